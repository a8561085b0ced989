import Derived.Test.YtfnicihkpnjahaaGreatDoorA4
import Derived.Lib.Bytealg
import Derived.Test.YtfnicihkpnjahaaGreatDoorChecked
import Derived.Shelf.Unicode.DecodeAny
import Derived.Lib.LaidU8T
import Derived.KernelRfl
import Derived.WalkKit
import Derived.Defers
import Derived.Laws.Pointers
import Derived.Laws.LoneSync
import Derived.RegionTactic
import Derived.RegionCalls
/-
  Part 5 of the tool: an abstract machine over the model, proved sound, and what it says of the functions that the law reaches. Condition: none but those that each theorem names.
-/
set_option linter.unusedVariables false
set_option linter.unusedSimpArgs false
set_option maxRecDepth 100000
set_option maxHeartbeats 4000000
namespace Go.Am
open Go.RowKit
section
attribute [local congr] au bc aM aw aL aE aA ah aj aF aG
variable{E:aT}(M:bk bK E)
structure sk (M:bk bK E):Prop where
 index:∀ (s:Str) (c:UInt8) (H:List AObj),M.run bp [.str s,.int .u8 c.toNat] H=some (.ret (.int .i64 (Lib.indexByte s c)),H)
 same:∀ (i o:Nat) (H:List AObj),M.run cI [.ptr i o] H=some (.ret (.ptr i o),H)
structure tb (E:aT):Prop where
 strings_Builder_WriteString:E.fn br=some du
 strings_Builder_WriteByte:E.fn bT=some dL
 strings_Builder_String:E.fn cC=some dj
 strings_Builder_Len:E.fn fP=some fY
 strings_Builder_copyCheck:E.fn bU=some cN
abbrev dB(s:Str):List (List AV):=s.map fun b=>[.int .u8 (b.toNat:Int)]
abbrev bTok(w:Str):AObj:=.tok w.length cD
abbrev dy(a:AV)(n:Nat)(w:Str)(T:TypeId):AObj:=.cells [a,.slice (.own n) 1 (dB w)] T
theorem B5(s:Str):lG 1 (dB s)=true:=by simp [lG,dB,AV.cell]
theorem sm:∀ s:Str,iU (dB s)=some s
 |[]=>rfl
 |c::s=>by
  have:=sm s;simp only [dB] at this ⊢;simp only [List.map_cons,iU,this,Option.map_some];congr 2;simp
theorem AU:∀ s:Str,pR (dB s)=true
 |[]=>rfl
 |c::s=>by
  have:=AU s;simp only [dB] at this ⊢;simp only [List.map_cons,pR,this,Bool.and_true,Bool.and_eq_true,decide_eq_true_eq];have:=c.toNat_lt;omega
theorem DW(w s:Str):dB (w++s)=dB w++(dB s).map (·.map AV.strip):=by
 simp only [dB,List.map_append,List.map_map];congr 1
theorem FN(H L:List AObj){w s:Str}(h:w.length+s.length≤140737488355328)(x:AV)(hx:∀ H,nB H 1 true x=some (dB s)) :
  rap false (H++(bTok w::L)) cD 1 1 true (.slice (.own H.length) 1 (dB w)) x=some (.slice (.own H.length) 1 (dB (w++s)),H++(bTok (w++s)::L)):=by
 have h1:(dB w).length=w.length:=by simp [dB]
 have h2:(dB s).length=s.length:=by simp [dB]
 have hc:(w.length+s.length)*1≤140737488355328∧w.length+s.length≤4611686018427387904∧lG 1 (dB s)=true:=⟨by omega,by omega,B5 s⟩
 rw [DW];cases s with
 |nil=>simp [rap,tO,hx,h1,dB,lG];simp at h;omega
 |cons c s=>
  simp only [rap,tO,hx,h1,h2,or_true,true_and,hc,if_true,and_self];simp only [dB,List.map_cons,aR,List.getElem?_cons_zero,hp_set0,List.set_cons_zero,Nat.mul_one,List.length_cons,List.length_map,and_self,if_true,List.length_append,bTok]
theorem HB(s:Str)(H:List AObj):nB H 1 true (.str s)=some (dB s):=by simp [nB]
theorem FO(H L:List AObj){w s:Str}(h:w.length+s.length≤140737488355328) :
  rap false (H++(bTok w::L)) cD 1 1 true (.slice (.own H.length) 1 (dB w)) (.str s)=some (.slice (.own H.length) 1 (dB (w++s)),H++(bTok (w++s)::L)):=FN H L h _ (HB s)
theorem JK(H L:List AObj)(w:Str)(hw:w.length≤9223372036854775807):Bn (H++(bTok w::L)) cD (.sdp H.length (dB w)) (.int .i64 (w.length:Int))=some (.str w):=by
 cases w with
 |nil=>simp [dB,Bn]
 |cons c w=>
  have h1:=sm (c::w);have h2:=AU (c::w);simp only [dB,List.map_cons] at h1 h2 ⊢;simp only [Bn,aR,List.getElem?_cons_zero,h1,h2];rw [if_pos];exact ⟨trivial,trivial,Nat.le_refl _,hw,trivial⟩
theorem JL(n:Nat)(w:Str):Ep (.slice (.own n) 1 (dB w))=some (.sdp n (dB w)):=by cases w<;>rfl
theorem sn{H L:List AObj}{n n':Nat}{T T' T1 T2:TypeId}{cs cs':List AV}(h:WkL (H.length+(L.length+1+1)) cs' cs'):dQ (H++(.tok n T :: .cells cs T1::L)) (H++(.tok n' T' :: .cells cs' T2::L)):=
 ⟨by simp,fun i x hi hx=>by
  rcases Nat.lt_trichotomy i H.length with hl | hl | hl
  ·left;rw [List.getElem?_append_left hl] at hx ⊢;exact hx
  ·subst hl;rw [aR] at hx;right
   obtain rfl:_=x:=by simpa using hx
   trivial
  ·obtain ⟨j,rfl⟩:∃ j,i=H.length+(j+1):=⟨i-H.length-1,by omega⟩
   rw [hp_getk] at hx ⊢;cases j with
   |zero=>
    right;obtain rfl:_=x:=by simpa using hx
    intro c hc;obtain ⟨k,hk⟩:=List.getElem?_of_mem hc;obtain ⟨y,h1,h2⟩:=h.get k c hk;rw [hk] at h1;cases h1;simpa [Nat.add_assoc] using h2
   |succ j=>left;simpa using hx⟩
theorem na(H L:List AObj)(x y:AObj):(H++(x::y::L)).take (H.length+(L.length+1+1))=H++(x::y::L):=List.take_of_length_le (by simp)
theorem FP(n:Nat)(w:Str):gE n (dB w):=by
 rw [rowsWk_map];exact fun _ _=>⟨wk_int _ _ _,trivial⟩
theorem FQ(H L:List AObj)(w:Str):WkL (H.length+(L.length+1+1)) [.ptr (H.length+1) 0,.slice (.own H.length) 1 (dB w)] [.ptr (H.length+1) 0,.slice (.own H.length) 1 (dB w)]:=
 ⟨wk_ptr (by omega),wk_slice (show H.length<_ by omega) (FP _ _),trivial⟩
theorem qU:(∀ (a:Env) (H:List AObj) (x:RX),rop a H (.usl x)=aZ H (Ep (rx a x)))∧(∀ (a:Env) (H:List AObj) (e:TypeId) (x n:RX),rop a H (.ust e x n)=aZ H (Bn H e (rx a x) (rx a n)))∧(∀ (a:Env) (H:List AObj) (x:RX),rop a H (.cvu x)=aZ H (Er H (rx a x)))∧(∀ (a:Env) (H:List AObj) (u:TypeId) (sz:Nat) (x:RX),rop a H (.cvf u sz x)=aZ H (Et H u sz (rx a x))) ∧
 (∀ (a:Env) (H:List AObj) (cs:List AV) (e:TypeId) (j:Nat) (T:TypeId),rop a H (.nwb cs e j T)=some (.ptr (H.length+1) 0,H++[.tok 0 T,.cells (cs.set j (.slice (.own H.length) 1 [])) e])):=
 ⟨fun _ _ _=>rfl,fun _ _ _ _ _=>rfl,fun _ _ _=>rfl,fun _ _ _ _ _=>rfl,fun _ _ _ _ _ _=>rfl⟩
theorem FR:req .ptr .nilp .nilp=some true:=rfl
theorem B6(i o:Nat):req .ptr (.ptr i o) .nilp=some false:=rfl
theorem FS(i o:Nat):req .ptr (.ptr i o) (.ptr i o)=some true:=by simp [req]
theorem JM(H L:List AObj)(x:AObj)(a b:AV)(T:TypeId):Er (H++(x :: .cells [a,b] T::L)) (.ptr (H.length+1) 0)=some (.ptr (H.length+1) 0):=by
 simp [Er,hp_getk]
theorem JN(H L:List AObj)(x:AObj)(a b:AV)(T:TypeId):Et (H++(x :: .cells [a,b] T::L)) T 2 (.ptr (H.length+1) 0)=some (.ptr (H.length+1) 0):=by
 simp [Et,hp_getk]
theorem wE(hB:tb E)(hX:sk M)(H L:List AObj)(w:Str) :
  M.run bU [.ptr (H.length+1) 0] (H++(bTok w::dy .nilp H.length w aq::L))=some (.ret (.tuple []),H++(bTok w::dy (.ptr (H.length+1) 0) H.length w aq::L)):=by
 rw [cq M hB.strings_Builder_copyCheck rfl (c:=bW) rfl,bW];have h1:=hX.same (H.length+1) 0;have hw:=FQ H L w;simp (maxSteps:=3000000) (maxDischargeDepth:=6) +contextual -implicitDefEqProofs only [amC M,↓amD,Nat.reduceBEq,Nat.reduceAdd,env,ao,gy,amG,AV.cell,Nat.reduceMul,Nat.reduceLeDiff,h1,qU,FR,rnc,JM,JN,sn hw,na,wk_tuple]
theorem wF(hB:tb E)(H L:List AObj)(w:Str)(T:TypeId) :
  M.run bU [.ptr (H.length+1) 0] (H++(bTok w::dy (.ptr (H.length+1) 0) H.length w T::L))=some (.ret (.tuple []),H++(bTok w::dy (.ptr (H.length+1) 0) H.length w T::L)):=by
 rw [cq M hB.strings_Builder_copyCheck rfl (c:=bW) rfl,bW];simp (maxSteps:=3000000) (maxDischargeDepth:=6) +contextual -implicitDefEqProofs only [amC M,↓amD,Nat.reduceBEq,Nat.reduceAdd,env,ao,gy,B6,FS,rnc,na,wk_tuple]
theorem td(hB:tb E)(hX:sk M)(H L:List AObj){w s:Str}{T:TypeId}(h:w.length+s.length≤140737488355328) :
  M.run br [.ptr (H.length+1) 0,.str s] (H++(bTok w::dy .nilp H.length w aq::L))=some (.ret (.tuple [.int .i64 s.length,.nilif]),H++(bTok (w++s)::dy (.ptr (H.length+1) 0) H.length (w++s) aq::L)):=by
 rw [cq M hB.strings_Builder_WriteString rfl (c:=bL) rfl,bL];have hw:=FQ H L (w++s);simp (maxSteps:=3000000) (maxDischargeDepth:=6) +contextual -implicitDefEqProofs only [amC M,↓amD,Nat.reduceBEq,Nat.reduceAdd,env,ao,fq,amG,AV.cell,Nat.reduceMul,Nat.reduceLeDiff,(wE M hB hX),rnc,FO _ _ h,sn hw,na,wk_tuple]
theorem te(hB:tb E)(hX:sk M)(H L:List AObj){w s:Str}{T:TypeId}(h:w.length+s.length≤140737488355328) :
  M.run br [.ptr (H.length+1) 0,.str s] (H++(bTok w::dy (.ptr (H.length+1) 0) H.length w T::L))=some (.ret (.tuple [.int .i64 s.length,.nilif]),H++(bTok (w++s)::dy (.ptr (H.length+1) 0) H.length (w++s) T::L)):=by
 rw [cq M hB.strings_Builder_WriteString rfl (c:=bL) rfl,bL];have hw:=FQ H L (w++s);simp (maxSteps:=3000000) (maxDischargeDepth:=6) +contextual -implicitDefEqProofs only [amC M,↓amD,Nat.reduceBEq,Nat.reduceAdd,env,ao,fq,amG,AV.cell,Nat.reduceMul,Nat.reduceLeDiff,(wF M hB),rnc,FO _ _ h,sn hw,na,wk_tuple]
theorem tK(hB:tb E)(H L:List AObj){w:Str}{a:AV}{T:TypeId}(hw:w.length≤9223372036854775807) :
  M.run cC [.ptr (H.length+1) 0] (H++(bTok w::dy a H.length w T::L))=some (.ret (.str w),H++(bTok w::dy a H.length w T::L)):=by
 rw [cq M hB.strings_Builder_String rfl (c:=eH) rfl,eH];simp (maxSteps:=3000000) (maxDischargeDepth:=6) +contextual -implicitDefEqProofs only [amC M,↓amD,Nat.reduceBEq,Nat.reduceAdd,env,ao,mG,qU,rnc,JL,JK H _ w hw,na]
theorem FT(hB:tb E)(H L:List AObj){w:Str}{a:AV}{T:TypeId} :
  M.run fP [.ptr (H.length+1) 0] (H++(bTok w::dy a H.length w T::L))=some (.ret (.int .i64 w.length),H++(bTok w::dy a H.length w T::L)):=by
 rw [cq M hB.strings_Builder_Len rfl (c:=fX) rfl,fX];simp (maxSteps:=3000000) (maxDischargeDepth:=6) +contextual -implicitDefEqProofs only [amC M,↓amD,Nat.reduceBEq,Nat.reduceAdd,env,ao,od,rnc,na]
end
section
attribute [local congr] au bc aM aw aL aE aA ah aj aF aG
variable{E:aT}(M:bk bK E)
structure so (E:aT):Prop where
 strings_IndexAny:E.fn lL=some di
 strings_IndexRune:E.fn eS=some eU
 strings_makeASCIISet:E.fn jB=some fu
 strings_asciiSet_contains:E.fn gv=some dN
 strings_shouldUseASCIISet:E.fn gu=some dM
 strings_IndexByte:E.fn eT=some eW
 internal_stringslite_IndexByte:E.fn bz=some bX
 strings_HasPrefix:E.fn eR=some iB
 internal_stringslite_HasPrefix:E.fn eA=some cX
 strings_HasSuffix:E.fn kU=some iC
 internal_stringslite_HasSuffix:E.fn eB=some cY
 strings_Contains:E.fn iY=some i7
 strings_Index:E.fn kC=some kH
 internal_stringslite_Index:E.fn fx=some dC
 unicode_utf8_ValidRune:E.fn eF=some dk
 docs_marked:E.fn kf=some mI
 docs_written:E.fn dU=some lR
 truchmanref01_written:E.fn fb=some cL
 docs_Read:E.fn mo=some px
 docs_Read_1:E.fn qA=some mF
def sq{α:Type}(p:α→Bool):Nat→List α→Int
 |_,[] => -1
 |i,x::l=>sel (p x) (i:Int) (sq p (i+1) l)
def nd(c:UInt8):Bool:=(c == 62)||(c == 125)
theorem wG(hS:so E)(hX:sk M)(s:Str)(c:UInt8)(H:List AObj):M.run bz [.str s,.int .u8 c.toNat] H=some (.ret (.int .i64 (Lib.indexByte s c)),H):=by
 rw [cq M hS.internal_stringslite_IndexByte rfl (c:=cZ) rfl,cZ];simp (maxSteps:=3000000) (maxDischargeDepth:=6) +contextual -implicitDefEqProofs only [amC M,↓amD,Nat.reduceBEq,Nat.reduceAdd,env,ao,jK,hX.index]
theorem qD(hS:so E)(hX:sk M)(s:Str)(c:UInt8)(H:List AObj):M.run eT [.str s,.int .u8 c.toNat] H=some (.ret (.int .i64 (Lib.indexByte s c)),H):=by
 have h1:=wG M hS hX s c H;rw [cq M hS.strings_IndexByte rfl (c:=iD) rfl,iD];simp (maxSteps:=3000000) (maxDischargeDepth:=6) +contextual -implicitDefEqProofs only [amC M,↓amD,Nat.reduceBEq,Nat.reduceAdd,env,ao,p7,h1]
def rI(r:Nat):Int:=sel (r == 62) 0 (sel (r == 125) 1 (-1))
theorem HC{r:Nat}(h:128≤r)(hr:r≤1114111)(hsur:¬ (55296≤r∧r≤57343)):(∃ a b:UInt8,(Utf8.encode (r:Int)).data.toList=[a,b]∧128≤b.toNat)∨(3≤(Utf8.encode (r:Int)).data.toList.length∧(Utf8.encode (r:Int)).data.toList.length≤4):=by
 by_cases c2:r<2048
 ·refine .inl ⟨_,_,Extern.FmtText.enc2 r (by omega) c2, ?_⟩
  simp;omega
 by_cases c3:r<65536
 ·rw [Extern.FmtText.enc3 r c2 c3 (by omega)];exact .inr ⟨by simp,by simp⟩
 ·rw [Extern.FmtText.enc4 r c3 hr];exact .inr ⟨by simp,by simp⟩
theorem xK(hS:so E)(hX:sk M){r:Nat}(hr:r≤1114111)(hsur:¬ (55296≤r∧r≤57343))(H:List AObj):M.run eS [.str [62,125],.int .i32 (r:Int)] H=some (.ret (.int .i64 (rI r)),H):=by
 by_cases h1:r<128
 ·have hb:((UInt8.ofNat r).toNat:Int)=(r:Int):=by simp;omega
  have h2:=qD M hS hX [62,125] (UInt8.ofNat r) H;rw [hb] at h2
  have hI:Lib.indexByte [62,125] (UInt8.ofNat r)=rI r:=by
   have:∀ n:Fin 128,Lib.indexByte [62,125] (UInt8.ofNat n.val)=rI n.val:=by decide
   exact this ⟨r,h1⟩
  rw [hI] at h2;have d1:decide ((0:Int)≤(r:Int))=true:=decide_eq_true (by omega);have d2:decide ((r:Int)<128)=true:=decide_eq_true (by omega)
  have hw:IntKind.u8.wrap (r:Int)=(r:Int):=by
   have:∀ n:Fin 128,IntKind.u8.wrap ((n.val:Nat):Int)=(n.val:Int):=by decide
   exact this ⟨r,h1⟩
  rw [cq M hS.strings_IndexRune rfl (c:=bE) rfl,bE];simp (maxSteps:=3000000) (maxDischargeDepth:=6) +contextual -implicitDefEqProofs only [amC M,↓amD,Nat.reduceBEq,Nat.reduceAdd,env,ao,eV,d1,d2,GH,hw,h2]
 ·have d1:decide ((0:Int)≤(r:Int))=true:=decide_eq_true (by omega)
  have d2:decide ((r:Int)<128)=false:=decide_eq_false (by omega)
  have hI:rI r = -1:=by
   have e1:(r == 62)=false:=by simp;omega
   have e2:(r == 125)=false:=by simp;omega
   rw [rI,e1,e2];rfl
  rw [hI]
  by_cases h3:r=65533
  ·subst h3
   rw [cq M hS.strings_IndexRune rfl (c:=bE) rfl,bE];have c0:Utf8.decode ⟨([62,125]:Str).toArray⟩ 0=(62,1):=by decide
   have c1:Utf8.decode ⟨([62,125]:Str).toArray⟩ 1=(125,1):=by decide
   have e3:(((65533:Nat):Int) == 65533)=true:=rfl;simp (maxSteps:=3000000) (maxDischargeDepth:=6) +contextual -implicitDefEqProofs only [amC M,↓amD,Nat.reduceBEq,Nat.reduceAdd,env,ao,eV,amG,AV.cell,Nat.reduceMul,Nat.reduceLeDiff,d1,d2,e3,aH M jV.eq_1,qp,rrg,aR,hp_set0,c0,c1,(show ((0:Nat)<2)=True by simp),(show ((1:Nat)<2)=True by simp),(show ((2:Nat)<2)=False by simp),(show (((62:Nat):Int) == 65533)=false from rfl),(show (((125:Nat):Int) == 65533)=false from rfl),ew,List.getElem?_cons_zero,List.getElem?_cons_succ,cut_app,hp_take]
  ·have e3:((r:Int) == 65533)=false:=by simp;omega
   have hv:∀ H,M.run eF [.int .i32 (r:Int)] H=some (.ret (.bool true),H):=fun H=>by
    rw [cq M hS.unicode_utf8_ValidRune rfl (c:=eK) rfl,eK]
    by_cases h5:r<55296
    ·have v2:decide ((r:Int)<55296)=true:=decide_eq_true (by omega)
     simp (maxSteps:=3000000) (maxDischargeDepth:=6) +contextual -implicitDefEqProofs only [amC M,↓amD,Nat.reduceBEq,Nat.reduceAdd,env,ao,iQ,d1,v2]
    ·have v2:decide ((r:Int)<55296)=false:=decide_eq_false (by omega)
     have v3:decide ((57343:Int)<(r:Int))=true:=decide_eq_true (by omega);have v4:decide ((r:Int)≤1114111)=true:=decide_eq_true (by omega);simp (maxSteps:=3000000) (maxDischargeDepth:=6) +contextual -implicitDefEqProofs only [amC M,↓amD,Nat.reduceBEq,Nat.reduceAdd,env,ao,iQ,d1,v2,v3,v4]
   rcases HC (r:=r) (by omega) hr hsur with ⟨a,b,he,hb⟩ | ⟨hl,hl4⟩
   ·have w1:IntKind.i64.wrap ((([a,b]:Str).length:Int)-1)=1:=rfl
    have n1:decide ((1:Int)<(([62,125]:Str).length:Int))=true:=rfl;have w2:IntKind.i64.wrap (1+1)=2:=rfl
    have hne:((125:UInt8).toNat == b.toNat)=false:=by
     have:(125:UInt8).toNat=125:=rfl
     rw [this,beq_eq_false_iff_ne];omega
    have hib:=qD M hS hX [] b H;have hs:yJ (.str [62,125]) (some (.int .i64 2)) none=some (.str []):=rfl;have hlt:decide ((-1:Int)<0)=true:=rfl;rw [cq M hS.strings_IndexRune rfl (c:=bE) rfl,bE];simp (maxSteps:=3000000) (maxDischargeDepth:=6) +contextual -implicitDefEqProofs only [amC M,↓amD,Nat.reduceBEq,Nat.reduceAdd,env,ao,eV,d1,d2,e3,hv,Eo,he,w1,w2,n1,hne,hs,hib,(show Lib.indexByte [] b = -1 from rfl),hlt,List.getElem?_cons_zero,List.getElem?_cons_succ,aH M gg.eq_1]
   ·obtain ⟨e,he⟩:∃ e,(Utf8.encode (r:Int)).data.toList=e:=⟨_,rfl⟩
    rw [he] at hl hl4;have w1:IntKind.i64.wrap ((e.length:Int)-1)=((e.length-1:Nat):Int):=by rw [ey (by omega) (by omega)];omega
    have n1:decide (e.length-1<([62,125]:Str).length)=false:=decide_eq_false (by simp;omega);rw [cq M hS.strings_IndexRune rfl (c:=bE) rfl,bE];simp (maxSteps:=3000000) (maxDischargeDepth:=6) +contextual -implicitDefEqProofs only [amC M,↓amD,Nat.reduceBEq,Nat.reduceAdd,env,ao,eV,d1,d2,e3,hv,Eo,he,w1,n1,aH M gg.eq_1]
end
section
attribute [local congr] au bc aM aw aL aE aA ah aj aF aG
variable{E:aT}(M:bk bK E)
theorem FU{c:UInt8}(h:128≤c.toNat):nd c=false:=by
 unfold nd;rw [Bool.or_eq_false_iff];constructor<;>(rw [beq_eq_false_iff_ne];rintro rfl;revert h;decide)
theorem CT{c:UInt8}{t:Str}(h:128≤c.toNat):128≤(b8 (c::t)).1∧(b8 (c::t)).1≤1114111∧¬ (55296≤(b8 (c::t)).1∧(b8 (c::t)).1≤57343)∧∀ j,j<(b8 (c::t)).2→128≤((c::t).getD j 0).toNat:=by
 have k0:=c.toNat_lt;have k1:=((c::t).getD 1 0).toNat_lt;have k2:=((c::t).getD 2 0).toNat_lt;have k3:=((c::t).getD 3 0).toNat_lt;have g0:(c::t).getD 0 0=c:=rfl;unfold b8;rw [Lib.decodeL_N,g0];rcases Lib.decodeN_shape (c::t).length c.toNat ((c::t).getD 1 0).toNat ((c::t).getD 2 0).toNat ((c::t).getD 3 0).toNat with ⟨c,e⟩ | ⟨c1,c2,c3,cv,e⟩ | ⟨c1,c2,c3,c4,cv,cs,e⟩ | ⟨c1,c2,c3,c4,c5,cv,cw,e⟩ | e
 ·omega
 ·rw [e]
  refine ⟨by dsimp only;omega,by dsimp only;omega,by dsimp only;omega,fun j hj => ?_⟩;dsimp only at hj;obtain rfl | rfl:j=0∨j=1:=by omega
  ·rw [g0];exact h
  ·omega
 ·rw [e]
  refine ⟨by dsimp only;omega,by dsimp only;omega,by dsimp only;omega,fun j hj => ?_⟩;dsimp only at hj;obtain rfl | rfl | rfl:j=0∨j=1∨j=2:=by omega
  ·rw [g0];exact h
  ·omega
  ·omega
 ·rw [e]
  refine ⟨by dsimp only;omega,by dsimp only;omega,by dsimp only;omega,fun j hj => ?_⟩;dsimp only at hj;obtain rfl | rfl | rfl | rfl:j=0∨j=1∨j=2∨j=3:=by omega
  ·rw [g0];exact h
  ·omega
  ·omega
  ·omega
 ·rw [e]
  refine ⟨by decide,by decide,by decide,fun j hj => ?_⟩;dsimp only at hj;obtain rfl:j=0:=by omega
  rw [g0];exact h
theorem CU{c:UInt8}{t:Str}(h:c.toNat<128):b8 (c::t)=(c.toNat,1):=by
 unfold b8;rw [Lib.decodeL_N];simp [Lib.decodeN,h]
theorem yo{p:UInt8→Bool}:∀ (w:Nat) (l:Str) (i:Nat),w≤l.length→(∀ j,j<w→p (l.getD j 0)=false)→sq p i l=sq p (i+w) (l.drop w)
 |0,l,i,_,_=>by simp
 |w+1,[],i,h,_=>by simp at h
 |w+1,c::t,i,h,hp=>by
  have h0:p c=false:=hp 0 (by omega);rw [sq,h0,List.drop_succ_cons,show i+(w+1)=i+1+w by omega];exact yo w t (i+1) (by simpa using h) fun j hj=>by simpa using hp (j+1) (by omega)
theorem FV{s:Str}(h:s≠[])(i:Nat):sq nd i s=sel (decide ((0:Int)≤rI (b8 s).1)) (i:Int) (sq nd (i+(b8 s).2) (s.drop (b8 s).2)):=by
 cases s with
 |nil=>exact absurd rfl h
 |cons c t=>
  by_cases hc:c.toNat<128
  ·rw [CU hc]
   have:decide ((0:Int)≤rI c.toNat)=nd c:=by
    have h2:∀ n:Fin 128,decide ((0:Int)≤rI n.val)=nd (UInt8.ofNat n.val):=by decide
    have:=h2 ⟨c.toNat,hc⟩;simpa using this
   rw [this];simp only [sq,List.drop_succ_cons,List.drop_zero]
  ·obtain ⟨h1,h2,h3,h4⟩:=CT (c:=c) (t:=t) (by omega)
   have hr:decide ((0:Int)≤rI (b8 (c::t)).1)=false:=by
    have e1:((b8 (c::t)).1 == 62)=false:=by simp;omega
    have e2:((b8 (c::t)).1 == 125)=false:=by simp;omega
    rw [rI,e1,e2];rfl
   rw [hr,sel_false];exact yo _ _ _ (zx h) fun j hj=>FU (h4 j hj)
theorem ia1(hS:so E)(hX:sk M){s:Str}(hs:s.length≤cf){H0:List AObj}(k:List Fra):∀ (n i:Nat) (He:List AObj),s.length-i≤n→i≤s.length →
  M.go di H0 (.c b4 :: .lp ⟨(some [1,45]),[],false⟩ b4 He :: .blk 2 :: .c (.lv [])::k) (kv [(1,.str [62,125]),(45,.ptr H0.length 0)]) (H0++[.siter s i]) =
   sel (decide ((0:Int)≤sq nd i (s.drop i))) (some (.ret (.int .i64 (sq nd i (s.drop i))),H0)) (M.go di H0 k .leaf (H0++[.siter s s.length]))
 |0,i,He,h,hi=>by
  obtain rfl:i=s.length:=by omega
  rw [List.drop_length];have e:decide ((0:Int)≤sq nd s.length [])=false:=rfl;rw [aH M b4.eq_1];simp (maxSteps:=3000000) (maxDischargeDepth:=6) +contextual -implicitDefEqProofs only [amC M,↓amD,Nat.reduceBEq,Nat.reduceAdd,env,ao,ft,qp,aR,List.getElem?_cons_zero,Nat.lt_irrefl,ew,e]
 |n+1,i,He,h,hi=>by
  by_cases hlt:i<s.length
  ·have hne:s.drop i≠[]:=fun e=>by have:=congrArg List.length e;simp at this;omega
   have hw:=wB (s.drop i);have hle:=zx hne;rw [List.length_drop] at hle;have ih:=fun He=>ia1 hS hX hs (H0:=H0) k n (i+(b8 (s.drop i)).2) He (by omega) (by omega)
   rw [← List.drop_drop] at ih;have hstep:=FV hne i
   have hru:(b8 (s.drop i)).1≤1114111∧¬ (55296≤(b8 (s.drop i)).1∧(b8 (s.drop i)).1≤57343):=by
    cases hd:s.drop i with
    |nil=>exact absurd hd hne
    |cons c t=>
     by_cases hc:c.toNat<128
     ·rw [CU hc];exact ⟨by dsimp only;omega,by dsimp only;omega⟩
     ·obtain ⟨_,h2,h3,_⟩:=CT (c:=c) (t:=t) (by omega)
      exact ⟨h2,h3⟩
   have hI:=fun H=>xK M hS hX hru.1 hru.2 H
   have hdd:Utf8.decode ⟨s.toArray⟩ i=b8 (s.drop i):=ym s i;simp only [kv_cons,kv_nil] at ih;generalize b8 (s.drop i)=d at *
   cases hpos:decide ((0:Int)≤rI d.1) with
   |true=>
    have hv:sq nd i (s.drop i)=(i:Int):=by rw [hstep,hpos];rfl
    have e0:decide ((0:Int)≤(i:Int))=true:=decide_eq_true (by omega);rw [hv,e0,sel_true];rw [aH M b4.eq_1];simp (maxSteps:=3000000) (maxDischargeDepth:=6) +contextual -implicitDefEqProofs only [amC M,↓amD,Nat.reduceBEq,Nat.reduceAdd,env,ao,ft,amG,AV.cell,Nat.reduceMul,Nat.reduceLeDiff,qp,aR,hp_set0,hlt,hdd,ew,List.getElem?_cons_succ,hI,hpos,cut_app,hp_take]
   |false=>
    have hv:sq nd i (s.drop i)=sq nd (i+d.2) ((s.drop i).drop d.2):=by rw [hstep,hpos];rfl
    rw [hv];rw [aH M b4.eq_1];simp (maxSteps:=3000000) (maxDischargeDepth:=6) +contextual -implicitDefEqProofs only [amC M,↓amD,Nat.reduceBEq,Nat.reduceAdd,env,ao,ft,amG,AV.cell,Nat.reduceMul,Nat.reduceLeDiff,qp,aR,hp_set0,hlt,hdd,ew,List.getElem?_cons_succ,hI,hpos,ih]
  ·obtain rfl:i=s.length:=by omega
   rw [List.drop_length];have e:decide ((0:Int)≤sq nd s.length [])=false:=rfl;rw [aH M b4.eq_1];simp (maxSteps:=3000000) (maxDischargeDepth:=6) +contextual -implicitDefEqProofs only [amC M,↓amD,Nat.reduceBEq,Nat.reduceAdd,env,ao,ft,qp,aR,List.getElem?_cons_zero,Nat.lt_irrefl,ew,e]
end
section
attribute [local congr] au bc aM aw aL aE aA ah aj aF aG
variable{E:aT}(M:bk bK E)
def qi(l:List Str):List AV:=l.map .str
def pK(b:Nat)(G:List AObj)(v:AV)(st:List Str):Prop:=
 (st=[]∧v = .slice .nil 1 [])∨∃ (id:Nat) (junk:List AV),b≤id∧v = .rslice id 0 st.length 1 true∧G[id]?=some (.cells (qi st.reverse++junk) aI)
theorem nf(l:List Str):(qi l).length=l.length:=by simp [qi]
theorem wH(l m:List Str):qi (l++m)=qi l++qi m:=by simp [qi]
theorem ka(s:Str):lG 1 [[.str s]]=true:=rfl
theorem FW{b:Nat}{G:List AObj}{v:AV}{st:List Str}(h:pK b G v st)(hb:b≤G.length)(hl:st.length≤1000000)(s:Str) :
  ∃ v' G',rap true G aI 1 16 false v (.slice .full 1 [[.str s]])=some (v',G')∧pK b G' v' (s::st)∧G.length≤G'.length∧∀ i,i<b→G'[i]?=G[i]? := by
 rcases h with ⟨rfl,rfl⟩ | ⟨id,junk,hid,rfl,hg⟩
 ·refine ⟨.rslice G.length 0 1 1 true,G++[.cells [.str s] aI], ?_,.inr ⟨G.length,[],hb,rfl,by rw [aR];rfl⟩,by simp,fun i hi=>List.getElem?_append_left (by omega)⟩
  simp only [rap,lH,nB,or_true,if_true,ka];rw [if_pos (by simp)];rfl
 ·have hlt:=gp hg
  have hlen:st.length*1≤(qi st.reverse++junk).length:=by rw [List.length_append,nf,List.length_reverse];omega
  refine ⟨.rslice G.length 0 (st.length+1) 1 true,G.set id .dead++[.cells (qi (s::st).reverse) aI], ?_,.inr ⟨G.length,[],hb,rfl, ?_⟩,by simp,fun i hi => ?_⟩
  ·simp only [rap,lH,nB,or_true,if_true,ka,hg]
   rw [if_pos ⟨trivial,trivial,hlen,by simp;omega,by simp;omega⟩];simp only [Nat.mul_one];rw [List.take_left' (by rw [nf,List.length_reverse]),List.reverse_cons,wH];rfl
  ·rw [List.append_nil,show G.length=(G.set id .dead).length by simp,aR];rfl
  ·rw [List.getElem?_append_left (by simp;omega),List.getElem?_set_ne (by omega)]
theorem pW{b:Nat}{G:List AObj}{v:AV}{st:List Str}(h:pK b G v st)(H:List AObj):nA H .sl v=some (.int .i64 (st.length:Int)):=by
 rcases h with ⟨rfl,rfl⟩ | ⟨id,junk,hid,rfl,hg⟩<;>rfl
theorem CV{b:Nat}{G:List AObj}{v:AV}{x:Str}{st:List Str}(h:pK b G v (x::st)) :
  (∃ p o cs,n5 1 v (.int .i64 (st.length:Int))=some (.ptr p o)∧b≤p∧G[p]?=some (.cells cs aI)∧b9 none cs o=some (.str x))∧∃ v',Bm 1 v none (some (.int .i64 (st.length:Int))) none=some v'∧pK b G v' st:=by
 rcases h with ⟨h,_⟩ | ⟨id,junk,hid,rfl,hg⟩
 ·cases h
 have e:qi (x::st).reverse++junk=qi st.reverse++(.str x::junk):=by rw [List.reverse_cons,wH,List.append_assoc];rfl
 have hl:(qi st.reverse).length=st.length:=by rw [nf,List.length_reverse]
 refine ⟨⟨id,0+st.length*1,_, ?_,hid,hg, ?_⟩,.rslice id 0 st.length 1 true, ?_,.inr ⟨id,.str x::junk,hid,rfl,by rw [hg,e]⟩⟩
 ·simp only [n5]
  rw [if_pos ⟨trivial,by omega,by simp;omega⟩];simp
 ·simp only [b9,e,Nat.zero_add,Nat.mul_one]
  rw [List.getElem?_append_right (by omega),hl,Nat.sub_self];rfl
 ·have h1:cE (some (.int .i64 (st.length:Int))) (x::st).length=some st.length:=by simp [cE]
  simp only [Bm,h1,(show cE none 0=some 0 from rfl)];cases st with
  |nil=>rfl
  |cons y t=>rw [if_pos (by simp)];simp
theorem pK.stay{b:Nat}{G G':List AObj}{v:AV}{st:List Str}(h:pK b G v st)(hs:∀ i,b≤i→i<G.length→G'[i]?=G[i]?):pK b G' v st:=by
 rcases h with ⟨rfl,rfl⟩ | ⟨id,junk,hid,rfl,hg⟩
 ·exact .inl ⟨rfl,rfl⟩
 ·exact .inr ⟨id,junk,hid,rfl,by rw [hs id hid (gp hg)];exact hg⟩
theorem FX(hB:nS E){b p:Nat}{G:List AObj}{v:AV}{T:TypeId}{st:List Str}(hp:G[p]?=some (.cells [v] T))(hpb:p<b)(hb:b≤G.length)(h:pK b G v st)(hl:st.length≤1000000)(s:Str) :
  ∃ v' G',M.run eE [.ptr p 0,.str s] G=some (.ret (.tuple []),G')∧G'[p]?=some (.cells [v'] T)∧pK b G' v' (s::st)∧But b p G G':=by
 obtain ⟨v',G1,h1,h2,h3,h4⟩:=FW h hb hl s;have hp1:G1[p]?=some (.cells [v] T):=by rw [h4 p hpb];exact hp
 have hlt:=gp hp1;refine ⟨v',G1.set p (.cells [v'] T), ?_,List.getElem?_set_self hlt,h2.stay fun i hi _=>by rw [List.getElem?_set_ne (by omega)],by simpa using h3,fun i hi hne=>by rw [List.getElem?_set_ne (by omega)];exact h4 i hi⟩;rw [cq M hB.docs_stack_string_push rfl (c:=eI) rfl,eI]
 have hcell:v'.cell=true:=by
  rcases h2 with ⟨h,_⟩ | ⟨id,_,_,rfl,_⟩
  ·cases h
  ·rfl
 have hac:bR v'=some [v']:=by
  rcases h2 with ⟨h,_⟩ | ⟨id,_,_,rfl,_⟩
  ·cases h
  ·rfl
 have l0:∀ x:AV,b9 none [x] 0=some x:=fun _=>rfl
 have s0:∀ x y:AV,bj [x] 0 [y]=[y]:=fun _ _=>rfl
 have hst:stO 1 G1 p 0 [v'] (some (.cells [v] T))=some (G1.set p (.cells [v'] T)):=by
  simp only [stO];rw [if_pos ⟨rfl,by simp,by simp [hcell]⟩];rfl
 simp (maxSteps:=3000000) (maxDischargeDepth:=6) +contextual -implicitDefEqProofs only [amC M,↓amD,Nat.reduceBEq,Nat.reduceAdd,env,ao,mK,amG,AV.cell,Nat.reduceMul,Nat.reduceLeDiff,rnc,hp,l0,s0,h1,hp1,hac,hst,(show ∀ H,o1 (some H)=some (dm,H) from fun _=>rfl)]
def sr(st:List Str)(s:Str):Bool:=match st with
 |[]=>false
 |x::_=>x == s
theorem HD(hB:nS E){b p:Nat}{G:List AObj}{v:AV}{T:TypeId}{st:List Str}(hp:G[p]?=some (.cells [v] T))(hpb:p<b)(hb:b≤G.length)(h:pK b G v st)(hl:st.length≤1000000)(s:Str) :
  ∃ v' G',M.run eY [.ptr p 0,.str s] G=some (.ret (.bool (sr st s)),G')∧G'[p]?=some (.cells [v'] T)∧pK b G' v' (if sr st s=true then st.tail else st)∧G'.length=G.length∧∀ i,i≠p→G'[i]?=G[i]? := by
 have hlt:=gp hp;have l0:∀ x:AV,b9 none [x] 0=some x:=fun _=>rfl
 have s0:∀ x y:AV,bj [x] 0 [y]=[y]:=fun _ _=>rfl
 have hlen:=pW h;cases st with
 |nil=>
  refine ⟨v,G, ?_,hp,h,rfl,fun _ _=>rfl⟩;rw [cq M hB.docs_stack_string_pop rfl (c:=bI) rfl,bI];have hlen0:∀ H,nA H .sl v=some (.int .i64 0):=hlen;simp (maxSteps:=3000000) (maxDischargeDepth:=6) +contextual -implicitDefEqProofs only [amC M,↓amD,Nat.reduceBEq,Nat.reduceAdd,env,ao,fe,rnc,hp,l0,hlen0,sr,beq_self_eq_true,cut_refl,hp_self]
 |cons x st=>
  obtain ⟨⟨q,o,cs,t1,t2,t3,t3'⟩,v',t4,t5⟩:=CV h
  have hw:IntKind.i64.wrap ((((x::st).length:Nat):Int)-1)=(st.length:Int):=by
   simp only [List.length_cons] at hl ⊢;rw [ey (by omega) (by omega)];omega
  have h0:((((x::st).length:Nat):Int) == 0)=false:=by simp;omega
  have hw2:IntKind.i64.wrap (((st.length+1:Nat):Int)-1)=(st.length:Int):=hw;have h02:(((st.length+1:Nat):Int) == 0)=false:=h0;cases hx:x == s with
  |false=>
   refine ⟨v,G, ?_,hp,by rw [sr,hx];exact h,rfl,fun _ _=>rfl⟩;rw [cq M hB.docs_stack_string_pop rfl (c:=bI) rfl,bI];simp (maxSteps:=3000000) (maxDischargeDepth:=6) +contextual -implicitDefEqProofs only [amC M,↓amD,Nat.reduceBEq,Nat.reduceAdd,env,ao,fe,rnc,hp,l0,hlen,sr,hw,h0,hw2,h02,t1,t3,t3',hx,cut_refl,hp_self]
  |true=>
   refine ⟨v',G.set p (.cells [v'] T), ?_,List.getElem?_set_self hlt,by rw [sr,hx];exact t5.stay fun i hi _=>by rw [List.getElem?_set_ne (by omega)],by simp,fun i hne=>by rw [List.getElem?_set_ne (by omega)]⟩
   have hcell:v'.cell=true∧bR v'=some [v']∧Wk G.length v' v':=by
    rcases t5 with ⟨_,rfl⟩ | ⟨id,_,_,rfl,hg⟩
    ·exact ⟨rfl,rfl,wk_slice trivial (vN _)⟩
    ·exact ⟨rfl,rfl,wk_rslice (gp hg)⟩
   have hwk:Ah G.length (.cells [v'] T):=by
    intro c hc;simp at hc;subst hc;exact hcell.2.2
   rw [cq M hB.docs_stack_string_pop rfl (c:=bI) rfl,bI]
   have hst:stO 1 G p 0 [v'] (some (.cells [v] T))=some (G.set p (.cells [v'] T)):=by
    simp only [stO];rw [if_pos ⟨rfl,by simp,by simp [hcell.1]⟩];rfl
   simp (maxSteps:=3000000) (maxDischargeDepth:=6) +contextual -implicitDefEqProofs only [amC M,↓amD,Nat.reduceBEq,Nat.reduceAdd,env,ao,fe,amG,AV.cell,Nat.reduceMul,Nat.reduceLeDiff,rnc,hp,l0,s0,hlen,sr,hw,h0,hw2,h02,t1,t3,t3',t4,hx,hst,(show ∀ H,o1 (some H)=some (dm,H) from fun _=>rfl),hcell.2.1,AT hwk];rw [List.take_of_length_le (by simp)]
end
section
attribute [local congr] au bc aM aw aL aE aA ah aj aF aG
variable{E:aT}(M:bk bK E)
def oH(x:ae):Bool:=decide (x.kind<1)||decide (5<x.kind)
def B7(x:ae):Bool:=x.car && !(x.kind == 2) && !(x.kind == 3)
def AW(p:Bool)(x:ae):Bool:=(x.kind == 1)&&((x.text == []) || !qC x.text||p)
def B8(x:ae):Bool := !(x.kind == 1) && !sj x.text
def stP(x:ae)(st:List Str):List Str:=if (x.kind == 3)=true then st.tail else st
def uK:List ae→Bool→Bool→Bool→List Str→Int
 |[],_,_,_,st=>sel (decide ((0:Int)<(st.length:Int))) 9 0
 |x :: l,p,b,e,st=>sel (oH x) 1 (sel (B7 x) 1 (sel (AW p x) 4 (sel (B8 x) 5 (sel (lW b e x) (sel ((x.kind == 3) && !sr st x.text) 9
    (sel (x.kind == 2) (sel (decide ((16:Int)<((x.text::stP x st).length:Int))) 3 (uK l (x.kind == 1) (b || !cF x) (e||bN x) (x.text::stP x st)))
     (uK l (x.kind == 1) (b || !cF x) (e||bN x) (stP x st)))) 8))))
def dP:ae:=⟨0,[],false⟩
def mw(l:List ae)(i:Nat):Bool:=decide ((0:Int)<(i:Int))&&((l.getD (i-1) dP).kind == 1)
theorem wI{l:List ae}{i:Nat}{x:ae}(h:l[i]?=some x):mw l (i+1)=(x.kind == 1):=by
 have h1:decide ((0:Int)<((i+1:Nat):Int))=true:=decide_eq_true (by omega);simp [mw,h1,List.getD,h]
theorem wJ(l:List ae):mw l 0=false:=rfl
abbrev AX(l:List ae):Prop:=∀ x∈l,x.text.length≤70368744177664
theorem ckl(hB:nS E)(hX:B1 M){l:List ae}{tg:Tag}(hl:l.length≤1000000)(ht:AX l){H0:List AObj}{bd p c:Nat}(hp0:H0.length≤p)(hc0:H0.length≤c)(hpb:p<bd)(hcb:c<bd)(hpc:p≠c){k:List Fra}
  (hk:∀ (G:List AObj) (v:AV) (st:List Str),G[p]?=some (.cells [v] dH)→pK bd G v st→Pre H0 G→M.go dh H0 k (kv [(3,.ptr p 0)]) G=some (.ret (.int .u8 (sel (decide ((0:Int)<(st.length:Int))) 9 0)),H0)) :
  ∀ (n i:Nat) (G He:List AObj) (v:AV) (st:List Str) (b e:Bool),i+n=l.length→Pre H0 G→bd≤G.length→G[p]?=some (.cells [v] dH)→G[c]?=some (.cells [.bool b,.bool e] bH)→pK bd G v st→st.length≤16 →
  M.go dh H0 (.c aU :: .lp ⟨(some [0,3,4,10,11,12]),[],false⟩ aU He :: .blk 0 :: .c (.lv [3])::k) (kv [(0,.slice tg 3 (l.map ae.row)),(3,.ptr p 0),(4,.ptr c 0),(10,.slice tg 3 (l.map ae.row)),(11,.int .i64 l.length),(12,.int .i64 i)]) G =
   some (.ret (.int .u8 (uK (l.drop i) (mw l i) b e st)),H0):=by
 intro n;induction n with
 |zero=>
  intro i G He v st b e h hP hb hgp hgc hst h16;obtain rfl:i=l.length:=by omega
  rw [List.drop_length,uK];have hk1:=hk G v st hgp hst hP;simp only [kv_cons,kv_nil] at hk1;rw [aH M aU.eq_1];simp (maxSteps:=3000000) (maxDischargeDepth:=6) +contextual -implicitDefEqProofs only [amC M,↓amD,Nat.reduceBEq,Nat.reduceAdd,env,ao,aY,Nat.lt_irrefl,hk1]
 |succ n IH=>
  intro i G He v st b e h hP hb hgp hgc hst h16;have hi:i<l.length:=by omega
  have hx:l[i]?=some l[i]:=List.getElem?_eq_getElem hi;have hd:l.drop i=l[i]::l.drop (i+1):=List.drop_eq_getElem_cons hi;have htx:=ht _ (List.getElem_mem hi);have hsu:=wI hx;rw [hd];generalize l[i]=x at *
  have htm:x.text.length≤cf:=by simp only [cf];omega
  have hws:=iX hi (show l.length≤cf by simp only [cf];omega);have hw1:decide ((0:Int)<(i:Int))=true→IntKind.i64.wrap ((i:Int)-1)=((i-1:Nat):Int):=fun h0=>CI (by have:=of_decide_eq_true h0;omega) (by simp only [cf];omega)
  have hi1:i-1<l.length:=by omega
  have hx1:l[i-1]?=some (l.getD (i-1) dP):=by rw [List.getD,List.getElem?_eq_getElem hi1];rfl
  have hia:∀ k:IntKind,n5 3 (.slice tg 3 (l.map ae.row)) (.int k ((i-1:Nat):Int))=some (.vptr 3 (l.map ae.row) (i-1) 0):=fun k=>bD hi1
  have hT:=fun H=>B3 M hB hX htm H
  have hN:=fun H=>B4 M hB htm H
  have hct:∀ L,dQ H0 (G++L):=fun L=>(hP.app L).cut
  have htk:∀ L,(G++L).take H0.length=H0:=fun L=>(hP.app L).take
  have hgx:∀ T,(G++[AObj.cells x.row T])[G.length]?=some (.cells x.row T):=fun T=>by rw [aR];rfl
  rw [uK];cases ha:oH x with
  |true=>
   have ha':(decide (x.kind<1)||decide (5<x.kind))=true:=ha;rw [aH M aU.eq_1];simp (maxSteps:=3000000) (maxDischargeDepth:=6) +contextual -implicitDefEqProofs only [amC M,↓amD,Nat.reduceBEq,Nat.reduceAdd,env,ao,aY,amG,AV.cell,Nat.reduceMul,Nat.reduceLeDiff,hi,hx,bD hi,bg,aR,ha',hct,htk]
  |false=>
   have ha':(decide (x.kind<1)||decide (5<x.kind))=false:=ha;simp only [sel_false];cases hc:B7 x with
   |true=>
    have hc':(x.car && !(x.kind == 2) && !(x.kind == 3))=true:=hc;rw [aH M aU.eq_1];simp (maxSteps:=3000000) (maxDischargeDepth:=6) +contextual -implicitDefEqProofs only [amC M,↓amD,Nat.reduceBEq,Nat.reduceAdd,env,ao,aY,amG,AV.cell,Nat.reduceMul,Nat.reduceLeDiff,hi,hx,bD hi,bg,aR,ha',hc',hct,htk]
   |false=>
    have hc':(x.car && !(x.kind == 2) && !(x.kind == 3))=false:=hc;simp only [sel_false];cases hf:AW (mw l i) x with
    |true=>
     have hf':((x.kind == 1)&&((x.text == []) || !qC x.text||(decide ((0:Int)<(i:Int))&&((l.getD (i-1) dP).kind == 1))))=true:=hf;rw [aH M aU.eq_1];simp (maxSteps:=3000000) (maxDischargeDepth:=6) +contextual -implicitDefEqProofs only [amC M,↓amD,Nat.reduceBEq,Nat.reduceAdd,env,ao,aY,amG,AV.cell,Nat.reduceMul,Nat.reduceLeDiff,hi,hx,bD hi,bg,aR,ha',hc',hf',hT,hw1,hia,hx1,hct,htk]
    |false=>
     have hf':((x.kind == 1)&&((x.text == []) || !qC x.text||(decide ((0:Int)<(i:Int))&&((l.getD (i-1) dP).kind == 1))))=false:=hf;simp only [sel_false];cases hn:B8 x with
     |true=>
      have hn':(!(x.kind == 1) && !sj x.text)=true:=hn;rw [aH M aU.eq_1];simp (maxSteps:=3000000) (maxDischargeDepth:=6) +contextual -implicitDefEqProofs only [amC M,↓amD,Nat.reduceBEq,Nat.reduceAdd,env,ao,aY,amG,AV.cell,Nat.reduceMul,Nat.reduceLeDiff,hi,hx,bD hi,bg,aR,ha',hc',hf',hT,hw1,hia,hx1,hct,htk,hn',hN]
     |false=>
      have hn':(!(x.kind == 1) && !sj x.text)=false:=hn;simp only [sel_false];have hcl:=gp hgc;have htak:=DV M hB (c:=c) (b:=b) (e:=e) (T:=bH) (G:=G++[.cells x.row aa]) (ir hgc) x;cases htb:lW b e x with
      |false=>
       simp only [htb,Bool.false_eq_true,if_false] at htak;rw [aH M aU.eq_1];simp (maxSteps:=3000000) (maxDischargeDepth:=6) +contextual -implicitDefEqProofs only [amC M,↓amD,Nat.reduceBEq,Nat.reduceAdd,env,ao,aY,amG,AV.cell,Nat.reduceMul,Nat.reduceLeDiff,hi,hx,bD hi,bg,aR,ha',hc',hf',hT,hw1,hia,hx1,hct,htk,hn',hN,htak]
      |true=>
       simp only [htb,if_true] at htak;simp only [sel_true];have hcl2:c<(G++[AObj.cells x.row aa]).length:=by simp;omega
       have hne:c≠G.length:=by omega
       have q1:((G++[AObj.cells x.row aa]).set c (.cells [.bool (b || !cF x),.bool (e||bN x)] bH))[p]?=some (.cells [v] dH):=by
        rw [List.getElem?_set_ne (by omega)];exact ir hgp
       have q2:((G++[AObj.cells x.row aa]).set c (.cells [.bool (b || !cF x),.bool (e||bN x)] bH))[c]?=some (.cells [.bool (b || !cF x),.bool (e||bN x)] bH):=List.getElem?_set_self hcl2
       have q3:((G++[AObj.cells x.row aa]).set c (.cells [.bool (b || !cF x),.bool (e||bN x)] bH))[G.length]?=some (.cells x.row aa):=by
        rw [List.getElem?_set_ne hne,aR];rfl
       have q4:Pre H0 ((G++[AObj.cells x.row aa]).set c (.cells [.bool (b || !cF x),.bool (e||bN x)] bH)):=(hP.app _).set hc0 _
       have q5:pK bd ((G++[AObj.cells x.row aa]).set c (.cells [.bool (b || !cF x),.bool (e||bN x)] bH)) v st:=hst.stay fun j hj hj2=>by
        rw [List.getElem?_set_ne (by omega),List.getElem?_append_left hj2]
       have q6:bd≤((G++[AObj.cells x.row aa]).set c (.cells [.bool (b || !cF x),.bool (e||bN x)] bH)).length:=by simp;omega
       have q7:p≠G.length:=by have:=gp hgp;omega
       generalize (G++[AObj.cells x.row aa]).set c (.cells [.bool (b || !cF x),.bool (e||bN x)] bH)=G2 at htak q1 q2 q3 q4 q5 q6;have hct2:=q4.cut;have htk2:=q4.take;cases h3:x.kind == 3 with
       |true=>
        have h2:(x.kind == 2)=false:=by
         have:x.kind=3:=by simpa using h3
         rw [this];rfl
        obtain ⟨v3,G3,p1,p2,p3,p4,p5⟩:=HD M hB q1 hpb q6 q5 (by omega) x.text;cases hpo:sr st x.text with
        |false=>
         rw [hpo] at p1;have hP3:Pre H0 G3:=⟨by rw [p4];exact q4.1,fun j hj=>by rw [p5 j (by omega)];exact q4.2 j hj⟩
         have c3:=hP3.cut;have t3:=hP3.take;rw [aH M aU.eq_1];simp (maxSteps:=3000000) (maxDischargeDepth:=6) +contextual -implicitDefEqProofs only [amC M,↓amD,Nat.reduceBEq,Nat.reduceAdd,env,ao,aY,amG,AV.cell,Nat.reduceMul,Nat.reduceLeDiff,hi,hx,bD hi,bg,aR,ha',hc',hf',hT,hw1,hia,hx1,hct,htk,hn',hN,htak,q3,h3,p1,c3,t3]
        |true=>
         rw [hpo] at p1;simp only [hpo,if_true] at p3;have hP3:Pre H0 G3:=⟨by rw [p4];exact q4.1,fun j hj=>by rw [p5 j (by omega)];exact q4.2 j hj⟩
         have g3:G3[G.length]?=some (.cells x.row aa):=by rw [p5 _ (by omega)];exact q3
         have hstp:stP x st=st.tail:=if_pos h3;have ih:=fun He=>IH (i+1) G3 He v3 st.tail (b || !cF x) (e||bN x) (by omega) hP3 (by omega) p2 (by rw [p5 c (by omega)];exact q2) p3 (by simp;omega)
         rw [hsu] at ih;simp only [kv_cons,kv_nil] at ih;rw [aH M aU.eq_1];simp (maxSteps:=3000000) (maxDischargeDepth:=6) +contextual -implicitDefEqProofs only [amC M,↓amD,Nat.reduceBEq,Nat.reduceAdd,env,ao,aY,amG,AV.cell,Nat.reduceMul,Nat.reduceLeDiff,hi,hx,bD hi,bg,aR,ha',hc',hf',hT,hw1,hia,hx1,hct,htk,hn',hN,htak,q3,h3,h2,p1,g3,hstp,hws,ih]
       |false=>
        have hstp:stP x st=st:=if_neg (by rw [h3];simp);cases h2:x.kind == 2 with
        |false=>
         have hc2:x.car=false:=by rw [h2,h3] at hc';simpa using hc'
         have ih:=fun He=>IH (i+1) G2 He v st (b || !cF x) (e||bN x) (by omega) q4 q6 q1 q2 q5 h16
         rw [hsu] at ih;simp only [kv_cons,kv_nil] at ih;rw [aH M aU.eq_1];simp (maxSteps:=3000000) (maxDischargeDepth:=6) +contextual -implicitDefEqProofs only [amC M,↓amD,Nat.reduceBEq,Nat.reduceAdd,env,ao,aY,amG,AV.cell,Nat.reduceMul,Nat.reduceLeDiff,hi,hx,bD hi,bg,aR,ha',hc',hf',hT,hw1,hia,hx1,hct,htk,hn',hN,htak,q3,h3,h2,hc2,hstp,hws,ih]
        |true=>
         obtain ⟨v3,G3,p1,p2,p3,p4⟩:=FX M hB q1 hpb q6 q5 (by omega) x.text;have hP3:Pre H0 G3:=p4.pre q4 (by omega) hp0;have c3:=hP3.cut;have t3:=hP3.take;have hlen:=pW p3;have l0:∀ x:AV,b9 none [x] 0=some x:=fun _=>rfl
         have hlen2:∀ H,nA H .sl v3=some (.int .i64 ((st.length+1:Nat):Int)):=hlen;cases hgt:decide ((16:Int)<((x.text::stP x st).length:Int)) with
         |true=>
          have hgt2:decide ((16:Int)<((st.length+1:Nat):Int))=true:=by rw [← hgt,hstp];rfl
          rw [aH M aU.eq_1];simp (maxSteps:=3000000) (maxDischargeDepth:=6) +contextual -implicitDefEqProofs only [amC M,↓amD,Nat.reduceBEq,Nat.reduceAdd,env,ao,aY,amG,AV.cell,Nat.reduceMul,Nat.reduceLeDiff,hi,hx,bD hi,bg,aR,ha',hc',hf',hT,hw1,hia,hx1,hct,htk,hn',hN,htak,q3,h3,h2,p1,p2,l0,hlen2,hgt2,c3,t3]
         |false=>
          have hgt2:decide ((16:Int)<((st.length+1:Nat):Int))=false:=by rw [← hgt,hstp];rfl
          have hle:(x.text::st).length≤16:=by have:=of_decide_eq_false hgt2;simp only [List.length_cons];omega
          have ih:=fun He=>IH (i+1) G3 He v3 (x.text::st) (b || !cF x) (e||bN x) (by omega) hP3 (by have:=p4.1;omega) p2 (by rw [p4.2 c hcb (by omega)];exact q2) p3 hle
          rw [hsu] at ih;simp only [kv_cons,kv_nil] at ih;rw [aH M aU.eq_1];simp (maxSteps:=3000000) (maxDischargeDepth:=6) +contextual -implicitDefEqProofs only [amC M,↓amD,Nat.reduceBEq,Nat.reduceAdd,env,ao,aY,amG,AV.cell,Nat.reduceMul,Nat.reduceLeDiff,hi,hx,bD hi,bg,aR,ha',hc',hf',hT,hw1,hia,hx1,hct,htk,hn',hN,htak,q3,h3,h2,p1,p2,l0,hlen2,hgt2,hstp,hws,ih]
def jP(l:List ae):Int:=sel (decide ((512:Int)<(l.length:Int))) 3 (uK l false false false [])
theorem n0(hB:nS E)(hX:B1 M){l:Sl ae}(hl:l.l.length≤1000000)(ht:AX l.l)(H:List AObj) :
  M.run bn [.slice l.tag 3 (l.l.map ae.row)] H=some (.ret (.int .u8 (jP l.l)),H):=by
 rw [cq M hB.docs_CheckPieces rfl (c:=i6) rfl,i6];cases h5:decide ((512:Int)<(l.l.length:Int)) with
 |true=>simp (maxSteps:=3000000) (maxDischargeDepth:=6) +contextual -implicitDefEqProofs only [amC M,↓amD,Nat.reduceBEq,Nat.reduceAdd,env,ao,aY,h5,jP]
 |false=>
  have hlp:=fun k hk He=>ckl M hB hX (tg:=l.tag) hl ht (H0:=H) (bd:=H.length+2) (p:=H.length) (c:=H.length+1) (Nat.le_refl _) (by omega) (by omega) (by omega) (by omega) (k:=k) hk l.l.length 0 (H++[.cells [.slice .nil 1 []] dH,.cells [.bool false,.bool false] bH]) He (.slice .nil 1 []) [] false false (by omega) ((Pre.refl H).app _) (by simp) (by rw [aR];rfl) (by rw [hp_getk];rfl) (.inl ⟨rfl,rfl⟩) (by simp)
  simp only [kv_cons,kv_nil,Int.ofNat_zero,List.drop_zero,wJ] at hlp;have l0:∀ x:AV,b9 none [x] 0=some x:=fun _=>rfl
  simp (maxSteps:=3000000) (maxDischargeDepth:=6) +contextual -implicitDefEqProofs only [amC M,↓amD,Nat.reduceBEq,Nat.reduceAdd,env,ao,aY,h5,jP];refine hlp _ (fun G v st hg hs hP => ?_) _;have hlen:=pW hs;have hct:=hP.cut;have htk:=hP.take;simp (maxSteps:=3000000) (maxDischargeDepth:=6) +contextual -implicitDefEqProofs only [amC M,↓amD,Nat.reduceBEq,Nat.reduceAdd,env,ao,aY,hg,l0,hlen,hct,htk]
end
section
attribute [local congr] au bc aM aw aL aE aA ah aj aF aG
variable{E:aT}(M:bk bK E)
theorem I2{α:Type}(b p:Bool)(x y:α):slc b y (slc p y x)=slc (b||p) y x:=by cases b<;>rfl
def kR(p:Bool)(x:ae):Int:=sel (oH x) 1 (sel (B7 x) 1 (sel (AW p x) 4 (sel (B8 x) 5 0)))
theorem DX(hB:nS E){l:List ae}{tg:Tag}(hl:l.length≤1000000)(ht:AX l){i:Nat}{x:ae}(hx:l[i]?=some x)(H:List AObj) :
  M.run fQ [.slice tg 3 (l.map ae.row),.int .i64 i] H=some (.ret (.int .u8 (kR (mw l i) x)),H):=by
 have hi:i<l.length:=(List.getElem?_eq_some_iff.1 hx).1;have htx:=ht _ (List.mem_of_getElem? hx);have htm:x.text.length≤cf:=by simp only [cf];omega
 have hw1:decide ((0:Int)<(i:Int))=true→IntKind.i64.wrap ((i:Int)-1)=((i-1:Nat):Int):=fun h0=>CI (by have:=of_decide_eq_true h0;omega) (by simp only [cf];omega)
 have hi1:i-1<l.length:=by omega
 have hx1:l[i-1]?=some (l.getD (i-1) dP):=by rw [List.getD,List.getElem?_eq_getElem hi1];rfl
 have hia:∀ k:IntKind,n5 3 (.slice tg 3 (l.map ae.row)) (.int k ((i-1:Nat):Int))=some (.vptr 3 (l.map ae.row) (i-1) 0):=fun k=>bD hi1
 have hT:=fun H=>FI M hB htx H
 have hN:=fun H=>FJ M hB htm H
 rw [cq M hB.truchmanref01_alone rfl (c:=fZ) rfl,fZ];simp (maxSteps:=3000000) (maxDischargeDepth:=6) +contextual -implicitDefEqProofs only [amC M,↓amD,Nat.reduceBEq,Nat.reduceAdd,env,ao,oe,amG,AV.cell,Nat.reduceMul,Nat.reduceLeDiff,hi,hx,bD hi,bg,aR,hT,hN,hw1,hia,hx1,cut_app,hp_take,kR,oH,B7,AW,B8,mw]
def cw(x y:ae):Bool:=cF x && !cF y||bN y && !bN x
theorem JO{l:List ae}{tg:Tag}(hl:l.length≤1000000){i:Nat}{x:ae}(hx:l[i]?=some x){H H0:List AObj}(hc:dQ H0 H)(k:List Fra):∀ (n j:Nat) (He:List AObj),j+n=i →
  M.go cK H0 (.c ct :: .lp ⟨(some [0,1,5]),[],false⟩ ct He :: .blk 0 :: .c (.lv [])::k) (kv [(0,.slice tg 3 (l.map ae.row)),(1,.int .i64 i),(5,.int .i64 j)]) H =
   sel (((l.take i).drop j).any (cw x)) (some (.ret (.int .u8 8),H.take H0.length)) (M.go cK H0 k .leaf H)
 |0,j,He,h=>by
  obtain rfl:j=i:=by omega
  have e:(l.take j).drop j=[]:=List.drop_of_length_le (by simp;omega);rw [aH M ct.eq_1];simp (maxSteps:=3000000) (maxDischargeDepth:=6) +contextual -implicitDefEqProofs only [amC M,↓amD,Nat.reduceBEq,Nat.reduceAdd,env,ao,fg,Nat.lt_irrefl,e,List.any_nil]
 |n+1,j,He,h=>by
  have hi:i<l.length:=(List.getElem?_eq_some_iff.1 hx).1;have hki:j<i:=by omega
  have hkl:j<l.length:=by omega
  have hy:l[j]?=some l[j]:=List.getElem?_eq_getElem hkl
  have hd:(l.take i).drop j=l[j]::(l.take i).drop (j+1):=by
   rw [List.drop_eq_getElem_cons (by simp;omega),List.getElem_take]
  have ih:=fun He=>JO (tg:=tg) hl hx hc k n (j+1) He (by omega)
  have hws:IntKind.i64.wrap ((j:Int)+1)=((j+1:Nat):Int):=iX hkl (show l.length≤cf by simp only [cf];omega);rw [hd,List.any_cons];generalize l[j]=y at hy;have e1:(y.car&&(y.kind == 2))=cF y:=Bool.and_comm _ _;have e2:(y.car&&(y.kind == 3))=bN y:=Bool.and_comm _ _;have e3:(x.car&&(x.kind == 2))=cF x:=Bool.and_comm _ _;have e4:(x.car&&(x.kind == 3))=bN x:=Bool.and_comm _ _;simp only [kv_cons,kv_nil] at ih
  rw [aH M ct.eq_1];simp (maxSteps:=3000000) (maxDischargeDepth:=6) +contextual -implicitDefEqProofs only [amC M,↓amD,Nat.reduceBEq,Nat.reduceAdd,env,ao,fg,hki,hx,hy,hi,hkl,bD hi,bD hkl,bg,hws,e1,e2,e3,e4,ih,hc,cw,I2,Bool.or_assoc]
def AY(l:List ae)(i:Nat):Bool:=(l.take i).any fun y => !cF y
def AZ(l:List ae)(i:Nat):Bool:=(l.take i).any bN
theorem FY(x:ae):∀ l:List ae,l.any (cw x)=(cF x&&(l.any fun y => !cF y)||l.any bN && !bN x)
 |[]=>by simp
 |y::l=>by
  simp only [List.any_cons,FY x l,cw];cases cF x<;>cases cF y<;>cases bN y<;>cases bN x<;>simp
theorem A1(hB:nS E){l:List ae}{tg:Tag}(hl:l.length≤1000000){i:Nat}{x:ae}(hx:l[i]?=some x)(H:List AObj) :
  M.run eZ [.slice tg 3 (l.map ae.row),.int .i64 i] H=some (.ret (.int .u8 (sel (lW (AY l i) (AZ l i) x) 0 8)),H):=by
 rw [cq M hB.truchmanref01_carried rfl (c:=ff) rfl,ff];have hlp:=fun k He=>JO M (tg:=tg) hl hx (cut_refl H) k i 0 He (by omega)
 simp only [kv_cons,kv_nil,Int.ofNat_zero,List.drop_zero,FY] at hlp;have e:lW (AY l i) (AZ l i) x = !(cF x&&((l.take i).any fun y => !cF y)||(l.take i).any bN && !bN x):=rfl;rw [e];simp (maxSteps:=3000000) (maxDischargeDepth:=6) +contextual -implicitDefEqProofs only [amC M,↓amD,Nat.reduceBEq,Nat.reduceAdd,env,ao,fg,hlp]
theorem DY{l:List ae}{i:Nat}{x:ae}(h:l[i]?=some x):AY l (i+1)=(AY l i || !cF x):=by
 unfold AY;rw [List.take_add_one,h,List.any_append];simp
theorem DZ{l:List ae}{i:Nat}{x:ae}(h:l[i]?=some x):AZ l (i+1)=(AZ l i||bN x):=by
 unfold AZ;rw [List.take_add_one,h,List.any_append];simp
theorem Ka(hB:nS E){l:List ae}{tg:Tag}(hl:l.length≤1000000)(ht:AX l){H0:List AObj}{k:List Fra}
  (hk:∀ (G:List AObj) (v:AV) (st:List Str),pK H0.length G v st→Pre H0 G→M.go bV H0 k (kv [(3,v)]) G=some (.ret (.int .u8 (sel (decide ((0:Int)<(st.length:Int))) 9 0)),H0)) :
  ∀ (n i:Nat) (G He:List AObj) (v:AV) (st:List Str),i+n=l.length→Pre H0 G→pK H0.length G v st→st.length≤16 →
  M.go bV H0 (.c aC :: .lp ⟨(some [0,3,4]),[],false⟩ aC He :: .blk 0 :: .c (.lv [3])::k) (kv [(0,.slice tg 3 (l.map ae.row)),(3,v),(4,.int .i64 i)]) G =
   some (.ret (.int .u8 (uK (l.drop i) (mw l i) (AY l i) (AZ l i) st)),H0):=by
 intro n;induction n with
 |zero=>
  intro i G He v st h hP hst h16;obtain rfl:i=l.length:=by omega
  rw [List.drop_length,uK];have hk1:=hk G v st hst hP;simp only [kv_cons,kv_nil] at hk1;rw [aH M aC.eq_1];simp (maxSteps:=3000000) (maxDischargeDepth:=6) +contextual -implicitDefEqProofs only [amC M,↓amD,Nat.reduceBEq,Nat.reduceAdd,env,ao,aD,Nat.lt_irrefl,hk1]
 |succ n IH=>
  intro i G He v st h hP hst h16;have hi:i<l.length:=by omega
  have hx:l[i]?=some l[i]:=List.getElem?_eq_getElem hi;have hd:l.drop i=l[i]::l.drop (i+1):=List.drop_eq_getElem_cons hi;have hsu:=wI hx;have hbs:=DY hx;have hes:=DZ hx;rw [hd];generalize l[i]=x at *
  have hws:=iX hi (show l.length≤cf by simp only [cf];omega);have hA:=fun H=>DX M hB (tg:=tg) hl ht hx H
  have hC:=fun H=>A1 M hB (tg:=tg) hl hx H
  have hct:=hP.cut;have htk:=hP.take;have hlen:=pW hst;rw [uK];cases ha:oH x with
  |true=>
   have e:kR (mw l i) x=1:=by rw [kR,ha];rfl
   rw [aH M aC.eq_1];simp (maxSteps:=3000000) (maxDischargeDepth:=6) +contextual -implicitDefEqProofs only [amC M,↓amD,Nat.reduceBEq,Nat.reduceAdd,env,ao,aD,hi,hx,hA,e,hct,htk,(show ((1:Int) == 0)=false from rfl)]
  |false=>
  simp only [sel_false];cases hca:B7 x with
  |true=>
   have e:kR (mw l i) x=1:=by rw [kR,ha,hca];rfl
   rw [aH M aC.eq_1];simp (maxSteps:=3000000) (maxDischargeDepth:=6) +contextual -implicitDefEqProofs only [amC M,↓amD,Nat.reduceBEq,Nat.reduceAdd,env,ao,aD,hi,hx,hA,e,hct,htk,(show ((1:Int) == 0)=false from rfl)]
  |false=>
  simp only [sel_false];cases hf:AW (mw l i) x with
  |true=>
   have e:kR (mw l i) x=4:=by rw [kR,ha,hca,hf];rfl
   rw [aH M aC.eq_1];simp (maxSteps:=3000000) (maxDischargeDepth:=6) +contextual -implicitDefEqProofs only [amC M,↓amD,Nat.reduceBEq,Nat.reduceAdd,env,ao,aD,hi,hx,hA,e,hct,htk,(show ((4:Int) == 0)=false from rfl)]
  |false=>
  simp only [sel_false];cases hn:B8 x with
  |true=>
   have e:kR (mw l i) x=5:=by rw [kR,ha,hca,hf,hn];rfl
   rw [aH M aC.eq_1];simp (maxSteps:=3000000) (maxDischargeDepth:=6) +contextual -implicitDefEqProofs only [amC M,↓amD,Nat.reduceBEq,Nat.reduceAdd,env,ao,aD,hi,hx,hA,e,hct,htk,(show ((5:Int) == 0)=false from rfl)]
  |false=>
  simp only [sel_false];have e:kR (mw l i) x=0:=by rw [kR,ha,hca,hf,hn];rfl
  cases htb:lW (AY l i) (AZ l i) x with
  |false=>
   rw [htb] at hC;rw [aH M aC.eq_1];simp (maxSteps:=3000000) (maxDischargeDepth:=6) +contextual -implicitDefEqProofs only [amC M,↓amD,Nat.reduceBEq,Nat.reduceAdd,env,ao,aD,hi,hx,hA,hC,e,hct,htk,beq_self_eq_true,(show ((8:Int) == 0)=false from rfl)]
  |true=>
  rw [htb] at hC;simp only [sel_true,sel_false] at hC ⊢;cases h3:x.kind == 3 with
  |true=>
   have h2:(x.kind == 2)=false:=by
    have:x.kind=3:=by simpa using h3
    rw [this];rfl
   cases st with
   |nil=>
    have hlen0:∀ H,nA H .sl v=some (.int .i64 0):=hlen;rw [aH M aC.eq_1];simp (maxSteps:=3000000) (maxDischargeDepth:=6) +contextual -implicitDefEqProofs only [amC M,↓amD,Nat.reduceBEq,Nat.reduceAdd,env,ao,aD,hi,hx,bD hi,bg,hA,hC,e,h3,hlen0,sr,hct,htk,beq_self_eq_true]
   |cons y st=>
    obtain ⟨⟨q,o,cs,t1,t2,t3,t3'⟩,v',t4,t5⟩:=CV hst
    have hw:IntKind.i64.wrap ((((y::st).length:Nat):Int)-1)=(st.length:Int):=by
     simp only [List.length_cons] at h16 ⊢;rw [ey (by omega) (by omega)];omega
    have h0:((((y::st).length:Nat):Int) == 0)=false:=by simp;omega
    cases hy:y == x.text with
    |false=>
     rw [aH M aC.eq_1];simp (maxSteps:=3000000) (maxDischargeDepth:=6) +contextual -implicitDefEqProofs only [amC M,↓amD,Nat.reduceBEq,Nat.reduceAdd,env,ao,aD,hi,hx,bD hi,bg,hA,hC,e,h3,hlen,h0,hw,t1,t3,t3',hy,sr,hct,htk,beq_self_eq_true]
    |true=>
     have hstp:stP x (y::st)=st:=if_pos h3;have ih:=fun He=>IH (i+1) G He v' st (by omega) hP t5 (by simp at h16;omega)
     rw [hsu,hbs,hes] at ih;simp only [kv_cons,kv_nil] at ih;rw [aH M aC.eq_1];simp (maxSteps:=3000000) (maxDischargeDepth:=6) +contextual -implicitDefEqProofs only [amC M,↓amD,Nat.reduceBEq,Nat.reduceAdd,env,ao,aD,hi,hx,bD hi,bg,hA,hC,e,h3,h2,hlen,h0,hw,t1,t3,t3',t4,hy,sr,hstp,hws,ih,beq_self_eq_true]
  |false=>
   have hstp:stP x st=st:=if_neg (by rw [h3];simp);cases h2:x.kind == 2 with
   |false=>
    have ih:=fun He=>IH (i+1) G He v st (by omega) hP hst h16
    rw [hsu,hbs,hes] at ih;simp only [kv_cons,kv_nil] at ih;rw [aH M aC.eq_1];simp (maxSteps:=3000000) (maxDischargeDepth:=6) +contextual -implicitDefEqProofs only [amC M,↓amD,Nat.reduceBEq,Nat.reduceAdd,env,ao,aD,hi,hx,bD hi,bg,hA,hC,e,h3,h2,hstp,hws,ih,beq_self_eq_true]
   |true=>
    obtain ⟨v3,G3,p1,p2,p3,p4⟩:=FW hst hP.1 (by omega) x.text;have hP3:Pre H0 G3:=⟨Nat.le_trans hP.1 p3,fun j hj=>by rw [p4 j hj];exact hP.2 j hj⟩
    have c3:=hP3.cut;have tk3:=hP3.take;have hlen3:∀ H,nA H .sl v3=some (.int .i64 ((st.length+1:Nat):Int)):=pW p2;cases hgt:decide ((16:Int)<((x.text::stP x st).length:Int)) with
    |true=>
     have hgt2:decide ((16:Int)<((st.length+1:Nat):Int))=true:=by rw [← hgt,hstp];rfl
     rw [aH M aC.eq_1];simp (maxSteps:=3000000) (maxDischargeDepth:=6) +contextual -implicitDefEqProofs only [amC M,↓amD,Nat.reduceBEq,Nat.reduceAdd,env,ao,aD,amG,AV.cell,Nat.reduceMul,Nat.reduceLeDiff,hi,hx,bD hi,bg,hA,hC,e,h3,h2,p1,hlen3,hgt2,c3,tk3,beq_self_eq_true]
    |false=>
     have hgt2:decide ((16:Int)<((st.length+1:Nat):Int))=false:=by rw [← hgt,hstp];rfl
     have hle:(x.text::st).length≤16:=by have:=of_decide_eq_false hgt2;simp only [List.length_cons];omega
     have ih:=fun He=>IH (i+1) G3 He v3 (x.text::st) (by omega) hP3 p2 hle
     rw [hsu,hbs,hes] at ih;simp only [kv_cons,kv_nil] at ih;rw [aH M aC.eq_1];simp (maxSteps:=3000000) (maxDischargeDepth:=6) +contextual -implicitDefEqProofs only [amC M,↓amD,Nat.reduceBEq,Nat.reduceAdd,env,ao,aD,amG,AV.cell,Nat.reduceMul,Nat.reduceLeDiff,hi,hx,bD hi,bg,hA,hC,e,h3,h2,p1,hlen3,hgt2,hstp,hws,ih,beq_self_eq_true]
theorem ng(hB:nS E){l:Sl ae}(hl:l.l.length≤1000000)(ht:AX l.l)(H:List AObj) :
  M.run cM [.slice l.tag 3 (l.l.map ae.row)] H=some (.ret (.int .u8 (jP l.l)),H):=by
 rw [cq M hB.truchmanref01_CheckPieces rfl (c:=dK) rfl,dK];cases h5:decide ((512:Int)<(l.l.length:Int)) with
 |true=>simp (maxSteps:=3000000) (maxDischargeDepth:=6) +contextual -implicitDefEqProofs only [amC M,↓amD,Nat.reduceBEq,Nat.reduceAdd,env,ao,aD,h5,jP]
 |false=>
  have hlp:=fun k hk He=>Ka M hB (tg:=l.tag) hl ht (H0:=H) (k:=k) hk l.l.length 0 H He (.slice .nil 1 []) [] (by omega) (Pre.refl H) (.inl ⟨rfl,rfl⟩) (by simp)
  simp only [kv_cons,kv_nil,Int.ofNat_zero,List.drop_zero,wJ,(show AY l.l 0=false from rfl),(show AZ l.l 0=false from rfl)] at hlp;simp (maxSteps:=3000000) (maxDischargeDepth:=6) +contextual -implicitDefEqProofs only [amC M,↓amD,Nat.reduceBEq,Nat.reduceAdd,env,ao,aD,h5,jP];refine hlp _ (fun G v st hs hP => ?_) _;have hlen:=pW hs;have hct:=hP.cut;have htk:=hP.take;simp (maxSteps:=3000000) (maxDischargeDepth:=6) +contextual -implicitDefEqProofs only [amC M,↓amD,Nat.reduceBEq,Nat.reduceAdd,env,ao,aD,hlen,hct,htk]
end
section
attribute [local congr] au bc aM aw aL aE aA ah aj aF aG
variable{E:aT}(M:bk bK E)
theorem bb{s t:Str}(h:s.length+t.length<9223372036854775808):a8 .add s t=some (.str (s++t)):=if_pos h
theorem CW{α:Type}{row:α→List AV}{l:List α}{x:α}{r:List AV}{sz bytes:Nat}{e:TypeId}(H L:List AObj)(h1:r.length=sz)(h2:r.all AV.cell=true)(h3:r.map AV.strip=row x)
  (hl:(l.length+1)*bytes≤140737488355328) (hl2:l.length+1≤4611686018427387904) :
  rap false (H++(.tok (l.length*sz) e::L)) e sz bytes false (.slice (.own H.length) sz (l.map row)) (.slice .full sz [r])=some (.slice (.own H.length) sz ((l++[x]).map row),H++(.tok ((l++[x]).length*sz) e::L)):=by
 simp only [rap,tO,nB,List.length_map,List.length_cons,List.length_nil,Nat.zero_add,or_true,if_true,hl,hl2,vS h1 h2,and_true,true_and,aR,List.getElem?_cons_zero,hp_set0,List.set_cons_zero,List.map_cons,List.map_nil,h3,List.map_append,List.length_append,Nat.add_mul,Nat.one_mul];rw [Nat.add_mul,Nat.one_mul] at hl;rw [if_pos hl]
theorem I3(n:Nat)(l:List ae):gE n (l.map ae.row):=by
 rw [rowsWk_map];exact fun _ _=>⟨wk_int _ _ _,wk_str _ _,wk_bool _ _,trivial⟩
end
section
attribute [local congr] au bc aM aw aL aE aA ah aj aF aG
variable{E:aT}(M:bk bK E)
def jf(x:ae):Str:=sel x.car [43] []
def dF(s:Str):Str:=(s.map fun c=>if ((c == 92)||(c == 60)||(c == 123))=true then [92,c] else [c]).flatten
def wrF(x:ae):Str:=sel (x.kind == 2) ([60]++jf x++x.text++[62]) (sel (x.kind == 3) ([60,47]++jf x++x.text++[62]) (sel (x.kind == 4) ([60]++x.text++[47,62]) (sel (x.kind == 5) ([123]++x.text++[125]) (dF x.text))))
def HE(x:ae):Bool:=(x.kind == 2)||(x.kind == 3)||(x.kind == 4)||(x.kind == 5)
theorem A2(hS:so E){x:ae}(hx:HE x=true)(hl:x.text.length≤140737488351232)(H:List AObj):M.run dU [.agg x.row] H=some (.ret (.str (wrF x)),H):=by
 have hkind:x.kind=2∨x.kind=3∨x.kind=4∨x.kind=5:=by simpa [HE,or_assoc] using hx
 rw [cq M hS.docs_written rfl (c:=gP) rfl,gP];rcases hkind with e | e | e | e
 ·cases hc:x.car with
  |true=>
   have F1:a8 .add ([60]) [43]=some (.str (60::[43])):=bb (by simp);have F2:a8 .add ([60,43]) x.text=some (.str (60::43::x.text)):=bb (by simp;omega);have F3:a8 .add (60::43::x.text) [62]=some (.str (60::43::(x.text++[62]))):=bb (by simp;omega);simp (maxSteps:=3000000) (maxDischargeDepth:=6) +contextual -implicitDefEqProofs only [amC M,↓amD,Nat.reduceBEq,Nat.reduceAdd,env,ao,cT,amG,AV.cell,Nat.reduceMul,Nat.reduceLeDiff,bg,aR,e,hc,(show ((2:Int) == 2)=true from rfl),(show ((2:Int) == 3)=false from rfl),(show ((2:Int) == 4)=false from rfl),(show ((2:Int) == 5)=false from rfl),F1,F2,F3,wrF,jf,cut_app,hp_take]
  |false=>
   have F1:a8 .add ([60]) []=some (.str (60::[])):=bb (by simp);have F2:a8 .add ([60]) x.text=some (.str (60::x.text)):=bb (by simp;omega);have F3:a8 .add (60::x.text) [62]=some (.str (60::(x.text++[62]))):=bb (by simp;omega);simp (maxSteps:=3000000) (maxDischargeDepth:=6) +contextual -implicitDefEqProofs only [amC M,↓amD,Nat.reduceBEq,Nat.reduceAdd,env,ao,cT,amG,AV.cell,Nat.reduceMul,Nat.reduceLeDiff,bg,aR,e,hc,(show ((2:Int) == 2)=true from rfl),(show ((2:Int) == 3)=false from rfl),(show ((2:Int) == 4)=false from rfl),(show ((2:Int) == 5)=false from rfl),F1,F2,F3,wrF,jf,cut_app,hp_take]
 ·cases hc:x.car with
  |true=>
   have F1:a8 .add ([60,47]) [43]=some (.str (60::47::[43])):=bb (by simp);have F2:a8 .add ([60,47,43]) x.text=some (.str (60::47::43::x.text)):=bb (by simp;omega);have F3:a8 .add (60::47::43::x.text) [62]=some (.str (60::47::43::(x.text++[62]))):=bb (by simp;omega);simp (maxSteps:=3000000) (maxDischargeDepth:=6) +contextual -implicitDefEqProofs only [amC M,↓amD,Nat.reduceBEq,Nat.reduceAdd,env,ao,cT,amG,AV.cell,Nat.reduceMul,Nat.reduceLeDiff,bg,aR,e,hc,(show ((3:Int) == 2)=false from rfl),(show ((3:Int) == 3)=true from rfl),(show ((3:Int) == 4)=false from rfl),(show ((3:Int) == 5)=false from rfl),F1,F2,F3,wrF,jf,cut_app,hp_take]
  |false=>
   have F1:a8 .add ([60,47]) []=some (.str (60::47::[])):=bb (by simp);have F2:a8 .add ([60,47]) x.text=some (.str (60::47::x.text)):=bb (by simp;omega);have F3:a8 .add (60::47::x.text) [62]=some (.str (60::47::(x.text++[62]))):=bb (by simp;omega);simp (maxSteps:=3000000) (maxDischargeDepth:=6) +contextual -implicitDefEqProofs only [amC M,↓amD,Nat.reduceBEq,Nat.reduceAdd,env,ao,cT,amG,AV.cell,Nat.reduceMul,Nat.reduceLeDiff,bg,aR,e,hc,(show ((3:Int) == 2)=false from rfl),(show ((3:Int) == 3)=true from rfl),(show ((3:Int) == 4)=false from rfl),(show ((3:Int) == 5)=false from rfl),F1,F2,F3,wrF,jf,cut_app,hp_take]
 ·cases hc:x.car with
  |true=>
   have F2:a8 .add ([60]) x.text=some (.str (60::x.text)):=bb (by simp;omega);have F3:a8 .add (60::x.text) [47,62]=some (.str (60::(x.text++[47,62]))):=bb (by simp;omega);simp (maxSteps:=3000000) (maxDischargeDepth:=6) +contextual -implicitDefEqProofs only [amC M,↓amD,Nat.reduceBEq,Nat.reduceAdd,env,ao,cT,amG,AV.cell,Nat.reduceMul,Nat.reduceLeDiff,bg,aR,e,hc,(show ((4:Int) == 2)=false from rfl),(show ((4:Int) == 3)=false from rfl),(show ((4:Int) == 4)=true from rfl),(show ((4:Int) == 5)=false from rfl),F2,F3,wrF,jf,cut_app,hp_take]
  |false=>
   have F2:a8 .add ([60]) x.text=some (.str (60::x.text)):=bb (by simp;omega);have F3:a8 .add (60::x.text) [47,62]=some (.str (60::(x.text++[47,62]))):=bb (by simp;omega);simp (maxSteps:=3000000) (maxDischargeDepth:=6) +contextual -implicitDefEqProofs only [amC M,↓amD,Nat.reduceBEq,Nat.reduceAdd,env,ao,cT,amG,AV.cell,Nat.reduceMul,Nat.reduceLeDiff,bg,aR,e,hc,(show ((4:Int) == 2)=false from rfl),(show ((4:Int) == 3)=false from rfl),(show ((4:Int) == 4)=true from rfl),(show ((4:Int) == 5)=false from rfl),F2,F3,wrF,jf,cut_app,hp_take]
 ·cases hc:x.car with
  |true=>
   have F2:a8 .add ([123]) x.text=some (.str (123::x.text)):=bb (by simp;omega);have F3:a8 .add (123::x.text) [125]=some (.str (123::(x.text++[125]))):=bb (by simp;omega);simp (maxSteps:=3000000) (maxDischargeDepth:=6) +contextual -implicitDefEqProofs only [amC M,↓amD,Nat.reduceBEq,Nat.reduceAdd,env,ao,cT,amG,AV.cell,Nat.reduceMul,Nat.reduceLeDiff,bg,aR,e,hc,(show ((5:Int) == 2)=false from rfl),(show ((5:Int) == 3)=false from rfl),(show ((5:Int) == 4)=false from rfl),(show ((5:Int) == 5)=true from rfl),F2,F3,wrF,jf,cut_app,hp_take]
  |false=>
   have F2:a8 .add ([123]) x.text=some (.str (123::x.text)):=bb (by simp;omega);have F3:a8 .add (123::x.text) [125]=some (.str (123::(x.text++[125]))):=bb (by simp;omega);simp (maxSteps:=3000000) (maxDischargeDepth:=6) +contextual -implicitDefEqProofs only [amC M,↓amD,Nat.reduceBEq,Nat.reduceAdd,env,ao,cT,amG,AV.cell,Nat.reduceMul,Nat.reduceLeDiff,bg,aR,e,hc,(show ((5:Int) == 2)=false from rfl),(show ((5:Int) == 3)=false from rfl),(show ((5:Int) == 4)=false from rfl),(show ((5:Int) == 5)=true from rfl),F2,F3,wrF,jf,cut_app,hp_take]
end
section
attribute [local congr] au bc aM aw aL aE aA ah aj aF aG
variable{E:aT}(M:bk bK E)
structure xL (M:bk bK E):Prop where
 count:∀ (s:Str) (c:UInt8) (H:List AObj),M.run bG [.str s,.int .u8 c.toNat] H=some (.ret (.int .i64 (Lib.countByte s c:Nat)),H)
structure wK (E:aT):Prop where
 strings_Count:E.fn kE=some kL
 strings_NewReplacer:E.fn ed=some gd
 strings_Replacer_Replace:E.fn cQ=some ea
 strings_byteStringReplacer_Replace:E.fn bh=some ak
theorem A3(hR:wK E)(hX:xL M)(s:Str)(c:UInt8)(H:List AObj):M.run kE [.str s,.str [c]] H=some (.ret (.int .i64 (Lib.countByte s c:Nat)),H):=by
 rw [cq M hR.strings_Count rfl (c:=kK) rfl,kK];have e0:((([c]:Str).length:Int) == 0)=false:=rfl;have e1:((([c]:Str).length:Int) == 1)=true:=rfl;have e2:yI (.str [c]) (.int .i64 0)=some (.int .u8 (c.toNat:Int)):=rfl;have h2:=fun H=>hX.count s c H
 simp (maxSteps:=3000000) (maxDischargeDepth:=6) +contextual -implicitDefEqProofs only [amC M,↓amD,Nat.reduceBEq,Nat.reduceAdd,env,ao,ua,e0,e1,e2,h2,List.getElem?_cons_zero,rV]
def iy(c:UInt8):Bool:=(c == 92)||(c == 60)||(c == 123)
def JP(b:UInt8):List AV:=[.int .u8 (b.toNat:Int)]
def pL(c:UInt8):AV:=.slice .any 1 (([92,c]:Str).map JP)
def wL(c:UInt8):AV:=sel (iy c) (pL c) (.slice .nil 1 [])
def rj:List AV:=(List.range 256).map fun i=>wL (UInt8.ofNat i)
theorem wM:rj.length=256:=by simp [rj]
theorem B9(c:UInt8)(t:List AV):b9 none (rj++t) c.toNat=some (wL c):=by
 have h:=c.toNat_lt;simp only [b9];rw [List.getElem?_append_left (by rw [wM];omega)];unfold rj;rw [List.getElem?_map,List.getElem?_range (by omega),Option.map_some,UInt8.ofNat_toNat]
theorem HF(v:AV):b9 none (rj++[v]) 256=some v:=by
 simp only [b9];rw [List.getElem?_append_right (by rw [wM];omega),wM];rfl
theorem FZ(q:Nat)(c:UInt8):vi 256 1 (.ptr q 0) (.int .u8 (c.toNat:Int))=some (.ptr q c.toNat):=by
 have h:=c.toNat_lt;simp only [vi];rw [if_pos ⟨by omega,by omega⟩];simp
theorem CX(c:UInt8):req .sl (wL c) (.slice .nil 0 [])=some (!iy c):=by
 unfold wL;cases iy c<;>rfl
theorem nT(c:UInt8)(t:Str):dF (c::t)=(if iy c=true then [92,c] else [c])++dF t:=rfl
theorem A4(a b:Str):dF (a++b)=dF a++dF b:=by simp [dF]
def spc(s:Str):Nat:=s.countP iy
theorem ss:∀ s:Str,(dF s).length=s.length+spc s
 |[]=>rfl
 |c::t=>by
  rw [nT,List.length_append,ss t,List.length_cons,spc,spc,List.countP_cons];cases iy c<;>simp<;>omega
theorem zy:∀ {s:Str},s.any iy=false→dF s=s
 |[],_=>rfl
 |c::t,h=>by
  rw [List.any_cons,Bool.or_eq_false_iff] at h;rw [nT,h.1,zy h.2];rfl
theorem zA:∀ s:Str,spc s=Lib.countByte s 123+Lib.countByte s 60+Lib.countByte s 92
 |[]=>rfl
 |c::t=>by
  have ih:=zA t;unfold spc Lib.countByte at *
  rw [List.countP_cons,List.count_cons,List.count_cons,List.count_cons,ih];unfold iy
  by_cases h1:c=92
  ·subst h1;simp;omega
  ·by_cases h2:c=60
   ·subst h2;simp;omega
   ·by_cases h3:c=123
    ·subst h3;simp;omega
    ·simp [h1,h2,h3]
theorem HG(s:Str):s.any iy = !(spc s == 0):=by
 unfold spc;rw [Bool.eq_iff_iff];simp [List.any_eq_true,List.countP_eq_zero]
theorem F0(c:UInt8)(t:Str):spc (c::t)=(if iy c=true then 1 else 0)+spc t:=by
 unfold spc;rw [List.countP_cons];cases iy c<;>simp;omega
theorem I4{q:Nat}{tv:AV}{T:TypeId}{s:Str}(hs:s.length≤cf){H H0:List AObj}(hq:H[q]?=some (.cells (rj++[tv]) T))(k:List Fra):∀ (n i m:Nat) (b:Bool) (He:List AObj),i+n=s.length→m≤s.length+i →
  M.go ak H0 (.c aO :: .lp ⟨(some [0,1,5,6,10]),[],false⟩ aO He :: .blk 2 :: .c (.lv [0,1,5,6])::k) (kv [(0,.ptr q 0),(1,.str s),(5,.int .i64 m),(6,.bool b),(10,.int .i64 i)]) H =
   M.go ak H0 k (kv [(0,.ptr q 0),(1,.str s),(5,.int .i64 ((m+spc (s.drop i):Nat):Int)),(6,.bool (b||(s.drop i).any iy))]) H
 |0,i,m,b,He,h,hm=>by
  have e:i=s.length:=by omega
  subst e;rw [List.drop_length,show spc []=0 from rfl,Nat.add_zero,List.any_nil,Bool.or_false];rw [aH M aO.eq_1];simp (maxSteps:=3000000) (maxDischargeDepth:=6) +contextual -implicitDefEqProofs only [amC M,↓amD,Nat.reduceBEq,Nat.reduceAdd,env,ao,al,Nat.lt_irrefl]
 |n+1,i,m,b,He,h,hm=>by
  have hi:i<s.length:=by omega
  have hx:s[i]?=some s[i]:=List.getElem?_eq_getElem hi;have hwi:=iX (n:=s.length) hi hs;rw [List.drop_eq_getElem_cons hi,F0,List.any_cons];generalize s[i]=c at *
  have hen:=CX c;have hld:=B9 c [tv];have hia:=FZ q c;cases hc:iy c with
  |true=>
   have ih:=fun He=>I4 hs hq (H0:=H0) k n (i+1) (m+1) true He (by omega) (by omega)
   simp only [kv_cons,kv_nil] at ih;have hev:wL c=pL c:=by unfold wL;rw [hc,sel_true]
   have hl2:nA H .sl (pL c)=some (.int .i64 2):=rfl;rw [hev] at hen hld;rw [hc] at hen;have hw2:IntKind.i64.wrap ((2:Int)-1)=1:=rfl;have hw3:IntKind.i64.wrap ((m:Int)+1)=((m+1:Nat):Int):=by simp only [cf] at hs;rw [ey (by omega) (by omega)];rfl
   rw [if_pos rfl,Bool.true_or,Bool.or_true,← Nat.add_assoc];rw [Bool.true_or] at ih;rw [aH M aO.eq_1];simp (maxSteps:=3000000) (maxDischargeDepth:=6) +contextual -implicitDefEqProofs only [amC M,↓amD,Nat.reduceBEq,Nat.reduceAdd,env,ao,al,amG,AV.cell,Nat.reduceMul,Nat.reduceLeDiff,hi,hx,hq,hia,hld,hen,hl2,hw2,hw3,hwi,rnc,ih]
  |false=>
   have ih:=fun He=>I4 hs hq (H0:=H0) k n (i+1) m b He (by omega) (by omega)
   simp only [kv_cons,kv_nil] at ih;rw [hc] at hen;rw [if_neg (by simp),Bool.false_or,Nat.zero_add];rw [aH M aO.eq_1];simp (maxSteps:=3000000) (maxDischargeDepth:=6) +contextual -implicitDefEqProofs only [amC M,↓amD,Nat.reduceBEq,Nat.reduceAdd,env,ao,al,amG,AV.cell,Nat.reduceMul,Nat.reduceLeDiff,hi,hx,hq,hia,hld,hen,hwi,rnc,ih]
def nh(s:Str):List AV:=s.map fun b=>AV.int .u8 (b.toNat:Int)
def D0(s:Str)(i:Nat):List AV:=nh (dF (s.take i))++List.replicate (dF (s.drop i)).length (.int .u8 0)
theorem A5:∀ s:Str,ny (nh s)=some s
 |[]=>rfl
 |c::t=>by
  show (ny (nh t)).map _=_;rw [A5 t];simp
theorem F4(A:List AV)(m:Nat)(z x:AV):bj (A++List.replicate (m+1) z) A.length [x]=A++([x]++List.replicate m z):=by
 rw [setRow_cons,setRow_nil,List.set_append_right _ _ (Nat.le_refl _),Nat.sub_self,List.replicate_succ,List.set_cons_zero];simp
theorem F5(A:List AV)(m:Nat)(z x y:AV):bj (A++List.replicate (m+2) z) A.length [x,y]=A++([x,y]++List.replicate m z):=by
 rw [setRow_cons,setRow_cons,setRow_nil,List.set_append_right _ _ (Nat.le_refl _),Nat.sub_self,List.set_append_right _ _ (by omega),show A.length+1-A.length=1 by omega,List.replicate_succ,List.replicate_succ,List.set_cons_zero,List.set_cons_succ,List.set_cons_zero];simp
theorem pM(s:Str):(nh s).length=s.length:=by simp [nh]
theorem A6(a b:Str):nh (a++b)=nh a++nh b:=by simp [nh]
theorem JQ{q:Nat}{tv:AV}{T:TypeId}{s:Str}(hs:s.length≤cf){H H0:List AObj}(hq:H[q]?=some (.cells (rj++[tv]) T))(k:List Fra):∀ (n i:Nat) (He:List AObj),i+n=s.length →
  M.go ak H0 (.c aX :: .lp ⟨(some [0,1,12,13,14]),[],false⟩ aX He :: .blk 4 :: .c (.lv [12])::k) (kv [(0,.ptr q 0),(1,.str s),(12,.rslice H.length 0 (dF s).length 1 true),(13,.int .i64 ((dF (s.take i)).length:Int)),(14,.int .i64 i)]) (H++[.cells (D0 s i) cD]) =
   M.go ak H0 k (kv [(12,.rslice H.length 0 (dF s).length 1 true)]) (H++[.cells (nh (dF s)) cD])
 |0,i,He,h=>by
  have e:i=s.length:=by omega
  subst e;rw [D0,List.take_length,List.drop_length,show dF []=[] from rfl,List.length_nil,List.replicate_zero,List.append_nil];rw [aH M aX.eq_1];simp (maxSteps:=3000000) (maxDischargeDepth:=6) +contextual -implicitDefEqProofs only [amC M,↓amD,Nat.reduceBEq,Nat.reduceAdd,env,ao,al,Nat.lt_irrefl]
 |n+1,i,He,h=>by
  have hi:i<s.length:=by omega
  have hx:s[i]?=some s[i]:=List.getElem?_eq_getElem hi;have hwi:=iX (n:=s.length) hi hs;have ih:=fun He=>JQ hs hq (H0:=H0) k n (i+1) He (by omega)
  have htk:s.take (i+1)=s.take i++[s[i]]:=by rw [List.take_add_one,hx];rfl
  have hdr:s.drop i=s[i]::s.drop (i+1):=List.drop_eq_getElem_cons hi;have hsl:=ss s;have hsum:(dF s).length=(dF (s.take i)).length+(dF (s.drop i)).length:=by rw [← List.length_append,← A4,List.take_append_drop]
  have hspc:spc s≤s.length:=List.countP_le_length;have hq1:∀ X,(H++X)[q]?=_:=fun X=>ir hq
  have hbl:=pM (dF (s.take i));unfold D0 at ih ⊢;rw [htk,A4] at ih;rw [hdr,nT] at hsum ⊢;rw [show dF [s[i]]=(if iy s[i]=true then [92,s[i]] else [s[i]])++dF [] from nT _ _,show dF []=[] from rfl,List.append_nil] at ih;generalize s[i]=c at *
  have hen:=CX c;have hld:=B9 c [tv];have hia:=FZ q c;generalize dF (s.take i)=A at *
  generalize dF (s.drop (i+1))=B at *
  simp only [cf] at hs;cases hc:iy c with
  |true=>
   rw [if_pos hc] at ih hsum;rw [if_pos rfl];rw [A6] at ih;have hev:wL c=pL c:=by unfold wL;rw [hc,sel_true]
   rw [hev] at hen hld;rw [hc] at hen;simp only [List.length_append,List.length_cons,List.length_nil,List.append_assoc] at ih hsum ⊢;rw [show 0+1+1+B.length=B.length+2 by omega] at hsum ⊢
   have hsll:Bm 1 (.rslice H.length 0 (dF s).length 1 true) (some (.int .i64 (A.length:Int))) none none=some (.rslice H.length (A.length*1) ((dF s).length-A.length) 1 true):=by
    simp only [Bm,cE];rw [if_pos (Int.natCast_nonneg _)];simp only [Int.toNat_natCast];rw [if_pos ⟨trivial,by omega,by omega⟩,Nat.zero_add]
   have hcp:rcp (H++[.cells (nh A++List.replicate (B.length+2) (.int .u8 0)) cD]) 1 false (.rslice H.length (A.length*1) ((dF s).length-A.length) 1 true) (pL c)=some (.int .i64 2,H++[.cells (nh A++(nh [92,c]++List.replicate B.length (.int .u8 0))) cD]):=by
    have hsr:=F5 (nh A) B.length (.int .u8 0) (.int .u8 ((92:UInt8).toNat:Int)) (.int .u8 (c.toNat:Int));rw [hbl] at hsr;simp only [rcp,pL,nB,aR,List.getElem?_cons_zero];simp only [or_true,if_true];rw [aR];simp only [List.getElem?_cons_zero];rw [if_pos ⟨trivial,by simp [pM];omega,by simp;omega,rfl⟩,hp_set0,List.set_cons_zero,Nat.mul_one,show ((([92,c]:Str).map JP).flatten)=[.int .u8 ((92:UInt8).toNat:Int),.int .u8 (c.toNat:Int)] from rfl,hsr]
    rfl
   have hw2:IntKind.i64.wrap ((A.length:Int)+2)=((A.length+2:Nat):Int):=by rw [ey (by omega) (by omega)];rfl
   simp only [kv_cons,kv_nil] at ih;rw [show A.length+(0+1+1)=A.length+2 by omega] at ih;rw [aH M aX.eq_1];simp (maxSteps:=3000000) (maxDischargeDepth:=6) +contextual -implicitDefEqProofs only [amC M,↓amD,Nat.reduceBEq,Nat.reduceAdd,env,ao,al,amG,AV.cell,Nat.reduceMul,Nat.reduceLeDiff,hi,hx,hq1,hia,hld,hen,hsll,hcp,hw2,hwi,rnc,ih]
  |false=>
   rw [if_neg (by simp [hc])] at ih hsum;rw [if_neg (by simp)];rw [A6] at ih;rw [hc] at hen;simp only [List.length_append,List.length_cons,List.length_nil,List.append_assoc] at ih hsum ⊢;rw [show 0+1+B.length=B.length+1 by omega] at hsum ⊢
   have hias:n5 1 (.rslice H.length 0 (dF s).length 1 true) (.int .i64 (A.length:Int))=some (.ptr H.length (A.length*1)):=by
    simp only [n5];rw [if_pos ⟨trivial,by omega,by simp;omega⟩];simp
   have hst:stO 1 (H++[.cells (nh A++List.replicate (B.length+1) (.int .u8 0)) cD]) H.length (A.length*1) [.int .u8 (c.toNat:Int)] (some (.cells (nh A++List.replicate (B.length+1) (.int .u8 0)) cD))=some (H++[.cells (nh A++(nh [c]++List.replicate B.length (.int .u8 0))) cD]):=by
    have hsr:=F4 (nh A) B.length (.int .u8 0) (.int .u8 (c.toNat:Int));rw [hbl] at hsr;rw [stO_cells (sz:=1) rfl (by simp [pM]) rfl,Nat.mul_one,hsr,hp_set0,List.set_cons_zero];rfl
   have hw2:IntKind.i64.wrap ((A.length:Int)+1)=((A.length+1:Nat):Int):=by rw [ey (by omega) (by omega)];rfl
   simp only [kv_cons,kv_nil] at ih;rw [show A.length+(0+1)=A.length+1 by omega] at ih;rw [aH M aX.eq_1];simp (maxSteps:=3000000) (maxDischargeDepth:=6) +contextual -implicitDefEqProofs only [amC M,↓amD,Nat.reduceBEq,Nat.reduceAdd,env,ao,al,amG,AV.cell,Nat.reduceMul,Nat.reduceLeDiff,hi,hx,hq1,hia,hld,hen,hias,hst,hw2,hwi,rnc,aR,List.getElem?_cons_zero,ih]
end
section
attribute [local congr] au bc aM aw aL aE aA ah aj aF aG
variable{E:aT}(M:bk bK E)
structure F6 (E:aT):Prop where
 strings_Replacer_build:E.fn eG=some eM
 strings_Replacer_buildOnce:E.fn aV=some dE
def b7:List Str:=[[92],[92,92],[60],[92,60],[123],[92,123]]
def l7:List Str:=[[123],[60],[92]]
def jU(n:Nat):List AV:=(List.range 256).map fun i=>if (i=123∧1≤n)∨(i=60∧2≤n)∨(i=92∧3≤n) then pL (UInt8.ofNat i) else .slice .nil 1 []
theorem Ca:∀ (x y rest:List AV),x.length=y.length→bj (x++rest) 0 y=y++rest:=fun x y=>by
 have key:∀ (y x A rest:List AV),x.length=y.length→bj (A++(x++rest)) A.length y=A++(y++rest):=by
  intro y;induction y with
  |nil=>intro x A rest h;rw [setRow_nil,List.length_eq_zero_iff.1 h]
  |cons v y ih=>
   intro x A rest h;cases x with
   |nil=>simp at h
   |cons u x=>
    rw [setRow_cons,List.set_append_right _ _ (Nat.le_refl _),Nat.sub_self,List.cons_append,List.set_cons_zero];have:=ih x (A++[v]) rest (by simpa using h);simpa using this
 exact fun rest h=>by simpa using key y x [] rest h
theorem ij(n:Nat):(jU n).length=256:=by simp [jU]
theorem I5(v:AV):(List.replicate 257 (AV.slice .nil 1 [])).set 256 v=jU 0++[v]:=by
 have:jU 0=List.replicate 256 (.slice .nil 1 []):=by
  refine List.ext_getElem? fun i => ?_
  unfold jU;rw [List.getElem?_map,List.getElem?_replicate]
  by_cases hi:i<256
  ·rw [List.getElem?_range hi,if_pos hi,Option.map_some,if_neg (by omega)]
  ·rw [List.getElem?_eq_none (by simp;omega),if_neg hi];rfl
 rw [this,show (257:Nat)=256+1 from rfl,List.replicate_succ',List.set_append_right _ _ (by simp)];simp
theorem I6:jU 3=rj:=by
 unfold jU rj;refine List.map_congr_left fun i hi => ?_
 have hi:i<256:=by simpa using hi
 unfold wL iy;have e:(UInt8.ofNat i).toNat=i:=by simp [UInt8.toNat_ofNat];omega
 have h:∀ k:UInt8,(UInt8.ofNat i == k)=decide (i=k.toNat):=fun k=>by
  rw [Bool.eq_iff_iff,beq_iff_eq,decide_eq_true_eq];exact ⟨fun hh=>by rw [← hh,e],fun hh=>UInt8.toNat_inj.1 (by rw [e,hh])⟩
 rw [h,h,h]
 by_cases h1:i=92
 ·subst h1;rfl
 ·by_cases h2:i=60
  ·subst h2;rfl
  ·by_cases h3:i=123
   ·subst h3;rfl
   ·simp [h1,h2,h3,sel]
theorem zB(n c:Nat)(hc:c<256)(v:AV):b9 none (jU n++[v]) c=some (if (c=123∧1≤n)∨(c=60∧2≤n)∨(c=92∧3≤n) then pL (UInt8.ofNat c) else .slice .nil 1 []):=by
 simp only [b9];rw [List.getElem?_append_left (by rw [ij];exact hc)];unfold jU;rw [List.getElem?_map,List.getElem?_range hc];rfl
theorem F7(n c:Nat)(hc:c<256)(h:∀ i,((i=123∧1≤n+1)∨(i=60∧2≤n+1)∨(i=92∧3≤n+1))↔(i=c∨((i=123∧1≤n)∨(i=60∧2≤n)∨(i=92∧3≤n))))(v:AV):(jU n++[v]).set c (pL (UInt8.ofNat c))=jU (n+1)++[v]:=by
 rw [List.set_append_left _ _ (by rw [ij];exact hc)];congr 1;refine List.ext_getElem? fun i => ?_
 by_cases hi:i=c
 ·subst hi
  rw [List.getElem?_set_self (by rw [ij];exact hc)];unfold jU;rw [List.getElem?_map,List.getElem?_range hc,Option.map_some,if_pos ((h i).2 (.inl rfl))]
 ·rw [List.getElem?_set_ne (fun e=>hi e.symm)]
  unfold jU;rw [List.getElem?_map,List.getElem?_map]
  by_cases h2:i<256
  ·rw [List.getElem?_range h2,Option.map_some,Option.map_some]
   congr 1;have:=h i
   by_cases h3:(i=123∧1≤n)∨(i=60∧2≤n)∨(i=92∧3≤n)
   ·rw [if_pos h3,if_pos (this.2 (.inr h3))]
   ·rw [if_neg h3,if_neg (fun hh=>by rcases this.1 hh with e | e;exact hi e;exact h3 e)]
  ·rw [List.getElem?_eq_none (by simp;omega)];rfl
theorem Cb:∀ (a b:List AV),a.length=b.length→bj a 0 b=b:=fun a b h=>by
 have:=Ca a b [] h;simpa using this
theorem D1(n:Nat)(v:AV)(hv:v.cell=true):(jU n++[v]).all AV.cell=true:=by
 rw [List.all_append,Bool.and_eq_true];refine ⟨List.all_eq_true.2 fun x hx => ?_,by rw [List.all_cons,hv];rfl⟩;unfold jU at hx;obtain ⟨i,_,rfl⟩:=List.mem_map.1 hx;split<;>rfl
def tvB(q:Nat)(l:List Str):AV:=match l with
 |[]=>.rslice q 0 0 1 true
 |x::l=>.slice (.own q) 1 ((x::l).map bu)
def xB(l:List Str):AObj:=match l with
 |[]=>.cells [.str [],.str [],.str []] aI
 |x::l=>.tok ((x::l).length*1) aI
theorem JR(H:List AObj)(B:AObj)(l:List Str)(hl:l.length≤100)(s:Str):rap false (H++[xB l,B]) aI 1 16 false (tvB H.length l) (.slice .full 1 [[.str s]])=some (tvB H.length (l++[s]),H++[xB (l++[s]),B]):=by
 cases l with
 |nil=>
  have:=CW (row:=bu) (l:=[]) (x:=s) (r:=[.str s]) (sz:=1) (bytes:=16) (e:=aI) H [B] rfl rfl rfl (by simp) (by simp);simp only [List.map_nil,List.length_nil,Nat.zero_mul] at this;have e0:(H++[AObj.cells [.str [],.str [],.str []] aI,B])[H.length]?=some (AObj.cells [.str [],.str [],.str []] aI):=by rw [aR];rfl
  simp only [tvB,xB,rap,e0];rw [hp_set0,List.set_cons_zero];have e:rap false (H++[.tok 0 aI,B]) aI 1 16 false (.slice (.own H.length) 1 []) (.slice .full 1 [[.str s]])=tO (H++[.tok 0 aI,B]) aI 1 16 false (.slice (.own H.length) 1 []) (.slice .full 1 [[.str s]]):=rfl;rw [← e];exact this
 |cons x l=>exact CW (row:=bu) (l:=x::l) (x:=s) (r:=[.str s]) (sz:=1) (bytes:=16) (e:=aI) H [B] rfl rfl rfl (by simp at hl ⊢;omega) (by simp at hl ⊢;omega)
theorem A7(q:Nat)(l:List Str):(tvB q l).cell=true∧bR (tvB q l)=some [tvB q l]:=by
 cases l<;>exact ⟨rfl,rfl⟩
theorem Cc(n:Nat)(v:AV):b9 none (jU n++[v]) 256=some v:=by
 simp only [b9];rw [List.getElem?_append_right (by rw [ij];omega),ij];rfl
theorem Kb(H:List AObj)(x:AObj)(n:Nat)(v v':AV)(T:TypeId)(h:v'.cell=true):stO 1 (H++[x,.cells (jU n++[v]) T]) (H.length+1) 256 [v'] (some (.cells (jU n++[v]) T))=some (H++[x,.cells (jU n++[v']) T]):=by
 rw [stO_cells (sz:=1) rfl (by simp [ij]) (by simp [h]),setRow_cons,setRow_nil,hp_setk,List.set_append_right _ _ (by rw [ij];omega),ij];rfl
theorem I7(H:List AObj)(x:AObj)(n c:Nat)(hc:c<256)(h:∀ i,((i=123∧1≤n+1)∨(i=60∧2≤n+1)∨(i=92∧3≤n+1))↔(i=c∨((i=123∧1≤n)∨(i=60∧2≤n)∨(i=92∧3≤n))))(v:AV)(T:TypeId) :
  stO 1 (H++[x,.cells (jU n++[v]) T]) (H.length+1) c [pL (UInt8.ofNat c)] (some (.cells (jU n++[v]) T))=some (H++[x,.cells (jU (n+1)++[v]) T]):=by
 rw [stO_cells (sz:=1) rfl (by simp [ij];omega) rfl,setRow_cons,setRow_nil,hp_setk,F7 n c hc h];rfl
theorem D2(hR:F6 E){H:List AObj}{r:Nat}{a b c d:AV}{tg:Tag}{T:TypeId}(hr:H[r]?=some (.cells [a,b,c,d,.slice tg 1 (b7.map bu)] T)) :
  ∃ tg',M.run eG [.ptr r 0] H=some (.ret (.iface aQ (.ptr (H.length+1) 0)),H++[.tok 3 aI,.cells (rj++[.slice tg' 1 (l7.map bu)]) aK]):=by
 refine ⟨.own H.length, ?_⟩;have l4:∀ a b c d e:AV,b9 none [a,b,c,d,e] 4=some e:=fun _ _ _ _ _=>rfl
 have hln:∀ G,nA G .sl (.slice tg 1 (b7.map bu))=some (.int .i64 6):=fun _=>rfl
 have x:=fun i hi=>bD (row:=bu) (l:=b7) (tag:=tg) (sz:=1) (k:=.i64) (i:=i) hi
 have x0:n5 1 (.slice tg 1 (b7.map bu)) (.int .i64 0)=some (.vptr 1 (b7.map bu) 0 0):=x 0 (by decide);have x1:n5 1 (.slice tg 1 (b7.map bu)) (.int .i64 1)=some (.vptr 1 (b7.map bu) 1 0):=x 1 (by decide);have x2:n5 1 (.slice tg 1 (b7.map bu)) (.int .i64 2)=some (.vptr 1 (b7.map bu) 2 0):=x 2 (by decide);have x3:n5 1 (.slice tg 1 (b7.map bu)) (.int .i64 3)=some (.vptr 1 (b7.map bu) 3 0):=x 3 (by decide)
 have x4:n5 1 (.slice tg 1 (b7.map bu)) (.int .i64 4)=some (.vptr 1 (b7.map bu) 4 0):=x 4 (by decide);have x5:n5 1 (.slice tg 1 (b7.map bu)) (.int .i64 5)=some (.vptr 1 (b7.map bu) 5 0):=x 5 (by decide);have p0:b7[0]?=some [92]:=rfl;have p1:b7[1]?=some [92,92]:=rfl;have p2:b7[2]?=some [60]:=rfl;have p3:b7[3]?=some [92,60]:=rfl;have p4:b7[4]?=some [123]:=rfl;have p5:b7[5]?=some [92,123]:=rfl;have hsr:∀ s:Str,bu s=[.str s]:=fun _=>rfl
 have hpl:((b7.length:Nat):Int)=6:=rfl;have c62:((6:Int) == 2)=false:=rfl;have d06:decide ((0:Int)<6)=true:=rfl;have d26:decide ((2:Int)<6)=true:=rfl;have d46:decide ((4:Int)<6)=true:=rfl;have d66:decide ((6:Int)<6)=false:=rfl;have g4:decide ((0:Int)≤4)=true:=rfl;have g2:decide ((0:Int)≤2)=true:=rfl;have g0:decide ((0:Int)≤0)=true:=rfl;have gn:decide ((0:Int)≤-2)=false:=rfl;have w01:IntKind.i64.wrap ((0:Int)+1)=1:=rfl
 have w21:IntKind.i64.wrap ((2:Int)+1)=3:=rfl;have w41:IntKind.i64.wrap ((4:Int)+1)=5:=rfl;have w02:IntKind.i64.wrap ((0:Int)+2)=2:=rfl;have w22:IntKind.i64.wrap ((2:Int)+2)=4:=rfl;have w42:IntKind.i64.wrap ((4:Int)+2)=6:=rfl;have m62:IntKind.i64.wrap ((6:Int)-2)=4:=rfl;have m42:IntKind.i64.wrap ((4:Int)-2)=2:=rfl;have m22:IntKind.i64.wrap ((2:Int)-2)=0:=rfl;have m02:IntKind.i64.wrap ((0:Int)-2) = -2:=rfl
 have l1:∀ c:UInt8,((([c]:Str).length:Nat):Int)=1:=fun _=>rfl
 have l2:∀ c d:UInt8,((([c,d]:Str).length:Nat):Int)=2:=fun _ _=>rfl
 have c11:(((1:Nat):Int) == 1)=true:=rfl;have c21:(((2:Nat):Int) == 1)=false:=rfl;have hq3:iA .quo .i64 6 2=some (.int .i64 3):=rfl;have hms:rms H aI 16 [.str []] (.int .i64 0) (.int .i64 3)=some (.rslice H.length 0 0 1 true,H++[.cells [.str [],.str [],.str []] aI]):=rfl
 have haf:sO (fun x=>([(0,256),(256,1)]:List (Nat×Nat))[x]?) (List.replicate 257 (.slice .nil 1 [])) [] (some (256,1)) (some [.rslice H.length 0 0 1 true])=some (jU 0++[tvB H.length []]):=by
  rw [← I5];rfl
 have hs0:stO 257 (H++[.cells [.str [],.str [],.str []] aI,.cells (List.replicate 257 (.slice .nil 1 [])) aK]) (H.length+1) 0 (jU 0++[tvB H.length []]) (some (.cells (List.replicate 257 (.slice .nil 1 [])) aK))=some (H++[xB [],.cells (jU 0++[tvB H.length []]) aK]):=by
  rw [stO_cells (sz:=257) (by simp [ij]) (by simp) (D1 0 _ rfl),hp_setk,Cb _ _ (by simp [ij])];rfl
 rw [cq M hR.strings_Replacer_build rfl (c:=eL) rfl,eL];simp (maxSteps:=3000000) (maxDischargeDepth:=6) +contextual -implicitDefEqProofs only [amC M,↓amD,Nat.reduceBEq,Nat.reduceAdd,env,ao,bf,amG,AV.cell,Nat.reduceMul,Nat.reduceLeDiff,rnc,hr,l4,hln,x0,x1,x2,x3,x4,x5,p0,p1,p2,p3,p4,p5,hsr,hpl,c62];rw [aH M b5.eq_1];simp (maxSteps:=3000000) (maxDischargeDepth:=6) +contextual -implicitDefEqProofs only [amC M,↓amD,Nat.reduceBEq,Nat.reduceAdd,env,ao,bf,amG,AV.cell,Nat.reduceMul,Nat.reduceLeDiff,x0,x1,p0,p1,hsr,hpl,d06,l1,l2,c11,c21,w01,w02]
 rw [aH M b5.eq_1];simp (maxSteps:=3000000) (maxDischargeDepth:=6) +contextual -implicitDefEqProofs only [amC M,↓amD,Nat.reduceBEq,Nat.reduceAdd,env,ao,bf,amG,AV.cell,Nat.reduceMul,Nat.reduceLeDiff,x2,x3,p2,p3,hsr,hpl,d26,l1,l2,c11,c21,w21,w22];rw [aH M b5.eq_1];simp (maxSteps:=3000000) (maxDischargeDepth:=6) +contextual -implicitDefEqProofs only [amC M,↓amD,Nat.reduceBEq,Nat.reduceAdd,env,ao,bf,amG,AV.cell,Nat.reduceMul,Nat.reduceLeDiff,x4,x5,p4,p5,hsr,hpl,d46,l1,l2,c11,c21,w41,w42]
 rw [aH M b5.eq_1];simp (maxSteps:=3000000) (maxDischargeDepth:=6) +contextual -implicitDefEqProofs only [amC M,↓amD,Nat.reduceBEq,Nat.reduceAdd,env,ao,bf,amG,AV.cell,Nat.reduceMul,Nat.reduceLeDiff,hsr,hpl,d66,m62,hq3,hms,haf,hs0,aR,hp_getk,hp_set0,hp_setk,List.getElem?_cons_zero,List.getElem?_cons_succ,List.append_assoc,List.cons_append,List.nil_append];have bo:∀ c:UInt8,rV ([c]:Str)[0]?=some (.int .u8 (c.toNat:Int)):=fun _=>rfl
 have ia1:∀ q:Nat,vi 256 1 (.ptr q 0) (.int .u8 ((123:Nat):Int))=some (.ptr q 123):=fun q=>by simp [vi]
 have ia2:∀ q:Nat,vi 256 1 (.ptr q 0) (.int .u8 ((60:Nat):Int))=some (.ptr q 60):=fun q=>by simp [vi]
 have ia3:∀ q:Nat,vi 256 1 (.ptr q 0) (.int .u8 ((92:Nat):Int))=some (.ptr q 92):=fun q=>by simp [vi]
 have n1:((123:UInt8).toNat:Int)=((123:Nat):Int):=rfl;have n2:((60:UInt8).toNat:Int)=((60:Nat):Int):=rfl;have n3:((92:UInt8).toNat:Int)=((92:Nat):Int):=rfl;have eqn:req .sl (.slice .nil 1 []) (.slice .nil 0 [])=some true:=rfl;have k1:∀ v,b9 none (jU 0++[v]) 123=some (.slice .nil 1 []):=fun v=>zB 0 123 (by omega) v
 have k2:∀ v,b9 none (jU 1++[v]) 60=some (.slice .nil 1 []):=fun v=>zB 1 60 (by omega) v
 have k3:∀ v,b9 none (jU 2++[v]) 92=some (.slice .nil 1 []):=fun v=>zB 2 92 (by omega) v
 have hap:=fun l hl s B=>JR H B l hl s
 have a1:∀ B,rap false (H++[xB [],B]) aI 1 16 false (tvB H.length []) (.slice .full 1 [[.str [123]]])=some (tvB H.length [[123]],H++[xB [[123]],B]):=fun B=>hap [] (by simp) [123] B
 have a2:∀ B,rap false (H++[xB [[123]],B]) aI 1 16 false (tvB H.length [[123]]) (.slice .full 1 [[.str [60]]])=some (tvB H.length [[123],[60]],H++[xB [[123],[60]],B]):=fun B=>hap [[123]] (by simp) [60] B
 have a3:∀ B,rap false (H++[xB [[123],[60]],B]) aI 1 16 false (tvB H.length [[123],[60]]) (.slice .full 1 [[.str [92]]])=some (tvB H.length [[123],[60],[92]],H++[xB [[123],[60],[92]],B]):=fun B=>hap [[123],[60]] (by simp) [92] B
 have v1:∀ G,qq G (.slice .full 1 [[.int .u8 ((123:Nat):Int)]])=some (.str [123]):=fun _=>rfl
 have v2:∀ G,qq G (.slice .full 1 [[.int .u8 ((60:Nat):Int)]])=some (.str [60]):=fun _=>rfl
 have v3:∀ G,qq G (.slice .full 1 [[.int .u8 ((92:Nat):Int)]])=some (.str [92]):=fun _=>rfl
 have tc:=fun l=>(A7 H.length l).2
 have sT:=fun x n v l=>Kb H x n v (tvB H.length l) aK (A7 H.length l).1
 have sC1:=fun x v=>I7 H x 0 123 (by omega) (fun i=>by omega) v aK
 have sC2:=fun x v=>I7 H x 1 60 (by omega) (fun i=>by omega) v aK
 have sC3:=fun x v=>I7 H x 2 92 (by omega) (fun i=>by omega) v aK
 have cb1:x6 (.str [92,123])=some (pL (UInt8.ofNat 123)):=rfl;have cb2:x6 (.str [92,60])=some (pL (UInt8.ofNat 60)):=rfl;have cb3:x6 (.str [92,92])=some (pL (UInt8.ofNat 92)):=rfl;have rc:∀ c,bR (pL c)=some [pL c]:=fun _=>rfl
 rw [aH M b6.eq_1];simp (maxSteps:=3000000) (maxDischargeDepth:=6) +contextual -implicitDefEqProofs only [amC M,↓amD,Nat.reduceBEq,Nat.reduceAdd,env,ao,bf,amG,AV.cell,Nat.reduceMul,Nat.reduceLeDiff,g4,m42,x4,x5,p4,p5,w41,hsr,bo,n1,ia1,k1,v1,eqn,Cc,a1,tc,sT,sC1,cb1,rc,hp_getk,Nat.zero_add,List.getElem?_cons_zero,List.getElem?_cons_succ];rw [aH M b6.eq_1];simp (maxSteps:=3000000) (maxDischargeDepth:=6) +contextual -implicitDefEqProofs only [amC M,↓amD,Nat.reduceBEq,Nat.reduceAdd,env,ao,bf,amG,AV.cell,Nat.reduceMul,Nat.reduceLeDiff,g2,m22,x2,x3,p2,p3,w21,hsr,bo,n2,ia2,k2,v2,eqn,Cc,a2,tc,sT,sC2,cb2,rc,hp_getk,List.getElem?_cons_zero,List.getElem?_cons_succ]
 rw [aH M b6.eq_1];simp (maxSteps:=3000000) (maxDischargeDepth:=6) +contextual -implicitDefEqProofs only [amC M,↓amD,Nat.reduceBEq,Nat.reduceAdd,env,ao,bf,amG,AV.cell,Nat.reduceMul,Nat.reduceLeDiff,g0,m02,x0,x1,p0,p1,w01,hsr,bo,n3,ia3,k3,v3,eqn,Cc,a3,tc,sT,sC3,cb3,rc,hp_getk,List.getElem?_cons_zero,List.getElem?_cons_succ];rw [aH M b6.eq_1];simp (maxSteps:=3000000) (maxDischargeDepth:=6) +contextual -implicitDefEqProofs only [amC M,↓amD,Nat.reduceBEq,Nat.reduceAdd,env,ao,bf,amG,AV.cell,Nat.reduceMul,Nat.reduceLeDiff,gn]
 rw [I6];rfl
theorem xM(hR:F6 E){H:List AObj}{r:Nat}{a b c d:AV}{tg:Tag}{T:TypeId}(hr:H[r]?=some (.cells [a,b,c,d,.slice tg 1 (b7.map bu)] T)) :
  ∃ tg',M.run aV [.ptr r 0] H=some (.ret (.tuple []),(H++[AObj.tok 3 aI,AObj.cells (rj++[.slice tg' 1 (l7.map bu)]) aK]).set r (AObj.cells [a,b,c,.iface aQ (.ptr (H.length+1) 0),.slice .nil 1 []] T)):=by
 obtain ⟨tg',h1⟩:=D2 M hR hr;refine ⟨tg', ?_⟩;have hl:=gp hr;have g1:∀ X,(H++X)[r]?=_:=fun X=>ir hr
 have gs:∀ (X:List AObj) (o:AObj),((H++X).set r o)[r]?=some o:=fun X o=>List.getElem?_set_self (by simp;omega)
 rw [cq M hR.strings_Replacer_buildOnce rfl (c:=dD) rfl,dD];simp (maxSteps:=3000000) (maxDischargeDepth:=6) +contextual -implicitDefEqProofs only [amC M,↓amD,Nat.reduceBEq,Nat.reduceAdd,env,ao,kJ,amG,AV.cell,Nat.reduceMul,Nat.reduceLeDiff,rnc,h1,g1,gs,List.set_set]
end
section
attribute [local congr] au bc aM aw aL aE aA ah aj aF aG
variable{E:aT}(M:bk bK E)
structure Cd (M:bk bK E):Prop where
 meth:E.meth aQ "Replace" = some bh
 once:∀ (H:List AObj) (r:Nat) (tg:Tag) (T:TypeId),H[r]?=some (.cells [.int .u32 0,.int .i32 0,.int .u32 0,.nilif,.slice tg 1 (b7.map bu)] T) →
  ∃ H' tg' q,M.run gK [.ptr r 0,.fn (.func aV) [.ptr r 0] []] H=some (.ret (.tuple []),H')∧H'[r]?=some (.cells [.int .u32 1,.int .i32 0,.int .u32 0,.iface aQ (.ptr q 0),.slice .nil 1 []] T) ∧
   H'[q]?=some (.cells (rj++[.slice tg' 1 (l7.map bu)]) aK)∧H.length≤H'.length∧∀ i,i<H.length→i≠r→H'[i]?=H[i]?
theorem I8(hR:wK E)(hX:xL M){q:Nat}{tg:Tag}{s:Str}(hs:s.length≤cf){H H0:List AObj}{T:TypeId}(hq:H[q]?=some (.cells (rj++[.slice tg 1 (l7.map bu)]) T))(k:List Fra):∀ (n i m:Nat) (b:Bool) (He:List AObj),i+n=3→m≤s.length+i*s.length →
  M.go ak H0 (.c aN :: .lp ⟨(some [0,1,5,6,30,31,32]),[],false⟩ aN He :: .blk 0 :: .c (.lv [0,1,5,6])::k) (kv [(0,.ptr q 0),(1,.str s),(5,.int .i64 m),(6,.bool b),(30,.slice tg 1 (l7.map bu)),(31,.int .i64 3),(32,.int .i64 i)]) H =
   M.go ak H0 k (kv [(0,.ptr q 0),(1,.str s),(5,.int .i64 ((m+((l7.drop i).map fun x=>Lib.countByte s (x.getD 0 0)).sum:Nat):Int)),(6,.bool (b||(l7.drop i).any fun x => !(Lib.countByte s (x.getD 0 0) == 0)))]) H
 |0,i,m,b,He,h,hm=>by
  have e:i=3:=by omega
  subst e;have d3:decide (((3:Nat):Int)<3)=false:=rfl;rw [show l7.drop 3=[] from rfl,List.map_nil,List.sum_nil,Nat.add_zero,List.any_nil,Bool.or_false];rw [aH M aN.eq_1];simp (maxSteps:=3000000) (maxDischargeDepth:=6) +contextual -implicitDefEqProofs only [amC M,↓amD,Nat.reduceBEq,Nat.reduceAdd,env,ao,al,d3]
 |n+1,i,m,b,He,h,hm=>by
  have hi:i<l7.length:=by show i<3;omega
  have hi3:decide ((i:Int)<3)=true:=decide_eq_true (by omega);have hx:l7[i]?=some l7[i]:=List.getElem?_eq_getElem hi
  obtain ⟨c,hc,he⟩:∃ c,l7[i]=[c]∧iy c=true:=by
   have:i=0∨i=1∨i=2:=by omega
   rcases this with rfl | rfl | rfl
   ·exact ⟨123,rfl,rfl⟩
   ·exact ⟨60,rfl,rfl⟩
   ·exact ⟨92,rfl,rfl⟩
  have hwi:IntKind.i64.wrap ((i:Int)+1)=((i+1:Nat):Int):=by rw [ey (by omega) (by omega)];rfl
  have hir:=bD (row:=bu) (l:=l7) (tag:=tg) (sz:=1) (k:=.i64) hi;have hsr:∀ s:Str,bu s=[.str s]:=fun _=>rfl
  have hcn:=fun H=>A3 M hR hX s c H
  have hcl:Lib.countByte s c≤s.length:=List.count_le_length;have hi0:rV ([c]:Str)[0]?=some (.int .u8 (c.toNat:Int)):=rfl;have hld:=B9 c [.slice tg 1 (l7.map bu)];have hia:=FZ q c;have hev:wL c=pL c:=by unfold wL;rw [he,sel_true]
  have hl2:nA H .sl (pL c)=some (.int .i64 2):=rfl;have hw2:IntKind.i64.wrap ((2:Int)-1)=1:=rfl;rw [List.drop_eq_getElem_cons hi,List.map_cons,List.sum_cons,List.any_cons,hc];rw [hc] at hx;rw [hev] at hld;rw [show ([c]:Str).getD 0 0=c from rfl];simp only [cf] at hs;have hm3:i*s.length≤3*s.length:=Nat.mul_le_mul_right _ (by omega);generalize Lib.countByte s c=n1 at *
  cases h0:n1 == 0 with
  |true=>
   have e0:n1=0:=by simpa using h0
   subst e0;have ih:=fun He=>I8 hR hX (by simp only [cf];omega) hq (H0:=H0) k n (i+1) m b He (by omega) (by rw [Nat.add_mul];omega)
   simp only [kv_cons,kv_nil] at ih;have z0:(((0:Nat):Int) == 0)=true:=rfl;rw [Nat.zero_add,Bool.not_true,Bool.false_or];rw [aH M aN.eq_1];simp (maxSteps:=3000000) (maxDischargeDepth:=6) +contextual -implicitDefEqProofs only [amC M,↓amD,Nat.reduceBEq,Nat.reduceAdd,env,ao,al,amG,AV.cell,Nat.reduceMul,Nat.reduceLeDiff,hi3,hx,hir,hsr,hcn,z0,hwi,ih]
  |false=>
   have ih:=fun He=>I8 hR hX (by simp only [cf];omega) hq (H0:=H0) k n (i+1) (m+n1) true He (by omega) (by rw [Nat.add_mul];omega)
   simp only [kv_cons,kv_nil] at ih
   have z0:((n1:Int) == 0)=false:=by
    rw [beq_eq_false_iff_ne] at h0 ⊢;omega
   have hwm:IntKind.i64.wrap ((n1:Int)*1)=(n1:Int):=by rw [Int.mul_one,ey (by omega) (by omega)]
   have hwa:IntKind.i64.wrap ((m:Int)+(n1:Int))=((m+n1:Nat):Int):=by rw [ey (by omega) (by omega)];rfl
   rw [← Nat.add_assoc,Bool.not_false,Bool.true_or,Bool.or_true];rw [Bool.true_or] at ih;rw [aH M aN.eq_1];simp (maxSteps:=3000000) (maxDischargeDepth:=6) +contextual -implicitDefEqProofs only [amC M,↓amD,Nat.reduceBEq,Nat.reduceAdd,env,ao,al,amG,AV.cell,Nat.reduceMul,Nat.reduceLeDiff,hi3,hx,hir,hsr,hcn,z0,hq,hi0,hia,hld,hl2,hw2,hwm,hwa,hwi,rnc,amZ,ih]
theorem HH(hR:wK E)(hX:xL M){q:Nat}{tg:Tag}{s:Str}(hs:s.length≤1000000000){H:List AObj}{T:TypeId}(hq:H[q]?=some (.cells (rj++[.slice tg 1 (l7.map bu)]) T)) :
  M.run bh [.ptr q 0,.str s] H=some (.ret (.str (dF s)),H):=by
 have hsm:s.length≤cf:=by simp only [cf];omega
 have hl:=ss s;have hspc:spc s≤s.length:=List.countP_le_length;have hlt:=HF (.slice tg 1 (l7.map bu));have hln:∀ G,nA G .sl (.slice tg 1 (l7.map bu))=some (.int .i64 3):=fun _=>rfl
 have w24:IntKind.i64.wrap ((3:Int)*8)=24:=rfl;have htl:((l7.length:Nat):Int)=3:=rfl
 have hsum:((l7.drop 0).map fun x=>Lib.countByte s (x.getD 0 0)).sum=spc s:=by
  rw [zA];show Lib.countByte s 123+(Lib.countByte s 60+(Lib.countByte s 92+0))=_;omega
 have hany:((l7.drop 0).any fun x => !(Lib.countByte s (x.getD 0 0) == 0))=s.any iy:=by
  rw [HG,zA];show (!(Lib.countByte s 123 == 0)||(!(Lib.countByte s 60 == 0)||(!(Lib.countByte s 92 == 0)||false)))=_;generalize Lib.countByte s 123=x;generalize Lib.countByte s 60=y;generalize Lib.countByte s 92=z;rw [Bool.eq_iff_iff];simp;omega
 have half:∀ (k:List Fra),(∀ He,decide ((24:Int)≤(s.length:Int))=true→M.go ak H (.c aN :: .lp ⟨(some [0,1,5,6,30,31,32]),[],false⟩ aN He :: .blk 0 :: .c (.lv [0,1,5,6])::k) (kv [(0,.ptr q 0),(1,.str s),(5,.int .i64 s.length),(6,.bool false),(30,.slice tg 1 (l7.map bu)),(31,.int .i64 3),(32,.int .i64 0)]) H=M.go ak H k (kv [(0,.ptr q 0),(1,.str s),(5,.int .i64 ((dF s).length:Int)),(6,.bool (s.any iy))]) H) ∧
   (∀ He,M.go ak H (.c aO :: .lp ⟨(some [0,1,5,6,10]),[],false⟩ aO He :: .blk 2 :: .c (.lv [0,1,5,6])::k) (kv [(0,.ptr q 0),(1,.str s),(5,.int .i64 s.length),(6,.bool false),(10,.int .i64 0)]) H=M.go ak H k (kv [(0,.ptr q 0),(1,.str s),(5,.int .i64 ((dF s).length:Int)),(6,.bool (s.any iy))]) H):=fun k=>by
  refine ⟨fun He _ => ?_,fun He => ?_⟩
  ·have:=I8 M hR hX hsm (H0:=H) hq k 3 0 s.length false He (by omega) (by omega)
   rw [hsum,hany,← hl,Bool.false_or] at this;exact this
  ·have:=I4 M hsm (H0:=H) hq k s.length 0 s.length false He (by omega) (by omega)
   rw [List.drop_zero,← hl,Bool.false_or] at this;exact this
 have h2:=fun k He=>JQ M hsm (H0:=H) hq k s.length 0 He (by omega)
 simp only [List.take_zero,show dF []=[] from rfl,List.length_nil,List.drop_zero,Int.ofNat_zero,kv_cons,kv_nil] at h2;have hb0:D0 s 0=List.replicate (dF s).length (.int .u8 0):=by unfold D0;rw [List.take_zero,List.drop_zero];rfl
 have hms:rms H cD 1 [.int .u8 0] (.int .i64 ((dF s).length:Int)) (.int .i64 ((dF s).length:Int))=some (.rslice H.length 0 (dF s).length 1 true,H++[.cells (D0 s 0) cD]):=by
  simp only [rms];rw [if_pos ⟨by omega,by omega,by omega,by omega⟩,hb0];simp [List.flatten_replicate_singleton]
 have hcv:∀ X,qq (H ++ .cells (nh (dF s)) cD::X) (.rslice H.length 0 (dF s).length 1 true)=some (.str (dF s)):=fun X=>by
  simp only [qq,aR,List.getElem?_cons_zero];rw [if_pos (by rw [pM];omega),List.drop_zero,List.take_of_length_le (by rw [pM];exact Nat.le_refl _),A5];rfl
 have half1:=fun k He h=>(half k).1 He h
 have half2:=fun k He=>(half k).2 He
 simp only [kv_cons,kv_nil] at half1 half2;rw [cq M hR.strings_byteStringReplacer_Replace rfl (c:=cu) rfl,cu];cases hd:decide ((24:Int)≤(s.length:Int)) with
 |true=>
  have half1:=fun k He=>half1 k He hd
  cases ha:s.any iy with
  |false=>
   rw [ha] at half1;rw [zy ha] at half1 ⊢;simp (maxSteps:=3000000) (maxDischargeDepth:=6) +contextual -implicitDefEqProofs only [amC M,↓amD,Nat.reduceBEq,Nat.reduceAdd,env,ao,al,amG,AV.cell,Nat.reduceMul,Nat.reduceLeDiff,hq,hlt,hln,htl,w24,rnc,hd,half1,hp_self,cut_refl]
  |true=>
   rw [ha] at half1;simp (maxSteps:=3000000) (maxDischargeDepth:=6) +contextual -implicitDefEqProofs only [amC M,↓amD,Nat.reduceBEq,Nat.reduceAdd,env,ao,al,amG,AV.cell,Nat.reduceMul,Nat.reduceLeDiff,hq,hlt,hln,htl,w24,rnc,hd,half1,hms,h2,hcv,cut_app,hp_take]
 |false=>
  cases ha:s.any iy with
  |false=>
   rw [ha] at half2;rw [zy ha] at half2 ⊢;simp (maxSteps:=3000000) (maxDischargeDepth:=6) +contextual -implicitDefEqProofs only [amC M,↓amD,Nat.reduceBEq,Nat.reduceAdd,env,ao,al,amG,AV.cell,Nat.reduceMul,Nat.reduceLeDiff,hq,hlt,hln,htl,w24,rnc,hd,half2,hp_self,cut_refl]
  |true=>
   rw [ha] at half2;simp (maxSteps:=3000000) (maxDischargeDepth:=6) +contextual -implicitDefEqProofs only [amC M,↓amD,Nat.reduceBEq,Nat.reduceAdd,env,ao,al,amG,AV.cell,Nat.reduceMul,Nat.reduceLeDiff,hq,hlt,hln,htl,w24,rnc,hd,half2,hms,h2,hcv,cut_app,hp_take]
theorem uL(hR:wK E)(H:List AObj):M.run ed [.slice .full 1 (b7.map bu)] H=some (.ret (.ptr (H.length+1) 0),H++[AObj.tok 6 aI,AObj.cells [.int .u32 0,.int .i32 0,.int .u32 0,.nilif,.slice (.own H.length) 1 (b7.map bu)] i5]):=by
 have hpl:((b7.length:Nat):Int)=6:=rfl;have hrm:iA .rem .i64 6 2=some (.int .i64 0):=rfl;have z01:((0:Int) == 1)=false:=rfl;have hap:rap false H aI 1 16 false (.slice .nil 1 []) (.slice .full 1 (b7.map bu))=some (.slice (.own H.length) 1 (b7.map bu),H++[.tok 6 aI]):=rfl;rw [cq M hR.strings_NewReplacer rfl (c:=gb) rfl,gb];simp (maxSteps:=3000000) (maxDischargeDepth:=6) +contextual -implicitDefEqProofs only [amC M,↓amD,Nat.reduceBEq,Nat.reduceAdd,env,ao,og,amG,AV.cell,Nat.reduceMul,Nat.reduceLeDiff,hpl,hrm,z01,hap]
theorem A8(hR:wK E)(hX:xL M)(hE:Cd M){s:Str}(hs:s.length≤1000000000){H:List AObj}{r:Nat}{tg:Tag}{T:TypeId}(hr:H[r]?=some (.cells [.int .u32 0,.int .i32 0,.int .u32 0,.nilif,.slice tg 1 (b7.map bu)] T)) :
  ∃ H',M.run cQ [.ptr r 0,.str s] H=some (.ret (.str (dF s)),H')∧H.length≤H'.length∧∀ i,i<H.length→i≠r→H'[i]?=H[i]? := by
 obtain ⟨H',tg',q,h1,h2,h3,h4,h5⟩:=hE.once H r tg T hr;refine ⟨H', ?_,h4,h5⟩;have hb:=HH M hR hX hs h3;have hm:=hE.meth;have l3:∀ a b c d e:AV,b9 none [a,b,c,d,e] 3=some d:=fun _ _ _ _ _=>rfl
 have hi:yT E (.iface aQ (.ptr q 0)) "Replace" = .fn (.func bh) [.ptr q 0] []:=by
  simp only [yT,hm]
 rw [cq M hR.strings_Replacer_Replace rfl (c:=dZ) rfl,dZ];simp (maxSteps:=3000000) (maxDischargeDepth:=6) +contextual -implicitDefEqProofs only [amC M,↓amD,Nat.reduceBEq,Nat.reduceAdd,env,ao,lS,amG,AV.cell,Nat.reduceMul,Nat.reduceLeDiff,rnc,h1,h2,l3,hi,hb]
theorem Ce(g:FuncId)(first cap args:List AV)(H:List AObj)(a:AObj)(X:List AObj)(T L:List Nat)(v:AV):sJ bK E .keep (.fn (.func g) first cap) args (H++[a]) T L (some (.ret v,H++a::X))=some (v,H++a::X,T,L):=by
 have h:(H++a::X).take (H++[a]).length=H++[a]:=by
  rw [show H++a::X=(H++[a])++X by simp];exact List.take_left' rfl
 unfold sJ pT;simp only [yf h,n9.b,if_true]
theorem zC(hS:so E)(hR:wK E)(hX:xL M)(hE:Cd M){x:ae}(hk:x.kind=1)(hl:x.text.length≤1000000000)(H:List AObj):M.run dU [.agg x.row] H=some (.ret (.str (dF x.text)),H):=by
 have hn:=fun H=>uL M hR H
 have g0:∀ X,(H++AObj.cells x.row aa::X)[H.length]?=some (.cells x.row aa):=fun X=>by rw [aR];rfl
 obtain ⟨H',h1,h2,h3⟩:=A8 M hR hX hE hl (H:=H++[AObj.cells x.row aa]++[AObj.tok 6 aI,AObj.cells [.int .u32 0,.int .i32 0,.int .u32 0,.nilif,.slice (.own (H++[AObj.cells x.row aa]).length) 1 (b7.map bu)] i5]) (r:=(H++[AObj.cells x.row aa]).length+1) (by rw [hp_getk];rfl)
 have hcut:dQ H H':=⟨by simp at h2;omega,fun i y hi hy=>.inl (by
  rw [h3 i (by simp;omega) (by simp;omega),List.append_assoc,List.getElem?_append_left hi] at hy;exact hy)⟩
 have htk:H'.take H.length=H:=List.ext_getElem? fun i=>by
  by_cases hi:i<H.length
  ·rw [List.getElem?_take_of_lt hi,h3 i (by simp;omega) (by simp;omega),List.append_assoc,List.getElem?_append_left hi]
  ·rw [List.getElem?_eq_none (by simp;omega),List.getElem?_eq_none (by omega)]
 have hh:=handV_drop hcut (wk_str H.length (dF x.text));rw [htk] at hh;have hsr:∀ s:Str,bu s=[.str s]:=fun _=>rfl
 simp only [b7,List.map_cons,List.map_nil,hsr,List.append_assoc,List.cons_append,List.nil_append,List.length_append,List.length_cons,List.length_nil,Nat.zero_add] at hn h1;rw [cq M hS.docs_written rfl (c:=gP) rfl,gP];cases hc:x.car<;>simp (maxSteps:=3000000) (maxDischargeDepth:=6) +contextual -implicitDefEqProofs only [amC M,↓amD,Nat.reduceBEq,Nat.reduceAdd,env,ao,cT,amG,AV.cell,Nat.reduceMul,Nat.reduceLeDiff,List.append_assoc,List.cons_append,List.nil_append,bg,g0,hk,hc,Ce,(show ((1:Int) == 2)=false from rfl),(show ((1:Int) == 3)=false from rfl),(show ((1:Int) == 4)=false from rfl),(show ((1:Int) == 5)=false from rfl),hn,h1,hh]
end
section
attribute [local congr] au bc aM aw aL aE aA ah aj aF aG
variable{E:aT}(M:bk bK E)
end
section
attribute [local congr] au bc aM aw aL aE aA ah aj aF aG
variable{E:aT}(M:bk bK E)
theorem su(c d:UInt8):((c.toNat:Int) == (d.toNat:Int))=(c == d):=by
 rw [Bool.eq_iff_iff,beq_iff_eq,beq_iff_eq];exact ⟨fun h=>UInt8.toNat_inj.1 (by omega),fun h=>by rw [h]⟩
theorem qB(c:UInt8):((c.toNat:Int) == 92)=(c == 92)∧((c.toNat:Int) == 60)=(c == 60)∧((c.toNat:Int) == 123)=(c == 123)∧((c.toNat:Int) == 125)=(c == 125)∧((c.toNat:Int) == 62)=(c == 62)∧((c.toNat:Int) == 47)=(c == 47)∧((c.toNat:Int) == 43)=(c == 43)∧((c.toNat:Int) == 32)=(c == 32)∧((c.toNat:Int) == 10)=(c == 10):=
 ⟨su c 92,su c 60,su c 123,su c 125,su c 62,su c 47,su c 43,su c 32,su c 10⟩
theorem D3(c:UInt8)(t:Str):dF (c::t)=(if ((c == 92)||(c == 60)||(c == 123))=true then [92,c] else [c])++dF t:=rfl
theorem rwl{x:ae}(hl:x.text.length≤140737488351232){H H0:List AObj}{p:Nat}{T:TypeId}(hp:H[p]?=some (.cells x.row T))(k:List Fra):∀ (n i:Nat) (He:List AObj) (a:Str),i+n=x.text.length→a.length≤2*i →
  M.go cL H0 (.c bM :: .lp ⟨(some [1,4,5]),[],false⟩ bM He :: .blk 1 :: .c (.lv [4])::k) (kv [(1,.ptr p 0),(4,.str a),(5,.int .i64 i)]) H=M.go cL H0 k (kv [(4,.str (a++dF (x.text.drop i)))]) H
 |0,i,He,a,h,ha=>by
  obtain rfl:i=x.text.length:=by omega
  rw [List.drop_length,show dF []=[] from rfl,List.append_nil];rw [aH M bM.eq_1];simp (maxSteps:=3000000) (maxDischargeDepth:=6) +contextual -implicitDefEqProofs only [amC M,↓amD,Nat.reduceBEq,Nat.reduceAdd,env,ao,aS,hp,bg,Nat.lt_irrefl]
 |n+1,i,He,a,h,ha=>by
  have hi:i<x.text.length:=by omega
  have hx:x.text[i]?=some x.text[i]:=List.getElem?_eq_getElem hi;have hd:x.text.drop i=x.text[i]::x.text.drop (i+1):=List.drop_eq_getElem_cons hi;rw [hd,D3]
  have hsl:yJ (.str x.text) (some (.int .i64 (i:Int))) (some (.int .i64 ((i+1:Nat):Int)))=some (.str [x.text[i]]):=by
   rw [FH (by omega) (by omega),hd,show i+1-i=1 by omega];rfl
  generalize x.text[i]=c at *
  have hws:IntKind.i64.wrap ((i:Int)+1)=((i+1:Nat):Int):=iX hi (by simp only [cf];omega);cases hc:(c == 92)||(c == 60)||(c == 123) with
  |true=>
   have ih:=fun He=>rwl (H0:=H0) hl hp k n (i+1) He (a++[92]++[c]) (by omega) (by simp;omega)
   have f1:a8 .add a [92]=some (.str (a++[92])):=bb (by simp;omega);have f2:a8 .add (a++[92]) [c]=some (.str (a++[92]++[c])):=bb (by simp;omega);rw [if_pos rfl,show a++([92,c]++dF (x.text.drop (i+1)))=a++[92]++[c]++dF (x.text.drop (i+1)) by simp];simp only [kv_cons,kv_nil] at ih ⊢;rw [aH M bM.eq_1];simp (maxSteps:=3000000) (maxDischargeDepth:=6) +contextual -implicitDefEqProofs only [amC M,↓amD,Nat.reduceBEq,Nat.reduceAdd,env,ao,aS,hp,bg,hi,hx,qB,hc,hsl,hws,f1,f2,ih]
  |false=>
   have ih:=fun He=>rwl (H0:=H0) hl hp k n (i+1) He (a++[c]) (by omega) (by simp;omega)
   have f2:a8 .add a [c]=some (.str (a++[c])):=bb (by simp;omega);rw [if_neg (by simp),show a++([c]++dF (x.text.drop (i+1)))=a++[c]++dF (x.text.drop (i+1)) by simp];simp only [kv_cons,kv_nil] at ih ⊢;rw [aH M bM.eq_1];simp (maxSteps:=3000000) (maxDischargeDepth:=6) +contextual -implicitDefEqProofs only [amC M,↓amD,Nat.reduceBEq,Nat.reduceAdd,env,ao,aS,hp,bg,hi,hx,qB,hc,hsl,hws,f2,ih]
theorem zD(hS:so E){x:ae}(hl:x.text.length≤140737488351232)(H:List AObj):M.run fb [.agg x.row] H=some (.ret (.str (wrF x)),H):=by
 rw [cq M hS.truchmanref01_written rfl (c:=fh) rfl,fh]
 by_cases e2:x.kind=2
 ·cases hc:x.car with
  |true=>
   have F1:a8 .add ([60]) [43]=some (.str (60::[43])):=bb (by simp);have F2:a8 .add ([60,43]) x.text=some (.str (60::43::x.text)):=bb (by simp;omega);have F3:a8 .add (60::43::x.text) [62]=some (.str (60::43::(x.text++[62]))):=bb (by simp;omega);simp (maxSteps:=3000000) (maxDischargeDepth:=6) +contextual -implicitDefEqProofs only [amC M,↓amD,Nat.reduceBEq,Nat.reduceAdd,env,ao,aS,amG,AV.cell,Nat.reduceMul,Nat.reduceLeDiff,bg,aR,e2,hc,(show ((2:Int) == 2)=true from rfl),(show ((2:Int) == 3)=false from rfl),(show ((2:Int) == 4)=false from rfl),(show ((2:Int) == 5)=false from rfl),F1,F2,F3,wrF,jf,cut_app,hp_take]
  |false=>
   have F1:a8 .add ([60]) []=some (.str (60::[])):=bb (by simp);have F2:a8 .add ([60]) x.text=some (.str (60::x.text)):=bb (by simp;omega);have F3:a8 .add (60::x.text) [62]=some (.str (60::(x.text++[62]))):=bb (by simp;omega);simp (maxSteps:=3000000) (maxDischargeDepth:=6) +contextual -implicitDefEqProofs only [amC M,↓amD,Nat.reduceBEq,Nat.reduceAdd,env,ao,aS,amG,AV.cell,Nat.reduceMul,Nat.reduceLeDiff,bg,aR,e2,hc,(show ((2:Int) == 2)=true from rfl),(show ((2:Int) == 3)=false from rfl),(show ((2:Int) == 4)=false from rfl),(show ((2:Int) == 5)=false from rfl),F1,F2,F3,wrF,jf,cut_app,hp_take]
 by_cases e3:x.kind=3
 ·cases hc:x.car with
  |true=>
   have F1:a8 .add ([60,47]) [43]=some (.str (60::47::[43])):=bb (by simp);have F2:a8 .add ([60,47,43]) x.text=some (.str (60::47::43::x.text)):=bb (by simp;omega);have F3:a8 .add (60::47::43::x.text) [62]=some (.str (60::47::43::(x.text++[62]))):=bb (by simp;omega);simp (maxSteps:=3000000) (maxDischargeDepth:=6) +contextual -implicitDefEqProofs only [amC M,↓amD,Nat.reduceBEq,Nat.reduceAdd,env,ao,aS,amG,AV.cell,Nat.reduceMul,Nat.reduceLeDiff,bg,aR,e3,hc,(show ((3:Int) == 2)=false from rfl),(show ((3:Int) == 3)=true from rfl),(show ((3:Int) == 4)=false from rfl),(show ((3:Int) == 5)=false from rfl),F1,F2,F3,wrF,jf,cut_app,hp_take]
  |false=>
   have F1:a8 .add ([60,47]) []=some (.str (60::47::[])):=bb (by simp);have F2:a8 .add ([60,47]) x.text=some (.str (60::47::x.text)):=bb (by simp;omega);have F3:a8 .add (60::47::x.text) [62]=some (.str (60::47::(x.text++[62]))):=bb (by simp;omega);simp (maxSteps:=3000000) (maxDischargeDepth:=6) +contextual -implicitDefEqProofs only [amC M,↓amD,Nat.reduceBEq,Nat.reduceAdd,env,ao,aS,amG,AV.cell,Nat.reduceMul,Nat.reduceLeDiff,bg,aR,e3,hc,(show ((3:Int) == 2)=false from rfl),(show ((3:Int) == 3)=true from rfl),(show ((3:Int) == 4)=false from rfl),(show ((3:Int) == 5)=false from rfl),F1,F2,F3,wrF,jf,cut_app,hp_take]
 by_cases e4:x.kind=4
 ·cases hc:x.car with
  |true=>
   have F2:a8 .add ([60]) x.text=some (.str (60::x.text)):=bb (by simp;omega);have F3:a8 .add (60::x.text) [47,62]=some (.str (60::(x.text++[47,62]))):=bb (by simp;omega);simp (maxSteps:=3000000) (maxDischargeDepth:=6) +contextual -implicitDefEqProofs only [amC M,↓amD,Nat.reduceBEq,Nat.reduceAdd,env,ao,aS,amG,AV.cell,Nat.reduceMul,Nat.reduceLeDiff,bg,aR,e4,hc,(show ((4:Int) == 2)=false from rfl),(show ((4:Int) == 3)=false from rfl),(show ((4:Int) == 4)=true from rfl),(show ((4:Int) == 5)=false from rfl),F2,F3,wrF,jf,cut_app,hp_take]
  |false=>
   have F2:a8 .add ([60]) x.text=some (.str (60::x.text)):=bb (by simp;omega);have F3:a8 .add (60::x.text) [47,62]=some (.str (60::(x.text++[47,62]))):=bb (by simp;omega);simp (maxSteps:=3000000) (maxDischargeDepth:=6) +contextual -implicitDefEqProofs only [amC M,↓amD,Nat.reduceBEq,Nat.reduceAdd,env,ao,aS,amG,AV.cell,Nat.reduceMul,Nat.reduceLeDiff,bg,aR,e4,hc,(show ((4:Int) == 2)=false from rfl),(show ((4:Int) == 3)=false from rfl),(show ((4:Int) == 4)=true from rfl),(show ((4:Int) == 5)=false from rfl),F2,F3,wrF,jf,cut_app,hp_take]
 by_cases e5:x.kind=5
 ·cases hc:x.car with
  |true=>
   have F2:a8 .add ([123]) x.text=some (.str (123::x.text)):=bb (by simp;omega);have F3:a8 .add (123::x.text) [125]=some (.str (123::(x.text++[125]))):=bb (by simp;omega);simp (maxSteps:=3000000) (maxDischargeDepth:=6) +contextual -implicitDefEqProofs only [amC M,↓amD,Nat.reduceBEq,Nat.reduceAdd,env,ao,aS,amG,AV.cell,Nat.reduceMul,Nat.reduceLeDiff,bg,aR,e5,hc,(show ((5:Int) == 2)=false from rfl),(show ((5:Int) == 3)=false from rfl),(show ((5:Int) == 4)=false from rfl),(show ((5:Int) == 5)=true from rfl),F2,F3,wrF,jf,cut_app,hp_take]
  |false=>
   have F2:a8 .add ([123]) x.text=some (.str (123::x.text)):=bb (by simp;omega);have F3:a8 .add (123::x.text) [125]=some (.str (123::(x.text++[125]))):=bb (by simp;omega);simp (maxSteps:=3000000) (maxDischargeDepth:=6) +contextual -implicitDefEqProofs only [amC M,↓amD,Nat.reduceBEq,Nat.reduceAdd,env,ao,aS,amG,AV.cell,Nat.reduceMul,Nat.reduceLeDiff,bg,aR,e5,hc,(show ((5:Int) == 2)=false from rfl),(show ((5:Int) == 3)=false from rfl),(show ((5:Int) == 4)=false from rfl),(show ((5:Int) == 5)=true from rfl),F2,F3,wrF,jf,cut_app,hp_take]
 have g2:(x.kind == 2)=false:=by simpa using e2
 have g3:(x.kind == 3)=false:=by simpa using e3
 have g4:(x.kind == 4)=false:=by simpa using e4
 have g5:(x.kind == 5)=false:=by simpa using e5
 have hlp:=fun k He=>rwl M hl (H:=H++[.cells x.row aa]) (H0:=H) (p:=H.length) (T:=aa) (by rw [aR];rfl) k x.text.length 0 He [] (by omega) (by simp)
 simp only [kv_cons,kv_nil,Int.ofNat_zero,List.drop_zero,List.nil_append] at hlp;cases hc:x.car with
 |true=>simp (maxSteps:=3000000) (maxDischargeDepth:=6) +contextual -implicitDefEqProofs only [amC M,↓amD,Nat.reduceBEq,Nat.reduceAdd,env,ao,aS,amG,AV.cell,Nat.reduceMul,Nat.reduceLeDiff,bg,aR,hc,g2,g3,g4,g5,hlp,wrF,cut_app,hp_take]
 |false=>simp (maxSteps:=3000000) (maxDischargeDepth:=6) +contextual -implicitDefEqProofs only [amC M,↓amD,Nat.reduceBEq,Nat.reduceAdd,env,ao,aS,amG,AV.cell,Nat.reduceMul,Nat.reduceLeDiff,bg,aR,hc,g2,g3,g4,g5,hlp,wrF,cut_app,hp_take]
end
structure Un where
 r:Int
 hole:Bool
def Un.row(x:Un):List AV:=[.int .i32 x.r,.bool x.hole]
structure Un.ok (n:Nat) (x:Un):Prop where
 triv:True
theorem Un.ok.mono{n m:Nat}{x:Un}(h:x.ok n)(hn:n≤m):x.ok m:=⟨trivial⟩
structure Fit where
 cls:Bool
 r:Int
def Fit.row(x:Fit):List AV:=[.bool x.cls,.int .i32 x.r]
structure Fit.ok (n:Nat) (x:Fit):Prop where
 triv:True
theorem Fit.ok.mono{n m:Nat}{x:Fit}(h:x.ok n)(hn:n≤m):x.ok m:=⟨trivial⟩
section
attribute [local congr] au bc aM aw aL aE aA ah aj aF aG
variable{E:aT}(M:bk bK E)
structure I9 (E:aT):Prop where
 truchmanref01_Plain:E.fn fO=some dc
end
section
attribute [local congr] au bc aM aw aL aE aA ah aj aF aG
variable{E:aT}(M:bk bK E)
end
section
attribute [local congr] au bc aM aw aL aE aA ah aj aF aG
variable{E:aT}(M:bk bK E)
end
section
attribute [local congr] au bc aM aw aL aE aA ah aj aF aG
variable{E:aT}(M:bk bK E)
end
section
attribute [local congr] au bc aM aw aL aE aA ah aj aF aG
variable{E:aT}(M:bk bK E)
end
section
attribute [local congr] au bc aM aw aL aE aA ah aj aF aG
variable{E:aT}(M:bk bK E)
end
section
attribute [local congr] au bc aM aw aL aE aA ah aj aF aG
variable{E:aT}(M:bk bK E)
end
section
attribute [local congr] au bc aM aw aL aE aA ah aj aF aG
variable{E:aT}(M:bk bK E)
end
section
attribute [local congr] au bc aM aw aL aE aA ah aj aF aG
variable{E:aT}(M:bk bK E)
def gq:List ae→Str
 |[]=>[]
 |x::l=>sel (x.kind == 1) x.text []++gq l
theorem rpn{H H0:List AObj}{l:List ae}{tg:Tag}(hl:l.length≤cf)(k:List Fra):∀ (n i:Nat) (w:Str) (He:List AObj),i+n=l.length→w.length+(gq (l.drop i)).length≤1000000 →
  M.go dc H0 (.c bY :: .lp ⟨(some [0,3,4]),[],false⟩ bY He :: .blk 0 :: .c (.lv [3])::k) (kv [(0,.slice tg 3 (l.map ae.row)),(3,.str w),(4,.int .i64 i)]) H =
   M.go dc H0 k (kv [(3,.str (w++gq (l.drop i)))]) H
 |0,i,w,He,h,hw=>by
  have e:i=l.length:=by omega
  subst e;rw [aH M bY.eq_1];simp (maxSteps:=3000000) (maxDischargeDepth:=6) +contextual -implicitDefEqProofs only [amC M,↓amD,Nat.reduceBEq,Nat.reduceAdd,env,ao,ee,Nat.lt_irrefl,List.drop_length,gq,List.append_nil]
 |n+1,i,w,He,h,hw=>by
  have hi:i<l.length:=by omega
  have hx:l[i]?=some l[i]:=List.getElem?_eq_getElem hi;have hd:(l.drop i)=l[i]::l.drop (i+1):=List.drop_eq_getElem_cons hi;have hwi:=iX (n:=l.length) hi hl;rw [hd,gq] at hw ⊢;cases h1:l[i].kind == 1 with
  |true=>
   rw [h1,sel_true,List.length_append] at hw;have ih:=fun He=>rpn (H:=H) (H0:=H0) (tg:=tg) hl k n (i+1) (w++l[i].text) He (by omega) (by rw [List.length_append];omega)
   simp only [kv_cons,kv_nil] at ih;have ha:=bb (s:=w) (t:=l[i].text) (by omega);rw [sel_true,← List.append_assoc];rw [aH M bY.eq_1];simp (maxSteps:=3000000) (maxDischargeDepth:=6) +contextual -implicitDefEqProofs only [amC M,↓amD,Nat.reduceBEq,Nat.reduceAdd,env,ao,ee,hi,hx,h1,ih,ha,bD hi,bg,hwi]
  |false=>
   rw [h1,sel_false,List.nil_append] at hw;have ih:=fun He=>rpn (H:=H) (H0:=H0) (tg:=tg) hl k n (i+1) w He (by omega) hw
   simp only [kv_cons,kv_nil] at ih;rw [sel_false,List.nil_append];rw [aH M bY.eq_1];simp (maxSteps:=3000000) (maxDischargeDepth:=6) +contextual -implicitDefEqProofs only [amC M,↓amD,Nat.reduceBEq,Nat.reduceAdd,env,ao,ee,hi,hx,h1,ih,bD hi,bg,hwi]
theorem D4(hU:I9 E){l:List ae}{tg:Tag}(hl:l.length≤cf)(hp:(gq l).length≤1000000)(H:List AObj):M.run fO [.slice tg 3 (l.map ae.row)] H=some (.ret (.str (gq l)),H):=by
 rw [cq M hU.truchmanref01_Plain rfl (c:=fW) rfl,fW];have h1:=fun k He=>rpn M (H:=H) (H0:=H) (tg:=tg) hl k l.length 0 [] He (by omega) (by simpa using hp)
 simp only [kv_cons,kv_nil,Int.ofNat_zero,List.drop_zero,List.nil_append] at h1;simp (maxSteps:=3000000) (maxDischargeDepth:=6) +contextual -implicitDefEqProofs only [amC M,↓amD,Nat.reduceBEq,Nat.reduceAdd,env,ao,ee,h1,hp_self,cut_refl]
end
section
attribute [local congr] au bc aM aw aL aE aA ah aj aF aG
variable{E:aT}(M:bk bK E)
def CY(v:AV):List AV:=[v]
end
section
attribute [local congr] au bc aM aw aL aE aA ah aj aF aG
variable{E:aT}(M:bk bK E)
end
section
attribute [local congr] au bc aM aw aL aE aA ah aj aF aG
variable{E:aT}(M:bk bK E)
structure UntE (E:aT):Prop where
 seq:E.seq lN=uR
 sar:E.sar lN=1
theorem JS{α:Type}{row:α→List AV}{l:List α}{x:α}{r:List AV}{sz bytes t:Nat}{e:TypeId}{H:List AObj}(ht:H[t]?=some (.tok (l.length*sz) e))(h1:r.length=sz)(h2:r.all AV.cell=true)(h3:r.map AV.strip=row x)
  (hl:(l.length+1)*bytes≤140737488355328) (hl2:l.length+1≤4611686018427387904) :
  rap false H e sz bytes false (.slice (.own t) sz (l.map row)) (.slice .full sz [r])=some (.slice (.own t) sz ((l++[x]).map row),H.set t (.tok ((l++[x]).length*sz) e)):=by
 simp only [rap,tO,nB,List.length_map,List.length_cons,List.length_nil,Nat.zero_add,or_true,if_true,hl,hl2,vS h1 h2,and_true,true_and,ht,List.map_cons,List.map_nil,h3,List.map_append,List.length_append,Nat.add_mul,Nat.one_mul];rw [Nat.add_mul,Nat.one_mul] at hl;rw [if_pos hl]
end
section
attribute [local congr] au bc aM aw aL aE aA ah aj aF aG
variable{E:aT}(M:bk bK E)
end
section
attribute [local congr] au bc aM aw aL aE aA ah aj aF aG
variable{E:aT}(M:bk bK E)
def qE(p:Sl ae):List AV:=[.slice p.tag 3 (p.l.map ae.row)]
theorem qPl:(∀ p:Sl ae,b9 none (qE p) 0=some (.slice p.tag 3 (p.l.map ae.row)))∧(∀ p:Sl ae,pg 1 (qE p)=some (qE p))∧(∀ p:Sl ae,(qE p).length=1):=⟨fun _=>rfl,fun _=>rfl,fun _=>rfl⟩
def ni(n:Nat):List ae→Nat
 |[]=>n
 |x::l=>if n<5000 then ni (n+x.text.length) l else n
def sv(n:Nat):List (Sl ae)→Nat
 |[]=>n
 |p::ps=>sv (ni (n+p.l.length) p.l) ps
def A9(ps:List (Sl ae)):Bool:=decide (2500<sv 0 ps)
theorem zE:∀ (l:List ae) (n:Nat),5000≤n→ni n l=n
 |[],n,_=>rfl
 |x::l,n,h=>by rw [ni,if_neg (by omega)]
theorem CZ:∀ (l:List ae) (n:Nat),(∀ x∈l,x.text.length≤cf)→n<5000→ni n l≤cf+5000
 |[],n,_,hn=>by rw [ni];simp only [cf];omega
 |x::l,n,h,hn=>by
  rw [ni,if_pos hn];have h1:=h x List.mem_cons_self
  by_cases h2:n+x.text.length<5000
  ·exact CZ l (n+x.text.length) (fun y hy=>h y (List.mem_cons_of_mem _ hy)) h2
  ·rw [zE l _ (by omega)];omega
theorem F8(l:List ae)(n:Nat)(h:∀ x∈l,x.text.length≤cf):ni n l≤n+cf+5000:=by
 by_cases hn:n<5000
 ·have:=CZ l n h hn;omega
 ·rw [zE l n (by omega)];omega
theorem tf:∀ (l:List ae) (n:Nat),n≤ni n l
 |[],n=>Nat.le_refl _
 |x::l,n=>by
  rw [ni];split
  ·have:=tf l (n+x.text.length);omega
  ·exact Nat.le_refl _
theorem yp:∀ (ps:List (Sl ae)) (n:Nat),n≤sv n ps
 |[],n=>Nat.le_refl _
 |p::ps,n=>by
  rw [sv];have h1:=tf p.l (n+p.l.length);have h2:=yp ps (ni (n+p.l.length) p.l);omega
def rk(l:List ae):Nat:=(l.map fun x=>x.text.length).sum
theorem C0:∀ (l:List ae) (n:Nat),ni n l≤2500→ni n l=n+rk l
 |[],n,_=>by simp [ni,rk]
 |x::l,n,h=>by
  have h0:n<5000:=by have:=tf (x::l) n;omega
  rw [ni,if_pos h0] at h ⊢;rw [C0 l _ h,rk,rk,List.map_cons,List.sum_cons];omega
def F9(ps:List (Sl ae)):Nat:=(ps.map fun p=>p.l.length+rk p.l).sum
theorem C1:∀ (ps:List (Sl ae)) (n:Nat),sv n ps≤2500→sv n ps=n+F9 ps
 |[],n,_=>by simp [sv,F9]
 |p::ps,n,h=>by
  rw [sv] at h ⊢;have h0:=yp ps (ni (n+p.l.length) p.l);rw [C1 ps _ h,C0 p.l _ (by omega),F9,F9,List.map_cons,List.sum_cons];omega
theorem D5{p:Sl ae}(h:A9 [p]=false):p.l.length+rk p.l≤2500:=by
 have h1:sv 0 [p]≤2500:=by have:=of_decide_eq_false h;omega
 have h2:=C1 [p] 0 h1;simp only [F9,List.map_cons,List.map_nil,List.sum_cons,List.sum_nil] at h2;omega
theorem Ga{l:List ae}{x:ae}(h:x∈l):x.text.length≤rk l:=by
 induction l with
 |nil=>cases h
 |cons y l ih=>
  rw [rk,List.map_cons,List.sum_cons];rcases List.mem_cons.1 h with rfl | h
  ·omega
  ·have:=ih h;unfold rk at this;omega
theorem wN:∀ l:List ae,(gq l).length≤rk l
 |[]=>by simp [gq]
 |x::l=>by
  have h2:=wN l;rw [gq,List.length_append,rk,List.map_cons,List.sum_cons];unfold rk at h2;cases x.kind == 1
  ·rw [sel_false,List.length_nil];omega
  ·rw [sel_true];omega
theorem lgi{H H0:List AObj}{ps:List (Sl ae)}{tg:Tag}{j:Nat}{p:Sl ae}(hp:ps[j]?=some p)(hj:j<ps.length)(hpl:p.l.length≤cf)(hpt:∀ x∈p.l,x.text.length≤cf)(hc:dQ H0 H)(k:List Fra):∀ (n i:Nat) (n2:Nat) (hn:n2≤1000000000000000000) (He:List AObj),i+n=(p.l).length →
  M.go b3 H0 (.c cg :: .lp ⟨(some [0,3,4,5]),[],false⟩ cg He :: .blk 2 :: .c (.lv [0,3,4])::k) (kv [(0,.slice tg 1 (ps.map qE)),(3,.int .i64 n2),(4,.int .i64 j),(5,.int .i64 i)]) H =
   (M.go b3 H0 k (kv [(0,.slice tg 1 (ps.map qE)),(3,.int .i64 (ni n2 (p.l.drop i):Nat)),(4,.int .i64 j)]) (H))
 |0,i,n2,hn,He,h=>by
  have e:i=(p.l).length:=by omega
  subst e;rw [aH M cg.eq_1];simp (maxSteps:=3000000) (maxDischargeDepth:=6) +contextual -implicitDefEqProofs only [amC M,↓amD,Nat.reduceBEq,Nat.reduceAdd,env,ao,cJ,Nat.lt_irrefl,List.drop_length,hp,hpl,qPl,bD hj,ni]
 |n+1,i,n2,hn,He,h=>by
  have hi:i<(p.l).length:=by omega
  have hx:(p.l)[i]?=some (p.l)[i]:=List.getElem?_eq_getElem hi;have hd:((p.l).drop i)=(p.l)[i]::(p.l).drop (i+1):=List.drop_eq_getElem_cons hi;have hm:(p.l)[i]∈(p.l):=List.getElem_mem hi;have ih:=fun n2 hn He=>lgi (H:=H) (H0:=H0) (ps:=ps) (tg:=tg) (j:=j) (p:=p) (hp:=hp) (hj:=hj) (hpl:=hpl) (hpt:=hpt) hc k n (i+1) n2 hn He (by omega)
  simp only [kv_cons,kv_nil] at ih;have hij:=bD (row:=qE) (tag:=tg) (sz:=1) (k:=.i64) hj;have hir:=bD (row:=ae.row) (tag:=p.tag) (sz:=3) (k:=.i64) hi;have hwi:=iX (n:=p.l.length) hi hpl;have hmt:=hpt _ hm
  by_cases h5:n2<5000
  ·have d5:decide ((n2:Int)<5000)=true:=decide_eq_true (by omega)
   have hw2:IntKind.i64.wrap ((n2:Int)+(p.l[i].text.length:Int))=((n2+p.l[i].text.length:Nat):Int):=by rw [ey (by omega) (by simp only [cf] at hmt;omega)];omega
   have ih:=ih (n2+p.l[i].text.length) (by simp only [cf] at hmt;omega);rw [hd,ni,if_pos h5];rw [aH M cg.eq_1];simp (maxSteps:=3000000) (maxDischargeDepth:=6) +contextual -implicitDefEqProofs only [amC M,↓amD,Nat.reduceBEq,Nat.reduceAdd,env,ao,cJ,hi,hx,hp,hd,d5,ih,hij,hir,hwi,hw2,qPl,bg]
  ·have d5:decide ((n2:Int)<5000)=false:=decide_eq_false (by omega)
   rw [zE _ _ (by omega)];rw [aH M cg.eq_1];simp (maxSteps:=3000000) (maxDischargeDepth:=6) +contextual -implicitDefEqProofs only [amC M,↓amD,Nat.reduceBEq,Nat.reduceAdd,env,ao,cJ,hi,hx,hp,hd,d5,hij,hir,qPl,bg]
theorem lgo{H H0:List AObj}{ps:List (Sl ae)}{tg:Tag}(hps:ps.length≤100)(hpl:∀ p∈ps,p.l.length≤cf∧∀ x∈p.l,x.text.length≤cf)(hc:dQ H0 H)(k:List Fra):∀ (n i:Nat) (n2:Nat) (hn:n2≤i*300000000000000) (He:List AObj),i+n=ps.length →
  M.go b3 H0 (.c cS :: .lp ⟨(some [0,3,4]),[],false⟩ cS He :: .blk 0 :: .c (.lv [3])::k) (kv [(0,.slice tg 1 (ps.map qE)),(3,.int .i64 n2),(4,.int .i64 i)]) H =
   (M.go b3 H0 k (kv [(3,.int .i64 (sv n2 (ps.drop i):Nat))]) (H))
 |0,i,n2,hn,He,h=>by
  have e:i=ps.length:=by omega
  subst e;rw [aH M cS.eq_1];simp (maxSteps:=3000000) (maxDischargeDepth:=6) +contextual -implicitDefEqProofs only [amC M,↓amD,Nat.reduceBEq,Nat.reduceAdd,env,ao,cJ,Nat.lt_irrefl,List.drop_length,sv]
 |n+1,i,n2,hn,He,h=>by
  have hi:i<ps.length:=by omega
  have hx:ps[i]?=some ps[i]:=List.getElem?_eq_getElem hi;have hd:(ps.drop i)=ps[i]::ps.drop (i+1):=List.drop_eq_getElem_cons hi;have hm:ps[i]∈ps:=List.getElem_mem hi;have ih:=fun n2 hn He=>lgo (H:=H) (H0:=H0) (ps:=ps) (tg:=tg) (hps:=hps) (hpl:=hpl) hc k n (i+1) n2 hn He (by omega)
  simp only [kv_cons,kv_nil] at ih;have hij:=bD (row:=qE) (tag:=tg) (sz:=1) (k:=.i64) hi;have hwi:=iX (n:=ps.length) hi (by simp only [cf];omega);have hq:=hpl _ hm;have hq1:ps[i].l.length≤140737488351232:=hq.1;have hw2:IntKind.i64.wrap ((n2:Int)+(ps[i].l.length:Int))=((n2+ps[i].l.length:Nat):Int):=by rw [ey (by omega) (by omega)];omega
  have hb:=F8 ps[i].l (n2+ps[i].l.length) hq.2;have hz:=fun k He=>lgi M (H:=H) (H0:=H0) (ps:=ps) (tg:=tg) (j:=i) (p:=ps[i]) hx hi hq.1 hq.2 hc k ps[i].l.length 0 (n2+ps[i].l.length) (by omega) He (by omega)
  have ih:=ih (ni (n2+ps[i].l.length) ps[i].l) (by simp only [cf] at hb;omega);simp only [kv_cons,kv_nil,Int.ofNat_zero,List.drop_zero] at hz;rw [hd,sv];rw [aH M cS.eq_1];simp (maxSteps:=3000000) (maxDischargeDepth:=6) +contextual -implicitDefEqProofs only [amC M,↓amD,Nat.reduceBEq,Nat.reduceAdd,env,ao,cJ,hi,hx,ih,hz,hij,hwi,hw2,qPl,List.length_map]
theorem Gb(hB:nS E){ps:List (Sl ae)}{tg:Tag}(hps:ps.length≤100)(hpl:∀ p∈ps,p.l.length≤cf∧∀ x∈p.l,x.text.length≤cf)(H:List AObj) :
  M.run dt [.slice tg 1 (ps.map qE)] H=some (.ret (.bool (A9 ps)),H):=by
 rw [cq M hB.truchmanlaw01_long rfl (c:=gN) rfl,gN];have h1:=fun k He=>lgo M (tg:=tg) hps hpl (cut_refl H) k ps.length 0 0 (by omega) He (by omega)
 simp only [kv_cons,kv_nil,Int.ofNat_zero,List.drop_zero] at h1;have h2:decide ((2500:Int)<(sv 0 ps:Int))=decide (2500<sv 0 ps):=by rw [Bool.eq_iff_iff];simp;omega
 simp (maxSteps:=3000000) (maxDischargeDepth:=6) +contextual -implicitDefEqProofs only [amC M,↓amD,Nat.reduceBEq,Nat.reduceAdd,env,ao,cJ,h1,h2,A9]
theorem D6(hB:nS E){l:Sl ae}(h:l.ok 0 (ae.ok 0))(H:List AObj):M.run dt [.slice .full 1 [[.slice l.tag.strip 3 (l.l.map ae.row)]]] H=some (.ret (.bool (A9 [l])),H):=
 Gb M hB (tg:=.full) (ps:=[⟨l.tag.strip,l.l⟩]) (by simp) (fun p hp=>by
  rw [List.mem_singleton] at hp;subst hp;exact ⟨h.len,fun x hx=>(h.all x hx).text⟩) H
end
section
attribute [local congr] au bc aM aw aL aE aA ah aj aF aG
variable{E:aT}(M:bk bK E)
structure Ja (E:aT):Prop where
 docs_Plain:E.fn nJ=some jG
def pcC(l:List ae):List AV:=(l.map ae.row).flatten
theorem C2(l m:List ae):pcC (l++m)=pcC l++pcC m:=by simp [pcC]
theorem HI(x:ae):pcC [x]=[.int .u8 x.kind,.str x.text,.bool x.car]:=rfl
theorem zF:∀ l:List ae,(pcC l).length=l.length*3
 |[]=>rfl
 |x::l=>by
  have:=zF l;rw [show pcC (x::l)=pcC [x]++pcC l from C2 [x] l,List.length_append,this,HI,List.length_cons];simp;omega
def PcV(H:List AObj)(v:AV)(l:List ae):Prop:=(l=[]∧v = .slice .nil 3 [])∨(l≠[]∧∃ Q,v = .rslice Q 0 l.length 3 true∧H[Q]?=some (.cells (pcC l) aa))
def below(q:Nat)(v:AV):Prop:=∀ Q o n e r,v = .rslice Q o n e r→Q<q
def C3(q:Nat)(v:AV):Prop:=∀ Q o n e r,v = .rslice Q o n e r→q≤Q
def OpV(H:List AObj)(v:AV)(l:List Str):Prop:=(l=[]∧v = .slice .nil 1 [])∨∃ O junk,v = .rslice O 0 l.length 1 true∧H[O]?=some (.cells (qi l++junk) aI)
def Cf(l:List ae)(p:ae):List ae:=
 match l.getLast? with
 |some x=>sel (p.kind == 1&&x.kind == 1) (l.dropLast++[{ x with text:=x.text++p.text }]) (l++[p])
 |none=>[p]
structure CSt where
 done:List (List ae)
 cur:List ae
 pos:List Int
 place:Nat
 due:Bool
 opn:List Str
def free(R:Nat→Prop)(v:AV):Prop:=∀ Q o n e r,v = .rslice Q o n e r→¬ R Q
structure Cg (R:Nat→Prop) (c:Nat) (H:List AObj) (S:CSt) (P q:Nat) (vs:List AV) (v:AV) (ta:Tag) (ov:AV):Prop where
 hn:¬ R c
 hP:¬ R P
 rl:∀ i,R i→i<H.length
 cell:H[c]?=some (.cells [.rslice P 0 (S.done.length+1) 1 true,.slice ta 1 (S.pos.map IN),.int .i64 S.place,.bool S.due,ov] iO)
 par:H[P]?=some (.cells (vs++[v]) aP)
 len:vs.length=S.done.length
 dn:∀ (i:Nat) (w:AV) (l:List ae),vs[i]?=some w→S.done[i]?=some l→PcV H w l∧below q w∧free R w
 cr:PcV H v S.cur
 ab:C3 q v
 pr:free R v
 ql:q≤H.length
 op:OpV H ov S.opn
 oa:free R ov
 tg:ta = .any∨ta = .some∨S.pos=[]∨∃ t,ta = .own t
def wO(R:Nat→Prop)(c:Nat)(H:List AObj)(S:CSt):Prop:=∃ P q vs v ta ov,Cg R c H S P q vs v ta ov
structure Frm (R:Nat→Prop) (H H':List AObj):Prop where
 len:H.length≤H'.length
 low:∀ i,R i→H'[i]?=H[i]?
 it:∀ (i:Nat) s pos,H[i]?=some (.siter s pos)→H'[i]?=some (.siter s pos)
theorem Frm.refl(R:Nat→Prop)(H:List AObj):Frm R H H:=⟨Nat.le_refl _,fun _ _=>rfl,fun _ _ _ h=>h⟩
theorem Frm.trans{R:Nat→Prop}{A B C:List AObj}(h:Frm R A B)(k:Frm R B C):Frm R A C:=⟨Nat.le_trans h.len k.len,fun i hi=>(k.low i hi).trans (h.low i hi),fun i s p e=>k.it i s p (h.it i s p e)⟩
theorem Frm.mono{R R':Nat→Prop}{A B:List AObj}(h:Frm R A B)(hr:∀ i,R' i→R i):Frm R' A B:=⟨h.len,fun i hi=>h.low i (hr i hi),h.it⟩
theorem Frm.app{R:Nat→Prop}(H X:List AObj)(hn:∀ i,R i→i<H.length):Frm R H (H++X):=⟨by simp,fun i hi=>List.getElem?_append_left (hn i hi),fun i s p h=>ir h⟩
theorem Frm.set{R:Nat→Prop}{H:List AObj}{k:Nat}{cs:List AV}{T:TypeId}(x:AObj)(hk:¬ R k)(h:H[k]?=some (.cells cs T)):Frm R H (H.set k x):=
 ⟨by simp,fun i hi=>List.getElem?_set_ne (fun e=>hk (by rw [e];exact hi)),fun i s p e=>by
  rw [List.getElem?_set_ne (fun ek=>by subst ek;rw [h] at e;cases e)];exact e⟩
theorem PcV.stay{H H':List AObj}{v:AV}{l:List ae}(h:PcV H v l)(hs:∀ (Q:Nat) (cs:List AV),v = .rslice Q 0 l.length 3 true→H[Q]?=some (AObj.cells cs aa)→H'[Q]?=some (AObj.cells cs aa)):PcV H' v l:=by
 rcases h with h | ⟨h1,Q,h2,h3⟩
 ·exact .inl h
 ·exact .inr ⟨h1,Q,h2,hs Q _ h2 h3⟩
theorem OpV.stay{H H':List AObj}{v:AV}{l:List Str}(h:OpV H v l)(hs:∀ (O:Nat) (cs:List AV),H[O]?=some (AObj.cells cs aI)→H'[O]?=some (AObj.cells cs aI)):OpV H' v l:=by
 rcases h with h | ⟨O,junk,h1,h2⟩
 ·exact .inl h
 ·exact .inr ⟨O,junk,h1,hs O _ h2⟩
theorem JT:aa≠iO:=by decide
theorem JU:aa≠aP:=by decide
theorem Ba:aI≠aa:=by decide
theorem Im:aI≠aP:=by decide
theorem JV:aP≠iO:=by decide
theorem yq(p:ae):lG 3 [p.row]=true:=rfl
theorem Gc{H:List AObj}{v:AV}{l:List ae}(h:PcV H v l):v.cell=true∧bR v=some [v]:=by
 rcases h with ⟨rfl,rfl⟩ | ⟨_,Q,rfl,_⟩<;>exact ⟨rfl,rfl⟩
theorem JW{G:List AObj}{v:AV}{l:List ae}(h:PcV G v l)(hl:l.length≤100000000)(p:ae) :
  ∃ G',rap true G aa 3 32 false v (.slice .full 3 [p.row])=some (.rslice G.length 0 (l.length+1) 3 true,G')∧G'[G.length]?=some (.cells (pcC (l++[p])) aa)∧G'.length=G.length+1∧∀ i,i<G.length→(∀ Q,v = .rslice Q 0 l.length 3 true→i≠Q)→G'[i]?=G[i]? := by
 rcases h with ⟨rfl,rfl⟩ | ⟨_,Q,rfl,hg⟩
 ·refine ⟨G++[.cells (pcC [p]) aa], ?_,by rw [aR];rfl,by simp,fun i hi _=>List.getElem?_append_left hi⟩
  simp only [rap,lH,nB,or_true,if_true,yq];rw [if_pos (by simp)];rfl
 ·have hlt:=gp hg
  have hlen:l.length*3≤(pcC l).length:=by rw [zF];omega
  refine ⟨G.set Q .dead++[.cells (pcC (l++[p])) aa], ?_, ?_,by simp,fun i hi hne => ?_⟩
  ·simp only [rap,lH,nB,or_true,if_true,yq,hg]
   rw [if_pos ⟨trivial,trivial,hlen,by simp;omega,by simp;omega⟩];rw [List.take_of_length_le (by rw [zF];omega),C2];rfl
  ·rw [show G.length=(G.set Q .dead).length by simp,aR];rfl
  ·rw [List.getElem?_append_left (by simp;omega),List.getElem?_set_ne (fun e=>hne Q rfl e.symm)]
end
section
attribute [local congr] au bc aM aw aL aE aA ah aj aF aG
variable{E:aT}(M:bk bK E)
theorem Kc{H:List AObj}{i j:Nat}{cs ds:List AV}{T T':TypeId}(h1:H[i]?=some (.cells cs T))(h2:H[j]?=some (.cells ds T'))(hT:T≠T'):i≠j:=fun e=>by
 subst e;rw [h1] at h2;injection h2 with h2;injection h2 with _ h3;exact hT h3
theorem Gd{H:List AObj}{v:AV}{l:List ae}(h:PcV H v l){Q:Nat}(e:v = .rslice Q 0 l.length 3 true):∃ cs,H[Q]?=some (.cells cs aa):=by
 rcases h with ⟨_,h⟩ | ⟨_,Q',h1,h2⟩
 ·rw [h] at e;cases e
 ·rw [h1] at e;cases e;exact ⟨_,h2⟩
def StK(H H':List AObj):Prop:=∀ (O:Nat) (cs:List AV),H[O]?=some (AObj.cells cs aI)→H'[O]?=some (AObj.cells cs aI)
theorem Cg.turned{R:Nat→Prop}{c:Nat}{H H2:List AObj}{S:CSt}{P q:Nat}{vs:List AV}{v w:AV}{ta:Tag}{ov:AV}(h:Cg R c H S P q vs v ta ov){cur:List ae}
  (hlen:H.length≤H2.length) (hs:∀ i y,H[i]?=some y→(∀ Q,v = .rslice Q 0 S.cur.length 3 true→i≠Q)→i≠P→H2[i]?=some y)
  (hpar:H2[P]?=some (.cells (vs++[w]) aP)) (hw:PcV H2 w cur) (hwa:C3 q w) (hwf:free R w):Cg R c H2 { S with cur:=cur } P q vs w ta ov∧Frm R H H2∧StK H H2:=by
 have hP:=h.par
 have nq:∀ (i:Nat) (cs:List AV) (T:TypeId),H[i]?=some (.cells cs T)→T≠aa→∀ Q,v = .rslice Q 0 S.cur.length 3 true→i≠Q:=fun i cs T hi hT Q e ei=>by
  obtain ⟨ds,hd⟩:=Gd h.cr e;subst ei;rw [hi] at hd;cases hd;exact hT rfl
 have np:∀ (i:Nat) (cs:List AV) (T:TypeId),H[i]?=some (.cells cs T)→T≠aP→i≠P:=fun i cs T hi hT ei=>by
  subst ei;rw [hi] at hP;cases hP;exact hT rfl
 have hlow:∀ i,R i→H2[i]?=H[i]? := fun i hi=>by
  have hin:=h.rl i hi;rw [List.getElem?_eq_getElem hin];refine hs i _ (List.getElem?_eq_getElem hin) (fun Q e ei => ?_) (fun e => ?_)
  ·exact h.pr Q _ _ _ _ e (ei ▸ hi)
  ·exact h.hP (e ▸ hi)
 refine ⟨⟨h.hn,h.hP,fun i hi=>Nat.lt_of_lt_of_le (h.rl i hi) hlen,hs c _ h.cell (nq c _ _ h.cell JT.symm) (np c _ _ h.cell JV.symm),hpar,h.len,fun i w' l hi hl => ?_,hw,hwa,hwf,Nat.le_trans h.ql hlen,h.op.stay fun O cs hO=>hs O _ hO (nq O _ _ hO Ba) (np O _ _ hO Im),h.oa,h.tg⟩,⟨hlen,hlow,fun i s pos hi=>hs i _ hi (fun Q e ei => ?_) (fun e => ?_)⟩,fun O cs hO=>hs O _ hO (nq O _ _ hO Ba) (np O _ _ hO Im)⟩
 ·obtain ⟨h1,h2,h3⟩:=h.dn i w' l hi hl
  refine ⟨h1.stay fun Q cs e hQ=>hs Q _ hQ (fun Q' e' ei => ?_) (np Q _ _ hQ JU),h2,h3⟩;have a1:=h2 Q _ _ _ _ e;have a2:=h.ab Q' _ _ _ _ e';omega
 ·obtain ⟨ds,hd⟩:=Gd h.cr e
  subst ei;rw [hi] at hd;cases hd
 ·subst e;rw [hi] at hP;cases hP
theorem yr(l:List ae)(x p:ae):Cf (l++[x]) p=sel (p.kind == 1&&x.kind == 1) (l++[{ x with text:=x.text++p.text }]) (l++[x]++[p]):=by
 unfold Cf;rw [List.getLast?_concat,List.dropLast_concat]
end
section
attribute [local congr] au bc aM aw aL aE aA ah aj aF aG
variable{E:aT}(M:bk bK E)
end
section
attribute [local congr] au bc aM aw aL aE aA ah aj aF aG
variable{E:aT}(M:bk bK E)
theorem Cg.app{R:Nat→Prop}{c:Nat}{H:List AObj}{S:CSt}{P q:Nat}{vs:List AV}{v:AV}{ta:Tag}{ov:AV}(h:Cg R c H S P q vs v ta ov)(X:List AObj):Cg R c (H++X) S P q vs v ta ov:=
 ⟨h.hn,h.hP,fun i hi=>by have:=h.rl i hi;simp;omega,ir h.cell,ir h.par,h.len,fun i w l hi hl=>⟨(h.dn i w l hi hl).1.stay fun Q cs _ hQ=>ir hQ,(h.dn i w l hi hl).2⟩,h.cr.stay fun Q cs _ hQ=>ir hQ,h.ab,h.pr,by have:=h.ql;simp;omega,h.op.stay fun O cs hO=>ir hO,h.oa,h.tg⟩
theorem wO.app{R:Nat→Prop}{c:Nat}{H:List AObj}{S:CSt}(h:wO R c H S)(X:List AObj):wO R c (H++X) S:=by
 obtain ⟨P,q,vs,v,ta,ov,h⟩:=h;exact ⟨P,q,vs,v,ta,ov,h.app X⟩
theorem wO.le{R:Nat→Prop}{c:Nat}{H:List AObj}{S:CSt}(h:wO R c H S):c<H.length∧∀ i,R i→i<H.length:=by
 obtain ⟨P,q,vs,v,ta,ov,h⟩:=h;exact ⟨gp h.cell,h.rl⟩
theorem JX{R:Nat→Prop}{G:List AObj}{v:AV}{l:List Str}(h:OpV G v l)(ha:free R v)(hn:∀ i,R i→i<G.length)(hl:l.length≤100000000)(s:Str) :
  ∃ v' G',rap true G aI 1 16 false v (.slice .full 1 [[.str s]])=some (v',G')∧OpV G' v' (l++[s])∧free R v'∧v'.cell=true∧bR v'=some [v']∧Frm R G G'∧∀ (i:Nat) (cs:List AV) (T:TypeId),G[i]?=some (AObj.cells cs T)→T≠aI→G'[i]?=some (AObj.cells cs T):=by
 rcases h with ⟨rfl,rfl⟩ | ⟨O,junk,rfl,hg⟩
 ·refine ⟨.rslice G.length 0 1 1 true,G++[.cells [.str s] aI], ?_,.inr ⟨G.length,[],rfl,by rw [aR];rfl⟩,fun Q o n e r eq hR=>(by cases eq;have:=hn _ hR;omega),rfl,rfl,Frm.app _ _ hn,fun i cs T hi _=>ir hi⟩
  simp only [rap,lH,nB,or_true,if_true,ka];rw [if_pos (by simp)];rfl
 ·have hlt:=gp hg
  have hO:=ha O _ _ _ _ rfl;have hlen:l.length*1≤(qi l++junk).length:=by rw [List.length_append,nf];omega
  refine ⟨.rslice G.length 0 (l.length+1) 1 true,G.set O .dead++[.cells (qi (l++[s])) aI], ?_,.inr ⟨G.length,[],by simp, ?_⟩,fun Q o n e r eq hR=>(by cases eq;have:=hn _ hR;omega),rfl,rfl,⟨by simp,fun i hi => ?_,fun i s pos hi => ?_⟩,fun i cs T hi hT => ?_⟩
  ·simp only [rap,lH,nB,or_true,if_true,ka,hg]
   rw [if_pos ⟨trivial,trivial,hlen,by simp;omega,by simp;omega⟩];simp only [Nat.mul_one];rw [List.take_left' (by rw [nf]),wH];rfl
  ·rw [List.append_nil,show G.length=(G.set O .dead).length by simp,aR];rfl
  ·have:=hn i hi
   rw [List.getElem?_append_left (by simp;omega),List.getElem?_set_ne (fun e:O=i=>hO (by rw [e];exact hi))]
  ·have:=(List.getElem?_eq_some_iff.1 hi).1
   rw [List.getElem?_append_left (by simp;omega),List.getElem?_set_ne (fun e=>by subst e;rw [hg] at hi;cases hi)];exact hi
  ·have:=gp hi
   rw [List.getElem?_append_left (by simp;omega),List.getElem?_set_ne (Kc hg hi hT.symm)];exact hi
structure CBd (S:CSt):Prop where
 opn:S.opn.length≤100000
 opt:∀ s∈S.opn,s.length≤100000000
 done:S.done.length≤100000
 cur:S.cur.length≤100000
 txt:∀ x∈S.cur,x.text.length≤100000000
def R1(R:Nat→Prop)(k:Nat):Nat→Prop:=fun i=>R i∨i=k
theorem wO.more{R:Nat→Prop}{c:Nat}{H:List AObj}{S:CSt}(h:wO R c H S)(x:AObj):wO (R1 R H.length) c (H++[x]) S:=by
 obtain ⟨P,q,vs,v,ta,ov,h⟩:=h;have h2:=h.app [x]
 have fr:∀ (w:AV) (l:List ae),PcV H w l→free R w→free (R1 R H.length) w:=fun w l hp hf Q o n e r eq hR=>by
  rcases hR with hR | hR
  ·exact hf Q o n e r eq hR
  ·rcases hp with ⟨_,hv⟩ | ⟨_,Q',hv,hQ⟩
   ·rw [hv] at eq;cases eq
   ·rw [hv] at eq;cases eq;have:=gp hQ;omega
 refine ⟨P,q,vs,v,ta,ov,⟨fun hR => ?_,fun hR => ?_,fun i hi => ?_,h2.cell,h2.par,h2.len,fun i w l hi hl=>⟨(h2.dn i w l hi hl).1,(h2.dn i w l hi hl).2.1,fr w l (h.dn i w l hi hl).1 (h.dn i w l hi hl).2.2⟩,h2.cr,h2.ab,fr v _ h.cr h.pr,h2.ql,h2.op,fun Q o n e r eq hR => ?_,h2.tg⟩⟩
 ·rcases hR with hR | hR
  ·exact h.hn hR
  ·have:=gp h.cell;omega
 ·rcases hR with hR | hR
  ·exact h.hP hR
  ·have:=gp h.par;omega
 ·rcases hi with hi | hi
  ·have:=h.rl i hi;simp;omega
  ·simp;omega
 ·rcases hR with hR | hR
  ·exact h.oa Q o n e r eq hR
  ·rcases h.op with ⟨_,hv⟩ | ⟨O,junk,hv,hO⟩
   ·rw [hv] at eq;cases eq
   ·rw [hv] at eq;cases eq;have:=gp hO;omega
theorem wO.mono{R R':Nat→Prop}{c:Nat}{H:List AObj}{S:CSt}(h:wO R c H S)(hr:∀ i,R' i→R i):wO R' c H S:=by
 obtain ⟨P,q,vs,v,ta,ov,h⟩:=h;exact ⟨P,q,vs,v,ta,ov,⟨fun hR=>h.hn (hr _ hR),fun hR=>h.hP (hr _ hR),fun i hi=>h.rl i (hr i hi),h.cell,h.par,h.len,fun i w l hi hl=>⟨(h.dn i w l hi hl).1,(h.dn i w l hi hl).2.1,fun Q o n e r eq hR=>(h.dn i w l hi hl).2.2 Q o n e r eq (hr _ hR)⟩,h.cr,h.ab,fun Q o n e r eq hR=>h.pr Q o n e r eq (hr _ hR),h.ql,h.op,fun Q o n e r eq hR=>h.oa Q o n e r eq (hr _ hR),h.tg⟩⟩
end
section
attribute [local congr] au bc aM aw aL aE aA ah aj aF aG
variable{E:aT}(M:bk bK E)
end
section
attribute [local congr] au bc aM aw aL aE aA ah aj aF aG
variable{E:aT}(M:bk bK E)
structure CBm (m:Nat) (S:CSt):Prop where
 opn:S.opn.length≤m
 opt:∀ s∈S.opn,s.length≤m
 done:S.done.length≤m
 cur:S.cur.length≤2*m
 txt:∀ x∈S.cur,x.text.length≤m
 place:S.place≤m
theorem CBm.mono{m n:Nat}{S:CSt}(h:CBm m S)(hn:m≤n):CBm n S:=⟨Nat.le_trans h.opn hn,fun s hs=>Nat.le_trans (h.opt s hs) hn,Nat.le_trans h.done hn,by have:=h.cur;omega,fun x hx=>Nat.le_trans (h.txt x hx) hn,Nat.le_trans h.place hn⟩
theorem CBm.bd{m:Nat}{S:CSt}(h:CBm m S)(hm:m≤50000):CBd S:=⟨by have:=h.opn;omega,fun s hs=>by have:=h.opt s hs;omega,by have:=h.done;omega,by have:=h.cur;omega,fun x hx=>by have:=h.txt x hx;omega⟩
theorem Ge(l:List ae)(p:ae):(Cf l p).length≤l.length+1:=by
 rcases List.eq_nil_or_concat l with rfl | ⟨t,x,rfl⟩
 ·simp [Cf]
 ·rw [List.concat_eq_append,yr]
  cases p.kind == 1&&x.kind == 1<;>simp [sel_true,sel_false]
theorem Gf{l:List ae}{p:ae}{m w:Nat}(h:∀ x∈l,x.text.length≤m)(hp:p.text.length≤w):∀ x∈Cf l p,x.text.length≤m+w:=by
 intro y hy;rcases List.eq_nil_or_concat l with rfl | ⟨t,x,rfl⟩
 ·simp [Cf] at hy;subst hy;omega
 ·rw [List.concat_eq_append] at hy h
  rw [yr] at hy;cases hk:p.kind == 1&&x.kind == 1 with
  |true=>
   rw [hk,sel_true] at hy;rcases List.mem_append.1 hy with hy | hy
   ·have:=h y (List.mem_append_left _ hy);omega
   ·rw [List.mem_singleton] at hy;subst hy
    have:=h x (by simp);simp only [List.length_append];omega
  |false=>
   rw [hk,sel_false] at hy;rcases List.mem_append.1 hy with hy | hy
   ·have:=h y hy;omega
   ·rw [List.mem_singleton] at hy;subst hy;omega
end
section
attribute [local congr] au bc aM aw aL aE aA ah aj aF aG
variable{E:aT}(M:bk bK E)
end
section
attribute [local congr] au bc aM aw aL aE aA ah aj aF aG
variable{E:aT}(M:bk bK E)
end
section
attribute [local congr] au bc aM aw aL aE aA ah aj aF aG
variable{E:aT}(M:bk bK E)
end
section
attribute [local congr] au bc aM aw aL aE aA ah aj aF aG
variable{E:aT}(M:bk bK E)
end
section
attribute [local congr] au bc aM aw aL aE aA ah aj aF aG
variable{E:aT}(M:bk bK E)
structure uM (t:Nat) (R:Nat→Prop) (H:List AObj) (S:CSt) (q:Nat) (vs:List AV) (v ov:AV):Prop where
 rl:∀ i,R i→i<H.length
 tr:¬ R t
 tok:H[t]?=some (.tok (vs.length*1) aP)
 len:vs.length=S.done.length
 dn:∀ (i:Nat) (w:AV) (l:List ae),vs[i]?=some w→S.done[i]?=some l→PcV H w l∧below q w∧free R w
 cr:PcV H v S.cur
 ab:C3 q v
 pr:free R v
 ql:q≤H.length
 op:OpV H ov S.opn
 oa:free R ov
structure xN (R:Nat→Prop) (H H':List AObj):Prop where
 len:H.length≤H'.length
 low:∀ i,R i→H'[i]?=H[i]?
theorem xN.refl(R:Nat→Prop)(H:List AObj):xN R H H:=⟨Nat.le_refl _,fun _ _=>rfl⟩
theorem xN.trans{R:Nat→Prop}{A B C:List AObj}(h:xN R A B)(k:xN R B C):xN R A C:=⟨Nat.le_trans h.len k.len,fun i hi=>(k.low i hi).trans (h.low i hi)⟩
theorem uM.turned{t:Nat}{R:Nat→Prop}{H H2:List AObj}{S:CSt}{q:Nat}{vs:List AV}{v w ov:AV}(h:uM t R H S q vs v ov){cur:List ae}(hlen:H.length≤H2.length)(hs:∀ (i:Nat) (y:AObj),H[i]?=some y→(∀ Q,v = .rslice Q 0 S.cur.length 3 true→i≠Q)→H2[i]?=some y)
  (hw:PcV H2 w cur) (hwa:C3 q w) (hwf:free R w):uM t R H2 { S with cur:=cur } q vs w ov∧xN R H H2:=by
 have nq:∀ (i:Nat) (y:AObj),H[i]?=some y→(∀ cs,y≠.cells cs aa)→∀ Q,v = .rslice Q 0 S.cur.length 3 true→i≠Q:=fun i y hi hy Q e ei=>by
  obtain ⟨ds,hd⟩:=Gd h.cr e;subst ei;rw [hi] at hd;cases hd;exact hy ds rfl
 refine ⟨⟨fun i hi=>Nat.lt_of_lt_of_le (h.rl i hi) hlen,h.tr,hs t _ h.tok (nq t _ h.tok fun cs e=>by cases e),h.len,fun i w' l hi hl => ?_,hw,hwa,hwf,Nat.le_trans h.ql hlen,h.op.stay fun O cs hO=>hs O _ hO (nq O _ hO fun ds e=>by injection e with _ e;exact Ba e),h.oa⟩,⟨hlen,fun i hi => ?_⟩⟩
 ·obtain ⟨h1,h2,h3⟩:=h.dn i w' l hi hl
  refine ⟨h1.stay fun Q cs e hQ=>hs Q _ hQ fun Q' e' ei => ?_,h2,h3⟩;have a1:=h2 Q _ _ _ _ e;have a2:=h.ab Q' _ _ _ _ e';omega
 ·have hin:=h.rl i hi
  rw [List.getElem?_eq_getElem hin];exact hs i _ (List.getElem?_eq_getElem hin) fun Q e ei=>h.pr Q _ _ _ _ e (ei ▸ hi)
theorem uM.more{t:Nat}{R:Nat→Prop}{H:List AObj}{S:CSt}{q:Nat}{vs:List AV}{v ov:AV}(h:uM t R H S q vs v ov)(hl:S.cur.length≤100000000)(p:ae) :
  ∃ w G,rap true H aa 3 32 false v (.slice .full 3 [p.row])=some (w,G)∧uM t R G { S with cur:=S.cur++[p] } q vs w ov∧xN R H G:=by
 obtain ⟨G,a1,a2,a3,a4⟩:=JW h.cr hl p
 obtain ⟨b1,b2⟩:=h.turned (H2:=G) (cur:=S.cur++[p]) (w:=.rslice H.length 0 (S.cur.length+1) 3 true) (by omega) (fun i y hi hne=>by
  rw [a4 i (List.getElem?_eq_some_iff.1 hi).1 hne];exact hi) (.inr ⟨by simp,H.length,by simp,a2⟩) (fun Q o n e r eq=>by cases eq;exact h.ql) (fun Q o n e r eq hR=>by cases eq;have:=h.rl _ hR;omega)
 exact ⟨_,G,a1,b1,b2⟩
theorem D7{H:List AObj}{v:AV}{l:List ae}(h:PcV H v l):v.strip=v:=by
 rcases h with ⟨rfl,rfl⟩ | ⟨_,Q,rfl,_⟩<;>rfl
theorem uM.push{t:Nat}{R:Nat→Prop}{H:List AObj}{S:CSt}{q:Nat}{vs:List AV}{v ov:AV}(h:uM t R H S q vs v ov)(hd:S.done.length≤100000000) :
  rap false H aP 1 24 false (.slice (.own t) 1 (vs.map CY)) (.slice .full 1 [[v]])=some (.slice (.own t) 1 ((vs++[v]).map CY),H.set t (.tok ((vs++[v]).length*1) aP)) ∧
   uM t R (H.set t (.tok ((vs++[v]).length*1) aP)) { S with done:=S.done++[S.cur],cur:=[] } H.length (vs++[v]) (.slice .nil 3 []) ov∧xN R H (H.set t (.tok ((vs++[v]).length*1) aP)):=by
 have htl:=(List.getElem?_eq_some_iff.1 h.tok).1
 have hs:∀ {i:Nat}{cs:List AV}{T:TypeId},H[i]?=some (.cells cs T)→(H.set t (.tok ((vs++[v]).length*1) aP))[i]?=some (.cells cs T):=fun {i cs T} hi=>by
  rw [List.getElem?_set_ne (fun e=>by subst e;have:=h.tok;rw [hi] at this;cases this)];exact hi
 have hvs:=h.len;refine ⟨JS (row:=CY) (l:=vs) (x:=v) (r:=[v]) (sz:=1) (bytes:=24) h.tok rfl (by simp [(Gc h.cr).1]) (by simp [D7 h.cr,CY]) (by omega) (by omega),⟨fun i hi=>by simpa using h.rl i hi,h.tr,List.getElem?_set_self htl,by simp [hvs],fun i w l hi hl => ?_,.inl ⟨rfl,rfl⟩,fun Q o n e r eq=>(by cases eq),fun Q o n e r eq=>(by cases eq),by simp,h.op.stay fun O cs hO=>hs hO,h.oa⟩,⟨by simp,fun i hi=>List.getElem?_set_ne (fun e:t=i=>h.tr (by rw [e];exact hi))⟩⟩
 by_cases hlt:i<vs.length
 ·rw [List.getElem?_append_left hlt] at hi
  rw [List.getElem?_append_left (by omega)] at hl;obtain ⟨d1,d2,d3⟩:=h.dn i w l hi hl;exact ⟨d1.stay fun Q cs _ hQ=>hs hQ,fun Q o n e r eq=>Nat.lt_of_lt_of_le (d2 Q o n e r eq) h.ql,d3⟩
 ·have hi2:i=vs.length:=by
   have:=(List.getElem?_eq_some_iff.1 hi).1;simp at this;omega
  subst hi2;rw [List.getElem?_append_right (Nat.le_refl _),Nat.sub_self,List.getElem?_cons_zero] at hi;rw [List.getElem?_append_right (by omega),show vs.length-S.done.length=0 by omega,List.getElem?_cons_zero] at hl;cases hi;cases hl;refine ⟨h.cr.stay fun Q cs _ hQ=>hs hQ,fun Q o n e r eq => ?_,h.pr⟩;rcases h.cr with ⟨_,hv⟩ | ⟨_,Q',hv,hQ⟩
  ·rw [hv] at eq;cases eq
  ·rw [hv] at eq;cases eq;exact gp hQ
end
section
attribute [local congr] au bc aM aw aL aE aA ah aj aF aG
variable{E:aT}(M:bk bK E)
theorem uM.open{t:Nat}{R:Nat→Prop}{H:List AObj}{S:CSt}{q:Nat}{vs:List AV}{v ov:AV}(h:uM t R H S q vs v ov)(hl:S.opn.length≤100000)(s:Str) :
  ∃ w G,rap true H aI 1 16 false ov (.slice .full 1 [[.str s]])=some (w,G)∧uM t R G { S with opn:=S.opn++[s] } q vs v w∧xN R H G:=by
 obtain ⟨w,G,a1,a2,a3,a4,a5,a6,a7⟩:=JX h.op h.oa h.rl (by omega) s
 have tk:G[t]?=some (.tok (vs.length*1) aP):=by
  have htok:=h.tok
  have:∀ O,ov≠.rslice O 0 S.opn.length 1 true∨t≠O:=fun O=>by
   rcases h.op with ⟨_,e⟩ | ⟨O',junk,e,hO⟩
   ·left;rw [e];intro h;cases h
   ·by_cases ht:t=O
    ·left;rw [e];intro h2;cases h2;rw [ht,hO] at htok;cases htok
    ·exact .inr ht
  rcases h.op with ⟨e0,e⟩ | ⟨O',junk,e,hO⟩
  ·rw [e] at a1
   simp only [rap,lH,nB,or_true,if_true,ka] at a1;rw [if_pos (by simp)] at a1;cases a1;exact ir htok
  ·rw [e] at a1
   have hlen:S.opn.length*1≤(qi S.opn++junk).length:=by rw [List.length_append,nf];omega
   simp only [rap,lH,nB,or_true,if_true,ka,hO] at a1;rw [if_pos ⟨trivial,trivial,hlen,by simp;omega,by simp;omega⟩] at a1;cases a1;have htl:=(List.getElem?_eq_some_iff.1 htok).1;rw [List.getElem?_append_left (by simp;omega),List.getElem?_set_ne (fun e=>by subst e;rw [hO] at htok;cases htok)];exact htok
 exact ⟨w,G,a1,⟨fun i hi=>by have:=h.rl i hi;have:=a6.len;omega,h.tr,tk,h.len,fun i w' l hi hl=>⟨(h.dn i w' l hi hl).1.stay fun Q cs _ hQ=>a7 Q _ _ hQ Ba.symm,(h.dn i w' l hi hl).2⟩,h.cr.stay fun Q cs _ hQ=>a7 Q _ _ hQ Ba.symm,h.ab,h.pr,by have:=h.ql;have:=a6.len;omega,a2,a3⟩,⟨a6.len,a6.low⟩⟩
end
section
attribute [local congr] au bc aM aw aL aE aA ah aj aF aG
variable{E:aT}(M:bk bK E)
end
section
attribute [local congr] au bc aM aw aL aE aA ah aj aF aG
variable{E:aT}(M:bk bK E)
end
section
attribute [local congr] au bc aM aw aL aE aA ah aj aF aG
variable{E:aT}(M:bk bK E)
def Kd(pos:List Int)(T:CSt):Bool:=decide (T.done.length<pos.length)&&((T.place:Int) == pos.getD T.done.length 0)
structure RelC (pos:List Int) (S T:CSt):Prop where
 done:S.done=T.done
 cur:S.cur=T.cur
 opn:S.opn=T.opn
 place:S.place=T.place
 due:S.due=Kd pos T
 pos:S.pos=pos.drop (T.done.length+(if S.due=true then 1 else 0))
end
section
attribute [local congr] au bc aM aw aL aE aA ah aj aF aG
variable{E:aT}(M:bk bK E)
theorem OpV.own{H H':List AObj}{v:AV}{l:List Str}(h:OpV H v l)(hs:∀ (O:Nat) (y:AObj),v = .rslice O 0 l.length 1 true→H[O]?=some y→H'[O]?=some y):OpV H' v l:=by
 rcases h with h | ⟨O,junk,h1,h2⟩
 ·exact .inl h
 ·exact .inr ⟨O,junk,h1,hs O _ h1 h2⟩
end
section
attribute [local congr] au bc aM aw aL aE aA ah aj aF aG
variable{E:aT}(M:bk bK E)
end
section
attribute [local congr] au bc aM aw aL aE aA ah aj aF aG
variable{E:aT}(M:bk bK E)
def D8(m:Nat)(cur:List ae):Prop:=cur.length≤m∧∀ x∈cur,x.text.length≤m
theorem D8.put{m:Nat}{cur:List ae}(h:D8 m cur)(p:ae):D8 (m+(p.text.length+1)) (Cf cur p):=
 ⟨by have:=Ge cur p;have:=h.1;omega,fun x hx=>by have:=Gf h.2 (Nat.le_refl p.text.length) x hx;omega⟩
theorem D8.mono{m n:Nat}{cur:List ae}(h:D8 m cur)(hn:m≤n):D8 n cur:=⟨Nat.le_trans h.1 hn,fun x hx=>Nat.le_trans (h.2 x hx) hn⟩
end
section
attribute [local congr] au bc aM aw aL aE aA ah aj aF aG
variable{E:aT}(M:bk bK E)
end
section
attribute [local congr] au bc aM aw aL aE aA ah aj aF aG
variable{E:aT}(M:bk bK E)
end
section
attribute [local congr] au bc aM aw aL aE aA ah aj aF aG
variable{E:aT}(M:bk bK E)
end
section
attribute [local congr] au bc aM aw aL aE aA ah aj aF aG
variable{E:aT}(M:bk bK E)
end
section
attribute [local congr] au bc aM aw aL aE aA ah aj aF aG
variable{E:aT}(M:bk bK E)
theorem C4(hB:tb E)(hX:sk M)(H L:List AObj){w s:Str}{a:AV}(ha:a = .nilp∨a = .ptr (H.length+1) 0)(h:w.length+s.length≤140737488355328) :
  M.run br [.ptr (H.length+1) 0,.str s] (H++(bTok w::dy a H.length w aq::L))=some (.ret (.tuple [.int .i64 s.length,.nilif]),H++(bTok (w++s)::dy (.ptr (H.length+1) 0) H.length (w++s) aq::L)):=by
 rcases ha with rfl | rfl
 ·exact td M (T:=0) hB hX H L h
 ·exact te M hB hX H L h
theorem C5{α:Type}(H:List α)(x y z:α):(H++[x,y])++[z]=H++[x,y,z]:=by simp
theorem dpl(hBl:tb E)(hX:sk M){l:List ae}{tg:Tag}(hl:l.length≤cf)(hw:∀ n,Wk n (.slice tg 3 (l.map ae.row)) (.slice tg 3 (l.map ae.row))){H H0:List AObj}:∀ (n i:Nat) (w:Str) (a:AV),(a = .nilp∨a = .ptr (H.length+1) 0)→i+n=l.length→w.length+(gq (l.drop i)).length≤1000000 →
  ∃ a',∀ (k:List Fra),M.go jG H0 (.c fc :: .lp ⟨(some [3,6,7,8]),[],true⟩ fc (H++[bTok w,dy a H.length w aq]) :: .blk 0 :: .c (.lv [3])::k) (kv [(3,.ptr (H.length+1) 0),(6,.slice tg 3 (l.map ae.row)),(7,.int .i64 l.length),(8,.int .i64 i)]) (H++[bTok w,dy a H.length w aq]) =
   M.go jG H0 k (kv [(3,.ptr (H.length+1) 0)]) (H++[bTok (w++gq (l.drop i)),dy a' H.length (w++gq (l.drop i)) aq])
 |0,i,w,a,ha,h,hw0=>by
  have e:i=l.length:=by omega
  subst e;refine ⟨a,fun k => ?_⟩;rw [List.drop_length,show gq []=[] from rfl,List.append_nil];rw [aH M fc.eq_1];simp (maxSteps:=3000000) (maxDischargeDepth:=6) +contextual -implicitDefEqProofs only [amC M,↓amD,Nat.reduceBEq,Nat.reduceAdd,env,ao,jH,Nat.lt_irrefl]
 |n+1,i,w,a,ha,h,hw0=>by
  have hi:i<l.length:=by omega
  have hx:l[i]?=some l[i]:=List.getElem?_eq_getElem hi;have hd:(l.drop i)=l[i]::l.drop (i+1):=List.drop_eq_getElem_cons hi;have hwi:=iX (n:=l.length) hi hl;have hir:=bD (row:=ae.row) (tag:=tg) (sz:=3) (k:=.i64) hi;rw [hd,gq] at hw0 ⊢;generalize hxx:l[i]=x at *
  have g2:∀ y z:AObj,(H++[y,z,AObj.cells x.row aa])[H.length+2]?=some (.cells x.row aa):=fun y z=>by rw [hp_getk];rfl
  have s2:∀ (y z u v:AObj),(H++[y,z,u]).set (H.length+2) v=H++[y,z,v]:=fun y z u v=>by rw [hp_setk];rfl
  have w3:Wk (H.length+2) (.ptr (H.length+1) 0) (.ptr (H.length+1) 0):=wk_ptr (by omega);have w6:=hw (H.length+2);cases kx:x.kind == 1 with
  |false=>
   rw [kx,sel_false,List.nil_append] at hw0;rw [sel_false,List.nil_append];obtain ⟨a',ih⟩:=dpl hBl hX hl hw (H0:=H0) n (i+1) w a ha (by omega) hw0;refine ⟨a',fun k => ?_⟩;have hc:=cut_app (H++[bTok w,dy a H.length w aq]) [AObj.cells x.row aa];have ht:=hp_take (H++[bTok w,dy a H.length w aq]) [AObj.cells x.row aa];simp only [List.append_assoc,List.cons_append,List.nil_append,List.length_append,List.length_cons,List.length_nil,Nat.zero_add,Nat.reduceAdd] at hc ht
   have i2:=ih k;simp only [kv_cons,kv_nil] at i2;rw [aH M fc.eq_1];simp (maxSteps:=3000000) (maxDischargeDepth:=6) +contextual -implicitDefEqProofs only [amC M,↓amD,Nat.reduceBEq,Nat.reduceAdd,env,ao,jH,amG,AV.cell,Nat.reduceMul,Nat.reduceLeDiff,hi,hx,hxx,hir,hwi,bg,g2,s2,kx,hc,ht,w3,w6]
   all_goals exact i2
  |true=>
   rw [kx,sel_true,List.length_append] at hw0;rw [sel_true,← List.append_assoc];obtain ⟨a',ih⟩:=dpl hBl hX hl hw (H0:=H0) n (i+1) (w++x.text) (.ptr (H.length+1) 0) (.inr rfl) (by omega) (by rw [List.length_append];omega);refine ⟨a',fun k => ?_⟩;have w1:=C4 M hBl hX H [AObj.cells x.row aa] (w:=w) (s:=x.text) ha (by omega);have hc:=rY (sn (H:=H) (L:=[]) (n:=w.length) (n':=(w++x.text).length) (T:=cD) (T':=cD) (cs:=[a,.slice (.own H.length) 1 (dB w)]) (T1:=aq) (T2:=aq) (FQ H [] (w++x.text))) [AObj.cells x.row aa]
   have ht:(H++[bTok (w++x.text),dy (.ptr (H.length+1) 0) H.length (w++x.text) aq,AObj.cells x.row aa]).take (H.length+2)=H++[bTok (w++x.text),dy (.ptr (H.length+1) 0) H.length (w++x.text) aq]:=by
    rw [← C5,List.take_left' (by simp)]
   simp only [List.append_assoc,List.cons_append,List.nil_append] at hc;have i2:=ih k;simp only [kv_cons,kv_nil] at i2;rw [aH M fc.eq_1];simp (maxSteps:=3000000) (maxDischargeDepth:=6) +contextual -implicitDefEqProofs only [amC M,↓amD,Nat.reduceBEq,Nat.reduceAdd,env,ao,jH,amG,AV.cell,Nat.reduceMul,Nat.reduceLeDiff,hi,hx,hxx,hir,hwi,bg,g2,s2,kx,w1,hc,ht,w3,w6]
   all_goals exact i2
theorem Ch(hC:Ja E)(hBl:tb E)(hX:sk M){l:List ae}{tg:Tag}(hl:l.length≤cf)(hw:∀ n,Wk n (.slice tg 3 (l.map ae.row)) (.slice tg 3 (l.map ae.row)))(hp:(gq l).length≤1000000)(H:List AObj) :
  M.run nJ [.slice tg 3 (l.map ae.row)] H=some (.ret (.str (gq l)),H):=by
 obtain ⟨a',h1⟩:=dpl M hBl hX hl hw (H:=H) (H0:=H) l.length 0 [] .nilp (.inl rfl) (by omega) (by simpa using hp);simp only [kv_cons,kv_nil,Int.ofNat_zero,List.drop_zero,List.nil_append,List.length_nil,List.map_nil] at h1;have h2:=tK M hBl H [] (w:=gq l) (a:=a') (T:=aq) (by omega);rw [cq M hC.docs_Plain rfl (c:=nN) rfl,nN];simp (maxSteps:=3000000) (maxDischargeDepth:=6) +contextual -implicitDefEqProofs only [amC M,↓amD,Nat.reduceBEq,Nat.reduceAdd,env,ao,jH,amG,AV.cell,Nat.reduceMul,Nat.reduceLeDiff,qU,List.length_map]
 refine (h1 _).trans ?_;simp (maxSteps:=3000000) (maxDischargeDepth:=6) +contextual -implicitDefEqProofs only [amC M,↓amD,Nat.reduceBEq,Nat.reduceAdd,env,ao,jH,amG,AV.cell,Nat.reduceMul,Nat.reduceLeDiff,h2,hp_take,cut_app]
end
def NA:Bool→List ae→Prop
 |_,[]=>True
 |p,x::l=>(p&&(x.kind == 1))=false∧NA (x.kind == 1) l
def HJ(x:ae):Bool := !(x.kind == 1)||(!(x.text == [])&&qC x.text)
def nxt(st:List Str)(x:ae):List Str:=if x.kind == 2 then x.text::st else if x.kind == 3 then st.tail else st
def okW(b e:Bool)(st:List Str)(x:ae):Bool:=
 !oH x&&(!B7 x&&(HJ x&&(!B8 x&&(lW b e x&&(!((x.kind == 3) && !sr st x.text) && !((x.kind == 2)&&decide ((16:Int)<((x.text::st).length:Int))))))))
def Wok:List ae→Bool→Bool→List Str→Prop
 |[],_,_,_=>True
 |x::l,b,e,st=>okW b e st x=true∧Wok l (b || !cF x) (e||bN x) (nxt st x)
def sF(st:List Str)(l:List ae):List Str:=l.foldl nxt st
theorem k23{x:ae}(h:(x.kind == 2)=true):(x.kind == 1)=false∧(x.kind == 3)=false∧(x.kind == 5)=false:=by
 rw [eq_of_beq h];exact ⟨rfl,rfl,rfl⟩
theorem C6(x:ae)(st:List Str):(if x.kind == 2 then x.text::stP x st else stP x st)=nxt st x:=by
 unfold stP nxt;cases c2:x.kind == 2 with
 |true=>simp [(k23 c2).2.1]
 |false=>simp only [Bool.false_eq_true,if_false]
theorem Gg{p:Bool}{x:ae}:AW p x=false↔HJ x=true∧(p&&(x.kind == 1))=false:=by
 unfold AW HJ;cases x.kind == 1<;>cases x.text == []<;>cases qC x.text<;>cases p<;>simp
theorem Bb:∀ (l:List ae) (p b e:Bool) (st:List Str),uK l p b e st=0↔NA p l∧Wok l b e st∧sF st l=[]
 |[],p,b,e,st=>by
  unfold uK NA Wok sF;cases st<;>simp [sel]<;>omega
 |x::l,p,b,e,st=>by
  have ih:=Bb l (x.kind == 1) (b || !cF x) (e||bN x) (nxt st x);rw [uK,NA,Wok,show sF st (x::l)=sF (nxt st x) l from rfl];unfold okW;cases c1:oH x with
  |true=>simp [sel]
  |false=>
  cases c2:B7 x with
  |true=>simp [sel]
  |false=>
  cases c3:AW p x with
  |true=>
   have h3:¬ (HJ x=true∧(p&&(x.kind == 1))=false):=fun h=>by rw [Gg.2 h] at c3;cases c3
   simp only [sel];constructor
   ·intro h;cases h
   ·rintro ⟨⟨h1,_⟩,⟨h2,_⟩,_⟩
    simp only [Bool.and_eq_true] at h2;exact absurd ⟨h2.2.2.1,h1⟩ h3
  |false=>
  obtain ⟨t1,t2⟩:=Gg.1 c3;rw [t1,t2];cases c4:B8 x with
  |true=>simp [sel]
  |false=>
  cases c5:lW b e x with
  |false=>simp [sel]
  |true=>
  cases c6:(x.kind == 3) && !sr st x.text with
  |true=>simp [sel]
  |false=>
  cases c7:x.kind == 2 with
  |false=>
   have hs:stP x st=nxt st x:=by have:=C6 x st;rwa [c7,if_neg (by simp)] at this
   rw [hs];simp only [sel,Bool.not_false,Bool.true_and,Bool.false_and,true_and];exact ih
  |true=>
   have hs:x.text::stP x st=nxt st x:=by have:=C6 x st;rwa [c7,if_pos rfl] at this
   have hp:stP x st=st:=by unfold stP;rw [if_neg (by rw [(k23 c7).2.1];simp)]
   have h2:nxt st x=x.text::st:=by rw [← hs,hp]
   rw [hs,h2];rw [h2] at ih;cases c8:decide ((16:Int)<((x.text::st).length:Int)) with
   |true=>simp [sel]
   |false=>
    simp only [sel,Bool.not_false,Bool.true_and,true_and];exact ih
theorem Ci(l:List ae):jP l=0↔l.length≤512∧NA false l∧Wok l false false []∧sF [] l=[]:=by
 unfold jP;cases c:decide ((512:Int)<(l.length:Int)) with
 |true=>
  have:=of_decide_eq_true c;simp only [sel];constructor
  ·intro h;cases h
  ·intro h;omega
 |false=>
  have:=of_decide_eq_false c;rw [sel_false,Bb];constructor
  ·intro h;exact ⟨by omega,h⟩
  ·intro h;exact h.2
section
attribute [local congr] au bc aM aw aL aE aA ah aj aF aG
variable{E:aT}(M:bk bK E)
structure HK (E:aT):Prop where
 docs_Write:E.fn jy=some jF
 truchmanref01_form:E.fn gG=some dv
 truchmanref01_Write:E.fn fN=some fU
 truchmanlaw01_DocsPieces:E.fn dS=some dX
 truchmanlaw01_DocsBack:E.fn mC=some iP
theorem C7:∀ {l:List ae}{b e:Bool}{st:List Str},Wok l b e st→∀ x∈l,oH x=false
 |y::l,b,e,st,h,x,hx=>by
  rcases List.mem_cons.1 hx with rfl | hx
  ·have:=h.1
   unfold okW at this;simp only [Bool.and_eq_true,Bool.not_eq_true'] at this;exact this.1
  ·exact C7 h.2 x hx
theorem tL{l:List ae}(h:jP l=0):∀ x∈l,oH x=false:=C7 ((Ci l).1 h).2.2.1
def iT(l:List ae):Str:=(l.map wrF).flatten
theorem rm(x:ae)(l:List ae):iT (x::l)=wrF x++iT l:=rfl
theorem HL{x:ae}(h:oH x=false):(wrF x).length≤2*x.text.length+4:=by
 have hp:(jf x).length≤1:=by unfold jf;cases x.car<;>simp [sel]
 have he:=ss x.text;have hs:spc x.text≤x.text.length:=List.countP_le_length
 have hk:x.kind=1∨x.kind=2∨x.kind=3∨x.kind=4∨x.kind=5:=by
  unfold oH at h;simp at h;omega
 unfold wrF;rcases hk with k | k | k | k | k<;>(rw [k];simp [sel];try omega)
theorem yt:∀ {l:List ae},(∀ x∈l,oH x=false)→(iT l).length≤2*rk l+4*l.length
 |[],_=>Nat.zero_le _
 |x::l,h=>by
  have h1:=HL (h x (by simp));have h2:=yt (l:=l) fun y hy=>h y (by simp [hy])
  rw [rm,List.length_append,rk,List.map_cons,List.sum_cons,List.length_cons];unfold rk at h2;omega
theorem zG(hS:so E)(hR:wK E)(hX:xL M)(hE:Cd M){x:ae}(hx:oH x=false)(hl:x.text.length≤1000000000)(H:List AObj):M.run dU [.agg x.row] H=some (.ret (.str (wrF x)),H):=by
 cases k:x.kind == 1 with
 |true=>
  have e:=eq_of_beq k;rw [zC M hS hR hX hE e hl H];unfold wrF;rw [e];rfl
 |false=>
  have hk:HE x=true:=by
   have:x.kind=2∨x.kind=3∨x.kind=4∨x.kind=5:=by
    unfold oH at hx
    have:x.kind≠1:=by simpa using k
    simp at hx;omega
   unfold HE;rcases this with k | k | k | k<;>(rw [k];rfl)
  exact A2 M hS hk (by omega) H
theorem dwr(hS:so E)(hBl:tb E)(hX:sk M)(hR:wK E)(hXC:xL M)(hE:Cd M){l:List ae}{tg:Tag}(hl:l.length≤cf)(hxs:∀ x∈l,x.text.length≤1000000)(hxa:∀ x∈l,oH x=false)(hw:∀ n,Wk n (.slice tg 3 (l.map ae.row)) (.slice tg 3 (l.map ae.row))){H H0:List AObj}:∀ (n i:Nat) (w:Str) (a:AV),(a = .nilp∨a = .ptr (H.length+1) 0)→i+n=l.length→w.length+(iT (l.drop i)).length≤100000000 →
  ∃ a',∀ (k:List Fra),M.go jF H0 (.c gO :: .lp ⟨(some [5,13,14,15]),[],true⟩ gO (H++[bTok w,dy a H.length w aq]) :: .blk 0 :: .c (.lv [5])::k) (kv [(5,.ptr (H.length+1) 0),(13,.slice tg 3 (l.map ae.row)),(14,.int .i64 l.length),(15,.int .i64 i)]) (H++[bTok w,dy a H.length w aq]) =
   M.go jF H0 k (kv [(5,.ptr (H.length+1) 0)]) (H++[bTok (w++iT (l.drop i)),dy a' H.length (w++iT (l.drop i)) aq])
 |0,i,w,a,ha,h,hw0=>by
  have e:i=l.length:=by omega
  subst e;refine ⟨a,fun k => ?_⟩;rw [List.drop_length,show iT []=[] from rfl,List.append_nil];rw [aH M gO.eq_1];simp (maxSteps:=3000000) (maxDischargeDepth:=6) +contextual -implicitDefEqProofs only [amC M,↓amD,Nat.reduceBEq,Nat.reduceAdd,env,ao,iw,Nat.lt_irrefl]
 |n+1,i,w,a,ha,h,hw0=>by
  have hi:i<l.length:=by omega
  have hx:l[i]?=some l[i]:=List.getElem?_eq_getElem hi;have hd:(l.drop i)=l[i]::l.drop (i+1):=List.drop_eq_getElem_cons hi;have hwi:=iX (n:=l.length) hi hl;have hir:=bD (row:=ae.row) (tag:=tg) (sz:=3) (k:=.i64) hi;have hm:=hxs _ (List.getElem_mem hi);have ha2:=hxa _ (List.getElem_mem hi);rw [hd,rm] at hw0 ⊢;generalize hxx:l[i]=x at *
  have hwr:=fun H=>zG M hS hR hXC hE ha2 (by omega) H
  have g2:∀ y z:AObj,(H++[y,z,AObj.cells x.row aa])[H.length+2]?=some (.cells x.row aa):=fun y z=>by rw [hp_getk];rfl
  have s2:∀ (y z u v:AObj),(H++[y,z,u]).set (H.length+2) v=H++[y,z,v]:=fun y z u v=>by rw [hp_setk];rfl
  have w3:Wk (H.length+2) (.ptr (H.length+1) 0) (.ptr (H.length+1) 0):=wk_ptr (by omega);have w6:=hw (H.length+2);rw [List.length_append] at hw0;rw [← List.append_assoc];obtain ⟨a',ih⟩:=dwr hS hBl hX hR hXC hE hl hxs hxa hw (H0:=H0) n (i+1) (w++wrF x) (.ptr (H.length+1) 0) (.inr rfl) (by omega) (by rw [List.length_append];omega);refine ⟨a',fun k => ?_⟩;have w1:=C4 M hBl hX H [AObj.cells x.row aa] (w:=w) (s:=wrF x) ha (by omega)
  have hc:=rY (sn (H:=H) (L:=[]) (n:=w.length) (n':=(w++wrF x).length) (T:=cD) (T':=cD) (cs:=[a,.slice (.own H.length) 1 (dB w)]) (T1:=aq) (T2:=aq) (FQ H [] (w++wrF x))) [AObj.cells x.row aa]
  have ht:(H++[bTok (w++wrF x),dy (.ptr (H.length+1) 0) H.length (w++wrF x) aq,AObj.cells x.row aa]).take (H.length+2)=H++[bTok (w++wrF x),dy (.ptr (H.length+1) 0) H.length (w++wrF x) aq]:=by
   rw [← C5,List.take_left' (by simp)]
  simp only [List.append_assoc,List.cons_append,List.nil_append] at hc;have i2:=ih k;simp only [kv_cons,kv_nil] at i2;rw [aH M gO.eq_1];simp (maxSteps:=3000000) (maxDischargeDepth:=6) +contextual -implicitDefEqProofs only [amC M,↓amD,Nat.reduceBEq,Nat.reduceAdd,env,ao,iw,amG,AV.cell,Nat.reduceMul,Nat.reduceLeDiff,hi,hx,hxx,hir,hwi,bg,g2,s2,hwr,w1,hc,ht,w3,w6]
  all_goals exact i2
def th(l:List ae):AV:=sel (jP l == 0) (sel (decide ((65536:Int)<((iT l).length:Int))) (.tuple [.str [],.int .u8 3]) (.tuple [.str (iT l),.int .u8 0])) (.tuple [.str [],.int .u8 (jP l)])
theorem Cj(hB:nS E)(hS:so E)(hD:B1 M)(hBl:tb E)(hX:sk M)(hR:wK E)(hXC:xL M)(hE:Cd M)(hT:HK E){l:Sl ae}(hl:l.l.length≤1000000)(hs:∀ x∈l.l,x.text.length≤1000000)(hk:∀ n,Wk n (.slice l.tag 3 (l.l.map ae.row)) (.slice l.tag 3 (l.l.map ae.row)))(hf:(∀ x∈l.l,oH x=false)→(iT l.l).length≤100000000)(H:List AObj) :
  M.run jy [.slice l.tag 3 (l.l.map ae.row)] H=some (.ret (th l.l),H):=by
 have hc:=fun H=>n0 M hB hD hl (fun x hx=>Nat.le_trans (hs x hx) (by omega)) H
 unfold th;cases h0:jP l.l == 0 with
 |false=>
  rw [sel_false];rw [cq M hT.docs_Write rfl (c:=jE) rfl,jE];simp (maxSteps:=3000000) (maxDischargeDepth:=6) +contextual -implicitDefEqProofs only [amC M,↓amD,Nat.reduceBEq,Nat.reduceAdd,env,ao,iw,amG,AV.cell,Nat.reduceMul,Nat.reduceLeDiff,hc,h0,hp_self,cut_refl,wk_tuple]
 |true=>
  have e0:=eq_of_beq h0;rw [e0] at hc;rw [sel_true];have ha:=tL e0;have hfl:=hf ha;obtain ⟨a',h1⟩:=dwr M hS hBl hX hR hXC hE (by simp only [cf];omega) hs ha hk (H:=H) (H0:=H) l.l.length 0 [] .nilp (.inl rfl) (by omega) (by simpa using hfl);simp only [kv_cons,kv_nil,Int.ofNat_zero,List.drop_zero,List.nil_append,List.length_nil,List.map_nil] at h1;have h2:=tK M hBl H [] (w:=iT l.l) (a:=a') (T:=aq) (by omega)
  have h3:=FT M hBl H [] (w:=iT l.l) (a:=a') (T:=aq);rw [cq M hT.docs_Write rfl (c:=jE) rfl,jE];simp (maxSteps:=3000000) (maxDischargeDepth:=6) +contextual -implicitDefEqProofs only [amC M,↓amD,Nat.reduceBEq,Nat.reduceAdd,env,ao,iw,amG,AV.cell,Nat.reduceMul,Nat.reduceLeDiff,qU,hc,(show ((0:Int) == 0)=true from rfl),List.length_map];refine (h1 _).trans ?_;cases h5:decide ((65536:Int)<((iT l.l).length:Int)) with
  |true=>simp (maxSteps:=3000000) (maxDischargeDepth:=6) +contextual -implicitDefEqProofs only [amC M,↓amD,Nat.reduceBEq,Nat.reduceAdd,env,ao,iw,amG,AV.cell,Nat.reduceMul,Nat.reduceLeDiff,h3,h5,hp_take,cut_app,wk_tuple]
  |false=>simp (maxSteps:=3000000) (maxDischargeDepth:=6) +contextual -implicitDefEqProofs only [amC M,↓amD,Nat.reduceBEq,Nat.reduceAdd,env,ao,iw,amG,AV.cell,Nat.reduceMul,Nat.reduceLeDiff,h2,h3,h5,hp_take,cut_app,wk_tuple]
theorem rfr(hS:so E){l:List ae}{tg:Tag}(hl:l.length≤cf)(hxs:∀ x∈l,x.text.length≤1000000){H H0:List AObj}(k:List Fra):∀ (n i:Nat) (w:Str) (He:List AObj),i+n=l.length→w.length+(iT (l.drop i)).length≤100000000 →
  M.go dv H0 (.c cU :: .lp ⟨(some [0,3,4]),[],false⟩ cU He :: .blk 0 :: .c (.lv [3])::k) (kv [(0,.slice tg 3 (l.map ae.row)),(3,.str w),(4,.int .i64 i)]) H=M.go dv H0 k (kv [(3,.str (w++iT (l.drop i)))]) H
 |0,i,w,He,h,hw0=>by
  have e:i=l.length:=by omega
  subst e;rw [List.drop_length,show iT []=[] from rfl,List.append_nil];rw [aH M cU.eq_1];simp (maxSteps:=3000000) (maxDischargeDepth:=6) +contextual -implicitDefEqProofs only [amC M,↓amD,Nat.reduceBEq,Nat.reduceAdd,env,ao,gR,Nat.lt_irrefl]
 |n+1,i,w,He,h,hw0=>by
  have hi:i<l.length:=by omega
  have hx:l[i]?=some l[i]:=List.getElem?_eq_getElem hi;have hwi:=iX (n:=l.length) hi hl;have hir:=bD (row:=ae.row) (tag:=tg) (sz:=3) (k:=.i64) hi;have hm:=hxs _ (List.getElem_mem hi);have hwr:=fun H=>zD M hS (x:=l[i]) (by omega) H
  rw [List.drop_eq_getElem_cons hi,rm] at hw0 ⊢;rw [List.length_append] at hw0;have ha:a8 .add w (wrF l[i])=some (.str (w++wrF l[i])):=bb (by omega);rw [← List.append_assoc];have ih:=fun He=>rfr hS hl hxs (tg:=tg) (H:=H) (H0:=H0) k n (i+1) (w++wrF l[i]) He (by omega) (by rw [List.length_append];omega)
  simp only [kv_cons,kv_nil] at ih;rw [aH M cU.eq_1];simp (maxSteps:=3000000) (maxDischargeDepth:=6) +contextual -implicitDefEqProofs only [amC M,↓amD,Nat.reduceBEq,Nat.reduceAdd,env,ao,gR,amG,AV.cell,Nat.reduceMul,Nat.reduceLeDiff,hi,hx,hir,hwi,bg,hwr,ha,ih]
theorem Ck(hB:nS E)(hS:so E)(hT:HK E){l:Sl ae}(hl:l.l.length≤1000000)(hs:∀ x∈l.l,x.text.length≤1000000)(hf:(∀ x∈l.l,oH x=false)→(iT l.l).length≤100000000)(H:List AObj) :
  M.run fN [.slice l.tag 3 (l.l.map ae.row)] H=some (.ret (th l.l),H):=by
 have hc:=fun H=>ng M hB hl (fun x hx=>Nat.le_trans (hs x hx) (by omega)) H
 unfold th;cases h0:jP l.l == 0 with
 |false=>
  rw [sel_false];rw [cq M hT.truchmanref01_Write rfl (c:=bS) rfl,bS];simp (maxSteps:=3000000) (maxDischargeDepth:=6) +contextual -implicitDefEqProofs only [amC M,↓amD,Nat.reduceBEq,Nat.reduceAdd,env,ao,fV,amG,AV.cell,Nat.reduceMul,Nat.reduceLeDiff,hc,h0,hp_self,cut_refl,wk_tuple]
 |true=>
  have e0:=eq_of_beq h0;rw [e0] at hc;rw [sel_true];have hfl:=hf (tL e0)
  have h1:∀ H,M.run gG [.slice l.tag 3 (l.l.map ae.row)] H=some (.ret (.str (iT l.l)),H):=fun H=>by
   have h2:=fun k He=>rfr M hS (l:=l.l) (tg:=l.tag) (by simp only [cf];omega) hs (H:=H) (H0:=H) k l.l.length 0 [] He (by omega) (by simpa using hfl)
   simp only [kv_cons,kv_nil,Int.ofNat_zero,List.drop_zero,List.nil_append] at h2;rw [cq M hT.truchmanref01_form rfl (c:=gQ) rfl,gQ];simp (maxSteps:=3000000) (maxDischargeDepth:=6) +contextual -implicitDefEqProofs only [amC M,↓amD,Nat.reduceBEq,Nat.reduceAdd,env,ao,gR,amG,AV.cell,Nat.reduceMul,Nat.reduceLeDiff,h2,hp_self,cut_refl]
  cases h5:decide ((65536:Int)<((iT l.l).length:Int)) with
  |true=>
   rw [cq M hT.truchmanref01_Write rfl (c:=bS) rfl,bS];simp (maxSteps:=3000000) (maxDischargeDepth:=6) +contextual -implicitDefEqProofs only [amC M,↓amD,Nat.reduceBEq,Nat.reduceAdd,env,ao,fV,amG,AV.cell,Nat.reduceMul,Nat.reduceLeDiff,hc,h1,(show ((0:Int) == 0)=true from rfl),h5,hp_self,cut_refl,wk_tuple]
  |false=>
   rw [cq M hT.truchmanref01_Write rfl (c:=bS) rfl,bS];simp (maxSteps:=3000000) (maxDischargeDepth:=6) +contextual -implicitDefEqProofs only [amC M,↓amD,Nat.reduceBEq,Nat.reduceAdd,env,ao,fV,amG,AV.cell,Nat.reduceMul,Nat.reduceLeDiff,hc,h1,(show ((0:Int) == 0)=true from rfl),h5,hp_self,cut_refl,wk_tuple]
end
section
attribute [local congr] au bc aM aw aL aE aA ah aj aF aG
variable{E:aT}(M:bk bK E)
theorem zH(l:List ae):∃ (s:Str) (e:Int),th l = .tuple [.str s,.int .u8 e]:=by
 unfold th;cases jP l == 0 with
 |false=>exact ⟨_,_,rfl⟩
 |true=>
  rw [sel_true];cases decide ((65536:Int)<((iT l).length:Int)) with
  |true=>exact ⟨_,_,rfl⟩
  |false=>exact ⟨_,_,rfl⟩
theorem wP(hB:nS E)(hS:so E)(hBl:tb E)(hX:sk M)(hD:B1 M)(hU:I9 E)(hC:Ja E)(hR:wK E)(hXC:xL M)(hE:Cd M)(hT:HK E){l:Sl ae}(hl:l.ok 0 (ae.ok 0)){H:List AObj}
  (hL:∀ H,M.run bq [] H=some (.ret (.bool true),H)):M.run dS [.slice l.tag 3 (l.l.map ae.row)] H=some (.ret (.bool true),H):=by
 have s1:=fun H=>D6 M hB hl H
 have hkl:∀ n,Wk n (.slice l.tag 3 (l.l.map ae.row)) (.slice l.tag 3 (l.l.map ae.row)):=fun n=>wk_slice (hl.tag.mono (Nat.zero_le _)) (I3 n l.l)
 rw [cq M hT.truchmanlaw01_DocsPieces rfl (c:=dW) rfl,dW];cases c1:A9 [l] with
 |true=>simp (maxSteps:=3000000) (maxDischargeDepth:=6) +contextual -implicitDefEqProofs only [amC M,↓amD,Nat.reduceBEq,Nat.reduceAdd,env,ao,gM,amG,AV.cell,Nat.reduceMul,Nat.reduceLeDiff,s1,pj,c1,hL]
 |false=>
 have hlong:=D5 c1;have htx:∀ x∈l.l,x.text.length≤1000000:=fun x hx=>by have:=Ga hx;omega
 have hfm:(∀ x∈l.l,oH x=false)→(iT l.l).length≤100000000:=fun h=>by have:=yt h;omega
 have hpl:=wN l.l;have v1:=fun H=>Cj M hB hS hD hBl hX hR hXC hE hT (l:=l) (by omega) htx hkl hfm H
 have v2:=fun H=>Ck M hB hS hT (l:=l) (by omega) htx hfm H
 have v3:=fun H=>n0 M hB hD (l:=l) (by omega) (fun x hx=>Nat.le_trans (htx x hx) (by omega)) H
 have v4:=fun H=>ng M hB (l:=l) (by omega) (fun x hx=>Nat.le_trans (htx x hx) (by omega)) H
 have v5:=fun H=>Ch M hC hBl hX (l:=l.l) (tg:=l.tag) (by simp only [cf];omega) hkl (by omega) H
 have v6:=fun H=>D4 M hU (l:=l.l) (tg:=l.tag) (by simp only [cf];omega) (by omega) H
 obtain ⟨s,e,h1⟩:=zH l.l;rw [h1] at v1 v2;have qs:∀ s:Str,a8 .eql s s=some (.bool true):=fun s=>by simp [a8]
 simp (maxSteps:=3000000) (maxDischargeDepth:=6) +contextual -implicitDefEqProofs only [amC M,↓amD,Nat.reduceBEq,Nat.reduceAdd,env,ao,gM,amG,AV.cell,Nat.reduceMul,Nat.reduceLeDiff,s1,pj,c1,v1,v2,v3,v4,v5,v6,qs,hL,ew,List.getElem?_cons_zero,List.getElem?_cons_succ,beq_self_eq_true,hp_self]
end
section
open Go.ChangeShapes Go.WideShapes
structure zI (P:Program):Prop where
 u_string:P.underlying aI=some .string
 c_string:P.cellsOf aI=1
 u_api_PieceKind:P.underlying kF=some (.int .u8)
 c_api_PieceKind:P.cellsOf kF=1
 u_bool:P.underlying zp=some .bool
 c_bool:P.cellsOf zp=1
 f_Piece:fieldsOf P aa=some [(0,kF),(1,aI),(2,zp)]
 c_Piece:P.cellsOf aa=3
 u_sl_Piece:P.underlying aP=some (.slice aa)
 c_sl_Piece:P.cellsOf aP=1
 y_Piece:Nat.blt 0 (P.bytesOf aa)=true
section
variable{P:Program}{W:World}{G:Nat→Option (List AV)}
theorem Cm(h:zI P):ml P W G aa ae.row (ae.ok 0):=
 zh h.f_Piece h.c_Piece (pn (Hi h.u_api_PieceKind) h.c_api_PieceKind (pn (DJ h.u_string) h.c_string (pn (BR h.u_bool) h.c_bool (BS _)))) (fun a=>⟨a.1,a.2.1,a.2.2.1⟩) (fun a=>rfl) (fun a ha=>⟨ha.2.1⟩)
theorem xO(h:zI P):ml P W G aP (fun s:Sl ae=>[.slice s.tag 3 (s.l.map ae.row)]) (fun s=>s.ok 0 (ae.ok 0)):=
 AD h.u_sl_Piece h.c_Piece (by decide) (Hk h.y_Piece) (fun _=>by simp only [bg]) (Cm h)
end
end
section
open Go.Shelf Go.RowKit Go.Lib Go.Proofs
def wQ:Go.Shelf.Ren:=⟨fun | 197=>70 | 260=>109 | n=>n,fun | 9=>9 | 21=>21 | 3=>3 | 4=>4 | 5=>5 | 105=>119 | 119=>194 | 0=>0 | 46=>195 | 139=>198 | 138=>197 | n=>n,fun | 3=>0 | 4=>1 | n=>n⟩
theorem Gh:Go.Proofs.Lays.n197 Tryz.prog wQ where
 mixed:=by kernel_rfl
 f197:=Tryz.func70.trans (congrArg some (by kernel_rfl))
 f260:=Tryz.func109.trans (congrArg some (by kernel_rfl))
 t0:=Tryz.underlying0
 a0:=Tryz.isAgg0
 z0:=Tryz.sizeOf0
 v0:=Tryz.zeroValue0
 t3:=Tryz.underlying3
 a3:=Tryz.isAgg3
 z3:=Tryz.sizeOf3
 v3:=Tryz.zeroValue3
 t4:=Tryz.underlying4
 a4:=Tryz.isAgg4
 z4:=Tryz.sizeOf4
 v4:=Tryz.zeroValue4
 t5:=Tryz.underlying5
 a5:=Tryz.isAgg5
 z5:=Tryz.sizeOf5
 v5:=Tryz.zeroValue5
 t9:=Tryz.underlying9
 a9:=Tryz.isAgg9
 z9:=Tryz.sizeOf9
 v9:=Tryz.zeroValue9
 t21:=Tryz.underlying21
 a21:=Tryz.isAgg21
 z21:=Tryz.sizeOf21
 v21:=Tryz.zeroValue21
 t46:=Tryz.underlying195
 a46:=Tryz.isAgg195
 z46:=Tryz.sizeOf195
 v46:=Tryz.zeroValue195
 t105:=Tryz.underlying119
 a105:=Tryz.isAgg119
 z105:=Tryz.sizeOf119
 v105:=Tryz.zeroValue119
 t119:=Tryz.underlying194
 a119:=Tryz.isAgg194
 z119:=Tryz.sizeOf194
 t138:=Tryz.underlying197
 a138:=Tryz.isAgg197
 z138:=Tryz.sizeOf197
 v138:=Tryz.zeroValue197
 t139:=Tryz.underlying198
 a139:=Tryz.isAgg198
 z139:=Tryz.sizeOf198
 v139:=Tryz.zeroValue198
 g3:=by kernel_rfl
 g4:=by kernel_rfl
theorem Cn:∀ args w,(callFunc 70 args).run Tryz.prog w = .ok (.enter 70 args) w:=enters_of Tryz.func70 (by kernel_rfl) rfl
theorem D9:∀ (s:ByteArray) (w:World),Lib.Utf8Tabs 0 1 w→Calls Tryz.prog 70 #[.string s] w fun e w'=>e = .returned (.tuple #[.int .i32 (Lib.decodeGo s).1,.int .i64 (Lib.decodeGo s).2])∧Below w.heap.size w w':=fun s w hT=>Any.utf8_DecodeRuneInString Gh s w hT
theorem Ea {W:World} (h3:VarReads Tryz.prog W "unicode/utf8.first" firstData) (h4:VarReads Tryz.prog W "unicode/utf8.acceptRanges" acceptData):Lib.Utf8Tabs 0 1 W:=
 utf8Tabs_of_readsT (ρ:=wQ) { Gh with } ⟨by kernel_rfl,by kernel_rfl,by kernel_rfl,by kernel_rfl,by kernel_rfl,by kernel_rfl,by kernel_rfl⟩ h3 h4
end
section
open Go.Proofs
def Gi:List (Nat×AFn):=[(3,iP),(4,dX),(6,b3),(8,px),(9,jF),(10,dY),(11,fU),(12,dh),(13,bV),(14,jG),(15,dc),(31,mF)]
theorem Jb:kr (cO Tryz.prog G0) Gi:=by repeat' first | (unfold cO;kernel_rfl) | exact trivial | refine ⟨?_, ?_⟩
def Gj:List (Nat×AFn):=[(32,dj),(33,je),(34,fK),(35,i7),(36,dL),(37,mI),(38,du),(39,lR),(40,fY),(41,dv),(42,fL),(43,eC)]
theorem Jc:kr (cO Tryz.prog G0) Gj:=by repeat' first | (unfold cO;kernel_rfl) | exact trivial | refine ⟨?_, ?_⟩
def Gk:List (Nat×AFn):=[(44,dA),(45,eJ),(46,ga),(47,cK),(71,kH),(72,cN),(73,di),(74,iB),(75,iC),(76,gd),(77,ea),(78,cL)]
theorem Jd:kr (cO Tryz.prog G0) Gk:=by repeat' first | (unfold cO;kernel_rfl) | exact trivial | refine ⟨?_, ?_⟩
def Gl:List (Nat×AFn):=[(79,dw),(80,dx),(110,dC),(112,eU),(113,dM),(114,fu),(115,dN),(116,cX),(117,cY),(119,dE),(137,bX),(139,gW)]
theorem Je:kr (cO Tryz.prog G0) Gl:=by repeat' first | (unfold cO;kernel_rfl) | exact trivial | refine ⟨?_, ?_⟩
def Gm:List (Nat×AFn):=[(140,de),(141,eW),(142,dk),(145,eM),(152,eo),(211,ak),(213,kL),(214,jM)]
theorem Jf:kr (cO Tryz.prog G0) Gm:=by repeat' first | (unfold cO;kernel_rfl) | exact trivial | refine ⟨?_, ?_⟩
def Gn:List (Nat×List (Nat×AFn)):=[(31,Gi),(43,Gj),(78,Gk),(139,Gl),(214,Gm)]
def JY(f:FuncId):Option AFn:=Ay Gn f
theorem HM:∀ f af,JY f=some af→cO Tryz.prog G0 f af:=fun f af h=>vQ (show zd _ Gn from ⟨Jb,Jc,Jd,Je,Jf,trivial⟩) h
def Jg(f:FuncId)(args:List AV)(H:List AObj):Option Out:=
 match args with
 |[]=>bif Nat.beq f bq then some (.ret (.bool true),H) else none
 |[.str s]=>bif Nat.beq f bt then some (.ret (.tuple [.int .i32 ((tS s).1:Nat),.int .i64 ((tS s).2:Nat)]),H) else none
 |_=>Ho f args H
theorem HN{f:FuncId}{args:List AV}{H H':List AObj}{r:jW}(h:Jg f args H=some (r,H')):bO Tryz.prog G0 f args H fun r2 H2=>r2=r∧H2=H':=by
 unfold Jg at h;split at h
 ·cases h1:Nat.beq f bq with
  |true=>rw [h1] at h;cases h;rw [Nat.eq_of_beq_eq_true h1];exact FE H
  |false=>rw [h1] at h;cases h
 ·rename_i s
  cases h1:Nat.beq f bt with
  |true=>rw [h1] at h;cases h;rw [Nat.eq_of_beq_eq_true h1];exact Hd rfl Cn D9 s H
  |false=>rw [h1] at h;cases h
 ·exact CO h
noncomputable def EN:aT := { P:=Tryz.prog,G:=G0,fn:=JY,orc:=Jg,dfn:=fun _=>none,seq:=Hr,sar:=fun _=>1 }
theorem tM:EN.Ok:=⟨CP,fun f af h=>HM f af h,(fun _ _ _ h=>by cases h),(fun _ _ _ _ _ h=>by cases h),fun _ _ _ _ _ h=>HN h,(fun _ _ _ h=>by cases h),CQ⟩
end
section
open Go.Proofs
theorem yu(w:World):(callFunc 168 #[]).run Tryz.prog w = .ok (.value (.tuple #[])) w:=run_call_mark0 Tryz.func168 (by kernel_rfl) (by kernel_rfl) (by kernel_rfl) .disable (by kernel_rfl) w
theorem Bc(w:World):(callFunc 170 #[]).run Tryz.prog w = .ok (.value (.tuple #[])) w:=run_call_mark0 Tryz.func170 (by kernel_rfl) (by kernel_rfl) (by kernel_rfl) .enable (by kernel_rfl) w
theorem Eb(a:Addr)(w:World):(callFunc 171 #[.pointer (some a)]).run Tryz.prog w = .ok (.value (.tuple #[])) w:=run_call_marked Tryz.func171 (by kernel_rfl) (by kernel_rfl) (by kernel_rfl) .acquire (by kernel_rfl) a w
theorem Ec(a:Addr)(w:World):(callFunc 173 #[.pointer (some a)]).run Tryz.prog w = .ok (.value (.tuple #[])) w:=run_call_marked Tryz.func173 (by kernel_rfl) (by kernel_rfl) (by kernel_rfl) .releaseMerge (by kernel_rfl) a w
set_option maxRecDepth 100000 in
set_option maxHeartbeats 1600000 in
theorem HO(a:Addr)(x:Value)(u:FrameMode)(w:World)(hc:w.cell? a=some x)(hz:w.frozen? a=false) :
  CallsD Tryz.prog 156 #[.pointer (some a),.bool true] u w fun e u' w'=>u'=u∧(e = .returned (.tuple #[])∧w'=w.drew.setCell a (.int .u32 1)):=by
 have hc':w.drew.cell? a=some x:=by go_simp
 have hz':w.drew.frozen? a=false:=by go_simp
 have hst:=run_call_store (P:=Tryz.prog) Tryz.func163 (by kernel_rfl) (by kernel_rfl) (by kernel_rfl) (by kernel_rfl) (k:=.u32) (y:=1) hc' hz'
 go_enter_d Tryz.func156,Tryz.ntmps156
 go_wp2
 go_region_calls
 all_goals (go_end0;exact ⟨rfl,rfl⟩)
set_option maxRecDepth 100000 in
set_option maxHeartbeats 1600000 in
theorem Gp(a:Addr)(u:FrameMode)(w:World)(hc:w.cell? a=some (.int .i32 1))(hz:w.frozen? a=false) :
  CallsD Tryz.prog 155 #[.pointer (some a)] u w fun e u' w'=>u'=u∧(e = .returned (.tuple #[])∧w'=w.setCell a (.int .i32 0)):=by
 have hd:=yu;have he:=Bc;have hr:=Ec;have hadd:=run_call_add (P:=Tryz.prog) Tryz.func174 (by kernel_rfl) (by kernel_rfl) (by kernel_rfl) .i32 (by kernel_rfl) (y := -1) (s:=0) hc hz (by simp [go_sem];rfl);have hcv:=run_convert_to_unsafe (P:=Tryz.prog) (src:=238) (dst:=154) Tryz.underlying238 Tryz.underlying154 (by kernel_rfl) hc
 go_enter_d Tryz.func155,Tryz.ntmps155
 go_wp2
 go_end0
 go_wp2
 go_end0
 exact ⟨rfl,rfl⟩
set_option maxRecDepth 100000 in
set_option maxHeartbeats 1600000 in
theorem Jh(a:Addr)(w:World)(hc:w.cell? a=some (.int .i32 0))(hz:w.frozen? a=false) :
  Calls Tryz.prog 154 #[.pointer (some a)] w fun e w'=>e = .returned (.tuple #[])∧w'=w.setCell a (.int .i32 1):=by
 have hd:=yu;have he:=Bc;have ha:=Eb;have hcas:=run_call_cas_hit (P:=Tryz.prog) Tryz.func169 (by kernel_rfl) (by kernel_rfl) (by kernel_rfl) .i32 (by kernel_rfl) (y:=1) hc hz;have hc':(w.setCell a (.int .i32 1)).cell? a=some (.int .i32 1):=World.cell?_setCell_same w a _ hc;have hcv:=run_convert_to_unsafe (P:=Tryz.prog) (src:=238) (dst:=154) Tryz.underlying238 Tryz.underlying154 (by kernel_rfl) hc'
 go_enter Tryz.func154,Tryz.ntmps154
 go_wp2
 first | go_end0 | (simp only [Exit.inBlock,Exit.then];refine bodyPost_ret (results_none rfl _ _ _) rfl ?_) | refine bodyPost_ret (results_none rfl _ _ _) rfl ?_
 go_wp2
 go_end0
 exact ⟨rfl,rfl⟩
set_option maxRecDepth 100000 in
set_option maxHeartbeats 1600000 in
theorem Ji(b:Nat)(w:World)(Q:World→Prop)
  (h0:w.cell? ⟨b,0,none⟩=some (.int .u32 0)) (h1:w.cell? ⟨b,0+1,none⟩=some (.int .i32 0)) (f1:w.frozen? ⟨b,0+1,none⟩=false)
  (hf:Calls Tryz.prog 119 #[.pointer (some ⟨b,0,none⟩)] (w.setCell ⟨b,0+1,none⟩ (.int .i32 1)) fun e w'=>e = .returned (.tuple #[])∧Q w')
  (hQ:∀ w',Q w'→w'.cell? ⟨b,0,none⟩=some (.int .u32 0)∧w'.cell? ⟨b,0+1,none⟩=some (.int .i32 1)∧w'.frozen? ⟨b,0,none⟩=false∧w'.frozen? ⟨b,0+1,none⟩=false) :
  Calls Tryz.prog 144 #[.pointer (some ⟨b,0,none⟩),.func (.func 119) #[.pointer (some ⟨b,0,none⟩)] #[]] w fun e w'=>e = .returned (.tuple #[]) ∧
   ∃ w2,Q w2∧w'=(w2.drew.setCell ⟨b,0,none⟩ (.int .u32 1)).setCell ⟨b,0+1,none⟩ (.int .i32 0):=by
 have hl:=run_call_load (P:=Tryz.prog) Tryz.func153 (by kernel_rfl) (by kernel_rfl) (by kernel_rfl) .u32 (by kernel_rfl) (w:=w.setCell ⟨b,0+1,none⟩ (.int .i32 1)) (a:=⟨b,0,none⟩) (x:=0) ((World.cell?_setCell_other _ ⟨b,0+1,none⟩ ⟨b,0,none⟩ _ (by simp)).trans h0);have hnot:∀ (x:Bool) (w:World),(Op.unary .not (.bool x)).run Tryz.prog w = .ok (.bool (!x)) w:=fun _ _=>rfl
 go_enter_defers Tryz.func144,Tryz.ntmps144
 go_wp2_with (first | (go_at_call 154;refine (Jh ⟨b,0+1,none⟩ _ h1 f1).mono ?_;rintro e w' ⟨rfl,rfl⟩) | (go_at_call 119;refine hf.mono ?_;rintro e w2 ⟨rfl,hq⟩) | (go_at_call 143;go_in))
 refine leaves_cons (f:=156) (args := #[.pointer (some ⟨b,0,none⟩),.bool true]) (by simp) (by simp [go_sem]) ?_;refine (HO ⟨b,0,none⟩ (.int .u32 0) .returning _ (hQ w2 hq).1 (hQ w2 hq).2.2.1).mono ?_;rintro e u' w'' ⟨rfl,rfl,rfl⟩;refine leaves_cons (f:=155) (args := #[.pointer (some ⟨b,0+1,none⟩)]) (by simp [settle]) (by simp [go_sem]) ?_;refine (Gp ⟨b,0+1,none⟩ _ _ ?_ ?_).mono ?_
 ·refine (World.cell?_setCell_other _ ⟨b,0,none⟩ ⟨b,0+1,none⟩ _ (by simp)).trans ?_
  rw [World.cell?_drew];exact (hQ w2 hq).2.1
 ·simp [(hQ w2 hq).2.2.2]
 rintro e u' w'' ⟨rfl,rfl,rfl⟩;simp [Leaves,settle,results,Tryz.results144];exact ⟨w2,hq,rfl⟩
set_option maxRecDepth 100000 in
set_option maxHeartbeats 1600000 in
theorem Ke(b:Nat)(w:World)(Q:World→Prop)
  (h0:w.cell? ⟨b,0,none⟩=some (.int .u32 0)) (h1:w.cell? ⟨b,0+1,none⟩=some (.int .i32 0)) (f1:w.frozen? ⟨b,0+1,none⟩=false)
  (hf:Calls Tryz.prog 119 #[.pointer (some ⟨b,0,none⟩)] (w.setCell ⟨b,0+1,none⟩ (.int .i32 1)) fun e w'=>e = .returned (.tuple #[])∧Q w')
  (hQ:∀ w',Q w'→w'.cell? ⟨b,0,none⟩=some (.int .u32 0)∧w'.cell? ⟨b,0+1,none⟩=some (.int .i32 1)∧w'.frozen? ⟨b,0,none⟩=false∧w'.frozen? ⟨b,0+1,none⟩=false) :
  Calls Tryz.prog 118 #[.pointer (some ⟨b,0,none⟩),.func (.func 119) #[.pointer (some ⟨b,0,none⟩)] #[]] w fun e w'=>e = .returned (.tuple #[]) ∧
   ∃ w2,Q w2∧w'=(w2.drew.setCell ⟨b,0,none⟩ (.int .u32 1)).setCell ⟨b,0+1,none⟩ (.int .i32 0):=by
 have hl:=run_call_load (P:=Tryz.prog) Tryz.func153 (by kernel_rfl) (by kernel_rfl) (by kernel_rfl) .u32 (by kernel_rfl) h0;have hnot:∀ (x:Bool) (w:World),(Op.unary .not (.bool x)).run Tryz.prog w = .ok (.bool (!x)) w:=fun _ _=>rfl
 go_enter Tryz.func118,Tryz.ntmps118
 go_wp2_with (first | (go_at_call 144;refine (Ji b w Q h0 h1 f1 hf hQ).mono ?_;rintro e w' ⟨rfl,w2,hq,rfl⟩) | (go_at_call 143;go_in))
 go_end0
 exact ⟨rfl,w2,hq,rfl⟩
end
section
open Go.Proofs
theorem sw{K:ag}{H:List AObj}{w:World}(hi:Inv K H w){id b off:Nat}{cs:List AV}{T0:TypeId}{av:AV}(hx:H[id]?=some (.cells cs T0))(hb:K.loc[id]?=some b)(ha:cs[off]?=some av) :
  ∃ v,w.cell? ⟨b,off,none⟩=some v∧V K av v∧w.frozen? ⟨b,off,none⟩=false:=by
 obtain ⟨b',vs,T,h1,h2,h3,h4,h5,_⟩:=hi.obj id _ hx;rw [hb] at h1;cases h1;have hlt:off<vs.size:=Nat.lt_of_lt_of_le (List.getElem?_eq_some_iff.1 ha).1 h4;refine ⟨vs.getD off undef, ?_,h5 off av ha,by simp [World.frozen?,h3]⟩;rw [bC h3];simp [Array.getD,hlt]
noncomputable def M0:bk bK EN:=Classical.choice (tE bK EN)
noncomputable def C8(q:Nat)(H:List AObj):Option Out:=
 match H[q]? with
 |some (.cells (.int .u32 0 :: .int .i32 0::rest) T)=>
  match M0.run aV [.ptr q 0] (H.set q (.cells (.int .u32 0 :: .int .i32 1::rest) T)) with
  |some (.ret (.tuple []),H2)=>
   match H2[q]? with
   |some (.cells (.int .u32 0 :: .int .i32 1::rest2) T2)=>some (.ret (.tuple []),H2.set q (.cells (.int .u32 1 :: .int .i32 0::rest2) T2))
   |_=>none
  |_=>none
 |_=>none
theorem Gq{q:Nat}{H H':List AObj}{r:jW}(h:C8 q H=some (r,H')):bO Tryz.prog G0 gK [.ptr q 0,.fn (.func aV) [.ptr q 0] []] H fun r2 H2=>r2=r∧H2=H':=by
 unfold C8 at h;split at h
 ·rename_i rest T hH
  split at h
  ·rename_i H2 hrun
   split at h
   ·rename_i rest2 T2 hH2
    cases h;intro K w cargs hg hi hv;refine .inl ⟨dR Tryz.func118 (by kernel_rfl) (by kernel_rfl) _ _, ?_⟩;have hA:=M0.sound tM hrun;have hsz:=hv.size
    obtain ⟨v0,v1,rfl⟩:∃ v0 v1,cargs = #[v0,v1]:=by
     obtain ⟨l⟩:=cargs;rcases l with _ | ⟨v0,_ | ⟨v1,_ | ⟨v2,l⟩⟩⟩<;>simp at hsz
     exact ⟨v0,v1,rfl⟩
    have h0:V K (.ptr q 0) v0:=hv.at_ 0 _ rfl;have h1:V K (.fn (.func aV) [.ptr q 0] []) v1:=hv.at_ 1 _ rfl;cases h0 with
    |ptr _ _ b hb=>
    cases h1 with
    |fn _ _ _ vs us e1 e2 e3 e4=>
    obtain rfl:us = #[]:=Array.eq_empty_of_size_eq_zero (by simpa using e2.symm)
    obtain ⟨u,rfl⟩:∃ u,vs = #[u]:=by
     obtain ⟨l⟩:=vs;rcases l with _ | ⟨u,_ | ⟨u2,l⟩⟩<;>simp at e1
     exact ⟨u,rfl⟩
    have h2:V K (.ptr q 0) u:=e3 0 _ rfl;cases h2 with
    |ptr _ _ b2 hb2=>
    rw [hb] at hb2;cases hb2;obtain ⟨x0,c0,V0,f0⟩:=sw hi hH hb (off:=0) rfl;obtain ⟨x1,c1,V1,f1⟩:=sw hi hH hb (off:=1) rfl;cases V0;cases V1;have hi1:=hi.store hH (off:=1) (by simp) hb (V.int .i32 1)
    have hvs1:Vs K [.ptr q 0] #[.pointer (some ⟨b,0,none⟩)]:=⟨rfl,fun i av h=>by
     cases i with
     |zero=>cases h;exact V.ptr _ _ _ hb
     |succ i=>simp at h⟩
    rcases hA K _ _ hg hi1 hvs1 with ⟨_,hcalls⟩ | ⟨cv,w',e,_⟩
    rotate_left
    ·have e':=dR Tryz.func119 (by kernel_rfl) (by kernel_rfl) #[.pointer (some ⟨b,0,none⟩)] (w.setCell ⟨b,1,none⟩ (.int .i32 1))
     have e:(callFunc 119 #[.pointer (some ⟨b,0,none⟩)]).run Tryz.prog (w.setCell ⟨b,1,none⟩ (.int .i32 1)) = .ok (.value cv) w':=e;rw [e'] at e;cases e
    refine (Ke b w (fun w2 => ∃ K2,K.le K2∧Inv K2 H2 w2) c0 c1 f1 (hcalls.mono ?_) ?_).mono ?_
    ·rintro e w2 ⟨K2,r2,H3,hk,he,hi2,rfl,rfl⟩
     cases e with
     |returned x=>
      have he:V K2 (.tuple []) x:=he;cases he with
      |tuple _ vs2 g1 g2=>
       obtain rfl:vs2 = #[]:=Array.eq_empty_of_size_eq_zero (by simpa using g1.symm);exact ⟨rfl,K2,hk,hi2⟩
     |_=>exact he.elim
    ·rintro w2 ⟨K2,hk,hi2⟩
     obtain ⟨y0,d0,W0,k0⟩:=sw hi2 hH2 (hk.loc _ _ hb) (off:=0) rfl;obtain ⟨y1,d1,W1,k1⟩:=sw hi2 hH2 (hk.loc _ _ hb) (off:=1) rfl;cases W0;cases W1;exact ⟨d0,d1,k0,k1⟩
    ·rintro e w' ⟨rfl,w2,⟨K2,hk,hi2⟩,rfl⟩
     have i1:=hi2.drew.store hH2 (off:=0) (by simp) (hk.loc _ _ hb) (V.int .u32 1);have hlt:=(List.getElem?_eq_some_iff.1 hH2).1;have i2:=i1.store (List.getElem?_set_self hlt) (off:=1) (by simp) (hk.loc _ _ hb) (V.int .i32 0);rw [List.set_set] at i2;exact ⟨K2,.ret (.tuple []),_,hk,(show Ee K2 (.ret (.tuple [])) (.returned (.tuple #[])) from V.tuple [] #[] rfl (fun i av h=>by simp at h)),i2,rfl,rfl⟩
   ·cases h
  ·cases h
 ·cases h
noncomputable def Co(f:FuncId)(args:List AV)(H:List AObj):Option Out:=
 match args with
 |[.ptr q 0,.fn (.func g) [.ptr q' 0] []]=>bif Nat.beq f gK&&Nat.beq g aV&&Nat.beq q' q then C8 q H else EN.orc f args H
 |_=>EN.orc f args H
theorem HP{f:FuncId}{args:List AV}{H H':List AObj}{r:jW}(h:Co f args H=some (r,H')):bO Tryz.prog G0 f args H fun r2 H2=>r2=r∧H2=H':=by
 unfold Co at h;split at h
 ·rename_i q g q'
  cases hb:Nat.beq f gK&&Nat.beq g aV&&Nat.beq q' q with
  |true=>
   rw [hb,cond_true] at h;simp only [Bool.and_eq_true] at hb;rw [Nat.eq_of_beq_eq_true hb.1.1,Nat.eq_of_beq_eq_true hb.1.2,Nat.eq_of_beq_eq_true hb.2];exact Gq h
  |false=>rw [hb,cond_false] at h;exact tM.orc _ _ _ _ _ h
 ·exact tM.orc _ _ _ _ _ h
def Gr (t:TypeId) (m:String):Option FuncId:=bif Nat.beq t aQ&&(m == "Replace") then some bh else none
theorem Gs(t:TypeId)(m:String)(g:FuncId)(h:Gr t m=some g)(v:Value)(w:World):(method (Tryz.prog.types.size+Made.depth) t v m).run Tryz.prog w = .ok (g,v) w:=by
 unfold Gr at h;cases hb:Nat.beq t aQ&&(m == "Replace") with
 |true=>
  rw [hb,cond_true] at h;cases h;rw [Bool.and_eq_true] at hb;rw [Nat.eq_of_beq_eq_true hb.1,eq_of_beq hb.2];kernel_rfl
 |false=>rw [hb,cond_false] at h;cases h
noncomputable def EN1:aT := { EN with orc:=Co,meth:=Gr }
theorem Jj:EN1.Ok:=⟨tM.mixed,tM.fn,tM.dfn,tM.wo,fun _ _ _ _ _ h=>HP h,Gs,tM.seq⟩
theorem Gt{f:FuncId}{x:AV}{H:List AObj}:EN1.orc f [x] H=EN.orc f [x] H:=by
 rw [show EN1.orc=Co from rfl];unfold Co;cases x with
 |ptr i o=>cases o<;>rfl
 |_=>rfl
theorem HQ:F6 EN:=by constructor<;>rfl
theorem HR(M:bk bK EN1):Cd M:=by
 refine ⟨rfl,fun H r tg T hr => ?_⟩;have hlt:=(List.getElem?_eq_some_iff.1 hr).1;obtain ⟨tg',h1⟩:=xM M0 HQ (H:=H.set r (.cells [.int .u32 0,.int .i32 1,.int .u32 0,.nilif,.slice tg 1 (b7.map bu)] T)) (r:=r) (List.getElem?_set_self hlt);rw [List.length_set] at h1;have hne:r≠H.length:=by omega
 have hls:(H.set r (.cells [.int .u32 0,.int .i32 1,.int .u32 0,.nilif,.slice tg 1 (b7.map bu)] T)).length=H.length:=List.length_set;refine ⟨((H.set r (.cells [.int .u32 0,.int .i32 1,.int .u32 0,.nilif,.slice tg 1 (b7.map bu)] T)++[AObj.tok 3 aI,AObj.cells (rj++[.slice tg' 1 (l7.map bu)]) aK]).set r (AObj.cells [.int .u32 0,.int .i32 1,.int .u32 0,.iface aQ (.ptr (H.length+1) 0),.slice .nil 1 []] T)).set r (AObj.cells [.int .u32 1,.int .i32 0,.int .u32 0,.iface aQ (.ptr (H.length+1) 0),.slice .nil 1 []] T),tg',H.length+1, ?_, ?_, ?_, ?_, ?_⟩
 ·rw [rU M rfl]
  rw [show EN1.orc=Co from rfl];unfold Co
  have nb:∀ n:Nat,Nat.beq n n=true:=fun n=>by
   induction n with
   |zero=>rfl
   |succ n ih=>exact ih
  simp only [nb,Bool.and_self,cond_true];unfold C8;rw [hr];simp only [h1];rw [List.getElem?_set_self (by rw [List.length_append,hls];omega)];rfl
 ·exact List.getElem?_set_self (by rw [List.length_set,List.length_append,hls];omega)
 ·rw [List.getElem?_set_ne (by omega),List.getElem?_set_ne (by omega),← hls,hp_getk];rfl
 ·rw [List.length_set,List.length_set,List.length_append,hls];omega
 ·intro i hi hn
  rw [List.getElem?_set_ne (fun e=>hn e.symm),List.getElem?_set_ne (fun e=>hn e.symm),List.getElem?_append_left (by rw [hls];exact hi),List.getElem?_set_ne (fun e=>hn e.symm)]
end
end Go.Am
