import Derived.Test.YtaooiinlgnjafaaGreatDoorA4
import Derived.Lib.Bytealg
import Derived.Lib.MapLaws
import Derived.Stop.FmtQuoteTie
/-
  Part 5 of the tool: an abstract machine over the model, proved sound, and what it says of the functions that the law reaches. Condition: none but those that each theorem names.
-/
set_option linter.unusedVariables false
set_option linter.unusedSimpArgs false
set_option maxRecDepth 100000
set_option maxHeartbeats 4000000
namespace Go.Am
open Go.RowKit
section
open Go.Proofs
theorem JU:∀ f args H,E0.wo f args H=none:=fun _ _ _=>rfl
def ps0:List RPc:=[]
theorem ok0:∀ p∈ps0,p.Ok E0.P E0.G:=fun p h=>by cases h
def p1:RPc:=⟨8,[(.str [97,32,92,60,98,62,32,60,98,62,120,60,47,98,62,123,110,125])],[],(.tuple [(.slice .any 3 [[(.int .u8 1),(.str [97,32,60,98,62,32]),(.bool false)],[(.int .u8 2),(.str [98]),(.bool false)],[(.int .u8 1),(.str [120]),(.bool false)],[(.int .u8 3),(.str [98]),(.bool false)],[(.int .u8 5),(.str [110]),(.bool false)]]),(.int .u8 0)])⟩
def ps1:List RPc:=p1::ps0
theorem ok1:∀ p∈ps1,p.Ok E0.P E0.G:=ri EY g0 ok0 JU (by kernel_rfl)
def p2:RPc:=⟨12,[(.slice .full 3 [[(.str [37,98,68,114,46,37,115]),(.str []),(.bool false)],[(.str [37,112,37,115]),(.str [37,117]),(.bool true)]]),(.slice .full 3 [[(.int .u8 1),(.str [68,114,46,32,65,32,105,115,32,105,110,46,32,71,111]),(.bool false)]])],[],(.tuple [(.slice .any 1 [[(.int .i64 13)]]),(.int .u8 0)])⟩
def ps2:List RPc:=p2::ps1
theorem ok2:∀ p∈ps2,p.Ok E0.P E0.G:=ri EY g0 ok1 JU (by kernel_rfl)
def p3:RPc:=⟨15,[(.slice .full 3 [[(.int .u8 2),(.str [98]),(.bool false)],[(.int .u8 1),(.str [114,101,100]),(.bool false)],[(.int .u8 3),(.str [98]),(.bool false)],[(.int .u8 1),(.str [32,104,111,117,115,101]),(.bool false)]]),(.slice .full 1 [[(.str [99,97,115,97])],[(.str [114,111,106,97])]]),(.slice .full 2 [[(.int .i64 0),(.int .i64 1)],[(.int .i64 1),(.int .i64 0)]])],(dd 12 ([.tok 1 9]++(dd 7 ([.tok 16 88]++(dd 11 ([.tok 1 9]++(dd 43 ([.tok 1 9]++(dd 20 [.tok 6 9]))))))))),(.tuple [(.slice .any 3 [[(.int .u8 1),(.str [99,97,115,97,32]),(.bool false)],[(.int .u8 2),(.str [98]),(.bool false)],[(.int .u8 1),(.str [114,111,106,97]),(.bool false)],[(.int .u8 3),(.str [98]),(.bool false)]]),(.int .u8 0)])⟩
def ps3:List RPc:=p3::ps2
theorem ok3:∀ p∈ps3,p.Ok E0.P E0.G:=ri EY g0 ok2 JU (by kernel_rfl)
theorem Ga:EI (EP E0 ps3) 1000000 cI [] []=some (.bool true):=by kernel_rfl
theorem HW(H:List AObj):cR Tryz.prog G0 cI [] H fun r H'=>r = .ret (.bool true)∧H'=H:=Cz (KH EY g0 ok3 JU) g0 Ga rfl
end
section
attribute [local congr] ak aR aJ al aI aA ao ah ai aC aD
variable{E:aQ}(M:bo bz E)
structure oB (M:bo bz E):Prop where
 index:∀ (s:Str) (c:UInt8) (H:List AObj),M.run bH [.str s,.int .u8 c.toNat] H=some (.ret (.int .i64 (Lib.indexByte s c)),H)
 same:∀ (i o:Nat) (H:List AObj),M.run dw [.ptr i o] H=some (.ret (.ptr i o),H)
structure wL (E:aQ):Prop where
 strings_Builder_WriteByte:E.fn bV=some dA
 strings_Builder_String:E.fn fO=some eh
 strings_Builder_copyCheck:E.fn eL=some dB
abbrev mB(s:Str):List (List AV):=s.map fun b=>[.int .u8 (b.toNat:Int)]
theorem uA:∀ s:Str,kr (mB s)=some s
 |[]=>rfl
 |c::s=>by
  have:=uA s;simp only [mB] at this ⊢;simp only [List.map_cons,kr,this,Option.map_some];congr 2;simp
theorem CV:∀ s:Str,rQ (mB s)=true
 |[]=>rfl
 |c::s=>by
  have:=CV s;simp only [mB] at this ⊢;simp only [List.map_cons,rQ,this,Bool.and_true,Bool.and_eq_true,decide_eq_true_eq];have:=c.toNat_lt;omega
theorem Mk(n:Nat)(w:Str):Fy (.slice (.own n) 1 (mB w))=some (.sdp n (mB w)):=by cases w<;>rfl
theorem HX(n:Nat)(w:Str):gm n (mB w):=by
 rw [rowsWk_map];exact fun _ _=>⟨wk_int _ _ _,trivial⟩
theorem qU:(∀ (a:Env) (H:List AObj) (x:RX),rop a H (.usl x)=bn H (Fy (rx a x)))∧(∀ (a:Env) (H:List AObj) (e:TypeId) (x n:RX),rop a H (.ust e x n)=bn H (B7 H e (rx a x) (rx a n)))∧(∀ (a:Env) (H:List AObj) (x:RX),rop a H (.cvu x)=bn H (GP H (rx a x)))∧(∀ (a:Env) (H:List AObj) (u:TypeId) (sz:Nat) (x:RX),rop a H (.cvf u sz x)=bn H (GQ H u sz (rx a x))) ∧
 (∀ (a:Env) (H:List AObj) (cs:List AV) (e:TypeId) (j:Nat) (T:TypeId),rop a H (.nwb cs e j T)=some (.ptr (H.length+1) 0,H++[.tok 0 T,.cells (cs.set j (.slice (.own H.length) 1 [])) e])):=
 ⟨fun _ _ _=>rfl,fun _ _ _ _ _=>rfl,fun _ _ _=>rfl,fun _ _ _ _ _=>rfl,fun _ _ _ _ _ _=>rfl⟩
theorem HY:req .ptr .nilp .nilp=some true:=rfl
theorem D1(i o:Nat):req .ptr (.ptr i o) .nilp=some false:=rfl
theorem CW(i o:Nat):req .ptr (.ptr i o) (.ptr i o)=some true:=by simp [req]
end
def cZ(s:Str):Nat×Nat:=Lib.decodeL s
theorem yG(s:Str):1≤(cZ s).2:=Lib.decodeL_width s
theorem Bz{s:Str}(h:s≠[]):(cZ s).2≤s.length:=Lib.decodeL_le s h
theorem Ax(s:Str)(i:Nat):Utf8.decode ⟨s.toArray⟩ i=cZ (s.drop i):=(Lib.decodeL_drop ⟨s.toArray⟩ i).symm
theorem ML(r:Nat):(Utf8.encode (r:Int)).data.toList=Lib.encodeRune (r:Int):=by
 have h:=Extern.FmtText.encode_eq r;unfold Lib.encodeRune;rw [← h,Extern.FmtText.nums,List.map_map]
 conv=>lhs;rw [← List.map_id (Utf8.encode (r:Int)).data.toList]
 refine List.map_congr_left fun c _ => ?_
 simp
theorem JV{s:Str}(hne:s≠[])(hv:¬ ((cZ s).1=65533∧(cZ s).2=1)):(Utf8.encode ((cZ s).1:Int)).data.toList=s.take (cZ s).2:=by
 rw [ML];exact Lib.encode_decode s hne hv
def wM:Nat→Str→List Nat
 |0,_=>[]
 |n+1,s=>match s with
  |[]=>[]
  |c::t=>(cZ (c::t)).1::wM n ((c::t).drop (cZ (c::t)).2)
theorem HZ(n:Nat):wM n []=[]:=by cases n<;>rfl
theorem rS{n:Nat}{s:Str}(h:s≠[]):wM (n+1) s=(cZ s).1::wM n (s.drop (cZ s).2):=by
 cases s with
 |nil=>exact absurd rfl h
 |cons c t=>rfl
def mN(s:Str):List Nat:=wM s.length s
theorem vK(s:Str):∀ (n i:Nat),iA ⟨s.toArray⟩ n i=(wM n (s.drop i)).map Int.ofNat
 |0,i=>rfl
 |n+1,i=>by
  rw [iA];have hsz:(ByteArray.mk s.toArray).size=s.length:=by simp [ByteArray.size]
  by_cases h:i<s.length
  ·rw [if_pos (by rw [hsz];exact h),rS (fun e=>by have:=congrArg List.length e;simp at this;omega),vK s n,Ax,List.map_cons,List.drop_drop]
  ·rw [if_neg (by rw [hsz];exact h),List.drop_of_length_le (by omega),HZ];rfl
theorem Gb(s:Str):dV s=(mN s).map Int.ofNat:=by
 unfold dV mN;rw [vK,List.drop_zero]
def JW(r w:Nat):Bool:=((r:Int) == 65533)&&decide ((w:Int)<2)||decide ((r:Int)<32)||((r:Int) == 127)
def uB:Nat→Str→Bool
 |0,_=>true
 |n+1,s=>match s with
  |[]=>true
  |c::t => !JW (cZ (c::t)).1 (cZ (c::t)).2&&uB n ((c::t).drop (cZ (c::t)).2)
theorem Gc(n:Nat):uB n []=true:=by cases n<;>rfl
theorem D2{n:Nat}{s:Str}(h:s≠[]):uB (n+1) s=(!JW (cZ s).1 (cZ s).2&&uB n (s.drop (cZ s).2)):=by
 cases s with
 |nil=>exact absurd rfl h
 |cons c t=>rfl
def kq(s:Str):Bool:=uB s.length s
theorem Ay:kq []=true:=rfl
theorem vL:∀ l:List Nat,runeStr (l.map Int.ofNat)=(l.map fun r=>(Utf8.encode ((r:Nat):Int)).data.toList).flatten
 |[]=>rfl
 |r::l=>by rw [List.map_cons,runeStr,vL l,List.map_cons,List.flatten_cons,Int.ofNat_eq_natCast]
def zT(l:List Nat):Str:=(l.map fun r=>(Utf8.encode ((r:Nat):Int)).data.toList).flatten
theorem Gd(r:Nat)(l:List Nat):zT (r::l)=(Utf8.encode (r:Int)).data.toList++zT l:=rfl
theorem JX{r:Nat}(h:r=65533):(Utf8.encode (r:Int)).data.toList=[239,191,189]:=by
 rw [Extern.FmtText.enc3 r (by omega) (by omega) (by omega),h];rfl
theorem JY(t:Str):cZ (239::191::189::t)=(65533,3):=by
 unfold cZ;rw [Lib.decodeL_N];simp [Lib.decodeN]
def yH:Nat→Str→Bool
 |0,_=>true
 |n+1,s=>match s with
  |[]=>true
  |c::t => !(((cZ (c::t)).1 == 65533)&&((cZ (c::t)).2 == 1))&&yH n ((c::t).drop (cZ (c::t)).2)
theorem Az:∀ (n:Nat) (s:Str),s.length≤n→((zT (wM n s) == s)=yH n s)
 |0,s,h=>by
  obtain rfl:s=[]:=List.eq_nil_of_length_eq_zero (by omega);rfl
 |n+1,[],_=>rfl
 |n+1,c::t,h=>by
  have hw:=yG (c::t);have ih:=Az n ((c::t).drop (cZ (c::t)).2) (by rw [List.length_drop];simp at h ⊢;omega);rw [rS (by simp),Gd,yH]
  by_cases hb:(cZ (c::t)).1=65533∧(cZ (c::t)).2=1
  ·have hbb:(((cZ (c::t)).1 == 65533)&&((cZ (c::t)).2 == 1))=true:=by simp [hb]
   rw [hbb,Bool.not_true,Bool.false_and,beq_eq_false_iff_ne,JX hb.1];intro e;generalize zT (wM n ((c::t).drop (cZ (c::t)).2))=u at e;have e2:c::t=(239:UInt8)::191::189::u:=by rw [← e];rfl
   rw [e2,JY] at hb;exact absurd hb.2 (by decide)
  ·have hbb:(((cZ (c::t)).1 == 65533)&&((cZ (c::t)).2 == 1))=false:=by
    rw [Bool.and_eq_false_iff]
    by_cases h1:(cZ (c::t)).1=65533
    ·right;simp;exact fun h2=>hb ⟨h1,h2⟩
    ·left;simpa using h1
   rw [hbb,Bool.not_false,Bool.true_and,← ih,JV (by simp) hb,Bool.eq_iff_iff,beq_iff_eq,beq_iff_eq];constructor
   ·intro e
    have e3:(c::t).take (cZ (c::t)).2++zT (wM n ((c::t).drop (cZ (c::t)).2))=(c::t).take (cZ (c::t)).2++(c::t).drop (cZ (c::t)).2:=by rw [List.take_append_drop];exact e
    exact List.append_cancel_left e3
   ·intro e
    rw [e,List.take_append_drop]
def okR(l:List Nat):Bool:=l.all fun r => !(decide ((r:Int)<32)||((r:Int) == 127))
theorem yI:∀ (n:Nat) (s:Str),s.length≤n→(yH n s&&okR (wM n s))=uB n s
 |0,s,h=>rfl
 |n+1,[],_=>rfl
 |n+1,c::t,h=>by
  have hw:=yG (c::t);have ih:=yI n ((c::t).drop (cZ (c::t)).2) (by rw [List.length_drop];simp at h ⊢;omega);rw [rS (by simp),yH,uB,← ih];unfold okR JW;rw [List.all_cons];have e1:(((cZ (c::t)).1:Int) == 65533)=((cZ (c::t)).1 == 65533):=by rw [Bool.eq_iff_iff];simp;omega
  have e2:decide (((cZ (c::t)).2:Int)<2)=((cZ (c::t)).2 == 1):=by rw [Bool.eq_iff_iff];simp;omega
  rw [e1,e2];cases ((cZ (c::t)).1 == 65533)<;>cases ((cZ (c::t)).2 == 1)<;>cases decide (((cZ (c::t)).1:Int)<32)<;>cases (((cZ (c::t)).1:Int) == 127)<;>simp
theorem Ge(s:Str):(sel (zT (mN s) == s) (okR (mN s)) false)=kq s:=by
 unfold kq;rw [← yI s.length s (Nat.le_refl _),← Az s.length s (Nat.le_refl _)];show sel _ _ _=(zT (mN s) == s&&_)
 cases zT (mN s) == s<;>rfl
theorem CX:∀ (n:Nat) (s:Str),(wM n s).length≤s.length
 |0,_=>Nat.zero_le _
 |n+1,[]=>by simp [wM]
 |n+1,c::t=>by
  have hw:=yG (c::t);have:=CX n ((c::t).drop (cZ (c::t)).2);rw [rS (by simp),List.length_cons];rw [List.length_drop] at this;simp at this ⊢;omega
theorem D3(s:Str):(mN s).length≤s.length:=CX _ _
section
attribute [local congr] ak aR aJ al aI aA ao ah ai aC aD
variable{E:aQ}(M:bo bz E)
structure j6 (E:aQ):Prop where
 docs_isText:E.fn iw=some iy
 docs_isName:E.fn l7=some iz
 truchmanref01_Text:E.fn fE=some ey
 truchmanref01_Name:E.fn fG=some eB
 docs_carried_takes:E.fn fD=some fJ
 docs_stack_string_pop:E.fn gq=some eE
 docs_stack_string_push:E.fn fP=some fU
 docs_CheckPieces:E.fn cu=some ed
 truchmanref01_alone:E.fn iE=some iM
 truchmanref01_carried:E.fn gu=some dz
 truchmanref01_CheckPieces:E.fn eM=some cL
 truchmanref01_SamePieces:E.fn bG=some b7
def Lw(s:Str):Nat×Nat:=if s=[] then (65533,0) else cZ s
structure vi (M:bo bz E):Prop where
 dec:∀ (s:Str) (H:List AObj),M.run bw [.str s] H=some (.ret (.tuple [.int .i32 ((Lw s).1:Int),.int .i64 ((Lw s).2:Int)]),H)
theorem lG{s:Str}{k:IntKind}{i:Nat}(h:i≤s.length):mE (.str s) (some (.int k (i:Int))) none=some (.str (s.drop i)):=by
 simp [mE,cS,h];exact List.take_of_length_le (by simp)
theorem D4{s:Str}{k:IntKind}{i:Nat}(h:i≤s.length):mE (.str s) none (some (.int k (i:Int)))=some (.str (s.take i)):=by
 simp [mE,cS,h]
theorem lH{s:Str}{k k':IntKind}{i j:Nat}(h:i≤j)(hj:j≤s.length):mE (.str s) (some (.int k (i:Int))) (some (.int k' (j:Int)))=some (.str ((s.drop i).take (j-i))):=by
 simp [mE,cS,h,hj]
theorem H6{a b:Nat}(h:a+b≤bL):IntKind.i64.wrap ((a:Int)+(b:Int))=((a+b:Nat):Int):=by
 simp only [bL] at h;rw [cU (by omega) (by omega)];omega
theorem D5{α:Type}(b p:Bool)(x y:α):slc b y (slc p x y)=slc (!b&&p) x y:=by cases b<;>rfl
theorem txl(hX:vi M){s:Str}(hs:s.length≤bL){H H0:List AObj}(hc:dt H0 H)(k:List Fra):∀ (n i:Nat) (He:List AObj),s.length-i≤n→i≤s.length →
  M.go iy H0 (.c fA :: .lp ⟨(some [0,3]),[],false⟩ fA He :: .blk 0 :: .c (.lv [])::k) (kv [(0,.str s),(3,.int .i64 i)]) H=sel (uB n (s.drop i)) (M.go iy H0 k .leaf H) (some (.ret (.bool false),H.take H0.length))
 |0,i,He,h,hi=>by
  obtain rfl:i=s.length:=by omega
  rw [au M fA.eq_1];simp (maxSteps:=3000000) (maxDischargeDepth:=6) +contextual -implicitDefEqProofs only [amC M,↓amD,Nat.reduceBEq,Nat.reduceAdd,env,ag,l9,Nat.lt_irrefl,uB]
 |n+1,i,He,h,hi=>by
  by_cases hlt:i<s.length
  ·have hne:s.drop i≠[]:=fun e=>by have:=congrArg List.length e;simp at this;omega
   have hw:=yG (s.drop i);have hle:=Bz hne;rw [List.length_drop] at hle;have hd:=fun H=>hX.dec (s.drop i) H
   have hg:Lw (s.drop i)=cZ (s.drop i):=if_neg hne;rw [hg] at hd;have ih:=fun He=>txl hX hs hc k n (i+(cZ (s.drop i)).2) He (by omega) (by omega)
   rw [← List.drop_drop] at ih;have hws:=H6 (a:=i) (b:=(cZ (s.drop i)).2) (by omega);rw [D2 hne];simp only [kv_cons,kv_nil] at ih;generalize cZ (s.drop i)=d at *
   rw [au M fA.eq_1];simp (maxSteps:=3000000) (maxDischargeDepth:=6) +contextual -implicitDefEqProofs only [amC M,↓amD,Nat.reduceBEq,Nat.reduceAdd,env,ag,l9,hlt,lG hi,hd,ih,hws,JW,hc];exact D5 _ _ _ _
  ·obtain rfl:i=s.length:=by omega
   rw [List.drop_length,Gc];rw [au M fA.eq_1];simp (maxSteps:=3000000) (maxDischargeDepth:=6) +contextual -implicitDefEqProofs only [amC M,↓amD,Nat.reduceBEq,Nat.reduceAdd,env,ag,l9,Nat.lt_irrefl]
theorem yJ(hB:j6 E)(hX:vi M){s:Str}(hs:s.length≤bL)(H:List AObj):M.run iw [.str s] H=some (.ret (.bool (kq s)),H):=by
 rw [aV M hB.docs_isText rfl (c:=oo) rfl,oo];have hl:=fun k He=>txl M hX hs (cut_refl H) k s.length 0 He (by omega) (by omega)
 simp only [kv_cons,kv_nil,Int.ofNat_zero,List.drop_zero] at hl;simp (maxSteps:=3000000) (maxDischargeDepth:=6) +contextual -implicitDefEqProofs only [amC M,↓amD,Nat.reduceBEq,Nat.reduceAdd,env,ag,l9,hl,kq]
theorem JZ(t:Tag)(l:List Nat):xv (.slice t 1 ((l.map Int.ofNat).map fun n=>[.int .i32 n]))=some (.str (zT l)):=by
 have h:∀ l:List Nat,uN ((l.map Int.ofNat).map fun n=>[AV.int .i32 n])=some (l.map Int.ofNat):=fun l=>by
  induction l with
  |nil=>rfl
  |cons r l ih=>simp only [List.map_cons,uN] at ih ⊢;rw [ih];rfl
 simp only [xv,h,Option.map_some,vL];rfl
theorem J0{s:Str}(h:s.length≤70368744177664):xu (.str s)=some (.slice .any 1 ((mN s).map fun r:Nat=>[AV.int .i32 (r:Int)])):=by
 simp only [xu,if_pos h,Gb,List.map_map];rfl
def wW(r:Nat):List AV:=[.int .i32 (r:Int)]
theorem J1{s:Str}(h:s.length≤70368744177664):xu (.str s)=some (.slice .any 1 ((mN s).map wW)):=J0 h
theorem J2(t:Tag)(l:List Nat):xv (.slice t 1 (l.map wW))=some (.str (zT l)):=by
 rw [← JZ t l,List.map_map];rfl
theorem Ml:(∀ r:Nat,bN none (wW r) 0=some (.int .i32 (r:Int))):=fun _=>rfl
theorem rtx{H H0:List AObj}{l:List Nat}(hl:l.length≤bL)(hc:dt H0 H)(k:List Fra):∀ (n i:Nat) (He:List AObj),i+n=l.length →
  M.go ey H0 (.c dL :: .lp ⟨(some [3,4]),[],false⟩ dL He :: .blk 0 :: .c (.lv [])::k) (kv [(3,.slice .any 1 (l.map wW)),(4,.int .i64 i)]) H =
   sel ((l.drop i).all fun r => !(decide ((r:Int)<32)||((r:Int) == 127))) (M.go ey H0 k .leaf H) (some (.ret (.bool false),H.take H0.length))
 |0,i,He,h=>by
  have e:i=l.length:=by omega
  subst e;rw [au M dL.eq_1];simp (maxSteps:=3000000) (maxDischargeDepth:=6) +contextual -implicitDefEqProofs only [amC M,↓amD,Nat.reduceBEq,Nat.reduceAdd,env,ag,jA,Nat.lt_irrefl,List.drop_length,List.all_nil]
 |n+1,i,He,h=>by
  have hi:i<l.length:=by omega
  have hx:l[i]?=some l[i]:=List.getElem?_eq_getElem hi;have hd:(l.drop i)=l[i]::l.drop (i+1):=List.drop_eq_getElem_cons hi;have hm:l[i]∈l:=List.getElem_mem hi;have ih:=fun He=>rtx (H:=H) (H0:=H0) (l:=l) (hl:=hl) hc k n (i+1)  He (by omega)
  simp only [kv_cons,kv_nil] at ih;rw [au M dL.eq_1];simp (maxSteps:=3000000) (maxDischargeDepth:=6) +contextual -implicitDefEqProofs only [amC M,↓amD,Nat.reduceBEq,Nat.reduceAdd,env,ag,jA,hx,hd,hi,ih,gK hi hl,ct hi,Ml,List.all_cons,hc];exact D5 _ _ _ _
theorem CY(hB:j6 E){s:Str}(hs:s.length≤70368744177664)(H:List AObj):M.run fE [.str s] H=some (.ret (.bool (kq s)),H):=by
 rw [← Ge];have hn:(mN s).length≤bL:=by have:=D3 s;simp only [bL];omega
 rw [aV M hB.truchmanref01_Text rfl (c:=jz) rfl,jz];have hl:=fun k He=>rtx M (l:=mN s) hn (cut_refl H) k (mN s).length 0 He (by omega)
 simp only [kv_cons,kv_nil,Int.ofNat_zero,List.drop_zero] at hl;simp (maxSteps:=3000000) (maxDischargeDepth:=6) +contextual -implicitDefEqProofs only [amC M,↓amD,Nat.reduceBEq,Nat.reduceAdd,env,ag,jA,hl,J1 hs,J2,okR]
def inN(c:UInt8):Bool:=decide (97≤(c.toNat:Int))&&decide ((c.toNat:Int)≤122)||decide (48≤(c.toNat:Int))&&decide ((c.toNat:Int)≤57)||((c.toNat:Int) == 45)
def lP(s:Str):Bool:=match s with
 |[]=>false
 |c::t=>decide (((c::t).length:Int)≤16)&&decide (97≤(c.toNat:Int))&&decide ((c.toNat:Int)≤122)&&(c::t).all inN
theorem dlt(a b:Int):decide (a<b) = !decide (b≤a):=by rw [Bool.eq_iff_iff];simp
theorem nml{H H0:List AObj}{s:Str}(hs:s.length≤bL)(hc:dt H0 H)(k:List Fra):∀ (n i:Nat) (He:List AObj),i+n=s.length →
  M.go iz H0 (.c gZ :: .lp ⟨(some [0,23,24]),[],false⟩ gZ He :: .blk 0 :: .c (.lv [])::k) (kv [(0,.str s),(23,.int .i64 s.length),(24,.int .i64 i)]) H =
   sel ((s.drop i).all inN) (M.go iz H0 k .leaf H) (some (.ret (.bool false),H.take H0.length))
 |0,i,He,h=>by
  have e:i=s.length:=by omega
  subst e;rw [au M gZ.eq_1];simp (maxSteps:=3000000) (maxDischargeDepth:=6) +contextual -implicitDefEqProofs only [amC M,↓amD,Nat.reduceBEq,Nat.reduceAdd,env,ag,mb,Nat.lt_irrefl,List.drop_length,List.all_nil]
 |n+1,i,He,h=>by
  have hi:i<s.length:=by omega
  have hx:s[i]?=some s[i]:=List.getElem?_eq_getElem hi;have hd:(s.drop i)=s[i]::s.drop (i+1):=List.drop_eq_getElem_cons hi;have hm:s[i]∈s:=List.getElem_mem hi;have ih:=fun He=>nml (H:=H) (H0:=H0) (s:=s) (hs:=hs) hc k n (i+1)  He (by omega)
  simp only [kv_cons,kv_nil] at ih;rw [au M gZ.eq_1];simp (maxSteps:=3000000) (maxDischargeDepth:=6) +contextual -implicitDefEqProofs only [amC M,↓amD,Nat.reduceBEq,Nat.reduceAdd,env,ag,mb,hx,hd,hi,ih,gK hi hs,List.all_cons,hc,inN]
theorem rnl{H H0:List AObj}{s:Str}(hs:s.length≤bL)(hc:dt H0 H)(k:List Fra):∀ (n i:Nat) (He:List AObj),i+n=s.length →
  M.go eB H0 (.c dN :: .lp ⟨(some [0,3]),[],false⟩ dN He :: .blk 0 :: .c (.lv [])::k) (kv [(0,.str s),(3,.int .i64 i)]) H =
   sel ((s.drop i).all inN) (M.go eB H0 k .leaf H) (some (.ret (.bool false),H.take H0.length))
 |0,i,He,h=>by
  have e:i=s.length:=by omega
  subst e;rw [au M dN.eq_1];simp (maxSteps:=3000000) (maxDischargeDepth:=6) +contextual -implicitDefEqProofs only [amC M,↓amD,Nat.reduceBEq,Nat.reduceAdd,env,ag,fM,Nat.lt_irrefl,List.drop_length,List.all_nil]
 |n+1,i,He,h=>by
  have hi:i<s.length:=by omega
  have hx:s[i]?=some s[i]:=List.getElem?_eq_getElem hi;have hd:(s.drop i)=s[i]::s.drop (i+1):=List.drop_eq_getElem_cons hi;have hm:s[i]∈s:=List.getElem_mem hi;have ih:=fun He=>rnl (H:=H) (H0:=H0) (s:=s) (hs:=hs) hc k n (i+1)  He (by omega)
  simp only [kv_cons,kv_nil] at ih;rw [au M dN.eq_1];simp (maxSteps:=3000000) (maxDischargeDepth:=6) +contextual -implicitDefEqProofs only [amC M,↓amD,Nat.reduceBEq,Nat.reduceAdd,env,ag,fM,hx,hd,hi,ih,gK hi hs,List.all_cons,hc,inN,dlt];rw [D5];congr 1;simp only [Bool.not_and,Bool.not_or,Bool.not_not]
theorem kN(hB:j6 E){s:Str}(hs:s.length≤bL)(H:List AObj):M.run l7 [.str s] H=some (.ret (.bool (lP s)),H):=by
 rw [aV M hB.docs_isName rfl (c:=ou) rfl,ou];have hl:=fun k He=>nml M (s:=s) hs (cut_refl H) k s.length 0 He (by omega)
 simp only [kv_cons,kv_nil,Int.ofNat_zero,List.drop_zero] at hl;cases s with
 |nil=>simp (maxSteps:=3000000) (maxDischargeDepth:=6) +contextual -implicitDefEqProofs only [amC M,↓amD,Nat.reduceBEq,Nat.reduceAdd,env,ag,mb,hl,lP,(show (([]:Str) == [])=true from rfl)]
 |cons c t=>
  simp (maxSteps:=3000000) (maxDischargeDepth:=6) +contextual -implicitDefEqProofs only [amC M,↓amD,Nat.reduceBEq,Nat.reduceAdd,env,ag,mb,hl,lP,dlt,List.getElem?_cons_zero,(show ((c::t) == ([]:Str))=false from rfl)];simp only [Bool.not_or,Bool.not_not]
theorem CZ(hB:j6 E){s:Str}(hs:s.length≤bL)(H:List AObj):M.run fG [.str s] H=some (.ret (.bool (lP s)),H):=by
 rw [aV M hB.truchmanref01_Name rfl (c:=jC) rfl,jC];have hl:=fun k He=>rnl M (s:=s) hs (cut_refl H) k s.length 0 He (by omega)
 simp only [kv_cons,kv_nil,Int.ofNat_zero,List.drop_zero] at hl;cases s with
 |nil=>simp (maxSteps:=3000000) (maxDischargeDepth:=6) +contextual -implicitDefEqProofs only [amC M,↓amD,Nat.reduceBEq,Nat.reduceAdd,env,ag,fM,hl,lP,List.length_nil,(show ((((0:Nat):Int)) == 0)=true from rfl)]
 |cons c t=>
  have h0:(((c::t).length:Int) == 0)=false:=by simp;omega
  simp (maxSteps:=3000000) (maxDischargeDepth:=6) +contextual -implicitDefEqProofs only [amC M,↓amD,Nat.reduceBEq,Nat.reduceAdd,env,ag,fM,hl,lP,dlt,List.getElem?_cons_zero,h0];simp only [Bool.not_or,Bool.not_not]
end
section
attribute [local congr] ak aR aJ al aI aA ao ah ai aC aD
variable{E:aQ}(M:bo bz E)
def Pre(H0 G:List AObj):Prop:=H0.length≤G.length∧∀ i,i<H0.length→G[i]?=H0[i]?
theorem Pre.refl(H:List AObj):Pre H H:=⟨Nat.le_refl _,fun _ _=>rfl⟩
theorem Pre.cut{H0 G:List AObj}(h:Pre H0 G):dt H0 G:=⟨h.1,fun i x hi hx=>.inl (by rw [← h.2 i hi];exact hx)⟩
theorem Pre.take{H0 G:List AObj}(h:Pre H0 G):G.take H0.length=H0:=by
 refine List.ext_getElem? fun i => ?_
 rw [List.getElem?_take];split
 ·rename_i hi;exact h.2 i hi
 ·rename_i hi;rw [List.getElem?_eq_none (by omega)]
theorem Pre.trans{A B C:List AObj}(h:Pre A B)(h':Pre B C):Pre A C:=⟨Nat.le_trans h.1 h'.1,fun i hi=>by rw [h'.2 i (Nat.lt_of_lt_of_le hi h.1),h.2 i hi]⟩
theorem Pre.app{H0 G:List AObj}(h:Pre H0 G)(L:List AObj):Pre H0 (G++L):=⟨by have:=h.1;simp;omega,fun i hi=>by
 have:=h.1;rw [List.getElem?_append_left (by omega)];exact h.2 i hi⟩
theorem Pre.set{H0 G:List AObj}(h:Pre H0 G){id:Nat}(hid:H0.length≤id)(o:AObj):Pre H0 (G.set id o):=⟨by simpa using h.1,fun i hi=>by
 rw [List.getElem?_set_ne (by omega)];exact h.2 i hi⟩
def But(b p:Nat)(G G':List AObj):Prop:=G.length≤G'.length∧∀ i,i<b→i≠p→G'[i]?=G[i]?
theorem But.refl(b p:Nat)(G:List AObj):But b p G G:=⟨Nat.le_refl _,fun _ _ _=>rfl⟩
theorem But.pre{H0 G G':List AObj}{b p:Nat}(h:But b p G G')(hp:Pre H0 G)(hb:H0.length≤b)(hq:H0.length≤p):Pre H0 G':=
 ⟨Nat.le_trans hp.1 h.1,fun i hi=>by rw [h.2 i (by omega) (by omega)];exact hp.2 i hi⟩
theorem bM{G:List AObj}{i:Nat}{x:AObj}(h:G[i]?=some x):i<G.length:=(List.getElem?_eq_some_iff.1 h).1
theorem EZ{G:List AObj}{i:Nat}(h:i<G.length)(o:AObj)(L:List AObj):(G++L).set i o=G.set i o++L:=by rw [List.set_append_left _ _ h]
theorem H7{G:List AObj}{i:Nat}(h:i<G.length)(o:AObj):(G.set i o)[i]?=some o:=List.getElem?_set_self h
theorem H8{G:List AObj}{i:Nat}(h:i<G.length)(o:AObj)(L:List AObj):(G.set i o++L)[i]?=some o:=by
 rw [List.getElem?_append_left (by simpa using h)];exact H7 h o
theorem uC{G:List AObj}{i:Nat}{o:AObj}(hw:xE G.length o):dt G (G.set i o):=by
 refine ⟨by simp,fun j x hj hx => ?_⟩;rw [List.getElem?_set] at hx;split at hx
 ·split at hx
  ·cases hx;exact .inr hw
  ·cases hx
 ·exact .inl hx
theorem H9{G:List AObj}{i:Nat}{o:AObj}(ho:xE G.length o)(L:List AObj):dt G (G.set i o++L):=CF (uC ho) L
theorem Gf{G:List AObj}{i:Nat}(o:AObj)(L:List AObj):(G.set i o++L).take G.length=G.set i o:=by
 rw [List.take_append_of_le_length (by simp)];exact List.take_of_length_le (by simp)
theorem Gg(n:Nat)(b e:Bool)(T:TypeId):xE n (.cells [.bool b,.bool e] T):=by
 intro c hc;simp at hc;rcases hc with rfl | rfl<;>exact wk_bool _ _
def dQ(x:aa):Bool:=(x.kind == 2)&&x.car
def cQ(x:aa):Bool:=(x.kind == 3)&&x.car
def pT(b e:Bool)(x:aa):Bool := !(dQ x&&b||e && !cQ x)
theorem Gh(hB:j6 E){G:List AObj}{c:Nat}{b e:Bool}{T:TypeId}(hc:G[c]?=some (.cells [.bool b,.bool e] T))(x:aa) :
  M.run fD [.ptr c 0,.agg x.row] G=some (.ret (.bool (pT b e x)),if pT b e x=true then G.set c (.cells [.bool (b || !dQ x),.bool (e||cQ x)] T) else G):=by
 rw [aV M hB.docs_carried_takes rfl (c:=jw) rfl,jw];have hl:=bM hc;have g1:=fun L=>dW (L:=L) hc
 have g2:=H8 hl;have s1:=EZ hl;have s2:∀ (o o':AObj) (L:List AObj),(G.set c o++L).set c o'=G.set c o'++L:=fun o o' L=>by rw [EZ (by simpa using hl),List.set_set]
 have l0:∀ b e:Bool,bN none [.bool b,.bool e] 0=some (.bool b):=fun _ _=>rfl
 have l1:∀ b e:Bool,bN none [.bool b,.bool e] 1=some (.bool e):=fun _ _=>rfl
 have e1:∀ b e b':Bool,bu [.bool b,.bool e] 0 [.bool b']=[.bool b',.bool e]:=fun _ _ _=>rfl
 have e2:∀ b e b':Bool,bu [.bool b,.bool e] 1 [.bool b']=[.bool b,.bool b']:=fun _ _ _=>rfl
 have hq:((x.kind == 2)&&x.car)=dQ x:=rfl;have hq2:((x.kind == 3)&&x.car)=cQ x:=rfl;have ck:∀ b e L,dt G (G.set c (.cells [.bool b,.bool e] T)++L):=fun b e L=>H9 (Gg _ _ _ _) L
 have tk:=fun o L=>Gf (G:=G) (i:=c) o L
 cases hcase:(dQ x&&b||e && !cQ x) with
 |true=>
  rw [pT,hcase];simp (maxSteps:=3000000) (maxDischargeDepth:=6) +contextual -implicitDefEqProofs only [amC M,↓amD,Nat.reduceBEq,Nat.reduceAdd,env,ag,my,amG,AV.cell,Nat.reduceMul,Nat.reduceLeDiff,aS,aH,rnc,g1,g2,s1,s2,l0,l1,e1,e2,hq,hq2,hcase,ck,tk,cut_app,hp_take]
 |false=>
  rw [pT,hcase];simp (maxSteps:=3000000) (maxDischargeDepth:=6) +contextual -implicitDefEqProofs only [amC M,↓amD,Nat.reduceBEq,Nat.reduceAdd,env,ag,my,amG,AV.cell,Nat.reduceMul,Nat.reduceLeDiff,aS,aH,rnc,g1,g2,s1,s2,l0,l1,e1,e2,hq,hq2,hcase,ck,tk,cut_app,hp_take]
end
section
attribute [local congr] ak aR aJ al aI aA ao ah ai aC aD
variable{E:aQ}(M:bo bz E)
def si(l:List Str):List AV:=l.map .str
def rH(b:Nat)(G:List AObj)(v:AV)(st:List Str):Prop:=
 (st=[]∧v = .slice .nil 1 [])∨∃ (id:Nat) (junk:List AV),b≤id∧v = .rslice id 0 st.length 1 true∧G[id]?=some (.cells (si st.reverse++junk) aW)
theorem oZ(l:List Str):(si l).length=l.length:=by simp [si]
theorem yK(l m:List Str):si (l++m)=si l++si m:=by simp [si]
theorem l3(s:Str):sL 1 [[.str s]]=true:=rfl
theorem Ia{b:Nat}{G:List AObj}{v:AV}{st:List Str}(h:rH b G v st)(hb:b≤G.length)(hl:st.length≤1000000)(s:Str) :
  ∃ v' G',rap true G aW 1 16 false v (.slice .full 1 [[.str s]])=some (v',G')∧rH b G' v' (s::st)∧G.length≤G'.length∧∀ i,i<b→G'[i]?=G[i]? := by
 rcases h with ⟨rfl,rfl⟩ | ⟨id,junk,hid,rfl,hg⟩
 ·refine ⟨.rslice G.length 0 1 1 true,G++[.cells [.str s] aW], ?_,.inr ⟨G.length,[],hb,rfl,by rw [aH];rfl⟩,by simp,fun i hi=>List.getElem?_append_left (by omega)⟩
  simp only [rap,nn,n8,or_true,if_true,l3];rw [if_pos (by simp)];rfl
 ·have hlt:=bM hg
  have hlen:st.length*1≤(si st.reverse++junk).length:=by rw [List.length_append,oZ,List.length_reverse];omega
  refine ⟨.rslice G.length 0 (st.length+1) 1 true,G.set id .dead++[.cells (si (s::st).reverse) aW], ?_,.inr ⟨G.length,[],hb,rfl, ?_⟩,by simp,fun i hi => ?_⟩
  ·simp only [rap,nn,n8,or_true,if_true,l3,hg]
   rw [if_pos ⟨trivial,trivial,hlen,by simp;omega,by simp;omega⟩];simp only [Nat.mul_one];rw [List.take_left' (by rw [oZ,List.length_reverse]),List.reverse_cons,yK];rfl
  ·rw [List.append_nil,show G.length=(G.set id .dead).length by simp,aH];rfl
  ·rw [List.getElem?_append_left (by simp;omega),List.getElem?_set_ne (by omega)]
theorem rT{b:Nat}{G:List AObj}{v:AV}{st:List Str}(h:rH b G v st)(H:List AObj):nK H .sl v=some (.int .i64 (st.length:Int)):=by
 rcases h with ⟨rfl,rfl⟩ | ⟨id,junk,hid,rfl,hg⟩<;>rfl
theorem E1{b:Nat}{G:List AObj}{v:AV}{x:Str}{st:List Str}(h:rH b G v (x::st)) :
  (∃ p o cs,tI 1 v (.int .i64 (st.length:Int))=some (.ptr p o)∧b≤p∧G[p]?=some (.cells cs aW)∧bN none cs o=some (.str x))∧∃ v',B4 1 v none (some (.int .i64 (st.length:Int))) none=some v'∧rH b G v' st:=by
 rcases h with ⟨h,_⟩ | ⟨id,junk,hid,rfl,hg⟩
 ·cases h
 have e:si (x::st).reverse++junk=si st.reverse++(.str x::junk):=by rw [List.reverse_cons,yK,List.append_assoc];rfl
 have hl:(si st.reverse).length=st.length:=by rw [oZ,List.length_reverse]
 refine ⟨⟨id,0+st.length*1,_, ?_,hid,hg, ?_⟩,.rslice id 0 st.length 1 true, ?_,.inr ⟨id,.str x::junk,hid,rfl,by rw [hg,e]⟩⟩
 ·simp only [tI]
  rw [if_pos ⟨trivial,by omega,by simp;omega⟩];simp
 ·simp only [bN,e,Nat.zero_add,Nat.mul_one]
  rw [List.getElem?_append_right (by omega),hl,Nat.sub_self];rfl
 ·have h1:cS (some (.int .i64 (st.length:Int))) (x::st).length=some st.length:=by simp [cS]
  simp only [B4,h1,(show cS none 0=some 0 from rfl)];cases st with
  |nil=>rfl
  |cons y t=>rw [if_pos (by simp)];simp
theorem rH.stay{b:Nat}{G G':List AObj}{v:AV}{st:List Str}(h:rH b G v st)(hs:∀ i,b≤i→i<G.length→G'[i]?=G[i]?):rH b G' v st:=by
 rcases h with ⟨rfl,rfl⟩ | ⟨id,junk,hid,rfl,hg⟩
 ·exact .inl ⟨rfl,rfl⟩
 ·exact .inr ⟨id,junk,hid,rfl,by rw [hs id hid (bM hg)];exact hg⟩
theorem Ib(hB:j6 E){b p:Nat}{G:List AObj}{v:AV}{T:TypeId}{st:List Str}(hp:G[p]?=some (.cells [v] T))(hpb:p<b)(hb:b≤G.length)(h:rH b G v st)(hl:st.length≤1000000)(s:Str) :
  ∃ v' G',M.run fP [.ptr p 0,.str s] G=some (.ret (.tuple []),G')∧G'[p]?=some (.cells [v'] T)∧rH b G' v' (s::st)∧But b p G G':=by
 obtain ⟨v',G1,h1,h2,h3,h4⟩:=Ia h hb hl s;have hp1:G1[p]?=some (.cells [v] T):=by rw [h4 p hpb];exact hp
 have hlt:=bM hp1;refine ⟨v',G1.set p (.cells [v'] T), ?_,List.getElem?_set_self hlt,h2.stay fun i hi _=>by rw [List.getElem?_set_ne (by omega)],by simpa using h3,fun i hi hne=>by rw [List.getElem?_set_ne (by omega)];exact h4 i hi⟩;rw [aV M hB.docs_stack_string_push rfl (c:=fT) rfl,fT]
 have hcell:v'.cell=true:=by
  rcases h2 with ⟨h,_⟩ | ⟨id,_,_,rfl,_⟩
  ·cases h
  ·rfl
 have hac:bX v'=some [v']:=by
  rcases h2 with ⟨h,_⟩ | ⟨id,_,_,rfl,_⟩
  ·cases h
  ·rfl
 have l0:∀ x:AV,bN none [x] 0=some x:=fun _=>rfl
 have s0:∀ x y:AV,bu [x] 0 [y]=[y]:=fun _ _=>rfl
 have hst:stO 1 G1 p 0 [v'] (some (.cells [v] T))=some (G1.set p (.cells [v'] T)):=by
  simp only [stO];rw [if_pos ⟨rfl,by simp,by simp [hcell]⟩];rfl
 simp (maxSteps:=3000000) (maxDischargeDepth:=6) +contextual -implicitDefEqProofs only [amC M,↓amD,Nat.reduceBEq,Nat.reduceAdd,env,ag,ow,amG,AV.cell,Nat.reduceMul,Nat.reduceLeDiff,rnc,hp,l0,s0,h1,hp1,hac,hst,(show ∀ H,pZ (some H)=some (dU,H) from fun _=>rfl)]
def wN(st:List Str)(s:Str):Bool:=match st with
 |[]=>false
 |x::_=>x == s
theorem J3(hB:j6 E){b p:Nat}{G:List AObj}{v:AV}{T:TypeId}{st:List Str}(hp:G[p]?=some (.cells [v] T))(hpb:p<b)(hb:b≤G.length)(h:rH b G v st)(hl:st.length≤1000000)(s:Str) :
  ∃ v' G',M.run gq [.ptr p 0,.str s] G=some (.ret (.bool (wN st s)),G')∧G'[p]?=some (.cells [v'] T)∧rH b G' v' (if wN st s=true then st.tail else st)∧G'.length=G.length∧∀ i,i≠p→G'[i]?=G[i]? := by
 have hlt:=bM hp;have l0:∀ x:AV,bN none [x] 0=some x:=fun _=>rfl
 have s0:∀ x y:AV,bu [x] 0 [y]=[y]:=fun _ _=>rfl
 have hlen:=rT h;cases st with
 |nil=>
  refine ⟨v,G, ?_,hp,h,rfl,fun _ _=>rfl⟩;rw [aV M hB.docs_stack_string_pop rfl (c:=b8) rfl,b8];have hlen0:∀ H,nK H .sl v=some (.int .i64 0):=hlen;simp (maxSteps:=3000000) (maxDischargeDepth:=6) +contextual -implicitDefEqProofs only [amC M,↓amD,Nat.reduceBEq,Nat.reduceAdd,env,ag,gB,rnc,hp,l0,hlen0,wN,beq_self_eq_true,cut_refl,hp_self]
 |cons x st=>
  obtain ⟨⟨q,o,cs,t1,t2,t3,t3'⟩,v',t4,t5⟩:=E1 h
  have hw:IntKind.i64.wrap ((((x::st).length:Nat):Int)-1)=(st.length:Int):=by
   simp only [List.length_cons] at hl ⊢;rw [cU (by omega) (by omega)];omega
  have h0:((((x::st).length:Nat):Int) == 0)=false:=by simp;omega
  have hw2:IntKind.i64.wrap (((st.length+1:Nat):Int)-1)=(st.length:Int):=hw;have h02:(((st.length+1:Nat):Int) == 0)=false:=h0;cases hx:x == s with
  |false=>
   refine ⟨v,G, ?_,hp,by rw [wN,hx];exact h,rfl,fun _ _=>rfl⟩;rw [aV M hB.docs_stack_string_pop rfl (c:=b8) rfl,b8];simp (maxSteps:=3000000) (maxDischargeDepth:=6) +contextual -implicitDefEqProofs only [amC M,↓amD,Nat.reduceBEq,Nat.reduceAdd,env,ag,gB,rnc,hp,l0,hlen,wN,hw,h0,hw2,h02,t1,t3,t3',hx,cut_refl,hp_self]
  |true=>
   refine ⟨v',G.set p (.cells [v'] T), ?_,List.getElem?_set_self hlt,by rw [wN,hx];exact t5.stay fun i hi _=>by rw [List.getElem?_set_ne (by omega)],by simp,fun i hne=>by rw [List.getElem?_set_ne (by omega)]⟩
   have hcell:v'.cell=true∧bX v'=some [v']∧Wk G.length v' v':=by
    rcases t5 with ⟨_,rfl⟩ | ⟨id,_,_,rfl,hg⟩
    ·exact ⟨rfl,rfl,wk_slice trivial (b4 _)⟩
    ·exact ⟨rfl,rfl,wk_rslice (bM hg)⟩
   have hwk:xE G.length (.cells [v'] T):=by
    intro c hc;simp at hc;subst hc;exact hcell.2.2
   rw [aV M hB.docs_stack_string_pop rfl (c:=b8) rfl,b8]
   have hst:stO 1 G p 0 [v'] (some (.cells [v] T))=some (G.set p (.cells [v'] T)):=by
    simp only [stO];rw [if_pos ⟨rfl,by simp,by simp [hcell.1]⟩];rfl
   simp (maxSteps:=3000000) (maxDischargeDepth:=6) +contextual -implicitDefEqProofs only [amC M,↓amD,Nat.reduceBEq,Nat.reduceAdd,env,ag,gB,amG,AV.cell,Nat.reduceMul,Nat.reduceLeDiff,rnc,hp,l0,s0,hlen,wN,hw,h0,hw2,h02,t1,t3,t3',t4,hx,hst,(show ∀ H,pZ (some H)=some (dU,H) from fun _=>rfl),hcell.2.1,uC hwk];rw [List.take_of_length_le (by simp)]
end
section
attribute [local congr] ak aR aJ al aI aA ao ah ai aC aD
variable{E:aQ}(M:bo bz E)
def Ic(x:aa):Bool:=decide (x.kind<1)||decide (5<x.kind)
def Ie(x:aa):Bool:=x.car && !(x.kind == 2) && !(x.kind == 3)
def If(p:Bool)(x:aa):Bool:=(x.kind == 1)&&((x.text == []) || !kq x.text||p)
def Ig(x:aa):Bool := !(x.kind == 1) && !lP x.text
def stP(x:aa)(st:List Str):List Str:=if (x.kind == 3)=true then st.tail else st
def BA:List aa→Bool→Bool→Bool→List Str→Int
 |[],_,_,_,st=>sel (decide ((0:Int)<(st.length:Int))) 9 0
 |x :: l,p,b,e,st=>sel (Ic x) 1 (sel (Ie x) 1 (sel (If p x) 4 (sel (Ig x) 5 (sel (pT b e x) (sel ((x.kind == 3) && !wN st x.text) 9
    (sel (x.kind == 2) (sel (decide ((16:Int)<((x.text::stP x st).length:Int))) 3 (BA l (x.kind == 1) (b || !dQ x) (e||cQ x) (x.text::stP x st)))
     (BA l (x.kind == 1) (b || !dQ x) (e||cQ x) (stP x st)))) 8))))
def dP:aa:=⟨0,[],false⟩
def n5(l:List aa)(i:Nat):Bool:=decide ((0:Int)<(i:Int))&&((l.getD (i-1) dP).kind == 1)
theorem yL{l:List aa}{i:Nat}{x:aa}(h:l[i]?=some x):n5 l (i+1)=(x.kind == 1):=by
 have h1:decide ((0:Int)<((i+1:Nat):Int))=true:=decide_eq_true (by omega);simp [n5,h1,List.getD,h]
theorem yM(l:List aa):n5 l 0=false:=rfl
abbrev C0(l:List aa):Prop:=∀ x∈l,x.text.length≤70368744177664
theorem ckl(hB:j6 E)(hX:vi M){l:List aa}{tg:Tag}(hl:l.length≤1000000)(ht:C0 l){H0:List AObj}{bd p c:Nat}(hp0:H0.length≤p)(hc0:H0.length≤c)(hpb:p<bd)(hcb:c<bd)(hpc:p≠c){k:List Fra}
  (hk:∀ (G:List AObj) (v:AV) (st:List Str),G[p]?=some (.cells [v] eI)→rH bd G v st→Pre H0 G→M.go ed H0 k (kv [(3,.ptr p 0)]) G=some (.ret (.int .u8 (sel (decide ((0:Int)<(st.length:Int))) 9 0)),H0)) :
  ∀ (n i:Nat) (G He:List AObj) (v:AV) (st:List Str) (b e:Bool),i+n=l.length→Pre H0 G→bd≤G.length→G[p]?=some (.cells [v] eI)→G[c]?=some (.cells [.bool b,.bool e] b6)→rH bd G v st→st.length≤16 →
  M.go ed H0 (.c a8 :: .lp ⟨(some [0,3,4,10,11,12]),[],false⟩ a8 He :: .blk 0 :: .c (.lv [3])::k) (kv [(0,.slice tg 3 (l.map aa.row)),(3,.ptr p 0),(4,.ptr c 0),(10,.slice tg 3 (l.map aa.row)),(11,.int .i64 l.length),(12,.int .i64 i)]) G =
   some (.ret (.int .u8 (BA (l.drop i) (n5 l i) b e st)),H0):=by
 intro n;induction n with
 |zero=>
  intro i G He v st b e h hP hb hgp hgc hst h16;obtain rfl:i=l.length:=by omega
  rw [List.drop_length,BA];have hk1:=hk G v st hgp hst hP;simp only [kv_cons,kv_nil] at hk1;rw [au M a8.eq_1];simp (maxSteps:=3000000) (maxDischargeDepth:=6) +contextual -implicitDefEqProofs only [amC M,↓amD,Nat.reduceBEq,Nat.reduceAdd,env,ag,bk,Nat.lt_irrefl,hk1]
 |succ n IH=>
  intro i G He v st b e h hP hb hgp hgc hst h16;have hi:i<l.length:=by omega
  have hx:l[i]?=some l[i]:=List.getElem?_eq_getElem hi;have hd:l.drop i=l[i]::l.drop (i+1):=List.drop_eq_getElem_cons hi;have htx:=ht _ (List.getElem_mem hi);have hsu:=yL hx;rw [hd];generalize l[i]=x at *
  have htm:x.text.length≤bL:=by simp only [bL];omega
  have hws:=gK hi (show l.length≤bL by simp only [bL];omega);have hw1:decide ((0:Int)<(i:Int))=true→IntKind.i64.wrap ((i:Int)-1)=((i-1:Nat):Int):=fun h0=>EM (by have:=of_decide_eq_true h0;omega) (by simp only [bL];omega)
  have hi1:i-1<l.length:=by omega
  have hx1:l[i-1]?=some (l.getD (i-1) dP):=by rw [List.getD,List.getElem?_eq_getElem hi1];rfl
  have hia:∀ k:IntKind,tI 3 (.slice tg 3 (l.map aa.row)) (.int k ((i-1:Nat):Int))=some (.vptr 3 (l.map aa.row) (i-1) 0):=fun k=>ct hi1
  have hT:=fun H=>yJ M hB hX htm H
  have hN:=fun H=>kN M hB htm H
  have hct:∀ L,dt H0 (G++L):=fun L=>(hP.app L).cut
  have htk:∀ L,(G++L).take H0.length=H0:=fun L=>(hP.app L).take
  have hgx:∀ T,(G++[AObj.cells x.row T])[G.length]?=some (.cells x.row T):=fun T=>by rw [aH];rfl
  rw [BA];cases ha:Ic x with
  |true=>
   have ha':(decide (x.kind<1)||decide (5<x.kind))=true:=ha;rw [au M a8.eq_1];simp (maxSteps:=3000000) (maxDischargeDepth:=6) +contextual -implicitDefEqProofs only [amC M,↓amD,Nat.reduceBEq,Nat.reduceAdd,env,ag,bk,amG,AV.cell,Nat.reduceMul,Nat.reduceLeDiff,hi,hx,ct hi,aS,aH,ha',hct,htk]
  |false=>
   have ha':(decide (x.kind<1)||decide (5<x.kind))=false:=ha;simp only [sel_false];cases hc:Ie x with
   |true=>
    have hc':(x.car && !(x.kind == 2) && !(x.kind == 3))=true:=hc;rw [au M a8.eq_1];simp (maxSteps:=3000000) (maxDischargeDepth:=6) +contextual -implicitDefEqProofs only [amC M,↓amD,Nat.reduceBEq,Nat.reduceAdd,env,ag,bk,amG,AV.cell,Nat.reduceMul,Nat.reduceLeDiff,hi,hx,ct hi,aS,aH,ha',hc',hct,htk]
   |false=>
    have hc':(x.car && !(x.kind == 2) && !(x.kind == 3))=false:=hc;simp only [sel_false];cases hf:If (n5 l i) x with
    |true=>
     have hf':((x.kind == 1)&&((x.text == []) || !kq x.text||(decide ((0:Int)<(i:Int))&&((l.getD (i-1) dP).kind == 1))))=true:=hf;rw [au M a8.eq_1];simp (maxSteps:=3000000) (maxDischargeDepth:=6) +contextual -implicitDefEqProofs only [amC M,↓amD,Nat.reduceBEq,Nat.reduceAdd,env,ag,bk,amG,AV.cell,Nat.reduceMul,Nat.reduceLeDiff,hi,hx,ct hi,aS,aH,ha',hc',hf',hT,hw1,hia,hx1,hct,htk]
    |false=>
     have hf':((x.kind == 1)&&((x.text == []) || !kq x.text||(decide ((0:Int)<(i:Int))&&((l.getD (i-1) dP).kind == 1))))=false:=hf;simp only [sel_false];cases hn:Ig x with
     |true=>
      have hn':(!(x.kind == 1) && !lP x.text)=true:=hn;rw [au M a8.eq_1];simp (maxSteps:=3000000) (maxDischargeDepth:=6) +contextual -implicitDefEqProofs only [amC M,↓amD,Nat.reduceBEq,Nat.reduceAdd,env,ag,bk,amG,AV.cell,Nat.reduceMul,Nat.reduceLeDiff,hi,hx,ct hi,aS,aH,ha',hc',hf',hT,hw1,hia,hx1,hct,htk,hn',hN]
     |false=>
      have hn':(!(x.kind == 1) && !lP x.text)=false:=hn;simp only [sel_false];have hcl:=bM hgc;have htak:=Gh M hB (c:=c) (b:=b) (e:=e) (T:=b6) (G:=G++[.cells x.row ae]) (dW hgc) x;cases htb:pT b e x with
      |false=>
       simp only [htb,Bool.false_eq_true,if_false] at htak;rw [au M a8.eq_1];simp (maxSteps:=3000000) (maxDischargeDepth:=6) +contextual -implicitDefEqProofs only [amC M,↓amD,Nat.reduceBEq,Nat.reduceAdd,env,ag,bk,amG,AV.cell,Nat.reduceMul,Nat.reduceLeDiff,hi,hx,ct hi,aS,aH,ha',hc',hf',hT,hw1,hia,hx1,hct,htk,hn',hN,htak]
      |true=>
       simp only [htb,if_true] at htak;simp only [sel_true];have hcl2:c<(G++[AObj.cells x.row ae]).length:=by simp;omega
       have hne:c≠G.length:=by omega
       have q1:((G++[AObj.cells x.row ae]).set c (.cells [.bool (b || !dQ x),.bool (e||cQ x)] b6))[p]?=some (.cells [v] eI):=by
        rw [List.getElem?_set_ne (by omega)];exact dW hgp
       have q2:((G++[AObj.cells x.row ae]).set c (.cells [.bool (b || !dQ x),.bool (e||cQ x)] b6))[c]?=some (.cells [.bool (b || !dQ x),.bool (e||cQ x)] b6):=List.getElem?_set_self hcl2
       have q3:((G++[AObj.cells x.row ae]).set c (.cells [.bool (b || !dQ x),.bool (e||cQ x)] b6))[G.length]?=some (.cells x.row ae):=by
        rw [List.getElem?_set_ne hne,aH];rfl
       have q4:Pre H0 ((G++[AObj.cells x.row ae]).set c (.cells [.bool (b || !dQ x),.bool (e||cQ x)] b6)):=(hP.app _).set hc0 _
       have q5:rH bd ((G++[AObj.cells x.row ae]).set c (.cells [.bool (b || !dQ x),.bool (e||cQ x)] b6)) v st:=hst.stay fun j hj hj2=>by
        rw [List.getElem?_set_ne (by omega),List.getElem?_append_left hj2]
       have q6:bd≤((G++[AObj.cells x.row ae]).set c (.cells [.bool (b || !dQ x),.bool (e||cQ x)] b6)).length:=by simp;omega
       have q7:p≠G.length:=by have:=bM hgp;omega
       generalize (G++[AObj.cells x.row ae]).set c (.cells [.bool (b || !dQ x),.bool (e||cQ x)] b6)=G2 at htak q1 q2 q3 q4 q5 q6;have hct2:=q4.cut;have htk2:=q4.take;cases h3:x.kind == 3 with
       |true=>
        have h2:(x.kind == 2)=false:=by
         have:x.kind=3:=by simpa using h3
         rw [this];rfl
        obtain ⟨v3,G3,p1,p2,p3,p4,p5⟩:=J3 M hB q1 hpb q6 q5 (by omega) x.text;cases hpo:wN st x.text with
        |false=>
         rw [hpo] at p1;have hP3:Pre H0 G3:=⟨by rw [p4];exact q4.1,fun j hj=>by rw [p5 j (by omega)];exact q4.2 j hj⟩
         have c3:=hP3.cut;have t3:=hP3.take;rw [au M a8.eq_1];simp (maxSteps:=3000000) (maxDischargeDepth:=6) +contextual -implicitDefEqProofs only [amC M,↓amD,Nat.reduceBEq,Nat.reduceAdd,env,ag,bk,amG,AV.cell,Nat.reduceMul,Nat.reduceLeDiff,hi,hx,ct hi,aS,aH,ha',hc',hf',hT,hw1,hia,hx1,hct,htk,hn',hN,htak,q3,h3,p1,c3,t3]
        |true=>
         rw [hpo] at p1;simp only [hpo,if_true] at p3;have hP3:Pre H0 G3:=⟨by rw [p4];exact q4.1,fun j hj=>by rw [p5 j (by omega)];exact q4.2 j hj⟩
         have g3:G3[G.length]?=some (.cells x.row ae):=by rw [p5 _ (by omega)];exact q3
         have hstp:stP x st=st.tail:=if_pos h3;have ih:=fun He=>IH (i+1) G3 He v3 st.tail (b || !dQ x) (e||cQ x) (by omega) hP3 (by omega) p2 (by rw [p5 c (by omega)];exact q2) p3 (by simp;omega)
         rw [hsu] at ih;simp only [kv_cons,kv_nil] at ih;rw [au M a8.eq_1];simp (maxSteps:=3000000) (maxDischargeDepth:=6) +contextual -implicitDefEqProofs only [amC M,↓amD,Nat.reduceBEq,Nat.reduceAdd,env,ag,bk,amG,AV.cell,Nat.reduceMul,Nat.reduceLeDiff,hi,hx,ct hi,aS,aH,ha',hc',hf',hT,hw1,hia,hx1,hct,htk,hn',hN,htak,q3,h3,h2,p1,g3,hstp,hws,ih]
       |false=>
        have hstp:stP x st=st:=if_neg (by rw [h3];simp);cases h2:x.kind == 2 with
        |false=>
         have hc2:x.car=false:=by rw [h2,h3] at hc';simpa using hc'
         have ih:=fun He=>IH (i+1) G2 He v st (b || !dQ x) (e||cQ x) (by omega) q4 q6 q1 q2 q5 h16
         rw [hsu] at ih;simp only [kv_cons,kv_nil] at ih;rw [au M a8.eq_1];simp (maxSteps:=3000000) (maxDischargeDepth:=6) +contextual -implicitDefEqProofs only [amC M,↓amD,Nat.reduceBEq,Nat.reduceAdd,env,ag,bk,amG,AV.cell,Nat.reduceMul,Nat.reduceLeDiff,hi,hx,ct hi,aS,aH,ha',hc',hf',hT,hw1,hia,hx1,hct,htk,hn',hN,htak,q3,h3,h2,hc2,hstp,hws,ih]
        |true=>
         obtain ⟨v3,G3,p1,p2,p3,p4⟩:=Ib M hB q1 hpb q6 q5 (by omega) x.text;have hP3:Pre H0 G3:=p4.pre q4 (by omega) hp0;have c3:=hP3.cut;have t3:=hP3.take;have hlen:=rT p3;have l0:∀ x:AV,bN none [x] 0=some x:=fun _=>rfl
         have hlen2:∀ H,nK H .sl v3=some (.int .i64 ((st.length+1:Nat):Int)):=hlen;cases hgt:decide ((16:Int)<((x.text::stP x st).length:Int)) with
         |true=>
          have hgt2:decide ((16:Int)<((st.length+1:Nat):Int))=true:=by rw [← hgt,hstp];rfl
          rw [au M a8.eq_1];simp (maxSteps:=3000000) (maxDischargeDepth:=6) +contextual -implicitDefEqProofs only [amC M,↓amD,Nat.reduceBEq,Nat.reduceAdd,env,ag,bk,amG,AV.cell,Nat.reduceMul,Nat.reduceLeDiff,hi,hx,ct hi,aS,aH,ha',hc',hf',hT,hw1,hia,hx1,hct,htk,hn',hN,htak,q3,h3,h2,p1,p2,l0,hlen2,hgt2,c3,t3]
         |false=>
          have hgt2:decide ((16:Int)<((st.length+1:Nat):Int))=false:=by rw [← hgt,hstp];rfl
          have hle:(x.text::st).length≤16:=by have:=of_decide_eq_false hgt2;simp only [List.length_cons];omega
          have ih:=fun He=>IH (i+1) G3 He v3 (x.text::st) (b || !dQ x) (e||cQ x) (by omega) hP3 (by have:=p4.1;omega) p2 (by rw [p4.2 c hcb (by omega)];exact q2) p3 hle
          rw [hsu] at ih;simp only [kv_cons,kv_nil] at ih;rw [au M a8.eq_1];simp (maxSteps:=3000000) (maxDischargeDepth:=6) +contextual -implicitDefEqProofs only [amC M,↓amD,Nat.reduceBEq,Nat.reduceAdd,env,ag,bk,amG,AV.cell,Nat.reduceMul,Nat.reduceLeDiff,hi,hx,ct hi,aS,aH,ha',hc',hf',hT,hw1,hia,hx1,hct,htk,hn',hN,htak,q3,h3,h2,p1,p2,l0,hlen2,hgt2,hstp,hws,ih]
def l4(l:List aa):Int:=sel (decide ((512:Int)<(l.length:Int))) 3 (BA l false false false [])
theorem wO(hB:j6 E)(hX:vi M){l:Sl aa}(hl:l.l.length≤1000000)(ht:C0 l.l)(H:List AObj) :
  M.run cu [.slice l.tag 3 (l.l.map aa.row)] H=some (.ret (.int .u8 (l4 l.l)),H):=by
 rw [aV M hB.docs_CheckPieces rfl (c:=kF) rfl,kF];cases h5:decide ((512:Int)<(l.l.length:Int)) with
 |true=>simp (maxSteps:=3000000) (maxDischargeDepth:=6) +contextual -implicitDefEqProofs only [amC M,↓amD,Nat.reduceBEq,Nat.reduceAdd,env,ag,bk,h5,l4]
 |false=>
  have hlp:=fun k hk He=>ckl M hB hX (tg:=l.tag) hl ht (H0:=H) (bd:=H.length+2) (p:=H.length) (c:=H.length+1) (Nat.le_refl _) (by omega) (by omega) (by omega) (by omega) (k:=k) hk l.l.length 0 (H++[.cells [.slice .nil 1 []] eI,.cells [.bool false,.bool false] b6]) He (.slice .nil 1 []) [] false false (by omega) ((Pre.refl H).app _) (by simp) (by rw [aH];rfl) (by rw [hp_getk];rfl) (.inl ⟨rfl,rfl⟩) (by simp)
  simp only [kv_cons,kv_nil,Int.ofNat_zero,List.drop_zero,yM] at hlp;have l0:∀ x:AV,bN none [x] 0=some x:=fun _=>rfl
  simp (maxSteps:=3000000) (maxDischargeDepth:=6) +contextual -implicitDefEqProofs only [amC M,↓amD,Nat.reduceBEq,Nat.reduceAdd,env,ag,bk,h5,l4];refine hlp _ (fun G v st hg hs hP => ?_) _;have hlen:=rT hs;have hct:=hP.cut;have htk:=hP.take;simp (maxSteps:=3000000) (maxDischargeDepth:=6) +contextual -implicitDefEqProofs only [amC M,↓amD,Nat.reduceBEq,Nat.reduceAdd,env,ag,bk,hg,l0,hlen,hct,htk]
end
section
attribute [local congr] ak aR aJ al aI aA ao ah ai aC aD
variable{E:aQ}(M:bo bz E)
theorem Lx{α:Type}(b p:Bool)(x y:α):slc b y (slc p y x)=slc (b||p) y x:=by cases b<;>rfl
def mO(p:Bool)(x:aa):Int:=sel (Ic x) 1 (sel (Ie x) 1 (sel (If p x) 4 (sel (Ig x) 5 0)))
theorem Gi(hB:j6 E){l:List aa}{tg:Tag}(hl:l.length≤1000000)(ht:C0 l){i:Nat}{x:aa}(hx:l[i]?=some x)(H:List AObj) :
  M.run iE [.slice tg 3 (l.map aa.row),.int .i64 i] H=some (.ret (.int .u8 (mO (n5 l i) x)),H):=by
 have hi:i<l.length:=(List.getElem?_eq_some_iff.1 hx).1;have htx:=ht _ (List.mem_of_getElem? hx);have htm:x.text.length≤bL:=by simp only [bL];omega
 have hw1:decide ((0:Int)<(i:Int))=true→IntKind.i64.wrap ((i:Int)-1)=((i-1:Nat):Int):=fun h0=>EM (by have:=of_decide_eq_true h0;omega) (by simp only [bL];omega)
 have hi1:i-1<l.length:=by omega
 have hx1:l[i-1]?=some (l.getD (i-1) dP):=by rw [List.getD,List.getElem?_eq_getElem hi1];rfl
 have hia:∀ k:IntKind,tI 3 (.slice tg 3 (l.map aa.row)) (.int k ((i-1:Nat):Int))=some (.vptr 3 (l.map aa.row) (i-1) 0):=fun k=>ct hi1
 have hT:=fun H=>CY M hB htx H
 have hN:=fun H=>CZ M hB htm H
 rw [aV M hB.truchmanref01_alone rfl (c:=iL) rfl,iL];simp (maxSteps:=3000000) (maxDischargeDepth:=6) +contextual -implicitDefEqProofs only [amC M,↓amD,Nat.reduceBEq,Nat.reduceAdd,env,ag,qj,amG,AV.cell,Nat.reduceMul,Nat.reduceLeDiff,hi,hx,ct hi,aS,aH,hT,hN,hw1,hia,hx1,cut_app,hp_take,mO,Ic,Ie,If,Ig,n5]
def cw(x y:aa):Bool:=dQ x && !dQ y||cQ y && !cQ x
theorem Mm{l:List aa}{tg:Tag}(hl:l.length≤1000000){i:Nat}{x:aa}(hx:l[i]?=some x){H H0:List AObj}(hc:dt H0 H)(k:List Fra):∀ (n j:Nat) (He:List AObj),j+n=i →
  M.go dz H0 (.c db :: .lp ⟨(some [0,1,5]),[],false⟩ db He :: .blk 0 :: .c (.lv [])::k) (kv [(0,.slice tg 3 (l.map aa.row)),(1,.int .i64 i),(5,.int .i64 j)]) H =
   sel (((l.take i).drop j).any (cw x)) (some (.ret (.int .u8 8),H.take H0.length)) (M.go dz H0 k .leaf H)
 |0,j,He,h=>by
  obtain rfl:j=i:=by omega
  have e:(l.take j).drop j=[]:=List.drop_of_length_le (by simp;omega);rw [au M db.eq_1];simp (maxSteps:=3000000) (maxDischargeDepth:=6) +contextual -implicitDefEqProofs only [amC M,↓amD,Nat.reduceBEq,Nat.reduceAdd,env,ag,gE,Nat.lt_irrefl,e,List.any_nil]
 |n+1,j,He,h=>by
  have hi:i<l.length:=(List.getElem?_eq_some_iff.1 hx).1;have hki:j<i:=by omega
  have hkl:j<l.length:=by omega
  have hy:l[j]?=some l[j]:=List.getElem?_eq_getElem hkl
  have hd:(l.take i).drop j=l[j]::(l.take i).drop (j+1):=by
   rw [List.drop_eq_getElem_cons (by simp;omega),List.getElem_take]
  have ih:=fun He=>Mm (tg:=tg) hl hx hc k n (j+1) He (by omega)
  have hws:IntKind.i64.wrap ((j:Int)+1)=((j+1:Nat):Int):=gK hkl (show l.length≤bL by simp only [bL];omega);rw [hd,List.any_cons];generalize l[j]=y at hy;have e1:(y.car&&(y.kind == 2))=dQ y:=Bool.and_comm _ _;have e2:(y.car&&(y.kind == 3))=cQ y:=Bool.and_comm _ _;have e3:(x.car&&(x.kind == 2))=dQ x:=Bool.and_comm _ _;have e4:(x.car&&(x.kind == 3))=cQ x:=Bool.and_comm _ _;simp only [kv_cons,kv_nil] at ih
  rw [au M db.eq_1];simp (maxSteps:=3000000) (maxDischargeDepth:=6) +contextual -implicitDefEqProofs only [amC M,↓amD,Nat.reduceBEq,Nat.reduceAdd,env,ag,gE,hki,hx,hy,hi,hkl,ct hi,ct hkl,aS,hws,e1,e2,e3,e4,ih,hc,cw,Lx,Bool.or_assoc]
def C1(l:List aa)(i:Nat):Bool:=(l.take i).any fun y => !dQ y
def C2(l:List aa)(i:Nat):Bool:=(l.take i).any cQ
theorem Ih(x:aa):∀ l:List aa,l.any (cw x)=(dQ x&&(l.any fun y => !dQ y)||l.any cQ && !cQ x)
 |[]=>by simp
 |y::l=>by
  simp only [List.any_cons,Ih x l,cw];cases dQ x<;>cases dQ y<;>cases cQ y<;>cases cQ x<;>simp
theorem C3(hB:j6 E){l:List aa}{tg:Tag}(hl:l.length≤1000000){i:Nat}{x:aa}(hx:l[i]?=some x)(H:List AObj) :
  M.run gu [.slice tg 3 (l.map aa.row),.int .i64 i] H=some (.ret (.int .u8 (sel (pT (C1 l i) (C2 l i) x) 0 8)),H):=by
 rw [aV M hB.truchmanref01_carried rfl (c:=gD) rfl,gD];have hlp:=fun k He=>Mm M (tg:=tg) hl hx (cut_refl H) k i 0 He (by omega)
 simp only [kv_cons,kv_nil,Int.ofNat_zero,List.drop_zero,Ih] at hlp;have e:pT (C1 l i) (C2 l i) x = !(dQ x&&((l.take i).any fun y => !dQ y)||(l.take i).any cQ && !cQ x):=rfl;rw [e];simp (maxSteps:=3000000) (maxDischargeDepth:=6) +contextual -implicitDefEqProofs only [amC M,↓amD,Nat.reduceBEq,Nat.reduceAdd,env,ag,gE,hlp]
theorem Gj{l:List aa}{i:Nat}{x:aa}(h:l[i]?=some x):C1 l (i+1)=(C1 l i || !dQ x):=by
 unfold C1;rw [List.take_add_one,h,List.any_append];simp
theorem Gk{l:List aa}{i:Nat}{x:aa}(h:l[i]?=some x):C2 l (i+1)=(C2 l i||cQ x):=by
 unfold C2;rw [List.take_add_one,h,List.any_append];simp
theorem MM(hB:j6 E){l:List aa}{tg:Tag}(hl:l.length≤1000000)(ht:C0 l){H0:List AObj}{k:List Fra}
  (hk:∀ (G:List AObj) (v:AV) (st:List Str),rH H0.length G v st→Pre H0 G→M.go cL H0 k (kv [(3,v)]) G=some (.ret (.int .u8 (sel (decide ((0:Int)<(st.length:Int))) 9 0)),H0)) :
  ∀ (n i:Nat) (G He:List AObj) (v:AV) (st:List Str),i+n=l.length→Pre H0 G→rH H0.length G v st→st.length≤16 →
  M.go cL H0 (.c aL :: .lp ⟨(some [0,3,4]),[],false⟩ aL He :: .blk 0 :: .c (.lv [3])::k) (kv [(0,.slice tg 3 (l.map aa.row)),(3,v),(4,.int .i64 i)]) G =
   some (.ret (.int .u8 (BA (l.drop i) (n5 l i) (C1 l i) (C2 l i) st)),H0):=by
 intro n;induction n with
 |zero=>
  intro i G He v st h hP hst h16;obtain rfl:i=l.length:=by omega
  rw [List.drop_length,BA];have hk1:=hk G v st hst hP;simp only [kv_cons,kv_nil] at hk1;rw [au M aL.eq_1];simp (maxSteps:=3000000) (maxDischargeDepth:=6) +contextual -implicitDefEqProofs only [amC M,↓amD,Nat.reduceBEq,Nat.reduceAdd,env,ag,aM,Nat.lt_irrefl,hk1]
 |succ n IH=>
  intro i G He v st h hP hst h16;have hi:i<l.length:=by omega
  have hx:l[i]?=some l[i]:=List.getElem?_eq_getElem hi;have hd:l.drop i=l[i]::l.drop (i+1):=List.drop_eq_getElem_cons hi;have hsu:=yL hx;have hbs:=Gj hx;have hes:=Gk hx;rw [hd];generalize l[i]=x at *
  have hws:=gK hi (show l.length≤bL by simp only [bL];omega);have hA:=fun H=>Gi M hB (tg:=tg) hl ht hx H
  have hC:=fun H=>C3 M hB (tg:=tg) hl hx H
  have hct:=hP.cut;have htk:=hP.take;have hlen:=rT hst;rw [BA];cases ha:Ic x with
  |true=>
   have e:mO (n5 l i) x=1:=by rw [mO,ha];rfl
   rw [au M aL.eq_1];simp (maxSteps:=3000000) (maxDischargeDepth:=6) +contextual -implicitDefEqProofs only [amC M,↓amD,Nat.reduceBEq,Nat.reduceAdd,env,ag,aM,hi,hx,hA,e,hct,htk,(show ((1:Int) == 0)=false from rfl)]
  |false=>
  simp only [sel_false];cases hca:Ie x with
  |true=>
   have e:mO (n5 l i) x=1:=by rw [mO,ha,hca];rfl
   rw [au M aL.eq_1];simp (maxSteps:=3000000) (maxDischargeDepth:=6) +contextual -implicitDefEqProofs only [amC M,↓amD,Nat.reduceBEq,Nat.reduceAdd,env,ag,aM,hi,hx,hA,e,hct,htk,(show ((1:Int) == 0)=false from rfl)]
  |false=>
  simp only [sel_false];cases hf:If (n5 l i) x with
  |true=>
   have e:mO (n5 l i) x=4:=by rw [mO,ha,hca,hf];rfl
   rw [au M aL.eq_1];simp (maxSteps:=3000000) (maxDischargeDepth:=6) +contextual -implicitDefEqProofs only [amC M,↓amD,Nat.reduceBEq,Nat.reduceAdd,env,ag,aM,hi,hx,hA,e,hct,htk,(show ((4:Int) == 0)=false from rfl)]
  |false=>
  simp only [sel_false];cases hn:Ig x with
  |true=>
   have e:mO (n5 l i) x=5:=by rw [mO,ha,hca,hf,hn];rfl
   rw [au M aL.eq_1];simp (maxSteps:=3000000) (maxDischargeDepth:=6) +contextual -implicitDefEqProofs only [amC M,↓amD,Nat.reduceBEq,Nat.reduceAdd,env,ag,aM,hi,hx,hA,e,hct,htk,(show ((5:Int) == 0)=false from rfl)]
  |false=>
  simp only [sel_false];have e:mO (n5 l i) x=0:=by rw [mO,ha,hca,hf,hn];rfl
  cases htb:pT (C1 l i) (C2 l i) x with
  |false=>
   rw [htb] at hC;rw [au M aL.eq_1];simp (maxSteps:=3000000) (maxDischargeDepth:=6) +contextual -implicitDefEqProofs only [amC M,↓amD,Nat.reduceBEq,Nat.reduceAdd,env,ag,aM,hi,hx,hA,hC,e,hct,htk,beq_self_eq_true,(show ((8:Int) == 0)=false from rfl)]
  |true=>
  rw [htb] at hC;simp only [sel_true,sel_false] at hC ⊢;cases h3:x.kind == 3 with
  |true=>
   have h2:(x.kind == 2)=false:=by
    have:x.kind=3:=by simpa using h3
    rw [this];rfl
   cases st with
   |nil=>
    have hlen0:∀ H,nK H .sl v=some (.int .i64 0):=hlen;rw [au M aL.eq_1];simp (maxSteps:=3000000) (maxDischargeDepth:=6) +contextual -implicitDefEqProofs only [amC M,↓amD,Nat.reduceBEq,Nat.reduceAdd,env,ag,aM,hi,hx,ct hi,aS,hA,hC,e,h3,hlen0,wN,hct,htk,beq_self_eq_true]
   |cons y st=>
    obtain ⟨⟨q,o,cs,t1,t2,t3,t3'⟩,v',t4,t5⟩:=E1 hst
    have hw:IntKind.i64.wrap ((((y::st).length:Nat):Int)-1)=(st.length:Int):=by
     simp only [List.length_cons] at h16 ⊢;rw [cU (by omega) (by omega)];omega
    have h0:((((y::st).length:Nat):Int) == 0)=false:=by simp;omega
    cases hy:y == x.text with
    |false=>
     rw [au M aL.eq_1];simp (maxSteps:=3000000) (maxDischargeDepth:=6) +contextual -implicitDefEqProofs only [amC M,↓amD,Nat.reduceBEq,Nat.reduceAdd,env,ag,aM,hi,hx,ct hi,aS,hA,hC,e,h3,hlen,h0,hw,t1,t3,t3',hy,wN,hct,htk,beq_self_eq_true]
    |true=>
     have hstp:stP x (y::st)=st:=if_pos h3;have ih:=fun He=>IH (i+1) G He v' st (by omega) hP t5 (by simp at h16;omega)
     rw [hsu,hbs,hes] at ih;simp only [kv_cons,kv_nil] at ih;rw [au M aL.eq_1];simp (maxSteps:=3000000) (maxDischargeDepth:=6) +contextual -implicitDefEqProofs only [amC M,↓amD,Nat.reduceBEq,Nat.reduceAdd,env,ag,aM,hi,hx,ct hi,aS,hA,hC,e,h3,h2,hlen,h0,hw,t1,t3,t3',t4,hy,wN,hstp,hws,ih,beq_self_eq_true]
  |false=>
   have hstp:stP x st=st:=if_neg (by rw [h3];simp);cases h2:x.kind == 2 with
   |false=>
    have ih:=fun He=>IH (i+1) G He v st (by omega) hP hst h16
    rw [hsu,hbs,hes] at ih;simp only [kv_cons,kv_nil] at ih;rw [au M aL.eq_1];simp (maxSteps:=3000000) (maxDischargeDepth:=6) +contextual -implicitDefEqProofs only [amC M,↓amD,Nat.reduceBEq,Nat.reduceAdd,env,ag,aM,hi,hx,ct hi,aS,hA,hC,e,h3,h2,hstp,hws,ih,beq_self_eq_true]
   |true=>
    obtain ⟨v3,G3,p1,p2,p3,p4⟩:=Ia hst hP.1 (by omega) x.text;have hP3:Pre H0 G3:=⟨Nat.le_trans hP.1 p3,fun j hj=>by rw [p4 j hj];exact hP.2 j hj⟩
    have c3:=hP3.cut;have tk3:=hP3.take;have hlen3:∀ H,nK H .sl v3=some (.int .i64 ((st.length+1:Nat):Int)):=rT p2;cases hgt:decide ((16:Int)<((x.text::stP x st).length:Int)) with
    |true=>
     have hgt2:decide ((16:Int)<((st.length+1:Nat):Int))=true:=by rw [← hgt,hstp];rfl
     rw [au M aL.eq_1];simp (maxSteps:=3000000) (maxDischargeDepth:=6) +contextual -implicitDefEqProofs only [amC M,↓amD,Nat.reduceBEq,Nat.reduceAdd,env,ag,aM,amG,AV.cell,Nat.reduceMul,Nat.reduceLeDiff,hi,hx,ct hi,aS,hA,hC,e,h3,h2,p1,hlen3,hgt2,c3,tk3,beq_self_eq_true]
    |false=>
     have hgt2:decide ((16:Int)<((st.length+1:Nat):Int))=false:=by rw [← hgt,hstp];rfl
     have hle:(x.text::st).length≤16:=by have:=of_decide_eq_false hgt2;simp only [List.length_cons];omega
     have ih:=fun He=>IH (i+1) G3 He v3 (x.text::st) (by omega) hP3 p2 hle
     rw [hsu,hbs,hes] at ih;simp only [kv_cons,kv_nil] at ih;rw [au M aL.eq_1];simp (maxSteps:=3000000) (maxDischargeDepth:=6) +contextual -implicitDefEqProofs only [amC M,↓amD,Nat.reduceBEq,Nat.reduceAdd,env,ag,aM,amG,AV.cell,Nat.reduceMul,Nat.reduceLeDiff,hi,hx,ct hi,aS,hA,hC,e,h3,h2,p1,hlen3,hgt2,hstp,hws,ih,beq_self_eq_true]
theorem vj(hB:j6 E){l:Sl aa}(hl:l.l.length≤1000000)(ht:C0 l.l)(H:List AObj) :
  M.run eM [.slice l.tag 3 (l.l.map aa.row)] H=some (.ret (.int .u8 (l4 l.l)),H):=by
 rw [aV M hB.truchmanref01_CheckPieces rfl (c:=eR) rfl,eR];cases h5:decide ((512:Int)<(l.l.length:Int)) with
 |true=>simp (maxSteps:=3000000) (maxDischargeDepth:=6) +contextual -implicitDefEqProofs only [amC M,↓amD,Nat.reduceBEq,Nat.reduceAdd,env,ag,aM,h5,l4]
 |false=>
  have hlp:=fun k hk He=>MM M hB (tg:=l.tag) hl ht (H0:=H) (k:=k) hk l.l.length 0 H He (.slice .nil 1 []) [] (by omega) (Pre.refl H) (.inl ⟨rfl,rfl⟩) (by simp)
  simp only [kv_cons,kv_nil,Int.ofNat_zero,List.drop_zero,yM,(show C1 l.l 0=false from rfl),(show C2 l.l 0=false from rfl)] at hlp;simp (maxSteps:=3000000) (maxDischargeDepth:=6) +contextual -implicitDefEqProofs only [amC M,↓amD,Nat.reduceBEq,Nat.reduceAdd,env,ag,aM,h5,l4];refine hlp _ (fun G v st hs hP => ?_) _;have hlen:=rT hs;have hct:=hP.cut;have htk:=hP.take;simp (maxSteps:=3000000) (maxDischargeDepth:=6) +contextual -implicitDefEqProofs only [amC M,↓amD,Nat.reduceBEq,Nat.reduceAdd,env,ag,aM,hlen,hct,htk]
end
structure Un where
 r:Int
 hole:Bool
def Un.row(x:Un):List AV:=[.int .i32 x.r,.bool x.hole]
structure Un.ok (n:Nat) (x:Un):Prop where
 triv:True
theorem Un.ok.mono{n m:Nat}{x:Un}(h:x.ok n)(hn:n≤m):x.ok m:=⟨trivial⟩
theorem Un.ok.wk{n:Nat}{x:Un}(h:x.ok n):WkL n x.row x.row:=⟨wk_int _ _ _,wk_bool _ _,trivial⟩
structure Fit where
 cls:Bool
 r:Int
def Fit.row(x:Fit):List AV:=[.bool x.cls,.int .i32 x.r]
structure Fit.ok (n:Nat) (x:Fit):Prop where
 triv:True
theorem Fit.ok.mono{n m:Nat}{x:Fit}(h:x.ok n)(hn:n≤m):x.ok m:=⟨trivial⟩
theorem Fit.ok.wk{n:Nat}{x:Fit}(h:x.ok n):WkL n x.row x.row:=⟨wk_bool _ _,wk_int _ _ _,trivial⟩
section
attribute [local congr] ak aR aJ al aI aA ao ah ai aC aD
variable{E:aQ}(M:bo bz E)
structure BrkE (E:aQ):Prop where
end
section
attribute [local congr] ak aR aJ al aI aA ao ah ai aC aD
variable{E:aQ}(M:bo bz E)
end
section
attribute [local congr] ak aR aJ al aI aA ao ah ai aC aD
variable{E:aQ}(M:bo bz E)
theorem bp{s t:Str}(h:s.length+t.length<9223372036854775808):bq .add s t=some (.str (s++t)):=if_pos h
theorem BB{H0:List AObj}(n m:Nat)(T:TypeId)(L:List AObj):dt (H0++[.tok n T]) (H0++(.tok m T::L)):=⟨by simp,fun i x hi hx=>by
 rw [List.length_append] at hi
 by_cases h:i<H0.length
 ·rw [List.getElem?_append_left h] at hx ⊢;exact .inl hx
 ·obtain rfl:i=H0.length:=by simp at hi;omega
  rw [aH] at hx;obtain rfl:=Option.some.inj hx;exact .inr trivial⟩
theorem yN(H0:List AObj)(o:AObj)(L:List AObj):(H0++(o::L)).take (H0.length+1)=H0++[o]:=by
 rw [show H0++(o::L)=(H0++[o])++L by simp,show H0.length+1=(H0++[o]).length by simp,List.take_left]
theorem E2{α:Type}{row:α→List AV}{l:List α}{x:α}{r:List AV}{sz bytes:Nat}{e:TypeId}(H L:List AObj)(h1:r.length=sz)(h2:r.all AV.cell=true)(h3:r.map AV.strip=row x)
  (hl:(l.length+1)*bytes≤140737488355328) (hl2:l.length+1≤4611686018427387904) :
  rap false (H++(.tok (l.length*sz) e::L)) e sz bytes false (.slice (.own H.length) sz (l.map row)) (.slice .full sz [r])=some (.slice (.own H.length) sz ((l++[x]).map row),H++(.tok ((l++[x]).length*sz) e::L)):=by
 simp only [rap,sM,n8,List.length_map,List.length_cons,List.length_nil,Nat.zero_add,or_true,if_true,hl,hl2,kA h1 h2,and_true,true_and,aH,List.getElem?_cons_zero,hp_set0,List.set_cons_zero,List.map_cons,List.map_nil,h3,List.map_append,List.length_append,Nat.add_mul,Nat.one_mul];rw [Nat.add_mul,Nat.one_mul] at hl;rw [if_pos hl]
theorem D6(n:Nat)(l:List aa):gm n (l.map aa.row):=by
 rw [rowsWk_map];exact fun _ _=>⟨wk_int _ _ _,wk_str _ _,wk_bool _ _,trivial⟩
theorem Gl(x y:aa):req (.st [(0,.int .u8),(1,.str),(2,.bool)]) (.agg x.row) (.agg y.row)=some ((x.kind == y.kind)&&(x.text == y.text)&&(x.car == y.car)):=by
 simp only [req,oL,aa.row,List.getElem?_cons_zero,List.getElem?_cons_succ,tH];cases x.kind == y.kind<;>simp
 cases x.text == y.text<;>simp
 cases x.car == y.car<;>rfl
theorem spl{H H0:List AObj}{l:List aa}{ta tb:Tag}(hl:l.length≤bL)(hc:dt H0 H)(k:List Fra):∀ (n i:Nat) (He:List AObj),i+n=l.length →
  M.go b7 H0 (.c cE :: .lp ⟨(some [0,1,5]),[],false⟩ cE He :: .blk 0 :: .c (.lv [])::k) (kv [(0,.slice ta 3 (l.map aa.row)),(1,.slice tb 3 (l.map aa.row)),(5,.int .i64 i)]) H =
   (M.go b7 H0 k .leaf H)
 |0,i,He,h=>by
  have e:i=l.length:=by omega
  subst e;rw [au M cE.eq_1];simp (maxSteps:=3000000) (maxDischargeDepth:=6) +contextual -implicitDefEqProofs only [amC M,↓amD,Nat.reduceBEq,Nat.reduceAdd,env,ag,fg,Nat.lt_irrefl,List.drop_length]
 |n+1,i,He,h=>by
  have hi:i<l.length:=by omega
  have hx:l[i]?=some l[i]:=List.getElem?_eq_getElem hi;have hd:(l.drop i)=l[i]::l.drop (i+1):=List.drop_eq_getElem_cons hi;have hm:l[i]∈l:=List.getElem_mem hi;have ih:=fun He=>spl (H:=H) (H0:=H0) (l:=l) (ta:=ta) (tb:=tb) (hl:=hl) hc k n (i+1)  He (by omega)
  simp only [kv_cons,kv_nil] at ih;rw [au M cE.eq_1];simp (maxSteps:=3000000) (maxDischargeDepth:=6) +contextual -implicitDefEqProofs only [amC M,↓amD,Nat.reduceBEq,Nat.reduceAdd,env,ag,fg,hx,hd,hi,ih,gK hi hl,ct hi,aS,Gl,beq_self_eq_true]
theorem yO(hB:j6 E){l:List aa}{ta tb:Tag}(hl:l.length≤bL)(H:List AObj):M.run bG [.slice ta 3 (l.map aa.row),.slice tb 3 (l.map aa.row)] H=some (.ret (.bool true),H):=by
 rw [aV M hB.truchmanref01_SamePieces rfl (c:=ff) rfl,ff];have h1:=fun k He=>spl M (ta:=ta) (tb:=tb) hl (cut_refl H) k l.length 0 He (by omega)
 simp only [kv_cons,kv_nil,Int.ofNat_zero] at h1;simp (maxSteps:=3000000) (maxDischargeDepth:=6) +contextual -implicitDefEqProofs only [amC M,↓amD,Nat.reduceBEq,Nat.reduceAdd,env,ag,fg,beq_self_eq_true,h1]
theorem D7{l:List aa}(h:l4 l=0):l.length≤512:=by
 unfold l4 at h;cases hb:decide ((512:Int)<(l.length:Int)) with
 |true=>rw [hb] at h;cases h
 |false=>have:=of_decide_eq_false hb;omega
end
section
attribute [local congr] ak aR aJ al aI aA ao ah ai aC aD
variable{E:aQ}(M:bo bz E)
end
section
attribute [local congr] ak aR aJ al aI aA ao ah ai aC aD
variable{E:aQ}(M:bo bz E)
end
section
attribute [local congr] ak aR aJ al aI aA ao ah ai aC aD
variable{E:aQ}(M:bo bz E)
end
section
attribute [local congr] ak aR aJ al aI aA ao ah ai aC aD
variable{E:aQ}(M:bo bz E)
end
section
attribute [local congr] ak aR aJ al aI aA ao ah ai aC aD
variable{E:aQ}(M:bo bz E)
end
section
attribute [local congr] ak aR aJ al aI aA ao ah ai aC aD
variable{E:aQ}(M:bo bz E)
end
section
attribute [local congr] ak aR aJ al aI aA ao ah ai aC aD
variable{E:aQ}(M:bo bz E)
end
section
attribute [local congr] ak aR aJ al aI aA ao ah ai aC aD
variable{E:aQ}(M:bo bz E)
def E3(v:AV):List AV:=[v]
end
section
attribute [local congr] ak aR aJ al aI aA ao ah ai aC aD
variable{E:aQ}(M:bo bz E)
end
section
attribute [local congr] ak aR aJ al aI aA ao ah ai aC aD
variable{E:aQ}(M:bo bz E)
structure UntE (E:aQ):Prop where
 seq:E.seq nB=wV
 sar:E.sar nB=1
theorem Mn{α:Type}{row:α→List AV}{l:List α}{x:α}{r:List AV}{sz bytes t:Nat}{e:TypeId}{H:List AObj}(ht:H[t]?=some (.tok (l.length*sz) e))(h1:r.length=sz)(h2:r.all AV.cell=true)(h3:r.map AV.strip=row x)
  (hl:(l.length+1)*bytes≤140737488355328) (hl2:l.length+1≤4611686018427387904) :
  rap false H e sz bytes false (.slice (.own t) sz (l.map row)) (.slice .full sz [r])=some (.slice (.own t) sz ((l++[x]).map row),H.set t (.tok ((l++[x]).length*sz) e)):=by
 simp only [rap,sM,n8,List.length_map,List.length_cons,List.length_nil,Nat.zero_add,or_true,if_true,hl,hl2,kA h1 h2,and_true,true_and,ht,List.map_cons,List.map_nil,h3,List.map_append,List.length_append,Nat.add_mul,Nat.one_mul];rw [Nat.add_mul,Nat.one_mul] at hl;rw [if_pos hl]
end
section
attribute [local congr] ak aR aJ al aI aA ao ah ai aC aD
variable{E:aQ}(M:bo bz E)
end
section
attribute [local congr] ak aR aJ al aI aA ao ah ai aC aD
variable{E:aQ}(M:bo bz E)
def C4(p:Sl aa):List AV:=[.slice p.tag 3 (p.l.map aa.row)]
end
section
attribute [local congr] ak aR aJ al aI aA ao ah ai aC aD
variable{E:aQ}(M:bo bz E)
structure CutE (E:aQ):Prop where
def pcC(l:List aa):List AV:=(l.map aa.row).flatten
theorem E4(l m:List aa):pcC (l++m)=pcC l++pcC m:=by simp [pcC]
theorem J4(x:aa):pcC [x]=[.int .u8 x.kind,.str x.text,.bool x.car]:=rfl
theorem BC:∀ l:List aa,(pcC l).length=l.length*3
 |[]=>rfl
 |x::l=>by
  have:=BC l;rw [show pcC (x::l)=pcC [x]++pcC l from E4 [x] l,List.length_append,this,J4,List.length_cons];simp;omega
def PcV(H:List AObj)(v:AV)(l:List aa):Prop:=(l=[]∧v = .slice .nil 3 [])∨(l≠[]∧∃ Q,v = .rslice Q 0 l.length 3 true∧H[Q]?=some (.cells (pcC l) ae))
def below(q:Nat)(v:AV):Prop:=∀ Q o n e r,v = .rslice Q o n e r→Q<q
def E5(q:Nat)(v:AV):Prop:=∀ Q o n e r,v = .rslice Q o n e r→q≤Q
def OpV(H:List AObj)(v:AV)(l:List Str):Prop:=(l=[]∧v = .slice .nil 1 [])∨∃ O junk,v = .rslice O 0 l.length 1 true∧H[O]?=some (.cells (si l++junk) aW)
def D8(l:List aa)(p:aa):List aa:=
 match l.getLast? with
 |some x=>sel (p.kind == 1&&x.kind == 1) (l.dropLast++[{ x with text:=x.text++p.text }]) (l++[p])
 |none=>[p]
structure CSt where
 done:List (List aa)
 cur:List aa
 pos:List Int
 place:Nat
 due:Bool
 opn:List Str
def free(R:Nat→Prop)(v:AV):Prop:=∀ Q o n e r,v = .rslice Q o n e r→¬ R Q
structure D9 (R:Nat→Prop) (c:Nat) (H:List AObj) (S:CSt) (P q:Nat) (vs:List AV) (v:AV) (ta:Tag) (ov:AV):Prop where
 hn:¬ R c
 hP:¬ R P
 rl:∀ i,R i→i<H.length
 cell:H[c]?=some (.cells [.rslice P 0 (S.done.length+1) 1 true,.slice ta 1 (S.pos.map Li),.int .i64 S.place,.bool S.due,ov] kh)
 par:H[P]?=some (.cells (vs++[v]) aG)
 len:vs.length=S.done.length
 dn:∀ (i:Nat) (w:AV) (l:List aa),vs[i]?=some w→S.done[i]?=some l→PcV H w l∧below q w∧free R w
 cr:PcV H v S.cur
 ab:E5 q v
 pr:free R v
 ql:q≤H.length
 op:OpV H ov S.opn
 oa:free R ov
 tg:ta = .any∨ta = .some∨S.pos=[]∨∃ t,ta = .own t
def yP(R:Nat→Prop)(c:Nat)(H:List AObj)(S:CSt):Prop:=∃ P q vs v ta ov,D9 R c H S P q vs v ta ov
structure Frm (R:Nat→Prop) (H H':List AObj):Prop where
 len:H.length≤H'.length
 low:∀ i,R i→H'[i]?=H[i]?
 it:∀ (i:Nat) s pos,H[i]?=some (.siter s pos)→H'[i]?=some (.siter s pos)
theorem Frm.refl(R:Nat→Prop)(H:List AObj):Frm R H H:=⟨Nat.le_refl _,fun _ _=>rfl,fun _ _ _ h=>h⟩
theorem Frm.trans{R:Nat→Prop}{A B C:List AObj}(h:Frm R A B)(k:Frm R B C):Frm R A C:=⟨Nat.le_trans h.len k.len,fun i hi=>(k.low i hi).trans (h.low i hi),fun i s p e=>k.it i s p (h.it i s p e)⟩
theorem Frm.mono{R R':Nat→Prop}{A B:List AObj}(h:Frm R A B)(hr:∀ i,R' i→R i):Frm R' A B:=⟨h.len,fun i hi=>h.low i (hr i hi),h.it⟩
theorem Frm.app{R:Nat→Prop}(H X:List AObj)(hn:∀ i,R i→i<H.length):Frm R H (H++X):=⟨by simp,fun i hi=>List.getElem?_append_left (hn i hi),fun i s p h=>dW h⟩
theorem Frm.set{R:Nat→Prop}{H:List AObj}{k:Nat}{cs:List AV}{T:TypeId}(x:AObj)(hk:¬ R k)(h:H[k]?=some (.cells cs T)):Frm R H (H.set k x):=
 ⟨by simp,fun i hi=>List.getElem?_set_ne (fun e=>hk (by rw [e];exact hi)),fun i s p e=>by
  rw [List.getElem?_set_ne (fun ek=>by subst ek;rw [h] at e;cases e)];exact e⟩
theorem PcV.stay{H H':List AObj}{v:AV}{l:List aa}(h:PcV H v l)(hs:∀ (Q:Nat) (cs:List AV),v = .rslice Q 0 l.length 3 true→H[Q]?=some (AObj.cells cs ae)→H'[Q]?=some (AObj.cells cs ae)):PcV H' v l:=by
 rcases h with h | ⟨h1,Q,h2,h3⟩
 ·exact .inl h
 ·exact .inr ⟨h1,Q,h2,hs Q _ h2 h3⟩
theorem OpV.stay{H H':List AObj}{v:AV}{l:List Str}(h:OpV H v l)(hs:∀ (O:Nat) (cs:List AV),H[O]?=some (AObj.cells cs aW)→H'[O]?=some (AObj.cells cs aW)):OpV H' v l:=by
 rcases h with h | ⟨O,junk,h1,h2⟩
 ·exact .inl h
 ·exact .inr ⟨O,junk,h1,hs O _ h2⟩
theorem Mo:ae≠kh:=by decide
theorem Mp:ae≠aG:=by decide
theorem C5:aW≠ae:=by decide
theorem KJ:aW≠aG:=by decide
theorem Mq:aG≠kh:=by decide
theorem AA(p:aa):sL 3 [p.row]=true:=rfl
theorem Ii{H:List AObj}{v:AV}{l:List aa}(h:PcV H v l):v.cell=true∧bX v=some [v]:=by
 rcases h with ⟨rfl,rfl⟩ | ⟨_,Q,rfl,_⟩<;>exact ⟨rfl,rfl⟩
theorem Mr{G:List AObj}{v:AV}{l:List aa}(h:PcV G v l)(hl:l.length≤100000000)(p:aa) :
  ∃ G',rap true G ae 3 32 false v (.slice .full 3 [p.row])=some (.rslice G.length 0 (l.length+1) 3 true,G')∧G'[G.length]?=some (.cells (pcC (l++[p])) ae)∧G'.length=G.length+1∧∀ i,i<G.length→(∀ Q,v = .rslice Q 0 l.length 3 true→i≠Q)→G'[i]?=G[i]? := by
 rcases h with ⟨rfl,rfl⟩ | ⟨_,Q,rfl,hg⟩
 ·refine ⟨G++[.cells (pcC [p]) ae], ?_,by rw [aH];rfl,by simp,fun i hi _=>List.getElem?_append_left hi⟩
  simp only [rap,nn,n8,or_true,if_true,AA];rw [if_pos (by simp)];rfl
 ·have hlt:=bM hg
  have hlen:l.length*3≤(pcC l).length:=by rw [BC];omega
  refine ⟨G.set Q .dead++[.cells (pcC (l++[p])) ae], ?_, ?_,by simp,fun i hi hne => ?_⟩
  ·simp only [rap,nn,n8,or_true,if_true,AA,hg]
   rw [if_pos ⟨trivial,trivial,hlen,by simp;omega,by simp;omega⟩];rw [List.take_of_length_le (by rw [BC];omega),E4];rfl
  ·rw [show G.length=(G.set Q .dead).length by simp,aH];rfl
  ·rw [List.getElem?_append_left (by simp;omega),List.getElem?_set_ne (fun e=>hne Q rfl e.symm)]
theorem E6{id n i:Nat}(h:i<n)(k:IntKind):tI 1 (.rslice id 0 n 1 true) (.int k (i:Int))=some (.ptr id i):=by
 simp only [tI];rw [if_pos ⟨trivial,by omega,by simp;omega⟩];simp
end
section
attribute [local congr] ak aR aJ al aI aA ao ah ai aC aD
variable{E:aQ}(M:bo bz E)
theorem MN{H:List AObj}{i j:Nat}{cs ds:List AV}{T T':TypeId}(h1:H[i]?=some (.cells cs T))(h2:H[j]?=some (.cells ds T'))(hT:T≠T'):i≠j:=fun e=>by
 subst e;rw [h1] at h2;injection h2 with h2;injection h2 with _ h3;exact hT h3
theorem Ij{H:List AObj}{v:AV}{l:List aa}(h:PcV H v l){Q:Nat}(e:v = .rslice Q 0 l.length 3 true):∃ cs,H[Q]?=some (.cells cs ae):=by
 rcases h with ⟨_,h⟩ | ⟨_,Q',h1,h2⟩
 ·rw [h] at e;cases e
 ·rw [h1] at e;cases e;exact ⟨_,h2⟩
def StK(H H':List AObj):Prop:=∀ (O:Nat) (cs:List AV),H[O]?=some (AObj.cells cs aW)→H'[O]?=some (AObj.cells cs aW)
theorem D9.turned{R:Nat→Prop}{c:Nat}{H H2:List AObj}{S:CSt}{P q:Nat}{vs:List AV}{v w:AV}{ta:Tag}{ov:AV}(h:D9 R c H S P q vs v ta ov){cur:List aa}
  (hlen:H.length≤H2.length) (hs:∀ i y,H[i]?=some y→(∀ Q,v = .rslice Q 0 S.cur.length 3 true→i≠Q)→i≠P→H2[i]?=some y)
  (hpar:H2[P]?=some (.cells (vs++[w]) aG)) (hw:PcV H2 w cur) (hwa:E5 q w) (hwf:free R w):D9 R c H2 { S with cur:=cur } P q vs w ta ov∧Frm R H H2∧StK H H2:=by
 have hP:=h.par
 have nq:∀ (i:Nat) (cs:List AV) (T:TypeId),H[i]?=some (.cells cs T)→T≠ae→∀ Q,v = .rslice Q 0 S.cur.length 3 true→i≠Q:=fun i cs T hi hT Q e ei=>by
  obtain ⟨ds,hd⟩:=Ij h.cr e;subst ei;rw [hi] at hd;cases hd;exact hT rfl
 have np:∀ (i:Nat) (cs:List AV) (T:TypeId),H[i]?=some (.cells cs T)→T≠aG→i≠P:=fun i cs T hi hT ei=>by
  subst ei;rw [hi] at hP;cases hP;exact hT rfl
 have hlow:∀ i,R i→H2[i]?=H[i]? := fun i hi=>by
  have hin:=h.rl i hi;rw [List.getElem?_eq_getElem hin];refine hs i _ (List.getElem?_eq_getElem hin) (fun Q e ei => ?_) (fun e => ?_)
  ·exact h.pr Q _ _ _ _ e (ei ▸ hi)
  ·exact h.hP (e ▸ hi)
 refine ⟨⟨h.hn,h.hP,fun i hi=>Nat.lt_of_lt_of_le (h.rl i hi) hlen,hs c _ h.cell (nq c _ _ h.cell Mo.symm) (np c _ _ h.cell Mq.symm),hpar,h.len,fun i w' l hi hl => ?_,hw,hwa,hwf,Nat.le_trans h.ql hlen,h.op.stay fun O cs hO=>hs O _ hO (nq O _ _ hO C5) (np O _ _ hO KJ),h.oa,h.tg⟩,⟨hlen,hlow,fun i s pos hi=>hs i _ hi (fun Q e ei => ?_) (fun e => ?_)⟩,fun O cs hO=>hs O _ hO (nq O _ _ hO C5) (np O _ _ hO KJ)⟩
 ·obtain ⟨h1,h2,h3⟩:=h.dn i w' l hi hl
  refine ⟨h1.stay fun Q cs e hQ=>hs Q _ hQ (fun Q' e' ei => ?_) (np Q _ _ hQ Mp),h2,h3⟩;have a1:=h2 Q _ _ _ _ e;have a2:=h.ab Q' _ _ _ _ e';omega
 ·obtain ⟨ds,hd⟩:=Ij h.cr e
  subst ei;rw [hi] at hd;cases hd
 ·subst e;rw [hi] at hP;cases hP
theorem AB(l:List aa)(x p:aa):D8 (l++[x]) p=sel (p.kind == 1&&x.kind == 1) (l++[{ x with text:=x.text++p.text }]) (l++[x]++[p]):=by
 unfold D8;rw [List.getLast?_concat,List.dropLast_concat]
end
section
attribute [local congr] ak aR aJ al aI aA ao ah ai aC aD
variable{E:aQ}(M:bo bz E)
end
section
attribute [local congr] ak aR aJ al aI aA ao ah ai aC aD
variable{E:aQ}(M:bo bz E)
theorem D9.app{R:Nat→Prop}{c:Nat}{H:List AObj}{S:CSt}{P q:Nat}{vs:List AV}{v:AV}{ta:Tag}{ov:AV}(h:D9 R c H S P q vs v ta ov)(X:List AObj):D9 R c (H++X) S P q vs v ta ov:=
 ⟨h.hn,h.hP,fun i hi=>by have:=h.rl i hi;simp;omega,dW h.cell,dW h.par,h.len,fun i w l hi hl=>⟨(h.dn i w l hi hl).1.stay fun Q cs _ hQ=>dW hQ,(h.dn i w l hi hl).2⟩,h.cr.stay fun Q cs _ hQ=>dW hQ,h.ab,h.pr,by have:=h.ql;simp;omega,h.op.stay fun O cs hO=>dW hO,h.oa,h.tg⟩
theorem yP.app{R:Nat→Prop}{c:Nat}{H:List AObj}{S:CSt}(h:yP R c H S)(X:List AObj):yP R c (H++X) S:=by
 obtain ⟨P,q,vs,v,ta,ov,h⟩:=h;exact ⟨P,q,vs,v,ta,ov,h.app X⟩
theorem yP.le{R:Nat→Prop}{c:Nat}{H:List AObj}{S:CSt}(h:yP R c H S):c<H.length∧∀ i,R i→i<H.length:=by
 obtain ⟨P,q,vs,v,ta,ov,h⟩:=h;exact ⟨bM h.cell,h.rl⟩
theorem Ms{R:Nat→Prop}{G:List AObj}{v:AV}{l:List Str}(h:OpV G v l)(ha:free R v)(hn:∀ i,R i→i<G.length)(hl:l.length≤100000000)(s:Str) :
  ∃ v' G',rap true G aW 1 16 false v (.slice .full 1 [[.str s]])=some (v',G')∧OpV G' v' (l++[s])∧free R v'∧v'.cell=true∧bX v'=some [v']∧Frm R G G'∧∀ (i:Nat) (cs:List AV) (T:TypeId),G[i]?=some (AObj.cells cs T)→T≠aW→G'[i]?=some (AObj.cells cs T):=by
 rcases h with ⟨rfl,rfl⟩ | ⟨O,junk,rfl,hg⟩
 ·refine ⟨.rslice G.length 0 1 1 true,G++[.cells [.str s] aW], ?_,.inr ⟨G.length,[],rfl,by rw [aH];rfl⟩,fun Q o n e r eq hR=>(by cases eq;have:=hn _ hR;omega),rfl,rfl,Frm.app _ _ hn,fun i cs T hi _=>dW hi⟩
  simp only [rap,nn,n8,or_true,if_true,l3];rw [if_pos (by simp)];rfl
 ·have hlt:=bM hg
  have hO:=ha O _ _ _ _ rfl;have hlen:l.length*1≤(si l++junk).length:=by rw [List.length_append,oZ];omega
  refine ⟨.rslice G.length 0 (l.length+1) 1 true,G.set O .dead++[.cells (si (l++[s])) aW], ?_,.inr ⟨G.length,[],by simp, ?_⟩,fun Q o n e r eq hR=>(by cases eq;have:=hn _ hR;omega),rfl,rfl,⟨by simp,fun i hi => ?_,fun i s pos hi => ?_⟩,fun i cs T hi hT => ?_⟩
  ·simp only [rap,nn,n8,or_true,if_true,l3,hg]
   rw [if_pos ⟨trivial,trivial,hlen,by simp;omega,by simp;omega⟩];simp only [Nat.mul_one];rw [List.take_left' (by rw [oZ]),yK];rfl
  ·rw [List.append_nil,show G.length=(G.set O .dead).length by simp,aH];rfl
  ·have:=hn i hi
   rw [List.getElem?_append_left (by simp;omega),List.getElem?_set_ne (fun e:O=i=>hO (by rw [e];exact hi))]
  ·have:=(List.getElem?_eq_some_iff.1 hi).1
   rw [List.getElem?_append_left (by simp;omega),List.getElem?_set_ne (fun e=>by subst e;rw [hg] at hi;cases hi)];exact hi
  ·have:=bM hi
   rw [List.getElem?_append_left (by simp;omega),List.getElem?_set_ne (MN hg hi hT.symm)];exact hi
structure CBd (S:CSt):Prop where
 opn:S.opn.length≤100000
 opt:∀ s∈S.opn,s.length≤100000000
 done:S.done.length≤100000
 cur:S.cur.length≤100000
 txt:∀ x∈S.cur,x.text.length≤100000000
def R1(R:Nat→Prop)(k:Nat):Nat→Prop:=fun i=>R i∨i=k
theorem yP.more{R:Nat→Prop}{c:Nat}{H:List AObj}{S:CSt}(h:yP R c H S)(x:AObj):yP (R1 R H.length) c (H++[x]) S:=by
 obtain ⟨P,q,vs,v,ta,ov,h⟩:=h;have h2:=h.app [x]
 have fr:∀ (w:AV) (l:List aa),PcV H w l→free R w→free (R1 R H.length) w:=fun w l hp hf Q o n e r eq hR=>by
  rcases hR with hR | hR
  ·exact hf Q o n e r eq hR
  ·rcases hp with ⟨_,hv⟩ | ⟨_,Q',hv,hQ⟩
   ·rw [hv] at eq;cases eq
   ·rw [hv] at eq;cases eq;have:=bM hQ;omega
 refine ⟨P,q,vs,v,ta,ov,⟨fun hR => ?_,fun hR => ?_,fun i hi => ?_,h2.cell,h2.par,h2.len,fun i w l hi hl=>⟨(h2.dn i w l hi hl).1,(h2.dn i w l hi hl).2.1,fr w l (h.dn i w l hi hl).1 (h.dn i w l hi hl).2.2⟩,h2.cr,h2.ab,fr v _ h.cr h.pr,h2.ql,h2.op,fun Q o n e r eq hR => ?_,h2.tg⟩⟩
 ·rcases hR with hR | hR
  ·exact h.hn hR
  ·have:=bM h.cell;omega
 ·rcases hR with hR | hR
  ·exact h.hP hR
  ·have:=bM h.par;omega
 ·rcases hi with hi | hi
  ·have:=h.rl i hi;simp;omega
  ·simp;omega
 ·rcases hR with hR | hR
  ·exact h.oa Q o n e r eq hR
  ·rcases h.op with ⟨_,hv⟩ | ⟨O,junk,hv,hO⟩
   ·rw [hv] at eq;cases eq
   ·rw [hv] at eq;cases eq;have:=bM hO;omega
theorem yP.mono{R R':Nat→Prop}{c:Nat}{H:List AObj}{S:CSt}(h:yP R c H S)(hr:∀ i,R' i→R i):yP R' c H S:=by
 obtain ⟨P,q,vs,v,ta,ov,h⟩:=h;exact ⟨P,q,vs,v,ta,ov,⟨fun hR=>h.hn (hr _ hR),fun hR=>h.hP (hr _ hR),fun i hi=>h.rl i (hr i hi),h.cell,h.par,h.len,fun i w l hi hl=>⟨(h.dn i w l hi hl).1,(h.dn i w l hi hl).2.1,fun Q o n e r eq hR=>(h.dn i w l hi hl).2.2 Q o n e r eq (hr _ hR)⟩,h.cr,h.ab,fun Q o n e r eq hR=>h.pr Q o n e r eq (hr _ hR),h.ql,h.op,fun Q o n e r eq hR=>h.oa Q o n e r eq (hr _ hR),h.tg⟩⟩
end
section
attribute [local congr] ak aR aJ al aI aA ao ah ai aC aD
variable{E:aQ}(M:bo bz E)
end
section
attribute [local congr] ak aR aJ al aI aA ao ah ai aC aD
variable{E:aQ}(M:bo bz E)
structure CBm (m:Nat) (S:CSt):Prop where
 opn:S.opn.length≤m
 opt:∀ s∈S.opn,s.length≤m
 done:S.done.length≤m
 cur:S.cur.length≤2*m
 txt:∀ x∈S.cur,x.text.length≤m
 place:S.place≤m
theorem CBm.mono{m n:Nat}{S:CSt}(h:CBm m S)(hn:m≤n):CBm n S:=⟨Nat.le_trans h.opn hn,fun s hs=>Nat.le_trans (h.opt s hs) hn,Nat.le_trans h.done hn,by have:=h.cur;omega,fun x hx=>Nat.le_trans (h.txt x hx) hn,Nat.le_trans h.place hn⟩
theorem CBm.bd{m:Nat}{S:CSt}(h:CBm m S)(hm:m≤50000):CBd S:=⟨by have:=h.opn;omega,fun s hs=>by have:=h.opt s hs;omega,by have:=h.done;omega,by have:=h.cur;omega,fun x hx=>by have:=h.txt x hx;omega⟩
theorem Ik(l:List aa)(p:aa):(D8 l p).length≤l.length+1:=by
 rcases List.eq_nil_or_concat l with rfl | ⟨t,x,rfl⟩
 ·simp [D8]
 ·rw [List.concat_eq_append,AB]
  cases p.kind == 1&&x.kind == 1<;>simp [sel_true,sel_false]
theorem Il{l:List aa}{p:aa}{m w:Nat}(h:∀ x∈l,x.text.length≤m)(hp:p.text.length≤w):∀ x∈D8 l p,x.text.length≤m+w:=by
 intro y hy;rcases List.eq_nil_or_concat l with rfl | ⟨t,x,rfl⟩
 ·simp [D8] at hy;subst hy;omega
 ·rw [List.concat_eq_append] at hy h
  rw [AB] at hy;cases hk:p.kind == 1&&x.kind == 1 with
  |true=>
   rw [hk,sel_true] at hy;rcases List.mem_append.1 hy with hy | hy
   ·have:=h y (List.mem_append_left _ hy);omega
   ·rw [List.mem_singleton] at hy;subst hy
    have:=h x (by simp);simp only [List.length_append];omega
  |false=>
   rw [hk,sel_false] at hy;rcases List.mem_append.1 hy with hy | hy
   ·have:=h y hy;omega
   ·rw [List.mem_singleton] at hy;subst hy;omega
end
section
attribute [local congr] ak aR aJ al aI aA ao ah ai aC aD
variable{E:aQ}(M:bo bz E)
end
section
attribute [local congr] ak aR aJ al aI aA ao ah ai aC aD
variable{E:aQ}(M:bo bz E)
theorem Im{k n:Nat}{H:List AObj}(l:List aa):ee (ee (fzF (k+1) n H)) (l.map aa.row)=some (l.map aa.row):=
 ua fun x _=>dg (rh _ _ _ _ _) (dg (HB _ _ _ _) (dg (JE _ _ _ _) (je _)))
end
section
attribute [local congr] ak aR aJ al aI aA ao ah ai aC aD
variable{E:aQ}(M:bo bz E)
end
section
attribute [local congr] ak aR aJ al aI aA ao ah ai aC aD
variable{E:aQ}(M:bo bz E)
end
section
attribute [local congr] ak aR aJ al aI aA ao ah ai aC aD
variable{E:aQ}(M:bo bz E)
structure wP (t:Nat) (R:Nat→Prop) (H:List AObj) (S:CSt) (q:Nat) (vs:List AV) (v ov:AV):Prop where
 rl:∀ i,R i→i<H.length
 tr:¬ R t
 tok:H[t]?=some (.tok (vs.length*1) aG)
 len:vs.length=S.done.length
 dn:∀ (i:Nat) (w:AV) (l:List aa),vs[i]?=some w→S.done[i]?=some l→PcV H w l∧below q w∧free R w
 cr:PcV H v S.cur
 ab:E5 q v
 pr:free R v
 ql:q≤H.length
 op:OpV H ov S.opn
 oa:free R ov
structure zU (R:Nat→Prop) (H H':List AObj):Prop where
 len:H.length≤H'.length
 low:∀ i,R i→H'[i]?=H[i]?
theorem zU.refl(R:Nat→Prop)(H:List AObj):zU R H H:=⟨Nat.le_refl _,fun _ _=>rfl⟩
theorem zU.trans{R:Nat→Prop}{A B C:List AObj}(h:zU R A B)(k:zU R B C):zU R A C:=⟨Nat.le_trans h.len k.len,fun i hi=>(k.low i hi).trans (h.low i hi)⟩
theorem wP.turned{t:Nat}{R:Nat→Prop}{H H2:List AObj}{S:CSt}{q:Nat}{vs:List AV}{v w ov:AV}(h:wP t R H S q vs v ov){cur:List aa}(hlen:H.length≤H2.length)(hs:∀ (i:Nat) (y:AObj),H[i]?=some y→(∀ Q,v = .rslice Q 0 S.cur.length 3 true→i≠Q)→H2[i]?=some y)
  (hw:PcV H2 w cur) (hwa:E5 q w) (hwf:free R w):wP t R H2 { S with cur:=cur } q vs w ov∧zU R H H2:=by
 have nq:∀ (i:Nat) (y:AObj),H[i]?=some y→(∀ cs,y≠.cells cs ae)→∀ Q,v = .rslice Q 0 S.cur.length 3 true→i≠Q:=fun i y hi hy Q e ei=>by
  obtain ⟨ds,hd⟩:=Ij h.cr e;subst ei;rw [hi] at hd;cases hd;exact hy ds rfl
 refine ⟨⟨fun i hi=>Nat.lt_of_lt_of_le (h.rl i hi) hlen,h.tr,hs t _ h.tok (nq t _ h.tok fun cs e=>by cases e),h.len,fun i w' l hi hl => ?_,hw,hwa,hwf,Nat.le_trans h.ql hlen,h.op.stay fun O cs hO=>hs O _ hO (nq O _ hO fun ds e=>by injection e with _ e;exact C5 e),h.oa⟩,⟨hlen,fun i hi => ?_⟩⟩
 ·obtain ⟨h1,h2,h3⟩:=h.dn i w' l hi hl
  refine ⟨h1.stay fun Q cs e hQ=>hs Q _ hQ fun Q' e' ei => ?_,h2,h3⟩;have a1:=h2 Q _ _ _ _ e;have a2:=h.ab Q' _ _ _ _ e';omega
 ·have hin:=h.rl i hi
  rw [List.getElem?_eq_getElem hin];exact hs i _ (List.getElem?_eq_getElem hin) fun Q e ei=>h.pr Q _ _ _ _ e (ei ▸ hi)
theorem wP.more{t:Nat}{R:Nat→Prop}{H:List AObj}{S:CSt}{q:Nat}{vs:List AV}{v ov:AV}(h:wP t R H S q vs v ov)(hl:S.cur.length≤100000000)(p:aa) :
  ∃ w G,rap true H ae 3 32 false v (.slice .full 3 [p.row])=some (w,G)∧wP t R G { S with cur:=S.cur++[p] } q vs w ov∧zU R H G:=by
 obtain ⟨G,a1,a2,a3,a4⟩:=Mr h.cr hl p
 obtain ⟨b1,b2⟩:=h.turned (H2:=G) (cur:=S.cur++[p]) (w:=.rslice H.length 0 (S.cur.length+1) 3 true) (by omega) (fun i y hi hne=>by
  rw [a4 i (List.getElem?_eq_some_iff.1 hi).1 hne];exact hi) (.inr ⟨by simp,H.length,by simp,a2⟩) (fun Q o n e r eq=>by cases eq;exact h.ql) (fun Q o n e r eq hR=>by cases eq;have:=h.rl _ hR;omega)
 exact ⟨_,G,a1,b1,b2⟩
theorem Gm{H:List AObj}{v:AV}{l:List aa}(h:PcV H v l):v.strip=v:=by
 rcases h with ⟨rfl,rfl⟩ | ⟨_,Q,rfl,_⟩<;>rfl
theorem wP.push{t:Nat}{R:Nat→Prop}{H:List AObj}{S:CSt}{q:Nat}{vs:List AV}{v ov:AV}(h:wP t R H S q vs v ov)(hd:S.done.length≤100000000) :
  rap false H aG 1 24 false (.slice (.own t) 1 (vs.map E3)) (.slice .full 1 [[v]])=some (.slice (.own t) 1 ((vs++[v]).map E3),H.set t (.tok ((vs++[v]).length*1) aG)) ∧
   wP t R (H.set t (.tok ((vs++[v]).length*1) aG)) { S with done:=S.done++[S.cur],cur:=[] } H.length (vs++[v]) (.slice .nil 3 []) ov∧zU R H (H.set t (.tok ((vs++[v]).length*1) aG)):=by
 have htl:=(List.getElem?_eq_some_iff.1 h.tok).1
 have hs:∀ {i:Nat}{cs:List AV}{T:TypeId},H[i]?=some (.cells cs T)→(H.set t (.tok ((vs++[v]).length*1) aG))[i]?=some (.cells cs T):=fun {i cs T} hi=>by
  rw [List.getElem?_set_ne (fun e=>by subst e;have:=h.tok;rw [hi] at this;cases this)];exact hi
 have hvs:=h.len;refine ⟨Mn (row:=E3) (l:=vs) (x:=v) (r:=[v]) (sz:=1) (bytes:=24) h.tok rfl (by simp [(Ii h.cr).1]) (by simp [Gm h.cr,E3]) (by omega) (by omega),⟨fun i hi=>by simpa using h.rl i hi,h.tr,List.getElem?_set_self htl,by simp [hvs],fun i w l hi hl => ?_,.inl ⟨rfl,rfl⟩,fun Q o n e r eq=>(by cases eq),fun Q o n e r eq=>(by cases eq),by simp,h.op.stay fun O cs hO=>hs hO,h.oa⟩,⟨by simp,fun i hi=>List.getElem?_set_ne (fun e:t=i=>h.tr (by rw [e];exact hi))⟩⟩
 by_cases hlt:i<vs.length
 ·rw [List.getElem?_append_left hlt] at hi
  rw [List.getElem?_append_left (by omega)] at hl;obtain ⟨d1,d2,d3⟩:=h.dn i w l hi hl;exact ⟨d1.stay fun Q cs _ hQ=>hs hQ,fun Q o n e r eq=>Nat.lt_of_lt_of_le (d2 Q o n e r eq) h.ql,d3⟩
 ·have hi2:i=vs.length:=by
   have:=(List.getElem?_eq_some_iff.1 hi).1;simp at this;omega
  subst hi2;rw [List.getElem?_append_right (Nat.le_refl _),Nat.sub_self,List.getElem?_cons_zero] at hi;rw [List.getElem?_append_right (by omega),show vs.length-S.done.length=0 by omega,List.getElem?_cons_zero] at hl;cases hi;cases hl;refine ⟨h.cr.stay fun Q cs _ hQ=>hs hQ,fun Q o n e r eq => ?_,h.pr⟩;rcases h.cr with ⟨_,hv⟩ | ⟨_,Q',hv,hQ⟩
  ·rw [hv] at eq;cases eq
  ·rw [hv] at eq;cases eq;exact bM hQ
end
section
attribute [local congr] ak aR aJ al aI aA ao ah ai aC aD
variable{E:aQ}(M:bo bz E)
theorem wP.open{t:Nat}{R:Nat→Prop}{H:List AObj}{S:CSt}{q:Nat}{vs:List AV}{v ov:AV}(h:wP t R H S q vs v ov)(hl:S.opn.length≤100000)(s:Str) :
  ∃ w G,rap true H aW 1 16 false ov (.slice .full 1 [[.str s]])=some (w,G)∧wP t R G { S with opn:=S.opn++[s] } q vs v w∧zU R H G:=by
 obtain ⟨w,G,a1,a2,a3,a4,a5,a6,a7⟩:=Ms h.op h.oa h.rl (by omega) s
 have tk:G[t]?=some (.tok (vs.length*1) aG):=by
  have htok:=h.tok
  have:∀ O,ov≠.rslice O 0 S.opn.length 1 true∨t≠O:=fun O=>by
   rcases h.op with ⟨_,e⟩ | ⟨O',junk,e,hO⟩
   ·left;rw [e];intro h;cases h
   ·by_cases ht:t=O
    ·left;rw [e];intro h2;cases h2;rw [ht,hO] at htok;cases htok
    ·exact .inr ht
  rcases h.op with ⟨e0,e⟩ | ⟨O',junk,e,hO⟩
  ·rw [e] at a1
   simp only [rap,nn,n8,or_true,if_true,l3] at a1;rw [if_pos (by simp)] at a1;cases a1;exact dW htok
  ·rw [e] at a1
   have hlen:S.opn.length*1≤(si S.opn++junk).length:=by rw [List.length_append,oZ];omega
   simp only [rap,nn,n8,or_true,if_true,l3,hO] at a1;rw [if_pos ⟨trivial,trivial,hlen,by simp;omega,by simp;omega⟩] at a1;cases a1;have htl:=(List.getElem?_eq_some_iff.1 htok).1;rw [List.getElem?_append_left (by simp;omega),List.getElem?_set_ne (fun e=>by subst e;rw [hO] at htok;cases htok)];exact htok
 exact ⟨w,G,a1,⟨fun i hi=>by have:=h.rl i hi;have:=a6.len;omega,h.tr,tk,h.len,fun i w' l hi hl=>⟨(h.dn i w' l hi hl).1.stay fun Q cs _ hQ=>a7 Q _ _ hQ C5.symm,(h.dn i w' l hi hl).2⟩,h.cr.stay fun Q cs _ hQ=>a7 Q _ _ hQ C5.symm,h.ab,h.pr,by have:=h.ql;have:=a6.len;omega,a2,a3⟩,⟨a6.len,a6.low⟩⟩
end
section
attribute [local congr] ak aR aJ al aI aA ao ah ai aC aD
variable{E:aQ}(M:bo bz E)
end
section
attribute [local congr] ak aR aJ al aI aA ao ah ai aC aD
variable{E:aQ}(M:bo bz E)
end
section
attribute [local congr] ak aR aJ al aI aA ao ah ai aC aD
variable{E:aQ}(M:bo bz E)
def MO(pos:List Int)(T:CSt):Bool:=decide (T.done.length<pos.length)&&((T.place:Int) == pos.getD T.done.length 0)
structure RelC (pos:List Int) (S T:CSt):Prop where
 done:S.done=T.done
 cur:S.cur=T.cur
 opn:S.opn=T.opn
 place:S.place=T.place
 due:S.due=MO pos T
 pos:S.pos=pos.drop (T.done.length+(if S.due=true then 1 else 0))
end
section
attribute [local congr] ak aR aJ al aI aA ao ah ai aC aD
variable{E:aQ}(M:bo bz E)
theorem OpV.own{H H':List AObj}{v:AV}{l:List Str}(h:OpV H v l)(hs:∀ (O:Nat) (y:AObj),v = .rslice O 0 l.length 1 true→H[O]?=some y→H'[O]?=some y):OpV H' v l:=by
 rcases h with h | ⟨O,junk,h1,h2⟩
 ·exact .inl h
 ·exact .inr ⟨O,junk,h1,hs O _ h1 h2⟩
end
section
attribute [local congr] ak aR aJ al aI aA ao ah ai aC aD
variable{E:aQ}(M:bo bz E)
end
section
attribute [local congr] ak aR aJ al aI aA ao ah ai aC aD
variable{E:aQ}(M:bo bz E)
theorem n7{H0 G:List AObj}(h1:H0.length≤G.length)(h2:∀ m,m<H0.length→G[m]?=H0[m]?):dt H0 G∧G.take H0.length=H0:=by
 have hk:G.take H0.length=H0:=by
  refine List.ext_getElem? fun i => ?_
  by_cases hi:i<H0.length
  ·rw [List.getElem?_take_of_lt hi,h2 i hi]
  ·rw [List.getElem?_eq_none (by simp;omega),List.getElem?_eq_none (by omega)]
 exact ⟨⟨h1,fun i x hi hx=>.inl (by rw [← h2 i hi];exact hx)⟩,hk⟩
def Gn(m:Nat)(cur:List aa):Prop:=cur.length≤m∧∀ x∈cur,x.text.length≤m
theorem Gn.put{m:Nat}{cur:List aa}(h:Gn m cur)(p:aa):Gn (m+(p.text.length+1)) (D8 cur p):=
 ⟨by have:=Ik cur p;have:=h.1;omega,fun x hx=>by have:=Il h.2 (Nat.le_refl p.text.length) x hx;omega⟩
theorem Gn.mono{m n:Nat}{cur:List aa}(h:Gn m cur)(hn:m≤n):Gn n cur:=⟨Nat.le_trans h.1 hn,fun x hx=>Nat.le_trans (h.2 x hx) hn⟩
end
section
attribute [local congr] ak aR aJ al aI aA ao ah ai aC aD
variable{E:aQ}(M:bo bz E)
end
section
attribute [local congr] ak aR aJ al aI aA ao ah ai aC aD
variable{E:aQ}(M:bo bz E)
theorem E7(n:Nat)(l:List Str):gm n (l.map gJ):=by
 rw [rowsWk_map];exact fun _ _=>⟨wk_str _ _,trivial⟩
end
section
attribute [local congr] ak aR aJ al aI aA ao ah ai aC aD
variable{E:aQ}(M:bo bz E)
end
section
attribute [local congr] ak aR aJ al aI aA ao ah ai aC aD
variable{E:aQ}(M:bo bz E)
end
section
attribute [local congr] ak aR aJ al aI aA ao ah ai aC aD
variable{E:aQ}(M:bo bz E)
structure pU (E:aQ):Prop where
 slices_IndexFunc_api_Piece_api_Piece_1:E.fn cJ=some aP
 slices_ContainsFunc_api_Piece_api_Piece_1:E.fn bE=some cg
 docs_whole_1:E.fn nC=some nH
 docs_whole:E.fn pD=some pM
 docs_raw_1:E.fn pE=some pO
 docs_raw:E.fn sR=some sW
 truchmanref01_Whole:E.fn iD=some dZ
 truchmanref01_bare:E.fn jj=some ez
 truchmanref01_inBlock:E.fn gp=some gA
 truchmanref01_Same:E.fn jf=some eo
end
section
attribute [local congr] ak aR aJ al aI aA ao ah ai aC aD
variable{E:aQ}(M:bo bz E)
theorem ixp(hS:pU E){g:FuncId}{q:aa→Bool}(hg:∀ (x:aa) H,M.run g [.agg x.row] H=some (.ret (.bool (q x)),H)){G H0:List AObj}(hc:dt H0 G){l:List aa}{tg:Tag}(hb:l.length≤bL):∀ (n i:Nat),i+n=l.length →
  sel ((l.drop i).any q) (∃ j:Nat,∀ (k:List Fra) (He:List AObj),M.go aP H0 (.c aF :: .lp ⟨(some [0,1,7,8]),[],false⟩ aF He :: .blk 0 :: .c (.lv [])::k) (kv [(0,.slice tg 3 (l.map aa.row)),(1,.fn (.func g) [] []),(7,.int .i64 l.length),(8,.int .i64 i)]) G=some (.ret (.int .i64 j),G.take H0.length))
   (∀ (k:List Fra) (He:List AObj),M.go aP H0 (.c aF :: .lp ⟨(some [0,1,7,8]),[],false⟩ aF He :: .blk 0 :: .c (.lv [])::k) (kv [(0,.slice tg 3 (l.map aa.row)),(1,.fn (.func g) [] []),(7,.int .i64 l.length),(8,.int .i64 i)]) G=M.go aP H0 k .leaf G)
 |0,i,h=>by
  have e:i=l.length:=by omega
  subst e;rw [List.drop_length,List.any_nil,sel_false];intro k He;rw [au M aF.eq_1];simp (maxSteps:=3000000) (maxDischargeDepth:=6) +contextual -implicitDefEqProofs only [amC M,↓amD,Nat.reduceBEq,Nat.reduceAdd,env,ag,bt,Nat.lt_irrefl]
 |n+1,i,h=>by
  have hi:i<l.length:=by omega
  have hx:l[i]?=some l[i]:=List.getElem?_eq_getElem hi;have hd:(l.drop i)=l[i]::l.drop (i+1):=List.drop_eq_getElem_cons hi;have hf:=hg l[i];have hia:=ct (row:=aa.row) (tag:=tg) (sz:=3) (k:=.i64) hi;have hwi:=gK (n:=l.length) hi hb;rw [hd,List.any_cons];cases hbg:q l[i] with
  |true=>
   rw [Bool.true_or,sel_true];refine ⟨i,fun k He => ?_⟩;rw [au M aF.eq_1];simp (maxSteps:=3000000) (maxDischargeDepth:=6) +contextual -implicitDefEqProofs only [amC M,↓amD,Nat.reduceBEq,Nat.reduceAdd,env,ag,bt,hi,hx,hia,aS,hf,hbg,hc]
  |false=>
   have ih:=ixp hS hg hc (tg:=tg) hb n (i+1) (by omega);rw [Bool.false_or]
   have step:∀ (k:List Fra) (He:List AObj),M.go aP H0 (.c aF :: .lp ⟨(some [0,1,7,8]),[],false⟩ aF He :: .blk 0 :: .c (.lv [])::k) (kv [(0,.slice tg 3 (l.map aa.row)),(1,.fn (.func g) [] []),(7,.int .i64 l.length),(8,.int .i64 i)]) G=M.go aP H0 (.c aF :: .lp ⟨(some [0,1,7,8]),[],false⟩ aF G :: .blk 0 :: .c (.lv [])::k) (kv [(0,.slice tg 3 (l.map aa.row)),(1,.fn (.func g) [] []),(7,.int .i64 l.length),(8,.int .i64 ((i+1:Nat):Int))]) G:=fun k He=>by
    rw [au M aF.eq_1];simp (maxSteps:=3000000) (maxDischargeDepth:=6) +contextual -implicitDefEqProofs only [amC M,↓amD,Nat.reduceBEq,Nat.reduceAdd,env,ag,bt,hi,hx,hia,aS,hf,hbg,hwi]
   cases ha:(l.drop (i+1)).any q with
   |true=>
    rw [ha,sel_true] at ih;rw [sel_true];obtain ⟨j,ih⟩:=ih;exact ⟨j,fun k He=>by rw [step k He,ih k G]⟩
   |false=>
    rw [ha,sel_false] at ih;rw [sel_false];exact fun k He=>by rw [step k He,ih k G]
theorem E8(hS:pU E){g:FuncId}{q:aa→Bool}(hg:∀ (x:aa) H,M.run g [.agg x.row] H=some (.ret (.bool (q x)),H)){l:List aa}{tg:Tag}(hb:l.length≤bL)(G:List AObj) :
  M.run bE [.slice tg 3 (l.map aa.row),.fn (.func g) [] []] G=some (.ret (.bool (l.any q)),G):=by
 have h:=ixp M hS hg (cut_refl G) (tg:=tg) hb l.length 0 (by omega);rw [List.drop_zero] at h
 have hi:∃ z:Int,decide ((0:Int)≤z)=l.any q∧M.run cJ [.slice tg 3 (l.map aa.row),.fn (.func g) [] []] G=some (.ret (.int .i64 z),G):=by
  cases ha:l.any q with
  |true=>
   rw [ha,sel_true] at h;obtain ⟨j,h⟩:=h;simp only [kv_cons,kv_nil,Int.ofNat_zero] at h;refine ⟨(j:Int),decide_eq_true (by omega), ?_⟩;rw [aV M hS.slices_IndexFunc_api_Piece_api_Piece_1 rfl (c:=br) rfl,br];simp (maxSteps:=3000000) (maxDischargeDepth:=6) +contextual -implicitDefEqProofs only [amC M,↓amD,Nat.reduceBEq,Nat.reduceAdd,env,ag,bt,List.length_map,h,hp_self]
  |false=>
   rw [ha,sel_false] at h;simp only [kv_cons,kv_nil,Int.ofNat_zero] at h;refine ⟨-1,rfl, ?_⟩;rw [aV M hS.slices_IndexFunc_api_Piece_api_Piece_1 rfl (c:=br) rfl,br];simp (maxSteps:=3000000) (maxDischargeDepth:=6) +contextual -implicitDefEqProofs only [amC M,↓amD,Nat.reduceBEq,Nat.reduceAdd,env,ag,bt,List.length_map,h,hp_self,cut_refl]
 obtain ⟨z,z1,z2⟩:=hi;rw [aV M hS.slices_ContainsFunc_api_Piece_api_Piece_1 rfl (c:=cf) rfl,cf];simp (maxSteps:=3000000) (maxDischargeDepth:=6) +contextual -implicitDefEqProofs only [amC M,↓amD,Nat.reduceBEq,Nat.reduceAdd,env,ag,gF,z2,z1]
theorem Ea(hS:pU E)(x:aa)(H:List AObj):M.run nC [.agg x.row] H=some (.ret (.bool x.car),H):=by
 have gx:=aH H [AObj.cells x.row ae];rw [List.getElem?_cons_zero] at gx;rw [aV M hS.docs_whole_1 rfl (c:=nG) rfl,nG];simp (maxSteps:=3000000) (maxDischargeDepth:=6) +contextual -implicitDefEqProofs only [amC M,↓amD,Nat.reduceBEq,Nat.reduceAdd,env,ag,yn,amG,AV.cell,Nat.reduceMul,Nat.reduceLeDiff,gx,aS,hp_take,cut_app]
theorem Io(hS:pU E)(x:aa)(H:List AObj):M.run pE [.agg x.row] H=some (.ret (.bool (!(x.kind == 1))),H):=by
 have gx:=aH H [AObj.cells x.row ae];rw [List.getElem?_cons_zero] at gx;rw [aV M hS.docs_raw_1 rfl (c:=pN) rfl,pN];simp (maxSteps:=3000000) (maxDischargeDepth:=6) +contextual -implicitDefEqProofs only [amC M,↓amD,Nat.reduceBEq,Nat.reduceAdd,env,ag,Bt,amG,AV.cell,Nat.reduceMul,Nat.reduceLeDiff,gx,aS,hp_take,cut_app]
def mP(l:List aa):Bool := !(l.any (·.car))
def p9(l:List aa):Bool := !(l.any fun x => !(x.kind == 1))
theorem Gp(hS:pU E){l:List aa}{tg:Tag}(hb:l.length≤bL)(H:List AObj):M.run pD [.slice tg 3 (l.map aa.row)] H=some (.ret (.bool (mP l)),H):=by
 have h1:=fun H=>E8 M hS (q:=fun x=>x.car) (fun x H=>Ea M hS x H) (tg:=tg) hb H
 rw [aV M hS.docs_whole rfl (c:=pL) rfl,pL];simp (maxSteps:=3000000) (maxDischargeDepth:=6) +contextual -implicitDefEqProofs only [amC M,↓amD,Nat.reduceBEq,Nat.reduceAdd,env,ag,Bs,h1,mP]
theorem J5(hS:pU E){b:aX}(hb:b.pieces.l.length≤bL)(H:List AObj):M.run sR [.agg b.row] H=some (.ret (.bool (!(b.kind == 6)||p9 b.pieces.l)),H):=by
 have gx:=aH H [AObj.cells b.row bc];rw [List.getElem?_cons_zero] at gx;have h1:=fun H=>E8 M hS (q:=fun x => !(x.kind == 1)) (fun x H=>Io M hS x H) (l:=b.pieces.l) (tg:=b.pieces.tag) hb H
 rw [aV M hS.docs_raw rfl (c:=sV) rfl,sV];cases c:b.kind == 6 with
 |true=>simp (maxSteps:=3000000) (maxDischargeDepth:=6) +contextual -implicitDefEqProofs only [amC M,↓amD,Nat.reduceBEq,Nat.reduceAdd,env,ag,ym,amG,AV.cell,Nat.reduceMul,Nat.reduceLeDiff,gx,DV,c,h1,p9,hp_take,cut_app,Bool.not_true,Bool.false_or]
 |false=>simp (maxSteps:=3000000) (maxDischargeDepth:=6) +contextual -implicitDefEqProofs only [amC M,↓amD,Nat.reduceBEq,Nat.reduceAdd,env,ag,ym,amG,AV.cell,Nat.reduceMul,Nat.reduceLeDiff,gx,DV,c,hp_take,cut_app,Bool.not_false,Bool.true_or]
end
section
attribute [local congr] ak aR aJ al aI aA ao ah ai aC aD
variable{E:aQ}(M:bo bz E)
theorem rwh{l:List aa}{tg:Tag}(hl:l.length≤bL){H H0:List AObj}(hc:dt H0 H)(k:List Fra):∀ (n i:Nat) (He:List AObj),i+n=l.length →
  M.go dZ H0 (.c cT :: .lp ⟨(some [0,3]),[],false⟩ cT He :: .blk 0 :: .c (.lv [])::k) (kv [(0,.slice tg 3 (l.map aa.row)),(3,.int .i64 i)]) H=sel (mP (l.drop i)) (M.go dZ H0 k (kv []) H) (some (.ret (.bool false),H.take H0.length))
 |0,i,He,h=>by
  have e:i=l.length:=by omega
  subst e;rw [List.drop_length,show mP []=true from rfl,sel_true];rw [au M cT.eq_1];simp (maxSteps:=3000000) (maxDischargeDepth:=6) +contextual -implicitDefEqProofs only [amC M,↓amD,Nat.reduceBEq,Nat.reduceAdd,env,ag,ea,Nat.lt_irrefl,List.length_map]
 |n+1,i,He,h=>by
  have hi:i<l.length:=by omega
  have hx:l[i]?=some l[i]:=List.getElem?_eq_getElem hi;have hd:(l.drop i)=l[i]::l.drop (i+1):=List.drop_eq_getElem_cons hi;have hwi:=gK (n:=l.length) hi hl;have hir:=ct (row:=aa.row) (tag:=tg) (sz:=3) (k:=.i64) hi;have ih:=fun He=>rwh hl hc (tg:=tg) k n (i+1) He (by omega)
  simp only [kv_cons,kv_nil] at ih;rw [hd,show mP (l[i]::l.drop (i+1))=(!l[i].car&&mP (l.drop (i+1))) by unfold mP;rw [List.any_cons,Bool.not_or]];cases c:l[i].car with
  |true=>
   rw [Bool.not_true,Bool.false_and,sel_false];rw [au M cT.eq_1];simp (maxSteps:=3000000) (maxDischargeDepth:=6) +contextual -implicitDefEqProofs only [amC M,↓amD,Nat.reduceBEq,Nat.reduceAdd,env,ag,ea,List.length_map,hi,hx,hir,aS,c,hc]
  |false=>
   rw [Bool.not_false,Bool.true_and];rw [au M cT.eq_1];simp (maxSteps:=3000000) (maxDischargeDepth:=6) +contextual -implicitDefEqProofs only [amC M,↓amD,Nat.reduceBEq,Nat.reduceAdd,env,ag,ea,List.length_map,hi,hx,hir,aS,c,hwi,ih]
theorem Eb(hS:pU E){l:List aa}{tg:Tag}(hl:l.length≤bL)(H:List AObj):M.run iD [.slice tg 3 (l.map aa.row)] H=some (.ret (.bool (mP l)),H):=by
 have h1:=fun k He=>rwh M (tg:=tg) hl (cut_refl H) k l.length 0 He (by omega)
 simp only [kv_cons,kv_nil,Int.ofNat_zero,List.drop_zero,hp_self] at h1;rw [aV M hS.truchmanref01_Whole rfl (c:=iJ) rfl,iJ];cases c:mP l with
 |true=>
  simp only [c,sel_true] at h1;simp (maxSteps:=3000000) (maxDischargeDepth:=6) +contextual -implicitDefEqProofs only [amC M,↓amD,Nat.reduceBEq,Nat.reduceAdd,env,ag,ea,h1,hp_self,cut_refl]
 |false=>
  simp only [c,sel_false] at h1;simp (maxSteps:=3000000) (maxDischargeDepth:=6) +contextual -implicitDefEqProofs only [amC M,↓amD,Nat.reduceBEq,Nat.reduceAdd,env,ag,ea,h1]
theorem rba{l:List aa}{tg:Tag}(hl:l.length≤bL){H H0:List AObj}(hc:dt H0 H)(k:List Fra):∀ (n i:Nat) (He:List AObj),i+n=l.length →
  M.go ez H0 (.c c8 :: .lp ⟨(some [0,3]),[],false⟩ c8 He :: .blk 0 :: .c (.lv [])::k) (kv [(0,.slice tg 3 (l.map aa.row)),(3,.int .i64 i)]) H=sel (p9 (l.drop i)) (M.go ez H0 k (kv []) H) (some (.ret (.bool false),H.take H0.length))
 |0,i,He,h=>by
  have e:i=l.length:=by omega
  subst e;rw [List.drop_length,show p9 []=true from rfl,sel_true];rw [au M c8.eq_1];simp (maxSteps:=3000000) (maxDischargeDepth:=6) +contextual -implicitDefEqProofs only [amC M,↓amD,Nat.reduceBEq,Nat.reduceAdd,env,ag,eA,Nat.lt_irrefl,List.length_map]
 |n+1,i,He,h=>by
  have hi:i<l.length:=by omega
  have hx:l[i]?=some l[i]:=List.getElem?_eq_getElem hi;have hd:(l.drop i)=l[i]::l.drop (i+1):=List.drop_eq_getElem_cons hi;have hwi:=gK (n:=l.length) hi hl;have hir:=ct (row:=aa.row) (tag:=tg) (sz:=3) (k:=.i64) hi;have ih:=fun He=>rba hl hc (tg:=tg) k n (i+1) He (by omega)
  simp only [kv_cons,kv_nil] at ih;rw [hd,show p9 (l[i]::l.drop (i+1))=((l[i].kind == 1)&&p9 (l.drop (i+1))) by unfold p9;rw [List.any_cons,Bool.not_or,Bool.not_not]];cases c:l[i].kind == 1 with
  |false=>
   rw [Bool.false_and,sel_false];rw [au M c8.eq_1];simp (maxSteps:=3000000) (maxDischargeDepth:=6) +contextual -implicitDefEqProofs only [amC M,↓amD,Nat.reduceBEq,Nat.reduceAdd,env,ag,eA,List.length_map,hi,hx,hir,aS,c,hc,Bool.not_false]
  |true=>
   rw [Bool.true_and];rw [au M c8.eq_1];simp (maxSteps:=3000000) (maxDischargeDepth:=6) +contextual -implicitDefEqProofs only [amC M,↓amD,Nat.reduceBEq,Nat.reduceAdd,env,ag,eA,List.length_map,hi,hx,hir,aS,c,hwi,ih,Bool.not_true]
theorem Ip(hS:pU E){l:List aa}{tg:Tag}(hl:l.length≤bL)(H:List AObj):M.run jj [.slice tg 3 (l.map aa.row)] H=some (.ret (.bool (p9 l)),H):=by
 have h1:=fun k He=>rba M (tg:=tg) hl (cut_refl H) k l.length 0 He (by omega)
 simp only [kv_cons,kv_nil,Int.ofNat_zero,List.drop_zero,hp_self] at h1;rw [aV M hS.truchmanref01_bare rfl (c:=jB) rfl,jB];cases c:p9 l with
 |true=>
  simp only [c,sel_true] at h1;simp (maxSteps:=3000000) (maxDischargeDepth:=6) +contextual -implicitDefEqProofs only [amC M,↓amD,Nat.reduceBEq,Nat.reduceAdd,env,ag,eA,h1,hp_self,cut_refl]
 |false=>
  simp only [c,sel_false] at h1;simp (maxSteps:=3000000) (maxDischargeDepth:=6) +contextual -implicitDefEqProofs only [amC M,↓amD,Nat.reduceBEq,Nat.reduceAdd,env,ag,eA,h1]
def inB(k:Int)(l:List aa):Int:=sel (mP l) (sel (!(k == 6)||p9 l) 0 1) 8
theorem C6(hS:pU E){l:List aa}{tg:Tag}{kd:Int}(hl:l.length≤bL)(H:List AObj):M.run gp [.int .u8 kd,.slice tg 3 (l.map aa.row)] H=some (.ret (.int .u8 (inB kd l)),H):=by
 have h1:=fun H=>Eb M hS (tg:=tg) hl H
 have h2:=fun H=>Ip M hS (tg:=tg) hl H
 rw [aV M hS.truchmanref01_inBlock rfl (c:=gz) rfl,gz];unfold inB;cases c1:mP l with
 |false=>
  rw [sel_false];simp (maxSteps:=3000000) (maxDischargeDepth:=6) +contextual -implicitDefEqProofs only [amC M,↓amD,Nat.reduceBEq,Nat.reduceAdd,env,ag,eD,h1,c1,Bool.not_false]
 |true=>
  rw [sel_true];cases c2:kd == 6 with
  |false=>
   rw [Bool.not_false,Bool.true_or,sel_true];simp (maxSteps:=3000000) (maxDischargeDepth:=6) +contextual -implicitDefEqProofs only [amC M,↓amD,Nat.reduceBEq,Nat.reduceAdd,env,ag,eD,h1,c1,c2,Bool.not_true]
  |true=>
   rw [Bool.not_true,Bool.false_or];cases c3:p9 l with
   |true=>
    rw [sel_true];simp (maxSteps:=3000000) (maxDischargeDepth:=6) +contextual -implicitDefEqProofs only [amC M,↓amD,Nat.reduceBEq,Nat.reduceAdd,env,ag,eD,h1,c1,c2,h2,c3,Bool.not_true]
   |false=>
    rw [sel_false];simp (maxSteps:=3000000) (maxDischargeDepth:=6) +contextual -implicitDefEqProofs only [amC M,↓amD,Nat.reduceBEq,Nat.reduceAdd,env,ag,eD,h1,c1,c2,h2,c3,Bool.not_true,Bool.not_false]
end
section
attribute [local congr] ak aR aJ al aI aA ao ah ai aC aD
variable{E:aQ}(M:bo bz E)
end
section
attribute [local congr] ak aR aJ al aI aA ao ah ai aC aD
variable{E:aQ}(M:bo bz E)
end
section
attribute [local congr] ak aR aJ al aI aA ao ah ai aC aD
variable{E:aQ}(M:bo bz E)
def KK(a b:List aX):Prop:=a.length=b.length∧∀ (i:Nat) (x y:aX),a[i]?=some x→b[i]?=some y→x.kind=y.kind∧x.pieces.l=y.pieces.l∧x.pieces.l.length≤bL
theorem sml(hB:j6 E){a b:List aX}(hab:KK a b)(hl:a.length≤bL){ta tb:Tag}{p q:Nat}{H H0:List AObj}(hp:H[p]?=some (.cells [.slice ta 2 (a.map aX.row)] aj))(hq:H[q]?=some (.cells [.slice tb 2 (b.map aX.row)] aj))(k:List Fra):∀ (n i:Nat) (He:List AObj),i+n=a.length →
  M.go eo H0 (.c dH :: .lp ⟨(some [2,3,5]),[],false⟩ dH He :: .blk 0 :: .c (.lv [])::k) (kv [(2,.ptr p 0),(3,.ptr q 0),(5,.int .i64 i)]) H=M.go eo H0 k (kv []) H
 |0,i,He,h=>by
  have e:¬ i<a.length:=by omega
  have l1:∀ x:AV,bN none [x] 0=some x:=fun _=>rfl
  rw [au M dH.eq_1];simp (maxSteps:=3000000) (maxDischargeDepth:=6) +contextual -implicitDefEqProofs only [amC M,↓amD,Nat.reduceBEq,Nat.reduceAdd,env,ag,jo,hp,l1,e,List.length_map]
 |n+1,i,He,h=>by
  have hi:i<a.length:=by omega
  have hib:i<b.length:=by rw [← hab.1];exact hi
  have l1:∀ x:AV,bN none [x] 0=some x:=fun _=>rfl
  have hx:a[i]?=some a[i]:=List.getElem?_eq_getElem hi;have hy:b[i]?=some b[i]:=List.getElem?_eq_getElem hib;obtain ⟨e1,e2,e3⟩:=hab.2 i _ _ hx hy;have hwi:=gK (n:=a.length) hi hl;have ira:=ct (row:=aX.row) (tag:=ta) (sz:=2) (k:=.i64) hi;have irb:=ct (row:=aX.row) (tag:=tb) (sz:=2) (k:=.i64) hib;have hs:=fun H=>yO M hB (l:=a[i].pieces.l) (ta:=a[i].pieces.tag) (tb:=b[i].pieces.tag) e3 H
  rw [show List.map aa.row a[i].pieces.l=List.map aa.row b[i].pieces.l by rw [e2]] at hs;have hkd:(a[i].kind == b[i].kind)=true:=by rw [e1];simp
  have hrow:List.map aa.row a[i].pieces.l=List.map aa.row b[i].pieces.l:=by rw [e2]
  have ih:=fun He=>sml hB hab hl hp hq (H0:=H0) k n (i+1) He (by omega)
  simp only [kv_cons,kv_nil] at ih;rw [au M dH.eq_1];simp (maxSteps:=3000000) (maxDischargeDepth:=6) +contextual -implicitDefEqProofs only [amC M,↓amD,Nat.reduceBEq,Nat.reduceAdd,env,ag,jo,hp,hq,l1,hi,hib,hx,hy,hwi,ira,irb,DV,hkd,hrow,hs,ih,Bool.not_true,List.length_map]
theorem Iq(hB:j6 E)(hS:pU E){a b:fN}(hab:KK a.blocks.l b.blocks.l)(hl:a.blocks.l.length≤bL)(H:List AObj):M.run jf [.agg a.row,.agg b.row] H=some (.ret (.bool true),H):=by
 have g0:∀ X,(H++AObj.cells a.row aj::X)[H.length]?=some (AObj.cells a.row aj):=fun X=>by rw [aH];rfl
 have g1:(H++[AObj.cells a.row aj,AObj.cells b.row aj])[H.length+1]?=some (AObj.cells b.row aj):=by rw [hp_getk];rfl
 have h1:=fun k He=>sml M hB hab hl (ta:=a.blocks.tag) (tb:=b.blocks.tag) (H:=H++[AObj.cells a.row aj,AObj.cells b.row aj]) (H0:=H) (p:=H.length) (q:=H.length+1) (g0 _) g1 k a.blocks.l.length 0 He (by omega)
 simp only [kv_cons,kv_nil,Int.ofNat_zero] at h1;have hq:(a.blocks.l.length == b.blocks.l.length)=true:=by rw [hab.1];simp
 have hq2:(((a.blocks.l.length:Nat):Int) == ((b.blocks.l.length:Nat):Int))=true:=by rw [hab.1];simp
 rw [aV M hS.truchmanref01_Same rfl (c:=jn) rfl,jn];simp (maxSteps:=3000000) (maxDischargeDepth:=6) +contextual -implicitDefEqProofs only [amC M,↓amD,Nat.reduceBEq,Nat.reduceAdd,env,ag,jo,amG,AV.cell,Nat.reduceMul,Nat.reduceLeDiff,g0,g1,Mf,List.length_map,hq,hq2,Bool.not_true,h1,hp_take,cut_app]
end
section
attribute [local congr] ak aR aJ al aI aA ao ah ai aC aD
variable{E:aQ}(M:bo bz E)
end
section
attribute [local congr] ak aR aJ al aI aA ao ah ai aC aD
variable{E:aQ}(M:bo bz E)
end
section
attribute [local congr] ak aR aJ al aI aA ao ah ai aC aD
variable{E:aQ}(M:bo bz E)
end
section
attribute [local congr] ak aR aJ al aI aA ao ah ai aC aD
variable{E:aQ}(M:bo bz E)
end
section
attribute [local congr] ak aR aJ al aI aA ao ah ai aC aD
variable{E:aQ}(M:bo bz E)
def Ir(H:List AObj)(v:AV)(l:List (Sl aa)):Prop:=(l=[]∧∃ z,v = .slice .nil z [])∨∃ t,v = .slice (.own t) 1 (l.map C4)∧H[t]?=some (.tok (l.length*1) aG)
structure vk (R:Nat→Prop) (H:List AObj) (P n:Nat) (f:Nat→List (Sl aa)) (vs:List AV):Prop where
 hP:¬ R P
 cell:H[P]?=some (.cells vs fH)
 len:vs.length=n
 own:∀ (k:Nat) (v:AV),vs[k]?=some v→Ir H v (f k)
 ne:∀ (i j t:Nat) (r s:List (List AV)),vs[i]?=some (.slice (.own t) 1 r)→vs[j]?=some (.slice (.own t) 1 s)→i=j
 fr:∀ (k t:Nat) (r:List (List AV)),vs[k]?=some (.slice (.own t) 1 r)→¬ R t
theorem Ir.len{H G:List AObj}{v:AV}{l:List (Sl aa)}(h:Ir H v l):nK G .sl v=some (.int .i64 (l.length:Int)):=by
 rcases h with ⟨rfl,z,rfl⟩ | ⟨t,rfl,_⟩
 ·rfl
 ·simp only [nK,List.length_map]
theorem vk.app{R:Nat→Prop}{H:List AObj}{P n:Nat}{f:Nat→List (Sl aa)}{vs:List AV}(h:vk R H P n f vs)(X:List AObj):vk R (H++X) P n f vs:=
 ⟨h.hP,dW h.cell,h.len,fun k v hv=>by
  rcases h.own k v hv with h1 | ⟨t,h1,h2⟩
  ·exact .inl h1
  ·exact .inr ⟨t,h1,dW h2⟩,h.ne,h.fr⟩
theorem Ir.push{H:List AObj}{v:AV}{l:List (Sl aa)}(h:Ir H v l)(hb:l.length≤1000000){x:Sl aa}{r:List AV}(h1:r.length=1)(h2:r.all AV.cell=true)(h3:r.map AV.strip=C4 x) :
  ∃ t G,rap false H aG 1 24 false v (.slice .full 1 [r])=some (.slice (.own t) 1 ((l++[x]).map C4),G)∧G[t]?=some (.tok ((l++[x]).length*1) aG)∧(t=H.length∨v = .slice (.own t) 1 (l.map C4))∧H.length≤G.length∧∀ i,i<H.length→i≠t→G[i]?=H[i]? := by
 rcases h with ⟨rfl,z,rfl⟩ | ⟨t,rfl,hg⟩
 ·refine ⟨H.length,H++[.tok 1 aG], ?_,by rw [aH];rfl,.inl rfl,by simp,fun i hi _=>List.getElem?_append_left hi⟩
  simp [rap,sM,n8,kA h1 h2,h3]
 ·have hlt:=bM hg
  refine ⟨t,H.set t (.tok ((l++[x]).length*1) aG), ?_,List.getElem?_set_self hlt,.inr rfl,by simp,fun i _ hi=>List.getElem?_set_ne hi.symm⟩;have e1:(l.length+1)*24≤140737488355328:=by omega
  have e2:l.length+1≤4611686018427387904:=by omega
  simp only [rap,sM,n8,List.length_map,List.length_cons,List.length_nil,Nat.zero_add,or_true,if_true,e1,e2,kA h1 h2,and_true,true_and,hg,List.map_cons,List.map_nil,h3,List.map_append,List.length_append,Nat.add_mul,Nat.one_mul,Nat.mul_one];rw [Nat.add_mul,Nat.one_mul] at e1;rw [if_pos e1]
theorem vk.push{R:Nat→Prop}{H:List AObj}{P n:Nat}{f:Nat→List (Sl aa)}{vs:List AV}(h:vk R H P n f vs)(hR:∀ i,R i→i<H.length){k:Nat}{v:AV}(hv:vs[k]?=some v)(hb:(f k).length≤1000000){x:Sl aa}{r:List AV}(h1:r.length=1)(h2:r.all AV.cell=true)(h3:r.map AV.strip=C4 x) :
  ∃ w G,rap false H aG 1 24 false v (.slice .full 1 [r])=some (w,G)∧G[P]?=some (.cells vs fH)∧(∃ t q,w = .slice (.own t) 1 q)∧vk R (G.set P (.cells (vs.set k w) fH)) P n (fun j=>if j=k then f k++[x] else f j) (vs.set k w)∧H.length≤G.length∧∀ i,R i→(G.set P (.cells (vs.set k w) fH))[i]?=H[i]? := by
 obtain ⟨t,G,a1,a2,a3,a4,a5⟩:=(h.own k v hv).push hb h1 h2 h3;have hPl:=bM h.cell;have hk:k<vs.length:=(List.getElem?_eq_some_iff.1 hv).1
 have tP:∀ (j u:Nat) (s:List (List AV)),vs[j]?=some (.slice (.own u) 1 s)→u<H.length∧u≠P:=fun j u s hj=>by
  rcases h.own j _ hj with ⟨_,_,e⟩ | ⟨t',e,hg⟩
  ·cases e
  ·cases e
   exact ⟨bM hg,fun e=>by subst e;rw [h.cell] at hg;cases hg⟩
 have tnP:t≠P:=by
  rcases a3 with rfl | e
  ·omega
  ·exact (tP k t _ (by rw [hv,e])).2
 have gP:G[P]?=some (.cells vs fH):=by rw [a5 P hPl tnP.symm];exact h.cell
 have tR:¬ R t:=by
  rcases a3 with rfl | e
  ·intro hr;have:=hR _ hr;omega
  ·exact h.fr k t _ (by rw [hv,e])
 have oth:∀ (j u:Nat) (s:List (List AV)),j≠k→vs[j]?=some (.slice (.own u) 1 s)→u≠t:=fun j u s hj hs e=>by
  subst e;rcases a3 with e | e
  ·have:=(tP j _ s hs).1;omega
  ·exact hj (h.ne j k _ s _ hs (by rw [hv,e]))
 refine ⟨_,G,a1,gP,⟨t,_,rfl⟩,⟨h.hP,List.getElem?_set_self (by omega),by simpa using h.len,fun j w hj => ?_,fun i j u r1 s1 hi hj => ?_,fun j u r1 hj => ?_⟩,a4,fun i hi => ?_⟩
 ·by_cases hjk:j=k
  ·subst hjk
   rw [List.getElem?_set_self hk] at hj;cases hj;simp only [if_true];exact .inr ⟨t,rfl,by rw [List.getElem?_set_ne tnP.symm];exact a2⟩
  ·rw [List.getElem?_set_ne (fun e=>hjk e.symm)] at hj
   simp only [if_neg hjk];rcases h.own j w hj with e | ⟨u,e1,e2⟩
   ·exact .inl e
   ·have z:=tP j u _ (by rw [hj,e1])
    exact .inr ⟨u,e1,by rw [List.getElem?_set_ne z.2.symm,a5 u z.1 (oth j u _ hjk (by rw [hj,e1]))];exact e2⟩
 ·by_cases hik:i=k
  ·by_cases hjk:j=k
   ·rw [hik,hjk]
   ·subst hik
    rw [List.getElem?_set_self hk] at hi;rw [List.getElem?_set_ne (fun e=>hjk e.symm)] at hj;cases hi;exact absurd rfl (oth j _ _ hjk hj)
  ·rw [List.getElem?_set_ne (fun e=>hik e.symm)] at hi
   by_cases hjk:j=k
   ·subst hjk
    rw [List.getElem?_set_self hk] at hj;cases hj;exact absurd rfl (oth i _ _ hik hi)
   ·rw [List.getElem?_set_ne (fun e=>hjk e.symm)] at hj
    exact h.ne i j u _ _ hi hj
 ·by_cases hjk:j=k
  ·subst hjk
   rw [List.getElem?_set_self hk] at hj;cases hj;exact tR
  ·rw [List.getElem?_set_ne (fun e=>hjk e.symm)] at hj
   exact h.fr j u _ hj
 ·rw [List.getElem?_set_ne (show P≠i from fun e=>h.hP (by rw [e];exact hi)),a5 i (hR i hi) (fun e=>tR (by rw [← e];exact hi))]
end
section
attribute [local congr] ak aR aJ al aI aA ao ah ai aC aD
variable{E:aQ}(M:bo bz E)
end
section
attribute [local congr] ak aR aJ al aI aA ao ah ai aC aD
variable{E:aQ}(M:bo bz E)
end
section
attribute [local congr] ak aR aJ al aI aA ao ah ai aC aD
variable{E:aQ}(M:bo bz E)
def Ec(n:Nat)(H:List AObj)(v:AV)(l:List aX):Prop:=(l=[]∧v = .slice .nil 2 [])∨(l≠[]∧∃ t,n≤t∧v = .slice (.own t) 2 (l.map aX.row)∧H[t]?=some (.tok (l.length*2) bc))
theorem Ec.app{n:Nat}{H:List AObj}{v:AV}{l:List aX}(h:Ec n H v l)(X:List AObj):Ec n (H++X) v l:=by
 rcases h with h | ⟨h0,t,h1,h2,h3⟩
 ·exact .inl h
 ·exact .inr ⟨h0,t,h1,h2,dW h3⟩
theorem Ec.push{n:Nat}{H:List AObj}{v:AV}{l:List aX}(h:Ec n H v l)(hn:n≤H.length)(hb:l.length≤1000000){x:aX}{r:List AV}(h1:r.length=2)(h2:r.all AV.cell=true)(h3:r.map AV.strip=x.row) :
  ∃ t G,rap false H bc 2 32 false v (.slice .full 2 [r])=some (.slice (.own t) 2 ((l++[x]).map aX.row),G)∧n≤t∧G[t]?=some (.tok ((l++[x]).length*2) bc)∧H.length≤G.length∧(∀ (i:Nat) (y:AObj),H[i]?=some y→(∀ m e,y≠AObj.tok m e)→G[i]?=some y)∧∀ i:Nat,i<n→G[i]?=H[i]? := by
 rcases h with ⟨rfl,rfl⟩ | ⟨_,t,hnt,rfl,hg⟩
 ·refine ⟨H.length,H++[.tok 2 bc], ?_,hn,by rw [aH];rfl,by simp,fun i y hi _=>dW hi,fun i hi=>List.getElem?_append_left (by omega)⟩
  simp [rap,sM,n8,kA h1 h2,h3]
 ·have hlt:=bM hg
  refine ⟨t,H.set t (.tok ((l++[x]).length*2) bc), ?_,hnt,List.getElem?_set_self hlt,by simp,fun i y hi hy => ?_,fun i hi=>List.getElem?_set_ne (by omega)⟩
  ·have e1:(l.length+1)*32≤140737488355328:=by omega
   have e2:l.length+1≤4611686018427387904:=by omega
   simp only [rap,sM,n8,List.length_map,List.length_cons,List.length_nil,Nat.zero_add,or_true,if_true,e1,e2,kA h1 h2,and_true,true_and,hg,List.map_cons,List.map_nil,h3,List.map_append,List.length_append,Nat.add_mul,Nat.one_mul,Nat.mul_one];rw [Nat.add_mul] at e1;rw [if_pos e1]
  ·rw [List.getElem?_set_ne (fun e=>by subst e;rw [hg] at hi;cases hi;exact hy _ _ rfl)];exact hi
end
section
attribute [local congr] ak aR aJ al aI aA ao ah ai aC aD
variable{E:aQ}(M:bo bz E)
theorem uD{G:List AObj}{r:Nat}{x:AObj}(h:G[r]?=some x):G.set r x=G:=by
 refine List.ext_getElem? fun j => ?_
 by_cases hj:j=r
 ·subst hj;rw [List.getElem?_set_self (bM h),h]
 ·rw [List.getElem?_set_ne (fun e=>hj e.symm)]
theorem BD{G:List AObj}{r:Nat}(h:G[r]?=some (.cells [.slice .nil 2 []] aj)):stO 1 G r 0 [.slice .nil 2 []] (some (.cells [.slice .nil 2 []] aj))=some G:=by
 rw [stO_cells (sz:=1) rfl (by simp) rfl];refine congrArg some (List.ext_getElem? fun j => ?_)
 by_cases hj:j=r
 ·subst hj;rw [List.getElem?_set_self (bM h),h];rfl
 ·rw [List.getElem?_set_ne (fun e=>hj e.symm)]
end
section
attribute [local congr] ak aR aJ al aI aA ao ah ai aC aD
variable{E:aQ}(M:bo bz E)
structure gW (E:aQ):Prop where
 strings_IndexAny:E.fn kC=some cY
 strings_IndexRune:E.fn ga=some gh
 strings_makeASCIISet:E.fn gN=some eT
 strings_asciiSet_contains:E.fn eO=some dD
 strings_shouldUseASCIISet:E.fn eN=some dC
 strings_IndexByte:E.fn gb=some gj
 internal_stringslite_IndexByte:E.fn bR=some cP
 strings_HasPrefix:E.fn eH=some gd
 internal_stringslite_HasPrefix:E.fn dF=some cM
 strings_HasSuffix:E.fn jS=some gg
 internal_stringslite_HasSuffix:E.fn bD=some cN
 strings_Contains:E.fn gL=some gO
 strings_Index:E.fn gX=some kx
 internal_stringslite_Index:E.fn cC=some dk
 unicode_utf8_ValidRune:E.fn fQ=some ej
 docs_marked:E.fn ke=some ma
 docs_written:E.fn lq=some lA
 truchmanref01_written:E.fn gr=some dy
 truchmanref01_marked:E.fn gM=some gQ
 docs_Read:E.fn nX=some jr
 docs_Read_1:E.fn iv=some l8
 truchmanref01_Read:E.fn jh=some cW
 truchmanref01_upTo:E.fn en=some ep
def Gq{α:Type}(p:α→Bool):Nat→α→Option AV:=fun i x=>sel (p x) (some (.int .i64 (i:Int))) none
def b9{α:Type}(p:α→Bool):Nat→List α→Int
 |_,[] => -1
 |i,x::l=>sel (p x) (i:Int) (b9 p (i+1) l)
theorem vl{α:Type}(p:α→Bool):∀ (l:List α) (i:Nat) (H:List AObj),orE (og (Gq p) i l) H (some (.ret (.int .i64 (-1)),H))=some (.ret (.int .i64 (b9 p i l)),H)
 |[],i,H=>rfl
 |x::l,i,H=>by
  rw [vH,Gq,b9,ER,EO,CD,CE,CC,vl p l];cases p x<;>rfl
def dS(c:UInt8):Bool:=(c == 62)||(c == 125)
def tj:List AV:=List.replicate 256 (.bool false)
theorem Mt:([.bool false,.bool false,.bool false,.bool false,.bool false,.bool false,.bool false,.bool false,.bool false,.bool false,.bool false,.bool false,.bool false,.bool false,.bool false,.bool false,.bool false,.bool false,.bool false,.bool false,.bool false,.bool false,.bool false,.bool false,.bool false,.bool false,.bool false,.bool false,.bool false,.bool false,.bool false,.bool false,.bool false,.bool false,.bool false,.bool false,.bool false,.bool false,.bool false,.bool false,.bool false,.bool false,.bool false,.bool false,.bool false,.bool false,.bool false,.bool false,.bool false,.bool false,.bool false,.bool false,.bool false,.bool false,.bool false,.bool false,.bool false,.bool false,.bool false,.bool false,.bool false,.bool false,.bool false,.bool false,.bool false,.bool false,.bool false,.bool false,.bool false,.bool false,.bool false,.bool false,.bool false,.bool false,.bool false,.bool false,.bool false,.bool false,.bool false,.bool false,.bool false,.bool false,.bool false,.bool false,.bool false,.bool false,.bool false,.bool false,.bool false,.bool false,.bool false,.bool false,.bool false,.bool false,.bool false,.bool false,.bool false,.bool false,.bool false,.bool false,.bool false,.bool false,.bool false,.bool false,.bool false,.bool false,.bool false,.bool false,.bool false,.bool false,.bool false,.bool false,.bool false,.bool false,.bool false,.bool false,.bool false,.bool false,.bool false,.bool false,.bool false,.bool false,.bool false,.bool false,.bool false,.bool false,.bool false,.bool false,.bool false,.bool false,.bool false,.bool false,.bool false,.bool false,.bool false,.bool false,.bool false,.bool false,.bool false,.bool false,.bool false,.bool false,.bool false,.bool false,.bool false,.bool false,.bool false,.bool false,.bool false,.bool false,.bool false,.bool false,.bool false,.bool false,.bool false,.bool false,.bool false,.bool false,.bool false,.bool false,.bool false,.bool false,.bool false,.bool false,.bool false,.bool false,.bool false,.bool false,.bool false,.bool false,.bool false,.bool false,.bool false,.bool false,.bool false,.bool false,.bool false,.bool false,.bool false,.bool false,.bool false,.bool false,.bool false,.bool false,.bool false,.bool false,.bool false,.bool false,.bool false,.bool false,.bool false,.bool false,.bool false,.bool false,.bool false,.bool false,.bool false,.bool false,.bool false,.bool false,.bool false,.bool false,.bool false,.bool false,.bool false,.bool false,.bool false,.bool false,.bool false,.bool false,.bool false,.bool false,.bool false,.bool false,.bool false,.bool false,.bool false,.bool false,.bool false,.bool false,.bool false,.bool false,.bool false,.bool false,.bool false,.bool false,.bool false,.bool false,.bool false,.bool false,.bool false,.bool false,.bool false,.bool false,.bool false,.bool false,.bool false,.bool false,.bool false,.bool false,.bool false,.bool false,.bool false,.bool false,.bool false,.bool false,.bool false,.bool false,.bool false,.bool false,.bool false,.bool false,.bool false,.bool false,.bool false,.bool false]:List AV)=tj:=rfl
def J6:List AV:=bu tj 62 [.bool true]
def kO:List AV:=bu J6 125 [.bool true]
theorem Is(c:UInt8):kO[c.toNat]?=some (.bool (dS c)):=by
 have h:∀ n:Fin 256,kO[n.val]?=some (.bool (dS (UInt8.ofNat n.val))):=by
  intro n
  have:kO=(List.range 256).map fun n=>.bool (dS (UInt8.ofNat n)):=rfl
  rw [this,List.getElem?_map,List.getElem?_range n.isLt];rfl
 have:=h ⟨c.toNat,c.toNat_lt⟩;simpa using this
theorem It:bu kO 0 kO=kO:=rfl
theorem J7:bu tj 0 kO=kO:=rfl
theorem Iu(id:Nat)(c:UInt8):Dq 256 1 (.ptr id 0) (.int .u8 (c.toNat:Int))=some (.ptr id c.toNat):=by
 have:=c.toNat_lt;simp only [Dq];rw [if_pos (by omega)];simp
theorem BE(hS:gW E){H:List AObj}{p:Nat}{T:TypeId}(hp:H[p]?=some (.cells kO T))(c:UInt8):M.run eO [.ptr p 0,.int .u8 c.toNat] H=some (.ret (.bool (dS c)),H):=by
 rw [aV M hS.strings_asciiSet_contains rfl (c:=eU) rfl,eU];have e:=Is c;have l0:bN none kO c.toNat=some (.bool (dS c)):=e;simp (maxSteps:=3000000) (maxDischargeDepth:=6) +contextual -implicitDefEqProofs only [amC M,↓amD,Nat.reduceBEq,Nat.reduceAdd,env,ag,m0,rnc,Iu,hp,l0]
theorem E9{n:Nat}:∀ {l:List AV},(∀ v∈l,Wk n v v)→WkL n l l
 |[],_=>trivial
 |v::l,h=>⟨h v (List.mem_cons_self ..),E9 fun u hu=>h u (List.mem_cons_of_mem _ hu)⟩
theorem J8(n:Nat):Wk n (.agg kO) (.agg kO):=wk_agg (E9 fun v hv=>by
 have e:kO=(List.range 256).map fun n=>.bool (dS (UInt8.ofNat n)):=rfl
 rw [e] at hv;obtain ⟨m,_,rfl⟩:=List.mem_map.1 hv;exact wk_bool _ _)
theorem J9(hS:gW E)(H:List AObj):M.run gN [.str [62,125]] H=some (.ret (.tuple [.agg kO,.bool true]),H):=by
 rw [aV M hS.strings_makeASCIISet rfl (c:=gR) rfl,gR];have a1:∀ id,Dq 256 1 (.ptr id 0) (.int .u8 62)=some (.ptr id 62):=fun id=>Iu id 62
 have a2:∀ id,Dq 256 1 (.ptr id 0) (.int .u8 125)=some (.ptr id 125):=fun id=>Iu id 125
 have s1:∀ T,stO 1 (H++[.cells tj T]) H.length 62 [.bool true] (some (.cells tj T))=some (H++[.cells J6 T]):=fun T=>by
  simp only [stO];rw [if_pos ⟨rfl,by decide,rfl⟩,hp_set0];rfl
 have s2:∀ T,stO 1 (H++[.cells J6 T]) H.length 125 [.bool true] (some (.cells J6 T))=some (H++[.cells kO T]):=fun T=>by
  simp only [stO];rw [if_pos ⟨rfl,by decide,rfl⟩,hp_set0];rfl
 have s3:∀ T,stO 256 (H++[.cells kO T]) H.length 0 kO (some (.cells kO T))=some (H++[.cells kO T]):=fun T=>by
  simp only [stO];rw [if_pos ⟨rfl,by decide,rfl⟩,hp_set0,It];rfl
 have l2:oR 256 kO=some kO:=rfl;have n0:decide ((0:Int)<(([62,125]:Str).length:Int))=true:=rfl;have n1:decide ((1:Int)<(([62,125]:Str).length:Int))=true:=rfl;have n2:decide ((2:Int)<(([62,125]:Str).length:Int))=false:=rfl;have w1:IntKind.i64.wrap (0+1)=1:=by decide
 have w2:IntKind.i64.wrap (1+1)=2:=by decide
 have c1:decide ((128:Int)≤62)=false:=rfl;have c2:decide ((128:Int)≤125)=false:=rfl;have hac:bX (.agg kO)=some kO:=rfl;have hac2:bX (.bool true)=some [.bool true]:=rfl;simp (maxSteps:=3000000) (maxDischargeDepth:=6) +contextual -implicitDefEqProofs only [amC M,↓amD,Nat.reduceBEq,Nat.reduceAdd,env,ag,pP,↓Mt,au M km.eq_1,a1,a2,s1,s2,s3,l2,aH,List.getElem?_cons_zero,n0,n1,n2,(show ((UInt8.toNat 62:Nat):Int)=62 from rfl),(show ((UInt8.toNat 125:Nat):Int)=125 from rfl),List.getElem?_cons_succ,w1,w2,c1,c2,hac,hac2,(show ∀ H,pZ (some H)=some (dU,H) from fun _=>rfl),cut_app,hp_take,wk_tuple,J8,(show kz (.tuple [.agg kO,.bool true]) = .tuple [.agg kO,.bool true] from rfl)]
theorem nJ(hS:gW E)(hX:oB M)(s:Str)(c:UInt8)(H:List AObj):M.run bR [.str s,.int .u8 c.toNat] H=some (.ret (.int .i64 (Lib.indexByte s c)),H):=by
 rw [aV M hS.internal_stringslite_IndexByte rfl (c:=dO) rfl,dO];simp (maxSteps:=3000000) (maxDischargeDepth:=6) +contextual -implicitDefEqProofs only [amC M,↓amD,Nat.reduceBEq,Nat.reduceAdd,env,ag,lD,hX.index]
theorem sH(hS:gW E)(hX:oB M)(s:Str)(c:UInt8)(H:List AObj):M.run gb [.str s,.int .u8 c.toNat] H=some (.ret (.int .i64 (Lib.indexByte s c)),H):=by
 have h1:=nJ M hS hX s c H;rw [aV M hS.strings_IndexByte rfl (c:=jX) rfl,jX];simp (maxSteps:=3000000) (maxDischargeDepth:=6) +contextual -implicitDefEqProofs only [amC M,↓amD,Nat.reduceBEq,Nat.reduceAdd,env,ag,r4,h1]
theorem yQ(hS:gW E)(hX:oB M)(s:Str)(c:UInt8)(H:List AObj):M.run gX [.str s,.str [c]] H=some (.ret (.int .i64 (Lib.indexByte s c)),H):=by
 have h1:=nJ M hS hX s c H
 have h2:M.run cC [.str s,.str [c]] H=some (.ret (.int .i64 (Lib.indexByte s c)),H):=by
  rw [aV M hS.internal_stringslite_Index rfl (c:=cG) rfl,cG];have e0:((([c].length:Nat):Int) == 0)=false:=rfl;have e1:((([c].length:Nat):Int) == 1)=true:=rfl;have e2:tY ([c]:Str)[0]?=some (.int .u8 (c.toNat:Int)):=rfl;cases he:([c]:Str) == s with
  |true=>
   have:Lib.indexByte s c=0:=by rw [← eq_of_beq he];simp [Lib.indexByte]
   rw [this];simp (maxSteps:=3000000) (maxDischargeDepth:=6) +contextual -implicitDefEqProofs only [amC M,↓amD,Nat.reduceBEq,Nat.reduceAdd,env,ag,dm,e0,e1,he]
  |false=>
   simp (maxSteps:=3000000) (maxDischargeDepth:=6) +contextual -implicitDefEqProofs only [amC M,↓amD,Nat.reduceBEq,Nat.reduceAdd,env,ag,dm,e0,e1,e2,h1,he]
 rw [aV M hS.strings_Index rfl (c:=mG) rfl,mG];simp (maxSteps:=3000000) (maxDischargeDepth:=6) +contextual -implicitDefEqProofs only [amC M,↓amD,Nat.reduceBEq,Nat.reduceAdd,env,ag,vZ,h2]
theorem AD:∀ (s:Str) (c:UInt8),decide ((0:Int)≤Lib.indexByte s c)=s.any fun d=>d == c
 |[],c=>rfl
 |d::s,c=>by
  rw [Lib.indexByte,List.any_cons,← AD s c];cases h:d == c with
  |true=>simp
  |false=>
   have hg:=Lib.indexByte_ge s c;simp only [Bool.false_or]
   by_cases h2:Lib.indexByte s c = -1
   ·simp [h2]
   ·have:(Lib.indexByte s c == -1)=false:=by simpa using h2
    simp only [this];rw [Bool.eq_iff_iff];simp;omega
theorem zV(hS:gW E)(hX:oB M)(s:Str)(c:UInt8)(H:List AObj):M.run gL [.str s,.str [c]] H=some (.ret (.bool (s.any fun d=>d == c)),H):=by
 have h1:=yQ M hS hX s c H;rw [aV M hS.strings_Contains rfl (c:=kE) rfl,kE];simp (maxSteps:=3000000) (maxDischargeDepth:=6) +contextual -implicitDefEqProofs only [amC M,↓amD,Nat.reduceBEq,Nat.reduceAdd,env,ag,sU,h1,AD]
def bY(s p:Str):Bool:=decide (p.length≤s.length)&&(s.take p.length == p)
theorem yR(hS:gW E)(s p:Str)(H:List AObj):M.run dF [.str s,.str p] H=some (.ret (.bool (bY s p)),H):=by
 rw [aV M hS.internal_stringslite_HasPrefix rfl (c:=dM) rfl,dM];cases hd:decide (p.length≤s.length) with
 |true=>
  have hle:p.length≤s.length:=of_decide_eq_true hd;simp (maxSteps:=3000000) (maxDischargeDepth:=6) +contextual -implicitDefEqProofs only [amC M,↓amD,Nat.reduceBEq,Nat.reduceAdd,env,ag,fL,bY,hd,D4 hle]
 |false=>
  simp (maxSteps:=3000000) (maxDischargeDepth:=6) +contextual -implicitDefEqProofs only [amC M,↓amD,Nat.reduceBEq,Nat.reduceAdd,env,ag,fL,bY,hd]
theorem zW(hS:gW E)(s p:Str)(H:List AObj):M.run eH [.str s,.str p] H=some (.ret (.bool (bY s p)),H):=by
 have h1:=yR M hS s p H;rw [aV M hS.strings_HasPrefix rfl (c:=jV) rfl,jV];simp (maxSteps:=3000000) (maxDischargeDepth:=6) +contextual -implicitDefEqProofs only [amC M,↓amD,Nat.reduceBEq,Nat.reduceAdd,env,ag,rY,h1]
def dR(s p:Str):Bool:=decide (p.length≤s.length)&&(s.drop (s.length-p.length) == p)
theorem zX(hS:gW E){s:Str}(hs:s.length≤bL)(p:Str)(H:List AObj):M.run jS [.str s,.str p] H=some (.ret (.bool (dR s p)),H):=by
 have h1:M.run bD [.str s,.str p] H=some (.ret (.bool (dR s p)),H):=by
  rw [aV M hS.internal_stringslite_HasSuffix rfl (c:=bS) rfl,bS];cases hd:decide (p.length≤s.length) with
  |true=>
   have hle:p.length≤s.length:=of_decide_eq_true hd
   have hw:IntKind.i64.wrap ((s.length:Int)-(p.length:Int))=((s.length-p.length:Nat):Int):=by
    simp only [bL] at hs;rw [cU (by omega) (by omega)];omega
   simp (maxSteps:=3000000) (maxDischargeDepth:=6) +contextual -implicitDefEqProofs only [amC M,↓amD,Nat.reduceBEq,Nat.reduceAdd,env,ag,cO,dR,hd,hw,lG (show s.length-p.length≤s.length by omega)]
  |false=>
   simp (maxSteps:=3000000) (maxDischargeDepth:=6) +contextual -implicitDefEqProofs only [amC M,↓amD,Nat.reduceBEq,Nat.reduceAdd,env,ag,cO,dR,hd]
 rw [aV M hS.strings_HasSuffix rfl (c:=jW) rfl,jW];simp (maxSteps:=3000000) (maxDischargeDepth:=6) +contextual -implicitDefEqProofs only [amC M,↓amD,Nat.reduceBEq,Nat.reduceAdd,env,ag,rZ,h1]
def rI(r:Nat):Int:=sel (r == 62) 0 (sel (r == 125) 1 (-1))
theorem Ka{r:Nat}(h:128≤r)(hr:r≤1114111)(hsur:¬ (55296≤r∧r≤57343)):(∃ a b:UInt8,(Utf8.encode (r:Int)).data.toList=[a,b]∧128≤b.toNat)∨(3≤(Utf8.encode (r:Int)).data.toList.length∧(Utf8.encode (r:Int)).data.toList.length≤4):=by
 by_cases c2:r<2048
 ·refine .inl ⟨_,_,Extern.FmtText.enc2 r (by omega) c2, ?_⟩
  simp;omega
 by_cases c3:r<65536
 ·rw [Extern.FmtText.enc3 r c2 c3 (by omega)];exact .inr ⟨by simp,by simp⟩
 ·rw [Extern.FmtText.enc4 r c3 hr];exact .inr ⟨by simp,by simp⟩
theorem zY(hS:gW E)(hX:oB M){r:Nat}(hr:r≤1114111)(hsur:¬ (55296≤r∧r≤57343))(H:List AObj):M.run ga [.str [62,125],.int .i32 (r:Int)] H=some (.ret (.int .i64 (rI r)),H):=by
 by_cases h1:r<128
 ·have hb:((UInt8.ofNat r).toNat:Int)=(r:Int):=by simp;omega
  have h2:=sH M hS hX [62,125] (UInt8.ofNat r) H;rw [hb] at h2
  have hI:Lib.indexByte [62,125] (UInt8.ofNat r)=rI r:=by
   have:∀ n:Fin 128,Lib.indexByte [62,125] (UInt8.ofNat n.val)=rI n.val:=by decide
   exact this ⟨r,h1⟩
  rw [hI] at h2;have d1:decide ((0:Int)≤(r:Int))=true:=decide_eq_true (by omega);have d2:decide ((r:Int)<128)=true:=decide_eq_true (by omega)
  have hw:IntKind.u8.wrap (r:Int)=(r:Int):=by
   have:∀ n:Fin 128,IntKind.u8.wrap ((n.val:Nat):Int)=(n.val:Int):=by decide
   exact this ⟨r,h1⟩
  rw [aV M hS.strings_IndexRune rfl (c:=b3) rfl,b3];simp (maxSteps:=3000000) (maxDischargeDepth:=6) +contextual -implicitDefEqProofs only [amC M,↓amD,Nat.reduceBEq,Nat.reduceAdd,env,ag,gi,d1,d2,B5,hw,h2]
 ·have d1:decide ((0:Int)≤(r:Int))=true:=decide_eq_true (by omega)
  have d2:decide ((r:Int)<128)=false:=decide_eq_false (by omega)
  have hI:rI r = -1:=by
   have e1:(r == 62)=false:=by simp;omega
   have e2:(r == 125)=false:=by simp;omega
   rw [rI,e1,e2];rfl
  rw [hI]
  by_cases h3:r=65533
  ·subst h3
   rw [aV M hS.strings_IndexRune rfl (c:=b3) rfl,b3];have c0:Utf8.decode ⟨([62,125]:Str).toArray⟩ 0=(62,1):=by decide
   have c1:Utf8.decode ⟨([62,125]:Str).toArray⟩ 1=(125,1):=by decide
   have e3:(((65533:Nat):Int) == 65533)=true:=rfl;simp (maxSteps:=3000000) (maxDischargeDepth:=6) +contextual -implicitDefEqProofs only [amC M,↓amD,Nat.reduceBEq,Nat.reduceAdd,env,ag,gi,amG,AV.cell,Nat.reduceMul,Nat.reduceLeDiff,d1,d2,e3,au M lO.eq_1,su,rrg,aH,hp_set0,c0,c1,(show ((0:Nat)<2)=True by simp),(show ((1:Nat)<2)=True by simp),(show ((2:Nat)<2)=False by simp),(show (((62:Nat):Int) == 65533)=false from rfl),(show (((125:Nat):Int) == 65533)=false from rfl),bb,List.getElem?_cons_zero,List.getElem?_cons_succ,cut_app,hp_take]
  ·have e3:((r:Int) == 65533)=false:=by simp;omega
   have hv:∀ H,M.run fQ [.int .i32 (r:Int)] H=some (.ret (.bool true),H):=fun H=>by
    rw [aV M hS.unicode_utf8_ValidRune rfl (c:=fV) rfl,fV]
    by_cases h5:r<55296
    ·have v2:decide ((r:Int)<55296)=true:=decide_eq_true (by omega)
     simp (maxSteps:=3000000) (maxDischargeDepth:=6) +contextual -implicitDefEqProofs only [amC M,↓amD,Nat.reduceBEq,Nat.reduceAdd,env,ag,kn,d1,v2]
    ·have v2:decide ((r:Int)<55296)=false:=decide_eq_false (by omega)
     have v3:decide ((57343:Int)<(r:Int))=true:=decide_eq_true (by omega);have v4:decide ((r:Int)≤1114111)=true:=decide_eq_true (by omega);simp (maxSteps:=3000000) (maxDischargeDepth:=6) +contextual -implicitDefEqProofs only [amC M,↓amD,Nat.reduceBEq,Nat.reduceAdd,env,ag,kn,d1,v2,v3,v4]
   rcases Ka (r:=r) (by omega) hr hsur with ⟨a,b,he,hb⟩ | ⟨hl,hl4⟩
   ·have w1:IntKind.i64.wrap ((([a,b]:Str).length:Int)-1)=1:=rfl
    have n1:decide ((1:Int)<(([62,125]:Str).length:Int))=true:=rfl;have w2:IntKind.i64.wrap (1+1)=2:=rfl
    have hne:((125:UInt8).toNat == b.toNat)=false:=by
     have:(125:UInt8).toNat=125:=rfl
     rw [this,beq_eq_false_iff_ne];omega
    have hib:=sH M hS hX [] b H;have hs:mE (.str [62,125]) (some (.int .i64 2)) none=some (.str []):=rfl;have hlt:decide ((-1:Int)<0)=true:=rfl;rw [aV M hS.strings_IndexRune rfl (c:=b3) rfl,b3];simp (maxSteps:=3000000) (maxDischargeDepth:=6) +contextual -implicitDefEqProofs only [amC M,↓amD,Nat.reduceBEq,Nat.reduceAdd,env,ag,gi,d1,d2,e3,hv,GN,he,w1,w2,n1,hne,hs,hib,(show Lib.indexByte [] b = -1 from rfl),hlt,List.getElem?_cons_zero,List.getElem?_cons_succ,au M iK.eq_1]
   ·obtain ⟨e,he⟩:∃ e,(Utf8.encode (r:Int)).data.toList=e:=⟨_,rfl⟩
    rw [he] at hl hl4;have w1:IntKind.i64.wrap ((e.length:Int)-1)=((e.length-1:Nat):Int):=by rw [cU (by omega) (by omega)];omega
    have n1:decide (e.length-1<([62,125]:Str).length)=false:=decide_eq_false (by simp;omega);rw [aV M hS.strings_IndexRune rfl (c:=b3) rfl,b3];simp (maxSteps:=3000000) (maxDischargeDepth:=6) +contextual -implicitDefEqProofs only [amC M,↓amD,Nat.reduceBEq,Nat.reduceAdd,env,ag,gi,d1,d2,e3,hv,GN,he,w1,n1,au M iK.eq_1]
end
section
attribute [local congr] ak aR aJ al aI aA ao ah ai aC aD
variable{E:aQ}(M:bo bz E)
theorem Iv{c:UInt8}(h:128≤c.toNat):dS c=false:=by
 unfold dS;rw [Bool.or_eq_false_iff];constructor<;>(rw [beq_eq_false_iff_ne];rintro rfl;revert h;decide)
theorem Fa{c:UInt8}{t:Str}(h:128≤c.toNat):128≤(cZ (c::t)).1∧(cZ (c::t)).1≤1114111∧¬ (55296≤(cZ (c::t)).1∧(cZ (c::t)).1≤57343)∧∀ j,j<(cZ (c::t)).2→128≤((c::t).getD j 0).toNat:=by
 have k0:=c.toNat_lt;have k1:=((c::t).getD 1 0).toNat_lt;have k2:=((c::t).getD 2 0).toNat_lt;have k3:=((c::t).getD 3 0).toNat_lt;have g0:(c::t).getD 0 0=c:=rfl;unfold cZ;rw [Lib.decodeL_N,g0];rcases Lib.decodeN_shape (c::t).length c.toNat ((c::t).getD 1 0).toNat ((c::t).getD 2 0).toNat ((c::t).getD 3 0).toNat with ⟨c,e⟩ | ⟨c1,c2,c3,cv,e⟩ | ⟨c1,c2,c3,c4,cv,cs,e⟩ | ⟨c1,c2,c3,c4,c5,cv,cw,e⟩ | e
 ·omega
 ·rw [e]
  refine ⟨by dsimp only;omega,by dsimp only;omega,by dsimp only;omega,fun j hj => ?_⟩;dsimp only at hj;obtain rfl | rfl:j=0∨j=1:=by omega
  ·rw [g0];exact h
  ·omega
 ·rw [e]
  refine ⟨by dsimp only;omega,by dsimp only;omega,by dsimp only;omega,fun j hj => ?_⟩;dsimp only at hj;obtain rfl | rfl | rfl:j=0∨j=1∨j=2:=by omega
  ·rw [g0];exact h
  ·omega
  ·omega
 ·rw [e]
  refine ⟨by dsimp only;omega,by dsimp only;omega,by dsimp only;omega,fun j hj => ?_⟩;dsimp only at hj;obtain rfl | rfl | rfl | rfl:j=0∨j=1∨j=2∨j=3:=by omega
  ·rw [g0];exact h
  ·omega
  ·omega
  ·omega
 ·rw [e]
  refine ⟨by decide,by decide,by decide,fun j hj => ?_⟩;dsimp only at hj;obtain rfl:j=0:=by omega
  rw [g0];exact h
theorem Fb{c:UInt8}{t:Str}(h:c.toNat<128):cZ (c::t)=(c.toNat,1):=by
 unfold cZ;rw [Lib.decodeL_N];simp [Lib.decodeN,h]
theorem AE{p:UInt8→Bool}:∀ (w:Nat) (l:Str) (i:Nat),w≤l.length→(∀ j,j<w→p (l.getD j 0)=false)→b9 p i l=b9 p (i+w) (l.drop w)
 |0,l,i,_,_=>by simp
 |w+1,[],i,h,_=>by simp at h
 |w+1,c::t,i,h,hp=>by
  have h0:p c=false:=hp 0 (by omega);rw [b9,h0,List.drop_succ_cons,show i+(w+1)=i+1+w by omega];exact AE w t (i+1) (by simpa using h) fun j hj=>by simpa using hp (j+1) (by omega)
theorem Iw{s:Str}(h:s≠[])(i:Nat):b9 dS i s=sel (decide ((0:Int)≤rI (cZ s).1)) (i:Int) (b9 dS (i+(cZ s).2) (s.drop (cZ s).2)):=by
 cases s with
 |nil=>exact absurd rfl h
 |cons c t=>
  by_cases hc:c.toNat<128
  ·rw [Fb hc]
   have:decide ((0:Int)≤rI c.toNat)=dS c:=by
    have h2:∀ n:Fin 128,decide ((0:Int)≤rI n.val)=dS (UInt8.ofNat n.val):=by decide
    have:=h2 ⟨c.toNat,hc⟩;simpa using this
   rw [this];simp only [b9,List.drop_succ_cons,List.drop_zero]
  ·obtain ⟨h1,h2,h3,h4⟩:=Fa (c:=c) (t:=t) (by omega)
   have hr:decide ((0:Int)≤rI (cZ (c::t)).1)=false:=by
    have e1:((cZ (c::t)).1 == 62)=false:=by simp;omega
    have e2:((cZ (c::t)).1 == 125)=false:=by simp;omega
    rw [rI,e1,e2];rfl
   rw [hr,sel_false];exact AE _ _ _ (Bz h) fun j hj=>Iv (h4 j hj)
theorem ia0{H H0:List AObj}(hS:gW E){s:Str}(hs:s.length≤bL){p:Nat}{T:TypeId}(hp:H[p]?=some (.cells kO T))(hc:dt H0 H)(k:List Fra):∀ (n i:Nat) (He:List AObj),i+n=s.length →
  M.go cY H0 (.c ew :: .lp ⟨(some [0,6,8]),[],false⟩ ew He :: .blk 0 :: .c (.lv [])::k) (kv [(0,.str s),(6,.ptr p 0),(8,.int .i64 i)]) H =
   orE (og (Gq dS) i (s.drop i)) (H.take H0.length) (M.go cY H0 k .leaf H)
 |0,i,He,h=>by
  have e:i=s.length:=by omega
  subst e;rw [au M ew.eq_1];simp (maxSteps:=3000000) (maxDischargeDepth:=6) +contextual -implicitDefEqProofs only [amC M,↓amD,Nat.reduceBEq,Nat.reduceAdd,env,ag,cA,Nat.lt_irrefl,List.drop_length]
 |n+1,i,He,h=>by
  have hi:i<s.length:=by omega
  have hx:s[i]?=some s[i]:=List.getElem?_eq_getElem hi;have hd:(s.drop i)=s[i]::s.drop (i+1):=List.drop_eq_getElem_cons hi;have hm:s[i]∈s:=List.getElem_mem hi;have ih:=fun He=>ia0 (H:=H) (H0:=H0) (hS:=hS) (s:=s) (hs:=hs) (p:=p) (T:=T) (hp:=hp) hc k n (i+1)  He (by omega)
  simp only [kv_cons,kv_nil] at ih;rw [au M ew.eq_1];simp (maxSteps:=3000000) (maxDischargeDepth:=6) +contextual -implicitDefEqProofs only [amC M,↓amD,Nat.reduceBEq,Nat.reduceAdd,env,ag,cA,hx,hd,hi,ih,BE M hS hp,gK hi hs,Gq,hc]
theorem ia1(hS:gW E)(hX:oB M){s:Str}(hs:s.length≤bL){H0:List AObj}(k:List Fra):∀ (n i:Nat) (He:List AObj),s.length-i≤n→i≤s.length →
  M.go cY H0 (.c cX :: .lp ⟨(some [1,45]),[],false⟩ cX He :: .blk 2 :: .c (.lv [])::k) (kv [(1,.str [62,125]),(45,.ptr H0.length 0)]) (H0++[.siter s i]) =
   sel (decide ((0:Int)≤b9 dS i (s.drop i))) (some (.ret (.int .i64 (b9 dS i (s.drop i))),H0)) (M.go cY H0 k .leaf (H0++[.siter s s.length]))
 |0,i,He,h,hi=>by
  obtain rfl:i=s.length:=by omega
  rw [List.drop_length];have e:decide ((0:Int)≤b9 dS s.length [])=false:=rfl;rw [au M cX.eq_1];simp (maxSteps:=3000000) (maxDischargeDepth:=6) +contextual -implicitDefEqProofs only [amC M,↓amD,Nat.reduceBEq,Nat.reduceAdd,env,ag,cA,su,aH,List.getElem?_cons_zero,Nat.lt_irrefl,bb,e]
 |n+1,i,He,h,hi=>by
  by_cases hlt:i<s.length
  ·have hne:s.drop i≠[]:=fun e=>by have:=congrArg List.length e;simp at this;omega
   have hw:=yG (s.drop i);have hle:=Bz hne;rw [List.length_drop] at hle;have ih:=fun He=>ia1 hS hX hs (H0:=H0) k n (i+(cZ (s.drop i)).2) He (by omega) (by omega)
   rw [← List.drop_drop] at ih;have hstep:=Iw hne i
   have hru:(cZ (s.drop i)).1≤1114111∧¬ (55296≤(cZ (s.drop i)).1∧(cZ (s.drop i)).1≤57343):=by
    cases hd:s.drop i with
    |nil=>exact absurd hd hne
    |cons c t=>
     by_cases hc:c.toNat<128
     ·rw [Fb hc];exact ⟨by dsimp only;omega,by dsimp only;omega⟩
     ·obtain ⟨_,h2,h3,_⟩:=Fa (c:=c) (t:=t) (by omega)
      exact ⟨h2,h3⟩
   have hI:=fun H=>zY M hS hX hru.1 hru.2 H
   have hdd:Utf8.decode ⟨s.toArray⟩ i=cZ (s.drop i):=Ax s i;simp only [kv_cons,kv_nil] at ih;generalize cZ (s.drop i)=d at *
   cases hpos:decide ((0:Int)≤rI d.1) with
   |true=>
    have hv:b9 dS i (s.drop i)=(i:Int):=by rw [hstep,hpos];rfl
    have e0:decide ((0:Int)≤(i:Int))=true:=decide_eq_true (by omega);rw [hv,e0,sel_true];rw [au M cX.eq_1];simp (maxSteps:=3000000) (maxDischargeDepth:=6) +contextual -implicitDefEqProofs only [amC M,↓amD,Nat.reduceBEq,Nat.reduceAdd,env,ag,cA,amG,AV.cell,Nat.reduceMul,Nat.reduceLeDiff,su,aH,hp_set0,hlt,hdd,bb,List.getElem?_cons_succ,hI,hpos,cut_app,hp_take]
   |false=>
    have hv:b9 dS i (s.drop i)=b9 dS (i+d.2) ((s.drop i).drop d.2):=by rw [hstep,hpos];rfl
    rw [hv];rw [au M cX.eq_1];simp (maxSteps:=3000000) (maxDischargeDepth:=6) +contextual -implicitDefEqProofs only [amC M,↓amD,Nat.reduceBEq,Nat.reduceAdd,env,ag,cA,amG,AV.cell,Nat.reduceMul,Nat.reduceLeDiff,su,aH,hp_set0,hlt,hdd,bb,List.getElem?_cons_succ,hI,hpos,ih]
  ·obtain rfl:i=s.length:=by omega
   rw [List.drop_length];have e:decide ((0:Int)≤b9 dS s.length [])=false:=rfl;rw [au M cX.eq_1];simp (maxSteps:=3000000) (maxDischargeDepth:=6) +contextual -implicitDefEqProofs only [amC M,↓amD,Nat.reduceBEq,Nat.reduceAdd,env,ag,cA,su,aH,List.getElem?_cons_zero,Nat.lt_irrefl,bb,e]
theorem Fc{α:Type}(p:α→Bool):∀ (l:List α) (i:Nat),decide ((0:Int)≤b9 p i l)=false→b9 p i l = -1
 |[],_,_=>rfl
 |x::l,i,h=>by
  rw [b9] at h ⊢;cases hx:p x with
  |true=>rw [hx] at h;simp [sel] at h
  |false=>rw [hx] at h;exact Fc p l (i+1) h
theorem BF(hS:gW E)(hX:oB M){s:Str}(hs:s.length≤bL)(H:List AObj):M.run kC [.str s,.str [62,125]] H=some (.ret (.int .i64 (b9 dS 0 s)),H):=by
 have h8:∀ H,M.run eN [.int .i64 (s.length:Int)] H=some (.ret (.bool (decide ((8:Int)<(s.length:Int)))),H):=fun H=>by
  rw [aV M hS.strings_shouldUseASCIISet rfl (c:=eS) rfl,eS];simp (maxSteps:=3000000) (maxDischargeDepth:=6) +contextual -implicitDefEqProofs only [amC M,↓amD,Nat.reduceBEq,Nat.reduceAdd,env,ag,mZ]
 have e1:(([62,125]:Str) == [])=false:=rfl;have e2:(((([62,125]:Str).length:Nat):Int) == 1)=false:=rfl;have hmk:=J9 M hS;rw [aV M hS.strings_IndexAny rfl (c:=kI) rfl,kI];cases hb:decide ((8:Int)<(s.length:Int)) with
 |true=>
  rw [hb] at h8;have hl:=fun k He=>ia0 M (H:=H++[.cells kO dq]) (H0:=H) hS hs (p:=H.length) (T:=dq) (by rw [aH];rfl) (cut_app H _) k s.length 0 He (by omega)
  simp only [kv_cons,kv_nil,Int.ofNat_zero,List.drop_zero,hp_take] at hl
  have hst:stO 256 (H++[.cells tj dq]) H.length 0 kO (some (.cells tj dq))=some (H++[.cells kO dq]):=by
   simp only [stO];rw [if_pos ⟨rfl,by decide,rfl⟩,hp_set0,J7];rfl
  have hac:bX (.agg kO)=some kO:=rfl;simp (maxSteps:=3000000) (maxDischargeDepth:=6) +contextual -implicitDefEqProofs only [amC M,↓amD,Nat.reduceBEq,Nat.reduceAdd,env,ag,cA,↓Mt,e1,e2,h8,hmk,hac,hst,aH,List.getElem?_cons_zero,(show ∀ H,pZ (some H)=some (dU,H) from fun _=>rfl),hl,cut_app,hp_take];exact vl _ _ _ _
 |false=>
  rw [hb] at h8;have hl:=fun k He=>ia1 M hS hX hs (H0:=H) k s.length 0 He (by omega) (by omega)
  simp only [kv_cons,kv_nil,Int.ofNat_zero,List.drop_zero] at hl;cases hp:decide ((0:Int)≤b9 dS 0 s) with
  |true=>
   rw [hp] at hl;simp (maxSteps:=3000000) (maxDischargeDepth:=6) +contextual -implicitDefEqProofs only [amC M,↓amD,Nat.reduceBEq,Nat.reduceAdd,env,ag,cA,e1,e2,h8,rrg,hl]
  |false=>
   rw [hp] at hl;rw [Fc _ _ _ hp];simp (maxSteps:=3000000) (maxDischargeDepth:=6) +contextual -implicitDefEqProofs only [amC M,↓amD,Nat.reduceBEq,Nat.reduceAdd,env,ag,cA,e1,e2,h8,rrg,hl,cut_app,hp_take]
end
section
attribute [local congr] ak aR aJ al aI aA ao ah ai aC aD
variable{E:aQ}(M:bo bz E)
def eV(x:aa):Str:=sel x.car [43] []
def zZ(s:Str):Str:=(s.map fun c=>if ((c == 92)||(c == 60)||(c == 123))=true then [92,c] else [c]).flatten
def wrF(x:aa):Str:=sel (x.kind == 2) ([60]++eV x++x.text++[62]) (sel (x.kind == 3) ([60,47]++eV x++x.text++[62]) (sel (x.kind == 4) ([60]++x.text++[47,62]) (sel (x.kind == 5) ([123]++x.text++[125]) (zZ x.text))))
def Mu(x:aa):Bool:=(x.kind == 2)||(x.kind == 3)||(x.kind == 4)||(x.kind == 5)
theorem kP(hS:gW E){x:aa}(hx:Mu x=true)(hl:x.text.length≤70368744177664)(H:List AObj):M.run lq [.agg x.row] H=some (.ret (.str (wrF x)),H):=by
 have hkind:x.kind=2∨x.kind=3∨x.kind=4∨x.kind=5:=by simpa [Mu,or_assoc] using hx
 rw [aV M hS.docs_written rfl (c:=nF) rfl,nF];rcases hkind with e | e | e | e
 ·cases hc:x.car with
  |true=>
   have F1:bq .add ([60]) [43]=some (.str (60::[43])):=bp (by simp);have F2:bq .add ([60,43]) x.text=some (.str (60::43::x.text)):=bp (by simp;omega);have F3:bq .add (60::43::x.text) [62]=some (.str (60::43::(x.text++[62]))):=bp (by simp;omega);simp (maxSteps:=3000000) (maxDischargeDepth:=6) +contextual -implicitDefEqProofs only [amC M,↓amD,Nat.reduceBEq,Nat.reduceAdd,env,ag,er,amG,AV.cell,Nat.reduceMul,Nat.reduceLeDiff,aS,aH,e,hc,(show ((2:Int) == 2)=true from rfl),(show ((2:Int) == 3)=false from rfl),(show ((2:Int) == 4)=false from rfl),(show ((2:Int) == 5)=false from rfl),F1,F2,F3,wrF,eV,cut_app,hp_take]
  |false=>
   have F1:bq .add ([60]) []=some (.str (60::[])):=bp (by simp);have F2:bq .add ([60]) x.text=some (.str (60::x.text)):=bp (by simp;omega);have F3:bq .add (60::x.text) [62]=some (.str (60::(x.text++[62]))):=bp (by simp;omega);simp (maxSteps:=3000000) (maxDischargeDepth:=6) +contextual -implicitDefEqProofs only [amC M,↓amD,Nat.reduceBEq,Nat.reduceAdd,env,ag,er,amG,AV.cell,Nat.reduceMul,Nat.reduceLeDiff,aS,aH,e,hc,(show ((2:Int) == 2)=true from rfl),(show ((2:Int) == 3)=false from rfl),(show ((2:Int) == 4)=false from rfl),(show ((2:Int) == 5)=false from rfl),F1,F2,F3,wrF,eV,cut_app,hp_take]
 ·cases hc:x.car with
  |true=>
   have F1:bq .add ([60,47]) [43]=some (.str (60::47::[43])):=bp (by simp);have F2:bq .add ([60,47,43]) x.text=some (.str (60::47::43::x.text)):=bp (by simp;omega);have F3:bq .add (60::47::43::x.text) [62]=some (.str (60::47::43::(x.text++[62]))):=bp (by simp;omega);simp (maxSteps:=3000000) (maxDischargeDepth:=6) +contextual -implicitDefEqProofs only [amC M,↓amD,Nat.reduceBEq,Nat.reduceAdd,env,ag,er,amG,AV.cell,Nat.reduceMul,Nat.reduceLeDiff,aS,aH,e,hc,(show ((3:Int) == 2)=false from rfl),(show ((3:Int) == 3)=true from rfl),(show ((3:Int) == 4)=false from rfl),(show ((3:Int) == 5)=false from rfl),F1,F2,F3,wrF,eV,cut_app,hp_take]
  |false=>
   have F1:bq .add ([60,47]) []=some (.str (60::47::[])):=bp (by simp);have F2:bq .add ([60,47]) x.text=some (.str (60::47::x.text)):=bp (by simp;omega);have F3:bq .add (60::47::x.text) [62]=some (.str (60::47::(x.text++[62]))):=bp (by simp;omega);simp (maxSteps:=3000000) (maxDischargeDepth:=6) +contextual -implicitDefEqProofs only [amC M,↓amD,Nat.reduceBEq,Nat.reduceAdd,env,ag,er,amG,AV.cell,Nat.reduceMul,Nat.reduceLeDiff,aS,aH,e,hc,(show ((3:Int) == 2)=false from rfl),(show ((3:Int) == 3)=true from rfl),(show ((3:Int) == 4)=false from rfl),(show ((3:Int) == 5)=false from rfl),F1,F2,F3,wrF,eV,cut_app,hp_take]
 ·cases hc:x.car with
  |true=>
   have F2:bq .add ([60]) x.text=some (.str (60::x.text)):=bp (by simp;omega);have F3:bq .add (60::x.text) [47,62]=some (.str (60::(x.text++[47,62]))):=bp (by simp;omega);simp (maxSteps:=3000000) (maxDischargeDepth:=6) +contextual -implicitDefEqProofs only [amC M,↓amD,Nat.reduceBEq,Nat.reduceAdd,env,ag,er,amG,AV.cell,Nat.reduceMul,Nat.reduceLeDiff,aS,aH,e,hc,(show ((4:Int) == 2)=false from rfl),(show ((4:Int) == 3)=false from rfl),(show ((4:Int) == 4)=true from rfl),(show ((4:Int) == 5)=false from rfl),F2,F3,wrF,eV,cut_app,hp_take]
  |false=>
   have F2:bq .add ([60]) x.text=some (.str (60::x.text)):=bp (by simp;omega);have F3:bq .add (60::x.text) [47,62]=some (.str (60::(x.text++[47,62]))):=bp (by simp;omega);simp (maxSteps:=3000000) (maxDischargeDepth:=6) +contextual -implicitDefEqProofs only [amC M,↓amD,Nat.reduceBEq,Nat.reduceAdd,env,ag,er,amG,AV.cell,Nat.reduceMul,Nat.reduceLeDiff,aS,aH,e,hc,(show ((4:Int) == 2)=false from rfl),(show ((4:Int) == 3)=false from rfl),(show ((4:Int) == 4)=true from rfl),(show ((4:Int) == 5)=false from rfl),F2,F3,wrF,eV,cut_app,hp_take]
 ·cases hc:x.car with
  |true=>
   have F2:bq .add ([123]) x.text=some (.str (123::x.text)):=bp (by simp;omega);have F3:bq .add (123::x.text) [125]=some (.str (123::(x.text++[125]))):=bp (by simp;omega);simp (maxSteps:=3000000) (maxDischargeDepth:=6) +contextual -implicitDefEqProofs only [amC M,↓amD,Nat.reduceBEq,Nat.reduceAdd,env,ag,er,amG,AV.cell,Nat.reduceMul,Nat.reduceLeDiff,aS,aH,e,hc,(show ((5:Int) == 2)=false from rfl),(show ((5:Int) == 3)=false from rfl),(show ((5:Int) == 4)=false from rfl),(show ((5:Int) == 5)=true from rfl),F2,F3,wrF,eV,cut_app,hp_take]
  |false=>
   have F2:bq .add ([123]) x.text=some (.str (123::x.text)):=bp (by simp;omega);have F3:bq .add (123::x.text) [125]=some (.str (123::(x.text++[125]))):=bp (by simp;omega);simp (maxSteps:=3000000) (maxDischargeDepth:=6) +contextual -implicitDefEqProofs only [amC M,↓amD,Nat.reduceBEq,Nat.reduceAdd,env,ag,er,amG,AV.cell,Nat.reduceMul,Nat.reduceLeDiff,aS,aH,e,hc,(show ((5:Int) == 2)=false from rfl),(show ((5:Int) == 3)=false from rfl),(show ((5:Int) == 4)=false from rfl),(show ((5:Int) == 5)=true from rfl),F2,F3,wrF,eV,cut_app,hp_take]
end
section
attribute [local congr] ak aR aJ al aI aA ao ah ai aC aD
variable{E:aQ}(M:bo bz E)
theorem pV{p:UInt8→Bool}:∀ (l:Str) (i:Nat),(b9 p i l = -1∧b9 p (i+1) l = -1)∨∃ j,j<l.length∧b9 p i l=((i+j:Nat):Int)∧b9 p (i+1) l=((i+1+j:Nat):Int)∧p (l.getD j 0)=true∧∀ k,k<j→p (l.getD k 0)=false
 |[],i=>.inl ⟨rfl,rfl⟩
 |c::l,i=>by
  cases h:p c with
  |true=>exact .inr ⟨0,by simp,by simp [b9,h,sel],by simp [b9,h,sel],h,fun k hk=>absurd hk (Nat.not_lt_zero _)⟩
  |false=>
   rcases pV (p:=p) l (i+1) with ⟨h1,h2⟩ | ⟨j,h1,h2,h3,h4,h5⟩
   ·exact .inl ⟨by simp [b9,h,sel,h1],by simp [b9,h,sel,h2]⟩
   ·refine .inr ⟨j+1,by simpa using h1,by simp [b9,h,sel,h2];omega,by simp [b9,h,sel,h3];omega,by simpa using h4,fun k hk => ?_⟩
    cases k with
    |zero=>exact h
    |succ k=>simpa using h5 k (by omega)
def mkB(c:UInt8)(b:Str):aa:=
 sel (c == 123) ⟨5,b,false⟩ (sel (bY b [47,43]) ⟨3,b.drop 2,true⟩ (sel (bY b [47]) ⟨3,b.drop 1,false⟩ (sel (bY b [43]) ⟨2,b.drop 1,true⟩ (sel (dR b [47]) ⟨4,b.take (b.length-1),false⟩ ⟨2,b,false⟩))))
def mkT(c:UInt8)(t:Str)(j:Nat):Bool:=lP (mkB c (t.take j)).text&&(wrF (mkB c (t.take j)) == c::t.take (j+1))
def mkO:Str→Option (aa×Nat)
 |[]=>none
 |c::t=>sel (decide (b9 dS 0 t<0)) none (sel (mkT c t (b9 dS 0 t).toNat) (some (mkB c (t.take (b9 dS 0 t).toNat),(b9 dS 0 t).toNat+2)) none)
def mkV(o:Option (aa×Nat)):AV:=match o with
 |none=>.tuple [.agg (aa.row dP),.int .i64 0]
 |some (p,n)=>.tuple [.agg p.row,.int .i64 (n:Int)]
theorem Kb(b:Bool)(o:Option (aa×Nat)):mkV (sel b o none)=slc b (mkV o) (mkV none):=by cases b<;>rfl
theorem Ed(hB:j6 E)(hS:gW E)(hX:oB M){c:UInt8}{t:Str}(hc:(c == 60)=true∨(c == 123)=true)(ht:t.length+1≤70368744177664)(H:List AObj) :
  M.run ke [.str (c::t)] H=some (.ret (mkV (mkO (c::t))),H):=by
 have hml:(c::t).length≤bL:=by simp only [bL,List.length_cons];omega
 have hIA:=fun H=>BF M hS hX hml H
 have hce:dS c=false:=by rcases hc with h | h<;>(have:=eq_of_beq h;subst this;rfl)
 have hz:dP.row=[.int .u8 0,.str [],.bool false]:=rfl;rw [mkO];rcases pV (p:=dS) t 0 with ⟨h1,h2⟩ | ⟨j,hj,h1,h2,h3,h4⟩
 ·have e:b9 dS 0 (c::t) = -1:=by rw [b9,hce,sel_false];exact h2
  rw [h1,show decide ((-1:Int)<0)=true from rfl,sel_true];rw [e] at hIA;rw [aV M hS.docs_marked rfl (c:=bU) rfl,bU];simp (maxSteps:=3000000) (maxDischargeDepth:=6) +contextual -implicitDefEqProofs only [amC M,↓amD,Nat.reduceBEq,Nat.reduceAdd,env,ag,fS,amG,AV.cell,Nat.reduceMul,Nat.reduceLeDiff,hIA,(show decide ((-1:Int)<0)=true from rfl),aH,hp_set0,mkV,hz,cut_app,hp_take]
 ·have e:b9 dS 0 (c::t)=((1+j:Nat):Int):=by rw [b9,hce,sel_false];simpa using h2
  have e1:b9 dS 0 t=(j:Int):=by simpa using h1
  have d0:decide ((j:Int)<0)=false:=decide_eq_false (by omega);have d1:decide (((1+j:Nat):Int)<0)=false:=decide_eq_false (by omega)
  have hsl:mE (.str (c::t)) (some (.int .i64 1)) (some (.int .i64 ((1+j:Nat):Int)))=some (.str (t.take j)):=by
   have:=lH (s:=c::t) (k:=.i64) (k':=.i64) (i:=1) (j:=1+j) (by omega) (by simp;omega);rw [show ((1:Nat):Int)=1 from rfl] at this;rw [this,show 1+j-1=j by omega];rfl
  have hw:IntKind.i64.wrap (((1+j:Nat):Int)+1)=((j+2:Nat):Int):=by rw [cU (by omega) (by omega)];omega
  have hs2:mE (.str (c::t)) none (some (.int .i64 ((j+2:Nat):Int)))=some (.str (c::t.take (j+1))):=by
   rw [D4 (by simp;omega)];rfl
  have hbl:(t.take j).length≤70368744177664:=by simp;omega
  have hc0:((c.toNat:Int) == 123)=(c == 123):=by
   rw [Bool.eq_iff_iff,beq_iff_eq,beq_iff_eq];constructor
   ·intro h;exact UInt8.toNat_inj.1 (by have:(123:UInt8).toNat=123:=rfl;omega)
   ·rintro rfl;rfl
  rw [e1,d0,sel_false,show (j:Int).toNat=j from rfl,mkT,Kb];rw [e] at hIA;have hpx:=fun p H=>zW M hS (t.take j) p H
  have hsx:=fun p H=>zX M hS (s:=t.take j) (by simp only [bL];omega) p H
  generalize t.take j=b at hsl hbl hpx hsx;cases h5:c == 123 with
  |true=>
   have hN:=fun H=>kN M hB (s:=(⟨5,b,false⟩:aa).text) (by simp only [bL,List.length_drop,List.length_take];omega) H
   have hW:=fun H=>kP M hS (x:=⟨5,b,false⟩) rfl (by simp only [List.length_drop,List.length_take];omega) H
   have hm:mkB c b=⟨5,b,false⟩:=by rw [mkB,h5];rfl
   rw [hm];simp only [aa.row] at hW;rw [aV M hS.docs_marked rfl (c:=bU) rfl,bU];simp (maxSteps:=3000000) (maxDischargeDepth:=6) +contextual -implicitDefEqProofs only [amC M,↓amD,Nat.reduceBEq,Nat.reduceAdd,env,ag,fS,amG,AV.cell,Nat.reduceMul,Nat.reduceLeDiff,hIA,d1,hsl,hw,hs2,aS,aH,hp_set0,hc0,List.getElem?_cons_zero,hpx,hsx,mkV,hz,cut_app,hp_take,aa.row,hN,hW,h5];rw [← Bool.not_and,slc_not];rfl
  |false=>
  cases hp1:bY b [47,43] with
  |true=>
   have hl2:2≤b.length:=by unfold bY at hp1;simp at hp1;exact hp1.1
   have hs3:=lG (s:=b) (k:=.i64) (i:=2) hl2;rw [show ((2:Nat):Int)=2 from rfl] at hs3;have hN:=fun H=>kN M hB (s:=(⟨3,b.drop 2,true⟩:aa).text) (by simp only [bL,List.length_drop,List.length_take];omega) H
   have hW:=fun H=>kP M hS (x:=⟨3,b.drop 2,true⟩) rfl (by simp only [List.length_drop,List.length_take];omega) H
   have hm:mkB c b=⟨3,b.drop 2,true⟩:=by rw [mkB,h5,hp1];rfl
   rw [hm];simp only [aa.row] at hW;rw [aV M hS.docs_marked rfl (c:=bU) rfl,bU];simp (maxSteps:=3000000) (maxDischargeDepth:=6) +contextual -implicitDefEqProofs only [amC M,↓amD,Nat.reduceBEq,Nat.reduceAdd,env,ag,fS,amG,AV.cell,Nat.reduceMul,Nat.reduceLeDiff,hIA,d1,hsl,hw,hs2,aS,aH,hp_set0,hc0,List.getElem?_cons_zero,hpx,hsx,mkV,hz,cut_app,hp_take,aa.row,hN,hW,hs3,h5,hp1];rw [← Bool.not_and,slc_not];rfl
  |false=>
  cases hp2:bY b [47] with
  |true=>
   have hl2:1≤b.length:=by unfold bY at hp2;simp at hp2;omega
   have hs3:=lG (s:=b) (k:=.i64) (i:=1) hl2;rw [show ((1:Nat):Int)=1 from rfl] at hs3;have hN:=fun H=>kN M hB (s:=(⟨3,b.drop 1,false⟩:aa).text) (by simp only [bL,List.length_drop,List.length_take];omega) H
   have hW:=fun H=>kP M hS (x:=⟨3,b.drop 1,false⟩) rfl (by simp only [List.length_drop,List.length_take];omega) H
   have hm:mkB c b=⟨3,b.drop 1,false⟩:=by rw [mkB,h5,hp1,hp2];rfl
   rw [hm];simp only [aa.row] at hW;rw [aV M hS.docs_marked rfl (c:=bU) rfl,bU];simp (maxSteps:=3000000) (maxDischargeDepth:=6) +contextual -implicitDefEqProofs only [amC M,↓amD,Nat.reduceBEq,Nat.reduceAdd,env,ag,fS,amG,AV.cell,Nat.reduceMul,Nat.reduceLeDiff,hIA,d1,hsl,hw,hs2,aS,aH,hp_set0,hc0,List.getElem?_cons_zero,hpx,hsx,mkV,hz,cut_app,hp_take,aa.row,hN,hW,hs3,h5,hp1,hp2];rw [← Bool.not_and,slc_not];rfl
  |false=>
  cases hp3:bY b [43] with
  |true=>
   have hl2:1≤b.length:=by unfold bY at hp3;simp at hp3;omega
   have hs3:=lG (s:=b) (k:=.i64) (i:=1) hl2;rw [show ((1:Nat):Int)=1 from rfl] at hs3;have hN:=fun H=>kN M hB (s:=(⟨2,b.drop 1,true⟩:aa).text) (by simp only [bL,List.length_drop,List.length_take];omega) H
   have hW:=fun H=>kP M hS (x:=⟨2,b.drop 1,true⟩) rfl (by simp only [List.length_drop,List.length_take];omega) H
   have hm:mkB c b=⟨2,b.drop 1,true⟩:=by rw [mkB,h5,hp1,hp2,hp3];rfl
   rw [hm];simp only [aa.row] at hW;rw [aV M hS.docs_marked rfl (c:=bU) rfl,bU];simp (maxSteps:=3000000) (maxDischargeDepth:=6) +contextual -implicitDefEqProofs only [amC M,↓amD,Nat.reduceBEq,Nat.reduceAdd,env,ag,fS,amG,AV.cell,Nat.reduceMul,Nat.reduceLeDiff,hIA,d1,hsl,hw,hs2,aS,aH,hp_set0,hc0,List.getElem?_cons_zero,hpx,hsx,mkV,hz,cut_app,hp_take,aa.row,hN,hW,hs3,h5,hp1,hp2,hp3];rw [← Bool.not_and,slc_not];rfl
  |false=>
  cases hp4:dR b [47] with
  |true=>
   have hl2:1≤b.length:=by unfold dR at hp4;simp at hp4;omega
   have hs3:=D4 (s:=b) (k:=.i64) (i:=b.length-1) (by omega);have hw3:IntKind.i64.wrap ((b.length:Int)-1)=((b.length-1:Nat):Int):=by rw [cU (by omega) (by omega)];omega
   have hN:=fun H=>kN M hB (s:=(⟨4,b.take (b.length-1),false⟩:aa).text) (by simp only [bL,List.length_drop,List.length_take];omega) H
   have hW:=fun H=>kP M hS (x:=⟨4,b.take (b.length-1),false⟩) rfl (by simp only [List.length_drop,List.length_take];omega) H
   have hm:mkB c b=⟨4,b.take (b.length-1),false⟩:=by rw [mkB,h5,hp1,hp2,hp3,hp4];rfl
   rw [hm];simp only [aa.row] at hW;rw [aV M hS.docs_marked rfl (c:=bU) rfl,bU];simp (maxSteps:=3000000) (maxDischargeDepth:=6) +contextual -implicitDefEqProofs only [amC M,↓amD,Nat.reduceBEq,Nat.reduceAdd,env,ag,fS,amG,AV.cell,Nat.reduceMul,Nat.reduceLeDiff,hIA,d1,hsl,hw,hs2,aS,aH,hp_set0,hc0,List.getElem?_cons_zero,hpx,hsx,mkV,hz,cut_app,hp_take,aa.row,hN,hW,hs3,hw3,h5,hp1,hp2,hp3,hp4];rw [← Bool.not_and,slc_not];rfl
  |false=>
   have hN:=fun H=>kN M hB (s:=(⟨2,b,false⟩:aa).text) (by simp only [bL,List.length_drop,List.length_take];omega) H
   have hW:=fun H=>kP M hS (x:=⟨2,b,false⟩) rfl (by simp only [List.length_drop,List.length_take];omega) H
   have hm:mkB c b=⟨2,b,false⟩:=by rw [mkB,h5,hp1,hp2,hp3,hp4];rfl
   rw [hm];simp only [aa.row] at hW;rw [aV M hS.docs_marked rfl (c:=bU) rfl,bU];simp (maxSteps:=3000000) (maxDischargeDepth:=6) +contextual -implicitDefEqProofs only [amC M,↓amD,Nat.reduceBEq,Nat.reduceAdd,env,ag,fS,amG,AV.cell,Nat.reduceMul,Nat.reduceLeDiff,hIA,d1,hsl,hw,hs2,aS,aH,hp_set0,hc0,List.getElem?_cons_zero,hpx,hsx,mkV,hz,cut_app,hp_take,aa.row,hN,hW,h5,hp1,hp2,hp3,hp4];rw [← Bool.not_and,slc_not];rfl
end
section
attribute [local congr] ak aR aJ al aI aA ao ah ai aC aD
variable{E:aQ}(M:bo bz E)
theorem uE(c d:UInt8):((c.toNat:Int) == (d.toNat:Int))=(c == d):=by
 rw [Bool.eq_iff_iff,beq_iff_eq,beq_iff_eq];exact ⟨fun h=>UInt8.toNat_inj.1 (by omega),fun h=>by rw [h]⟩
theorem Mv(c d:UInt8):(c.toNat == d.toNat)=(c == d):=by
 rw [Bool.eq_iff_iff,beq_iff_eq,beq_iff_eq];exact ⟨fun h=>UInt8.toNat_inj.1 h,fun h=>by rw [h]⟩
theorem qB(c:UInt8):((c.toNat:Int) == 92)=(c == 92)∧((c.toNat:Int) == 60)=(c == 60)∧((c.toNat:Int) == 123)=(c == 123)∧((c.toNat:Int) == 125)=(c == 125)∧((c.toNat:Int) == 62)=(c == 62)∧((c.toNat:Int) == 47)=(c == 47)∧((c.toNat:Int) == 43)=(c == 43)∧((c.toNat:Int) == 32)=(c == 32)∧((c.toNat:Int) == 10)=(c == 10):=
 ⟨uE c 92,uE c 60,uE c 123,uE c 125,uE c 62,uE c 47,uE c 43,uE c 32,uE c 10⟩
theorem AF(c:UInt8)(t:Str):zZ (c::t)=(if ((c == 92)||(c == 60)||(c == 123))=true then [92,c] else [c])++zZ t:=rfl
theorem rwl{x:aa}(hl:x.text.length≤70368744177664){H H0:List AObj}{p:Nat}{T:TypeId}(hp:H[p]?=some (.cells x.row T))(k:List Fra):∀ (n i:Nat) (He:List AObj) (a:Str),i+n=x.text.length→a.length≤2*i →
  M.go dy H0 (.c cq :: .lp ⟨(some [1,4,5]),[],false⟩ cq He :: .blk 1 :: .c (.lv [4])::k) (kv [(1,.ptr p 0),(4,.str a),(5,.int .i64 i)]) H=M.go dy H0 k (kv [(4,.str (a++zZ (x.text.drop i)))]) H
 |0,i,He,a,h,ha=>by
  obtain rfl:i=x.text.length:=by omega
  rw [List.drop_length,show zZ []=[] from rfl,List.append_nil];rw [au M cq.eq_1];simp (maxSteps:=3000000) (maxDischargeDepth:=6) +contextual -implicitDefEqProofs only [amC M,↓amD,Nat.reduceBEq,Nat.reduceAdd,env,ag,aT,hp,aS,Nat.lt_irrefl]
 |n+1,i,He,a,h,ha=>by
  have hi:i<x.text.length:=by omega
  have hx:x.text[i]?=some x.text[i]:=List.getElem?_eq_getElem hi;have hd:x.text.drop i=x.text[i]::x.text.drop (i+1):=List.drop_eq_getElem_cons hi;rw [hd,AF]
  have hsl:mE (.str x.text) (some (.int .i64 (i:Int))) (some (.int .i64 ((i+1:Nat):Int)))=some (.str [x.text[i]]):=by
   rw [lH (by omega) (by omega),hd,show i+1-i=1 by omega];rfl
  generalize x.text[i]=c at *
  have hws:IntKind.i64.wrap ((i:Int)+1)=((i+1:Nat):Int):=gK hi (by simp only [bL];omega);cases hc:(c == 92)||(c == 60)||(c == 123) with
  |true=>
   have ih:=fun He=>rwl (H0:=H0) hl hp k n (i+1) He (a++[92]++[c]) (by omega) (by simp;omega)
   have f1:bq .add a [92]=some (.str (a++[92])):=bp (by simp;omega);have f2:bq .add (a++[92]) [c]=some (.str (a++[92]++[c])):=bp (by simp;omega);rw [if_pos rfl,show a++([92,c]++zZ (x.text.drop (i+1)))=a++[92]++[c]++zZ (x.text.drop (i+1)) by simp];simp only [kv_cons,kv_nil] at ih ⊢;rw [au M cq.eq_1];simp (maxSteps:=3000000) (maxDischargeDepth:=6) +contextual -implicitDefEqProofs only [amC M,↓amD,Nat.reduceBEq,Nat.reduceAdd,env,ag,aT,hp,aS,hi,hx,qB,hc,hsl,hws,f1,f2,ih]
  |false=>
   have ih:=fun He=>rwl (H0:=H0) hl hp k n (i+1) He (a++[c]) (by omega) (by simp;omega)
   have f2:bq .add a [c]=some (.str (a++[c])):=bp (by simp;omega);rw [if_neg (by simp),show a++([c]++zZ (x.text.drop (i+1)))=a++[c]++zZ (x.text.drop (i+1)) by simp];simp only [kv_cons,kv_nil] at ih ⊢;rw [au M cq.eq_1];simp (maxSteps:=3000000) (maxDischargeDepth:=6) +contextual -implicitDefEqProofs only [amC M,↓amD,Nat.reduceBEq,Nat.reduceAdd,env,ag,aT,hp,aS,hi,hx,qB,hc,hsl,hws,f2,ih]
theorem BG(hS:gW E){x:aa}(hl:x.text.length≤70368744177664)(H:List AObj):M.run gr [.agg x.row] H=some (.ret (.str (wrF x)),H):=by
 rw [aV M hS.truchmanref01_written rfl (c:=gC) rfl,gC]
 by_cases e2:x.kind=2
 ·cases hc:x.car with
  |true=>
   have F1:bq .add ([60]) [43]=some (.str (60::[43])):=bp (by simp);have F2:bq .add ([60,43]) x.text=some (.str (60::43::x.text)):=bp (by simp;omega);have F3:bq .add (60::43::x.text) [62]=some (.str (60::43::(x.text++[62]))):=bp (by simp;omega);simp (maxSteps:=3000000) (maxDischargeDepth:=6) +contextual -implicitDefEqProofs only [amC M,↓amD,Nat.reduceBEq,Nat.reduceAdd,env,ag,aT,amG,AV.cell,Nat.reduceMul,Nat.reduceLeDiff,aS,aH,e2,hc,(show ((2:Int) == 2)=true from rfl),(show ((2:Int) == 3)=false from rfl),(show ((2:Int) == 4)=false from rfl),(show ((2:Int) == 5)=false from rfl),F1,F2,F3,wrF,eV,cut_app,hp_take]
  |false=>
   have F1:bq .add ([60]) []=some (.str (60::[])):=bp (by simp);have F2:bq .add ([60]) x.text=some (.str (60::x.text)):=bp (by simp;omega);have F3:bq .add (60::x.text) [62]=some (.str (60::(x.text++[62]))):=bp (by simp;omega);simp (maxSteps:=3000000) (maxDischargeDepth:=6) +contextual -implicitDefEqProofs only [amC M,↓amD,Nat.reduceBEq,Nat.reduceAdd,env,ag,aT,amG,AV.cell,Nat.reduceMul,Nat.reduceLeDiff,aS,aH,e2,hc,(show ((2:Int) == 2)=true from rfl),(show ((2:Int) == 3)=false from rfl),(show ((2:Int) == 4)=false from rfl),(show ((2:Int) == 5)=false from rfl),F1,F2,F3,wrF,eV,cut_app,hp_take]
 by_cases e3:x.kind=3
 ·cases hc:x.car with
  |true=>
   have F1:bq .add ([60,47]) [43]=some (.str (60::47::[43])):=bp (by simp);have F2:bq .add ([60,47,43]) x.text=some (.str (60::47::43::x.text)):=bp (by simp;omega);have F3:bq .add (60::47::43::x.text) [62]=some (.str (60::47::43::(x.text++[62]))):=bp (by simp;omega);simp (maxSteps:=3000000) (maxDischargeDepth:=6) +contextual -implicitDefEqProofs only [amC M,↓amD,Nat.reduceBEq,Nat.reduceAdd,env,ag,aT,amG,AV.cell,Nat.reduceMul,Nat.reduceLeDiff,aS,aH,e3,hc,(show ((3:Int) == 2)=false from rfl),(show ((3:Int) == 3)=true from rfl),(show ((3:Int) == 4)=false from rfl),(show ((3:Int) == 5)=false from rfl),F1,F2,F3,wrF,eV,cut_app,hp_take]
  |false=>
   have F1:bq .add ([60,47]) []=some (.str (60::47::[])):=bp (by simp);have F2:bq .add ([60,47]) x.text=some (.str (60::47::x.text)):=bp (by simp;omega);have F3:bq .add (60::47::x.text) [62]=some (.str (60::47::(x.text++[62]))):=bp (by simp;omega);simp (maxSteps:=3000000) (maxDischargeDepth:=6) +contextual -implicitDefEqProofs only [amC M,↓amD,Nat.reduceBEq,Nat.reduceAdd,env,ag,aT,amG,AV.cell,Nat.reduceMul,Nat.reduceLeDiff,aS,aH,e3,hc,(show ((3:Int) == 2)=false from rfl),(show ((3:Int) == 3)=true from rfl),(show ((3:Int) == 4)=false from rfl),(show ((3:Int) == 5)=false from rfl),F1,F2,F3,wrF,eV,cut_app,hp_take]
 by_cases e4:x.kind=4
 ·cases hc:x.car with
  |true=>
   have F2:bq .add ([60]) x.text=some (.str (60::x.text)):=bp (by simp;omega);have F3:bq .add (60::x.text) [47,62]=some (.str (60::(x.text++[47,62]))):=bp (by simp;omega);simp (maxSteps:=3000000) (maxDischargeDepth:=6) +contextual -implicitDefEqProofs only [amC M,↓amD,Nat.reduceBEq,Nat.reduceAdd,env,ag,aT,amG,AV.cell,Nat.reduceMul,Nat.reduceLeDiff,aS,aH,e4,hc,(show ((4:Int) == 2)=false from rfl),(show ((4:Int) == 3)=false from rfl),(show ((4:Int) == 4)=true from rfl),(show ((4:Int) == 5)=false from rfl),F2,F3,wrF,eV,cut_app,hp_take]
  |false=>
   have F2:bq .add ([60]) x.text=some (.str (60::x.text)):=bp (by simp;omega);have F3:bq .add (60::x.text) [47,62]=some (.str (60::(x.text++[47,62]))):=bp (by simp;omega);simp (maxSteps:=3000000) (maxDischargeDepth:=6) +contextual -implicitDefEqProofs only [amC M,↓amD,Nat.reduceBEq,Nat.reduceAdd,env,ag,aT,amG,AV.cell,Nat.reduceMul,Nat.reduceLeDiff,aS,aH,e4,hc,(show ((4:Int) == 2)=false from rfl),(show ((4:Int) == 3)=false from rfl),(show ((4:Int) == 4)=true from rfl),(show ((4:Int) == 5)=false from rfl),F2,F3,wrF,eV,cut_app,hp_take]
 by_cases e5:x.kind=5
 ·cases hc:x.car with
  |true=>
   have F2:bq .add ([123]) x.text=some (.str (123::x.text)):=bp (by simp;omega);have F3:bq .add (123::x.text) [125]=some (.str (123::(x.text++[125]))):=bp (by simp;omega);simp (maxSteps:=3000000) (maxDischargeDepth:=6) +contextual -implicitDefEqProofs only [amC M,↓amD,Nat.reduceBEq,Nat.reduceAdd,env,ag,aT,amG,AV.cell,Nat.reduceMul,Nat.reduceLeDiff,aS,aH,e5,hc,(show ((5:Int) == 2)=false from rfl),(show ((5:Int) == 3)=false from rfl),(show ((5:Int) == 4)=false from rfl),(show ((5:Int) == 5)=true from rfl),F2,F3,wrF,eV,cut_app,hp_take]
  |false=>
   have F2:bq .add ([123]) x.text=some (.str (123::x.text)):=bp (by simp;omega);have F3:bq .add (123::x.text) [125]=some (.str (123::(x.text++[125]))):=bp (by simp;omega);simp (maxSteps:=3000000) (maxDischargeDepth:=6) +contextual -implicitDefEqProofs only [amC M,↓amD,Nat.reduceBEq,Nat.reduceAdd,env,ag,aT,amG,AV.cell,Nat.reduceMul,Nat.reduceLeDiff,aS,aH,e5,hc,(show ((5:Int) == 2)=false from rfl),(show ((5:Int) == 3)=false from rfl),(show ((5:Int) == 4)=false from rfl),(show ((5:Int) == 5)=true from rfl),F2,F3,wrF,eV,cut_app,hp_take]
 have g2:(x.kind == 2)=false:=by simpa using e2
 have g3:(x.kind == 3)=false:=by simpa using e3
 have g4:(x.kind == 4)=false:=by simpa using e4
 have g5:(x.kind == 5)=false:=by simpa using e5
 have hlp:=fun k He=>rwl M hl (H:=H++[.cells x.row ae]) (H0:=H) (p:=H.length) (T:=ae) (by rw [aH];rfl) k x.text.length 0 He [] (by omega) (by simp)
 simp only [kv_cons,kv_nil,Int.ofNat_zero,List.drop_zero,List.nil_append] at hlp;cases hc:x.car with
 |true=>simp (maxSteps:=3000000) (maxDischargeDepth:=6) +contextual -implicitDefEqProofs only [amC M,↓amD,Nat.reduceBEq,Nat.reduceAdd,env,ag,aT,amG,AV.cell,Nat.reduceMul,Nat.reduceLeDiff,aS,aH,hc,g2,g3,g4,g5,hlp,wrF,cut_app,hp_take]
 |false=>simp (maxSteps:=3000000) (maxDischargeDepth:=6) +contextual -implicitDefEqProofs only [amC M,↓amD,Nat.reduceBEq,Nat.reduceAdd,env,ag,aT,amG,AV.cell,Nat.reduceMul,Nat.reduceLeDiff,aS,aH,hc,g2,g3,g4,g5,hlp,wrF,cut_app,hp_take]
theorem upl{H H0:List AObj}{s:Str}(hs:s.length≤bL)(c:UInt8)(hc:dt H0 H)(k:List Fra):∀ (n i:Nat) (He:List AObj),i+n=s.length →
  M.go ep H0 (.c dI :: .lp ⟨(some [0,2,7]),[],false⟩ dI He :: .blk 0 :: .c (.lv [])::k) (kv [(0,.str s),(2,.int .u8 c.toNat),(7,.int .i64 i)]) H =
   orE (og (Gq fun d=>d == c) i (s.drop i)) (H.take H0.length) (M.go ep H0 k .leaf H)
 |0,i,He,h=>by
  have e:i=s.length:=by omega
  subst e;rw [au M dI.eq_1];simp (maxSteps:=3000000) (maxDischargeDepth:=6) +contextual -implicitDefEqProofs only [amC M,↓amD,Nat.reduceBEq,Nat.reduceAdd,env,ag,jv,Nat.lt_irrefl,List.drop_length]
 |n+1,i,He,h=>by
  have hi:i<s.length:=by omega
  have hx:s[i]?=some s[i]:=List.getElem?_eq_getElem hi;have hd:(s.drop i)=s[i]::s.drop (i+1):=List.drop_eq_getElem_cons hi;have hm:s[i]∈s:=List.getElem_mem hi;have ih:=fun He=>upl (H:=H) (H0:=H0) (s:=s) (hs:=hs) (c:=c) hc k n (i+1)  He (by omega)
  simp only [kv_cons,kv_nil] at ih;rw [au M dI.eq_1];simp (maxSteps:=3000000) (maxDischargeDepth:=6) +contextual -implicitDefEqProofs only [amC M,↓amD,Nat.reduceBEq,Nat.reduceAdd,env,ag,jv,hx,hd,hi,ih,gK hi hs,Mv,Gq,hc]
theorem uF(hS:gW E){s:Str}(hs:s.length≤bL){i:Nat}(hi:i≤s.length)(c:UInt8)(H:List AObj):M.run en [.str s,.int .i64 i,.int .u8 c.toNat] H=some (.ret (.int .i64 (b9 (fun d=>d == c) i (s.drop i))),H):=by
 rw [aV M hS.truchmanref01_upTo rfl (c:=ju) rfl,ju];have hl:=fun k He=>upl M (s:=s) hs c (cut_refl H) k (s.length-i) i He (by omega)
 simp only [kv_cons,kv_nil] at hl;simp (maxSteps:=3000000) (maxDischargeDepth:=6) +contextual -implicitDefEqProofs only [amC M,↓amD,Nat.reduceBEq,Nat.reduceAdd,env,ag,jv,hl];exact vl _ _ _ _
def il(x:aa):aa:=match x.text with
 |[]=>x
 |d::u=>sel ((d == 43)&&((x.kind == 2)||(x.kind == 3))) ⟨x.kind,u,true⟩ x
def o1(s:Str)(x:aa):aa×Bool:=(il x,lP (il x).text&&(wrF (il x) == s))
def rmk(s:Str):aa×Bool:=
 sel (decide ((s.length:Int)<3)) (dP,false) (sel ((s.getD 0 0 == 123)&&(s.getD (s.length-1) 0 == 125)) (o1 s ⟨5,(s.drop 1).take (s.length-2),false⟩)
  (sel (!(s.getD 0 0 == 60) || !(s.getD (s.length-1) 0 == 62)) (⟨2,(s.drop 1).take (s.length-2),false⟩,false)
   (sel (s.getD 1 0 == 47) (o1 s ⟨3,(s.drop 2).take (s.length-3),false⟩) (sel (s.getD (s.length-2) 0 == 47) (o1 s ⟨4,(s.drop 1).take (s.length-3),false⟩) (o1 s ⟨2,(s.drop 1).take (s.length-2),false⟩)))))
def uG(r:aa×Bool):AV:=.tuple [.agg r.1.row,.bool r.2]
theorem C7(hB:j6 E)(hS:gW E){s:Str}(hs:s.length≤70368744177664)(H:List AObj):M.run gM [.str s] H=some (.ret (uG (rmk s)),H):=by
 have hz:dP.row=[.int .u8 0,.str [],.bool false]:=rfl;rw [rmk];cases h3:decide ((s.length:Int)<3) with
 |true=>
  rw [aV M hS.truchmanref01_marked rfl (c:=aE) rfl,aE];simp (maxSteps:=3000000) (maxDischargeDepth:=6) +contextual -implicitDefEqProofs only [amC M,↓amD,Nat.reduceBEq,Nat.reduceAdd,env,ag,bg,amG,AV.cell,Nat.reduceMul,Nat.reduceLeDiff,h3,aH,hp_set0,uG,hz,cut_app,hp_take]
 |false=>
 have hn:3≤s.length:=by have:=of_decide_eq_false h3;omega
 have x0:s[0]?=some (s.getD 0 0):=by rw [List.getD,List.getElem?_eq_getElem (show 0<s.length by omega)];rfl
 have x1:s[1]?=some (s.getD 1 0):=by rw [List.getD,List.getElem?_eq_getElem (show 1<s.length by omega)];rfl
 have xl:s[s.length-1]?=some (s.getD (s.length-1) 0):=by rw [List.getD,List.getElem?_eq_getElem (show s.length-1<s.length by omega)];rfl
 have xp:s[s.length-2]?=some (s.getD (s.length-2) 0):=by rw [List.getD,List.getElem?_eq_getElem (show s.length-2<s.length by omega)];rfl
 have hw1:IntKind.i64.wrap ((s.length:Int)-1)=((s.length-1:Nat):Int):=by rw [cU (by omega) (by omega)];omega
 have hw2:IntKind.i64.wrap ((s.length:Int)-2)=((s.length-2:Nat):Int):=by rw [cU (by omega) (by omega)];omega
 have sA:=lH (s:=s) (k:=.i64) (k':=.i64) (i:=1) (j:=s.length-1) (by omega) (by omega);have sB:=lH (s:=s) (k:=.i64) (k':=.i64) (i:=2) (j:=s.length-1) (by omega) (by omega);have sC:=lH (s:=s) (k:=.i64) (k':=.i64) (i:=1) (j:=s.length-2) (by omega) (by omega);rw [show ((1:Nat):Int)=1 from rfl,show s.length-1-1=s.length-2 by omega] at sA;rw [show ((2:Nat):Int)=2 from rfl,show s.length-1-2=s.length-3 by omega] at sB
 rw [show ((1:Nat):Int)=1 from rfl,show s.length-2-1=s.length-3 by omega] at sC;have bA:((s.drop 1).take (s.length-2)).length≤70368744177664:=by simp;omega
 have bB:((s.drop 2).take (s.length-3)).length≤70368744177664:=by simp;omega
 have bC:((s.drop 1).take (s.length-3)).length≤70368744177664:=by simp;omega
 have hN:=fun (x:aa) (h:x.text.length≤70368744177664) H=>CZ M hB (s:=x.text) (by simp only [bL];omega) H
 have hW:=fun (x:aa) (h:x.text.length≤70368744177664) H=>BG M hS (x:=x) h H
 generalize (s.drop 1).take (s.length-2)=A at *
 generalize (s.drop 2).take (s.length-3)=B at *
 generalize (s.drop 1).take (s.length-3)=C at *
 cases c1:(s.getD 0 0 == 123)&&(s.getD (s.length-1) 0 == 125) with
 |true=>
  cases A with
  |nil=>
   have hN1:=hN ⟨5,[],false⟩ (by simp at * <;> omega);have hW1:=hW ⟨5,[],false⟩ (by simp at * <;> omega);simp only [aa.row] at hW1;rw [aV M hS.truchmanref01_marked rfl (c:=aE) rfl,aE];simp (maxSteps:=3000000) (maxDischargeDepth:=6) +contextual -implicitDefEqProofs only [amC M,↓amD,Nat.reduceBEq,Nat.reduceAdd,env,ag,bg,amG,AV.cell,Nat.reduceMul,Nat.reduceLeDiff,h3,x0,x1,xl,xp,hw1,hw2,sA,sB,sC,qB,aS,aH,hp_set0,uG,o1,il,aa.row,cut_app,hp_take,hN1,hW1,(show ((5:Int) == 2)=false from rfl),(show ((5:Int) == 3)=false from rfl),List.length_nil,(show decide ((0:Int)<((0:Nat):Int))=false from rfl),c1]
  |cons d u=>
   have hgt:decide ((0:Int)<(((d::u).length:Nat):Int))=true:=decide_eq_true (by simp<;>omega);have hgt2:decide ((0:Int)<((u.length+1:Nat):Int))=true:=hgt;have hN1:=hN ⟨5,d::u,false⟩ (by simp at * <;> omega);have hW1:=hW ⟨5,d::u,false⟩ (by simp at * <;> omega);simp only [aa.row] at hW1;rw [aV M hS.truchmanref01_marked rfl (c:=aE) rfl,aE];simp (maxSteps:=3000000) (maxDischargeDepth:=6) +contextual -implicitDefEqProofs only [amC M,↓amD,Nat.reduceBEq,Nat.reduceAdd,env,ag,bg,amG,AV.cell,Nat.reduceMul,Nat.reduceLeDiff,h3,x0,x1,xl,xp,hw1,hw2,sA,sB,sC,qB,aS,aH,hp_set0,uG,o1,il,aa.row,cut_app,hp_take,hN1,hW1,(show ((5:Int) == 2)=false from rfl),(show ((5:Int) == 3)=false from rfl),hgt,hgt2,List.getElem?_cons_zero,c1]
 |false=>
 cases c2 : !(s.getD 0 0 == 60) || !(s.getD (s.length-1) 0 == 62) with
 |true=>
  rw [aV M hS.truchmanref01_marked rfl (c:=aE) rfl,aE];simp (maxSteps:=3000000) (maxDischargeDepth:=6) +contextual -implicitDefEqProofs only [amC M,↓amD,Nat.reduceBEq,Nat.reduceAdd,env,ag,bg,amG,AV.cell,Nat.reduceMul,Nat.reduceLeDiff,h3,x0,x1,xl,xp,hw1,hw2,sA,sB,sC,qB,aS,aH,hp_set0,uG,o1,il,aa.row,cut_app,hp_take,c1,c2]
 |false=>
 cases c3:s.getD 1 0 == 47 with
 |true=>
  cases B with
  |nil=>
   have hN1:=hN ⟨3,[],false⟩ (by simp at * <;> omega);have hW1:=hW ⟨3,[],false⟩ (by simp at * <;> omega);simp only [aa.row] at hW1;rw [aV M hS.truchmanref01_marked rfl (c:=aE) rfl,aE];simp (maxSteps:=3000000) (maxDischargeDepth:=6) +contextual -implicitDefEqProofs only [amC M,↓amD,Nat.reduceBEq,Nat.reduceAdd,env,ag,bg,amG,AV.cell,Nat.reduceMul,Nat.reduceLeDiff,h3,x0,x1,xl,xp,hw1,hw2,sA,sB,sC,qB,aS,aH,hp_set0,uG,o1,il,aa.row,cut_app,hp_take,hN1,hW1,(show ((3:Int) == 2)=false from rfl),(show ((3:Int) == 3)=true from rfl),List.length_nil,(show decide ((0:Int)<((0:Nat):Int))=false from rfl),c1,c2,c3]
  |cons d u=>
   have hgt:decide ((0:Int)<(((d::u).length:Nat):Int))=true:=decide_eq_true (by simp<;>omega);have hgt2:decide ((0:Int)<((u.length+1:Nat):Int))=true:=hgt;have hs1:=lG (s:=d::u) (k:=.i64) (i:=1) (by simp);rw [show ((1:Nat):Int)=1 from rfl,List.drop_succ_cons,List.drop_zero] at hs1;cases hd:d == 43 with
   |true=>
    have hN1:=hN ⟨3,u,true⟩ (by simp at * <;> omega);have hW1:=hW ⟨3,u,true⟩ (by simp at * <;> omega);simp only [aa.row] at hW1;rw [aV M hS.truchmanref01_marked rfl (c:=aE) rfl,aE];simp (maxSteps:=3000000) (maxDischargeDepth:=6) +contextual -implicitDefEqProofs only [amC M,↓amD,Nat.reduceBEq,Nat.reduceAdd,env,ag,bg,amG,AV.cell,Nat.reduceMul,Nat.reduceLeDiff,h3,x0,x1,xl,xp,hw1,hw2,sA,sB,sC,qB,aS,aH,hp_set0,uG,o1,il,aa.row,cut_app,hp_take,hN1,hW1,(show ((3:Int) == 2)=false from rfl),(show ((3:Int) == 3)=true from rfl),hgt,hgt2,hd,hs1,List.getElem?_cons_zero,c1,c2,c3]
   |false=>
    have hN1:=hN ⟨3,d::u,false⟩ (by simp at * <;> omega);have hW1:=hW ⟨3,d::u,false⟩ (by simp at * <;> omega);simp only [aa.row] at hW1;rw [aV M hS.truchmanref01_marked rfl (c:=aE) rfl,aE];simp (maxSteps:=3000000) (maxDischargeDepth:=6) +contextual -implicitDefEqProofs only [amC M,↓amD,Nat.reduceBEq,Nat.reduceAdd,env,ag,bg,amG,AV.cell,Nat.reduceMul,Nat.reduceLeDiff,h3,x0,x1,xl,xp,hw1,hw2,sA,sB,sC,qB,aS,aH,hp_set0,uG,o1,il,aa.row,cut_app,hp_take,hN1,hW1,(show ((3:Int) == 2)=false from rfl),(show ((3:Int) == 3)=true from rfl),hgt,hgt2,hd,hs1,List.getElem?_cons_zero,c1,c2,c3]
 |false=>
 cases c4:s.getD (s.length-2) 0 == 47 with
 |true=>
  cases C with
  |nil=>
   have hN1:=hN ⟨4,[],false⟩ (by simp at * <;> omega);have hW1:=hW ⟨4,[],false⟩ (by simp at * <;> omega);simp only [aa.row] at hW1;rw [aV M hS.truchmanref01_marked rfl (c:=aE) rfl,aE];simp (maxSteps:=3000000) (maxDischargeDepth:=6) +contextual -implicitDefEqProofs only [amC M,↓amD,Nat.reduceBEq,Nat.reduceAdd,env,ag,bg,amG,AV.cell,Nat.reduceMul,Nat.reduceLeDiff,h3,x0,x1,xl,xp,hw1,hw2,sA,sB,sC,qB,aS,aH,hp_set0,uG,o1,il,aa.row,cut_app,hp_take,hN1,hW1,(show ((4:Int) == 2)=false from rfl),(show ((4:Int) == 3)=false from rfl),List.length_nil,(show decide ((0:Int)<((0:Nat):Int))=false from rfl),c1,c2,c3,c4]
  |cons d u=>
   have hgt:decide ((0:Int)<(((d::u).length:Nat):Int))=true:=decide_eq_true (by simp<;>omega);have hgt2:decide ((0:Int)<((u.length+1:Nat):Int))=true:=hgt;have hN1:=hN ⟨4,d::u,false⟩ (by simp at * <;> omega);have hW1:=hW ⟨4,d::u,false⟩ (by simp at * <;> omega);simp only [aa.row] at hW1;rw [aV M hS.truchmanref01_marked rfl (c:=aE) rfl,aE];simp (maxSteps:=3000000) (maxDischargeDepth:=6) +contextual -implicitDefEqProofs only [amC M,↓amD,Nat.reduceBEq,Nat.reduceAdd,env,ag,bg,amG,AV.cell,Nat.reduceMul,Nat.reduceLeDiff,h3,x0,x1,xl,xp,hw1,hw2,sA,sB,sC,qB,aS,aH,hp_set0,uG,o1,il,aa.row,cut_app,hp_take,hN1,hW1,(show ((4:Int) == 2)=false from rfl),(show ((4:Int) == 3)=false from rfl),hgt,hgt2,List.getElem?_cons_zero,c1,c2,c3,c4]
 |false=>
  cases A with
  |nil=>
   have hN1:=hN ⟨2,[],false⟩ (by simp at * <;> omega);have hW1:=hW ⟨2,[],false⟩ (by simp at * <;> omega);simp only [aa.row] at hW1;rw [aV M hS.truchmanref01_marked rfl (c:=aE) rfl,aE];simp (maxSteps:=3000000) (maxDischargeDepth:=6) +contextual -implicitDefEqProofs only [amC M,↓amD,Nat.reduceBEq,Nat.reduceAdd,env,ag,bg,amG,AV.cell,Nat.reduceMul,Nat.reduceLeDiff,h3,x0,x1,xl,xp,hw1,hw2,sA,sB,sC,qB,aS,aH,hp_set0,uG,o1,il,aa.row,cut_app,hp_take,hN1,hW1,(show ((2:Int) == 2)=true from rfl),(show ((2:Int) == 3)=false from rfl),List.length_nil,(show decide ((0:Int)<((0:Nat):Int))=false from rfl),c1,c2,c3,c4]
  |cons d u=>
   have hgt:decide ((0:Int)<(((d::u).length:Nat):Int))=true:=decide_eq_true (by simp<;>omega);have hgt2:decide ((0:Int)<((u.length+1:Nat):Int))=true:=hgt;have hs1:=lG (s:=d::u) (k:=.i64) (i:=1) (by simp);rw [show ((1:Nat):Int)=1 from rfl,List.drop_succ_cons,List.drop_zero] at hs1;cases hd:d == 43 with
   |true=>
    have hN1:=hN ⟨2,u,true⟩ (by simp at * <;> omega);have hW1:=hW ⟨2,u,true⟩ (by simp at * <;> omega);simp only [aa.row] at hW1;rw [aV M hS.truchmanref01_marked rfl (c:=aE) rfl,aE];simp (maxSteps:=3000000) (maxDischargeDepth:=6) +contextual -implicitDefEqProofs only [amC M,↓amD,Nat.reduceBEq,Nat.reduceAdd,env,ag,bg,amG,AV.cell,Nat.reduceMul,Nat.reduceLeDiff,h3,x0,x1,xl,xp,hw1,hw2,sA,sB,sC,qB,aS,aH,hp_set0,uG,o1,il,aa.row,cut_app,hp_take,hN1,hW1,(show ((2:Int) == 2)=true from rfl),(show ((2:Int) == 3)=false from rfl),hgt,hgt2,hd,hs1,List.getElem?_cons_zero,c1,c2,c3,c4]
   |false=>
    have hN1:=hN ⟨2,d::u,false⟩ (by simp at * <;> omega);have hW1:=hW ⟨2,d::u,false⟩ (by simp at * <;> omega);simp only [aa.row] at hW1;rw [aV M hS.truchmanref01_marked rfl (c:=aE) rfl,aE];simp (maxSteps:=3000000) (maxDischargeDepth:=6) +contextual -implicitDefEqProofs only [amC M,↓amD,Nat.reduceBEq,Nat.reduceAdd,env,ag,bg,amG,AV.cell,Nat.reduceMul,Nat.reduceLeDiff,h3,x0,x1,xl,xp,hw1,hw2,sA,sB,sC,qB,aS,aH,hp_set0,uG,o1,il,aa.row,cut_app,hp_take,hN1,hW1,(show ((2:Int) == 2)=true from rfl),(show ((2:Int) == 3)=false from rfl),hgt,hgt2,hd,hs1,List.getElem?_cons_zero,c1,c2,c3,c4]
end
end Go.Am
