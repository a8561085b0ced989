import Derived.Test.YthbkdffdgopjeaaGreatDoorA4
import Derived.Lib.MapLaws
import Derived.Stop.FmtQuoteTie
import Derived.Lib.Bytealg
/-
  Part 5 of the tool: an abstract machine over the model, proved sound, and what it says of the functions that the law reaches. Condition: none but those that each theorem names.
-/
set_option linter.unusedVariables false
set_option linter.unusedSimpArgs false
set_option maxRecDepth 100000
set_option maxHeartbeats 4000000
namespace Go.Am
open Go.RowKit
section
open Go.Proofs
def KX(g:FuncId)(xs:List AV)(H:List AObj):Option Out:=
 match xs with
 |[.str s,.int .u8 c]=>bif Nat.beq g bu then some (.ret (.int .i64 (Lib.indexByte s c.toNat.toUInt8)),H) else none
 |[.fn _ _ _]=>none
 |[x]=>bif Nat.beq g dy then some (.ret x,H) else none
 |_=>none
theorem KY:w6 Tryz.prog bu Extern.BytealgIndexByte.indexByte:=.of Tryz.func163 (by kernel_rfl) (by kernel_rfl) (by kernel_rfl) (by kernel_rfl)
theorem MP:w6 Tryz.prog dy Extern.AbiNoEscape.same:=.of Tryz.func124 (by kernel_rfl) (by kernel_rfl) (by kernel_rfl) (by kernel_rfl)
theorem Gc{g:FuncId}{xs:List AV}{H H':List AObj}{r:oD}(h:KX g xs H=some (r,H')):cQ Tryz.prog G0 g xs H fun r2 H2=>r2=r∧H2=H':=by
 unfold KX at h;split at h
 ·rename_i s c
  cases h2:Nat.beq g bu with
  |true=>rw [h2] at h;cases h;rw [Nat.eq_of_beq_eq_true h2];exact Hi KY s c H
  |false=>rw [h2] at h;cases h
 ·cases h
 ·rename_i x _
  cases h1:Nat.beq g dy with
  |true=>rw [h1] at h;cases h;rw [Nat.eq_of_beq_eq_true h1];exact I5 MP x H
  |false=>rw [h1] at h;cases h
 ·cases h
theorem Gd:Tryz.prog.follows .mixedOrders=true:=by kernel_rfl
theorem g0:∀ (n g:Nat) (cs:List AV),G0 g=some cs→wkbL n cs=true:=I8
def KZ:FuncId→List AV→List AObj→Option (List (List AV)×List Nat):=fun g cap H=>bif Nat.beq g 88 then vh cap H else none
theorem Ge(g:FuncId)(cap:List AV)(H:List AObj)(xs:List (List AV))(L:List Nat)(h:KZ g cap H=some (xs,L)):(∀ x∈xs,x.length=1∧∀ v∈x,vO v=true)∧(∀ args w,(callFunc g args).run Tryz.prog w = .ok (.enter g args) w) ∧
  ∀ K w lb,K.glob=G0→Inv K H w→Vs K cap lb→Mo Tryz.prog g lb (xs.map fun x=>(x.map rO).toArray) L K H:=by
 unfold KZ at h;cases hb:Nat.beq g 88 with
 |true=>rw [hb] at h;rw [Nat.eq_of_beq_eq_true hb];exact Hp h
 |false=>rw [hb] at h;cases h
noncomputable def E0:aT := { P:=Tryz.prog,G:=G0,fn:=Nw,orc:=KX,dfn:=Jc,seq:=KZ,sar:=fun _=>1 }
theorem Gf:E0.Ok:=⟨Gd,fun f af h=>KV f af h,fun f d af h=>Jn f d af h,(fun _ _ _ _ _ h=>by cases h),fun _ _ _ _ _ h=>Gc h,(fun _ _ _ h=>by cases h),Ge⟩
end
section
open Go.Proofs
theorem K6:∀ f args H,E0.wo f args H=none:=fun _ _ _=>rfl
def ps0:List RPc:=[]
theorem ok0:∀ p∈ps0,p.Ok E0.P E0.G:=fun p h=>by cases h
def p1:RPc:=⟨28,[(.str [97,32,92,60,98,62,32,60,98,62,120,60,47,98,62,123,110,125])],[],(.tuple [(.slice .any 3 [[(.int .u8 1),(.str [97,32,60,98,62,32]),(.bool false)],[(.int .u8 2),(.str [98]),(.bool false)],[(.int .u8 1),(.str [120]),(.bool false)],[(.int .u8 3),(.str [98]),(.bool false)],[(.int .u8 5),(.str [110]),(.bool false)]]),(.int .u8 0)])⟩
def ps1:List RPc:=p1::ps0
theorem ok1:∀ p∈ps1,p.Ok E0.P E0.G:=sW Gf g0 ok0 K6 (by kernel_rfl)
def p2:RPc:=⟨32,[(.slice .full 3 [[(.str [37,98,68,114,46,37,115]),(.str []),(.bool false)],[(.str [37,112,37,115]),(.str [37,117]),(.bool true)]]),(.slice .full 3 [[(.int .u8 1),(.str [68,114,46,32,65,32,105,115,32,105,110,46,32,71,111]),(.bool false)]])],[],(.tuple [(.slice .any 1 [[(.int .i64 13)]]),(.int .u8 0)])⟩
def ps2:List RPc:=p2::ps1
theorem ok2:∀ p∈ps2,p.Ok E0.P E0.G:=sW Gf g0 ok1 K6 (by kernel_rfl)
def p3:RPc:=⟨10,[(.slice .full 3 [[(.int .u8 2),(.str [98]),(.bool false)],[(.int .u8 1),(.str [114,101,100]),(.bool false)],[(.int .u8 3),(.str [98]),(.bool false)],[(.int .u8 1),(.str [32,104,111,117,115,101]),(.bool false)]]),(.slice .full 1 [[(.str [99,97,115,97])],[(.str [114,111,106,97])]]),(.slice .full 2 [[(.int .i64 0),(.int .i64 1)],[(.int .i64 1),(.int .i64 0)]])],(dd 12 ([.tok 1 9]++(dd 7 ([.tok 16 82]++(dd 11 ([.tok 1 9]++(dd 43 ([.tok 1 9]++(dd 20 [.tok 6 9]))))))))),(.tuple [(.slice .any 3 [[(.int .u8 1),(.str [99,97,115,97,32]),(.bool false)],[(.int .u8 2),(.str [98]),(.bool false)],[(.int .u8 1),(.str [114,111,106,97]),(.bool false)],[(.int .u8 3),(.str [98]),(.bool false)]]),(.int .u8 0)])⟩
def ps3:List RPc:=p3::ps2
theorem ok3:∀ p∈ps3,p.Ok E0.P E0.G:=sW Gf g0 ok2 K6 (by kernel_rfl)
theorem Hq:FW (EP E0 ps3) 1000000 cE [] []=some (.bool true):=by kernel_rfl
theorem Jp(H:List AObj):cQ Tryz.prog G0 cE [] H fun r H'=>r = .ret (.bool true)∧H'=H:=DP (L2 Gf g0 ok3 K6) g0 Hq rfl
end
def bE(s:Str):Nat×Nat:=Lib.decodeL s
theorem rG(s:Str):1≤(bE s).2:=Lib.decodeL_width s
theorem vt{s:Str}(h:s≠[]):(bE s).2≤s.length:=Lib.decodeL_le s h
theorem wz(s:Str)(i:Nat):Utf8.decode ⟨s.toArray⟩ i=bE (s.drop i):=(Lib.decodeL_drop ⟨s.toArray⟩ i).symm
theorem NV(r:Nat):(Utf8.encode (r:Int)).data.toList=Lib.encodeRune (r:Int):=by
 have h:=Extern.FmtText.encode_eq r;unfold Lib.encodeRune;rw [← h,Extern.FmtText.nums,List.map_map]
 conv=>lhs;rw [← List.map_id (Utf8.encode (r:Int)).data.toList]
 refine List.map_congr_left fun c _ => ?_
 simp
theorem K7{s:Str}(hne:s≠[])(hv:¬ ((bE s).1=65533∧(bE s).2=1)):(Utf8.encode ((bE s).1:Int)).data.toList=s.take (bE s).2:=by
 rw [NV];exact Lib.encode_decode s hne hv
def vu:Nat→Str→List Nat
 |0,_=>[]
 |n+1,s=>match s with
  |[]=>[]
  |c::t=>(bE (c::t)).1::vu n ((c::t).drop (bE (c::t)).2)
theorem pq(n:Nat):vu n []=[]:=by cases n<;>rfl
theorem nz{n:Nat}{s:Str}(h:s≠[]):vu (n+1) s=(bE s).1::vu n (s.drop (bE s).2):=by
 cases s with
 |nil=>exact absurd rfl h
 |cons c t=>rfl
theorem BD:∀ (n m:Nat) (s:Str),s.length≤n→s.length≤m→vu n s=vu m s
 |0,m,s,h,_=>by
  obtain rfl:s=[]:=List.eq_nil_of_length_eq_zero (by omega);rw [pq,pq]
 |n+1,0,s,_,h=>by
  obtain rfl:s=[]:=List.eq_nil_of_length_eq_zero (by omega);rw [pq,pq]
 |n+1,m+1,s,h,h'=>by
  by_cases hs:s=[]
  ·subst hs;rw [pq,pq]
  ·have hw:=rG s
   rw [nz hs,nz hs,BD n m _ (by rw [List.length_drop];omega) (by rw [List.length_drop];omega)]
def bF(s:Str):List Nat:=vu s.length s
theorem tl{s:Str}(h:s≠[]):bF s=(bE s).1::bF (s.drop (bE s).2):=by
 have hl:0<s.length:=List.length_pos_iff.2 h;have hw:=rG s;obtain ⟨n,hn⟩:∃ n,s.length=n+1:=⟨s.length-1,by omega⟩
 unfold bF;rw [hn,nz h,BD n (s.drop (bE s).2).length _ (by rw [List.length_drop];omega) (Nat.le_refl _)]
theorem w9(s:Str):∀ (n i:Nat),jw ⟨s.toArray⟩ n i=(vu n (s.drop i)).map Int.ofNat
 |0,i=>rfl
 |n+1,i=>by
  rw [jw];have hsz:(ByteArray.mk s.toArray).size=s.length:=by simp [ByteArray.size]
  by_cases h:i<s.length
  ·rw [if_pos (by rw [hsz];exact h),nz (fun e=>by have:=congrArg List.length e;simp at this;omega),w9 s n,wz,List.map_cons,List.drop_drop]
  ·rw [if_neg (by rw [hsz];exact h),List.drop_of_length_le (by omega),pq];rfl
theorem BE(s:Str):el s=(bF s).map Int.ofNat:=by
 unfold el bF;rw [w9,List.drop_zero]
def K8(r w:Nat):Bool:=((r:Int) == 65533)&&decide ((w:Int)<2)||decide ((r:Int)<32)||((r:Int) == 127)
def vv:Nat→Str→Bool
 |0,_=>true
 |n+1,s=>match s with
  |[]=>true
  |c::t => !K8 (bE (c::t)).1 (bE (c::t)).2&&vv n ((c::t).drop (bE (c::t)).2)
theorem Hr(n:Nat):vv n []=true:=by cases n<;>rfl
theorem Fl{n:Nat}{s:Str}(h:s≠[]):vv (n+1) s=(!K8 (bE s).1 (bE s).2&&vv n (s.drop (bE s).2)):=by
 cases s with
 |nil=>exact absurd rfl h
 |cons c t=>rfl
def tm(s:Str):Bool:=vv s.length s
theorem xb:∀ l:List Nat,runeStr (l.map Int.ofNat)=(l.map fun r=>(Utf8.encode ((r:Nat):Int)).data.toList).flatten
 |[]=>rfl
 |r::l=>by rw [List.map_cons,runeStr,xb l,List.map_cons,List.flatten_cons,Int.ofNat_eq_natCast]
def A4(l:List Nat):Str:=(l.map fun r=>(Utf8.encode ((r:Nat):Int)).data.toList).flatten
theorem Ht(r:Nat)(l:List Nat):A4 (r::l)=(Utf8.encode (r:Int)).data.toList++A4 l:=rfl
theorem K9{r:Nat}(h:r=65533):(Utf8.encode (r:Int)).data.toList=[239,191,189]:=by
 rw [Extern.FmtText.enc3 r (by omega) (by omega) (by omega),h];rfl
theorem La(t:Str):bE (239::191::189::t)=(65533,3):=by
 unfold bE;rw [Lib.decodeL_N];simp [Lib.decodeN]
def zN:Nat→Str→Bool
 |0,_=>true
 |n+1,s=>match s with
  |[]=>true
  |c::t => !(((bE (c::t)).1 == 65533)&&((bE (c::t)).2 == 1))&&zN n ((c::t).drop (bE (c::t)).2)
theorem BF:∀ (n:Nat) (s:Str),s.length≤n→((A4 (vu n s) == s)=zN n s)
 |0,s,h=>by
  obtain rfl:s=[]:=List.eq_nil_of_length_eq_zero (by omega);rfl
 |n+1,[],_=>rfl
 |n+1,c::t,h=>by
  have hw:=rG (c::t);have ih:=BF n ((c::t).drop (bE (c::t)).2) (by rw [List.length_drop];simp at h ⊢;omega);rw [nz (by simp),Ht,zN]
  by_cases hb:(bE (c::t)).1=65533∧(bE (c::t)).2=1
  ·have hbb:(((bE (c::t)).1 == 65533)&&((bE (c::t)).2 == 1))=true:=by simp [hb]
   rw [hbb,Bool.not_true,Bool.false_and,beq_eq_false_iff_ne,K9 hb.1];intro e;generalize A4 (vu n ((c::t).drop (bE (c::t)).2))=u at e;have e2:c::t=(239:UInt8)::191::189::u:=by rw [← e];rfl
   rw [e2,La] at hb;exact absurd hb.2 (by decide)
  ·have hbb:(((bE (c::t)).1 == 65533)&&((bE (c::t)).2 == 1))=false:=by
    rw [Bool.and_eq_false_iff]
    by_cases h1:(bE (c::t)).1=65533
    ·right;simp;exact fun h2=>hb ⟨h1,h2⟩
    ·left;simpa using h1
   rw [hbb,Bool.not_false,Bool.true_and,← ih,K7 (by simp) hb,Bool.eq_iff_iff,beq_iff_eq,beq_iff_eq];constructor
   ·intro e
    have e3:(c::t).take (bE (c::t)).2++A4 (vu n ((c::t).drop (bE (c::t)).2))=(c::t).take (bE (c::t)).2++(c::t).drop (bE (c::t)).2:=by rw [List.take_append_drop];exact e
    exact List.append_cancel_left e3
   ·intro e
    rw [e,List.take_append_drop]
def okR(l:List Nat):Bool:=l.all fun r => !(decide ((r:Int)<32)||((r:Int) == 127))
theorem zO:∀ (n:Nat) (s:Str),s.length≤n→(zN n s&&okR (vu n s))=vv n s
 |0,s,h=>rfl
 |n+1,[],_=>rfl
 |n+1,c::t,h=>by
  have hw:=rG (c::t);have ih:=zO n ((c::t).drop (bE (c::t)).2) (by rw [List.length_drop];simp at h ⊢;omega);rw [nz (by simp),zN,vv,← ih];unfold okR K8;rw [List.all_cons];have e1:(((bE (c::t)).1:Int) == 65533)=((bE (c::t)).1 == 65533):=by rw [Bool.eq_iff_iff];simp;omega
  have e2:decide (((bE (c::t)).2:Int)<2)=((bE (c::t)).2 == 1):=by rw [Bool.eq_iff_iff];simp;omega
  rw [e1,e2];cases ((bE (c::t)).1 == 65533)<;>cases ((bE (c::t)).2 == 1)<;>cases decide (((bE (c::t)).1:Int)<32)<;>cases (((bE (c::t)).1:Int) == 127)<;>simp
theorem Hu(s:Str):(sel (A4 (bF s) == s) (okR (bF s)) false)=tm s:=by
 unfold tm;rw [← zO s.length s (Nat.le_refl _),← BF s.length s (Nat.le_refl _)];show sel _ _ _=(A4 (bF s) == s&&_)
 cases A4 (bF s) == s<;>rfl
theorem D8:∀ (n:Nat) (s:Str),(vu n s).length≤s.length
 |0,_=>Nat.zero_le _
 |n+1,[]=>by simp [vu]
 |n+1,c::t=>by
  have hw:=rG (c::t);have:=D8 n ((c::t).drop (bE (c::t)).2);rw [nz (by simp),List.length_cons];rw [List.length_drop] at this;simp at this ⊢;omega
theorem pw(s:Str):(bF s).length≤s.length:=D8 _ _
section
attribute [local congr] aD a8 aO aE aN aI aF au aw aJ aK
variable{E:aT}(M:br bP E)
structure fV (E:aT):Prop where
 docs_isText:E.fn jr=some ju
 docs_isName:E.fn nG=some jv
 truchmanref01_Text:E.fn gC=some eL
 truchmanref01_Name:E.fn gD=some eM
 docs_carried_takes:E.fn gA=some gF
 docs_stack_string_pop:E.fn iy=some eR
 docs_stack_string_push:E.fn gL=some gV
 docs_CheckPieces:E.fn bQ=some eB
 truchmanref01_alone:E.fn jz=some jG
 truchmanref01_carried:E.fn iw=some dB
 truchmanref01_CheckPieces:E.fn cI=some cJ
 truchmanref01_SamePieces:E.fn bt=some b9
 truchmanlaw01_long:E.fn gv=some cS
def Hv(s:Str):Nat×Nat:=if s=[] then (65533,0) else bE s
structure wA (M:br bP E):Prop where
 dec:∀ (s:Str) (H:List AObj),M.run bH [.str s] H=some (.ret (.tuple [.int .i32 ((Hv s).1:Int),.int .i64 ((Hv s).2:Int)]),H)
theorem px{s:Str}{k:IntKind}{i:Nat}(h:i≤s.length):vN (.str s) (some (.int k (i:Int))) none=some (.str (s.drop i)):=by
 simp [vN,dq,h];exact List.take_of_length_le (by simp)
theorem Fm{s:Str}{k:IntKind}{i:Nat}(h:i≤s.length):vN (.str s) none (some (.int k (i:Int)))=some (.str (s.take i)):=by
 simp [vN,dq,h]
theorem tn{s:Str}{k k':IntKind}{i j:Nat}(h:i≤j)(hj:j≤s.length):vN (.str s) (some (.int k (i:Int))) (some (.int k' (j:Int)))=some (.str ((s.drop i).take (j-i))):=by
 simp [vN,dq,h,hj]
theorem MQ{a b:Nat}(h:a+b≤bh):IntKind.i64.wrap ((a:Int)+(b:Int))=((a+b:Nat):Int):=by
 simp only [bh] at h;rw [eE (by omega) (by omega)];omega
theorem Fo{α:Type}(b p:Bool)(x y:α):slc b y (slc p x y)=slc (!b&&p) x y:=by cases b<;>rfl
theorem txl(hX:wA M){s:Str}(hs:s.length≤bh){H H0:List AObj}(hc:dh H0 H)(k:List Fra):∀ (n i:Nat) (He:List AObj),s.length-i≤n→i≤s.length →
  M.go ju H0 (.c gk :: .lp ⟨(some [0,3]),[],false⟩ gk He :: .blk 0 :: .c (.lv [])::k) (kv [(0,.str s),(3,.int .i64 i)]) H=sel (vv n (s.drop i)) (M.go ju H0 k .leaf H) (some (.ret (.bool false),H.take H0.length))
 |0,i,He,h,hi=>by
  obtain rfl:i=s.length:=by omega
  rw [al M gk.eq_1];simp (maxSteps:=3000000) (maxDischargeDepth:=6) +contextual -implicitDefEqProofs only [amC M,↓amD,Nat.reduceBEq,Nat.reduceAdd,env,ah,nI,Nat.lt_irrefl,vv]
 |n+1,i,He,h,hi=>by
  by_cases hlt:i<s.length
  ·have hne:s.drop i≠[]:=fun e=>by have:=congrArg List.length e;simp at this;omega
   have hw:=rG (s.drop i);have hle:=vt hne;rw [List.length_drop] at hle;have hd:=fun H=>hX.dec (s.drop i) H
   have hg:Hv (s.drop i)=bE (s.drop i):=if_neg hne;rw [hg] at hd;have ih:=fun He=>txl hX hs hc k n (i+(bE (s.drop i)).2) He (by omega) (by omega)
   rw [← List.drop_drop] at ih;have hws:=MQ (a:=i) (b:=(bE (s.drop i)).2) (by omega);rw [Fl hne];simp only [kv_cons,kv_nil] at ih;generalize bE (s.drop i)=d at *
   rw [al M gk.eq_1];simp (maxSteps:=3000000) (maxDischargeDepth:=6) +contextual -implicitDefEqProofs only [amC M,↓amD,Nat.reduceBEq,Nat.reduceAdd,env,ah,nI,hlt,px hi,hd,ih,hws,K8,hc];exact Fo _ _ _ _
  ·obtain rfl:i=s.length:=by omega
   rw [List.drop_length,Hr];rw [al M gk.eq_1];simp (maxSteps:=3000000) (maxDischargeDepth:=6) +contextual -implicitDefEqProofs only [amC M,↓amD,Nat.reduceBEq,Nat.reduceAdd,env,ah,nI,Nat.lt_irrefl]
theorem zP(hB:fV E)(hX:wA M){s:Str}(hs:s.length≤bh)(H:List AObj):M.run jr [.str s] H=some (.ret (.bool (tm s)),H):=by
 rw [aG M hB.docs_isText rfl (c:=qb) rfl,qb];have hl:=fun k He=>txl M hX hs (cut_refl H) k s.length 0 He (by omega) (by omega)
 simp only [kv_cons,kv_nil,Int.ofNat_zero,List.drop_zero] at hl;simp (maxSteps:=3000000) (maxDischargeDepth:=6) +contextual -implicitDefEqProofs only [amC M,↓amD,Nat.reduceBEq,Nat.reduceAdd,env,ah,nI,hl,tm]
theorem Lb(t:Tag)(l:List Nat):yu (.slice t 1 ((l.map Int.ofNat).map fun n=>[.int .i32 n]))=some (.str (A4 l)):=by
 have h:∀ l:List Nat,vI ((l.map Int.ofNat).map fun n=>[AV.int .i32 n])=some (l.map Int.ofNat):=fun l=>by
  induction l with
  |nil=>rfl
  |cons r l ih=>simp only [List.map_cons,vI] at ih ⊢;rw [ih];rfl
 simp only [yu,h,Option.map_some,xb];rfl
theorem Lc{s:Str}(h:s.length≤70368744177664):yt (.str s)=some (.slice .any 1 ((bF s).map fun r:Nat=>[AV.int .i32 (r:Int)])):=by
 simp only [yt,if_pos h,BE,List.map_map];rfl
def lS(r:Nat):List AV:=[.int .i32 (r:Int)]
theorem vw{s:Str}(h:s.length≤70368744177664):yt (.str s)=some (.slice .any 1 ((bF s).map lS)):=Lc h
theorem Ld(t:Tag)(l:List Nat):yu (.slice t 1 (l.map lS))=some (.str (A4 l)):=by
 rw [← Lb t l,List.map_map];rfl
theorem tr:(∀ r:Nat,bJ none (lS r) 0=some (.int .i32 (r:Int))):=fun _=>rfl
theorem rtx{H H0:List AObj}{l:List Nat}(hl:l.length≤bh)(hc:dh H0 H)(k:List Fra):∀ (n i:Nat) (He:List AObj),i+n=l.length →
  M.go eL H0 (.c dV :: .lp ⟨(some [3,4]),[],false⟩ dV He :: .blk 0 :: .c (.lv [])::k) (kv [(3,.slice .any 1 (l.map lS)),(4,.int .i64 i)]) H =
   sel ((l.drop i).all fun r => !(decide ((r:Int)<32)||((r:Int) == 127))) (M.go eL H0 k .leaf H) (some (.ret (.bool false),H.take H0.length))
 |0,i,He,h=>by
  have e:i=l.length:=by omega
  subst e;rw [al M dV.eq_1];simp (maxSteps:=3000000) (maxDischargeDepth:=6) +contextual -implicitDefEqProofs only [amC M,↓amD,Nat.reduceBEq,Nat.reduceAdd,env,ah,kx,Nat.lt_irrefl,List.drop_length,List.all_nil]
 |n+1,i,He,h=>by
  have hi:i<l.length:=by omega
  have hx:l[i]?=some l[i]:=List.getElem?_eq_getElem hi;have hd:(l.drop i)=l[i]::l.drop (i+1):=List.drop_eq_getElem_cons hi;have hm:l[i]∈l:=List.getElem_mem hi;have ih:=fun He=>rtx (H:=H) (H0:=H0) (l:=l) (hl:=hl) hc k n (i+1)  He (by omega)
  simp only [kv_cons,kv_nil] at ih;rw [al M dV.eq_1];simp (maxSteps:=3000000) (maxDischargeDepth:=6) +contextual -implicitDefEqProofs only [amC M,↓amD,Nat.reduceBEq,Nat.reduceAdd,env,ah,kx,hx,hd,hi,ih,dJ hi hl,a7 hi,tr,List.all_cons,hc];exact Fo _ _ _ _
theorem D9(hB:fV E){s:Str}(hs:s.length≤70368744177664)(H:List AObj):M.run gC [.str s] H=some (.ret (.bool (tm s)),H):=by
 rw [← Hu];have hn:(bF s).length≤bh:=by have:=pw s;simp only [bh];omega
 rw [aG M hB.truchmanref01_Text rfl (c:=ku) rfl,ku];have hl:=fun k He=>rtx M (l:=bF s) hn (cut_refl H) k (bF s).length 0 He (by omega)
 simp only [kv_cons,kv_nil,Int.ofNat_zero,List.drop_zero] at hl;simp (maxSteps:=3000000) (maxDischargeDepth:=6) +contextual -implicitDefEqProofs only [amC M,↓amD,Nat.reduceBEq,Nat.reduceAdd,env,ah,kx,hl,vw hs,Ld,okR]
def inN(c:UInt8):Bool:=decide (97≤(c.toNat:Int))&&decide ((c.toNat:Int)≤122)||decide (48≤(c.toNat:Int))&&decide ((c.toNat:Int)≤57)||((c.toNat:Int) == 45)
def m8(s:Str):Bool:=match s with
 |[]=>false
 |c::t=>decide (((c::t).length:Int)≤16)&&decide (97≤(c.toNat:Int))&&decide ((c.toNat:Int)≤122)&&(c::t).all inN
theorem dlt(a b:Int):decide (a<b) = !decide (b≤a):=by rw [Bool.eq_iff_iff];simp
theorem nml{H H0:List AObj}{s:Str}(hs:s.length≤bh)(hc:dh H0 H)(k:List Fra):∀ (n i:Nat) (He:List AObj),i+n=s.length →
  M.go jv H0 (.c je :: .lp ⟨(some [0,23,24]),[],false⟩ je He :: .blk 0 :: .c (.lv [])::k) (kv [(0,.str s),(23,.int .i64 s.length),(24,.int .i64 i)]) H =
   sel ((s.drop i).all inN) (M.go jv H0 k .leaf H) (some (.ret (.bool false),H.take H0.length))
 |0,i,He,h=>by
  have e:i=s.length:=by omega
  subst e;rw [al M je.eq_1];simp (maxSteps:=3000000) (maxDischargeDepth:=6) +contextual -implicitDefEqProofs only [amC M,↓amD,Nat.reduceBEq,Nat.reduceAdd,env,ah,nL,Nat.lt_irrefl,List.drop_length,List.all_nil]
 |n+1,i,He,h=>by
  have hi:i<s.length:=by omega
  have hx:s[i]?=some s[i]:=List.getElem?_eq_getElem hi;have hd:(s.drop i)=s[i]::s.drop (i+1):=List.drop_eq_getElem_cons hi;have hm:s[i]∈s:=List.getElem_mem hi;have ih:=fun He=>nml (H:=H) (H0:=H0) (s:=s) (hs:=hs) hc k n (i+1)  He (by omega)
  simp only [kv_cons,kv_nil] at ih;rw [al M je.eq_1];simp (maxSteps:=3000000) (maxDischargeDepth:=6) +contextual -implicitDefEqProofs only [amC M,↓amD,Nat.reduceBEq,Nat.reduceAdd,env,ah,nL,hx,hd,hi,ih,dJ hi hs,List.all_cons,hc,inN]
theorem rnl{H H0:List AObj}{s:Str}(hs:s.length≤bh)(hc:dh H0 H)(k:List Fra):∀ (n i:Nat) (He:List AObj),i+n=s.length →
  M.go eM H0 (.c dW :: .lp ⟨(some [0,3]),[],false⟩ dW He :: .blk 0 :: .c (.lv [])::k) (kv [(0,.str s),(3,.int .i64 i)]) H =
   sel ((s.drop i).all inN) (M.go eM H0 k .leaf H) (some (.ret (.bool false),H.take H0.length))
 |0,i,He,h=>by
  have e:i=s.length:=by omega
  subst e;rw [al M dW.eq_1];simp (maxSteps:=3000000) (maxDischargeDepth:=6) +contextual -implicitDefEqProofs only [amC M,↓amD,Nat.reduceBEq,Nat.reduceAdd,env,ah,gG,Nat.lt_irrefl,List.drop_length,List.all_nil]
 |n+1,i,He,h=>by
  have hi:i<s.length:=by omega
  have hx:s[i]?=some s[i]:=List.getElem?_eq_getElem hi;have hd:(s.drop i)=s[i]::s.drop (i+1):=List.drop_eq_getElem_cons hi;have hm:s[i]∈s:=List.getElem_mem hi;have ih:=fun He=>rnl (H:=H) (H0:=H0) (s:=s) (hs:=hs) hc k n (i+1)  He (by omega)
  simp only [kv_cons,kv_nil] at ih;rw [al M dW.eq_1];simp (maxSteps:=3000000) (maxDischargeDepth:=6) +contextual -implicitDefEqProofs only [amC M,↓amD,Nat.reduceBEq,Nat.reduceAdd,env,ah,gG,hx,hd,hi,ih,dJ hi hs,List.all_cons,hc,inN,dlt];rw [Fo];congr 1;simp only [Bool.not_and,Bool.not_or,Bool.not_not]
theorem l7(hB:fV E){s:Str}(hs:s.length≤bh)(H:List AObj):M.run nG [.str s] H=some (.ret (.bool (m8 s)),H):=by
 rw [aG M hB.docs_isName rfl (c:=qd) rfl,qd];have hl:=fun k He=>nml M (s:=s) hs (cut_refl H) k s.length 0 He (by omega)
 simp only [kv_cons,kv_nil,Int.ofNat_zero,List.drop_zero] at hl;cases s with
 |nil=>simp (maxSteps:=3000000) (maxDischargeDepth:=6) +contextual -implicitDefEqProofs only [amC M,↓amD,Nat.reduceBEq,Nat.reduceAdd,env,ah,nL,hl,m8,(show (([]:Str) == [])=true from rfl)]
 |cons c t=>
  simp (maxSteps:=3000000) (maxDischargeDepth:=6) +contextual -implicitDefEqProofs only [amC M,↓amD,Nat.reduceBEq,Nat.reduceAdd,env,ah,nL,hl,m8,dlt,List.getElem?_cons_zero,(show ((c::t) == ([]:Str))=false from rfl)];simp only [Bool.not_or,Bool.not_not]
theorem Ea(hB:fV E){s:Str}(hs:s.length≤bh)(H:List AObj):M.run gD [.str s] H=some (.ret (.bool (m8 s)),H):=by
 rw [aG M hB.truchmanref01_Name rfl (c:=ky) rfl,ky];have hl:=fun k He=>rnl M (s:=s) hs (cut_refl H) k s.length 0 He (by omega)
 simp only [kv_cons,kv_nil,Int.ofNat_zero,List.drop_zero] at hl;cases s with
 |nil=>simp (maxSteps:=3000000) (maxDischargeDepth:=6) +contextual -implicitDefEqProofs only [amC M,↓amD,Nat.reduceBEq,Nat.reduceAdd,env,ah,gG,hl,m8,List.length_nil,(show ((((0:Nat):Int)) == 0)=true from rfl)]
 |cons c t=>
  have h0:(((c::t).length:Int) == 0)=false:=by simp;omega
  simp (maxSteps:=3000000) (maxDischargeDepth:=6) +contextual -implicitDefEqProofs only [amC M,↓amD,Nat.reduceBEq,Nat.reduceAdd,env,ah,gG,hl,m8,dlt,List.getElem?_cons_zero,h0];simp only [Bool.not_or,Bool.not_not]
end
section
attribute [local congr] aD a8 aO aE aN aI aF au aw aJ aK
variable{E:aT}(M:br bP E)
def Pre(H0 G:List AObj):Prop:=H0.length≤G.length∧∀ i,i<H0.length→G[i]?=H0[i]?
theorem Pre.refl(H:List AObj):Pre H H:=⟨Nat.le_refl _,fun _ _=>rfl⟩
theorem Pre.cut{H0 G:List AObj}(h:Pre H0 G):dh H0 G:=⟨h.1,fun i x hi hx=>.inl (by rw [← h.2 i hi];exact hx)⟩
theorem Pre.take{H0 G:List AObj}(h:Pre H0 G):G.take H0.length=H0:=by
 refine List.ext_getElem? fun i => ?_
 rw [List.getElem?_take];split
 ·rename_i hi;exact h.2 i hi
 ·rename_i hi;rw [List.getElem?_eq_none (by omega)]
theorem Pre.trans{A B C:List AObj}(h:Pre A B)(h':Pre B C):Pre A C:=⟨Nat.le_trans h.1 h'.1,fun i hi=>by rw [h'.2 i (Nat.lt_of_lt_of_le hi h.1),h.2 i hi]⟩
theorem Pre.app{H0 G:List AObj}(h:Pre H0 G)(L:List AObj):Pre H0 (G++L):=⟨by have:=h.1;simp;omega,fun i hi=>by
 have:=h.1;rw [List.getElem?_append_left (by omega)];exact h.2 i hi⟩
theorem Pre.set{H0 G:List AObj}(h:Pre H0 G){id:Nat}(hid:H0.length≤id)(o:AObj):Pre H0 (G.set id o):=⟨by simpa using h.1,fun i hi=>by
 rw [List.getElem?_set_ne (by omega)];exact h.2 i hi⟩
def But(b p:Nat)(G G':List AObj):Prop:=G.length≤G'.length∧∀ i,i<b→i≠p→G'[i]?=G[i]?
theorem But.refl(b p:Nat)(G:List AObj):But b p G G:=⟨Nat.le_refl _,fun _ _ _=>rfl⟩
theorem But.pre{H0 G G':List AObj}{b p:Nat}(h:But b p G G')(hp:Pre H0 G)(hb:H0.length≤b)(hq:H0.length≤p):Pre H0 G':=
 ⟨Nat.le_trans hp.1 h.1,fun i hi=>by rw [h.2 i (by omega) (by omega)];exact hp.2 i hi⟩
theorem bT{G:List AObj}{i:Nat}{x:AObj}(h:G[i]?=some x):i<G.length:=(List.getElem?_eq_some_iff.1 h).1
theorem Gg{G:List AObj}{i:Nat}(h:i<G.length)(o:AObj)(L:List AObj):(G++L).set i o=G.set i o++L:=by rw [List.set_append_left _ _ h]
theorem Jq{G:List AObj}{i:Nat}(h:i<G.length)(o:AObj):(G.set i o)[i]?=some o:=List.getElem?_set_self h
theorem Jr{G:List AObj}{i:Nat}(h:i<G.length)(o:AObj)(L:List AObj):(G.set i o++L)[i]?=some o:=by
 rw [List.getElem?_append_left (by simpa using h)];exact Jq h o
theorem Eb{G:List AObj}{i:Nat}{o:AObj}(hw:Dx G.length o):dh G (G.set i o):=by
 refine ⟨by simp,fun j x hj hx => ?_⟩;rw [List.getElem?_set] at hx;split at hx
 ·split at hx
  ·cases hx;exact .inr hw
  ·cases hx
 ·exact .inl hx
theorem Js{G:List AObj}{i:Nat}{o:AObj}(ho:Dx G.length o)(L:List AObj):dh G (G.set i o++L):=DT (Eb ho) L
theorem Hw{G:List AObj}{i:Nat}(o:AObj)(L:List AObj):(G.set i o++L).take G.length=G.set i o:=by
 rw [List.take_append_of_le_length (by simp)];exact List.take_of_length_le (by simp)
theorem Hx(n:Nat)(b e:Bool)(T:TypeId):Dx n (.cells [.bool b,.bool e] T):=by
 intro c hc;simp at hc;rcases hc with rfl | rfl<;>exact wk_bool _ _
def ea(x:ag):Bool:=(x.kind == 2)&&x.car
def cO(x:ag):Bool:=(x.kind == 3)&&x.car
def qj(b e:Bool)(x:ag):Bool := !(ea x&&b||e && !cO x)
theorem Hy(hB:fV E){G:List AObj}{c:Nat}{b e:Bool}{T:TypeId}(hc:G[c]?=some (.cells [.bool b,.bool e] T))(x:ag) :
  M.run gA [.ptr c 0,.agg x.row] G=some (.ret (.bool (qj b e x)),if qj b e x=true then G.set c (.cells [.bool (b || !ea x),.bool (e||cO x)] T) else G):=by
 rw [aG M hB.docs_carried_takes rfl (c:=ks) rfl,ks];have hl:=bT hc;have g1:=fun L=>bU (L:=L) hc
 have g2:=Jr hl;have s1:=Gg hl;have s2:∀ (o o':AObj) (L:List AObj),(G.set c o++L).set c o'=G.set c o'++L:=fun o o' L=>by rw [Gg (by simpa using hl),List.set_set]
 have l0:∀ b e:Bool,bJ none [.bool b,.bool e] 0=some (.bool b):=fun _ _=>rfl
 have l1:∀ b e:Bool,bJ none [.bool b,.bool e] 1=some (.bool e):=fun _ _=>rfl
 have e1:∀ b e b':Bool,bo [.bool b,.bool e] 0 [.bool b']=[.bool b',.bool e]:=fun _ _ _=>rfl
 have e2:∀ b e b':Bool,bo [.bool b,.bool e] 1 [.bool b']=[.bool b,.bool b']:=fun _ _ _=>rfl
 have hq:((x.kind == 2)&&x.car)=ea x:=rfl;have hq2:((x.kind == 3)&&x.car)=cO x:=rfl;have ck:∀ b e L,dh G (G.set c (.cells [.bool b,.bool e] T)++L):=fun b e L=>Js (Hx _ _ _ _) L
 have tk:=fun o L=>Hw (G:=G) (i:=c) o L
 cases hcase:(ea x&&b||e && !cO x) with
 |true=>
  rw [qj,hcase];simp (maxSteps:=3000000) (maxDischargeDepth:=6) +contextual -implicitDefEqProofs only [amC M,↓amD,Nat.reduceBEq,Nat.reduceAdd,env,ah,nW,amG,AV.cell,Nat.reduceMul,Nat.reduceLeDiff,aQ,aj,rnc,g1,g2,s1,s2,l0,l1,e1,e2,hq,hq2,hcase,ck,tk,cut_app,hp_take]
 |false=>
  rw [qj,hcase];simp (maxSteps:=3000000) (maxDischargeDepth:=6) +contextual -implicitDefEqProofs only [amC M,↓amD,Nat.reduceBEq,Nat.reduceAdd,env,ah,nW,amG,AV.cell,Nat.reduceMul,Nat.reduceLeDiff,aQ,aj,rnc,g1,g2,s1,s2,l0,l1,e1,e2,hq,hq2,hcase,ck,tk,cut_app,hp_take]
end
section
attribute [local congr] aD a8 aO aE aN aI aF au aw aJ aK
variable{E:aT}(M:br bP E)
structure sg (M:br bP E):Prop where
 index:∀ (s:Str) (c:UInt8) (H:List AObj),M.run bu [.str s,.int .u8 c.toNat] H=some (.ret (.int .i64 (Lib.indexByte s c)),H)
 same:∀ (i o:Nat) (H:List AObj),M.run dy [.ptr i o] H=some (.ret (.ptr i o),H)
structure BldE (E:aT):Prop where
abbrev Nx(s:Str):List (List AV):=s.map fun b=>[.int .u8 (b.toNat:Int)]
end
section
attribute [local congr] aD a8 aO aE aN aI aF au aw aJ aK
variable{E:aT}(M:br bP E)
structure fM (E:aT):Prop where
 strings_IndexAny:E.fn lU=some cY
 strings_IndexRune:E.fn ie=some iq
 strings_makeASCIISet:E.fn iN=some ft
 strings_asciiSet_contains:E.fn fm=some dF
 strings_shouldUseASCIISet:E.fn fk=some dE
 strings_IndexByte:E.fn ig=some iu
 internal_stringslite_IndexByte:E.fn bO=some cN
 strings_HasPrefix:E.fn eZ=some ik
 internal_stringslite_HasPrefix:E.fn dL=some cL
 strings_HasSuffix:E.fn kU=some il
 internal_stringslite_HasSuffix:E.fn dM=some cM
 unicode_utf8_ValidRune:E.fn gM=some eC
 docs_marked:E.fn lH=some nJ
 docs_written:E.fn kf=some ph
 truchmanref01_written:E.fn dx=some dC
 truchmanref01_marked:E.fn fi=some iT
def Hz{α:Type}(p:α→Bool):Nat→α→Option AV:=fun i x=>sel (p x) (some (.int .i64 (i:Int))) none
def fN{α:Type}(p:α→Bool):Nat→List α→Int
 |_,[] => -1
 |i,x::l=>sel (p x) (i:Int) (fN p (i+1) l)
theorem wB{α:Type}(p:α→Bool):∀ (l:List α) (i:Nat) (H:List AObj),orE (n8 (Hz p) i l) H (some (.ret (.int .i64 (-1)),H))=some (.ret (.int .i64 (fN p i l)),H)
 |[],i,H=>rfl
 |x::l,i,H=>by
  rw [pO,Hz,fN,F4,F0,ze,zf,zd,wB p l];cases p x<;>rfl
def ee(c:UInt8):Bool:=(c == 62)||(c == 125)
def uG:List AV:=List.replicate 256 (.bool false)
theorem Ny:List.replicate 256 (AV.bool false)=uG:=rfl
def Lg:List AV:=bo uG 62 [.bool true]
def l8:List AV:=bo Lg 125 [.bool true]
theorem Jt(c:UInt8):l8[c.toNat]?=some (.bool (ee c)):=by
 have h:∀ n:Fin 256,l8[n.val]?=some (.bool (ee (UInt8.ofNat n.val))):=by
  intro n
  have:l8=(List.range 256).map fun n=>.bool (ee (UInt8.ofNat n)):=rfl
  rw [this,List.getElem?_map,List.getElem?_range n.isLt];rfl
 have:=h ⟨c.toNat,c.toNat_lt⟩;simpa using this
theorem Ju:bo l8 0 l8=l8:=rfl
theorem Lh:bo uG 0 l8=l8:=rfl
theorem Jv(id:Nat)(c:UInt8):EG 256 1 (.ptr id 0) (.int .u8 (c.toNat:Int))=some (.ptr id c.toNat):=by
 have:=c.toNat_lt;simp only [EG];rw [if_pos (by omega)];simp
theorem CP(hS:fM E){H:List AObj}{p:Nat}{T:TypeId}(hp:H[p]?=some (.cells l8 T))(c:UInt8):M.run fm [.ptr p 0,.int .u8 c.toNat] H=some (.ret (.bool (ee c)),H):=by
 rw [aG M hS.strings_asciiSet_contains rfl (c:=fv) rfl,fv];have e:=Jt c;have l0:bJ none l8 c.toNat=some (.bool (ee c)):=e;simp (maxSteps:=3000000) (maxDischargeDepth:=6) +contextual -implicitDefEqProofs only [amC M,↓amD,Nat.reduceBEq,Nat.reduceAdd,env,ah,oN,rnc,Jv,hp,l0]
theorem Gh{n:Nat}:∀ {l:List AV},(∀ v∈l,Wk n v v)→WkL n l l
 |[],_=>trivial
 |v::l,h=>⟨h v (List.mem_cons_self ..),Gh fun u hu=>h u (List.mem_cons_of_mem _ hu)⟩
theorem Li(n:Nat):Wk n (.agg l8) (.agg l8):=wk_agg (Gh fun v hv=>by
 have e:l8=(List.range 256).map fun n=>.bool (ee (UInt8.ofNat n)):=rfl
 rw [e] at hv;obtain ⟨m,_,rfl⟩:=List.mem_map.1 hv;exact wk_bool _ _)
theorem Lj(hS:fM E)(H:List AObj):M.run iN [.str [62,125]] H=some (.ret (.tuple [.agg l8,.bool true]),H):=by
 rw [aG M hS.strings_makeASCIISet rfl (c:=iX) rfl,iX];have a1:∀ id,EG 256 1 (.ptr id 0) (.int .u8 62)=some (.ptr id 62):=fun id=>Jv id 62
 have a2:∀ id,EG 256 1 (.ptr id 0) (.int .u8 125)=some (.ptr id 125):=fun id=>Jv id 125
 have s1:∀ T,stO 1 (H++[.cells uG T]) H.length 62 [.bool true] (some (.cells uG T))=some (H++[.cells Lg T]):=fun T=>by
  simp only [stO];rw [if_pos ⟨rfl,by decide,rfl⟩,hp_set0];rfl
 have s2:∀ T,stO 1 (H++[.cells Lg T]) H.length 125 [.bool true] (some (.cells Lg T))=some (H++[.cells l8 T]):=fun T=>by
  simp only [stO];rw [if_pos ⟨rfl,by decide,rfl⟩,hp_set0];rfl
 have s3:∀ T,stO 256 (H++[.cells l8 T]) H.length 0 l8 (some (.cells l8 T))=some (H++[.cells l8 T]):=fun T=>by
  simp only [stO];rw [if_pos ⟨rfl,by decide,rfl⟩,hp_set0,Ju];rfl
 have l2:qD 256 l8=some l8:=rfl;have n0:decide ((0:Int)<(([62,125]:Str).length:Int))=true:=rfl;have n1:decide ((1:Int)<(([62,125]:Str).length:Int))=true:=rfl;have n2:decide ((2:Int)<(([62,125]:Str).length:Int))=false:=rfl;have w1:IntKind.i64.wrap (0+1)=1:=by decide
 have w2:IntKind.i64.wrap (1+1)=2:=by decide
 have c1:decide ((128:Int)≤62)=false:=rfl;have c2:decide ((128:Int)≤125)=false:=rfl;have hac:b6 (.agg l8)=some l8:=rfl;have hac2:b6 (.bool true)=some [.bool true]:=rfl;simp (maxSteps:=3000000) (maxDischargeDepth:=6) +contextual -implicitDefEqProofs only [amC M,↓amD,Nat.reduceBEq,Nat.reduceAdd,env,ah,rD,↓Ny,al M lL.eq_1,a1,a2,s1,s2,s3,l2,aj,List.getElem?_cons_zero,n0,n1,n2,(show ((UInt8.toNat 62:Nat):Int)=62 from rfl),(show ((UInt8.toNat 125:Nat):Int)=125 from rfl),List.getElem?_cons_succ,w1,w2,c1,c2,hac,hac2,(show ∀ H,o6 (some H)=some (dG,H) from fun _=>rfl),cut_app,hp_take,wk_tuple,Li,(show ri (.tuple [.agg l8,.bool true]) = .tuple [.agg l8,.bool true] from rfl)]
theorem zQ(hS:fM E)(hX:sg M)(s:Str)(c:UInt8)(H:List AObj):M.run bO [.str s,.int .u8 c.toNat] H=some (.ret (.int .i64 (Lib.indexByte s c)),H):=by
 rw [aG M hS.internal_stringslite_IndexByte rfl (c:=dZ) rfl,dZ];simp (maxSteps:=3000000) (maxDischargeDepth:=6) +contextual -implicitDefEqProofs only [amC M,↓amD,Nat.reduceBEq,Nat.reduceAdd,env,ah,mO,hX.index]
theorem uf(hS:fM E)(hX:sg M)(s:Str)(c:UInt8)(H:List AObj):M.run ig [.str s,.int .u8 c.toNat] H=some (.ret (.int .i64 (Lib.indexByte s c)),H):=by
 have h1:=zQ M hS hX s c H;rw [aG M hS.strings_IndexByte rfl (c:=lf) rfl,lf];simp (maxSteps:=3000000) (maxDischargeDepth:=6) +contextual -implicitDefEqProofs only [amC M,↓amD,Nat.reduceBEq,Nat.reduceAdd,env,ah,tL,h1]
def dH(s p:Str):Bool:=decide (p.length≤s.length)&&(s.take p.length == p)
theorem zR(hS:fM E)(s p:Str)(H:List AObj):M.run dL [.str s,.str p] H=some (.ret (.bool (dH s p)),H):=by
 rw [aG M hS.internal_stringslite_HasPrefix rfl (c:=dX) rfl,dX];cases hd:decide (p.length≤s.length) with
 |true=>
  have hle:p.length≤s.length:=of_decide_eq_true hd;simp (maxSteps:=3000000) (maxDischargeDepth:=6) +contextual -implicitDefEqProofs only [amC M,↓amD,Nat.reduceBEq,Nat.reduceAdd,env,ah,gH,dH,hd,Fm hle]
 |false=>
  simp (maxSteps:=3000000) (maxDischargeDepth:=6) +contextual -implicitDefEqProofs only [amC M,↓amD,Nat.reduceBEq,Nat.reduceAdd,env,ah,gH,dH,hd]
theorem A5(hS:fM E)(s p:Str)(H:List AObj):M.run eZ [.str s,.str p] H=some (.ret (.bool (dH s p)),H):=by
 have h1:=zR M hS s p H;rw [aG M hS.strings_HasPrefix rfl (c:=k7) rfl,k7];simp (maxSteps:=3000000) (maxDischargeDepth:=6) +contextual -implicitDefEqProofs only [amC M,↓amD,Nat.reduceBEq,Nat.reduceAdd,env,ah,tI,h1]
def nA(s p:Str):Bool:=decide (p.length≤s.length)&&(s.drop (s.length-p.length) == p)
theorem A6(hS:fM E){s:Str}(hs:s.length≤bh)(p:Str)(H:List AObj):M.run kU [.str s,.str p] H=some (.ret (.bool (nA s p)),H):=by
 have h1:M.run dM [.str s,.str p] H=some (.ret (.bool (nA s p)),H):=by
  rw [aG M hS.internal_stringslite_HasSuffix rfl (c:=dY) rfl,dY];cases hd:decide (p.length≤s.length) with
  |true=>
   have hle:p.length≤s.length:=of_decide_eq_true hd
   have hw:IntKind.i64.wrap ((s.length:Int)-(p.length:Int))=((s.length-p.length:Nat):Int):=by
    simp only [bh] at hs;rw [eE (by omega) (by omega)];omega
   simp (maxSteps:=3000000) (maxDischargeDepth:=6) +contextual -implicitDefEqProofs only [amC M,↓amD,Nat.reduceBEq,Nat.reduceAdd,env,ah,gI,nA,hd,hw,px (show s.length-p.length≤s.length by omega)]
  |false=>
   simp (maxSteps:=3000000) (maxDischargeDepth:=6) +contextual -implicitDefEqProofs only [amC M,↓amD,Nat.reduceBEq,Nat.reduceAdd,env,ah,gI,nA,hd]
 rw [aG M hS.strings_HasSuffix rfl (c:=k8) rfl,k8];simp (maxSteps:=3000000) (maxDischargeDepth:=6) +contextual -implicitDefEqProofs only [amC M,↓amD,Nat.reduceBEq,Nat.reduceAdd,env,ah,tJ,h1]
def rI(r:Nat):Int:=sel (r == 62) 0 (sel (r == 125) 1 (-1))
theorem Lk{r:Nat}(h:128≤r)(hr:r≤1114111)(hsur:¬ (55296≤r∧r≤57343)):(∃ a b:UInt8,(Utf8.encode (r:Int)).data.toList=[a,b]∧128≤b.toNat)∨(3≤(Utf8.encode (r:Int)).data.toList.length∧(Utf8.encode (r:Int)).data.toList.length≤4):=by
 by_cases c2:r<2048
 ·refine .inl ⟨_,_,Extern.FmtText.enc2 r (by omega) c2, ?_⟩
  simp;omega
 by_cases c3:r<65536
 ·rw [Extern.FmtText.enc3 r c2 c3 (by omega)];exact .inr ⟨by simp,by simp⟩
 ·rw [Extern.FmtText.enc4 r c3 hr];exact .inr ⟨by simp,by simp⟩
theorem A7(hS:fM E)(hX:sg M){r:Nat}(hr:r≤1114111)(hsur:¬ (55296≤r∧r≤57343))(H:List AObj):M.run ie [.str [62,125],.int .i32 (r:Int)] H=some (.ret (.int .i64 (rI r)),H):=by
 by_cases h1:r<128
 ·have hb:((UInt8.ofNat r).toNat:Int)=(r:Int):=by simp;omega
  have h2:=uf M hS hX [62,125] (UInt8.ofNat r) H;rw [hb] at h2
  have hI:Lib.indexByte [62,125] (UInt8.ofNat r)=rI r:=by
   have:∀ n:Fin 128,Lib.indexByte [62,125] (UInt8.ofNat n.val)=rI n.val:=by decide
   exact this ⟨r,h1⟩
  rw [hI] at h2;have d1:decide ((0:Int)≤(r:Int))=true:=decide_eq_true (by omega);have d2:decide ((r:Int)<128)=true:=decide_eq_true (by omega)
  have hw:IntKind.u8.wrap (r:Int)=(r:Int):=by
   have:∀ n:Fin 128,IntKind.u8.wrap ((n.val:Nat):Int)=(n.val:Int):=by decide
   exact this ⟨r,h1⟩
  rw [aG M hS.strings_IndexRune rfl (c:=b5) rfl,b5];simp (maxSteps:=3000000) (maxDischargeDepth:=6) +contextual -implicitDefEqProofs only [amC M,↓amD,Nat.reduceBEq,Nat.reduceAdd,env,ah,ir,d1,d2,Kk,hw,h2]
 ·have d1:decide ((0:Int)≤(r:Int))=true:=decide_eq_true (by omega)
  have d2:decide ((r:Int)<128)=false:=decide_eq_false (by omega)
  have hI:rI r = -1:=by
   have e1:(r == 62)=false:=by simp;omega
   have e2:(r == 125)=false:=by simp;omega
   rw [rI,e1,e2];rfl
  rw [hI]
  by_cases h3:r=65533
  ·subst h3
   rw [aG M hS.strings_IndexRune rfl (c:=b5) rfl,b5];have c0:Utf8.decode ⟨([62,125]:Str).toArray⟩ 0=(62,1):=by decide
   have c1:Utf8.decode ⟨([62,125]:Str).toArray⟩ 1=(125,1):=by decide
   have e3:(((65533:Nat):Int) == 65533)=true:=rfl;simp (maxSteps:=3000000) (maxDischargeDepth:=6) +contextual -implicitDefEqProofs only [amC M,↓amD,Nat.reduceBEq,Nat.reduceAdd,env,ah,ir,amG,AV.cell,Nat.reduceMul,Nat.reduceLeDiff,d1,d2,e3,al M m7.eq_1,pJ,rrg,aj,hp_set0,c0,c1,(show ((0:Nat)<2)=True by simp),(show ((1:Nat)<2)=True by simp),(show ((2:Nat)<2)=False by simp),(show (((62:Nat):Int) == 65533)=false from rfl),(show (((125:Nat):Int) == 65533)=false from rfl),aR,List.getElem?_cons_zero,List.getElem?_cons_succ,cut_app,hp_take]
  ·have e3:((r:Int) == 65533)=false:=by simp;omega
   have hv:∀ H,M.run gM [.int .i32 (r:Int)] H=some (.ret (.bool true),H):=fun H=>by
    rw [aG M hS.unicode_utf8_ValidRune rfl (c:=gW) rfl,gW]
    by_cases h5:r<55296
    ·have v2:decide ((r:Int)<55296)=true:=decide_eq_true (by omega)
     simp (maxSteps:=3000000) (maxDischargeDepth:=6) +contextual -implicitDefEqProofs only [amC M,↓amD,Nat.reduceBEq,Nat.reduceAdd,env,ah,lM,d1,v2]
    ·have v2:decide ((r:Int)<55296)=false:=decide_eq_false (by omega)
     have v3:decide ((57343:Int)<(r:Int))=true:=decide_eq_true (by omega);have v4:decide ((r:Int)≤1114111)=true:=decide_eq_true (by omega);simp (maxSteps:=3000000) (maxDischargeDepth:=6) +contextual -implicitDefEqProofs only [amC M,↓amD,Nat.reduceBEq,Nat.reduceAdd,env,ah,lM,d1,v2,v3,v4]
   rcases Lk (r:=r) (by omega) hr hsur with ⟨a,b,he,hb⟩ | ⟨hl,hl4⟩
   ·have w1:IntKind.i64.wrap ((([a,b]:Str).length:Int)-1)=1:=rfl
    have n1:decide ((1:Int)<(([62,125]:Str).length:Int))=true:=rfl;have w2:IntKind.i64.wrap (1+1)=2:=rfl
    have hne:((125:UInt8).toNat == b.toNat)=false:=by
     have:(125:UInt8).toNat=125:=rfl
     rw [this,beq_eq_false_iff_ne];omega
    have hib:=uf M hS hX [] b H;have hs:vN (.str [62,125]) (some (.int .i64 2)) none=some (.str []):=rfl;have hlt:decide ((-1:Int)<0)=true:=rfl;rw [aG M hS.strings_IndexRune rfl (c:=b5) rfl,b5];simp (maxSteps:=3000000) (maxDischargeDepth:=6) +contextual -implicitDefEqProofs only [amC M,↓amD,Nat.reduceBEq,Nat.reduceAdd,env,ah,ir,d1,d2,e3,hv,Dj,he,w1,w2,n1,hne,hs,hib,(show Lib.indexByte [] b = -1 from rfl),hlt,List.getElem?_cons_zero,List.getElem?_cons_succ,al M jN.eq_1]
   ·obtain ⟨e,he⟩:∃ e,(Utf8.encode (r:Int)).data.toList=e:=⟨_,rfl⟩
    rw [he] at hl hl4;have w1:IntKind.i64.wrap ((e.length:Int)-1)=((e.length-1:Nat):Int):=by rw [eE (by omega) (by omega)];omega
    have n1:decide (e.length-1<([62,125]:Str).length)=false:=decide_eq_false (by simp;omega);rw [aG M hS.strings_IndexRune rfl (c:=b5) rfl,b5];simp (maxSteps:=3000000) (maxDischargeDepth:=6) +contextual -implicitDefEqProofs only [amC M,↓amD,Nat.reduceBEq,Nat.reduceAdd,env,ah,ir,d1,d2,e3,hv,Dj,he,w1,n1,al M jN.eq_1]
end
section
attribute [local congr] aD a8 aO aE aN aI aF au aw aJ aK
variable{E:aT}(M:br bP E)
theorem Jw{c:UInt8}(h:128≤c.toNat):ee c=false:=by
 unfold ee;rw [Bool.or_eq_false_iff];constructor<;>(rw [beq_eq_false_iff_ne];rintro rfl;revert h;decide)
theorem Gi{c:UInt8}{t:Str}(h:128≤c.toNat):128≤(bE (c::t)).1∧(bE (c::t)).1≤1114111∧¬ (55296≤(bE (c::t)).1∧(bE (c::t)).1≤57343)∧∀ j,j<(bE (c::t)).2→128≤((c::t).getD j 0).toNat:=by
 have k0:=c.toNat_lt;have k1:=((c::t).getD 1 0).toNat_lt;have k2:=((c::t).getD 2 0).toNat_lt;have k3:=((c::t).getD 3 0).toNat_lt;have g0:(c::t).getD 0 0=c:=rfl;unfold bE;rw [Lib.decodeL_N,g0];rcases Lib.decodeN_shape (c::t).length c.toNat ((c::t).getD 1 0).toNat ((c::t).getD 2 0).toNat ((c::t).getD 3 0).toNat with ⟨c,e⟩ | ⟨c1,c2,c3,cv,e⟩ | ⟨c1,c2,c3,c4,cv,cs,e⟩ | ⟨c1,c2,c3,c4,c5,cv,cw,e⟩ | e
 ·omega
 ·rw [e]
  refine ⟨by dsimp only;omega,by dsimp only;omega,by dsimp only;omega,fun j hj => ?_⟩;dsimp only at hj;obtain rfl | rfl:j=0∨j=1:=by omega
  ·rw [g0];exact h
  ·omega
 ·rw [e]
  refine ⟨by dsimp only;omega,by dsimp only;omega,by dsimp only;omega,fun j hj => ?_⟩;dsimp only at hj;obtain rfl | rfl | rfl:j=0∨j=1∨j=2:=by omega
  ·rw [g0];exact h
  ·omega
  ·omega
 ·rw [e]
  refine ⟨by dsimp only;omega,by dsimp only;omega,by dsimp only;omega,fun j hj => ?_⟩;dsimp only at hj;obtain rfl | rfl | rfl | rfl:j=0∨j=1∨j=2∨j=3:=by omega
  ·rw [g0];exact h
  ·omega
  ·omega
  ·omega
 ·rw [e]
  refine ⟨by decide,by decide,by decide,fun j hj => ?_⟩;dsimp only at hj;obtain rfl:j=0:=by omega
  rw [g0];exact h
theorem Gj{c:UInt8}{t:Str}(h:c.toNat<128):bE (c::t)=(c.toNat,1):=by
 unfold bE;rw [Lib.decodeL_N];simp [Lib.decodeN,h]
theorem BG{p:UInt8→Bool}:∀ (w:Nat) (l:Str) (i:Nat),w≤l.length→(∀ j,j<w→p (l.getD j 0)=false)→fN p i l=fN p (i+w) (l.drop w)
 |0,l,i,_,_=>by simp
 |w+1,[],i,h,_=>by simp at h
 |w+1,c::t,i,h,hp=>by
  have h0:p c=false:=hp 0 (by omega);rw [fN,h0,List.drop_succ_cons,show i+(w+1)=i+1+w by omega];exact BG w t (i+1) (by simpa using h) fun j hj=>by simpa using hp (j+1) (by omega)
theorem Jy{s:Str}(h:s≠[])(i:Nat):fN ee i s=sel (decide ((0:Int)≤rI (bE s).1)) (i:Int) (fN ee (i+(bE s).2) (s.drop (bE s).2)):=by
 cases s with
 |nil=>exact absurd rfl h
 |cons c t=>
  by_cases hc:c.toNat<128
  ·rw [Gj hc]
   have:decide ((0:Int)≤rI c.toNat)=ee c:=by
    have h2:∀ n:Fin 128,decide ((0:Int)≤rI n.val)=ee (UInt8.ofNat n.val):=by decide
    have:=h2 ⟨c.toNat,hc⟩;simpa using this
   rw [this];simp only [fN,List.drop_succ_cons,List.drop_zero]
  ·obtain ⟨h1,h2,h3,h4⟩:=Gi (c:=c) (t:=t) (by omega)
   have hr:decide ((0:Int)≤rI (bE (c::t)).1)=false:=by
    have e1:((bE (c::t)).1 == 62)=false:=by simp;omega
    have e2:((bE (c::t)).1 == 125)=false:=by simp;omega
    rw [rI,e1,e2];rfl
   rw [hr,sel_false];exact BG _ _ _ (vt h) fun j hj=>Jw (h4 j hj)
theorem ia0{H H0:List AObj}(hS:fM E){s:Str}(hs:s.length≤bh){p:Nat}{T:TypeId}(hp:H[p]?=some (.cells l8 T))(hc:dh H0 H)(k:List Fra):∀ (n i:Nat) (He:List AObj),i+n=s.length →
  M.go cY H0 (.c eN :: .lp ⟨(some [0,6,8]),[],false⟩ eN He :: .blk 0 :: .c (.lv [])::k) (kv [(0,.str s),(6,.ptr p 0),(8,.int .i64 i)]) H =
   orE (n8 (Hz ee) i (s.drop i)) (H.take H0.length) (M.go cY H0 k .leaf H)
 |0,i,He,h=>by
  have e:i=s.length:=by omega
  subst e;rw [al M eN.eq_1];simp (maxSteps:=3000000) (maxDischargeDepth:=6) +contextual -implicitDefEqProofs only [amC M,↓amD,Nat.reduceBEq,Nat.reduceAdd,env,ah,cu,Nat.lt_irrefl,List.drop_length]
 |n+1,i,He,h=>by
  have hi:i<s.length:=by omega
  have hx:s[i]?=some s[i]:=List.getElem?_eq_getElem hi;have hd:(s.drop i)=s[i]::s.drop (i+1):=List.drop_eq_getElem_cons hi;have hm:s[i]∈s:=List.getElem_mem hi;have ih:=fun He=>ia0 (H:=H) (H0:=H0) (hS:=hS) (s:=s) (hs:=hs) (p:=p) (T:=T) (hp:=hp) hc k n (i+1)  He (by omega)
  simp only [kv_cons,kv_nil] at ih;rw [al M eN.eq_1];simp (maxSteps:=3000000) (maxDischargeDepth:=6) +contextual -implicitDefEqProofs only [amC M,↓amD,Nat.reduceBEq,Nat.reduceAdd,env,ah,cu,hx,hd,hi,ih,CP M hS hp,dJ hi hs,Hz,hc]
theorem ia1(hS:fM E)(hX:sg M){s:Str}(hs:s.length≤bh){H0:List AObj}(k:List Fra):∀ (n i:Nat) (He:List AObj),s.length-i≤n→i≤s.length →
  M.go cY H0 (.c cX :: .lp ⟨(some [1,45]),[],false⟩ cX He :: .blk 2 :: .c (.lv [])::k) (kv [(1,.str [62,125]),(45,.ptr H0.length 0)]) (H0++[.siter s i]) =
   sel (decide ((0:Int)≤fN ee i (s.drop i))) (some (.ret (.int .i64 (fN ee i (s.drop i))),H0)) (M.go cY H0 k .leaf (H0++[.siter s s.length]))
 |0,i,He,h,hi=>by
  obtain rfl:i=s.length:=by omega
  rw [List.drop_length];have e:decide ((0:Int)≤fN ee s.length [])=false:=rfl;rw [al M cX.eq_1];simp (maxSteps:=3000000) (maxDischargeDepth:=6) +contextual -implicitDefEqProofs only [amC M,↓amD,Nat.reduceBEq,Nat.reduceAdd,env,ah,cu,pJ,aj,List.getElem?_cons_zero,Nat.lt_irrefl,aR,e]
 |n+1,i,He,h,hi=>by
  by_cases hlt:i<s.length
  ·have hne:s.drop i≠[]:=fun e=>by have:=congrArg List.length e;simp at this;omega
   have hw:=rG (s.drop i);have hle:=vt hne;rw [List.length_drop] at hle;have ih:=fun He=>ia1 hS hX hs (H0:=H0) k n (i+(bE (s.drop i)).2) He (by omega) (by omega)
   rw [← List.drop_drop] at ih;have hstep:=Jy hne i
   have hru:(bE (s.drop i)).1≤1114111∧¬ (55296≤(bE (s.drop i)).1∧(bE (s.drop i)).1≤57343):=by
    cases hd:s.drop i with
    |nil=>exact absurd hd hne
    |cons c t=>
     by_cases hc:c.toNat<128
     ·rw [Gj hc];exact ⟨by dsimp only;omega,by dsimp only;omega⟩
     ·obtain ⟨_,h2,h3,_⟩:=Gi (c:=c) (t:=t) (by omega)
      exact ⟨h2,h3⟩
   have hI:=fun H=>A7 M hS hX hru.1 hru.2 H
   have hdd:Utf8.decode ⟨s.toArray⟩ i=bE (s.drop i):=wz s i;simp only [kv_cons,kv_nil] at ih;generalize bE (s.drop i)=d at *
   cases hpos:decide ((0:Int)≤rI d.1) with
   |true=>
    have hv:fN ee i (s.drop i)=(i:Int):=by rw [hstep,hpos];rfl
    have e0:decide ((0:Int)≤(i:Int))=true:=decide_eq_true (by omega);rw [hv,e0,sel_true];rw [al M cX.eq_1];simp (maxSteps:=3000000) (maxDischargeDepth:=6) +contextual -implicitDefEqProofs only [amC M,↓amD,Nat.reduceBEq,Nat.reduceAdd,env,ah,cu,amG,AV.cell,Nat.reduceMul,Nat.reduceLeDiff,pJ,aj,hp_set0,hlt,hdd,aR,List.getElem?_cons_succ,hI,hpos,cut_app,hp_take]
   |false=>
    have hv:fN ee i (s.drop i)=fN ee (i+d.2) ((s.drop i).drop d.2):=by rw [hstep,hpos];rfl
    rw [hv];rw [al M cX.eq_1];simp (maxSteps:=3000000) (maxDischargeDepth:=6) +contextual -implicitDefEqProofs only [amC M,↓amD,Nat.reduceBEq,Nat.reduceAdd,env,ah,cu,amG,AV.cell,Nat.reduceMul,Nat.reduceLeDiff,pJ,aj,hp_set0,hlt,hdd,aR,List.getElem?_cons_succ,hI,hpos,ih]
  ·obtain rfl:i=s.length:=by omega
   rw [List.drop_length];have e:decide ((0:Int)≤fN ee s.length [])=false:=rfl;rw [al M cX.eq_1];simp (maxSteps:=3000000) (maxDischargeDepth:=6) +contextual -implicitDefEqProofs only [amC M,↓amD,Nat.reduceBEq,Nat.reduceAdd,env,ah,cu,pJ,aj,List.getElem?_cons_zero,Nat.lt_irrefl,aR,e]
theorem Gk{α:Type}(p:α→Bool):∀ (l:List α) (i:Nat),decide ((0:Int)≤fN p i l)=false→fN p i l = -1
 |[],_,_=>rfl
 |x::l,i,h=>by
  rw [fN] at h ⊢;cases hx:p x with
  |true=>rw [hx] at h;simp [sel] at h
  |false=>rw [hx] at h;exact Gk p l (i+1) h
theorem CQ(hS:fM E)(hX:sg M){s:Str}(hs:s.length≤bh)(H:List AObj):M.run lU [.str s,.str [62,125]] H=some (.ret (.int .i64 (fN ee 0 s)),H):=by
 have h8:∀ H,M.run fk [.int .i64 (s.length:Int)] H=some (.ret (.bool (decide ((8:Int)<(s.length:Int)))),H):=fun H=>by
  rw [aG M hS.strings_shouldUseASCIISet rfl (c:=fq) rfl,fq];simp (maxSteps:=3000000) (maxDischargeDepth:=6) +contextual -implicitDefEqProofs only [amC M,↓amD,Nat.reduceBEq,Nat.reduceAdd,env,ah,oM]
 have e1:(([62,125]:Str) == [])=false:=rfl;have e2:(((([62,125]:Str).length:Nat):Int) == 1)=false:=rfl;have hmk:=Lj M hS;rw [aG M hS.strings_IndexAny rfl (c:=lX) rfl,lX];cases hb:decide ((8:Int)<(s.length:Int)) with
 |true=>
  rw [hb] at h8;have hl:=fun k He=>ia0 M (H:=H++[.cells l8 dt]) (H0:=H) hS hs (p:=H.length) (T:=dt) (by rw [aj];rfl) (cut_app H _) k s.length 0 He (by omega)
  simp only [kv_cons,kv_nil,Int.ofNat_zero,List.drop_zero,hp_take] at hl
  have hst:stO 256 (H++[.cells uG dt]) H.length 0 l8 (some (.cells uG dt))=some (H++[.cells l8 dt]):=by
   simp only [stO];rw [if_pos ⟨rfl,by decide,rfl⟩,hp_set0,Lh];rfl
  have hac:b6 (.agg l8)=some l8:=rfl;simp (maxSteps:=3000000) (maxDischargeDepth:=6) +contextual -implicitDefEqProofs only [amC M,↓amD,Nat.reduceBEq,Nat.reduceAdd,env,ah,cu,↓Ny,e1,e2,h8,hmk,hac,hst,aj,List.getElem?_cons_zero,(show ∀ H,o6 (some H)=some (dG,H) from fun _=>rfl),hl,cut_app,hp_take];exact wB _ _ _ _
 |false=>
  rw [hb] at h8;have hl:=fun k He=>ia1 M hS hX hs (H0:=H) k s.length 0 He (by omega) (by omega)
  simp only [kv_cons,kv_nil,Int.ofNat_zero,List.drop_zero] at hl;cases hp:decide ((0:Int)≤fN ee 0 s) with
  |true=>
   rw [hp] at hl;simp (maxSteps:=3000000) (maxDischargeDepth:=6) +contextual -implicitDefEqProofs only [amC M,↓amD,Nat.reduceBEq,Nat.reduceAdd,env,ah,cu,e1,e2,h8,rrg,hl]
  |false=>
   rw [hp] at hl;rw [Gk _ _ _ hp];simp (maxSteps:=3000000) (maxDischargeDepth:=6) +contextual -implicitDefEqProofs only [amC M,↓amD,Nat.reduceBEq,Nat.reduceAdd,env,ah,cu,e1,e2,h8,rrg,hl,cut_app,hp_take]
end
section
attribute [local congr] aD a8 aO aE aN aI aF au aw aJ aK
variable{E:aT}(M:br bP E)
def wC(l:List Str):List AV:=l.map .str
def tt(b:Nat)(G:List AObj)(v:AV)(st:List Str):Prop:=
 (st=[]∧v = .slice .nil 1 [])∨∃ (id:Nat) (junk:List AV),b≤id∧v = .rslice id 0 st.length 1 true∧G[id]?=some (.cells (wC st.reverse++junk) ak)
theorem zS(l:List Str):(wC l).length=l.length:=by simp [wC]
theorem Ec(l m:List Str):wC (l++m)=wC l++wC m:=by simp [wC]
theorem zT(s:Str):uk 1 [[.str s]]=true:=rfl
theorem Jz{b:Nat}{G:List AObj}{v:AV}{st:List Str}(h:tt b G v st)(hb:b≤G.length)(hl:st.length≤1000000)(s:Str) :
  ∃ v' G',rap true G ak 1 16 false v (.slice .full 1 [[.str s]])=some (v',G')∧tt b G' v' (s::st)∧G.length≤G'.length∧∀ i,i<b→G'[i]?=G[i]? := by
 rcases h with ⟨rfl,rfl⟩ | ⟨id,junk,hid,rfl,hg⟩
 ·refine ⟨.rslice G.length 0 1 1 true,G++[.cells [.str s] ak], ?_,.inr ⟨G.length,[],hb,rfl,by rw [aj];rfl⟩,by simp,fun i hi=>List.getElem?_append_left (by omega)⟩
  simp only [rap,sJ,xj,or_true,if_true,zT];rw [if_pos (by simp)];rfl
 ·have hlt:=bT hg
  have hlen:st.length*1≤(wC st.reverse++junk).length:=by rw [List.length_append,zS,List.length_reverse];omega
  refine ⟨.rslice G.length 0 (st.length+1) 1 true,G.set id .dead++[.cells (wC (s::st).reverse) ak], ?_,.inr ⟨G.length,[],hb,rfl, ?_⟩,by simp,fun i hi => ?_⟩
  ·simp only [rap,sJ,xj,or_true,if_true,zT,hg]
   rw [if_pos ⟨trivial,trivial,hlen,by simp;omega,by simp;omega⟩];simp only [Nat.mul_one];rw [List.take_left' (by rw [zS,List.length_reverse]),List.reverse_cons,Ec];rfl
  ·rw [List.append_nil,show G.length=(G.set id .dead).length by simp,aj];rfl
  ·rw [List.getElem?_append_left (by simp;omega),List.getElem?_set_ne (by omega)]
theorem tE{b:Nat}{G:List AObj}{v:AV}{st:List Str}(h:tt b G v st)(H:List AObj):pT H .sl v=some (.int .i64 (st.length:Int)):=by
 rcases h with ⟨rfl,rfl⟩ | ⟨id,junk,hid,rfl,hg⟩<;>rfl
theorem Gl{b:Nat}{G:List AObj}{v:AV}{x:Str}{st:List Str}(h:tt b G v (x::st)) :
  (∃ p o cs,rT 1 v (.int .i64 (st.length:Int))=some (.ptr p o)∧b≤p∧G[p]?=some (.cells cs ak)∧bJ none cs o=some (.str x))∧∃ v',Ik 1 v none (some (.int .i64 (st.length:Int))) none=some v'∧tt b G v' st:=by
 rcases h with ⟨h,_⟩ | ⟨id,junk,hid,rfl,hg⟩
 ·cases h
 have e:wC (x::st).reverse++junk=wC st.reverse++(.str x::junk):=by rw [List.reverse_cons,Ec,List.append_assoc];rfl
 have hl:(wC st.reverse).length=st.length:=by rw [zS,List.length_reverse]
 refine ⟨⟨id,0+st.length*1,_, ?_,hid,hg, ?_⟩,.rslice id 0 st.length 1 true, ?_,.inr ⟨id,.str x::junk,hid,rfl,by rw [hg,e]⟩⟩
 ·simp only [rT]
  rw [if_pos ⟨trivial,by omega,by simp;omega⟩];simp
 ·simp only [bJ,e,Nat.zero_add,Nat.mul_one]
  rw [List.getElem?_append_right (by omega),hl,Nat.sub_self];rfl
 ·have h1:dq (some (.int .i64 (st.length:Int))) (x::st).length=some st.length:=by simp [dq]
  simp only [Ik,h1,(show dq none 0=some 0 from rfl)];cases st with
  |nil=>rfl
  |cons y t=>rw [if_pos (by simp)];simp
theorem tt.stay{b:Nat}{G G':List AObj}{v:AV}{st:List Str}(h:tt b G v st)(hs:∀ i,b≤i→i<G.length→G'[i]?=G[i]?):tt b G' v st:=by
 rcases h with ⟨rfl,rfl⟩ | ⟨id,junk,hid,rfl,hg⟩
 ·exact .inl ⟨rfl,rfl⟩
 ·exact .inr ⟨id,junk,hid,rfl,by rw [hs id hid (bT hg)];exact hg⟩
theorem JA(hB:fV E){b p:Nat}{G:List AObj}{v:AV}{T:TypeId}{st:List Str}(hp:G[p]?=some (.cells [v] T))(hpb:p<b)(hb:b≤G.length)(h:tt b G v st)(hl:st.length≤1000000)(s:Str) :
  ∃ v' G',M.run gL [.ptr p 0,.str s] G=some (.ret (.tuple []),G')∧G'[p]?=some (.cells [v'] T)∧tt b G' v' (s::st)∧But b p G G':=by
 obtain ⟨v',G1,h1,h2,h3,h4⟩:=Jz h hb hl s;have hp1:G1[p]?=some (.cells [v] T):=by rw [h4 p hpb];exact hp
 have hlt:=bT hp1;refine ⟨v',G1.set p (.cells [v'] T), ?_,List.getElem?_set_self hlt,h2.stay fun i hi _=>by rw [List.getElem?_set_ne (by omega)],by simpa using h3,fun i hi hne=>by rw [List.getElem?_set_ne (by omega)];exact h4 i hi⟩;rw [aG M hB.docs_stack_string_push rfl (c:=gU) rfl,gU]
 have hcell:v'.cell=true:=by
  rcases h2 with ⟨h,_⟩ | ⟨id,_,_,rfl,_⟩
  ·cases h
  ·rfl
 have hac:b6 v'=some [v']:=by
  rcases h2 with ⟨h,_⟩ | ⟨id,_,_,rfl,_⟩
  ·cases h
  ·rfl
 have l0:∀ x:AV,bJ none [x] 0=some x:=fun _=>rfl
 have s0:∀ x y:AV,bo [x] 0 [y]=[y]:=fun _ _=>rfl
 have hst:stO 1 G1 p 0 [v'] (some (.cells [v] T))=some (G1.set p (.cells [v'] T)):=by
  simp only [stO];rw [if_pos ⟨rfl,by simp,by simp [hcell]⟩];rfl
 simp (maxSteps:=3000000) (maxDischargeDepth:=6) +contextual -implicitDefEqProofs only [amC M,↓amD,Nat.reduceBEq,Nat.reduceAdd,env,ah,qe,amG,AV.cell,Nat.reduceMul,Nat.reduceLeDiff,rnc,hp,l0,s0,h1,hp1,hac,hst,(show ∀ H,o6 (some H)=some (dG,H) from fun _=>rfl)]
def wD(st:List Str)(s:Str):Bool:=match st with
 |[]=>false
 |x::_=>x == s
theorem Ll(hB:fV E){b p:Nat}{G:List AObj}{v:AV}{T:TypeId}{st:List Str}(hp:G[p]?=some (.cells [v] T))(hpb:p<b)(hb:b≤G.length)(h:tt b G v st)(hl:st.length≤1000000)(s:Str) :
  ∃ v' G',M.run iy [.ptr p 0,.str s] G=some (.ret (.bool (wD st s)),G')∧G'[p]?=some (.cells [v'] T)∧tt b G' v' (if wD st s=true then st.tail else st)∧G'.length=G.length∧∀ i,i≠p→G'[i]?=G[i]? := by
 have hlt:=bT hp;have l0:∀ x:AV,bJ none [x] 0=some x:=fun _=>rfl
 have s0:∀ x y:AV,bo [x] 0 [y]=[y]:=fun _ _=>rfl
 have hlen:=tE h;cases st with
 |nil=>
  refine ⟨v,G, ?_,hp,h,rfl,fun _ _=>rfl⟩;rw [aG M hB.docs_stack_string_pop rfl (c:=cf) rfl,cf];have hlen0:∀ H,pT H .sl v=some (.int .i64 0):=hlen;simp (maxSteps:=3000000) (maxDischargeDepth:=6) +contextual -implicitDefEqProofs only [amC M,↓amD,Nat.reduceBEq,Nat.reduceAdd,env,ah,iC,rnc,hp,l0,hlen0,wD,beq_self_eq_true,cut_refl,hp_self]
 |cons x st=>
  obtain ⟨⟨q,o,cs,t1,t2,t3,t3'⟩,v',t4,t5⟩:=Gl h
  have hw:IntKind.i64.wrap ((((x::st).length:Nat):Int)-1)=(st.length:Int):=by
   simp only [List.length_cons] at hl ⊢;rw [eE (by omega) (by omega)];omega
  have h0:((((x::st).length:Nat):Int) == 0)=false:=by simp;omega
  have hw2:IntKind.i64.wrap (((st.length+1:Nat):Int)-1)=(st.length:Int):=hw;have h02:(((st.length+1:Nat):Int) == 0)=false:=h0;cases hx:x == s with
  |false=>
   refine ⟨v,G, ?_,hp,by rw [wD,hx];exact h,rfl,fun _ _=>rfl⟩;rw [aG M hB.docs_stack_string_pop rfl (c:=cf) rfl,cf];simp (maxSteps:=3000000) (maxDischargeDepth:=6) +contextual -implicitDefEqProofs only [amC M,↓amD,Nat.reduceBEq,Nat.reduceAdd,env,ah,iC,rnc,hp,l0,hlen,wD,hw,h0,hw2,h02,t1,t3,t3',hx,cut_refl,hp_self]
  |true=>
   refine ⟨v',G.set p (.cells [v'] T), ?_,List.getElem?_set_self hlt,by rw [wD,hx];exact t5.stay fun i hi _=>by rw [List.getElem?_set_ne (by omega)],by simp,fun i hne=>by rw [List.getElem?_set_ne (by omega)]⟩
   have hcell:v'.cell=true∧b6 v'=some [v']∧Wk G.length v' v':=by
    rcases t5 with ⟨_,rfl⟩ | ⟨id,_,_,rfl,hg⟩
    ·exact ⟨rfl,rfl,wk_slice trivial (nf _)⟩
    ·exact ⟨rfl,rfl,wk_rslice (bT hg)⟩
   have hwk:Dx G.length (.cells [v'] T):=by
    intro c hc;simp at hc;subst hc;exact hcell.2.2
   rw [aG M hB.docs_stack_string_pop rfl (c:=cf) rfl,cf]
   have hst:stO 1 G p 0 [v'] (some (.cells [v] T))=some (G.set p (.cells [v'] T)):=by
    simp only [stO];rw [if_pos ⟨rfl,by simp,by simp [hcell.1]⟩];rfl
   simp (maxSteps:=3000000) (maxDischargeDepth:=6) +contextual -implicitDefEqProofs only [amC M,↓amD,Nat.reduceBEq,Nat.reduceAdd,env,ah,iC,amG,AV.cell,Nat.reduceMul,Nat.reduceLeDiff,rnc,hp,l0,s0,hlen,wD,hw,h0,hw2,h02,t1,t3,t3',t4,hx,hst,(show ∀ H,o6 (some H)=some (dG,H) from fun _=>rfl),hcell.2.1,Eb hwk];rw [List.take_of_length_le (by simp)]
end
section
attribute [local congr] aD a8 aO aE aN aI aF au aw aJ aK
variable{E:aT}(M:br bP E)
def vx(x:ag):Bool:=decide (x.kind<1)||decide (5<x.kind)
def HA(x:ag):Bool:=x.car && !(x.kind == 2) && !(x.kind == 3)
def HB(p:Bool)(x:ag):Bool:=(x.kind == 1)&&((x.text == []) || !tm x.text||p)
def HC(x:ag):Bool := !(x.kind == 1) && !m8 x.text
def stP(x:ag)(st:List Str):List Str:=if (x.kind == 3)=true then st.tail else st
def zU:List ag→Bool→Bool→Bool→List Str→Int
 |[],_,_,_,st=>sel (decide ((0:Int)<(st.length:Int))) 9 0
 |x :: l,p,b,e,st=>sel (vx x) 1 (sel (HA x) 1 (sel (HB p x) 4 (sel (HC x) 5 (sel (qj b e x) (sel ((x.kind == 3) && !wD st x.text) 9
    (sel (x.kind == 2) (sel (decide ((16:Int)<((x.text::stP x st).length:Int))) 3 (zU l (x.kind == 1) (b || !ea x) (e||cO x) (x.text::stP x st)))
     (zU l (x.kind == 1) (b || !ea x) (e||cO x) (stP x st)))) 8))))
def dP:ag:=⟨0,[],false⟩
def pR(l:List ag)(i:Nat):Bool:=decide ((0:Int)<(i:Int))&&((l.getD (i-1) dP).kind == 1)
theorem zV{l:List ag}{i:Nat}{x:ag}(h:l[i]?=some x):pR l (i+1)=(x.kind == 1):=by
 have h1:decide ((0:Int)<((i+1:Nat):Int))=true:=decide_eq_true (by omega);simp [pR,h1,List.getD,h]
theorem zW(l:List ag):pR l 0=false:=rfl
abbrev Ed(l:List ag):Prop:=∀ x∈l,x.text.length≤70368744177664
theorem ckl(hB:fV E)(hX:wA M){l:List ag}{tg:Tag}(hl:l.length≤1000000)(ht:Ed l){H0:List AObj}{bd p c:Nat}(hp0:H0.length≤p)(hc0:H0.length≤c)(hpb:p<bd)(hcb:c<bd)(hpc:p≠c){k:List Fra}
  (hk:∀ (G:List AObj) (v:AV) (st:List Str),G[p]?=some (.cells [v] fb)→tt bd G v st→Pre H0 G→M.go eB H0 k (kv [(3,.ptr p 0)]) G=some (.ret (.int .u8 (sel (decide ((0:Int)<(st.length:Int))) 9 0)),H0)) :
  ∀ (n i:Nat) (G He:List AObj) (v:AV) (st:List Str) (b e:Bool),i+n=l.length→Pre H0 G→bd≤G.length→G[p]?=some (.cells [v] fb)→G[c]?=some (.cells [.bool b,.bool e] b7)→tt bd G v st→st.length≤16 →
  M.go eB H0 (.c aV :: .lp ⟨(some [0,3,4,10,11,12]),[],false⟩ aV He :: .blk 0 :: .c (.lv [3])::k) (kv [(0,.slice tg 3 (l.map ag.row)),(3,.ptr p 0),(4,.ptr c 0),(10,.slice tg 3 (l.map ag.row)),(11,.int .i64 l.length),(12,.int .i64 i)]) G =
   some (.ret (.int .u8 (zU (l.drop i) (pR l i) b e st)),H0):=by
 intro n;induction n with
 |zero=>
  intro i G He v st b e h hP hb hgp hgc hst h16;obtain rfl:i=l.length:=by omega
  rw [List.drop_length,zU];have hk1:=hk G v st hgp hst hP;simp only [kv_cons,kv_nil] at hk1;rw [al M aV.eq_1];simp (maxSteps:=3000000) (maxDischargeDepth:=6) +contextual -implicitDefEqProofs only [amC M,↓amD,Nat.reduceBEq,Nat.reduceAdd,env,ah,bb,Nat.lt_irrefl,hk1]
 |succ n IH=>
  intro i G He v st b e h hP hb hgp hgc hst h16;have hi:i<l.length:=by omega
  have hx:l[i]?=some l[i]:=List.getElem?_eq_getElem hi;have hd:l.drop i=l[i]::l.drop (i+1):=List.drop_eq_getElem_cons hi;have htx:=ht _ (List.getElem_mem hi);have hsu:=zV hx;rw [hd];generalize l[i]=x at *
  have htm:x.text.length≤bh:=by simp only [bh];omega
  have hws:=dJ hi (show l.length≤bh by simp only [bh];omega);have hw1:decide ((0:Int)<(i:Int))=true→IntKind.i64.wrap ((i:Int)-1)=((i-1:Nat):Int):=fun h0=>FZ (by have:=of_decide_eq_true h0;omega) (by simp only [bh];omega)
  have hi1:i-1<l.length:=by omega
  have hx1:l[i-1]?=some (l.getD (i-1) dP):=by rw [List.getD,List.getElem?_eq_getElem hi1];rfl
  have hia:∀ k:IntKind,rT 3 (.slice tg 3 (l.map ag.row)) (.int k ((i-1:Nat):Int))=some (.vptr 3 (l.map ag.row) (i-1) 0):=fun k=>a7 hi1
  have hT:=fun H=>zP M hB hX htm H
  have hN:=fun H=>l7 M hB htm H
  have hct:∀ L,dh H0 (G++L):=fun L=>(hP.app L).cut
  have htk:∀ L,(G++L).take H0.length=H0:=fun L=>(hP.app L).take
  have hgx:∀ T,(G++[AObj.cells x.row T])[G.length]?=some (.cells x.row T):=fun T=>by rw [aj];rfl
  rw [zU];cases ha:vx x with
  |true=>
   have ha':(decide (x.kind<1)||decide (5<x.kind))=true:=ha;rw [al M aV.eq_1];simp (maxSteps:=3000000) (maxDischargeDepth:=6) +contextual -implicitDefEqProofs only [amC M,↓amD,Nat.reduceBEq,Nat.reduceAdd,env,ah,bb,amG,AV.cell,Nat.reduceMul,Nat.reduceLeDiff,hi,hx,a7 hi,aQ,aj,ha',hct,htk]
  |false=>
   have ha':(decide (x.kind<1)||decide (5<x.kind))=false:=ha;simp only [sel_false];cases hc:HA x with
   |true=>
    have hc':(x.car && !(x.kind == 2) && !(x.kind == 3))=true:=hc;rw [al M aV.eq_1];simp (maxSteps:=3000000) (maxDischargeDepth:=6) +contextual -implicitDefEqProofs only [amC M,↓amD,Nat.reduceBEq,Nat.reduceAdd,env,ah,bb,amG,AV.cell,Nat.reduceMul,Nat.reduceLeDiff,hi,hx,a7 hi,aQ,aj,ha',hc',hct,htk]
   |false=>
    have hc':(x.car && !(x.kind == 2) && !(x.kind == 3))=false:=hc;simp only [sel_false];cases hf:HB (pR l i) x with
    |true=>
     have hf':((x.kind == 1)&&((x.text == []) || !tm x.text||(decide ((0:Int)<(i:Int))&&((l.getD (i-1) dP).kind == 1))))=true:=hf;rw [al M aV.eq_1];simp (maxSteps:=3000000) (maxDischargeDepth:=6) +contextual -implicitDefEqProofs only [amC M,↓amD,Nat.reduceBEq,Nat.reduceAdd,env,ah,bb,amG,AV.cell,Nat.reduceMul,Nat.reduceLeDiff,hi,hx,a7 hi,aQ,aj,ha',hc',hf',hT,hw1,hia,hx1,hct,htk]
    |false=>
     have hf':((x.kind == 1)&&((x.text == []) || !tm x.text||(decide ((0:Int)<(i:Int))&&((l.getD (i-1) dP).kind == 1))))=false:=hf;simp only [sel_false];cases hn:HC x with
     |true=>
      have hn':(!(x.kind == 1) && !m8 x.text)=true:=hn;rw [al M aV.eq_1];simp (maxSteps:=3000000) (maxDischargeDepth:=6) +contextual -implicitDefEqProofs only [amC M,↓amD,Nat.reduceBEq,Nat.reduceAdd,env,ah,bb,amG,AV.cell,Nat.reduceMul,Nat.reduceLeDiff,hi,hx,a7 hi,aQ,aj,ha',hc',hf',hT,hw1,hia,hx1,hct,htk,hn',hN]
     |false=>
      have hn':(!(x.kind == 1) && !m8 x.text)=false:=hn;simp only [sel_false];have hcl:=bT hgc;have htak:=Hy M hB (c:=c) (b:=b) (e:=e) (T:=b7) (G:=G++[.cells x.row ae]) (bU hgc) x;cases htb:qj b e x with
      |false=>
       simp only [htb,Bool.false_eq_true,if_false] at htak;rw [al M aV.eq_1];simp (maxSteps:=3000000) (maxDischargeDepth:=6) +contextual -implicitDefEqProofs only [amC M,↓amD,Nat.reduceBEq,Nat.reduceAdd,env,ah,bb,amG,AV.cell,Nat.reduceMul,Nat.reduceLeDiff,hi,hx,a7 hi,aQ,aj,ha',hc',hf',hT,hw1,hia,hx1,hct,htk,hn',hN,htak]
      |true=>
       simp only [htb,if_true] at htak;simp only [sel_true];have hcl2:c<(G++[AObj.cells x.row ae]).length:=by simp;omega
       have hne:c≠G.length:=by omega
       have q1:((G++[AObj.cells x.row ae]).set c (.cells [.bool (b || !ea x),.bool (e||cO x)] b7))[p]?=some (.cells [v] fb):=by
        rw [List.getElem?_set_ne (by omega)];exact bU hgp
       have q2:((G++[AObj.cells x.row ae]).set c (.cells [.bool (b || !ea x),.bool (e||cO x)] b7))[c]?=some (.cells [.bool (b || !ea x),.bool (e||cO x)] b7):=List.getElem?_set_self hcl2
       have q3:((G++[AObj.cells x.row ae]).set c (.cells [.bool (b || !ea x),.bool (e||cO x)] b7))[G.length]?=some (.cells x.row ae):=by
        rw [List.getElem?_set_ne hne,aj];rfl
       have q4:Pre H0 ((G++[AObj.cells x.row ae]).set c (.cells [.bool (b || !ea x),.bool (e||cO x)] b7)):=(hP.app _).set hc0 _
       have q5:tt bd ((G++[AObj.cells x.row ae]).set c (.cells [.bool (b || !ea x),.bool (e||cO x)] b7)) v st:=hst.stay fun j hj hj2=>by
        rw [List.getElem?_set_ne (by omega),List.getElem?_append_left hj2]
       have q6:bd≤((G++[AObj.cells x.row ae]).set c (.cells [.bool (b || !ea x),.bool (e||cO x)] b7)).length:=by simp;omega
       have q7:p≠G.length:=by have:=bT hgp;omega
       generalize (G++[AObj.cells x.row ae]).set c (.cells [.bool (b || !ea x),.bool (e||cO x)] b7)=G2 at htak q1 q2 q3 q4 q5 q6;have hct2:=q4.cut;have htk2:=q4.take;cases h3:x.kind == 3 with
       |true=>
        have h2:(x.kind == 2)=false:=by
         have:x.kind=3:=by simpa using h3
         rw [this];rfl
        obtain ⟨v3,G3,p1,p2,p3,p4,p5⟩:=Ll M hB q1 hpb q6 q5 (by omega) x.text;cases hpo:wD st x.text with
        |false=>
         rw [hpo] at p1;have hP3:Pre H0 G3:=⟨by rw [p4];exact q4.1,fun j hj=>by rw [p5 j (by omega)];exact q4.2 j hj⟩
         have c3:=hP3.cut;have t3:=hP3.take;rw [al M aV.eq_1];simp (maxSteps:=3000000) (maxDischargeDepth:=6) +contextual -implicitDefEqProofs only [amC M,↓amD,Nat.reduceBEq,Nat.reduceAdd,env,ah,bb,amG,AV.cell,Nat.reduceMul,Nat.reduceLeDiff,hi,hx,a7 hi,aQ,aj,ha',hc',hf',hT,hw1,hia,hx1,hct,htk,hn',hN,htak,q3,h3,p1,c3,t3]
        |true=>
         rw [hpo] at p1;simp only [hpo,if_true] at p3;have hP3:Pre H0 G3:=⟨by rw [p4];exact q4.1,fun j hj=>by rw [p5 j (by omega)];exact q4.2 j hj⟩
         have g3:G3[G.length]?=some (.cells x.row ae):=by rw [p5 _ (by omega)];exact q3
         have hstp:stP x st=st.tail:=if_pos h3;have ih:=fun He=>IH (i+1) G3 He v3 st.tail (b || !ea x) (e||cO x) (by omega) hP3 (by omega) p2 (by rw [p5 c (by omega)];exact q2) p3 (by simp;omega)
         rw [hsu] at ih;simp only [kv_cons,kv_nil] at ih;rw [al M aV.eq_1];simp (maxSteps:=3000000) (maxDischargeDepth:=6) +contextual -implicitDefEqProofs only [amC M,↓amD,Nat.reduceBEq,Nat.reduceAdd,env,ah,bb,amG,AV.cell,Nat.reduceMul,Nat.reduceLeDiff,hi,hx,a7 hi,aQ,aj,ha',hc',hf',hT,hw1,hia,hx1,hct,htk,hn',hN,htak,q3,h3,h2,p1,g3,hstp,hws,ih]
       |false=>
        have hstp:stP x st=st:=if_neg (by rw [h3];simp);cases h2:x.kind == 2 with
        |false=>
         have hc2:x.car=false:=by rw [h2,h3] at hc';simpa using hc'
         have ih:=fun He=>IH (i+1) G2 He v st (b || !ea x) (e||cO x) (by omega) q4 q6 q1 q2 q5 h16
         rw [hsu] at ih;simp only [kv_cons,kv_nil] at ih;rw [al M aV.eq_1];simp (maxSteps:=3000000) (maxDischargeDepth:=6) +contextual -implicitDefEqProofs only [amC M,↓amD,Nat.reduceBEq,Nat.reduceAdd,env,ah,bb,amG,AV.cell,Nat.reduceMul,Nat.reduceLeDiff,hi,hx,a7 hi,aQ,aj,ha',hc',hf',hT,hw1,hia,hx1,hct,htk,hn',hN,htak,q3,h3,h2,hc2,hstp,hws,ih]
        |true=>
         obtain ⟨v3,G3,p1,p2,p3,p4⟩:=JA M hB q1 hpb q6 q5 (by omega) x.text;have hP3:Pre H0 G3:=p4.pre q4 (by omega) hp0;have c3:=hP3.cut;have t3:=hP3.take;have hlen:=tE p3;have l0:∀ x:AV,bJ none [x] 0=some x:=fun _=>rfl
         have hlen2:∀ H,pT H .sl v3=some (.int .i64 ((st.length+1:Nat):Int)):=hlen;cases hgt:decide ((16:Int)<((x.text::stP x st).length:Int)) with
         |true=>
          have hgt2:decide ((16:Int)<((st.length+1:Nat):Int))=true:=by rw [← hgt,hstp];rfl
          rw [al M aV.eq_1];simp (maxSteps:=3000000) (maxDischargeDepth:=6) +contextual -implicitDefEqProofs only [amC M,↓amD,Nat.reduceBEq,Nat.reduceAdd,env,ah,bb,amG,AV.cell,Nat.reduceMul,Nat.reduceLeDiff,hi,hx,a7 hi,aQ,aj,ha',hc',hf',hT,hw1,hia,hx1,hct,htk,hn',hN,htak,q3,h3,h2,p1,p2,l0,hlen2,hgt2,c3,t3]
         |false=>
          have hgt2:decide ((16:Int)<((st.length+1:Nat):Int))=false:=by rw [← hgt,hstp];rfl
          have hle:(x.text::st).length≤16:=by have:=of_decide_eq_false hgt2;simp only [List.length_cons];omega
          have ih:=fun He=>IH (i+1) G3 He v3 (x.text::st) (b || !ea x) (e||cO x) (by omega) hP3 (by have:=p4.1;omega) p2 (by rw [p4.2 c hcb (by omega)];exact q2) p3 hle
          rw [hsu] at ih;simp only [kv_cons,kv_nil] at ih;rw [al M aV.eq_1];simp (maxSteps:=3000000) (maxDischargeDepth:=6) +contextual -implicitDefEqProofs only [amC M,↓amD,Nat.reduceBEq,Nat.reduceAdd,env,ah,bb,amG,AV.cell,Nat.reduceMul,Nat.reduceLeDiff,hi,hx,a7 hi,aQ,aj,ha',hc',hf',hT,hw1,hia,hx1,hct,htk,hn',hN,htak,q3,h3,h2,p1,p2,l0,hlen2,hgt2,hstp,hws,ih]
def i9(l:List ag):Int:=sel (decide ((512:Int)<(l.length:Int))) 3 (zU l false false false [])
theorem ow(hB:fV E)(hX:wA M){l:Sl ag}(hl:l.l.length≤1000000)(ht:Ed l.l)(H:List AObj) :
  M.run bQ [.slice l.tag 3 (l.l.map ag.row)] H=some (.ret (.int .u8 (i9 l.l)),H):=by
 rw [aG M hB.docs_CheckPieces rfl (c:=lV) rfl,lV];cases h5:decide ((512:Int)<(l.l.length:Int)) with
 |true=>simp (maxSteps:=3000000) (maxDischargeDepth:=6) +contextual -implicitDefEqProofs only [amC M,↓amD,Nat.reduceBEq,Nat.reduceAdd,env,ah,bb,h5,i9]
 |false=>
  have hlp:=fun k hk He=>ckl M hB hX (tg:=l.tag) hl ht (H0:=H) (bd:=H.length+2) (p:=H.length) (c:=H.length+1) (Nat.le_refl _) (by omega) (by omega) (by omega) (by omega) (k:=k) hk l.l.length 0 (H++[.cells [.slice .nil 1 []] fb,.cells [.bool false,.bool false] b7]) He (.slice .nil 1 []) [] false false (by omega) ((Pre.refl H).app _) (by simp) (by rw [aj];rfl) (by rw [hp_getk];rfl) (.inl ⟨rfl,rfl⟩) (by simp)
  simp only [kv_cons,kv_nil,Int.ofNat_zero,List.drop_zero,zW] at hlp;have l0:∀ x:AV,bJ none [x] 0=some x:=fun _=>rfl
  simp (maxSteps:=3000000) (maxDischargeDepth:=6) +contextual -implicitDefEqProofs only [amC M,↓amD,Nat.reduceBEq,Nat.reduceAdd,env,ah,bb,h5,i9];refine hlp _ (fun G v st hg hs hP => ?_) _;have hlen:=tE hs;have hct:=hP.cut;have htk:=hP.take;simp (maxSteps:=3000000) (maxDischargeDepth:=6) +contextual -implicitDefEqProofs only [amC M,↓amD,Nat.reduceBEq,Nat.reduceAdd,env,ah,bb,hg,l0,hlen,hct,htk]
end
section
attribute [local congr] aD a8 aO aE aN aI aF au aw aJ aK
variable{E:aT}(M:br bP E)
theorem MR{α:Type}(b p:Bool)(x y:α):slc b y (slc p y x)=slc (b||p) y x:=by cases b<;>rfl
def oz(p:Bool)(x:ag):Int:=sel (vx x) 1 (sel (HA x) 1 (sel (HB p x) 4 (sel (HC x) 5 0)))
theorem HD(hB:fV E){l:List ag}{tg:Tag}(hl:l.length≤1000000)(ht:Ed l){i:Nat}{x:ag}(hx:l[i]?=some x)(H:List AObj) :
  M.run jz [.slice tg 3 (l.map ag.row),.int .i64 i] H=some (.ret (.int .u8 (oz (pR l i) x)),H):=by
 have hi:i<l.length:=(List.getElem?_eq_some_iff.1 hx).1;have htx:=ht _ (List.mem_of_getElem? hx);have htm:x.text.length≤bh:=by simp only [bh];omega
 have hw1:decide ((0:Int)<(i:Int))=true→IntKind.i64.wrap ((i:Int)-1)=((i-1:Nat):Int):=fun h0=>FZ (by have:=of_decide_eq_true h0;omega) (by simp only [bh];omega)
 have hi1:i-1<l.length:=by omega
 have hx1:l[i-1]?=some (l.getD (i-1) dP):=by rw [List.getD,List.getElem?_eq_getElem hi1];rfl
 have hia:∀ k:IntKind,rT 3 (.slice tg 3 (l.map ag.row)) (.int k ((i-1:Nat):Int))=some (.vptr 3 (l.map ag.row) (i-1) 0):=fun k=>a7 hi1
 have hT:=fun H=>D9 M hB htx H
 have hN:=fun H=>Ea M hB htm H
 rw [aG M hB.truchmanref01_alone rfl (c:=jF) rfl,jF];simp (maxSteps:=3000000) (maxDischargeDepth:=6) +contextual -implicitDefEqProofs only [amC M,↓amD,Nat.reduceBEq,Nat.reduceAdd,env,ah,rW,amG,AV.cell,Nat.reduceMul,Nat.reduceLeDiff,hi,hx,a7 hi,aQ,aj,hT,hN,hw1,hia,hx1,cut_app,hp_take,oz,vx,HA,HB,HC,pR]
def cw(x y:ag):Bool:=ea x && !ea y||cO y && !cO x
theorem Nz{l:List ag}{tg:Tag}(hl:l.length≤1000000){i:Nat}{x:ag}(hx:l[i]?=some x){H H0:List AObj}(hc:dh H0 H)(k:List Fra):∀ (n j:Nat) (He:List AObj),j+n=i →
  M.go dB H0 (.c de :: .lp ⟨(some [0,1,5]),[],false⟩ de He :: .blk 0 :: .c (.lv [])::k) (kv [(0,.slice tg 3 (l.map ag.row)),(1,.int .i64 i),(5,.int .i64 j)]) H =
   sel (((l.take i).drop j).any (cw x)) (some (.ret (.int .u8 8),H.take H0.length)) (M.go dB H0 k .leaf H)
 |0,j,He,h=>by
  obtain rfl:j=i:=by omega
  have e:(l.take j).drop j=[]:=List.drop_of_length_le (by simp;omega);rw [al M de.eq_1];simp (maxSteps:=3000000) (maxDischargeDepth:=6) +contextual -implicitDefEqProofs only [amC M,↓amD,Nat.reduceBEq,Nat.reduceAdd,env,ah,iA,Nat.lt_irrefl,e,List.any_nil]
 |n+1,j,He,h=>by
  have hi:i<l.length:=(List.getElem?_eq_some_iff.1 hx).1;have hki:j<i:=by omega
  have hkl:j<l.length:=by omega
  have hy:l[j]?=some l[j]:=List.getElem?_eq_getElem hkl
  have hd:(l.take i).drop j=l[j]::(l.take i).drop (j+1):=by
   rw [List.drop_eq_getElem_cons (by simp;omega),List.getElem_take]
  have ih:=fun He=>Nz (tg:=tg) hl hx hc k n (j+1) He (by omega)
  have hws:IntKind.i64.wrap ((j:Int)+1)=((j+1:Nat):Int):=dJ hkl (show l.length≤bh by simp only [bh];omega);rw [hd,List.any_cons];generalize l[j]=y at hy;have e1:(y.car&&(y.kind == 2))=ea y:=Bool.and_comm _ _;have e2:(y.car&&(y.kind == 3))=cO y:=Bool.and_comm _ _;have e3:(x.car&&(x.kind == 2))=ea x:=Bool.and_comm _ _;have e4:(x.car&&(x.kind == 3))=cO x:=Bool.and_comm _ _;simp only [kv_cons,kv_nil] at ih
  rw [al M de.eq_1];simp (maxSteps:=3000000) (maxDischargeDepth:=6) +contextual -implicitDefEqProofs only [amC M,↓amD,Nat.reduceBEq,Nat.reduceAdd,env,ah,iA,hki,hx,hy,hi,hkl,a7 hi,a7 hkl,aQ,hws,e1,e2,e3,e4,ih,hc,cw,MR,Bool.or_assoc]
def Ee(l:List ag)(i:Nat):Bool:=(l.take i).any fun y => !ea y
def Ef(l:List ag)(i:Nat):Bool:=(l.take i).any cO
theorem JB(x:ag):∀ l:List ag,l.any (cw x)=(ea x&&(l.any fun y => !ea y)||l.any cO && !cO x)
 |[]=>by simp
 |y::l=>by
  simp only [List.any_cons,JB x l,cw];cases ea x<;>cases ea y<;>cases cO y<;>cases cO x<;>simp
theorem Eg(hB:fV E){l:List ag}{tg:Tag}(hl:l.length≤1000000){i:Nat}{x:ag}(hx:l[i]?=some x)(H:List AObj) :
  M.run iw [.slice tg 3 (l.map ag.row),.int .i64 i] H=some (.ret (.int .u8 (sel (qj (Ee l i) (Ef l i) x) 0 8)),H):=by
 rw [aG M hB.truchmanref01_carried rfl (c:=iz) rfl,iz];have hlp:=fun k He=>Nz M (tg:=tg) hl hx (cut_refl H) k i 0 He (by omega)
 simp only [kv_cons,kv_nil,Int.ofNat_zero,List.drop_zero,JB] at hlp;have e:qj (Ee l i) (Ef l i) x = !(ea x&&((l.take i).any fun y => !ea y)||(l.take i).any cO && !cO x):=rfl;rw [e];simp (maxSteps:=3000000) (maxDischargeDepth:=6) +contextual -implicitDefEqProofs only [amC M,↓amD,Nat.reduceBEq,Nat.reduceAdd,env,ah,iA,hlp]
theorem HE{l:List ag}{i:Nat}{x:ag}(h:l[i]?=some x):Ee l (i+1)=(Ee l i || !ea x):=by
 unfold Ee;rw [List.take_add_one,h,List.any_append];simp
theorem HF{l:List ag}{i:Nat}{x:ag}(h:l[i]?=some x):Ef l (i+1)=(Ef l i||cO x):=by
 unfold Ef;rw [List.take_add_one,h,List.any_append];simp
theorem NW(hB:fV E){l:List ag}{tg:Tag}(hl:l.length≤1000000)(ht:Ed l){H0:List AObj}{k:List Fra}
  (hk:∀ (G:List AObj) (v:AV) (st:List Str),tt H0.length G v st→Pre H0 G→M.go cJ H0 k (kv [(3,v)]) G=some (.ret (.int .u8 (sel (decide ((0:Int)<(st.length:Int))) 9 0)),H0)) :
  ∀ (n i:Nat) (G He:List AObj) (v:AV) (st:List Str),i+n=l.length→Pre H0 G→tt H0.length G v st→st.length≤16 →
  M.go cJ H0 (.c aH :: .lp ⟨(some [0,3,4]),[],false⟩ aH He :: .blk 0 :: .c (.lv [3])::k) (kv [(0,.slice tg 3 (l.map ag.row)),(3,v),(4,.int .i64 i)]) G =
   some (.ret (.int .u8 (zU (l.drop i) (pR l i) (Ee l i) (Ef l i) st)),H0):=by
 intro n;induction n with
 |zero=>
  intro i G He v st h hP hst h16;obtain rfl:i=l.length:=by omega
  rw [List.drop_length,zU];have hk1:=hk G v st hst hP;simp only [kv_cons,kv_nil] at hk1;rw [al M aH.eq_1];simp (maxSteps:=3000000) (maxDischargeDepth:=6) +contextual -implicitDefEqProofs only [amC M,↓amD,Nat.reduceBEq,Nat.reduceAdd,env,ah,aL,Nat.lt_irrefl,hk1]
 |succ n IH=>
  intro i G He v st h hP hst h16;have hi:i<l.length:=by omega
  have hx:l[i]?=some l[i]:=List.getElem?_eq_getElem hi;have hd:l.drop i=l[i]::l.drop (i+1):=List.drop_eq_getElem_cons hi;have hsu:=zV hx;have hbs:=HE hx;have hes:=HF hx;rw [hd];generalize l[i]=x at *
  have hws:=dJ hi (show l.length≤bh by simp only [bh];omega);have hA:=fun H=>HD M hB (tg:=tg) hl ht hx H
  have hC:=fun H=>Eg M hB (tg:=tg) hl hx H
  have hct:=hP.cut;have htk:=hP.take;have hlen:=tE hst;rw [zU];cases ha:vx x with
  |true=>
   have e:oz (pR l i) x=1:=by rw [oz,ha];rfl
   rw [al M aH.eq_1];simp (maxSteps:=3000000) (maxDischargeDepth:=6) +contextual -implicitDefEqProofs only [amC M,↓amD,Nat.reduceBEq,Nat.reduceAdd,env,ah,aL,hi,hx,hA,e,hct,htk,(show ((1:Int) == 0)=false from rfl)]
  |false=>
  simp only [sel_false];cases hca:HA x with
  |true=>
   have e:oz (pR l i) x=1:=by rw [oz,ha,hca];rfl
   rw [al M aH.eq_1];simp (maxSteps:=3000000) (maxDischargeDepth:=6) +contextual -implicitDefEqProofs only [amC M,↓amD,Nat.reduceBEq,Nat.reduceAdd,env,ah,aL,hi,hx,hA,e,hct,htk,(show ((1:Int) == 0)=false from rfl)]
  |false=>
  simp only [sel_false];cases hf:HB (pR l i) x with
  |true=>
   have e:oz (pR l i) x=4:=by rw [oz,ha,hca,hf];rfl
   rw [al M aH.eq_1];simp (maxSteps:=3000000) (maxDischargeDepth:=6) +contextual -implicitDefEqProofs only [amC M,↓amD,Nat.reduceBEq,Nat.reduceAdd,env,ah,aL,hi,hx,hA,e,hct,htk,(show ((4:Int) == 0)=false from rfl)]
  |false=>
  simp only [sel_false];cases hn:HC x with
  |true=>
   have e:oz (pR l i) x=5:=by rw [oz,ha,hca,hf,hn];rfl
   rw [al M aH.eq_1];simp (maxSteps:=3000000) (maxDischargeDepth:=6) +contextual -implicitDefEqProofs only [amC M,↓amD,Nat.reduceBEq,Nat.reduceAdd,env,ah,aL,hi,hx,hA,e,hct,htk,(show ((5:Int) == 0)=false from rfl)]
  |false=>
  simp only [sel_false];have e:oz (pR l i) x=0:=by rw [oz,ha,hca,hf,hn];rfl
  cases htb:qj (Ee l i) (Ef l i) x with
  |false=>
   rw [htb] at hC;rw [al M aH.eq_1];simp (maxSteps:=3000000) (maxDischargeDepth:=6) +contextual -implicitDefEqProofs only [amC M,↓amD,Nat.reduceBEq,Nat.reduceAdd,env,ah,aL,hi,hx,hA,hC,e,hct,htk,beq_self_eq_true,(show ((8:Int) == 0)=false from rfl)]
  |true=>
  rw [htb] at hC;simp only [sel_true,sel_false] at hC ⊢;cases h3:x.kind == 3 with
  |true=>
   have h2:(x.kind == 2)=false:=by
    have:x.kind=3:=by simpa using h3
    rw [this];rfl
   cases st with
   |nil=>
    have hlen0:∀ H,pT H .sl v=some (.int .i64 0):=hlen;rw [al M aH.eq_1];simp (maxSteps:=3000000) (maxDischargeDepth:=6) +contextual -implicitDefEqProofs only [amC M,↓amD,Nat.reduceBEq,Nat.reduceAdd,env,ah,aL,hi,hx,a7 hi,aQ,hA,hC,e,h3,hlen0,wD,hct,htk,beq_self_eq_true]
   |cons y st=>
    obtain ⟨⟨q,o,cs,t1,t2,t3,t3'⟩,v',t4,t5⟩:=Gl hst
    have hw:IntKind.i64.wrap ((((y::st).length:Nat):Int)-1)=(st.length:Int):=by
     simp only [List.length_cons] at h16 ⊢;rw [eE (by omega) (by omega)];omega
    have h0:((((y::st).length:Nat):Int) == 0)=false:=by simp;omega
    cases hy:y == x.text with
    |false=>
     rw [al M aH.eq_1];simp (maxSteps:=3000000) (maxDischargeDepth:=6) +contextual -implicitDefEqProofs only [amC M,↓amD,Nat.reduceBEq,Nat.reduceAdd,env,ah,aL,hi,hx,a7 hi,aQ,hA,hC,e,h3,hlen,h0,hw,t1,t3,t3',hy,wD,hct,htk,beq_self_eq_true]
    |true=>
     have hstp:stP x (y::st)=st:=if_pos h3;have ih:=fun He=>IH (i+1) G He v' st (by omega) hP t5 (by simp at h16;omega)
     rw [hsu,hbs,hes] at ih;simp only [kv_cons,kv_nil] at ih;rw [al M aH.eq_1];simp (maxSteps:=3000000) (maxDischargeDepth:=6) +contextual -implicitDefEqProofs only [amC M,↓amD,Nat.reduceBEq,Nat.reduceAdd,env,ah,aL,hi,hx,a7 hi,aQ,hA,hC,e,h3,h2,hlen,h0,hw,t1,t3,t3',t4,hy,wD,hstp,hws,ih,beq_self_eq_true]
  |false=>
   have hstp:stP x st=st:=if_neg (by rw [h3];simp);cases h2:x.kind == 2 with
   |false=>
    have ih:=fun He=>IH (i+1) G He v st (by omega) hP hst h16
    rw [hsu,hbs,hes] at ih;simp only [kv_cons,kv_nil] at ih;rw [al M aH.eq_1];simp (maxSteps:=3000000) (maxDischargeDepth:=6) +contextual -implicitDefEqProofs only [amC M,↓amD,Nat.reduceBEq,Nat.reduceAdd,env,ah,aL,hi,hx,a7 hi,aQ,hA,hC,e,h3,h2,hstp,hws,ih,beq_self_eq_true]
   |true=>
    obtain ⟨v3,G3,p1,p2,p3,p4⟩:=Jz hst hP.1 (by omega) x.text;have hP3:Pre H0 G3:=⟨Nat.le_trans hP.1 p3,fun j hj=>by rw [p4 j hj];exact hP.2 j hj⟩
    have c3:=hP3.cut;have tk3:=hP3.take;have hlen3:∀ H,pT H .sl v3=some (.int .i64 ((st.length+1:Nat):Int)):=tE p2;cases hgt:decide ((16:Int)<((x.text::stP x st).length:Int)) with
    |true=>
     have hgt2:decide ((16:Int)<((st.length+1:Nat):Int))=true:=by rw [← hgt,hstp];rfl
     rw [al M aH.eq_1];simp (maxSteps:=3000000) (maxDischargeDepth:=6) +contextual -implicitDefEqProofs only [amC M,↓amD,Nat.reduceBEq,Nat.reduceAdd,env,ah,aL,amG,AV.cell,Nat.reduceMul,Nat.reduceLeDiff,hi,hx,a7 hi,aQ,hA,hC,e,h3,h2,p1,hlen3,hgt2,c3,tk3,beq_self_eq_true]
    |false=>
     have hgt2:decide ((16:Int)<((st.length+1:Nat):Int))=false:=by rw [← hgt,hstp];rfl
     have hle:(x.text::st).length≤16:=by have:=of_decide_eq_false hgt2;simp only [List.length_cons];omega
     have ih:=fun He=>IH (i+1) G3 He v3 (x.text::st) (by omega) hP3 p2 hle
     rw [hsu,hbs,hes] at ih;simp only [kv_cons,kv_nil] at ih;rw [al M aH.eq_1];simp (maxSteps:=3000000) (maxDischargeDepth:=6) +contextual -implicitDefEqProofs only [amC M,↓amD,Nat.reduceBEq,Nat.reduceAdd,env,ah,aL,amG,AV.cell,Nat.reduceMul,Nat.reduceLeDiff,hi,hx,a7 hi,aQ,hA,hC,e,h3,h2,p1,hlen3,hgt2,hstp,hws,ih,beq_self_eq_true]
theorem nB(hB:fV E){l:Sl ag}(hl:l.l.length≤1000000)(ht:Ed l.l)(H:List AObj) :
  M.run cI [.slice l.tag 3 (l.l.map ag.row)] H=some (.ret (.int .u8 (i9 l.l)),H):=by
 rw [aG M hB.truchmanref01_CheckPieces rfl (c:=fo) rfl,fo];cases h5:decide ((512:Int)<(l.l.length:Int)) with
 |true=>simp (maxSteps:=3000000) (maxDischargeDepth:=6) +contextual -implicitDefEqProofs only [amC M,↓amD,Nat.reduceBEq,Nat.reduceAdd,env,ah,aL,h5,i9]
 |false=>
  have hlp:=fun k hk He=>NW M hB (tg:=l.tag) hl ht (H0:=H) (k:=k) hk l.l.length 0 H He (.slice .nil 1 []) [] (by omega) (Pre.refl H) (.inl ⟨rfl,rfl⟩) (by simp)
  simp only [kv_cons,kv_nil,Int.ofNat_zero,List.drop_zero,zW,(show Ee l.l 0=false from rfl),(show Ef l.l 0=false from rfl)] at hlp;simp (maxSteps:=3000000) (maxDischargeDepth:=6) +contextual -implicitDefEqProofs only [amC M,↓amD,Nat.reduceBEq,Nat.reduceAdd,env,ah,aL,h5,i9];refine hlp _ (fun G v st hs hP => ?_) _;have hlen:=tE hs;have hct:=hP.cut;have htk:=hP.take;simp (maxSteps:=3000000) (maxDischargeDepth:=6) +contextual -implicitDefEqProofs only [amC M,↓amD,Nat.reduceBEq,Nat.reduceAdd,env,ah,aL,hlen,hct,htk]
end
section
attribute [local congr] aD a8 aO aE aN aI aF au aw aJ aK
variable{E:aT}(M:br bP E)
theorem bf{s t:Str}(h:s.length+t.length<9223372036854775808):bg .add s t=some (.str (s++t)):=if_pos h
theorem fw{H0:List AObj}(n m:Nat)(T:TypeId)(L:List AObj):dh (H0++[.tok n T]) (H0++(.tok m T::L)):=⟨by simp,fun i x hi hx=>by
 rw [List.length_append] at hi
 by_cases h:i<H0.length
 ·rw [List.getElem?_append_left h] at hx ⊢;exact .inl hx
 ·obtain rfl:i=H0.length:=by simp at hi;omega
  rw [aj] at hx;obtain rfl:=Option.some.inj hx;exact .inr trivial⟩
theorem eb(H0:List AObj)(o:AObj)(L:List AObj):(H0++(o::L)).take (H0.length+1)=H0++[o]:=by
 rw [show H0++(o::L)=(H0++[o])++L by simp,show H0.length+1=(H0++[o]).length by simp,List.take_left]
theorem mQ{α:Type}{row:α→List AV}{l:List α}{x:α}{r:List AV}{sz bytes:Nat}{e:TypeId}(H L:List AObj)(h1:r.length=sz)(h2:r.all AV.cell=true)(h3:r.map AV.strip=row x)
  (hl:(l.length+1)*bytes≤140737488355328) (hl2:l.length+1≤4611686018427387904) :
  rap false (H++(.tok (l.length*sz) e::L)) e sz bytes false (.slice (.own H.length) sz (l.map row)) (.slice .full sz [r])=some (.slice (.own H.length) sz ((l++[x]).map row),H++(.tok ((l++[x]).length*sz) e::L)):=by
 simp only [rap,AA,xj,List.length_map,List.length_cons,List.length_nil,Nat.zero_add,or_true,if_true,hl,hl2,uu h1 h2,and_true,true_and,aj,List.getElem?_cons_zero,hp_set0,List.set_cons_zero,List.map_cons,List.map_nil,h3,List.map_append,List.length_append,Nat.add_mul,Nat.one_mul];rw [Nat.add_mul,Nat.one_mul] at hl;rw [if_pos hl]
theorem zX(n:Nat)(l:List ag):j9 n (l.map ag.row):=by
 rw [rowsWk_map];exact fun _ _=>⟨wk_int _ _ _,wk_str _ _,wk_bool _ _,trivial⟩
theorem HG(x y:ag):req (.st [(0,.int .u8),(1,.str),(2,.bool)]) (.agg x.row) (.agg y.row)=some ((x.kind == y.kind)&&(x.text == y.text)&&(x.car == y.car)):=by
 simp only [req,qu,ag.row,List.getElem?_cons_zero,List.getElem?_cons_succ,uY];cases x.kind == y.kind<;>simp
 cases x.text == y.text<;>simp
 cases x.car == y.car<;>rfl
theorem spl{H H0:List AObj}{l:List ag}{ta tb:Tag}(hl:l.length≤bh)(hc:dh H0 H)(k:List Fra):∀ (n i:Nat) (He:List AObj),i+n=l.length →
  M.go b9 H0 (.c cB :: .lp ⟨(some [0,1,5]),[],false⟩ cB He :: .blk 0 :: .c (.lv [])::k) (kv [(0,.slice ta 3 (l.map ag.row)),(1,.slice tb 3 (l.map ag.row)),(5,.int .i64 i)]) H =
   (M.go b9 H0 k .leaf H)
 |0,i,He,h=>by
  have e:i=l.length:=by omega
  subst e;rw [al M cB.eq_1];simp (maxSteps:=3000000) (maxDischargeDepth:=6) +contextual -implicitDefEqProofs only [amC M,↓amD,Nat.reduceBEq,Nat.reduceAdd,env,ah,fG,Nat.lt_irrefl,List.drop_length]
 |n+1,i,He,h=>by
  have hi:i<l.length:=by omega
  have hx:l[i]?=some l[i]:=List.getElem?_eq_getElem hi;have hd:(l.drop i)=l[i]::l.drop (i+1):=List.drop_eq_getElem_cons hi;have hm:l[i]∈l:=List.getElem_mem hi;have ih:=fun He=>spl (H:=H) (H0:=H0) (l:=l) (ta:=ta) (tb:=tb) (hl:=hl) hc k n (i+1)  He (by omega)
  simp only [kv_cons,kv_nil] at ih;rw [al M cB.eq_1];simp (maxSteps:=3000000) (maxDischargeDepth:=6) +contextual -implicitDefEqProofs only [amC M,↓amD,Nat.reduceBEq,Nat.reduceAdd,env,ah,fG,hx,hd,hi,ih,dJ hi hl,a7 hi,aQ,HG,beq_self_eq_true]
theorem zY(hB:fV E){l:List ag}{ta tb:Tag}(hl:l.length≤bh)(H:List AObj):M.run bt [.slice ta 3 (l.map ag.row),.slice tb 3 (l.map ag.row)] H=some (.ret (.bool true),H):=by
 rw [aG M hB.truchmanref01_SamePieces rfl (c:=fF) rfl,fF];have h1:=fun k He=>spl M (ta:=ta) (tb:=tb) hl (cut_refl H) k l.length 0 He (by omega)
 simp only [kv_cons,kv_nil,Int.ofNat_zero] at h1;simp (maxSteps:=3000000) (maxDischargeDepth:=6) +contextual -implicitDefEqProofs only [amC M,↓amD,Nat.reduceBEq,Nat.reduceAdd,env,ah,fG,beq_self_eq_true,h1]
end
section
attribute [local congr] aD a8 aO aE aN aI aF au aw aJ aK
variable{E:aT}(M:br bP E)
def fx(x:ag):Str:=sel x.car [43] []
def CR(s:Str):Str:=(s.map fun c=>if ((c == 92)||(c == 60)||(c == 123))=true then [92,c] else [c]).flatten
def wrF(x:ag):Str:=sel (x.kind == 2) ([60]++fx x++x.text++[62]) (sel (x.kind == 3) ([60,47]++fx x++x.text++[62]) (sel (x.kind == 4) ([60]++x.text++[47,62]) (sel (x.kind == 5) ([123]++x.text++[125]) (CR x.text))))
def HH(x:ag):Bool:=(x.kind == 2)||(x.kind == 3)||(x.kind == 4)||(x.kind == 5)
theorem iH(hS:fM E){x:ag}(hx:HH x=true)(hl:x.text.length≤140737488351232)(H:List AObj):M.run kf [.agg x.row] H=some (.ret (.str (wrF x)),H):=by
 have hkind:x.kind=2∨x.kind=3∨x.kind=4∨x.kind=5:=by simpa [HH,or_assoc] using hx
 rw [aG M hS.docs_written rfl (c:=pg) rfl,pg];rcases hkind with e | e | e | e
 ·cases hc:x.car with
  |true=>
   have F1:bg .add ([60]) [43]=some (.str (60::[43])):=bf (by simp);have F2:bg .add ([60,43]) x.text=some (.str (60::43::x.text)):=bf (by simp;omega);have F3:bg .add (60::43::x.text) [62]=some (.str (60::43::(x.text++[62]))):=bf (by simp;omega);simp (maxSteps:=3000000) (maxDischargeDepth:=6) +contextual -implicitDefEqProofs only [amC M,↓amD,Nat.reduceBEq,Nat.reduceAdd,env,ah,eK,amG,AV.cell,Nat.reduceMul,Nat.reduceLeDiff,aQ,aj,e,hc,(show ((2:Int) == 2)=true from rfl),(show ((2:Int) == 3)=false from rfl),(show ((2:Int) == 4)=false from rfl),(show ((2:Int) == 5)=false from rfl),F1,F2,F3,wrF,fx,cut_app,hp_take]
  |false=>
   have F1:bg .add ([60]) []=some (.str (60::[])):=bf (by simp);have F2:bg .add ([60]) x.text=some (.str (60::x.text)):=bf (by simp;omega);have F3:bg .add (60::x.text) [62]=some (.str (60::(x.text++[62]))):=bf (by simp;omega);simp (maxSteps:=3000000) (maxDischargeDepth:=6) +contextual -implicitDefEqProofs only [amC M,↓amD,Nat.reduceBEq,Nat.reduceAdd,env,ah,eK,amG,AV.cell,Nat.reduceMul,Nat.reduceLeDiff,aQ,aj,e,hc,(show ((2:Int) == 2)=true from rfl),(show ((2:Int) == 3)=false from rfl),(show ((2:Int) == 4)=false from rfl),(show ((2:Int) == 5)=false from rfl),F1,F2,F3,wrF,fx,cut_app,hp_take]
 ·cases hc:x.car with
  |true=>
   have F1:bg .add ([60,47]) [43]=some (.str (60::47::[43])):=bf (by simp);have F2:bg .add ([60,47,43]) x.text=some (.str (60::47::43::x.text)):=bf (by simp;omega);have F3:bg .add (60::47::43::x.text) [62]=some (.str (60::47::43::(x.text++[62]))):=bf (by simp;omega);simp (maxSteps:=3000000) (maxDischargeDepth:=6) +contextual -implicitDefEqProofs only [amC M,↓amD,Nat.reduceBEq,Nat.reduceAdd,env,ah,eK,amG,AV.cell,Nat.reduceMul,Nat.reduceLeDiff,aQ,aj,e,hc,(show ((3:Int) == 2)=false from rfl),(show ((3:Int) == 3)=true from rfl),(show ((3:Int) == 4)=false from rfl),(show ((3:Int) == 5)=false from rfl),F1,F2,F3,wrF,fx,cut_app,hp_take]
  |false=>
   have F1:bg .add ([60,47]) []=some (.str (60::47::[])):=bf (by simp);have F2:bg .add ([60,47]) x.text=some (.str (60::47::x.text)):=bf (by simp;omega);have F3:bg .add (60::47::x.text) [62]=some (.str (60::47::(x.text++[62]))):=bf (by simp;omega);simp (maxSteps:=3000000) (maxDischargeDepth:=6) +contextual -implicitDefEqProofs only [amC M,↓amD,Nat.reduceBEq,Nat.reduceAdd,env,ah,eK,amG,AV.cell,Nat.reduceMul,Nat.reduceLeDiff,aQ,aj,e,hc,(show ((3:Int) == 2)=false from rfl),(show ((3:Int) == 3)=true from rfl),(show ((3:Int) == 4)=false from rfl),(show ((3:Int) == 5)=false from rfl),F1,F2,F3,wrF,fx,cut_app,hp_take]
 ·cases hc:x.car with
  |true=>
   have F2:bg .add ([60]) x.text=some (.str (60::x.text)):=bf (by simp;omega);have F3:bg .add (60::x.text) [47,62]=some (.str (60::(x.text++[47,62]))):=bf (by simp;omega);simp (maxSteps:=3000000) (maxDischargeDepth:=6) +contextual -implicitDefEqProofs only [amC M,↓amD,Nat.reduceBEq,Nat.reduceAdd,env,ah,eK,amG,AV.cell,Nat.reduceMul,Nat.reduceLeDiff,aQ,aj,e,hc,(show ((4:Int) == 2)=false from rfl),(show ((4:Int) == 3)=false from rfl),(show ((4:Int) == 4)=true from rfl),(show ((4:Int) == 5)=false from rfl),F2,F3,wrF,fx,cut_app,hp_take]
  |false=>
   have F2:bg .add ([60]) x.text=some (.str (60::x.text)):=bf (by simp;omega);have F3:bg .add (60::x.text) [47,62]=some (.str (60::(x.text++[47,62]))):=bf (by simp;omega);simp (maxSteps:=3000000) (maxDischargeDepth:=6) +contextual -implicitDefEqProofs only [amC M,↓amD,Nat.reduceBEq,Nat.reduceAdd,env,ah,eK,amG,AV.cell,Nat.reduceMul,Nat.reduceLeDiff,aQ,aj,e,hc,(show ((4:Int) == 2)=false from rfl),(show ((4:Int) == 3)=false from rfl),(show ((4:Int) == 4)=true from rfl),(show ((4:Int) == 5)=false from rfl),F2,F3,wrF,fx,cut_app,hp_take]
 ·cases hc:x.car with
  |true=>
   have F2:bg .add ([123]) x.text=some (.str (123::x.text)):=bf (by simp;omega);have F3:bg .add (123::x.text) [125]=some (.str (123::(x.text++[125]))):=bf (by simp;omega);simp (maxSteps:=3000000) (maxDischargeDepth:=6) +contextual -implicitDefEqProofs only [amC M,↓amD,Nat.reduceBEq,Nat.reduceAdd,env,ah,eK,amG,AV.cell,Nat.reduceMul,Nat.reduceLeDiff,aQ,aj,e,hc,(show ((5:Int) == 2)=false from rfl),(show ((5:Int) == 3)=false from rfl),(show ((5:Int) == 4)=false from rfl),(show ((5:Int) == 5)=true from rfl),F2,F3,wrF,fx,cut_app,hp_take]
  |false=>
   have F2:bg .add ([123]) x.text=some (.str (123::x.text)):=bf (by simp;omega);have F3:bg .add (123::x.text) [125]=some (.str (123::(x.text++[125]))):=bf (by simp;omega);simp (maxSteps:=3000000) (maxDischargeDepth:=6) +contextual -implicitDefEqProofs only [amC M,↓amD,Nat.reduceBEq,Nat.reduceAdd,env,ah,eK,amG,AV.cell,Nat.reduceMul,Nat.reduceLeDiff,aQ,aj,e,hc,(show ((5:Int) == 2)=false from rfl),(show ((5:Int) == 3)=false from rfl),(show ((5:Int) == 4)=false from rfl),(show ((5:Int) == 5)=true from rfl),F2,F3,wrF,fx,cut_app,hp_take]
end
section
attribute [local congr] aD a8 aO aE aN aI aF au aw aJ aK
variable{E:aT}(M:br bP E)
theorem uH{p:UInt8→Bool}:∀ (l:Str) (i:Nat),(fN p i l = -1∧fN p (i+1) l = -1)∨∃ j,j<l.length∧fN p i l=((i+j:Nat):Int)∧fN p (i+1) l=((i+1+j:Nat):Int)∧p (l.getD j 0)=true∧∀ k,k<j→p (l.getD k 0)=false
 |[],i=>.inl ⟨rfl,rfl⟩
 |c::l,i=>by
  cases h:p c with
  |true=>exact .inr ⟨0,by simp,by simp [fN,h,sel],by simp [fN,h,sel],h,fun k hk=>absurd hk (Nat.not_lt_zero _)⟩
  |false=>
   rcases uH (p:=p) l (i+1) with ⟨h1,h2⟩ | ⟨j,h1,h2,h3,h4,h5⟩
   ·exact .inl ⟨by simp [fN,h,sel,h1],by simp [fN,h,sel,h2]⟩
   ·refine .inr ⟨j+1,by simpa using h1,by simp [fN,h,sel,h2];omega,by simp [fN,h,sel,h3];omega,by simpa using h4,fun k hk => ?_⟩
    cases k with
    |zero=>exact h
    |succ k=>simpa using h5 k (by omega)
def mkB(c:UInt8)(b:Str):ag:=
 sel (c == 123) ⟨5,b,false⟩ (sel (dH b [47,43]) ⟨3,b.drop 2,true⟩ (sel (dH b [47]) ⟨3,b.drop 1,false⟩ (sel (dH b [43]) ⟨2,b.drop 1,true⟩ (sel (nA b [47]) ⟨4,b.take (b.length-1),false⟩ ⟨2,b,false⟩))))
def mkT(c:UInt8)(t:Str)(j:Nat):Bool:=m8 (mkB c (t.take j)).text&&(wrF (mkB c (t.take j)) == c::t.take (j+1))
def mkO:Str→Option (ag×Nat)
 |[]=>none
 |c::t=>sel (decide (fN ee 0 t<0)) none (sel (mkT c t (fN ee 0 t).toNat) (some (mkB c (t.take (fN ee 0 t).toNat),(fN ee 0 t).toNat+2)) none)
def mkV(o:Option (ag×Nat)):AV:=match o with
 |none=>.tuple [.agg (ag.row dP),.int .i64 0]
 |some (p,n)=>.tuple [.agg p.row,.int .i64 (n:Int)]
theorem Lm(b:Bool)(o:Option (ag×Nat)):mkV (sel b o none)=slc b (mkV o) (mkV none):=by cases b<;>rfl
theorem Fp(hB:fV E)(hS:fM E)(hX:sg M){c:UInt8}{t:Str}(hc:(c == 60)=true∨(c == 123)=true)(ht:t.length+1≤140737488351232)(H:List AObj) :
  M.run lH [.str (c::t)] H=some (.ret (mkV (mkO (c::t))),H):=by
 have hml:(c::t).length≤bh:=by simp only [bh,List.length_cons];omega
 have hIA:=fun H=>CQ M hS hX hml H
 have hce:ee c=false:=by rcases hc with h | h<;>(have:=eq_of_beq h;subst this;rfl)
 have hz:dP.row=[.int .u8 0,.str [],.bool false]:=rfl;rw [mkO];rcases uH (p:=ee) t 0 with ⟨h1,h2⟩ | ⟨j,hj,h1,h2,h3,h4⟩
 ·have e:fN ee 0 (c::t) = -1:=by rw [fN,hce,sel_false];exact h2
  rw [h1,show decide ((-1:Int)<0)=true from rfl,sel_true];rw [e] at hIA;rw [aG M hS.docs_marked rfl (c:=bS) rfl,bS];simp (maxSteps:=3000000) (maxDischargeDepth:=6) +contextual -implicitDefEqProofs only [amC M,↓amD,Nat.reduceBEq,Nat.reduceAdd,env,ah,gS,amG,AV.cell,Nat.reduceMul,Nat.reduceLeDiff,hIA,(show decide ((-1:Int)<0)=true from rfl),aj,hp_set0,mkV,hz,cut_app,hp_take]
 ·have e:fN ee 0 (c::t)=((1+j:Nat):Int):=by rw [fN,hce,sel_false];simpa using h2
  have e1:fN ee 0 t=(j:Int):=by simpa using h1
  have d0:decide ((j:Int)<0)=false:=decide_eq_false (by omega);have d1:decide (((1+j:Nat):Int)<0)=false:=decide_eq_false (by omega)
  have hsl:vN (.str (c::t)) (some (.int .i64 1)) (some (.int .i64 ((1+j:Nat):Int)))=some (.str (t.take j)):=by
   have:=tn (s:=c::t) (k:=.i64) (k':=.i64) (i:=1) (j:=1+j) (by omega) (by simp;omega);rw [show ((1:Nat):Int)=1 from rfl] at this;rw [this,show 1+j-1=j by omega];rfl
  have hw:IntKind.i64.wrap (((1+j:Nat):Int)+1)=((j+2:Nat):Int):=by rw [eE (by omega) (by omega)];omega
  have hs2:vN (.str (c::t)) none (some (.int .i64 ((j+2:Nat):Int)))=some (.str (c::t.take (j+1))):=by
   rw [Fm (by simp;omega)];rfl
  have hbl:(t.take j).length≤140737488351232:=by simp;omega
  have hc0:((c.toNat:Int) == 123)=(c == 123):=by
   rw [Bool.eq_iff_iff,beq_iff_eq,beq_iff_eq];constructor
   ·intro h;exact UInt8.toNat_inj.1 (by have:(123:UInt8).toNat=123:=rfl;omega)
   ·rintro rfl;rfl
  rw [e1,d0,sel_false,show (j:Int).toNat=j from rfl,mkT,Lm];rw [e] at hIA;have hpx:=fun p H=>A5 M hS (t.take j) p H
  have hsx:=fun p H=>A6 M hS (s:=t.take j) (by simp only [bh];omega) p H
  generalize t.take j=b at hsl hbl hpx hsx;cases h5:c == 123 with
  |true=>
   have hN:=fun H=>l7 M hB (s:=(⟨5,b,false⟩:ag).text) (by simp only [bh,List.length_drop,List.length_take];omega) H
   have hW:=fun H=>iH M hS (x:=⟨5,b,false⟩) rfl (by simp only [List.length_drop,List.length_take];omega) H
   have hm:mkB c b=⟨5,b,false⟩:=by rw [mkB,h5];rfl
   rw [hm];simp only [ag.row] at hW;rw [aG M hS.docs_marked rfl (c:=bS) rfl,bS];simp (maxSteps:=3000000) (maxDischargeDepth:=6) +contextual -implicitDefEqProofs only [amC M,↓amD,Nat.reduceBEq,Nat.reduceAdd,env,ah,gS,amG,AV.cell,Nat.reduceMul,Nat.reduceLeDiff,hIA,d1,hsl,hw,hs2,aQ,aj,hp_set0,hc0,List.getElem?_cons_zero,hpx,hsx,mkV,hz,cut_app,hp_take,ag.row,hN,hW,h5];rw [← Bool.not_and,slc_not];rfl
  |false=>
  cases hp1:dH b [47,43] with
  |true=>
   have hl2:2≤b.length:=by unfold dH at hp1;simp at hp1;exact hp1.1
   have hs3:=px (s:=b) (k:=.i64) (i:=2) hl2;rw [show ((2:Nat):Int)=2 from rfl] at hs3;have hN:=fun H=>l7 M hB (s:=(⟨3,b.drop 2,true⟩:ag).text) (by simp only [bh,List.length_drop,List.length_take];omega) H
   have hW:=fun H=>iH M hS (x:=⟨3,b.drop 2,true⟩) rfl (by simp only [List.length_drop,List.length_take];omega) H
   have hm:mkB c b=⟨3,b.drop 2,true⟩:=by rw [mkB,h5,hp1];rfl
   rw [hm];simp only [ag.row] at hW;rw [aG M hS.docs_marked rfl (c:=bS) rfl,bS];simp (maxSteps:=3000000) (maxDischargeDepth:=6) +contextual -implicitDefEqProofs only [amC M,↓amD,Nat.reduceBEq,Nat.reduceAdd,env,ah,gS,amG,AV.cell,Nat.reduceMul,Nat.reduceLeDiff,hIA,d1,hsl,hw,hs2,aQ,aj,hp_set0,hc0,List.getElem?_cons_zero,hpx,hsx,mkV,hz,cut_app,hp_take,ag.row,hN,hW,hs3,h5,hp1];rw [← Bool.not_and,slc_not];rfl
  |false=>
  cases hp2:dH b [47] with
  |true=>
   have hl2:1≤b.length:=by unfold dH at hp2;simp at hp2;omega
   have hs3:=px (s:=b) (k:=.i64) (i:=1) hl2;rw [show ((1:Nat):Int)=1 from rfl] at hs3;have hN:=fun H=>l7 M hB (s:=(⟨3,b.drop 1,false⟩:ag).text) (by simp only [bh,List.length_drop,List.length_take];omega) H
   have hW:=fun H=>iH M hS (x:=⟨3,b.drop 1,false⟩) rfl (by simp only [List.length_drop,List.length_take];omega) H
   have hm:mkB c b=⟨3,b.drop 1,false⟩:=by rw [mkB,h5,hp1,hp2];rfl
   rw [hm];simp only [ag.row] at hW;rw [aG M hS.docs_marked rfl (c:=bS) rfl,bS];simp (maxSteps:=3000000) (maxDischargeDepth:=6) +contextual -implicitDefEqProofs only [amC M,↓amD,Nat.reduceBEq,Nat.reduceAdd,env,ah,gS,amG,AV.cell,Nat.reduceMul,Nat.reduceLeDiff,hIA,d1,hsl,hw,hs2,aQ,aj,hp_set0,hc0,List.getElem?_cons_zero,hpx,hsx,mkV,hz,cut_app,hp_take,ag.row,hN,hW,hs3,h5,hp1,hp2];rw [← Bool.not_and,slc_not];rfl
  |false=>
  cases hp3:dH b [43] with
  |true=>
   have hl2:1≤b.length:=by unfold dH at hp3;simp at hp3;omega
   have hs3:=px (s:=b) (k:=.i64) (i:=1) hl2;rw [show ((1:Nat):Int)=1 from rfl] at hs3;have hN:=fun H=>l7 M hB (s:=(⟨2,b.drop 1,true⟩:ag).text) (by simp only [bh,List.length_drop,List.length_take];omega) H
   have hW:=fun H=>iH M hS (x:=⟨2,b.drop 1,true⟩) rfl (by simp only [List.length_drop,List.length_take];omega) H
   have hm:mkB c b=⟨2,b.drop 1,true⟩:=by rw [mkB,h5,hp1,hp2,hp3];rfl
   rw [hm];simp only [ag.row] at hW;rw [aG M hS.docs_marked rfl (c:=bS) rfl,bS];simp (maxSteps:=3000000) (maxDischargeDepth:=6) +contextual -implicitDefEqProofs only [amC M,↓amD,Nat.reduceBEq,Nat.reduceAdd,env,ah,gS,amG,AV.cell,Nat.reduceMul,Nat.reduceLeDiff,hIA,d1,hsl,hw,hs2,aQ,aj,hp_set0,hc0,List.getElem?_cons_zero,hpx,hsx,mkV,hz,cut_app,hp_take,ag.row,hN,hW,hs3,h5,hp1,hp2,hp3];rw [← Bool.not_and,slc_not];rfl
  |false=>
  cases hp4:nA b [47] with
  |true=>
   have hl2:1≤b.length:=by unfold nA at hp4;simp at hp4;omega
   have hs3:=Fm (s:=b) (k:=.i64) (i:=b.length-1) (by omega);have hw3:IntKind.i64.wrap ((b.length:Int)-1)=((b.length-1:Nat):Int):=by rw [eE (by omega) (by omega)];omega
   have hN:=fun H=>l7 M hB (s:=(⟨4,b.take (b.length-1),false⟩:ag).text) (by simp only [bh,List.length_drop,List.length_take];omega) H
   have hW:=fun H=>iH M hS (x:=⟨4,b.take (b.length-1),false⟩) rfl (by simp only [List.length_drop,List.length_take];omega) H
   have hm:mkB c b=⟨4,b.take (b.length-1),false⟩:=by rw [mkB,h5,hp1,hp2,hp3,hp4];rfl
   rw [hm];simp only [ag.row] at hW;rw [aG M hS.docs_marked rfl (c:=bS) rfl,bS];simp (maxSteps:=3000000) (maxDischargeDepth:=6) +contextual -implicitDefEqProofs only [amC M,↓amD,Nat.reduceBEq,Nat.reduceAdd,env,ah,gS,amG,AV.cell,Nat.reduceMul,Nat.reduceLeDiff,hIA,d1,hsl,hw,hs2,aQ,aj,hp_set0,hc0,List.getElem?_cons_zero,hpx,hsx,mkV,hz,cut_app,hp_take,ag.row,hN,hW,hs3,hw3,h5,hp1,hp2,hp3,hp4];rw [← Bool.not_and,slc_not];rfl
  |false=>
   have hN:=fun H=>l7 M hB (s:=(⟨2,b,false⟩:ag).text) (by simp only [bh,List.length_drop,List.length_take];omega) H
   have hW:=fun H=>iH M hS (x:=⟨2,b,false⟩) rfl (by simp only [List.length_drop,List.length_take];omega) H
   have hm:mkB c b=⟨2,b,false⟩:=by rw [mkB,h5,hp1,hp2,hp3,hp4];rfl
   rw [hm];simp only [ag.row] at hW;rw [aG M hS.docs_marked rfl (c:=bS) rfl,bS];simp (maxSteps:=3000000) (maxDischargeDepth:=6) +contextual -implicitDefEqProofs only [amC M,↓amD,Nat.reduceBEq,Nat.reduceAdd,env,ah,gS,amG,AV.cell,Nat.reduceMul,Nat.reduceLeDiff,hIA,d1,hsl,hw,hs2,aQ,aj,hp_set0,hc0,List.getElem?_cons_zero,hpx,hsx,mkV,hz,cut_app,hp_take,ag.row,hN,hW,h5,hp1,hp2,hp3,hp4];rw [← Bool.not_and,slc_not];rfl
end
section
attribute [local congr] aD a8 aO aE aN aI aF au aw aJ aK
variable{E:aT}(M:br bP E)
theorem vy(c d:UInt8):((c.toNat:Int) == (d.toNat:Int))=(c == d):=by
 rw [Bool.eq_iff_iff,beq_iff_eq,beq_iff_eq];exact ⟨fun h=>UInt8.toNat_inj.1 (by omega),fun h=>by rw [h]⟩
theorem qB(c:UInt8):((c.toNat:Int) == 92)=(c == 92)∧((c.toNat:Int) == 60)=(c == 60)∧((c.toNat:Int) == 123)=(c == 123)∧((c.toNat:Int) == 125)=(c == 125)∧((c.toNat:Int) == 62)=(c == 62)∧((c.toNat:Int) == 47)=(c == 47)∧((c.toNat:Int) == 43)=(c == 43)∧((c.toNat:Int) == 32)=(c == 32)∧((c.toNat:Int) == 10)=(c == 10):=
 ⟨vy c 92,vy c 60,vy c 123,vy c 125,vy c 62,vy c 47,vy c 43,vy c 32,vy c 10⟩
theorem HI(c:UInt8)(t:Str):CR (c::t)=(if ((c == 92)||(c == 60)||(c == 123))=true then [92,c] else [c])++CR t:=rfl
theorem rwl{x:ag}(hl:x.text.length≤140737488351232){H H0:List AObj}{p:Nat}{T:TypeId}(hp:H[p]?=some (.cells x.row T))(k:List Fra):∀ (n i:Nat) (He:List AObj) (a:Str),i+n=x.text.length→a.length≤2*i →
  M.go dC H0 (.c cq :: .lp ⟨(some [1,4,5]),[],false⟩ cq He :: .blk 1 :: .c (.lv [4])::k) (kv [(1,.ptr p 0),(4,.str a),(5,.int .i64 i)]) H=M.go dC H0 k (kv [(4,.str (a++CR (x.text.drop i)))]) H
 |0,i,He,a,h,ha=>by
  obtain rfl:i=x.text.length:=by omega
  rw [List.drop_length,show CR []=[] from rfl,List.append_nil];rw [al M cq.eq_1];simp (maxSteps:=3000000) (maxDischargeDepth:=6) +contextual -implicitDefEqProofs only [amC M,↓amD,Nat.reduceBEq,Nat.reduceAdd,env,ah,aS,hp,aQ,Nat.lt_irrefl]
 |n+1,i,He,a,h,ha=>by
  have hi:i<x.text.length:=by omega
  have hx:x.text[i]?=some x.text[i]:=List.getElem?_eq_getElem hi;have hd:x.text.drop i=x.text[i]::x.text.drop (i+1):=List.drop_eq_getElem_cons hi;rw [hd,HI]
  have hsl:vN (.str x.text) (some (.int .i64 (i:Int))) (some (.int .i64 ((i+1:Nat):Int)))=some (.str [x.text[i]]):=by
   rw [tn (by omega) (by omega),hd,show i+1-i=1 by omega];rfl
  generalize x.text[i]=c at *
  have hws:IntKind.i64.wrap ((i:Int)+1)=((i+1:Nat):Int):=dJ hi (by simp only [bh];omega);cases hc:(c == 92)||(c == 60)||(c == 123) with
  |true=>
   have ih:=fun He=>rwl (H0:=H0) hl hp k n (i+1) He (a++[92]++[c]) (by omega) (by simp;omega)
   have f1:bg .add a [92]=some (.str (a++[92])):=bf (by simp;omega);have f2:bg .add (a++[92]) [c]=some (.str (a++[92]++[c])):=bf (by simp;omega);rw [if_pos rfl,show a++([92,c]++CR (x.text.drop (i+1)))=a++[92]++[c]++CR (x.text.drop (i+1)) by simp];simp only [kv_cons,kv_nil] at ih ⊢;rw [al M cq.eq_1];simp (maxSteps:=3000000) (maxDischargeDepth:=6) +contextual -implicitDefEqProofs only [amC M,↓amD,Nat.reduceBEq,Nat.reduceAdd,env,ah,aS,hp,aQ,hi,hx,qB,hc,hsl,hws,f1,f2,ih]
  |false=>
   have ih:=fun He=>rwl (H0:=H0) hl hp k n (i+1) He (a++[c]) (by omega) (by simp;omega)
   have f2:bg .add a [c]=some (.str (a++[c])):=bf (by simp;omega);rw [if_neg (by simp),show a++([c]++CR (x.text.drop (i+1)))=a++[c]++CR (x.text.drop (i+1)) by simp];simp only [kv_cons,kv_nil] at ih ⊢;rw [al M cq.eq_1];simp (maxSteps:=3000000) (maxDischargeDepth:=6) +contextual -implicitDefEqProofs only [amC M,↓amD,Nat.reduceBEq,Nat.reduceAdd,env,ah,aS,hp,aQ,hi,hx,qB,hc,hsl,hws,f2,ih]
theorem rH(hS:fM E){x:ag}(hl:x.text.length≤140737488351232)(H:List AObj):M.run dx [.agg x.row] H=some (.ret (.str (wrF x)),H):=by
 rw [aG M hS.truchmanref01_written rfl (c:=iB) rfl,iB]
 by_cases e2:x.kind=2
 ·cases hc:x.car with
  |true=>
   have F1:bg .add ([60]) [43]=some (.str (60::[43])):=bf (by simp);have F2:bg .add ([60,43]) x.text=some (.str (60::43::x.text)):=bf (by simp;omega);have F3:bg .add (60::43::x.text) [62]=some (.str (60::43::(x.text++[62]))):=bf (by simp;omega);simp (maxSteps:=3000000) (maxDischargeDepth:=6) +contextual -implicitDefEqProofs only [amC M,↓amD,Nat.reduceBEq,Nat.reduceAdd,env,ah,aS,amG,AV.cell,Nat.reduceMul,Nat.reduceLeDiff,aQ,aj,e2,hc,(show ((2:Int) == 2)=true from rfl),(show ((2:Int) == 3)=false from rfl),(show ((2:Int) == 4)=false from rfl),(show ((2:Int) == 5)=false from rfl),F1,F2,F3,wrF,fx,cut_app,hp_take]
  |false=>
   have F1:bg .add ([60]) []=some (.str (60::[])):=bf (by simp);have F2:bg .add ([60]) x.text=some (.str (60::x.text)):=bf (by simp;omega);have F3:bg .add (60::x.text) [62]=some (.str (60::(x.text++[62]))):=bf (by simp;omega);simp (maxSteps:=3000000) (maxDischargeDepth:=6) +contextual -implicitDefEqProofs only [amC M,↓amD,Nat.reduceBEq,Nat.reduceAdd,env,ah,aS,amG,AV.cell,Nat.reduceMul,Nat.reduceLeDiff,aQ,aj,e2,hc,(show ((2:Int) == 2)=true from rfl),(show ((2:Int) == 3)=false from rfl),(show ((2:Int) == 4)=false from rfl),(show ((2:Int) == 5)=false from rfl),F1,F2,F3,wrF,fx,cut_app,hp_take]
 by_cases e3:x.kind=3
 ·cases hc:x.car with
  |true=>
   have F1:bg .add ([60,47]) [43]=some (.str (60::47::[43])):=bf (by simp);have F2:bg .add ([60,47,43]) x.text=some (.str (60::47::43::x.text)):=bf (by simp;omega);have F3:bg .add (60::47::43::x.text) [62]=some (.str (60::47::43::(x.text++[62]))):=bf (by simp;omega);simp (maxSteps:=3000000) (maxDischargeDepth:=6) +contextual -implicitDefEqProofs only [amC M,↓amD,Nat.reduceBEq,Nat.reduceAdd,env,ah,aS,amG,AV.cell,Nat.reduceMul,Nat.reduceLeDiff,aQ,aj,e3,hc,(show ((3:Int) == 2)=false from rfl),(show ((3:Int) == 3)=true from rfl),(show ((3:Int) == 4)=false from rfl),(show ((3:Int) == 5)=false from rfl),F1,F2,F3,wrF,fx,cut_app,hp_take]
  |false=>
   have F1:bg .add ([60,47]) []=some (.str (60::47::[])):=bf (by simp);have F2:bg .add ([60,47]) x.text=some (.str (60::47::x.text)):=bf (by simp;omega);have F3:bg .add (60::47::x.text) [62]=some (.str (60::47::(x.text++[62]))):=bf (by simp;omega);simp (maxSteps:=3000000) (maxDischargeDepth:=6) +contextual -implicitDefEqProofs only [amC M,↓amD,Nat.reduceBEq,Nat.reduceAdd,env,ah,aS,amG,AV.cell,Nat.reduceMul,Nat.reduceLeDiff,aQ,aj,e3,hc,(show ((3:Int) == 2)=false from rfl),(show ((3:Int) == 3)=true from rfl),(show ((3:Int) == 4)=false from rfl),(show ((3:Int) == 5)=false from rfl),F1,F2,F3,wrF,fx,cut_app,hp_take]
 by_cases e4:x.kind=4
 ·cases hc:x.car with
  |true=>
   have F2:bg .add ([60]) x.text=some (.str (60::x.text)):=bf (by simp;omega);have F3:bg .add (60::x.text) [47,62]=some (.str (60::(x.text++[47,62]))):=bf (by simp;omega);simp (maxSteps:=3000000) (maxDischargeDepth:=6) +contextual -implicitDefEqProofs only [amC M,↓amD,Nat.reduceBEq,Nat.reduceAdd,env,ah,aS,amG,AV.cell,Nat.reduceMul,Nat.reduceLeDiff,aQ,aj,e4,hc,(show ((4:Int) == 2)=false from rfl),(show ((4:Int) == 3)=false from rfl),(show ((4:Int) == 4)=true from rfl),(show ((4:Int) == 5)=false from rfl),F2,F3,wrF,fx,cut_app,hp_take]
  |false=>
   have F2:bg .add ([60]) x.text=some (.str (60::x.text)):=bf (by simp;omega);have F3:bg .add (60::x.text) [47,62]=some (.str (60::(x.text++[47,62]))):=bf (by simp;omega);simp (maxSteps:=3000000) (maxDischargeDepth:=6) +contextual -implicitDefEqProofs only [amC M,↓amD,Nat.reduceBEq,Nat.reduceAdd,env,ah,aS,amG,AV.cell,Nat.reduceMul,Nat.reduceLeDiff,aQ,aj,e4,hc,(show ((4:Int) == 2)=false from rfl),(show ((4:Int) == 3)=false from rfl),(show ((4:Int) == 4)=true from rfl),(show ((4:Int) == 5)=false from rfl),F2,F3,wrF,fx,cut_app,hp_take]
 by_cases e5:x.kind=5
 ·cases hc:x.car with
  |true=>
   have F2:bg .add ([123]) x.text=some (.str (123::x.text)):=bf (by simp;omega);have F3:bg .add (123::x.text) [125]=some (.str (123::(x.text++[125]))):=bf (by simp;omega);simp (maxSteps:=3000000) (maxDischargeDepth:=6) +contextual -implicitDefEqProofs only [amC M,↓amD,Nat.reduceBEq,Nat.reduceAdd,env,ah,aS,amG,AV.cell,Nat.reduceMul,Nat.reduceLeDiff,aQ,aj,e5,hc,(show ((5:Int) == 2)=false from rfl),(show ((5:Int) == 3)=false from rfl),(show ((5:Int) == 4)=false from rfl),(show ((5:Int) == 5)=true from rfl),F2,F3,wrF,fx,cut_app,hp_take]
  |false=>
   have F2:bg .add ([123]) x.text=some (.str (123::x.text)):=bf (by simp;omega);have F3:bg .add (123::x.text) [125]=some (.str (123::(x.text++[125]))):=bf (by simp;omega);simp (maxSteps:=3000000) (maxDischargeDepth:=6) +contextual -implicitDefEqProofs only [amC M,↓amD,Nat.reduceBEq,Nat.reduceAdd,env,ah,aS,amG,AV.cell,Nat.reduceMul,Nat.reduceLeDiff,aQ,aj,e5,hc,(show ((5:Int) == 2)=false from rfl),(show ((5:Int) == 3)=false from rfl),(show ((5:Int) == 4)=false from rfl),(show ((5:Int) == 5)=true from rfl),F2,F3,wrF,fx,cut_app,hp_take]
 have g2:(x.kind == 2)=false:=by simpa using e2
 have g3:(x.kind == 3)=false:=by simpa using e3
 have g4:(x.kind == 4)=false:=by simpa using e4
 have g5:(x.kind == 5)=false:=by simpa using e5
 have hlp:=fun k He=>rwl M hl (H:=H++[.cells x.row ae]) (H0:=H) (p:=H.length) (T:=ae) (by rw [aj];rfl) k x.text.length 0 He [] (by omega) (by simp)
 simp only [kv_cons,kv_nil,Int.ofNat_zero,List.drop_zero,List.nil_append] at hlp;cases hc:x.car with
 |true=>simp (maxSteps:=3000000) (maxDischargeDepth:=6) +contextual -implicitDefEqProofs only [amC M,↓amD,Nat.reduceBEq,Nat.reduceAdd,env,ah,aS,amG,AV.cell,Nat.reduceMul,Nat.reduceLeDiff,aQ,aj,hc,g2,g3,g4,g5,hlp,wrF,cut_app,hp_take]
 |false=>simp (maxSteps:=3000000) (maxDischargeDepth:=6) +contextual -implicitDefEqProofs only [amC M,↓amD,Nat.reduceBEq,Nat.reduceAdd,env,ah,aS,amG,AV.cell,Nat.reduceMul,Nat.reduceLeDiff,aQ,aj,hc,g2,g3,g4,g5,hlp,wrF,cut_app,hp_take]
def jm(x:ag):ag:=match x.text with
 |[]=>x
 |d::u=>sel ((d == 43)&&((x.kind == 2)||(x.kind == 3))) ⟨x.kind,u,true⟩ x
def qK(s:Str)(x:ag):ag×Bool:=(jm x,m8 (jm x).text&&(wrF (jm x) == s))
def rmk(s:Str):ag×Bool:=
 sel (decide ((s.length:Int)<3)) (dP,false) (sel ((s.getD 0 0 == 123)&&(s.getD (s.length-1) 0 == 125)) (qK s ⟨5,(s.drop 1).take (s.length-2),false⟩)
  (sel (!(s.getD 0 0 == 60) || !(s.getD (s.length-1) 0 == 62)) (⟨2,(s.drop 1).take (s.length-2),false⟩,false)
   (sel (s.getD 1 0 == 47) (qK s ⟨3,(s.drop 2).take (s.length-3),false⟩) (sel (s.getD (s.length-2) 0 == 47) (qK s ⟨4,(s.drop 1).take (s.length-3),false⟩) (qK s ⟨2,(s.drop 1).take (s.length-2),false⟩)))))
def kQ(r:ag×Bool):AV:=.tuple [.agg r.1.row,.bool r.2]
theorem xc(hB:fV E)(hS:fM E){s:Str}(hs:s.length≤140737488351232)(H:List AObj):M.run fi [.str s] H=some (.ret (kQ (rmk s)),H):=by
 have hz:dP.row=[.int .u8 0,.str [],.bool false]:=rfl;rw [rmk];cases h3:decide ((s.length:Int)<3) with
 |true=>
  rw [aG M hS.truchmanref01_marked rfl (c:=aC) rfl,aC];simp (maxSteps:=3000000) (maxDischargeDepth:=6) +contextual -implicitDefEqProofs only [amC M,↓amD,Nat.reduceBEq,Nat.reduceAdd,env,ah,aY,amG,AV.cell,Nat.reduceMul,Nat.reduceLeDiff,h3,aj,hp_set0,kQ,hz,cut_app,hp_take]
 |false=>
 have hn:3≤s.length:=by have:=of_decide_eq_false h3;omega
 have x0:s[0]?=some (s.getD 0 0):=by rw [List.getD,List.getElem?_eq_getElem (show 0<s.length by omega)];rfl
 have x1:s[1]?=some (s.getD 1 0):=by rw [List.getD,List.getElem?_eq_getElem (show 1<s.length by omega)];rfl
 have xl:s[s.length-1]?=some (s.getD (s.length-1) 0):=by rw [List.getD,List.getElem?_eq_getElem (show s.length-1<s.length by omega)];rfl
 have xp:s[s.length-2]?=some (s.getD (s.length-2) 0):=by rw [List.getD,List.getElem?_eq_getElem (show s.length-2<s.length by omega)];rfl
 have hw1:IntKind.i64.wrap ((s.length:Int)-1)=((s.length-1:Nat):Int):=by rw [eE (by omega) (by omega)];omega
 have hw2:IntKind.i64.wrap ((s.length:Int)-2)=((s.length-2:Nat):Int):=by rw [eE (by omega) (by omega)];omega
 have sA:=tn (s:=s) (k:=.i64) (k':=.i64) (i:=1) (j:=s.length-1) (by omega) (by omega);have sB:=tn (s:=s) (k:=.i64) (k':=.i64) (i:=2) (j:=s.length-1) (by omega) (by omega);have sC:=tn (s:=s) (k:=.i64) (k':=.i64) (i:=1) (j:=s.length-2) (by omega) (by omega);rw [show ((1:Nat):Int)=1 from rfl,show s.length-1-1=s.length-2 by omega] at sA;rw [show ((2:Nat):Int)=2 from rfl,show s.length-1-2=s.length-3 by omega] at sB
 rw [show ((1:Nat):Int)=1 from rfl,show s.length-2-1=s.length-3 by omega] at sC;have bA:((s.drop 1).take (s.length-2)).length≤140737488351232:=by simp;omega
 have bB:((s.drop 2).take (s.length-3)).length≤140737488351232:=by simp;omega
 have bC:((s.drop 1).take (s.length-3)).length≤140737488351232:=by simp;omega
 have hN:=fun (x:ag) (h:x.text.length≤140737488351232) H=>Ea M hB (s:=x.text) (by simp only [bh];omega) H
 have hW:=fun (x:ag) (h:x.text.length≤140737488351232) H=>rH M hS (x:=x) h H
 generalize (s.drop 1).take (s.length-2)=A at *
 generalize (s.drop 2).take (s.length-3)=B at *
 generalize (s.drop 1).take (s.length-3)=C at *
 cases c1:(s.getD 0 0 == 123)&&(s.getD (s.length-1) 0 == 125) with
 |true=>
  cases A with
  |nil=>
   have hN1:=hN ⟨5,[],false⟩ (by simp at * <;> omega);have hW1:=hW ⟨5,[],false⟩ (by simp at * <;> omega);simp only [ag.row] at hW1;rw [aG M hS.truchmanref01_marked rfl (c:=aC) rfl,aC];simp (maxSteps:=3000000) (maxDischargeDepth:=6) +contextual -implicitDefEqProofs only [amC M,↓amD,Nat.reduceBEq,Nat.reduceAdd,env,ah,aY,amG,AV.cell,Nat.reduceMul,Nat.reduceLeDiff,h3,x0,x1,xl,xp,hw1,hw2,sA,sB,sC,qB,aQ,aj,hp_set0,kQ,qK,jm,ag.row,cut_app,hp_take,hN1,hW1,(show ((5:Int) == 2)=false from rfl),(show ((5:Int) == 3)=false from rfl),List.length_nil,(show decide ((0:Int)<((0:Nat):Int))=false from rfl),c1]
  |cons d u=>
   have hgt:decide ((0:Int)<(((d::u).length:Nat):Int))=true:=decide_eq_true (by simp<;>omega);have hgt2:decide ((0:Int)<((u.length+1:Nat):Int))=true:=hgt;have hN1:=hN ⟨5,d::u,false⟩ (by simp at * <;> omega);have hW1:=hW ⟨5,d::u,false⟩ (by simp at * <;> omega);simp only [ag.row] at hW1;rw [aG M hS.truchmanref01_marked rfl (c:=aC) rfl,aC];simp (maxSteps:=3000000) (maxDischargeDepth:=6) +contextual -implicitDefEqProofs only [amC M,↓amD,Nat.reduceBEq,Nat.reduceAdd,env,ah,aY,amG,AV.cell,Nat.reduceMul,Nat.reduceLeDiff,h3,x0,x1,xl,xp,hw1,hw2,sA,sB,sC,qB,aQ,aj,hp_set0,kQ,qK,jm,ag.row,cut_app,hp_take,hN1,hW1,(show ((5:Int) == 2)=false from rfl),(show ((5:Int) == 3)=false from rfl),hgt,hgt2,List.getElem?_cons_zero,c1]
 |false=>
 cases c2 : !(s.getD 0 0 == 60) || !(s.getD (s.length-1) 0 == 62) with
 |true=>
  rw [aG M hS.truchmanref01_marked rfl (c:=aC) rfl,aC];simp (maxSteps:=3000000) (maxDischargeDepth:=6) +contextual -implicitDefEqProofs only [amC M,↓amD,Nat.reduceBEq,Nat.reduceAdd,env,ah,aY,amG,AV.cell,Nat.reduceMul,Nat.reduceLeDiff,h3,x0,x1,xl,xp,hw1,hw2,sA,sB,sC,qB,aQ,aj,hp_set0,kQ,qK,jm,ag.row,cut_app,hp_take,c1,c2]
 |false=>
 cases c3:s.getD 1 0 == 47 with
 |true=>
  cases B with
  |nil=>
   have hN1:=hN ⟨3,[],false⟩ (by simp at * <;> omega);have hW1:=hW ⟨3,[],false⟩ (by simp at * <;> omega);simp only [ag.row] at hW1;rw [aG M hS.truchmanref01_marked rfl (c:=aC) rfl,aC];simp (maxSteps:=3000000) (maxDischargeDepth:=6) +contextual -implicitDefEqProofs only [amC M,↓amD,Nat.reduceBEq,Nat.reduceAdd,env,ah,aY,amG,AV.cell,Nat.reduceMul,Nat.reduceLeDiff,h3,x0,x1,xl,xp,hw1,hw2,sA,sB,sC,qB,aQ,aj,hp_set0,kQ,qK,jm,ag.row,cut_app,hp_take,hN1,hW1,(show ((3:Int) == 2)=false from rfl),(show ((3:Int) == 3)=true from rfl),List.length_nil,(show decide ((0:Int)<((0:Nat):Int))=false from rfl),c1,c2,c3]
  |cons d u=>
   have hgt:decide ((0:Int)<(((d::u).length:Nat):Int))=true:=decide_eq_true (by simp<;>omega);have hgt2:decide ((0:Int)<((u.length+1:Nat):Int))=true:=hgt;have hs1:=px (s:=d::u) (k:=.i64) (i:=1) (by simp);rw [show ((1:Nat):Int)=1 from rfl,List.drop_succ_cons,List.drop_zero] at hs1;cases hd:d == 43 with
   |true=>
    have hN1:=hN ⟨3,u,true⟩ (by simp at * <;> omega);have hW1:=hW ⟨3,u,true⟩ (by simp at * <;> omega);simp only [ag.row] at hW1;rw [aG M hS.truchmanref01_marked rfl (c:=aC) rfl,aC];simp (maxSteps:=3000000) (maxDischargeDepth:=6) +contextual -implicitDefEqProofs only [amC M,↓amD,Nat.reduceBEq,Nat.reduceAdd,env,ah,aY,amG,AV.cell,Nat.reduceMul,Nat.reduceLeDiff,h3,x0,x1,xl,xp,hw1,hw2,sA,sB,sC,qB,aQ,aj,hp_set0,kQ,qK,jm,ag.row,cut_app,hp_take,hN1,hW1,(show ((3:Int) == 2)=false from rfl),(show ((3:Int) == 3)=true from rfl),hgt,hgt2,hd,hs1,List.getElem?_cons_zero,c1,c2,c3]
   |false=>
    have hN1:=hN ⟨3,d::u,false⟩ (by simp at * <;> omega);have hW1:=hW ⟨3,d::u,false⟩ (by simp at * <;> omega);simp only [ag.row] at hW1;rw [aG M hS.truchmanref01_marked rfl (c:=aC) rfl,aC];simp (maxSteps:=3000000) (maxDischargeDepth:=6) +contextual -implicitDefEqProofs only [amC M,↓amD,Nat.reduceBEq,Nat.reduceAdd,env,ah,aY,amG,AV.cell,Nat.reduceMul,Nat.reduceLeDiff,h3,x0,x1,xl,xp,hw1,hw2,sA,sB,sC,qB,aQ,aj,hp_set0,kQ,qK,jm,ag.row,cut_app,hp_take,hN1,hW1,(show ((3:Int) == 2)=false from rfl),(show ((3:Int) == 3)=true from rfl),hgt,hgt2,hd,hs1,List.getElem?_cons_zero,c1,c2,c3]
 |false=>
 cases c4:s.getD (s.length-2) 0 == 47 with
 |true=>
  cases C with
  |nil=>
   have hN1:=hN ⟨4,[],false⟩ (by simp at * <;> omega);have hW1:=hW ⟨4,[],false⟩ (by simp at * <;> omega);simp only [ag.row] at hW1;rw [aG M hS.truchmanref01_marked rfl (c:=aC) rfl,aC];simp (maxSteps:=3000000) (maxDischargeDepth:=6) +contextual -implicitDefEqProofs only [amC M,↓amD,Nat.reduceBEq,Nat.reduceAdd,env,ah,aY,amG,AV.cell,Nat.reduceMul,Nat.reduceLeDiff,h3,x0,x1,xl,xp,hw1,hw2,sA,sB,sC,qB,aQ,aj,hp_set0,kQ,qK,jm,ag.row,cut_app,hp_take,hN1,hW1,(show ((4:Int) == 2)=false from rfl),(show ((4:Int) == 3)=false from rfl),List.length_nil,(show decide ((0:Int)<((0:Nat):Int))=false from rfl),c1,c2,c3,c4]
  |cons d u=>
   have hgt:decide ((0:Int)<(((d::u).length:Nat):Int))=true:=decide_eq_true (by simp<;>omega);have hgt2:decide ((0:Int)<((u.length+1:Nat):Int))=true:=hgt;have hN1:=hN ⟨4,d::u,false⟩ (by simp at * <;> omega);have hW1:=hW ⟨4,d::u,false⟩ (by simp at * <;> omega);simp only [ag.row] at hW1;rw [aG M hS.truchmanref01_marked rfl (c:=aC) rfl,aC];simp (maxSteps:=3000000) (maxDischargeDepth:=6) +contextual -implicitDefEqProofs only [amC M,↓amD,Nat.reduceBEq,Nat.reduceAdd,env,ah,aY,amG,AV.cell,Nat.reduceMul,Nat.reduceLeDiff,h3,x0,x1,xl,xp,hw1,hw2,sA,sB,sC,qB,aQ,aj,hp_set0,kQ,qK,jm,ag.row,cut_app,hp_take,hN1,hW1,(show ((4:Int) == 2)=false from rfl),(show ((4:Int) == 3)=false from rfl),hgt,hgt2,List.getElem?_cons_zero,c1,c2,c3,c4]
 |false=>
  cases A with
  |nil=>
   have hN1:=hN ⟨2,[],false⟩ (by simp at * <;> omega);have hW1:=hW ⟨2,[],false⟩ (by simp at * <;> omega);simp only [ag.row] at hW1;rw [aG M hS.truchmanref01_marked rfl (c:=aC) rfl,aC];simp (maxSteps:=3000000) (maxDischargeDepth:=6) +contextual -implicitDefEqProofs only [amC M,↓amD,Nat.reduceBEq,Nat.reduceAdd,env,ah,aY,amG,AV.cell,Nat.reduceMul,Nat.reduceLeDiff,h3,x0,x1,xl,xp,hw1,hw2,sA,sB,sC,qB,aQ,aj,hp_set0,kQ,qK,jm,ag.row,cut_app,hp_take,hN1,hW1,(show ((2:Int) == 2)=true from rfl),(show ((2:Int) == 3)=false from rfl),List.length_nil,(show decide ((0:Int)<((0:Nat):Int))=false from rfl),c1,c2,c3,c4]
  |cons d u=>
   have hgt:decide ((0:Int)<(((d::u).length:Nat):Int))=true:=decide_eq_true (by simp<;>omega);have hgt2:decide ((0:Int)<((u.length+1:Nat):Int))=true:=hgt;have hs1:=px (s:=d::u) (k:=.i64) (i:=1) (by simp);rw [show ((1:Nat):Int)=1 from rfl,List.drop_succ_cons,List.drop_zero] at hs1;cases hd:d == 43 with
   |true=>
    have hN1:=hN ⟨2,u,true⟩ (by simp at * <;> omega);have hW1:=hW ⟨2,u,true⟩ (by simp at * <;> omega);simp only [ag.row] at hW1;rw [aG M hS.truchmanref01_marked rfl (c:=aC) rfl,aC];simp (maxSteps:=3000000) (maxDischargeDepth:=6) +contextual -implicitDefEqProofs only [amC M,↓amD,Nat.reduceBEq,Nat.reduceAdd,env,ah,aY,amG,AV.cell,Nat.reduceMul,Nat.reduceLeDiff,h3,x0,x1,xl,xp,hw1,hw2,sA,sB,sC,qB,aQ,aj,hp_set0,kQ,qK,jm,ag.row,cut_app,hp_take,hN1,hW1,(show ((2:Int) == 2)=true from rfl),(show ((2:Int) == 3)=false from rfl),hgt,hgt2,hd,hs1,List.getElem?_cons_zero,c1,c2,c3,c4]
   |false=>
    have hN1:=hN ⟨2,d::u,false⟩ (by simp at * <;> omega);have hW1:=hW ⟨2,d::u,false⟩ (by simp at * <;> omega);simp only [ag.row] at hW1;rw [aG M hS.truchmanref01_marked rfl (c:=aC) rfl,aC];simp (maxSteps:=3000000) (maxDischargeDepth:=6) +contextual -implicitDefEqProofs only [amC M,↓amD,Nat.reduceBEq,Nat.reduceAdd,env,ah,aY,amG,AV.cell,Nat.reduceMul,Nat.reduceLeDiff,h3,x0,x1,xl,xp,hw1,hw2,sA,sB,sC,qB,aQ,aj,hp_set0,kQ,qK,jm,ag.row,cut_app,hp_take,hN1,hW1,(show ((2:Int) == 2)=true from rfl),(show ((2:Int) == 3)=false from rfl),hgt,hgt2,hd,hs1,List.getElem?_cons_zero,c1,c2,c3,c4]
end
structure Lo (p:ag) (n:Nat) (s:Str):Prop where
 name:m8 p.text=true
 kind:p.kind=2∨p.kind=3∨(p.kind=4∧p.car=false)∨(p.kind=5∧p.car=false)
 wr:wrF p=s.take n
 len:n=(wrF p).length
theorem zZ{s:Str}(h:m8 s=true):s.all inN=true∧∃ d u,s=d::u∧97≤d.toNat∧d.toNat≤122:=by
 cases s with
 |nil=>cases h
 |cons d u=>
  simp only [m8,Bool.and_eq_true,decide_eq_true_eq] at h;exact ⟨h.2,d,u,rfl,by omega,by omega⟩
theorem rJ{c:UInt8}(h:inN c=true):ee c=false∧(c == 47)=false∧(c == 43)=false∧(c == 62)=false∧(c == 125)=false:=by
 have key:∀ n:Fin 256,inN (UInt8.ofNat n.val)=true→ee (UInt8.ofNat n.val)=false∧(UInt8.ofNat n.val == 47)=false∧(UInt8.ofNat n.val == 43)=false∧(UInt8.ofNat n.val == 62)=false∧(UInt8.ofNat n.val == 125)=false:=by decide
 have:=key ⟨c.toNat,c.toNat_lt⟩;simp only [UInt8.ofNat_toNat] at this;exact this h
theorem Gm{p:UInt8→Bool}:∀ (b:Str) (e:UInt8) (rest:Str) (i:Nat),(∀ x∈b,p x=false)→p e=true→fN p i (b++e::rest)=((i+b.length:Nat):Int)
 |[],e,rest,i,_,he=>by simp [fN,he,sel]
 |x::b,e,rest,i,hb,he=>by
  have h1:=hb x (List.mem_cons_self ..);rw [List.cons_append,fN,h1,sel_false,Gm b e rest (i+1) (fun y hy=>hb y (List.mem_cons_of_mem _ hy)) he];simp;omega
theorem BH{c e:UInt8}{b rest:Str}{p:ag}(he:ee e=true)(hb:∀ x∈b,ee x=false)(hp:mkB c b=p)(hn:m8 p.text=true)(hw:wrF p=c::(b++[e])) :
  mkO (c::(b++e::rest))=some (p,b.length+2):=by
 have h1:=Gm b e rest 0 hb he;rw [Nat.zero_add] at h1;have h2:(b++e::rest).take b.length=b:=List.take_left' rfl
 have h3:(b++e::rest).take (b.length+1)=b++[e]:=by
  rw [show b++e::rest=(b++[e])++rest by simp];exact List.take_left' (by simp)
 rw [mkO,h1,show decide (((b.length:Nat):Int)<0)=false from decide_eq_false (by omega),sel_false,mkT,show ((b.length:Nat):Int).toNat=b.length from rfl,h2,h3,hp,hn,hw];simp [sel]
theorem mg{d:UInt8}{u p:Str}{q:UInt8}(h:(d == q)=false):dH (d::u) (q::p)=false:=by
 unfold dH;rw [Bool.and_eq_false_iff];right;rw [List.length_cons,List.take_succ_cons,beq_eq_false_iff_ne];intro e;simp at e h;exact h e.1
theorem z6(d:UInt8)(u:Str):dH (d::u) [d]=true:=by simp [dH]
theorem Eh(b:Str):nA (b++[47]) [47]=true:=by simp [nA]
theorem HJ{b:Str}{x:UInt8}(h:(x == 47)=false):nA (b++[x]) [47]=false:=by
 simp [nA] at h ⊢;exact h
theorem Gn{b:Str}(h:b≠[]):∃ a x,b=a++[x]:=⟨b.dropLast,b.getLast h,(List.dropLast_concat_getLast h).symm⟩
theorem NA{s:Str}{p:ag}{n:Nat}(h:mkO s=some (p,n)):Lo p n s:=by
 cases s with
 |nil=>cases h
 |cons c t=>
  rw [mkO] at h;cases h1:decide (fN ee 0 t<0) with
  |true=>rw [h1] at h;cases h
  |false=>
   rw [h1,sel_false] at h;rcases uH (p:=ee) t 0 with ⟨h2,_⟩ | ⟨j,hj,h2,_,_,_⟩
   ·rw [h2] at h1;cases h1
   ·rw [h2,show ((0+j:Nat):Int).toNat=j by simp] at h
    cases h3:mkT c t j with
    |false=>rw [h3] at h;cases h
    |true=>
     rw [h3] at h;simp only [sel,Option.some.injEq,Prod.mk.injEq] at h;obtain ⟨rfl,rfl⟩:=h;simp only [mkT,Bool.and_eq_true,beq_iff_eq] at h3;refine ⟨h3.1, ?_,by rw [h3.2];simp,by rw [h3.2];simp;omega⟩;unfold mkB;cases c == 123<;>cases dH (t.take j) [47,43]<;>cases dH (t.take j) [47]<;>cases dH (t.take j) [43]<;>cases nA (t.take j) [47]<;>simp [sel]
theorem NC{s:Str}{p:ag}{n:Nat}(h:Lo p n s):mkO s=some (p,n):=by
 obtain ⟨hn,hk,hw,hl⟩:=h;obtain ⟨hall,d,u,ht,hd1,hd2⟩:=zZ hn;have hs:s=wrF p++s.drop n:=by rw [hw,List.take_append_drop]
 generalize s.drop n=rest at hs;have hin:∀ x∈p.text,inN x=true:=by simpa using hall
 have hne:∀ x∈p.text,ee x=false:=fun x hx=>(rJ (hin x hx)).1
 have hd:=rJ (hin d (by rw [ht];exact List.mem_cons_self ..));obtain ⟨k,tx,ca⟩:=p;dsimp only at *
 rcases hk with rfl | rfl | ⟨rfl,rfl⟩ | ⟨rfl,rfl⟩
 ·cases ca with
  |false=>
   have e:wrF ⟨2,tx,false⟩=60::(tx++[62]):=by simp [wrF,fx,sel]
   have hm:mkB 60 tx=⟨2,tx,false⟩:=by
    obtain ⟨a,x,hax⟩:=Gn (b:=tx) (by rw [ht];simp);have hx:=rJ (hin x (by rw [hax];simp));have q1:dH tx [47,43]=false:=by rw [ht];exact mg hd.2.1
    have q2:dH tx [47]=false:=by rw [ht];exact mg hd.2.1
    have q3:dH tx [43]=false:=by rw [ht];exact mg hd.2.2.1
    have q4:nA tx [47]=false:=by rw [hax];exact HJ hx.2.1
    rw [mkB,q1,q2,q3,q4];rfl
   have:=BH (c:=60) (e:=62) (rest:=rest) rfl hne hm hn e;rw [hs,e,hl,e];simpa using this
  |true=>
   have e:wrF ⟨2,tx,true⟩=60::((43::tx)++[62]):=by simp [wrF,fx,sel]
   have hm:mkB 60 (43::tx)=⟨2,tx,true⟩:=by
    rw [mkB,mg (d:=43) (q:=47) rfl,mg (d:=43) (q:=47) rfl,z6];rfl
   have:=BH (c:=60) (e:=62) (b:=43::tx) (rest:=rest) rfl (by intro x hx;rcases List.mem_cons.1 hx with rfl | hx;rfl;exact hne x hx) hm hn e;rw [hs,e,hl,e];simpa using this
 ·cases ca with
  |false=>
   have e:wrF ⟨3,tx,false⟩=60::((47::tx)++[62]):=by simp [wrF,fx,sel]
   have hm:mkB 60 (47::tx)=⟨3,tx,false⟩:=by
    have q1:dH (47::tx) [47,43]=false:=by
     rw [ht];unfold dH;have:=hd.2.2.1;simp at this ⊢;exact this
    rw [mkB,q1,z6];rfl
   have:=BH (c:=60) (e:=62) (b:=47::tx) (rest:=rest) rfl (by intro x hx;rcases List.mem_cons.1 hx with rfl | hx;rfl;exact hne x hx) hm hn e;rw [hs,e,hl,e];simpa using this
  |true=>
   have e:wrF ⟨3,tx,true⟩=60::((47::43::tx)++[62]):=by simp [wrF,fx,sel]
   have hm:mkB 60 (47::43::tx)=⟨3,tx,true⟩:=by
    have q1:dH (47::43::tx) [47,43]=true:=by simp [dH]
    rw [mkB,q1];rfl
   have:=BH (c:=60) (e:=62) (b:=47::43::tx) (rest:=rest) rfl (by intro x hx;rcases List.mem_cons.1 hx with rfl | hx;rfl;rcases List.mem_cons.1 hx with rfl | hx;rfl;exact hne x hx) hm hn e;rw [hs,e,hl,e];simpa using this
 ·have e:wrF ⟨4,tx,false⟩=60::((tx++[47])++[62]):=by simp [wrF,sel]
  have hm:mkB 60 (tx++[47])=⟨4,tx,false⟩:=by
   have q1:dH (tx++[47]) [47,43]=false:=by rw [ht];exact mg hd.2.1
   have q2:dH (tx++[47]) [47]=false:=by rw [ht];exact mg hd.2.1
   have q3:dH (tx++[47]) [43]=false:=by rw [ht];exact mg hd.2.2.1
   rw [mkB,q1,q2,q3,Eh];simp [sel]
  have:=BH (c:=60) (e:=62) (b:=tx++[47]) (rest:=rest) rfl (by intro x hx;rcases List.mem_append.1 hx with hx | hx;exact hne x hx;simp at hx;subst hx;rfl) hm hn e;rw [hs,e,hl,e];simpa using this
 ·have e:wrF ⟨5,tx,false⟩=123::(tx++[125]):=by simp [wrF,sel]
  have hm:mkB 123 tx=⟨5,tx,false⟩:=rfl;have:=BH (c:=123) (e:=125) (rest:=rest) rfl hne hm hn e;rw [hs,e,hl,e];simpa using this
def HK(c:UInt8):UInt8:=if (c == 123)=true then 125 else 62
theorem Fq(x:ag)(h:x.car=false):(jm x).kind=x.kind∧((jm x).car=true→x.kind=2∨x.kind=3):=by
 unfold jm;cases x.text with
 |nil=>exact ⟨rfl,fun h2=>by rw [h] at h2;cases h2⟩
 |cons d u=>
  dsimp only;cases hb:(d == 43)&&((x.kind == 2)||(x.kind == 3)) with
  |false=>exact ⟨rfl,fun h2=>by rw [sel_false,h] at h2;cases h2⟩
  |true=>
   refine ⟨rfl,fun _ => ?_⟩;simp only [Bool.and_eq_true,Bool.or_eq_true,beq_iff_eq] at hb;exact hb.2
theorem Gp{s:Str}(h:(rmk s).2=true):Lo (rmk s).1 s.length s:=by
 have key:∀ x:ag,x.car=false→(x.kind=2∨x.kind=3∨x.kind=4∨x.kind=5)→(qK s x).2=true→Lo (qK s x).1 s.length s:=fun x hx hk h2=>by
  simp only [qK,Bool.and_eq_true,beq_iff_eq] at h2 ⊢;obtain ⟨k1,k2⟩:=Fq x hx;refine ⟨h2.1, ?_,by rw [h2.2,List.take_length],by rw [h2.2]⟩;rw [k1];rcases hk with hk | hk | hk | hk
  ·exact .inl hk
  ·exact .inr (.inl hk)
  ·refine .inr (.inr (.inl ⟨hk, ?_⟩))
   cases hc:(jm x).car with
   |false=>rfl
   |true=>have:=k2 hc;omega
  ·refine .inr (.inr (.inr ⟨hk, ?_⟩))
   cases hc:(jm x).car with
   |false=>rfl
   |true=>have:=k2 hc;omega
 unfold rmk at h ⊢;cases h1:decide ((s.length:Int)<3) with
 |true=>rw [h1] at h;cases h
 |false=>
 rw [h1,sel_false] at h;simp only [sel_false];cases h2:(s.getD 0 0 == 123)&&(s.getD (s.length-1) 0 == 125) with
 |true=>rw [h2,sel_true] at h;exact key _ rfl (by simp) h
 |false=>
 rw [h2,sel_false] at h;simp only [sel_false];cases h3 : !(s.getD 0 0 == 60) || !(s.getD (s.length-1) 0 == 62) with
 |true=>rw [h3] at h;cases h
 |false=>
 rw [h3,sel_false] at h;simp only [sel_false];cases h4:s.getD 1 0 == 47 with
 |true=>rw [h4,sel_true] at h;exact key _ rfl (by simp) h
 |false=>
 rw [h4,sel_false] at h;simp only [sel_false];cases h5:s.getD (s.length-2) 0 == 47 with
 |true=>rw [h5,sel_true] at h;exact key _ rfl (by simp) h
 |false=>rw [h5,sel_false] at h;exact key _ rfl (by simp) h
theorem qL{a:Str}{x:UInt8}{b:Str}:(a++x::b).getD a.length 0=x:=by simp [List.getD]
theorem JC{x:ag}{d:UInt8}{u:Str}(h:x.text=d::u)(hd:(d == 43)=false):jm x=x:=by
 unfold jm;rw [h];simp [hd,sel]
theorem MS{p:ag}(hn:m8 p.text=true)(hk:p.kind=2∨p.kind=3∨(p.kind=4∧p.car=false)∨(p.kind=5∧p.car=false)):rmk (wrF p)=(p,true):=by
 obtain ⟨hall,d,u,ht,hd1,hd2⟩:=zZ hn;have hin:∀ x∈p.text,inN x=true:=by simpa using hall
 have hd:=rJ (hin d (by rw [ht];exact List.mem_cons_self ..));obtain ⟨a,x,hax⟩:=Gn (b:=p.text) (by rw [ht];simp);have hx:=rJ (hin x (by rw [hax];simp));obtain ⟨k,tx,ca⟩:=p;dsimp only at *
 have hlen:1≤tx.length:=by rw [ht];simp
 have fin:∀ (s:Str) (y q:ag),jm y=q→m8 q.text=true→wrF q=s→qK s y=(q,true):=fun s y q h1 h2 h3=>by
  simp [qK,h1,h2,h3]
 have pn:∀ k,jm ⟨k,tx,false⟩=⟨k,tx,false⟩:=fun k=>JC ht hd.2.2.1
 rcases hk with rfl | rfl | ⟨rfl,rfl⟩ | ⟨rfl,rfl⟩
 ·cases ca with
  |false=>
   have e:wrF ⟨2,tx,false⟩=60::(tx++[62]):=by simp [wrF,fx,sel]
   have e0:(60::(tx++[62]):Str).length=tx.length+2:=by simp
   have c1:decide (((60::(tx++[62]):Str).length:Int)<3)=false:=decide_eq_false (by rw [e0];omega);have c3:(60::(tx++[62]):Str).getD ((60::(tx++[62]):Str).length-1) 0=62:=by rw [e0];exact qL (a:=60::tx)
   have c4:(60::(tx++[62]):Str).getD 1 0=d:=by rw [ht];rfl
   have c5:(60::(tx++[62]):Str).getD ((60::(tx++[62]):Str).length-2) 0=x:=by
    rw [e0,hax];simp [List.getD]
   have c6:((60::(tx++[62]):Str).drop 1).take ((60::(tx++[62]):Str).length-2)=tx:=by rw [e0];simp
   rw [e,rmk,c1,c3,c4,c5,c6,hd.2.1,hx.2.1];exact fin _ _ _ (pn 2) hn e
  |true=>
   have e:wrF ⟨2,tx,true⟩=60::43::(tx++[62]):=by simp [wrF,fx,sel]
   have e0:(60::43::(tx++[62]):Str).length=tx.length+3:=by simp
   have c1:decide (((60::43::(tx++[62]):Str).length:Int)<3)=false:=decide_eq_false (by rw [e0];omega);have c3:(60::43::(tx++[62]):Str).getD ((60::43::(tx++[62]):Str).length-1) 0=62:=by rw [e0];exact qL (a:=60::43::tx)
   have c5:(60::43::(tx++[62]):Str).getD ((60::43::(tx++[62]):Str).length-2) 0=x:=by
    rw [e0,hax];simp [List.getD]
   have c6:((60::43::(tx++[62]):Str).drop 1).take ((60::43::(tx++[62]):Str).length-2)=43::tx:=by rw [e0];simp
   have hp:jm ⟨2,43::tx,false⟩=⟨2,tx,true⟩:=rfl;rw [e,rmk,c1,c3,c5,c6,hx.2.1];exact fin _ _ _ hp hn e
 ·cases ca with
  |false=>
   have e:wrF ⟨3,tx,false⟩=60::47::(tx++[62]):=by simp [wrF,fx,sel]
   have e0:(60::47::(tx++[62]):Str).length=tx.length+3:=by simp
   have c1:decide (((60::47::(tx++[62]):Str).length:Int)<3)=false:=decide_eq_false (by rw [e0];omega);have c3:(60::47::(tx++[62]):Str).getD ((60::47::(tx++[62]):Str).length-1) 0=62:=by rw [e0];exact qL (a:=60::47::tx)
   have c6:((60::47::(tx++[62]):Str).drop 2).take ((60::47::(tx++[62]):Str).length-3)=tx:=by rw [e0];simp
   rw [e,rmk,c1,c3,c6];exact fin _ _ _ (pn 3) hn e
  |true=>
   have e:wrF ⟨3,tx,true⟩=60::47::43::(tx++[62]):=by simp [wrF,fx,sel]
   have e0:(60::47::43::(tx++[62]):Str).length=tx.length+4:=by simp
   have c1:decide (((60::47::43::(tx++[62]):Str).length:Int)<3)=false:=decide_eq_false (by rw [e0];omega);have c3:(60::47::43::(tx++[62]):Str).getD ((60::47::43::(tx++[62]):Str).length-1) 0=62:=by rw [e0];exact qL (a:=60::47::43::tx)
   have c6:((60::47::43::(tx++[62]):Str).drop 2).take ((60::47::43::(tx++[62]):Str).length-3)=43::tx:=by rw [e0];simp
   have hp:jm ⟨3,43::tx,false⟩=⟨3,tx,true⟩:=rfl;rw [e,rmk,c1,c3,c6];exact fin _ _ _ hp hn e
 ·have e:wrF ⟨4,tx,false⟩=60::(tx++[47,62]):=by simp [wrF,sel]
  have e0:(60::(tx++[47,62]):Str).length=tx.length+3:=by simp
  have c1:decide (((60::(tx++[47,62]):Str).length:Int)<3)=false:=decide_eq_false (by rw [e0];omega);have c3:(60::(tx++[47,62]):Str).getD ((60::(tx++[47,62]):Str).length-1) 0=62:=by rw [e0];simp [List.getD]
  have c4:(60::(tx++[47,62]):Str).getD 1 0=d:=by rw [ht];rfl
  have c5:(60::(tx++[47,62]):Str).getD ((60::(tx++[47,62]):Str).length-2) 0=47:=by rw [e0];exact qL (a:=60::tx)
  have c6:((60::(tx++[47,62]):Str).drop 1).take ((60::(tx++[47,62]):Str).length-3)=tx:=by rw [e0];simp
  rw [e,rmk,c1,c3,c4,c5,c6,hd.2.1];exact fin _ _ _ (pn 4) hn e
 ·have e:wrF ⟨5,tx,false⟩=123::(tx++[125]):=by simp [wrF,sel]
  have e0:(123::(tx++[125]):Str).length=tx.length+2:=by simp
  have c1:decide (((123::(tx++[125]):Str).length:Int)<3)=false:=decide_eq_false (by rw [e0];omega);have c3:(123::(tx++[125]):Str).getD ((123::(tx++[125]):Str).length-1) 0=125:=by rw [e0];exact qL (a:=123::tx)
  have c6:((123::(tx++[125]):Str).drop 1).take ((123::(tx++[125]):Str).length-2)=tx:=by rw [e0];simp
  rw [e,rmk,c1,c3,c6];exact fin _ _ _ (pn 5) hn e
theorem JD{p:ag}(hn:m8 p.text=true)(hk:p.kind=2∨p.kind=3∨(p.kind=4∧p.car=false)∨(p.kind=5∧p.car=false)) :
  ∃ (c:UInt8) (w:Str),wrF p=c::(w++[HK c])∧∀ x∈c::w,(x == HK c)=false:=by
 obtain ⟨hall,d,u,ht,hd1,hd2⟩:=zZ hn;have hin:∀ x∈p.text,inN x=true:=by simpa using hall
 have h62:∀ x∈p.text,(x == 62)=false:=fun x hx=>(rJ (hin x hx)).2.2.2.1
 have h125:∀ x∈p.text,(x == 125)=false:=fun x hx=>(rJ (hin x hx)).2.2.2.2
 obtain ⟨k,tx,ca⟩:=p;dsimp only at *
 rcases hk with rfl | rfl | ⟨rfl,rfl⟩ | ⟨rfl,rfl⟩
 ·refine ⟨60,fx ⟨2,tx,ca⟩++tx,by cases ca<;>simp [wrF,fx,sel,HK],fun x hx => ?_⟩
  rcases List.mem_cons.1 hx with rfl | hx
  ·rfl
  rcases List.mem_append.1 hx with hx | hx
  ·cases ca
   ·cases hx
   ·simp [fx,sel] at hx;subst hx;rfl
  ·exact h62 x hx
 ·refine ⟨60,47::(fx ⟨3,tx,ca⟩++tx),by cases ca<;>simp [wrF,fx,sel,HK],fun x hx => ?_⟩
  rcases List.mem_cons.1 hx with rfl | hx
  ·rfl
  rcases List.mem_cons.1 hx with rfl | hx
  ·rfl
  rcases List.mem_append.1 hx with hx | hx
  ·cases ca
   ·cases hx
   ·simp [fx,sel] at hx;subst hx;rfl
  ·exact h62 x hx
 ·refine ⟨60,tx++[47],by simp [wrF,sel,HK],fun x hx => ?_⟩
  rcases List.mem_cons.1 hx with rfl | hx
  ·rfl
  rcases List.mem_append.1 hx with hx | hx
  ·exact h62 x hx
  ·simp at hx;subst hx;rfl
 ·refine ⟨123,tx,by simp [wrF,sel,HK],fun x hx => ?_⟩
  rcases List.mem_cons.1 hx with rfl | hx
  ·rfl
  ·exact h125 x hx
section
attribute [local congr] aD a8 aO aE aN aI aF au aw aJ aK
variable{E:aT}(M:br bP E)
def A8(N:Nat)(e:TypeId)(sz:Nat)(G:List AObj)(v:AV)(rows:List (List AV)):Prop:=
 (rows=[]∧v = .slice .nil sz [])∨∃ t,N≤t∧v = .slice (.own t) sz rows∧G[t]?=some (.tok (rows.length*sz) e)
def Gq(N b:Nat)(e:TypeId)(G G':List AObj):Prop:=
 G.length≤G'.length∧(∀ i,i<N→i≠b→G'[i]?=G[i]?)∧∀ i,i<G.length→i≠b→(∀ n,G[i]?≠some (.tok n e))→G'[i]?=G[i]?
theorem Gq.refl(N b:Nat)(e:TypeId)(G:List AObj):Gq N b e G G:=⟨Nat.le_refl _,fun _ _ _=>rfl,fun _ _ _ _=>rfl⟩
theorem A8.cell{N:Nat}{e:TypeId}{sz:Nat}{G:List AObj}{v:AV}{rows:List (List AV)}(h:A8 N e sz G v rows):v.cell=true∧b6 v=some [v]:=by
 rcases h with ⟨_,rfl⟩ | ⟨t,_,rfl,_⟩<;>exact ⟨rfl,rfl⟩
theorem A8.len{N:Nat}{e:TypeId}{sz:Nat}{G:List AObj}{v:AV}{rows:List (List AV)}(h:A8 N e sz G v rows)(H:List AObj):pT H .sl v=some (.int .i64 (rows.length:Int)):=by
 rcases h with ⟨rfl,rfl⟩ | ⟨t,_,rfl,_⟩<;>rfl
theorem A8.stay{N:Nat}{e:TypeId}{sz:Nat}{G G':List AObj}{v:AV}{rows:List (List AV)}(h:A8 N e sz G v rows)(hs:∀ t,N≤t→G[t]?=some (.tok (rows.length*sz) e)→G'[t]?=G[t]?):A8 N e sz G' v rows:=by
 rcases h with ⟨h1,h2⟩ | ⟨t,ht,h1,hg⟩
 ·exact .inl ⟨h1,h2⟩
 ·exact .inr ⟨t,ht,h1,by rw [hs t ht hg];exact hg⟩
structure HL (N b:Nat) (G:List AObj) (w:Str):Prop where
 ex:∃ ad bv,G[b]?=some (.cells [ad,bv] mL)∧(ad = .nilp∨ad = .ptr b 0)∧A8 N rq 1 G bv (Nx w)
theorem JE{G:List AObj}{b:Nat}{cs:List AV}{T:TypeId}(h:G[b]?=some (.cells cs T))(n:Nat)(e:TypeId):G[b]?≠some (.tok n e):=by rw [h];simp
def Ei(N o:Nat)(G:List AObj)(l:List ag):Prop:=∃ ov,G[o]?=some (.cells [ov] ao)∧A8 N ae 3 G ov (l.map ag.row)
theorem Ei.turn{N o b:Nat}{G G':List AObj}{l:List ag}(h:Ei N o G l)(ht:Gq N b rq G G')(hob:o≠b)(hb:∃ cs T,G[b]?=some (.cells cs T))(hne:ae≠rq):Ei N o G' l:=by
 obtain ⟨ov,h1,h2⟩:=h;obtain ⟨cs,T,hb⟩:=hb;refine ⟨ov,by rw [ht.2.2 o (bT h1) hob (fun n=>JE h1 n _)];exact h1,h2.stay fun t _ hg=>ht.2.2 t (bT hg) ?_ ?_⟩
 ·rintro rfl;rw [hb] at hg;cases hg
 ·intro n h3;rw [hg] at h3;injection h3 with h3;injection h3 with _ h3;exact hne h3
theorem HL.app{N b:Nat}{G:List AObj}{w:Str}(h:HL N b G w)(L:List AObj):HL N b (G++L) w:=by
 obtain ⟨ad,bv,h1,ha,h2⟩:=h.ex;exact ⟨ad,bv,bU h1,ha,h2.stay fun t _ hg=>by rw [List.getElem?_append_left (bT hg)]⟩
theorem Ei.app{N o:Nat}{G:List AObj}{l:List ag}(h:Ei N o G l)(L:List AObj):Ei N o (G++L) l:=by
 obtain ⟨ov,h1,h2⟩:=h;exact ⟨ov,bU h1,h2.stay fun t _ hg=>by rw [List.getElem?_append_left (bT hg)]⟩
theorem HL.turn{N o b:Nat}{G G':List AObj}{w:Str}(h:HL N b G w)(ht:Gq N o ae G G')(hob:o≠b)(ho:∃ cs T,G[o]?=some (.cells cs T))(hne:ae≠rq):HL N b G' w:=by
 obtain ⟨ad,bv,h1,ha,h2⟩:=h.ex;obtain ⟨cs,T,ho⟩:=ho;refine ⟨ad,bv,by rw [ht.2.2 b (bT h1) (Ne.symm hob) (fun n=>JE h1 n _)];exact h1,ha,h2.stay fun t _ hg=>ht.2.2 t (bT hg) ?_ ?_⟩
 ·rintro rfl;rw [ho] at hg;cases hg
 ·intro n h3;rw [hg] at h3;injection h3 with h3;injection h3 with _ h3;exact hne h3.symm
end
section
attribute [local congr] aD a8 aO aE aN aI aF au aw aJ aK
variable{E:aT}(M:br bP E)
structure RdB (i:Nat) (w:Str) (out:List ag):Prop where
 w:w.length≤i
 n:out.length≤2*i
 t:∀ x∈out,x.text.length≤65536
theorem Ei.val{N o:Nat}{G:List AObj}{l:List ag}(h:Ei N o G l):∃ tg,G[o]?=some (.cells [.slice tg 3 (l.map ag.row)] ao)∧qC G.length tg∧A8 N ae 3 G (.slice tg 3 (l.map ag.row)) (l.map ag.row):=by
 obtain ⟨ov,h1,h2⟩:=h;rcases h2 with ⟨h3,rfl⟩ | ⟨t,ht,rfl,hg⟩
 ·rw [h3];exact ⟨.nil,h1,trivial,.inl ⟨rfl,rfl⟩⟩
 ·exact ⟨.own t,h1,bT hg,.inr ⟨t,ht,rfl,hg⟩⟩
end
section
attribute [local congr] aD a8 aO aE aN aI aF au aw aJ aK
variable{E:aT}(M:br bP E)
end
section
attribute [local congr] aD a8 aO aE aN aI aF au aw aJ aK
variable{E:aT}(M:br bP E)
structure NX (E:aT):Prop where
end
structure Un where
 r:Int
 hole:Bool
def Un.row(x:Un):List AV:=[.int .i32 x.r,.bool x.hole]
theorem qUn:(∀ x:Un,qD 2 (Un.row x)=some (Un.row x))∧(∀ x:Un,bJ none (Un.row x) 0=some (.int .i32 x.r))∧(∀ x:Un,bJ none (Un.row x) 1=some (.bool x.hole))∧(∀ x:Un,(Un.row x).length=2)∧(∀ x:Un,(Un.row x).all AV.cell=true)∧(∀ x:Un,∀ c0 c1:AV,bo [c0,c1] 0 (Un.row x)=Un.row x)∧(∀ x:Un,∀ y:Un,bo (Un.row y) 0 (Un.row x)=Un.row x)∧(∀ x:Un,∀ (y:Int),bo (Un.row x) 0 [.int .i32 y]=Un.row { x with r:=y })∧(∀ x:Un,∀ (y:Bool),bo (Un.row x) 1 [.bool y]=Un.row { x with hole:=y })∧(∀ x:Un,(Un.row x).map AV.strip=Un.row x)∧(∀ x:Un,(Un.row x).take 2=Un.row x)∧(∀ x:Un,(Un.row x).drop 2=[]):=
 by refine ⟨?_, ?_, ?_, ?_, ?_, ?_, ?_, ?_, ?_, ?_, ?_, ?_⟩<;>(intros;first | rfl | (simp only [Un.row];rfl) | (simp only [Un.row,Bw];rfl))
structure Un.ok (n:Nat) (x:Un):Prop where
 triv:True
theorem Un.ok.mono{n m:Nat}{x:Un}(h:x.ok n)(hn:n≤m):x.ok m:=⟨trivial⟩
structure Fit where
 cls:Bool
 r:Int
def Fit.row(x:Fit):List AV:=[.bool x.cls,.int .i32 x.r]
structure Fit.ok (n:Nat) (x:Fit):Prop where
 triv:True
theorem Fit.ok.mono{n m:Nat}{x:Fit}(h:x.ok n)(hn:n≤m):x.ok m:=⟨trivial⟩
section
attribute [local congr] aD a8 aO aE aN aI aF au aw aJ aK
variable{E:aT}(M:br bP E)
structure kR (E:aT):Prop where
 docs_unit_letter:E.fn fD=some iQ
 docs_unit_digit:E.fn gB=some jX
 docs_unit_blank:E.fn jU=some jY
 docs_unit_mark:E.fn iv=some kP
 docs_unit_word:E.fn fA=some kO
 docs_units:E.fn mK=some oK
 truchmanref01_letter:E.fn fj=some iW
 truchmanref01_digit:E.fn fR=some jM
 truchmanref01_inWord:E.fn fh=some iS
 truchmanref01_mark:E.fn kj=some kA
def tF(u:Un):Bool := !u.hole&&(decide (65≤u.r)&&decide (u.r≤90)||decide (97≤u.r)&&decide (u.r≤122)||decide (127<u.r))
def wE(u:Un):Bool := !u.hole&&decide (48≤u.r)&&decide (u.r≤57)
def z8(u:Un):Bool := !u.hole&&(u.r == 32)
def qM(u:Un):Bool := !u.hole && !tF u && !wE u && !z8 u
def mR(u:Un):Bool:=u.hole||tF u||wE u
theorem xd(hU:kR E)(u:Un)(H:List AObj):M.run fD [.agg u.row] H=some (.ret (.bool (tF u)),H):=by
 rw [aG M hU.docs_unit_letter rfl (c:=lW) rfl,lW];cases hh:u.hole<;>simp (maxSteps:=3000000) (maxDischargeDepth:=6) +contextual -implicitDefEqProofs only [amC M,↓amD,Nat.reduceBEq,Nat.reduceAdd,env,ah,uv,amG,AV.cell,Nat.reduceMul,Nat.reduceLeDiff,qUn,aj,hh,tF,cut_app,hp_take]
theorem Aa(hU:kR E)(u:Un)(H:List AObj):M.run gB [.agg u.row] H=some (.ret (.bool (wE u)),H):=by
 rw [aG M hU.docs_unit_digit rfl (c:=mM) rfl,mM];cases hh:u.hole<;>simp (maxSteps:=3000000) (maxDischargeDepth:=6) +contextual -implicitDefEqProofs only [amC M,↓amD,Nat.reduceBEq,Nat.reduceAdd,env,ah,vk,amG,AV.cell,Nat.reduceMul,Nat.reduceLeDiff,qUn,aj,hh,wE,cut_app,hp_take]
theorem Fs(hU:kR E)(u:Un)(H:List AObj):M.run jU [.agg u.row] H=some (.ret (.bool (z8 u)),H):=by
 rw [aG M hU.docs_unit_blank rfl (c:=mN) rfl,mN];cases hh:u.hole<;>simp (maxSteps:=3000000) (maxDischargeDepth:=6) +contextual -implicitDefEqProofs only [amC M,↓amD,Nat.reduceBEq,Nat.reduceAdd,env,ah,vl,amG,AV.cell,Nat.reduceMul,Nat.reduceLeDiff,qUn,aj,hh,z8,cut_app,hp_take]
theorem xf(hU:kR E)(u:Un)(H:List AObj):M.run fj [.agg u.row] H=some (.ret (.bool (tF u)),H):=by
 rw [aG M hU.truchmanref01_letter rfl (c:=iV) rfl,iV];cases hh:u.hole<;>simp (maxSteps:=3000000) (maxDischargeDepth:=6) +contextual -implicitDefEqProofs only [amC M,↓amD,Nat.reduceBEq,Nat.reduceAdd,env,ah,rC,amG,AV.cell,Nat.reduceMul,Nat.reduceLeDiff,qUn,aj,hh,tF,cut_app,hp_take]
theorem Ab(hU:kR E)(u:Un)(H:List AObj):M.run fR [.agg u.row] H=some (.ret (.bool (wE u)),H):=by
 rw [aG M hU.truchmanref01_digit rfl (c:=jL) rfl,jL];cases hh:u.hole<;>simp (maxSteps:=3000000) (maxDischargeDepth:=6) +contextual -implicitDefEqProofs only [amC M,↓amD,Nat.reduceBEq,Nat.reduceAdd,env,ah,rX,amG,AV.cell,Nat.reduceMul,Nat.reduceLeDiff,qUn,aj,hh,wE,cut_app,hp_take]
theorem BI(hU:kR E)(u:Un)(H:List AObj):M.run iv [.agg u.row] H=some (.ret (.bool (qM u)),H):=by
 rw [aG M hU.docs_unit_mark rfl (c:=nu) rfl,nu];cases hh:u.hole<;>simp (maxSteps:=3000000) (maxDischargeDepth:=6) +contextual -implicitDefEqProofs only [amC M,↓amD,Nat.reduceBEq,Nat.reduceAdd,env,ah,vY,amG,AV.cell,Nat.reduceMul,Nat.reduceLeDiff,qUn,aj,hh,qM,cut_app,hp_take,xd M hU,Aa M hU,Fs M hU]
theorem BJ(hU:kR E)(u:Un)(H:List AObj):M.run fA [.agg u.row] H=some (.ret (.bool (mR u)),H):=by
 rw [aG M hU.docs_unit_word rfl (c:=nn) rfl,nn];cases hh:u.hole<;>simp (maxSteps:=3000000) (maxDischargeDepth:=6) +contextual -implicitDefEqProofs only [amC M,↓amD,Nat.reduceBEq,Nat.reduceAdd,env,ah,vX,amG,AV.cell,Nat.reduceMul,Nat.reduceLeDiff,qUn,aj,hh,mR,cut_app,hp_take,xd M hU,Aa M hU]
theorem HM(hU:kR E)(u:Un)(H:List AObj):M.run kj [.agg u.row] H=some (.ret (.bool (qM u)),H):=by
 rw [aG M hU.truchmanref01_mark rfl (c:=kz) rfl,kz];cases hh:u.hole<;>simp (maxSteps:=3000000) (maxDischargeDepth:=6) +contextual -implicitDefEqProofs only [amC M,↓amD,Nat.reduceBEq,Nat.reduceAdd,env,ah,s7,amG,AV.cell,Nat.reduceMul,Nat.reduceLeDiff,qUn,aj,hh,qM,z8,cut_app,hp_take,xf M hU,Ab M hU]
 cases (u.r == 32)<;>simp
theorem BK(hU:kR E)(u:Un)(H:List AObj):M.run fh [.agg u.row] H=some (.ret (.bool (mR u)),H):=by
 rw [aG M hU.truchmanref01_inWord rfl (c:=iR) rfl,iR];cases hh:u.hole<;>simp (maxSteps:=3000000) (maxDischargeDepth:=6) +contextual -implicitDefEqProofs only [amC M,↓amD,Nat.reduceBEq,Nat.reduceAdd,env,ah,rz,amG,AV.cell,Nat.reduceMul,Nat.reduceLeDiff,qUn,aj,hh,mR,cut_app,hp_take,xf M hU,Ab M hU]
end
section
attribute [local congr] aD a8 aO aE aN aI aF au aw aJ aK
variable{E:aT}(M:br bP E)
end
section
attribute [local congr] aD a8 aO aE aN aI aF au aw aJ aK
variable{E:aT}(M:br bP E)
def unR(r:Nat):Un:=⟨(r:Int),false⟩
def unH:Un:=⟨0,true⟩
def unP(x:ag):List Un:=sel (x.kind == 5) [unH] (sel (x.kind == 1) ((bF x.text).map unR) [])
def unL(l:List ag):List Un:=(l.map unP).flatten
end
section
attribute [local congr] aD a8 aO aE aN aI aF au aw aJ aK
variable{E:aT}(M:br bP E)
end
section
attribute [local congr] aD a8 aO aE aN aI aF au aw aJ aK
variable{E:aT}(M:br bP E)
end
section
attribute [local congr] aD a8 aO aE aN aI aF au aw aJ aK
variable{E:aT}(M:br bP E)
end
section
attribute [local congr] aD a8 aO aE aN aI aF au aw aJ aK
variable{E:aT}(M:br bP E)
end
section
attribute [local congr] aD a8 aO aE aN aI aF au aw aJ aK
variable{E:aT}(M:br bP E)
end
section
attribute [local congr] aD a8 aO aE aN aI aF au aw aJ aK
variable{E:aT}(M:br bP E)
end
section
attribute [local congr] aD a8 aO aE aN aI aF au aw aJ aK
variable{E:aT}(M:br bP E)
end
section
attribute [local congr] aD a8 aO aE aN aI aF au aw aJ aK
variable{E:aT}(M:br bP E)
end
section
attribute [local congr] aD a8 aO aE aN aI aF au aw aJ aK
variable{E:aT}(M:br bP E)
structure Lp (E:aT):Prop where
 seq:E.seq kh=vh
 sar:E.sar kh=1
theorem JF{α:Type}{row:α→List AV}{l:List α}{x:α}{r:List AV}{sz bytes t:Nat}{e:TypeId}{H:List AObj}(ht:H[t]?=some (.tok (l.length*sz) e))(h1:r.length=sz)(h2:r.all AV.cell=true)(h3:r.map AV.strip=row x)
  (hl:(l.length+1)*bytes≤140737488355328) (hl2:l.length+1≤4611686018427387904) :
  rap false H e sz bytes false (.slice (.own t) sz (l.map row)) (.slice .full sz [r])=some (.slice (.own t) sz ((l++[x]).map row),H.set t (.tok ((l++[x]).length*sz) e)):=by
 simp only [rap,AA,xj,List.length_map,List.length_cons,List.length_nil,Nat.zero_add,or_true,if_true,hl,hl2,uu h1 h2,and_true,true_and,ht,List.map_cons,List.map_nil,h3,List.map_append,List.length_append,Nat.add_mul,Nat.one_mul];rw [Nat.add_mul,Nat.one_mul] at hl;rw [if_pos hl]
theorem Ft{sz bytes:Nat}{e:TypeId}{r:List AV}(H:List AObj)(h1:r.length=sz)(h2:r.all AV.cell=true)(hb:bytes≤140737488355328) :
  rap false H e sz bytes false (.slice .nil sz []) (.slice .full sz [r])=some (.slice (.own H.length) sz [r.map AV.strip],H++[.tok sz e]):=by
 simp only [rap,AA,xj,List.length_cons,List.length_nil,Nat.zero_add,or_true,if_true,uu h1 h2,and_true,true_and,List.map_cons,List.map_nil,Nat.one_mul];rw [if_pos ⟨hb,by omega⟩];rfl
theorem Fu(hU:kR E){l:List ag}{t:Tag}(H:List AObj):M.run mK [.slice t 3 (l.map ag.row)] H=some (.ret (.fn (.func kh) [] [.ptr H.length 0]),H++[.cells [.slice t 3 (l.map ag.row)] ao]):=by
 rw [aG M hU.docs_units rfl (c:=ru) rfl,ru];simp (maxSteps:=3000000) (maxDischargeDepth:=6) +contextual -implicitDefEqProofs only [amC M,↓amD,Nat.reduceBEq,Nat.reduceAdd,env,ah,CH,amG,AV.cell,Nat.reduceMul,Nat.reduceLeDiff]
theorem xg:∀ l:List ag,qG (l.map ag.row)=some ((unL l).map fun u=>[.agg u.row])
 |[]=>rfl
 |x::l=>by
  rw [List.map_cons,show ag.row x=[.int .u8 x.kind,.str x.text,.bool x.car] from rfl,qG,xg l];show _=some ((unP x++unL l).map _);rw [List.map_append];dsimp only
  by_cases h5:x.kind=5
  ·rw [if_pos h5,unP,h5];rfl
  ·have e5:(x.kind == 5)=false:=by simpa using h5
   rw [if_neg h5,unP,e5,sel_false]
   by_cases h1:x.kind=1
   ·rw [if_pos h1,h1]
    show _=some (((bF x.text).map unR).map _++_);rw [BE,List.map_map,List.map_map];rfl
   ·have e1:(x.kind == 1)=false:=by simpa using h1
    rw [if_neg h1,e1];rfl
end
section
attribute [local congr] aD a8 aO aE aN aI aF au aw aJ aK
variable{E:aT}(M:br bP E)
structure WsE (E:aT):Prop where
 slices_Index_string_string:E.fn eT=some bL
 truchmanlaw01_wordy:E.fn jx=some ep
 docs_Words:E.fn mJ=some bY
 truchmanref01_cutWords:E.fn gK=some bR
 truchmanref01_Words:E.fn jy=some jD
 truchmanlaw01_same:E.fn du=some dA
 docs_piece:E.fn gz=some oJ
 docs_first:E.fn rp=some oL
 strings_indexFunc:E.fn kW=some ec
 strings_IndexFunc:E.fn kV=some im
 strings_ContainsFunc:E.fn iL=some fp
 docs_isWord_1:E.fn eS=some lR
 docs_isWord:E.fn pY=some nH
 docs_CheckWords:E.fn gy=some eQ
 truchmanref01_row:E.fn kT=some fc
 truchmanref01_piece:E.fn fP=some jI
 truchmanref01_CheckWords:E.fn dK=some cT
 docs_tag:E.fn nh=some ry
 docs_Bare:E.fn nS=some l9
 truchmanref01_tag:E.fn eY=some kY
 truchmanref01_IsTag:E.fn fO=some jH
 truchmanref01_Bare:E.fn kb=some eG
 slices_Contains_string_string:E.fn eh=some cP
 docs_parted:E.fn nF=some nK
 docs_spaced_1:E.fn gi=some lQ
 docs_spaced_2:E.fn gj=some gl
 docs_spaced:E.fn nE=some lK
 docs_FromWords:E.fn ng=some nk
 truchmanref01_bareBehind:E.fn fC=some cV
 truchmanref01_in:E.fn iM=some fJ
 truchmanref01_apart:E.fn fQ=some jJ
 truchmanref01_spaced:E.fn iK=some ct
 truchmanref01_FromWords:E.fn fZ=some gg
 docs_Tags:E.fn sY=some nV
 truchmanref01_Tags:E.fn ke=some eI
 truchmanlaw01_DocsWords:E.fn fY=some gb
def pcF(w:Str):ag×Bool:=match w with
 |[]=>(dP,false)
 |c :: t=>sel ((c == 60)||(c == 123)) (match mkO (c::t) with
    |none=>(dP,false)
    |some (p,n)=>(p,decide ((0:Int)<(n:Int))&&(n == (c::t).length))) (dP,false)
theorem vz(w:Str):(pcF w).2=(rmk w).2∧((rmk w).2=true→(pcF w).1=(rmk w).1):=by
 cases h:(rmk w).2 with
 |true=>
  have T:=Gp h;have hw:wrF (rmk w).1=w:=by rw [T.wr,List.take_length]
  obtain ⟨c,u,e,_⟩:=JD T.name T.kind;have hm:=NC T
  have hc:((c == 60)||(c == 123))=true:=by
   have hk:=T.kind;rw [wrF] at e;rcases hk with k | k | ⟨k,_⟩ | ⟨k,_⟩<;>(rw [k] at e;simp [sel] at e;rw [← e.1];rfl)
  rw [hw] at e;rw [e] at hm ⊢;rw [pcF,hc,sel_true,hm];refine ⟨?_,fun _=>rfl⟩;simp;omega
 |false=>
  refine ⟨?_,fun h=>by cases h⟩;cases hp:(pcF w).2 with
  |false=>rfl
  |true=>
   exfalso;cases w with
   |nil=>cases hp
   |cons c t=>
    rw [pcF] at hp;cases hc:(c == 60)||(c == 123) with
    |false=>rw [hc,sel_false] at hp;cases hp
    |true=>
     rw [hc,sel_true] at hp;cases hm:mkO (c::t) with
     |none=>rw [hm] at hp;cases hp
     |some q=>
      obtain ⟨p,n⟩:=q;rw [hm] at hp;have T:=NA hm;have hn:n=(c::t).length:=by simp at hp;simpa using hp.2
      have hw:wrF p=c::t:=by rw [T.wr,hn,List.take_length]
      have:=MS T.name T.kind;rw [hw] at this;rw [this] at h;cases h
theorem rK(hB:fV E)(hS:fM E)(hX:sg M)(hW:WsE E){w:Str}(hw:w.length≤140737488351232)(H:List AObj):M.run gz [.str w] H=some (.ret (kQ (pcF w)),H):=by
 have hz:dP.row=[.int .u8 0,.str [],.bool false]:=rfl;cases w with
 |nil=>
  rw [aG M hW.docs_piece rfl (c:=db) rfl,db];simp (maxSteps:=3000000) (maxDischargeDepth:=6) +contextual -implicitDefEqProofs only [amC M,↓amD,Nat.reduceBEq,Nat.reduceAdd,env,ah,kN,amG,AV.cell,Nat.reduceMul,Nat.reduceLeDiff,pcF,kQ,hz,(show (([]:Str) == [])=true from rfl),aj,hp_set0,cut_app,hp_take,wk_tuple]
 |cons c t=>
  have b0:yX (c::t)[0]?=some (.int .u8 (c.toNat:Int)):=rfl;have q0:((c::t) == ([]:Str))=false:=rfl;cases hc:(c == 60)||(c == 123) with
  |false=>
   have h1:(c == 60)=false:=by cases h:c == 60 with
    |false=>rfl
    |true=>rw [h] at hc;cases hc
   have h2:(c == 123)=false:=by rw [h1] at hc;exact hc
   rw [aG M hW.docs_piece rfl (c:=db) rfl,db];simp (maxSteps:=3000000) (maxDischargeDepth:=6) +contextual -implicitDefEqProofs only [amC M,↓amD,Nat.reduceBEq,Nat.reduceAdd,env,ah,kN,amG,AV.cell,Nat.reduceMul,Nat.reduceLeDiff,pcF,kQ,hz,b0,q0,qB,h1,h2,aj,hp_set0,cut_app,hp_take,wk_tuple]
  |true=>
   have hm:=fun H=>Fp M hB hS hX (c:=c) (t:=t) (by simpa using hc) (by simpa using hw) H
   have hp:pcF (c::t)=(match mkO (c::t) with
     |none=>(dP,false)
     |some (p,n)=>(p,decide ((0:Int)<(n:Int))&&(n == (c::t).length))):=by rw [pcF,hc,sel_true]
   rw [hp];cases hk:mkO (c::t) with
   |none=>
    rw [hk] at hm;simp only [mkV,hz] at hm;dsimp only [kQ];rw [hz];cases h1:c == 60 with
    |true=>
     rw [aG M hW.docs_piece rfl (c:=db) rfl,db];simp (maxSteps:=3000000) (maxDischargeDepth:=6) +contextual -implicitDefEqProofs only [amC M,↓amD,Nat.reduceBEq,Nat.reduceAdd,env,ah,kN,amG,AV.cell,Nat.reduceMul,Nat.reduceLeDiff,b0,q0,qB,h1,hm,(show (decide ((0:Int)<0))=false from rfl),Bool.false_and,aj,hp_set0,cut_app,hp_take,wk_tuple]
    |false=>
     have h2:(c == 123)=true:=by rw [h1] at hc;exact hc
     rw [aG M hW.docs_piece rfl (c:=db) rfl,db];simp (maxSteps:=3000000) (maxDischargeDepth:=6) +contextual -implicitDefEqProofs only [amC M,↓amD,Nat.reduceBEq,Nat.reduceAdd,env,ah,kN,amG,AV.cell,Nat.reduceMul,Nat.reduceLeDiff,b0,q0,qB,h1,h2,hm,(show (decide ((0:Int)<0))=false from rfl),Bool.false_and,aj,hp_set0,cut_app,hp_take,wk_tuple]
   |some q=>
    obtain ⟨p,n⟩:=q;rw [hk] at hm;have hr:p.row=[.int .u8 p.kind,.str p.text,.bool p.car]:=rfl;simp only [mkV,hr] at hm;dsimp only [kQ];rw [hr];cases h1:c == 60 with
    |true=>
     rw [aG M hW.docs_piece rfl (c:=db) rfl,db];simp (maxSteps:=3000000) (maxDischargeDepth:=6) +contextual -implicitDefEqProofs only [amC M,↓amD,Nat.reduceBEq,Nat.reduceAdd,env,ah,kN,amG,AV.cell,Nat.reduceMul,Nat.reduceLeDiff,b0,q0,qB,h1,hm,aj,hp_set0,cut_app,hp_take,wk_tuple]
    |false=>
     have h2:(c == 123)=true:=by rw [h1] at hc;exact hc
     rw [aG M hW.docs_piece rfl (c:=db) rfl,db];simp (maxSteps:=3000000) (maxDischargeDepth:=6) +contextual -implicitDefEqProofs only [amC M,↓amD,Nat.reduceBEq,Nat.reduceAdd,env,ah,kN,amG,AV.cell,Nat.reduceMul,Nat.reduceLeDiff,b0,q0,qB,h1,h2,hm,aj,hp_set0,cut_app,hp_take,wk_tuple]
end
section
attribute [local congr] aD a8 aO aE aN aI aF au aw aJ aK
variable{E:aT}(M:br bP E)
end
section
attribute [local congr] aD a8 aO aE aN aI aF au aw aJ aK
variable{E:aT}(M:br bP E)
def ug(p:Sl ag):List AV:=[.slice p.tag 3 (p.l.map ag.row)]
theorem qPl:(∀ p:Sl ag,bJ none (ug p) 0=some (.slice p.tag 3 (p.l.map ag.row)))∧(∀ p:Sl ag,qD 1 (ug p)=some (ug p))∧(∀ p:Sl ag,(ug p).length=1):=⟨fun _=>rfl,fun _=>rfl,fun _=>rfl⟩
def qN(n:Nat):List ag→Nat
 |[]=>n
 |x::l=>if n<5000 then qN (n+x.text.length) l else n
def vA(n:Nat):List (Sl ag)→Nat
 |[]=>n
 |p::ps=>vA (qN (n+p.l.length) p.l) ps
def Ej(ps:List (Sl ag)):Bool:=decide (2500<vA 0 ps)
theorem CS:∀ (l:List ag) (n:Nat),5000≤n→qN n l=n
 |[],n,_=>rfl
 |x::l,n,h=>by rw [qN,if_neg (by omega)]
theorem Gr:∀ (l:List ag) (n:Nat),(∀ x∈l,x.text.length≤bh)→n<5000→qN n l≤bh+5000
 |[],n,_,hn=>by rw [qN];simp only [bh];omega
 |x::l,n,h,hn=>by
  rw [qN,if_pos hn];have h1:=h x List.mem_cons_self
  by_cases h2:n+x.text.length<5000
  ·exact Gr l (n+x.text.length) (fun y hy=>h y (List.mem_cons_of_mem _ hy)) h2
  ·rw [CS l _ (by omega)];omega
theorem JG(l:List ag)(n:Nat)(h:∀ x∈l,x.text.length≤bh):qN n l≤n+bh+5000:=by
 by_cases hn:n<5000
 ·have:=Gr l n h hn;omega
 ·rw [CS l n (by omega)];omega
theorem wF:∀ (l:List ag) (n:Nat),n≤qN n l
 |[],n=>Nat.le_refl _
 |x::l,n=>by
  rw [qN];split
  ·have:=wF l (n+x.text.length);omega
  ·exact Nat.le_refl _
theorem BL:∀ (ps:List (Sl ag)) (n:Nat),n≤vA n ps
 |[],n=>Nat.le_refl _
 |p::ps,n=>by
  rw [vA];have h1:=wF p.l (n+p.l.length);have h2:=BL ps (qN (n+p.l.length) p.l);omega
def xX(l:List ag):Nat:=(l.map fun x=>x.text.length).sum
theorem Gs:∀ (l:List ag) (n:Nat),qN n l≤2500→qN n l=n+xX l
 |[],n,_=>by simp [qN,xX]
 |x::l,n,h=>by
  have h0:n<5000:=by have:=wF (x::l) n;omega
  rw [qN,if_pos h0] at h ⊢;rw [Gs l _ h,xX,xX,List.map_cons,List.sum_cons];omega
def JH(ps:List (Sl ag)):Nat:=(ps.map fun p=>p.l.length+xX p.l).sum
theorem Gt:∀ (ps:List (Sl ag)) (n:Nat),vA n ps≤2500→vA n ps=n+JH ps
 |[],n,_=>by simp [vA,JH]
 |p::ps,n,h=>by
  rw [vA] at h ⊢;have h0:=BL ps (qN (n+p.l.length) p.l);rw [Gt ps _ h,Gs p.l _ (by omega),JH,JH,List.map_cons,List.sum_cons];omega
theorem HN{p:Sl ag}(h:Ej [p]=false):p.l.length+xX p.l≤2500:=by
 have h1:vA 0 [p]≤2500:=by have:=of_decide_eq_false h;omega
 have h2:=Gt [p] 0 h1;simp only [JH,List.map_cons,List.map_nil,List.sum_cons,List.sum_nil] at h2;omega
theorem JI{l:List ag}{x:ag}(h:x∈l):x.text.length≤xX l:=by
 induction l with
 |nil=>cases h
 |cons y l ih=>
  rw [xX,List.map_cons,List.sum_cons];rcases List.mem_cons.1 h with rfl | h
  ·omega
  ·have:=ih h;unfold xX at this;omega
theorem lgi{H H0:List AObj}{ps:List (Sl ag)}{tg:Tag}{j:Nat}{p:Sl ag}(hp:ps[j]?=some p)(hj:j<ps.length)(hpl:p.l.length≤bh)(hpt:∀ x∈p.l,x.text.length≤bh)(hc:dh H0 H)(k:List Fra):∀ (n i:Nat) (n2:Nat) (hn:n2≤1000000000000000000) (He:List AObj),i+n=(p.l).length →
  M.go cS H0 (.c c8 :: .lp ⟨(some [0,3,4,5]),[],false⟩ c8 He :: .blk 2 :: .c (.lv [0,3,4])::k) (kv [(0,.slice tg 1 (ps.map ug)),(3,.int .i64 n2),(4,.int .i64 j),(5,.int .i64 i)]) H =
   (M.go cS H0 k (kv [(0,.slice tg 1 (ps.map ug)),(3,.int .i64 (qN n2 (p.l.drop i):Nat)),(4,.int .i64 j)]) (H))
 |0,i,n2,hn,He,h=>by
  have e:i=(p.l).length:=by omega
  subst e;rw [al M c8.eq_1];simp (maxSteps:=3000000) (maxDischargeDepth:=6) +contextual -implicitDefEqProofs only [amC M,↓amD,Nat.reduceBEq,Nat.reduceAdd,env,ah,dz,Nat.lt_irrefl,List.drop_length,hp,hpl,qPl,a7 hj,qN]
 |n+1,i,n2,hn,He,h=>by
  have hi:i<(p.l).length:=by omega
  have hx:(p.l)[i]?=some (p.l)[i]:=List.getElem?_eq_getElem hi;have hd:((p.l).drop i)=(p.l)[i]::(p.l).drop (i+1):=List.drop_eq_getElem_cons hi;have hm:(p.l)[i]∈(p.l):=List.getElem_mem hi;have ih:=fun n2 hn He=>lgi (H:=H) (H0:=H0) (ps:=ps) (tg:=tg) (j:=j) (p:=p) (hp:=hp) (hj:=hj) (hpl:=hpl) (hpt:=hpt) hc k n (i+1) n2 hn He (by omega)
  simp only [kv_cons,kv_nil] at ih;have hij:=a7 (row:=ug) (tag:=tg) (sz:=1) (k:=.i64) hj;have hir:=a7 (row:=ag.row) (tag:=p.tag) (sz:=3) (k:=.i64) hi;have hwi:=dJ (n:=p.l.length) hi hpl;have hmt:=hpt _ hm
  by_cases h5:n2<5000
  ·have d5:decide ((n2:Int)<5000)=true:=decide_eq_true (by omega)
   have hw2:IntKind.i64.wrap ((n2:Int)+(p.l[i].text.length:Int))=((n2+p.l[i].text.length:Nat):Int):=by rw [eE (by omega) (by simp only [bh] at hmt;omega)];omega
   have ih:=ih (n2+p.l[i].text.length) (by simp only [bh] at hmt;omega);rw [hd,qN,if_pos h5];rw [al M c8.eq_1];simp (maxSteps:=3000000) (maxDischargeDepth:=6) +contextual -implicitDefEqProofs only [amC M,↓amD,Nat.reduceBEq,Nat.reduceAdd,env,ah,dz,hi,hx,hp,hd,d5,ih,hij,hir,hwi,hw2,qPl,aQ]
  ·have d5:decide ((n2:Int)<5000)=false:=decide_eq_false (by omega)
   rw [CS _ _ (by omega)];rw [al M c8.eq_1];simp (maxSteps:=3000000) (maxDischargeDepth:=6) +contextual -implicitDefEqProofs only [amC M,↓amD,Nat.reduceBEq,Nat.reduceAdd,env,ah,dz,hi,hx,hp,hd,d5,hij,hir,qPl,aQ]
theorem lgo{H H0:List AObj}{ps:List (Sl ag)}{tg:Tag}(hps:ps.length≤100)(hpl:∀ p∈ps,p.l.length≤bh∧∀ x∈p.l,x.text.length≤bh)(hc:dh H0 H)(k:List Fra):∀ (n i:Nat) (n2:Nat) (hn:n2≤i*300000000000000) (He:List AObj),i+n=ps.length →
  M.go cS H0 (.c dO :: .lp ⟨(some [0,3,4]),[],false⟩ dO He :: .blk 0 :: .c (.lv [3])::k) (kv [(0,.slice tg 1 (ps.map ug)),(3,.int .i64 n2),(4,.int .i64 i)]) H =
   (M.go cS H0 k (kv [(3,.int .i64 (vA n2 (ps.drop i):Nat))]) (H))
 |0,i,n2,hn,He,h=>by
  have e:i=ps.length:=by omega
  subst e;rw [al M dO.eq_1];simp (maxSteps:=3000000) (maxDischargeDepth:=6) +contextual -implicitDefEqProofs only [amC M,↓amD,Nat.reduceBEq,Nat.reduceAdd,env,ah,dz,Nat.lt_irrefl,List.drop_length,vA]
 |n+1,i,n2,hn,He,h=>by
  have hi:i<ps.length:=by omega
  have hx:ps[i]?=some ps[i]:=List.getElem?_eq_getElem hi;have hd:(ps.drop i)=ps[i]::ps.drop (i+1):=List.drop_eq_getElem_cons hi;have hm:ps[i]∈ps:=List.getElem_mem hi;have ih:=fun n2 hn He=>lgo (H:=H) (H0:=H0) (ps:=ps) (tg:=tg) (hps:=hps) (hpl:=hpl) hc k n (i+1) n2 hn He (by omega)
  simp only [kv_cons,kv_nil] at ih;have hij:=a7 (row:=ug) (tag:=tg) (sz:=1) (k:=.i64) hi;have hwi:=dJ (n:=ps.length) hi (by simp only [bh];omega);have hq:=hpl _ hm;have hq1:ps[i].l.length≤140737488351232:=hq.1;have hw2:IntKind.i64.wrap ((n2:Int)+(ps[i].l.length:Int))=((n2+ps[i].l.length:Nat):Int):=by rw [eE (by omega) (by omega)];omega
  have hb:=JG ps[i].l (n2+ps[i].l.length) hq.2;have hz:=fun k He=>lgi M (H:=H) (H0:=H0) (ps:=ps) (tg:=tg) (j:=i) (p:=ps[i]) hx hi hq.1 hq.2 hc k ps[i].l.length 0 (n2+ps[i].l.length) (by omega) He (by omega)
  have ih:=ih (qN (n2+ps[i].l.length) ps[i].l) (by simp only [bh] at hb;omega);simp only [kv_cons,kv_nil,Int.ofNat_zero,List.drop_zero] at hz;rw [hd,vA];rw [al M dO.eq_1];simp (maxSteps:=3000000) (maxDischargeDepth:=6) +contextual -implicitDefEqProofs only [amC M,↓amD,Nat.reduceBEq,Nat.reduceAdd,env,ah,dz,hi,hx,ih,hz,hij,hwi,hw2,qPl,List.length_map]
theorem JJ(hB:fV E){ps:List (Sl ag)}{tg:Tag}(hps:ps.length≤100)(hpl:∀ p∈ps,p.l.length≤bh∧∀ x∈p.l,x.text.length≤bh)(H:List AObj) :
  M.run gv [.slice tg 1 (ps.map ug)] H=some (.ret (.bool (Ej ps)),H):=by
 rw [aG M hB.truchmanlaw01_long rfl (c:=ko) rfl,ko];have h1:=fun k He=>lgo M (tg:=tg) hps hpl (cut_refl H) k ps.length 0 0 (by omega) He (by omega)
 simp only [kv_cons,kv_nil,Int.ofNat_zero,List.drop_zero] at h1;have h2:decide ((2500:Int)<(vA 0 ps:Int))=decide (2500<vA 0 ps):=by rw [Bool.eq_iff_iff];simp;omega
 simp (maxSteps:=3000000) (maxDischargeDepth:=6) +contextual -implicitDefEqProofs only [amC M,↓amD,Nat.reduceBEq,Nat.reduceAdd,env,ah,dz,h1,h2,Ej]
theorem HO(hB:fV E){l:Sl ag}(h:l.ok 0 (ag.ok 0))(H:List AObj):M.run gv [.slice .full 1 [[.slice l.tag.strip 3 (l.l.map ag.row)]]] H=some (.ret (.bool (Ej [l])),H):=
 JJ M hB (tg:=.full) (ps:=[⟨l.tag.strip,l.l⟩]) (by simp) (fun p hp=>by
  rw [List.mem_singleton] at hp;subst hp;exact ⟨h.len,fun x hx=>(h.all x hx).text⟩) H
end
section
attribute [local congr] aD a8 aO aE aN aI aF au aw aJ aK
variable{E:aT}(M:br bP E)
structure uI (E:aT):Prop where
 docs_cutter_put:E.fn bp=some jV
 truchmanref01_add:E.fn bX=some k6
def pcC(l:List ag):List AV:=(l.map ag.row).flatten
theorem tG(l m:List ag):pcC (l++m)=pcC l++pcC m:=by simp [pcC]
theorem CT(x:ag):pcC [x]=[.int .u8 x.kind,.str x.text,.bool x.car]:=rfl
theorem oS:∀ l:List ag,(pcC l).length=l.length*3
 |[]=>rfl
 |x::l=>by
  have:=oS l;rw [show pcC (x::l)=pcC [x]++pcC l from tG [x] l,List.length_append,this,CT,List.length_cons];simp;omega
def PcV(H:List AObj)(v:AV)(l:List ag):Prop:=(l=[]∧v = .slice .nil 3 [])∨(l≠[]∧∃ Q,v = .rslice Q 0 l.length 3 true∧H[Q]?=some (.cells (pcC l) ae))
def below(q:Nat)(v:AV):Prop:=∀ Q o n e r,v = .rslice Q o n e r→Q<q
def L3(q:Nat)(v:AV):Prop:=∀ Q o n e r,v = .rslice Q o n e r→q≤Q
def OpV(H:List AObj)(v:AV)(l:List Str):Prop:=(l=[]∧v = .slice .nil 1 [])∨∃ O junk,v = .rslice O 0 l.length 1 true∧H[O]?=some (.cells (wC l++junk) ak)
def ja(l:List ag)(p:ag):List ag:=
 match l.getLast? with
 |some x=>sel (p.kind == 1&&x.kind == 1) (l.dropLast++[{ x with text:=x.text++p.text }]) (l++[p])
 |none=>[p]
structure CSt where
 done:List (List ag)
 cur:List ag
 pos:List Int
 place:Nat
 due:Bool
 opn:List Str
def free(R:Nat→Prop)(v:AV):Prop:=∀ Q o n e r,v = .rslice Q o n e r→¬ R Q
structure Fv (R:Nat→Prop) (c:Nat) (H:List AObj) (S:CSt) (P q:Nat) (vs:List AV) (v:AV) (ta:Tag) (ov:AV):Prop where
 hn:¬ R c
 hP:¬ R P
 rl:∀ i,R i→i<H.length
 cell:H[c]?=some (.cells [.rslice P 0 (S.done.length+1) 1 true,.slice ta 1 (S.pos.map I9),.int .i64 S.place,.bool S.due,ov] gN)
 par:H[P]?=some (.cells (vs++[v]) ao)
 len:vs.length=S.done.length
 dn:∀ (i:Nat) (w:AV) (l:List ag),vs[i]?=some w→S.done[i]?=some l→PcV H w l∧below q w∧free R w
 cr:PcV H v S.cur
 ab:L3 q v
 pr:free R v
 ql:q≤H.length
 op:OpV H ov S.opn
 oa:free R ov
 tg:ta = .any∨ta = .some∨S.pos=[]∨∃ t,ta = .own t
def si(R:Nat→Prop)(c:Nat)(H:List AObj)(S:CSt):Prop:=∃ P q vs v ta ov,Fv R c H S P q vs v ta ov
structure Frm (R:Nat→Prop) (H H':List AObj):Prop where
 len:H.length≤H'.length
 low:∀ i,R i→H'[i]?=H[i]?
 it:∀ (i:Nat) s pos,H[i]?=some (.siter s pos)→H'[i]?=some (.siter s pos)
theorem Frm.refl(R:Nat→Prop)(H:List AObj):Frm R H H:=⟨Nat.le_refl _,fun _ _=>rfl,fun _ _ _ h=>h⟩
theorem Frm.trans{R:Nat→Prop}{A B C:List AObj}(h:Frm R A B)(k:Frm R B C):Frm R A C:=⟨Nat.le_trans h.len k.len,fun i hi=>(k.low i hi).trans (h.low i hi),fun i s p e=>k.it i s p (h.it i s p e)⟩
theorem Frm.mono{R R':Nat→Prop}{A B:List AObj}(h:Frm R A B)(hr:∀ i,R' i→R i):Frm R' A B:=⟨h.len,fun i hi=>h.low i (hr i hi),h.it⟩
theorem Frm.app{R:Nat→Prop}(H X:List AObj)(hn:∀ i,R i→i<H.length):Frm R H (H++X):=⟨by simp,fun i hi=>List.getElem?_append_left (hn i hi),fun i s p h=>bU h⟩
theorem Frm.set{R:Nat→Prop}{H:List AObj}{k:Nat}{cs:List AV}{T:TypeId}(x:AObj)(hk:¬ R k)(h:H[k]?=some (.cells cs T)):Frm R H (H.set k x):=
 ⟨by simp,fun i hi=>List.getElem?_set_ne (fun e=>hk (by rw [e];exact hi)),fun i s p e=>by
  rw [List.getElem?_set_ne (fun ek=>by subst ek;rw [h] at e;cases e)];exact e⟩
theorem PcV.stay{H H':List AObj}{v:AV}{l:List ag}(h:PcV H v l)(hs:∀ (Q:Nat) (cs:List AV),v = .rslice Q 0 l.length 3 true→H[Q]?=some (AObj.cells cs ae)→H'[Q]?=some (AObj.cells cs ae)):PcV H' v l:=by
 rcases h with h | ⟨h1,Q,h2,h3⟩
 ·exact .inl h
 ·exact .inr ⟨h1,Q,h2,hs Q _ h2 h3⟩
theorem OpV.stay{H H':List AObj}{v:AV}{l:List Str}(h:OpV H v l)(hs:∀ (O:Nat) (cs:List AV),H[O]?=some (AObj.cells cs ak)→H'[O]?=some (AObj.cells cs ak)):OpV H' v l:=by
 rcases h with h | ⟨O,junk,h1,h2⟩
 ·exact .inl h
 ·exact .inr ⟨O,junk,h1,hs O _ h2⟩
theorem L4:ae≠gN:=by decide
theorem L5:ae≠ao:=by decide
theorem L6:ak≠ae:=by decide
theorem L7:ak≠ao:=by decide
theorem L8:ao≠gN:=by decide
theorem JK{H G:List AObj}{v:AV}{l:List ag}(h:PcV H v l):pT G .sl v=some (.int .i64 (l.length:Int)):=by
 rcases h with ⟨rfl,rfl⟩ | ⟨_,Q,rfl,_⟩<;>rfl
theorem BM(p:ag):uk 3 [p.row]=true:=rfl
theorem L9{G:List AObj}{v:AV}{l:List ag}(h:PcV G v l)(hl:l.length≤100000000)(p:ag) :
  ∃ G',rap true G ae 3 32 false v (.slice .full 3 [p.row])=some (.rslice G.length 0 (l.length+1) 3 true,G')∧G'[G.length]?=some (.cells (pcC (l++[p])) ae)∧G'.length=G.length+1∧∀ i,i<G.length→(∀ Q,v = .rslice Q 0 l.length 3 true→i≠Q)→G'[i]?=G[i]? := by
 rcases h with ⟨rfl,rfl⟩ | ⟨_,Q,rfl,hg⟩
 ·refine ⟨G++[.cells (pcC [p]) ae], ?_,by rw [aj];rfl,by simp,fun i hi _=>List.getElem?_append_left hi⟩
  simp only [rap,sJ,xj,or_true,if_true,BM];rw [if_pos (by simp)];rfl
 ·have hlt:=bT hg
  have hlen:l.length*3≤(pcC l).length:=by rw [oS];omega
  refine ⟨G.set Q .dead++[.cells (pcC (l++[p])) ae], ?_, ?_,by simp,fun i hi hne => ?_⟩
  ·simp only [rap,sJ,xj,or_true,if_true,BM,hg]
   rw [if_pos ⟨trivial,trivial,hlen,by simp;omega,by simp;omega⟩];rw [List.take_of_length_le (by rw [oS];omega),tG];rfl
  ·rw [show G.length=(G.set Q .dead).length by simp,aj];rfl
  ·rw [List.getElem?_append_left (by simp;omega),List.getElem?_set_ne (fun e=>hne Q rfl e.symm)]
theorem JL{id n i:Nat}(h:i<n)(k:IntKind):rT 3 (.rslice id 0 n 3 true) (.int k (i:Int))=some (.ptr id (i*3)):=by
 simp only [rT];rw [if_pos ⟨trivial,by omega,by simp;omega⟩];simp
theorem Gu{id n i:Nat}(h:i<n)(k:IntKind):rT 1 (.rslice id 0 n 1 true) (.int k (i:Int))=some (.ptr id i):=by
 simp only [rT];rw [if_pos ⟨trivial,by omega,by simp;omega⟩];simp
theorem Gv(l:List ag)(x:ag):bJ none (pcC (l++[x])) (l.length*3)=some (.int .u8 x.kind)∧bJ none (pcC (l++[x])) (l.length*3+1)=some (.str x.text):=by
 have hl:=oS l;refine ⟨?_, ?_⟩
 ·simp only [bJ,tG]
  rw [List.getElem?_append_right (by omega),hl,Nat.sub_self,CT];rfl
 ·simp only [bJ,tG]
  rw [List.getElem?_append_right (by omega),hl,show l.length*3+1-l.length*3=1 by omega,CT];rfl
theorem Gw(l:List ag)(x:ag)(s:Str):bo (pcC (l++[x])) (l.length*3+1) [.str s]=pcC (l++[{ x with text:=s }]):=by
 rw [setRow_cons,setRow_nil,tG,tG,List.set_append_right _ _ (by rw [oS];omega),oS,show l.length*3+1-l.length*3=1 by omega];rfl
end
section
attribute [local congr] aD a8 aO aE aN aI aF au aw aJ aK
variable{E:aT}(M:br bP E)
theorem cl5:(∀ a b c d e:AV,bJ none [a,b,c,d,e] 0=some a)∧(∀ a b c d e:AV,bJ none [a,b,c,d,e] 1=some b)∧(∀ a b c d e:AV,bJ none [a,b,c,d,e] 2=some c)∧(∀ a b c d e:AV,bJ none [a,b,c,d,e] 3=some d)∧(∀ a b c d e:AV,bJ none [a,b,c,d,e] 4=some e):=
 ⟨fun _ _ _ _ _=>rfl,fun _ _ _ _ _=>rfl,fun _ _ _ _ _=>rfl,fun _ _ _ _ _=>rfl,fun _ _ _ _ _=>rfl⟩
def Gx(o:Option Nat)(T L:List Nat):Option (List Nat×List Nat):=
 match o with
 |some id=>some (T,id::L)
 |none=>some (T,L)
def ND(o:Option Nat)(T L:List Nat):Option (List Nat×List Nat):=
 match o with
 |some id=>some (id::T,L)
 |none=>none
theorem dyK:(∀ (a:Env) (g:Option Nat) (x:RX) (T L:List Nat),lF true .wide a (.ld g x) T L=Gx (n5 (rx a x)) T L)∧(∀ (a:Env) (g:LK) (x:RX) (T L:List Nat),lF true .wide a (.len g x) T L=Gx (n5 (rx a x)) T L) ∧
  (∀ (s:Bool) (a:Env) (n:Nat) (x v:RX) (T L:List Nat),lF s .keep a (.st n x v) T L=ND (n5 (rx a x)) T L)∧(∀ (s:Bool) (a:Env) (g:Option Nat) (x:RX) (T L:List Nat),lF s .quiet a (.ld g x) T L=some (T,L)) ∧
  (∀ i o,n5 (.ptr i o)=some i)∧(∀ i o n e r,n5 (.rslice i o n e r)=some i)∧(∀ t n r,n5 (.slice t n r)=none)∧(∀ s,n5 (.str s)=none)∧(∀ e r i o,n5 (.vptr e r i o)=none)∧(∀ (id:Nat) (T L:List Nat),Gx (some id) T L=some (T,id::L))∧(∀ T L:List Nat,Gx none T L=some (T,L))∧(∀ (id:Nat) (T L:List Nat),ND (some id) T L=some (id::T,L)):=
 ⟨fun _ _ _ _ _=>rfl,fun _ _ _ _ _=>rfl,fun _ _ _ _ _ _ _=>rfl,fun _ _ _ _ _ _=>rfl,fun _ _=>rfl,fun _ _ _ _ _=>rfl,fun _ _ _=>rfl,fun _=>rfl,fun _ _ _ _=>rfl,fun _ _ _=>rfl,fun _ _=>rfl,fun _ _ _=>rfl⟩
theorem tH{T L:List Nat}(h:apart T L)(r:Option Out):n7 bP T L r=r:=by
 unfold n7;rw [Cs h]
theorem JM{a b c:Nat}(h1:c≠a)(h2:c≠b):apart [a,b] [c]:=fun x hx=>by
 rw [List.mem_singleton] at hx;subst hx;simp [h1,h2]
theorem JN{a c:Nat}(h1:c≠a):apart [a] [c]:=fun x hx=>by
 rw [List.mem_singleton] at hx;subst hx;simp [h1]
theorem MT{H:List AObj}{i j:Nat}{cs ds:List AV}{T T':TypeId}(h1:H[i]?=some (.cells cs T))(h2:H[j]?=some (.cells ds T'))(hT:T≠T'):i≠j:=fun e=>by
 subst e;rw [h1] at h2;injection h2 with h2;injection h2 with _ h3;exact hT h3
theorem Gy{H:List AObj}{v:AV}{l:List ag}(h:PcV H v l){Q:Nat}(e:v = .rslice Q 0 l.length 3 true):∃ cs,H[Q]?=some (.cells cs ae):=by
 rcases h with ⟨_,h⟩ | ⟨_,Q',h1,h2⟩
 ·rw [h] at e;cases e
 ·rw [h1] at e;cases e;exact ⟨_,h2⟩
def StK(H H':List AObj):Prop:=∀ (O:Nat) (cs:List AV),H[O]?=some (AObj.cells cs ak)→H'[O]?=some (AObj.cells cs ak)
theorem Fv.turned{R:Nat→Prop}{c:Nat}{H H2:List AObj}{S:CSt}{P q:Nat}{vs:List AV}{v w:AV}{ta:Tag}{ov:AV}(h:Fv R c H S P q vs v ta ov){cur:List ag}
  (hlen:H.length≤H2.length) (hs:∀ i y,H[i]?=some y→(∀ Q,v = .rslice Q 0 S.cur.length 3 true→i≠Q)→i≠P→H2[i]?=some y)
  (hpar:H2[P]?=some (.cells (vs++[w]) ao)) (hw:PcV H2 w cur) (hwa:L3 q w) (hwf:free R w):Fv R c H2 { S with cur:=cur } P q vs w ta ov∧Frm R H H2∧StK H H2:=by
 have hP:=h.par
 have nq:∀ (i:Nat) (cs:List AV) (T:TypeId),H[i]?=some (.cells cs T)→T≠ae→∀ Q,v = .rslice Q 0 S.cur.length 3 true→i≠Q:=fun i cs T hi hT Q e ei=>by
  obtain ⟨ds,hd⟩:=Gy h.cr e;subst ei;rw [hi] at hd;cases hd;exact hT rfl
 have np:∀ (i:Nat) (cs:List AV) (T:TypeId),H[i]?=some (.cells cs T)→T≠ao→i≠P:=fun i cs T hi hT ei=>by
  subst ei;rw [hi] at hP;cases hP;exact hT rfl
 have hlow:∀ i,R i→H2[i]?=H[i]? := fun i hi=>by
  have hin:=h.rl i hi;rw [List.getElem?_eq_getElem hin];refine hs i _ (List.getElem?_eq_getElem hin) (fun Q e ei => ?_) (fun e => ?_)
  ·exact h.pr Q _ _ _ _ e (ei ▸ hi)
  ·exact h.hP (e ▸ hi)
 refine ⟨⟨h.hn,h.hP,fun i hi=>Nat.lt_of_lt_of_le (h.rl i hi) hlen,hs c _ h.cell (nq c _ _ h.cell L4.symm) (np c _ _ h.cell L8.symm),hpar,h.len,fun i w' l hi hl => ?_,hw,hwa,hwf,Nat.le_trans h.ql hlen,h.op.stay fun O cs hO=>hs O _ hO (nq O _ _ hO L6) (np O _ _ hO L7),h.oa,h.tg⟩,⟨hlen,hlow,fun i s pos hi=>hs i _ hi (fun Q e ei => ?_) (fun e => ?_)⟩,fun O cs hO=>hs O _ hO (nq O _ _ hO L6) (np O _ _ hO L7)⟩
 ·obtain ⟨h1,h2,h3⟩:=h.dn i w' l hi hl
  refine ⟨h1.stay fun Q cs e hQ=>hs Q _ hQ (fun Q' e' ei => ?_) (np Q _ _ hQ L5),h2,h3⟩;have a1:=h2 Q _ _ _ _ e;have a2:=h.ab Q' _ _ _ _ e';omega
 ·obtain ⟨ds,hd⟩:=Gy h.cr e
  subst ei;rw [hi] at hd;cases hd
 ·subst e;rw [hi] at hP;cases hP
theorem mh(l:List ag)(x p:ag):ja (l++[x]) p=sel (p.kind == 1&&x.kind == 1) (l++[{ x with text:=x.text++p.text }]) (l++[x]++[p]):=by
 unfold ja;rw [List.getLast?_concat,List.dropLast_concat]
theorem Lq(hC:uI E){R:Nat→Prop}{c:Nat}{H:List AObj}{S:CSt}(hS:si R c H S)(hd:S.done.length≤100000000)(hcu:S.cur.length≤100000000)(hct:∀ x∈S.cur,x.text.length≤100000000){p:ag}(hp:p.text.length≤100000000) :
  ∃ H',M.run bp [.ptr c 0,.agg p.row] H=some (.ret (.tuple []),H')∧si R c H' { S with cur:=ja S.cur p }∧Frm R H H'∧StK H H':=by
 obtain ⟨P,q,vs,v,ta,ov,h⟩:=hS;obtain ⟨done,cur,pos,place,due,opn⟩:=S;dsimp only at hd hcu hct;have hvs:=h.len;dsimp only at hvs;have hc1:∀ X,(H++X)[c]?=_:=fun X=>bU h.cell
 have hp1:∀ X,(H++X)[P]?=_:=fun X=>bU h.par
 have hia:=Gu (id:=P) (n:=done.length+1) (i:=done.length) (by omega) .i64
 have hld:bJ none (vs++[v]) done.length=some v:=by
  simp only [bJ];rw [← hvs,List.getElem?_append_right (Nat.le_refl _),Nat.sub_self];rfl
 have hw1:IntKind.i64.wrap (((done.length+1:Nat):Int)-1)=(done.length:Int):=by rw [eE (by omega) (by omega)];omega
 have hln:=fun G=>JK (G:=G) h.cr
 dsimp only at hln;have hcr:=h.cr;dsimp only at hcr;have hcr1:PcV (H++[.cells p.row ae]) v cur:=hcr.stay fun Q cs _ hQ=>bU hQ
 have more:ja cur p=cur++[p]→∀ k:Int,True→∃ w G,rap true (H++[.cells p.row ae]) ae 3 32 false v (.slice .full 3 [p.row])=some (w,G)∧(G[P]?=some (.cells (vs++[v]) ao)) ∧
   stO 1 G P done.length [w] (some (.cells (vs++[v]) ao))=some (G.set P (.cells (vs++[w]) ao))∧b6 w=some [w]∧si R c (G.set P (.cells (vs++[w]) ao)) ⟨done,ja cur p,pos,place,due,opn⟩∧Frm R H (G.set P (.cells (vs++[w]) ao))∧StK H (G.set P (.cells (vs++[w]) ao)):=fun hpf _ _=>by
  obtain ⟨G,a1,a2,a3,a4⟩:=L9 hcr1 hcu p;have hPlt:=bT h.par;have hlen1:(H++[AObj.cells p.row ae]).length=H.length+1:=by simp
  rw [hlen1] at a1 a2 a3 a4
  have nQ:∀ Q,v = .rslice Q 0 cur.length 3 true→P≠Q:=fun Q e ei=>by
   obtain ⟨ds,hds⟩:=Gy hcr e;subst ei;rw [h.par] at hds;cases hds
  have gP:G[P]?=some (.cells (vs++[v]) ao):=by rw [a4 P (by omega) nQ];exact hp1 _
  refine ⟨_,G,a1,gP, ?_,rfl, ?_⟩
  ·rw [stO_cells (sz:=1) rfl (by simp;omega) rfl,setRow_cons,setRow_nil,← hvs,List.set_append_right _ _ (Nat.le_refl _),Nat.sub_self];rfl
  ·have:=h.turned (H2:=G.set P (.cells (vs++[.rslice (H.length+1) 0 (cur.length+1) 3 true]) ao)) (cur:=ja cur p) (w:=.rslice (H.length+1) 0 (cur.length+1) 3 true) (by simp;omega) (fun i y hi hne hiP=>by
    rw [List.getElem?_set_ne hiP.symm,a4 i (by have:=(List.getElem?_eq_some_iff.1 hi).1;omega) hne];exact bU hi) (List.getElem?_set_self (by omega)) (.inr ⟨by rw [hpf];simp,H.length+1,by rw [hpf];simp,by rw [List.getElem?_set_ne (by omega),a2,hpf]⟩) (fun Q o n e r eq=>by cases eq;have:=h.ql;omega) (fun Q o n e r eq hR=>by cases eq;have:=h.rl _ hR;omega)
   exact ⟨⟨P,q,vs,_,ta,ov,this.1⟩,this.2⟩
 have r1:∀ H,o6 (some H)=some (dG,H):=fun _=>rfl
 have gx:=fun X=>aj H X
 have ncP:c≠P:=MT h.cell h.par L8.symm
 have ncQ:∀ Q,v = .rslice Q 0 cur.length 3 true→c≠Q:=fun Q e ei=>by
  obtain ⟨ds,hds⟩:=Gy hcr e;exact MT h.cell hds L4.symm ei
 have ab:gJ v=none∨∃ Q,gJ v=some Q∧c≠Q:=by
  rcases hcr with ⟨_,rfl⟩ | ⟨_,Q,rfl,_⟩
  ·exact .inl rfl
  ·exact .inr ⟨Q,rfl,ncQ Q rfl⟩
 rcases (show cur=[]∨∃ l x,cur=l++[x] by
  rcases List.eq_nil_or_concat cur with h | ⟨l,x,h⟩
  ·exact .inl h
  ·exact .inr ⟨l,x,by simpa using h⟩) with rfl | ⟨l,x,rfl⟩
 ·obtain ⟨w,G,m1,m2,m3,m4,m5,m6⟩:=more rfl 0 trivial
  refine ⟨_, ?_,m5,m6⟩;have d0:decide ((0:Int)<((0:Nat):Int))=false:=rfl;rw [aG M hC.docs_cutter_put rfl (c:=cK) rfl,cK]
  have ab0:gJ v=none:=by
   rcases hcr with ⟨_,rfl⟩ | ⟨h,_⟩
   ·rfl
   ·exact absurd rfl h
  have aa:=tH (JN ncP);cases hk:p.kind == 1<;>simp (maxSteps:=3000000) (maxDischargeDepth:=6) +contextual -implicitDefEqProofs only [amC M,↓amD,Nat.reduceBEq,Nat.reduceAdd,env,ah,jW,amG,AV.cell,Nat.reduceMul,Nat.reduceLeDiff,rnc,hc1,hp1,gx,cl5,hia,hld,hw1,hln,hk,d0,aQ,List.getElem?_cons_zero,m1,m2,m3,m4,r1,dyK,amZ,ab0,aa]
 ·obtain ⟨⟨Q,e1,e2⟩⟩:Nonempty (∃ Q,v = .rslice Q 0 (l.length+1) 3 true∧H[Q]?=some (.cells (pcC (l++[x])) ae)):=by
   rcases hcr with ⟨h0,_⟩ | ⟨_,Q,h1,h2⟩
   ·simp at h0
   ·exact ⟨⟨Q,by simpa using h1,h2⟩⟩
  have hl:l.length≤100000000:=by simp at hcu;omega
  have hxt:=hct x (by simp);have d1:decide ((0:Int)<(((l++[x]).length:Nat):Int))=true:=decide_eq_true (by simp);have hw2:IntKind.i64.wrap ((((l++[x]).length:Nat):Int)-1)=(l.length:Int):=by rw [eE (by simp) (by simp;omega)];simp
  have hiq:rT 3 v (.int .i64 (l.length:Int))=some (.ptr Q (l.length*3)):=by rw [e1];exact JL (by omega) _
  have hQ1:∀ X,(H++X)[Q]?=_:=fun X=>bU e2
  obtain ⟨q1,q2⟩:=Gv l x;have ab1:gJ v=some Q:=by rw [e1];rfl
  have aa:=tH (JM ncP (ncQ Q (by rw [e1];simp)));generalize hn:(l++[x]).length=n at d1 hw2 hln;cases hk:p.kind == 1 with
  |false=>
   obtain ⟨w,G,m1,m2,m3,m4,m5,m6⟩:=more (by rw [mh,hk];rfl) 0 trivial;refine ⟨_, ?_,m5,m6⟩;rw [aG M hC.docs_cutter_put rfl (c:=cK) rfl,cK];simp (maxSteps:=3000000) (maxDischargeDepth:=6) +contextual -implicitDefEqProofs only [amC M,↓amD,Nat.reduceBEq,Nat.reduceAdd,env,ah,jW,amG,AV.cell,Nat.reduceMul,Nat.reduceLeDiff,rnc,hc1,hp1,gx,cl5,hia,hld,hw1,hln,hk,d1,aQ,List.getElem?_cons_zero,m1,m2,m3,m4,r1,dyK,amZ,ab1,aa,Nat.add_zero]
  |true=>
   cases hx:x.kind == 1 with
   |false=>
    obtain ⟨w,G,m1,m2,m3,m4,m5,m6⟩:=more (by rw [mh,hk,hx];rfl) 0 trivial;refine ⟨_, ?_,m5,m6⟩;rw [aG M hC.docs_cutter_put rfl (c:=cK) rfl,cK];simp (maxSteps:=3000000) (maxDischargeDepth:=6) +contextual -implicitDefEqProofs only [amC M,↓amD,Nat.reduceBEq,Nat.reduceAdd,env,ah,jW,amG,AV.cell,Nat.reduceMul,Nat.reduceLeDiff,rnc,hc1,hp1,gx,cl5,hia,hld,hw1,hln,hk,hx,d1,hw2,hiq,hQ1,q1,aQ,List.getElem?_cons_zero,m1,m2,m3,m4,r1,dyK,amZ,ab1,aa,Nat.add_zero]
   |true=>
    have hpf:ja (l++[x]) p=l++[{ x with text:=x.text++p.text }]:=by rw [mh,hk,hx];rfl
    have ha:=bf (s:=x.text) (t:=p.text) (by simp only [List.length_append] at *;omega);have hqlt:=bT e2
    have hst:stO 1 (H++[AObj.cells p.row ae]) Q (l.length*3+1) [.str (x.text++p.text)] (some (.cells (pcC (l++[x])) ae))=some ((H++[AObj.cells p.row ae]).set Q (AObj.cells (pcC (ja (l++[x]) p)) ae)):=by
     rw [stO_cells (sz:=1) rfl (by rw [oS];simp;omega) rfl,Gw,hpf]
    have:=h.turned (H2:=(H++[AObj.cells p.row ae]).set Q (AObj.cells (pcC (ja (l++[x]) p)) ae)) (cur:=ja (l++[x]) p) (w:=v) (by simp) (fun i y hi hne hiP=>by
     rw [List.getElem?_set_ne (fun e=>hne Q (by rw [e1];simp) e.symm)];exact bU hi) (by rw [List.getElem?_set_ne (MT e2 h.par L5)];exact hp1 _) (.inr ⟨by rw [hpf];simp,Q,by rw [hpf,e1];simp,List.getElem?_set_self (by simp;omega)⟩) h.ab h.pr
    refine ⟨_, ?_,⟨P,q,vs,v,ta,ov,this.1⟩,this.2⟩;rw [aG M hC.docs_cutter_put rfl (c:=cK) rfl,cK];simp (maxSteps:=3000000) (maxDischargeDepth:=6) +contextual -implicitDefEqProofs only [amC M,↓amD,Nat.reduceBEq,Nat.reduceAdd,env,ah,jW,amG,AV.cell,Nat.reduceMul,Nat.reduceLeDiff,rnc,hc1,hp1,gx,cl5,hia,hld,hw1,hln,hk,hx,d1,hw2,hiq,hQ1,q1,q2,ha,hst,aQ,List.getElem?_cons_zero,r1,dyK,amZ,Nat.add_zero]
end
section
attribute [local congr] aD a8 aO aE aN aI aF au aw aJ aK
variable{E:aT}(M:br bP E)
def tgF(w:Str):ag×Bool:=((pcF w).1,(pcF w).2 && !((pcF w).1.kind == 5))
def lN(w:Str):Bool:=(tgF w).2
theorem Ek(hB:fV E)(hS:fM E)(hX:sg M)(hW:WsE E){w:Str}(hw:w.length≤140737488351232)(H:List AObj):M.run nh [.str w] H=some (.ret (kQ (tgF w)),H):=by
 have hp:=fun H=>rK M hB hS hX hW hw H
 unfold tgF;rcases hq:pcF w with ⟨p,ok⟩
 rw [hq] at hp;have hr:p.row=[.int .u8 p.kind,.str p.text,.bool p.car]:=rfl;dsimp only [kQ] at hp ⊢;rw [hr] at hp ⊢;have ab1:apart [H.length] [H.length+1]:=fun x hx=>by simp at hx;subst hx;simp
 have ab2:apart [H.length] [H.length+1,H.length+1]:=fun x hx=>by simp at hx;subst hx;simp
 have aa1:=fun r=>tH ab1 r
 have aa2:=fun r=>tH ab2 r
 have g1:∀ y z X,(H++y::z::X)[H.length+1]?=some z:=fun y z X=>by rw [hp_getk];rfl
 have s0:∀ (x y:AObj) X,(H++x::X).set H.length y=H++y::X:=fun x y X=>by rw [hp_set0];rfl
 cases ok with
 |false=>
  rw [aG M hW.docs_tag rfl (c:=pj) rfl,pj];simp (maxSteps:=3000000) (maxDischargeDepth:=6) +contextual -implicitDefEqProofs only [amC M,↓amD,Nat.reduceBEq,Nat.reduceAdd,env,ah,zr,amG,AV.cell,Nat.reduceMul,Nat.reduceLeDiff,hp,dyK,amZ,aa1,aa2,g1,s0,aj,hp_set0,cut_app,hp_take,wk_tuple,aR,List.getElem?_cons_zero,List.getElem?_cons_succ,Bool.false_and]
 |true=>
  rw [aG M hW.docs_tag rfl (c:=pj) rfl,pj];simp (maxSteps:=3000000) (maxDischargeDepth:=6) +contextual -implicitDefEqProofs only [amC M,↓amD,Nat.reduceBEq,Nat.reduceAdd,env,ah,zr,amG,AV.cell,Nat.reduceMul,Nat.reduceLeDiff,hp,dyK,amZ,aa1,aa2,g1,s0,aj,hp_set0,cut_app,hp_take,wk_tuple,aR,List.getElem?_cons_zero,List.getElem?_cons_succ,Bool.true_and]
theorem Ac(hW:WsE E)(k:Int)(H:List AObj):M.run eY [.int .u8 k] H=some (.ret (.bool ((k == 2)||(k == 3)||(k == 4))),H):=by
 rw [aG M hW.truchmanref01_tag rfl (c:=kX) rfl,kX];cases h1:k == 2 with
 |true=>simp (maxSteps:=3000000) (maxDischargeDepth:=6) +contextual -implicitDefEqProofs only [amC M,↓amD,Nat.reduceBEq,Nat.reduceAdd,env,ah,kZ,h1]
 |false=>
  cases h2:k == 3 with
  |true=>simp (maxSteps:=3000000) (maxDischargeDepth:=6) +contextual -implicitDefEqProofs only [amC M,↓amD,Nat.reduceBEq,Nat.reduceAdd,env,ah,kZ,h1,h2]
  |false=>simp (maxSteps:=3000000) (maxDischargeDepth:=6) +contextual -implicitDefEqProofs only [amC M,↓amD,Nat.reduceBEq,Nat.reduceAdd,env,ah,kZ,h1,h2]
theorem JO(w:Str):lN w=((rmk w).2&&(((rmk w).1.kind == 2)||((rmk w).1.kind == 3)||((rmk w).1.kind == 4))):=by
 have h:=vz w;unfold lN tgF;dsimp only;cases e:(rmk w).2 with
 |false=>rw [h.1,e];rfl
 |true=>
  rw [h.1,e,h.2 e];rcases (Gp e).kind with k | k | ⟨k,_⟩ | ⟨k,_⟩<;>(rw [k];rfl)
theorem BN(hB:fV E)(hS:fM E)(hW:WsE E){w:Str}(hw:w.length≤140737488351232)(H:List AObj):M.run fO [.str w] H=some (.ret (.bool (lN w)),H):=by
 have hp:=fun H=>xc M hB hS hw H
 have ht:=fun k H=>Ac M hW k H
 rw [JO];rcases hq:rmk w with ⟨p,ok⟩
 rw [hq] at hp;have hr:p.row=[.int .u8 p.kind,.str p.text,.bool p.car]:=rfl;dsimp only [kQ] at hp ⊢;rw [hr] at hp;cases ok with
 |false=>
  rw [aG M hW.truchmanref01_IsTag rfl (c:=eu) rfl,eu];simp (maxSteps:=3000000) (maxDischargeDepth:=6) +contextual -implicitDefEqProofs only [amC M,↓amD,Nat.reduceBEq,Nat.reduceAdd,env,ah,mZ,amG,AV.cell,Nat.reduceMul,Nat.reduceLeDiff,hp,ht,aj,hp_set0,cut_app,hp_take,aR,List.getElem?_cons_zero,List.getElem?_cons_succ,Bool.false_and]
 |true=>
  rw [aG M hW.truchmanref01_IsTag rfl (c:=eu) rfl,eu];simp (maxSteps:=3000000) (maxDischargeDepth:=6) +contextual -implicitDefEqProofs only [amC M,↓amD,Nat.reduceBEq,Nat.reduceAdd,env,ah,mZ,amG,AV.cell,Nat.reduceMul,Nat.reduceLeDiff,hp,ht,aj,hp_set0,cut_app,hp_take,aR,List.getElem?_cons_zero,List.getElem?_cons_succ,Bool.true_and]
end
section
attribute [local congr] aD a8 aO aE aN aI aF au aw aJ aK
variable{E:aT}(M:br bP E)
def mS(l:List Str):List Str:=l.filter fun w => !lN w
theorem py(n:Nat)(l:List Str):j9 n (l.map aA):=by
 rw [rowsWk_map];exact fun _ _=>⟨wk_str _ _,trivial⟩
theorem Ad{l:List Str}{i:Nat}(h:i<l.length)(o:List Str):o++mS (l.drop i)=sel (lN l[i]) o (o++[l[i]])++mS (l.drop (i+1)):=by
 rw [List.drop_eq_getElem_cons h,mS,List.filter_cons];cases lN l[i]<;>simp [sel,mS]
theorem dbl(hB:fV E)(hS:fM E)(hX:sg M)(hW:WsE E){l:List Str}{tg:Tag}(hl:l.length≤1000000)(hs:∀ w∈l,w.length≤140737488351232)(hk:∀ n,Wk n (.slice tg 1 (l.map aA)) (.slice tg 1 (l.map aA))){H:List AObj}(k:List Fra) :
  ∀ (n i:Nat) (o:List Str),i+n=l.length→o.length≤i →
  M.go l9 H (.c js :: .lp ⟨(some [3,8,9,10]),[(3,1,ak)],true⟩ js (H++[.tok (o.length*1) ak]) :: .blk 0 :: .c (.lv [3])::k) (kv [(3,.slice (.own H.length) 1 (o.map aA)),(8,.slice tg 1 (l.map aA)),(9,.int .i64 l.length),(10,.int .i64 i)]) (H++[.tok (o.length*1) ak]) =
   M.go l9 H k (kv [(3,.slice (.own H.length) 1 ((o++mS (l.drop i)).map aA))]) (H++[.tok ((o++mS (l.drop i)).length*1) ak])
 |0,i,o,h,ho=>by
  have e:i=l.length:=by omega
  subst e;rw [List.drop_length,show mS []=[] from rfl,List.append_nil];rw [al M js.eq_1];simp (maxSteps:=3000000) (maxDischargeDepth:=6) +contextual -implicitDefEqProofs only [amC M,↓amD,Nat.reduceBEq,Nat.reduceAdd,env,ah,pQ,Nat.lt_irrefl]
 |n+1,i,o,h,ho=>by
  have hi:i<l.length:=by omega
  have hx:l[i]?=some l[i]:=List.getElem?_eq_getElem hi;have ht:=fun H=>Ek M hB hS hX hW (hs _ (List.getElem_mem hi)) H
  have hwi:=dJ (n:=l.length) hi (by simp only [bh];omega);have hir:=a7 (row:=aA) (tag:=tg) (sz:=1) (k:=.i64) hi;have w3:∀ o:List Str,Wk (H.length+1) (.slice (.own H.length) 1 (o.map aA)) (.slice (.own H.length) 1 (o.map aA)):=fun o=>wk_slice (by simp [qC]) (py _ _)
  rw [Ad hi];have ih:=dbl hB hS hX hW (tg:=tg) (H:=H) hl hs hk k n (i+1) (sel (lN l[i]) o (o++[l[i]])) (by omega) (by cases lN l[i]<;>simp [sel]<;>omega);have hr:∀ p:ag,p.row=[.int .u8 p.kind,.str p.text,.bool p.car]:=fun _=>rfl
  have e1:(tgF l[i]).2=lN l[i]:=rfl;simp only [kQ,hr,e1] at ht;simp only [kv_cons,kv_nil] at ih;cases hq:lN l[i] with
  |true=>
   rw [sel_true];rw [hq,sel_true] at ih;rw [hq] at ht;rw [al M js.eq_1];simp (maxSteps:=3000000) (maxDischargeDepth:=6) +contextual -implicitDefEqProofs only [amC M,↓amD,Nat.reduceBEq,Nat.reduceAdd,env,ah,pQ,amG,AV.cell,Nat.reduceMul,Nat.reduceLeDiff,hi,hx,ht,hwi,hir,hk,w3,(show ∀ s:Str,aA s=[.str s] from fun _=>rfl),ih,aj,hp_set0,hp_getk,hp_setk,fw,eb,aR,List.getElem?_cons_zero,List.getElem?_cons_succ,List.set_cons_succ]
  |false=>
   rw [sel_false];rw [hq,sel_false] at ih;rw [hq] at ht;have ap:=fun L=>mQ (row:=aA) (l:=o) (x:=l[i]) (r:=[.str l[i]]) (sz:=1) (bytes:=16) (e:=ak) H L rfl rfl rfl (by omega) (by omega)
   rw [al M js.eq_1];simp (maxSteps:=3000000) (maxDischargeDepth:=6) +contextual -implicitDefEqProofs only [amC M,↓amD,Nat.reduceBEq,Nat.reduceAdd,env,ah,pQ,amG,AV.cell,Nat.reduceMul,Nat.reduceLeDiff,hi,hx,ht,hwi,hir,hk,w3,(show ∀ s:Str,aA s=[.str s] from fun _=>rfl),ap,ih,aj,hp_set0,hp_getk,hp_setk,fw,eb,aR,List.getElem?_cons_zero,List.getElem?_cons_succ,List.set_cons_succ]
theorem HP(hB:fV E)(hS:fM E)(hX:sg M)(hW:WsE E){l:List Str}{tg:Tag}(hl:l.length≤1000000)(hs:∀ w∈l,w.length≤140737488351232)(hk:∀ n,Wk n (.slice tg 1 (l.map aA)) (.slice tg 1 (l.map aA)))(H:List AObj) :
  M.run nS [.slice tg 1 (l.map aA)] H=some (.ret (.slice .any 1 ((mS l).map aA)),H):=by
 rw [aG M hW.docs_Bare rfl (c:=s5) rfl,s5];have h4:=fun k=>dbl M hB hS hX hW hl hs hk (H:=H) k l.length 0 [] (by omega) (by simp)
 simp only [kv_cons,kv_nil,List.nil_append,List.length_nil,Nat.zero_mul,List.map_nil,Int.ofNat_zero,List.drop_zero] at h4;have hh:=handV_drop (cut_app H [.tok ((mS l).length*1) ak]) (wk_any (esz:=1) (tag:=.own H.length) (py H.length (mS l)));simp only [anyV_slice,hp_take] at hh;simp (maxSteps:=3000000) (maxDischargeDepth:=6) +contextual -implicitDefEqProofs only [amC M,↓amD,Nat.reduceBEq,Nat.reduceAdd,env,ah,pQ,h4,hh]
theorem rbl(hB:fV E)(hS:fM E)(hW:WsE E){l:List Str}{tg:Tag}(hl:l.length≤1000000)(hs:∀ w∈l,w.length≤140737488351232)(hk:∀ n,Wk n (.slice tg 1 (l.map aA)) (.slice tg 1 (l.map aA))){H:List AObj}(k:List Fra) :
  ∀ (n i:Nat) (o:List Str),i+n=l.length→o.length≤i →
  M.go eG H (.c c9 :: .lp ⟨(some [0,3,4]),[(3,1,ak)],false⟩ c9 (H++[.tok (o.length*1) ak]) :: .blk 0 :: .c (.lv [3])::k) (kv [(0,.slice tg 1 (l.map aA)),(3,.slice (.own H.length) 1 (o.map aA)),(4,.int .i64 i)]) (H++[.tok (o.length*1) ak]) =
   M.go eG H k (kv [(3,.slice (.own H.length) 1 ((o++mS (l.drop i)).map aA))]) (H++[.tok ((o++mS (l.drop i)).length*1) ak])
 |0,i,o,h,ho=>by
  have e:i=l.length:=by omega
  subst e;rw [List.drop_length,show mS []=[] from rfl,List.append_nil];rw [al M c9.eq_1];simp (maxSteps:=3000000) (maxDischargeDepth:=6) +contextual -implicitDefEqProofs only [amC M,↓amD,Nat.reduceBEq,Nat.reduceAdd,env,ah,gE,Nat.lt_irrefl]
 |n+1,i,o,h,ho=>by
  have hi:i<l.length:=by omega
  have hx:l[i]?=some l[i]:=List.getElem?_eq_getElem hi;have ht:=fun H=>BN M hB hS hW (hs _ (List.getElem_mem hi)) H
  have hwi:=dJ (n:=l.length) hi (by simp only [bh];omega);have hir:=a7 (row:=aA) (tag:=tg) (sz:=1) (k:=.i64) hi;have w3:∀ o:List Str,Wk (H.length+1) (.slice (.own H.length) 1 (o.map aA)) (.slice (.own H.length) 1 (o.map aA)):=fun o=>wk_slice (by simp [qC]) (py _ _)
  rw [Ad hi];have ih:=rbl hB hS hW (tg:=tg) (H:=H) hl hs hk k n (i+1) (sel (lN l[i]) o (o++[l[i]])) (by omega) (by cases lN l[i]<;>simp [sel]<;>omega);simp only [kv_cons,kv_nil] at ih;cases hq:lN l[i] with
  |true=>
   rw [sel_true];rw [hq,sel_true] at ih;rw [hq] at ht;rw [al M c9.eq_1];simp (maxSteps:=3000000) (maxDischargeDepth:=6) +contextual -implicitDefEqProofs only [amC M,↓amD,Nat.reduceBEq,Nat.reduceAdd,env,ah,gE,amG,AV.cell,Nat.reduceMul,Nat.reduceLeDiff,hi,hx,ht,hwi,hir,hk,w3,(show ∀ s:Str,aA s=[.str s] from fun _=>rfl),ih,aj,hp_set0,hp_getk,hp_setk,fw,eb]
  |false=>
   rw [sel_false];rw [hq,sel_false] at ih;rw [hq] at ht;have ap:=mQ (row:=aA) (l:=o) (x:=l[i]) (r:=[.str l[i]]) (sz:=1) (bytes:=16) (e:=ak) H [] rfl rfl rfl (by omega) (by omega);rw [al M c9.eq_1];simp (maxSteps:=3000000) (maxDischargeDepth:=6) +contextual -implicitDefEqProofs only [amC M,↓amD,Nat.reduceBEq,Nat.reduceAdd,env,ah,gE,amG,AV.cell,Nat.reduceMul,Nat.reduceLeDiff,hi,hx,ht,hwi,hir,hk,w3,(show ∀ s:Str,aA s=[.str s] from fun _=>rfl),ap,ih,aj,hp_set0,hp_getk,hp_setk,fw,eb]
theorem HQ(hB:fV E)(hS:fM E)(hW:WsE E){l:List Str}{tg:Tag}(hl:l.length≤1000000)(hs:∀ w∈l,w.length≤140737488351232)(hk:∀ n,Wk n (.slice tg 1 (l.map aA)) (.slice tg 1 (l.map aA)))(H:List AObj) :
  M.run kb [.slice tg 1 (l.map aA)] H=some (.ret (.slice .any 1 ((mS l).map aA)),H):=by
 rw [aG M hW.truchmanref01_Bare rfl (c:=kr) rfl,kr];have h4:=fun k=>rbl M hB hS hW hl hs hk (H:=H) k l.length 0 [] (by omega) (by simp)
 simp only [kv_cons,kv_nil,List.nil_append,List.length_nil,Nat.zero_mul,List.map_nil,Int.ofNat_zero,List.drop_zero] at h4;have hh:=handV_drop (cut_app H [.tok ((mS l).length*1) ak]) (wk_any (esz:=1) (tag:=.own H.length) (py H.length (mS l)));simp only [anyV_slice,hp_take] at hh;simp (maxSteps:=3000000) (maxDischargeDepth:=6) +contextual -implicitDefEqProofs only [amC M,↓amD,Nat.reduceBEq,Nat.reduceAdd,env,ah,gE,h4,hh]
end
end Go.Am
