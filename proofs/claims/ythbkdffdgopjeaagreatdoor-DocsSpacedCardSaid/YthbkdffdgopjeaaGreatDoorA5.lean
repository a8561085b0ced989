import Derived.Test.YthbkdffdgopjeaaGreatDoorA4
import Derived.Lib.MapLaws
import Derived.Stop.FmtQuoteTie
import Derived.Lib.Bytealg
/-
  Part 5 of the tool: an abstract machine over the model, proved sound, and what it says of the functions that the law reaches. Condition: none but those that each theorem names.
-/
set_option linter.unusedVariables false
set_option linter.unusedSimpArgs false
set_option maxRecDepth 100000
set_option maxHeartbeats 4000000
namespace Go.Am
open Go.RowKit
section
open Go.Proofs
theorem Lx:∀ f args H,E0.wo f args H=none:=fun _ _ _=>rfl
def ps0:List RPc:=[]
theorem ok0:∀ p∈ps0,p.Ok E0.P E0.G:=fun p h=>by cases h
def p1:RPc:=⟨28,[(.str [97,32,92,60,98,62,32,60,98,62,120,60,47,98,62,123,110,125])],[],(.tuple [(.slice .any 3 [[(.int .u8 1),(.str [97,32,60,98,62,32]),(.bool false)],[(.int .u8 2),(.str [98]),(.bool false)],[(.int .u8 1),(.str [120]),(.bool false)],[(.int .u8 3),(.str [98]),(.bool false)],[(.int .u8 5),(.str [110]),(.bool false)]]),(.int .u8 0)])⟩
def ps1:List RPc:=p1::ps0
theorem ok1:∀ p∈ps1,p.Ok E0.P E0.G:=sA Gt g0 ok0 Lx (by kernel_rfl)
def p2:RPc:=⟨32,[(.slice .full 3 [[(.str [37,98,68,114,46,37,115]),(.str []),(.bool false)],[(.str [37,112,37,115]),(.str [37,117]),(.bool true)]]),(.slice .full 3 [[(.int .u8 1),(.str [68,114,46,32,65,32,105,115,32,105,110,46,32,71,111]),(.bool false)]])],[],(.tuple [(.slice .any 1 [[(.int .i64 13)]]),(.int .u8 0)])⟩
def ps2:List RPc:=p2::ps1
theorem ok2:∀ p∈ps2,p.Ok E0.P E0.G:=sA Gt g0 ok1 Lx (by kernel_rfl)
def p3:RPc:=⟨10,[(.slice .full 3 [[(.int .u8 2),(.str [98]),(.bool false)],[(.int .u8 1),(.str [114,101,100]),(.bool false)],[(.int .u8 3),(.str [98]),(.bool false)],[(.int .u8 1),(.str [32,104,111,117,115,101]),(.bool false)]]),(.slice .full 1 [[(.str [99,97,115,97])],[(.str [114,111,106,97])]]),(.slice .full 2 [[(.int .i64 0),(.int .i64 1)],[(.int .i64 1),(.int .i64 0)]])],(dd 12 ([.tok 1 9]++(dd 7 ([.tok 16 82]++(dd 11 ([.tok 1 9]++(dd 43 ([.tok 1 9]++(dd 20 [.tok 6 9]))))))))),(.tuple [(.slice .any 3 [[(.int .u8 1),(.str [99,97,115,97,32]),(.bool false)],[(.int .u8 2),(.str [98]),(.bool false)],[(.int .u8 1),(.str [114,111,106,97]),(.bool false)],[(.int .u8 3),(.str [98]),(.bool false)]]),(.int .u8 0)])⟩
def ps3:List RPc:=p3::ps2
theorem ok3:∀ p∈ps3,p.Ok E0.P E0.G:=sA Gt g0 ok2 Lx (by kernel_rfl)
theorem HN:Ge (EP E0 ps3) 1000000 aX [] []=some (.bool true):=by kernel_rfl
theorem JA(H:List AObj):cg Tryz.prog G0 aX [] H fun r H'=>r = .ret (.bool true)∧H'=H:=DN (Mv Gt g0 ok3 Lx) g0 HN rfl
end
section
open Sh
def eT:AC:=
 (Q (O [mc 4 F]) (Q (Q (Q (O [m 12 0,o 13 (.bs 1 [(.slice .nil 0 [])] 1 [(0,(t 12))]),k1 14 dK 13,m 15 14,h 16 15 (.mv (t 1)),⟨(some 17),(some (15,false)),
 (.call (.c (.fn (.func eW) [] [])) [(.t 16)])⟩,pt 18 15 17]) (Y [0,1,18])) (C 18 (Q (O [k 19 (f aX) [],m 4 19]) R) X)) (Q (Q (O [m 21 1,k1
 22 gb 21,m 20 22,ex 23 20 0,ex 24 20 1,m 5 23,m 6 24]) (Y [0,1,5,6])) (Q (Q (O [m 25 6,ac 26 .eql 25 (u 0)]) (C 26 (Q (Q (O [m 28 5,k1 29 ep 28,m
 27 29,ex 30 27 0,ex 31 27 1,m 7 30,m 8 31]) (Y [0,1,5,7,8])) (Q (Q (O [m 32 8,ac 33 .neq 32 (u 0),m 34 33,h 35 34 (.mv (t 7)),h 36 34 (.mv (t 1)),⟨(some 37),(some (34,
 false)),(.call (.c (.fn (.func bV) [] [])) [(.t 35),(.t 36)])⟩,h 38 34 (.un .not (t 37)),pt 39 34 38,m 40 39,h 41 40 (.mv (t 5)),⟨(some 42),(some (40,
 false)),(.call (.c (.fn (.func bH) [] [])) [(.t 41)])⟩,h 43 40 (.ar .neq (t 42) (u 0)),pt 44 40 43]) (Y [0,44])) (C 44 (rt 4 F) X))) X)) (Q (Q (O [m 46
 0,k1 47 ep 46,m 45 47,ex 48 45 0,ex 49 45 1,m 9 48,m 6 49]) (Y [6,9])) (Q (Q (O [m 50 6,ac 51 .neq 50 (u 0)]) (C 51 (Q (Q (O [m 52 9,ls 53 52,ac 54 .eql 53 (i
 0),m 55 54,⟨(some 56),(some (55,true)),(.call (.c (.fn (.func aX) [] [])) [])⟩,pf 57 55 56,m 4 57]) (Y [4])) R) X)) (Q (Q (O [m 58 9,k1 59
 dS 58,ac 60 .neq 59 (u 0)]) (C 60 (rt 4 F) X)) (Q (Q (O [m 62 9,k1 63 gb 62,m 61 63,ex 64 61 0,ex 65 61 1,m 5 64,m 6 65]) (Y [5,6,9])) (Q (Q (O
 [m 66 6,ac 67 .neq 66 (u 0)]) (C 67 (Q (Q (O [m 68 6,ac 69 .eql 68 (u 3),m 70 69,⟨(some 71),(some (70,true)),(.call (.c (.fn (.func aX) [] [])) [])⟩,pf 72
 70 71,m 4 72]) (Y [4])) R) X)) (Q (Q (O [m 74 5,k1 75 ep 74,m 73 75,ex 76 73 0,ex 77 73 1,m 10 76,m 11 77]) (Y [9,10,11])) (Q (Q (O [m 78 11,ac 79 .eql 78 (u 0),
 m 80 79,g 81 80 (.mv (t 10)),g 82 80 (.mv (t 9)),⟨(some 83),(some (80,true)),(.call (.c (.fn (.func bV) [] [])) [(.t 81),(.t 82)])⟩,pf 84 80 83,m 85 84,
 ⟨(some 86),(some (85,true)),(.call (.c (.fn (.func aX) [] [])) [])⟩,pf 87 85 86,m 4 87]) (Y [4])) R)))))))))))
def eU:AFn:=⟨eT,88,[.t 4],.drop,[],none⟩
theorem bc:qf eU [.t 4] .drop:=⟨rfl,rfl,rfl⟩
end
def aW(s:Str):Nat×Nat:=Lib.decodeL s
theorem l6(s:Str):1≤(aW s).2:=Lib.decodeL_width s
theorem tf{s:Str}(h:s≠[]):(aW s).2≤s.length:=Lib.decodeL_le s h
theorem wi(s:Str)(i:Nat):Utf8.decode ⟨s.toArray⟩ i=aW (s.drop i):=(Lib.decodeL_drop ⟨s.toArray⟩ i).symm
theorem Ox(r:Nat):(Utf8.encode (r:Int)).data.toList=Lib.encodeRune (r:Int):=by
 have h:=Extern.FmtText.encode_eq r;unfold Lib.encodeRune;rw [← h,Extern.FmtText.nums,List.map_map]
 conv=>lhs;rw [← List.map_id (Utf8.encode (r:Int)).data.toList]
 refine List.map_congr_left fun c _ => ?_
 simp
theorem Gu{s:Str}(hne:s≠[])(hv:¬ ((aW s).1=65533∧(aW s).2=1)):(Utf8.encode ((aW s).1:Int)).data.toList=s.take (aW s).2:=by
 rw [Ox];exact Lib.encode_decode s hne hv
def vk:Nat→Str→List Nat
 |0,_=>[]
 |n+1,s=>match s with
  |[]=>[]
  |c::t=>(aW (c::t)).1::vk n ((c::t).drop (aW (c::t)).2)
theorem oG(n:Nat):vk n []=[]:=by cases n<;>rfl
theorem l7{n:Nat}{s:Str}(h:s≠[]):vk (n+1) s=(aW s).1::vk n (s.drop (aW s).2):=by
 cases s with
 |nil=>exact absurd rfl h
 |cons c t=>rfl
theorem Br:∀ (n m:Nat) (s:Str),s.length≤n→s.length≤m→vk n s=vk m s
 |0,m,s,h,_=>by
  obtain rfl:s=[]:=List.eq_nil_of_length_eq_zero (by omega);rw [oG,oG]
 |n+1,0,s,_,h=>by
  obtain rfl:s=[]:=List.eq_nil_of_length_eq_zero (by omega);rw [oG,oG]
 |n+1,m+1,s,h,h'=>by
  by_cases hs:s=[]
  ·subst hs;rw [oG,oG]
  ·have hw:=l6 s
   rw [l7 hs,l7 hs,Br n m _ (by rw [List.length_drop];omega) (by rw [List.length_drop];omega)]
def aS(s:Str):List Nat:=vk s.length s
theorem mT{s:Str}(h:s≠[]):aS s=(aW s).1::aS (s.drop (aW s).2):=by
 have hl:0<s.length:=List.length_pos_iff.2 h;have hw:=l6 s;obtain ⟨n,hn⟩:∃ n,s.length=n+1:=⟨s.length-1,by omega⟩
 unfold aS;rw [hn,l7 h,Br n (s.drop (aW s).2).length _ (by rw [List.length_drop];omega) (Nat.le_refl _)]
theorem wY(s:Str):∀ (n i:Nat),il ⟨s.toArray⟩ n i=(vk n (s.drop i)).map Int.ofNat
 |0,i=>rfl
 |n+1,i=>by
  rw [il];have hsz:(ByteArray.mk s.toArray).size=s.length:=by simp [ByteArray.size]
  by_cases h:i<s.length
  ·rw [if_pos (by rw [hsz];exact h),l7 (fun e=>by have:=congrArg List.length e;simp at this;omega),wY s n,wi,List.map_cons,List.drop_drop]
  ·rw [if_neg (by rw [hsz];exact h),List.drop_of_length_le (by omega),oG];rfl
theorem Bs(s:Str):dz s=(aS s).map Int.ofNat:=by
 unfold dz aS;rw [wY,List.drop_zero]
def HO(r w:Nat):Bool:=((r:Int) == 65533)&&decide ((w:Int)<2)||decide ((r:Int)<32)||((r:Int) == 127)
def sU:Nat→Str→Bool
 |0,_=>true
 |n+1,s=>match s with
  |[]=>true
  |c::t => !HO (aW (c::t)).1 (aW (c::t)).2&&sU n ((c::t).drop (aW (c::t)).2)
theorem l8(n:Nat):sU n []=true:=by cases n<;>rfl
theorem qS{n:Nat}{s:Str}(h:s≠[]):sU (n+1) s=(!HO (aW s).1 (aW s).2&&sU n (s.drop (aW s).2)):=by
 cases s with
 |nil=>exact absurd rfl h
 |cons c t=>rfl
theorem zD:∀ (n m:Nat) (s:Str),s.length≤n→s.length≤m→sU n s=sU m s
 |0,m,s,h,_=>by
  obtain rfl:s=[]:=List.eq_nil_of_length_eq_zero (by omega);rw [l8,l8]
 |n+1,0,s,_,h=>by
  obtain rfl:s=[]:=List.eq_nil_of_length_eq_zero (by omega);rw [l8,l8]
 |n+1,m+1,s,h,h'=>by
  by_cases hs:s=[]
  ·subst hs;rw [l8,l8]
  ·have hw:=l6 s
   rw [qS hs,qS hs,zD n m _ (by rw [List.length_drop];omega) (by rw [List.length_drop];omega)]
def kG(s:Str):Bool:=sU s.length s
theorem zE{s:Str}(h:s≠[]):kG s=(!HO (aW s).1 (aW s).2&&kG (s.drop (aW s).2)):=by
 have hl:0<s.length:=List.length_pos_iff.2 h;have hw:=l6 s;obtain ⟨n,hn⟩:∃ n,s.length=n+1:=⟨s.length-1,by omega⟩
 unfold kG;rw [hn,qS h,zD n (s.drop (aW s).2).length _ (by rw [List.length_drop];omega) (Nat.le_refl _)]
theorem wZ:∀ l:List Nat,runeStr (l.map Int.ofNat)=(l.map fun r=>(Utf8.encode ((r:Nat):Int)).data.toList).flatten
 |[]=>rfl
 |r::l=>by rw [List.map_cons,runeStr,wZ l,List.map_cons,List.flatten_cons,Int.ofNat_eq_natCast]
def gr(l:List Nat):Str:=(l.map fun r=>(Utf8.encode ((r:Nat):Int)).data.toList).flatten
theorem HP(r:Nat)(l:List Nat):gr (r::l)=(Utf8.encode (r:Int)).data.toList++gr l:=rfl
theorem Ly{r:Nat}(h:r=65533):(Utf8.encode (r:Int)).data.toList=[239,191,189]:=by
 rw [Extern.FmtText.enc3 r (by omega) (by omega) (by omega),h];rfl
theorem Lz(t:Str):aW (239::191::189::t)=(65533,3):=by
 unfold aW;rw [Lib.decodeL_N];simp [Lib.decodeN]
def zF:Nat→Str→Bool
 |0,_=>true
 |n+1,s=>match s with
  |[]=>true
  |c::t => !(((aW (c::t)).1 == 65533)&&((aW (c::t)).2 == 1))&&zF n ((c::t).drop (aW (c::t)).2)
theorem Bt:∀ (n:Nat) (s:Str),s.length≤n→((gr (vk n s) == s)=zF n s)
 |0,s,h=>by
  obtain rfl:s=[]:=List.eq_nil_of_length_eq_zero (by omega);rfl
 |n+1,[],_=>rfl
 |n+1,c::t,h=>by
  have hw:=l6 (c::t);have ih:=Bt n ((c::t).drop (aW (c::t)).2) (by rw [List.length_drop];simp at h ⊢;omega);rw [l7 (by simp),HP,zF]
  by_cases hb:(aW (c::t)).1=65533∧(aW (c::t)).2=1
  ·have hbb:(((aW (c::t)).1 == 65533)&&((aW (c::t)).2 == 1))=true:=by simp [hb]
   rw [hbb,Bool.not_true,Bool.false_and,beq_eq_false_iff_ne,Ly hb.1];intro e;generalize gr (vk n ((c::t).drop (aW (c::t)).2))=u at e;have e2:c::t=(239:UInt8)::191::189::u:=by rw [← e];rfl
   rw [e2,Lz] at hb;exact absurd hb.2 (by decide)
  ·have hbb:(((aW (c::t)).1 == 65533)&&((aW (c::t)).2 == 1))=false:=by
    rw [Bool.and_eq_false_iff]
    by_cases h1:(aW (c::t)).1=65533
    ·right;simp;exact fun h2=>hb ⟨h1,h2⟩
    ·left;simpa using h1
   rw [hbb,Bool.not_false,Bool.true_and,← ih,Gu (by simp) hb,Bool.eq_iff_iff,beq_iff_eq,beq_iff_eq];constructor
   ·intro e
    have e3:(c::t).take (aW (c::t)).2++gr (vk n ((c::t).drop (aW (c::t)).2))=(c::t).take (aW (c::t)).2++(c::t).drop (aW (c::t)).2:=by rw [List.take_append_drop];exact e
    exact List.append_cancel_left e3
   ·intro e
    rw [e,List.take_append_drop]
def okR(l:List Nat):Bool:=l.all fun r => !(decide ((r:Int)<32)||((r:Int) == 127))
theorem zG:∀ (n:Nat) (s:Str),s.length≤n→(zF n s&&okR (vk n s))=sU n s
 |0,s,h=>rfl
 |n+1,[],_=>rfl
 |n+1,c::t,h=>by
  have hw:=l6 (c::t);have ih:=zG n ((c::t).drop (aW (c::t)).2) (by rw [List.length_drop];simp at h ⊢;omega);rw [l7 (by simp),zF,sU,← ih];unfold okR HO;rw [List.all_cons];have e1:(((aW (c::t)).1:Int) == 65533)=((aW (c::t)).1 == 65533):=by rw [Bool.eq_iff_iff];simp;omega
  have e2:decide (((aW (c::t)).2:Int)<2)=((aW (c::t)).2 == 1):=by rw [Bool.eq_iff_iff];simp;omega
  rw [e1,e2];cases ((aW (c::t)).1 == 65533)<;>cases ((aW (c::t)).2 == 1)<;>cases decide (((aW (c::t)).1:Int)<32)<;>cases (((aW (c::t)).1:Int) == 127)<;>simp
theorem Bu(s:Str):(sel (gr (aS s) == s) (okR (aS s)) false)=kG s:=by
 unfold kG;rw [← zG s.length s (Nat.le_refl _),← Bt s.length s (Nat.le_refl _)];show sel _ _ _=(gr (aS s) == s&&_)
 cases gr (aS s) == s<;>rfl
theorem wj{s:Str}(h:kG s=true):gr (aS s)=s:=by
 rw [← Bu] at h;cases e:gr (aS s) == s with
 |true=>simpa using e
 |false=>rw [e] at h;cases h
theorem Eb:∀ (n:Nat) (s:Str),(vk n s).length≤s.length
 |0,_=>Nat.zero_le _
 |n+1,[]=>by simp [vk]
 |n+1,c::t=>by
  have hw:=l6 (c::t);have:=Eb n ((c::t).drop (aW (c::t)).2);rw [l7 (by simp),List.length_cons];rw [List.length_drop] at this;simp at this ⊢;omega
theorem qT(s:Str):(aS s).length≤s.length:=Eb _ _
section
attribute [local congr] aq aO aI au aH aC aw ak al aD aE
variable{E:aN}(M:a8 bn E)
structure lG (E:aN):Prop where
 docs_isText:E.fn ie=some ij
 docs_isName:E.fn mw=some ik
 truchmanref01_Text:E.fn fv=some dN
 truchmanref01_Name:E.fn fw=some dO
 docs_carried_takes:E.fn fq=some fx
 docs_stack_string_pop:E.fn gh=some dW
 docs_stack_string_push:E.fn fD=some fK
 docs_CheckPieces:E.fn bD=some dG
 truchmanref01_alone:E.fn im=some iB
 truchmanref01_carried:E.fn gg=some cS
 truchmanref01_CheckPieces:E.fn bH=some b5
 truchmanref01_SamePieces:E.fn bP=some eO
 truchmanlaw01_long:E.fn dK=some cq
def HQ(s:Str):Nat×Nat:=if s=[] then (65533,0) else aW s
structure wk (M:a8 bn E):Prop where
 dec:∀ (s:Str) (H:List AObj),M.run bq [.str s] H=some (.ret (.tuple [.int .i32 ((HQ s).1:Int),.int .i64 ((HQ s).2:Int)]),H)
theorem sV{s:Str}{k:IntKind}{i:Nat}(h:i≤s.length):w7 (.str s) (some (.int k (i:Int))) none=some (.str (s.drop i)):=by
 simp [w7,cL,h];exact List.take_of_length_le (by simp)
theorem FB{s:Str}{k:IntKind}{i:Nat}(h:i≤s.length):w7 (.str s) none (some (.int k (i:Int)))=some (.str (s.take i)):=by
 simp [w7,cL,h]
theorem JB{s:Str}{k k':IntKind}{i j:Nat}(h:i≤j)(hj:j≤s.length):w7 (.str s) (some (.int k (i:Int))) (some (.int k' (j:Int)))=some (.str ((s.drop i).take (j-i))):=by
 simp [w7,cL,h,hj]
theorem Ni{a b:Nat}(h:a+b≤bJ):IntKind.i64.wrap ((a:Int)+(b:Int))=((a+b:Nat):Int):=by
 simp only [bJ] at h;rw [eJ (by omega) (by omega)];omega
theorem FC{α:Type}(b p:Bool)(x y:α):slc b y (slc p x y)=slc (!b&&p) x y:=by cases b<;>rfl
theorem txl(hX:wk M){s:Str}(hs:s.length≤bJ){H H0:List AObj}(hc:cY H0 H)(k:List Fra):∀ (n i:Nat) (He:List AObj),s.length-i≤n→i≤s.length →
  M.go ij H0 (.c fg :: .lp ⟨(some [0,3]),[],false⟩ fg He :: .blk 0 :: .c (.lv [])::k) (kv [(0,.str s),(3,.int .i64 i)]) H=sel (sU n (s.drop i)) (M.go ij H0 k .leaf H) (some (.ret (.bool false),H.take H0.length))
 |0,i,He,h,hi=>by
  obtain rfl:i=s.length:=by omega
  rw [aK M fg.eq_1];simp (maxSteps:=3000000) (maxDischargeDepth:=6) +contextual -implicitDefEqProofs only [amC M,↓amD,Nat.reduceBEq,Nat.reduceAdd,env,ao,mz,Nat.lt_irrefl,sU]
 |n+1,i,He,h,hi=>by
  by_cases hlt:i<s.length
  ·have hne:s.drop i≠[]:=fun e=>by have:=congrArg List.length e;simp at this;omega
   have hw:=l6 (s.drop i);have hle:=tf hne;rw [List.length_drop] at hle;have hd:=fun H=>hX.dec (s.drop i) H
   have hg:HQ (s.drop i)=aW (s.drop i):=if_neg hne;rw [hg] at hd;have ih:=fun He=>txl hX hs hc k n (i+(aW (s.drop i)).2) He (by omega) (by omega)
   rw [← List.drop_drop] at ih;have hws:=Ni (a:=i) (b:=(aW (s.drop i)).2) (by omega);rw [qS hne];simp only [kv_cons,kv_nil] at ih;generalize aW (s.drop i)=d at *
   rw [aK M fg.eq_1];simp (maxSteps:=3000000) (maxDischargeDepth:=6) +contextual -implicitDefEqProofs only [amC M,↓amD,Nat.reduceBEq,Nat.reduceAdd,env,ao,mz,hlt,sV hi,hd,ih,hws,HO,hc];exact FC _ _ _ _
  ·obtain rfl:i=s.length:=by omega
   rw [List.drop_length,l8];rw [aK M fg.eq_1];simp (maxSteps:=3000000) (maxDischargeDepth:=6) +contextual -implicitDefEqProofs only [amC M,↓amD,Nat.reduceBEq,Nat.reduceAdd,env,ao,mz,Nat.lt_irrefl]
theorem zH(hB:lG E)(hX:wk M){s:Str}(hs:s.length≤bJ)(H:List AObj):M.run ie [.str s] H=some (.ret (.bool (kG s)),H):=by
 rw [aP M hB.docs_isText rfl (c:=py) rfl,py];have hl:=fun k He=>txl M hX hs (cut_refl H) k s.length 0 He (by omega) (by omega)
 simp only [kv_cons,kv_nil,Int.ofNat_zero,List.drop_zero] at hl;simp (maxSteps:=3000000) (maxDischargeDepth:=6) +contextual -implicitDefEqProofs only [amC M,↓amD,Nat.reduceBEq,Nat.reduceAdd,env,ao,mz,hl,kG]
theorem LA(t:Tag)(l:List Nat):ym (.slice t 1 ((l.map Int.ofNat).map fun n=>[.int .i32 n]))=some (.str (gr l)):=by
 have h:∀ l:List Nat,vB ((l.map Int.ofNat).map fun n=>[AV.int .i32 n])=some (l.map Int.ofNat):=fun l=>by
  induction l with
  |nil=>rfl
  |cons r l ih=>simp only [List.map_cons,vB] at ih ⊢;rw [ih];rfl
 simp only [ym,h,Option.map_some,wZ];rfl
theorem LB{s:Str}(h:s.length≤70368744177664):yl (.str s)=some (.slice .any 1 ((aS s).map fun r:Nat=>[AV.int .i32 (r:Int)])):=by
 simp only [yl,if_pos h,Bs,List.map_map];rfl
def xQ(r:Nat):List AV:=[.int .i32 (r:Int)]
theorem LC{s:Str}(h:s.length≤70368744177664):yl (.str s)=some (.slice .any 1 ((aS s).map xQ)):=LB h
theorem LD(t:Tag)(l:List Nat):ym (.slice t 1 (l.map xQ))=some (.str (gr l)):=by
 rw [← LA t l,List.map_map];rfl
theorem N3:(∀ r:Nat,bt none (xQ r) 0=some (.int .i32 (r:Int))):=fun _=>rfl
theorem rtx{H H0:List AObj}{l:List Nat}(hl:l.length≤bJ)(hc:cY H0 H)(k:List Fra):∀ (n i:Nat) (He:List AObj),i+n=l.length →
  M.go dN H0 (.c di :: .lp ⟨(some [3,4]),[],false⟩ di He :: .blk 0 :: .c (.lv [])::k) (kv [(3,.slice .any 1 (l.map xQ)),(4,.int .i64 i)]) H =
   sel ((l.drop i).all fun r => !(decide ((r:Int)<32)||((r:Int) == 127))) (M.go dN H0 k .leaf H) (some (.ret (.bool false),H.take H0.length))
 |0,i,He,h=>by
  have e:i=l.length:=by omega
  subst e;rw [aK M di.eq_1];simp (maxSteps:=3000000) (maxDischargeDepth:=6) +contextual -implicitDefEqProofs only [amC M,↓amD,Nat.reduceBEq,Nat.reduceAdd,env,ao,jl,Nat.lt_irrefl,List.drop_length,List.all_nil]
 |n+1,i,He,h=>by
  have hi:i<l.length:=by omega
  have hx:l[i]?=some l[i]:=List.getElem?_eq_getElem hi;have hd:(l.drop i)=l[i]::l.drop (i+1):=List.drop_eq_getElem_cons hi;have hm:l[i]∈l:=List.getElem_mem hi;have ih:=fun He=>rtx (H:=H) (H0:=H0) (l:=l) (hl:=hl) hc k n (i+1)  He (by omega)
  simp only [kv_cons,kv_nil] at ih;rw [aK M di.eq_1];simp (maxSteps:=3000000) (maxDischargeDepth:=6) +contextual -implicitDefEqProofs only [amC M,↓amD,Nat.reduceBEq,Nat.reduceAdd,env,ao,jl,hx,hd,hi,ih,jJ hi hl,bG hi,N3,List.all_cons,hc];exact FC _ _ _ _
theorem JC(hB:lG E){s:Str}(hs:s.length≤70368744177664)(H:List AObj):M.run fv [.str s] H=some (.ret (.bool (kG s)),H):=by
 rw [← Bu];have hn:(aS s).length≤bJ:=by have:=qT s;simp only [bJ];omega
 rw [aP M hB.truchmanref01_Text rfl (c:=jk) rfl,jk];have hl:=fun k He=>rtx M (l:=aS s) hn (cut_refl H) k (aS s).length 0 He (by omega)
 simp only [kv_cons,kv_nil,Int.ofNat_zero,List.drop_zero] at hl;simp (maxSteps:=3000000) (maxDischargeDepth:=6) +contextual -implicitDefEqProofs only [amC M,↓amD,Nat.reduceBEq,Nat.reduceAdd,env,ao,jl,hl,LC hs,LD,okR]
def inN(c:UInt8):Bool:=decide (97≤(c.toNat:Int))&&decide ((c.toNat:Int)≤122)||decide (48≤(c.toNat:Int))&&decide ((c.toNat:Int)≤57)||((c.toNat:Int) == 45)
def kH(s:Str):Bool:=match s with
 |[]=>false
 |c::t=>decide (((c::t).length:Int)≤16)&&decide (97≤(c.toNat:Int))&&decide ((c.toNat:Int)≤122)&&(c::t).all inN
theorem dlt(a b:Int):decide (a<b) = !decide (b≤a):=by rw [Bool.eq_iff_iff];simp
theorem nml{H H0:List AObj}{s:Str}(hs:s.length≤bJ)(hc:cY H0 H)(k:List Fra):∀ (n i:Nat) (He:List AObj),i+n=s.length →
  M.go ik H0 (.c gQ :: .lp ⟨(some [0,23,24]),[],false⟩ gQ He :: .blk 0 :: .c (.lv [])::k) (kv [(0,.str s),(23,.int .i64 s.length),(24,.int .i64 i)]) H =
   sel ((s.drop i).all inN) (M.go ik H0 k .leaf H) (some (.ret (.bool false),H.take H0.length))
 |0,i,He,h=>by
  have e:i=s.length:=by omega
  subst e;rw [aK M gQ.eq_1];simp (maxSteps:=3000000) (maxDischargeDepth:=6) +contextual -implicitDefEqProofs only [amC M,↓amD,Nat.reduceBEq,Nat.reduceAdd,env,ao,mC,Nat.lt_irrefl,List.drop_length,List.all_nil]
 |n+1,i,He,h=>by
  have hi:i<s.length:=by omega
  have hx:s[i]?=some s[i]:=List.getElem?_eq_getElem hi;have hd:(s.drop i)=s[i]::s.drop (i+1):=List.drop_eq_getElem_cons hi;have hm:s[i]∈s:=List.getElem_mem hi;have ih:=fun He=>nml (H:=H) (H0:=H0) (s:=s) (hs:=hs) hc k n (i+1)  He (by omega)
  simp only [kv_cons,kv_nil] at ih;rw [aK M gQ.eq_1];simp (maxSteps:=3000000) (maxDischargeDepth:=6) +contextual -implicitDefEqProofs only [amC M,↓amD,Nat.reduceBEq,Nat.reduceAdd,env,ao,mC,hx,hd,hi,ih,jJ hi hs,List.all_cons,hc,inN]
theorem rnl{H H0:List AObj}{s:Str}(hs:s.length≤bJ)(hc:cY H0 H)(k:List Fra):∀ (n i:Nat) (He:List AObj),i+n=s.length →
  M.go dO H0 (.c dj :: .lp ⟨(some [0,3]),[],false⟩ dj He :: .blk 0 :: .c (.lv [])::k) (kv [(0,.str s),(3,.int .i64 i)]) H =
   sel ((s.drop i).all inN) (M.go dO H0 k .leaf H) (some (.ret (.bool false),H.take H0.length))
 |0,i,He,h=>by
  have e:i=s.length:=by omega
  subst e;rw [aK M dj.eq_1];simp (maxSteps:=3000000) (maxDischargeDepth:=6) +contextual -implicitDefEqProofs only [amC M,↓amD,Nat.reduceBEq,Nat.reduceAdd,env,ao,fy,Nat.lt_irrefl,List.drop_length,List.all_nil]
 |n+1,i,He,h=>by
  have hi:i<s.length:=by omega
  have hx:s[i]?=some s[i]:=List.getElem?_eq_getElem hi;have hd:(s.drop i)=s[i]::s.drop (i+1):=List.drop_eq_getElem_cons hi;have hm:s[i]∈s:=List.getElem_mem hi;have ih:=fun He=>rnl (H:=H) (H0:=H0) (s:=s) (hs:=hs) hc k n (i+1)  He (by omega)
  simp only [kv_cons,kv_nil] at ih;rw [aK M dj.eq_1];simp (maxSteps:=3000000) (maxDischargeDepth:=6) +contextual -implicitDefEqProofs only [amC M,↓amD,Nat.reduceBEq,Nat.reduceAdd,env,ao,fy,hx,hd,hi,ih,jJ hi hs,List.all_cons,hc,inN,dlt];rw [FC];congr 1;simp only [Bool.not_and,Bool.not_or,Bool.not_not]
theorem kD(hB:lG E){s:Str}(hs:s.length≤bJ)(H:List AObj):M.run mw [.str s] H=some (.ret (.bool (kH s)),H):=by
 rw [aP M hB.docs_isName rfl (c:=pA) rfl,pA];have hl:=fun k He=>nml M (s:=s) hs (cut_refl H) k s.length 0 He (by omega)
 simp only [kv_cons,kv_nil,Int.ofNat_zero,List.drop_zero] at hl;cases s with
 |nil=>simp (maxSteps:=3000000) (maxDischargeDepth:=6) +contextual -implicitDefEqProofs only [amC M,↓amD,Nat.reduceBEq,Nat.reduceAdd,env,ao,mC,hl,kH,(show (([]:Str) == [])=true from rfl)]
 |cons c t=>
  simp (maxSteps:=3000000) (maxDischargeDepth:=6) +contextual -implicitDefEqProofs only [amC M,↓amD,Nat.reduceBEq,Nat.reduceAdd,env,ao,mC,hl,kH,dlt,List.getElem?_cons_zero,(show ((c::t) == ([]:Str))=false from rfl)];simp only [Bool.not_or,Bool.not_not]
theorem JD(hB:lG E){s:Str}(hs:s.length≤bJ)(H:List AObj):M.run fw [.str s] H=some (.ret (.bool (kH s)),H):=by
 rw [aP M hB.truchmanref01_Name rfl (c:=jm) rfl,jm];have hl:=fun k He=>rnl M (s:=s) hs (cut_refl H) k s.length 0 He (by omega)
 simp only [kv_cons,kv_nil,Int.ofNat_zero,List.drop_zero] at hl;cases s with
 |nil=>simp (maxSteps:=3000000) (maxDischargeDepth:=6) +contextual -implicitDefEqProofs only [amC M,↓amD,Nat.reduceBEq,Nat.reduceAdd,env,ao,fy,hl,kH,List.length_nil,(show ((((0:Nat):Int)) == 0)=true from rfl)]
 |cons c t=>
  have h0:(((c::t).length:Int) == 0)=false:=by simp;omega
  simp (maxSteps:=3000000) (maxDischargeDepth:=6) +contextual -implicitDefEqProofs only [amC M,↓amD,Nat.reduceBEq,Nat.reduceAdd,env,ao,fy,hl,kH,dlt,List.getElem?_cons_zero,h0];simp only [Bool.not_or,Bool.not_not]
end
section
attribute [local congr] aq aO aI au aH aC aw ak al aD aE
variable{E:aN}(M:a8 bn E)
def Pre(H0 G:List AObj):Prop:=H0.length≤G.length∧∀ i,i<H0.length→G[i]?=H0[i]?
theorem Pre.refl(H:List AObj):Pre H H:=⟨Nat.le_refl _,fun _ _=>rfl⟩
theorem Pre.cut{H0 G:List AObj}(h:Pre H0 G):cY H0 G:=⟨h.1,fun i x hi hx=>.inl (by rw [← h.2 i hi];exact hx)⟩
theorem Pre.take{H0 G:List AObj}(h:Pre H0 G):G.take H0.length=H0:=by
 refine List.ext_getElem? fun i => ?_
 rw [List.getElem?_take];split
 ·rename_i hi;exact h.2 i hi
 ·rename_i hi;rw [List.getElem?_eq_none (by omega)]
theorem Pre.trans{A B C:List AObj}(h:Pre A B)(h':Pre B C):Pre A C:=⟨Nat.le_trans h.1 h'.1,fun i hi=>by rw [h'.2 i (Nat.lt_of_lt_of_le hi h.1),h.2 i hi]⟩
theorem Pre.app{H0 G:List AObj}(h:Pre H0 G)(L:List AObj):Pre H0 (G++L):=⟨by have:=h.1;simp;omega,fun i hi=>by
 have:=h.1;rw [List.getElem?_append_left (by omega)];exact h.2 i hi⟩
theorem Pre.set{H0 G:List AObj}(h:Pre H0 G){id:Nat}(hid:H0.length≤id)(o:AObj):Pre H0 (G.set id o):=⟨by simpa using h.1,fun i hi=>by
 rw [List.getElem?_set_ne (by omega)];exact h.2 i hi⟩
def But(b p:Nat)(G G':List AObj):Prop:=G.length≤G'.length∧∀ i,i<b→i≠p→G'[i]?=G[i]?
theorem But.refl(b p:Nat)(G:List AObj):But b p G G:=⟨Nat.le_refl _,fun _ _ _=>rfl⟩
theorem But.pre{H0 G G':List AObj}{b p:Nat}(h:But b p G G')(hp:Pre H0 G)(hb:H0.length≤b)(hq:H0.length≤p):Pre H0 G':=
 ⟨Nat.le_trans hp.1 h.1,fun i hi=>by rw [h.2 i (by omega) (by omega)];exact hp.2 i hi⟩
theorem bp{G:List AObj}{i:Nat}{x:AObj}(h:G[i]?=some x):i<G.length:=(List.getElem?_eq_some_iff.1 h).1
theorem Gv{G:List AObj}{i:Nat}(h:i<G.length)(o:AObj)(L:List AObj):(G++L).set i o=G.set i o++L:=by rw [List.set_append_left _ _ h]
theorem JE{G:List AObj}{i:Nat}(h:i<G.length)(o:AObj):(G.set i o)[i]?=some o:=List.getElem?_set_self h
theorem JF{G:List AObj}{i:Nat}(h:i<G.length)(o:AObj)(L:List AObj):(G.set i o++L)[i]?=some o:=by
 rw [List.getElem?_append_left (by simpa using h)];exact JE h o
theorem Ec{G:List AObj}{i:Nat}{o:AObj}(hw:Dv G.length o):cY G (G.set i o):=by
 refine ⟨by simp,fun j x hj hx => ?_⟩;rw [List.getElem?_set] at hx;split at hx
 ·split at hx
  ·cases hx;exact .inr hw
  ·cases hx
 ·exact .inl hx
theorem JG{G:List AObj}{i:Nat}{o:AObj}(ho:Dv G.length o)(L:List AObj):cY G (G.set i o++L):=DU (Ec ho) L
theorem HR{G:List AObj}{i:Nat}(o:AObj)(L:List AObj):(G.set i o++L).take G.length=G.set i o:=by
 rw [List.take_append_of_le_length (by simp)];exact List.take_of_length_le (by simp)
theorem HS(n:Nat)(b e:Bool)(T:TypeId):Dv n (.cells [.bool b,.bool e] T):=by
 intro c hc;simp at hc;rcases hc with rfl | rfl<;>exact wk_bool _ _
def bB(x:ah):Bool:=(x.kind == 2)&&x.car
def aV(x:ah):Bool:=(x.kind == 3)&&x.car
def iI(b e:Bool)(x:ah):Bool := !(bB x&&b||e && !aV x)
theorem HT(hB:lG E){G:List AObj}{c:Nat}{b e:Bool}{T:TypeId}(hc:G[c]?=some (.cells [.bool b,.bool e] T))(x:ah) :
  M.run fq [.ptr c 0,.agg x.row] G=some (.ret (.bool (iI b e x)),if iI b e x=true then G.set c (.cells [.bool (b || !bB x),.bool (e||aV x)] T) else G):=by
 rw [aP M hB.docs_carried_takes rfl (c:=ji) rfl,ji];have hl:=bp hc;have g1:=fun L=>br (L:=L) hc
 have g2:=JF hl;have s1:=Gv hl;have s2:∀ (o o':AObj) (L:List AObj),(G.set c o++L).set c o'=G.set c o'++L:=fun o o' L=>by rw [Gv (by simpa using hl),List.set_set]
 have l0:∀ b e:Bool,bt none [.bool b,.bool e] 0=some (.bool b):=fun _ _=>rfl
 have l1:∀ b e:Bool,bt none [.bool b,.bool e] 1=some (.bool e):=fun _ _=>rfl
 have e1:∀ b e b':Bool,bf [.bool b,.bool e] 0 [.bool b']=[.bool b',.bool e]:=fun _ _ _=>rfl
 have e2:∀ b e b':Bool,bf [.bool b,.bool e] 1 [.bool b']=[.bool b,.bool b']:=fun _ _ _=>rfl
 have hq:((x.kind == 2)&&x.car)=bB x:=rfl;have hq2:((x.kind == 3)&&x.car)=aV x:=rfl;have ck:∀ b e L,cY G (G.set c (.cells [.bool b,.bool e] T)++L):=fun b e L=>JG (HS _ _ _ _) L
 have tk:=fun o L=>HR (G:=G) (i:=c) o L
 cases hcase:(bB x&&b||e && !aV x) with
 |true=>
  rw [iI,hcase];simp (maxSteps:=3000000) (maxDischargeDepth:=6) +contextual -implicitDefEqProofs only [amC M,↓amD,Nat.reduceBEq,Nat.reduceAdd,env,ao,mO,amG,AV.cell,Nat.reduceMul,Nat.reduceLeDiff,bk,aF,rnc,g1,g2,s1,s2,l0,l1,e1,e2,hq,hq2,hcase,ck,tk,cut_app,hp_take]
 |false=>
  rw [iI,hcase];simp (maxSteps:=3000000) (maxDischargeDepth:=6) +contextual -implicitDefEqProofs only [amC M,↓amD,Nat.reduceBEq,Nat.reduceAdd,env,ao,mO,amG,AV.cell,Nat.reduceMul,Nat.reduceLeDiff,bk,aF,rnc,g1,g2,s1,s2,l0,l1,e1,e2,hq,hq2,hcase,ck,tk,cut_app,hp_take]
end
section
attribute [local congr] aq aO aI au aH aC aw ak al aD aE
variable{E:aN}(M:a8 bn E)
structure tK (M:a8 bn E):Prop where
 index:∀ (s:Str) (c:UInt8) (H:List AObj),M.run bo [.str s,.int .u8 c.toNat] H=some (.ret (.int .i64 (Lib.indexByte s c)),H)
 same:∀ (i o:Nat) (H:List AObj),M.run cP [.ptr i o] H=some (.ret (.ptr i o),H)
structure BldE (E:aN):Prop where
abbrev N4(s:Str):List (List AV):=s.map fun b=>[.int .u8 (b.toNat:Int)]
end
section
attribute [local congr] aq aO aI au aH aC aw ak al aD aE
variable{E:aN}(M:a8 bn E)
structure mU (E:aN):Prop where
 strings_IndexAny:E.fn kr=some cu
 strings_IndexRune:E.fn fS=some fY
 strings_makeASCIISet:E.fn gF=some eD
 strings_asciiSet_contains:E.fn ez=some cV
 strings_shouldUseASCIISet:E.fn ey=some cU
 strings_IndexByte:E.fn fT=some ga
 internal_stringslite_IndexByte:E.fn bA=some b9
 strings_HasPrefix:E.fn eh=some fV
 internal_stringslite_HasPrefix:E.fn cZ=some b7
 strings_HasSuffix:E.fn jK=some fW
 internal_stringslite_HasSuffix:E.fn c9=some b8
 unicode_utf8_ValidRune:E.fn fE=some dH
 docs_marked:E.fn kb=some mA
 docs_written:E.fn iY=some oz
 truchmanref01_written:E.fn dU=some kF
 truchmanref01_marked:E.fn gC=some ln
def HU{α:Type}(p:α→Bool):Nat→α→Option AV:=fun i x=>sel (p x) (some (.int .i64 (i:Int))) none
def eV{α:Type}(p:α→Bool):Nat→List α→Int
 |_,[] => -1
 |i,x::l=>sel (p x) (i:Int) (eV p (i+1) l)
theorem wm{α:Type}(p:α→Bool):∀ (l:List α) (i:Nat) (H:List AObj),orE (ph (HU p) i l) H (some (.ret (.int .i64 (-1)),H))=some (.ret (.int .i64 (eV p i l)),H)
 |[],i,H=>rfl
 |x::l,i,H=>by
  rw [wT,HU,eV,Gj,Gi,DS,DT,DQ,wm p l];cases p x<;>rfl
def dw(c:UInt8):Bool:=(c == 62)||(c == 125)
def uy:List AV:=List.replicate 256 (.bool false)
theorem N5:List.replicate 256 (AV.bool false)=uy:=rfl
def LF:List AV:=bf uy 62 [.bool true]
def kE:List AV:=bf LF 125 [.bool true]
theorem JH(c:UInt8):kE[c.toNat]?=some (.bool (dw c)):=by
 have h:∀ n:Fin 256,kE[n.val]?=some (.bool (dw (UInt8.ofNat n.val))):=by
  intro n
  have:kE=(List.range 256).map fun n=>.bool (dw (UInt8.ofNat n)):=rfl
  rw [this,List.getElem?_map,List.getElem?_range n.isLt];rfl
 have:=h ⟨c.toNat,c.toNat_lt⟩;simpa using this
theorem JI:bf kE 0 kE=kE:=rfl
theorem LG:bf uy 0 kE=kE:=rfl
theorem JJ(id:Nat)(c:UInt8):EV 256 1 (.ptr id 0) (.int .u8 (c.toNat:Int))=some (.ptr id c.toNat):=by
 have:=c.toNat_lt;simp only [EV];rw [if_pos (by omega)];simp
theorem CD(hS:mU E){H:List AObj}{p:Nat}{T:TypeId}(hp:H[p]?=some (.cells kE T))(c:UInt8):M.run ez [.ptr p 0,.int .u8 c.toNat] H=some (.ret (.bool (dw c)),H):=by
 rw [aP M hS.strings_asciiSet_contains rfl (c:=eE) rfl,eE];have e:=JH c;have l0:bt none kE c.toNat=some (.bool (dw c)):=e;simp (maxSteps:=3000000) (maxDischargeDepth:=6) +contextual -implicitDefEqProofs only [amC M,↓amD,Nat.reduceBEq,Nat.reduceAdd,env,ao,nM,rnc,JJ,hp,l0]
theorem Gw{n:Nat}:∀ {l:List AV},(∀ v∈l,Wk n v v)→WkL n l l
 |[],_=>trivial
 |v::l,h=>⟨h v (List.mem_cons_self ..),Gw fun u hu=>h u (List.mem_cons_of_mem _ hu)⟩
theorem LI(n:Nat):Wk n (.agg kE) (.agg kE):=wk_agg (Gw fun v hv=>by
 have e:kE=(List.range 256).map fun n=>.bool (dw (UInt8.ofNat n)):=rfl
 rw [e] at hv;obtain ⟨m,_,rfl⟩:=List.mem_map.1 hv;exact wk_bool _ _)
theorem LJ(hS:mU E)(H:List AObj):M.run gF [.str [62,125]] H=some (.ret (.tuple [.agg kE,.bool true]),H):=by
 rw [aP M hS.strings_makeASCIISet rfl (c:=gJ) rfl,gJ];have a1:∀ id,EV 256 1 (.ptr id 0) (.int .u8 62)=some (.ptr id 62):=fun id=>JJ id 62
 have a2:∀ id,EV 256 1 (.ptr id 0) (.int .u8 125)=some (.ptr id 125):=fun id=>JJ id 125
 have s1:∀ T,stO 1 (H++[.cells uy T]) H.length 62 [.bool true] (some (.cells uy T))=some (H++[.cells LF T]):=fun T=>by
  simp only [stO];rw [if_pos ⟨rfl,by decide,rfl⟩,hp_set0];rfl
 have s2:∀ T,stO 1 (H++[.cells LF T]) H.length 125 [.bool true] (some (.cells LF T))=some (H++[.cells kE T]):=fun T=>by
  simp only [stO];rw [if_pos ⟨rfl,by decide,rfl⟩,hp_set0];rfl
 have s3:∀ T,stO 256 (H++[.cells kE T]) H.length 0 kE (some (.cells kE T))=some (H++[.cells kE T]):=fun T=>by
  simp only [stO];rw [if_pos ⟨rfl,by decide,rfl⟩,hp_set0,JI];rfl
 have l2:pS 256 kE=some kE:=rfl;have n0:decide ((0:Int)<(([62,125]:Str).length:Int))=true:=rfl;have n1:decide ((1:Int)<(([62,125]:Str).length:Int))=true:=rfl;have n2:decide ((2:Int)<(([62,125]:Str).length:Int))=false:=rfl;have w1:IntKind.i64.wrap (0+1)=1:=by decide
 have w2:IntKind.i64.wrap (1+1)=2:=by decide
 have c1:decide ((128:Int)≤62)=false:=rfl;have c2:decide ((128:Int)≤125)=false:=rfl;have hac:bC (.agg kE)=some kE:=rfl;have hac2:bC (.bool true)=some [.bool true]:=rfl;simp (maxSteps:=3000000) (maxDischargeDepth:=6) +contextual -implicitDefEqProofs only [amC M,↓amD,Nat.reduceBEq,Nat.reduceAdd,env,ao,qP,↓N5,aK M ki.eq_1,a1,a2,s1,s2,s3,l2,aF,List.getElem?_cons_zero,n0,n1,n2,(show ((UInt8.toNat 62:Nat):Int)=62 from rfl),(show ((UInt8.toNat 125:Nat):Int)=125 from rfl),List.getElem?_cons_succ,w1,w2,c1,c2,hac,hac2,(show ∀ H,n9 (some H)=some (cW,H) from fun _=>rfl),cut_app,hp_take,wk_tuple,LI,(show qw (.tuple [.agg kE,.bool true]) = .tuple [.agg kE,.bool true] from rfl)]
theorem zI(hS:mU E)(hX:tK M)(s:Str)(c:UInt8)(H:List AObj):M.run bA [.str s,.int .u8 c.toNat] H=some (.ret (.int .i64 (Lib.indexByte s c)),H):=by
 rw [aP M hS.internal_stringslite_IndexByte rfl (c:=dq) rfl,dq];simp (maxSteps:=3000000) (maxDischargeDepth:=6) +contextual -implicitDefEqProofs only [amC M,↓amD,Nat.reduceBEq,Nat.reduceAdd,env,ao,lr,hX.index]
theorem tW(hS:mU E)(hX:tK M)(s:Str)(c:UInt8)(H:List AObj):M.run fT [.str s,.int .u8 c.toNat] H=some (.ret (.int .i64 (Lib.indexByte s c)),H):=by
 have h1:=zI M hS hX s c H;rw [aP M hS.strings_IndexByte rfl (c:=jR) rfl,jR];simp (maxSteps:=3000000) (maxDischargeDepth:=6) +contextual -implicitDefEqProofs only [amC M,↓amD,Nat.reduceBEq,Nat.reduceAdd,env,ao,tA,h1]
def cX(s p:Str):Bool:=decide (p.length≤s.length)&&(s.take p.length == p)
theorem zJ(hS:mU E)(s p:Str)(H:List AObj):M.run cZ [.str s,.str p] H=some (.ret (.bool (cX s p)),H):=by
 rw [aP M hS.internal_stringslite_HasPrefix rfl (c:=dk) rfl,dk];cases hd:decide (p.length≤s.length) with
 |true=>
  have hle:p.length≤s.length:=of_decide_eq_true hd;simp (maxSteps:=3000000) (maxDischargeDepth:=6) +contextual -implicitDefEqProofs only [amC M,↓amD,Nat.reduceBEq,Nat.reduceAdd,env,ao,fA,cX,hd,FB hle]
 |false=>
  simp (maxSteps:=3000000) (maxDischargeDepth:=6) +contextual -implicitDefEqProofs only [amC M,↓amD,Nat.reduceBEq,Nat.reduceAdd,env,ao,fA,cX,hd]
theorem AT(hS:mU E)(s p:Str)(H:List AObj):M.run eh [.str s,.str p] H=some (.ret (.bool (cX s p)),H):=by
 have h1:=zJ M hS s p H;rw [aP M hS.strings_HasPrefix rfl (c:=jO) rfl,jO];simp (maxSteps:=3000000) (maxDischargeDepth:=6) +contextual -implicitDefEqProofs only [amC M,↓amD,Nat.reduceBEq,Nat.reduceAdd,env,ao,tt,h1]
def l9(s p:Str):Bool:=decide (p.length≤s.length)&&(s.drop (s.length-p.length) == p)
theorem AU(hS:mU E){s:Str}(hs:s.length≤bJ)(p:Str)(H:List AObj):M.run jK [.str s,.str p] H=some (.ret (.bool (l9 s p)),H):=by
 have h1:M.run c9 [.str s,.str p] H=some (.ret (.bool (l9 s p)),H):=by
  rw [aP M hS.internal_stringslite_HasSuffix rfl (c:=dm) rfl,dm];cases hd:decide (p.length≤s.length) with
  |true=>
   have hle:p.length≤s.length:=of_decide_eq_true hd
   have hw:IntKind.i64.wrap ((s.length:Int)-(p.length:Int))=((s.length-p.length:Nat):Int):=by
    simp only [bJ] at hs;rw [eJ (by omega) (by omega)];omega
   simp (maxSteps:=3000000) (maxDischargeDepth:=6) +contextual -implicitDefEqProofs only [amC M,↓amD,Nat.reduceBEq,Nat.reduceAdd,env,ao,fB,l9,hd,hw,sV (show s.length-p.length≤s.length by omega)]
  |false=>
   simp (maxSteps:=3000000) (maxDischargeDepth:=6) +contextual -implicitDefEqProofs only [amC M,↓amD,Nat.reduceBEq,Nat.reduceAdd,env,ao,fB,l9,hd]
 rw [aP M hS.strings_HasSuffix rfl (c:=jP) rfl,jP];simp (maxSteps:=3000000) (maxDischargeDepth:=6) +contextual -implicitDefEqProofs only [amC M,↓amD,Nat.reduceBEq,Nat.reduceAdd,env,ao,tw,h1]
def rI(r:Nat):Int:=sel (r == 62) 0 (sel (r == 125) 1 (-1))
theorem LL{r:Nat}(h:128≤r)(hr:r≤1114111)(hsur:¬ (55296≤r∧r≤57343)):(∃ a b:UInt8,(Utf8.encode (r:Int)).data.toList=[a,b]∧128≤b.toNat)∨(3≤(Utf8.encode (r:Int)).data.toList.length∧(Utf8.encode (r:Int)).data.toList.length≤4):=by
 by_cases c2:r<2048
 ·refine .inl ⟨_,_,Extern.FmtText.enc2 r (by omega) c2, ?_⟩
  simp;omega
 by_cases c3:r<65536
 ·rw [Extern.FmtText.enc3 r c2 c3 (by omega)];exact .inr ⟨by simp,by simp⟩
 ·rw [Extern.FmtText.enc4 r c3 hr];exact .inr ⟨by simp,by simp⟩
theorem AW(hS:mU E)(hX:tK M){r:Nat}(hr:r≤1114111)(hsur:¬ (55296≤r∧r≤57343))(H:List AObj):M.run fS [.str [62,125],.int .i32 (r:Int)] H=some (.ret (.int .i64 (rI r)),H):=by
 by_cases h1:r<128
 ·have hb:((UInt8.ofNat r).toNat:Int)=(r:Int):=by simp;omega
  have h2:=tW M hS hX [62,125] (UInt8.ofNat r) H;rw [hb] at h2
  have hI:Lib.indexByte [62,125] (UInt8.ofNat r)=rI r:=by
   have:∀ n:Fin 128,Lib.indexByte [62,125] (UInt8.ofNat n.val)=rI n.val:=by decide
   exact this ⟨r,h1⟩
  rw [hI] at h2;have d1:decide ((0:Int)≤(r:Int))=true:=decide_eq_true (by omega);have d2:decide ((r:Int)<128)=true:=decide_eq_true (by omega)
  have hw:IntKind.u8.wrap (r:Int)=(r:Int):=by
   have:∀ n:Fin 128,IntKind.u8.wrap ((n.val:Nat):Int)=(n.val:Int):=by decide
   exact this ⟨r,h1⟩
  rw [aP M hS.strings_IndexRune rfl (c:=bO) rfl,bO];simp (maxSteps:=3000000) (maxDischargeDepth:=6) +contextual -implicitDefEqProofs only [amC M,↓amD,Nat.reduceBEq,Nat.reduceAdd,env,ao,fZ,d1,d2,KL,hw,h2]
 ·have d1:decide ((0:Int)≤(r:Int))=true:=decide_eq_true (by omega)
  have d2:decide ((r:Int)<128)=false:=decide_eq_false (by omega)
  have hI:rI r = -1:=by
   have e1:(r == 62)=false:=by simp;omega
   have e2:(r == 125)=false:=by simp;omega
   rw [rI,e1,e2];rfl
  rw [hI]
  by_cases h3:r=65533
  ·subst h3
   rw [aP M hS.strings_IndexRune rfl (c:=bO) rfl,bO];have c0:Utf8.decode ⟨([62,125]:Str).toArray⟩ 0=(62,1):=by decide
   have c1:Utf8.decode ⟨([62,125]:Str).toArray⟩ 1=(125,1):=by decide
   have e3:(((65533:Nat):Int) == 65533)=true:=rfl;simp (maxSteps:=3000000) (maxDischargeDepth:=6) +contextual -implicitDefEqProofs only [amC M,↓amD,Nat.reduceBEq,Nat.reduceAdd,env,ao,fZ,amG,AV.cell,Nat.reduceMul,Nat.reduceLeDiff,d1,d2,e3,aK M lP.eq_1,oY,rrg,aF,hp_set0,c0,c1,(show ((0:Nat)<2)=True by simp),(show ((1:Nat)<2)=True by simp),(show ((2:Nat)<2)=False by simp),(show (((62:Nat):Int) == 65533)=false from rfl),(show (((125:Nat):Int) == 65533)=false from rfl),aT,List.getElem?_cons_zero,List.getElem?_cons_succ,cut_app,hp_take]
  ·have e3:((r:Int) == 65533)=false:=by simp;omega
   have hv:∀ H,M.run fE [.int .i32 (r:Int)] H=some (.ret (.bool true),H):=fun H=>by
    rw [aP M hS.unicode_utf8_ValidRune rfl (c:=fL) rfl,fL]
    by_cases h5:r<55296
    ·have v2:decide ((r:Int)<55296)=true:=decide_eq_true (by omega)
     simp (maxSteps:=3000000) (maxDischargeDepth:=6) +contextual -implicitDefEqProofs only [amC M,↓amD,Nat.reduceBEq,Nat.reduceAdd,env,ao,kj,d1,v2]
    ·have v2:decide ((r:Int)<55296)=false:=decide_eq_false (by omega)
     have v3:decide ((57343:Int)<(r:Int))=true:=decide_eq_true (by omega);have v4:decide ((r:Int)≤1114111)=true:=decide_eq_true (by omega);simp (maxSteps:=3000000) (maxDischargeDepth:=6) +contextual -implicitDefEqProofs only [amC M,↓amD,Nat.reduceBEq,Nat.reduceAdd,env,ao,kj,d1,v2,v3,v4]
   rcases LL (r:=r) (by omega) hr hsur with ⟨a,b,he,hb⟩ | ⟨hl,hl4⟩
   ·have w1:IntKind.i64.wrap ((([a,b]:Str).length:Int)-1)=1:=rfl
    have n1:decide ((1:Int)<(([62,125]:Str).length:Int))=true:=rfl;have w2:IntKind.i64.wrap (1+1)=2:=rfl
    have hne:((125:UInt8).toNat == b.toNat)=false:=by
     have:(125:UInt8).toNat=125:=rfl
     rw [this,beq_eq_false_iff_ne];omega
    have hib:=tW M hS hX [] b H;have hs:w7 (.str [62,125]) (some (.int .i64 2)) none=some (.str []):=rfl;have hlt:decide ((-1:Int)<0)=true:=rfl;rw [aP M hS.strings_IndexRune rfl (c:=bO) rfl,bO];simp (maxSteps:=3000000) (maxDischargeDepth:=6) +contextual -implicitDefEqProofs only [amC M,↓amD,Nat.reduceBEq,Nat.reduceAdd,env,ao,fZ,d1,d2,e3,hv,EW,he,w1,w2,n1,hne,hs,hib,(show Lib.indexByte [] b = -1 from rfl),hlt,List.getElem?_cons_zero,List.getElem?_cons_succ,aK M iC.eq_1]
   ·obtain ⟨e,he⟩:∃ e,(Utf8.encode (r:Int)).data.toList=e:=⟨_,rfl⟩
    rw [he] at hl hl4;have w1:IntKind.i64.wrap ((e.length:Int)-1)=((e.length-1:Nat):Int):=by rw [eJ (by omega) (by omega)];omega
    have n1:decide (e.length-1<([62,125]:Str).length)=false:=decide_eq_false (by simp;omega);rw [aP M hS.strings_IndexRune rfl (c:=bO) rfl,bO];simp (maxSteps:=3000000) (maxDischargeDepth:=6) +contextual -implicitDefEqProofs only [amC M,↓amD,Nat.reduceBEq,Nat.reduceAdd,env,ao,fZ,d1,d2,e3,hv,EW,he,w1,n1,aK M iC.eq_1]
end
section
attribute [local congr] aq aO aI au aH aC aw ak al aD aE
variable{E:aN}(M:a8 bn E)
theorem JK{c:UInt8}(h:128≤c.toNat):dw c=false:=by
 unfold dw;rw [Bool.or_eq_false_iff];constructor<;>(rw [beq_eq_false_iff_ne];rintro rfl;revert h;decide)
theorem Gx{c:UInt8}{t:Str}(h:128≤c.toNat):128≤(aW (c::t)).1∧(aW (c::t)).1≤1114111∧¬ (55296≤(aW (c::t)).1∧(aW (c::t)).1≤57343)∧∀ j,j<(aW (c::t)).2→128≤((c::t).getD j 0).toNat:=by
 have k0:=c.toNat_lt;have k1:=((c::t).getD 1 0).toNat_lt;have k2:=((c::t).getD 2 0).toNat_lt;have k3:=((c::t).getD 3 0).toNat_lt;have g0:(c::t).getD 0 0=c:=rfl;unfold aW;rw [Lib.decodeL_N,g0];rcases Lib.decodeN_shape (c::t).length c.toNat ((c::t).getD 1 0).toNat ((c::t).getD 2 0).toNat ((c::t).getD 3 0).toNat with ⟨c,e⟩ | ⟨c1,c2,c3,cv,e⟩ | ⟨c1,c2,c3,c4,cv,cs,e⟩ | ⟨c1,c2,c3,c4,c5,cv,cw,e⟩ | e
 ·omega
 ·rw [e]
  refine ⟨by dsimp only;omega,by dsimp only;omega,by dsimp only;omega,fun j hj => ?_⟩;dsimp only at hj;obtain rfl | rfl:j=0∨j=1:=by omega
  ·rw [g0];exact h
  ·omega
 ·rw [e]
  refine ⟨by dsimp only;omega,by dsimp only;omega,by dsimp only;omega,fun j hj => ?_⟩;dsimp only at hj;obtain rfl | rfl | rfl:j=0∨j=1∨j=2:=by omega
  ·rw [g0];exact h
  ·omega
  ·omega
 ·rw [e]
  refine ⟨by dsimp only;omega,by dsimp only;omega,by dsimp only;omega,fun j hj => ?_⟩;dsimp only at hj;obtain rfl | rfl | rfl | rfl:j=0∨j=1∨j=2∨j=3:=by omega
  ·rw [g0];exact h
  ·omega
  ·omega
  ·omega
 ·rw [e]
  refine ⟨by decide,by decide,by decide,fun j hj => ?_⟩;dsimp only at hj;obtain rfl:j=0:=by omega
  rw [g0];exact h
theorem CE{c:UInt8}{t:Str}(h:c.toNat<128):aW (c::t)=(c.toNat,1):=by
 unfold aW;rw [Lib.decodeL_N];simp [Lib.decodeN,h]
theorem Bv{p:UInt8→Bool}:∀ (w:Nat) (l:Str) (i:Nat),w≤l.length→(∀ j,j<w→p (l.getD j 0)=false)→eV p i l=eV p (i+w) (l.drop w)
 |0,l,i,_,_=>by simp
 |w+1,[],i,h,_=>by simp at h
 |w+1,c::t,i,h,hp=>by
  have h0:p c=false:=hp 0 (by omega);rw [eV,h0,List.drop_succ_cons,show i+(w+1)=i+1+w by omega];exact Bv w t (i+1) (by simpa using h) fun j hj=>by simpa using hp (j+1) (by omega)
theorem JL{s:Str}(h:s≠[])(i:Nat):eV dw i s=sel (decide ((0:Int)≤rI (aW s).1)) (i:Int) (eV dw (i+(aW s).2) (s.drop (aW s).2)):=by
 cases s with
 |nil=>exact absurd rfl h
 |cons c t=>
  by_cases hc:c.toNat<128
  ·rw [CE hc]
   have:decide ((0:Int)≤rI c.toNat)=dw c:=by
    have h2:∀ n:Fin 128,decide ((0:Int)≤rI n.val)=dw (UInt8.ofNat n.val):=by decide
    have:=h2 ⟨c.toNat,hc⟩;simpa using this
   rw [this];simp only [eV,List.drop_succ_cons,List.drop_zero]
  ·obtain ⟨h1,h2,h3,h4⟩:=Gx (c:=c) (t:=t) (by omega)
   have hr:decide ((0:Int)≤rI (aW (c::t)).1)=false:=by
    have e1:((aW (c::t)).1 == 62)=false:=by simp;omega
    have e2:((aW (c::t)).1 == 125)=false:=by simp;omega
    rw [rI,e1,e2];rfl
   rw [hr,sel_false];exact Bv _ _ _ (tf h) fun j hj=>JK (h4 j hj)
theorem ia0{H H0:List AObj}(hS:mU E){s:Str}(hs:s.length≤bJ){p:Nat}{T:TypeId}(hp:H[p]?=some (.cells kE T))(hc:cY H0 H)(k:List Fra):∀ (n i:Nat) (He:List AObj),i+n=s.length →
  M.go cu H0 (.c dQ :: .lp ⟨(some [0,6,8]),[],false⟩ dQ He :: .blk 0 :: .c (.lv [])::k) (kv [(0,.str s),(6,.ptr p 0),(8,.int .i64 i)]) H =
   orE (ph (HU dw) i (s.drop i)) (H.take H0.length) (M.go cu H0 k .leaf H)
 |0,i,He,h=>by
  have e:i=s.length:=by omega
  subst e;rw [aK M dQ.eq_1];simp (maxSteps:=3000000) (maxDischargeDepth:=6) +contextual -implicitDefEqProofs only [amC M,↓amD,Nat.reduceBEq,Nat.reduceAdd,env,ao,bW,Nat.lt_irrefl,List.drop_length]
 |n+1,i,He,h=>by
  have hi:i<s.length:=by omega
  have hx:s[i]?=some s[i]:=List.getElem?_eq_getElem hi;have hd:(s.drop i)=s[i]::s.drop (i+1):=List.drop_eq_getElem_cons hi;have hm:s[i]∈s:=List.getElem_mem hi;have ih:=fun He=>ia0 (H:=H) (H0:=H0) (hS:=hS) (s:=s) (hs:=hs) (p:=p) (T:=T) (hp:=hp) hc k n (i+1)  He (by omega)
  simp only [kv_cons,kv_nil] at ih;rw [aK M dQ.eq_1];simp (maxSteps:=3000000) (maxDischargeDepth:=6) +contextual -implicitDefEqProofs only [amC M,↓amD,Nat.reduceBEq,Nat.reduceAdd,env,ao,bW,hx,hd,hi,ih,CD M hS hp,jJ hi hs,HU,hc]
theorem ia1(hS:mU E)(hX:tK M){s:Str}(hs:s.length≤bJ){H0:List AObj}(k:List Fra):∀ (n i:Nat) (He:List AObj),s.length-i≤n→i≤s.length →
  M.go cu H0 (.c ct :: .lp ⟨(some [1,45]),[],false⟩ ct He :: .blk 2 :: .c (.lv [])::k) (kv [(1,.str [62,125]),(45,.ptr H0.length 0)]) (H0++[.siter s i]) =
   sel (decide ((0:Int)≤eV dw i (s.drop i))) (some (.ret (.int .i64 (eV dw i (s.drop i))),H0)) (M.go cu H0 k .leaf (H0++[.siter s s.length]))
 |0,i,He,h,hi=>by
  obtain rfl:i=s.length:=by omega
  rw [List.drop_length];have e:decide ((0:Int)≤eV dw s.length [])=false:=rfl;rw [aK M ct.eq_1];simp (maxSteps:=3000000) (maxDischargeDepth:=6) +contextual -implicitDefEqProofs only [amC M,↓amD,Nat.reduceBEq,Nat.reduceAdd,env,ao,bW,oY,aF,List.getElem?_cons_zero,Nat.lt_irrefl,aT,e]
 |n+1,i,He,h,hi=>by
  by_cases hlt:i<s.length
  ·have hne:s.drop i≠[]:=fun e=>by have:=congrArg List.length e;simp at this;omega
   have hw:=l6 (s.drop i);have hle:=tf hne;rw [List.length_drop] at hle;have ih:=fun He=>ia1 hS hX hs (H0:=H0) k n (i+(aW (s.drop i)).2) He (by omega) (by omega)
   rw [← List.drop_drop] at ih;have hstep:=JL hne i
   have hru:(aW (s.drop i)).1≤1114111∧¬ (55296≤(aW (s.drop i)).1∧(aW (s.drop i)).1≤57343):=by
    cases hd:s.drop i with
    |nil=>exact absurd hd hne
    |cons c t=>
     by_cases hc:c.toNat<128
     ·rw [CE hc];exact ⟨by dsimp only;omega,by dsimp only;omega⟩
     ·obtain ⟨_,h2,h3,_⟩:=Gx (c:=c) (t:=t) (by omega)
      exact ⟨h2,h3⟩
   have hI:=fun H=>AW M hS hX hru.1 hru.2 H
   have hdd:Utf8.decode ⟨s.toArray⟩ i=aW (s.drop i):=wi s i;simp only [kv_cons,kv_nil] at ih;generalize aW (s.drop i)=d at *
   cases hpos:decide ((0:Int)≤rI d.1) with
   |true=>
    have hv:eV dw i (s.drop i)=(i:Int):=by rw [hstep,hpos];rfl
    have e0:decide ((0:Int)≤(i:Int))=true:=decide_eq_true (by omega);rw [hv,e0,sel_true];rw [aK M ct.eq_1];simp (maxSteps:=3000000) (maxDischargeDepth:=6) +contextual -implicitDefEqProofs only [amC M,↓amD,Nat.reduceBEq,Nat.reduceAdd,env,ao,bW,amG,AV.cell,Nat.reduceMul,Nat.reduceLeDiff,oY,aF,hp_set0,hlt,hdd,aT,List.getElem?_cons_succ,hI,hpos,cut_app,hp_take]
   |false=>
    have hv:eV dw i (s.drop i)=eV dw (i+d.2) ((s.drop i).drop d.2):=by rw [hstep,hpos];rfl
    rw [hv];rw [aK M ct.eq_1];simp (maxSteps:=3000000) (maxDischargeDepth:=6) +contextual -implicitDefEqProofs only [amC M,↓amD,Nat.reduceBEq,Nat.reduceAdd,env,ao,bW,amG,AV.cell,Nat.reduceMul,Nat.reduceLeDiff,oY,aF,hp_set0,hlt,hdd,aT,List.getElem?_cons_succ,hI,hpos,ih]
  ·obtain rfl:i=s.length:=by omega
   rw [List.drop_length];have e:decide ((0:Int)≤eV dw s.length [])=false:=rfl;rw [aK M ct.eq_1];simp (maxSteps:=3000000) (maxDischargeDepth:=6) +contextual -implicitDefEqProofs only [amC M,↓amD,Nat.reduceBEq,Nat.reduceAdd,env,ao,bW,oY,aF,List.getElem?_cons_zero,Nat.lt_irrefl,aT,e]
theorem Gy{α:Type}(p:α→Bool):∀ (l:List α) (i:Nat),decide ((0:Int)≤eV p i l)=false→eV p i l = -1
 |[],_,_=>rfl
 |x::l,i,h=>by
  rw [eV] at h ⊢;cases hx:p x with
  |true=>rw [hx] at h;simp [sel] at h
  |false=>rw [hx] at h;exact Gy p l (i+1) h
theorem CF(hS:mU E)(hX:tK M){s:Str}(hs:s.length≤bJ)(H:List AObj):M.run kr [.str s,.str [62,125]] H=some (.ret (.int .i64 (eV dw 0 s)),H):=by
 have h8:∀ H,M.run ey [.int .i64 (s.length:Int)] H=some (.ret (.bool (decide ((8:Int)<(s.length:Int)))),H):=fun H=>by
  rw [aP M hS.strings_shouldUseASCIISet rfl (c:=eC) rfl,eC];simp (maxSteps:=3000000) (maxDischargeDepth:=6) +contextual -implicitDefEqProofs only [amC M,↓amD,Nat.reduceBEq,Nat.reduceAdd,env,ao,nL]
 have e1:(([62,125]:Str) == [])=false:=rfl;have e2:(((([62,125]:Str).length:Nat):Int) == 1)=false:=rfl;have hmk:=LJ M hS;rw [aP M hS.strings_IndexAny rfl (c:=ky) rfl,ky];cases hb:decide ((8:Int)<(s.length:Int)) with
 |true=>
  rw [hb] at h8;have hl:=fun k He=>ia0 M (H:=H++[.cells kE cM]) (H0:=H) hS hs (p:=H.length) (T:=cM) (by rw [aF];rfl) (cut_app H _) k s.length 0 He (by omega)
  simp only [kv_cons,kv_nil,Int.ofNat_zero,List.drop_zero,hp_take] at hl
  have hst:stO 256 (H++[.cells uy cM]) H.length 0 kE (some (.cells uy cM))=some (H++[.cells kE cM]):=by
   simp only [stO];rw [if_pos ⟨rfl,by decide,rfl⟩,hp_set0,LG];rfl
  have hac:bC (.agg kE)=some kE:=rfl;simp (maxSteps:=3000000) (maxDischargeDepth:=6) +contextual -implicitDefEqProofs only [amC M,↓amD,Nat.reduceBEq,Nat.reduceAdd,env,ao,bW,↓N5,e1,e2,h8,hmk,hac,hst,aF,List.getElem?_cons_zero,(show ∀ H,n9 (some H)=some (cW,H) from fun _=>rfl),hl,cut_app,hp_take];exact wm _ _ _ _
 |false=>
  rw [hb] at h8;have hl:=fun k He=>ia1 M hS hX hs (H0:=H) k s.length 0 He (by omega) (by omega)
  simp only [kv_cons,kv_nil,Int.ofNat_zero,List.drop_zero] at hl;cases hp:decide ((0:Int)≤eV dw 0 s) with
  |true=>
   rw [hp] at hl;simp (maxSteps:=3000000) (maxDischargeDepth:=6) +contextual -implicitDefEqProofs only [amC M,↓amD,Nat.reduceBEq,Nat.reduceAdd,env,ao,bW,e1,e2,h8,rrg,hl]
  |false=>
   rw [hp] at hl;rw [Gy _ _ _ hp];simp (maxSteps:=3000000) (maxDischargeDepth:=6) +contextual -implicitDefEqProofs only [amC M,↓amD,Nat.reduceBEq,Nat.reduceAdd,env,ao,bW,e1,e2,h8,rrg,hl,cut_app,hp_take]
end
section
attribute [local congr] aq aO aI au aH aC aw ak al aD aE
variable{E:aN}(M:a8 bn E)
def tL(l:List Str):List AV:=l.map .str
def sW(b:Nat)(G:List AObj)(v:AV)(st:List Str):Prop:=
 (st=[]∧v = .slice .nil 1 [])∨∃ (id:Nat) (junk:List AV),b≤id∧v = .rslice id 0 st.length 1 true∧G[id]?=some (.cells (tL st.reverse++junk) aG)
theorem qb(l:List Str):(tL l).length=l.length:=by simp [tL]
theorem zK(l m:List Str):tL (l++m)=tL l++tL m:=by simp [tL]
theorem ma(s:Str):ub 1 [[.str s]]=true:=rfl
theorem JM{b:Nat}{G:List AObj}{v:AV}{st:List Str}(h:sW b G v st)(hb:b≤G.length)(hl:st.length≤1000000)(s:Str) :
  ∃ v' G',rap true G aG 1 16 false v (.slice .full 1 [[.str s]])=some (v',G')∧sW b G' v' (s::st)∧G.length≤G'.length∧∀ i,i<b→G'[i]?=G[i]? := by
 rcases h with ⟨rfl,rfl⟩ | ⟨id,junk,hid,rfl,hg⟩
 ·refine ⟨.rslice G.length 0 1 1 true,G++[.cells [.str s] aG], ?_,.inr ⟨G.length,[],hb,rfl,by rw [aF];rfl⟩,by simp,fun i hi=>List.getElem?_append_left (by omega)⟩
  simp only [rap,n8,tl,or_true,if_true,ma];rw [if_pos (by simp)];rfl
 ·have hlt:=bp hg
  have hlen:st.length*1≤(tL st.reverse++junk).length:=by rw [List.length_append,qb,List.length_reverse];omega
  refine ⟨.rslice G.length 0 (st.length+1) 1 true,G.set id .dead++[.cells (tL (s::st).reverse) aG], ?_,.inr ⟨G.length,[],hb,rfl, ?_⟩,by simp,fun i hi => ?_⟩
  ·simp only [rap,n8,tl,or_true,if_true,ma,hg]
   rw [if_pos ⟨trivial,trivial,hlen,by simp;omega,by simp;omega⟩];simp only [Nat.mul_one];rw [List.take_left' (by rw [qb,List.length_reverse]),List.reverse_cons,zK];rfl
  ·rw [List.append_nil,show G.length=(G.set id .dead).length by simp,aF];rfl
  ·rw [List.getElem?_append_left (by simp;omega),List.getElem?_set_ne (by omega)]
theorem th{b:Nat}{G:List AObj}{v:AV}{st:List Str}(h:sW b G v st)(H:List AObj):o9 H .sl v=some (.int .i64 (st.length:Int)):=by
 rcases h with ⟨rfl,rfl⟩ | ⟨id,junk,hid,rfl,hg⟩<;>rfl
theorem Gz{b:Nat}{G:List AObj}{v:AV}{x:Str}{st:List Str}(h:sW b G v (x::st)) :
  (∃ p o cs,sj 1 v (.int .i64 (st.length:Int))=some (.ptr p o)∧b≤p∧G[p]?=some (.cells cs aG)∧bt none cs o=some (.str x))∧∃ v',Iv 1 v none (some (.int .i64 (st.length:Int))) none=some v'∧sW b G v' st:=by
 rcases h with ⟨h,_⟩ | ⟨id,junk,hid,rfl,hg⟩
 ·cases h
 have e:tL (x::st).reverse++junk=tL st.reverse++(.str x::junk):=by rw [List.reverse_cons,zK,List.append_assoc];rfl
 have hl:(tL st.reverse).length=st.length:=by rw [qb,List.length_reverse]
 refine ⟨⟨id,0+st.length*1,_, ?_,hid,hg, ?_⟩,.rslice id 0 st.length 1 true, ?_,.inr ⟨id,.str x::junk,hid,rfl,by rw [hg,e]⟩⟩
 ·simp only [sj]
  rw [if_pos ⟨trivial,by omega,by simp;omega⟩];simp
 ·simp only [bt,e,Nat.zero_add,Nat.mul_one]
  rw [List.getElem?_append_right (by omega),hl,Nat.sub_self];rfl
 ·have h1:cL (some (.int .i64 (st.length:Int))) (x::st).length=some st.length:=by simp [cL]
  simp only [Iv,h1,(show cL none 0=some 0 from rfl)];cases st with
  |nil=>rfl
  |cons y t=>rw [if_pos (by simp)];simp
theorem sW.stay{b:Nat}{G G':List AObj}{v:AV}{st:List Str}(h:sW b G v st)(hs:∀ i,b≤i→i<G.length→G'[i]?=G[i]?):sW b G' v st:=by
 rcases h with ⟨rfl,rfl⟩ | ⟨id,junk,hid,rfl,hg⟩
 ·exact .inl ⟨rfl,rfl⟩
 ·exact .inr ⟨id,junk,hid,rfl,by rw [hs id hid (bp hg)];exact hg⟩
theorem JN(hB:lG E){b p:Nat}{G:List AObj}{v:AV}{T:TypeId}{st:List Str}(hp:G[p]?=some (.cells [v] T))(hpb:p<b)(hb:b≤G.length)(h:sW b G v st)(hl:st.length≤1000000)(s:Str) :
  ∃ v' G',M.run fD [.ptr p 0,.str s] G=some (.ret (.tuple []),G')∧G'[p]?=some (.cells [v'] T)∧sW b G' v' (s::st)∧But b p G G':=by
 obtain ⟨v',G1,h1,h2,h3,h4⟩:=JM h hb hl s;have hp1:G1[p]?=some (.cells [v] T):=by rw [h4 p hpb];exact hp
 have hlt:=bp hp1;refine ⟨v',G1.set p (.cells [v'] T), ?_,List.getElem?_set_self hlt,h2.stay fun i hi _=>by rw [List.getElem?_set_ne (by omega)],by simpa using h3,fun i hi hne=>by rw [List.getElem?_set_ne (by omega)];exact h4 i hi⟩;rw [aP M hB.docs_stack_string_push rfl (c:=fJ) rfl,fJ]
 have hcell:v'.cell=true:=by
  rcases h2 with ⟨h,_⟩ | ⟨id,_,_,rfl,_⟩
  ·cases h
  ·rfl
 have hac:bC v'=some [v']:=by
  rcases h2 with ⟨h,_⟩ | ⟨id,_,_,rfl,_⟩
  ·cases h
  ·rfl
 have l0:∀ x:AV,bt none [x] 0=some x:=fun _=>rfl
 have s0:∀ x y:AV,bf [x] 0 [y]=[y]:=fun _ _=>rfl
 have hst:stO 1 G1 p 0 [v'] (some (.cells [v] T))=some (G1.set p (.cells [v'] T)):=by
  simp only [stO];rw [if_pos ⟨rfl,by simp,by simp [hcell]⟩];rfl
 simp (maxSteps:=3000000) (maxDischargeDepth:=6) +contextual -implicitDefEqProofs only [amC M,↓amD,Nat.reduceBEq,Nat.reduceAdd,env,ao,pB,amG,AV.cell,Nat.reduceMul,Nat.reduceLeDiff,rnc,hp,l0,s0,h1,hp1,hac,hst,(show ∀ H,n9 (some H)=some (cW,H) from fun _=>rfl)]
def uz(st:List Str)(s:Str):Bool:=match st with
 |[]=>false
 |x::_=>x == s
theorem LM(hB:lG E){b p:Nat}{G:List AObj}{v:AV}{T:TypeId}{st:List Str}(hp:G[p]?=some (.cells [v] T))(hpb:p<b)(hb:b≤G.length)(h:sW b G v st)(hl:st.length≤1000000)(s:Str) :
  ∃ v' G',M.run gh [.ptr p 0,.str s] G=some (.ret (.bool (uz st s)),G')∧G'[p]?=some (.cells [v'] T)∧sW b G' v' (if uz st s=true then st.tail else st)∧G'.length=G.length∧∀ i,i≠p→G'[i]?=G[i]? := by
 have hlt:=bp hp;have l0:∀ x:AV,bt none [x] 0=some x:=fun _=>rfl
 have s0:∀ x y:AV,bf [x] 0 [y]=[y]:=fun _ _=>rfl
 have hlen:=th h;cases st with
 |nil=>
  refine ⟨v,G, ?_,hp,h,rfl,fun _ _=>rfl⟩;rw [aP M hB.docs_stack_string_pop rfl (c:=bS) rfl,bS];have hlen0:∀ H,o9 H .sl v=some (.int .i64 0):=hlen;simp (maxSteps:=3000000) (maxDischargeDepth:=6) +contextual -implicitDefEqProofs only [amC M,↓amD,Nat.reduceBEq,Nat.reduceAdd,env,ao,gk,rnc,hp,l0,hlen0,uz,beq_self_eq_true,cut_refl,hp_self]
 |cons x st=>
  obtain ⟨⟨q,o,cs,t1,t2,t3,t3'⟩,v',t4,t5⟩:=Gz h
  have hw:IntKind.i64.wrap ((((x::st).length:Nat):Int)-1)=(st.length:Int):=by
   simp only [List.length_cons] at hl ⊢;rw [eJ (by omega) (by omega)];omega
  have h0:((((x::st).length:Nat):Int) == 0)=false:=by simp;omega
  have hw2:IntKind.i64.wrap (((st.length+1:Nat):Int)-1)=(st.length:Int):=hw;have h02:(((st.length+1:Nat):Int) == 0)=false:=h0;cases hx:x == s with
  |false=>
   refine ⟨v,G, ?_,hp,by rw [uz,hx];exact h,rfl,fun _ _=>rfl⟩;rw [aP M hB.docs_stack_string_pop rfl (c:=bS) rfl,bS];simp (maxSteps:=3000000) (maxDischargeDepth:=6) +contextual -implicitDefEqProofs only [amC M,↓amD,Nat.reduceBEq,Nat.reduceAdd,env,ao,gk,rnc,hp,l0,hlen,uz,hw,h0,hw2,h02,t1,t3,t3',hx,cut_refl,hp_self]
  |true=>
   refine ⟨v',G.set p (.cells [v'] T), ?_,List.getElem?_set_self hlt,by rw [uz,hx];exact t5.stay fun i hi _=>by rw [List.getElem?_set_ne (by omega)],by simp,fun i hne=>by rw [List.getElem?_set_ne (by omega)]⟩
   have hcell:v'.cell=true∧bC v'=some [v']∧Wk G.length v' v':=by
    rcases t5 with ⟨_,rfl⟩ | ⟨id,_,_,rfl,hg⟩
    ·exact ⟨rfl,rfl,wk_slice trivial (qz _)⟩
    ·exact ⟨rfl,rfl,wk_rslice (bp hg)⟩
   have hwk:Dv G.length (.cells [v'] T):=by
    intro c hc;simp at hc;subst hc;exact hcell.2.2
   rw [aP M hB.docs_stack_string_pop rfl (c:=bS) rfl,bS]
   have hst:stO 1 G p 0 [v'] (some (.cells [v] T))=some (G.set p (.cells [v'] T)):=by
    simp only [stO];rw [if_pos ⟨rfl,by simp,by simp [hcell.1]⟩];rfl
   simp (maxSteps:=3000000) (maxDischargeDepth:=6) +contextual -implicitDefEqProofs only [amC M,↓amD,Nat.reduceBEq,Nat.reduceAdd,env,ao,gk,amG,AV.cell,Nat.reduceMul,Nat.reduceLeDiff,rnc,hp,l0,s0,hlen,uz,hw,h0,hw2,h02,t1,t3,t3',t4,hx,hst,(show ∀ H,n9 (some H)=some (cW,H) from fun _=>rfl),hcell.2.1,Ec hwk];rw [List.take_of_length_le (by simp)]
end
section
attribute [local congr] aq aO aI au aH aC aw ak al aD aE
variable{E:aN}(M:a8 bn E)
def rU(x:ah):Bool:=decide (x.kind<1)||decide (5<x.kind)
def wq(x:ah):Bool:=x.car && !(x.kind == 2) && !(x.kind == 3)
def CG(p:Bool)(x:ah):Bool:=(x.kind == 1)&&((x.text == []) || !kG x.text||p)
def xK(x:ah):Bool := !(x.kind == 1) && !kH x.text
def stP(x:ah)(st:List Str):List Str:=if (x.kind == 3)=true then st.tail else st
def vl:List ah→Bool→Bool→Bool→List Str→Int
 |[],_,_,_,st=>sel (decide ((0:Int)<(st.length:Int))) 9 0
 |x :: l,p,b,e,st=>sel (rU x) 1 (sel (wq x) 1 (sel (CG p x) 4 (sel (xK x) 5 (sel (iI b e x) (sel ((x.kind == 3) && !uz st x.text) 9
    (sel (x.kind == 2) (sel (decide ((16:Int)<((x.text::stP x st).length:Int))) 3 (vl l (x.kind == 1) (b || !bB x) (e||aV x) (x.text::stP x st)))
     (vl l (x.kind == 1) (b || !bB x) (e||aV x) (stP x st)))) 8))))
def dP:ah:=⟨0,[],false⟩
def o7(l:List ah)(i:Nat):Bool:=decide ((0:Int)<(i:Int))&&((l.getD (i-1) dP).kind == 1)
theorem zL{l:List ah}{i:Nat}{x:ah}(h:l[i]?=some x):o7 l (i+1)=(x.kind == 1):=by
 have h1:decide ((0:Int)<((i+1:Nat):Int))=true:=decide_eq_true (by omega);simp [o7,h1,List.getD,h]
theorem zM(l:List ah):o7 l 0=false:=rfl
abbrev Ed(l:List ah):Prop:=∀ x∈l,x.text.length≤70368744177664
theorem ckl(hB:lG E)(hX:wk M){l:List ah}{tg:Tag}(hl:l.length≤1000000)(ht:Ed l){H0:List AObj}{bd p c:Nat}(hp0:H0.length≤p)(hc0:H0.length≤c)(hpb:p<bd)(hcb:c<bd)(hpc:p≠c){k:List Fra}
  (hk:∀ (G:List AObj) (v:AV) (st:List Str),G[p]?=some (.cells [v] ej)→sW bd G v st→Pre H0 G→M.go dG H0 k (kv [(3,.ptr p 0)]) G=some (.ret (.int .u8 (sel (decide ((0:Int)<(st.length:Int))) 9 0)),H0)) :
  ∀ (n i:Nat) (G He:List AObj) (v:AV) (st:List Str) (b e:Bool),i+n=l.length→Pre H0 G→bd≤G.length→G[p]?=some (.cells [v] ej)→G[c]?=some (.cells [.bool b,.bool e] bQ)→sW bd G v st→st.length≤16 →
  M.go dG H0 (.c aQ :: .lp ⟨(some [0,3,4,10,11,12]),[],false⟩ aQ He :: .blk 0 :: .c (.lv [3])::k) (kv [(0,.slice tg 3 (l.map ah.row)),(3,.ptr p 0),(4,.ptr c 0),(10,.slice tg 3 (l.map ah.row)),(11,.int .i64 l.length),(12,.int .i64 i)]) G =
   some (.ret (.int .u8 (vl (l.drop i) (o7 l i) b e st)),H0):=by
 intro n;induction n with
 |zero=>
  intro i G He v st b e h hP hb hgp hgc hst h16;obtain rfl:i=l.length:=by omega
  rw [List.drop_length,vl];have hk1:=hk G v st hgp hst hP;simp only [kv_cons,kv_nil] at hk1;rw [aK M aQ.eq_1];simp (maxSteps:=3000000) (maxDischargeDepth:=6) +contextual -implicitDefEqProofs only [amC M,↓amD,Nat.reduceBEq,Nat.reduceAdd,env,ao,aU,Nat.lt_irrefl,hk1]
 |succ n IH=>
  intro i G He v st b e h hP hb hgp hgc hst h16;have hi:i<l.length:=by omega
  have hx:l[i]?=some l[i]:=List.getElem?_eq_getElem hi;have hd:l.drop i=l[i]::l.drop (i+1):=List.drop_eq_getElem_cons hi;have htx:=ht _ (List.getElem_mem hi);have hsu:=zL hx;rw [hd];generalize l[i]=x at *
  have htm:x.text.length≤bJ:=by simp only [bJ];omega
  have hws:=jJ hi (show l.length≤bJ by simp only [bJ];omega);have hw1:decide ((0:Int)<(i:Int))=true→IntKind.i64.wrap ((i:Int)-1)=((i-1:Nat):Int):=fun h0=>Gh (by have:=of_decide_eq_true h0;omega) (by simp only [bJ];omega)
  have hi1:i-1<l.length:=by omega
  have hx1:l[i-1]?=some (l.getD (i-1) dP):=by rw [List.getD,List.getElem?_eq_getElem hi1];rfl
  have hia:∀ k:IntKind,sj 3 (.slice tg 3 (l.map ah.row)) (.int k ((i-1:Nat):Int))=some (.vptr 3 (l.map ah.row) (i-1) 0):=fun k=>bG hi1
  have hT:=fun H=>zH M hB hX htm H
  have hN:=fun H=>kD M hB htm H
  have hct:∀ L,cY H0 (G++L):=fun L=>(hP.app L).cut
  have htk:∀ L,(G++L).take H0.length=H0:=fun L=>(hP.app L).take
  have hgx:∀ T,(G++[AObj.cells x.row T])[G.length]?=some (.cells x.row T):=fun T=>by rw [aF];rfl
  rw [vl];cases ha:rU x with
  |true=>
   have ha':(decide (x.kind<1)||decide (5<x.kind))=true:=ha;rw [aK M aQ.eq_1];simp (maxSteps:=3000000) (maxDischargeDepth:=6) +contextual -implicitDefEqProofs only [amC M,↓amD,Nat.reduceBEq,Nat.reduceAdd,env,ao,aU,amG,AV.cell,Nat.reduceMul,Nat.reduceLeDiff,hi,hx,bG hi,bk,aF,ha',hct,htk]
  |false=>
   have ha':(decide (x.kind<1)||decide (5<x.kind))=false:=ha;simp only [sel_false];cases hc:wq x with
   |true=>
    have hc':(x.car && !(x.kind == 2) && !(x.kind == 3))=true:=hc;rw [aK M aQ.eq_1];simp (maxSteps:=3000000) (maxDischargeDepth:=6) +contextual -implicitDefEqProofs only [amC M,↓amD,Nat.reduceBEq,Nat.reduceAdd,env,ao,aU,amG,AV.cell,Nat.reduceMul,Nat.reduceLeDiff,hi,hx,bG hi,bk,aF,ha',hc',hct,htk]
   |false=>
    have hc':(x.car && !(x.kind == 2) && !(x.kind == 3))=false:=hc;simp only [sel_false];cases hf:CG (o7 l i) x with
    |true=>
     have hf':((x.kind == 1)&&((x.text == []) || !kG x.text||(decide ((0:Int)<(i:Int))&&((l.getD (i-1) dP).kind == 1))))=true:=hf;rw [aK M aQ.eq_1];simp (maxSteps:=3000000) (maxDischargeDepth:=6) +contextual -implicitDefEqProofs only [amC M,↓amD,Nat.reduceBEq,Nat.reduceAdd,env,ao,aU,amG,AV.cell,Nat.reduceMul,Nat.reduceLeDiff,hi,hx,bG hi,bk,aF,ha',hc',hf',hT,hw1,hia,hx1,hct,htk]
    |false=>
     have hf':((x.kind == 1)&&((x.text == []) || !kG x.text||(decide ((0:Int)<(i:Int))&&((l.getD (i-1) dP).kind == 1))))=false:=hf;simp only [sel_false];cases hn:xK x with
     |true=>
      have hn':(!(x.kind == 1) && !kH x.text)=true:=hn;rw [aK M aQ.eq_1];simp (maxSteps:=3000000) (maxDischargeDepth:=6) +contextual -implicitDefEqProofs only [amC M,↓amD,Nat.reduceBEq,Nat.reduceAdd,env,ao,aU,amG,AV.cell,Nat.reduceMul,Nat.reduceLeDiff,hi,hx,bG hi,bk,aF,ha',hc',hf',hT,hw1,hia,hx1,hct,htk,hn',hN]
     |false=>
      have hn':(!(x.kind == 1) && !kH x.text)=false:=hn;simp only [sel_false];have hcl:=bp hgc;have htak:=HT M hB (c:=c) (b:=b) (e:=e) (T:=bQ) (G:=G++[.cells x.row ae]) (br hgc) x;cases htb:iI b e x with
      |false=>
       simp only [htb,Bool.false_eq_true,if_false] at htak;rw [aK M aQ.eq_1];simp (maxSteps:=3000000) (maxDischargeDepth:=6) +contextual -implicitDefEqProofs only [amC M,↓amD,Nat.reduceBEq,Nat.reduceAdd,env,ao,aU,amG,AV.cell,Nat.reduceMul,Nat.reduceLeDiff,hi,hx,bG hi,bk,aF,ha',hc',hf',hT,hw1,hia,hx1,hct,htk,hn',hN,htak]
      |true=>
       simp only [htb,if_true] at htak;simp only [sel_true];have hcl2:c<(G++[AObj.cells x.row ae]).length:=by simp;omega
       have hne:c≠G.length:=by omega
       have q1:((G++[AObj.cells x.row ae]).set c (.cells [.bool (b || !bB x),.bool (e||aV x)] bQ))[p]?=some (.cells [v] ej):=by
        rw [List.getElem?_set_ne (by omega)];exact br hgp
       have q2:((G++[AObj.cells x.row ae]).set c (.cells [.bool (b || !bB x),.bool (e||aV x)] bQ))[c]?=some (.cells [.bool (b || !bB x),.bool (e||aV x)] bQ):=List.getElem?_set_self hcl2
       have q3:((G++[AObj.cells x.row ae]).set c (.cells [.bool (b || !bB x),.bool (e||aV x)] bQ))[G.length]?=some (.cells x.row ae):=by
        rw [List.getElem?_set_ne hne,aF];rfl
       have q4:Pre H0 ((G++[AObj.cells x.row ae]).set c (.cells [.bool (b || !bB x),.bool (e||aV x)] bQ)):=(hP.app _).set hc0 _
       have q5:sW bd ((G++[AObj.cells x.row ae]).set c (.cells [.bool (b || !bB x),.bool (e||aV x)] bQ)) v st:=hst.stay fun j hj hj2=>by
        rw [List.getElem?_set_ne (by omega),List.getElem?_append_left hj2]
       have q6:bd≤((G++[AObj.cells x.row ae]).set c (.cells [.bool (b || !bB x),.bool (e||aV x)] bQ)).length:=by simp;omega
       have q7:p≠G.length:=by have:=bp hgp;omega
       generalize (G++[AObj.cells x.row ae]).set c (.cells [.bool (b || !bB x),.bool (e||aV x)] bQ)=G2 at htak q1 q2 q3 q4 q5 q6;have hct2:=q4.cut;have htk2:=q4.take;cases h3:x.kind == 3 with
       |true=>
        have h2:(x.kind == 2)=false:=by
         have:x.kind=3:=by simpa using h3
         rw [this];rfl
        obtain ⟨v3,G3,p1,p2,p3,p4,p5⟩:=LM M hB q1 hpb q6 q5 (by omega) x.text;cases hpo:uz st x.text with
        |false=>
         rw [hpo] at p1;have hP3:Pre H0 G3:=⟨by rw [p4];exact q4.1,fun j hj=>by rw [p5 j (by omega)];exact q4.2 j hj⟩
         have c3:=hP3.cut;have t3:=hP3.take;rw [aK M aQ.eq_1];simp (maxSteps:=3000000) (maxDischargeDepth:=6) +contextual -implicitDefEqProofs only [amC M,↓amD,Nat.reduceBEq,Nat.reduceAdd,env,ao,aU,amG,AV.cell,Nat.reduceMul,Nat.reduceLeDiff,hi,hx,bG hi,bk,aF,ha',hc',hf',hT,hw1,hia,hx1,hct,htk,hn',hN,htak,q3,h3,p1,c3,t3]
        |true=>
         rw [hpo] at p1;simp only [hpo,if_true] at p3;have hP3:Pre H0 G3:=⟨by rw [p4];exact q4.1,fun j hj=>by rw [p5 j (by omega)];exact q4.2 j hj⟩
         have g3:G3[G.length]?=some (.cells x.row ae):=by rw [p5 _ (by omega)];exact q3
         have hstp:stP x st=st.tail:=if_pos h3;have ih:=fun He=>IH (i+1) G3 He v3 st.tail (b || !bB x) (e||aV x) (by omega) hP3 (by omega) p2 (by rw [p5 c (by omega)];exact q2) p3 (by simp;omega)
         rw [hsu] at ih;simp only [kv_cons,kv_nil] at ih;rw [aK M aQ.eq_1];simp (maxSteps:=3000000) (maxDischargeDepth:=6) +contextual -implicitDefEqProofs only [amC M,↓amD,Nat.reduceBEq,Nat.reduceAdd,env,ao,aU,amG,AV.cell,Nat.reduceMul,Nat.reduceLeDiff,hi,hx,bG hi,bk,aF,ha',hc',hf',hT,hw1,hia,hx1,hct,htk,hn',hN,htak,q3,h3,h2,p1,g3,hstp,hws,ih]
       |false=>
        have hstp:stP x st=st:=if_neg (by rw [h3];simp);cases h2:x.kind == 2 with
        |false=>
         have hc2:x.car=false:=by rw [h2,h3] at hc';simpa using hc'
         have ih:=fun He=>IH (i+1) G2 He v st (b || !bB x) (e||aV x) (by omega) q4 q6 q1 q2 q5 h16
         rw [hsu] at ih;simp only [kv_cons,kv_nil] at ih;rw [aK M aQ.eq_1];simp (maxSteps:=3000000) (maxDischargeDepth:=6) +contextual -implicitDefEqProofs only [amC M,↓amD,Nat.reduceBEq,Nat.reduceAdd,env,ao,aU,amG,AV.cell,Nat.reduceMul,Nat.reduceLeDiff,hi,hx,bG hi,bk,aF,ha',hc',hf',hT,hw1,hia,hx1,hct,htk,hn',hN,htak,q3,h3,h2,hc2,hstp,hws,ih]
        |true=>
         obtain ⟨v3,G3,p1,p2,p3,p4⟩:=JN M hB q1 hpb q6 q5 (by omega) x.text;have hP3:Pre H0 G3:=p4.pre q4 (by omega) hp0;have c3:=hP3.cut;have t3:=hP3.take;have hlen:=th p3;have l0:∀ x:AV,bt none [x] 0=some x:=fun _=>rfl
         have hlen2:∀ H,o9 H .sl v3=some (.int .i64 ((st.length+1:Nat):Int)):=hlen;cases hgt:decide ((16:Int)<((x.text::stP x st).length:Int)) with
         |true=>
          have hgt2:decide ((16:Int)<((st.length+1:Nat):Int))=true:=by rw [← hgt,hstp];rfl
          rw [aK M aQ.eq_1];simp (maxSteps:=3000000) (maxDischargeDepth:=6) +contextual -implicitDefEqProofs only [amC M,↓amD,Nat.reduceBEq,Nat.reduceAdd,env,ao,aU,amG,AV.cell,Nat.reduceMul,Nat.reduceLeDiff,hi,hx,bG hi,bk,aF,ha',hc',hf',hT,hw1,hia,hx1,hct,htk,hn',hN,htak,q3,h3,h2,p1,p2,l0,hlen2,hgt2,c3,t3]
         |false=>
          have hgt2:decide ((16:Int)<((st.length+1:Nat):Int))=false:=by rw [← hgt,hstp];rfl
          have hle:(x.text::st).length≤16:=by have:=of_decide_eq_false hgt2;simp only [List.length_cons];omega
          have ih:=fun He=>IH (i+1) G3 He v3 (x.text::st) (b || !bB x) (e||aV x) (by omega) hP3 (by have:=p4.1;omega) p2 (by rw [p4.2 c hcb (by omega)];exact q2) p3 hle
          rw [hsu] at ih;simp only [kv_cons,kv_nil] at ih;rw [aK M aQ.eq_1];simp (maxSteps:=3000000) (maxDischargeDepth:=6) +contextual -implicitDefEqProofs only [amC M,↓amD,Nat.reduceBEq,Nat.reduceAdd,env,ao,aU,amG,AV.cell,Nat.reduceMul,Nat.reduceLeDiff,hi,hx,bG hi,bk,aF,ha',hc',hf',hT,hw1,hia,hx1,hct,htk,hn',hN,htak,q3,h3,h2,p1,p2,l0,hlen2,hgt2,hstp,hws,ih]
def gM(l:List ah):Int:=sel (decide ((512:Int)<(l.length:Int))) 3 (vl l false false false [])
theorem rm(hB:lG E)(hX:wk M){l:Sl ah}(hl:l.l.length≤1000000)(ht:Ed l.l)(H:List AObj) :
  M.run bD [.slice l.tag 3 (l.l.map ah.row)] H=some (.ret (.int .u8 (gM l.l)),H):=by
 rw [aP M hB.docs_CheckPieces rfl (c:=ku) rfl,ku];cases h5:decide ((512:Int)<(l.l.length:Int)) with
 |true=>simp (maxSteps:=3000000) (maxDischargeDepth:=6) +contextual -implicitDefEqProofs only [amC M,↓amD,Nat.reduceBEq,Nat.reduceAdd,env,ao,aU,h5,gM]
 |false=>
  have hlp:=fun k hk He=>ckl M hB hX (tg:=l.tag) hl ht (H0:=H) (bd:=H.length+2) (p:=H.length) (c:=H.length+1) (Nat.le_refl _) (by omega) (by omega) (by omega) (by omega) (k:=k) hk l.l.length 0 (H++[.cells [.slice .nil 1 []] ej,.cells [.bool false,.bool false] bQ]) He (.slice .nil 1 []) [] false false (by omega) ((Pre.refl H).app _) (by simp) (by rw [aF];rfl) (by rw [hp_getk];rfl) (.inl ⟨rfl,rfl⟩) (by simp)
  simp only [kv_cons,kv_nil,Int.ofNat_zero,List.drop_zero,zM] at hlp;have l0:∀ x:AV,bt none [x] 0=some x:=fun _=>rfl
  simp (maxSteps:=3000000) (maxDischargeDepth:=6) +contextual -implicitDefEqProofs only [amC M,↓amD,Nat.reduceBEq,Nat.reduceAdd,env,ao,aU,h5,gM];refine hlp _ (fun G v st hg hs hP => ?_) _;have hlen:=th hs;have hct:=hP.cut;have htk:=hP.take;simp (maxSteps:=3000000) (maxDischargeDepth:=6) +contextual -implicitDefEqProofs only [amC M,↓amD,Nat.reduceBEq,Nat.reduceAdd,env,ao,aU,hg,l0,hlen,hct,htk]
end
section
attribute [local congr] aq aO aI au aH aC aw ak al aD aE
variable{E:aN}(M:a8 bn E)
theorem Nj{α:Type}(b p:Bool)(x y:α):slc b y (slc p y x)=slc (b||p) y x:=by cases b<;>rfl
def nm(p:Bool)(x:ah):Int:=sel (rU x) 1 (sel (wq x) 1 (sel (CG p x) 4 (sel (xK x) 5 0)))
theorem HV(hB:lG E){l:List ah}{tg:Tag}(hl:l.length≤1000000)(ht:Ed l){i:Nat}{x:ah}(hx:l[i]?=some x)(H:List AObj) :
  M.run im [.slice tg 3 (l.map ah.row),.int .i64 i] H=some (.ret (.int .u8 (nm (o7 l i) x)),H):=by
 have hi:i<l.length:=(List.getElem?_eq_some_iff.1 hx).1;have htx:=ht _ (List.mem_of_getElem? hx);have htm:x.text.length≤bJ:=by simp only [bJ];omega
 have hw1:decide ((0:Int)<(i:Int))=true→IntKind.i64.wrap ((i:Int)-1)=((i-1:Nat):Int):=fun h0=>Gh (by have:=of_decide_eq_true h0;omega) (by simp only [bJ];omega)
 have hi1:i-1<l.length:=by omega
 have hx1:l[i-1]?=some (l.getD (i-1) dP):=by rw [List.getD,List.getElem?_eq_getElem hi1];rfl
 have hia:∀ k:IntKind,sj 3 (.slice tg 3 (l.map ah.row)) (.int k ((i-1:Nat):Int))=some (.vptr 3 (l.map ah.row) (i-1) 0):=fun k=>bG hi1
 have hT:=fun H=>JC M hB htx H
 have hN:=fun H=>JD M hB htm H
 rw [aP M hB.truchmanref01_alone rfl (c:=iA) rfl,iA];simp (maxSteps:=3000000) (maxDischargeDepth:=6) +contextual -implicitDefEqProofs only [amC M,↓amD,Nat.reduceBEq,Nat.reduceAdd,env,ao,rz,amG,AV.cell,Nat.reduceMul,Nat.reduceLeDiff,hi,hx,bG hi,bk,aF,hT,hN,hw1,hia,hx1,cut_app,hp_take,nm,rU,wq,CG,xK,o7]
def cw(x y:ah):Bool:=bB x && !bB y||aV y && !aV x
theorem N6{l:List ah}{tg:Tag}(hl:l.length≤1000000){i:Nat}{x:ah}(hx:l[i]?=some x){H H0:List AObj}(hc:cY H0 H)(k:List Fra):∀ (n j:Nat) (He:List AObj),j+n=i →
  M.go cS H0 (.c cF :: .lp ⟨(some [0,1,5]),[],false⟩ cF He :: .blk 0 :: .c (.lv [])::k) (kv [(0,.slice tg 3 (l.map ah.row)),(1,.int .i64 i),(5,.int .i64 j)]) H =
   sel (((l.take i).drop j).any (cw x)) (some (.ret (.int .u8 8),H.take H0.length)) (M.go cS H0 k .leaf H)
 |0,j,He,h=>by
  obtain rfl:j=i:=by omega
  have e:(l.take j).drop j=[]:=List.drop_of_length_le (by simp;omega);rw [aK M cF.eq_1];simp (maxSteps:=3000000) (maxDischargeDepth:=6) +contextual -implicitDefEqProofs only [amC M,↓amD,Nat.reduceBEq,Nat.reduceAdd,env,ao,gj,Nat.lt_irrefl,e,List.any_nil]
 |n+1,j,He,h=>by
  have hi:i<l.length:=(List.getElem?_eq_some_iff.1 hx).1;have hki:j<i:=by omega
  have hkl:j<l.length:=by omega
  have hy:l[j]?=some l[j]:=List.getElem?_eq_getElem hkl
  have hd:(l.take i).drop j=l[j]::(l.take i).drop (j+1):=by
   rw [List.drop_eq_getElem_cons (by simp;omega),List.getElem_take]
  have ih:=fun He=>N6 (tg:=tg) hl hx hc k n (j+1) He (by omega)
  have hws:IntKind.i64.wrap ((j:Int)+1)=((j+1:Nat):Int):=jJ hkl (show l.length≤bJ by simp only [bJ];omega);rw [hd,List.any_cons];generalize l[j]=y at hy;have e1:(y.car&&(y.kind == 2))=bB y:=Bool.and_comm _ _;have e2:(y.car&&(y.kind == 3))=aV y:=Bool.and_comm _ _;have e3:(x.car&&(x.kind == 2))=bB x:=Bool.and_comm _ _;have e4:(x.car&&(x.kind == 3))=aV x:=Bool.and_comm _ _;simp only [kv_cons,kv_nil] at ih
  rw [aK M cF.eq_1];simp (maxSteps:=3000000) (maxDischargeDepth:=6) +contextual -implicitDefEqProofs only [amC M,↓amD,Nat.reduceBEq,Nat.reduceAdd,env,ao,gj,hki,hx,hy,hi,hkl,bG hi,bG hkl,bk,hws,e1,e2,e3,e4,ih,hc,cw,Nj,Bool.or_assoc]
def Ee(l:List ah)(i:Nat):Bool:=(l.take i).any fun y => !bB y
def Ef(l:List ah)(i:Nat):Bool:=(l.take i).any aV
theorem JO(x:ah):∀ l:List ah,l.any (cw x)=(bB x&&(l.any fun y => !bB y)||l.any aV && !aV x)
 |[]=>by simp
 |y::l=>by
  simp only [List.any_cons,JO x l,cw];cases bB x<;>cases bB y<;>cases aV y<;>cases aV x<;>simp
theorem Eg(hB:lG E){l:List ah}{tg:Tag}(hl:l.length≤1000000){i:Nat}{x:ah}(hx:l[i]?=some x)(H:List AObj) :
  M.run gg [.slice tg 3 (l.map ah.row),.int .i64 i] H=some (.ret (.int .u8 (sel (iI (Ee l i) (Ef l i) x) 0 8)),H):=by
 rw [aP M hB.truchmanref01_carried rfl (c:=gi) rfl,gi];have hlp:=fun k He=>N6 M (tg:=tg) hl hx (cut_refl H) k i 0 He (by omega)
 simp only [kv_cons,kv_nil,Int.ofNat_zero,List.drop_zero,JO] at hlp;have e:iI (Ee l i) (Ef l i) x = !(bB x&&((l.take i).any fun y => !bB y)||(l.take i).any aV && !aV x):=rfl;rw [e];simp (maxSteps:=3000000) (maxDischargeDepth:=6) +contextual -implicitDefEqProofs only [amC M,↓amD,Nat.reduceBEq,Nat.reduceAdd,env,ao,gj,hlp]
theorem HW{l:List ah}{i:Nat}{x:ah}(h:l[i]?=some x):Ee l (i+1)=(Ee l i || !bB x):=by
 unfold Ee;rw [List.take_add_one,h,List.any_append];simp
theorem HX{l:List ah}{i:Nat}{x:ah}(h:l[i]?=some x):Ef l (i+1)=(Ef l i||aV x):=by
 unfold Ef;rw [List.take_add_one,h,List.any_append];simp
theorem Oy(hB:lG E){l:List ah}{tg:Tag}(hl:l.length≤1000000)(ht:Ed l){H0:List AObj}{k:List Fra}
  (hk:∀ (G:List AObj) (v:AV) (st:List Str),sW H0.length G v st→Pre H0 G→M.go b5 H0 k (kv [(3,v)]) G=some (.ret (.int .u8 (sel (decide ((0:Int)<(st.length:Int))) 9 0)),H0)) :
  ∀ (n i:Nat) (G He:List AObj) (v:AV) (st:List Str),i+n=l.length→Pre H0 G→sW H0.length G v st→st.length≤16 →
  M.go b5 H0 (.c aJ :: .lp ⟨(some [0,3,4]),[],false⟩ aJ He :: .blk 0 :: .c (.lv [3])::k) (kv [(0,.slice tg 3 (l.map ah.row)),(3,v),(4,.int .i64 i)]) G =
   some (.ret (.int .u8 (vl (l.drop i) (o7 l i) (Ee l i) (Ef l i) st)),H0):=by
 intro n;induction n with
 |zero=>
  intro i G He v st h hP hst h16;obtain rfl:i=l.length:=by omega
  rw [List.drop_length,vl];have hk1:=hk G v st hst hP;simp only [kv_cons,kv_nil] at hk1;rw [aK M aJ.eq_1];simp (maxSteps:=3000000) (maxDischargeDepth:=6) +contextual -implicitDefEqProofs only [amC M,↓amD,Nat.reduceBEq,Nat.reduceAdd,env,ao,aL,Nat.lt_irrefl,hk1]
 |succ n IH=>
  intro i G He v st h hP hst h16;have hi:i<l.length:=by omega
  have hx:l[i]?=some l[i]:=List.getElem?_eq_getElem hi;have hd:l.drop i=l[i]::l.drop (i+1):=List.drop_eq_getElem_cons hi;have hsu:=zL hx;have hbs:=HW hx;have hes:=HX hx;rw [hd];generalize l[i]=x at *
  have hws:=jJ hi (show l.length≤bJ by simp only [bJ];omega);have hA:=fun H=>HV M hB (tg:=tg) hl ht hx H
  have hC:=fun H=>Eg M hB (tg:=tg) hl hx H
  have hct:=hP.cut;have htk:=hP.take;have hlen:=th hst;rw [vl];cases ha:rU x with
  |true=>
   have e:nm (o7 l i) x=1:=by rw [nm,ha];rfl
   rw [aK M aJ.eq_1];simp (maxSteps:=3000000) (maxDischargeDepth:=6) +contextual -implicitDefEqProofs only [amC M,↓amD,Nat.reduceBEq,Nat.reduceAdd,env,ao,aL,hi,hx,hA,e,hct,htk,(show ((1:Int) == 0)=false from rfl)]
  |false=>
  simp only [sel_false];cases hca:wq x with
  |true=>
   have e:nm (o7 l i) x=1:=by rw [nm,ha,hca];rfl
   rw [aK M aJ.eq_1];simp (maxSteps:=3000000) (maxDischargeDepth:=6) +contextual -implicitDefEqProofs only [amC M,↓amD,Nat.reduceBEq,Nat.reduceAdd,env,ao,aL,hi,hx,hA,e,hct,htk,(show ((1:Int) == 0)=false from rfl)]
  |false=>
  simp only [sel_false];cases hf:CG (o7 l i) x with
  |true=>
   have e:nm (o7 l i) x=4:=by rw [nm,ha,hca,hf];rfl
   rw [aK M aJ.eq_1];simp (maxSteps:=3000000) (maxDischargeDepth:=6) +contextual -implicitDefEqProofs only [amC M,↓amD,Nat.reduceBEq,Nat.reduceAdd,env,ao,aL,hi,hx,hA,e,hct,htk,(show ((4:Int) == 0)=false from rfl)]
  |false=>
  simp only [sel_false];cases hn:xK x with
  |true=>
   have e:nm (o7 l i) x=5:=by rw [nm,ha,hca,hf,hn];rfl
   rw [aK M aJ.eq_1];simp (maxSteps:=3000000) (maxDischargeDepth:=6) +contextual -implicitDefEqProofs only [amC M,↓amD,Nat.reduceBEq,Nat.reduceAdd,env,ao,aL,hi,hx,hA,e,hct,htk,(show ((5:Int) == 0)=false from rfl)]
  |false=>
  simp only [sel_false];have e:nm (o7 l i) x=0:=by rw [nm,ha,hca,hf,hn];rfl
  cases htb:iI (Ee l i) (Ef l i) x with
  |false=>
   rw [htb] at hC;rw [aK M aJ.eq_1];simp (maxSteps:=3000000) (maxDischargeDepth:=6) +contextual -implicitDefEqProofs only [amC M,↓amD,Nat.reduceBEq,Nat.reduceAdd,env,ao,aL,hi,hx,hA,hC,e,hct,htk,beq_self_eq_true,(show ((8:Int) == 0)=false from rfl)]
  |true=>
  rw [htb] at hC;simp only [sel_true,sel_false] at hC ⊢;cases h3:x.kind == 3 with
  |true=>
   have h2:(x.kind == 2)=false:=by
    have:x.kind=3:=by simpa using h3
    rw [this];rfl
   cases st with
   |nil=>
    have hlen0:∀ H,o9 H .sl v=some (.int .i64 0):=hlen;rw [aK M aJ.eq_1];simp (maxSteps:=3000000) (maxDischargeDepth:=6) +contextual -implicitDefEqProofs only [amC M,↓amD,Nat.reduceBEq,Nat.reduceAdd,env,ao,aL,hi,hx,bG hi,bk,hA,hC,e,h3,hlen0,uz,hct,htk,beq_self_eq_true]
   |cons y st=>
    obtain ⟨⟨q,o,cs,t1,t2,t3,t3'⟩,v',t4,t5⟩:=Gz hst
    have hw:IntKind.i64.wrap ((((y::st).length:Nat):Int)-1)=(st.length:Int):=by
     simp only [List.length_cons] at h16 ⊢;rw [eJ (by omega) (by omega)];omega
    have h0:((((y::st).length:Nat):Int) == 0)=false:=by simp;omega
    cases hy:y == x.text with
    |false=>
     rw [aK M aJ.eq_1];simp (maxSteps:=3000000) (maxDischargeDepth:=6) +contextual -implicitDefEqProofs only [amC M,↓amD,Nat.reduceBEq,Nat.reduceAdd,env,ao,aL,hi,hx,bG hi,bk,hA,hC,e,h3,hlen,h0,hw,t1,t3,t3',hy,uz,hct,htk,beq_self_eq_true]
    |true=>
     have hstp:stP x (y::st)=st:=if_pos h3;have ih:=fun He=>IH (i+1) G He v' st (by omega) hP t5 (by simp at h16;omega)
     rw [hsu,hbs,hes] at ih;simp only [kv_cons,kv_nil] at ih;rw [aK M aJ.eq_1];simp (maxSteps:=3000000) (maxDischargeDepth:=6) +contextual -implicitDefEqProofs only [amC M,↓amD,Nat.reduceBEq,Nat.reduceAdd,env,ao,aL,hi,hx,bG hi,bk,hA,hC,e,h3,h2,hlen,h0,hw,t1,t3,t3',t4,hy,uz,hstp,hws,ih,beq_self_eq_true]
  |false=>
   have hstp:stP x st=st:=if_neg (by rw [h3];simp);cases h2:x.kind == 2 with
   |false=>
    have ih:=fun He=>IH (i+1) G He v st (by omega) hP hst h16
    rw [hsu,hbs,hes] at ih;simp only [kv_cons,kv_nil] at ih;rw [aK M aJ.eq_1];simp (maxSteps:=3000000) (maxDischargeDepth:=6) +contextual -implicitDefEqProofs only [amC M,↓amD,Nat.reduceBEq,Nat.reduceAdd,env,ao,aL,hi,hx,bG hi,bk,hA,hC,e,h3,h2,hstp,hws,ih,beq_self_eq_true]
   |true=>
    obtain ⟨v3,G3,p1,p2,p3,p4⟩:=JM hst hP.1 (by omega) x.text;have hP3:Pre H0 G3:=⟨Nat.le_trans hP.1 p3,fun j hj=>by rw [p4 j hj];exact hP.2 j hj⟩
    have c3:=hP3.cut;have tk3:=hP3.take;have hlen3:∀ H,o9 H .sl v3=some (.int .i64 ((st.length+1:Nat):Int)):=th p2;cases hgt:decide ((16:Int)<((x.text::stP x st).length:Int)) with
    |true=>
     have hgt2:decide ((16:Int)<((st.length+1:Nat):Int))=true:=by rw [← hgt,hstp];rfl
     rw [aK M aJ.eq_1];simp (maxSteps:=3000000) (maxDischargeDepth:=6) +contextual -implicitDefEqProofs only [amC M,↓amD,Nat.reduceBEq,Nat.reduceAdd,env,ao,aL,amG,AV.cell,Nat.reduceMul,Nat.reduceLeDiff,hi,hx,bG hi,bk,hA,hC,e,h3,h2,p1,hlen3,hgt2,c3,tk3,beq_self_eq_true]
    |false=>
     have hgt2:decide ((16:Int)<((st.length+1:Nat):Int))=false:=by rw [← hgt,hstp];rfl
     have hle:(x.text::st).length≤16:=by have:=of_decide_eq_false hgt2;simp only [List.length_cons];omega
     have ih:=fun He=>IH (i+1) G3 He v3 (x.text::st) (by omega) hP3 p2 hle
     rw [hsu,hbs,hes] at ih;simp only [kv_cons,kv_nil] at ih;rw [aK M aJ.eq_1];simp (maxSteps:=3000000) (maxDischargeDepth:=6) +contextual -implicitDefEqProofs only [amC M,↓amD,Nat.reduceBEq,Nat.reduceAdd,env,ao,aL,amG,AV.cell,Nat.reduceMul,Nat.reduceLeDiff,hi,hx,bG hi,bk,hA,hC,e,h3,h2,p1,hlen3,hgt2,hstp,hws,ih,beq_self_eq_true]
theorem mb(hB:lG E){l:Sl ah}(hl:l.l.length≤1000000)(ht:Ed l.l)(H:List AObj) :
  M.run bH [.slice l.tag 3 (l.l.map ah.row)] H=some (.ret (.int .u8 (gM l.l)),H):=by
 rw [aP M hB.truchmanref01_CheckPieces rfl (c:=eA) rfl,eA];cases h5:decide ((512:Int)<(l.l.length:Int)) with
 |true=>simp (maxSteps:=3000000) (maxDischargeDepth:=6) +contextual -implicitDefEqProofs only [amC M,↓amD,Nat.reduceBEq,Nat.reduceAdd,env,ao,aL,h5,gM]
 |false=>
  have hlp:=fun k hk He=>Oy M hB (tg:=l.tag) hl ht (H0:=H) (k:=k) hk l.l.length 0 H He (.slice .nil 1 []) [] (by omega) (Pre.refl H) (.inl ⟨rfl,rfl⟩) (by simp)
  simp only [kv_cons,kv_nil,Int.ofNat_zero,List.drop_zero,zM,(show Ee l.l 0=false from rfl),(show Ef l.l 0=false from rfl)] at hlp;simp (maxSteps:=3000000) (maxDischargeDepth:=6) +contextual -implicitDefEqProofs only [amC M,↓amD,Nat.reduceBEq,Nat.reduceAdd,env,ao,aL,h5,gM];refine hlp _ (fun G v st hs hP => ?_) _;have hlen:=th hs;have hct:=hP.cut;have htk:=hP.take;simp (maxSteps:=3000000) (maxDischargeDepth:=6) +contextual -implicitDefEqProofs only [amC M,↓amD,Nat.reduceBEq,Nat.reduceAdd,env,ao,aL,hlen,hct,htk]
end
section
attribute [local congr] aq aO aI au aH aC aw ak al aD aE
variable{E:aN}(M:a8 bn E)
theorem dt{s t:Str}(h:s.length+t.length<9223372036854775808):cG .add s t=some (.str (s++t)):=if_pos h
theorem GA{H0:List AObj}(n m:Nat)(T:TypeId)(L:List AObj):cY (H0++[.tok n T]) (H0++(.tok m T::L)):=⟨by simp,fun i x hi hx=>by
 rw [List.length_append] at hi
 by_cases h:i<H0.length
 ·rw [List.getElem?_append_left h] at hx ⊢;exact .inl hx
 ·obtain rfl:i=H0.length:=by simp at hi;omega
  rw [aF] at hx;obtain rfl:=Option.some.inj hx;exact .inr trivial⟩
theorem Eh(H0:List AObj)(o:AObj)(L:List AObj):(H0++(o::L)).take (H0.length+1)=H0++[o]:=by
 rw [show H0++(o::L)=(H0++[o])++L by simp,show H0.length+1=(H0++[o]).length by simp,List.take_left]
theorem GB{α:Type}{row:α→List AV}{l:List α}{x:α}{r:List AV}{sz bytes:Nat}{e:TypeId}(H L:List AObj)(h1:r.length=sz)(h2:r.all AV.cell=true)(h3:r.map AV.strip=row x)
  (hl:(l.length+1)*bytes≤140737488355328) (hl2:l.length+1≤4611686018427387904) :
  rap false (H++(.tok (l.length*sz) e::L)) e sz bytes false (.slice (.own H.length) sz (l.map row)) (.slice .full sz [r])=some (.slice (.own H.length) sz ((l++[x]).map row),H++(.tok ((l++[x]).length*sz) e::L)):=by
 simp only [rap,Ap,tl,List.length_map,List.length_cons,List.length_nil,Nat.zero_add,or_true,if_true,hl,hl2,ug h1 h2,and_true,true_and,aF,List.getElem?_cons_zero,hp_set0,List.set_cons_zero,List.map_cons,List.map_nil,h3,List.map_append,List.length_append,Nat.add_mul,Nat.one_mul];rw [Nat.add_mul,Nat.one_mul] at hl;rw [if_pos hl]
theorem JP(n:Nat)(l:List ah):iW n (l.map ah.row):=by
 rw [rowsWk_map];exact fun _ _=>⟨wk_int _ _ _,wk_str _ _,wk_bool _ _,trivial⟩
end
section
attribute [local congr] aq aO aI au aH aC aw ak al aD aE
variable{E:aN}(M:a8 bn E)
def gv(x:ah):Str:=sel x.car [43] []
def Oz(s:Str):Str:=(s.map fun c=>if ((c == 92)||(c == 60)||(c == 123))=true then [92,c] else [c]).flatten
def wrF(x:ah):Str:=sel (x.kind == 2) ([60]++gv x++x.text++[62]) (sel (x.kind == 3) ([60,47]++gv x++x.text++[62]) (sel (x.kind == 4) ([60]++x.text++[47,62]) (sel (x.kind == 5) ([123]++x.text++[125]) (Oz x.text))))
def LN(x:ah):Bool:=(x.kind == 2)||(x.kind == 3)||(x.kind == 4)||(x.kind == 5)
theorem jv(hS:mU E){x:ah}(hx:LN x=true)(hl:x.text.length≤140737488351232)(H:List AObj):M.run iY [.agg x.row] H=some (.ret (.str (wrF x)),H):=by
 have hkind:x.kind=2∨x.kind=3∨x.kind=4∨x.kind=5:=by simpa [LN,or_assoc] using hx
 rw [aP M hS.docs_written rfl (c:=ow) rfl,ow];rcases hkind with e | e | e | e
 ·cases hc:x.car with
  |true=>
   have F1:cG .add ([60]) [43]=some (.str (60::[43])):=dt (by simp);have F2:cG .add ([60,43]) x.text=some (.str (60::43::x.text)):=dt (by simp;omega);have F3:cG .add (60::43::x.text) [62]=some (.str (60::43::(x.text++[62]))):=dt (by simp;omega);simp (maxSteps:=3000000) (maxDischargeDepth:=6) +contextual -implicitDefEqProofs only [amC M,↓amD,Nat.reduceBEq,Nat.reduceAdd,env,ao,dM,amG,AV.cell,Nat.reduceMul,Nat.reduceLeDiff,bk,aF,e,hc,(show ((2:Int) == 2)=true from rfl),(show ((2:Int) == 3)=false from rfl),(show ((2:Int) == 4)=false from rfl),(show ((2:Int) == 5)=false from rfl),F1,F2,F3,wrF,gv,cut_app,hp_take]
  |false=>
   have F1:cG .add ([60]) []=some (.str (60::[])):=dt (by simp);have F2:cG .add ([60]) x.text=some (.str (60::x.text)):=dt (by simp;omega);have F3:cG .add (60::x.text) [62]=some (.str (60::(x.text++[62]))):=dt (by simp;omega);simp (maxSteps:=3000000) (maxDischargeDepth:=6) +contextual -implicitDefEqProofs only [amC M,↓amD,Nat.reduceBEq,Nat.reduceAdd,env,ao,dM,amG,AV.cell,Nat.reduceMul,Nat.reduceLeDiff,bk,aF,e,hc,(show ((2:Int) == 2)=true from rfl),(show ((2:Int) == 3)=false from rfl),(show ((2:Int) == 4)=false from rfl),(show ((2:Int) == 5)=false from rfl),F1,F2,F3,wrF,gv,cut_app,hp_take]
 ·cases hc:x.car with
  |true=>
   have F1:cG .add ([60,47]) [43]=some (.str (60::47::[43])):=dt (by simp);have F2:cG .add ([60,47,43]) x.text=some (.str (60::47::43::x.text)):=dt (by simp;omega);have F3:cG .add (60::47::43::x.text) [62]=some (.str (60::47::43::(x.text++[62]))):=dt (by simp;omega);simp (maxSteps:=3000000) (maxDischargeDepth:=6) +contextual -implicitDefEqProofs only [amC M,↓amD,Nat.reduceBEq,Nat.reduceAdd,env,ao,dM,amG,AV.cell,Nat.reduceMul,Nat.reduceLeDiff,bk,aF,e,hc,(show ((3:Int) == 2)=false from rfl),(show ((3:Int) == 3)=true from rfl),(show ((3:Int) == 4)=false from rfl),(show ((3:Int) == 5)=false from rfl),F1,F2,F3,wrF,gv,cut_app,hp_take]
  |false=>
   have F1:cG .add ([60,47]) []=some (.str (60::47::[])):=dt (by simp);have F2:cG .add ([60,47]) x.text=some (.str (60::47::x.text)):=dt (by simp;omega);have F3:cG .add (60::47::x.text) [62]=some (.str (60::47::(x.text++[62]))):=dt (by simp;omega);simp (maxSteps:=3000000) (maxDischargeDepth:=6) +contextual -implicitDefEqProofs only [amC M,↓amD,Nat.reduceBEq,Nat.reduceAdd,env,ao,dM,amG,AV.cell,Nat.reduceMul,Nat.reduceLeDiff,bk,aF,e,hc,(show ((3:Int) == 2)=false from rfl),(show ((3:Int) == 3)=true from rfl),(show ((3:Int) == 4)=false from rfl),(show ((3:Int) == 5)=false from rfl),F1,F2,F3,wrF,gv,cut_app,hp_take]
 ·cases hc:x.car with
  |true=>
   have F2:cG .add ([60]) x.text=some (.str (60::x.text)):=dt (by simp;omega);have F3:cG .add (60::x.text) [47,62]=some (.str (60::(x.text++[47,62]))):=dt (by simp;omega);simp (maxSteps:=3000000) (maxDischargeDepth:=6) +contextual -implicitDefEqProofs only [amC M,↓amD,Nat.reduceBEq,Nat.reduceAdd,env,ao,dM,amG,AV.cell,Nat.reduceMul,Nat.reduceLeDiff,bk,aF,e,hc,(show ((4:Int) == 2)=false from rfl),(show ((4:Int) == 3)=false from rfl),(show ((4:Int) == 4)=true from rfl),(show ((4:Int) == 5)=false from rfl),F2,F3,wrF,gv,cut_app,hp_take]
  |false=>
   have F2:cG .add ([60]) x.text=some (.str (60::x.text)):=dt (by simp;omega);have F3:cG .add (60::x.text) [47,62]=some (.str (60::(x.text++[47,62]))):=dt (by simp;omega);simp (maxSteps:=3000000) (maxDischargeDepth:=6) +contextual -implicitDefEqProofs only [amC M,↓amD,Nat.reduceBEq,Nat.reduceAdd,env,ao,dM,amG,AV.cell,Nat.reduceMul,Nat.reduceLeDiff,bk,aF,e,hc,(show ((4:Int) == 2)=false from rfl),(show ((4:Int) == 3)=false from rfl),(show ((4:Int) == 4)=true from rfl),(show ((4:Int) == 5)=false from rfl),F2,F3,wrF,gv,cut_app,hp_take]
 ·cases hc:x.car with
  |true=>
   have F2:cG .add ([123]) x.text=some (.str (123::x.text)):=dt (by simp;omega);have F3:cG .add (123::x.text) [125]=some (.str (123::(x.text++[125]))):=dt (by simp;omega);simp (maxSteps:=3000000) (maxDischargeDepth:=6) +contextual -implicitDefEqProofs only [amC M,↓amD,Nat.reduceBEq,Nat.reduceAdd,env,ao,dM,amG,AV.cell,Nat.reduceMul,Nat.reduceLeDiff,bk,aF,e,hc,(show ((5:Int) == 2)=false from rfl),(show ((5:Int) == 3)=false from rfl),(show ((5:Int) == 4)=false from rfl),(show ((5:Int) == 5)=true from rfl),F2,F3,wrF,gv,cut_app,hp_take]
  |false=>
   have F2:cG .add ([123]) x.text=some (.str (123::x.text)):=dt (by simp;omega);have F3:cG .add (123::x.text) [125]=some (.str (123::(x.text++[125]))):=dt (by simp;omega);simp (maxSteps:=3000000) (maxDischargeDepth:=6) +contextual -implicitDefEqProofs only [amC M,↓amD,Nat.reduceBEq,Nat.reduceAdd,env,ao,dM,amG,AV.cell,Nat.reduceMul,Nat.reduceLeDiff,bk,aF,e,hc,(show ((5:Int) == 2)=false from rfl),(show ((5:Int) == 3)=false from rfl),(show ((5:Int) == 4)=false from rfl),(show ((5:Int) == 5)=true from rfl),F2,F3,wrF,gv,cut_app,hp_take]
end
section
attribute [local congr] aq aO aI au aH aC aw ak al aD aE
variable{E:aN}(M:a8 bn E)
theorem uA{p:UInt8→Bool}:∀ (l:Str) (i:Nat),(eV p i l = -1∧eV p (i+1) l = -1)∨∃ j,j<l.length∧eV p i l=((i+j:Nat):Int)∧eV p (i+1) l=((i+1+j:Nat):Int)∧p (l.getD j 0)=true∧∀ k,k<j→p (l.getD k 0)=false
 |[],i=>.inl ⟨rfl,rfl⟩
 |c::l,i=>by
  cases h:p c with
  |true=>exact .inr ⟨0,by simp,by simp [eV,h,sel],by simp [eV,h,sel],h,fun k hk=>absurd hk (Nat.not_lt_zero _)⟩
  |false=>
   rcases uA (p:=p) l (i+1) with ⟨h1,h2⟩ | ⟨j,h1,h2,h3,h4,h5⟩
   ·exact .inl ⟨by simp [eV,h,sel,h1],by simp [eV,h,sel,h2]⟩
   ·refine .inr ⟨j+1,by simpa using h1,by simp [eV,h,sel,h2];omega,by simp [eV,h,sel,h3];omega,by simpa using h4,fun k hk => ?_⟩
    cases k with
    |zero=>exact h
    |succ k=>simpa using h5 k (by omega)
def mkB(c:UInt8)(b:Str):ah:=
 sel (c == 123) ⟨5,b,false⟩ (sel (cX b [47,43]) ⟨3,b.drop 2,true⟩ (sel (cX b [47]) ⟨3,b.drop 1,false⟩ (sel (cX b [43]) ⟨2,b.drop 1,true⟩ (sel (l9 b [47]) ⟨4,b.take (b.length-1),false⟩ ⟨2,b,false⟩))))
def mkT(c:UInt8)(t:Str)(j:Nat):Bool:=kH (mkB c (t.take j)).text&&(wrF (mkB c (t.take j)) == c::t.take (j+1))
def mkO:Str→Option (ah×Nat)
 |[]=>none
 |c::t=>sel (decide (eV dw 0 t<0)) none (sel (mkT c t (eV dw 0 t).toNat) (some (mkB c (t.take (eV dw 0 t).toNat),(eV dw 0 t).toNat+2)) none)
def mkV(o:Option (ah×Nat)):AV:=match o with
 |none=>.tuple [.agg (ah.row dP),.int .i64 0]
 |some (p,n)=>.tuple [.agg p.row,.int .i64 (n:Int)]
theorem LO(b:Bool)(o:Option (ah×Nat)):mkV (sel b o none)=slc b (mkV o) (mkV none):=by cases b<;>rfl
theorem FD(hB:lG E)(hS:mU E)(hX:tK M){c:UInt8}{t:Str}(hc:(c == 60)=true∨(c == 123)=true)(ht:t.length+1≤140737488351232)(H:List AObj) :
  M.run kb [.str (c::t)] H=some (.ret (mkV (mkO (c::t))),H):=by
 have hml:(c::t).length≤bJ:=by simp only [bJ,List.length_cons];omega
 have hIA:=fun H=>CF M hS hX hml H
 have hce:dw c=false:=by rcases hc with h | h<;>(have:=eq_of_beq h;subst this;rfl)
 have hz:dP.row=[.int .u8 0,.str [],.bool false]:=rfl;rw [mkO];rcases uA (p:=dw) t 0 with ⟨h1,h2⟩ | ⟨j,hj,h1,h2,h3,h4⟩
 ·have e:eV dw 0 (c::t) = -1:=by rw [eV,hce,sel_false];exact h2
  rw [h1,show decide ((-1:Int)<0)=true from rfl,sel_true];rw [e] at hIA;rw [aP M hS.docs_marked rfl (c:=bE) rfl,bE];simp (maxSteps:=3000000) (maxDischargeDepth:=6) +contextual -implicitDefEqProofs only [amC M,↓amD,Nat.reduceBEq,Nat.reduceAdd,env,ao,fH,amG,AV.cell,Nat.reduceMul,Nat.reduceLeDiff,hIA,(show decide ((-1:Int)<0)=true from rfl),aF,hp_set0,mkV,hz,cut_app,hp_take]
 ·have e:eV dw 0 (c::t)=((1+j:Nat):Int):=by rw [eV,hce,sel_false];simpa using h2
  have e1:eV dw 0 t=(j:Int):=by simpa using h1
  have d0:decide ((j:Int)<0)=false:=decide_eq_false (by omega);have d1:decide (((1+j:Nat):Int)<0)=false:=decide_eq_false (by omega)
  have hsl:w7 (.str (c::t)) (some (.int .i64 1)) (some (.int .i64 ((1+j:Nat):Int)))=some (.str (t.take j)):=by
   have:=JB (s:=c::t) (k:=.i64) (k':=.i64) (i:=1) (j:=1+j) (by omega) (by simp;omega);rw [show ((1:Nat):Int)=1 from rfl] at this;rw [this,show 1+j-1=j by omega];rfl
  have hw:IntKind.i64.wrap (((1+j:Nat):Int)+1)=((j+2:Nat):Int):=by rw [eJ (by omega) (by omega)];omega
  have hs2:w7 (.str (c::t)) none (some (.int .i64 ((j+2:Nat):Int)))=some (.str (c::t.take (j+1))):=by
   rw [FB (by simp;omega)];rfl
  have hbl:(t.take j).length≤140737488351232:=by simp;omega
  have hc0:((c.toNat:Int) == 123)=(c == 123):=by
   rw [Bool.eq_iff_iff,beq_iff_eq,beq_iff_eq];constructor
   ·intro h;exact UInt8.toNat_inj.1 (by have:(123:UInt8).toNat=123:=rfl;omega)
   ·rintro rfl;rfl
  rw [e1,d0,sel_false,show (j:Int).toNat=j from rfl,mkT,LO];rw [e] at hIA;have hpx:=fun p H=>AT M hS (t.take j) p H
  have hsx:=fun p H=>AU M hS (s:=t.take j) (by simp only [bJ];omega) p H
  generalize t.take j=b at hsl hbl hpx hsx;cases h5:c == 123 with
  |true=>
   have hN:=fun H=>kD M hB (s:=(⟨5,b,false⟩:ah).text) (by simp only [bJ,List.length_drop,List.length_take];omega) H
   have hW:=fun H=>jv M hS (x:=⟨5,b,false⟩) rfl (by simp only [List.length_drop,List.length_take];omega) H
   have hm:mkB c b=⟨5,b,false⟩:=by rw [mkB,h5];rfl
   rw [hm];simp only [ah.row] at hW;rw [aP M hS.docs_marked rfl (c:=bE) rfl,bE];simp (maxSteps:=3000000) (maxDischargeDepth:=6) +contextual -implicitDefEqProofs only [amC M,↓amD,Nat.reduceBEq,Nat.reduceAdd,env,ao,fH,amG,AV.cell,Nat.reduceMul,Nat.reduceLeDiff,hIA,d1,hsl,hw,hs2,bk,aF,hp_set0,hc0,List.getElem?_cons_zero,hpx,hsx,mkV,hz,cut_app,hp_take,ah.row,hN,hW,h5];rw [← Bool.not_and,slc_not];rfl
  |false=>
  cases hp1:cX b [47,43] with
  |true=>
   have hl2:2≤b.length:=by unfold cX at hp1;simp at hp1;exact hp1.1
   have hs3:=sV (s:=b) (k:=.i64) (i:=2) hl2;rw [show ((2:Nat):Int)=2 from rfl] at hs3;have hN:=fun H=>kD M hB (s:=(⟨3,b.drop 2,true⟩:ah).text) (by simp only [bJ,List.length_drop,List.length_take];omega) H
   have hW:=fun H=>jv M hS (x:=⟨3,b.drop 2,true⟩) rfl (by simp only [List.length_drop,List.length_take];omega) H
   have hm:mkB c b=⟨3,b.drop 2,true⟩:=by rw [mkB,h5,hp1];rfl
   rw [hm];simp only [ah.row] at hW;rw [aP M hS.docs_marked rfl (c:=bE) rfl,bE];simp (maxSteps:=3000000) (maxDischargeDepth:=6) +contextual -implicitDefEqProofs only [amC M,↓amD,Nat.reduceBEq,Nat.reduceAdd,env,ao,fH,amG,AV.cell,Nat.reduceMul,Nat.reduceLeDiff,hIA,d1,hsl,hw,hs2,bk,aF,hp_set0,hc0,List.getElem?_cons_zero,hpx,hsx,mkV,hz,cut_app,hp_take,ah.row,hN,hW,hs3,h5,hp1];rw [← Bool.not_and,slc_not];rfl
  |false=>
  cases hp2:cX b [47] with
  |true=>
   have hl2:1≤b.length:=by unfold cX at hp2;simp at hp2;omega
   have hs3:=sV (s:=b) (k:=.i64) (i:=1) hl2;rw [show ((1:Nat):Int)=1 from rfl] at hs3;have hN:=fun H=>kD M hB (s:=(⟨3,b.drop 1,false⟩:ah).text) (by simp only [bJ,List.length_drop,List.length_take];omega) H
   have hW:=fun H=>jv M hS (x:=⟨3,b.drop 1,false⟩) rfl (by simp only [List.length_drop,List.length_take];omega) H
   have hm:mkB c b=⟨3,b.drop 1,false⟩:=by rw [mkB,h5,hp1,hp2];rfl
   rw [hm];simp only [ah.row] at hW;rw [aP M hS.docs_marked rfl (c:=bE) rfl,bE];simp (maxSteps:=3000000) (maxDischargeDepth:=6) +contextual -implicitDefEqProofs only [amC M,↓amD,Nat.reduceBEq,Nat.reduceAdd,env,ao,fH,amG,AV.cell,Nat.reduceMul,Nat.reduceLeDiff,hIA,d1,hsl,hw,hs2,bk,aF,hp_set0,hc0,List.getElem?_cons_zero,hpx,hsx,mkV,hz,cut_app,hp_take,ah.row,hN,hW,hs3,h5,hp1,hp2];rw [← Bool.not_and,slc_not];rfl
  |false=>
  cases hp3:cX b [43] with
  |true=>
   have hl2:1≤b.length:=by unfold cX at hp3;simp at hp3;omega
   have hs3:=sV (s:=b) (k:=.i64) (i:=1) hl2;rw [show ((1:Nat):Int)=1 from rfl] at hs3;have hN:=fun H=>kD M hB (s:=(⟨2,b.drop 1,true⟩:ah).text) (by simp only [bJ,List.length_drop,List.length_take];omega) H
   have hW:=fun H=>jv M hS (x:=⟨2,b.drop 1,true⟩) rfl (by simp only [List.length_drop,List.length_take];omega) H
   have hm:mkB c b=⟨2,b.drop 1,true⟩:=by rw [mkB,h5,hp1,hp2,hp3];rfl
   rw [hm];simp only [ah.row] at hW;rw [aP M hS.docs_marked rfl (c:=bE) rfl,bE];simp (maxSteps:=3000000) (maxDischargeDepth:=6) +contextual -implicitDefEqProofs only [amC M,↓amD,Nat.reduceBEq,Nat.reduceAdd,env,ao,fH,amG,AV.cell,Nat.reduceMul,Nat.reduceLeDiff,hIA,d1,hsl,hw,hs2,bk,aF,hp_set0,hc0,List.getElem?_cons_zero,hpx,hsx,mkV,hz,cut_app,hp_take,ah.row,hN,hW,hs3,h5,hp1,hp2,hp3];rw [← Bool.not_and,slc_not];rfl
  |false=>
  cases hp4:l9 b [47] with
  |true=>
   have hl2:1≤b.length:=by unfold l9 at hp4;simp at hp4;omega
   have hs3:=FB (s:=b) (k:=.i64) (i:=b.length-1) (by omega);have hw3:IntKind.i64.wrap ((b.length:Int)-1)=((b.length-1:Nat):Int):=by rw [eJ (by omega) (by omega)];omega
   have hN:=fun H=>kD M hB (s:=(⟨4,b.take (b.length-1),false⟩:ah).text) (by simp only [bJ,List.length_drop,List.length_take];omega) H
   have hW:=fun H=>jv M hS (x:=⟨4,b.take (b.length-1),false⟩) rfl (by simp only [List.length_drop,List.length_take];omega) H
   have hm:mkB c b=⟨4,b.take (b.length-1),false⟩:=by rw [mkB,h5,hp1,hp2,hp3,hp4];rfl
   rw [hm];simp only [ah.row] at hW;rw [aP M hS.docs_marked rfl (c:=bE) rfl,bE];simp (maxSteps:=3000000) (maxDischargeDepth:=6) +contextual -implicitDefEqProofs only [amC M,↓amD,Nat.reduceBEq,Nat.reduceAdd,env,ao,fH,amG,AV.cell,Nat.reduceMul,Nat.reduceLeDiff,hIA,d1,hsl,hw,hs2,bk,aF,hp_set0,hc0,List.getElem?_cons_zero,hpx,hsx,mkV,hz,cut_app,hp_take,ah.row,hN,hW,hs3,hw3,h5,hp1,hp2,hp3,hp4];rw [← Bool.not_and,slc_not];rfl
  |false=>
   have hN:=fun H=>kD M hB (s:=(⟨2,b,false⟩:ah).text) (by simp only [bJ,List.length_drop,List.length_take];omega) H
   have hW:=fun H=>jv M hS (x:=⟨2,b,false⟩) rfl (by simp only [List.length_drop,List.length_take];omega) H
   have hm:mkB c b=⟨2,b,false⟩:=by rw [mkB,h5,hp1,hp2,hp3,hp4];rfl
   rw [hm];simp only [ah.row] at hW;rw [aP M hS.docs_marked rfl (c:=bE) rfl,bE];simp (maxSteps:=3000000) (maxDischargeDepth:=6) +contextual -implicitDefEqProofs only [amC M,↓amD,Nat.reduceBEq,Nat.reduceAdd,env,ao,fH,amG,AV.cell,Nat.reduceMul,Nat.reduceLeDiff,hIA,d1,hsl,hw,hs2,bk,aF,hp_set0,hc0,List.getElem?_cons_zero,hpx,hsx,mkV,hz,cut_app,hp_take,ah.row,hN,hW,h5,hp1,hp2,hp3,hp4];rw [← Bool.not_and,slc_not];rfl
end
section
attribute [local congr] aq aO aI au aH aC aw ak al aD aE
variable{E:aN}(M:a8 bn E)
theorem vm(c d:UInt8):((c.toNat:Int) == (d.toNat:Int))=(c == d):=by
 rw [Bool.eq_iff_iff,beq_iff_eq,beq_iff_eq];exact ⟨fun h=>UInt8.toNat_inj.1 (by omega),fun h=>by rw [h]⟩
theorem qB(c:UInt8):((c.toNat:Int) == 92)=(c == 92)∧((c.toNat:Int) == 60)=(c == 60)∧((c.toNat:Int) == 123)=(c == 123)∧((c.toNat:Int) == 125)=(c == 125)∧((c.toNat:Int) == 62)=(c == 62)∧((c.toNat:Int) == 47)=(c == 47)∧((c.toNat:Int) == 43)=(c == 43)∧((c.toNat:Int) == 32)=(c == 32)∧((c.toNat:Int) == 10)=(c == 10):=
 ⟨vm c 92,vm c 60,vm c 123,vm c 125,vm c 62,vm c 47,vm c 43,vm c 32,vm c 10⟩
def o8(x:ah):ah:=match x.text with
 |[]=>x
 |d::u=>sel ((d == 43)&&((x.kind == 2)||(x.kind == 3))) ⟨x.kind,u,true⟩ x
def CH(s:Str)(x:ah):ah×Bool:=(o8 x,kH (o8 x).text&&(wrF (o8 x) == s))
def rmk(s:Str):ah×Bool:=
 sel (decide ((s.length:Int)<3)) (dP,false) (sel ((s.getD 0 0 == 123)&&(s.getD (s.length-1) 0 == 125)) (CH s ⟨5,(s.drop 1).take (s.length-2),false⟩)
  (sel (!(s.getD 0 0 == 60) || !(s.getD (s.length-1) 0 == 62)) (⟨2,(s.drop 1).take (s.length-2),false⟩,false)
   (sel (s.getD 1 0 == 47) (CH s ⟨3,(s.drop 2).take (s.length-3),false⟩) (sel (s.getD (s.length-2) 0 == 47) (CH s ⟨4,(s.drop 1).take (s.length-3),false⟩) (CH s ⟨2,(s.drop 1).take (s.length-2),false⟩)))))
def uB(r:ah×Bool):AV:=.tuple [.agg r.1.row,.bool r.2]
end
structure LP (p:ah) (n:Nat) (s:Str):Prop where
 name:kH p.text=true
 kind:p.kind=2∨p.kind=3∨(p.kind=4∧p.car=false)∨(p.kind=5∧p.car=false)
 wr:wrF p=s.take n
 len:n=(wrF p).length
theorem zN{s:Str}(h:kH s=true):s.all inN=true∧∃ d u,s=d::u∧97≤d.toNat∧d.toNat≤122:=by
 cases s with
 |nil=>cases h
 |cons d u=>
  simp only [kH,Bool.and_eq_true,decide_eq_true_eq] at h;exact ⟨h.2,d,u,rfl,by omega,by omega⟩
theorem qU{c:UInt8}(h:inN c=true):dw c=false∧(c == 47)=false∧(c == 43)=false∧(c == 62)=false∧(c == 125)=false:=by
 have key:∀ n:Fin 256,inN (UInt8.ofNat n.val)=true→dw (UInt8.ofNat n.val)=false∧(UInt8.ofNat n.val == 47)=false∧(UInt8.ofNat n.val == 43)=false∧(UInt8.ofNat n.val == 62)=false∧(UInt8.ofNat n.val == 125)=false:=by decide
 have:=key ⟨c.toNat,c.toNat_lt⟩;simp only [UInt8.ofNat_toNat] at this;exact this h
theorem GC{p:UInt8→Bool}:∀ (b:Str) (e:UInt8) (rest:Str) (i:Nat),(∀ x∈b,p x=false)→p e=true→eV p i (b++e::rest)=((i+b.length:Nat):Int)
 |[],e,rest,i,_,he=>by simp [eV,he,sel]
 |x::b,e,rest,i,hb,he=>by
  have h1:=hb x (List.mem_cons_self ..);rw [List.cons_append,eV,h1,sel_false,GC b e rest (i+1) (fun y hy=>hb y (List.mem_cons_of_mem _ hy)) he];simp;omega
theorem Bw{c e:UInt8}{b rest:Str}{p:ah}(he:dw e=true)(hb:∀ x∈b,dw x=false)(hp:mkB c b=p)(hn:kH p.text=true)(hw:wrF p=c::(b++[e])) :
  mkO (c::(b++e::rest))=some (p,b.length+2):=by
 have h1:=GC b e rest 0 hb he;rw [Nat.zero_add] at h1;have h2:(b++e::rest).take b.length=b:=List.take_left' rfl
 have h3:(b++e::rest).take (b.length+1)=b++[e]:=by
  rw [show b++e::rest=(b++[e])++rest by simp];exact List.take_left' (by simp)
 rw [mkO,h1,show decide (((b.length:Nat):Int)<0)=false from decide_eq_false (by omega),sel_false,mkT,show ((b.length:Nat):Int).toNat=b.length from rfl,h2,h3,hp,hn,hw];simp [sel]
theorem kI{d:UInt8}{u p:Str}{q:UInt8}(h:(d == q)=false):cX (d::u) (q::p)=false:=by
 unfold cX;rw [Bool.and_eq_false_iff];right;rw [List.length_cons,List.take_succ_cons,beq_eq_false_iff_ne];intro e;simp at e h;exact h e.1
theorem zO(d:UInt8)(u:Str):cX (d::u) [d]=true:=by simp [cX]
theorem Ei(b:Str):l9 (b++[47]) [47]=true:=by simp [l9]
theorem HY{b:Str}{x:UInt8}(h:(x == 47)=false):l9 (b++[x]) [47]=false:=by
 simp [l9] at h ⊢;exact h
theorem GD{b:Str}(h:b≠[]):∃ a x,b=a++[x]:=⟨b.dropLast,b.getLast h,(List.dropLast_concat_getLast h).symm⟩
theorem N7{s:Str}{p:ah}{n:Nat}(h:mkO s=some (p,n)):LP p n s:=by
 cases s with
 |nil=>cases h
 |cons c t=>
  rw [mkO] at h;cases h1:decide (eV dw 0 t<0) with
  |true=>rw [h1] at h;cases h
  |false=>
   rw [h1,sel_false] at h;rcases uA (p:=dw) t 0 with ⟨h2,_⟩ | ⟨j,hj,h2,_,_,_⟩
   ·rw [h2] at h1;cases h1
   ·rw [h2,show ((0+j:Nat):Int).toNat=j by simp] at h
    cases h3:mkT c t j with
    |false=>rw [h3] at h;cases h
    |true=>
     rw [h3] at h;simp only [sel,Option.some.injEq,Prod.mk.injEq] at h;obtain ⟨rfl,rfl⟩:=h;simp only [mkT,Bool.and_eq_true,beq_iff_eq] at h3;refine ⟨h3.1, ?_,by rw [h3.2];simp,by rw [h3.2];simp;omega⟩;unfold mkB;cases c == 123<;>cases cX (t.take j) [47,43]<;>cases cX (t.take j) [47]<;>cases cX (t.take j) [43]<;>cases l9 (t.take j) [47]<;>simp [sel]
theorem N8{s:Str}{p:ah}{n:Nat}(h:LP p n s):mkO s=some (p,n):=by
 obtain ⟨hn,hk,hw,hl⟩:=h;obtain ⟨hall,d,u,ht,hd1,hd2⟩:=zN hn;have hs:s=wrF p++s.drop n:=by rw [hw,List.take_append_drop]
 generalize s.drop n=rest at hs;have hin:∀ x∈p.text,inN x=true:=by simpa using hall
 have hne:∀ x∈p.text,dw x=false:=fun x hx=>(qU (hin x hx)).1
 have hd:=qU (hin d (by rw [ht];exact List.mem_cons_self ..));obtain ⟨k,tx,ca⟩:=p;dsimp only at *
 rcases hk with rfl | rfl | ⟨rfl,rfl⟩ | ⟨rfl,rfl⟩
 ·cases ca with
  |false=>
   have e:wrF ⟨2,tx,false⟩=60::(tx++[62]):=by simp [wrF,gv,sel]
   have hm:mkB 60 tx=⟨2,tx,false⟩:=by
    obtain ⟨a,x,hax⟩:=GD (b:=tx) (by rw [ht];simp);have hx:=qU (hin x (by rw [hax];simp));have q1:cX tx [47,43]=false:=by rw [ht];exact kI hd.2.1
    have q2:cX tx [47]=false:=by rw [ht];exact kI hd.2.1
    have q3:cX tx [43]=false:=by rw [ht];exact kI hd.2.2.1
    have q4:l9 tx [47]=false:=by rw [hax];exact HY hx.2.1
    rw [mkB,q1,q2,q3,q4];rfl
   have:=Bw (c:=60) (e:=62) (rest:=rest) rfl hne hm hn e;rw [hs,e,hl,e];simpa using this
  |true=>
   have e:wrF ⟨2,tx,true⟩=60::((43::tx)++[62]):=by simp [wrF,gv,sel]
   have hm:mkB 60 (43::tx)=⟨2,tx,true⟩:=by
    rw [mkB,kI (d:=43) (q:=47) rfl,kI (d:=43) (q:=47) rfl,zO];rfl
   have:=Bw (c:=60) (e:=62) (b:=43::tx) (rest:=rest) rfl (by intro x hx;rcases List.mem_cons.1 hx with rfl | hx;rfl;exact hne x hx) hm hn e;rw [hs,e,hl,e];simpa using this
 ·cases ca with
  |false=>
   have e:wrF ⟨3,tx,false⟩=60::((47::tx)++[62]):=by simp [wrF,gv,sel]
   have hm:mkB 60 (47::tx)=⟨3,tx,false⟩:=by
    have q1:cX (47::tx) [47,43]=false:=by
     rw [ht];unfold cX;have:=hd.2.2.1;simp at this ⊢;exact this
    rw [mkB,q1,zO];rfl
   have:=Bw (c:=60) (e:=62) (b:=47::tx) (rest:=rest) rfl (by intro x hx;rcases List.mem_cons.1 hx with rfl | hx;rfl;exact hne x hx) hm hn e;rw [hs,e,hl,e];simpa using this
  |true=>
   have e:wrF ⟨3,tx,true⟩=60::((47::43::tx)++[62]):=by simp [wrF,gv,sel]
   have hm:mkB 60 (47::43::tx)=⟨3,tx,true⟩:=by
    have q1:cX (47::43::tx) [47,43]=true:=by simp [cX]
    rw [mkB,q1];rfl
   have:=Bw (c:=60) (e:=62) (b:=47::43::tx) (rest:=rest) rfl (by intro x hx;rcases List.mem_cons.1 hx with rfl | hx;rfl;rcases List.mem_cons.1 hx with rfl | hx;rfl;exact hne x hx) hm hn e;rw [hs,e,hl,e];simpa using this
 ·have e:wrF ⟨4,tx,false⟩=60::((tx++[47])++[62]):=by simp [wrF,sel]
  have hm:mkB 60 (tx++[47])=⟨4,tx,false⟩:=by
   have q1:cX (tx++[47]) [47,43]=false:=by rw [ht];exact kI hd.2.1
   have q2:cX (tx++[47]) [47]=false:=by rw [ht];exact kI hd.2.1
   have q3:cX (tx++[47]) [43]=false:=by rw [ht];exact kI hd.2.2.1
   rw [mkB,q1,q2,q3,Ei];simp [sel]
  have:=Bw (c:=60) (e:=62) (b:=tx++[47]) (rest:=rest) rfl (by intro x hx;rcases List.mem_append.1 hx with hx | hx;exact hne x hx;simp at hx;subst hx;rfl) hm hn e;rw [hs,e,hl,e];simpa using this
 ·have e:wrF ⟨5,tx,false⟩=123::(tx++[125]):=by simp [wrF,sel]
  have hm:mkB 123 tx=⟨5,tx,false⟩:=rfl;have:=Bw (c:=123) (e:=125) (rest:=rest) rfl hne hm hn e;rw [hs,e,hl,e];simpa using this
def HZ(c:UInt8):UInt8:=if (c == 123)=true then 125 else 62
theorem FE(x:ah)(h:x.car=false):(o8 x).kind=x.kind∧((o8 x).car=true→x.kind=2∨x.kind=3):=by
 unfold o8;cases x.text with
 |nil=>exact ⟨rfl,fun h2=>by rw [h] at h2;cases h2⟩
 |cons d u=>
  dsimp only;cases hb:(d == 43)&&((x.kind == 2)||(x.kind == 3)) with
  |false=>exact ⟨rfl,fun h2=>by rw [sel_false,h] at h2;cases h2⟩
  |true=>
   refine ⟨rfl,fun _ => ?_⟩;simp only [Bool.and_eq_true,Bool.or_eq_true,beq_iff_eq] at hb;exact hb.2
theorem JQ{s:Str}(h:(rmk s).2=true):LP (rmk s).1 s.length s:=by
 have key:∀ x:ah,x.car=false→(x.kind=2∨x.kind=3∨x.kind=4∨x.kind=5)→(CH s x).2=true→LP (CH s x).1 s.length s:=fun x hx hk h2=>by
  simp only [CH,Bool.and_eq_true,beq_iff_eq] at h2 ⊢;obtain ⟨k1,k2⟩:=FE x hx;refine ⟨h2.1, ?_,by rw [h2.2,List.take_length],by rw [h2.2]⟩;rw [k1];rcases hk with hk | hk | hk | hk
  ·exact .inl hk
  ·exact .inr (.inl hk)
  ·refine .inr (.inr (.inl ⟨hk, ?_⟩))
   cases hc:(o8 x).car with
   |false=>rfl
   |true=>have:=k2 hc;omega
  ·refine .inr (.inr (.inr ⟨hk, ?_⟩))
   cases hc:(o8 x).car with
   |false=>rfl
   |true=>have:=k2 hc;omega
 unfold rmk at h ⊢;cases h1:decide ((s.length:Int)<3) with
 |true=>rw [h1] at h;cases h
 |false=>
 rw [h1,sel_false] at h;simp only [sel_false];cases h2:(s.getD 0 0 == 123)&&(s.getD (s.length-1) 0 == 125) with
 |true=>rw [h2,sel_true] at h;exact key _ rfl (by simp) h
 |false=>
 rw [h2,sel_false] at h;simp only [sel_false];cases h3 : !(s.getD 0 0 == 60) || !(s.getD (s.length-1) 0 == 62) with
 |true=>rw [h3] at h;cases h
 |false=>
 rw [h3,sel_false] at h;simp only [sel_false];cases h4:s.getD 1 0 == 47 with
 |true=>rw [h4,sel_true] at h;exact key _ rfl (by simp) h
 |false=>
 rw [h4,sel_false] at h;simp only [sel_false];cases h5:s.getD (s.length-2) 0 == 47 with
 |true=>rw [h5,sel_true] at h;exact key _ rfl (by simp) h
 |false=>rw [h5,sel_false] at h;exact key _ rfl (by simp) h
theorem qc{a:Str}{x:UInt8}{b:Str}:(a++x::b).getD a.length 0=x:=by simp [List.getD]
theorem JR{x:ah}{d:UInt8}{u:Str}(h:x.text=d::u)(hd:(d == 43)=false):o8 x=x:=by
 unfold o8;rw [h];simp [hd,sel]
theorem JS{p:ah}(hn:kH p.text=true)(hk:p.kind=2∨p.kind=3∨(p.kind=4∧p.car=false)∨(p.kind=5∧p.car=false)):rmk (wrF p)=(p,true):=by
 obtain ⟨hall,d,u,ht,hd1,hd2⟩:=zN hn;have hin:∀ x∈p.text,inN x=true:=by simpa using hall
 have hd:=qU (hin d (by rw [ht];exact List.mem_cons_self ..));obtain ⟨a,x,hax⟩:=GD (b:=p.text) (by rw [ht];simp);have hx:=qU (hin x (by rw [hax];simp));obtain ⟨k,tx,ca⟩:=p;dsimp only at *
 have hlen:1≤tx.length:=by rw [ht];simp
 have fin:∀ (s:Str) (y q:ah),o8 y=q→kH q.text=true→wrF q=s→CH s y=(q,true):=fun s y q h1 h2 h3=>by
  simp [CH,h1,h2,h3]
 have pn:∀ k,o8 ⟨k,tx,false⟩=⟨k,tx,false⟩:=fun k=>JR ht hd.2.2.1
 rcases hk with rfl | rfl | ⟨rfl,rfl⟩ | ⟨rfl,rfl⟩
 ·cases ca with
  |false=>
   have e:wrF ⟨2,tx,false⟩=60::(tx++[62]):=by simp [wrF,gv,sel]
   have e0:(60::(tx++[62]):Str).length=tx.length+2:=by simp
   have c1:decide (((60::(tx++[62]):Str).length:Int)<3)=false:=decide_eq_false (by rw [e0];omega);have c3:(60::(tx++[62]):Str).getD ((60::(tx++[62]):Str).length-1) 0=62:=by rw [e0];exact qc (a:=60::tx)
   have c4:(60::(tx++[62]):Str).getD 1 0=d:=by rw [ht];rfl
   have c5:(60::(tx++[62]):Str).getD ((60::(tx++[62]):Str).length-2) 0=x:=by
    rw [e0,hax];simp [List.getD]
   have c6:((60::(tx++[62]):Str).drop 1).take ((60::(tx++[62]):Str).length-2)=tx:=by rw [e0];simp
   rw [e,rmk,c1,c3,c4,c5,c6,hd.2.1,hx.2.1];exact fin _ _ _ (pn 2) hn e
  |true=>
   have e:wrF ⟨2,tx,true⟩=60::43::(tx++[62]):=by simp [wrF,gv,sel]
   have e0:(60::43::(tx++[62]):Str).length=tx.length+3:=by simp
   have c1:decide (((60::43::(tx++[62]):Str).length:Int)<3)=false:=decide_eq_false (by rw [e0];omega);have c3:(60::43::(tx++[62]):Str).getD ((60::43::(tx++[62]):Str).length-1) 0=62:=by rw [e0];exact qc (a:=60::43::tx)
   have c5:(60::43::(tx++[62]):Str).getD ((60::43::(tx++[62]):Str).length-2) 0=x:=by
    rw [e0,hax];simp [List.getD]
   have c6:((60::43::(tx++[62]):Str).drop 1).take ((60::43::(tx++[62]):Str).length-2)=43::tx:=by rw [e0];simp
   have hp:o8 ⟨2,43::tx,false⟩=⟨2,tx,true⟩:=rfl;rw [e,rmk,c1,c3,c5,c6,hx.2.1];exact fin _ _ _ hp hn e
 ·cases ca with
  |false=>
   have e:wrF ⟨3,tx,false⟩=60::47::(tx++[62]):=by simp [wrF,gv,sel]
   have e0:(60::47::(tx++[62]):Str).length=tx.length+3:=by simp
   have c1:decide (((60::47::(tx++[62]):Str).length:Int)<3)=false:=decide_eq_false (by rw [e0];omega);have c3:(60::47::(tx++[62]):Str).getD ((60::47::(tx++[62]):Str).length-1) 0=62:=by rw [e0];exact qc (a:=60::47::tx)
   have c6:((60::47::(tx++[62]):Str).drop 2).take ((60::47::(tx++[62]):Str).length-3)=tx:=by rw [e0];simp
   rw [e,rmk,c1,c3,c6];exact fin _ _ _ (pn 3) hn e
  |true=>
   have e:wrF ⟨3,tx,true⟩=60::47::43::(tx++[62]):=by simp [wrF,gv,sel]
   have e0:(60::47::43::(tx++[62]):Str).length=tx.length+4:=by simp
   have c1:decide (((60::47::43::(tx++[62]):Str).length:Int)<3)=false:=decide_eq_false (by rw [e0];omega);have c3:(60::47::43::(tx++[62]):Str).getD ((60::47::43::(tx++[62]):Str).length-1) 0=62:=by rw [e0];exact qc (a:=60::47::43::tx)
   have c6:((60::47::43::(tx++[62]):Str).drop 2).take ((60::47::43::(tx++[62]):Str).length-3)=43::tx:=by rw [e0];simp
   have hp:o8 ⟨3,43::tx,false⟩=⟨3,tx,true⟩:=rfl;rw [e,rmk,c1,c3,c6];exact fin _ _ _ hp hn e
 ·have e:wrF ⟨4,tx,false⟩=60::(tx++[47,62]):=by simp [wrF,sel]
  have e0:(60::(tx++[47,62]):Str).length=tx.length+3:=by simp
  have c1:decide (((60::(tx++[47,62]):Str).length:Int)<3)=false:=decide_eq_false (by rw [e0];omega);have c3:(60::(tx++[47,62]):Str).getD ((60::(tx++[47,62]):Str).length-1) 0=62:=by rw [e0];simp [List.getD]
  have c4:(60::(tx++[47,62]):Str).getD 1 0=d:=by rw [ht];rfl
  have c5:(60::(tx++[47,62]):Str).getD ((60::(tx++[47,62]):Str).length-2) 0=47:=by rw [e0];exact qc (a:=60::tx)
  have c6:((60::(tx++[47,62]):Str).drop 1).take ((60::(tx++[47,62]):Str).length-3)=tx:=by rw [e0];simp
  rw [e,rmk,c1,c3,c4,c5,c6,hd.2.1];exact fin _ _ _ (pn 4) hn e
 ·have e:wrF ⟨5,tx,false⟩=123::(tx++[125]):=by simp [wrF,sel]
  have e0:(123::(tx++[125]):Str).length=tx.length+2:=by simp
  have c1:decide (((123::(tx++[125]):Str).length:Int)<3)=false:=decide_eq_false (by rw [e0];omega);have c3:(123::(tx++[125]):Str).getD ((123::(tx++[125]):Str).length-1) 0=125:=by rw [e0];exact qc (a:=123::tx)
  have c6:((123::(tx++[125]):Str).drop 1).take ((123::(tx++[125]):Str).length-2)=tx:=by rw [e0];simp
  rw [e,rmk,c1,c3,c6];exact fin _ _ _ (pn 5) hn e
theorem JT{p:ah}(hn:kH p.text=true)(hk:p.kind=2∨p.kind=3∨(p.kind=4∧p.car=false)∨(p.kind=5∧p.car=false)) :
  ∃ (c:UInt8) (w:Str),wrF p=c::(w++[HZ c])∧∀ x∈c::w,(x == HZ c)=false:=by
 obtain ⟨hall,d,u,ht,hd1,hd2⟩:=zN hn;have hin:∀ x∈p.text,inN x=true:=by simpa using hall
 have h62:∀ x∈p.text,(x == 62)=false:=fun x hx=>(qU (hin x hx)).2.2.2.1
 have h125:∀ x∈p.text,(x == 125)=false:=fun x hx=>(qU (hin x hx)).2.2.2.2
 obtain ⟨k,tx,ca⟩:=p;dsimp only at *
 rcases hk with rfl | rfl | ⟨rfl,rfl⟩ | ⟨rfl,rfl⟩
 ·refine ⟨60,gv ⟨2,tx,ca⟩++tx,by cases ca<;>simp [wrF,gv,sel,HZ],fun x hx => ?_⟩
  rcases List.mem_cons.1 hx with rfl | hx
  ·rfl
  rcases List.mem_append.1 hx with hx | hx
  ·cases ca
   ·cases hx
   ·simp [gv,sel] at hx;subst hx;rfl
  ·exact h62 x hx
 ·refine ⟨60,47::(gv ⟨3,tx,ca⟩++tx),by cases ca<;>simp [wrF,gv,sel,HZ],fun x hx => ?_⟩
  rcases List.mem_cons.1 hx with rfl | hx
  ·rfl
  rcases List.mem_cons.1 hx with rfl | hx
  ·rfl
  rcases List.mem_append.1 hx with hx | hx
  ·cases ca
   ·cases hx
   ·simp [gv,sel] at hx;subst hx;rfl
  ·exact h62 x hx
 ·refine ⟨60,tx++[47],by simp [wrF,sel,HZ],fun x hx => ?_⟩
  rcases List.mem_cons.1 hx with rfl | hx
  ·rfl
  rcases List.mem_append.1 hx with hx | hx
  ·exact h62 x hx
  ·simp at hx;subst hx;rfl
 ·refine ⟨123,tx,by simp [wrF,sel,HZ],fun x hx => ?_⟩
  rcases List.mem_cons.1 hx with rfl | hx
  ·rfl
  ·exact h125 x hx
section
attribute [local congr] aq aO aI au aH aC aw ak al aD aE
variable{E:aN}(M:a8 bn E)
def AX(N:Nat)(e:TypeId)(sz:Nat)(G:List AObj)(v:AV)(rows:List (List AV)):Prop:=
 (rows=[]∧v = .slice .nil sz [])∨∃ t,N≤t∧v = .slice (.own t) sz rows∧G[t]?=some (.tok (rows.length*sz) e)
def GE(N b:Nat)(e:TypeId)(G G':List AObj):Prop:=
 G.length≤G'.length∧(∀ i,i<N→i≠b→G'[i]?=G[i]?)∧∀ i,i<G.length→i≠b→(∀ n,G[i]?≠some (.tok n e))→G'[i]?=G[i]?
theorem GE.refl(N b:Nat)(e:TypeId)(G:List AObj):GE N b e G G:=⟨Nat.le_refl _,fun _ _ _=>rfl,fun _ _ _ _=>rfl⟩
theorem AX.cell{N:Nat}{e:TypeId}{sz:Nat}{G:List AObj}{v:AV}{rows:List (List AV)}(h:AX N e sz G v rows):v.cell=true∧bC v=some [v]:=by
 rcases h with ⟨_,rfl⟩ | ⟨t,_,rfl,_⟩<;>exact ⟨rfl,rfl⟩
theorem AX.len{N:Nat}{e:TypeId}{sz:Nat}{G:List AObj}{v:AV}{rows:List (List AV)}(h:AX N e sz G v rows)(H:List AObj):o9 H .sl v=some (.int .i64 (rows.length:Int)):=by
 rcases h with ⟨rfl,rfl⟩ | ⟨t,_,rfl,_⟩<;>rfl
theorem AX.stay{N:Nat}{e:TypeId}{sz:Nat}{G G':List AObj}{v:AV}{rows:List (List AV)}(h:AX N e sz G v rows)(hs:∀ t,N≤t→G[t]?=some (.tok (rows.length*sz) e)→G'[t]?=G[t]?):AX N e sz G' v rows:=by
 rcases h with ⟨h1,h2⟩ | ⟨t,ht,h1,hg⟩
 ·exact .inl ⟨h1,h2⟩
 ·exact .inr ⟨t,ht,h1,by rw [hs t ht hg];exact hg⟩
structure H6 (N b:Nat) (G:List AObj) (w:Str):Prop where
 ex:∃ ad bv,G[b]?=some (.cells [ad,bv] k9)∧(ad = .nilp∨ad = .ptr b 0)∧AX N qE 1 G bv (N4 w)
theorem JU{G:List AObj}{b:Nat}{cs:List AV}{T:TypeId}(h:G[b]?=some (.cells cs T))(n:Nat)(e:TypeId):G[b]?≠some (.tok n e):=by rw [h];simp
def Ej(N o:Nat)(G:List AObj)(l:List ah):Prop:=∃ ov,G[o]?=some (.cells [ov] aj)∧AX N ae 3 G ov (l.map ah.row)
theorem Ej.turn{N o b:Nat}{G G':List AObj}{l:List ah}(h:Ej N o G l)(ht:GE N b qE G G')(hob:o≠b)(hb:∃ cs T,G[b]?=some (.cells cs T))(hne:ae≠qE):Ej N o G' l:=by
 obtain ⟨ov,h1,h2⟩:=h;obtain ⟨cs,T,hb⟩:=hb;refine ⟨ov,by rw [ht.2.2 o (bp h1) hob (fun n=>JU h1 n _)];exact h1,h2.stay fun t _ hg=>ht.2.2 t (bp hg) ?_ ?_⟩
 ·rintro rfl;rw [hb] at hg;cases hg
 ·intro n h3;rw [hg] at h3;injection h3 with h3;injection h3 with _ h3;exact hne h3
theorem H6.app{N b:Nat}{G:List AObj}{w:Str}(h:H6 N b G w)(L:List AObj):H6 N b (G++L) w:=by
 obtain ⟨ad,bv,h1,ha,h2⟩:=h.ex;exact ⟨ad,bv,br h1,ha,h2.stay fun t _ hg=>by rw [List.getElem?_append_left (bp hg)]⟩
theorem Ej.app{N o:Nat}{G:List AObj}{l:List ah}(h:Ej N o G l)(L:List AObj):Ej N o (G++L) l:=by
 obtain ⟨ov,h1,h2⟩:=h;exact ⟨ov,br h1,h2.stay fun t _ hg=>by rw [List.getElem?_append_left (bp hg)]⟩
theorem H6.turn{N o b:Nat}{G G':List AObj}{w:Str}(h:H6 N b G w)(ht:GE N o ae G G')(hob:o≠b)(ho:∃ cs T,G[o]?=some (.cells cs T))(hne:ae≠qE):H6 N b G' w:=by
 obtain ⟨ad,bv,h1,ha,h2⟩:=h.ex;obtain ⟨cs,T,ho⟩:=ho;refine ⟨ad,bv,by rw [ht.2.2 b (bp h1) (Ne.symm hob) (fun n=>JU h1 n _)];exact h1,ha,h2.stay fun t _ hg=>ht.2.2 t (bp hg) ?_ ?_⟩
 ·rintro rfl;rw [ho] at hg;cases hg
 ·intro n h3;rw [hg] at h3;injection h3 with h3;injection h3 with _ h3;exact hne h3.symm
end
section
attribute [local congr] aq aO aI au aH aC aw ak al aD aE
variable{E:aN}(M:a8 bn E)
structure RdB (i:Nat) (w:Str) (out:List ah):Prop where
 w:w.length≤i
 n:out.length≤2*i
 t:∀ x∈out,x.text.length≤65536
theorem Ej.val{N o:Nat}{G:List AObj}{l:List ah}(h:Ej N o G l):∃ tg,G[o]?=some (.cells [.slice tg 3 (l.map ah.row)] aj)∧yQ G.length tg∧AX N ae 3 G (.slice tg 3 (l.map ah.row)) (l.map ah.row):=by
 obtain ⟨ov,h1,h2⟩:=h;rcases h2 with ⟨h3,rfl⟩ | ⟨t,ht,rfl,hg⟩
 ·rw [h3];exact ⟨.nil,h1,trivial,.inl ⟨rfl,rfl⟩⟩
 ·exact ⟨.own t,h1,bp hg,.inr ⟨t,ht,rfl,hg⟩⟩
end
section
attribute [local congr] aq aO aI au aH aC aw ak al aD aE
variable{E:aN}(M:a8 bn E)
end
section
attribute [local congr] aq aO aI au aH aC aw ak al aD aE
variable{E:aN}(M:a8 bn E)
structure OA (E:aN):Prop where
end
structure Un where
 r:Int
 hole:Bool
def Un.row(x:Un):List AV:=[.int .i32 x.r,.bool x.hole]
theorem qUn:(∀ x:Un,pS 2 (Un.row x)=some (Un.row x))∧(∀ x:Un,bt none (Un.row x) 0=some (.int .i32 x.r))∧(∀ x:Un,bt none (Un.row x) 1=some (.bool x.hole))∧(∀ x:Un,(Un.row x).length=2)∧(∀ x:Un,(Un.row x).all AV.cell=true)∧(∀ x:Un,∀ c0 c1:AV,bf [c0,c1] 0 (Un.row x)=Un.row x)∧(∀ x:Un,∀ y:Un,bf (Un.row y) 0 (Un.row x)=Un.row x)∧(∀ x:Un,∀ (y:Int),bf (Un.row x) 0 [.int .i32 y]=Un.row { x with r:=y })∧(∀ x:Un,∀ (y:Bool),bf (Un.row x) 1 [.bool y]=Un.row { x with hole:=y })∧(∀ x:Un,(Un.row x).map AV.strip=Un.row x)∧(∀ x:Un,(Un.row x).take 2=Un.row x)∧(∀ x:Un,(Un.row x).drop 2=[]):=
 by refine ⟨?_, ?_, ?_, ?_, ?_, ?_, ?_, ?_, ?_, ?_, ?_, ?_⟩<;>(intros;first | rfl | (simp only [Un.row];rfl) | (simp only [Un.row,Bk];rfl))
structure Un.ok (n:Nat) (x:Un):Prop where
 triv:True
theorem Un.ok.mono{n m:Nat}{x:Un}(h:x.ok n)(hn:n≤m):x.ok m:=⟨trivial⟩
structure Fit where
 cls:Bool
 r:Int
def Fit.row(x:Fit):List AV:=[.bool x.cls,.int .i32 x.r]
structure Fit.ok (n:Nat) (x:Fit):Prop where
 triv:True
theorem Fit.ok.mono{n m:Nat}{x:Fit}(h:x.ok n)(hn:n≤m):x.ok m:=⟨trivial⟩
section
attribute [local congr] aq aO aI au aH aC aw ak al aD aE
variable{E:aN}(M:a8 bn E)
structure qV (E:aN):Prop where
 docs_unit_letter:E.fn eM=some gH
 docs_unit_digit:E.fn ft=some iN
 docs_unit_blank:E.fn iK=some iO
 docs_unit_mark:E.fn gd=some jE
 docs_unit_word:E.fn eH=some jD
 docs_units:E.fn k8=some nJ
 truchmanref01_letter:E.fn gE=some lq
 truchmanref01_digit:E.fn iw=some lO
 truchmanref01_inWord:E.fn gB=some ll
 truchmanref01_mark:E.fn mL=some mP
def xR(u:Un):Bool := !u.hole&&(decide (65≤u.r)&&decide (u.r≤90)||decide (97≤u.r)&&decide (u.r≤122)||decide (127<u.r))
def CI(u:Un):Bool := !u.hole&&decide (48≤u.r)&&decide (u.r≤57)
def FF(u:Un):Bool := !u.hole&&(u.r == 32)
def nA(u:Un):Bool := !u.hole && !xR u && !CI u && !FF u
def lA(u:Un):Bool:=u.hole||xR u||CI u
theorem w4(hU:qV E)(u:Un)(H:List AObj):M.run eM [.agg u.row] H=some (.ret (.bool (xR u)),H):=by
 rw [aP M hU.docs_unit_letter rfl (c:=kx) rfl,kx];cases hh:u.hole<;>simp (maxSteps:=3000000) (maxDischargeDepth:=6) +contextual -implicitDefEqProofs only [amC M,↓amD,Nat.reduceBEq,Nat.reduceAdd,env,ao,uh,amG,AV.cell,Nat.reduceMul,Nat.reduceLeDiff,qUn,aF,hh,xR,cut_app,hp_take]
theorem zP(hU:qV E)(u:Un)(H:List AObj):M.run ft [.agg u.row] H=some (.ret (.bool (CI u)),H):=by
 rw [aP M hU.docs_unit_digit rfl (c:=lg) rfl,lg];cases hh:u.hole<;>simp (maxSteps:=3000000) (maxDischargeDepth:=6) +contextual -implicitDefEqProofs only [amC M,↓amD,Nat.reduceBEq,Nat.reduceAdd,env,ao,vc,amG,AV.cell,Nat.reduceMul,Nat.reduceLeDiff,qUn,aF,hh,CI,cut_app,hp_take]
theorem FG(hU:qV E)(u:Un)(H:List AObj):M.run iK [.agg u.row] H=some (.ret (.bool (FF u)),H):=by
 rw [aP M hU.docs_unit_blank rfl (c:=lj) rfl,lj];cases hh:u.hole<;>simp (maxSteps:=3000000) (maxDischargeDepth:=6) +contextual -implicitDefEqProofs only [amC M,↓amD,Nat.reduceBEq,Nat.reduceAdd,env,ao,vd,amG,AV.cell,Nat.reduceMul,Nat.reduceLeDiff,qUn,aF,hh,FF,cut_app,hp_take]
theorem Bx(hU:qV E)(u:Un)(H:List AObj):M.run gd [.agg u.row] H=some (.ret (.bool (nA u)),H):=by
 rw [aP M hU.docs_unit_mark rfl (c:=l3) rfl,l3];cases hh:u.hole<;>simp (maxSteps:=3000000) (maxDischargeDepth:=6) +contextual -implicitDefEqProofs only [amC M,↓amD,Nat.reduceBEq,Nat.reduceAdd,env,ao,vQ,amG,AV.cell,Nat.reduceMul,Nat.reduceLeDiff,qUn,aF,hh,nA,cut_app,hp_take,w4 M hU,zP M hU,FG M hU]
theorem By(hU:qV E)(u:Un)(H:List AObj):M.run eH [.agg u.row] H=some (.ret (.bool (lA u)),H):=by
 rw [aP M hU.docs_unit_word rfl (c:=lZ) rfl,lZ];cases hh:u.hole<;>simp (maxSteps:=3000000) (maxDischargeDepth:=6) +contextual -implicitDefEqProofs only [amC M,↓amD,Nat.reduceBEq,Nat.reduceAdd,env,ao,vP,amG,AV.cell,Nat.reduceMul,Nat.reduceLeDiff,qUn,aF,hh,lA,cut_app,hp_take,w4 M hU,zP M hU]
end
section
attribute [local congr] aq aO aI au aH aC aw ak al aD aE
variable{E:aN}(M:a8 bn E)
end
section
attribute [local congr] aq aO aI au aH aC aw ak al aD aE
variable{E:aN}(M:a8 bn E)
def unR(r:Nat):Un:=⟨(r:Int),false⟩
def unH:Un:=⟨0,true⟩
def unP(x:ah):List Un:=sel (x.kind == 5) [unH] (sel (x.kind == 1) ((aS x.text).map unR) [])
def unL(l:List ah):List Un:=(l.map unP).flatten
end
section
attribute [local congr] aq aO aI au aH aC aw ak al aD aE
variable{E:aN}(M:a8 bn E)
end
section
attribute [local congr] aq aO aI au aH aC aw ak al aD aE
variable{E:aN}(M:a8 bn E)
end
section
attribute [local congr] aq aO aI au aH aC aw ak al aD aE
variable{E:aN}(M:a8 bn E)
end
section
attribute [local congr] aq aO aI au aH aC aw ak al aD aE
variable{E:aN}(M:a8 bn E)
end
section
attribute [local congr] aq aO aI au aH aC aw ak al aD aE
variable{E:aN}(M:a8 bn E)
end
section
attribute [local congr] aq aO aI au aH aC aw ak al aD aE
variable{E:aN}(M:a8 bn E)
end
section
attribute [local congr] aq aO aI au aH aC aw ak al aD aE
variable{E:aN}(M:a8 bn E)
def GF(v:AV):List AV:=[v]
end
section
attribute [local congr] aq aO aI au aH aC aw ak al aD aE
variable{E:aN}(M:a8 bn E)
end
section
attribute [local congr] aq aO aI au aH aC aw ak al aD aE
variable{E:aN}(M:a8 bn E)
structure JV (E:aN):Prop where
 seq:E.seq i9=u6
 sar:E.sar i9=1
theorem GG{α:Type}{row:α→List AV}{l:List α}{x:α}{r:List AV}{sz bytes t:Nat}{e:TypeId}{H:List AObj}(ht:H[t]?=some (.tok (l.length*sz) e))(h1:r.length=sz)(h2:r.all AV.cell=true)(h3:r.map AV.strip=row x)
  (hl:(l.length+1)*bytes≤140737488355328) (hl2:l.length+1≤4611686018427387904) :
  rap false H e sz bytes false (.slice (.own t) sz (l.map row)) (.slice .full sz [r])=some (.slice (.own t) sz ((l++[x]).map row),H.set t (.tok ((l++[x]).length*sz) e)):=by
 simp only [rap,Ap,tl,List.length_map,List.length_cons,List.length_nil,Nat.zero_add,or_true,if_true,hl,hl2,ug h1 h2,and_true,true_and,ht,List.map_cons,List.map_nil,h3,List.map_append,List.length_append,Nat.add_mul,Nat.one_mul];rw [Nat.add_mul,Nat.one_mul] at hl;rw [if_pos hl]
theorem FH{sz bytes:Nat}{e:TypeId}{r:List AV}(H:List AObj)(h1:r.length=sz)(h2:r.all AV.cell=true)(hb:bytes≤140737488355328) :
  rap false H e sz bytes false (.slice .nil sz []) (.slice .full sz [r])=some (.slice (.own H.length) sz [r.map AV.strip],H++[.tok sz e]):=by
 simp only [rap,Ap,tl,List.length_cons,List.length_nil,Nat.zero_add,or_true,if_true,ug h1 h2,and_true,true_and,List.map_cons,List.map_nil,Nat.one_mul];rw [if_pos ⟨hb,by omega⟩];rfl
theorem FI(hU:qV E){l:List ah}{t:Tag}(H:List AObj):M.run k8 [.slice t 3 (l.map ah.row)] H=some (.ret (.fn (.func i9) [] [.ptr H.length 0]),H++[.cells [.slice t 3 (l.map ah.row)] aj]):=by
 rw [aP M hU.docs_units rfl (c:=qI) rfl,qI];simp (maxSteps:=3000000) (maxDischargeDepth:=6) +contextual -implicitDefEqProofs only [amC M,↓amD,Nat.reduceBEq,Nat.reduceAdd,env,ao,Cw,amG,AV.cell,Nat.reduceMul,Nat.reduceLeDiff]
theorem w5:∀ l:List ah,pV (l.map ah.row)=some ((unL l).map fun u=>[.agg u.row])
 |[]=>rfl
 |x::l=>by
  rw [List.map_cons,show ah.row x=[.int .u8 x.kind,.str x.text,.bool x.car] from rfl,pV,w5 l];show _=some ((unP x++unL l).map _);rw [List.map_append];dsimp only
  by_cases h5:x.kind=5
  ·rw [if_pos h5,unP,h5];rfl
  ·have e5:(x.kind == 5)=false:=by simpa using h5
   rw [if_neg h5,unP,e5,sel_false]
   by_cases h1:x.kind=1
   ·rw [if_pos h1,h1]
    show _=some (((aS x.text).map unR).map _++_);rw [Bs,List.map_map,List.map_map];rfl
   ·have e1:(x.kind == 1)=false:=by simpa using h1
    rw [if_neg h1,e1];rfl
end
section
attribute [local congr] aq aO aI au aH aC aw ak al aD aE
variable{E:aN}(M:a8 bn E)
structure WsE (E:aN):Prop where
 slices_Index_string_string:E.fn dY=some bu
 truchmanlaw01_wordy:E.fn eW=some dC
 docs_Words:E.fn ep=some bM
 truchmanref01_cutWords:E.fn ka=some kh
 truchmanref01_Words:E.fn lI=some lK
 truchmanlaw01_same:E.fn bV=some cR
 docs_piece:E.fn fp=some nI
 docs_first:E.fn qD=some nK
 strings_indexFunc:E.fn jM=some du
 strings_IndexFunc:E.fn jL=some fX
 strings_ContainsFunc:E.fn gD=some eB
 docs_isWord_1:E.fn dX=some kp
 docs_isWord:E.fn pj=some my
 docs_CheckWords:E.fn dS=some dV
 truchmanref01_row:E.fn nv=some nz
 truchmanref01_piece:E.fn ir=some lM
 truchmanref01_CheckWords:E.fn eL=some jh
 docs_tag:E.fn lU=some qJ
 docs_Bare:E.fn o5=some sG
 truchmanref01_tag:E.fn fR=some ny
 truchmanref01_IsTag:E.fn iq=some lL
 truchmanref01_Bare:E.fn mI=some mM
 slices_Contains_string_string:E.fn dx=some cf
 docs_parted:E.fn mr=some mB
 docs_spaced_1:E.fn fe=some ko
 docs_spaced_2:E.fn ff=some fh
 docs_spaced:E.fn mq=some kg
 docs_FromWords:E.fn gb=some lX
 truchmanref01_bareBehind:E.fn iZ=some jj
 truchmanref01_in:E.fn ks=some oE
 truchmanref01_apart:E.fn iv=some lN
 truchmanref01_spaced:E.fn k7=some lf
 truchmanref01_FromWords:E.fn jF=some jH
 docs_Tags:E.fn wV=some wX
 truchmanref01_Tags:E.fn mJ=some mN
 truchmanlaw01_DocsWords:E.fn oK=some jG
def pcF(w:Str):ah×Bool:=match w with
 |[]=>(dP,false)
 |c :: t=>sel ((c == 60)||(c == 123)) (match mkO (c::t) with
    |none=>(dP,false)
    |some (p,n)=>(p,decide ((0:Int)<(n:Int))&&(n == (c::t).length))) (dP,false)
theorem GH(w:Str):(pcF w).2=(rmk w).2∧((rmk w).2=true→(pcF w).1=(rmk w).1):=by
 cases h:(rmk w).2 with
 |true=>
  have T:=JQ h;have hw:wrF (rmk w).1=w:=by rw [T.wr,List.take_length]
  obtain ⟨c,u,e,_⟩:=JT T.name T.kind;have hm:=N8 T
  have hc:((c == 60)||(c == 123))=true:=by
   have hk:=T.kind;rw [wrF] at e;rcases hk with k | k | ⟨k,_⟩ | ⟨k,_⟩<;>(rw [k] at e;simp [sel] at e;rw [← e.1];rfl)
  rw [hw] at e;rw [e] at hm ⊢;rw [pcF,hc,sel_true,hm];refine ⟨?_,fun _=>rfl⟩;simp;omega
 |false=>
  refine ⟨?_,fun h=>by cases h⟩;cases hp:(pcF w).2 with
  |false=>rfl
  |true=>
   exfalso;cases w with
   |nil=>cases hp
   |cons c t=>
    rw [pcF] at hp;cases hc:(c == 60)||(c == 123) with
    |false=>rw [hc,sel_false] at hp;cases hp
    |true=>
     rw [hc,sel_true] at hp;cases hm:mkO (c::t) with
     |none=>rw [hm] at hp;cases hp
     |some q=>
      obtain ⟨p,n⟩:=q;rw [hm] at hp;have T:=N7 hm;have hn:n=(c::t).length:=by simp at hp;simpa using hp.2
      have hw:wrF p=c::t:=by rw [T.wr,hn,List.take_length]
      have:=JS T.name T.kind;rw [hw] at this;rw [this] at h;cases h
theorem qW(hB:lG E)(hS:mU E)(hX:tK M)(hW:WsE E){w:Str}(hw:w.length≤140737488351232)(H:List AObj):M.run fp [.str w] H=some (.ret (uB (pcF w)),H):=by
 have hz:dP.row=[.int .u8 0,.str [],.bool false]:=rfl;cases w with
 |nil=>
  rw [aP M hW.docs_piece rfl (c:=cD) rfl,cD];simp (maxSteps:=3000000) (maxDischargeDepth:=6) +contextual -implicitDefEqProofs only [amC M,↓amD,Nat.reduceBEq,Nat.reduceAdd,env,ao,jC,amG,AV.cell,Nat.reduceMul,Nat.reduceLeDiff,pcF,uB,hz,(show (([]:Str) == [])=true from rfl),aF,hp_set0,cut_app,hp_take,wk_tuple]
 |cons c t=>
  have b0:yR (c::t)[0]?=some (.int .u8 (c.toNat:Int)):=rfl;have q0:((c::t) == ([]:Str))=false:=rfl;cases hc:(c == 60)||(c == 123) with
  |false=>
   have h1:(c == 60)=false:=by cases h:c == 60 with
    |false=>rfl
    |true=>rw [h] at hc;cases hc
   have h2:(c == 123)=false:=by rw [h1] at hc;exact hc
   rw [aP M hW.docs_piece rfl (c:=cD) rfl,cD];simp (maxSteps:=3000000) (maxDischargeDepth:=6) +contextual -implicitDefEqProofs only [amC M,↓amD,Nat.reduceBEq,Nat.reduceAdd,env,ao,jC,amG,AV.cell,Nat.reduceMul,Nat.reduceLeDiff,pcF,uB,hz,b0,q0,qB,h1,h2,aF,hp_set0,cut_app,hp_take,wk_tuple]
  |true=>
   have hm:=fun H=>FD M hB hS hX (c:=c) (t:=t) (by simpa using hc) (by simpa using hw) H
   have hp:pcF (c::t)=(match mkO (c::t) with
     |none=>(dP,false)
     |some (p,n)=>(p,decide ((0:Int)<(n:Int))&&(n == (c::t).length))):=by rw [pcF,hc,sel_true]
   rw [hp];cases hk:mkO (c::t) with
   |none=>
    rw [hk] at hm;simp only [mkV,hz] at hm;dsimp only [uB];rw [hz];cases h1:c == 60 with
    |true=>
     rw [aP M hW.docs_piece rfl (c:=cD) rfl,cD];simp (maxSteps:=3000000) (maxDischargeDepth:=6) +contextual -implicitDefEqProofs only [amC M,↓amD,Nat.reduceBEq,Nat.reduceAdd,env,ao,jC,amG,AV.cell,Nat.reduceMul,Nat.reduceLeDiff,b0,q0,qB,h1,hm,(show (decide ((0:Int)<0))=false from rfl),Bool.false_and,aF,hp_set0,cut_app,hp_take,wk_tuple]
    |false=>
     have h2:(c == 123)=true:=by rw [h1] at hc;exact hc
     rw [aP M hW.docs_piece rfl (c:=cD) rfl,cD];simp (maxSteps:=3000000) (maxDischargeDepth:=6) +contextual -implicitDefEqProofs only [amC M,↓amD,Nat.reduceBEq,Nat.reduceAdd,env,ao,jC,amG,AV.cell,Nat.reduceMul,Nat.reduceLeDiff,b0,q0,qB,h1,h2,hm,(show (decide ((0:Int)<0))=false from rfl),Bool.false_and,aF,hp_set0,cut_app,hp_take,wk_tuple]
   |some q=>
    obtain ⟨p,n⟩:=q;rw [hk] at hm;have hr:p.row=[.int .u8 p.kind,.str p.text,.bool p.car]:=rfl;simp only [mkV,hr] at hm;dsimp only [uB];rw [hr];cases h1:c == 60 with
    |true=>
     rw [aP M hW.docs_piece rfl (c:=cD) rfl,cD];simp (maxSteps:=3000000) (maxDischargeDepth:=6) +contextual -implicitDefEqProofs only [amC M,↓amD,Nat.reduceBEq,Nat.reduceAdd,env,ao,jC,amG,AV.cell,Nat.reduceMul,Nat.reduceLeDiff,b0,q0,qB,h1,hm,aF,hp_set0,cut_app,hp_take,wk_tuple]
    |false=>
     have h2:(c == 123)=true:=by rw [h1] at hc;exact hc
     rw [aP M hW.docs_piece rfl (c:=cD) rfl,cD];simp (maxSteps:=3000000) (maxDischargeDepth:=6) +contextual -implicitDefEqProofs only [amC M,↓amD,Nat.reduceBEq,Nat.reduceAdd,env,ao,jC,amG,AV.cell,Nat.reduceMul,Nat.reduceLeDiff,b0,q0,qB,h1,h2,hm,aF,hp_set0,cut_app,hp_take,wk_tuple]
end
section
attribute [local congr] aq aO aI au aH aC aw ak al aD aE
variable{E:aN}(M:a8 bn E)
end
section
attribute [local congr] aq aO aI au aH aC aw ak al aD aE
variable{E:aN}(M:a8 bn E)
def tX(p:Sl ah):List AV:=[.slice p.tag 3 (p.l.map ah.row)]
theorem qPl:(∀ p:Sl ah,bt none (tX p) 0=some (.slice p.tag 3 (p.l.map ah.row)))∧(∀ p:Sl ah,pS 1 (tX p)=some (tX p))∧(∀ p:Sl ah,(tX p).length=1):=⟨fun _=>rfl,fun _=>rfl,fun _=>rfl⟩
def qd(n:Nat):List ah→Nat
 |[]=>n
 |x::l=>if n<5000 then qd (n+x.text.length) l else n
def vn(n:Nat):List (Sl ah)→Nat
 |[]=>n
 |p::ps=>vn (qd (n+p.l.length) p.l) ps
def Ek(ps:List (Sl ah)):Bool:=decide (2500<vn 0 ps)
theorem CJ:∀ (l:List ah) (n:Nat),5000≤n→qd n l=n
 |[],n,_=>rfl
 |x::l,n,h=>by rw [qd,if_neg (by omega)]
theorem GI:∀ (l:List ah) (n:Nat),(∀ x∈l,x.text.length≤bJ)→n<5000→qd n l≤bJ+5000
 |[],n,_,hn=>by rw [qd];simp only [bJ];omega
 |x::l,n,h,hn=>by
  rw [qd,if_pos hn];have h1:=h x List.mem_cons_self
  by_cases h2:n+x.text.length<5000
  ·exact GI l (n+x.text.length) (fun y hy=>h y (List.mem_cons_of_mem _ hy)) h2
  ·rw [CJ l _ (by omega)];omega
theorem JW(l:List ah)(n:Nat)(h:∀ x∈l,x.text.length≤bJ):qd n l≤n+bJ+5000:=by
 by_cases hn:n<5000
 ·have:=GI l n h hn;omega
 ·rw [CJ l n (by omega)];omega
theorem wt:∀ (l:List ah) (n:Nat),n≤qd n l
 |[],n=>Nat.le_refl _
 |x::l,n=>by
  rw [qd];split
  ·have:=wt l (n+x.text.length);omega
  ·exact Nat.le_refl _
theorem Bz:∀ (ps:List (Sl ah)) (n:Nat),n≤vn n ps
 |[],n=>Nat.le_refl _
 |p::ps,n=>by
  rw [vn];have h1:=wt p.l (n+p.l.length);have h2:=Bz ps (qd (n+p.l.length) p.l);omega
def uC(l:List ah):Nat:=(l.map fun x=>x.text.length).sum
theorem GJ:∀ (l:List ah) (n:Nat),qd n l≤2500→qd n l=n+uC l
 |[],n,_=>by simp [qd,uC]
 |x::l,n,h=>by
  have h0:n<5000:=by have:=wt (x::l) n;omega
  rw [qd,if_pos h0] at h ⊢;rw [GJ l _ h,uC,uC,List.map_cons,List.sum_cons];omega
def JX(ps:List (Sl ah)):Nat:=(ps.map fun p=>p.l.length+uC p.l).sum
theorem GK:∀ (ps:List (Sl ah)) (n:Nat),vn n ps≤2500→vn n ps=n+JX ps
 |[],n,_=>by simp [vn,JX]
 |p::ps,n,h=>by
  rw [vn] at h ⊢;have h0:=Bz ps (qd (n+p.l.length) p.l);rw [GK ps _ h,GJ p.l _ (by omega),JX,JX,List.map_cons,List.sum_cons];omega
theorem H7{p:Sl ah}(h:Ek [p]=false):p.l.length+uC p.l≤2500:=by
 have h1:vn 0 [p]≤2500:=by have:=of_decide_eq_false h;omega
 have h2:=GK [p] 0 h1;simp only [JX,List.map_cons,List.map_nil,List.sum_cons,List.sum_nil] at h2;omega
theorem JY{l:List ah}{x:ah}(h:x∈l):x.text.length≤uC l:=by
 induction l with
 |nil=>cases h
 |cons y l ih=>
  rw [uC,List.map_cons,List.sum_cons];rcases List.mem_cons.1 h with rfl | h
  ·omega
  ·have:=ih h;unfold uC at this;omega
theorem lgi{H H0:List AObj}{ps:List (Sl ah)}{tg:Tag}{j:Nat}{p:Sl ah}(hp:ps[j]?=some p)(hj:j<ps.length)(hpl:p.l.length≤bJ)(hpt:∀ x∈p.l,x.text.length≤bJ)(hc:cY H0 H)(k:List Fra):∀ (n i:Nat) (n2:Nat) (hn:n2≤1000000000000000000) (He:List AObj),i+n=(p.l).length →
  M.go cq H0 (.c cC :: .lp ⟨(some [0,3,4,5]),[],false⟩ cC He :: .blk 2 :: .c (.lv [0,3,4])::k) (kv [(0,.slice tg 1 (ps.map tX)),(3,.int .i64 n2),(4,.int .i64 j),(5,.int .i64 i)]) H =
   (M.go cq H0 k (kv [(0,.slice tg 1 (ps.map tX)),(3,.int .i64 (qd n2 (p.l.drop i):Nat)),(4,.int .i64 j)]) (H))
 |0,i,n2,hn,He,h=>by
  have e:i=(p.l).length:=by omega
  subst e;rw [aK M cC.eq_1];simp (maxSteps:=3000000) (maxDischargeDepth:=6) +contextual -implicitDefEqProofs only [amC M,↓amD,Nat.reduceBEq,Nat.reduceAdd,env,ao,cQ,Nat.lt_irrefl,List.drop_length,hp,hpl,qPl,bG hj,qd]
 |n+1,i,n2,hn,He,h=>by
  have hi:i<(p.l).length:=by omega
  have hx:(p.l)[i]?=some (p.l)[i]:=List.getElem?_eq_getElem hi;have hd:((p.l).drop i)=(p.l)[i]::(p.l).drop (i+1):=List.drop_eq_getElem_cons hi;have hm:(p.l)[i]∈(p.l):=List.getElem_mem hi;have ih:=fun n2 hn He=>lgi (H:=H) (H0:=H0) (ps:=ps) (tg:=tg) (j:=j) (p:=p) (hp:=hp) (hj:=hj) (hpl:=hpl) (hpt:=hpt) hc k n (i+1) n2 hn He (by omega)
  simp only [kv_cons,kv_nil] at ih;have hij:=bG (row:=tX) (tag:=tg) (sz:=1) (k:=.i64) hj;have hir:=bG (row:=ah.row) (tag:=p.tag) (sz:=3) (k:=.i64) hi;have hwi:=jJ (n:=p.l.length) hi hpl;have hmt:=hpt _ hm
  by_cases h5:n2<5000
  ·have d5:decide ((n2:Int)<5000)=true:=decide_eq_true (by omega)
   have hw2:IntKind.i64.wrap ((n2:Int)+(p.l[i].text.length:Int))=((n2+p.l[i].text.length:Nat):Int):=by rw [eJ (by omega) (by simp only [bJ] at hmt;omega)];omega
   have ih:=ih (n2+p.l[i].text.length) (by simp only [bJ] at hmt;omega);rw [hd,qd,if_pos h5];rw [aK M cC.eq_1];simp (maxSteps:=3000000) (maxDischargeDepth:=6) +contextual -implicitDefEqProofs only [amC M,↓amD,Nat.reduceBEq,Nat.reduceAdd,env,ao,cQ,hi,hx,hp,hd,d5,ih,hij,hir,hwi,hw2,qPl,bk]
  ·have d5:decide ((n2:Int)<5000)=false:=decide_eq_false (by omega)
   rw [CJ _ _ (by omega)];rw [aK M cC.eq_1];simp (maxSteps:=3000000) (maxDischargeDepth:=6) +contextual -implicitDefEqProofs only [amC M,↓amD,Nat.reduceBEq,Nat.reduceAdd,env,ao,cQ,hi,hx,hp,hd,d5,hij,hir,qPl,bk]
theorem lgo{H H0:List AObj}{ps:List (Sl ah)}{tg:Tag}(hps:ps.length≤100)(hpl:∀ p∈ps,p.l.length≤bJ∧∀ x∈p.l,x.text.length≤bJ)(hc:cY H0 H)(k:List Fra):∀ (n i:Nat) (n2:Nat) (hn:n2≤i*300000000000000) (He:List AObj),i+n=ps.length →
  M.go cq H0 (.c db :: .lp ⟨(some [0,3,4]),[],false⟩ db He :: .blk 0 :: .c (.lv [3])::k) (kv [(0,.slice tg 1 (ps.map tX)),(3,.int .i64 n2),(4,.int .i64 i)]) H =
   (M.go cq H0 k (kv [(3,.int .i64 (vn n2 (ps.drop i):Nat))]) (H))
 |0,i,n2,hn,He,h=>by
  have e:i=ps.length:=by omega
  subst e;rw [aK M db.eq_1];simp (maxSteps:=3000000) (maxDischargeDepth:=6) +contextual -implicitDefEqProofs only [amC M,↓amD,Nat.reduceBEq,Nat.reduceAdd,env,ao,cQ,Nat.lt_irrefl,List.drop_length,vn]
 |n+1,i,n2,hn,He,h=>by
  have hi:i<ps.length:=by omega
  have hx:ps[i]?=some ps[i]:=List.getElem?_eq_getElem hi;have hd:(ps.drop i)=ps[i]::ps.drop (i+1):=List.drop_eq_getElem_cons hi;have hm:ps[i]∈ps:=List.getElem_mem hi;have ih:=fun n2 hn He=>lgo (H:=H) (H0:=H0) (ps:=ps) (tg:=tg) (hps:=hps) (hpl:=hpl) hc k n (i+1) n2 hn He (by omega)
  simp only [kv_cons,kv_nil] at ih;have hij:=bG (row:=tX) (tag:=tg) (sz:=1) (k:=.i64) hi;have hwi:=jJ (n:=ps.length) hi (by simp only [bJ];omega);have hq:=hpl _ hm;have hq1:ps[i].l.length≤140737488351232:=hq.1;have hw2:IntKind.i64.wrap ((n2:Int)+(ps[i].l.length:Int))=((n2+ps[i].l.length:Nat):Int):=by rw [eJ (by omega) (by omega)];omega
  have hb:=JW ps[i].l (n2+ps[i].l.length) hq.2;have hz:=fun k He=>lgi M (H:=H) (H0:=H0) (ps:=ps) (tg:=tg) (j:=i) (p:=ps[i]) hx hi hq.1 hq.2 hc k ps[i].l.length 0 (n2+ps[i].l.length) (by omega) He (by omega)
  have ih:=ih (qd (n2+ps[i].l.length) ps[i].l) (by simp only [bJ] at hb;omega);simp only [kv_cons,kv_nil,Int.ofNat_zero,List.drop_zero] at hz;rw [hd,vn];rw [aK M db.eq_1];simp (maxSteps:=3000000) (maxDischargeDepth:=6) +contextual -implicitDefEqProofs only [amC M,↓amD,Nat.reduceBEq,Nat.reduceAdd,env,ao,cQ,hi,hx,ih,hz,hij,hwi,hw2,qPl,List.length_map]
theorem JZ(hB:lG E){ps:List (Sl ah)}{tg:Tag}(hps:ps.length≤100)(hpl:∀ p∈ps,p.l.length≤bJ∧∀ x∈p.l,x.text.length≤bJ)(H:List AObj) :
  M.run dK [.slice tg 1 (ps.map tX)] H=some (.ret (.bool (Ek ps)),H):=by
 rw [aP M hB.truchmanlaw01_long rfl (c:=je) rfl,je];have h1:=fun k He=>lgo M (tg:=tg) hps hpl (cut_refl H) k ps.length 0 0 (by omega) He (by omega)
 simp only [kv_cons,kv_nil,Int.ofNat_zero,List.drop_zero] at h1;have h2:decide ((2500:Int)<(vn 0 ps:Int))=decide (2500<vn 0 ps):=by rw [Bool.eq_iff_iff];simp;omega
 simp (maxSteps:=3000000) (maxDischargeDepth:=6) +contextual -implicitDefEqProofs only [amC M,↓amD,Nat.reduceBEq,Nat.reduceAdd,env,ao,cQ,h1,h2,Ek]
theorem H8(hB:lG E){l:Sl ah}(h:l.ok 0 (ah.ok 0))(H:List AObj):M.run dK [.slice .full 1 [[.slice l.tag.strip 3 (l.l.map ah.row)]]] H=some (.ret (.bool (Ek [l])),H):=
 JZ M hB (tg:=.full) (ps:=[⟨l.tag.strip,l.l⟩]) (by simp) (fun p hp=>by
  rw [List.mem_singleton] at hp;subst hp;exact ⟨h.len,fun x hx=>(h.all x hx).text⟩) H
end
section
attribute [local congr] aq aO aI au aH aC aw ak al aD aE
variable{E:aN}(M:a8 bn E)
structure wu (E:aN):Prop where
 docs_cutter_put:E.fn bj=some iL
 truchmanref01_add:E.fn b3=some jN
def pcC(l:List ah):List AV:=(l.map ah.row).flatten
theorem ti(l m:List ah):pcC (l++m)=pcC l++pcC m:=by simp [pcC]
theorem CL(x:ah):pcC [x]=[.int .u8 x.kind,.str x.text,.bool x.car]:=rfl
theorem nS:∀ l:List ah,(pcC l).length=l.length*3
 |[]=>rfl
 |x::l=>by
  have:=nS l;rw [show pcC (x::l)=pcC [x]++pcC l from ti [x] l,List.length_append,this,CL,List.length_cons];simp;omega
def PcV(H:List AObj)(v:AV)(l:List ah):Prop:=(l=[]∧v = .slice .nil 3 [])∨(l≠[]∧∃ Q,v = .rslice Q 0 l.length 3 true∧H[Q]?=some (.cells (pcC l) ae))
def below(q:Nat)(v:AV):Prop:=∀ Q o n e r,v = .rslice Q o n e r→Q<q
def GL(q:Nat)(v:AV):Prop:=∀ Q o n e r,v = .rslice Q o n e r→q≤Q
def OpV(H:List AObj)(v:AV)(l:List Str):Prop:=(l=[]∧v = .slice .nil 1 [])∨∃ O junk,v = .rslice O 0 l.length 1 true∧H[O]?=some (.cells (tL l++junk) aG)
def dI(l:List ah)(p:ah):List ah:=
 match l.getLast? with
 |some x=>sel (p.kind == 1&&x.kind == 1) (l.dropLast++[{ x with text:=x.text++p.text }]) (l++[p])
 |none=>[p]
structure CSt where
 done:List (List ah)
 cur:List ah
 pos:List Int
 place:Nat
 due:Bool
 opn:List Str
def free(R:Nat→Prop)(v:AV):Prop:=∀ Q o n e r,v = .rslice Q o n e r→¬ R Q
structure FJ (R:Nat→Prop) (c:Nat) (H:List AObj) (S:CSt) (P q:Nat) (vs:List AV) (v:AV) (ta:Tag) (ov:AV):Prop where
 hn:¬ R c
 hP:¬ R P
 rl:∀ i,R i→i<H.length
 cell:H[c]?=some (.cells [.rslice P 0 (S.done.length+1) 1 true,.slice ta 1 (S.pos.map Jj),.int .i64 S.place,.bool S.due,ov] fF)
 par:H[P]?=some (.cells (vs++[v]) aj)
 len:vs.length=S.done.length
 dn:∀ (i:Nat) (w:AV) (l:List ah),vs[i]?=some w→S.done[i]?=some l→PcV H w l∧below q w∧free R w
 cr:PcV H v S.cur
 ab:GL q v
 pr:free R v
 ql:q≤H.length
 op:OpV H ov S.opn
 oa:free R ov
 tg:ta = .any∨ta = .some∨S.pos=[]∨∃ t,ta = .own t
def rV(R:Nat→Prop)(c:Nat)(H:List AObj)(S:CSt):Prop:=∃ P q vs v ta ov,FJ R c H S P q vs v ta ov
structure Frm (R:Nat→Prop) (H H':List AObj):Prop where
 len:H.length≤H'.length
 low:∀ i,R i→H'[i]?=H[i]?
 it:∀ (i:Nat) s pos,H[i]?=some (.siter s pos)→H'[i]?=some (.siter s pos)
theorem Frm.refl(R:Nat→Prop)(H:List AObj):Frm R H H:=⟨Nat.le_refl _,fun _ _=>rfl,fun _ _ _ h=>h⟩
theorem Frm.trans{R:Nat→Prop}{A B C:List AObj}(h:Frm R A B)(k:Frm R B C):Frm R A C:=⟨Nat.le_trans h.len k.len,fun i hi=>(k.low i hi).trans (h.low i hi),fun i s p e=>k.it i s p (h.it i s p e)⟩
theorem Frm.mono{R R':Nat→Prop}{A B:List AObj}(h:Frm R A B)(hr:∀ i,R' i→R i):Frm R' A B:=⟨h.len,fun i hi=>h.low i (hr i hi),h.it⟩
theorem Frm.app{R:Nat→Prop}(H X:List AObj)(hn:∀ i,R i→i<H.length):Frm R H (H++X):=⟨by simp,fun i hi=>List.getElem?_append_left (hn i hi),fun i s p h=>br h⟩
theorem Frm.set{R:Nat→Prop}{H:List AObj}{k:Nat}{cs:List AV}{T:TypeId}(x:AObj)(hk:¬ R k)(h:H[k]?=some (.cells cs T)):Frm R H (H.set k x):=
 ⟨by simp,fun i hi=>List.getElem?_set_ne (fun e=>hk (by rw [e];exact hi)),fun i s p e=>by
  rw [List.getElem?_set_ne (fun ek=>by subst ek;rw [h] at e;cases e)];exact e⟩
theorem PcV.stay{H H':List AObj}{v:AV}{l:List ah}(h:PcV H v l)(hs:∀ (Q:Nat) (cs:List AV),v = .rslice Q 0 l.length 3 true→H[Q]?=some (AObj.cells cs ae)→H'[Q]?=some (AObj.cells cs ae)):PcV H' v l:=by
 rcases h with h | ⟨h1,Q,h2,h3⟩
 ·exact .inl h
 ·exact .inr ⟨h1,Q,h2,hs Q _ h2 h3⟩
theorem OpV.stay{H H':List AObj}{v:AV}{l:List Str}(h:OpV H v l)(hs:∀ (O:Nat) (cs:List AV),H[O]?=some (AObj.cells cs aG)→H'[O]?=some (AObj.cells cs aG)):OpV H' v l:=by
 rcases h with h | ⟨O,junk,h1,h2⟩
 ·exact .inl h
 ·exact .inr ⟨O,junk,h1,hs O _ h2⟩
theorem Mw:ae≠fF:=by decide
theorem Mx:ae≠aj:=by decide
theorem El:aG≠ae:=by decide
theorem My:aG≠aj:=by decide
theorem Mz:aj≠fF:=by decide
theorem J0{H G:List AObj}{v:AV}{l:List ah}(h:PcV H v l):o9 G .sl v=some (.int .i64 (l.length:Int)):=by
 rcases h with ⟨rfl,rfl⟩ | ⟨_,Q,rfl,_⟩<;>rfl
theorem BA(p:ah):ub 3 [p.row]=true:=rfl
theorem J1{H:List AObj}{v:AV}{l:List ah}(h:PcV H v l):v.cell=true∧bC v=some [v]:=by
 rcases h with ⟨rfl,rfl⟩ | ⟨_,Q,rfl,_⟩<;>exact ⟨rfl,rfl⟩
theorem J2{G:List AObj}{v:AV}{l:List ah}(h:PcV G v l)(hl:l.length≤100000000)(p:ah) :
  ∃ G',rap true G ae 3 32 false v (.slice .full 3 [p.row])=some (.rslice G.length 0 (l.length+1) 3 true,G')∧G'[G.length]?=some (.cells (pcC (l++[p])) ae)∧G'.length=G.length+1∧∀ i,i<G.length→(∀ Q,v = .rslice Q 0 l.length 3 true→i≠Q)→G'[i]?=G[i]? := by
 rcases h with ⟨rfl,rfl⟩ | ⟨_,Q,rfl,hg⟩
 ·refine ⟨G++[.cells (pcC [p]) ae], ?_,by rw [aF];rfl,by simp,fun i hi _=>List.getElem?_append_left hi⟩
  simp only [rap,n8,tl,or_true,if_true,BA];rw [if_pos (by simp)];rfl
 ·have hlt:=bp hg
  have hlen:l.length*3≤(pcC l).length:=by rw [nS];omega
  refine ⟨G.set Q .dead++[.cells (pcC (l++[p])) ae], ?_, ?_,by simp,fun i hi hne => ?_⟩
  ·simp only [rap,n8,tl,or_true,if_true,BA,hg]
   rw [if_pos ⟨trivial,trivial,hlen,by simp;omega,by simp;omega⟩];rw [List.take_of_length_le (by rw [nS];omega),ti];rfl
  ·rw [show G.length=(G.set Q .dead).length by simp,aF];rfl
  ·rw [List.getElem?_append_left (by simp;omega),List.getElem?_set_ne (fun e=>hne Q rfl e.symm)]
theorem J3{id n i:Nat}(h:i<n)(k:IntKind):sj 3 (.rslice id 0 n 3 true) (.int k (i:Int))=some (.ptr id (i*3)):=by
 simp only [sj];rw [if_pos ⟨trivial,by omega,by simp;omega⟩];simp
theorem GM{id n i:Nat}(h:i<n)(k:IntKind):sj 1 (.rslice id 0 n 1 true) (.int k (i:Int))=some (.ptr id i):=by
 simp only [sj];rw [if_pos ⟨trivial,by omega,by simp;omega⟩];simp
theorem GN(l:List ah)(x:ah):bt none (pcC (l++[x])) (l.length*3)=some (.int .u8 x.kind)∧bt none (pcC (l++[x])) (l.length*3+1)=some (.str x.text):=by
 have hl:=nS l;refine ⟨?_, ?_⟩
 ·simp only [bt,ti]
  rw [List.getElem?_append_right (by omega),hl,Nat.sub_self,CL];rfl
 ·simp only [bt,ti]
  rw [List.getElem?_append_right (by omega),hl,show l.length*3+1-l.length*3=1 by omega,CL];rfl
theorem GO(l:List ah)(x:ah)(s:Str):bf (pcC (l++[x])) (l.length*3+1) [.str s]=pcC (l++[{ x with text:=s }]):=by
 rw [setRow_cons,setRow_nil,ti,ti,List.set_append_right _ _ (by rw [nS];omega),nS,show l.length*3+1-l.length*3=1 by omega];rfl
end
section
attribute [local congr] aq aO aI au aH aC aw ak al aD aE
variable{E:aN}(M:a8 bn E)
theorem cl5:(∀ a b c d e:AV,bt none [a,b,c,d,e] 0=some a)∧(∀ a b c d e:AV,bt none [a,b,c,d,e] 1=some b)∧(∀ a b c d e:AV,bt none [a,b,c,d,e] 2=some c)∧(∀ a b c d e:AV,bt none [a,b,c,d,e] 3=some d)∧(∀ a b c d e:AV,bt none [a,b,c,d,e] 4=some e):=
 ⟨fun _ _ _ _ _=>rfl,fun _ _ _ _ _=>rfl,fun _ _ _ _ _=>rfl,fun _ _ _ _ _=>rfl,fun _ _ _ _ _=>rfl⟩
def GP(o:Option Nat)(T L:List Nat):Option (List Nat×List Nat):=
 match o with
 |some id=>some (T,id::L)
 |none=>some (T,L)
def N9(o:Option Nat)(T L:List Nat):Option (List Nat×List Nat):=
 match o with
 |some id=>some (id::T,L)
 |none=>none
theorem dyK:(∀ (a:Env) (g:Option Nat) (x:RX) (T L:List Nat),j8 true .wide a (.ld g x) T L=GP (mY (rx a x)) T L)∧(∀ (a:Env) (g:LK) (x:RX) (T L:List Nat),j8 true .wide a (.len g x) T L=GP (mY (rx a x)) T L) ∧
  (∀ (s:Bool) (a:Env) (n:Nat) (x v:RX) (T L:List Nat),j8 s .keep a (.st n x v) T L=N9 (mY (rx a x)) T L)∧(∀ (s:Bool) (a:Env) (g:Option Nat) (x:RX) (T L:List Nat),j8 s .quiet a (.ld g x) T L=some (T,L)) ∧
  (∀ i o,mY (.ptr i o)=some i)∧(∀ i o n e r,mY (.rslice i o n e r)=some i)∧(∀ t n r,mY (.slice t n r)=none)∧(∀ s,mY (.str s)=none)∧(∀ e r i o,mY (.vptr e r i o)=none)∧(∀ (id:Nat) (T L:List Nat),GP (some id) T L=some (T,id::L))∧(∀ T L:List Nat,GP none T L=some (T,L))∧(∀ (id:Nat) (T L:List Nat),N9 (some id) T L=some (id::T,L)):=
 ⟨fun _ _ _ _ _=>rfl,fun _ _ _ _ _=>rfl,fun _ _ _ _ _ _ _=>rfl,fun _ _ _ _ _ _=>rfl,fun _ _=>rfl,fun _ _ _ _ _=>rfl,fun _ _ _=>rfl,fun _=>rfl,fun _ _ _ _=>rfl,fun _ _ _=>rfl,fun _ _=>rfl,fun _ _ _=>rfl⟩
theorem tj{T L:List Nat}(h:apart T L)(r:Option Out):mZ bn T L r=r:=by
 unfold mZ;rw [Cg h]
theorem J4{a b c:Nat}(h1:c≠a)(h2:c≠b):apart [a,b] [c]:=fun x hx=>by
 rw [List.mem_singleton] at hx;subst hx;simp [h1,h2]
theorem J5{a c:Nat}(h1:c≠a):apart [a] [c]:=fun x hx=>by
 rw [List.mem_singleton] at hx;subst hx;simp [h1]
theorem LQ{H:List AObj}{i j:Nat}{cs ds:List AV}{T T':TypeId}(h1:H[i]?=some (.cells cs T))(h2:H[j]?=some (.cells ds T'))(hT:T≠T'):i≠j:=fun e=>by
 subst e;rw [h1] at h2;injection h2 with h2;injection h2 with _ h3;exact hT h3
theorem Em{H:List AObj}{v:AV}{l:List ah}(h:PcV H v l){Q:Nat}(e:v = .rslice Q 0 l.length 3 true):∃ cs,H[Q]?=some (.cells cs ae):=by
 rcases h with ⟨_,h⟩ | ⟨_,Q',h1,h2⟩
 ·rw [h] at e;cases e
 ·rw [h1] at e;cases e;exact ⟨_,h2⟩
def StK(H H':List AObj):Prop:=∀ (O:Nat) (cs:List AV),H[O]?=some (AObj.cells cs aG)→H'[O]?=some (AObj.cells cs aG)
theorem FJ.turned{R:Nat→Prop}{c:Nat}{H H2:List AObj}{S:CSt}{P q:Nat}{vs:List AV}{v w:AV}{ta:Tag}{ov:AV}(h:FJ R c H S P q vs v ta ov){cur:List ah}
  (hlen:H.length≤H2.length) (hs:∀ i y,H[i]?=some y→(∀ Q,v = .rslice Q 0 S.cur.length 3 true→i≠Q)→i≠P→H2[i]?=some y)
  (hpar:H2[P]?=some (.cells (vs++[w]) aj)) (hw:PcV H2 w cur) (hwa:GL q w) (hwf:free R w):FJ R c H2 { S with cur:=cur } P q vs w ta ov∧Frm R H H2∧StK H H2:=by
 have hP:=h.par
 have nq:∀ (i:Nat) (cs:List AV) (T:TypeId),H[i]?=some (.cells cs T)→T≠ae→∀ Q,v = .rslice Q 0 S.cur.length 3 true→i≠Q:=fun i cs T hi hT Q e ei=>by
  obtain ⟨ds,hd⟩:=Em h.cr e;subst ei;rw [hi] at hd;cases hd;exact hT rfl
 have np:∀ (i:Nat) (cs:List AV) (T:TypeId),H[i]?=some (.cells cs T)→T≠aj→i≠P:=fun i cs T hi hT ei=>by
  subst ei;rw [hi] at hP;cases hP;exact hT rfl
 have hlow:∀ i,R i→H2[i]?=H[i]? := fun i hi=>by
  have hin:=h.rl i hi;rw [List.getElem?_eq_getElem hin];refine hs i _ (List.getElem?_eq_getElem hin) (fun Q e ei => ?_) (fun e => ?_)
  ·exact h.pr Q _ _ _ _ e (ei ▸ hi)
  ·exact h.hP (e ▸ hi)
 refine ⟨⟨h.hn,h.hP,fun i hi=>Nat.lt_of_lt_of_le (h.rl i hi) hlen,hs c _ h.cell (nq c _ _ h.cell Mw.symm) (np c _ _ h.cell Mz.symm),hpar,h.len,fun i w' l hi hl => ?_,hw,hwa,hwf,Nat.le_trans h.ql hlen,h.op.stay fun O cs hO=>hs O _ hO (nq O _ _ hO El) (np O _ _ hO My),h.oa,h.tg⟩,⟨hlen,hlow,fun i s pos hi=>hs i _ hi (fun Q e ei => ?_) (fun e => ?_)⟩,fun O cs hO=>hs O _ hO (nq O _ _ hO El) (np O _ _ hO My)⟩
 ·obtain ⟨h1,h2,h3⟩:=h.dn i w' l hi hl
  refine ⟨h1.stay fun Q cs e hQ=>hs Q _ hQ (fun Q' e' ei => ?_) (np Q _ _ hQ Mx),h2,h3⟩;have a1:=h2 Q _ _ _ _ e;have a2:=h.ab Q' _ _ _ _ e';omega
 ·obtain ⟨ds,hd⟩:=Em h.cr e
  subst ei;rw [hi] at hd;cases hd
 ·subst e;rw [hi] at hP;cases hP
theorem fj(l:List ah)(x p:ah):dI (l++[x]) p=sel (p.kind == 1&&x.kind == 1) (l++[{ x with text:=x.text++p.text }]) (l++[x]++[p]):=by
 unfold dI;rw [List.getLast?_concat,List.dropLast_concat]
theorem LR(hC:wu E){R:Nat→Prop}{c:Nat}{H:List AObj}{S:CSt}(hS:rV R c H S)(hd:S.done.length≤100000000)(hcu:S.cur.length≤100000000)(hct:∀ x∈S.cur,x.text.length≤100000000){p:ah}(hp:p.text.length≤100000000) :
  ∃ H',M.run bj [.ptr c 0,.agg p.row] H=some (.ret (.tuple []),H')∧rV R c H' { S with cur:=dI S.cur p }∧Frm R H H'∧StK H H':=by
 obtain ⟨P,q,vs,v,ta,ov,h⟩:=hS;obtain ⟨done,cur,pos,place,due,opn⟩:=S;dsimp only at hd hcu hct;have hvs:=h.len;dsimp only at hvs;have hc1:∀ X,(H++X)[c]?=_:=fun X=>br h.cell
 have hp1:∀ X,(H++X)[P]?=_:=fun X=>br h.par
 have hia:=GM (id:=P) (n:=done.length+1) (i:=done.length) (by omega) .i64
 have hld:bt none (vs++[v]) done.length=some v:=by
  simp only [bt];rw [← hvs,List.getElem?_append_right (Nat.le_refl _),Nat.sub_self];rfl
 have hw1:IntKind.i64.wrap (((done.length+1:Nat):Int)-1)=(done.length:Int):=by rw [eJ (by omega) (by omega)];omega
 have hln:=fun G=>J0 (G:=G) h.cr
 dsimp only at hln;have hcr:=h.cr;dsimp only at hcr;have hcr1:PcV (H++[.cells p.row ae]) v cur:=hcr.stay fun Q cs _ hQ=>br hQ
 have more:dI cur p=cur++[p]→∀ k:Int,True→∃ w G,rap true (H++[.cells p.row ae]) ae 3 32 false v (.slice .full 3 [p.row])=some (w,G)∧(G[P]?=some (.cells (vs++[v]) aj)) ∧
   stO 1 G P done.length [w] (some (.cells (vs++[v]) aj))=some (G.set P (.cells (vs++[w]) aj))∧bC w=some [w]∧rV R c (G.set P (.cells (vs++[w]) aj)) ⟨done,dI cur p,pos,place,due,opn⟩∧Frm R H (G.set P (.cells (vs++[w]) aj))∧StK H (G.set P (.cells (vs++[w]) aj)):=fun hpf _ _=>by
  obtain ⟨G,a1,a2,a3,a4⟩:=J2 hcr1 hcu p;have hPlt:=bp h.par;have hlen1:(H++[AObj.cells p.row ae]).length=H.length+1:=by simp
  rw [hlen1] at a1 a2 a3 a4
  have nQ:∀ Q,v = .rslice Q 0 cur.length 3 true→P≠Q:=fun Q e ei=>by
   obtain ⟨ds,hds⟩:=Em hcr e;subst ei;rw [h.par] at hds;cases hds
  have gP:G[P]?=some (.cells (vs++[v]) aj):=by rw [a4 P (by omega) nQ];exact hp1 _
  refine ⟨_,G,a1,gP, ?_,rfl, ?_⟩
  ·rw [stO_cells (sz:=1) rfl (by simp;omega) rfl,setRow_cons,setRow_nil,← hvs,List.set_append_right _ _ (Nat.le_refl _),Nat.sub_self];rfl
  ·have:=h.turned (H2:=G.set P (.cells (vs++[.rslice (H.length+1) 0 (cur.length+1) 3 true]) aj)) (cur:=dI cur p) (w:=.rslice (H.length+1) 0 (cur.length+1) 3 true) (by simp;omega) (fun i y hi hne hiP=>by
    rw [List.getElem?_set_ne hiP.symm,a4 i (by have:=(List.getElem?_eq_some_iff.1 hi).1;omega) hne];exact br hi) (List.getElem?_set_self (by omega)) (.inr ⟨by rw [hpf];simp,H.length+1,by rw [hpf];simp,by rw [List.getElem?_set_ne (by omega),a2,hpf]⟩) (fun Q o n e r eq=>by cases eq;have:=h.ql;omega) (fun Q o n e r eq hR=>by cases eq;have:=h.rl _ hR;omega)
   exact ⟨⟨P,q,vs,_,ta,ov,this.1⟩,this.2⟩
 have r1:∀ H,n9 (some H)=some (cW,H):=fun _=>rfl
 have gx:=fun X=>aF H X
 have ncP:c≠P:=LQ h.cell h.par Mz.symm
 have ncQ:∀ Q,v = .rslice Q 0 cur.length 3 true→c≠Q:=fun Q e ei=>by
  obtain ⟨ds,hds⟩:=Em hcr e;exact LQ h.cell hds Mw.symm ei
 have ab:fC v=none∨∃ Q,fC v=some Q∧c≠Q:=by
  rcases hcr with ⟨_,rfl⟩ | ⟨_,Q,rfl,_⟩
  ·exact .inl rfl
  ·exact .inr ⟨Q,rfl,ncQ Q rfl⟩
 rcases (show cur=[]∨∃ l x,cur=l++[x] by
  rcases List.eq_nil_or_concat cur with h | ⟨l,x,h⟩
  ·exact .inl h
  ·exact .inr ⟨l,x,by simpa using h⟩) with rfl | ⟨l,x,rfl⟩
 ·obtain ⟨w,G,m1,m2,m3,m4,m5,m6⟩:=more rfl 0 trivial
  refine ⟨_, ?_,m5,m6⟩;have d0:decide ((0:Int)<((0:Nat):Int))=false:=rfl;rw [aP M hC.docs_cutter_put rfl (c:=b6) rfl,b6]
  have ab0:fC v=none:=by
   rcases hcr with ⟨_,rfl⟩ | ⟨h,_⟩
   ·rfl
   ·exact absurd rfl h
  have aa:=tj (J5 ncP);cases hk:p.kind == 1<;>simp (maxSteps:=3000000) (maxDischargeDepth:=6) +contextual -implicitDefEqProofs only [amC M,↓amD,Nat.reduceBEq,Nat.reduceAdd,env,ao,iM,amG,AV.cell,Nat.reduceMul,Nat.reduceLeDiff,rnc,hc1,hp1,gx,cl5,hia,hld,hw1,hln,hk,d0,bk,List.getElem?_cons_zero,m1,m2,m3,m4,r1,dyK,amZ,ab0,aa]
 ·obtain ⟨⟨Q,e1,e2⟩⟩:Nonempty (∃ Q,v = .rslice Q 0 (l.length+1) 3 true∧H[Q]?=some (.cells (pcC (l++[x])) ae)):=by
   rcases hcr with ⟨h0,_⟩ | ⟨_,Q,h1,h2⟩
   ·simp at h0
   ·exact ⟨⟨Q,by simpa using h1,h2⟩⟩
  have hl:l.length≤100000000:=by simp at hcu;omega
  have hxt:=hct x (by simp);have d1:decide ((0:Int)<(((l++[x]).length:Nat):Int))=true:=decide_eq_true (by simp);have hw2:IntKind.i64.wrap ((((l++[x]).length:Nat):Int)-1)=(l.length:Int):=by rw [eJ (by simp) (by simp;omega)];simp
  have hiq:sj 3 v (.int .i64 (l.length:Int))=some (.ptr Q (l.length*3)):=by rw [e1];exact J3 (by omega) _
  have hQ1:∀ X,(H++X)[Q]?=_:=fun X=>br e2
  obtain ⟨q1,q2⟩:=GN l x;have ab1:fC v=some Q:=by rw [e1];rfl
  have aa:=tj (J4 ncP (ncQ Q (by rw [e1];simp)));generalize hn:(l++[x]).length=n at d1 hw2 hln;cases hk:p.kind == 1 with
  |false=>
   obtain ⟨w,G,m1,m2,m3,m4,m5,m6⟩:=more (by rw [fj,hk];rfl) 0 trivial;refine ⟨_, ?_,m5,m6⟩;rw [aP M hC.docs_cutter_put rfl (c:=b6) rfl,b6];simp (maxSteps:=3000000) (maxDischargeDepth:=6) +contextual -implicitDefEqProofs only [amC M,↓amD,Nat.reduceBEq,Nat.reduceAdd,env,ao,iM,amG,AV.cell,Nat.reduceMul,Nat.reduceLeDiff,rnc,hc1,hp1,gx,cl5,hia,hld,hw1,hln,hk,d1,bk,List.getElem?_cons_zero,m1,m2,m3,m4,r1,dyK,amZ,ab1,aa,Nat.add_zero]
  |true=>
   cases hx:x.kind == 1 with
   |false=>
    obtain ⟨w,G,m1,m2,m3,m4,m5,m6⟩:=more (by rw [fj,hk,hx];rfl) 0 trivial;refine ⟨_, ?_,m5,m6⟩;rw [aP M hC.docs_cutter_put rfl (c:=b6) rfl,b6];simp (maxSteps:=3000000) (maxDischargeDepth:=6) +contextual -implicitDefEqProofs only [amC M,↓amD,Nat.reduceBEq,Nat.reduceAdd,env,ao,iM,amG,AV.cell,Nat.reduceMul,Nat.reduceLeDiff,rnc,hc1,hp1,gx,cl5,hia,hld,hw1,hln,hk,hx,d1,hw2,hiq,hQ1,q1,bk,List.getElem?_cons_zero,m1,m2,m3,m4,r1,dyK,amZ,ab1,aa,Nat.add_zero]
   |true=>
    have hpf:dI (l++[x]) p=l++[{ x with text:=x.text++p.text }]:=by rw [fj,hk,hx];rfl
    have ha:=dt (s:=x.text) (t:=p.text) (by simp only [List.length_append] at *;omega);have hqlt:=bp e2
    have hst:stO 1 (H++[AObj.cells p.row ae]) Q (l.length*3+1) [.str (x.text++p.text)] (some (.cells (pcC (l++[x])) ae))=some ((H++[AObj.cells p.row ae]).set Q (AObj.cells (pcC (dI (l++[x]) p)) ae)):=by
     rw [stO_cells (sz:=1) rfl (by rw [nS];simp;omega) rfl,GO,hpf]
    have:=h.turned (H2:=(H++[AObj.cells p.row ae]).set Q (AObj.cells (pcC (dI (l++[x]) p)) ae)) (cur:=dI (l++[x]) p) (w:=v) (by simp) (fun i y hi hne hiP=>by
     rw [List.getElem?_set_ne (fun e=>hne Q (by rw [e1];simp) e.symm)];exact br hi) (by rw [List.getElem?_set_ne (LQ e2 h.par Mx)];exact hp1 _) (.inr ⟨by rw [hpf];simp,Q,by rw [hpf,e1];simp,List.getElem?_set_self (by simp;omega)⟩) h.ab h.pr
    refine ⟨_, ?_,⟨P,q,vs,v,ta,ov,this.1⟩,this.2⟩;rw [aP M hC.docs_cutter_put rfl (c:=b6) rfl,b6];simp (maxSteps:=3000000) (maxDischargeDepth:=6) +contextual -implicitDefEqProofs only [amC M,↓amD,Nat.reduceBEq,Nat.reduceAdd,env,ao,iM,amG,AV.cell,Nat.reduceMul,Nat.reduceLeDiff,rnc,hc1,hp1,gx,cl5,hia,hld,hw1,hln,hk,hx,d1,hw2,hiq,hQ1,q1,q2,ha,hst,bk,List.getElem?_cons_zero,r1,dyK,amZ,Nat.add_zero]
end
section
attribute [local congr] aq aO aI au aH aC aw ak al aD aE
variable{E:aN}(M:a8 bn E)
def tgF(w:Str):ah×Bool:=((pcF w).1,(pcF w).2 && !((pcF w).1.kind == 5))
def mg(w:Str):Bool:=(tgF w).2
theorem J6(hB:lG E)(hS:mU E)(hX:tK M)(hW:WsE E){w:Str}(hw:w.length≤140737488351232)(H:List AObj):M.run lU [.str w] H=some (.ret (uB (tgF w)),H):=by
 have hp:=fun H=>qW M hB hS hX hW hw H
 unfold tgF;rcases hq:pcF w with ⟨p,ok⟩
 rw [hq] at hp;have hr:p.row=[.int .u8 p.kind,.str p.text,.bool p.car]:=rfl;dsimp only [uB] at hp ⊢;rw [hr] at hp ⊢;have ab1:apart [H.length] [H.length+1]:=fun x hx=>by simp at hx;subst hx;simp
 have ab2:apart [H.length] [H.length+1,H.length+1]:=fun x hx=>by simp at hx;subst hx;simp
 have aa1:=fun r=>tj ab1 r
 have aa2:=fun r=>tj ab2 r
 have g1:∀ y z X,(H++y::z::X)[H.length+1]?=some z:=fun y z X=>by rw [hp_getk];rfl
 have s0:∀ (x y:AObj) X,(H++x::X).set H.length y=H++y::X:=fun x y X=>by rw [hp_set0];rfl
 cases ok with
 |false=>
  rw [aP M hW.docs_tag rfl (c:=oC) rfl,oC];simp (maxSteps:=3000000) (maxDischargeDepth:=6) +contextual -implicitDefEqProofs only [amC M,↓amD,Nat.reduceBEq,Nat.reduceAdd,env,ao,zh,amG,AV.cell,Nat.reduceMul,Nat.reduceLeDiff,hp,dyK,amZ,aa1,aa2,g1,s0,aF,hp_set0,cut_app,hp_take,wk_tuple,aT,List.getElem?_cons_zero,List.getElem?_cons_succ,Bool.false_and]
 |true=>
  rw [aP M hW.docs_tag rfl (c:=oC) rfl,oC];simp (maxSteps:=3000000) (maxDischargeDepth:=6) +contextual -implicitDefEqProofs only [amC M,↓amD,Nat.reduceBEq,Nat.reduceAdd,env,ao,zh,amG,AV.cell,Nat.reduceMul,Nat.reduceLeDiff,hp,dyK,amZ,aa1,aa2,g1,s0,aF,hp_set0,cut_app,hp_take,wk_tuple,aT,List.getElem?_cons_zero,List.getElem?_cons_succ,Bool.true_and]
end
section
attribute [local congr] aq aO aI au aH aC aw ak al aD aE
variable{E:aN}(M:a8 bn E)
theorem En(n:Nat)(l:List Str):iW n (l.map bh):=by
 rw [rowsWk_map];exact fun _ _=>⟨wk_str _ _,trivial⟩
end
section
attribute [local congr] aq aO aI au aH aC aw ak al aD aE
variable{E:aN}(M:a8 bn E)
def vo(rs:List Nat):Bool:=rs.all fun r=>lA (unR r)
def CM(rs:List Nat):Bool:=match rs with
 |[]=>false
 |r::t=>sel (t.isEmpty&&nA (unR r)) true (vo (r::t))
def H9(w:Str):Bool:=kG w&&CM (aS w)
end
section
attribute [local congr] aq aO aI au aH aC aw ak al aD aE
variable{E:aN}(M:a8 bn E)
theorem Ia(hX:wk M)(hW:WsE E)(s:Str)(H:List AObj):M.run qD [.str s] H=some (.ret (.tuple [.int .i32 ((HQ s).1:Int),.bool (((HQ s).2:Int) == (s.length:Int))]),H):=by
 have h:=fun H=>hX.dec s H
 rw [aP M hW.docs_first rfl (c:=qM) rfl,qM];simp (maxSteps:=3000000) (maxDischargeDepth:=6) +contextual -implicitDefEqProofs only [amC M,↓amD,Nat.reduceBEq,Nat.reduceAdd,env,ao,Cx,amG,AV.cell,Nat.reduceMul,Nat.reduceLeDiff,h,aT,List.getElem?_cons_zero,List.getElem?_cons_succ]
theorem Eo(hU:qV E)(hW:WsE E)(r:Nat)(H:List AObj):M.run dX [.int .i32 (r:Int)] H=some (.ret (.bool (!lA (unR r))),H):=by
 have h:=fun H=>By M hU (unR r) H
 have hrow:(unR r).row=[.int .i32 (r:Int),.bool false]:=rfl;rw [hrow] at h;rw [aP M hW.docs_isWord_1 rfl (c:=nd) rfl,nd];simp (maxSteps:=3000000) (maxDischargeDepth:=6) +contextual -implicitDefEqProofs only [amC M,↓amD,Nat.reduceBEq,Nat.reduceAdd,env,ao,xi,amG,AV.cell,Nat.reduceMul,Nat.reduceLeDiff,h]
def noW:Nat→Nat→Str→Int
 |0,_,_ => -1
 |n+1,i,s=>sel s.isEmpty (-1) (sel (lA (unR (aW s).1)) (noW n (i+(aW s).2) (s.drop (aW s).2)) (i:Int))
theorem GQ:∀ (n i:Nat) (s:Str),s.length≤n→decide (0≤noW n i s) = !vo (aS s)
 |0,i,s,h=>by
  obtain rfl:s=[]:=List.eq_nil_of_length_eq_zero (by omega);rfl
 |n+1,i,s,h=>by
  by_cases hs:s=[]
  ·subst hs;rfl
  ·have hw:=l6 s
   have he:s.isEmpty=false:=by cases s with
    |nil=>exact absurd rfl hs
    |cons c t=>rfl
   have ih:=GQ n (i+(aW s).2) (s.drop (aW s).2) (by rw [List.length_drop];omega);rw [noW,he,sel_false,mT hs,show vo ((aW s).1::aS (s.drop (aW s).2))=(lA (unR (aW s).1)&&vo (aS (s.drop (aW s).2))) from rfl];cases lA (unR (aW s).1) with
   |true=>rw [sel_true,ih,Bool.true_and]
   |false=>rw [sel_false,Bool.false_and];simp
theorem zQ{H0 H:List AObj}(h:H.take H0.length=H0):cY H0 H:=by
 refine ⟨by have:=congrArg List.length h;rw [List.length_take] at this;omega,fun i x hi hx=>.inl ?_⟩;rw [← h,List.getElem?_take,if_pos hi];exact hx
theorem OB(hU:qV E)(hW:WsE E){s:Str}(hs:s.length≤bJ){t:Nat}{H0:List AObj}(ht0:H0.length≤t):∀ (n i:Nat) (H:List AObj),s.length-i≤n→i≤s.length→H[t]?=some (.siter s i)→H.take H0.length=H0→cY H0 H →
  ∃ H',H'.take H0.length=H0∧∀ (k:List Fra) (He:List AObj),M.go du H0 (.c b4 :: .lp ⟨(some [1,2,10]),[],false⟩ b4 He :: .blk 0 :: .c (.lv [])::k) (kv [(1,.fn (.func dX) [] []),(2,.bool true),(10,.ptr t 0)]) H=sel (decide (0≤noW n i (s.drop i))) (some (.ret (.int .i64 (noW n i (s.drop i))),H0)) (M.go du H0 k .leaf H'):=by
 intro n;induction n with
 |zero=>
  intro i H hn hi ht hc hck;obtain rfl:i=s.length:=by omega
  refine ⟨H,hc,fun k He => ?_⟩;rw [noW,show decide ((0:Int)≤-1)=false from rfl,sel_false];rw [aK M b4.eq_1];simp (maxSteps:=3000000) (maxDischargeDepth:=6) +contextual -implicitDefEqProofs only [amC M,↓amD,Nat.reduceBEq,Nat.reduceAdd,env,ao,dv,oY,ht,List.getElem?_cons_zero,Nat.lt_irrefl,aT]
 |succ n ih=>
  intro i H hn hi ht hc hck
  by_cases hlt:i<s.length
  ·have hne:s.drop i≠[]:=fun e=>by have:=congrArg List.length e;simp at this;omega
   have hem:(s.drop i).isEmpty=false:=by cases h:s.drop i with
    |nil=>exact absurd h hne
    |cons c t=>rfl
   have hw:=l6 (s.drop i);have hle:=tf hne;rw [List.length_drop] at hle;have hdd:Utf8.decode ⟨s.toArray⟩ i=aW (s.drop i):=wi s i;rw [noW,hem,sel_false,List.drop_drop];generalize aW (s.drop i)=d at *
   have htl:=bp ht;have ht1:(H.set t (.siter s (i+d.2)))[t]?=some (.siter s (i+d.2)):=List.getElem?_set_self htl;have hc1:(H.set t (.siter s (i+d.2))).take H0.length=H0:=by rw [List.take_set_of_le ht0];exact hc
   have hck1:cY H0 (H.set t (.siter s (i+d.2))):=zQ hc1;have hwd:=fun H=>Eo M hU hW d.1 H
   obtain ⟨H',h0,h1⟩:=ih (i+d.2) _ (by omega) (by omega) ht1 hc1 hck1;simp only [kv_cons,kv_nil] at h1;refine ⟨H',h0,fun k He => ?_⟩;cases hq:lA (unR d.1) with
   |true=>
    rw [hq] at hwd;rw [sel_true];rw [aK M b4.eq_1];simp (maxSteps:=3000000) (maxDischargeDepth:=6) +contextual -implicitDefEqProofs only [amC M,↓amD,Nat.reduceBEq,Nat.reduceAdd,env,ao,dv,amG,AV.cell,Nat.reduceMul,Nat.reduceLeDiff,oY,ht,hlt,hdd,aT,List.getElem?_cons_succ,List.getElem?_cons_zero,hwd,h1,Bool.not_true,(show req EK.bool (.bool false) (.bool true)=some false from rfl)]
   |false=>
    rw [hq] at hwd;rw [sel_false,show decide ((0:Int)≤(i:Int))=true from decide_eq_true (by omega),sel_true];rw [aK M b4.eq_1];simp (maxSteps:=3000000) (maxDischargeDepth:=6) +contextual -implicitDefEqProofs only [amC M,↓amD,Nat.reduceBEq,Nat.reduceAdd,env,ao,dv,amG,AV.cell,Nat.reduceMul,Nat.reduceLeDiff,oY,ht,hlt,hdd,aT,List.getElem?_cons_succ,List.getElem?_cons_zero,hwd,hc1,hck1,Bool.not_false,(show req EK.bool (.bool true) (.bool true)=some true from rfl)]
  ·obtain rfl:i=s.length:=by omega
   refine ⟨H,hc,fun k He => ?_⟩;rw [List.drop_length,noW,show ([]:Str).isEmpty=true from rfl,sel_true,show decide ((0:Int)≤-1)=false from rfl,sel_false];rw [aK M b4.eq_1];simp (maxSteps:=3000000) (maxDischargeDepth:=6) +contextual -implicitDefEqProofs only [amC M,↓amD,Nat.reduceBEq,Nat.reduceAdd,env,ao,dv,oY,ht,List.getElem?_cons_zero,Nat.lt_irrefl,aT]
theorem J7:∀ (n i:Nat) (s:Str),decide (0≤noW n i s)=false→noW n i s = -1
 |0,_,_,_=>rfl
 |n+1,i,s,h=>by
  rw [noW] at h ⊢;cases he:s.isEmpty with
  |true=>rfl
  |false=>
   rw [he,sel_false] at h;rw [sel_false];cases hq:lA (unR (aW s).1) with
   |true=>
    rw [hq,sel_true] at h;rw [sel_true];exact J7 n _ _ h
   |false=>
    rw [hq,sel_false] at h;have:=of_decide_eq_false h;omega
theorem FK(hU:qV E)(hW:WsE E){s:Str}(hs:s.length≤bJ)(H:List AObj):M.run gD [.str s,.fn (.func dX) [] []] H=some (.ret (.bool (!vo (aS s))),H):=by
 have h0:∀ H,M.run jM [.str s,.fn (.func dX) [] [],.bool true] H=some (.ret (.int .i64 (noW s.length 0 s)),H):=by
  intro H;have hg:(H++[.siter s 0])[H.length]?=some (.siter s 0):=aF H _;obtain ⟨H',hc,h1⟩:=OB M hU hW hs (t:=H.length) (H0:=H) (Nat.le_refl _) s.length 0 (H++[.siter s 0]) (by omega) (by omega) hg (hp_take H _) (cut_app H _);simp only [kv_cons,kv_nil,List.drop_zero] at h1;have rr:∀ H,rrg H (.str s)=some (AV.ptr H.length 0,H++[.siter s 0]):=fun _=>rfl
  have hck:=zQ hc;cases hq:decide (0≤noW s.length 0 s) with
  |true=>
   rw [hq] at h1;simp only [sel_true] at h1;rw [aP M hW.strings_indexFunc rfl (c:=el) rfl,el];simp (maxSteps:=3000000) (maxDischargeDepth:=6) +contextual -implicitDefEqProofs only [amC M,↓amD,Nat.reduceBEq,Nat.reduceAdd,env,ao,dv,amG,AV.cell,Nat.reduceMul,Nat.reduceLeDiff,rr,h1]
  |false=>
   rw [hq] at h1;simp only [sel_false] at h1;rw [J7 _ _ _ hq];rw [aP M hW.strings_indexFunc rfl (c:=el) rfl,el];simp (maxSteps:=3000000) (maxDischargeDepth:=6) +contextual -implicitDefEqProofs only [amC M,↓amD,Nat.reduceBEq,Nat.reduceAdd,env,ao,dv,amG,AV.cell,Nat.reduceMul,Nat.reduceLeDiff,rr,h1,hc,hck]
 have h2:∀ H,M.run jL [.str s,.fn (.func dX) [] []] H=some (.ret (.int .i64 (noW s.length 0 s)),H):=by
  intro H;rw [aP M hW.strings_IndexFunc rfl (c:=jQ) rfl,jQ];simp (maxSteps:=3000000) (maxDischargeDepth:=6) +contextual -implicitDefEqProofs only [amC M,↓amD,Nat.reduceBEq,Nat.reduceAdd,env,ao,tz,amG,AV.cell,Nat.reduceMul,Nat.reduceLeDiff,h0]
 rw [← GQ s.length 0 s (Nat.le_refl _)];rw [aP M hW.strings_ContainsFunc rfl (c:=gI) rfl,gI];simp (maxSteps:=3000000) (maxDischargeDepth:=6) +contextual -implicitDefEqProofs only [amC M,↓amD,Nat.reduceBEq,Nat.reduceAdd,env,ao,qN,amG,AV.cell,Nat.reduceMul,Nat.reduceLeDiff,h2]
end
section
attribute [local congr] aq aO aI au aH aC aw ak al aD aE
variable{E:aN}(M:a8 bn E)
def gy(w:Str):Bool:=(pcF w).2||H9 w
theorem FL(s:Str):(aS s).isEmpty=s.isEmpty:=by
 cases s with
 |nil=>rfl
 |cons c t=>rw [mT (by simp)];rfl
theorem LS{w:Str}(h:w≠[]):(((aW w).2:Int) == (w.length:Int))=(aS (w.drop (aW w).2)).isEmpty:=by
 have h1:=tf h;rw [FL,Bool.eq_iff_iff,beq_iff_eq,List.isEmpty_iff,List.drop_eq_nil_iff];omega
theorem FM(hB:lG E)(hS:mU E)(hX:tK M)(hD:wk M)(hU:qV E)(hW:WsE E){w:Str}(hw:w.length≤70368744177664)(H:List AObj):M.run pj [.str w] H=some (.ret (.bool (gy w)),H):=by
 have hm:w.length≤bJ:=by simp only [bJ];omega
 have hp:=fun H=>qW M hB hS hX hW (Nat.le_trans hw (by omega)) H
 have ht:=fun H=>zH M hB hD hm H
 have hf:=fun H=>Ia M hD hW w H
 have hn:=fun H=>FK M hU hW hm H
 unfold gy;rcases hq:pcF w with ⟨p,ok⟩
 rw [hq] at hp;have hr:p.row=[.int .u8 p.kind,.str p.text,.bool p.car]:=rfl;dsimp only [uB] at hp ⊢;rw [hr] at hp;cases ok with
 |true=>
  rw [aP M hW.docs_isWord rfl (c:=bY) rfl,bY];simp (maxSteps:=3000000) (maxDischargeDepth:=6) +contextual -implicitDefEqProofs only [amC M,↓amD,Nat.reduceBEq,Nat.reduceAdd,env,ao,ig,amG,AV.cell,Nat.reduceMul,Nat.reduceLeDiff,hp,aF,hp_set0,cut_app,hp_take,aT,List.getElem?_cons_zero,List.getElem?_cons_succ]
 |false=>
  rw [Bool.false_or]
  by_cases hne:w=[]
  ·subst hne
   rw [aP M hW.docs_isWord rfl (c:=bY) rfl,bY];simp (maxSteps:=3000000) (maxDischargeDepth:=6) +contextual -implicitDefEqProofs only [amC M,↓amD,Nat.reduceBEq,Nat.reduceAdd,env,ao,ig,amG,AV.cell,Nat.reduceMul,Nat.reduceLeDiff,hp,aF,hp_set0,cut_app,hp_take,aT,List.getElem?_cons_zero,List.getElem?_cons_succ,(show (([]:Str) == [])=true from rfl),(show H9 []=false from rfl)]
  ·have hne2:(w == ([]:Str))=false:=beq_eq_false_iff_ne.2 hne
   unfold H9;cases hx:kG w with
   |false=>
    rw [hx] at ht;rw [aP M hW.docs_isWord rfl (c:=bY) rfl,bY];simp (maxSteps:=3000000) (maxDischargeDepth:=6) +contextual -implicitDefEqProofs only [amC M,↓amD,Nat.reduceBEq,Nat.reduceAdd,env,ao,ig,amG,AV.cell,Nat.reduceMul,Nat.reduceLeDiff,hp,ht,hne2,aF,hp_set0,cut_app,hp_take,aT,List.getElem?_cons_zero,List.getElem?_cons_succ,Bool.false_and]
   |true=>
    rw [hx] at ht;have hm:=fun H=>Bx M hU (unR (aW w).1) H
    have hrow:(unR (aW w).1).row=[.int .i32 ((aW w).1:Int),.bool false]:=rfl;rw [hrow] at hm;rw [show HQ w=aW w from if_neg hne,LS hne] at hf;rw [mT hne] at hn ⊢;rw [Bool.true_and,CM];cases h1:(aS (w.drop (aW w).2)).isEmpty with
    |false=>
     rw [h1] at hf;rw [Bool.false_and,sel_false];rw [aP M hW.docs_isWord rfl (c:=bY) rfl,bY];simp (maxSteps:=3000000) (maxDischargeDepth:=6) +contextual -implicitDefEqProofs only [amC M,↓amD,Nat.reduceBEq,Nat.reduceAdd,env,ao,ig,amG,AV.cell,Nat.reduceMul,Nat.reduceLeDiff,hp,ht,hne2,hf,hn,aF,hp_set0,cut_app,hp_take,aT,List.getElem?_cons_zero,List.getElem?_cons_succ,Bool.not_not]
    |true=>
     rw [h1] at hf;rw [Bool.true_and];cases h2:nA (unR (aW w).1) with
     |true=>
      rw [h2] at hm;rw [sel_true];rw [aP M hW.docs_isWord rfl (c:=bY) rfl,bY];simp (maxSteps:=3000000) (maxDischargeDepth:=6) +contextual -implicitDefEqProofs only [amC M,↓amD,Nat.reduceBEq,Nat.reduceAdd,env,ao,ig,amG,AV.cell,Nat.reduceMul,Nat.reduceLeDiff,hp,ht,hne2,hf,hm,aF,hp_set0,cut_app,hp_take,aT,List.getElem?_cons_zero,List.getElem?_cons_succ]
     |false=>
      rw [h2] at hm;rw [sel_false];rw [aP M hW.docs_isWord rfl (c:=bY) rfl,bY];simp (maxSteps:=3000000) (maxDischargeDepth:=6) +contextual -implicitDefEqProofs only [amC M,↓amD,Nat.reduceBEq,Nat.reduceAdd,env,ao,ig,amG,AV.cell,Nat.reduceMul,Nat.reduceLeDiff,hp,ht,hne2,hf,hm,hn,aF,hp_set0,cut_app,hp_take,aT,List.getElem?_cons_zero,List.getElem?_cons_succ,Bool.not_not]
end
section
attribute [local congr] aq aO aI au aH aC aw ak al aD aE
variable{E:aN}(M:a8 bn E)
def wP(w:Str):ah:=sel (pcF w).2 (pcF w).1 ⟨5,[120],false⟩
theorem dcw(hB:lG E)(hS:mU E)(hX:tK M)(hD:wk M)(hU:qV E)(hW:WsE E){l:List Str}{tg:Tag}(hl:l.length≤1000000)(hs:∀ w∈l,w.length≤70368744177664)(hk:∀ n,Wk n (.slice tg 1 (l.map bh)) (.slice tg 1 (l.map bh))){H:List AObj}(k:List Fra) :
  ∀ (n i:Nat) (o:List ah),i+n=l.length→o.length≤i →
  M.go dV H (.c cH :: .lp ⟨(some [3,11,12,13]),[(3,3,ae)],true⟩ cH (H++[.tok (o.length*3) ae]) :: .blk 0 :: .c (.lv [3])::k) (kv [(3,.slice (.own H.length) 3 (o.map ah.row)),(11,.slice tg 1 (l.map bh)),(12,.int .i64 l.length),(13,.int .i64 i)]) (H++[.tok (o.length*3) ae]) =
   sel ((l.drop i).all gy) (M.go dV H k (kv [(3,.slice (.own H.length) 3 ((o++(l.drop i).map wP).map ah.row))]) (H++[.tok ((o++(l.drop i).map wP).length*3) ae])) (some (.ret (.int .u8 4),H))
 |0,i,o,h,ho=>by
  have e:i=l.length:=by omega
  subst e;rw [List.drop_length,List.map_nil,List.append_nil,List.all_nil,sel_true];rw [aK M cH.eq_1];simp (maxSteps:=3000000) (maxDischargeDepth:=6) +contextual -implicitDefEqProofs only [amC M,↓amD,Nat.reduceBEq,Nat.reduceAdd,env,ao,dg,Nat.lt_irrefl]
 |n+1,i,o,h,ho=>by
  have hi:i<l.length:=by omega
  have hx:l[i]?=some l[i]:=List.getElem?_eq_getElem hi;have hm:=hs _ (List.getElem_mem hi);have ht:=fun H=>FM M hB hS hX hD hU hW hm H
  have hp:=fun H=>qW M hB hS hX hW (Nat.le_trans hm (by omega)) H
  have hwi:=jJ (n:=l.length) hi (by simp only [bJ];omega);have hir:=bG (row:=bh) (tag:=tg) (sz:=1) (k:=.i64) hi;have w3:∀ o:List ah,Wk (H.length+1) (.slice (.own H.length) 3 (o.map ah.row)) (.slice (.own H.length) 3 (o.map ah.row)):=fun o=>wk_slice (by simp [yQ]) (JP _ _)
  have ih:=dcw hB hS hX hD hU hW (tg:=tg) (H:=H) hl hs hk k n (i+1) (o++[wP l[i]]) (by omega) (by simp;omega);simp only [kv_cons,kv_nil] at ih;have hr:∀ p:ah,p.row=[.int .u8 p.kind,.str p.text,.bool p.car]:=fun _=>rfl
  rw [List.drop_eq_getElem_cons hi,List.all_cons,List.map_cons,show o++wP l[i]::(l.drop (i+1)).map wP=o++[wP l[i]]++(l.drop (i+1)).map wP by simp];cases hq:gy l[i] with
  |false=>
   rw [hq] at ht;rw [Bool.false_and,sel_false];rw [aK M cH.eq_1];simp (maxSteps:=3000000) (maxDischargeDepth:=6) +contextual -implicitDefEqProofs only [amC M,↓amD,Nat.reduceBEq,Nat.reduceAdd,env,ao,dg,amG,AV.cell,Nat.reduceMul,Nat.reduceLeDiff,hi,hx,ht,hir,(show ∀ s:Str,bh s=[.str s] from fun _=>rfl),hp_take,cut_app]
  |true=>
   rw [hq] at ht;rw [Bool.true_and];simp only [uB,hr] at hp;cases hok:(pcF l[i]).2 with
   |true=>
    rw [hok] at hp;have hwp:wP l[i]=(pcF l[i]).1:=by rw [wP,hok,sel_true]
    rw [hwp] at ih ⊢;have ap:=fun L=>GB (row:=ah.row) (l:=o) (x:=(pcF l[i]).1) (r:=[.int .u8 (pcF l[i]).1.kind,.str (pcF l[i]).1.text,.bool (pcF l[i]).1.car]) (sz:=3) (bytes:=32) (e:=ae) H L rfl rfl rfl (by omega) (by omega)
    rw [aK M cH.eq_1];simp (maxSteps:=3000000) (maxDischargeDepth:=6) +contextual -implicitDefEqProofs only [amC M,↓amD,Nat.reduceBEq,Nat.reduceAdd,env,ao,dg,amG,AV.cell,Nat.reduceMul,Nat.reduceLeDiff,hi,hx,ht,hp,hwi,hir,hk,w3,ap,ih,(show ∀ s:Str,bh s=[.str s] from fun _=>rfl),aF,hp_set0,hp_getk,hp_setk,GA,Eh,aT,List.getElem?_cons_zero,List.getElem?_cons_succ,List.set_cons_succ,List.set_cons_zero]
   |false=>
    rw [hok] at hp;have hwp:wP l[i]=⟨5,[120],false⟩:=by rw [wP,hok,sel_false]
    rw [hwp] at ih ⊢;have ap:=fun L=>GB (row:=ah.row) (l:=o) (x:=⟨5,[120],false⟩) (r:=[.int .u8 5,.str [120],.bool false]) (sz:=3) (bytes:=32) (e:=ae) H L rfl rfl rfl (by omega) (by omega)
    rw [aK M cH.eq_1];simp (maxSteps:=3000000) (maxDischargeDepth:=6) +contextual -implicitDefEqProofs only [amC M,↓amD,Nat.reduceBEq,Nat.reduceAdd,env,ao,dg,amG,AV.cell,Nat.reduceMul,Nat.reduceLeDiff,hi,hx,ht,hp,hwi,hir,hk,w3,ap,ih,(show ∀ s:Str,bh s=[.str s] from fun _=>rfl),aF,hp_set0,hp_getk,hp_setk,GA,Eh,aT,List.getElem?_cons_zero,List.getElem?_cons_succ,List.set_cons_succ,List.set_cons_zero]
theorem J8(w:Str):(wP w).text.length≤w.length+1:=by
 unfold wP;cases h:(pcF w).2 with
 |false=>rw [sel_false];simp
 |true=>
  rw [sel_true];have h2:(rmk w).2=true:=by rw [← (GH w).1];exact h
  rw [(GH w).2 h2];have T:=JQ h2;have hw:wrF (rmk w).1=w:=by rw [T.wr,List.take_length]
  have:(rmk w).1.text.length≤(wrF (rmk w).1).length:=by
   rw [wrF];rcases T.kind with k | k | ⟨k,_⟩ | ⟨k,_⟩<;>(rw [k];simp [sel];try omega)
  rw [hw] at this;omega
def sX(l:List Str):Int:=sel (decide ((512:Int)<(l.length:Int))) 3 (sel (l.all gy) (gM (l.map wP)) 4)
theorem rn(hB:lG E)(hS:mU E)(hX:tK M)(hD:wk M)(hU:qV E)(hW:WsE E){l:List Str}{tg:Tag}(hs:l.length≤512→∀ w∈l,w.length≤1000000)(hk:∀ n,Wk n (.slice tg 1 (l.map bh)) (.slice tg 1 (l.map bh)))(H:List AObj) :
  M.run dS [.slice tg 1 (l.map bh)] H=some (.ret (.int .u8 (sX l)),H):=by
 unfold sX;cases h5:decide ((512:Int)<(l.length:Int)) with
 |true=>
  rw [aP M hW.docs_CheckWords rfl (c:=de) rfl,de];simp (maxSteps:=3000000) (maxDischargeDepth:=6) +contextual -implicitDefEqProofs only [amC M,↓amD,Nat.reduceBEq,Nat.reduceAdd,env,ao,dg,h5]
 |false=>
  have hl:l.length≤512:=by have:=of_decide_eq_false h5;omega
  have hs:=hs hl;have h4:=fun k=>dcw M hB hS hX hD hU hW (by omega) (fun w hw=>Nat.le_trans (hs w hw) (by omega)) hk (H:=H) k l.length 0 [] (by omega) (by simp)
  simp only [kv_cons,kv_nil,List.nil_append,List.length_nil,Nat.zero_mul,List.map_nil,Int.ofNat_zero,List.drop_zero] at h4
  have hc:=fun G:List AObj=>rm M hB hD (l:=⟨.own H.length,l.map wP⟩) (by rw [List.length_map];omega) (fun x hx=>by
   obtain ⟨w,hw,rfl⟩:=List.mem_map.1 hx;have:=J8 w;have:=hs w hw;omega) G
  dsimp only at hc;rw [sel_false];cases ha:l.all gy with
  |false=>
   rw [ha] at h4;simp only [sel_false] at h4;rw [sel_false];rw [aP M hW.docs_CheckWords rfl (c:=de) rfl,de];simp (maxSteps:=3000000) (maxDischargeDepth:=6) +contextual -implicitDefEqProofs only [amC M,↓amD,Nat.reduceBEq,Nat.reduceAdd,env,ao,dg,h5,h4]
  |true=>
   rw [ha] at h4;simp only [sel_true] at h4;rw [sel_true];have hc0:=hc (H++[.tok ((l.map wP).length*3) ae]);rw [aP M hW.docs_CheckWords rfl (c:=de) rfl,de];simp (maxSteps:=3000000) (maxDischargeDepth:=6) +contextual -implicitDefEqProofs only [amC M,↓amD,Nat.reduceBEq,Nat.reduceAdd,env,ao,dg,h5,h4,hc0,hp_take,cut_app]
end
section
attribute [local congr] aq aO aI au aH aC aw ak al aD aE
variable{E:aN}(M:a8 bn E)
theorem zR:∀ (l:List ah) (p b e:Bool) (st:List Str),vl l p b e st=0→∀ x∈l,rU x=false
 |[],_,_,_,_,_,x,hx=>by cases hx
 |y::l,p,b,e,st,h,x,hx=>by
  rw [vl] at h;cases h1:rU y with
  |true=>rw [h1,sel_true] at h;cases h
  |false=>
   rw [h1,sel_false] at h;rcases List.mem_cons.1 hx with rfl | hx
   ·exact h1
   ·cases h2:wq y with
    |true=>rw [h2,sel_true] at h;cases h
    |false=>
     rw [h2,sel_false] at h;cases h3:CG p y with
     |true=>rw [h3,sel_true] at h;cases h
     |false=>
      rw [h3,sel_false] at h;cases h4:xK y with
      |true=>rw [h4,sel_true] at h;cases h
      |false=>
       rw [h4,sel_false] at h;cases h5:iI b e y with
       |false=>rw [h5,sel_false] at h;cases h
       |true=>
        rw [h5,sel_true] at h;cases h6:(y.kind == 3) && !uz st y.text with
        |true=>rw [h6,sel_true] at h;cases h
        |false=>
         rw [h6,sel_false] at h;cases h7:y.kind == 2 with
         |false=>
          rw [h7,sel_false] at h;exact zR l _ _ _ _ h x hx
         |true=>
          rw [h7,sel_true] at h;cases h8:decide ((16:Int)<((y.text::stP y st).length:Int)) with
          |true=>rw [h8,sel_true] at h;cases h
          |false=>
           rw [h8,sel_false] at h;exact zR l _ _ _ _ h x hx
theorem zS{l:List ah}(h:gM l=0):∀ x∈l,rU x=false:=by
 unfold gM at h;cases h1:decide ((512:Int)<(l.length:Int)) with
 |true=>rw [h1,sel_true] at h;cases h
 |false=>rw [h1,sel_false] at h;exact zR l _ _ _ _ h
end
section
attribute [local congr] aq aO aI au aH aC aw ak al aD aE
variable{E:aN}(M:a8 bn E)
theorem LU{l:List ah}{p:ah}(h:(p.kind == 1)=false):dI l p=l++[p]:=by
 unfold dI;cases hl:l.getLast? with
 |none=>simp at hl;subst hl;rfl
 |some x=>dsimp only;rw [h];rfl
end
section
attribute [local congr] aq aO aI au aH aC aw ak al aD aE
variable{E:aN}(M:a8 bn E)
theorem FJ.app{R:Nat→Prop}{c:Nat}{H:List AObj}{S:CSt}{P q:Nat}{vs:List AV}{v:AV}{ta:Tag}{ov:AV}(h:FJ R c H S P q vs v ta ov)(X:List AObj):FJ R c (H++X) S P q vs v ta ov:=
 ⟨h.hn,h.hP,fun i hi=>by have:=h.rl i hi;simp;omega,br h.cell,br h.par,h.len,fun i w l hi hl=>⟨(h.dn i w l hi hl).1.stay fun Q cs _ hQ=>br hQ,(h.dn i w l hi hl).2⟩,h.cr.stay fun Q cs _ hQ=>br hQ,h.ab,h.pr,by have:=h.ql;simp;omega,h.op.stay fun O cs hO=>br hO,h.oa,h.tg⟩
theorem rV.app{R:Nat→Prop}{c:Nat}{H:List AObj}{S:CSt}(h:rV R c H S)(X:List AObj):rV R c (H++X) S:=by
 obtain ⟨P,q,vs,v,ta,ov,h⟩:=h;exact ⟨P,q,vs,v,ta,ov,h.app X⟩
theorem rV.le{R:Nat→Prop}{c:Nat}{H:List AObj}{S:CSt}(h:rV R c H S):c<H.length∧∀ i,R i→i<H.length:=by
 obtain ⟨P,q,vs,v,ta,ov,h⟩:=h;exact ⟨bp h.cell,h.rl⟩
theorem Oa{R:Nat→Prop}{G:List AObj}{v:AV}{l:List Str}(h:OpV G v l)(ha:free R v)(hn:∀ i,R i→i<G.length)(hl:l.length≤100000000)(s:Str) :
  ∃ v' G',rap true G aG 1 16 false v (.slice .full 1 [[.str s]])=some (v',G')∧OpV G' v' (l++[s])∧free R v'∧v'.cell=true∧bC v'=some [v']∧Frm R G G'∧∀ (i:Nat) (cs:List AV) (T:TypeId),G[i]?=some (AObj.cells cs T)→T≠aG→G'[i]?=some (AObj.cells cs T):=by
 rcases h with ⟨rfl,rfl⟩ | ⟨O,junk,rfl,hg⟩
 ·refine ⟨.rslice G.length 0 1 1 true,G++[.cells [.str s] aG], ?_,.inr ⟨G.length,[],rfl,by rw [aF];rfl⟩,fun Q o n e r eq hR=>(by cases eq;have:=hn _ hR;omega),rfl,rfl,Frm.app _ _ hn,fun i cs T hi _=>br hi⟩
  simp only [rap,n8,tl,or_true,if_true,ma];rw [if_pos (by simp)];rfl
 ·have hlt:=bp hg
  have hO:=ha O _ _ _ _ rfl;have hlen:l.length*1≤(tL l++junk).length:=by rw [List.length_append,qb];omega
  refine ⟨.rslice G.length 0 (l.length+1) 1 true,G.set O .dead++[.cells (tL (l++[s])) aG], ?_,.inr ⟨G.length,[],by simp, ?_⟩,fun Q o n e r eq hR=>(by cases eq;have:=hn _ hR;omega),rfl,rfl,⟨by simp,fun i hi => ?_,fun i s pos hi => ?_⟩,fun i cs T hi hT => ?_⟩
  ·simp only [rap,n8,tl,or_true,if_true,ma,hg]
   rw [if_pos ⟨trivial,trivial,hlen,by simp;omega,by simp;omega⟩];simp only [Nat.mul_one];rw [List.take_left' (by rw [qb]),zK];rfl
  ·rw [List.append_nil,show G.length=(G.set O .dead).length by simp,aF];rfl
  ·have:=hn i hi
   rw [List.getElem?_append_left (by simp;omega),List.getElem?_set_ne (fun e:O=i=>hO (by rw [e];exact hi))]
  ·have:=(List.getElem?_eq_some_iff.1 hi).1
   rw [List.getElem?_append_left (by simp;omega),List.getElem?_set_ne (fun e=>by subst e;rw [hg] at hi;cases hi)];exact hi
  ·have:=bp hi
   rw [List.getElem?_append_left (by simp;omega),List.getElem?_set_ne (LQ hg hi hT.symm)];exact hi
structure CBd (S:CSt):Prop where
 opn:S.opn.length≤100000
 opt:∀ s∈S.opn,s.length≤100000000
 done:S.done.length≤100000
 cur:S.cur.length≤100000
 txt:∀ x∈S.cur,x.text.length≤100000000
def R1(R:Nat→Prop)(k:Nat):Nat→Prop:=fun i=>R i∨i=k
theorem rV.more{R:Nat→Prop}{c:Nat}{H:List AObj}{S:CSt}(h:rV R c H S)(x:AObj):rV (R1 R H.length) c (H++[x]) S:=by
 obtain ⟨P,q,vs,v,ta,ov,h⟩:=h;have h2:=h.app [x]
 have fr:∀ (w:AV) (l:List ah),PcV H w l→free R w→free (R1 R H.length) w:=fun w l hp hf Q o n e r eq hR=>by
  rcases hR with hR | hR
  ·exact hf Q o n e r eq hR
  ·rcases hp with ⟨_,hv⟩ | ⟨_,Q',hv,hQ⟩
   ·rw [hv] at eq;cases eq
   ·rw [hv] at eq;cases eq;have:=bp hQ;omega
 refine ⟨P,q,vs,v,ta,ov,⟨fun hR => ?_,fun hR => ?_,fun i hi => ?_,h2.cell,h2.par,h2.len,fun i w l hi hl=>⟨(h2.dn i w l hi hl).1,(h2.dn i w l hi hl).2.1,fr w l (h.dn i w l hi hl).1 (h.dn i w l hi hl).2.2⟩,h2.cr,h2.ab,fr v _ h.cr h.pr,h2.ql,h2.op,fun Q o n e r eq hR => ?_,h2.tg⟩⟩
 ·rcases hR with hR | hR
  ·exact h.hn hR
  ·have:=bp h.cell;omega
 ·rcases hR with hR | hR
  ·exact h.hP hR
  ·have:=bp h.par;omega
 ·rcases hi with hi | hi
  ·have:=h.rl i hi;simp;omega
  ·simp;omega
 ·rcases hR with hR | hR
  ·exact h.oa Q o n e r eq hR
  ·rcases h.op with ⟨_,hv⟩ | ⟨O,junk,hv,hO⟩
   ·rw [hv] at eq;cases eq
   ·rw [hv] at eq;cases eq;have:=bp hO;omega
theorem rV.mono{R R':Nat→Prop}{c:Nat}{H:List AObj}{S:CSt}(h:rV R c H S)(hr:∀ i,R' i→R i):rV R' c H S:=by
 obtain ⟨P,q,vs,v,ta,ov,h⟩:=h;exact ⟨P,q,vs,v,ta,ov,⟨fun hR=>h.hn (hr _ hR),fun hR=>h.hP (hr _ hR),fun i hi=>h.rl i (hr i hi),h.cell,h.par,h.len,fun i w l hi hl=>⟨(h.dn i w l hi hl).1,(h.dn i w l hi hl).2.1,fun Q o n e r eq hR=>(h.dn i w l hi hl).2.2 Q o n e r eq (hr _ hR)⟩,h.cr,h.ab,fun Q o n e r eq hR=>h.pr Q o n e r eq (hr _ hR),h.ql,h.op,fun Q o n e r eq hR=>h.oa Q o n e r eq (hr _ hR),h.tg⟩⟩
end
section
attribute [local congr] aq aO aI au aH aC aw ak al aD aE
variable{E:aN}(M:a8 bn E)
end
section
attribute [local congr] aq aO aI au aH aC aw ak al aD aE
variable{E:aN}(M:a8 bn E)
def lH(r:Nat):Str:=(Utf8.encode (r:Int)).data.toList
theorem CN(r:Nat):(lH r).length≤4:=by
 unfold lH;simp only [Utf8.encode]
 repeat' split
 all_goals simp [ByteArray.size,ByteArray.push,ByteArray.empty,ByteArray.emptyWithCapacity]
structure CBm (m:Nat) (S:CSt):Prop where
 opn:S.opn.length≤m
 opt:∀ s∈S.opn,s.length≤m
 done:S.done.length≤m
 cur:S.cur.length≤2*m
 txt:∀ x∈S.cur,x.text.length≤m
 place:S.place≤m
theorem CBm.mono{m n:Nat}{S:CSt}(h:CBm m S)(hn:m≤n):CBm n S:=⟨Nat.le_trans h.opn hn,fun s hs=>Nat.le_trans (h.opt s hs) hn,Nat.le_trans h.done hn,by have:=h.cur;omega,fun x hx=>Nat.le_trans (h.txt x hx) hn,Nat.le_trans h.place hn⟩
theorem CBm.bd{m:Nat}{S:CSt}(h:CBm m S)(hm:m≤50000):CBd S:=⟨by have:=h.opn;omega,fun s hs=>by have:=h.opt s hs;omega,by have:=h.done;omega,by have:=h.cur;omega,fun x hx=>by have:=h.txt x hx;omega⟩
theorem Ep(l:List ah)(p:ah):(dI l p).length≤l.length+1:=by
 rcases List.eq_nil_or_concat l with rfl | ⟨t,x,rfl⟩
 ·simp [dI]
 ·rw [List.concat_eq_append,fj]
  cases p.kind == 1&&x.kind == 1<;>simp [sel_true,sel_false]
theorem Er{l:List ah}{p:ah}{m w:Nat}(h:∀ x∈l,x.text.length≤m)(hp:p.text.length≤w):∀ x∈dI l p,x.text.length≤m+w:=by
 intro y hy;rcases List.eq_nil_or_concat l with rfl | ⟨t,x,rfl⟩
 ·simp [dI] at hy;subst hy;omega
 ·rw [List.concat_eq_append] at hy h
  rw [fj] at hy;cases hk:p.kind == 1&&x.kind == 1 with
  |true=>
   rw [hk,sel_true] at hy;rcases List.mem_append.1 hy with hy | hy
   ·have:=h y (List.mem_append_left _ hy);omega
   ·rw [List.mem_singleton] at hy;subst hy
    have:=h x (by simp);simp only [List.length_append];omega
  |false=>
   rw [hk,sel_false] at hy;rcases List.mem_append.1 hy with hy | hy
   ·have:=h y hy;omega
   ·rw [List.mem_singleton] at hy;subst hy;omega
end
section
attribute [local congr] aq aO aI au aH aC aw ak al aD aE
variable{E:aN}(M:a8 bn E)
def lB(w:Str):List Str:=sel (w == []) [] [w]
def mkS(r:Nat):List Str:=sel (nA (unR r)) [lH r] []
def wdS:List Nat→Str→List Str×Str
 |[],w=>([],w)
 |r::rs,w=>sel (lA (unR r)) (wdS rs (w++lH r)) (lB w++mkS r++(wdS rs []).1,(wdS rs []).2)
def wdL(rs:List Nat):List Str:=(wdS rs []).1++lB (wdS rs []).2
theorem Nk(r:Nat):EW (.int .i32 (r:Int))=some (.str (lH r)):=rfl
theorem Nl(r:Nat):∃ c,lH r=c∧c.length≤4:=by
 have h:=CN r;generalize lH r=c at h;exact ⟨c,rfl,h⟩
theorem zT(w:Str):(lB w).length≤1:=by unfold lB;cases w == []<;>simp [sel]
theorem LV(r:Nat):(mkS r).length≤1:=by unfold mkS;cases nA (unR r)<;>simp [sel]
end
section
attribute [local congr] aq aO aI au aH aC aw ak al aD aE
variable{E:aN}(M:a8 bn E)
def wdP(x:ah):List Str:=sel (x.kind == 1) (wdL (aS x.text)) [wrF x]
def bK(l:List ah):List Str:=(l.map wdP).flatten
theorem xS:∀ (rs:List Nat) (w:Str),(wdS rs w).1.length≤2*rs.length
 |[],w=>by simp [wdS]
 |r::rs,w=>by
  rw [wdS];cases lA (unR r) with
  |true=>rw [sel_true];have:=xS rs (w++lH r);simp only [List.length_cons];omega
  |false=>
   rw [sel_false];have h0:=xS rs [];have h1:=zT w;have h2:=LV r;simp only [List.length_append,List.length_cons];omega
theorem LW(x:ah):(wdP x).length≤2*x.text.length+1:=by
 have h:=qT x.text;unfold wdP wdL;cases x.kind == 1 with
 |true=>
  rw [sel_true,List.length_append];have h1:=xS (aS x.text) [];have h2:=zT (wdS (aS x.text) []).2;omega
 |false=>rw [sel_false];simp
theorem Et{l:List ah}{i:Nat}(h:i<l.length):bK (l.drop i)=wdP l[i]++bK (l.drop (i+1)):=by
 rw [List.drop_eq_getElem_cons h];rfl
def wv(l:List ah):AV:=sel (gM l == 0) (sel (decide ((512:Int)<((bK l).length:Int))) (.tuple [.slice .any 1 [],.int .u8 3]) (.tuple [.slice .any 1 ((bK l).map bh),.int .u8 0])) (.tuple [.slice .any 1 [],.int .u8 (gM l)])
end
end Go.Am
