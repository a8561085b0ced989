import Derived.Test.YtnknpmlcimogcaaGreatDoorA6
import Derived.Test.YtnknpmlcimogcaaGreatDoorChecked
import Derived.Shelf.Strconv.AtoiAll
import Derived.Lib.LaidTab
import Derived.Stop.LaidErr
import Derived.KernelRfl
/-
  Part 7 of the tool: an abstract machine over the model, proved sound, and what it says of the functions that the law reaches. Condition: none but those that each theorem names.
-/
set_option linter.unusedVariables false
set_option linter.unusedSimpArgs false
set_option maxRecDepth 100000
set_option maxHeartbeats 4000000
namespace Go.Am
open Go.RowKit
section
attribute [local congr] aw aW cM bt aA bf aM aC ao aq aN aO
variable{E:bc}(M:cE bT E)
def V9(v:Str):Str:=[32]++v
def VaB(v:Str):Prop:=v.length≤12
theorem VaB.len{v:Str}(h:VaB v):(V9 v).length≤13:=by
 have:v.length≤12:=h
 simp only [V9,List.length_append,List.length_cons,List.length_nil];omega
end
section
attribute [local congr] aw aW cM bt aA bf aM aC ao aq aN aO
variable{E:bc}(M:cE bT E)
end
section
attribute [local congr] aw aW cM bt aA bf aM aC ao aq aN aO
variable{E:bc}(M:cE bT E)
structure nI (E:bc):Prop where
 strings_Index:E.fn jr=some oB
 internal_stringslite_Index:E.fn du=some eM
 internal_stringslite_IndexByte:E.fn cS=some dL
 strings_Count:E.fn jq=some oA
 strings_genSplit:E.fn iE=some eR
 strings_Split:E.fn jn=some oo
 strings_SplitN:E.fn iA=some nq
 strings_Cut:E.fn vj=some rj
 internal_stringslite_Cut:E.fn iF=some fF
 morph_demand:E.fn cj=some pI
 morph_number:E.fn j6=some pP
 morph_text:E.fn de=some tp
 morph_feats:E.fn iw=some lK
 morph_kinds:E.fn nR=some re
 morph_kinds_1:E.fn js=some oC
 morph_kinds_2:E.fn jt=some oD
 morph_kinds_3:E.fn ju=some oE
 morph_kinds_4:E.fn fG=some sE
 morph_kinds_5:E.fn gI=some sF
 morph_kinds_6:E.fn fH=some sG
 morph_kinds_7:E.fn jv=some oF
 morph_kinds_8:E.fn gJ=some sI
 morph_reader_read:E.fn eu=some ab
 morph_Parse:E.fn nP=some nS
 truchmanref02_Lines:E.fn qt=some qz
 truchmanref02_Split:E.fn qu=some qA
 truchmanref02_Number:E.fn kD=some pJ
 truchmanref02_bare:E.fn cA=some rH
 truchmanref02_bundled:E.fn gm=some oU
 truchmanref02_rank:E.fn ry=some rD
 truchmanref02_line:E.fn rz=some rE
 truchmanref02_Parse:E.fn qq=some qx
theorem AD(hS:nI E)(hX:kY M)(s:Str)(c:UInt8)(H:List AObj):M.run cS [.str s,.int .u8 c.toNat] H=some (.ret (.int .i64 (Lib.indexByte s c)),H):=by
 rw [aP M hS.internal_stringslite_IndexByte rfl (c:=fE) rfl,fE];simp (maxSteps:=3000000) (maxDischargeDepth:=6) +contextual -implicitDefEqProofs only [amC M,↓amD,Nat.reduceBEq,Nat.reduceAdd,env,ag,pV,hX.index]
theorem Hh(hS:nI E)(hX:kY M)(s:Str)(c:UInt8)(H:List AObj):M.run jr [.str s,.str [c]] H=some (.ret (.int .i64 (Lib.indexByte s c)),H):=by
 have h1:=AD M hS hX s c H
 have h2:M.run du [.str s,.str [c]] H=some (.ret (.int .i64 (Lib.indexByte s c)),H):=by
  rw [aP M hS.internal_stringslite_Index rfl (c:=dz) rfl,dz];have e0:((([c].length:Nat):Int) == 0)=false:=rfl;have e1:((([c].length:Nat):Int) == 1)=true:=rfl;have e2:zP ([c]:Str)[0]?=some (.int .u8 (c.toNat:Int)):=rfl;cases he:([c]:Str) == s with
  |true=>
   have:Lib.indexByte s c=0:=by rw [← eq_of_beq he];simp [Lib.indexByte]
   rw [this];simp (maxSteps:=3000000) (maxDischargeDepth:=6) +contextual -implicitDefEqProofs only [amC M,↓amD,Nat.reduceBEq,Nat.reduceAdd,env,ag,eP,e0,e1,he]
  |false=>
   simp (maxSteps:=3000000) (maxDischargeDepth:=6) +contextual -implicitDefEqProofs only [amC M,↓amD,Nat.reduceBEq,Nat.reduceAdd,env,ag,eP,e0,e1,e2,h1,he]
 rw [aP M hS.strings_Index rfl (c:=sA) rfl,sA];simp (maxSteps:=3000000) (maxDischargeDepth:=6) +contextual -implicitDefEqProofs only [amC M,↓amD,Nat.reduceBEq,Nat.reduceAdd,env,ag,Er,h2]
theorem Hi(hS:nI E)(hX:kY M)(s:Str)(c:UInt8)(H:List AObj):M.run jq [.str s,.str [c]] H=some (.ret (.int .i64 (Lib.countByte s c:Nat)),H):=by
 rw [aP M hS.strings_Count rfl (c:=sy) rfl,sy];have h2:=hX.count s c H;have e0:((([c].length:Nat):Int) == 0)=false:=rfl;have e1:((([c].length:Nat):Int) == 1)=true:=rfl;have e2:zP ([c]:Str)[0]?=some (.int .u8 (c.toNat:Int)):=rfl;simp (maxSteps:=3000000) (maxDischargeDepth:=6) +contextual -implicitDefEqProofs only [amC M,↓amD,Nat.reduceBEq,Nat.reduceAdd,env,ag,Ep,e0,e1,e2,h2]
def mh(c:UInt8):Str→List Str
 |[]=>[[]]
 |x::s=>if x=c then []::mh c s else match mh c s with
  |[]=>[[x]]
  |w::ws=>(x::w)::ws
theorem S7(c:UInt8):∀ s:Str,mh c s≠[]
 |[]=>by simp [mh]
 |x::s=>by
  rw [mh];split
  ·simp
  ·split<;>simp
theorem AE(c:UInt8):∀ (a r:Str),(∀ x∈a,x≠c)→mh c (a++c::r)=a::mh c r
 |[],r,_=>by simp [mh]
 |x::a,r,h=>by
  have h1:=AE c a r fun y hy=>h y (.tail _ hy)
  simp only [List.cons_append,mh,h1];rw [if_neg (h x (.head _))]
theorem CN(c:UInt8):∀ a:Str,(∀ x∈a,x≠c)→mh c a=[a]
 |[],_=>rfl
 |x::a,h=>by
  have h1:=CN c a fun y hy=>h y (.tail _ hy)
  simp only [mh,h1];rw [if_neg (h x (.head _))]
theorem LS(c:UInt8):∀ (s:Str) (m:Nat),Lib.countByte s c=m+1→∃ a r,s=a++c::r∧(∀ x∈a,x≠c)∧Lib.indexByte s c=(a.length:Int)∧Lib.countByte r c=m
 |[],m,h=>by simp [Lib.countByte] at h
 |x::s,m,h=>by
  by_cases hc:x=c
  ·subst hc
   exact ⟨[],s,rfl,fun c hc=>(by cases hc),by simp [Lib.indexByte],by simpa [Lib.countByte] using h⟩
  ·obtain ⟨a,r,h1,h2,h3,h4⟩:=LS c s m (by rwa [Lib.countByte,List.count_cons_of_ne (Ne.symm (by simpa using (fun e=>hc e.symm)))] at h)
   refine ⟨x::a,r,by rw [h1];rfl,fun y hy => ?_, ?_,h4⟩
   ·rcases List.mem_cons.1 hy with rfl | hy
    ·exact hc
    ·exact h2 y hy
   ·have hb:(x == c)=false:=by simpa using hc
    simp only [Lib.indexByte,hb,h3]
    have:((a.length:Int) == -1)=false:=beq_eq_false_iff_ne.2 (by omega)
    simp [this]
theorem N2(c:UInt8){s:Str}(h:Lib.countByte s c=0):(∀ x∈s,x≠c)∧Lib.indexByte s c = -1:=by
 have h1:∀ x∈s,x≠c:=fun x hx e=>by
  rw [Lib.countByte,List.count_eq_zero] at h;exact h (e ▸ hx)
 refine ⟨h1, ?_⟩;clear h;induction s with
 |nil=>rfl
 |cons x s ih=>
  have hb:(x == c)=false:=by simpa using h1 x (.head _)
  simp only [Lib.indexByte,hb,ih fun y hy=>h1 y (.tail _ hy)];simp
def lnI(c:UInt8):Nat→Str→List Str
 |0,_=>[]
 |n+1,s=>s.take (Lib.indexByte s c).toNat::lnI c n (s.drop ((Lib.indexByte s c).toNat+1))
def lnR(c:UInt8):Nat→Str→Str
 |0,s=>s
 |n+1,s=>lnR c n (s.drop ((Lib.indexByte s c).toNat+1))
theorem N3(c:UInt8):∀ (n:Nat) (s:Str),(lnI c n s).length=n
 |0,_=>rfl
 |n+1,s=>by rw [lnI,List.length_cons,N3 c n]
theorem JZ(c:UInt8):∀ (n:Nat) (s:Str),Lib.countByte s c=n→lnI c n s++[lnR c n s]=mh c s
 |0,s,h=>by rw [lnI,lnR,CN c s (N2 c h).1];rfl
 |n+1,s,h=>by
  obtain ⟨a,r,h1,h2,h3,h4⟩:=LS c s n h;have hm:(Lib.indexByte s c).toNat=a.length:=by rw [h3];rfl
  have hdr:s.drop (a.length+1)=r:=by
   rw [h1,show a++c::r=(a++[c])++r by simp];exact List.drop_left' (by simp)
  have htk:s.take a.length=a:=by rw [h1];exact List.take_left' rfl
  rw [lnI,lnR,hm,hdr,htk,List.cons_append,JZ c n r h4,h1,AE c a r h2]
def qg(n:Nat)(l:List Str):AObj:=.cells (l.map AV.str++List.replicate (n-l.length) (.str [])) bg
theorem N4:∀ (l:List Str),fI 1 l.length (l.map AV.str)=l.map aE
 |[]=>rfl
 |s::l=>by
  rw [List.length_cons,List.map_cons,fI,List.map_cons];simp only [List.take_succ_cons,List.take_zero,List.drop_succ_cons,List.drop_zero];rw [N4 l];rfl
theorem Nb{n:Nat}(h:n≤1000000)(H:List AObj)(e:TypeId)(cs:List AV):rms H e 16 cs (.int .i64 (n:Int)) (.int .i64 (n:Int))=some (.rslice H.length 0 n cs.length true,H++[.cells (List.replicate n cs).flatten e]):=by
 simp [rms];omega
theorem Vb(n:Nat)(x:AV):(List.replicate n [x]).flatten=List.replicate n x:=by
 induction n with
 |zero=>rfl
 |succ n ih=>rw [List.replicate_succ,List.flatten_cons,ih,List.replicate_succ];rfl
theorem Nc{id n m:Nat}(h:m≤n):zB 1 (.rslice id 0 n 1 true) none (some (.int .i64 (m:Int))) none=some (.rslice id 0 m 1 true):=by
 simp [zB,eF,h]
theorem EX{id n i:Nat}(h:i<n)(k:IntKind):qi 1 (.rslice id 0 n 1 true) (.int k (i:Int))=some (.ptr id i):=by
 simp only [qi];rw [if_pos ⟨trivial,by omega,by simp;omega⟩];simp
theorem CO(G:List AObj){N:Nat}{o:List Str}(ho:o.length<N)(w:Str):stO 1 (G++[qg N o]) G.length o.length [.str w] (some (qg N o))=some (G++[qg N (o++[w])]):=by
 unfold qg;rw [stO_cells (sz:=1) rfl (by simp;omega) rfl,hp_set0,setRow_cons,setRow_nil]
 have e:(o.map AV.str++List.replicate (N-o.length) (AV.str [])).set o.length (AV.str w)=(o++[w]).map AV.str++List.replicate (N-(o++[w]).length) (AV.str []):=by
  rw [List.set_append_right _ _ (by simp)];obtain ⟨m,hm⟩:∃ m,N-o.length=m+1:=⟨N-o.length-1,by omega⟩
  have hm2:N-(o++[w]).length=m:=by rw [List.length_append,List.length_singleton];omega
  rw [hm,hm2,List.replicate_succ,List.length_map,Nat.sub_self,List.set_cons_zero];simp
 rw [e];rfl
theorem gsp(hS:nI E)(hX:kY M){c:UInt8}{N:Nat}(hN:N≤100000000){H H0:List AObj}:∀ (n i:Nat) (s:Str) (o:List Str),i+n=N→n≤Lib.countByte s c→o.length=i→s.length≤100000000 →
  ∀ (k:List Fra) (He:List AObj),M.go eR H0 (.c dc :: .lp ⟨(some [0,1,2,3,9,10]),[],false⟩ dc He :: .blk 0 :: .c (.lv [0,9,10])::k) (kv [(0,.str s),(1,.str [c]),(2,.int .i64 0),(3,.int .i64 N),(9,.rslice H.length 0 (N+1) 1 true),(10,.int .i64 i)]) (H++[qg (N+1) o]) =
   M.go eR H0 k (kv [(0,.str (lnR c n s)),(9,.rslice H.length 0 (N+1) 1 true),(10,.int .i64 N)]) (H++[qg (N+1) (o++lnI c n s)])
 |0,i,s,o,h,hc,ho,hs,k,He=>by
  have e:i=N:=by omega
  subst e;rw [lnR,lnI,List.append_nil];rw [au M dc.eq_1];simp (maxSteps:=3000000) (maxDischargeDepth:=6) +contextual -implicitDefEqProofs only [amC M,↓amD,Nat.reduceBEq,Nat.reduceAdd,env,ag,fS,Nat.lt_irrefl]
 |n+1,i,s,o,h,hc,ho,hs,k,He=>by
  obtain ⟨cn,hcn⟩:∃ m,Lib.countByte s c=m+1:=⟨Lib.countByte s c-1,by omega⟩
  obtain ⟨a,r,h1,h2,h3,h4⟩:=LS c s cn hcn;have hi:i<N:=by omega
  have hx:=fun H=>Hh M hS hX s c H
  rw [h3] at hx;have hal:a.length+1≤s.length:=by rw [h1];simp
  have hm:(Lib.indexByte s c).toNat=a.length:=by rw [h3];rfl
  have d1:decide ((a.length:Int)<0)=false:=decide_eq_false (by omega);have hw0:IntKind.i64.wrap ((a.length:Int)+0)=(a.length:Int):=by rw [fO (by omega) (by omega)];omega
  have hw1:IntKind.i64.wrap ((a.length:Int)+1)=((a.length+1:Nat):Int):=by rw [fO (by omega) (by omega)];rfl
  have hw2:IntKind.i64.wrap ((i:Int)+1)=((i+1:Nat):Int):=by rw [fO (by omega) (by omega)];rfl
  have st1:Fx (.str s) none (some (.int .i64 (a.length:Int)))=some (.str (s.take a.length)):=V7 (by omega);have st2:Fx (.str s) (some (.int .i64 ((a.length+1:Nat):Int))) none=some (.str (s.drop (a.length+1))):=V8 hal
  have hdr:s.drop (a.length+1)=r:=by
   rw [h1,show a++c::r=(a++[c])++r by simp];exact List.drop_left' (by simp)
  have hia:=EX (id:=H.length) (n:=N+1) (i:=i) (by omega) .i64;have hg:(H++[qg (N+1) o])[H.length]?=some (qg (N+1) o):=by rw [eL];rfl
  have hst:=CO H (N:=N+1) (o:=o) (by omega) (s.take a.length);rw [ho] at hst;have ih:=gsp hS hX hN (c:=c) (H:=H) (H0:=H0) n (i+1) (s.drop (a.length+1)) (o++[s.take a.length]) (by omega) (by rw [hdr];omega) (by simp [ho]) (by rw [List.length_drop];omega) k;simp only [kv_cons,kv_nil] at ih;rw [lnR,lnI,hm,List.append_cons o];rw [au M dc.eq_1];simp (maxSteps:=3000000) (maxDischargeDepth:=6) +contextual -implicitDefEqProofs only [amC M,↓amD,Nat.reduceBEq,Nat.reduceAdd,env,ag,fS,amG,AV.cell,Nat.reduceMul,Nat.reduceLeDiff,hi,hx,d1,hw0,hw1,hw2,st1,st2,hia,hg,hst,ih,(show ((([c]:Str).length:Nat):Int)=1 from rfl),(show ((1:Nat):Int)=1 from rfl)]
theorem N5(n:Nat)(ws:List Str):kB n (ws.map aE):=by
 rw [rowsWk_map];exact fun _ _=>⟨wk_str _ _,trivial⟩
theorem Ec:∀ (m:Nat) (cs:List AV),m≤cs.length→fI 1 m cs=fI 1 m (cs.take m)
 |0,_,_=>rfl
 |m+1,[],h=>by simp at h
 |m+1,x::cs,h=>by
  rw [fI,fI];simp only [List.take_succ_cons,List.take_zero,List.drop_succ_cons,List.drop_zero];rw [Ec m cs (by simpa using h)]
theorem J0{H:List AObj}{l:List Str}{cs:List AV}{n N:Nat}(hg:H[n]?=some (.cells cs bg))(hc:cs.take l.length=l.map AV.str)(hl:l.length≤cs.length)(hN:N≤n):fzF 3 N H (.rslice n 0 l.length 1 true)=some (.slice .any 1 (l.map aE)):=by
 refine Iz (k:=2) (n:=N) (id:=n) (off:=0) (len:=l.length) (esz:=1) (room:=true) (cs:=cs) (rows:=l.map aE) (T:=bg) hN hg (by omega) ?_;have e:fI 1 l.length (cs.drop 0)=fI 1 l.length (l.map AV.str):=by rw [List.drop_zero,Ec l.length cs hl,hc]
 rw [e,N4];exact gQ fun x _=>aQ (iD _ _ _ _) (gb _)
theorem Pn{H:List AObj}{n:Nat}{l:List Str}(hl:l.length=n):(H++[qg n l])[H.length]?=some (.cells (l.map AV.str) bg):=by
 rw [eL];simp [qg,hl]
theorem IR(hS:nI E)(hX:kY M){c:UInt8}{s:Str}(hs:s.length≤100000)(H:List AObj):M.run jn [.str s,.str [c]] H=some (.ret (.slice .any 1 ((mh c s).map aE)),H):=by
 have hcl:Lib.countByte s c≤s.length:=List.count_le_length
 have h0:M.run iE [.str s,.str [c],.int .i64 0,.int .i64 (-1)] H=some (.ret (.slice .any 1 ((mh c s).map aE)),H):=by
  have hc:=fun H=>Hi M hS hX s c H
  have hw1:IntKind.i64.wrap ((Lib.countByte s c:Int)+1)=((Lib.countByte s c+1:Nat):Int):=by rw [fO (by omega) (by omega)];rfl
  have hw2:IntKind.i64.wrap ((s.length:Int)+1)=((s.length+1:Nat):Int):=by rw [fO (by omega) (by omega)];rfl
  have hw3:IntKind.i64.wrap (((Lib.countByte s c+1:Nat):Int)-1)=(Lib.countByte s c:Int):=by rw [fO (by omega) (by omega)];omega
  have hms:rms H bg 16 [.str []] (.int .i64 ((Lib.countByte s c+1:Nat):Int)) (.int .i64 ((Lib.countByte s c+1:Nat):Int))=some (.rslice H.length 0 (Lib.countByte s c+1) 1 true,H++[qg (Lib.countByte s c+1) []]):=by
   rw [Nb (by omega),Vb];rfl
  have l0:=gsp M hS hX (c:=c) (N:=Lib.countByte s c) (by omega) (H:=H) (H0:=H) (Lib.countByte s c) 0 s [] (by omega) (Nat.le_refl _) rfl (by omega);simp only [kv_cons,kv_nil,Int.ofNat_zero,List.nil_append] at l0;have hia:=EX (id:=H.length) (n:=Lib.countByte s c+1) (i:=Lib.countByte s c) (by omega) .i64;have hg:∀ y:AObj,(H++[y])[H.length]?=some y:=fun y=>by rw [eL];rfl
  have hll:=N3 c (Lib.countByte s c) s;have hst:=CO H (N:=Lib.countByte s c+1) (o:=lnI c (Lib.countByte s c) s) (by omega) (lnR c (Lib.countByte s c) s);rw [JZ c _ s rfl,hll] at hst;have hln:(mh c s).length=Lib.countByte s c+1:=by rw [← JZ c _ s rfl,List.length_append,hll];rfl
  have hsl:=Nc (id:=H.length) (n:=Lib.countByte s c+1) (m:=Lib.countByte s c+1) (Nat.le_refl _)
  have hfz:nA bT .deep H (H++[qg (Lib.countByte s c+1) (mh c s)]) (.rslice H.length 0 (Lib.countByte s c+1) 1 true)=some (.slice .any 1 ((mh c s).map aE),H):=by
   have h1:=J0 (l:=mh c s) (N:=H.length) (cs:=(mh c s).map AV.str) (Pn hln) (List.take_of_length_le (by simp)) (by simp) (Nat.le_refl _);rw [hln] at h1;have h2:=xv (cut_app H [qg (Lib.countByte s c+1) (mh c s)]) ⟨3,h1⟩;rw [hp_take] at h2;exact h2
  have q0:((-1:Int) == 0)=false:=rfl;have q1:(([c]:Str) == [])=false:=rfl;have q2:decide ((-1:Int)<0)=true:=rfl
  have hmn:B2 (.int .i64 ((Lib.countByte s c+1:Nat):Int)) (.int .i64 ((s.length+1:Nat):Int))=some (.int .i64 ((Lib.countByte s c+1:Nat):Int)):=by
   simp [B2];omega
  rw [aP M hS.strings_genSplit rfl (c:=eQ) rfl,eQ];simp (maxSteps:=3000000) (maxDischargeDepth:=6) +contextual -implicitDefEqProofs only [amC M,↓amD,Nat.reduceBEq,Nat.reduceAdd,env,ag,fS,amG,AV.cell,Nat.reduceMul,Nat.reduceLeDiff,q0,q1,q2,hc,hw1,hw2,hw3,hmn,hms,l0,hia,hg,hst,hsl,hfz,(show ((([c]:Str).length:Nat):Int)=1 from rfl),(show ((1:Nat):Int)=1 from rfl)]
 have hh:=handV_drop (cut_refl H) (wk_any (esz:=1) (tag:=.any) (N5 H.length (mh c s)));simp only [anyV_slice,hp_self] at hh;rw [aP M hS.strings_Split rfl (c:=so) rfl,so];simp (maxSteps:=3000000) (maxDischargeDepth:=6) +contextual -implicitDefEqProofs only [amC M,↓amD,Nat.reduceBEq,Nat.reduceAdd,env,ag,Ej,h0,hh]
end
section
attribute [local congr] aw aW cM bt aA bf aM aC ao aq aN aO
variable{E:bc}(M:cE bT E)
abbrev gk:AV:=.iface cV (.agg [])
theorem Vc(H:List AObj):OB gk H=some (.panic gk,H):=rfl
theorem IS{fn:AFn}(hm:fn.mode = .drop){H0 H:List AObj}(hc:dP H0 H):Cn bT fn H0 gk H=some (.panic gk,H.take H0.length):=by
 unfold Cn;have h:nA bT .drop H0 H gk=some (gk,H.take H0.length):=handV_drop hc (v:=gk) (wk_iface (wk_agg (xs:=[]) (by trivial)));rw [hm,h]
theorem gG{fn:AFn}(hm:fn.mode = .keep){H0 H:List AObj}(v:AV):Cn bT fn H0 v H=some (.panic v,H):=by
 unfold Cn;rw [hm];rfl
theorem w9{fn:AFn}(hm:fn.mode = .drop)(H:List AObj):Cn bT fn H gk H=some (.panic gk,H):=by
 rw [IS hm (cut_refl H),List.take_length]
theorem mZ:(∀ H,OB gk H=some (.panic gk,H))∧req (.ifc true) .nilif .nilif=some true∧(∀ t v,req (.ifc true) (.iface t v) .nilif=some false):=⟨Vc,rfl,fun _ _=>rfl⟩
theorem na(hS:nI E)(b:Bool)(H:List AObj):M.run cj [.bool b] H=some (sel b (.ret (.tuple [])) (.panic gk),H):=by
 rw [aP M hS.morph_demand rfl (c:=tS) rfl,tS];have ea:jd (fun x=>([]:List (Nat×Nat))[x]?) [] []=some []:=rfl;cases b with
 |true=>simp (maxSteps:=3000000) (maxDischargeDepth:=6) +contextual -implicitDefEqProofs only [amC M,↓amD,Nat.reduceBEq,Nat.reduceAdd,env,ag,Ab,sel,Bool.not_true]
 |false=>simp (maxSteps:=3000000) (maxDischargeDepth:=6) +contextual -implicitDefEqProofs only [amC M,↓amD,Nat.reduceBEq,Nat.reduceAdd,env,ag,Ab,sel,Bool.not_false,ea,mZ,aft_panic,w9]
def fT(s:Str):Str:=if (s == [45])=true then [] else s
theorem AF(hS:nI E)(s:Str)(H:List AObj):M.run de [.str s] H=some (.ret (.str (fT s)),H):=by
 rw [aP M hS.morph_text rfl (c:=xS) rfl,xS];cases h:(s == ([45]:Str))<;>simp (maxSteps:=3000000) (maxDischargeDepth:=6) +contextual -implicitDefEqProofs only [amC M,↓amD,Nat.reduceBEq,Nat.reduceAdd,env,ag,JQ,h,fT]
def zb(s:Str):Option Nat:=match Lib.atoiAll s with
 |.ok v=>if 0≤v∧v≤999∧fq v.toNat=s then some v.toNat else none
 |_=>none
theorem Hk(hS:nI E)(hX:kY M)(hP:w8 E){s:Str}(hs:s.length≤1000000)(H:List AObj) :
  M.run j6 [.str s] H=some (match zb s with | some n=>.ret (.int .i64 (n:Int)) | none=>.panic gk,H):=by
 have ha:=fun H=>hX.atoi s H hs
 have hd:=fun b H=>na M hS b H
 cases hv:Lib.atoiAll s with
 |ok v=>
  have e1:atV s=v:=by unfold atV;rw [hv]
  have e2:atE s = .nilif:=by unfold atE;rw [hv]
  rw [e1,e2] at ha;have eN:zb s=if 0≤v∧v≤999∧fq v.toNat=s then some v.toNat else none:=by unfold zb;rw [hv]
  rw [eN];cases h0:decide ((0:Int)≤v) with
  |false=>
   rw [if_neg (fun h=>absurd h.1 (of_decide_eq_false h0))];rw [aP M hS.morph_number rfl (c:=dW) rfl,dW];simp (maxSteps:=3000000) (maxDischargeDepth:=6) +contextual -implicitDefEqProofs only [amC M,↓amD,Nat.reduceBEq,Nat.reduceAdd,env,ag,mS,ha,hd,h0,sel,mZ,aft_panic,w9]
  |true=>
   cases h1:decide (v≤999) with
   |false=>
    rw [if_neg (fun h=>absurd h.2.1 (of_decide_eq_false h1))];rw [aP M hS.morph_number rfl (c:=dW) rfl,dW];simp (maxSteps:=3000000) (maxDischargeDepth:=6) +contextual -implicitDefEqProofs only [amC M,↓amD,Nat.reduceBEq,Nat.reduceAdd,env,ag,mS,ha,hd,h0,h1,sel,mZ,aft_panic,w9]
   |true=>
    have g0:=of_decide_eq_true h0;have g1:=of_decide_eq_true h1;obtain ⟨n,rfl⟩:∃ n:Nat,v=(n:Int):=⟨v.toNat,by omega⟩
    have hi:=fun H=>G8 M hX hP (n:=n) (by omega) H
    have en:((n:Int)).toNat=n:=by omega
    rw [en];cases h2:(fq n == s) with
    |false=>
     rw [if_neg (fun h=>by rw [h.2.2] at h2;simp at h2)];rw [aP M hS.morph_number rfl (c:=dW) rfl,dW];simp (maxSteps:=3000000) (maxDischargeDepth:=6) +contextual -implicitDefEqProofs only [amC M,↓amD,Nat.reduceBEq,Nat.reduceAdd,env,ag,mS,ha,hd,h0,h1,hi,h2,sel,mZ,aft_panic,w9]
    |true=>
     rw [if_pos ⟨g0,g1,eq_of_beq h2⟩];rw [aP M hS.morph_number rfl (c:=dW) rfl,dW];simp (maxSteps:=3000000) (maxDischargeDepth:=6) +contextual -implicitDefEqProofs only [amC M,↓amD,Nat.reduceBEq,Nat.reduceAdd,env,ag,mS,ha,hd,h0,h1,hi,h2,sel,mZ,aft_panic,w9]
 |_=>
  have e2:atE s = .iface eX .unk:=by unfold atE;rw [hv]
  rw [e2] at ha;have eN:zb s=none:=by unfold zb;rw [hv]
  rw [eN];rw [aP M hS.morph_number rfl (c:=dW) rfl,dW];simp (maxSteps:=3000000) (maxDischargeDepth:=6) +contextual -implicitDefEqProofs only [amC M,↓amD,Nat.reduceBEq,Nat.reduceAdd,env,ag,mS,ha,hd,sel,mZ,aft_panic,w9]
end
section
attribute [local congr] aw aW cM bt aA bf aM aC ao aq aN aO
variable{E:bc}(M:cE bT E)
theorem Wb(c:UInt8){s:Str}(h:Lib.countByte s c=1):∃ a r,s=a++c::r∧(∀ x∈a,x≠c)∧(∀ x∈r,x≠c)∧Lib.indexByte s c=(a.length:Int):=by
 obtain ⟨a,r,h1,h2,h3,h4⟩:=LS c s 0 h;exact ⟨a,r,h1,h2,(N2 c h4).1,h3⟩
def BT(c:UInt8)(s:Str):Str:=s.take (Lib.indexByte s c).toNat
def BU(c:UInt8)(s:Str):Str:=s.drop ((Lib.indexByte s c).toNat+1)
theorem S8(hS:nI E)(hX:kY M){c:UInt8}{s:Str}(hs:s.length≤1000000)(h:Lib.countByte s c=1)(H:List AObj):M.run vj [.str s,.str [c]] H=some (.ret (.tuple [.str (BT c s),.str (BU c s),.bool true]),H):=by
 obtain ⟨a,r,h1,h2,h3,h4⟩:=Wb c h;have hal:a.length+1≤s.length:=by rw [h1];simp
 have hi:∀ H,M.run du [.str s,.str [c]] H=some (.ret (.int .i64 (a.length:Int)),H):=fun H=>by
  have hb:=AD M hS hX s c H;rw [h4] at hb;rw [aP M hS.internal_stringslite_Index rfl (c:=dz) rfl,dz];have e0:((([c].length:Nat):Int) == 0)=false:=rfl;have e1:((([c].length:Nat):Int) == 1)=true:=rfl;have e2:zP ([c]:Str)[0]?=some (.int .u8 (c.toNat:Int)):=rfl;cases he:([c]:Str) == s with
  |true=>
   have:a.length=0:=by
    have:=eq_of_beq he;rw [← this] at hal;simp at hal;exact hal ▸ rfl
   rw [this];simp (maxSteps:=3000000) (maxDischargeDepth:=6) +contextual -implicitDefEqProofs only [amC M,↓amD,Nat.reduceBEq,Nat.reduceAdd,env,ag,eP,e0,e1,he,Int.ofNat_zero]
  |false=>
   simp (maxSteps:=3000000) (maxDischargeDepth:=6) +contextual -implicitDefEqProofs only [amC M,↓amD,Nat.reduceBEq,Nat.reduceAdd,env,ag,eP,e0,e1,e2,hb,he]
 have hm:(Lib.indexByte s c).toNat=a.length:=by rw [h4];rfl
 have d1:decide ((0:Int)≤(a.length:Int))=true:=decide_eq_true (by omega);have hw1:IntKind.i64.wrap ((a.length:Int)+1)=((a.length+1:Nat):Int):=by rw [fO (by omega) (by omega)];rfl
 have st1:Fx (.str s) none (some (.int .i64 (a.length:Int)))=some (.str (s.take a.length)):=V7 (by omega);have st2:Fx (.str s) (some (.int .i64 ((a.length+1:Nat):Int))) none=some (.str (s.drop (a.length+1))):=V8 hal
 have h5:∀ H,M.run iF [.str s,.str [c]] H=some (.ret (.tuple [.str (BT c s),.str (BU c s),.bool true]),H):=fun H=>by
  unfold BT BU;rw [hm];rw [aP M hS.internal_stringslite_Cut rfl (c:=iK) rfl,iK];simp (maxSteps:=3000000) (maxDischargeDepth:=6) +contextual -implicitDefEqProofs only [amC M,↓amD,Nat.reduceBEq,Nat.reduceAdd,env,ag,ue,hi,d1,hw1,st1,st2,(show ((([c]:Str).length:Nat):Int)=1 from rfl),(show ((1:Nat):Int)=1 from rfl)]
 rw [aP M hS.strings_Cut rfl (c:=vz) rfl,vz];simp (maxSteps:=3000000) (maxDischargeDepth:=6) +contextual -implicitDefEqProofs only [amC M,↓amD,Nat.reduceBEq,Nat.reduceAdd,env,ag,HK,h5]
def ir:List Str→Option (List aJ)
 |[]=>some []
 |s::l=>if Lib.countByte s 61=1 then (ir l).map (⟨BT 61 s,BU 61 s⟩ :: ·) else none
theorem Vd{α:Type}{row:α→List AV}{l:List α}{x:α}{sz bytes:Nat}{e:TypeId}(H:List AObj)(h1:(row x).length=sz)(h2:(row x).all AV.cell=true)(h3:(row x).map AV.strip=row x)
  (hl:(l.length+1)*bytes≤140737488355328) (hl2:l.length+1≤4611686018427387904) :
  rap false (H++[.tok (l.length*sz) e]) e sz bytes false (.slice (.own H.length) sz (l.map row)) (.slice .full sz [row x])=some (.slice (.own H.length) sz ((l++[x]).map row),H++[.tok ((l++[x]).length*sz) e]):=by
 have hr:=By h1 h2;simp only [rap,zC,yF,or_true,if_true,List.length_cons,List.length_nil,Nat.zero_add,true_and,hr,and_true,List.length_map,List.map_cons,List.map_nil,h3];rw [if_pos ⟨hl,by omega⟩];simp only [eL,List.getElem?_cons_zero,and_self,if_true,hp_set0,List.set_cons_zero,List.map_append,List.map_cons,List.map_nil,List.length_append,List.length_cons,List.length_nil,Nat.zero_add,Nat.add_mul]
def ftO(M:cE bT E)(H0:List AObj)(k:List Fra)(H:List AObj)(o:List aJ):Option (List aJ)→Option Out
 |some fs=>M.go lK H0 k (kv [(3,.slice (.own H.length) 2 ((o++fs).map aJ.row))]) (H++[.tok ((o++fs).length*2) bw])
 |none=>some (.panic gk,H.take H0.length)
theorem Rn(M:cE bT E)(H0:List AObj)(k:List Fra)(H:List AObj)(o:List aJ)(f:aJ)(r:Option (List aJ)):ftO M H0 k H o (r.map (f :: ·))=ftO M H0 k H (o++[f]) r:=by
 cases r with
 |none=>rfl
 |some fs=>simp only [Option.map_some,ftO,List.append_assoc,List.cons_append,List.nil_append]
theorem ft0(hS:nI E)(hX:kY M){tg:Tag}{ws:List Str}(hw:ws.length≤1000000)(hl:∀ s∈ws,s.length≤1000000){H H0:List AObj}(hc:dP H0 H):∀ (n i:Nat) (o:List aJ),i+n=ws.length→o.length≤i→∀ (k:List Fra) (He:List AObj),
  M.go lK H0 (.c jw :: .lp ⟨(some [3,9,10,11]),[(3,2,bw)],false⟩ jw He :: .blk 0 :: .c (.lv [3])::k) (kv [(3,.slice (.own H.length) 2 (o.map aJ.row)),(9,.slice tg 1 (ws.map aE)),(10,.int .i64 ws.length),(11,.int .i64 i)]) (H++[.tok (o.length*2) bw])=ftO M H0 k H o (ir (ws.drop i))
 |0,i,o,h,ho,k,He=>by
  have e:i=ws.length:=by omega
  subst e;rw [List.drop_length,ir,ftO];simp only [List.append_nil];rw [au M jw.eq_1];simp (maxSteps:=3000000) (maxDischargeDepth:=6) +contextual -implicitDefEqProofs only [amC M,↓amD,Nat.reduceBEq,Nat.reduceAdd,env,ag,nW,Nat.lt_irrefl]
 |n+1,i,o,h,ho,k,He=>by
  have hi:i<ws.length:=by omega
  have hx:ws[i]?=some ws[i]:=List.getElem?_eq_getElem hi;have hd:ws.drop i=ws[i]::ws.drop (i+1):=List.drop_eq_getElem_cons hi;have hsl:=hl _ (List.getElem_mem hi);have hil:=bG (row:=aE) (tag:=tg) (sz:=1) (k:=.i64) hi;have hwr:=cY hi (show ws.length≤bY by simp only [bY];omega);have hcn:=fun H=>Hi M hS hX ws[i] 61 H
  have hdm:=fun b H=>na M hS b H
  have hcm:=Lo hc [AObj.tok (o.length*2) bw];have htk:(H++[AObj.tok (o.length*2) bw]).take H0.length=H.take H0.length:=List.take_append_of_le_length hc.1;rw [hd,ir]
  by_cases h1:Lib.countByte ws[i] 61=1
  ·rw [if_pos h1,Rn]
   have h1':(((Lib.countByte ws[i] 61:Nat):Int) == 1)=true:=by rw [h1];rfl
   have hct:=fun H=>S8 M hS hX hsl h1 H
   have hap:=Vd (row:=aJ.row) (l:=o) (x:=⟨BT 61 ws[i],BU 61 ws[i]⟩) (sz:=2) (bytes:=32) (e:=bw) H (by rfl) (by rfl) (by rfl) (by omega) (by omega);have hap:rap false (H++[.tok (o.length*2) bw]) bw 2 32 false (.slice (.own H.length) 2 (o.map aJ.row)) (.slice .full 2 [[.str (BT 61 ws[i]),.str (BU 61 ws[i])]])=some (.slice (.own H.length) 2 ((o++[(⟨BT 61 ws[i],BU 61 ws[i]⟩:aJ)]).map aJ.row),H++[.tok ((o++[(⟨BT 61 ws[i],BU 61 ws[i]⟩:aJ)]).length*2) bw]):=hap
   have ih:=ft0 hS hX (tg:=tg) hw hl hc n (i+1) (o++[⟨BT 61 ws[i],BU 61 ws[i]⟩]) (by omega) (by simp;omega) k;simp only [kv_cons,kv_nil] at ih;generalize hff:(⟨BT 61 ws[i],BU 61 ws[i]⟩:aJ)=ff at *
   generalize ho2:o++[ff]=o2 at *
   rw [au M jw.eq_1];simp (maxSteps:=3000000) (maxDischargeDepth:=6) +contextual -implicitDefEqProofs only [amC M,↓amD,Nat.reduceBEq,Nat.reduceAdd,env,ag,nW,amG,AV.cell,Nat.reduceMul,Nat.reduceLeDiff,hi,hx,hil,hcn,hdm,h1',sel,hct,hap,ih,hwr,gU]
  ·rw [if_neg h1,ftO]
   have h1':(((Lib.countByte ws[i] 61:Nat):Int) == 1)=false:=beq_eq_false_iff_ne.2 (by omega);rw [au M jw.eq_1];simp (maxSteps:=3000000) (maxDischargeDepth:=6) +contextual -implicitDefEqProofs only [amC M,↓amD,Nat.reduceBEq,Nat.reduceAdd,env,ag,nW,hi,hx,hil,hcn,hdm,h1',sel,mZ,aft_panic,IS,hcm,htk,gU]
theorem DI(hS:nI E)(hX:kY M){tg:Tag}{ws:List Str}(hw:ws.length≤1000000)(hl:∀ s∈ws,s.length≤1000000)(H:List AObj) :
  M.run iw [.slice tg 1 (ws.map aE)] H=some (match ir ws with | some fs=>.ret (.slice .any 2 (fs.map aJ.row)) | none=>.panic gk,H):=by
 have l0:=ft0 M hS hX (tg:=tg) hw hl (cut_refl H) ws.length 0 [] (by omega) (by simp);simp only [kv_cons,kv_nil,Int.ofNat_zero,List.drop_zero,List.map_nil,List.length_nil,Nat.zero_mul] at l0;cases hf:ir ws with
 |none=>
  rw [hf] at l0;simp only [ftO,hp_self] at l0;rw [aP M hS.morph_feats rfl (c:=nV) rfl,nV];simp (maxSteps:=3000000) (maxDischargeDepth:=6) +contextual -implicitDefEqProofs only [amC M,↓amD,Nat.reduceBEq,Nat.reduceAdd,env,ag,nW,amG,AV.cell,Nat.reduceMul,Nat.reduceLeDiff,l0]
 |some fs=>
  rw [hf] at l0;simp only [ftO,kv_cons,kv_nil,List.nil_append] at l0;have hr:kB H.length (fs.map aJ.row):=by rw [rowsWk_map];exact fun _ _=>⟨wk_str _ _,wk_str _ _,trivial⟩
  have hh:=handV_drop (cut_app H [.tok (fs.length*2) bw]) (wk_any (esz:=2) (tag:=.own H.length) hr);simp only [anyV_slice,hp_take] at hh;rw [aP M hS.morph_feats rfl (c:=nV) rfl,nV];simp (maxSteps:=3000000) (maxDischargeDepth:=6) +contextual -implicitDefEqProofs only [amC M,↓amD,Nat.reduceBEq,Nat.reduceAdd,env,ag,nW,amG,AV.cell,Nat.reduceMul,Nat.reduceLeDiff,l0,hh]
theorem Ro(hS:nI E)(hX:kY M){c:UInt8}{s:Str}(hc:Lib.countByte s c=0){H H0:List AObj}(k:List Fra)(He:List AObj) :
  M.go eR H0 (.c dc :: .lp ⟨(some [0,1,2,3,9,10]),[],false⟩ dc He :: .blk 0 :: .c (.lv [0,9,10])::k) (kv [(0,.str s),(1,.str [c]),(2,.int .i64 0),(3,.int .i64 1),(9,.rslice H.length 0 2 1 true),(10,.int .i64 0)]) (H++[qg 2 []]) =
   M.go eR H0 k (kv [(0,.str s),(9,.rslice H.length 0 2 1 true),(10,.int .i64 0)]) (H++[qg 2 []]):=by
 have hx:=fun H=>Hh M hS hX s c H
 rw [(N2 c hc).2] at hx;have d0:decide ((0:Int)<1)=true:=rfl;have d1:decide ((-1:Int)<0)=true:=rfl;rw [au M dc.eq_1];simp (maxSteps:=3000000) (maxDischargeDepth:=6) +contextual -implicitDefEqProofs only [amC M,↓amD,Nat.reduceBEq,Nat.reduceAdd,env,ag,fS,hx,d0,d1]
theorem Nd(hS:nI E)(hX:kY M){c:UInt8}{s w:Str}{ws:List Str}(hs:s.length≤100000)(h0:s≠[])(hw:mh c s=w::ws):∃ rest:List Str,∀ H,M.run iA [.str s,.str [c],.int .i64 2] H=some (.ret (.slice .any 1 ((w::rest).map aE)),H):=by
 have hpos:0<s.length:=List.length_pos_iff.2 h0;have q0:((2:Int) == 0)=false:=rfl;have q1:(([c]:Str) == [])=false:=rfl;have q2:decide ((2:Int)<0)=false:=rfl;have hw2:IntKind.i64.wrap ((s.length:Int)+1)=((s.length+1:Nat):Int):=by rw [fO (by omega) (by omega)];rfl
 have hmn:B2 (.int .i64 2) (.int .i64 ((s.length+1:Nat):Int))=some (.int .i64 2):=by
  simp [B2];omega
 have hw3:IntKind.i64.wrap (2-1)=1:=by decide
 have done:∀ (rest:List Str),(∀ H,M.run iE [.str s,.str [c],.int .i64 0,.int .i64 2] H=some (.ret (.slice .any 1 ((w::rest).map aE)),H))→∀ H,M.run iA [.str s,.str [c],.int .i64 2] H=some (.ret (.slice .any 1 ((w::rest).map aE)),H):=fun rest h H=>by
  have hh:=handV_drop (cut_refl H) (wk_any (esz:=1) (tag:=.any) (N5 H.length (w::rest)));simp only [anyV_slice,hp_self] at hh;rw [aP M hS.strings_SplitN rfl (c:=qN) rfl,qN];simp (maxSteps:=3000000) (maxDischargeDepth:=6) +contextual -implicitDefEqProofs only [amC M,↓amD,Nat.reduceBEq,Nat.reduceAdd,env,ag,Df,h,hh]
 have hg:∀ (H:List AObj) (y:AObj),(H++[y])[H.length]?=some y:=fun H y=>by rw [eL];rfl
 cases hc:Lib.countByte s c with
 |zero=>
  have e:=CN c s (N2 c hc).1;rw [e] at hw;injection hw with hw _;subst hw;refine ⟨[],done [] fun H => ?_⟩
  have hms:rms H bg 16 [.str []] (.int .i64 2) (.int .i64 2)=some (.rslice H.length 0 2 1 true,H++[qg 2 []]):=by
   have:=Nb (n:=2) (by omega) H bg [.str []];rw [Vb] at this;exact this
  have l0:=Ro M hS hX hc (H:=H) (H0:=H);simp only [kv_cons,kv_nil] at l0;have hia:qi 1 (.rslice H.length 0 2 1 true) (.int .i64 0)=some (.ptr H.length 0):=EX (id:=H.length) (n:=2) (i:=0) (by omega) .i64;have hst:stO 1 (H++[qg 2 []]) H.length 0 [.str s] (some (qg 2 []))=some (H++[qg 2 [s]]):=CO H (N:=2) (o:=[]) (by decide) s;have hsl:zB 1 (.rslice H.length 0 2 1 true) none (some (.int .i64 1)) none=some (.rslice H.length 0 1 1 true):=Nc (id:=H.length) (n:=2) (m:=1) (by omega)
  have hfz:nA bT .deep H (H++[qg 2 [s]]) (.rslice H.length 0 1 1 true)=some (.slice .any 1 ([s].map aE),H):=by
   have h1:=J0 (H:=H++[qg 2 [s]]) (n:=H.length) (l:=[s]) (N:=H.length) (cs:=[.str s,.str []]) (hg H _) rfl (by simp) (Nat.le_refl _);have h2:=xv (cut_app H [qg 2 [s]]) ⟨3,h1⟩;rw [hp_take] at h2;exact h2
  rw [aP M hS.strings_genSplit rfl (c:=eQ) rfl,eQ];simp (maxSteps:=3000000) (maxDischargeDepth:=6) +contextual -implicitDefEqProofs only [amC M,↓amD,Nat.reduceBEq,Nat.reduceAdd,env,ag,fS,amG,AV.cell,Nat.reduceMul,Nat.reduceLeDiff,q0,q1,q2,hw2,hw3,hmn,hms,l0,hia,hg,hst,hsl,hfz,(show IntKind.i64.wrap (0+1)=1 from by decide),(show ((0:Nat):Int)=0 from rfl),(show ((1:Nat):Int)=1 from rfl)]
 |succ m=>
  obtain ⟨a,r,h1,h2,h3,h4⟩:=LS c s m hc;have hm:(Lib.indexByte s c).toNat=a.length:=by rw [h3];rfl
  have htk:s.take a.length=a:=by rw [h1];exact List.take_left' rfl
  have hws:a=w:=by rw [h1,AE c a r h2] at hw;injection hw
  subst hws;refine ⟨[s.drop (a.length+1)],done _ fun H => ?_⟩
  have hms:rms H bg 16 [.str []] (.int .i64 2) (.int .i64 2)=some (.rslice H.length 0 2 1 true,H++[qg 2 []]):=by
   have:=Nb (n:=2) (by omega) H bg [.str []];rw [Vb] at this;exact this
  have l0:=gsp M hS hX (c:=c) (N:=1) (by omega) (H:=H) (H0:=H) 1 0 s [] (by omega) (by omega) rfl (by omega);simp only [lnR,lnI,hm,htk,List.nil_append,kv_cons,kv_nil,Int.ofNat_zero,(show ((1:Nat):Int)=1 from rfl)] at l0;have hia:qi 1 (.rslice H.length 0 2 1 true) (.int .i64 1)=some (.ptr H.length 1):=EX (id:=H.length) (n:=2) (i:=1) (by omega) .i64;have hst:stO 1 (H++[qg 2 [a]]) H.length 1 [.str (s.drop (a.length+1))] (some (qg 2 [a]))=some (H++[qg 2 [a,s.drop (a.length+1)]]):=CO H (N:=2) (o:=[a]) (by simp) (s.drop (a.length+1))
  have hsl:zB 1 (.rslice H.length 0 2 1 true) none (some (.int .i64 2)) none=some (.rslice H.length 0 2 1 true):=Nc (id:=H.length) (n:=2) (m:=2) (by omega);have hw4:IntKind.i64.wrap (1+1)=2:=by decide
  have hfz:nA bT .deep H (H++[qg 2 [a,s.drop (a.length+1)]]) (.rslice H.length 0 2 1 true)=some (.slice .any 1 ([a,s.drop (a.length+1)].map aE),H):=by
   have h1:=J0 (H:=H++[qg 2 [a,s.drop (a.length+1)]]) (n:=H.length) (l:=[a,s.drop (a.length+1)]) (N:=H.length) (cs:=[.str a,.str (s.drop (a.length+1))]) (hg H _) rfl (by simp) (Nat.le_refl _);have h2:=xv (cut_app H [qg 2 [a,s.drop (a.length+1)]]) ⟨3,h1⟩;rw [hp_take] at h2;exact h2
  rw [aP M hS.strings_genSplit rfl (c:=eQ) rfl,eQ];simp (maxSteps:=3000000) (maxDischargeDepth:=6) +contextual -implicitDefEqProofs only [amC M,↓amD,Nat.reduceBEq,Nat.reduceAdd,env,ag,fS,amG,AV.cell,Nat.reduceMul,Nat.reduceLeDiff,q0,q1,q2,hw2,hw3,hw4,hmn,hms,l0,hia,hg,hst,hsl,hfz,(show ((2:Nat):Int)=2 from rfl),(show ((1:Nat):Int)=1 from rfl)]
end
section
attribute [local congr] aw aW cM bt aA bf aM aC ao aq aN aO
variable{E:bc}(M:cE bT E)
structure Gro (α:Type) where
 w:Nat
 T:TypeId
 m:Nat
 eT:TypeId
 pre:α→List AV
 rows:α→List (List AV)
 hw:∀ x,(pre x).length+1=w
 hc:∀ x,(pre x).all AV.cell=true
def Nf(N n sz:Nat)(v:AV)(rows:List (List AV)):Prop:=(rows=[]∧v = .slice .nil sz [])∨∃ t,N≤t∧t<n∧v = .slice (.own t) sz rows
theorem Nf.mono{N n n' sz:Nat}{v:AV}{rows:List (List AV)}(h:Nf N n sz v rows)(hn:n≤n'):Nf N n' sz v rows:=by
 rcases h with h | ⟨t,h1,h2,h3⟩
 ·exact .inl h
 ·exact .inr ⟨t,h1,by omega,h3⟩
theorem sV.own{N:Nat}{e:TypeId}{sz:Nat}{G:List AObj}{v:AV}{rows:List (List AV)}(h:sV N e sz G v rows):Nf N G.length sz v rows:=by
 rcases h with h | ⟨t,h1,h2,h3⟩
 ·exact .inl h
 ·exact .inr ⟨t,h1,eS h3,h2⟩
def GP{α:Type}(g:Gro α)(N n:Nat):List AV→List α→Prop
 |cells,[]=>cells=[]
 |cells,x::xs => ∃ v rest,cells=g.pre x++v::rest∧Nf N n g.m v (g.rows x)∧GP g N n rest xs
theorem GP.mono{α:Type}{g:Gro α}{N n n':Nat}(hn:n≤n'):∀ {cells:List AV}{xs:List α},GP g N n cells xs→GP g N n' cells xs
 |_,[],h=>h
 |_,_::_,⟨v,rest,h1,h2,h3⟩=>⟨v,rest,h1,h2.mono hn,h3.mono hn⟩
theorem GP.len{α:Type}{g:Gro α}{N n:Nat}:∀ {cells:List AV}{xs:List α},GP g N n cells xs→cells.length=xs.length*g.w
 |_,[],h=>by rw [show _=[] from h];simp
 |_,x::xs,⟨v,rest,h1,_,h3⟩=>by
  have:=h3.len;have:=g.hw x;rw [h1,List.length_append,List.length_cons,List.length_cons,Nat.succ_mul];omega
theorem GP.app{α:Type}{g:Gro α}{N n:Nat}{x:α}{v:AV}(hv:Nf N n g.m v (g.rows x)):∀ {cells:List AV}{xs:List α},GP g N n cells xs→GP g N n (cells++(g.pre x++[v])) (xs++[x])
 |_,[],h=>by
  rw [show _=[] from h];exact ⟨v,[],by simp,hv,rfl⟩
 |_,y::xs,⟨u,rest,h1,h2,h3⟩=>⟨u,rest++(g.pre x++[v]),by rw [h1];simp,h2,h3.app hv⟩
def GrV{α:Type}(g:Gro α)(N:Nat)(G:List AObj)(cv:AV)(xs:List α):Prop:=
 (xs=[]∧cv = .slice .nil g.w [])∨∃ id pc i x v,xs=i++[x]∧N≤id∧cv = .rslice id 0 xs.length g.w true∧G[id]?=some (.cells (pc++(g.pre x++[v])) g.T)∧GP g N G.length pc i∧sV N g.eT g.m G v (g.rows x)
theorem GrV.len{α:Type}{g:Gro α}{N:Nat}{G:List AObj}{cv:AV}{xs:List α}(h:GrV g N G cv xs)(H:List AObj):Bq H .sl cv=some (.int .i64 (xs.length:Int))∧cv.cell=true∧dD cv=some [cv]:=by
 rcases h with ⟨rfl,rfl⟩ | ⟨id,pc,i,x,v,h1,h2,rfl,_⟩
 ·exact ⟨rfl,rfl,rfl⟩
 ·exact ⟨rfl,rfl,rfl⟩
theorem GrV.stay{α:Type}{g:Gro α}{N:Nat}{G G':List AObj}{cv:AV}{xs:List α}(h:GrV g N G cv xs)(hl:G.length≤G'.length)
  (h1:∀ i cs,N≤i→G[i]?=some (.cells cs g.T)→G'[i]?=G[i]?) (h2:∀ i n,N≤i→G[i]?=some (.tok n g.eT)→G'[i]?=G[i]?):GrV g N G' cv xs:=by
 rcases h with h | ⟨id,pc,i,x,v,e1,e2,e3,e4,e5,e6⟩
 ·exact .inl h
 ·exact .inr ⟨id,pc,i,x,v,e1,e2,e3,by rw [h1 id _ e2 e4];exact e4,e5.mono hl,e6.stay fun t ht hg=>h2 t _ ht hg⟩
theorem GrV.push{α:Type}{g:Gro α}{N bytes:Nat}{G:List AObj}{cv:AV}{xs:List α}(h:GrV g N G cv xs)(hN:N≤G.length){x:α}(hx:g.rows x=[])(hl:(xs.length+1)*bytes≤140737488355328)(hl2:xs.length+1≤4611686018427387904) :
  ∃ cv' G',rap true G g.T g.w bytes false cv (.slice .full g.w [g.pre x++[.slice .nil g.m []]])=some (cv',G')∧GrV g N G' cv' (xs++[x])∧G.length≤G'.length∧(∀ i,i<N→G'[i]?=G[i]?)∧∀ i,i<G.length→(∀ cs,G[i]?≠some (.cells cs g.T))→G'[i]?=G[i]? := by
 have hr:r9 g.w [g.pre x++[.slice .nil g.m []]]=true:=By (by rw [List.length_append];exact g.hw x) (by rw [List.all_append,g.hc x];rfl);rcases h with ⟨rfl,rfl⟩ | ⟨id,pc,i,y,v,rfl,h2,rfl,h4,h5,h6⟩
 ·refine ⟨.rslice G.length 0 1 g.w true,G++[.cells (g.pre x++[.slice .nil g.m []]) g.T], ?_,.inr ⟨G.length,[],[],x,.slice .nil g.m [],rfl,hN,rfl,by rw [eL];rfl,rfl,.inl ⟨hx,rfl⟩⟩,by simp,fun i hi=>List.getElem?_append_left (by omega),fun i hi _=>List.getElem?_append_left hi⟩
  have e:(List.length ([]:List (List AV))+List.length [g.pre x++[AV.slice .nil g.m []]])=1:=rfl;simp only [rap,Cd,yF,or_true,if_true,hr,e];rw [if_pos ⟨trivial,by simpa using hl,by omega,by simp⟩];simp
 ·have hlen:(pc++(g.pre y++[v])).length=(i.length+1)*g.w:=by
   have:=h5.len;have:=g.hw y;rw [List.length_append,List.length_append,List.length_singleton,Nat.succ_mul];omega
  have hlt:=eS h4;have exs:(i++[y]).length=i.length+1:=by simp
  refine ⟨.rslice G.length 0 (i.length+2) g.w true,G.set id .dead++[.cells ((pc++(g.pre y++[v]))++(g.pre x++[.slice .nil g.m []])) g.T], ?_,.inr ⟨G.length,pc++(g.pre y++[v]),i++[y],x,.slice .nil g.m [],rfl,hN,by simp, ?_, ?_,.inl ⟨hx,rfl⟩⟩,by simp,fun j hj => ?_,fun j hj hne => ?_⟩
  ·have e:(i.length+1+List.length [g.pre x++[AV.slice .nil g.m []]])=i.length+2:=rfl
   rw [exs] at hl hl2 ⊢;simp only [rap,Cd,yF,or_true,if_true,hr,h4];rw [if_pos ⟨trivial,trivial,by rw [hlen];exact Nat.le_refl _,by simpa using hl,by simpa using hl2⟩];rw [← hlen,List.take_length];simp
  ·have:G.length=(G.set id .dead).length:=by simp
   rw [this,List.getElem?_append_right (Nat.le_refl _)];simp
  ·exact (h5.app h6.own).mono (by simp)
  ·rw [List.getElem?_append_left (by simp;omega),List.getElem?_set_ne (by omega)]
  ·rw [List.getElem?_append_left (by simpa using hj),List.getElem?_set_ne (fun e=>hne _ (by rw [← e];exact h4))]
theorem GrV.last{α:Type}{g:Gro α}{N bytes:Nat}{G:List AObj}{cv:AV}{i:List α}{x x':α}(h:GrV g N G cv (i++[x]))(hN:N≤G.length){r:List AV}(hp:g.pre x'=g.pre x)(hr':g.rows x'=g.rows x++[r])(h1:r.length=g.m)(h2:r.all AV.cell=true)(h3:r.map AV.strip=r)
  (hl:((g.rows x).length+1)*bytes≤140737488355328) (hl2:(g.rows x).length+1≤4611686018427387904) (hte:∀ cs n,(AObj.cells cs g.T)≠.tok n g.eT) :
  ∃ id off cs v v' G1,(∀ k:IntKind,qi g.w cv (.int k (i.length:Int))=some (.ptr id off))∧G[id]?=some (.cells cs g.T)∧cs[off+(g.w-1)]?=some v∧rap false G g.eT g.m bytes false v (.slice .full g.m [r])=some (v',G1)∧G1[id]?=some (.cells cs g.T)∧dD v'=some [v'] ∧
   stO 1 G1 id (off+(g.w-1)) [v'] (some (.cells cs g.T))=some (G1.set id (.cells (cs.set (off+(g.w-1)) v') g.T))∧GrV g N (G1.set id (.cells (cs.set (off+(g.w-1)) v') g.T)) cv (i++[x'])∧N≤id∧id<G.length∧off+(g.w-1)<cs.length ∧
   G.length≤(G1.set id (.cells (cs.set (off+(g.w-1)) v') g.T)).length∧(∀ j,j<N→(G1.set id (.cells (cs.set (off+(g.w-1)) v') g.T))[j]?=G[j]?)∧∀ j,j<G.length→(∀ cs,G[j]?≠some (.cells cs g.T))→(∀ n,G[j]?≠some (.tok n g.eT))→(G1.set id (.cells (cs.set (off+(g.w-1)) v') g.T))[j]?=G[j]? := by
 rcases h with ⟨h,_⟩ | ⟨id,pc,i2,y,v,e1,h2',rfl,h4,h5,h6⟩
 ·simp at h
 ·obtain ⟨rfl,e2⟩:=List.append_inj' e1 rfl
  injection e2 with e2 _;subst e2;obtain ⟨v',G1,a1,a2,a3,a4,a5⟩:=JW h6 hN (bytes:=bytes) h1 h2 h3 hl hl2;have hw:=g.hw x;have hpc:=h5.len;have hlt:=eS h4
  have hlen:(pc++(g.pre x++[v])).length=i.length*g.w+g.w:=by
   rw [List.length_append,List.length_append,List.length_singleton];omega
  have hoff:i.length*g.w+(g.w-1)=pc.length+(g.pre x).length:=by omega
  have hg1:G1[id]?=some (.cells (pc++(g.pre x++[v])) g.T):=by
   rw [a5 id hlt (fun n=>by rw [h4];simp)];exact h4
  have hset:(pc++(g.pre x++[v])).set (i.length*g.w+(g.w-1)) v'=pc++(g.pre x++[v']):=by
   rw [hoff,List.set_append_right _ _ (by omega),List.set_append_right _ _ (by omega)];simp
  refine ⟨id,i.length*g.w,pc++(g.pre x++[v]),v,v',G1,fun k => ?_,h4, ?_,a1,hg1,a2.cell.2,nz a2.cell.1 (by rw [hlen];omega),.inr ⟨id,pc,i,x',v',rfl,h2',by simp, ?_, ?_, ?_⟩,h2',hlt,by rw [hlen];omega, ?_,fun j hj => ?_,fun j hj n1 n2 => ?_⟩
  ·simp only [qi]
   rw [if_pos ⟨trivial,by omega,by simp;omega⟩];simp
  ·rw [hoff,List.getElem?_append_right (by omega),List.getElem?_append_right (by omega)]
   simp
  ·rw [hset,hp];exact List.getElem?_set_self (eS hg1)
  ·exact h5.mono (by simpa using a3)
  ·rw [hr']
   exact a2.stay fun t _ ht=>List.getElem?_set_ne (fun e=>by rw [← e,hg1] at ht;cases ht)
  ·simpa using a3
  ·rw [List.getElem?_set_ne (by omega),a4 j hj]
  ·rw [List.getElem?_set_ne (fun e=>n1 _ (by rw [← e];exact h4)),a5 j hj n2]
end
section
attribute [local congr] aw aW cM bt aA bf aM aC ao aq aN aO
variable{E:bc}(M:cE bT E)
def N6(o:Option Nat)(T L:List Nat):Option (List Nat×List Nat):=
 match o with
 |some id=>some (T,id::L)
 |none=>some (T,L)
def T6(o:Option Nat)(T L:List Nat):Option (List Nat×List Nat):=
 match o with
 |some id=>some (id::T,L)
 |none=>none
theorem A6:(∀ (a:Env) (g:Option Nat) (x:RX) (T L:List Nat),nB true .wide a (.ld g x) T L=N6 (sb (rx a x)) T L)∧(∀ (a:Env) (g:LK) (x:RX) (T L:List Nat),nB true .wide a (.len g x) T L=N6 (sb (rx a x)) T L) ∧
  (∀ (s:Bool) (a:Env) (n:Nat) (x v:RX) (T L:List Nat),nB s .keep a (.st n x v) T L=T6 (sb (rx a x)) T L)∧(∀ (s:Bool) (a:Env) (g:Option Nat) (x:RX) (T L:List Nat),nB s .quiet a (.ld g x) T L=some (T,L)) ∧
  (∀ i o,sb (.ptr i o)=some i)∧(∀ i o n e r,sb (.rslice i o n e r)=some i)∧(∀ t n r,sb (.slice t n r)=none)∧(∀ s,sb (.str s)=none)∧(∀ e r i o,sb (.vptr e r i o)=none)∧(∀ (id:Nat) (T L:List Nat),N6 (some id) T L=some (T,id::L))∧(∀ T L:List Nat,N6 none T L=some (T,L))∧(∀ (id:Nat) (T L:List Nat),T6 (some id) T L=some (id::T,L)):=
 ⟨fun _ _ _ _ _=>rfl,fun _ _ _ _ _=>rfl,fun _ _ _ _ _ _ _=>rfl,fun _ _ _ _ _ _=>rfl,fun _ _=>rfl,fun _ _ _ _ _=>rfl,fun _ _ _=>rfl,fun _=>rfl,fun _ _ _ _=>rfl,fun _ _ _=>rfl,fun _ _=>rfl,fun _ _ _=>rfl⟩
theorem Rp{T L:List Nat}(h:apart T L)(r:Option Out):se bT T L r=r:=by
 unfold se;rw [Cu h]
theorem EY(L:List Nat):apart [] L:=fun x _ hx=>by cases hx
structure Rd where
 vow:Str
 tr:List aV
 cl:List aL
 en:List aI
 sp:List bq
 li:List cF
def clG:Gro aL:=⟨2,aG,4,bK,fun c=>[.str c.name],fun c=>c.slots.l.map bF.row,fun _=>rfl,fun _=>rfl⟩
def enG:Gro aI:=⟨4,aS,2,bn,fun x=>[.str x.lem,.str x.cls,.slice x.feats.tag 2 (x.feats.l.map aJ.row)],fun x=>x.forms.l.map bp.row,fun _=>rfl,fun _=>rfl⟩
abbrev rdC(vow:Str)(tv cv ev sv kv:AV)(last:Str)(rank:Int):AObj:=.cells [.str vow,tv,cv,ev,sv,kv,.str last,.int .i64 rank] ct
def uv(N:Nat)(G:List AObj)(d:Rd)(tv cv ev sv kv:AV):Prop:=
 sV N bU 2 G tv (d.tr.map aV.row)∧GrV clG N G cv d.cl∧GrV enG N G ev d.en∧sV N cL 4 G sv (d.sp.map bq.row)∧sV N dE 3 G kv (d.li.map cF.row)
def RdV(N r:Nat)(G:List AObj)(d:Rd)(last:Str)(rank:Int):Prop:=
 ∃ tv cv ev sv kv,G[r]?=some (rdC d.vow tv cv ev sv kv last rank)∧uv N G d tv cv ev sv kv
def Chg(e T:TypeId)(G G':List AObj):Prop:=G.length≤G'.length∧∀ (i:Nat) (x:AObj),G[i]?=some x→(∀ n,x≠.tok n e)→(∀ cs,x≠.cells cs T)→G'[i]?=some x
theorem sV.chg{N:Nat}{e T e':TypeId}{sz:Nat}{G G':List AObj}{v:AV}{rows:List (List AV)}(h:sV N e' sz G v rows)(c:Chg e T G G')(ne:e'≠e):sV N e' sz G' v rows:=
 h.stay fun t _ ht=>by rw [ht];exact c.2 t _ ht (fun n e1=>ne (by injection e1)) (fun cs e1=>by cases e1)
theorem GrV.chg{α:Type}{g:Gro α}{N:Nat}{e T:TypeId}{G G':List AObj}{cv:AV}{xs:List α}(h:GrV g N G cv xs)(c:Chg e T G G')(n1:g.T≠T)(n2:g.eT≠e):GrV g N G' cv xs:=
 h.stay c.1 (fun i cs _ hi=>by rw [hi];exact c.2 i _ hi (fun n e1=>by cases e1) (fun cs e1=>n1 (by injection e1))) (fun i n _ hi=>by rw [hi];exact c.2 i _ hi (fun n e1=>n2 (by injection e1)) (fun cs e1=>by cases e1))
theorem J1{e:TypeId}{G G':List AObj}(h1:G.length≤G'.length)(h2:∀ i,i<G.length→(∀ n,G[i]?≠some (.tok n e))→G'[i]?=G[i]?):Chg e e G G':=
 ⟨h1,fun i x hx n1 _=>by rw [h2 i (eS hx) fun n e1=>n1 n (by rw [hx] at e1;injection e1)];exact hx⟩
theorem LU{T:TypeId}{G G':List AObj}(h1:G.length≤G'.length)(h2:∀ i,i<G.length→(∀ cs,G[i]?≠some (.cells cs T))→G'[i]?=G[i]?):Chg T T G G':=
 ⟨h1,fun i x hx _ n2=>by rw [h2 i (eS hx) fun n e1=>n2 n (by rw [hx] at e1;injection e1)];exact hx⟩
theorem S9{G:List AObj}{r:Nat}{cs cs':List AV}(h:G[r]?=some (.cells cs ct)):Chg ct ct G (G.set r (.cells cs' ct)):=
 ⟨by simp,fun i x hx _ n2=>by rw [List.getElem?_set_ne (fun e=>n2 cs (by rw [← e,h] at hx;injection hx with hx;exact hx.symm))];exact hx⟩
theorem uv.set{N r:Nat}{G:List AObj}{d:Rd}{tv cv ev sv kv:AV}(h:uv N G d tv cv ev sv kv){cs cs':List AV}(hr:G[r]?=some (.cells cs ct)):uv N (G.set r (.cells cs' ct)) d tv cv ev sv kv:=by
 obtain ⟨h1,h2,h3,h4,h5⟩:=h;have c:=S9 (cs':=cs') hr;exact ⟨h1.chg c (by decide),h2.chg c (by decide) (by decide),h3.chg c (by decide) (by decide),h4.chg c (by decide),h5.chg c (by decide)⟩
theorem DJ{N r:Nat}{G:List AObj}{d:Rd}{tv cv ev sv kv:AV}(h:uv N G d tv cv ev sv kv){cs:List AV}(hr:G[r]?=some (.cells cs ct))(last:Str)(rank:Int) :
  RdV N r (G.set r (rdC d.vow tv cv ev sv kv last rank)) d last rank:=⟨tv,cv,ev,sv,kv,List.getElem?_set_self (eS hr),h.set hr⟩
def LoR(N r:Nat)(G G':List AObj):Prop:=G.length≤G'.length∧(∀ i,i<N→i≠r→G'[i]?=G[i]?)∧∀ (i:Nat) (cs:List AV) (T:TypeId),(T=dh∨T=di)→G[i]?=some (.cells cs T)→G'[i]?=some (.cells cs T)
theorem LoR.refl(N r:Nat)(G:List AObj):LoR N r G G:=⟨Nat.le_refl _,fun _ _ _=>rfl,fun _ _ _ _ h=>h⟩
theorem LoR.trans{N r:Nat}{A B C:List AObj}(h:LoR N r A B)(k:LoR N r B C):LoR N r A C:=⟨Nat.le_trans h.1 k.1,fun i hi hn=>(k.2.1 i hi hn).trans (h.2.1 i hi hn),fun i cs T hT hi=>k.2.2 i cs T hT (h.2.2 i cs T hT hi)⟩
theorem Chg.refl(e T:TypeId)(G:List AObj):Chg e T G G:=⟨Nat.le_refl _,fun _ _ h _ _=>h⟩
def okT(T:TypeId):Bool := !Nat.beq T dh && !Nat.beq T di
theorem J2{T T':TypeId}(h:okT T=true)(h':T'=dh∨T'=di):T'≠T:=by
 rintro rfl;rcases h' with rfl | rfl<;>exact absurd h (by decide)
theorem u7{N r:Nat}{G G1:List AObj}{e T:TypeId}(c:Chg e T G G1)(hT:okT T=true)(h2:∀ i,i<N→G1[i]?=G[i]?){cs:List AV}(hr:G1[r]?=some (.cells cs ct))(x:AObj):LoR N r G (G1.set r x):=
 ⟨by simpa using c.1,fun i hi hn=>by rw [List.getElem?_set_ne (Ne.symm hn),h2 i hi],fun i cs' T' hT' hi=>by
  have h3:=c.2 i _ hi (fun n e=>by cases e) (fun cs2 e=>J2 hT hT' (by injection e))
  rw [List.getElem?_set_ne (fun e=>by
   rw [← e,hr] at h3;injection h3 with h3;injection h3 with _ h4;exact J2 (T:=ct) (by decide) hT' h4.symm)]
  exact h3⟩
theorem qRd(a b c d e f g h:AV):bJ none [a,b,c,d,e,f,g,h] 0=some a∧bJ none [a,b,c,d,e,f,g,h] 1=some b∧bJ none [a,b,c,d,e,f,g,h] 2=some c∧bJ none [a,b,c,d,e,f,g,h] 3=some d∧bJ none [a,b,c,d,e,f,g,h] 4=some e∧bJ none [a,b,c,d,e,f,g,h] 5=some f∧bJ none [a,b,c,d,e,f,g,h] 6=some g∧bJ none [a,b,c,d,e,f,g,h] 7=some h:=⟨rfl,rfl,rfl,rfl,rfl,rfl,rfl,rfl⟩
theorem LV{tg:Tag}{ws:List Str}{i:Nat}{w:Str}(h:ws[i]?=some w):qi 1 (.slice tg 1 (ws.map aE)) (.int .i64 (i:Int))=some (.vptr 1 (ws.map aE) i 0):=bG (lt_getL h)
 where lt_getL {α:Type}{l:List α}{i:Nat}{x:α} (h:l[i]?=some x):i<l.length:=(List.getElem?_eq_some_iff.1 h).1
theorem xb{tg:Tag}{ws:List Str}{w:Str}(h:ws[0]?=some w):qi 1 (.slice tg 1 (ws.map aE)) (.int .i64 0)=some (.vptr 1 (ws.map aE) 0 0):=LV h
theorem BV{tg:Tag}{ws:List Str}{w:Str}(h:ws[1]?=some w):qi 1 (.slice tg 1 (ws.map aE)) (.int .i64 1)=some (.vptr 1 (ws.map aE) 1 0):=LV h
theorem Ng{tg:Tag}{ws:List Str}{w:Str}(h:ws[2]?=some w):qi 1 (.slice tg 1 (ws.map aE)) (.int .i64 2)=some (.vptr 1 (ws.map aE) 2 0):=LV h
theorem WG{tg:Tag}{ws:List Str}{w:Str}(h:ws[3]?=some w):qi 1 (.slice tg 1 (ws.map aE)) (.int .i64 3)=some (.vptr 1 (ws.map aE) 3 0):=LV h
theorem CP{ws:List Str}{i:Nat}(h0:0<ws.length)(h:i≤ws.length):zB 1 (.slice .any 1 (ws.map aE)) (some (.int .i64 (i:Int))) none none=some (.slice .any 1 ((ws.drop i).map aE)):=by
 have:=Lm (row:=aE) (tag:=.any) (sz:=1) (k:=.i64) (l:=ws) (i:=i) h h0;simpa using this
section
variable{N r:Nat}{G:List AObj}{d:Rd}{last:Str}{rank:Int}
theorem Ve(hS:nI E)(h:RdV N r G d last rank){ws:List Str}{a:Str}(h0:ws[0]?=some a) :
  ∃ G',M.run js [.ptr r 0,.slice .any 1 (ws.map aE)] G=some (.ret (.tuple []),G')∧RdV N r G' { d with vow:=fT a } last rank∧LoR N r G G':=by
 obtain ⟨tv,cv,ev,sv,kv,hg,hp⟩:=h;refine ⟨G.set r (rdC (fT a) tv cv ev sv kv last rank), ?_,DJ (d := { d with vow:=fT a }) hp hg last rank,u7 (Chg.refl dh ct G) (by decide) (fun _ _=>rfl) hg _⟩;have ht:=fun H=>AF M hS a H
 have hst:stO 1 G r 0 [.str (fT a)] (some (rdC d.vow tv cv ev sv kv last rank))=some (G.set r (rdC (fT a) tv cv ev sv kv last rank)):=nz rfl (by simp);rw [aP M hS.morph_kinds_1 rfl (c:=sB) rfl,sB];simp (maxSteps:=3000000) (maxDischargeDepth:=6) +contextual -implicitDefEqProofs only [amC M,↓amD,Nat.reduceBEq,Nat.reduceAdd,env,ag,Et,amG,AV.cell,Nat.reduceMul,Nat.reduceLeDiff,rnc,hg,xb h0,h0,ht,hst,runit_mk,gU]
theorem Vf(hS:nI E)(hN:N≤G.length)(h:RdV N r G d last rank){ws:List Str}{a:Str}(h0:ws[0]?=some a)(hl:d.tr.length≤1000000) :
  ∃ G',M.run jt [.ptr r 0,.slice .any 1 (ws.map aE)] G=some (.ret (.tuple []),G')∧RdV N r G' { d with tr:=d.tr++[⟨a,⟨.any,ws.drop 1⟩⟩] } last rank∧LoR N r G G':=by
 obtain ⟨tv,cv,ev,sv,kv,hg,p1,p2,p3,p4,p5⟩:=h;have hlen:1≤ws.length:=(List.getElem?_eq_some_iff.1 h0).1;obtain ⟨v',G1,a1,a2,a3,a4,a5⟩:=JW p1 hN (r:=aV.row ⟨a,⟨.any,ws.drop 1⟩⟩) (bytes:=40) rfl rfl rfl (by simp;omega) (by simp;omega);have c:=J1 a3 a5;have hg1:=c.2 r _ hg (fun n e=>by cases e) (fun cs e=>by cases e);have q:uv N G1 { d with tr:=d.tr++[⟨a,⟨.any,ws.drop 1⟩⟩] } v' cv ev sv kv:=⟨by simpa using a2,p2.chg c (by decide) (by decide),p3.chg c (by decide) (by decide),p4.chg c (by decide),p5.chg c (by decide)⟩
 refine ⟨G1.set r (rdC d.vow v' cv ev sv kv last rank), ?_,DJ q hg1 last rank,u7 c (by decide) a4 hg1 _⟩;have hst:stO 1 G1 r 1 [v'] (some (rdC d.vow tv cv ev sv kv last rank))=some (G1.set r (rdC d.vow v' cv ev sv kv last rank)):=nz a2.cell.1 (by simp);have hfr:=CP (by omega) hlen;have a1:rap false G bU 2 40 false tv (.slice .full 2 [[.str a,.slice .any 1 ((ws.drop 1).map aE)]])=some (v',G1):=a1;have e1:((1:Nat):Int)=1:=rfl
 rw [e1] at hfr;have hac:=a2.cell.2;rw [aP M hS.morph_kinds_2 rfl (c:=sC) rfl,sC];simp (maxSteps:=3000000) (maxDischargeDepth:=6) +contextual -implicitDefEqProofs only [amC M,↓amD,Nat.reduceBEq,Nat.reduceAdd,env,ag,Eu,amG,AV.cell,Nat.reduceMul,Nat.reduceLeDiff,rnc,hg,hg1,qRd,xb h0,h0,hfr,a1,hac,hst,runit_mk,gU]
theorem Vg(hS:nI E)(hN:N≤G.length)(h:RdV N r G d last rank){ws:List Str}{a b c' e':Str}(h0:ws[0]?=some a)(h1:ws[1]?=some b)(h2:ws[2]?=some c')(h3:ws[3]?=some e')(hl:d.sp.length≤1000000) :
  ∃ G',M.run jv [.ptr r 0,.slice .any 1 (ws.map aE)] G=some (.ret (.tuple []),G')∧RdV N r G' { d with sp:=d.sp++[⟨fT a,fT b,fT c',fT e'⟩] } last rank∧LoR N r G G':=by
 obtain ⟨tv,cv,ev,sv,kv,hg,p1,p2,p3,p4,p5⟩:=h;obtain ⟨v',G1,a1,a2,a3,a4,a5⟩:=JW p4 hN (r:=bq.row ⟨fT a,fT b,fT c',fT e'⟩) (bytes:=64) rfl rfl rfl (by simp;omega) (by simp;omega);have c:=J1 a3 a5;have hg1:=c.2 r _ hg (fun n e=>by cases e) (fun cs e=>by cases e);have q:uv N G1 { d with sp:=d.sp++[⟨fT a,fT b,fT c',fT e'⟩] } tv cv ev v' kv:=⟨p1.chg c (by decide),p2.chg c (by decide) (by decide),p3.chg c (by decide) (by decide),by simpa using a2,p5.chg c (by decide)⟩
 refine ⟨G1.set r (rdC d.vow tv cv ev v' kv last rank), ?_,DJ q hg1 last rank,u7 c (by decide) a4 hg1 _⟩;have hst:stO 1 G1 r 4 [v'] (some (rdC d.vow tv cv ev sv kv last rank))=some (G1.set r (rdC d.vow tv cv ev v' kv last rank)):=nz a2.cell.1 (by simp);have a1:rap false G cL 4 64 false sv (.slice .full 4 [[.str (fT a),.str (fT b),.str (fT c'),.str (fT e')]])=some (v',G1):=a1;have ht:=fun s H=>AF M hS s H
 have hac:=a2.cell.2;rw [aP M hS.morph_kinds_7 rfl (c:=sH) rfl,sH];simp (maxSteps:=3000000) (maxDischargeDepth:=6) +contextual -implicitDefEqProofs only [amC M,↓amD,Nat.reduceBEq,Nat.reduceAdd,env,ag,Ew,amG,AV.cell,Nat.reduceMul,Nat.reduceLeDiff,rnc,hg,hg1,qRd,xb h0,BV h1,Ng h2,WG h3,h0,h1,h2,h3,ht,a1,hac,hst,runit_mk,gU]
theorem Vh(hS:nI E)(hX:kY M)(hN:N≤G.length)(h:RdV N r G d last rank){ws:List Str}{a b:Str}(h0:ws[0]?=some a)(h1:ws[1]?=some b)(hl:d.li.length≤1000000)(hw:ws.length≤1000000)(hsl:∀ s∈ws,s.length≤1000000) :
  match ir (ws.drop 2) with
  |some fs => ∃ G',M.run gJ [.ptr r 0,.slice .any 1 (ws.map aE)] G=some (.ret (.tuple []),G')∧RdV N r G' { d with li:=d.li++[⟨a,fT b,⟨.any,fs⟩⟩] } last rank∧LoR N r G G'
  |none=>M.run gJ [.ptr r 0,.slice .any 1 (ws.map aE)] G=some (.panic gk,G):=by
 obtain ⟨tv,cv,ev,sv,kv,hg,p1,p2,p3,p4,p5⟩:=h;have hlen:2≤ws.length:=(List.getElem?_eq_some_iff.1 h1).1;have ht:=fun s H=>AF M hS s H
 have hfr:=CP (ws:=ws) (i:=2) (by omega) hlen;have e2:((2:Nat):Int)=2:=rfl;rw [e2] at hfr;have aa:=fun L r=>Rp (EY L) r
 have hf:=fun H=>DI M hS hX (tg:=.any) (ws:=ws.drop 2) (by rw [List.length_drop];omega) (fun s hs=>hsl s (List.mem_of_mem_drop hs)) H
 cases hq:ir (ws.drop 2) with
 |none=>
  simp only [hq] at hf ⊢;rw [aP M hS.morph_kinds_8 rfl (c:=lC) rfl,lC];simp (maxSteps:=3000000) (maxDischargeDepth:=6) +contextual -implicitDefEqProofs only [amC M,↓amD,Nat.reduceBEq,Nat.reduceAdd,env,ag,yE,amG,AV.cell,Nat.reduceMul,Nat.reduceLeDiff,am6,A6,amZ,aa,rnc,hg,qRd,xb h0,BV h1,h0,h1,hfr,ht,hf,runit_mk,gU,mZ,aft_panic,pnR_pan,panD_e,gG]
 |some fs=>
  simp only [hq] at hf ⊢;obtain ⟨v',G1,a1,a2,a3,a4,a5⟩:=JW p5 hN (r:=cF.row ⟨a,fT b,⟨.any,fs⟩⟩) (bytes:=56) rfl rfl rfl (by simp;omega) (by simp;omega);have c:=J1 a3 a5;have hg1:=c.2 r _ hg (fun n e=>by cases e) (fun cs e=>by cases e);have q:uv N G1 { d with li:=d.li++[⟨a,fT b,⟨.any,fs⟩⟩] } tv cv ev sv v':=⟨p1.chg c (by decide),p2.chg c (by decide) (by decide),p3.chg c (by decide) (by decide),p4.chg c (by decide),by simpa using a2⟩
  refine ⟨G1.set r (rdC d.vow tv cv ev sv v' last rank), ?_,DJ q hg1 last rank,u7 c (by decide) a4 hg1 _⟩;have hst:stO 1 G1 r 5 [v'] (some (rdC d.vow tv cv ev sv kv last rank))=some (G1.set r (rdC d.vow tv cv ev sv v' last rank)):=nz a2.cell.1 (by simp);have a1:rap false G dE 3 56 false kv (.slice .full 3 [[.str a,.str (fT b),.slice .any 2 (fs.map aJ.row)]])=some (v',G1):=a1;have hac:=a2.cell.2;rw [aP M hS.morph_kinds_8 rfl (c:=lC) rfl,lC]
  simp (maxSteps:=3000000) (maxDischargeDepth:=6) +contextual -implicitDefEqProofs only [amC M,↓amD,Nat.reduceBEq,Nat.reduceAdd,env,ag,yE,amG,AV.cell,Nat.reduceMul,Nat.reduceLeDiff,am6,A6,amZ,aa,rnc,hg,hg1,qRd,xb h0,BV h1,h0,h1,hfr,ht,hf,a1,hac,hst,runit_mk,gU,pnR_ret]
theorem Vi(hS:nI E)(hN:N≤G.length)(h:RdV N r G d last rank){ws:List Str}{a:Str}(h0:ws[0]?=some a)(hl:d.cl.length≤1000000) :
  ∃ G',M.run ju [.ptr r 0,.slice .any 1 (ws.map aE)] G=some (.ret (.tuple []),G')∧RdV N r G' { d with cl:=d.cl++[⟨a,⟨.any,[]⟩⟩] } last rank∧LoR N r G G':=by
 obtain ⟨tv,cv,ev,sv,kv,hg,p1,p2,p3,p4,p5⟩:=h;obtain ⟨v',G1,a1,a2,a3,a4,a5⟩:=p2.push hN (x:=⟨a,⟨.any,[]⟩⟩) rfl (bytes:=40) (by omega) (by omega);have c:=LU a3 a5;have hg1:=c.2 r _ hg (fun n e=>by cases e) (fun cs e=>by cases e);have q:uv N G1 { d with cl:=d.cl++[⟨a,⟨.any,[]⟩⟩] } tv v' ev sv kv:=⟨p1.chg c (by decide),a2,p3.chg c (by decide) (by decide),p4.chg c (by decide),p5.chg c (by decide)⟩
 refine ⟨G1.set r (rdC d.vow tv v' ev sv kv last rank), ?_,DJ q hg1 last rank,u7 c (by decide) a4 hg1 _⟩;have hst:stO 1 G1 r 2 [v'] (some (rdC d.vow tv cv ev sv kv last rank))=some (G1.set r (rdC d.vow tv v' ev sv kv last rank)):=nz (a2.len []).2.1 (by simp);have a1:rap true G aG 2 40 false cv (.slice .full 2 [[.str a,.slice .nil 4 []]])=some (v',G1):=a1;have hac:=(a2.len []).2.2;rw [aP M hS.morph_kinds_3 rfl (c:=sD) rfl,sD]
 simp (maxSteps:=3000000) (maxDischargeDepth:=6) +contextual -implicitDefEqProofs only [amC M,↓amD,Nat.reduceBEq,Nat.reduceAdd,env,ag,Ev,amG,AV.cell,Nat.reduceMul,Nat.reduceLeDiff,rnc,hg,hg1,qRd,xb h0,h0,a1,hac,hst,runit_mk,gU]
theorem Vj(hS:nI E)(hX:kY M)(hN:N≤G.length)(h:RdV N r G d last rank){ws:List Str}{a b:Str}(h0:ws[0]?=some a)(h1:ws[1]?=some b)(hl:d.en.length≤1000000)(hw:ws.length≤1000000)(hsl:∀ s∈ws,s.length≤1000000) :
  match ir (ws.drop 2) with
  |some fs => ∃ G',M.run gI [.ptr r 0,.slice .any 1 (ws.map aE)] G=some (.ret (.tuple []),G')∧RdV N r G' { d with en:=d.en++[⟨a,b,⟨.any,fs⟩,⟨.any,[]⟩⟩] } last rank∧LoR N r G G'
  |none=>M.run gI [.ptr r 0,.slice .any 1 (ws.map aE)] G=some (.panic gk,G):=by
 obtain ⟨tv,cv,ev,sv,kv,hg,p1,p2,p3,p4,p5⟩:=h;have hlen:2≤ws.length:=(List.getElem?_eq_some_iff.1 h1).1;have hfr:=CP (ws:=ws) (i:=2) (by omega) hlen;have e2:((2:Nat):Int)=2:=rfl;rw [e2] at hfr;have aa:=fun L r=>Rp (EY L) r
 have hf:=fun H=>DI M hS hX (tg:=.any) (ws:=ws.drop 2) (by rw [List.length_drop];omega) (fun s hs=>hsl s (List.mem_of_mem_drop hs)) H
 cases hq:ir (ws.drop 2) with
 |none=>
  simp only [hq] at hf ⊢;rw [aP M hS.morph_kinds_5 rfl (c:=lA) rfl,lA];simp (maxSteps:=3000000) (maxDischargeDepth:=6) +contextual -implicitDefEqProofs only [amC M,↓amD,Nat.reduceBEq,Nat.reduceAdd,env,ag,yD,amG,AV.cell,Nat.reduceMul,Nat.reduceLeDiff,am6,A6,amZ,aa,rnc,hg,qRd,xb h0,BV h1,h0,h1,hfr,hf,runit_mk,gU,mZ,aft_panic,pnR_pan,panD_e,gG]
 |some fs=>
  simp only [hq] at hf ⊢;obtain ⟨v',G1,a1,a2,a3,a4,a5⟩:=p3.push hN (x:=⟨a,b,⟨.any,fs⟩,⟨.any,[]⟩⟩) rfl (bytes:=80) (by omega) (by omega);have c:=LU a3 a5;have hg1:=c.2 r _ hg (fun n e=>by cases e) (fun cs e=>by cases e);have q:uv N G1 { d with en:=d.en++[⟨a,b,⟨.any,fs⟩,⟨.any,[]⟩⟩] } tv cv v' sv kv:=⟨p1.chg c (by decide),p2.chg c (by decide) (by decide),a2,p4.chg c (by decide),p5.chg c (by decide)⟩
  refine ⟨G1.set r (rdC d.vow tv cv v' sv kv last rank), ?_,DJ q hg1 last rank,u7 c (by decide) a4 hg1 _⟩;have hst:stO 1 G1 r 3 [v'] (some (rdC d.vow tv cv ev sv kv last rank))=some (G1.set r (rdC d.vow tv cv v' sv kv last rank)):=nz (a2.len []).2.1 (by simp);have a1:rap true G aS 4 80 false ev (.slice .full 4 [[.str a,.str b,.slice .any 2 (fs.map aJ.row),.slice .nil 2 []]])=some (v',G1):=a1;have hac:=(a2.len []).2.2
  rw [aP M hS.morph_kinds_5 rfl (c:=lA) rfl,lA];simp (maxSteps:=3000000) (maxDischargeDepth:=6) +contextual -implicitDefEqProofs only [amC M,↓amD,Nat.reduceBEq,Nat.reduceAdd,env,ag,yD,amG,AV.cell,Nat.reduceMul,Nat.reduceLeDiff,am6,A6,amZ,aa,rnc,hg,hg1,qRd,xb h0,BV h1,h0,h1,hfr,hf,a1,hac,hst,runit_mk,gU,pnR_ret]
theorem GrV.top{α:Type}{g:Gro α}{N:Nat}{G:List AObj}{cv:AV}{i:List α}{x:α}(h:GrV g N G cv (i++[x])):∃ id off cs v,qi g.w cv (.int .i64 (i.length:Int))=some (.ptr id off)∧G[id]?=some (.cells cs g.T)∧cs[off+(g.w-1)]?=some v:=by
 rcases h with ⟨h,_⟩ | ⟨id,pc,i2,y,v,e1,h2',rfl,h4,h5,h6⟩
 ·simp at h
 ·obtain ⟨rfl,e2⟩:=List.append_inj' e1 rfl
  have hw:=g.hw y;have hpc:=h5.len;refine ⟨id,i.length*g.w,_,v, ?_,h4, ?_⟩
  ·simp only [qi]
   rw [if_pos ⟨trivial,by omega,by simp;omega⟩];simp
  ·rw [show i.length*g.w+(g.w-1)=pc.length+(g.pre y).length by omega,List.getElem?_append_right (by omega),List.getElem?_append_right (by omega)]
   simp
theorem Nh(hS:nI E)(h:RdV N r G d last rank)(hk1:(last == [99,108,97,115,115])=false)(hk2:(last == [115,108,111,116])=false){ws:List Str} :
  M.run fG [.ptr r 0,.slice .any 1 (ws.map aE)] G=some (.panic gk,G):=by
 obtain ⟨tv,cv,ev,sv,kv,hg,_⟩:=h;have hdm:=fun b H=>na M hS b H
 rw [aP M hS.morph_kinds_4 rfl (c:=cf) rfl,cf];simp (maxSteps:=3000000) (maxDischargeDepth:=6) +contextual -implicitDefEqProofs only [amC M,↓amD,Nat.reduceBEq,Nat.reduceAdd,env,ag,gM,amG,AV.cell,Nat.reduceMul,Nat.reduceLeDiff,am6,rnc,hg,qRd,hk1,hk2,hdm,sel,mZ,aft_panic,gG]
theorem Vk(hS:nI E)(hX:kY M)(hP:w8 E)(hN:N≤G.length)(h:RdV N r G d last rank)(hlk:last=[99,108,97,115,115]∨last=[115,108,111,116]){ws:List Str}{a b c1:Str}(h0:ws[0]?=some a)(h1:ws[1]?=some b)(h2:ws[2]?=some c1){i:List aL}{c:aL}(hcl:d.cl=i++[c])(hl:i.length≤1000000)(hl2:c.slots.l.length≤1000000)(hw:ws.length≤1000000)(hsl:∀ s∈ws,s.length≤1000000) :
  match zb a,ir (ws.drop 3) with
  |some n,some fs => ∃ G',M.run fG [.ptr r 0,.slice .any 1 (ws.map aE)] G=some (.ret (.tuple []),G')∧RdV N r G' { d with cl:=i++[⟨c.name,⟨.any,c.slots.l++[⟨n,fT b,fT c1,⟨.any,fs⟩⟩]⟩⟩] } last rank∧LoR N r G G'
  |_,_=>M.run fG [.ptr r 0,.slice .any 1 (ws.map aE)] G=some (.panic gk,G):=by
 obtain ⟨tv,cv,ev,sv,kv,hg,p1,p2,p3,p4,p5⟩:=h;have hlen:3≤ws.length:=(List.getElem?_eq_some_iff.1 h2).1;have ha:a.length≤1000000:=hsl a (List.mem_of_getElem? h0);have ht:=fun s H=>AF M hS s H
 have hn:=fun H=>Hk M hS hX hP ha H
 have hdm:=fun b H=>na M hS b H
 rw [hcl] at p2;have hln:=fun H=>(p2.len H).1
 have aa:=fun L r=>Rp (EY L) r
 have hw1:IntKind.i64.wrap ((((i++[c]).length:Nat):Int)-1)=(i.length:Int):=by rw [List.length_append,List.length_singleton];exact Dc (by omega)
 have hbb:((last == [99,108,97,115,115])=false∧(last == [115,108,111,116])=true)∨(last == [99,108,97,115,115])=true:=by
  cases hz:(last == [99,108,97,115,115]) with
  |true=>exact .inr rfl
  |false=>
   rcases hlk with e | e
   ·rw [e] at hz;simp at hz
   ·exact .inl ⟨rfl,by rw [e];simp⟩
 have hfr:=CP (ws:=ws) (i:=3) (by omega) hlen;have e2:((3:Nat):Int)=3:=rfl;rw [e2] at hfr;have hf:=fun H=>DI M hS hX (tg:=.any) (ws:=ws.drop 3) (by rw [List.length_drop];omega) (fun s hs=>hsl s (List.mem_of_mem_drop hs)) H
 cases hq:zb a with
 |none=>
  simp only [hq] at hn ⊢;obtain ⟨id,off,cs,v,a1,a2,a3⟩:=p2.top;have a1:qi 2 cv (.int .i64 (i.length:Int))=some (.ptr id off):=a1;have a3:bJ none cs (off+1)=some v:=a3;have a2:G[id]?=some (.cells cs aG):=a2;rcases hbb with ⟨hb1,hb2⟩ | hb1
  ·rw [aP M hS.morph_kinds_4 rfl (c:=cf) rfl,cf]
   simp (maxSteps:=3000000) (maxDischargeDepth:=6) +contextual -implicitDefEqProofs only [amC M,↓amD,Nat.reduceBEq,Nat.reduceAdd,env,ag,gM,amG,AV.cell,Nat.reduceMul,Nat.reduceLeDiff,am6,A6,amZ,aa,rnc,hg,qRd,xb h0,h0,BV h1,h1,Ng h2,h2,hb1,hb2,hdm,hln,hw1,ht,hn,hfr,hf,sel,runit_mk,gU,mZ,pnR_pan,pnR_ret,panD_e,gG,aft_panic,Bool.or_true,Bool.true_or,a1,a2,a3]
  ·cases hb2:(last == [115,108,111,116]) <;>
   ·rw [aP M hS.morph_kinds_4 rfl (c:=cf) rfl,cf]
    simp (maxSteps:=3000000) (maxDischargeDepth:=6) +contextual -implicitDefEqProofs only [amC M,↓amD,Nat.reduceBEq,Nat.reduceAdd,env,ag,gM,amG,AV.cell,Nat.reduceMul,Nat.reduceLeDiff,am6,A6,amZ,aa,rnc,hg,qRd,xb h0,h0,BV h1,h1,Ng h2,h2,hb1,hb2,hdm,hln,hw1,ht,hn,hfr,hf,sel,runit_mk,gU,mZ,pnR_pan,pnR_ret,panD_e,gG,aft_panic,Bool.or_true,Bool.true_or,a1,a2,a3]
 |some n=>
  simp only [hq] at hn ⊢;cases hq2:ir (ws.drop 3) with
  |none=>
   simp only [hq2] at hf ⊢;obtain ⟨id,off,cs,v,a1,a2,a3⟩:=p2.top;have a1:qi 2 cv (.int .i64 (i.length:Int))=some (.ptr id off):=a1;have a3:bJ none cs (off+1)=some v:=a3;have a2:G[id]?=some (.cells cs aG):=a2;rcases hbb with ⟨hb1,hb2⟩ | hb1
   ·rw [aP M hS.morph_kinds_4 rfl (c:=cf) rfl,cf]
    simp (maxSteps:=3000000) (maxDischargeDepth:=6) +contextual -implicitDefEqProofs only [amC M,↓amD,Nat.reduceBEq,Nat.reduceAdd,env,ag,gM,amG,AV.cell,Nat.reduceMul,Nat.reduceLeDiff,am6,A6,amZ,aa,rnc,hg,qRd,xb h0,h0,BV h1,h1,Ng h2,h2,hb1,hb2,hdm,hln,hw1,ht,hn,hfr,hf,sel,runit_mk,gU,mZ,pnR_pan,pnR_ret,panD_e,gG,aft_panic,Bool.or_true,Bool.true_or,a1,a2,a3]
   ·cases hb2:(last == [115,108,111,116]) <;>
    ·rw [aP M hS.morph_kinds_4 rfl (c:=cf) rfl,cf]
     simp (maxSteps:=3000000) (maxDischargeDepth:=6) +contextual -implicitDefEqProofs only [amC M,↓amD,Nat.reduceBEq,Nat.reduceAdd,env,ag,gM,amG,AV.cell,Nat.reduceMul,Nat.reduceLeDiff,am6,A6,amZ,aa,rnc,hg,qRd,xb h0,h0,BV h1,h1,Ng h2,h2,hb1,hb2,hdm,hln,hw1,ht,hn,hfr,hf,sel,runit_mk,gU,mZ,pnR_pan,pnR_ret,panD_e,gG,aft_panic,Bool.or_true,Bool.true_or,a1,a2,a3]
  |some fs=>
   simp only [hq2] at hf ⊢;obtain ⟨id,off,cs,v,v',G1,a1,a2,a3,a4,a5,a6,a7,a8,a9,a10,a11,a12,a13,a14⟩:=p2.last hN (x':=⟨c.name,⟨.any,c.slots.l++[⟨n,fT b,fT c1,⟨.any,fs⟩⟩]⟩⟩) (r:=bF.row ⟨n,fT b,fT c1,⟨.any,fs⟩⟩) (bytes:=64) rfl (by show (c.slots.l++[_]).map bF.row=_;rw [List.map_append];rfl) rfl rfl rfl (by show ((c.slots.l.map bF.row).length+1)*64≤_;rw [List.length_map];omega) (by show (c.slots.l.map bF.row).length+1≤_;rw [List.length_map];omega) (fun _ _ e=>by cases e)
   have c0:Chg bK aG G (G1.set id (.cells (cs.set (off+(2-1)) v') aG)):=⟨a12,fun j x hx n1 n2=>(a14 j (eS hx) (fun cs e=>n2 cs (by rw [hx] at e;injection e)) (fun n e=>n1 n (by rw [hx] at e;injection e))).trans hx⟩
   have hg2:=c0.2 r _ hg (fun n e=>by cases e) (fun cs e=>by cases e);refine ⟨G1.set id (.cells (cs.set (off+(2-1)) v') aG), ?_,⟨tv,cv,ev,sv,kv,hg2,p1.chg c0 (by decide),a8,p3.chg c0 (by decide) (by decide),p4.chg c0 (by decide),p5.chg c0 (by decide)⟩,a12,fun j hj _=>a13 j hj,fun j cs2 T2 hT2 hj=>c0.2 j _ hj (fun n e=>by cases e) (fun cs3 e=>J2 (T:=aG) (by decide) hT2 (by injection e))⟩;have a1:qi 2 cv (.int .i64 (i.length:Int))=some (.ptr id off):=a1 .i64
   have a3:bJ none cs (off+1)=some v:=a3;have a4:rap false G bK 4 64 false v (.slice .full 4 [[.int .i64 (n:Int),.str (fT b),.str (fT c1),.slice .any 2 (fs.map aJ.row)]])=some (v',G1):=a4;have a7:stO 1 G1 id (off+1) [v'] (some (.cells cs aG))=some (G1.set id (.cells (cs.set (off+(2-1)) v') aG)):=a7;have a2:G[id]?=some (.cells cs aG):=a2;have a5:G1[id]?=some (.cells cs aG):=a5;rcases hbb with ⟨hb1,hb2⟩ | hb1
   ·rw [aP M hS.morph_kinds_4 rfl (c:=cf) rfl,cf]
    simp (maxSteps:=3000000) (maxDischargeDepth:=6) +contextual -implicitDefEqProofs only [amC M,↓amD,Nat.reduceBEq,Nat.reduceAdd,env,ag,gM,amG,AV.cell,Nat.reduceMul,Nat.reduceLeDiff,am6,A6,amZ,aa,rnc,hg,qRd,xb h0,h0,BV h1,h1,Ng h2,h2,hb1,hb2,hdm,hln,hw1,ht,hn,hfr,hf,sel,runit_mk,gU,mZ,pnR_pan,pnR_ret,panD_e,gG,aft_panic,Bool.or_true,Bool.true_or,a1,a2,a3,a4,a5,a6,a7]
   ·cases hb2:(last == [115,108,111,116]) <;>
    ·rw [aP M hS.morph_kinds_4 rfl (c:=cf) rfl,cf]
     simp (maxSteps:=3000000) (maxDischargeDepth:=6) +contextual -implicitDefEqProofs only [amC M,↓amD,Nat.reduceBEq,Nat.reduceAdd,env,ag,gM,amG,AV.cell,Nat.reduceMul,Nat.reduceLeDiff,am6,A6,amZ,aa,rnc,hg,qRd,xb h0,h0,BV h1,h1,Ng h2,h2,hb1,hb2,hdm,hln,hw1,ht,hn,hfr,hf,sel,runit_mk,gU,mZ,pnR_pan,pnR_ret,panD_e,gG,aft_panic,Bool.or_true,Bool.true_or,a1,a2,a3,a4,a5,a6,a7]
theorem Ni(hS:nI E)(h:RdV N r G d last rank)(hk1:(last == [101,110,116,114,121])=false)(hk2:(last == [102,111,114,109])=false){ws:List Str} :
  M.run fH [.ptr r 0,.slice .any 1 (ws.map aE)] G=some (.panic gk,G):=by
 obtain ⟨tv,cv,ev,sv,kv,hg,_⟩:=h;have hdm:=fun b H=>na M hS b H
 rw [aP M hS.morph_kinds_6 rfl (c:=dy) rfl,dy];simp (maxSteps:=3000000) (maxDischargeDepth:=6) +contextual -implicitDefEqProofs only [amC M,↓amD,Nat.reduceBEq,Nat.reduceAdd,env,ag,lB,amG,AV.cell,Nat.reduceMul,Nat.reduceLeDiff,am6,rnc,hg,qRd,hk1,hk2,hdm,sel,mZ,aft_panic,gG]
theorem Vl(hS:nI E)(hX:kY M)(hP:w8 E)(hN:N≤G.length)(h:RdV N r G d last rank)(hlk:last=[101,110,116,114,121]∨last=[102,111,114,109]){ws:List Str}{a b:Str}(h0:ws[0]?=some a)(h1:ws[1]?=some b){i:List aI}{c:aI}(hcl:d.en=i++[c])(hl:i.length≤1000000)(hl2:c.forms.l.length≤1000000)(hw:ws.length≤1000000)(hsl:∀ s∈ws,s.length≤1000000) :
  match zb a with
  |some n => ∃ G',M.run fH [.ptr r 0,.slice .any 1 (ws.map aE)] G=some (.ret (.tuple []),G')∧RdV N r G' { d with en:=i++[⟨c.lem,c.cls,c.feats,⟨.any,c.forms.l++[⟨n,fT b⟩]⟩⟩] } last rank∧LoR N r G G'
  |none=>M.run fH [.ptr r 0,.slice .any 1 (ws.map aE)] G=some (.panic gk,G):=by
 obtain ⟨tv,cv,ev,sv,kv,hg,p1,p2,p3,p4,p5⟩:=h;have hlen:2≤ws.length:=(List.getElem?_eq_some_iff.1 h1).1;have ha:a.length≤1000000:=hsl a (List.mem_of_getElem? h0);have ht:=fun s H=>AF M hS s H
 have hn:=fun H=>Hk M hS hX hP ha H
 have hdm:=fun b H=>na M hS b H
 rw [hcl] at p3;have hln:=fun H=>(p3.len H).1
 have aa:=fun L r=>Rp (EY L) r
 have hw1:IntKind.i64.wrap ((((i++[c]).length:Nat):Int)-1)=(i.length:Int):=by rw [List.length_append,List.length_singleton];exact Dc (by omega)
 have hbb:((last == [101,110,116,114,121])=false∧(last == [102,111,114,109])=true)∨(last == [101,110,116,114,121])=true:=by
  cases hz:(last == [101,110,116,114,121]) with
  |true=>exact .inr rfl
  |false=>
   rcases hlk with e | e
   ·rw [e] at hz;simp at hz
   ·exact .inl ⟨rfl,by rw [e];simp⟩
 cases hq:zb a with
 |none=>
  simp only [hq] at hn ⊢;obtain ⟨id,off,cs,v,a1,a2,a3⟩:=p3.top;have a1:qi 4 ev (.int .i64 (i.length:Int))=some (.ptr id off):=a1;have a3:bJ none cs (off+3)=some v:=a3;have a2:G[id]?=some (.cells cs aS):=a2;rcases hbb with ⟨hb1,hb2⟩ | hb1
  ·rw [aP M hS.morph_kinds_6 rfl (c:=dy) rfl,dy]
   simp (maxSteps:=3000000) (maxDischargeDepth:=6) +contextual -implicitDefEqProofs only [amC M,↓amD,Nat.reduceBEq,Nat.reduceAdd,env,ag,lB,amG,AV.cell,Nat.reduceMul,Nat.reduceLeDiff,am6,A6,amZ,aa,rnc,hg,qRd,xb h0,h0,BV h1,h1,hb1,hb2,hdm,hln,hw1,ht,hn,sel,runit_mk,gU,mZ,pnR_pan,pnR_ret,panD_e,gG,aft_panic,Bool.or_true,Bool.true_or,a1,a2,a3]
  ·cases hb2:(last == [102,111,114,109]) <;>
   ·rw [aP M hS.morph_kinds_6 rfl (c:=dy) rfl,dy]
    simp (maxSteps:=3000000) (maxDischargeDepth:=6) +contextual -implicitDefEqProofs only [amC M,↓amD,Nat.reduceBEq,Nat.reduceAdd,env,ag,lB,amG,AV.cell,Nat.reduceMul,Nat.reduceLeDiff,am6,A6,amZ,aa,rnc,hg,qRd,xb h0,h0,BV h1,h1,hb1,hb2,hdm,hln,hw1,ht,hn,sel,runit_mk,gU,mZ,pnR_pan,pnR_ret,panD_e,gG,aft_panic,Bool.or_true,Bool.true_or,a1,a2,a3]
 |some n=>
  simp only [hq] at hn ⊢;obtain ⟨id,off,cs,v,v',G1,a1,a2,a3,a4,a5,a6,a7,a8,a9,a10,a11,a12,a13,a14⟩:=p3.last hN (x':=⟨c.lem,c.cls,c.feats,⟨.any,c.forms.l++[⟨n,fT b⟩]⟩⟩) (r:=bp.row ⟨n,fT b⟩) (bytes:=24) rfl (by show (c.forms.l++[_]).map bp.row=_;rw [List.map_append];rfl) rfl rfl rfl (by show ((c.forms.l.map bp.row).length+1)*24≤_;rw [List.length_map];omega) (by show (c.forms.l.map bp.row).length+1≤_;rw [List.length_map];omega) (fun _ _ e=>by cases e)
  have c0:Chg bn aS G (G1.set id (.cells (cs.set (off+(4-1)) v') aS)):=⟨a12,fun j x hx n1 n2=>(a14 j (eS hx) (fun cs e=>n2 cs (by rw [hx] at e;injection e)) (fun n e=>n1 n (by rw [hx] at e;injection e))).trans hx⟩
  have hg2:=c0.2 r _ hg (fun n e=>by cases e) (fun cs e=>by cases e);refine ⟨G1.set id (.cells (cs.set (off+(4-1)) v') aS), ?_,⟨tv,cv,ev,sv,kv,hg2,p1.chg c0 (by decide),p2.chg c0 (by decide) (by decide),a8,p4.chg c0 (by decide),p5.chg c0 (by decide)⟩,a12,fun j hj _=>a13 j hj,fun j cs2 T2 hT2 hj=>c0.2 j _ hj (fun n e=>by cases e) (fun cs3 e=>J2 (T:=aS) (by decide) hT2 (by injection e))⟩;have a1:qi 4 ev (.int .i64 (i.length:Int))=some (.ptr id off):=a1 .i64
  have a3:bJ none cs (off+3)=some v:=a3;have a4:rap false G bn 2 24 false v (.slice .full 2 [[.int .i64 (n:Int),.str (fT b)]])=some (v',G1):=a4;have a7:stO 1 G1 id (off+3) [v'] (some (.cells cs aS))=some (G1.set id (.cells (cs.set (off+(4-1)) v') aS)):=a7;have a2:G[id]?=some (.cells cs aS):=a2;have a5:G1[id]?=some (.cells cs aS):=a5;rcases hbb with ⟨hb1,hb2⟩ | hb1
  ·rw [aP M hS.morph_kinds_6 rfl (c:=dy) rfl,dy]
   simp (maxSteps:=3000000) (maxDischargeDepth:=6) +contextual -implicitDefEqProofs only [amC M,↓amD,Nat.reduceBEq,Nat.reduceAdd,env,ag,lB,amG,AV.cell,Nat.reduceMul,Nat.reduceLeDiff,am6,A6,amZ,aa,rnc,hg,qRd,xb h0,h0,BV h1,h1,hb1,hb2,hdm,hln,hw1,ht,hn,sel,runit_mk,gU,mZ,pnR_pan,pnR_ret,panD_e,gG,aft_panic,Bool.or_true,Bool.true_or,a1,a2,a3,a4,a5,a6,a7]
  ·cases hb2:(last == [102,111,114,109]) <;>
   ·rw [aP M hS.morph_kinds_6 rfl (c:=dy) rfl,dy]
    simp (maxSteps:=3000000) (maxDischargeDepth:=6) +contextual -implicitDefEqProofs only [amC M,↓amD,Nat.reduceBEq,Nat.reduceAdd,env,ag,lB,amG,AV.cell,Nat.reduceMul,Nat.reduceLeDiff,am6,A6,amZ,aa,rnc,hg,qRd,xb h0,h0,BV h1,h1,hb1,hb2,hdm,hln,hw1,ht,hn,sel,runit_mk,gU,mZ,pnR_pan,pnR_ret,panD_e,gG,aft_panic,Bool.or_true,Bool.true_or,a1,a2,a3,a4,a5,a6,a7]
end
end
section
attribute [local congr] aw aW cM bt aA bf aM aC ao aq aN aO
variable{E:bc}(M:cE bT E)
structure EL (E:bc):Prop where
 rd:E.dfn al=some (4,bk)
def Rq(rank least:Nat)(more:Bool)(g:Nat):AV:=.agg [.int .i64 (rank:Int),.int .i64 (least:Int),.bool more,.fn (.func g) [] []]
def kp:List (Str×Nat×Nat×Bool×Nat):=[(G9,0,1,false,js),(kTrait,1,1,true,jt),(mX,2,1,false,ju),(uk,2,3,true,fG),(mY,3,2,true,gI),(um,3,2,false,fH),(uo,4,4,false,jv),(AA,5,2,true,gJ)]
def my(x:Str×Nat×Nat×Bool×Nat):AV×AV:=(.str x.1,Rq x.2.1 x.2.2.1 x.2.2.2.1 x.2.2.2.2)
theorem u9(H:List AObj)(n:Nat){x:Str×Nat×Nat×Bool×Nat}(hx:kp[n]?=some x):rmu (H++[.map ((kp.take n).map my)]) .str (.map H.length) (.str x.1) (Rq x.2.1 x.2.2.1 x.2.2.2.1 x.2.2.2.2)=some (H++[.map ((kp.take (n+1)).map my)]):=by
 have hn:n<8:=(List.getElem?_eq_some_iff.1 hx).1
 have key:∀ (m:Nat) (hm:m<8),mH (.str (kp[m]'hm).1) ((kp.take m).map my) 0=some none:=fun m hm=>match m,hm with
  |0,_=>rfl
  |1,_=>rfl
  |2,_=>rfl
  |3,_=>rfl
  |4,_=>rfl
  |5,_=>rfl
  |6,_=>rfl
  |7,_=>rfl
 have h1:kp[n]=x:=by rw [List.getElem?_eq_getElem hn] at hx;injection hx
 have h2:=key n hn;rw [h1] at h2;rw [SM rfl h2,List.take_add_one,hx];simp [my]
theorem Po(hS:nI E)(H:List AObj):M.run nR [] H=some (.ret (.vmap (kp.map my)),H):=by
 have hz:=HE (H0:=H) (es:=kp.map my) (fun e he=>by
  obtain ⟨x,hx,rfl⟩:=List.mem_map.1 he;exact ⟨wk_str _ _,wk_agg ⟨wk_int _ _ _,wk_int _ _ _,wk_bool _ _,wk_fn trivial trivial,trivial⟩⟩)
 have fill:∀ (i1 i2:Int) (b:Bool) (g:Nat),jd (fun x=>([(0,1),(1,1),(2,1),(3,1)]:List (Nat×Nat))[x]?) [.int .i64 0,.int .i64 0,.bool false,.nilfn] [(0,.int .i64 i1),(1,.int .i64 i2),(2,.bool b),(3,.fn (.func g) [] [])]=some [.int .i64 i1,.int .i64 i2,.bool b,.fn (.func g) [] []]:=fun _ _ _ _=>rfl
 have m0:rmu (H++[.map []]) .str (.map H.length) (.str [118,111,119,101,108,115]) (.agg [.int .i64 0,.int .i64 1,.bool false,.fn (.func js) [] []])=_:=u9 H 0 rfl;have m1:rmu (H++[.map ((kp.take 1).map my)]) .str (.map H.length) (.str [116,114,97,105,116]) (.agg [.int .i64 1,.int .i64 1,.bool true,.fn (.func jt) [] []])=_:=u9 H 1 rfl;have m2:rmu (H++[.map ((kp.take 2).map my)]) .str (.map H.length) (.str [99,108,97,115,115]) (.agg [.int .i64 2,.int .i64 1,.bool false,.fn (.func ju) [] []])=_:=u9 H 2 rfl
 have m3:rmu (H++[.map ((kp.take 3).map my)]) .str (.map H.length) (.str [115,108,111,116]) (.agg [.int .i64 2,.int .i64 3,.bool true,.fn (.func fG) [] []])=_:=u9 H 3 rfl;have m4:rmu (H++[.map ((kp.take 4).map my)]) .str (.map H.length) (.str [101,110,116,114,121]) (.agg [.int .i64 3,.int .i64 2,.bool true,.fn (.func gI) [] []])=_:=u9 H 4 rfl;have m5:rmu (H++[.map ((kp.take 5).map my)]) .str (.map H.length) (.str [102,111,114,109]) (.agg [.int .i64 3,.int .i64 2,.bool false,.fn (.func fH) [] []])=_:=u9 H 5 rfl
 have m6:rmu (H++[.map ((kp.take 6).map my)]) .str (.map H.length) (.str [115,112,101,108,108]) (.agg [.int .i64 4,.int .i64 4,.bool false,.fn (.func jv) [] []])=_:=u9 H 6 rfl;have m7:rmu (H++[.map ((kp.take 7).map my)]) .str (.map H.length) (.str [108,105,110,107]) (.agg [.int .i64 5,.int .i64 2,.bool true,.fn (.func gJ) [] []])=some (H++[.map (kp.map my)]):=u9 H 7 rfl;simp only [Nat.zero_add,Nat.reduceAdd] at m0 m1 m2 m3 m4 m5 m6
 rw [aP M hS.morph_kinds rfl (c:=vq) rfl,vq];simp (maxSteps:=3000000) (maxDischargeDepth:=6) +contextual -implicitDefEqProofs only [amC M,↓amD,Nat.reduceBEq,Nat.reduceAdd,env,ag,HH,amG,AV.cell,Nat.reduceMul,Nat.reduceLeDiff,fill,m0,m1,m2,m3,m4,m5,m6,m7,runit_mk,hz]
def N7(w:Str):Option (Nat×Nat×Bool×Nat):=(kp.find? fun x=>w == x.1).map (·.2)
theorem IT(w:Str):∀ (l:List (Str×Nat×Nat×Bool×Nat)) (i:Nat),∃ j,mH (.str w) (l.map my) i=some ((l.find? fun x=>w == x.1).map fun x=>(j,Rq x.2.1 x.2.2.1 x.2.2.2.1 x.2.2.2.2))
 |[],i=>⟨0,rfl⟩
 |x::l,i=>by
  cases h:(w == x.1) with
  |true=>exact ⟨i,by simp [mH,my,jW,h]⟩
  |false=>
   obtain ⟨j,hj⟩:=IT w l (i+1);exact ⟨j,by simp [mH,my,jW,h,hj]⟩
theorem Ta(G:List AObj)(w:Str):rlk G .str (some (.agg [.int .i64 0,.int .i64 0,.bool false,.nilfn])) true (.vmap (kp.map my)) (.str w) =
  some (match N7 w with | some k=>.tuple [Rq k.1 k.2.1 k.2.2.1 k.2.2.2,.bool true] | none=>.tuple [.agg [.int .i64 0,.int .i64 0,.bool false,.nilfn],.bool false]):=by
 obtain ⟨j,hj⟩:=IT w kp 0;have h1:Bo G (.vmap (kp.map my))=some (kp.map my):=rfl;have h2:Fy .str (.str w) (kp.map my)=_:=(show Fy .str (.str w) (kp.map my)=mH (.str w) (kp.map my) 0 from rfl).trans hj;simp only [rlk,h1,h2,N7];cases kp.find? (fun x=>w == x.1) with
 |none=>rfl
 |some x=>rfl
theorem Tb(hD:EL E)(q:Nat)(H:List AObj):mJ E M.go (.fn (.func al) [] [.ptr q 0]) .nilif H=some H:=by
 have h:M.go bk H [.c dq] (D0 (mE (env [.ptr q 0]) 4 .nilif) .nilif []) H=some (.ret (.tuple []),H):=by
  unfold dq;simp (maxSteps:=3000000) (maxDischargeDepth:=6) +contextual -implicitDefEqProofs only [amC M,↓amD,Nat.reduceBEq,Nat.reduceAdd,env,ag,(show bk.res=[] from rfl),(show bk.mode = .keep from rfl),(show bk.dfr=none from rfl),mZ,D0]
 unfold mJ;simp only [hD.rd,List.nil_append];rw [show bk.c=dq from rfl,show bk.muts=[] from rfl,h]
theorem Pp(hD:EL E){q:Nat}{H:List AObj}{b:Bool}(hq:H[q]?=some (.cells [.bool b] dh)):mJ E M.go (.fn (.func al) [] [.ptr q 0]) gk H=some ((H++[AObj.cells [] cV]).set q (.cells [.bool false] dh)):=by
 have hq2:=cP (L:=[AObj.cells [] cV]) hq;have hlt:=eS hq
 have s1:stO 0 (H++[AObj.cells [] cV]) H.length 0 [] (some (.cells [] cV))=some (H++[AObj.cells [] cV]):=by
  simp [stO,aU]
 have s2:stO 1 (H++[AObj.cells [] cV]) q 0 [.bool false] (some (.cells [.bool b] dh))=some ((H++[AObj.cells [] cV]).set q (.cells [.bool false] dh)):=nz rfl (by simp)
 have h:M.go bk H [.c dq] (D0 (mE (env [.ptr q 0]) 4 gk) gk []) H=some (.ret (.tuple []),(H++[AObj.cells [] cV]).set q (.cells [.bool false] dh)):=by
  unfold dq;simp (maxSteps:=3000000) (maxDischargeDepth:=6) +contextual -implicitDefEqProofs only [amC M,↓amD,Nat.reduceBEq,Nat.reduceAdd,env,ag,(show bk.res=[] from rfl),(show bk.mode = .keep from rfl),(show bk.dfr=none from rfl),mZ,D0,amG,AV.cell,Nat.reduceMul,Nat.reduceLeDiff,rnc,hq2,s1,s2,rta]
 unfold mJ;simp only [hD.rd,List.nil_append];rw [show bk.c=dq from rfl,show bk.muts=[] from rfl,h]
end
section
attribute [local congr] aw aW cM bt aA bf aM aC ao aq aN aO
variable{E:bc}(M:cE bT E)
inductive K where
 |vow | trait | cla | slot | entry | form | spell | link
def K.key:K→Str
 |.vow=>G9 | .trait=>kTrait | .cla=>mX | .slot=>uk | .entry=>mY | .form=>um | .spell=>uo | .link=>AA
def K.rank:K→Nat
 |.vow=>0 | .trait=>1 | .cla=>2 | .slot=>2 | .entry=>3 | .form=>3 | .spell=>4 | .link=>5
def K.least:K→Nat
 |.vow=>1 | .trait=>1 | .cla=>1 | .slot=>3 | .entry=>2 | .form=>2 | .spell=>4 | .link=>2
def K.more:K→Bool
 |.vow=>false | .trait=>true | .cla=>false | .slot=>true | .entry=>true | .form=>false | .spell=>false | .link=>true
def K.fid:K→Nat
 |.vow=>js | .trait=>jt | .cla=>ju | .slot=>fG | .entry=>gI | .form=>fH | .spell=>jv | .link=>gJ
def Vm:List K:=[.vow,.trait,.cla,.slot,.entry,.form,.spell,.link]
def kOf(w:Str):Option K:=Vm.find? fun k=>w == k.key
theorem Rr(w:Str):N7 w=(kOf w).map fun k=>(k.rank,k.least,k.more,k.fid):=by
 have e:kp=Vm.map fun k=>(k.key,k.rank,k.least,k.more,k.fid):=rfl
 unfold N7 kOf;rw [e];generalize Vm=l;induction l with
 |nil=>rfl
 |cons k l ih=>
  simp only [List.map_cons,List.find?_cons];cases (w == k.key) with
  |true=>rfl
  |false=>exact ih
def EZ:List aL→bF→List aL
 |[],_=>[]
 |[c],s=>[⟨c.name,⟨.any,c.slots.l++[s]⟩⟩]
 |c::d::l,s=>c::EZ (d::l) s
theorem vc(c:aL)(s:bF):∀ i:List aL,EZ (i++[c]) s=i++[⟨c.name,⟨.any,c.slots.l++[s]⟩⟩]
 |[]=>rfl
 |[d]=>rfl
 |d::e::i=>by
  have:=vc c s (e::i);simp only [List.cons_append,EZ] at this ⊢;rw [this]
def E1:List aI→bp→List aI
 |[],_=>[]
 |[c],s=>[⟨c.lem,c.cls,c.feats,⟨.any,c.forms.l++[s]⟩⟩]
 |c::d::l,s=>c::E1 (d::l) s
theorem vd(c:aI)(s:bp):∀ i:List aI,E1 (i++[c]) s=i++[⟨c.lem,c.cls,c.feats,⟨.any,c.forms.l++[s]⟩⟩]
 |[]=>rfl
 |[d]=>rfl
 |d::e::i=>by
  have:=vd c s (e::i);simp only [List.cons_append,E1] at this ⊢;rw [this]
def lF(k:K)(d:Rd)(last:Str)(ws:List Str):Option Rd:=
 match k,ws with
 |.vow,a::_=>some { d with vow:=fT a }
 |.trait,a::r=>some { d with tr:=d.tr++[⟨a,⟨.any,r⟩⟩] }
 |.cla,a::_=>some { d with cl:=d.cl++[⟨a,⟨.any,[]⟩⟩] }
 |.slot,a::b::c::r=>if last=mX∨last=uk then (match zb a,ir r with
  |some n,some fs=>some { d with cl:=EZ d.cl ⟨n,fT b,fT c,⟨.any,fs⟩⟩ }
  |_,_=>none) else none
 |.entry,a::b::r=>match ir r with
  |some fs=>some { d with en:=d.en++[⟨a,b,⟨.any,fs⟩,⟨.any,[]⟩⟩] }
  |none=>none
 |.form,a::b::_=>if last=mY∨last=um then (match zb a with
  |some n=>some { d with en:=E1 d.en ⟨n,fT b⟩ }
  |none=>none) else none
 |.spell,a::b::c::e::_=>some { d with sp:=d.sp++[⟨fT a,fT b,fT c,fT e⟩] }
 |.link,a::b::r=>match ir r with
  |some fs=>some { d with li:=d.li++[⟨a,fT b,⟨.any,fs⟩⟩] }
  |none=>none
 |_,_=>none
def IU(d:Rd)(last:Str):Prop:=(last=mX∨last=uk→d.cl≠[])∧(last=mY∨last=um→d.en≠[])
def J3(m:Nat)(d:Rd):Prop:=d.tr.length≤m∧d.cl.length≤m∧d.en.length≤m∧d.sp.length≤m∧d.li.length≤m∧(∀ c∈d.cl,c.slots.l.length≤m)∧∀ x∈d.en,x.forms.l.length≤m
theorem E2{α:Type}{l:List α}(h:l≠[]):∃ i x,l=i++[x]:=by
 rcases List.eq_nil_or_concat l with e | ⟨i,x,e⟩
 ·exact absurd e h
 ·exact ⟨i,x,by simpa using e⟩
section
variable{N r:Nat}{G:List AObj}{d:Rd}{last:Str}{rank:Int}
theorem Rs(hS:nI E)(hX:kY M)(hP:w8 E)(hN:N≤G.length)(h:RdV N r G d last rank)(hJ:IU d last){m:Nat}(hZ:J3 m d)(hm:m≤1000000)(k:K){ws:List Str}(hl:k.least≤ws.length)(hw:ws.length≤1000000)(hsl:∀ s∈ws,s.length≤1000000) :
  match lF k d last ws with
  |some d' => ∃ G',M.run k.fid [.ptr r 0,.slice .any 1 (ws.map aE)] G=some (.ret (.tuple []),G')∧RdV N r G' d' last rank∧LoR N r G G'
  |none=>M.run k.fid [.ptr r 0,.slice .any 1 (ws.map aE)] G=some (.panic gk,G):=by
 obtain ⟨z1,z2,z3,z4,z5,z6,z7⟩:=hZ;cases k with
 |vow=>
  obtain ⟨a,ws,rfl⟩:∃ a l,ws=a::l:=by cases ws with | nil=>simp [K.least] at hl | cons a l=>exact ⟨a,l,rfl⟩
  exact Ve M hS h rfl
 |trait=>
  obtain ⟨a,ws,rfl⟩:∃ a l,ws=a::l:=by cases ws with | nil=>simp [K.least] at hl | cons a l=>exact ⟨a,l,rfl⟩
  exact Vf M hS hN h rfl (by omega)
 |cla=>
  obtain ⟨a,ws,rfl⟩:∃ a l,ws=a::l:=by cases ws with | nil=>simp [K.least] at hl | cons a l=>exact ⟨a,l,rfl⟩
  exact Vi M hS hN h rfl (by omega)
 |slot=>
  obtain ⟨a,b,c,ws,rfl⟩:∃ a b c l,ws=a::b::c::l:=by
   match ws,hl with
   |a::b::c::l,_=>exact ⟨a,b,c,l,rfl⟩
   |[],h=>simp [K.least] at h
   |[_],h=>simp [K.least] at h
   |[_,_],h=>simp [K.least] at h
  simp only [lF]
  by_cases hk:last=mX∨last=uk
  ·obtain ⟨i,x,hi⟩:=E2 (hJ.1 hk)
   have hx:x∈d.cl:=by rw [hi];simp
   have hil:i.length≤1000000:=by rw [hi,List.length_append] at z2;omega
   have:=Vk M hS hX hP hN h hk (ws:=a::b::c::ws) rfl rfl rfl hi hil (by have:=z6 x hx;omega) hw hsl;rw [if_pos hk];have e0:(a::b::c::ws).drop 3=ws:=rfl;rw [e0] at this;rw [hi];simp only [vc];cases hn:zb a with
   |none=>simp only [hn] at this ⊢;exact this
   |some n=>
    cases hf:ir ws with
    |none=>simp only [hn,hf] at this ⊢;exact this
    |some fs=>simp only [hn,hf] at this ⊢;exact this
  ·rw [if_neg hk]
   rw [not_or] at hk;exact Nh M hS h (beq_eq_false_iff_ne.2 hk.1) (beq_eq_false_iff_ne.2 hk.2)
 |entry=>
  obtain ⟨a,b,ws,rfl⟩:∃ a b l,ws=a::b::l:=by
   match ws,hl with
   |a::b::l,_=>exact ⟨a,b,l,rfl⟩
   |[],h=>simp [K.least] at h
   |[_],h=>simp [K.least] at h
  have:=Vj M hS hX hN h (ws:=a::b::ws) rfl rfl (by omega) hw hsl;have e0:(a::b::ws).drop 2=ws:=rfl;rw [e0] at this;simp only [lF];cases hf:ir ws with
  |none=>simp only [hf] at this ⊢;exact this
  |some fs=>simp only [hf] at this ⊢;exact this
 |form=>
  obtain ⟨a,b,ws,rfl⟩:∃ a b l,ws=a::b::l:=by
   match ws,hl with
   |a::b::l,_=>exact ⟨a,b,l,rfl⟩
   |[],h=>simp [K.least] at h
   |[_],h=>simp [K.least] at h
  simp only [lF]
  by_cases hk:last=mY∨last=um
  ·obtain ⟨i,x,hi⟩:=E2 (hJ.2 hk)
   have hx:x∈d.en:=by rw [hi];simp
   have hil:i.length≤1000000:=by rw [hi,List.length_append] at z3;omega
   have:=Vl M hS hX hP hN h hk (ws:=a::b::ws) rfl rfl hi hil (by have:=z7 x hx;omega) hw hsl;rw [if_pos hk];rw [hi];simp only [vd];cases hn:zb a with
   |none=>simp only [hn] at this ⊢;exact this
   |some n=>simp only [hn] at this ⊢;exact this
  ·rw [if_neg hk]
   rw [not_or] at hk;exact Ni M hS h (beq_eq_false_iff_ne.2 hk.1) (beq_eq_false_iff_ne.2 hk.2)
 |spell=>
  obtain ⟨a,b,c,e,ws,rfl⟩:∃ a b c e l,ws=a::b::c::e::l:=by
   match ws,hl with
   |a::b::c::e::l,_=>exact ⟨a,b,c,e,l,rfl⟩
   |[],h=>simp [K.least] at h
   |[_],h=>simp [K.least] at h
   |[_,_],h=>simp [K.least] at h
   |[_,_,_],h=>simp [K.least] at h
  exact Vg M hS hN h rfl rfl rfl rfl (by omega)
 |link=>
  obtain ⟨a,b,ws,rfl⟩:∃ a b l,ws=a::b::l:=by
   match ws,hl with
   |a::b::l,_=>exact ⟨a,b,l,rfl⟩
   |[],h=>simp [K.least] at h
   |[_],h=>simp [K.least] at h
  have:=Vh M hS hX hN h (ws:=a::b::ws) rfl rfl (by omega) hw hsl;have e0:(a::b::ws).drop 2=ws:=rfl;rw [e0] at this;simp only [lF];cases hf:ir ws with
  |none=>simp only [hf] at this ⊢;exact this
  |some fs=>simp only [hf] at this ⊢;exact this
end
end
section
attribute [local congr] aw aW cM bt aA bf aM aC ao aq aN aO
variable{E:bc}(M:cE bT E)
abbrev Pq(q:Nat):AV:=.fn (.func al) [] [.ptr q 0]
abbrev J4(H:List AObj)(q:Nat):List AObj:=(H++[AObj.cells [] cV]).set q (.cells [.bool false] dh)
theorem BW(hD:EL E){a:Env}{q:Nat}{H0 H:List AObj}{b:Bool}(hq:H[q]?=some (.cells [.bool b] dh))(ha:dR a 4 = .ptr q 0):F7 bT E M.go ab H0 a gk H (some (Pq q))=some (.ret (.bool false),J4 H q):=by
 have h1:(J4 H q)[q]?=some (.cells [.bool false] dh):=List.getElem?_set_self (by have:=eS hq;simp;omega);simp only [F7,Pp M hD hq,K6];unfold fin;rw [show ab.res=[.cell 4 none] from rfl,show ab.mode = .keep from rfl];simp only [FJ,vX,ha,nj,h1,bJ,List.getElem?_cons_zero,nA]
theorem Rt(hD:EL E){a:Env}{q:Nat}{H0 H:List AObj}{b:Bool}(hq:H[q]?=some (.cells [.bool b] dh))(ha:dR a 4 = .ptr q 0):F7 bT E M.go ab H0 a .nilif H (some (Pq q))=some (.ret (.bool b),H):=by
 simp only [F7,Tb M hD,K6];unfold fin;rw [show ab.res=[.cell 4 none] from rfl,show ab.mode = .keep from rfl];simp only [FJ,vX,ha,nj,hq,bJ,List.getElem?_cons_zero,nA]
theorem nb:(∀ c k,kA (.c c::k)=kA k)∧(∀ l c h k,kA (.lp l c h::k)=kA k)∧(∀ i k,kA (.blk i::k)=kA k)∧(∀ v k,kA (.dr v::k)=some v):=⟨fun _ _=>rfl,fun _ _ _ _=>rfl,fun _ _=>rfl,fun _ _=>rfl⟩
theorem wl0(hS:nI E)(hD:EL E){ws:List Str}(hw:ws.length≤1000000){q r kid:Nat}{s:Str}{H H0:List AObj}{b:Bool}(hq:H[q]?=some (.cells [.bool b] dh))(k:List Fra)(hk:kA k=some (Pq q)):∀ (n i:Nat),i+n=ws.length→∀ (He:List AObj),
  M.go ab H0 (.c eC :: .lp ⟨(some [0,1,4,5,6,23,24,25]),[],false⟩ eC He :: .blk 0 :: .c (.lv [0,1,4,5,6])::k) (kv [(0,.ptr r 0),(1,.str s),(4,.ptr q 0),(5,.slice .any 1 (ws.map aE)),(6,.ptr kid 0),(23,.slice .any 1 (ws.map aE)),(24,.int .i64 ws.length),(25,.int .i64 i)]) H =
   slc ((ws.drop i).all fun x => !(x == [])) (M.go ab H0 k (kv [(0,.ptr r 0),(1,.str s),(4,.ptr q 0),(5,.slice .any 1 (ws.map aE)),(6,.ptr kid 0)]) H) (some (.ret (.bool false),J4 H q))
 |0,i,h,He=>by
  have e:i=ws.length:=by omega
  subst e;rw [List.drop_length,List.all_nil,slc_true];rw [au M eC.eq_1];simp (maxSteps:=3000000) (maxDischargeDepth:=6) +contextual -implicitDefEqProofs only [amC M,↓amD,Nat.reduceBEq,Nat.reduceAdd,env,ag,(show ab.res=[.cell 4 none] from rfl),(show ab.mode = .keep from rfl),(show ab.dfr=(some ([⟨(some 10),none,(.op (.mf (.func al) [] [(.t 4)]))⟩],(.t 10),aj)) from rfl),Nat.lt_irrefl]
 |n+1,i,h,He=>by
  have hi:i<ws.length:=by omega
  have hx:ws[i]?=some ws[i]:=List.getElem?_eq_getElem hi;have hd:ws.drop i=ws[i]::ws.drop (i+1):=List.drop_eq_getElem_cons hi;have hil:=bG (row:=aE) (tag:=.any) (sz:=1) (k:=.i64) hi;have hwr:=cY hi (show ws.length≤bY by simp only [bY];omega);have hdm:=fun b H=>na M hS b H
  have ih:=wl0 hS hD hw (H0:=H0) (r:=r) (kid:=kid) (s:=s) hq k hk n (i+1) (by omega);simp only [kv_cons,kv_nil] at ih;rw [hd,List.all_cons];cases hz:(ws[i] == ([]:Str)) with
  |true=>
   rw [Bool.not_true,Bool.false_and,slc_false];rw [au M eC.eq_1];simp (maxSteps:=3000000) (maxDischargeDepth:=6) +contextual -implicitDefEqProofs only [amC M,↓amD,Nat.reduceBEq,Nat.reduceAdd,env,ag,(show ab.res=[.cell 4 none] from rfl),(show ab.mode = .keep from rfl),(show ab.dfr=(some ([⟨(some 10),none,(.op (.mf (.func al) [] [(.t 4)]))⟩],(.t 10),aj)) from rfl),hi,hx,hil,hz,hdm,sel,Bool.not_true,gU,aft_panic,nb,hk,BW M hD hq]
  |false=>
   rw [Bool.not_false,Bool.true_and];rw [au M eC.eq_1];simp (maxSteps:=3000000) (maxDischargeDepth:=6) +contextual -implicitDefEqProofs only [amC M,↓amD,Nat.reduceBEq,Nat.reduceAdd,env,ag,(show ab.res=[.cell 4 none] from rfl),(show ab.mode = .keep from rfl),(show ab.dfr=(some ([⟨(some 10),none,(.op (.mf (.func al) [] [(.t 4)]))⟩],(.t 10),aj)) from rfl),hi,hx,hil,hz,hdm,sel,Bool.not_false,gU,hwr,ih]
end
section
attribute [local congr] aw aW cM bt aA bf aM aC ao aq aN aO
variable{E:bc}(M:cE bT E)
theorem Wc(fn:AFn)(H0:List AObj)(x:RX)(B:AC)(k:List Fra)(a:Env)(H:List AObj):M.go fn H0 (.df x B::k) a H=dfR E M.go fn H0 B k a H (rx a x):=M.step _ _ _ _ _
theorem Vn(hD:EL E)(fn:AFn)(H0:List AObj)(B:AC)(k:List Fra)(a:Env)(H:List AObj)(x y:List AV):dfR E M.go fn H0 B k a H (.fn (.func al) x y)=M.go fn H0 (.c B :: .dr (.fn (.func al) x y)::k) a H:=by
 simp [dfR,hD.rd]
theorem Vo(hS:nI E)(args:List AV)(H:List AObj):M.run eu args H=M.go ab H [.c nD,.c (.ops [⟨(some 10),none,(.op (.mf (.func al) [] [(.t 4)]))⟩]),.df (.t 10) aj] (env args) H:=by
 unfold cE.run vY;rw [hS.morph_reader_read];rfl
theorem jU(hS:nI E)(hD:EL E)(r:Nat)(s:Str)(G:List AObj):M.run eu [.ptr r 0,.str s] G=M.go ab G [.c aj,.dr (Pq G.length)] (mE (mE (mE (mE Env.leaf 0 (.ptr r 0)) 1 (.str s)) 4 (.ptr G.length 0)) 10 (Pq G.length)) (G++[AObj.cells [.bool false] dh]):=by
 rw [Vo M hS,nD];simp (maxSteps:=3000000) (maxDischargeDepth:=6) +contextual -implicitDefEqProofs only [amC M,↓amD,Nat.reduceBEq,Nat.reduceAdd,env,ag,(show ab.res=[.cell 4 none] from rfl),(show ab.mode = .keep from rfl),(show ab.dfr=(some ([⟨(some 10),none,(.op (.mf (.func al) [] [(.t 4)]))⟩],(.t 10),aj)) from rfl),amG,AV.cell,Nat.reduceMul,Nat.reduceLeDiff,Wc,Vn M hD]
theorem N8(H:List AObj){o:AObj}(cs:List AV)(h:cs.length=4)(hc:cs.all AV.cell=true):stO 4 (H++[o,.cells [.int .i64 0,.int .i64 0,.bool false,.nilfn] di]) (H.length+1) 0 cs (some (.cells [.int .i64 0,.int .i64 0,.bool false,.nilfn] di))=some (H++[o,.cells cs di]):=by
 obtain ⟨a,b,c,d,rfl⟩:∃ a b c d,cs=[a,b,c,d]:=by
  match cs,h with
  |[a,b,c,d],_=>exact ⟨a,b,c,d,rfl⟩
 simp only [stO];rw [if_pos ⟨rfl,by simp,hc⟩];simp [aU]
def Pr(k:K)(last:Str)(rank:Nat)(ws:List Str):Bool:=decide ((k.least:Int)≤(ws.length:Int))&&(k.more||((ws.length:Int) == (k.least:Int)))
def Nj(k:K)(last:Str)(rank:Nat):Bool:=((last == []) == ((k.rank:Int) == 0))&&decide ((rank:Int)≤(k.rank:Int))
def Ed(d:Rd)(last:Str)(rank:Nat)(s:Str):Option (Rd×Str×Nat):=
 match mh 32 s with
 |[]=>none
 |w::ws=>match kOf w with
  |none=>none
  |some k=>if ((w::ws).all fun x => !(x == []))=true then (if Pr k last rank ws=true then (if Nj k last rank=true then (lF k d last ws).map fun d'=>(d',w,k.rank) else none) else none) else none
def Wd(last:Str)(rank:Nat)(s:Str):Bool:=
 match mh 32 s with
 |[]=>true
 |w::_=>match kOf w with
  |none=>true
  |some k=>Nj k last rank
theorem qK(a b c d:AV):bJ none [a,b,c,d] 0=some a∧bJ none [a,b,c,d] 1=some b∧bJ none [a,b,c,d] 2=some c∧bJ none [a,b,c,d] 3=some d:=⟨rfl,rfl,rfl,rfl⟩
theorem Ru{N r:Nat}{G G4:List AObj}(hN:N≤G.length)(h:LoR N r G G4)(x:AObj):LoR N r G (G4.set G.length x):=
 ⟨by simpa using h.1,fun i hi hn=>by rw [List.getElem?_set_ne (by omega)];exact h.2.1 i hi hn,fun i cs T hT hi=>by
  have:=eS hi;rw [List.getElem?_set_ne (by omega)];exact h.2.2 i cs T hT hi⟩
theorem CQ{N r q:Nat}{G H:List AObj}(hN:N≤G.length)(hq:G.length≤q)(hl:LoR N r G H)(hlen:q<H.length):LoR N r G (J4 H q):=by
 refine ⟨by have:=hl.1;simp;omega,fun i hi hn => ?_,fun i cs T hT hi => ?_⟩
 ·rw [List.getElem?_set_ne (by omega),List.getElem?_append_left (by omega)];exact hl.2.1 i hi hn
 ·have hlt:=eS hi
  rw [List.getElem?_set_ne (by omega)];exact cP (hl.2.2 i cs T hT hi)
theorem CR(c:UInt8):∀ s:Str,(mh c s).length≤s.length+1∧∀ w∈mh c s,w.length≤s.length
 |[]=>⟨by simp [mh],by simp [mh]⟩
 |x::s=>by
  obtain ⟨h1,h2⟩:=CR c s;rw [mh];split
  ·refine ⟨by simp;omega,fun w hw => ?_⟩
   rcases List.mem_cons.1 hw with rfl | hw
   ·simp
   ·have:=h2 w hw;simp;omega
  ·split
   ·exact ⟨by simp,by simp⟩
   ·rename_i w ws e
    rw [e] at h1 h2;refine ⟨by simp at h1 ⊢;omega,fun v hv => ?_⟩;rcases List.mem_cons.1 hv with rfl | hv
    ·have:=h2 w (.head _);simp;omega
    ·have:=h2 v (.tail _ hv);simp;omega
theorem Rv{N:Nat}(r:Nat)(G L:List AObj)(hN:N≤G.length):LoR N r G (G++L):=⟨by simp,fun i hi _=>List.getElem?_append_left (by omega),fun i cs T _ hi=>cP hi⟩
theorem sV.more{N:Nat}{e:TypeId}{sz:Nat}{G:List AObj}{v:AV}{rows:List (List AV)}(h:sV N e sz G v rows)(L:List AObj):sV N e sz (G++L) v rows:=h.stay fun t _ ht=>List.getElem?_append_left (eS ht)
theorem RdV.more{N r:Nat}{G:List AObj}{d:Rd}{last:Str}{rank:Int}(h:RdV N r G d last rank)(L:List AObj):RdV N r (G++L) d last rank:=by
 obtain ⟨tv,cv,ev,sv,kv,hg,p1,p2,p3,p4,p5⟩:=h;have g:∀ {α:Type}{g:Gro α}{cv:AV}{xs:List α},GrV g N G cv xs→GrV g N (G++L) cv xs:=fun h=>h.stay (by simp) (fun i cs _ hi=>List.getElem?_append_left (eS hi)) (fun i n _ hi=>List.getElem?_append_left (eS hi))
 exact ⟨tv,cv,ev,sv,kv,cP hg,p1.more L,g p2,g p3,p4.more L,p5.more L⟩
theorem uv.chgB{N:Nat}{G G':List AObj}{d:Rd}{tv cv ev sv kv:AV}(h:uv N G d tv cv ev sv kv){e T:TypeId}(c:Chg e T G G')(h1:bU≠e)(h2:aG≠T)(h3:bK≠e)(h4:aS≠T)(h5:bn≠e)(h6:cL≠e)(h7:dE≠e):uv N G' d tv cv ev sv kv:=
 ⟨h.1.chg c h1,h.2.1.chg c h2 h3,h.2.2.1.chg c h4 h5,h.2.2.2.1.chg c h6,h.2.2.2.2.chg c h7⟩
theorem Rw{r k:Nat}(h:k≠r):apart [r,r] [k]:=fun x hx=>by
 rw [List.mem_singleton] at hx;subst hx;simp [h]
abbrev Vp(k:K):AObj:=.cells [.int .i64 (k.rank:Int),.int .i64 (k.least:Int),.bool k.more,.fn (.func k.fid) [] []] di
theorem Rx(hS:nI E)(hX:kY M)(hP:w8 E)(hD:EL E)(hW:WdE M){N r:Nat}{G:List AObj}{d:Rd}{last:Str}{rank:Nat}(hN:N≤G.length)(hr:r<N)(h:RdV N r G d last rank)(hJ:IU d last){m:Nat}(hZ:J3 m d)(hm:m≤1000000){s:Str}(hs:s.length≤100000)(h0:s≠[]) :
  match Ed d last rank s with
  |some x => ∃ G',M.run eu [.ptr r 0,.str s] G=some (.ret (.bool true),G')∧RdV N r G' x.1 x.2.1 (x.2.2:Int)∧LoR N r G G'
  |none => ∃ G',M.run eu [.ptr r 0,.str s] G=some (.ret (.bool false),G')∧LoR N r G G':=by
 obtain ⟨w,ws,hsp⟩:∃ w ws,mh 32 s=w::ws:=by
  cases hq:mh 32 s with
  |nil=>exact absurd hq (S7 32 s)
  |cons w ws=>exact ⟨w,ws,rfl⟩
 obtain ⟨hb1,hb2⟩:=CR 32 s;rw [hsp] at hb1 hb2;have hwl:(w::ws).length≤1000000:=by omega
 have hsl:∀ x∈w::ws,x.length≤1000000:=fun x hx=>by have:=hb2 x hx;omega
 have hspl:=fun H=>IR M hS hX (c:=32) (s:=s) hs H
 rw [hsp] at hspl;have hkn:=fun H=>Po M hS H
 have hlk:=fun G=>Ta G w
 have hdm:=fun b H=>na M hS b H
 have hq1:∀ L,(G++(AObj.cells [.bool false] dh::L))[G.length]?=some (.cells [.bool false] dh):=fun L=>by rw [eL];rfl
 have hwx:=Qu hW;have hwk:=fun H T L=>NQ hW (g:=nR) (first:=[]) (cap:=[]) (args:=[]) (v:=.vmap (kp.map my)) (fun H=>hkn H) H T L
 obtain ⟨rest,hla⟩:=Nd M hS hX (c:=32) (s:=s) (w:=w) (ws:=ws) hs h0 hsp;have hlw:=fun H T L=>NQ hW (g:=iA) (first:=[]) (cap:=[]) (args:=[.str s,.str [32],.int .i64 2]) (v:=.slice .any 1 ((w::rest).map aE)) (fun H=>hla H) H T L
 have hli:=xb (tg:=.any) (ws:=w::rest) (w:=w) rfl;have hlow:∀ L,LoR N r G (G++L):=fun L=>Rv r G L hN
 unfold Ed;simp only [hsp];rw [Rr] at hlk;obtain ⟨W,hWd⟩:∃ W,W=w::ws:=⟨_,rfl⟩
 have hw0:W[0]?=some w:=by rw [hWd];rfl
 have hdr:W.drop 1=ws:=by rw [hWd];rfl
 have hWl:W.length=ws.length+1:=by rw [hWd];rfl
 rw [← hWd] at hspl hwl hsl ⊢;have hwi:=xb (tg:=.any) hw0;clear hWd;cases hk:kOf w with
 |none=>
  simp only [hk,Option.map_none] at hlk;refine ⟨J4 (G++[.cells [.bool false] dh,.cells [.int .i64 0,.int .i64 0,.bool false,.nilfn] di]) G.length, ?_,CQ hN (Nat.le_refl _) (hlow _) (by simp)⟩;have hst:=N8 G (o:=.cells [.bool false] dh) [.int .i64 0,.int .i64 0,.bool false,.nilfn] rfl rfl;rw [jU M hS hD,aj];simp (maxSteps:=3000000) (maxDischargeDepth:=6) +contextual -implicitDefEqProofs only [amC M,↓amD,Nat.reduceBEq,Nat.reduceAdd,env,ag,(show ab.res=[.cell 4 none] from rfl),(show ab.mode = .keep from rfl),(show ab.dfr=(some ([⟨(some 10),none,(.op (.mf (.func al) [] [(.t 4)]))⟩],(.t 10),aj)) from rfl),amG,AV.cell,Nat.reduceMul,Nat.reduceLeDiff,rnc,hspl,hkn,hwx,hwk,hlk,hst,hdm,sel,gU,hwi,hw0,aft_panic,nb,BW M hD (hq1 _)]
 |some k=>
  simp only [hk,Option.map_some,Rq] at hlk;have hst:=N8 G (o:=.cells [.bool false] dh) [.int .i64 (k.rank:Int),.int .i64 (k.least:Int),.bool k.more,.fn (.func k.fid) [] []] rfl rfl;obtain ⟨G2,hG2⟩:∃ G2,G2=G++[.cells [.bool false] dh,Vp k]:=⟨_,rfl⟩
  have hst2:stO 4 (G++[.cells [.bool false] dh,.cells [.int .i64 0,.int .i64 0,.bool false,.nilfn] di]) (G.length+1) 0 [.int .i64 (k.rank:Int),.int .i64 (k.least:Int),.bool k.more,.fn (.func k.fid) [] []] (some (.cells [.int .i64 0,.int .i64 0,.bool false,.nilfn] di))=some G2:=by rw [hG2];exact hst
  have hq2:G2[G.length]?=some (.cells [.bool false] dh):=by rw [hG2];exact hq1 _
  have hk2:G2[G.length+1]?=some (.cells [.int .i64 (k.rank:Int),.int .i64 (k.least:Int),.bool k.more,.fn (.func k.fid) [] []] di):=by rw [hG2,hp_getk];rfl
  have hv2:RdV N r G2 d last rank:=by rw [hG2];exact h.more _
  have hl2:LoR N r G G2:=by rw [hG2];exact hlow _
  have hN2:N≤G2.length:=Nat.le_trans hN hl2.1;have hql:G.length<G2.length:=eS hq2;have hGe:G++[AObj.cells [.bool false] dh,.cells [.int .i64 (k.rank:Int),.int .i64 (k.least:Int),.bool k.more,.fn (.func k.fid) [] []] di]=G2:=hG2.symm;clear hG2 hst;have loop:=fun k (hk:kA k=some (Pq G.length))=>wl0 M hS hD hwl (q:=G.length) (r:=r) (kid:=G.length+1) (s:=s) (H0:=G) hq2 k hk W.length 0 (by omega)
  simp only [kv_cons,kv_nil,Int.ofNat_zero,List.drop_zero] at loop;have hfr:=CP (ws:=W) (i:=1) (by omega) (by omega);have e1:((1:Nat):Int)=1:=rfl;rw [e1,hdr] at hfr;have hwr:=fun (a:Env) (ha:dR a 4 = .ptr G.length 0)=>BW M hD (H0:=G) (a:=a) hq2 ha
  cases hall:(W.all fun x => !(x == [])) with
  |false=>
   simp only [Bool.false_eq_true,if_false];refine ⟨J4 G2 G.length, ?_,CQ hN (Nat.le_refl _) hl2 hql⟩;rw [hall] at loop;simp only [slc_false] at loop;rw [jU M hS hD,aj];simp (maxSteps:=3000000) (maxDischargeDepth:=6) +contextual -implicitDefEqProofs only [amC M,↓amD,Nat.reduceBEq,Nat.reduceAdd,env,ag,(show ab.res=[.cell 4 none] from rfl),(show ab.mode = .keep from rfl),(show ab.dfr=(some ([⟨(some 10),none,(.op (.mf (.func al) [] [(.t 4)]))⟩],(.t 10),aj)) from rfl),amG,AV.cell,Nat.reduceMul,Nat.reduceLeDiff,rnc,hspl,hkn,hwx,hwk,hlk,hst2,hGe,hk2,hdm,sel,gU,hwi,hw0,qK,loop,aft_panic,nb,hfr,List.length_map]
  |true=>
   simp only [if_true];rw [hall] at loop;simp only [slc_true] at loop;cases hln:Pr k last rank ws with
   |false=>
    simp only [Bool.false_eq_true,if_false];refine ⟨J4 G2 G.length, ?_,CQ hN (Nat.le_refl _) hl2 hql⟩;unfold Pr at hln;cases hb1:decide ((k.least:Int)≤(ws.length:Int)) with
    |false=>
     have hb1n:decide (k.least≤ws.length)=false:=by rw [← hb1];exact decide_eq_decide.2 (by omega)
     rw [jU M hS hD,aj];simp (maxSteps:=3000000) (maxDischargeDepth:=6) +contextual -implicitDefEqProofs only [amC M,↓amD,Nat.reduceBEq,Nat.reduceAdd,env,ag,(show ab.res=[.cell 4 none] from rfl),(show ab.mode = .keep from rfl),(show ab.dfr=(some ([⟨(some 10),none,(.op (.mf (.func al) [] [(.t 4)]))⟩],(.t 10),aj)) from rfl),amG,AV.cell,Nat.reduceMul,Nat.reduceLeDiff,rnc,hspl,hkn,hwx,hwk,hlk,hst2,hGe,hk2,hdm,sel,gU,hwi,hw0,qK,loop,aft_panic,nb,hfr,List.length_map,hb1,hb1n,hwr]
    |true=>
     rw [hb1,Bool.true_and,Bool.or_eq_false_iff] at hln;obtain ⟨hb2,hb3⟩:=hln
     have hb3n:(ws.length == k.least)=false:=by
      have:=beq_eq_false_iff_ne.1 hb3;exact beq_eq_false_iff_ne.2 (by omega)
     have hb1n:decide (k.least≤ws.length)=true:=by rw [← hb1];exact decide_eq_decide.2 (by omega)
     rw [hb2] at hst2 hk2 hlk hGe;rw [jU M hS hD,aj];simp (maxSteps:=3000000) (maxDischargeDepth:=6) +contextual -implicitDefEqProofs only [amC M,↓amD,Nat.reduceBEq,Nat.reduceAdd,env,ag,(show ab.res=[.cell 4 none] from rfl),(show ab.mode = .keep from rfl),(show ab.dfr=(some ([⟨(some 10),none,(.op (.mf (.func al) [] [(.t 4)]))⟩],(.t 10),aj)) from rfl),amG,AV.cell,Nat.reduceMul,Nat.reduceLeDiff,rnc,hspl,hkn,hwx,hwk,hlk,hst2,hGe,hk2,hdm,sel,gU,hwi,hw0,qK,loop,aft_panic,nb,hfr,List.length_map,hb1,hb1n,hb2,hb3,hb3n,hwr]
   |true=>
    simp only [if_true];unfold Pr at hln;rw [Bool.and_eq_true] at hln;obtain ⟨hb1,hb23⟩:=hln;have hleast:k.least≤ws.length:=by have:=of_decide_eq_true hb1;omega
    have hb1n:decide (k.least≤ws.length)=true:=decide_eq_true hleast;cases hrk:Nj k last rank with
    |false=>
     simp only [Bool.false_eq_true,if_false];refine ⟨J4 G2 G.length, ?_,CQ hN (Nat.le_refl _) hl2 hql⟩;obtain ⟨tv2,cv2,ev2,sv2,kv2,hg2,_⟩:=id hv2;obtain ⟨b2,hb2⟩:∃ b2,k.more=b2:=⟨_,rfl⟩
     obtain ⟨b3,hb3⟩:∃ b3,((ws.length:Int) == (k.least:Int))=b3:=⟨_,rfl⟩
     rw [hb3] at hb23;rw [hb2] at hb23 hst2 hk2 hlk hGe;have ef1:req EK.bool (.bool true) (.bool false)=some false:=rfl;have ef2:req EK.bool (.bool false) (.bool true)=some false:=rfl;have et1:req EK.bool (.bool true) (.bool true)=some true:=rfl;have et2:req EK.bool (.bool false) (.bool false)=some true:=rfl;unfold Nj at hrk
     have hb3x:b2=false→b3=true∧(ws.length == k.least)=true:=fun e=>by
      rw [e,Bool.false_or] at hb23;subst hb23;exact ⟨rfl,by have:=eq_of_beq hb3;exact beq_iff_eq.2 (by omega)⟩
     cases hc1:(last == ([]:Str))<;>cases hc2:((k.rank:Int) == 0)<;>rw [hc1,hc2] at hrk
     ·have hc3:decide ((rank:Int)≤(k.rank:Int))=false:=by simpa using hrk
      have hc3n:decide (rank≤k.rank)=false:=by rw [← hc3];exact decide_eq_decide.2 (by omega)
      cases b2 with
      |true=>
       rw [jU M hS hD,aj];simp (maxSteps:=3000000) (maxDischargeDepth:=6) +contextual -implicitDefEqProofs only [amC M,↓amD,Nat.reduceBEq,Nat.reduceAdd,env,ag,(show ab.res=[.cell 4 none] from rfl),(show ab.mode = .keep from rfl),(show ab.dfr=(some ([⟨(some 10),none,(.op (.mf (.func al) [] [(.t 4)]))⟩],(.t 10),aj)) from rfl),amG,AV.cell,Nat.reduceMul,Nat.reduceLeDiff,am6,n9,oa,rnc,hspl,hkn,hwx,hwk,hlk,hst2,hGe,hk2,hdm,sel,gU,hwi,hw0,qK,loop,aft_panic,nb,hfr,List.length_map,hb1,hb1n,hwr,hg2,qRd,hc1,hc2,hc3,hc3n,ef1,ef2,et1,et2]
      |false=>
       obtain ⟨rfl,hb3n⟩:=hb3x rfl;rw [jU M hS hD,aj];simp (maxSteps:=3000000) (maxDischargeDepth:=6) +contextual -implicitDefEqProofs only [amC M,↓amD,Nat.reduceBEq,Nat.reduceAdd,env,ag,(show ab.res=[.cell 4 none] from rfl),(show ab.mode = .keep from rfl),(show ab.dfr=(some ([⟨(some 10),none,(.op (.mf (.func al) [] [(.t 4)]))⟩],(.t 10),aj)) from rfl),amG,AV.cell,Nat.reduceMul,Nat.reduceLeDiff,am6,n9,oa,rnc,hspl,hkn,hwx,hwk,hlk,hst2,hGe,hk2,hdm,sel,gU,hwi,hw0,qK,loop,aft_panic,nb,hfr,List.length_map,hb1,hb1n,hb3,hb3n,hwr,hg2,qRd,hc1,hc2,hc3,hc3n,ef1,ef2,et1,et2]
     ·cases b2 with
      |true=>
       rw [jU M hS hD,aj];simp (maxSteps:=3000000) (maxDischargeDepth:=6) +contextual -implicitDefEqProofs only [amC M,↓amD,Nat.reduceBEq,Nat.reduceAdd,env,ag,(show ab.res=[.cell 4 none] from rfl),(show ab.mode = .keep from rfl),(show ab.dfr=(some ([⟨(some 10),none,(.op (.mf (.func al) [] [(.t 4)]))⟩],(.t 10),aj)) from rfl),amG,AV.cell,Nat.reduceMul,Nat.reduceLeDiff,am6,n9,oa,rnc,hspl,hkn,hwx,hwk,hlk,hst2,hGe,hk2,hdm,sel,gU,hwi,hw0,qK,loop,aft_panic,nb,hfr,List.length_map,hb1,hb1n,hwr,hg2,qRd,hc1,hc2,ef1,ef2,et1,et2]
      |false=>
       obtain ⟨rfl,hb3n⟩:=hb3x rfl;rw [jU M hS hD,aj];simp (maxSteps:=3000000) (maxDischargeDepth:=6) +contextual -implicitDefEqProofs only [amC M,↓amD,Nat.reduceBEq,Nat.reduceAdd,env,ag,(show ab.res=[.cell 4 none] from rfl),(show ab.mode = .keep from rfl),(show ab.dfr=(some ([⟨(some 10),none,(.op (.mf (.func al) [] [(.t 4)]))⟩],(.t 10),aj)) from rfl),amG,AV.cell,Nat.reduceMul,Nat.reduceLeDiff,am6,n9,oa,rnc,hspl,hkn,hwx,hwk,hlk,hst2,hGe,hk2,hdm,sel,gU,hwi,hw0,qK,loop,aft_panic,nb,hfr,List.length_map,hb1,hb1n,hb3,hb3n,hwr,hg2,qRd,hc1,hc2,ef1,ef2,et1,et2]
     ·cases b2 with
      |true=>
       rw [jU M hS hD,aj];simp (maxSteps:=3000000) (maxDischargeDepth:=6) +contextual -implicitDefEqProofs only [amC M,↓amD,Nat.reduceBEq,Nat.reduceAdd,env,ag,(show ab.res=[.cell 4 none] from rfl),(show ab.mode = .keep from rfl),(show ab.dfr=(some ([⟨(some 10),none,(.op (.mf (.func al) [] [(.t 4)]))⟩],(.t 10),aj)) from rfl),amG,AV.cell,Nat.reduceMul,Nat.reduceLeDiff,am6,n9,oa,rnc,hspl,hkn,hwx,hwk,hlk,hst2,hGe,hk2,hdm,sel,gU,hwi,hw0,qK,loop,aft_panic,nb,hfr,List.length_map,hb1,hb1n,hwr,hg2,qRd,hc1,hc2,ef1,ef2,et1,et2]
      |false=>
       obtain ⟨rfl,hb3n⟩:=hb3x rfl;rw [jU M hS hD,aj];simp (maxSteps:=3000000) (maxDischargeDepth:=6) +contextual -implicitDefEqProofs only [amC M,↓amD,Nat.reduceBEq,Nat.reduceAdd,env,ag,(show ab.res=[.cell 4 none] from rfl),(show ab.mode = .keep from rfl),(show ab.dfr=(some ([⟨(some 10),none,(.op (.mf (.func al) [] [(.t 4)]))⟩],(.t 10),aj)) from rfl),amG,AV.cell,Nat.reduceMul,Nat.reduceLeDiff,am6,n9,oa,rnc,hspl,hkn,hwx,hwk,hlk,hst2,hGe,hk2,hdm,sel,gU,hwi,hw0,qK,loop,aft_panic,nb,hfr,List.length_map,hb1,hb1n,hb3,hb3n,hwr,hg2,qRd,hc1,hc2,ef1,ef2,et1,et2]
     ·have hc3:decide ((rank:Int)≤(k.rank:Int))=false:=by simpa using hrk
      have hc3n:decide (rank≤k.rank)=false:=by rw [← hc3];exact decide_eq_decide.2 (by omega)
      cases b2 with
      |true=>
       rw [jU M hS hD,aj];simp (maxSteps:=3000000) (maxDischargeDepth:=6) +contextual -implicitDefEqProofs only [amC M,↓amD,Nat.reduceBEq,Nat.reduceAdd,env,ag,(show ab.res=[.cell 4 none] from rfl),(show ab.mode = .keep from rfl),(show ab.dfr=(some ([⟨(some 10),none,(.op (.mf (.func al) [] [(.t 4)]))⟩],(.t 10),aj)) from rfl),amG,AV.cell,Nat.reduceMul,Nat.reduceLeDiff,am6,n9,oa,rnc,hspl,hkn,hwx,hwk,hlk,hst2,hGe,hk2,hdm,sel,gU,hwi,hw0,qK,loop,aft_panic,nb,hfr,List.length_map,hb1,hb1n,hwr,hg2,qRd,hc1,hc2,hc3,hc3n,ef1,ef2,et1,et2]
      |false=>
       obtain ⟨rfl,hb3n⟩:=hb3x rfl;rw [jU M hS hD,aj];simp (maxSteps:=3000000) (maxDischargeDepth:=6) +contextual -implicitDefEqProofs only [amC M,↓amD,Nat.reduceBEq,Nat.reduceAdd,env,ag,(show ab.res=[.cell 4 none] from rfl),(show ab.mode = .keep from rfl),(show ab.dfr=(some ([⟨(some 10),none,(.op (.mf (.func al) [] [(.t 4)]))⟩],(.t 10),aj)) from rfl),amG,AV.cell,Nat.reduceMul,Nat.reduceLeDiff,am6,n9,oa,rnc,hspl,hkn,hwx,hwk,hlk,hst2,hGe,hk2,hdm,sel,gU,hwi,hw0,qK,loop,aft_panic,nb,hfr,List.length_map,hb1,hb1n,hb3,hb3n,hwr,hg2,qRd,hc1,hc2,hc3,hc3n,ef1,ef2,et1,et2]
    |true=>
    simp only [if_true];unfold Nj at hrk;rw [Bool.and_eq_true] at hrk;obtain ⟨hc12,hc3⟩:=hrk;have hc3n:decide (rank≤k.rank)=true:=by rw [← hc3];exact decide_eq_decide.2 (by omega)
    have hkd:=Rs M hS hX hP hN2 hv2 hJ hZ hm k hleast (by omega) (fun x hx=>hsl x (by rw [← hdr] at hx;exact List.mem_of_mem_drop hx));obtain ⟨tv2,cv2,ev2,sv2,kv2,hg2,_⟩:=id hv2;have hb:∃ c1 c2 b3,(last == ([]:Str))=c1∧((k.rank:Int) == 0)=c2∧((ws.length:Int) == (k.least:Int))=b3:=⟨_,_,_,rfl,rfl,rfl⟩
    obtain ⟨c1,c2,b3,hc1,hc2,hb3⟩:=hb;rw [hc1,hc2] at hc12;rw [hb3] at hb23;have hcc:c1=c2:=eq_of_beq hc12;subst hcc;have ec:∀ c:Bool,req EK.bool (.bool c) (.bool c)=some true:=fun c=>by cases c<;>rfl
    obtain ⟨b2,hb2⟩:∃ b2,k.more=b2:=⟨_,rfl⟩
    rw [hb2] at hb23 hst2 hk2 hlk hGe;cases hrd:lF k d last ws with
    |none=>
     simp only [hrd] at hkd;simp only [Option.map_none];refine ⟨J4 G2 G.length, ?_,CQ hN (Nat.le_refl _) hl2 hql⟩;cases b2 with
     |true=>
      rw [jU M hS hD,aj];simp (maxSteps:=3000000) (maxDischargeDepth:=6) +contextual -implicitDefEqProofs only [amC M,↓amD,Nat.reduceBEq,Nat.reduceAdd,env,ag,(show ab.res=[.cell 4 none] from rfl),(show ab.mode = .keep from rfl),(show ab.dfr=(some ([⟨(some 10),none,(.op (.mf (.func al) [] [(.t 4)]))⟩],(.t 10),aj)) from rfl),amG,AV.cell,Nat.reduceMul,Nat.reduceLeDiff,am6,n9,oa,rnc,hspl,hkn,hwx,hwk,hlk,hst2,hGe,hk2,hdm,sel,gU,hwi,hw0,qK,loop,aft_panic,nb,hfr,List.length_map,hb1,hb1n,hwr,hg2,qRd,hc1,hc2,hc3,hc3n,ec,hkd]
     |false=>
      simp only [Bool.false_or] at hb23;subst hb23
      have hb3n:(ws.length == k.least)=true:=by
       have:=eq_of_beq hb3;exact beq_iff_eq.2 (by omega)
      rw [jU M hS hD,aj];simp (maxSteps:=3000000) (maxDischargeDepth:=6) +contextual -implicitDefEqProofs only [amC M,↓amD,Nat.reduceBEq,Nat.reduceAdd,env,ag,(show ab.res=[.cell 4 none] from rfl),(show ab.mode = .keep from rfl),(show ab.dfr=(some ([⟨(some 10),none,(.op (.mf (.func al) [] [(.t 4)]))⟩],(.t 10),aj)) from rfl),amG,AV.cell,Nat.reduceMul,Nat.reduceLeDiff,am6,n9,oa,rnc,hspl,hkn,hwx,hwk,hlk,hst2,hGe,hk2,hdm,sel,gU,hwi,hw0,qK,loop,aft_panic,nb,hfr,List.length_map,hb1,hb1n,hb3,hb3n,hwr,hg2,qRd,hc1,hc2,hc3,hc3n,ec,hkd]
    |some d'=>
     simp only [hrd] at hkd;simp only [Option.map_some];obtain ⟨G3,hk3r,hv3,hl3⟩:=hkd;obtain ⟨tv,cv,ev,sv,kv,hg3,hp3⟩:=hv3;have hq3:=hl3.2.2 _ _ _ (.inl rfl) hq2;have hk3:=hl3.2.2 _ _ _ (.inr rfl) hk2;have hrq:r≠G.length:=by omega
     have hrk2:G.length+1≠r:=by omega
     have hst6:stO 1 G3 r 6 [.str w] (some (rdC d'.vow tv cv ev sv kv last rank))=some (G3.set r (rdC d'.vow tv cv ev sv kv w rank)):=nz rfl (by simp);obtain ⟨G4,hG4⟩:∃ G4,G4=G3.set r (rdC d'.vow tv cv ev sv kv w rank):=⟨_,rfl⟩
     have hg4:G4[r]?=some (rdC d'.vow tv cv ev sv kv w rank):=by rw [hG4];exact List.getElem?_set_self (eS hg3)
     have hq4:G4[G.length]?=some (.cells [.bool false] dh):=by rw [hG4,List.getElem?_set_ne hrq];exact hq3
     have hk4:G4[G.length+1]?=some (.cells [.int .i64 (k.rank:Int),.int .i64 (k.least:Int),.bool b2,.fn (.func k.fid) [] []] di):=by rw [hG4,List.getElem?_set_ne (Ne.symm hrk2)];exact hk3
     have hp4:uv N G4 d' tv cv ev sv kv:=by rw [hG4];exact hp3.set hg3
     have hl4:LoR N r G3 G4:=by rw [hG4];exact u7 (Chg.refl dh ct G3) (by decide) (fun _ _=>rfl) hg3 _
     rw [← hG4] at hst6;have e4:=hG4.symm;clear hG4;have hst7:stO 1 G4 r 7 [.int .i64 (k.rank:Int)] (some (rdC d'.vow tv cv ev sv kv w rank))=some (G4.set r (rdC d'.vow tv cv ev sv kv w k.rank)):=nz rfl (by simp);obtain ⟨G5,hG5⟩:∃ G5,G5=G4.set r (rdC d'.vow tv cv ev sv kv w k.rank):=⟨_,rfl⟩
     have hg5:G5[r]?=some (rdC d'.vow tv cv ev sv kv w k.rank):=by rw [hG5];exact List.getElem?_set_self (eS hg4)
     have hq5:G5[G.length]?=some (.cells [.bool false] dh):=by rw [hG5,List.getElem?_set_ne hrq];exact hq4
     have hp5:uv N G5 d' tv cv ev sv kv:=by rw [hG5];exact hp4.set hg4
     have hl5:LoR N r G4 G5:=by rw [hG5];exact u7 (Chg.refl dh ct G4) (by decide) (fun _ _=>rfl) hg4 _
     rw [← hG5] at hst7;have e5:=hG5.symm;clear hG5;have hst8:stO 1 G5 G.length 0 [.bool true] (some (.cells [.bool false] dh))=some (G5.set G.length (.cells [.bool true] dh)):=nz rfl (by simp);have hq6:(G5.set G.length (.cells [.bool true] dh))[G.length]?=some (.cells [.bool true] dh):=List.getElem?_set_self (eS hq5);have cB:Chg dh dh G5 (G5.set G.length (.cells [.bool true] dh)):=⟨by simp,fun i x hx _ n2=>by rw [List.getElem?_set_ne (fun e=>n2 [.bool false] (by rw [← e,hq5] at hx;injection hx with hx;exact hx.symm))];exact hx⟩
     have hnl:=fun (a:Env) (ha:dR a 4 = .ptr G.length 0)=>Rt M hD (H0:=G) (a:=a) hq6 ha
     have aa:=fun r'=>Rp (Rw hrk2) r'
     refine ⟨G5.set G.length (.cells [.bool true] dh), ?_,⟨tv,cv,ev,sv,kv, ?_,hp5.chgB cB (by decide) (by decide) (by decide) (by decide) (by decide) (by decide) (by decide)⟩,Ru hN (((hl2.trans hl3).trans hl4).trans hl5) _⟩
     ·cases b2 with
      |true=>
       rw [jU M hS hD,aj];simp (maxSteps:=3000000) (maxDischargeDepth:=6) +contextual -implicitDefEqProofs only [amC M,↓amD,Nat.reduceBEq,Nat.reduceAdd,env,ag,(show ab.res=[.cell 4 none] from rfl),(show ab.mode = .keep from rfl),(show ab.dfr=(some ([⟨(some 10),none,(.op (.mf (.func al) [] [(.t 4)]))⟩],(.t 10),aj)) from rfl),amG,AV.cell,Nat.reduceMul,Nat.reduceLeDiff,am6,n9,oa,rnc,hspl,hkn,hwx,hwk,hlk,hst2,hGe,hk2,hdm,sel,gU,hwi,hw0,qK,loop,aft_panic,nb,hfr,List.length_map,A6,amZ,aa,runit_mk,hb1,hb1n,hwr,hg2,qRd,hc1,hc2,hc3,hc3n,ec,hk3r,hg3,hk3,hlw,hla,hli,hst6,e4,hg4,hst7,e5,hq5,hst8,hnl,List.getElem?_cons_zero]
      |false=>
       simp only [Bool.false_or] at hb23;subst hb23
       have hb3n:(ws.length == k.least)=true:=by
        have:=eq_of_beq hb3;exact beq_iff_eq.2 (by omega)
       rw [jU M hS hD,aj];simp (maxSteps:=3000000) (maxDischargeDepth:=6) +contextual -implicitDefEqProofs only [amC M,↓amD,Nat.reduceBEq,Nat.reduceAdd,env,ag,(show ab.res=[.cell 4 none] from rfl),(show ab.mode = .keep from rfl),(show ab.dfr=(some ([⟨(some 10),none,(.op (.mf (.func al) [] [(.t 4)]))⟩],(.t 10),aj)) from rfl),amG,AV.cell,Nat.reduceMul,Nat.reduceLeDiff,am6,n9,oa,rnc,hspl,hkn,hwx,hwk,hlk,hst2,hGe,hk2,hdm,sel,gU,hwi,hw0,qK,loop,aft_panic,nb,hfr,List.length_map,A6,amZ,aa,runit_mk,hb1,hb1n,hb3,hb3n,hwr,hg2,qRd,hc1,hc2,hc3,hc3n,ec,hk3r,hg3,hk3,hlw,hla,hli,hst6,e4,hg4,hst7,e5,hq5,hst8,hnl,List.getElem?_cons_zero]
     ·rw [List.getElem?_set_ne (Ne.symm hrq)];exact hg5
end
section
attribute [local congr] aw aW cM bt aA bf aM aC ao aq aN aO
variable{E:bc}(M:cE bT E)
def EM(c:UInt8):Bool:=c != 32&&c != 10&&c != 61
def A7(s:Str):Bool:=s.all EM
theorem LW:∀ c:UInt8,tA c=true→EM c=true∧c≠45:=by
 intro c h;unfold tA at h;unfold EM;simp only [Bool.and_eq_true,decide_eq_true_eq] at h;refine ⟨?_, ?_⟩
 ·simp only [Bool.and_eq_true,bne_iff_ne,ne_eq]
  refine ⟨⟨?_, ?_⟩, ?_⟩<;>(rintro rfl;revert h;decide)
 ·rintro rfl;revert h;decide
theorem We(c:UInt8)(h:UZ c=true):EM c=true:=by
 by_cases e1:c=32
 ·subst e1;exact absurd h (by decide)
 ·by_cases e2:c=10
  ·subst e2;exact absurd h (by decide)
  ·by_cases e3:c=61
   ·subst e3;exact absurd h (by decide)
   ·simp [EM,e1,e2,e3]
theorem Ry(c:UInt8)(h:CJ c=true):EM c=true∧c≠45:=by
 have k:∀ d:UInt8,c=d→CJ d=true:=fun d e=>e ▸ h
 refine ⟨?_,fun e=>absurd (k _ e) (by decide)⟩;simp only [EM,Bool.and_eq_true,bne_iff_ne,ne_eq];exact ⟨⟨fun e=>absurd (k _ e) (by decide),fun e=>absurd (k _ e) (by decide)⟩,fun e=>absurd (k _ e) (by decide)⟩
theorem Rz(c:UInt8)(h:Eb c=true):EM c=true∧c≠45:=by
 have k:∀ d:UInt8,c=d→Eb d=true:=fun d e=>e ▸ h
 refine ⟨?_,fun e=>absurd (k _ e) (by decide)⟩;simp only [EM,Bool.and_eq_true,bne_iff_ne,ne_eq];exact ⟨⟨fun e=>absurd (k _ e) (by decide),fun e=>absurd (k _ e) (by decide)⟩,fun e=>absurd (k _ e) (by decide)⟩
theorem yu{s:Str}(h:ks s=true):A7 s=true∧s≠[]:=by
 cases s with
 |nil=>simp [ks] at h
 |cons c t=>
  simp only [ks,Bool.and_eq_true] at h;refine ⟨?_,by simp⟩;rw [A7,List.all_eq_true];exact fun x hx=>We x (List.all_eq_true.1 h.2 x hx)
theorem CS{s:Str}(h:oP s=true):A7 s=true∧s≠[]∧s≠[45]:=by
 simp only [oP,Lu,Bool.and_eq_true,decide_eq_true_eq] at h;refine ⟨?_,fun e=>by rw [e] at h;simp at h,fun e => ?_⟩
 ·rw [A7,List.all_eq_true]
  exact fun x hx=>(LW x (List.all_eq_true.1 h.2 x hx)).1
 ·rw [e] at h
  exact absurd h.2 (by decide)
def okD(s:Str):Prop:=A7 s=true∧s≠[45]
theorem N9{p:UInt8→Bool}(hp:∀ c,p c=true→EM c=true∧c≠45){s:Str}(h:s.all p=true):okD s:=by
 refine ⟨?_,fun e => ?_⟩
 ·rw [A7,List.all_eq_true]
  exact fun x hx=>(hp x (List.all_eq_true.1 h x hx)).1
 ·rw [e] at h
  exact (hp 45 (by simpa using h)).2 rfl
theorem uw{p:UInt8→Bool}(hp:∀ c,p c=true→EM c=true∧c≠45){s:Str}(h:iM p s=true):okD s:=by
 simp only [iM,Bool.and_eq_true] at h;exact N9 hp h.2
theorem Ps{s:Str}(h:s=[]∨oP s=true):okD s:=by
 rcases h with rfl | h
 ·exact ⟨rfl,by simp⟩
 ·exact ⟨(CS h).1,(CS h).2.2⟩
theorem rm{s:Str}(h:okD s):A7 (bI s)=true∧bI s≠[]∧fT (bI s)=s:=by
 unfold bI
 by_cases e:(s == [])=true
 ·rw [if_pos e]
  have:s=[]:=eq_of_beq e
  subst this;exact ⟨by decide,by simp,by decide⟩
 ·rw [if_neg e]
  have e1:s≠[]:=fun h=>e (by rw [h];rfl)
  refine ⟨h.1,e1, ?_⟩;unfold fT;rw [if_neg (by simpa using h.2)]
theorem Tc:(List.range 1000).all (fun n=>(A7 (fq n)) && !(fq n == [])&&(match zb (fq n) with | some m=>m == n | none=>false))=true:=by decide +kernel
theorem J5{n:Nat}(h:n<1000):A7 (fq n)=true∧fq n≠[]∧zb (fq n)=some n:=by
 have:=List.all_eq_true.1 Tc n (List.mem_range.2 h);simp only [Bool.and_eq_true] at this;obtain ⟨⟨h1,h2⟩,h3⟩:=this;refine ⟨h1,by simpa using h2, ?_⟩;cases hn:zb (fq n) with
 |none=>rw [hn] at h3;cases h3
 |some m=>rw [hn] at h3;rw [eq_of_beq h3]
def fe1(f:aJ):Str:=f.name++61::f.value
theorem LX{c:UInt8}{s:Str}(h:∀ x∈s,x≠c):Lib.countByte s c=0:=by
 rw [Lib.countByte,List.count_eq_zero];exact fun hm=>h c hm rfl
theorem AR{s:Str}(h:A7 s=true):∀ x∈s,x≠32∧x≠10∧x≠61:=fun x hx=>by
 have:=List.all_eq_true.1 h x hx;simp only [EM,Bool.and_eq_true,bne_iff_ne,ne_eq] at this;exact ⟨this.1.1,this.1.2,this.2⟩
theorem Oa(c:UInt8):∀ (a r:Str),(∀ x∈a,x≠c)→Lib.indexByte (a++c::r) c=(a.length:Int)
 |[],r,_=>by simp [Lib.indexByte]
 |x::a,r,h=>by
  have ih:=Oa c a r fun y hy=>h y (.tail _ hy)
  have hb:(x == c)=false:=by simpa using h x (.head _)
  simp only [List.cons_append,Lib.indexByte,hb,ih]
  have:((a.length:Int) == -1)=false:=beq_eq_false_iff_ne.2 (by omega)
  simp [this]
theorem Vq{f:aJ}(h1:A7 f.name=true)(h2:A7 f.value=true):Lib.countByte (fe1 f) 61=1∧BT 61 (fe1 f)=f.name∧BU 61 (fe1 f)=f.value:=by
 have n1:=fun x hx=>(AR h1 x hx).2.2
 have n2:=fun x hx=>(AR h2 x hx).2.2
 have hi:=Oa 61 f.name f.value n1;have hn:(Lib.indexByte (fe1 f) 61).toNat=f.name.length:=by unfold fe1;rw [hi];rfl
 refine ⟨?_, ?_, ?_⟩
 ·have c1:=LX n1
  have c2:=LX n2;unfold fe1;rw [Lib.countByte] at c1 c2 ⊢;rw [List.count_append,List.count_cons_self,c1,c2]
 ·unfold BT;rw [hn];exact List.take_left' rfl
 ·unfold BU;rw [hn]
  have:fe1 f=(f.name++[61])++f.value:=by simp [fe1]
  rw [this];exact List.drop_left' (by simp)
theorem LY:∀ {fs:List aJ},(∀ f∈fs,A7 f.name=true∧A7 f.value=true)→ir (fs.map fe1)=some fs
 |[],_=>rfl
 |f::l,h=>by
  obtain ⟨h1,h2,h3⟩:=Vq (h f (.head _)).1 (h f (.head _)).2;rw [List.map_cons,ir,if_pos h1,LY fun g hg=>h g (.tail _ hg),h2,h3];rfl
theorem Hl:∀ fs:List aJ,jQ fs=n5 (fs.map fe1)
 |[]=>rfl
 |f::l=>by rw [jQ,List.map_cons,n5,Hl l];simp [feS,fe1]
theorem IV:∀ (a b:List Str),n5 (a++b)=n5 a++n5 b
 |[],_=>rfl
 |x::a,b=>by simp only [List.cons_append,n5,IV a b,List.append_assoc]
theorem LZ(w:Str)(ws:List Str)(fs:List aJ):fw (w::ws)++jQ fs=fw (w::ws++fs.map fe1):=by
 rw [Hl];simp only [fw,List.cons_append,IV,List.append_assoc]
theorem L0:∀ (w:Str) (ws:List Str),(∀ x∈w::ws,∀ c∈x,c≠(32:UInt8))→mh 32 (fw (w::ws))=w::ws
 |w,[],h=>by simp only [fw,n5,List.append_nil];exact CN 32 w (h w (.head _))
 |w,v::ws,h=>by
  have ih:=L0 v ws fun x hx=>h x (.tail _ hx)
  have:fw (w::v::ws)=w++32::fw (v::ws):=by simp [fw,n5]
  rw [this,AE 32 w _ (h w (.head _)),ih]
def nd:List Str→Str
 |[]=>[]
 |x::l=>x++10::nd l
theorem qY:∀ (a b:List Str),nd (a++b)=nd a++nd b
 |[],_=>rfl
 |x::a,b=>by simp only [List.cons_append,nd,qY a b,List.append_assoc]
theorem IW:∀ (l:List Str),(∀ x∈l,∀ c∈x,c≠(10:UInt8))→mh 10 (nd l)=l++[[]]
 |[],_=>rfl
 |x::l,h=>by
  rw [nd,AE 10 x _ (h x (.head _)),IW l fun y hy=>h y (.tail _ hy)];rfl
theorem IX:∀ (w:Str) (ws:List Str),(∀ x∈w::ws,∀ c∈x,c≠(10:UInt8))→∀ c∈fw (w::ws),c≠(10:UInt8)
 |w,[],h,c,hc=>by
  simp only [fw,n5,List.append_nil] at hc;exact h w (.head _) c hc
 |w,v::ws,h,c,hc=>by
  have:fw (w::v::ws)=w++32::fw (v::ws):=by simp [fw,n5]
  rw [this] at hc;rcases List.mem_append.1 hc with hc | hc
  ·exact h w (.head _) c hc
  ·rcases List.mem_cons.1 hc with rfl | hc
   ·decide
   ·exact IX v ws (fun x hx=>h x (.tail _ hx)) c hc
abbrev StR:Type:=Rd×Str×Nat
def IY(s:Str):Bool:=s == []||s.head? == some 59
def r7(st:StR)(s:Str):Option StR:=if IY s=true then some st else Ed st.1 st.2.1 st.2.2 s
def ku:List Str→StR→Option StR
 |[],st=>some st
 |x::l,st=>match r7 st x with
  |some st'=>ku l st'
  |none=>none
theorem qZ:∀ (a b:List Str) (st:StR),ku (a++b) st=(ku a st).bind (ku b)
 |[],_,_=>rfl
 |x::a,b,st=>by
  rw [List.cons_append,ku,ku];cases r7 st x with
  |none=>rfl
  |some st'=>exact qZ a b st'
theorem J6(k:K):kOf k.key=some k:=by cases k<;>rfl
theorem Nk(k:K):A7 k.key=true∧k.key≠[]∧k.key.head?≠some 59∧k.key≠([]:Str):=by cases k<;>decide
theorem Pt{k:K}{tl:List Str}{d d':Rd}{last:Str}{rank:Nat}(hw:∀ x∈tl,x≠[]∧∀ c∈x,c≠(32:UInt8))(hl:k.least≤tl.length∧(k.more=true∨tl.length=k.least))(hr:(last=[]↔k.rank=0)∧rank≤k.rank)(h:lF k d last tl=some d') :
  r7 (d,last,rank) (fw (k.key::tl))=some (d',k.key,k.rank):=by
 obtain ⟨q1,q2,q3,_⟩:=Nk k
 have hne:fw (k.key::tl)≠[]:=by
  simp only [fw];intro e;exact q2 (List.append_eq_nil_iff.1 e).1
 have hhd:(fw (k.key::tl)).head? = k.key.head? := by
  simp only [fw];cases hk:k.key with
  |nil=>exact absurd hk q2
  |cons c t=>rfl
 have hs:IY (fw (k.key::tl))=false:=by
  unfold IY;rw [hhd,Bool.or_eq_false_iff];exact ⟨beq_eq_false_iff_ne.2 hne,beq_eq_false_iff_ne.2 q3⟩
 have hsp:=L0 k.key tl fun x hx=>by
  rcases List.mem_cons.1 hx with rfl | hx
  ·exact fun c hc=>(AR q1 c hc).1
  ·exact (hw x hx).2
 unfold r7;rw [if_neg (by rw [hs];simp)];unfold Ed;simp only [hsp,J6]
 have h1:((k.key::tl).all fun x => !(x == []))=true:=by
  rw [List.all_eq_true];intro x hx;rcases List.mem_cons.1 hx with rfl | hx
  ·simpa using q2
  ·simpa using (hw x hx).1
 have h2:Pr k last rank tl=true:=by
  unfold Pr;rw [Bool.and_eq_true];refine ⟨decide_eq_true (by omega), ?_⟩;rcases hl.2 with e | e
  ·rw [e];rfl
  ·rw [e];simp
 have h3:Nj k last rank=true:=by
  unfold Nj;rw [Bool.and_eq_true];refine ⟨?_,decide_eq_true (by omega)⟩
  by_cases e:last=[]
  ·have:=hr.1.1 e
   rw [e,this];rfl
  ·have e2:k.rank≠0:=fun e2=>e (hr.1.2 e2)
   have a1:(last == ([]:Str))=false:=beq_eq_false_iff_ne.2 e;have a2:((k.rank:Int) == 0)=false:=beq_eq_false_iff_ne.2 (by omega);rw [a1,a2];rfl
 rw [if_pos h1,if_pos h2,if_pos h3,h];rfl
end
section
attribute [local congr] aw aW cM bt aA bf aM aC ao aq aN aO
variable{E:bc}(M:cE bT E)
def kx(x:Str):Prop:=A7 x=true∧x≠[]
def FsG(fs:List aJ):Prop:=∀ f∈fs,kx f.name∧kx f.value
structure VOk (l:Lex):Prop where
 vow:okD l.vowels
 tr:∀ t∈l.traits.l,kx t.name∧∀ v∈t.values.l,kx v
 cl:∀ c∈l.classes.l,kx c.name∧∀ s∈c.slots.l,(0≤s.cut∧s.cut≤24)∧okD s.pre∧okD s.add∧FsG s.feats.l
 en:∀ x∈l.entries.l,kx x.lem∧kx x.cls∧FsG x.feats.l∧∀ f∈x.forms.l,(0≤f.slot∧f.slot<24)∧okD f.word
 sp:∀ x∈l.spells.l,x.frm≠[]∧okD x.frm∧okD x.to∧okD x.left∧okD x.right
 li:∀ x∈l.links.l,kx x.cls∧okD x.glue∧FsG x.feats.l
theorem RA{l:Lex}(h:mW l=0):VOk l:=by
 obtain ⟨h0,h1,h2,h3,h4,h5⟩:=IQ h;have hfs:∀ {fs:List aJ},jI l fs=0→FsG fs:=fun hb f hf=>⟨yu ((Rg h1 hb).2 f hf).1,yu ((Rg h1 hb).2 f hf).2⟩
 refine ⟨?_,fun t ht => ?_,fun c hc => ?_,fun x hx => ?_,fun x hx => ?_,fun x hx => ?_⟩
 ·refine N9 LW (List.all_eq_true.2 fun c hc => ?_)
  obtain ⟨i,hi⟩:=Hd hc;have:=qW h0 i c hi;rw [Nat.zero_add] at this;have hb:=(ur (by decide) this).1;cases i with
  |zero=>simpa [JT] using hb
  |succ i=>
   simp only [JT,Bool.or_eq_false_iff] at hb;simpa using hb.1
 ·obtain ⟨_,n1,_,n2⟩:=(S6 h1).2 t ht
  exact ⟨yu n1,fun v hv=>yu (n2 v hv)⟩
 ·obtain ⟨b,n1,_,n2⟩:=(Rh h1 h2).2 c hc
  refine ⟨yu n1,fun s hs => ?_⟩;obtain ⟨e1,e2,e3⟩:=n2 s hs;exact ⟨(b.2.2 s hs).1,uw LW e1,uw LW e2,hfs e3⟩
 ·obtain ⟨b,n1,n2,n3,n4⟩:=(U6 h1 h2 h3).2 x hx
  exact ⟨⟨(CS n1).1,(CS n1).2.1⟩,yu n2,hfs n3,fun f hf=>⟨(b.2.2.2.2 f hf).1,Ps (n4 f hf)⟩⟩
 ·obtain ⟨b,n1,n2,n3,n4⟩:=(U7 h4).2 x hx
  exact ⟨b.1,uw Ry n1,uw Ry n2,uw Rz n3,uw Rz n4⟩
 ·obtain ⟨b,n1,n2,n3⟩:=(U8 h1 h2 h5).2 x hx
  exact ⟨yu n1,uw LW n2,hfs n3⟩
def sp1(x:Str):Prop:=x≠[]∧∀ c∈x,c≠(32:UInt8)∧c≠(10:UInt8)
theorem kx.sp{x:Str}(h:kx x):sp1 x:=⟨h.2,fun c hc=>⟨(AR h.1 c hc).1,(AR h.1 c hc).2.1⟩⟩
theorem okD.dash{x:Str}(h:okD x):kx (bI x):=⟨(rm h).1,(rm h).2.1⟩
theorem L3{n:Nat}(h:n<1000):kx (fq n):=⟨(J5 h).1,(J5 h).2.1⟩
theorem Vr{f:aJ}(h1:kx f.name)(h2:kx f.value):sp1 (fe1 f):=by
 refine ⟨by simp [fe1],fun c hc => ?_⟩;rcases List.mem_append.1 hc with hc | hc
 ·exact h1.sp.2 c hc
 ·rcases List.mem_cons.1 hc with rfl | hc
  ·decide
  ·exact h2.sp.2 c hc
theorem FsG.sp{fs:List aJ}(h:FsG fs):∀ x∈fs.map fe1,sp1 x:=fun x hx=>by
 obtain ⟨f,hf,rfl⟩:=List.mem_map.1 hx;exact Vr (h f hf).1 (h f hf).2
theorem FsG.ok{fs:List aJ}(h:FsG fs):ir (fs.map fe1)=some fs:=LY fun f hf=>⟨(h f hf).1.1,(h f hf).2.1⟩
def RB(s:Str):Prop:=∃ k:K,∃ tl,s=fw (k.key::tl)∧∀ x∈tl,sp1 x
theorem RB.no10{s:Str}(h:RB s):∀ c∈s,c≠(10:UInt8):=by
 obtain ⟨k,tl,rfl,h⟩:=h;refine IX _ _ fun x hx => ?_
 rcases List.mem_cons.1 hx with rfl | hx
 ·exact fun c hc=>(AR (Nk k).1 c hc).2.1
 ·exact fun c hc=>((h x hx).2 c hc).2
theorem AG{k:K}{tl:List Str}{d d':Rd}{last:Str}{rank:Nat}(hw:∀ x∈tl,sp1 x)(hl:k.least≤tl.length∧(k.more=true∨tl.length=k.least))(hr:(last=[]↔k.rank=0)∧rank≤k.rank)(h:lF k d last tl=some d') :
  r7 (d,last,rank) (fw (k.key::tl))=some (d',k.key,k.rank):=Pt (fun x hx=>⟨(hw x hx).1,fun c hc=>((hw x hx).2 c hc).1⟩) hl hr h
def trB(t:aV):aV:=⟨t.name,⟨.any,t.values.l⟩⟩
def slB(s:bF):bF:=⟨s.cut,s.pre,s.add,⟨.any,s.feats.l⟩⟩
def clB(c:aL):aL:=⟨c.name,⟨.any,c.slots.l.map slB⟩⟩
def enB(x:aI):aI:=⟨x.lem,x.cls,⟨.any,x.feats.l⟩,⟨.any,x.forms.l⟩⟩
def liB(x:cF):cF:=⟨x.cls,x.glue,⟨.any,x.feats.l⟩⟩
def E3(t:aV):Str:=fw (kTrait::t.name::t.values.l)
def J7(s:bF):Str:=fw ([uk,fq s.cut.toNat,bI s.pre,bI s.add]++s.feats.l.map fe1)
def J8(c:aL):Str:=fw [mX,c.name]
def J9(f:bp):Str:=fw [um,fq f.slot.toNat,bI f.word]
def Ka(x:aI):Str:=fw ([mY,x.lem,x.cls]++x.feats.l.map fe1)
def E4(x:bq):Str:=fw [uo,x.frm,bI x.to,bI x.left,bI x.right]
def Kb(x:cF):Str:=fw ([AA,x.cls,bI x.glue]++x.feats.l.map fe1)
def RC(v:Str):Str:=fw [G9,bI v]
def AH(c:aL):List Str:=J8 c::c.slots.l.map J7
def AI(x:aI):List Str:=Ka x::x.forms.l.map J9
def yv(l:Lex):List Str:=RC l.vowels::(l.traits.l.map E3++(l.classes.l.flatMap AH++(l.entries.l.flatMap AI++(l.spells.l.map E4++l.links.l.map Kb))))
theorem Td(ws:List Str):qb ws []=fw ws++[10]:=rfl
theorem Kc(w:Str)(ws:List Str)(fs:List aJ):qb (w::ws) fs=fw (w::ws++fs.map fe1)++[10]:=by
 rw [qb,← List.append_assoc,LZ]
theorem AS{α:Type}{f:α→Str}{g:α→Str}(h:∀ x,f x=g x++[10]):∀ l:List α,gl f l=nd (l.map g)
 |[]=>rfl
 |x::l=>by rw [gl,List.map_cons,nd,AS h l,h x];simp
theorem Hm{α:Type}{f:α→Str}{g:α→List Str}(h:∀ x,f x=nd (g x)):∀ l:List α,gl f l=nd (l.flatMap g)
 |[]=>rfl
 |x::l=>by rw [gl,List.flatMap_cons,qY,Hm h l,h x]
theorem Nl(l:Lex):mw l=nd (yv l):=by
 have h1:∀ c,nH c=nd (AH c):=fun c=>by
  rw [nH,AH,nd,AS (f:=CM) (g:=J7) (fun s=>Kc _ _ _)];simp [Td,J8]
 have h2:∀ x,qV x=nd (AI x):=fun x=>by
  rw [qV,AI,nd,AS (f:=Ha) (g:=J9) (fun s=>rfl),Kc];simp [Ka]
 rw [mw,yv,nd,qY,qY,qY,qY];rw [AS (f:=uq) (g:=E3) (fun _=>rfl),Hm h1,Hm h2,AS (f:=yt) (g:=E4) (fun _=>rfl),AS (f:=AB) (g:=Kb) (fun _=>Kc _ _ _)];simp [LP,qb,RC,jQ]
theorem IZ{t:aV}(h:kx t.name∧∀ v∈t.values.l,kx v):∀ x∈t.name::t.values.l,sp1 x:=fun x hx=>by
 rcases List.mem_cons.1 hx with rfl | hx
 ·exact h.1.sp
 ·exact (h.2 x hx).sp
theorem L4{s:bF}(h:(0≤s.cut∧s.cut≤24)∧okD s.pre∧okD s.add∧FsG s.feats.l):∀ x∈[fq s.cut.toNat,bI s.pre,bI s.add]++s.feats.l.map fe1,sp1 x:=fun x hx=>by
 rcases List.mem_append.1 hx with hx | hx
 ·simp only [List.mem_cons,List.not_mem_nil,or_false] at hx
  rcases hx with rfl | rfl | rfl
  ·exact (L3 (by omega)).sp
  ·exact h.2.1.dash.sp
  ·exact h.2.2.1.dash.sp
 ·exact h.2.2.2.sp x hx
theorem I0{s:aI}(h1:kx s.lem)(h2:kx s.cls)(h3:FsG s.feats.l):∀ x∈[s.lem,s.cls]++s.feats.l.map fe1,sp1 x:=fun x hx=>by
 rcases List.mem_append.1 hx with hx | hx
 ·simp only [List.mem_cons,List.not_mem_nil,or_false] at hx
  rcases hx with rfl | rfl
  ·exact h1.sp
  ·exact h2.sp
 ·exact h3.sp x hx
theorem L5{f:bp}(h:(0≤f.slot∧f.slot<24)∧okD f.word):∀ x∈[fq f.slot.toNat,bI f.word],sp1 x:=fun x hx=>by
 simp only [List.mem_cons,List.not_mem_nil,or_false] at hx;rcases hx with rfl | rfl
 ·exact (L3 (by omega)).sp
 ·exact h.2.dash.sp
theorem I1{s:bq}(h:s.frm≠[]∧okD s.frm∧okD s.to∧okD s.left∧okD s.right):∀ x∈[s.frm,bI s.to,bI s.left,bI s.right],sp1 x:=fun x hx=>by
 simp only [List.mem_cons,List.not_mem_nil,or_false] at hx;rcases hx with rfl | rfl | rfl | rfl
 ·exact kx.sp ⟨h.2.1.1,h.1⟩
 ·exact h.2.2.1.dash.sp
 ·exact h.2.2.2.1.dash.sp
 ·exact h.2.2.2.2.dash.sp
theorem L6{s:cF}(h:kx s.cls∧okD s.glue∧FsG s.feats.l):∀ x∈[s.cls,bI s.glue]++s.feats.l.map fe1,sp1 x:=fun x hx=>by
 rcases List.mem_append.1 hx with hx | hx
 ·simp only [List.mem_cons,List.not_mem_nil,or_false] at hx
  rcases hx with rfl | rfl
  ·exact h.1.sp
  ·exact h.2.1.dash.sp
 ·exact h.2.2.sp x hx
theorem Te{l:Lex}(h:VOk l):∀ s∈yv l,RB s:=fun s hs=>by
 unfold yv at hs;rcases List.mem_cons.1 hs with rfl | hs
 ·exact ⟨.vow,[bI l.vowels],rfl,fun x hx=>by rw [List.mem_singleton] at hx;rw [hx];exact h.vow.dash.sp⟩
 rcases List.mem_append.1 hs with hs | hs
 ·obtain ⟨t,ht,rfl⟩:=List.mem_map.1 hs
  exact ⟨.trait,_,rfl,IZ (h.tr t ht)⟩
 rcases List.mem_append.1 hs with hs | hs
 ·obtain ⟨c,hc,hs⟩:=List.mem_flatMap.1 hs
  rcases List.mem_cons.1 hs with rfl | hs
  ·exact ⟨.cla,[c.name],rfl,fun x hx=>by rw [List.mem_singleton] at hx;rw [hx];exact (h.cl c hc).1.sp⟩
  ·obtain ⟨t,ht,rfl⟩:=List.mem_map.1 hs
   exact ⟨.slot,_,rfl,L4 ((h.cl c hc).2 t ht)⟩
 rcases List.mem_append.1 hs with hs | hs
 ·obtain ⟨c,hc,hs⟩:=List.mem_flatMap.1 hs
  obtain ⟨e1,e2,e3,e4⟩:=h.en c hc;rcases List.mem_cons.1 hs with rfl | hs
  ·exact ⟨.entry,_,rfl,I0 e1 e2 e3⟩
  ·obtain ⟨t,ht,rfl⟩:=List.mem_map.1 hs
   exact ⟨.form,_,rfl,L5 (e4 t ht)⟩
 rcases List.mem_append.1 hs with hs | hs
 ·obtain ⟨t,ht,rfl⟩:=List.mem_map.1 hs
  exact ⟨.spell,_,rfl,I1 (h.sp t ht)⟩
 ·obtain ⟨t,ht,rfl⟩:=List.mem_map.1 hs
  exact ⟨.link,_,rfl,L6 (h.li t ht)⟩
def AtR(d:Rd)(rk:Nat)(st:StR):Prop:=st.1=d∧st.2.1≠[]∧st.2.2≤rk
theorem Kd(k:K):k.key≠[]:=(Nk k).2.1
theorem Hn{a b:Prop}(ha:¬ a)(hb:¬ b):a↔b:=⟨fun h=>absurd h ha,fun h=>absurd h hb⟩
theorem Ee:∀ (ts:List aV) (d:Rd) (st:StR),(∀ t∈ts,kx t.name∧∀ v∈t.values.l,kx v)→AtR d 1 st→∃ st',ku (ts.map E3) st=some st'∧AtR { d with tr:=d.tr++ts.map trB } 1 st'
 |[],d,st,_,h=>⟨st,rfl,by simpa using h⟩
 |t::ts,d,(d0,last,rank),hg,⟨h1,h2,h3⟩=>by
  obtain rfl:d0=d:=h1
  have hs:r7 (d0,last,rank) (E3 t)=some ({ d0 with tr:=d0.tr++[trB t] },kTrait,1):=
   AG (k:=.trait) (IZ (hg t (.head _))) ⟨by simp [K.least],.inl rfl⟩ ⟨Hn h2 (by decide),h3⟩ rfl
  obtain ⟨st',e1,e2⟩:=Ee ts { d0 with tr:=d0.tr++[trB t] } ({ d0 with tr:=d0.tr++[trB t] },kTrait,1) (fun x hx=>hg x (.tail _ hx)) ⟨rfl,Kd .trait,Nat.le_refl _⟩;refine ⟨st',by rw [List.map_cons,ku,hs];exact e1, ?_⟩;simpa [List.append_assoc] using e2
theorem Ho(i:List aL):∀ (ss:List bF) (c:aL) (d:Rd) (last:Str),d.cl=i++[c]→c.slots.tag = .any→(last=mX∨last=uk)→(∀ s∈ss,(0≤s.cut∧s.cut≤24)∧okD s.pre∧okD s.add∧FsG s.feats.l) →
  ∃ last',ku (ss.map J7) (d,last,2)=some ({ d with cl:=i++[⟨c.name,⟨.any,c.slots.l++ss.map slB⟩⟩] },last',2)∧last'≠[]
 |[],c,d,last,hd,ht,hl,_=>⟨last,by
   have:(⟨c.name,⟨.any,c.slots.l++([]:List bF).map slB⟩⟩:aL)=c:=by
    obtain ⟨n,tg,l⟩:=c;simp at ht;subst ht;simp
   rw [this,← hd];rfl,by rcases hl with rfl | rfl<;>decide⟩
 |s::ss,c,d,last,hd,ht,hl,hg=>by
  obtain ⟨g1,g2,g3,g4⟩:=hg s (.head _);have hn:((s.cut.toNat:Nat):Int)=s.cut:=by omega
  have hr:lF .slot d last ([fq s.cut.toNat,bI s.pre,bI s.add]++s.feats.l.map fe1)=some { d with cl:=i++[⟨c.name,⟨.any,c.slots.l++[slB s]⟩⟩] }:=by
   simp only [List.cons_append,List.nil_append,lF];rw [if_pos hl];simp only [(J5 (n:=s.cut.toNat) (by omega)).2.2,g4.ok,(rm g2).2.2,(rm g3).2.2,hd,vc,hn];rfl
  have hne:last≠[]:=by rcases hl with rfl | rfl<;>decide
  have hs:r7 (d,last,2) (J7 s)=some ({ d with cl:=i++[⟨c.name,⟨.any,c.slots.l++[slB s]⟩⟩] },uk,2):=
   AG (k:=.slot) (L4 (hg s (.head _))) ⟨by simp [K.least],.inl rfl⟩ ⟨Hn hne (by decide),Nat.le_refl _⟩ hr
  obtain ⟨last',e1,e2⟩:=Ho i ss ⟨c.name,⟨.any,c.slots.l++[slB s]⟩⟩ { d with cl:=i++[⟨c.name,⟨.any,c.slots.l++[slB s]⟩⟩] } uk rfl rfl (.inr rfl) (fun x hx=>hg x (.tail _ hx));refine ⟨last', ?_,e2⟩;rw [List.map_cons,ku,hs];simpa [List.append_assoc] using e1
theorem CT:∀ (cs:List aL) (d:Rd) (st:StR),(∀ c∈cs,kx c.name∧∀ s∈c.slots.l,(0≤s.cut∧s.cut≤24)∧okD s.pre∧okD s.add∧FsG s.feats.l)→AtR d 2 st→∃ st',ku (cs.flatMap AH) st=some st'∧AtR { d with cl:=d.cl++cs.map clB } 2 st'
 |[],d,st,_,h=>⟨st,rfl,by simpa using h⟩
 |c::cs,d,(d0,last,rank),hg,⟨h1,h2,h3⟩=>by
  obtain rfl:d0=d:=h1;obtain ⟨g1,g2⟩:=hg c (.head _)
  have hs:r7 (d0,last,rank) (J8 c)=some ({ d0 with cl:=d0.cl++[⟨c.name,⟨.any,[]⟩⟩] },mX,2):=
   AG (k:=.cla) (tl:=[c.name]) (fun x hx=>by rw [List.mem_singleton] at hx;rw [hx];exact g1.sp) ⟨by simp [K.least],.inr rfl⟩ ⟨Hn h2 (by decide),h3⟩ rfl
  obtain ⟨last2,e1,e2⟩:=Ho d0.cl c.slots.l ⟨c.name,⟨.any,[]⟩⟩ { d0 with cl:=d0.cl++[⟨c.name,⟨.any,[]⟩⟩] } mX rfl rfl (.inl rfl) g2;obtain ⟨st',f1,f2⟩:=CT cs { d0 with cl:=d0.cl++[clB c] } ({ d0 with cl:=d0.cl++[clB c] },last2,2) (fun x hx=>hg x (.tail _ hx)) ⟨rfl,e2,Nat.le_refl _⟩;refine ⟨st', ?_,by simpa [List.append_assoc] using f2⟩;rw [List.flatMap_cons,AH,List.cons_append,ku,hs];simp only;rw [qZ,e1]
  simpa [clB] using f1
theorem Hq(i:List aI):∀ (ss:List bp) (c:aI) (d:Rd) (last:Str),d.en=i++[c]→c.forms.tag = .any→(last=mY∨last=um)→(∀ f∈ss,(0≤f.slot∧f.slot<24)∧okD f.word) →
  ∃ last',ku (ss.map J9) (d,last,3)=some ({ d with en:=i++[⟨c.lem,c.cls,c.feats,⟨.any,c.forms.l++ss⟩⟩] },last',3)∧last'≠[]
 |[],c,d,last,hd,ht,hl,_=>⟨last,by
   have:(⟨c.lem,c.cls,c.feats,⟨.any,c.forms.l++[]⟩⟩:aI)=c:=by
    obtain ⟨n,n2,f,tg,l⟩:=c;simp at ht;subst ht;simp
   rw [this,← hd];rfl,by rcases hl with rfl | rfl<;>decide⟩
 |s::ss,c,d,last,hd,ht,hl,hg=>by
  obtain ⟨g1,g2⟩:=hg s (.head _);have hn:((s.slot.toNat:Nat):Int)=s.slot:=by omega
  have hr:lF .form d last [fq s.slot.toNat,bI s.word]=some { d with en:=i++[⟨c.lem,c.cls,c.feats,⟨.any,c.forms.l++[s]⟩⟩] }:=by
   simp only [lF];rw [if_pos hl];simp only [(J5 (n:=s.slot.toNat) (by omega)).2.2,(rm g2).2.2,hd,vd,hn]
  have hne:last≠[]:=by rcases hl with rfl | rfl<;>decide
  have hs:r7 (d,last,3) (J9 s)=some ({ d with en:=i++[⟨c.lem,c.cls,c.feats,⟨.any,c.forms.l++[s]⟩⟩] },um,3):=
   AG (k:=.form) (L5 (hg s (.head _))) ⟨by simp [K.least],.inr rfl⟩ ⟨Hn hne (by decide),Nat.le_refl _⟩ hr
  obtain ⟨last',e1,e2⟩:=Hq i ss ⟨c.lem,c.cls,c.feats,⟨.any,c.forms.l++[s]⟩⟩ { d with en:=i++[⟨c.lem,c.cls,c.feats,⟨.any,c.forms.l++[s]⟩⟩] } um rfl rfl (.inr rfl) (fun x hx=>hg x (.tail _ hx));refine ⟨last', ?_,e2⟩;rw [List.map_cons,ku,hs];simpa [List.append_assoc] using e1
theorem CU:∀ (cs:List aI) (d:Rd) (st:StR),(∀ x∈cs,kx x.lem∧kx x.cls∧FsG x.feats.l∧∀ f∈x.forms.l,(0≤f.slot∧f.slot<24)∧okD f.word)→AtR d 3 st→∃ st',ku (cs.flatMap AI) st=some st'∧AtR { d with en:=d.en++cs.map enB } 3 st'
 |[],d,st,_,h=>⟨st,rfl,by simpa using h⟩
 |c::cs,d,(d0,last,rank),hg,⟨h1,h2,h3⟩=>by
  obtain rfl:d0=d:=h1;obtain ⟨g1,g2,g3,g4⟩:=hg c (.head _)
  have hr:lF .entry d0 last ([c.lem,c.cls]++c.feats.l.map fe1)=some { d0 with en:=d0.en++[⟨c.lem,c.cls,⟨.any,c.feats.l⟩,⟨.any,[]⟩⟩] }:=by
   simp only [List.cons_append,List.nil_append,lF,g3.ok]
  have hs:r7 (d0,last,rank) (Ka c)=some ({ d0 with en:=d0.en++[⟨c.lem,c.cls,⟨.any,c.feats.l⟩,⟨.any,[]⟩⟩] },mY,3):=
   AG (k:=.entry) (I0 g1 g2 g3) ⟨by simp [K.least],.inl rfl⟩ ⟨Hn h2 (by decide),h3⟩ hr
  obtain ⟨last2,e1,e2⟩:=Hq d0.en c.forms.l ⟨c.lem,c.cls,⟨.any,c.feats.l⟩,⟨.any,[]⟩⟩ { d0 with en:=d0.en++[⟨c.lem,c.cls,⟨.any,c.feats.l⟩,⟨.any,[]⟩⟩] } mY rfl rfl (.inl rfl) g4;obtain ⟨st',f1,f2⟩:=CU cs { d0 with en:=d0.en++[enB c] } ({ d0 with en:=d0.en++[enB c] },last2,3) (fun x hx=>hg x (.tail _ hx)) ⟨rfl,e2,Nat.le_refl _⟩;refine ⟨st', ?_,by simpa [List.append_assoc] using f2⟩;rw [List.flatMap_cons,AI,List.cons_append,ku,hs]
  simp only;rw [qZ,e1];simpa [enB] using f1
theorem Ef:∀ (ts:List bq) (d:Rd) (st:StR),(∀ x∈ts,x.frm≠[]∧okD x.frm∧okD x.to∧okD x.left∧okD x.right)→AtR d 4 st→∃ st',ku (ts.map E4) st=some st'∧AtR { d with sp:=d.sp++ts } 4 st'
 |[],d,st,_,h=>⟨st,rfl,by simpa using h⟩
 |t::ts,d,(d0,last,rank),hg,⟨h1,h2,h3⟩=>by
  obtain rfl:d0=d:=h1;obtain ⟨g1,g2,g3,g4,g5⟩:=hg t (.head _);have ef:fT t.frm=t.frm:=by unfold fT;rw [if_neg (by simpa using g2.2)]
  have hr:lF .spell d0 last [t.frm,bI t.to,bI t.left,bI t.right]=some { d0 with sp:=d0.sp++[t] }:=by
   simp only [lF,ef,(rm g3).2.2,(rm g4).2.2,(rm g5).2.2]
  have hs:r7 (d0,last,rank) (E4 t)=some ({ d0 with sp:=d0.sp++[t] },uo,4):=
   AG (k:=.spell) (I1 (hg t (.head _))) ⟨by simp [K.least],.inr rfl⟩ ⟨Hn h2 (by decide),h3⟩ hr
  obtain ⟨st',e1,e2⟩:=Ef ts { d0 with sp:=d0.sp++[t] } ({ d0 with sp:=d0.sp++[t] },uo,4) (fun x hx=>hg x (.tail _ hx)) ⟨rfl,Kd .spell,Nat.le_refl _⟩;refine ⟨st',by rw [List.map_cons,ku,hs];exact e1, ?_⟩;simpa [List.append_assoc] using e2
theorem Hr:∀ (ts:List cF) (d:Rd) (st:StR),(∀ x∈ts,kx x.cls∧okD x.glue∧FsG x.feats.l)→AtR d 5 st→∃ st',ku (ts.map Kb) st=some st'∧AtR { d with li:=d.li++ts.map liB } 5 st'
 |[],d,st,_,h=>⟨st,rfl,by simpa using h⟩
 |t::ts,d,(d0,last,rank),hg,⟨h1,h2,h3⟩=>by
  obtain rfl:d0=d:=h1;obtain ⟨g1,g2,g3⟩:=hg t (.head _)
  have hr:lF .link d0 last ([t.cls,bI t.glue]++t.feats.l.map fe1)=some { d0 with li:=d0.li++[liB t] }:=by
   simp only [List.cons_append,List.nil_append,lF,(rm g2).2.2,g3.ok];rfl
  have hs:r7 (d0,last,rank) (Kb t)=some ({ d0 with li:=d0.li++[liB t] },AA,5):=
   AG (k:=.link) (L6 (hg t (.head _))) ⟨by simp [K.least],.inl rfl⟩ ⟨Hn h2 (by decide),h3⟩ hr
  obtain ⟨st',e1,e2⟩:=Hr ts { d0 with li:=d0.li++[liB t] } ({ d0 with li:=d0.li++[liB t] },AA,5) (fun x hx=>hg x (.tail _ hx)) ⟨rfl,Kd .link,Nat.le_refl _⟩;refine ⟨st',by rw [List.map_cons,ku,hs];exact e1, ?_⟩;simpa [List.append_assoc] using e2
def rd0:Rd:=⟨[],[],[],[],[],[]⟩
def Tg(l:Lex):Rd:=⟨l.vowels,l.traits.l.map trB,l.classes.l.map clB,l.entries.l.map enB,l.spells.l,l.links.l.map liB⟩
theorem RD{l:Lex}(h:VOk l):∃ last rank,ku (yv l) (rd0,[],0)=some (Tg l,last,rank)∧last≠[]:=by
 have hr:lF .vow rd0 [] [bI l.vowels]=some { rd0 with vow:=l.vowels }:=by
  simp only [lF,(rm h.vow).2.2]
 have h0:r7 (rd0,[],0) (RC l.vowels)=some ({ rd0 with vow:=l.vowels },G9,0):=
  AG (k:=.vow) (tl:=[bI l.vowels]) (fun x hx=>by rw [List.mem_singleton] at hx;rw [hx];exact h.vow.dash.sp) ⟨by simp [K.least],.inr rfl⟩ ⟨⟨fun _=>rfl,fun _=>rfl⟩,Nat.le_refl _⟩ hr
 obtain ⟨s1,e1,a1⟩:=Ee l.traits.l { rd0 with vow:=l.vowels } ({ rd0 with vow:=l.vowels },G9,0) h.tr ⟨rfl,Kd .vow,Nat.zero_le _⟩;obtain ⟨s2,e2,a2⟩:=CT l.classes.l _ s1 h.cl ⟨a1.1,a1.2.1,by have:=a1.2.2;omega⟩;obtain ⟨s3,e3,a3⟩:=CU l.entries.l _ s2 h.en ⟨a2.1,a2.2.1,by have:=a2.2.2;omega⟩;obtain ⟨s4,e4,a4⟩:=Ef l.spells.l _ s3 h.sp ⟨a3.1,a3.2.1,by have:=a3.2.2;omega⟩;obtain ⟨s5,e5,a5⟩:=Hr l.links.l _ s4 h.li ⟨a4.1,a4.2.1,by have:=a4.2.2;omega⟩
 obtain ⟨d,last,rank⟩:=s5;refine ⟨last,rank, ?_,a5.2.1⟩;rw [yv,ku,h0];simp only;rw [qZ,e1];simp only [Option.bind_some];rw [qZ,e2];simp only [Option.bind_some];rw [qZ,e3];simp only [Option.bind_some];rw [qZ,e4];simp only [Option.bind_some];rw [e5];have e6:d=_:=a5.1;rw [e6];rfl
end
section
attribute [local congr] aw aW cM bt aA bf aM aC ao aq aN aO
variable{E:bc}(M:cE bT E)
deriving instance DecidableEq for K
def Lex.ba(l:Lex):Lex:=⟨l.vowels,⟨.any,l.traits.l.map trB⟩,⟨.any,l.classes.l.map clB⟩,⟨.any,l.entries.l.map enB⟩,⟨.any,l.spells.l⟩,⟨.any,l.links.l.map liB⟩⟩
theorem I2{α β:Type}(f:α→β)(F:Nat→β→Int):∀ (l:List α) (i:Nat),A5 F i (l.map f)=A5 (fun i x=>F i (f x)) i l
 |[],_=>rfl
 |x::l,i=>by rw [List.map_cons,A5,A5,I2 f F l (i+1)]
theorem ux{α β:Type}(m:Int)(f:α→β)(F:Nat→β→Int)(l:List α):kr m F (l.map f)=kr m (fun i x=>F i (f x)) l:=by
 rw [kr,kr,I2,List.length_map]
theorem DK{α β:Type}(f:α→β)(p:β→Bool)(q:α→Bool)(h:∀ x,p (f x)=q x):∀ l:List α,(l.map f).find? p=(l.find? q).map f
 |[]=>rfl
 |x::l=>by
  rw [List.map_cons,List.find?_cons,List.find?_cons,h x];cases q x with
  |true=>rfl
  |false=>exact DK f p q h l
theorem L7{α β:Type}(f:α→β)(p:β→Bool)(q:α→Bool)(h:∀ x,p (f x)=q x)(l:List α):(l.map f).any p=l.any q:=by
 rw [List.any_map];congr 1;funext x;exact h x
theorem DL{α β:Type}(f:α→β)(p:β→Bool)(q:α→Bool)(h:∀ x,p (f x)=q x)(l:List α)(i:Nat):((l.map f).take i).any p=(l.take i).any q:=by
 rw [← List.map_take];exact L7 f p q h _
theorem RE(l:Lex)(s:Str):u5 l.ba s=(u5 l s).map clB:=DK _ _ _ (fun _=>rfl) l.classes.l
theorem Vt(l:Lex)(b:List aJ)(i:Nat)(f:aJ):EJ l.ba b i f=EJ l b i f:=by
 unfold EJ;rw [show l.ba.traits.l.find? (fun t=>t.name == f.name)=(l.traits.l.find? fun t=>t.name == f.name).map trB from DK _ _ _ (fun _=>rfl) l.traits.l];cases l.traits.l.find? fun t=>t.name == f.name<;>rfl
theorem DM(l:Lex)(b:List aJ):jI l.ba b=jI l b:=by
 unfold jI;rw [show EJ l.ba b=EJ l b from funext fun i=>funext fun f=>Vt l b i f]
theorem L8(l:Lex):mW l.ba=mW l:=by
 have h1:qS l.ba=qS l:=by
  unfold qS;rw [show l.ba.traits.l=l.traits.l.map trB from rfl,ux];congr 1;funext i t;unfold GS;rw [show l.ba.traits.l=l.traits.l.map trB from rfl,DL trB _ (fun o=>o.name == t.name) (fun _=>rfl)];rfl
 have h2:uj l.ba=uj l:=by
  unfold uj;rw [show l.ba.classes.l=l.classes.l.map clB from rfl,ux];congr 1;funext i c;unfold GX;rw [show l.ba.classes.l=l.classes.l.map clB from rfl,DL clB _ (fun o=>o.name == c.name) (fun _=>rfl)];rw [show (clB c).slots.l=c.slots.l.map slB from rfl,ux,List.length_map]
  have:(fun (i:Nat) (s:bF)=>GW l.ba (slB s))=fun i s=>GW l s:=by
   funext i s;unfold GW;rw [DM];rfl
  rw [this];rfl
 have h3:yq l.ba=yq l:=by
  unfold yq;rw [show l.ba.entries.l=l.entries.l.map enB from rfl,ux];congr 1;funext i x;unfold BP;rw [show (enB x).cls=x.cls from rfl,RE];cases u5 l x.cls with
  |none=>rfl
  |some c=>
   simp only [Option.map_some];rw [show l.ba.entries.l=l.entries.l.map enB from rfl,DL enB _ (fun o=>o.lem == x.lem&&o.cls == x.cls) (fun _=>rfl),DM];rw [show (clB c).slots.l=c.slots.l.map slB from rfl,L7 slB _ (fun s=>DF x.feats.l s.feats.l) (fun _=>rfl),List.length_map];rfl
 have h4:Ax l.ba=Ax l:=rfl
 have h5:yr l.ba=yr l:=by
  unfold yr;rw [show l.ba.links.l=l.links.l.map liB from rfl,ux];congr 1;funext i x;unfold GY;rw [show (liB x).cls=x.cls from rfl,RE];cases u5 l x.cls with
  |none=>rfl
  |some c=>
   simp only [Option.map_some];rw [DM];rfl
 unfold mW;rw [h1,h2,h3,h4,h5];rfl
theorem xc{α β:Type}(f:α→β)(g:β→Str)(h:α→Str)(e:∀ x,g (f x)=h x):∀ l:List α,gl g (l.map f)=gl h l
 |[]=>rfl
 |x::l=>by rw [List.map_cons,gl,gl,e x,xc f g h e l]
theorem Ob(l:Lex):mw l.ba=mw l:=by
 unfold mw
 have h2:∀ c,nH (clB c)=nH c:=fun c=>by
  unfold nH;rw [show (clB c).slots.l=c.slots.l.map slB from rfl,xc slB CM CM (fun _=>rfl)];rfl
 rw [show l.ba.traits.l=l.traits.l.map trB from rfl,show l.ba.classes.l=l.classes.l.map clB from rfl,show l.ba.entries.l=l.entries.l.map enB from rfl,show l.ba.links.l=l.links.l.map liB from rfl];rw [xc trB uq uq (fun _=>rfl),xc clB nH nH h2,xc enB qV qV (fun _=>rfl),xc liB AB AB (fun _=>rfl)];rfl
abbrev BB:Nat:=100000
def FsK(fs:Sl aJ):Prop:=fs.tag = .any∧fs.l.length≤BB∧∀ f∈fs.l,f.name.length≤BB∧f.value.length≤BB
def TrK(t:aV):Prop:=t.name.length≤BB∧(t.values.tag = .any∨t.values.tag = .nil)∧t.values.l.length≤BB∧∀ v∈t.values.l,v.length≤BB
def SlK(s:bF):Prop:=(0≤s.cut∧s.cut≤999)∧s.pre.length≤BB∧s.add.length≤BB∧FsK s.feats
def ClK(c:aL):Prop:=c.name.length≤BB∧c.slots.tag = .any∧∀ s∈c.slots.l,SlK s
def IrK(f:bp):Prop:=(0≤f.slot∧f.slot≤999)∧f.word.length≤BB
def EnK(x:aI):Prop:=x.lem.length≤BB∧x.cls.length≤BB∧FsK x.feats∧x.forms.tag = .any∧∀ f∈x.forms.l,IrK f
def SpK(x:bq):Prop:=x.frm.length≤BB∧x.to.length≤BB∧x.left.length≤BB∧x.right.length≤BB
def LiK(x:cF):Prop:=x.cls.length≤BB∧x.glue.length≤BB∧FsK x.feats
def DOk(d:Rd):Prop:=d.vow.length≤BB∧(∀ t∈d.tr,TrK t)∧(∀ c∈d.cl,ClK c)∧(∀ x∈d.en,EnK x)∧(∀ x∈d.sp,SpK x)∧∀ x∈d.li,LiK x
theorem kq{α:Type}{p:α→Prop}{l:List α}{x:α}(h:∀ y∈l,p y)(hx:p x):∀ y∈l++[x],p y:=fun y hy=>by
 rcases List.mem_append.1 hy with hy | hy
 ·exact h y hy
 ·rw [List.mem_singleton] at hy;exact hy ▸ hx
theorem Th(s:Str):(fT s).length≤s.length:=by
 unfold fT;split<;>simp
theorem RF{s:Str}{n:Nat}(h:zb s=some n):n≤999:=by
 unfold zb at h;cases hv:Lib.atoiAll s with
 |ok v=>
  rw [hv] at h;simp only at h;split at h
  ·cases h;omega
  ·cases h
 |_=>rw [hv] at h;cases h
theorem E5:∀ {ws:List Str}{fs:List aJ},ir ws=some fs→fs.length=ws.length∧((∀ w∈ws,w.length≤BB)→∀ f∈fs,f.name.length≤BB∧f.value.length≤BB)
 |[],fs,h=>by cases h;exact ⟨rfl,fun _ f hf=>by cases hf⟩
 |s::l,fs,h=>by
  rw [ir] at h;split at h
  ·cases hq:ir l with
   |none=>rw [hq] at h;cases h
   |some gs=>
    rw [hq] at h;cases h;obtain ⟨h1,h2⟩:=E5 hq;refine ⟨by simp [h1],fun hw f hf => ?_⟩;rcases List.mem_cons.1 hf with rfl | hf
    ·have:=hw s (.head _)
     have e1:(BT 61 s).length≤s.length:=by unfold BT;rw [List.length_take];omega
     have e2:(BU 61 s).length≤s.length:=by unfold BU;rw [List.length_drop];omega
     exact ⟨by show (BT 61 s).length≤BB;omega,by show (BU 61 s).length≤BB;omega⟩
    ·exact h2 (fun w hw'=>hw w (.tail _ hw')) f hf
  ·cases h
theorem oH{k k':K}(h:k.key=k'.key):k=k':=by
 have:=J6 k;rw [h,J6 k'] at this;injection this with this;exact this.symm
theorem yw{d:Rd}{k:K}(h1:k≠.cla)(h2:k≠.slot)(h3:k≠.entry)(h4:k≠.form):IU d k.key:=
 ⟨fun h=>by
  rcases h with h | h
  ·exact absurd (oH (k':=.cla) h) h1
  ·exact absurd (oH (k':=.slot) h) h2,fun h=>by
  rcases h with h | h
  ·exact absurd (oH (k':=.entry) h) h3
  ·exact absurd (oH (k':=.form) h) h4⟩
theorem L9{m m':Nat}{d:Rd}(h:J3 m d)(hm:m≤m'):J3 m' d:=by
 obtain ⟨z1,z2,z3,z4,z5,z6,z7⟩:=h;exact ⟨by omega,by omega,by omega,by omega,by omega,fun c hc=>Nat.le_trans (z6 c hc) hm,fun c hc=>Nat.le_trans (z7 c hc) hm⟩
theorem Ti{k:K}{d d':Rd}{last:Str}{ws:List Str}{m:Nat}(h:lF k d last ws=some d')(hJ:IU d last)(hZ:J3 m d)(hD:DOk d)(hl:ws.length≤BB)(hw:∀ w∈ws,w.length≤BB):J3 (m+1) d'∧DOk d'∧IU d' k.key:=by
 have hZ1:=L9 hZ (Nat.le_succ m);obtain ⟨z1,z2,z3,z4,z5,z6,z7⟩:=hZ;obtain ⟨y1,y2,y3,y4,y5,y6,y7⟩:=hZ1;obtain ⟨d1,d2,d3,d4,d5,d6⟩:=hD;have txb:∀ w∈ws,(fT w).length≤BB:=fun w hww=>Nat.le_trans (Th w) (hw w hww)
 unfold lF at h;split at h
 ·cases h
  exact ⟨⟨y1,y2,y3,y4,y5,y6,y7⟩,⟨txb _ (.head _),d2,d3,d4,d5,d6⟩,yw (k:=.vow) (by decide) (by decide) (by decide) (by decide)⟩
 ·rename_i a r
  cases h;refine ⟨⟨by simp;omega,y2,y3,y4,y5,y6,y7⟩,⟨d1,kq d2 ⟨hw _ (.head _),.inl rfl, ?_,fun v hv=>hw v (.tail _ hv)⟩,d3,d4,d5,d6⟩,yw (k:=.trait) (by decide) (by decide) (by decide) (by decide)⟩;show r.length≤BB;simp only [List.length_cons] at hl;omega
 ·cases h
  refine ⟨⟨y1,by simp;omega,y3,y4,y5,kq y6 (by simp),y7⟩,⟨d1,d2,kq d3 ⟨hw _ (.head _),rfl,fun s hs=>by cases hs⟩,d4,d5,d6⟩,⟨fun _=>by simp,fun h => ?_⟩⟩;rcases h with h | h
  ·exact absurd (oH (k:=.cla) (k':=.entry) h) (by decide)
  ·exact absurd (oH (k:=.cla) (k':=.form) h) (by decide)
 ·rename_i a b c r
  split at h
  ·rename_i hk
   split at h
   ·rename_i n fs hn hf
    cases h;obtain ⟨i,x,hi⟩:=E2 (hJ.1 hk);obtain ⟨f1,f2⟩:=E5 hf;have hx:x∈d.cl:=by rw [hi];simp
    have hii:∀ y∈i,y∈d.cl:=fun y hy=>by rw [hi];simp [hy]
    have hn9:=RF hn;simp only [hi,vc];rw [hi,List.length_append,List.length_singleton] at z2;refine ⟨⟨y1,by simp;omega,y3,y4,y5,kq (fun y hy=>y6 y (hii y hy)) (by have:=z6 x hx;simp;omega),y7⟩,⟨d1,d2,kq (fun y hy=>d3 y (hii y hy)) ⟨(d3 x hx).1,rfl,kq (d3 x hx).2.2 ⟨⟨Int.natCast_nonneg n,by show (n:Int)≤999;omega⟩,txb _ (.tail _ (.head _)),txb _ (.tail _ (.tail _ (.head _))),rfl, ?_,f2 fun w hww=>hw w (.tail _ (.tail _ (.tail _ hww)))⟩⟩,d4,d5,d6⟩,⟨fun _=>by simp,fun h => ?_⟩⟩
    ·show fs.length≤BB
     simp only [List.length_cons] at hl;omega
    ·rcases h with h | h
     ·exact absurd (oH (k:=.slot) (k':=.entry) h) (by decide)
     ·exact absurd (oH (k:=.slot) (k':=.form) h) (by decide)
   ·cases h
  ·cases h
 ·rename_i a b r
  split at h
  ·rename_i fs hf
   cases h;obtain ⟨f1,f2⟩:=E5 hf;refine ⟨⟨y1,y2,by simp;omega,y4,y5,y6,kq y7 (by simp)⟩,⟨d1,d2,d3,kq d4 ⟨hw _ (.head _),hw _ (.tail _ (.head _)),⟨rfl, ?_,f2 fun w hww=>hw w (.tail _ (.tail _ hww))⟩,rfl,fun f hf=>by cases hf⟩,d5,d6⟩,⟨fun h => ?_,fun _=>by simp⟩⟩
   ·show fs.length≤BB
    simp only [List.length_cons] at hl;omega
   ·rcases h with h | h
    ·exact absurd (oH (k:=.entry) (k':=.cla) h) (by decide)
    ·exact absurd (oH (k:=.entry) (k':=.slot) h) (by decide)
  ·cases h
 ·rename_i a b r
  split at h
  ·rename_i hk
   split at h
   ·rename_i n hn
    cases h;obtain ⟨i,x,hi⟩:=E2 (hJ.2 hk);have hx:x∈d.en:=by rw [hi];simp
    have hii:∀ y∈i,y∈d.en:=fun y hy=>by rw [hi];simp [hy]
    have hn9:=RF hn;simp only [hi,vd];rw [hi,List.length_append,List.length_singleton] at z3;refine ⟨⟨y1,y2,by simp;omega,y4,y5,y6,kq (fun y hy=>y7 y (hii y hy)) (by have:=z7 x hx;simp;omega)⟩,⟨d1,d2,d3,kq (fun y hy=>d4 y (hii y hy)) ⟨(d4 x hx).1,(d4 x hx).2.1,(d4 x hx).2.2.1,rfl,kq (d4 x hx).2.2.2.2 ⟨⟨Int.natCast_nonneg n,by show (n:Int)≤999;omega⟩,txb _ (.tail _ (.head _))⟩⟩,d5,d6⟩,⟨fun h => ?_,fun _=>by simp⟩⟩
    rcases h with h | h
    ·exact absurd (oH (k:=.form) (k':=.cla) h) (by decide)
    ·exact absurd (oH (k:=.form) (k':=.slot) h) (by decide)
   ·cases h
  ·cases h
 ·cases h
  refine ⟨⟨y1,y2,y3,by simp;omega,y5,y6,y7⟩,⟨d1,d2,d3,d4,kq d5 ⟨txb _ (.head _),txb _ (.tail _ (.head _)),txb _ (.tail _ (.tail _ (.head _))),txb _ (.tail _ (.tail _ (.tail _ (.head _))))⟩,d6⟩,yw (k:=.spell) (by decide) (by decide) (by decide) (by decide)⟩
 ·rename_i a b r
  split at h
  ·rename_i fs hf
   cases h;obtain ⟨f1,f2⟩:=E5 hf;refine ⟨⟨y1,y2,y3,y4,by simp;omega,y6,y7⟩,⟨d1,d2,d3,d4,d5,kq d6 ⟨hw _ (.head _),txb _ (.tail _ (.head _)),rfl, ?_,f2 fun w hww=>hw w (.tail _ (.tail _ hww))⟩⟩,yw (k:=.link) (by decide) (by decide) (by decide) (by decide)⟩;show fs.length≤BB;simp only [List.length_cons] at hl;omega
  ·cases h
 ·cases h
end
section
attribute [local congr] aw aW cM bt aA bf aM aC ao aq aN aO
variable{E:bc}(M:cE bT E)
def pT(t:Tag):Prop:=t = .any∨t = .nil
theorem pT.fzd{t:Tag}(h:pT t):t.fzd=t:=by rcases h with rfl | rfl<;>rfl
theorem pT.lt{t:Tag}(h:pT t):Iv 0 t:=by rcases h with rfl | rfl<;>trivial
theorem Ma{α β:Type}{f:α→Option β}{b:List α}{b':List β}(hb:da f b=some b'):∀ {a:List α}{a':List β},da f a=some a'→da f (a++b)=some (a'++b')
 |[],a',h=>by cases h;exact hb
 |x::a,a',h=>by
  simp only [da] at h;cases hy:f x with
  |none=>rw [hy] at h;cases h
  |some y=>
   cases hl:da f a with
   |none=>rw [hy,hl] at h;cases h
   |some l=>
    rw [hy,hl] at h;cases h;exact aQ hy (Ma hb hl)
section
variable{k n:Nat}{H:List AObj}
theorem WH(w:Str):da (fzF (k+1) n H) (aE w)=some (aE w):=aQ (iD _ _ _ _) (gb _)
theorem Wf(t:Tag)(ws:List Str):fzF (k+2) n H (.slice t 1 (ws.map aE))=some (.slice t.fzd 1 (ws.map aE)):=Cy (gQ fun w _=>WH w)
theorem Wg(f:aJ):da (fzF (k+1) n H) f.row=some f.row:=aQ (iD _ _ _ _) (aQ (iD _ _ _ _) (gb _))
theorem Wh(t:Tag)(fs:List aJ):fzF (k+2) n H (.slice t 2 (fs.map aJ.row))=some (.slice t.fzd 2 (fs.map aJ.row)):=Cy (gQ fun w _=>Wg w)
theorem Ke{fs:Sl aJ}(h:fs.tag = .any):fzF (k+2) n H (.slice fs.tag 2 (fs.l.map aJ.row))=some (.slice fs.tag 2 (fs.l.map aJ.row)):=by rw [Wh,h];rfl
theorem T7{t:aV}(h:pT t.values.tag):da (fzF (k+3) n H) t.row=some t.row:=by
 refine aQ (iD _ _ _ _) (aQ ?_ (gb _));rw [Wf,h.fzd]
theorem T8{s:bF}(h:s.feats.tag = .any):da (fzF (k+3) n H) s.row=some s.row:=
 aQ (Gb _ _ _ _ _) (aQ (iD _ _ _ _) (aQ (iD _ _ _ _) (aQ (Ke h) (gb _))))
theorem T9(f:bp):da (fzF (k+1) n H) f.row=some f.row:=aQ (Gb _ _ _ _ _) (aQ (iD _ _ _ _) (gb _))
theorem Ua(x:bq):da (fzF (k+1) n H) x.row=some x.row:=aQ (iD _ _ _ _) (aQ (iD _ _ _ _) (aQ (iD _ _ _ _) (aQ (iD _ _ _ _) (gb _))))
theorem Ub{x:cF}(h:x.feats.tag = .any):da (fzF (k+3) n H) x.row=some x.row:=aQ (iD _ _ _ _) (aQ (iD _ _ _ _) (aQ (Ke h) (gb _)))
theorem RG{N n' sz:Nat}{v:AV}{rows:List (List AV)}(h:Nf N n' sz v rows)(hr:da (da (fzF k n H)) rows=some rows):∃ t,pT t∧fzF (k+1) n H v=some (.slice t sz rows):=by
 rcases h with ⟨rfl,rfl⟩ | ⟨t,_,_,rfl⟩
 ·exact ⟨.nil,.inr rfl,Cy hr⟩
 ·exact ⟨.any,.inl rfl,Cy hr⟩
theorem Nm{N sz:Nat}{e:TypeId}{G:List AObj}{v:AV}{rows:List (List AV)}(h:sV N e sz G v rows)(hr:da (da (fzF k n H)) rows=some rows):∃ t,pT t∧fzF (k+1) n H v=some (.slice t sz rows):=RG h.own hr
theorem Uc{α:Type}{g:Gro α}{N n':Nat}{row:α→List AV}{er:α→α}{P:α→Prop}(hm:∀ (x:α) (t:Tag),P x→pT t→∃ y,row y=g.pre x++[.slice t g.m (g.rows x)]∧er y=er x∧P y)
  (hp:∀ x,P x→da (fzF (k+1) n H) (g.pre x)=some (g.pre x)) (hr:∀ x,P x→da (da (fzF k n H)) (g.rows x)=some (g.rows x)) :
  ∀ {cells:List AV}{xs:List α},GP g N n' cells xs→(∀ x∈xs,P x)→∃ ys:List α,da (da (fzF (k+1) n H)) (fI g.w xs.length cells)=some (ys.map row)∧ys.map er=xs.map er∧∀ y∈ys,P y
 |_,[],_,_=>⟨[],rfl,rfl,fun y hy=>by cases hy⟩
 |cells,x::xs,⟨v,rest,h1,h2,h3⟩,hP=>by
  have hx:=hP x (.head _);obtain ⟨ys,e1,e2,e3⟩:=Uc hm hp hr h3 fun y hy=>hP y (.tail _ hy)
  obtain ⟨t,ht,hv⟩:=RG h2 (hr x hx);obtain ⟨y,y1,y2,y3⟩:=hm x t hx ht;have hw:=g.hw x
  have e4:cells.take g.w=g.pre x++[v]:=by
   rw [h1,show g.pre x++v::rest=(g.pre x++[v])++rest by simp];exact List.take_left' (by rw [List.length_append];exact hw)
  have e5:cells.drop g.w=rest:=by
   rw [h1,show g.pre x++v::rest=(g.pre x++[v])++rest by simp];exact List.drop_left' (by rw [List.length_append];exact hw)
  refine ⟨y::ys, ?_,by rw [List.map_cons,List.map_cons,e2,y2],fun z hz => ?_⟩
  ·rw [List.length_cons,fI,e4,e5,List.map_cons,y1]
   exact aQ (Ma (aQ hv (gb _)) (hp x hx)) e1
  ·rcases List.mem_cons.1 hz with rfl | hz
   ·exact y3
   ·exact e3 z hz
theorem Ud{α:Type}{g:Gro α}{N:Nat}{row:α→List AV}{er:α→α}{P:α→Prop}(hm:∀ (x:α) (t:Tag),P x→pT t→∃ y,row y=g.pre x++[.slice t g.m (g.rows x)]∧er y=er x∧P y)
  (hp:∀ x,P x→da (fzF (k+1) n H) (g.pre x)=some (g.pre x)) (hr:∀ x,P x→da (da (fzF k n H)) (g.rows x)=some (g.rows x)) (hn:n≤N) {cv:AV}{xs:List α} (h:GrV g N H cv xs) (hP:∀ x∈xs,P x) :
  ∃ (t:Tag) (ys:List α),pT t∧fzF (k+2) n H cv=some (.slice t g.w (ys.map row))∧ys.map er=xs.map er∧∀ y∈ys,P y:=by
 rcases h with ⟨rfl,rfl⟩ | ⟨id,pc,i,x,v,rfl,h2,rfl,h4,h5,h6⟩
 ·exact ⟨.nil,[],.inr rfl,rfl,rfl,fun y hy=>by cases hy⟩
 ·have hg:=h5.app h6.own
  obtain ⟨ys,e1,e2,e3⟩:=Uc hm hp hr hg hP;refine ⟨.any,ys,.inl rfl, ?_,e2,e3⟩;exact Iz (by omega) h4 (by rw [hg.len];omega) (by rw [List.drop_zero];exact e1)
end
structure PlL (l:Lex):Prop where
 tags:pT l.traits.tag∧pT l.classes.tag∧pT l.entries.tag∧pT l.spells.tag∧pT l.links.tag
 tr:∀ t∈l.traits.l,TrK t
 cl:∀ c∈l.classes.l,c.name.length≤BB∧pT c.slots.tag∧c.slots.l.length≤1000000∧∀ s∈c.slots.l,SlK s
 en:∀ x∈l.entries.l,x.lem.length≤BB∧x.cls.length≤BB∧FsK x.feats∧pT x.forms.tag∧x.forms.l.length≤1000000∧∀ f∈x.forms.l,IrK f
 sp:∀ x∈l.spells.l,SpK x
 li:∀ x∈l.links.l,LiK x
 lens:l.vowels.length≤BB∧l.traits.l.length≤1000000∧l.classes.l.length≤1000000∧l.entries.l.length≤1000000∧l.spells.l.length≤1000000∧l.links.l.length≤1000000
theorem bbL{n:Nat}(h:n≤BB):n≤bY:=by have e:BB=100000:=rfl;rw [e] at h;simp only [bY];omega
theorem mlL{n:Nat}(h:n≤1000000):n≤bY:=by simp only [bY];omega
theorem FsK.ok{fs:Sl aJ}(h:FsK fs):fs.ok 0 (aJ.ok 0):=⟨by rw [h.1];trivial,by have:=h.2.1;first | exact bbL (by assumption) | exact mlL (by assumption),fun f hf=>⟨by have:=(h.2.2 f hf).1;first | exact bbL (by assumption) | exact mlL (by assumption),by have:=(h.2.2 f hf).2;first | exact bbL (by assumption) | exact mlL (by assumption)⟩⟩
theorem RH{n:Int}(h:0≤n∧n≤999):I64 n:=by unfold I64;omega
theorem PlL.ok{l:Lex}(h:PlL l):l.ok 0:=by
 obtain ⟨l0,l1,l2,l3,l4,l5⟩:=h.lens;obtain ⟨t1,t2,t3,t4,t5⟩:=h.tags;refine ⟨by first | exact bbL (by assumption) | exact mlL (by assumption),⟨t1.lt,by first | exact bbL (by assumption) | exact mlL (by assumption),fun t ht => ?_⟩,⟨t2.lt,by first | exact bbL (by assumption) | exact mlL (by assumption),fun c hc => ?_⟩,⟨t3.lt,by first | exact bbL (by assumption) | exact mlL (by assumption),fun x hx => ?_⟩,⟨t4.lt,by first | exact bbL (by assumption) | exact mlL (by assumption),fun x hx => ?_⟩,⟨t5.lt,by first | exact bbL (by assumption) | exact mlL (by assumption),fun x hx => ?_⟩⟩
 ·obtain ⟨a1,a2,a3,a4⟩:=h.tr t ht
  exact ⟨by first | exact bbL (by assumption) | exact mlL (by assumption),⟨(show pT t.values.tag from a2).lt,by first | exact bbL (by assumption) | exact mlL (by assumption),fun v hv=>by have:=a4 v hv;first | exact bbL (by assumption) | exact mlL (by assumption)⟩⟩
 ·obtain ⟨a1,a2,a3,a4⟩:=h.cl c hc
  exact ⟨by first | exact bbL (by assumption) | exact mlL (by assumption),⟨a2.lt,by first | exact bbL (by assumption) | exact mlL (by assumption),fun s hs=>by
   obtain ⟨b1,b2,b3,b4⟩:=a4 s hs;exact ⟨RH b1,by first | exact bbL (by assumption) | exact mlL (by assumption),by first | exact bbL (by assumption) | exact mlL (by assumption),b4.ok⟩⟩⟩
 ·obtain ⟨a1,a2,a3,a4,a5,a6⟩:=h.en x hx
  exact ⟨by first | exact bbL (by assumption) | exact mlL (by assumption),by first | exact bbL (by assumption) | exact mlL (by assumption),a3.ok,⟨a4.lt,by first | exact bbL (by assumption) | exact mlL (by assumption),fun f hf=>by
   obtain ⟨b1,b2⟩:=a6 f hf;exact ⟨RH b1,by first | exact bbL (by assumption) | exact mlL (by assumption)⟩⟩⟩
 ·obtain ⟨a1,a2,a3,a4⟩:=h.sp x hx
  exact ⟨by first | exact bbL (by assumption) | exact mlL (by assumption),by first | exact bbL (by assumption) | exact mlL (by assumption),by first | exact bbL (by assumption) | exact mlL (by assumption),by first | exact bbL (by assumption) | exact mlL (by assumption)⟩
 ·obtain ⟨a1,a2,a3⟩:=h.li x hx
  exact ⟨by first | exact bbL (by assumption) | exact mlL (by assumption),by first | exact bbL (by assumption) | exact mlL (by assumption),a3.ok⟩
theorem PlL.fz{l:Lex}(h:PlL l)(n:Nat)(H:List AObj):da (fzF 7 n H) l.row=some l.row:=by
 obtain ⟨t1,t2,t3,t4,t5⟩:=h.tags;have sl:∀ {k:Nat}{t:Tag}{sz:Nat}{rows:List (List AV)},pT t→da (da (fzF k n H)) rows=some rows→fzF (k+1) n H (.slice t sz rows)=some (.slice t sz rows):=fun ht hr=>by rw [Cy hr,ht.fzd]
 refine aQ (iD _ _ _ _) (aQ (sl t1 (gQ fun t ht=>T7 (h.tr t ht).2.1)) (aQ (sl t2 (gQ fun c hc => ?_)) (aQ (sl t3 (gQ fun x hx => ?_)) (aQ (sl t4 (gQ fun x _=>Ua x)) (aQ (sl t5 (gQ fun x hx=>Ub (h.li x hx).2.2.1)) (gb _))))))
 ·obtain ⟨a1,a2,a3,a4⟩:=h.cl c hc
  exact aQ (iD _ _ _ _) (aQ (sl a2 (gQ fun s hs=>T8 (a4 s hs).2.2.2.1)) (gb _))
 ·obtain ⟨a1,a2,a3,a4,a5,a6⟩:=h.en x hx
  exact aQ (iD _ _ _ _) (aQ (iD _ _ _ _) (aQ (Ke a3.1) (aQ (sl a4 (gQ fun f _=>T9 f)) (gb _))))
def baR(d:Rd):Lex:=⟨d.vow,⟨.any,d.tr.map trB⟩,⟨.any,d.cl.map clB⟩,⟨.any,d.en.map enB⟩,⟨.any,d.sp⟩,⟨.any,d.li.map liB⟩⟩
theorem RI(l:Lex):baR (Tg l)=l.ba:=by
 have h1:∀ c,clB (clB c)=clB c:=fun c=>by simp only [clB,List.map_map];rfl
 have hm:∀ {α:Type} (f:α→α) (hf:∀ x,f (f x)=f x) (l:List α),(l.map f).map f=l.map f:=fun f hf l=>by rw [List.map_map];congr 1;funext x;exact hf x
 simp only [baR,Tg,Lex.ba];rw [hm trB (fun _=>rfl),hm clB h1,hm enB (fun _=>rfl),hm liB (fun _=>rfl)]
theorem Wi{N r:Nat}{G:List AObj}{d:Rd}{last:Str}{rank:Int}(h:RdV N r G d last rank)(hr:r≤N){m:Nat}(hZ:J3 m d)(hm:m≤1000000)(hD:DOk d) :
  ∃ l:Lex,PlL l∧l.ba=baR d∧fzF 8 r G (.ptr r 0)=some (.vptr 8 [l.row++[.str last,.int .i64 rank]] 0 0):=by
 obtain ⟨tv,cv,ev,sv,kv,hg,p1,p2,p3,p4,p5⟩:=h;obtain ⟨d1,d2,d3,d4,d5,d6⟩:=hD;obtain ⟨z1,z2,z3,z4,z5,z6,z7⟩:=hZ;obtain ⟨t1,q1,f1⟩:=Nm (k:=6) (n:=r) (H:=G) p1 (gQ fun t ht=>T7 (d2 t ht).2.1);obtain ⟨t4,q4,f4⟩:=Nm (k:=6) (n:=r) (H:=G) p4 (gQ fun t ht=>Ua t);obtain ⟨t5,q5,f5⟩:=Nm (k:=6) (n:=r) (H:=G) p5 (gQ fun t ht=>Ub (d6 t ht).2.2.1)
 obtain ⟨t2,cs,q2,f2,e2,g2⟩:=Ud (k:=5) (n:=r) (H:=G) (g:=clG) (row:=aL.row) (er:=clB) (P:=fun c=>c.name.length≤BB∧pT c.slots.tag∧c.slots.l.length≤1000000∧∀ s∈c.slots.l,SlK s)
  (fun x t hx ht=>⟨⟨x.name,⟨t,x.slots.l⟩⟩,rfl,rfl,hx.1,ht,hx.2.2⟩) (fun x hx=>aQ (iD _ _ _ _) (gb _)) (fun x hx=>gQ fun s hs=>T8 (hx.2.2.2 s hs).2.2.2.1) hr p2
  (fun c hc=>⟨(d3 c hc).1,by rw [(d3 c hc).2.1];exact .inl rfl,by have:=z6 c hc;omega,(d3 c hc).2.2⟩)
 obtain ⟨t3,es,q3,f3,e3,g3⟩:=Ud (k:=5) (n:=r) (H:=G) (g:=enG) (row:=aI.row) (er:=enB) (P:=fun x=>x.lem.length≤BB∧x.cls.length≤BB∧FsK x.feats∧pT x.forms.tag∧x.forms.l.length≤1000000∧∀ f∈x.forms.l,IrK f)
  (fun x t hx ht=>⟨⟨x.lem,x.cls,x.feats,⟨t,x.forms.l⟩⟩,rfl,rfl,hx.1,hx.2.1,hx.2.2.1,ht,hx.2.2.2.2⟩) (fun x hx=>aQ (iD _ _ _ _) (aQ (iD _ _ _ _) (aQ (Ke hx.2.2.1.1) (gb _)))) (fun x hx=>gQ fun f _=>T9 f) hr p3
  (fun c hc=>⟨(d4 c hc).1,(d4 c hc).2.1,(d4 c hc).2.2.1,by rw [(d4 c hc).2.2.2.1];exact .inl rfl,by have:=z7 c hc;omega,(d4 c hc).2.2.2.2⟩)
 have lc:cs.length=d.cl.length:=by have:=congrArg List.length e2;simpa using this
 have le:es.length=d.en.length:=by have:=congrArg List.length e3;simpa using this
 refine ⟨⟨d.vow,⟨t1,d.tr⟩,⟨t2,cs⟩,⟨t3,es⟩,⟨t4,d.sp⟩,⟨t5,d.li⟩⟩,⟨⟨q1,q2,q3,q4,q5⟩,d2,g2,g3,d5,d6,d1,by show d.tr.length≤_;omega,by show cs.length≤_;omega,by show es.length≤_;omega,by show d.sp.length≤_;omega,by show d.li.length≤_;omega⟩, ?_, ?_⟩
 ·simp only [Lex.ba,baR,e2,e3]
 ·exact UK (Nat.le_refl _) hg (aQ (iD _ _ _ _) (aQ f1 (aQ f2 (aQ f3 (aQ f4 (aQ f5 (aQ (iD _ _ _ _) (aQ (Gb _ _ _ _ _) (gb _)))))))))
end
section
attribute [local congr] aw aW cM bt aA bf aM aC ao aq aN aO
variable{E:bc}(M:cE bT E)
theorem RJ{d:Rd}{last:Str}{rank:Nat}{s:Str}{x:StR}(h:Ed d last rank s=some x):Wd last rank s=true∧∃ k ws,mh 32 s=k.key::ws∧lF k d last ws=some x.1∧x.2.1=k.key∧x.2.2=k.rank:=by
 unfold Ed at h;unfold Wd;cases hs:mh 32 s with
 |nil=>rw [hs] at h;cases h
 |cons w ws=>
  rw [hs] at h;simp only at h ⊢;cases hk:kOf w with
  |none=>rw [hk] at h;cases h
  |some k=>
   rw [hk] at h;simp only at h ⊢
   have hw:w=k.key:=by
    have:=List.find?_some hk;exact eq_of_beq this
   split at h
   ·split at h
    ·split at h
     ·rename_i h3
      refine ⟨h3,k,ws,by rw [hw], ?_⟩;cases hr:lF k d last ws with
      |none=>rw [hr] at h;cases h
      |some d'=>
       rw [hr] at h;cases h;exact ⟨rfl,hw,rfl⟩
     ·cases h
    ·cases h
   ·cases h
theorem RK(c:UInt8):((c.toNat:Int) == 59)=(c == 59):=by
 cases h:(c == 59) with
 |true=>
  have:=eq_of_beq h;subst this;rfl
 |false=>
  refine beq_eq_false_iff_ne.2 fun e => ?_
  have:c.toNat=59:=by omega
  have h2:c=59:=UInt8.toNat_inj.1 this;rw [h2] at h;simp at h
theorem pl0(hS:nI E)(hX:kY M)(hP:w8 E)(hD:EL E)(hW:WdE M){N r p:Nat}(hr:r<N){tg:Tag}{ls:List Str}(hls:ls.length≤99999)(hsl:∀ x∈ls,x.length≤99999)(H0:List AObj):∀ (n i:Nat) (d:Rd) (last:Str) (rank:Nat) (G:List AObj) (st':StR),i+n=ls.length→RdV N r G d last rank→N≤G.length→IU d last→J3 i d→DOk d→ku (ls.drop i) (d,last,rank)=some st' →
  ∃ G',RdV N r G' st'.1 st'.2.1 st'.2.2∧LoR N r G G'∧J3 ls.length st'.1∧DOk st'.1∧∀ (k:List Fra) (He:List AObj),M.go nS H0 (.c gL :: .lp ⟨(some [2,6,28,29,30]),[],false⟩ gL He :: .blk 0 :: .c (.lv [2,6])::k) (kv [(2,.ptr p 0),(6,.ptr r 0),(28,.slice tg 1 (ls.map aE)),(29,.int .i64 ls.length),(30,.int .i64 i)]) G=M.go nS H0 k (kv [(2,.ptr p 0),(6,.ptr r 0)]) G'
 |0,i,d,last,rank,G,st',h,hv,hN,hJ,hZ,hK,hf=>by
  have e:i=ls.length:=by omega
  subst e;rw [List.drop_length,ku] at hf;cases hf;refine ⟨G,hv,.refl _ _ _,hZ,hK,fun k He => ?_⟩;rw [au M gL.eq_1];simp (maxSteps:=3000000) (maxDischargeDepth:=6) +contextual -implicitDefEqProofs only [amC M,↓amD,Nat.reduceBEq,Nat.reduceAdd,env,ag,nT,Nat.lt_irrefl]
 |n+1,i,d,last,rank,G,st',h,hv,hN,hJ,hZ,hK,hf=>by
  have hi:i<ls.length:=by omega
  have hx:ls[i]?=some ls[i]:=List.getElem?_eq_getElem hi;have hd:ls.drop i=ls[i]::ls.drop (i+1):=List.drop_eq_getElem_cons hi;have hxl:=hsl _ (List.getElem_mem hi);have hil:=bG (row:=aE) (tag:=tg) (sz:=1) (k:=.i64) hi;have hwr:=cY hi (show ls.length≤bY by simp only [bY];omega);rw [hd,ku] at hf
  by_cases hsk:IY ls[i]=true
  ·have hst:r7 (d,last,rank) ls[i]=some (d,last,rank):=by unfold r7;rw [if_pos hsk]
   rw [hst] at hf;obtain ⟨G',a1,a2,a3,a4,a5⟩:=pl0 hS hX hP hD hW hr (tg:=tg) (p:=p) hls hsl H0 n (i+1) d last rank G st' (by omega) hv hN hJ (L9 hZ (by omega)) hK hf;refine ⟨G',a1,a2,a3,a4,fun k He => ?_⟩;have a5:=a5 k;simp only [kv_cons,kv_nil] at a5;cases hxe:ls[i] with
   |nil=>
    have e0:(([]:Str) == [])=true:=rfl;rw [hxe] at hx;rw [au M gL.eq_1];simp (maxSteps:=3000000) (maxDischargeDepth:=6) +contextual -implicitDefEqProofs only [amC M,↓amD,Nat.reduceBEq,Nat.reduceAdd,env,ag,nT,hi,hx,hil,e0,a5,hwr,gU]
   |cons c t=>
    have e0:((c::t:Str) == [])=false:=rfl;have e1:zP (c::t:Str)[0]?=some (.int .u8 (c.toNat:Int)):=rfl
    have e2:((c.toNat:Int) == 59)=true:=by
     rw [RK];unfold IY at hsk;rw [hxe] at hsk;simpa using hsk
    rw [hxe] at hx;rw [au M gL.eq_1];simp (maxSteps:=3000000) (maxDischargeDepth:=6) +contextual -implicitDefEqProofs only [amC M,↓amD,Nat.reduceBEq,Nat.reduceAdd,env,ag,nT,hi,hx,hil,e0,e1,e2,a5,hwr,gU]
  ·have hst:r7 (d,last,rank) ls[i]=Ed d last rank ls[i]:=by unfold r7;rw [if_neg hsk]
   rw [hst] at hf;cases hq:Ed d last rank ls[i] with
   |none=>rw [hq] at hf;cases hf
   |some x=>
    rw [hq] at hf;obtain ⟨hrk,kk,ws,hsp,hrd,hl1,hl2⟩:=RJ hq;have hne:ls[i]≠[]:=fun e=>hsk (by rw [e];rfl)
    have hrr:=Rx M hS hX hP hD hW hN hr hv hJ hZ (by omega) (s:=ls[i]) (by omega) hne;rw [hq] at hrr;obtain ⟨G1,r1,v1,l1⟩:=hrr;obtain ⟨sb1,sb2⟩:=CR 32 ls[i];rw [hsp] at sb1 sb2;obtain ⟨z1,k1,j1⟩:=Ti hrd hJ hZ hK (by simp at sb1;show ws.length≤100000;omega) (fun w hw=>by have:=sb2 w (.tail _ hw);show w.length≤100000;omega);obtain ⟨d1,last1,rank1⟩:=x;simp only at r1 v1 l1 z1 k1 hl1 hl2 hf;obtain ⟨G',a1,a2,a3,a4,a5⟩:=pl0 hS hX hP hD hW hr (tg:=tg) (p:=p) hls hsl H0 n (i+1) d1 last1 rank1 G1 st' (by omega) v1 (Nat.le_trans hN l1.1) (by rw [hl1];exact j1) z1 k1 hf
    refine ⟨G',a1,l1.trans a2,a3,a4,fun k He => ?_⟩;have a5:=a5 k;simp only [kv_cons,kv_nil] at a5;cases hxe:ls[i] with
    |nil=>exact absurd hxe hne
    |cons c t=>
     have e0:((c::t:Str) == [])=false:=rfl;have e1:zP (c::t:Str)[0]?=some (.int .u8 (c.toNat:Int)):=rfl
     have e2:((c.toNat:Int) == 59)=false:=by
      rw [RK];unfold IY at hsk;rw [hxe] at hsk;simpa using hsk
     rw [hxe] at hx r1;rw [au M gL.eq_1];simp (maxSteps:=3000000) (maxDischargeDepth:=6) +contextual -implicitDefEqProofs only [amC M,↓amD,Nat.reduceBEq,Nat.reduceAdd,env,ag,nT,hi,hx,hil,e0,e1,e2,r1,a5,hwr,gU]
theorem RL{n:Nat}{G:List AObj}(hn:n≤G.length):(qo n G).length=G.length∧∀ i,i<n→(qo n G)[i]?=G[i]? := by
 refine ⟨by simp [qo];omega,fun i hi => ?_⟩;unfold qo;rw [List.getElem?_append_left (by simp;omega),List.getElem?_take_of_lt hi]
end
section
attribute [local congr] aw aW cM bt aA bf aM aC ao aq aN aO
variable{E:bc}(M:cE bT E)
theorem Tj{ls:List Str}{z:Str}{t:Tag}(ht:t≠.nil):zB 1 (.slice t 1 ((ls++[z]).map aE)) none (some (.int .i64 (ls.length:Int))) none=some (.slice .any 1 (ls.map aE)):=by
 have e:((ls++[z]).map aE).length=ls.length+1:=by simp
 have e2:((ls++[z]).map aE).isEmpty=false:=by cases ls<;>rfl
 have e3:((ls++[z]).map aE).take ls.length=ls.map aE:=by
  rw [List.map_append];exact List.take_left' (by simp)
 simp [zB,eF,e3,ht]
theorem Mb(hN:gj E)(hE:lE E)(hS:nI E)(hX:kY M)(hP:w8 E)(hD:EL E)(hW:WdE M){s:Str}(hs:s.length≤65536){ls:List Str}(hsp:mh 10 s=ls++[[]]){d:Rd}{last:Str}{rank:Nat}(hf:ku ls (rd0,[],0)=some (d,last,rank))(hl:last≠[])
  (hv:∀ l:Lex,l.ba=baR d→mW l=0) (H:List AObj):∃ l:Lex,PlL l∧l.ba=baR d∧M.run nP [.str s] H=some (.ret (.tuple [.agg l.row,.int .i64 0,.int .u8 0]),H):=by
 obtain ⟨sb1,sb2⟩:=CR 10 s;rw [hsp] at sb1 sb2;have hlen:ls.length≤65536:=by rw [List.length_append,List.length_singleton] at sb1;omega
 have hsl:∀ x∈ls,x.length≤99999:=fun x hx=>by have:=sb2 x (List.mem_append_left _ hx);omega
 have hspl:=fun H=>IR M hS hX (c:=10) (s:=s) (by omega) H
 rw [hsp] at hspl;obtain ⟨G0,hG0⟩:∃ G0,G0=H++[AObj.cells [.str [],.slice .nil 2 [],.slice .nil 2 [],.slice .nil 4 [],.slice .nil 4 [],.slice .nil 3 []] ah,rdC [] (.slice .nil 2 []) (.slice .nil 2 []) (.slice .nil 4 []) (.slice .nil 4 []) (.slice .nil 3 []) [] 0]:=⟨_,rfl⟩
 have hlG:G0.length=H.length+2:=by rw [hG0];simp
 have hv0:RdV (H.length+2) (H.length+1) G0 rd0 [] ((0:Nat):Int):=by
  refine ⟨.slice .nil 2 [],.slice .nil 2 [],.slice .nil 4 [],.slice .nil 4 [],.slice .nil 3 [],by rw [hG0,hp_getk];rfl,.inl ⟨rfl,rfl⟩,.inl ⟨rfl,rfl⟩,.inl ⟨rfl,rfl⟩,.inl ⟨rfl,rfl⟩,.inl ⟨rfl,rfl⟩⟩
 have hg0:G0[H.length]?=some (.cells [.str [],.slice .nil 2 [],.slice .nil 2 [],.slice .nil 4 [],.slice .nil 4 [],.slice .nil 3 []] ah):=by rw [hG0,eL];rfl
 have hlow0:∀ i,i<H.length→G0[i]?=H[i]? := fun i hi=>by rw [hG0];exact List.getElem?_append_left hi
 obtain ⟨G1,v1,l1,z1,k1,r1⟩:=pl0 M hS hX hP hD hW (N:=H.length+2) (r:=H.length+1) (p:=H.length) (by omega) (tg:=.any) (ls:=ls) (by omega) hsl H ls.length 0 rd0 [] 0 G0 (d,last,rank) (by omega) hv0 (by omega)
  ⟨fun h=>by rcases h with h | h<;>exact absurd h (by decide),fun h=>by rcases h with h | h<;>exact absurd h (by decide)⟩ ⟨by simp [rd0],by simp [rd0],by simp [rd0],by simp [rd0],by simp [rd0],by simp [rd0],by simp [rd0]⟩
  ⟨by simp [rd0],by simp [rd0],by simp [rd0],by simp [rd0],by simp [rd0],by simp [rd0]⟩ (by rw [List.drop_zero];exact hf)
 simp only [kv_cons,kv_nil,Int.ofNat_zero] at r1;simp only at v1 z1 k1;obtain ⟨l,hpl,hba,hfz⟩:=Wi v1 (by omega) z1 (by omega) k1;refine ⟨l,hpl,hba, ?_⟩;have hck:=fun (G:List AObj)=>DG M hN hE hpl.ok (H:=G) (Nat.zero_le _)
 rw [hv l hba] at hck;have hG1l:H.length+2≤G1.length:=by have:=l1.1;omega
 obtain ⟨D1,D2⟩:=RL (n:=H.length+1) (G:=G1) (by omega)
 have hgp:(qo (H.length+1) G1)[H.length]?=some (.cells [.str [],.slice .nil 2 [],.slice .nil 2 [],.slice .nil 4 [],.slice .nil 4 [],.slice .nil 3 []] ah):=by
  rw [D2 _ (by omega),l1.2.1 _ (by omega) (by omega)];exact hg0
 have hlowD:∀ i,i<H.length→(qo (H.length+1) G1)[i]?=H[i]? := fun i hi=>by
  rw [D2 _ (by omega),l1.2.1 _ (by omega) (by omega)];exact hlow0 i hi
 have hfr:∀ a:Env,dR a 6 = .ptr (H.length+1) 0→dR a 2 = .ptr H.length 0→fzR bT 6 [2,6] a G1=some (yz .leaf [2,6] [.ptr H.length 0,.vptr 8 [l.row++[.str last,.int .i64 (rank:Int)]] 0 0],qo (H.length+1) G1):=fun a h6 h2=>by
  refine UI h6 rfl ⟨9, ?_⟩;simp only [List.map_cons,List.map_nil,h6,h2];exact Lg (aQ (SN (by omega)) (aQ hfz (gb _)))
 generalize qo (H.length+1) G1=GD at *
 have hck:=hck GD;have hrow8:(l.row++[.str last,.int .i64 (rank:Int)])[6]?=some (.str last):=rfl;have hld6:bJ none (l.row++[.str last,.int .i64 (rank:Int)]) 6=some (.str last):=rfl;have hldL:bJ (some 6) (l.row++[.str last,.int .i64 (rank:Int)]) 0=some (.agg l.row):=rfl;have htk:oQ 6 (l.row++[.str last,.int .i64 (rank:Int)])=some l.row:=rfl;have htl:oQ 6 l.row=some l.row:=rfl;have hlast:(last == ([]:Str))=false:=beq_eq_false_iff_ne.2 hl
 have hst:stO 6 GD H.length 0 l.row (some (.cells [.str [],.slice .nil 2 [],.slice .nil 2 [],.slice .nil 4 [],.slice .nil 4 [],.slice .nil 3 []] ah))=some (GD.set H.length (.cells l.row ah)):=by
  simp only [stO];rw [if_pos ⟨rfl,by decide,rfl⟩];rfl
 have hac:dD (.agg l.row)=some l.row:=rfl;have hgl:(GD.set H.length (.cells l.row ah))[H.length]?=some (.cells l.row ah):=List.getElem?_set_self (by omega);have hldE:bJ (some 6) l.row 0=some (.agg l.row):=rfl;have hlowE:∀ i,i<H.length→(GD.set H.length (.cells l.row ah))[i]?=H[i]? := fun i hi=>by rw [List.getElem?_set_ne (by omega)];exact hlowD i hi
 have hlenE:H.length≤(GD.set H.length (.cells l.row ah)).length:=by simp;omega
 have hhd:nA bT .deep H (GD.set H.length (.cells l.row ah)) (.tuple [.agg l.row,.int .i64 0,.int .u8 0])=some (.tuple [.agg l.row,.int .i64 0,.int .u8 0],H):=by
  have h1:=xv (JX hlenE hlowE) (v:=.tuple [.agg l.row,.int .i64 0,.int .u8 0]) (v':=.tuple [.agg l.row,.int .i64 0,.int .u8 0]) ⟨9,Lg (aQ (UJ (hpl.fz _ _)) (aQ (Gb _ _ _ _ _) (aQ (Gb _ _ _ _ _) (gb _))))⟩;rw [G7 hlenE hlowE] at h1;exact h1
 have d1:decide (65536<((s.length:Nat):Int))=false:=decide_eq_false (by omega);have hsl2:=Tj (ls:=ls) (z:=[]) (t:=.any) (by decide);have hln:IntKind.i64.wrap ((((ls++[([]:Str)]).length:Nat):Int)-1)=(ls.length:Int):=by rw [List.length_append,List.length_singleton];exact Dc (by omega)
 have hwi:qi 1 (.slice .any 1 ((ls++[([]:Str)]).map aE)) (.int .i64 (ls.length:Int))=some (.vptr 1 ((ls++[([]:Str)]).map aE) ls.length 0):=LV (w:=[]) (by simp);have hxi:(ls++[([]:Str)])[ls.length]?=some []:=by simp
 have ee:(([]:Str) == [])=true:=rfl;have hGe:H++[AObj.cells [.str [],.slice .nil 2 [],.slice .nil 2 [],.slice .nil 4 [],.slice .nil 4 [],.slice .nil 3 []] ah,.cells [.str [],.slice .nil 2 [],.slice .nil 2 [],.slice .nil 4 [],.slice .nil 4 [],.slice .nil 3 [],.str [],.int .i64 0] ct]=G0:=hG0.symm;generalize hWl:ls++[([]:Str)]=W at *
 rw [aP M hS.morph_Parse rfl (c:=vl) rfl,vl];simp (maxSteps:=3000000) (maxDischargeDepth:=6) +contextual -implicitDefEqProofs only [amC M,↓amD,Nat.reduceBEq,Nat.reduceAdd,env,ag,nT,amG,AV.cell,Nat.reduceMul,Nat.reduceLeDiff,d1,hspl,hln,hwi,hxi,ee,hsl2,hGe,r1,hfr,yz,hld6,hlast,hldL,hck,hgp,hst,hac,hgl,(show ((0:Int) == 0)=true from rfl),hldE,hhd,htk,htl,gU,List.getElem?_cons_zero]
end
section
attribute [local congr] aw aW cM bt aA bf aM aC ao aq aN aO
variable{E:bc}(M:cE bT E)
theorem HW(hN:gj E)(hE:lE E)(hg:BS E)(hC:vL E)(hS:nI E)(hX:kY M)(hP:w8 E)(hD:EL E)(hW:WdE M)(h:E.fn jj=some jl)
  {l:Lex} (hl:l.ok 0) (hlv:∀ H,M.run cb [] H=some (.ret (.bool true),H)) (H:List AObj) :
  M.run jj [.agg l.row] H=some (.ret (.bool true),H):=by
 have hgr:=fun H=>Pk M hg hl H
 have hpr:=fun H=>Hf M hN hE hC hX hP hl (H:=H) (Nat.zero_le _)
 have ee:(([]:Str) == [])=true:=rfl;rw [aP M h rfl (c:=jk) rfl,jk];cases hgg:Na l with
 |true=>
  rw [hgg] at hgr;simp (maxSteps:=3000000) (maxDischargeDepth:=6) +contextual -implicitDefEqProofs only [amC M,↓amD,Nat.reduceBEq,Nat.reduceAdd,env,ag,fL,amG,AV.cell,Nat.reduceMul,Nat.reduceLeDiff,hlv,hgr,jJ]
 |false=>
  rw [hgg] at hgr;cases hv:(mW l == 0) with
  |false=>
   have e1:vM l=[]:=by unfold vM;rw [hv];rfl
   have e2:vN l=mW l:=by unfold vN;rw [hv];rfl
   rw [e1,e2] at hpr;simp (maxSteps:=3000000) (maxDischargeDepth:=6) +contextual -implicitDefEqProofs only [amC M,↓amD,Nat.reduceBEq,Nat.reduceAdd,env,ag,fL,amG,AV.cell,Nat.reduceMul,Nat.reduceLeDiff,hlv,hgr,hpr,hv,ee,jJ]
  |true=>
   cases hd:decide (65536<((mw l).length:Int)) with
   |true=>
    have e1:vM l=[]:=by unfold vM;rw [hv,hd];rfl
    have e2:vN l=3:=by unfold vN;rw [hv,hd];rfl
    rw [e1,e2] at hpr;simp (maxSteps:=3000000) (maxDischargeDepth:=6) +contextual -implicitDefEqProofs only [amC M,↓amD,Nat.reduceBEq,Nat.reduceAdd,env,ag,fL,amG,AV.cell,Nat.reduceMul,Nat.reduceLeDiff,hlv,hgr,hpr,ee,jJ,(show ((3:Int) == 0)=false from rfl)]
   |false=>
    have hv0:mW l=0:=eq_of_beq hv;have e1:vM l=mw l:=by unfold vM;rw [hv,hd];rfl
    have e2:vN l=0:=by unfold vN;rw [hv,hd];rfl
    rw [e1,e2] at hpr;have hlen:(mw l).length≤65536:=by have:=of_decide_eq_false hd;omega
    have hok:=RA hv0;obtain ⟨last,rank,hf,hne⟩:=RD hok
    have hsp:mh 10 (mw l)=yv l++[[]]:=by
     rw [Nl];exact IW _ fun x hx=>(Te hok x hx).no10
    have hck:∀ m:Lex,m.ba=baR (Tg l)→mW m=0:=fun m hm=>by
     rw [← L8 m,hm,RI,L8,hv0]
    obtain ⟨m,hpl,hba,hr1⟩:=Mb M hN hE hS hX hP hD hW hlen hsp hf hne hck (H++[AObj.cells l.row ah]);have hcm:=hck m hba;have htm:mw m=mw l:=by rw [← Ob m,hba,RI,Ob]
    have hpm:=fun H=>Hf M hN hE hC hX hP hpl.ok (H:=H) (Nat.zero_le _)
    have e3:vM m=mw l:=by unfold vM;rw [hcm,htm,hd];rfl
    have e4:vN m=0:=by unfold vN;rw [hcm,htm,hd];rfl
    rw [e3,e4] at hpm;have hcr:=fun H=>DG M hN hE hpl.ok (H:=H) (Nat.zero_le _)
    rw [hcm] at hcr;have es:(mw l == mw l)=true:=beq_self_eq_true _;simp (maxSteps:=3000000) (maxDischargeDepth:=6) +contextual -implicitDefEqProofs only [amC M,↓amD,Nat.reduceBEq,Nat.reduceAdd,env,ag,fL,amG,AV.cell,Nat.reduceMul,Nat.reduceLeDiff,hlv,hgr,hpr,hr1,hpm,hcr,es,jJ,(show ((0:Int) == 0)=true from rfl),pa,List.getElem?_cons_zero,List.getElem?_cons_succ]
end
section
open Go.ChangeShapes Go.WideShapes
structure iu (P:Program):Prop where
 u_string:P.underlying bg=some .string
 c_string:P.cellsOf bg=1
 f_Feat:fieldsOf P bw=some [(0,bg),(1,bg)]
 c_Feat:P.cellsOf bw=2
 u_sl_string:P.underlying u1=some (.slice bg)
 c_sl_string:P.cellsOf u1=1
 y_string:Nat.blt 0 (P.bytesOf bg)=true
 f_Trait:fieldsOf P bU=some [(0,bg),(1,u1)]
 c_Trait:P.cellsOf bU=2
 u_sl_Feat:P.underlying ek=some (.slice bw)
 c_sl_Feat:P.cellsOf ek=1
 y_Feat:Nat.blt 0 (P.bytesOf bw)=true
 u_int:P.underlying ID=some (.int .i64)
 c_int:P.cellsOf ID=1
 f_Slot:fieldsOf P bK=some [(0,ID),(1,bg),(2,bg),(3,ek)]
 c_Slot:P.cellsOf bK=4
 u_sl_Slot:P.underlying q8=some (.slice bK)
 c_sl_Slot:P.cellsOf q8=1
 y_Slot:Nat.blt 0 (P.bytesOf bK)=true
 f_Class:fieldsOf P aG=some [(0,bg),(1,q8)]
 c_Class:P.cellsOf aG=2
 f_Irreg:fieldsOf P bn=some [(0,ID),(1,bg)]
 c_Irreg:P.cellsOf bn=2
 u_sl_Irreg:P.underlying kG=some (.slice bn)
 c_sl_Irreg:P.cellsOf kG=1
 y_Irreg:Nat.blt 0 (P.bytesOf bn)=true
 f_Entry:fieldsOf P aS=some [(0,bg),(1,bg),(2,ek),(3,kG)]
 c_Entry:P.cellsOf aS=4
 f_Spell:fieldsOf P cL=some [(0,bg),(1,bg),(2,bg),(3,bg)]
 c_Spell:P.cellsOf cL=4
 f_Link:fieldsOf P dE=some [(0,bg),(1,bg),(2,ek)]
 c_Link:P.cellsOf dE=3
 u_sl_Trait:P.underlying pD=some (.slice bU)
 c_sl_Trait:P.cellsOf pD=1
 y_Trait:Nat.blt 0 (P.bytesOf bU)=true
 u_sl_Class:P.underlying pE=some (.slice aG)
 c_sl_Class:P.cellsOf pE=1
 y_Class:Nat.blt 0 (P.bytesOf aG)=true
 u_sl_Entry:P.underlying pF=some (.slice aS)
 c_sl_Entry:P.cellsOf pF=1
 y_Entry:Nat.blt 0 (P.bytesOf aS)=true
 u_sl_Spell:P.underlying pG=some (.slice cL)
 c_sl_Spell:P.cellsOf pG=1
 y_Spell:Nat.blt 0 (P.bytesOf cL)=true
 u_sl_Link:P.underlying q7=some (.slice dE)
 c_sl_Link:P.cellsOf q7=1
 y_Link:Nat.blt 0 (P.bytesOf dE)=true
 f_Lex:fieldsOf P ah=some [(0,bg),(1,pD),(2,pE),(3,pF),(4,pG),(5,q7)]
 c_Lex:P.cellsOf ah=6
section
variable{P:Program}{W:World}{G:Nat→Option (List AV)}
theorem Pu(h:iu P):jy P W G bw aJ.row (aJ.ok 0):=
 gV h.f_Feat h.c_Feat (bA (eU h.u_string) h.c_string (bA (eU h.u_string) h.c_string (kC _))) (fun a=>⟨a.1,a.2.1⟩) (fun a=>rfl) (fun a ha=>⟨ha.1,ha.2.1⟩)
theorem Hs(h:iu P):jy P W G u1 (fun s:Sl Str=>[.slice s.tag 1 (s.l.map aE)]) (fun s=>s.ok 0 fun s=>s.length≤bY):=
 jz h.u_sl_string h.c_string (by decide) (s9 h.y_string) (fun _=>rfl) (eU h.u_string)
theorem Nn(h:iu P):jy P W G bU aV.row (aV.ok 0):=
 gV h.f_Trait h.c_Trait (bA (eU h.u_string) h.c_string (bA (Hs h) h.c_sl_string (kC _))) (fun a=>⟨a.1,a.2.1⟩) (fun a=>rfl) (fun a ha=>⟨ha.1,ha.2.1⟩)
theorem yx(h:iu P):jy P W G ek (fun s:Sl aJ=>[.slice s.tag 2 (s.l.map aJ.row)]) (fun s=>s.ok 0 (aJ.ok 0)):=
 jz h.u_sl_Feat h.c_Feat (by decide) (s9 h.y_Feat) (fun _=>by simp only [zR]) (Pu h)
theorem Pv(h:iu P):jy P W G bK bF.row (bF.ok 0):=
 gV h.f_Slot h.c_Slot (bA (IC h.u_int) h.c_int (bA (eU h.u_string) h.c_string (bA (eU h.u_string) h.c_string (bA (yx h) h.c_sl_Feat (kC _))))) (fun a=>⟨a.1,a.2.1,a.2.2.1,a.2.2.2.1⟩) (fun a=>rfl) (fun a ha=>⟨ha.1,ha.2.1,ha.2.2.1,ha.2.2.2.1⟩)
theorem Kf(h:iu P):jy P W G q8 (fun s:Sl bF=>[.slice s.tag 4 (s.l.map bF.row)]) (fun s=>s.ok 0 (bF.ok 0)):=
 jz h.u_sl_Slot h.c_Slot (by decide) (s9 h.y_Slot) (fun _=>by simp only [Gi]) (Pv h)
theorem No(h:iu P):jy P W G aG aL.row (aL.ok 0):=
 gV h.f_Class h.c_Class (bA (eU h.u_string) h.c_string (bA (Kf h) h.c_sl_Slot (kC _))) (fun a=>⟨a.1,a.2.1⟩) (fun a=>rfl) (fun a ha=>⟨ha.1,ha.2.1⟩)
theorem Np(h:iu P):jy P W G bn bp.row (bp.ok 0):=
 gV h.f_Irreg h.c_Irreg (bA (IC h.u_int) h.c_int (bA (eU h.u_string) h.c_string (kC _))) (fun a=>⟨a.1,a.2.1⟩) (fun a=>rfl) (fun a ha=>⟨ha.1,ha.2.1⟩)
theorem HX(h:iu P):jy P W G kG (fun s:Sl bp=>[.slice s.tag 2 (s.l.map bp.row)]) (fun s=>s.ok 0 (bp.ok 0)):=
 jz h.u_sl_Irreg h.c_Irreg (by decide) (s9 h.y_Irreg) (fun _=>by simp only [De]) (Np h)
theorem Nq(h:iu P):jy P W G aS aI.row (aI.ok 0):=
 gV h.f_Entry h.c_Entry (bA (eU h.u_string) h.c_string (bA (eU h.u_string) h.c_string (bA (yx h) h.c_sl_Feat (bA (HX h) h.c_sl_Irreg (kC _))))) (fun a=>⟨a.1,a.2.1,a.2.2.1,a.2.2.2.1⟩) (fun a=>rfl) (fun a ha=>⟨ha.1,ha.2.1,ha.2.2.1,ha.2.2.2.1⟩)
theorem Nr(h:iu P):jy P W G cL bq.row (bq.ok 0):=
 gV h.f_Spell h.c_Spell (bA (eU h.u_string) h.c_string (bA (eU h.u_string) h.c_string (bA (eU h.u_string) h.c_string (bA (eU h.u_string) h.c_string (kC _))))) (fun a=>⟨a.1,a.2.1,a.2.2.1,a.2.2.2.1⟩) (fun a=>rfl) (fun a ha=>⟨ha.1,ha.2.1,ha.2.2.1,ha.2.2.2.1⟩)
theorem Pw(h:iu P):jy P W G dE cF.row (cF.ok 0):=
 gV h.f_Link h.c_Link (bA (eU h.u_string) h.c_string (bA (eU h.u_string) h.c_string (bA (yx h) h.c_sl_Feat (kC _)))) (fun a=>⟨a.1,a.2.1,a.2.2.1⟩) (fun a=>rfl) (fun a ha=>⟨ha.1,ha.2.1,ha.2.2.1⟩)
theorem HY(h:iu P):jy P W G pD (fun s:Sl aV=>[.slice s.tag 2 (s.l.map aV.row)]) (fun s=>s.ok 0 (aV.ok 0)):=
 jz h.u_sl_Trait h.c_Trait (by decide) (s9 h.y_Trait) (fun _=>by simp only [qM]) (Nn h)
theorem HZ(h:iu P):jy P W G pE (fun s:Sl aL=>[.slice s.tag 2 (s.l.map aL.row)]) (fun s=>s.ok 0 (aL.ok 0)):=
 jz h.u_sl_Class h.c_Class (by decide) (s9 h.y_Class) (fun _=>by simp only [mM]) (No h)
theorem H6(h:iu P):jy P W G pF (fun s:Sl aI=>[.slice s.tag 4 (s.l.map aI.row)]) (fun s=>s.ok 0 (aI.ok 0)):=
 jz h.u_sl_Entry h.c_Entry (by decide) (s9 h.y_Entry) (fun _=>by simp only [sg]) (Nq h)
theorem H7(h:iu P):jy P W G pG (fun s:Sl bq=>[.slice s.tag 4 (s.l.map bq.row)]) (fun s=>s.ok 0 (bq.ok 0)):=
 jz h.u_sl_Spell h.c_Spell (by decide) (s9 h.y_Spell) (fun _=>by simp only [Gj]) (Nr h)
theorem Kg(h:iu P):jy P W G q7 (fun s:Sl cF=>[.slice s.tag 3 (s.l.map cF.row)]) (fun s=>s.ok 0 (cF.ok 0)):=
 jz h.u_sl_Link h.c_Link (by decide) (s9 h.y_Link) (fun _=>by simp only [IB]) (Pw h)
theorem RN(h:iu P):jy P W G ah Lex.row (Lex.ok 0):=
 gV h.f_Lex h.c_Lex (bA (eU h.u_string) h.c_string (bA (HY h) h.c_sl_Trait (bA (HZ h) h.c_sl_Class (bA (H6 h) h.c_sl_Entry (bA (H7 h) h.c_sl_Spell (bA (Kg h) h.c_sl_Link (kC _))))))) (fun a=>⟨a.1,a.2.1,a.2.2.1,a.2.2.2.1,a.2.2.2.2.1,a.2.2.2.2.2.1⟩) (fun a=>rfl) (fun a ha=>⟨ha.1,ha.2.1,ha.2.2.1,ha.2.2.2.1,ha.2.2.2.2.1,ha.2.2.2.2.2.1⟩)
end
end
section
open Go.Shelf Go.RowKit Go.Lib Go.Proofs
def Ns:Go.Shelf.Ren:=⟨fun | 172=>140 | 244=>159 | 245=>160 | 247=>172 | 279=>173 | 280=>174 | 281=>175 | 282=>176 | 287=>180 | 316=>181 | 171=>24 | 205=>182 | 321=>183 | 322=>184 | 243=>66 | 246=>115 | 283=>145 | 284=>146 | 285=>147 | 286=>148 | 129=>164 | 317=>163 | 318=>165 | 319=>166 | 320=>167 | 337=>177 | 338=>178 | n=>n,fun | 9=>9 | 3=>3 | 75=>124 | 76=>125 | 4=>4 | 5=>5 | 167=>207 | 37=>72 | 0=>0 | 85=>208 | 2=>2 | 168=>210 | 53=>131 | 175=>214 | 46=>191 | 210=>217 | 127=>129 | 145=>224 | 143=>222 | 21=>21 | 171=>183 | 173=>186 | 212=>195 | 51=>196 | 20=>20 | 213=>197 | 232=>219 | 233=>220 | 80=>81 | n=>n,fun | 15=>4 | 16=>5 | 17=>1 | 18=>6 | 19=>7 | n=>n⟩
theorem Nt:Go.Proofs.LaysC.n172 Tryz.prog Ns where
 mixed:=by kernel_rfl
 f129:=Tryz.func164.trans (congrArg some (by kernel_rfl))
 f171:=Tryz.func24.trans (congrArg some (by kernel_rfl))
 f172:=Tryz.func140.trans (congrArg some (by kernel_rfl))
 f205:=Tryz.func182.trans (congrArg some (by kernel_rfl))
 f243:=Tryz.func66.trans (congrArg some (by kernel_rfl))
 f244:=Tryz.func159.trans (congrArg some (by kernel_rfl))
 f245:=Tryz.func160.trans (congrArg some (by kernel_rfl))
 f246:=Tryz.func115.trans (congrArg some (by kernel_rfl))
 f247:=Tryz.func172.trans (congrArg some (by kernel_rfl))
 f279:=Tryz.func173.trans (congrArg some (by kernel_rfl))
 f280:=Tryz.func174.trans (congrArg some (by kernel_rfl))
 f281:=Tryz.func175.trans (congrArg some (by kernel_rfl))
 f282:=Tryz.func176.trans (congrArg some (by kernel_rfl))
 f283:=Tryz.func145.trans (congrArg some (by kernel_rfl))
 f284:=Tryz.func146.trans (congrArg some (by kernel_rfl))
 f285:=Tryz.func147.trans (congrArg some (by kernel_rfl))
 f286:=Tryz.func148.trans (congrArg some (by kernel_rfl))
 f287:=Tryz.func180.trans (congrArg some (by kernel_rfl))
 f316:=Tryz.func181.trans (congrArg some (by kernel_rfl))
 f317:=Tryz.func163.trans (congrArg some (by kernel_rfl))
 f318:=Tryz.func165.trans (congrArg some (by kernel_rfl))
 f319:=Tryz.func166.trans (congrArg some (by kernel_rfl))
 f320:=Tryz.func167.trans (congrArg some (by kernel_rfl))
 f321:=Tryz.func183.trans (congrArg some (by kernel_rfl))
 f322:=Tryz.func184.trans (congrArg some (by kernel_rfl))
 f337:=Tryz.func177.trans (congrArg some (by kernel_rfl))
 f338:=Tryz.func178.trans (congrArg some (by kernel_rfl))
 t0:=Tryz.underlying0
 a0:=Tryz.isAgg0
 z0:=Tryz.sizeOf0
 v0:=Tryz.zeroValue0
 t2:=Tryz.underlying2
 a2:=Tryz.isAgg2
 z2:=Tryz.sizeOf2
 v2:=Tryz.zeroValue2
 t3:=Tryz.underlying3
 a3:=Tryz.isAgg3
 z3:=Tryz.sizeOf3
 v3:=Tryz.zeroValue3
 t4:=Tryz.underlying4
 a4:=Tryz.isAgg4
 z4:=Tryz.sizeOf4
 v4:=Tryz.zeroValue4
 t5:=Tryz.underlying5
 a5:=Tryz.isAgg5
 z5:=Tryz.sizeOf5
 v5:=Tryz.zeroValue5
 t9:=Tryz.underlying9
 a9:=Tryz.isAgg9
 z9:=Tryz.sizeOf9
 v9:=Tryz.zeroValue9
 t20:=Tryz.underlying20
 a20:=Tryz.isAgg20
 z20:=Tryz.sizeOf20
 v20:=Tryz.zeroValue20
 t21:=Tryz.underlying21
 a21:=Tryz.isAgg21
 z21:=Tryz.sizeOf21
 v21:=Tryz.zeroValue21
 t37:=Tryz.underlying72
 a37:=Tryz.isAgg72
 z37:=Tryz.sizeOf72
 v37:=Tryz.zeroValue72
 t46:=Tryz.underlying191
 a46:=Tryz.isAgg191
 z46:=Tryz.sizeOf191
 v46:=Tryz.zeroValue191
 t51:=Tryz.underlying196
 a51:=Tryz.isAgg196
 z51:=Tryz.sizeOf196
 v51:=Tryz.zeroValue196
 t53:=Tryz.underlying131
 a53:=Tryz.isAgg131
 z53:=Tryz.sizeOf131
 v53:=Tryz.zeroValue131
 t75:=Tryz.underlying124
 a75:=Tryz.isAgg124
 z75:=Tryz.sizeOf124
 v75:=Tryz.zeroValue124
 t76:=Tryz.underlying125
 a76:=Tryz.isAgg125
 z76:=Tryz.sizeOf125
 v76:=Tryz.zeroValue125
 t85:=Tryz.underlying208
 a85:=Tryz.isAgg208
 z85:=Tryz.sizeOf208
 v85:=Tryz.zeroValue208
 t127:=Tryz.underlying129
 a127:=Tryz.isAgg129
 z127:=Tryz.sizeOf129
 v127:=Tryz.zeroValue129
 t143:=Tryz.underlying222
 a143:=Tryz.isAgg222
 z143:=Tryz.sizeOf222
 v143:=Tryz.zeroValue222
 t145:=Tryz.underlying224
 a145:=Tryz.isAgg224
 z145:=Tryz.sizeOf224
 v145:=Tryz.zeroValue224
 t167:=Tryz.underlying207
 a167:=Tryz.isAgg207
 z167:=Tryz.sizeOf207
 v167:=Tryz.zeroValue207
 t168:=Tryz.underlying210
 a168:=Tryz.isAgg210
 z168:=Tryz.sizeOf210
 v168:=Tryz.zeroValue210
 t171:=Tryz.underlying183
 a171:=Tryz.isAgg183
 z171:=Tryz.sizeOf183
 v171:=Tryz.zeroValue183
 t173:=Tryz.underlying186
 a173:=Tryz.isAgg186
 z173:=Tryz.sizeOf186
 v173:=Tryz.zeroValue186
 t175:=Tryz.underlying214
 a175:=Tryz.isAgg214
 z175:=Tryz.sizeOf214
 v175:=Tryz.zeroValue214
 t210:=Tryz.underlying217
 a210:=Tryz.isAgg217
 z210:=Tryz.sizeOf217
 v210:=Tryz.zeroValue217
 t212:=Tryz.underlying195
 a212:=Tryz.isAgg195
 z212:=Tryz.sizeOf195
 v212:=Tryz.zeroValue195
 t213:=Tryz.underlying197
 a213:=Tryz.isAgg197
 z213:=Tryz.sizeOf197
 t232:=Tryz.underlying219
 a232:=Tryz.isAgg219
 z232:=Tryz.sizeOf219
 v232:=Tryz.zeroValue219
 t233:=Tryz.underlying220
 a233:=Tryz.isAgg220
 z233:=Tryz.sizeOf220
 v233:=Tryz.zeroValue220
 g15:=by kernel_rfl
 g16:=by kernel_rfl
 g17:=by kernel_rfl
 g18:=by kernel_rfl
 g19:=by kernel_rfl
 t80:=Tryz.underlying81
 a80:=Tryz.isAgg81
 z80:=Tryz.sizeOf81
 v80:=Tryz.zeroValue81
 i0:=by kernel_rfl
 i2:=by kernel_rfl
 i3:=by kernel_rfl
 i4:=by kernel_rfl
 i5:=by kernel_rfl
 i9:=by kernel_rfl
 i20:=by kernel_rfl
 i21:=by kernel_rfl
 i37:=by kernel_rfl
 i46:=by kernel_rfl
 i51:=by kernel_rfl
 i53:=by kernel_rfl
 i75:=by kernel_rfl
 i76:=by kernel_rfl
 i80:=by kernel_rfl
 i85:=by kernel_rfl
 i127:=by kernel_rfl
 i143:=by kernel_rfl
 i145:=by kernel_rfl
 i167:=by kernel_rfl
 i168:=by kernel_rfl
 i171:=by kernel_rfl
 i173:=by kernel_rfl
 i175:=by kernel_rfl
 i210:=by kernel_rfl
 i212:=by kernel_rfl
 i232:=by kernel_rfl
 i233:=by kernel_rfl
 m15:=by kernel_rfl
 m16:=by kernel_rfl
 m17:=by kernel_rfl
 m18:=by kernel_rfl
 m19:=by kernel_rfl
 c0:=by kernel_rfl
 c2:=by kernel_rfl
 c3:=by kernel_rfl
 c4:=by kernel_rfl
 c5:=by kernel_rfl
 c9:=by kernel_rfl
 c20:=by kernel_rfl
 c21:=by kernel_rfl
 c37:=by kernel_rfl
 c46:=by kernel_rfl
 c51:=by kernel_rfl
 c53:=by kernel_rfl
 c75:=by kernel_rfl
 c76:=by kernel_rfl
 c80:=by kernel_rfl
 c85:=by kernel_rfl
 c127:=by kernel_rfl
 c143:=by kernel_rfl
 c145:=by kernel_rfl
 c167:=by kernel_rfl
 c168:=by kernel_rfl
 c171:=by kernel_rfl
 c173:=by kernel_rfl
 c175:=by kernel_rfl
 c210:=by kernel_rfl
 c212:=by kernel_rfl
 c213:=by kernel_rfl
 c232:=by kernel_rfl
 c233:=by kernel_rfl
theorem Px:∀ args w,(callFunc 140 args).run Tryz.prog w = .ok (.enter 140 args) w:=enters_of Tryz.func140 (by kernel_rfl) rfl
theorem Wj(s:List UInt8)(hs:s.length≤1000000)(H:List AObj):cT Tryz.prog G0 j8 [.str s] H fun r H'=>r = .ret (.tuple [.int .i64 (atV s),atE s])∧H'=H:=by
 have e1:atV s=JI s:=by unfold atV JI;cases Lib.atoiAll s<;>rfl
 have e2:atE s=JJ 210 s:=by unfold atE JJ;cases Lib.atoiAll s<;>rfl
 rw [e1,e2]
 exact QH (P:=Tryz.prog) (f:=140) (a:=4) (b:=5) (c:=1) (te:=222) (tn:=210) (tb:=5) rfl Px (fun s v h1 h2 w=>Any.strconv_Atoi_ok Nt s h1 v h2 w)
  (fun s h1 h2 h5 ev w h3 h4=>(Any.strconv_Atoi_syntax Nt s h1 (by
   rcases e:Lib.atoiAll s.data.toList with v | _ | _
   ·exact absurd e (h2 v)
   ·rfl
   ·exact absurd e h5) ev w h3 h4).mono fun e w' ⟨N,a,_,_,d⟩=>⟨N,a,d⟩)
  (fun s h1 h2 ev w h3 h4=>(Any.strconv_Atoi_range Nt s h1 h2 ev w h3 h4).mono fun e w' ⟨N,a,_,_,d⟩=>⟨N,a,d⟩) s hs H
theorem Wm:(List.range 50).all (fun j=>sf E0 ae fq (0+j))=true:=by kernel_rfl
theorem Vu:(List.range 50).all (fun j=>sf E0 ae fq (50+j))=true:=by kernel_rfl
theorem Tk:(List.range 50).all (fun j=>sf E0 ae fq (100+j))=true:=by kernel_rfl
theorem Tl:(List.range 50).all (fun j=>sf E0 ae fq (150+j))=true:=by kernel_rfl
theorem Tm:(List.range 50).all (fun j=>sf E0 ae fq (200+j))=true:=by kernel_rfl
theorem Tn:(List.range 50).all (fun j=>sf E0 ae fq (250+j))=true:=by kernel_rfl
theorem To:(List.range 50).all (fun j=>sf E0 ae fq (300+j))=true:=by kernel_rfl
theorem Tp:(List.range 50).all (fun j=>sf E0 ae fq (350+j))=true:=by kernel_rfl
theorem Tq:(List.range 50).all (fun j=>sf E0 ae fq (400+j))=true:=by kernel_rfl
theorem Tr:(List.range 50).all (fun j=>sf E0 ae fq (450+j))=true:=by kernel_rfl
theorem Ts:(List.range 50).all (fun j=>sf E0 ae fq (500+j))=true:=by kernel_rfl
theorem Tt:(List.range 50).all (fun j=>sf E0 ae fq (550+j))=true:=by kernel_rfl
theorem Tu:(List.range 50).all (fun j=>sf E0 ae fq (600+j))=true:=by kernel_rfl
theorem Tv:(List.range 50).all (fun j=>sf E0 ae fq (650+j))=true:=by kernel_rfl
theorem Tw:(List.range 50).all (fun j=>sf E0 ae fq (700+j))=true:=by kernel_rfl
theorem Tx:(List.range 50).all (fun j=>sf E0 ae fq (750+j))=true:=by kernel_rfl
theorem Ty:(List.range 50).all (fun j=>sf E0 ae fq (800+j))=true:=by kernel_rfl
theorem Tz:(List.range 50).all (fun j=>sf E0 ae fq (850+j))=true:=by kernel_rfl
theorem TA:(List.range 50).all (fun j=>sf E0 ae fq (900+j))=true:=by kernel_rfl
theorem TB:(List.range 50).all (fun j=>sf E0 ae fq (950+j))=true:=by kernel_rfl
theorem TC{n:Nat}(hn:n<1000):sf E0 ae fq n=true:=by
 have at1:∀ k,(List.range 50).all (fun j=>sf E0 ae fq (k+j))=true→k≤n→n<k+50→sf E0 ae fq n=true:=fun k h h1 h2=>by
  have:=List.all_eq_true.1 h (n-k) (List.mem_range.2 (by omega));rwa [show k+(n-k)=n from by omega] at this
 by_cases h0:n<50
 ·exact at1 0 Wm (by omega) (by omega)
 by_cases h50:n<100
 ·exact at1 50 Vu (by omega) (by omega)
 by_cases h100:n<150
 ·exact at1 100 Tk (by omega) (by omega)
 by_cases h150:n<200
 ·exact at1 150 Tl (by omega) (by omega)
 by_cases h200:n<250
 ·exact at1 200 Tm (by omega) (by omega)
 by_cases h250:n<300
 ·exact at1 250 Tn (by omega) (by omega)
 by_cases h300:n<350
 ·exact at1 300 To (by omega) (by omega)
 by_cases h350:n<400
 ·exact at1 350 Tp (by omega) (by omega)
 by_cases h400:n<450
 ·exact at1 400 Tq (by omega) (by omega)
 by_cases h450:n<500
 ·exact at1 450 Tr (by omega) (by omega)
 by_cases h500:n<550
 ·exact at1 500 Ts (by omega) (by omega)
 by_cases h550:n<600
 ·exact at1 550 Tt (by omega) (by omega)
 by_cases h600:n<650
 ·exact at1 600 Tu (by omega) (by omega)
 by_cases h650:n<700
 ·exact at1 650 Tv (by omega) (by omega)
 by_cases h700:n<750
 ·exact at1 700 Tw (by omega) (by omega)
 by_cases h750:n<800
 ·exact at1 750 Tx (by omega) (by omega)
 by_cases h800:n<850
 ·exact at1 800 Ty (by omega) (by omega)
 by_cases h850:n<900
 ·exact at1 850 Tz (by omega) (by omega)
 by_cases h900:n<950
 ·exact at1 900 TA (by omega) (by omega)
 by_cases h950:n<1000
 ·exact at1 950 TB (by omega) (by omega)
 exact absurd hn (by omega)
theorem Vv{n:Nat}(hn:n<1000)(H:List AObj):cT Tryz.prog G0 ae [.int .i64 (n:Int),.int .i64 10] H fun r H'=>r = .ret (.str (fq n))∧H'=H:=UN Lq g0 (TC hn) H
theorem gES:Tryz.prog.globalNamed "strconv.ErrSyntax" = some 4:=by kernel_rfl
theorem gER:Tryz.prog.globalNamed "strconv.ErrRange" = some 5:=by kernel_rfl
theorem gPT:Tryz.prog.globalNamed "internal/strconv.uint64pow10" = some 1:=by kernel_rfl
theorem RP (u:TypeId) (h:Tryz.prog.typeName? 3 u=some "*errors.errorString"):u=222:=
 typeName_ptr_named (nm := "errors.errorString") (by rw [(by decide : "*" ++ "errors.errorString" = "*errors.errorString")];kernel_rfl) (by kernel_rfl) (by decide) u (by rw [(by decide : "*" ++ "errors.errorString" = "*errors.errorString")];exact h)
end
end Go.Am
