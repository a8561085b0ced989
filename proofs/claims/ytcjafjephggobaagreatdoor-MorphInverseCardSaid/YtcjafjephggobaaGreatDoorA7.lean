import Derived.Test.YtcjafjephggobaaGreatDoorA6
import Derived.Shelf.SlSortCmp.WholeK
import Derived.Lib.RowBridge
import Derived.Test.YtcjafjephggobaaGreatDoorChecked
import Derived.Shelf.SlSortCmp.NoneTotal
import Derived.Laws.Externs
import Derived.KernelRfl
/-
  Part 7 of the tool: an abstract machine over the model, proved sound, and what it says of the functions that the law reaches. Condition: none but those that each theorem names.
-/
set_option linter.unusedVariables false
set_option linter.unusedSimpArgs false
set_option maxRecDepth 100000
set_option maxHeartbeats 4000000
namespace Go.Am
open Go.RowKit
section
attribute [local congr] aF cu bm aG a7 aR aH aA aC aS aT
variable{E:bC}(M:cT cY E)
theorem XF(hW:WdE M)(hE:iV E)(hU:vL E){srt:List aq→List aq}(hO:yK M srt)(hP:Srt srt)(hF:sZ E)(hV:Jv E){l:Lex}(hl:l.ok 0)(hk:cD l=0){fs:List bP}(hfs:∀ h∈fs,LG l h)(hfl:fs.length≤3072){tf:Tag}(hfw:qk 0 tf)
  {H H0:List ae}{p:Nat}{T:TypeId} (hp:H[p]?=some (.cells l.row T)) (k:List Fra):∀ (n i:Nat) (o:List bw) (He:List ae),He=H++[.tok (o.length*4) dq]→i+n=fs.length→o.length+8*n≤90000 →
  M.go bR H0 (.c fj :: .lp ⟨(some [2,5,12,13,14]),[(5,4,dq)],true⟩ fj He :: .blk 0 :: .c (.lv [5])::k) (kv [(2,.ptr p 0),(5,.slice (.own H.length) 4 (o.map bw.row)),(12,.slice tf 3 (fs.map bP.row)),(13,.int .i64 fs.length),(14,.int .i64 i)]) (H++[.tok (o.length*4) dq]) =
   M.go bR H0 k (kv [(5,.slice (.own H.length) 4 ((o++x8 l (fs.drop i)).map bw.row))]) (H++[.tok ((o++x8 l (fs.drop i)).length*4) dq])
 |0,i,o,He,hHe,hi0,ho=>by
  have e:i=fs.length:=by omega
  subst e
  rw [List.drop_length,x8,List.append_nil]
  rw [aw M fj.eq_1]
  simp (maxSteps:=3000000) (maxDischargeDepth:=6) +contextual -implicitDefEqProofs only [amA M,amB,↓aj,↓ab,↓al,↓ak,Nat.reduceBEq,Nat.reduceAdd,env,ao,eC,Nat.lt_irrefl]
 |n+1,i,o,He,hHe,hi0,ho=>by
  subst hHe
  have hi:i<fs.length:=by omega
  have hx0:fs[i]?=some fs[i]:=List.getElem?_eq_getElem hi
  have hm0:fs[i]∈fs:=List.getElem_mem hi
  have hd:fs.drop i=fs[i]::fs.drop (i+1):=List.drop_eq_getElem_cons hi
  generalize fs[i]=h at hx0 hm0 hd
  obtain ⟨⟨x,c,s,hA⟩,hw⟩:=hfs h hm0
  have hsl:=fun H=>Hp M hW hE hF hl h.e h.q H
  simp only [hA.sl hk,Option.getD_some,Option.isSome_some] at hsl
  have hp':=fun L=>dj (L:=L) hp
  have hpl:=(List.getElem?_eq_some_iff.1 hp).1
  have w1:Wk (H.length+1) (.ptr p 0) (.ptr p 0):=wk_ptr (by omega)
  have w2:Wk (H.length+1) (.slice tf 3 (fs.map bP.row)) (.slice tf 3 (fs.map bP.row)):=wk_slice (hfw.mono (Nat.zero_le _)) (ua Hr _ fs)
  have w4:=fun o:List bw=>wk_slice (n:=H.length+1) (esz:=4) (tag:=.own H.length) (show H.length<H.length+1 by omega) (ua JL _ o)
  have hws:=c6 hi (show fs.length≤bD by simp only [bD];omega)
  have e1:Jx l h=B2 x s h 0 l.links.l:=by simp only [Jx,hA.sl hk,hA.ent']
  rw [hd,x8,e1]
  have hl8:=Ex hk
  have hol:=LD x s h l.links.l 0
  have ih:=XF hW hE hU hO hP hF hV hl hk hfs hfl hfw (H0:=H0) hp k n (i+1) (o++B2 x s h 0 l.links.l) _ rfl (by omega) (by simp only [List.length_append];omega)
  have hin:=fun k=>W7 M hE hU hO hP hF hV hl hk hw hA (fs:=fs) hfw (e2:=(i:Int)) (H0:=H0) hp k l.links.l.length 0 o _ rfl (by omega) (by omega)
  simp only [kv_cons,kv_nil,Int.ofNat_zero,List.drop_zero,List.append_assoc] at ih hin ⊢
  rw [aw M fj.eq_1]
  simp (maxSteps:=3000000) (maxDischargeDepth:=6) +contextual -implicitDefEqProofs only [amA M,amB,↓aj,↓ab,↓al,↓ak,Nat.reduceBEq,Nat.reduceAdd,env,ao,eC,amG,AV.cell,Nat.reduceMul,Nat.reduceLeDiff,hi,hx0,hsl,hp',hin,ih,w1,w2,w4,yL,uF,hws,bo hi,cZ,z8,jz,M9]
theorem N7(hW:WdE M)(hE:iV E)(hU:vL E){srt:List aq→List aq}(hO:yK M srt)(hP:Srt srt)(hF:sZ E)(hV:Jv E)(hA:Iu E){l:Lex}(hl:l.ok 0)(hk:cD l=0){fs:List bP}(hfs:∀ h∈fs,LG l h)(hfl:fs.length≤3072){tf:Tag}(hfw:qk 0 tf)(H:List ae) :
  M.run kz [.agg l.row,.slice tf 3 (fs.map bP.row)] H=some (.ret (.slice .any 4 ((x8 l fs).map bw.row)),H):=by
 rw [aY M hA.morph_language_openings rfl (c:=kA) rfl,kA]
 have h1:=fun k=>XF M hW hE hU hO hP hF hV hl hk hfs hfl hfw (H:=H++[.cells l.row aD]) (H0:=H) (p:=H.length) (T:=aD) (by rw [dX];rfl) k fs.length 0 [] _ rfl (by omega) (by simp;omega)
 simp only [kv_cons,kv_nil,Int.ofNat_zero,List.drop_zero,List.length_append,List.length_cons,List.length_nil,Nat.zero_add,Nat.reduceAdd,List.append_assoc,List.cons_append,List.nil_append,List.map_nil,Nat.zero_mul] at h1
 simp (maxSteps:=3000000) (maxDischargeDepth:=6) +contextual -implicitDefEqProofs only [amA M,amB,↓aj,↓ab,↓al,↓ak,Nat.reduceBEq,Nat.reduceAdd,env,ao,eC,amG,AV.cell,Nat.reduceMul,Nat.reduceLeDiff,h1,cZ,JL,implies_true,cut_app]
theorem RK{l:Lex}(hk:cD l=0){e:Nat}{x:aK}{c:aZ}(hx:l.entries.l[e]?=some x)(hc:Cr l x c):∀ (t:List bt) (i:Nat),(∀ (j:Nat) (s:bt),t[j]?=some s→c.slots.l[i+j]?=some s)→∀ h∈x7 l x e i t,LG l h
 |[],_,_,h,hm=>by cases hm
 |s::t,i,ht,h,hm=>by
  have h0:=ht 0 s rfl
  have hA:At l (e:Int) (i:Int) x c s:=UM hk (by omega) (by simpa using hx) hc (by simpa using h0)
  have ih:=RK hk hx hc t (i+1) fun j s hj=>by have:=ht (j+1) s (by simpa using hj);rwa [show i+1+j=i+(j+1) by omega]
  rw [x7] at hm
  cases hw:jT l x s i == [] with
  |true=>rw [hw] at hm;exact ih h hm
  |false=>
   rw [hw] at hm
   rcases List.mem_cons.1 hm with rfl | hm
   ·exact ⟨⟨x,c,s,hA⟩,JK hc s i⟩
   ·exact ih h hm
theorem RL{l:Lex}(hk:cD l=0):∀ (t:List aK) (e:Nat),(∀ (j:Nat) (x:aK),t[j]?=some x→l.entries.l[e+j]?=some x)→∀ h∈D9 l e t,LG l h
 |[],_,_,h,hm=>by cases hm
 |x::t,e,ht,h,hm=>by
  have h0:l.entries.l[e]?=some x:=ht 0 x rfl
  obtain ⟨c,hc⟩:=Lq hk h0
  have ih:=RL hk t (e+1) fun j s hj=>by have:=ht (j+1) s (by simpa using hj);rwa [show e+1+j=e+(j+1) by omega]
  rw [D9,hc.cls] at hm
  rcases List.mem_append.1 hm with hm | hm
  ·exact RK hk h0 hc c.slots.l 0 (fun j s hj=>by rwa [Nat.zero_add]) h hm
  ·exact ih h hm
theorem VR{l:Lex}(hk:cD l=0):∀ h∈xl l,LG l h:=RL hk l.entries.l 0 fun j x hj=>by rwa [Nat.zero_add]
end
section
attribute [local congr] aF cu bm aG a7 aR aH aA aC aS aT
variable{E:bC}(M:cT cY E)
theorem Mm(hS:SpE E)(hA:Iu E)(s p:Str)(H:List ae):M.run pW [.str s,.str p] H=some (.ret (.tuple [.str (sel (kC s p) (s.drop p.length) s),.bool (kC s p)]),H):=by
 have h1:M.run ib [.str s,.str p] H=some (.ret (.tuple [.str (sel (kC s p) (s.drop p.length) s),.bool (kC s p)]),H):=by
  have h0:=fun H=>D4 M hS s p H
  rw [aY M hA.internal_stringslite_CutPrefix rfl (c:=il) rfl,il]
  cases hd:kC s p with
  |true=>
   have hle:p.length≤s.length:=by
    simp only [kC,Bool.and_eq_true,decide_eq_true_eq] at hd;omega
   simp (maxSteps:=3000000) (maxDischargeDepth:=6) +contextual -implicitDefEqProofs only [amA M,amB,↓aj,↓ab,↓al,↓ak,Nat.reduceBEq,Nat.reduceAdd,env,ao,kO,h0,hd,xj hle,sel,wk_tuple]
  |false=>
   simp (maxSteps:=3000000) (maxDischargeDepth:=6) +contextual -implicitDefEqProofs only [amA M,amB,↓aj,↓ab,↓al,↓ak,Nat.reduceBEq,Nat.reduceAdd,env,ao,kO,h0,hd,sel,wk_tuple]
 rw [aY M hA.strings_CutPrefix rfl (c:=p6) rfl,p6]
 simp (maxSteps:=3000000) (maxDischargeDepth:=6) +contextual -implicitDefEqProofs only [amA M,amB,↓aj,↓ab,↓al,↓ak,Nat.reduceBEq,Nat.reduceAdd,env,ao,EF,h1,wk_tuple]
def fsT:List aJ→Sl aJ
 |[]=>⟨.nil,[]⟩
 |x::t=>⟨.any,x::t⟩
theorem Hs(l:List aJ):(fsT l).l=l:=by cases l<;>rfl
def Fb(w:Str)(hv:List aJ):List bP→List Analysis
 |[]=>[]
 |h::t=>sel (h.w == w) (⟨fsT hv,h.e,h.q⟩::Fb w hv t) (Fb w hv t)
def tz(F:Str→List aJ→List Analysis)(w:Str)(hv:List aJ):List bw→List Analysis
 |[]=>[]
 |o::t=>sel (kC w o.w) (F (w.drop o.w.length) (hv++[o.first])++tz F w hv t) (tz F w hv t)
def s4(fs:List bP)(os:List bw):Nat→Str→List aJ→List Analysis
 |0,w,hv=>Fb w hv fs
 |n+1,w,hv=>tz (fun w hv=>s4 fs os n w hv) w hv os
theorem PN(w:Str)(hv:List aJ):∀ fs:List bP,(Fb w hv fs).length≤fs.length
 |[]=>Nat.le_refl _
 |h::t=>by
  have h1:=PN w hv t
  rw [Fb]
  cases (h.w == w)<;>simp only [sel,List.length_cons]<;>omega
theorem Nd{F:Str→List aJ→List Analysis}{B:Nat}(hF:∀ w hv,(F w hv).length≤B)(w:Str)(hv:List aJ):∀ os:List bw,(tz F w hv os).length≤os.length*B
 |[]=>by simp [tz]
 |o::t=>by
  have h1:=Nd hF w hv t
  have h2:=hF (w.drop o.w.length) (hv++[o.first])
  rw [tz,List.length_cons,Nat.add_mul,Nat.one_mul]
  cases kC w o.w<;>simp only [sel,List.length_append]<;>omega
theorem Ht(fs:List bP)(os:List bw):∀ (n:Nat) (w:Str) (hv:List aJ),(s4 fs os n w hv).length≤os.length ^ n*fs.length
 |0,w,hv=>by have:=PN w hv fs;rw [s4];simpa using this
 |n+1,w,hv=>by
  rw [s4,Nat.pow_succ,Nat.mul_comm (os.length ^ n),Nat.mul_assoc]
  exact Nd (fun w hv=>Ht fs os n w hv) w hv os
theorem LI{fs:List bP}{os:List bw}(hf:fs.length≤3072)(ho:os.length≤24576){n:Nat}(hn:n≤2)(w:Str)(hv:List aJ):(s4 fs os n w hv).length≤1900000000000:=by
 have h1:=Ht fs os n w hv
 have h2:os.length ^ n≤24576 ^ n:=Nat.pow_le_pow_left ho n
 have h3:24576 ^ n≤24576 ^ 2:=Nat.pow_le_pow_right (by decide) hn
 have h4:=Nat.mul_le_mul (Nat.le_trans h2 h3) hf
 have h5:24576 ^ 2*3072≤1900000000000:=by decide
 omega
theorem Hu(m:List Analysis)(hm:∀ x∈m,∃ l,x.firsts=fsT l):(∀ x∈m,(Analysis.row x).length=3∧(Analysis.row x).all AV.cell=true)∧(∀ x∈m,(Analysis.row x).map AV.strip=Analysis.row x):=⟨fun _ _=>⟨rfl,rfl⟩,fun x h=>by
 obtain ⟨l,e⟩:=hm x h
 unfold Analysis.row
 rw [e]
 cases l<;>rfl⟩
theorem W8(n:Nat)(x:Analysis)(l:List aJ)(e:x.firsts=fsT l):WkL n (Analysis.row x) (Analysis.row x):=by
 have hw:Wk n (.slice (fsT l).tag 3 ((fsT l).l.map aJ.row)) (.slice (fsT l).tag 3 ((fsT l).l.map aJ.row)):=wk_slice (by cases l<;>trivial) (ua Ly _ _)
 unfold Analysis.row
 rw [e]
 exact ⟨hw,wk_int _ _ _,wk_int _ _ _,trivial⟩
theorem JM(w:Str)(hv:List aJ):∀ fs:List bP,∀ x∈Fb w hv fs,∃ l,x.firsts=fsT l
 |[],x,h=>by cases h
 |y::t,x,h=>by
  rw [Fb] at h
  cases hb:(y.w == w) with
  |true=>
   rw [hb] at h
   rcases List.mem_cons.1 h with rfl | h
   ·exact ⟨hv,rfl⟩
   ·exact JM w hv t x h
  |false=>rw [hb] at h;exact JM w hv t x h
theorem LJ{F:Str→List aJ→List Analysis}(hF:∀ w hv,∀ x∈F w hv,∃ l,x.firsts=fsT l)(w:Str)(hv:List aJ):∀ os:List bw,∀ x∈tz F w hv os,∃ l,x.firsts=fsT l
 |[],x,h=>by cases h
 |y::t,x,h=>by
  rw [tz] at h
  cases hb:kC w y.w with
  |true=>
   rw [hb] at h
   rcases List.mem_append.1 h with h | h
   ·exact hF _ _ x h
   ·exact LJ hF w hv t x h
  |false=>rw [hb] at h;exact LJ hF w hv t x h
theorem Hv(fs:List bP)(os:List bw):∀ (n:Nat) (w:Str) (hv:List aJ),∀ x∈s4 fs os n w hv,∃ l,x.firsts=fsT l
 |0,w,hv=>JM w hv fs
 |n+1,w,hv=>LJ (fun w hv=>Hv fs os n w hv) w hv os
theorem Ey(n:Nat)(m:List Analysis)(hm:∀ x∈m,∃ l,x.firsts=fsT l):mI n (m.map Analysis.row):=by
 rw [rowsWk_map];exact fun x h=>by obtain ⟨l,e⟩:=hm x h;exact W8 n x l e
theorem Q6{E:bC}{g:FuncId}{first cap args:List AV}{H H':List ae}{T L:List Nat}{v:AV}(h:H'.take H.length=H):Cx cY E .keep (.fn (.func g) first cap) args H T L (some (.ret v,H'))=some (v,H',T,L):=by
 unfold Cx vq
 simp only [HO h,Cw.b,if_true]
theorem RN(E:bC)(g:FuncId)(first cap args:List AV)(H:List ae)(x y z:ae)(T L:List Nat)(v:AV):Cx cY E .keep (.fn (.func g) first cap) args (H++[x,y]) T L (some (.ret v,H++[x,y,z]))=some (v,H++[x,y,z],T,L):=
 Q6 (by rw [show H++[x,y,z]=(H++[x,y])++[z] by simp,List.take_left])
theorem W9(hA:Iu E){w:Str}{hv:List aJ}(hvl:hv.length≤2){tg:Tag}(htg:(tg = .nil∧hv=[])∨hv≠[]){fs:List bP}(hfl:fs.length≤3072){tf:Tag}{H H0:List ae}(hfw:qk H.length tf)(hvw:qk H.length tg)(k:List Fra):∀ (n i:Nat) (o:List Analysis) (He:List ae),(∀ x∈o,∃ l,x.firsts=fsT l)→He=H++[.tok (o.length*3) au]→i+n=fs.length→o.length+n≤10000 →
  M.go eS H0 (.c gA :: .lp ⟨(some [2,4,11,20,21,22]),[(11,3,au)],true⟩ gA He :: .blk 0 :: .c (.lv [11])::k) (kv [(2,.str w),(4,.slice tg 3 (hv.map aJ.row)),(11,.slice (.own H.length) 3 (o.map Analysis.row)),(20,.slice tf 3 (fs.map bP.row)),(21,.int .i64 fs.length),(22,.int .i64 i)]) (H++[.tok (o.length*3) au]) =
   M.go eS H0 k (kv [(11,.slice (.own H.length) 3 ((o++Fb w hv (fs.drop i)).map Analysis.row))]) (H++[.tok ((o++Fb w hv (fs.drop i)).length*3) au])
 |0,i,o,He,hof,hHe,h,ho=>by
  have e:i=fs.length:=by omega
  subst e
  rw [List.drop_length,Fb,List.append_nil]
  rw [aw M gA.eq_1]
  simp (maxSteps:=3000000) (maxDischargeDepth:=6) +contextual -implicitDefEqProofs only [amA M,amB,↓aj,↓ab,↓al,↓ak,Nat.reduceBEq,Nat.reduceAdd,env,ao,eT,Nat.lt_irrefl]
 |n+1,i,o,He,hof,hHe,h,ho=>by
  subst hHe
  have hi:i<fs.length:=by omega
  have hx:fs[i]?=some fs[i]:=List.getElem?_eq_getElem hi
  have hd:fs.drop i=fs[i]::fs.drop (i+1):=List.drop_eq_getElem_cons hi
  generalize fs[i]=y at hx hd
  have w1:Wk (H.length+1) (.slice tf 3 (fs.map bP.row)) (.slice tf 3 (fs.map bP.row)):=wk_slice (hfw.mono (by omega)) (ua Hr _ fs)
  have w2:Wk (H.length+1) (.slice tg 3 (hv.map aJ.row)) (.slice tg 3 (hv.map aJ.row)):=wk_slice (hvw.mono (by omega)) (ua Ly _ hv)
  have w4:=fun (o:List Analysis) (ho:∀ x∈o,∃ l,x.firsts=fsT l)=>wk_slice (n:=H.length+1) (esz:=3) (tag:=.own H.length) (show H.length<H.length+1 by omega) (Ey _ o ho)
  have hws:=c6 hi (show fs.length≤bD by simp only [bD];omega)
  rw [hd,Fb]
  cases hb:y.w == w with
  |false=>
   have ih:=W9 hA hvl htg hfl hfw hvw (w:=w) (H0:=H0) k n (i+1) o _ hof rfl (by omega) (by omega)
   have w5:=w4 o hof
   simp only [kv_cons,kv_nil,sel] at ih ⊢
   rw [aw M gA.eq_1]
   simp (maxSteps:=3000000) (maxDischargeDepth:=6) +contextual -implicitDefEqProofs only [amA M,amB,↓aj,↓ab,↓al,↓ak,Nat.reduceBEq,Nat.reduceAdd,env,ao,eT,amG,AV.cell,Nat.reduceMul,Nat.reduceLeDiff,hi,hx,hb,ih,w1,w2,w5,yL,uF,hws,bo hi,M9]
  |true=>
   have hof2:∀ x∈o++[(⟨fsT hv,y.e,y.q⟩:Analysis)],∃ l,x.firsts=fsT l:=by
    intro x hx
    rcases List.mem_append.1 hx with hx | hx
    ·exact hof x hx
    ·rw [List.mem_singleton.1 hx];exact ⟨hv,rfl⟩
   have ih:=W9 hA hvl htg hfl hfw hvw (w:=w) (H0:=H0) k n (i+1) (o++[⟨fsT hv,y.e,y.q⟩]) _ hof2 rfl (by omega) (by simp;omega)
   have w5:=w4 _ hof2
   simp only [kv_cons,kv_nil,sel,List.append_assoc,List.cons_append,List.nil_append] at ih w5 ⊢
   rcases htg with ⟨rfl,rfl⟩ | hne
   ·have ap:=fun L=>JJ (row:=Analysis.row) (l:=o) (x:=⟨fsT [],y.e,y.q⟩) (r:=[.slice .nil 3 [],.int .i64 y.e,.int .i64 y.q]) (sz:=3) (bytes:=40) (e:=au) H L rfl rfl rfl (by omega) (by omega)
    simp only [List.map_nil] at ih w2 ⊢
    rw [aw M gA.eq_1]
    simp (maxSteps:=3000000) (maxDischargeDepth:=6) +contextual -implicitDefEqProofs only [amA M,amB,↓aj,↓ab,↓al,↓ak,Nat.reduceBEq,Nat.reduceAdd,env,ao,eT,amG,AV.cell,Nat.reduceMul,Nat.reduceLeDiff,hi,hx,hb,Lz M hA,ap,ih,w1,w2,w5,yL,uF,hws,bo hi,M9]
   ·have hcl:=fun H=>LA M hA hne (by omega) tg H
    have ap:=fun L=>JJ (row:=Analysis.row) (l:=o) (x:=⟨fsT hv,y.e,y.q⟩) (r:=[.slice .any 3 (hv.map aJ.row),.int .i64 y.e,.int .i64 y.q]) (sz:=3) (bytes:=40) (e:=au) H L rfl rfl (by cases hv with | nil=>exact absurd rfl hne | cons a b=>rfl) (by omega) (by omega)
    rw [aw M gA.eq_1]
    simp (maxSteps:=3000000) (maxDischargeDepth:=6) +contextual -implicitDefEqProofs only [amA M,amB,↓aj,↓ab,↓al,↓ak,Nat.reduceBEq,Nat.reduceAdd,env,ao,eT,amG,AV.cell,Nat.reduceMul,Nat.reduceLeDiff,hi,hx,hb,hcl,RN,ap,ih,w1,w2,w5,yL,uF,hws,bo hi,M9]
end
section
attribute [local congr] aF cu bm aG a7 aR aH aA aC aS aT
variable{E:bC}(M:cT cY E)
theorem VS(H:List ae)(x y:ae)(f:aJ):rap false (H++[x,y]) dE 3 24 false (.slice .nil 3 []) (.slice .full 3 [aJ.row f])=some (.slice (.own (H.length+2)) 3 [aJ.row f],H++[x,y,.tok 3 dE]):=by
 have hr:n9 3 [aJ.row f]=true:=rfl
 have hs:(aJ.row f).map AV.strip=aJ.row f:=rfl
 simp [rap,Dj,Ct,hr,hs]
theorem VT(H:List ae)(x y:ae){hv:List aJ}(hl:hv.length≤100)(f:aJ):rap false (H++[x,y,.tok (hv.length*3) dE]) dE 3 24 false (.slice (.own (H.length+2)) 3 (hv.map aJ.row)) (.slice .full 3 [aJ.row f])=some (.slice (.own (H.length+2)) 3 ((hv++[f]).map aJ.row),H++[x,y,.tok ((hv++[f]).length*3) dE]):=by
 have h:=TZ (row:=aJ.row) (l:=hv) (x:=f) (r:=aJ.row f) (sz:=3) (bytes:=24) (e:=dE) (H++[x,y]) rfl rfl rfl (by omega) (by omega)
 simpa using h
theorem Xa(hS:SpE E)(hA:Iu E){fs:List bP}{os:List bw}(hfl:fs.length≤3072)(hol:os.length≤24576){w:Str}{hv:List aJ}{m:Nat}(hvl:hv.length+m≤1){tg:Tag}(htg:(tg = .nil∧hv=[])∨hv≠[]){tf to:Tag}{H H0:List ae}(hfw:qk H.length tf)(how:qk H.length to)(hvw:qk H.length tg)
  (hrec:∀ (w:Str) (hv:List aJ) (tg:Tag) (H2:List ae),hv.length+m≤2→(tg = .nil∧hv=[])∨hv≠[]→H.length≤H2.length→qk H2.length tg →
   M.run lN [.slice tf 3 (fs.map bP.row),.slice to 4 (os.map bw.row),.str w,.int .i64 m,.slice tg 3 (hv.map aJ.row)] H2=some (.ret (.slice .any 3 ((s4 fs os m w hv).map Analysis.row)),H2)) (k:List Fra) :
  ∀ (n i:Nat) (o:List Analysis) (He:List ae),(∀ x∈o,∃ l,x.firsts=fsT l)→He=H++[.tok (o.length*3) au]→i+n=os.length→o.length+(tz (fun w hv=>s4 fs os m w hv) w hv (os.drop i)).length≤3000000000000 →
  M.go eS H0 (.c gB :: .lp ⟨(some [0,1,2,3,4,11,42,43,44]),[(11,3,au)],true⟩ gB He :: .blk 2 :: .c (.lv [11])::k) (kv [(0,.slice tf 3 (fs.map bP.row)),(1,.slice to 4 (os.map bw.row)),(2,.str w),(3,.int .i64 ((m+1:Nat):Int)),(4,.slice tg 3 (hv.map aJ.row)),(11,.slice (.own H.length) 3 (o.map Analysis.row)),(42,.slice to 4 (os.map bw.row)),(43,.int .i64 os.length),(44,.int .i64 i)]) (H++[.tok (o.length*3) au]) =
   M.go eS H0 k (kv [(11,.slice (.own H.length) 3 ((o++tz (fun w hv=>s4 fs os m w hv) w hv (os.drop i)).map Analysis.row))]) (H++[.tok ((o++tz (fun w hv=>s4 fs os m w hv) w hv (os.drop i)).length*3) au])
 |0,i,o,He,hof,hHe,h,ho=>by
  have e:i=os.length:=by omega
  subst e
  rw [List.drop_length,tz,List.append_nil]
  rw [aw M gB.eq_1]
  simp (maxSteps:=3000000) (maxDischargeDepth:=6) +contextual -implicitDefEqProofs only [amA M,amB,↓aj,↓ab,↓al,↓ak,Nat.reduceBEq,Nat.reduceAdd,env,ao,eT,Nat.lt_irrefl]
 |n+1,i,o,He,hof,hHe,h,ho=>by
  subst hHe
  have hi:i<os.length:=by omega
  have hx:os[i]?=some os[i]:=List.getElem?_eq_getElem hi
  have hd:os.drop i=os[i]::os.drop (i+1):=List.drop_eq_getElem_cons hi
  generalize os[i]=y at hx hd
  have w1:Wk (H.length+1) (.slice tf 3 (fs.map bP.row)) (.slice tf 3 (fs.map bP.row)):=wk_slice (hfw.mono (by omega)) (ua Hr _ fs)
  have w2:Wk (H.length+1) (.slice tg 3 (hv.map aJ.row)) (.slice tg 3 (hv.map aJ.row)):=wk_slice (hvw.mono (by omega)) (ua Ly _ hv)
  have w3:Wk (H.length+1) (.slice to 4 (os.map bw.row)) (.slice to 4 (os.map bw.row)):=wk_slice (how.mono (by omega)) (ua JL _ os)
  have w4:=fun (o:List Analysis) (ho:∀ x∈o,∃ l,x.firsts=fsT l)=>wk_slice (n:=H.length+1) (esz:=3) (tag:=.own H.length) (show H.length<H.length+1 by omega) (Ey _ o ho)
  have hws:=c6 hi (show os.length≤bD by simp only [bD];omega)
  have hcp:=fun H=>Mm M hS hA w y.w H
  have hpr:IntKind.i64.wrap (((m+1:Nat):Int)-1)=(m:Int):=Sy (by omega)
  rw [hd,tz] at ho ⊢
  cases hb:kC w y.w with
  |false=>
   rw [hb] at ho hcp
   have ih:=Xa hS hA hfl hol hvl htg hfw how hvw hrec (w:=w) (H0:=H0) k n (i+1) o _ hof rfl (by omega) ho
   have w5:=w4 o hof
   simp only [sel] at hcp
   simp only [kv_cons,kv_nil,sel] at ih ⊢
   rw [aw M gB.eq_1]
   simp (maxSteps:=3000000) (maxDischargeDepth:=6) +contextual -implicitDefEqProofs only [amA M,amB,↓aj,↓ab,↓al,↓ak,Nat.reduceBEq,Nat.reduceAdd,env,ao,eT,amG,AV.cell,Nat.reduceMul,Nat.reduceLeDiff,hi,hx,hb,hcp,ih,w1,w2,w3,w5,yL,uF,hws,bo hi,Q4,uM]
  |true=>
   rw [hb] at ho hcp
   simp only [sel,List.length_append] at ho hcp
   have hms:=fun l=>Hv fs os m (w.drop y.w.length) (hv++[y.first]) l
   have hof2:∀ x∈o++s4 fs os m (w.drop y.w.length) (hv++[y.first]),∃ l,x.firsts=fsT l:=by
    intro x hx
    rcases List.mem_append.1 hx with hx | hx
    ·exact hof x hx
    ·exact hms x hx
   have ih:=Xa hS hA hfl hol hvl htg hfw how hvw hrec (w:=w) (H0:=H0) k n (i+1) (o++s4 fs os m (w.drop y.w.length) (hv++[y.first])) _ hof2 rfl (by omega) (by rw [List.length_append];omega)
   have w5:=w4 _ hof2
   have ap:=fun L=>PL (row:=Analysis.row) (l:=o) (m:=s4 fs os m (w.drop y.w.length) (hv++[y.first])) (tg:=.any) (sz:=3) (bytes:=40) (e:=au) H L (Hu _ hms).1 (Hu _ hms).2 (by omega) (by omega)
   have hr:=fun X Y Z=>hrec (w.drop y.w.length) (hv++[y.first]) (.own (H.length+2)) (H++[X,Y,Z]) (by simp;omega) (.inr (by simp)) (by simp) (by simp [qk])
   generalize s4 fs os m (w.drop y.w.length) (hv++[y.first])=rs at ih w5 ap hr
   simp only [kv_cons,kv_nil,sel,List.append_assoc,List.cons_append,List.nil_append] at ih w5 ⊢
   rcases htg with ⟨rfl,rfl⟩ | hne
   ·simp only [List.map_nil,List.nil_append,List.map_cons] at ih w2 hr ⊢
    rw [aw M gB.eq_1]
    simp (maxSteps:=3000000) (maxDischargeDepth:=6) +contextual -implicitDefEqProofs only [amA M,amB,↓aj,↓ab,↓al,↓ak,Nat.reduceBEq,Nat.reduceAdd,env,ao,eT,amG,AV.cell,Nat.reduceMul,Nat.reduceLeDiff,hi,hx,hb,hcp,hpr,Lz M hA,VS,hr,ap,ih,w1,w2,w3,w5,yL,uF,hws,bo hi,Q4,uM]
   ·have hcl:=fun H=>LA M hA hne (by omega) tg H
    rw [aw M gB.eq_1]
    simp (maxSteps:=3000000) (maxDischargeDepth:=6) +contextual -implicitDefEqProofs only [amA M,amB,↓aj,↓ab,↓al,↓ak,Nat.reduceBEq,Nat.reduceAdd,env,ao,eT,amG,AV.cell,Nat.reduceMul,Nat.reduceLeDiff,hi,hx,hb,hcp,hpr,hcl,RN,VT H _ _ (show hv.length≤100 by omega),hr,ap,ih,w1,w2,w3,w5,yL,uF,hws,bo hi,Q4,uM]
end
section
attribute [local congr] aF cu bm aG a7 aR aH aA aC aS aT
variable{E:bC}(M:cT cY E)
theorem Hw(hS:SpE E)(hA:Iu E){fs:List bP}{os:List bw}(hfl:fs.length≤3072)(hol:os.length≤24576){tf to:Tag}(hfw:qk 0 tf)(how:qk 0 to):∀ (n:Nat) (w:Str) (hv:List aJ) (tg:Tag) (H:List ae),hv.length+n≤2→(tg = .nil∧hv=[])∨hv≠[]→qk H.length tg →
  M.run lN [.slice tf 3 (fs.map bP.row),.slice to 4 (os.map bw.row),.str w,.int .i64 n,.slice tg 3 (hv.map aJ.row)] H=some (.ret (.slice .any 3 ((s4 fs os n w hv).map Analysis.row)),H)
 |0,w,hv,tg,H,hn,htg,hvw=>by
  rw [aY M hA.morph_analyses rfl (c:=lX) rfl,lX]
  have h1:=fun k=>W9 M hA (w:=w) (hv:=hv) (by omega) htg hfl (H:=H) (H0:=H) (hfw.mono (Nat.zero_le _)) hvw k fs.length 0 [] _ (by simp) rfl (by omega) (by simp;omega)
  simp only [kv_cons,kv_nil,Int.ofNat_zero,List.drop_zero,List.length_nil,List.nil_append,List.map_nil,Nat.zero_mul] at h1
  have hwk:=fun n=>Ey n _ (JM w hv fs)
  simp only [rowsWk_map] at hwk
  have hz:((((0:Nat):Int)) == 0)=true:=rfl
  rw [s4]
  simp (maxSteps:=3000000) (maxDischargeDepth:=6) +contextual -implicitDefEqProofs only [amA M,amB,↓aj,↓ab,↓al,↓ak,Nat.reduceBEq,Nat.reduceAdd,env,ao,eT,amG,AV.cell,Nat.reduceMul,Nat.reduceLeDiff,h1,hwk,hz,implies_true,cut_app]
 |n+1,w,hv,tg,H,hn,htg,hvw=>by
  rw [aY M hA.morph_analyses rfl (c:=lX) rfl,lX]
  have hb:=LI hfl hol (show n+1≤2 by omega) w hv
  have h1:=fun k=>Xa M hS hA hfl hol (w:=w) (hv:=hv) (m:=n) (by omega) htg (H:=H) (H0:=H) (hfw.mono (Nat.zero_le _)) (how.mono (Nat.zero_le _)) hvw (fun w hv tg H2 h1 h2 _ h4=>Hw hS hA hfl hol hfw how n w hv tg H2 h1 h2 h4) k os.length 0 [] _ (by simp) rfl (by omega) (by rw [s4] at hb;simp only [List.drop_zero,List.length_nil];omega)
  simp only [kv_cons,kv_nil,Int.ofNat_zero,List.drop_zero,List.length_nil,List.nil_append,List.map_nil,Nat.zero_mul] at h1
  have hwk:=fun k=>Ey k _ (Hv fs os (n+1) w hv)
  have hz:((((n+1:Nat):Int)) == 0)=false:=by simp;omega
  rw [s4] at hwk ⊢
  simp only [rowsWk_map] at hwk
  simp (maxSteps:=3000000) (maxDischargeDepth:=6) +contextual -implicitDefEqProofs only [amA M,amB,↓aj,↓ab,↓al,↓ak,Nat.reduceBEq,Nat.reduceAdd,env,ao,eT,amG,AV.cell,Nat.reduceMul,Nat.reduceLeDiff,h1,hwk,hz,implies_true,cut_app]
def Ea(fs:List bP)(os:List bw)(w:Str):Nat→Nat→List Analysis
 |_,0=>[]
 |i,n+1=>s4 fs os i w []++Ea fs os w (i+1) n
theorem N8(fs:List bP)(os:List bw)(w:Str):∀ n i,∀ x∈Ea fs os w i n,∃ l,x.firsts=fsT l
 |0,i,x,h=>by cases h
 |n+1,i,x,h=>by
  rw [Ea] at h
  rcases List.mem_append.1 h with h | h
  ·exact Hv fs os i w [] x h
  ·exact N8 fs os w n (i+1) x h
theorem PO{fs:List bP}{os:List bw}(hfl:fs.length≤3072)(hol:os.length≤24576)(w:Str):(Ea fs os w 0 3).length≤2000000000000:=by
 have h0:=Ht fs os 0 w []
 have h1:=Ht fs os 1 w []
 have h2:=LI hfl hol (show 2≤2 by omega) w []
 have h3:os.length ^ 1*fs.length≤24576*3072:=Nat.mul_le_mul (by simpa using hol) hfl
 simp only [Ea,List.length_append,List.length_nil,Nat.zero_add,Nat.reduceAdd]
 simp only [Nat.pow_zero,Nat.one_mul] at h0
 omega
def A6(l:Lex)(w:Str):List Analysis:=Ea (xl l) (x8 l (xl l)) w 0 3
theorem azl(hS:SpE E)(hA:Iu E){fs:List bP}{os:List bw}(hfl:fs.length≤3072)(hol:os.length≤24576){w:Str}{tf to:Tag}(hfw:qk 0 tf)(how:qk 0 to){H H0:List ae}(k:List Fra):∀ (n i:Nat) (o:List Analysis) (He:List ae),i+n=3→(∀ x∈o,∃ l,x.firsts=fsT l)→o.length+(Ea fs os w i n).length≤3000000000000 →
  M.go dh H0 (.c fw :: .lp ⟨(some [1,5,6,7,14]),[(7,3,au)],false⟩ fw He :: .blk 0 :: .c (.lv [7])::k) (kv [(1,.str w),(5,.slice tf 3 (fs.map bP.row)),(6,.slice to 4 (os.map bw.row)),(7,.slice (.own H.length) 3 (o.map Analysis.row)),(14,.int .i64 i)]) (H++[.tok (o.length*3) au]) =
   M.go dh H0 k (kv [(7,.slice (.own H.length) 3 ((o++Ea fs os w i n).map Analysis.row))]) (H++[.tok ((o++Ea fs os w i n).length*3) au])
 |0,i,o,He,h,hof,ho=>by
  have e:i=3:=by omega
  subst e
  have d3:decide (((3:Nat):Int)<3)=false:=by decide
  rw [Ea,List.append_nil]
  rw [aw M fw.eq_1]
  simp (maxSteps:=3000000) (maxDischargeDepth:=6) +contextual -implicitDefEqProofs only [amA M,amB,↓aj,↓ab,↓al,↓ak,Nat.reduceBEq,Nat.reduceAdd,env,ao,lj,d3]
 |n+1,i,o,He,h,hof,ho=>by
  have d3:decide (((i:Nat):Int)<3)=true:=decide_eq_true (by omega)
  have hws:IntKind.i64.wrap ((i:Int)+1)=((i+1:Nat):Int):=Sx (by omega)
  have hr:=fun H=>Hw M hS hA hfl hol hfw how i w [] .nil H (by simp;omega) (.inl ⟨rfl,rfl⟩) trivial
  rw [Ea] at ho ⊢
  rw [List.length_append] at ho
  have hms:=Hv fs os i w []
  have ap:=fun L=>PL (row:=Analysis.row) (l:=o) (m:=s4 fs os i w []) (tg:=.any) (sz:=3) (bytes:=40) (e:=au) H L (Hu _ hms).1 (Hu _ hms).2 (by omega) (by omega)
  have hof2:∀ x∈o++s4 fs os i w [],∃ l,x.firsts=fsT l:=by
   intro x hx
   rcases List.mem_append.1 hx with hx | hx
   ·exact hof x hx
   ·exact hms x hx
  have ih:=fun He=>azl hS hA hfl hol (w:=w) hfw how (H:=H) (H0:=H0) k n (i+1) (o++s4 fs os i w []) He (by omega) hof2 (by rw [List.length_append];omega)
  generalize s4 fs os i w []=rs at ih ap hr
  simp only [List.map_nil] at hr
  simp only [kv_cons,kv_nil,List.append_assoc] at ih ⊢
  rw [aw M fw.eq_1]
  simp (maxSteps:=3000000) (maxDischargeDepth:=6) +contextual -implicitDefEqProofs only [amA M,amB,↓aj,↓ab,↓al,↓ak,Nat.reduceBEq,Nat.reduceAdd,env,ao,lj,amG,AV.cell,Nat.reduceMul,Nat.reduceLeDiff,d3,hws,hr,ap,ih]
theorem PP(hN:dG E)(hW:WdE M)(hE:iV E)(hS:SpE E)(hX:o4 M)(hY:D7 M)(hB:pA E)(hF:sZ E)(hU:vL E){srt:List aq→List aq}(hO:yK M srt)(hP:Srt srt)(hV:Jv E)(hA:Iu E){l:Lex}(hl:l.ok 0)(hk:cD l=0)(w:Str)(H:List ae) :
  M.run k9 [.agg l.row,.str w] H=some (.ret (.slice .any 3 ((A6 l w).map Analysis.row)),H):=by
 rw [aY M hA.morph_language_analyze rfl (c:=lg) rfl,lg]
 have h1:=fun H=>Q5 M hN hW hE hS hX hY hB hF hA hl hk H
 have h2:=fun H=>N7 M hW hE hU hO hP hF hV hA hl hk (VR hk) (LC hk) (tf:=.any) trivial H
 have hsl:=LC hk
 have hol:=LF hk (xl l)
 have h3:=fun k He=>azl M hS hA hsl (show (x8 l (xl l)).length≤24576 by omega) (w:=w) (tf:=.any) (to:=.any) trivial trivial (H:=H++[.cells l.row aD]) (H0:=H) k 3 0 [] He (by omega) (by simp) (by have:=PO hsl (show (x8 l (xl l)).length≤24576 by omega) w;simp only [List.length_nil];omega)
 have hwk:=fun n=>Ey n _ (N8 (xl l) (x8 l (xl l)) w 3 0)
 rw [A6]
 generalize Ea (xl l) (x8 l (xl l)) w 0 3=rs at h3 hwk
 simp only [rowsWk_map] at hwk
 simp only [kv_cons,kv_nil,Int.ofNat_zero,List.drop_zero,List.length_append,List.length_cons,List.length_nil,Nat.zero_add,Nat.reduceAdd,List.append_assoc,List.cons_append,List.nil_append,List.map_nil,Nat.zero_mul] at h3
 simp (maxSteps:=3000000) (maxDischargeDepth:=6) +contextual -implicitDefEqProofs only [amA M,amB,↓aj,↓ab,↓al,↓ak,Nat.reduceBEq,Nat.reduceAdd,env,ao,lj,amG,AV.cell,Nat.reduceMul,Nat.reduceLeDiff,h1,h2,h3,hwk,cZ,implies_true,cut_app]
end
section
attribute [local congr] aF cu bm aG a7 aR aH aA aC aS aT
variable{E:bC}(M:cT cY E)
def VU(l:Lex)(w:Str):AV:=
 sel (!(cD l == 0)) (.tuple [.slice .any 3 [],.int .u8 (cD l)]) (sel (!(Cp w)) (.tuple [.slice .any 3 [],.int .u8 1]) (.tuple [.slice .any 3 ((A6 l w).map Analysis.row),.int .u8 0]))
theorem VV(l:Lex)(w:Str):∀ n:Nat,∀ x∈A6 l w,WkL n (Analysis.row x) (Analysis.row x):=fun n=>by
 have:=Ey n _ (N8 (xl l) (x8 l (xl l)) w 3 0)
 rw [rowsWk_map] at this
 exact this
theorem I4(hN:dG E)(hW:WdE M)(hE:iV E)(hS:SpE E)(hX:o4 M)(hY:D7 M)(hB:pA E)(hF:sZ E)(hU:vL E){srt:List aq→List aq}(hO:yK M srt)(hP:Srt srt)(hV:Jv E)(hA:Iu E){l:Lex}(hl:l.ok 0){w:Str}(hw:w.length≤bD)(H:List ae) :
  M.run jh [.agg l.row,.str w] H=some (.ret (VU l w),H):=by
 rw [aY M hA.morph_Analyze rfl (c:=uX) rfl,uX]
 unfold VU
 have hwd:=fun H=>O3 M hN hw H
 cases hk:cD l == 0 with
 |false=>
  simp (maxSteps:=3000000) (maxDischargeDepth:=6) +contextual -implicitDefEqProofs only [amA M,amB,↓aj,↓ab,↓al,↓ak,Nat.reduceBEq,Nat.reduceAdd,env,ao,uY,amG,AV.cell,Nat.reduceMul,Nat.reduceLeDiff,tN M hN hE hl,Nat.zero_le,hk,cZ,k6,wk_tuple,sel]
 |true=>
  cases hww:Cp w with
  |false=>
   rw [hww] at hwd
   simp (maxSteps:=3000000) (maxDischargeDepth:=6) +contextual -implicitDefEqProofs only [amA M,amB,↓aj,↓ab,↓al,↓ak,Nat.reduceBEq,Nat.reduceAdd,env,ao,uY,amG,AV.cell,Nat.reduceMul,Nat.reduceLeDiff,tN M hN hE hl,Nat.zero_le,hk,hwd,cZ,k6,wk_tuple,sel]
  |true=>
   rw [hww] at hwd
   have ha:=fun H=>PP M hN hW hE hS hX hY hB hF hU hO hP hV hA hl (eq_of_beq hk) w H
   have hwk:=VV l w
   generalize A6 l w=rs at ha hwk
   simp (maxSteps:=3000000) (maxDischargeDepth:=6) +contextual -implicitDefEqProofs only [amA M,amB,↓aj,↓ab,↓al,↓ak,Nat.reduceBEq,Nat.reduceAdd,env,ao,uY,amG,AV.cell,Nat.reduceMul,Nat.reduceLeDiff,tN M hN hE hl,Nat.zero_le,hk,hwd,ha,hwk,cZ,implies_true,wk_tuple,sel]
def PQ(a b:aJ):Bool:=a.entry == b.entry&&(a.slot == b.slot&&a.link == b.link)
theorem VW{a b:aJ}(h:PQ a b=true):a=b:=by
 simp only [PQ,Bool.and_eq_true,beq_iff_eq] at h
 cases a;cases b;simp_all
theorem S6(a:aJ):PQ a a=true:=by simp [PQ]
theorem Nf(a b:aJ):req (.st [(0,.int .i64),(1,.int .i64),(2,.int .i64)]) (.agg a.row) (.agg b.row)=some (PQ a b):=by
 simp only [req,vU,aJ.row,PQ,El,List.getElem?_cons_zero,List.getElem?_cons_succ,if_true]
 cases a.entry == b.entry<;>cases a.slot == b.slot<;>cases a.link == b.link<;>rfl
def Mn:List aJ→List aJ→Bool
 |x::a,y::b=>PQ x y&&Mn a b
 |_,_=>true
theorem RP:∀ {a b:List aJ},a.length=b.length→Mn a b=true→a=b
 |[],[],_,_=>rfl
 |x::a,y::b,h,h2=>by
  rw [Mn,Bool.and_eq_true] at h2
  rw [VW h2.1,RP (by simpa using h) h2.2]
theorem Ng:∀ a:List aJ,Mn a a=true
 |[]=>rfl
 |x::a=>by rw [Mn,S6,Ng a];rfl
def FB(a b:Analysis):Bool:=sel (a.entry == b.entry) (sel (a.slot == b.slot) (sel (a.firsts.l.length == b.firsts.l.length) (Mn a.firsts.l b.firsts.l) false) false) false
def UQ(M:cT cY E)(fn:AFn)(H0:List ae)(k:List Fra)(b:Bool)(H:List ae):Option Out:=
 match b with
 |true=>M.go fn H0 k (kv []) H
 |false=>some (.ret (.bool false),H.take H0.length)
theorem sal{a b:Analysis}(hab:a.firsts.l.length=b.firsts.l.length)(hal:a.firsts.l.length≤bD){H H0:List ae}{p r:Nat}{T T2:TypeId}(hp:H[p]?=some (.cells a.row T))(hr:H[r]?=some (.cells b.row T2))(hc:dM H0 H)(k:List Fra):∀ (n i:Nat) (He:List ae),i+n=a.firsts.l.length →
  M.go bh H0 (.c di :: .lp ⟨(some [2,3,5]),[],false⟩ di He :: .blk 0 :: .c (.lv [])::k) (kv [(2,.ptr p 0),(3,.ptr r 0),(5,.int .i64 i)]) H=UQ M bh H0 k (Mn (a.firsts.l.drop i) (b.firsts.l.drop i)) H
 |0,i,He,h=>by
  have e:i=a.firsts.l.length:=by omega
  subst e
  rw [List.drop_length,Mn,UQ]
  rw [aw M di.eq_1]
  simp (maxSteps:=3000000) (maxDischargeDepth:=6) +contextual -implicitDefEqProofs only [amA M,amB,↓aj,↓ab,↓al,↓ak,Nat.reduceBEq,Nat.reduceAdd,env,ao,b8,Nat.lt_irrefl,hp,hr,dN]
  ·intro x a y b h;cases h
 |n+1,i,He,h=>by
  have hi:i<a.firsts.l.length:=by omega
  have hi2:i<b.firsts.l.length:=by omega
  have hx:a.firsts.l[i]?=some a.firsts.l[i]:=List.getElem?_eq_getElem hi
  have hd:a.firsts.l.drop i=a.firsts.l[i]::a.firsts.l.drop (i+1):=List.drop_eq_getElem_cons hi
  have hx2:b.firsts.l[i]?=some b.firsts.l[i]:=List.getElem?_eq_getElem hi2
  have hd2:b.firsts.l.drop i=b.firsts.l[i]::b.firsts.l.drop (i+1):=List.drop_eq_getElem_cons hi2
  have ih:=fun He=>sal hab hal hp hr hc k n (i+1) He (by omega)
  have hws:=c6 hi hal
  rw [hd,hd2,Mn]
  generalize a.firsts.l[i]=x at hx
  generalize b.firsts.l[i]=y at hx2
  cases hb:PQ x y with
  |false=>
   simp only [Bool.false_and,UQ]
   rw [aw M di.eq_1]
   simp (maxSteps:=3000000) (maxDischargeDepth:=6) +contextual -implicitDefEqProofs only [amA M,amB,↓aj,↓ab,↓al,↓ak,Nat.reduceBEq,Nat.reduceAdd,env,ao,b8,hi,hx,hx2,hp,hr,Nf,hb,bo hi,bo hi2,dN,uM,Option.map_some,hc]
  |true=>
   simp only [Bool.true_and]
   simp only [kv_cons,kv_nil] at ih
   rw [aw M di.eq_1]
   simp (maxSteps:=3000000) (maxDischargeDepth:=6) +contextual -implicitDefEqProofs only [amA M,amB,↓aj,↓ab,↓al,↓ak,Nat.reduceBEq,Nat.reduceAdd,env,ao,b8,hi,hx,hx2,hp,hr,Nf,hb,bo hi,bo hi2,dN,uM,Option.map_some,ih,hws]
theorem A7(hSA:E.fn bL=some bh){a b:Analysis}(hal:a.firsts.l.length≤bD)(H:List ae) :
  M.run bL [.agg a.row,.agg b.row] H=some (.ret (.bool (FB a b)),H):=by
 rw [aY M hSA rfl (c:=jk) rfl,jk]
 unfold FB
 cases h1:a.entry == b.entry with
 |false=>
  simp (maxSteps:=3000000) (maxDischargeDepth:=6) +contextual -implicitDefEqProofs only [amA M,amB,↓aj,↓ab,↓al,↓ak,Nat.reduceBEq,Nat.reduceAdd,env,ao,b8,amG,AV.cell,Nat.reduceMul,Nat.reduceLeDiff,h1,bne,Bool.not_false,Bool.not_true,dN,sel]
 |true=>
  cases h2:a.slot == b.slot with
  |false=>
   simp (maxSteps:=3000000) (maxDischargeDepth:=6) +contextual -implicitDefEqProofs only [amA M,amB,↓aj,↓ab,↓al,↓ak,Nat.reduceBEq,Nat.reduceAdd,env,ao,b8,amG,AV.cell,Nat.reduceMul,Nat.reduceLeDiff,h1,h2,bne,Bool.not_false,Bool.not_true,dN,sel]
  |true=>
   cases h3:a.firsts.l.length == b.firsts.l.length with
   |false=>
    simp (maxSteps:=3000000) (maxDischargeDepth:=6) +contextual -implicitDefEqProofs only [amA M,amB,↓aj,↓ab,↓al,↓ak,Nat.reduceBEq,Nat.reduceAdd,env,ao,b8,amG,AV.cell,Nat.reduceMul,Nat.reduceLeDiff,h1,h2,h3,bne,Bool.not_false,Bool.not_true,dN,sel]
   |true=>
    have e:a.firsts.l.length=b.firsts.l.length:=eq_of_beq h3
    have h4:=fun k He=>sal M e hal (H:=H++[.cells a.row au,.cells b.row au]) (H0:=H) (p:=H.length) (r:=H.length+1) (T:=au) (T2:=au) (by rw [dX];rfl) (by rw [hp_getk];rfl) (cut_app H _) k a.firsts.l.length 0 He (by omega)
    simp only [kv_cons,kv_nil,Int.ofNat_zero,List.drop_zero] at h4
    simp only [sel]
    cases hb:Mn a.firsts.l b.firsts.l with
    |true=>
     simp only [hb,UQ] at h4
     simp (maxSteps:=3000000) (maxDischargeDepth:=6) +contextual -implicitDefEqProofs only [amA M,amB,↓aj,↓ab,↓al,↓ak,Nat.reduceBEq,Nat.reduceAdd,env,ao,b8,amG,AV.cell,Nat.reduceMul,Nat.reduceLeDiff,h1,h2,h3,h4,bne,Bool.not_false,Bool.not_true,dN,kv_nil]
    |false=>
     simp only [hb,UQ] at h4
     simp (maxSteps:=3000000) (maxDischargeDepth:=6) +contextual -implicitDefEqProofs only [amA M,amB,↓aj,↓ab,↓al,↓ak,Nat.reduceBEq,Nat.reduceAdd,env,ao,b8,amG,AV.cell,Nat.reduceMul,Nat.reduceLeDiff,h1,h2,h3,h4,bne,Bool.not_false,Bool.not_true,dN,hp_take]
end
theorem LL(w p:Str):kC w p=true↔∃ r,w=p++r:=by
 simp only [kC,Bool.and_eq_true,decide_eq_true_eq,beq_iff_eq]
 constructor
 ·rintro ⟨_,h2⟩
  exact ⟨w.drop p.length,by conv=>lhs;rw [← List.take_append_drop p.length w,h2]⟩
 ·rintro ⟨r,rfl⟩
  exact ⟨by simp,by simp⟩
theorem Eb{l:Lex}{x:aK}{e:Nat}:∀ (t:List bt) (i:Nat) (h:bP),h∈x7 l x e i t→∃ (j:Nat) (s:bt),t[j]?=some s∧h=⟨e,((i+j:Nat):Int),jT l x s ((i+j:Nat):Int)⟩∧h.w≠[]
 |[],_,h,hm=>by cases hm
 |s::t,i,h,hm=>by
  have ih:=Eb (l:=l) (x:=x) (e:=e) t (i+1) h
  have rc:h∈x7 l x e (i+1) t→∃ (j:Nat) (s':bt),(s::t)[j]?=some s'∧h=⟨e,((i+j:Nat):Int),jT l x s' ((i+j:Nat):Int)⟩∧h.w≠[]:=fun hm=>by
   obtain ⟨j,s',h1,h2,h3⟩:=ih hm
   exact ⟨j+1,s',by simpa using h1,by rw [h2,show i+1+j=i+(j+1) by omega],h3⟩
  rw [x7] at hm
  cases hw:jT l x s i == [] with
  |true=>rw [hw] at hm;exact rc hm
  |false=>
   rw [hw] at hm
   rcases List.mem_cons.1 hm with rfl | hm
   ·exact ⟨0,s,rfl,rfl,fun e=>by simp only at e;rw [e] at hw;cases hw⟩
   ·exact rc hm
theorem RQ{l:Lex}{x:aK}{e:Nat}:∀ (t:List bt) (i j:Nat) (s:bt),t[j]?=some s→jT l x s ((i+j:Nat):Int)≠[]→(⟨e,((i+j:Nat):Int),jT l x s ((i+j:Nat):Int)⟩:bP)∈x7 l x e i t
 |[],_,j,s,h,_=>by simp at h
 |y::t,i,0,s,h,hw=>by
  obtain rfl:y=s:=by simpa using h
  have:(jT l x y i == [])=false:=by simpa using hw
  rw [x7,this]
  exact List.mem_cons_self ..
 |y::t,i,j+1,s,h,hw=>by
  have ih:=RQ (l:=l) (x:=x) (e:=e) t (i+1) j s (by simpa using h) (by rwa [show i+1+j=i+(j+1) by omega])
  rw [show i+1+j=i+(j+1) by omega] at ih
  rw [x7]
  cases (jT l x y i == []) with
  |true=>exact ih
  |false=>exact List.mem_cons_of_mem _ ih
def JN(l:Lex)(x:aK):List bt:=match Cq l x.cls with | some c=>c.slots.l | none=>[]
theorem LM{l:Lex}:∀ (t:List aK) (e:Nat) (h:bP),h∈D9 l e t→∃ (j:Nat) (x:aK),t[j]?=some x∧h∈x7 l x (e+j) 0 (JN l x)
 |[],_,h,hm=>by cases hm
 |x::t,e,h,hm=>by
  rw [D9] at hm
  rcases List.mem_append.1 hm with hm | hm
  ·exact ⟨0,x,rfl,hm⟩
  ·obtain ⟨j,y,h1,h2⟩:=LM t (e+1) h hm
   exact ⟨j+1,y,by simpa using h1,by rwa [show e+(j+1)=e+1+j by omega]⟩
theorem RR{l:Lex}:∀ (t:List aK) (e j:Nat) (x:aK) (h:bP),t[j]?=some x→h∈x7 l x (e+j) 0 (JN l x)→h∈D9 l e t
 |[],_,j,x,h,h1,_=>by simp at h1
 |y::t,e,0,x,h,h1,h2=>by
  obtain rfl:y=x:=by simpa using h1
  rw [D9]
  exact List.mem_append_left _ h2
 |y::t,e,j+1,x,h,h1,h2=>by
  rw [D9]
  exact List.mem_append_right _ (RR t (e+1) j x h (by simpa using h1) (by rwa [show e+1+j=e+(j+1) by omega]))
theorem PR{l:Lex}(hk:cD l=0){h:bP}(hm:h∈xl l):∃ x c s,At l h.e h.q x c s∧h.w=jT l x s h.q∧h.w≠[]:=by
 obtain ⟨j,x,h1,h2⟩:=LM _ _ _ hm
 obtain ⟨c,hc⟩:=Lq hk h1
 rw [JN,hc.cls] at h2
 obtain ⟨i,s,h3,rfl,h5⟩:=Eb _ _ _ h2
 refine ⟨x,c,s, ?_,rfl,h5⟩
 have:=UM hk (e:=((0+j:Nat):Int)) (by omega) (by simpa using h1) hc h3
 simpa using this
theorem RT{l:Lex}{e q:Int}{x:aK}{c:aZ}{s:bt}(hA:At l e q x c s)(hw:jT l x s q≠[]):(⟨e,q,jT l x s q⟩:bP)∈xl l:=by
 have he:((e.toNat:Nat):Int)=e:=by have:=hA.e0;omega
 have hq:((q.toNat:Nat):Int)=q:=by have:=hA.q0;omega
 refine RR _ 0 e.toNat x _ hA.ex ?_
 rw [JN,hA.ent.cls,Nat.zero_add]
 have:=RQ (l:=l) (x:=x) (e:=e.toNat) c.slots.l 0 q.toNat s hA.sx (by rw [Nat.zero_add,hq];exact hw)
 rw [Nat.zero_add,hq,he] at this
 exact this
theorem Hx{x:aK}{s:bt}{h:bP}:∀ (t:List dt) (i:Nat) (o:bw),o∈B2 x s h i t→∃ (j:Nat) (k:dt),t[j]?=some k∧D8 x s k=true∧o=⟨⟨h.e,h.q,((i+j:Nat):Int)⟩,h.w++k.glue⟩
 |[],_,o,hm=>by cases hm
 |k::t,i,o,hm=>by
  have rc:o∈B2 x s h (i+1) t→∃ (j:Nat) (k':dt),(k::t)[j]?=some k'∧D8 x s k'=true∧o=⟨⟨h.e,h.q,((i+j:Nat):Int)⟩,h.w++k'.glue⟩:=fun hm=>by
   obtain ⟨j,k',h1,h2,h3⟩:=Hx t (i+1) o hm
   exact ⟨j+1,k',by simpa using h1,h2,by rw [h3,show i+1+j=i+(j+1) by omega]⟩
  rw [B2] at hm
  cases hb:D8 x s k with
  |false=>rw [hb] at hm;exact rc hm
  |true=>
   rw [hb] at hm
   rcases List.mem_cons.1 hm with rfl | hm
   ·exact ⟨0,k,rfl,hb,rfl⟩
   ·exact rc hm
theorem RU{x:aK}{s:bt}{h:bP}:∀ (t:List dt) (i j:Nat) (k:dt),t[j]?=some k→D8 x s k=true→(⟨⟨h.e,h.q,((i+j:Nat):Int)⟩,h.w++k.glue⟩:bw)∈B2 x s h i t
 |[],_,j,k,h1,_=>by simp at h1
 |y::t,i,0,k,h1,hb=>by
  obtain rfl:y=k:=by simpa using h1
  rw [B2,hb]
  exact List.mem_cons_self ..
 |y::t,i,j+1,k,h1,hb=>by
  have ih:=RU (x:=x) (s:=s) (h:=h) t (i+1) j k (by simpa using h1) hb
  rw [show i+1+j=i+(j+1) by omega] at ih
  rw [B2]
  cases D8 x s y with
  |false=>exact ih
  |true=>exact List.mem_cons_of_mem _ ih
theorem Hy{l:Lex}:∀ (t:List bP) (o:bw),o∈x8 l t↔∃ h∈t,o∈Jx l h
 |[],o=>by simp [x8]
 |h::t,o=>by rw [x8,List.mem_append,Hy t o];simp
theorem Wr{l:Lex}(hk:cD l=0){o:bw}(hm:o∈x8 l (xl l)):zt l o.first=some o.w∧I64 o.first.entry∧I64 o.first.slot∧I64 o.first.link:=by
 obtain ⟨h,hh,ho⟩:=(Hy _ _).1 hm
 obtain ⟨x,c,s,hA,hw,hne⟩:=PR hk hh
 have hel:=Hq hk
 have hsl:=Ew hk hA.ent
 have hll:=Ex hk
 rw [Jx,hA.sl hk,hA.ent'] at ho
 obtain ⟨j,k,h1,h2,rfl⟩:=Hx _ _ _ ho
 have hj:=(List.getElem?_eq_some_iff.1 h1).1
 have e0:=hA.e0;have q0:=hA.q0;have el:=hA.el;have ql:=hA.ql
 refine ⟨?_,⟨by simp only;omega,by simp only;omega⟩,⟨by simp only;omega,by simp only;omega⟩,⟨by simp only;omega,by simp only;omega⟩⟩
 have hf:(jT l x s h.q == [])=false:=by rw [← hw];simpa using hne
 have hl0:¬ ((0+j:Nat):Int)<0:=by omega
 have hl1:Jw l ((0+j:Nat):Int)=some k:=by rw [Jw,if_neg hl0];simpa using h1
 simp only [zt,hA.sl hk,hA.ent',hl1,h2,hf,sel]
 rw [hw]
theorem Xb{l:Lex}(hk:cD l=0){f:aJ}{v:Str}(h:zt l f=some v):(⟨f,v⟩:bw)∈x8 l (xl l):=by
 unfold zt at h
 cases hs:slF l f.entry f.slot with
 |none=>rw [hs] at h;cases h
 |some s=>
  obtain ⟨x,c,hA⟩:=M6 hk hs
  rw [hs,hA.ent'] at h
  cases hn:Jw l f.link with
  |none=>rw [hn] at h;cases h
  |some k=>
   rw [hn] at h
   simp only at h
   cases hb:D8 x s k with
   |false=>rw [hb] at h;cases h
   |true=>
    rw [hb] at h
    cases hw:jT l x s f.slot == [] with
    |true=>rw [hw] at h;cases h
    |false=>
     rw [hw] at h
     obtain rfl:=Option.some.inj h
     refine (Hy _ _).2 ⟨_,RT hA (by simpa using hw), ?_⟩
     unfold Jw at hn
     split at hn
     ·cases hn
     ·rename_i hl0
      have hl:((f.link.toNat:Nat):Int)=f.link:=by omega
      rw [Jx]
      simp only [hA.sl hk,hA.ent']
      have:=RU (x:=x) (s:=s) (h:=⟨f.entry,f.slot,jT l x s f.slot⟩) l.links.l 0 f.link.toNat k hn hb
      rw [Nat.zero_add,hl] at this
      exact this
theorem LN{w:Str}{hv:List aJ}:∀ (fs:List bP) (x:Analysis),x∈Fb w hv fs↔∃ h∈fs,h.w=w∧x=⟨fsT hv,h.e,h.q⟩
 |[],x=>by simp [Fb]
 |h::t,x=>by
  have ih:=LN (w:=w) (hv:=hv) t x
  rw [Fb]
  cases hb:h.w == w with
  |true=>
   have e:=eq_of_beq hb
   simp only [sel,List.mem_cons,ih]
   constructor
   ·rintro (rfl | ⟨y,h1,h2,h3⟩)
    ·exact ⟨h,.inl rfl,e,rfl⟩
    ·exact ⟨y,.inr h1,h2,h3⟩
   ·rintro ⟨y,rfl | h1,h2,h3⟩
    ·exact .inl h3
    ·exact .inr ⟨y,h1,h2,h3⟩
  |false=>
   have e:h.w≠w:=by simpa using hb
   simp only [sel,ih,List.mem_cons]
   constructor
   ·rintro ⟨y,h1,h2,h3⟩;exact ⟨y,.inr h1,h2,h3⟩
   ·rintro ⟨y,rfl | h1,h2,h3⟩
    ·exact absurd h2 e
    ·exact ⟨y,h1,h2,h3⟩
theorem Iv{F:Str→List aJ→List Analysis}{w:Str}{hv:List aJ}:∀ (os:List bw) (x:Analysis),x∈tz F w hv os↔∃ o∈os,kC w o.w=true∧x∈F (w.drop o.w.length) (hv++[o.first])
 |[],x=>by simp [tz]
 |o::t,x=>by
  have ih:=Iv (F:=F) (w:=w) (hv:=hv) t x
  rw [tz]
  cases hb:kC w o.w with
  |true=>
   simp only [sel,List.mem_append,ih,List.mem_cons]
   constructor
   ·rintro (h | ⟨y,h1,h2,h3⟩)
    ·exact ⟨o,.inl rfl,hb,h⟩
    ·exact ⟨y,.inr h1,h2,h3⟩
   ·rintro ⟨y,rfl | h1,h2,h3⟩
    ·exact .inl h3
    ·exact .inr ⟨y,h1,h2,h3⟩
  |false=>
   simp only [sel,ih,List.mem_cons]
   constructor
   ·rintro ⟨y,h1,h2,h3⟩;exact ⟨y,.inr h1,h2,h3⟩
   ·rintro ⟨y,rfl | h1,h2,h3⟩
    ·rw [hb] at h2;cases h2
    ·exact ⟨y,h1,h2,h3⟩
def Gg(p:List bw):Str:=(p.map (·.w)).flatten
theorem xm{fs:List bP}{os:List bw}:∀ (n:Nat) (w:Str) (hv:List aJ) (x:Analysis),x∈s4 fs os n w hv↔∃ (p:List bw) (h:bP),p.length=n∧(∀ o∈p,o∈os)∧h∈fs∧w=Gg p++h.w∧x=⟨fsT (hv++p.map (·.first)),h.e,h.q⟩
 |0,w,hv,x=>by
  rw [s4,LN]
  constructor
  ·rintro ⟨h,h1,h2,h3⟩;exact ⟨[],h,rfl,by simp,h1,by simp [Gg,h2],by simpa using h3⟩
  ·rintro ⟨p,h,hp,_,h1,h2,h3⟩
   obtain rfl:=List.eq_nil_of_length_eq_zero hp
   exact ⟨h,h1,by simpa [Gg] using h2.symm,by simpa using h3⟩
 |n+1,w,hv,x=>by
  rw [s4,Iv]
  constructor
  ·rintro ⟨o,ho,hb,hx⟩
   obtain ⟨r,rfl⟩:=(LL _ _).1 hb
   rw [List.drop_left] at hx
   obtain ⟨p,h,h1,h2,h3,h4,h5⟩:=(xm n r _ x).1 hx
   refine ⟨o::p,h,by simp [h1], ?_,h3,by simp [Gg,h4],by simpa using h5⟩
   intro y hy
   rcases List.mem_cons.1 hy with rfl | hy
   ·exact ho
   ·exact h2 y hy
  ·rintro ⟨p,h,hp,h2,h3,h4,h5⟩
   cases p with
   |nil=>cases hp
   |cons o p=>
    refine ⟨o,h2 o (by simp),(LL _ _).2 ⟨Gg p++h.w,by rw [h4];simp [Gg]⟩, ?_⟩
    refine (xm n _ _ x).2 ⟨p,h,by simpa using hp,fun y hy=>h2 y (by simp [hy]),h3, ?_,by simpa using h5⟩
    rw [h4];simp [Gg]
theorem LO{fs:List bP}{os:List bw}{w:Str}:∀ (n i:Nat) (x:Analysis),x∈Ea fs os w i n↔∃ m,i≤m∧m<i+n∧x∈s4 fs os m w []
 |0,i,x=>by
  rw [Ea]
  constructor
  ·intro h;cases h
  ·rintro ⟨m,h1,h2,_⟩;omega
 |n+1,i,x=>by
  rw [Ea,List.mem_append,LO n (i+1) x]
  constructor
  ·rintro (h | ⟨m,h1,h2,h3⟩)
   ·exact ⟨i,by omega,by omega,h⟩
   ·exact ⟨m,by omega,by omega,h3⟩
  ·rintro ⟨m,h1,h2,h3⟩
   by_cases he:m=i
   ·subst he;exact .inl h3
   ·exact .inr ⟨m,by omega,by omega,h3⟩
theorem LP{l:Lex}{w:Str}{x:Analysis}:x∈A6 l w↔∃ (p:List bw) (h:bP),p.length≤2∧(∀ o∈p,o∈x8 l (xl l))∧h∈xl l∧w=Gg p++h.w∧x=⟨fsT (p.map (·.first)),h.e,h.q⟩:=by
 rw [A6,LO]
 constructor
 ·rintro ⟨m,_,h2,hx⟩
  obtain ⟨p,h,h1,h2,h3,h4,h5⟩:=(xm m w [] x).1 hx
  exact ⟨p,h,by omega,h2,h3,h4,by simpa using h5⟩
 ·rintro ⟨p,h,h1,h2,h3,h4,h5⟩
  exact ⟨p.length,by omega,by omega,(xm _ w [] x).2 ⟨p,h,rfl,h2,h3,h4,by simpa using h5⟩⟩
theorem LQ{v:Str}{x:bA}{s:Str}(ht:x.to.all ku=true)(hs:s.all ku=true):∀ (n i:Nat) (w:Str),w.all ku=true→(Gb v x s n i w).all ku=true
 |0,i,w,hw=>by rw [Gb];exact hw
 |n+1,i,w,hw=>by
  rw [Gb]
  cases hc:s[i]? with
  |none=>exact hw
  |some c=>
   have hcs:ku c=true:=List.all_eq_true.1 hs c (List.mem_of_getElem? hc)
   cases Ut v x s i with
   |true=>exact LQ ht hs n _ _ (by rw [List.all_append,hw,ht];rfl)
   |false=>exact LQ ht hs n _ _ (by rw [List.all_append,hw];simp [hcs])
theorem Nh{v:Str}:∀ (l:List bA) (o:List Str) (u:Str) (r:List Str),(∀ x∈l,x.to.all ku=true)→(∀ s∈o,s.all ku=true)→u.all ku=true→Cs v o u l=some r→∀ s∈r,s.all ku=true
 |[],o,u,r,hl,ho,hu,h=>by
  rw [Cs] at h
  obtain rfl:=Option.some.inj h
  exact ho
 |x::l,o,u,r,hl,ho,hu,h=>by
  rw [Cs] at h
  have h2:(uE v x u).all ku=true:=LQ (hl x (by simp)) hu _ _ _ rfl
  cases hd:decide (((uE v x u).length:Int)≤512) with
  |false=>rw [hd] at h;cases h
  |true=>
   rw [hd] at h
   refine Nh l (o++[uE v x u]) (uE v x u) r (fun y hy=>hl y (by simp [hy])) ?_ h2 h
   intro s hs
   rcases List.mem_append.1 hs with hs | hs
   ·exact ho s hs
   ·rw [List.mem_singleton.1 hs];exact h2
theorem Q7{s:Str}(h:s.all lC=true):s.all ku=true:=by
 rw [List.all_eq_true] at h ⊢
 intro c hc
 simp [ku,h c hc]
theorem VX{s:Str}(h:s.all ku=true):(A5 s).all lC=true:=by
 rw [List.all_eq_true] at h ⊢
 intro c hc
 obtain ⟨h1,h2⟩:=List.mem_filter.1 hc
 have h3:=h c h1
 simp only [ku,Bool.or_eq_true,beq_iff_eq] at h3
 rcases h3 with h3 | h3
 ·exact h3
 ·exfalso
  have:c=43:=by
   have h4:c.toNat=43:=by omega
   exact UInt8.toNat_inj.1 h4
  rw [this] at h2
  simp at h2
theorem UR{lem:Str}{s:bt}(hl:lem.all lC=true)(hs:UE s):(Pz lem s).all ku=true:=by
 have h1:=Q7 hs.pre.2
 have h2:=Q7 hs.add.2
 have h3:(lem.take (lem.length-s.cut.toNat)).all ku=true:=by
  rw [List.all_eq_true]
  intro c hc
  exact List.all_eq_true.1 (Q7 hl) c (List.mem_of_mem_take hc)
 have h4:(([43]:Str)).all ku=true:=by decide
 have h5:(Lr s (lem.take (lem.length-s.cut.toNat))).all ku=true:=by
  unfold Lr
  cases s.pre == [] with
  |true=>exact h3
  |false=>simp only [sel];rw [List.all_append,List.all_append,h1,h3,h4];rfl
 unfold Pz It
 cases s.add == [] with
 |true=>exact h5
 |false=>simp only [sel];rw [List.all_append,List.all_append,h2,h5,h4];rfl
theorem PS{s:Str}(h:zp s=true):s.all lC=true:=by
 simp only [zp,Bool.and_eq_true] at h
 exact h.2
theorem S7{l:Lex}(hk:cD l=0):∀ x∈l.spells.l,x.to.all ku=true:=fun x hx=>by
 obtain ⟨j,hj⟩:=List.getElem?_of_mem hx
 have h4:=(je (pN hk).2.2.1).2 j x hj
 unfold B1 at h4
 have:=(fo (by decide) h4).1
 simp only [Bool.or_eq_false_iff,Bool.not_eq_false',pz,Bool.and_eq_true] at this
 exact this.1.1.2.2
theorem US{l:Lex}(hk:cD l=0){x:aK}{c:aZ}(h:Cr l x c){s:bt}(hs:UE s)(q:Int):(jT l x s q).all lC=true:=by
 unfold jT
 split
 ·rename_i w hi
  simp only [Q3,Option.map_eq_some_iff] at hi
  obtain ⟨f,hf,rfl⟩:=hi
  obtain ⟨k,hk⟩:=List.getElem?_of_mem (List.mem_of_find?_eq_some hf)
  have:=rQ h.forms k f hk
  rw [Nat.zero_add] at this
  unfold MY at this
  have h3:=(fo (by decide) (fo (by decide) (fo (by decide) this).2).2).1
  cases hw:f.word == [] with
  |true=>rw [eq_of_beq hw];rfl
  |false=>
   rw [hw] at h3
   exact PS (by simpa using h3)
 ·unfold Ml
  split
  ·rfl
  ·rename_i r hr
   unfold xk at hr
   split at hr
   ·cases hr
   ·rename_i u hu
    unfold Ls at hu
    cases hd:decide ((x.lem.length:Int)<s.cut) with
    |true=>rw [hd] at hu;cases hu
    |false=>
     rw [hd] at hu
     obtain rfl:=Option.some.inj hu
     have hus:=UR (PS h.lem) hs
     have hrs:=Nh l.spells.l _ _ r (S7 hk) (by simpa using hus) hus hr
     have hlast:(r.getLastD []).all ku=true:=by
      cases hrr:r with
      |nil=>rfl
      |cons a t=>
       rw [List.getLastD_eq_getLast?,List.getLast?_eq_some_getLast (by simp:a::t≠[])]
       exact hrs _ (by rw [hrr];exact List.getLast_mem _)
     cases decide ((24:Int)<((A5 (r.getLastD [])).length:Int)) with
     |true=>rfl
     |false=>exact VX hlast
theorem VY{l:Lex}(hk:cD l=0){k:dt}(h:k∈l.links.l):k.glue.all lC=true:=by
 obtain ⟨j,hj⟩:=List.getElem?_of_mem h
 have h5:=(je (pN hk).2.2.2).2 j k hj
 unfold K5 at h5
 split at h5
 ·exact absurd h5 (by decide)
 ·have:=(fo (by decide) h5).1
  simp only [Bool.not_eq_false',pz,Bool.and_eq_true,decide_eq_true_eq] at this
  exact this.2
theorem VZ{l:Lex}(hk:cD l=0){f:aJ}{v:Str}(h:zt l f=some v):v.all lC=true:=by
 unfold zt at h
 cases hs:slF l f.entry f.slot with
 |none=>rw [hs] at h;cases h
 |some s=>
  obtain ⟨x,c,hA⟩:=M6 hk hs
  rw [hs,hA.ent'] at h
  cases hn:Jw l f.link with
  |none=>rw [hn] at h;cases h
  |some k=>
   rw [hn] at h
   simp only at h
   cases hb:D8 x s k with
   |false=>rw [hb] at h;cases h
   |true=>
    rw [hb] at h
    cases hw:jT l x s f.slot == [] with
    |true=>rw [hw] at h;cases h
    |false=>
     rw [hw] at h
     obtain rfl:=Option.some.inj h
     unfold Jw at hn
     split at hn
     ·cases hn
     ·rw [List.all_append,US hk hA.ent hA.sok,VY hk (List.mem_of_getElem? hn)];rfl
theorem RV{l:Lex}(hk:cD l=0):∀ (t:List aJ) (u v:Str),u.all lC=true→Fa l t u=some v→v.all lC=true
 |[],u,v,hu,h=>by obtain rfl:=Option.some.inj h;exact hu
 |f::t,u,v,hu,h=>by
  rw [Fa] at h
  cases ho:zt l f with
  |none=>rw [ho] at h;cases h
  |some w=>
   rw [ho] at h
   exact RV hk t (u++w) v (by rw [List.all_append,hu,VZ hk ho];rfl) h
theorem V0{s:Str}(h:s.all lC=true)(h0:s≠[])(hl:s.length≤24):Cp s=true:=by
 have h1:s.all O1=true:=by
  rw [List.all_eq_true] at h ⊢
  intro c hc
  have h2:=h c hc
  simp only [lC,O1,Bool.and_eq_true,decide_eq_true_eq] at h2 ⊢
  omega
 have h2:1≤s.length:=by cases s with | nil=>exact absurd rfl h0 | cons a b=>simp
 simp only [Cp,h1,Bool.and_true,Bool.and_eq_true,decide_eq_true_eq]
 omega
theorem PT{l:Lex}:∀ (p:List bw) (u:Str),(∀ o∈p,zt l o.first=some o.w)→Fa l (p.map (·.first)) u=some (u++Gg p)
 |[],u,_=>by simp [Fa,Gg]
 |o::p,u,h=>by
  rw [List.map_cons,Fa,h o (by simp)]
  simp only
  rw [PT p (u++o.w) fun y hy=>h y (by simp [hy])]
  simp [Gg]
theorem I5{l:Lex}:∀ (t:List aJ) (u v:Str),Fa l t u=some v→∃ p:List bw,t=p.map (·.first)∧v=u++Gg p∧∀ o∈p,zt l o.first=some o.w
 |[],u,v,h=>by obtain rfl:=Option.some.inj h;exact ⟨[],rfl,by simp [Gg],by simp⟩
 |f::t,u,v,h=>by
  rw [Fa] at h
  cases ho:zt l f with
  |none=>rw [ho] at h;cases h
  |some w=>
   rw [ho] at h
   obtain ⟨p,rfl,rfl,hp⟩:=I5 t (u++w) v h
   refine ⟨⟨f,w⟩::p,rfl,by simp [Gg], ?_⟩
   intro o hm
   rcases List.mem_cons.1 hm with rfl | hm
   ·exact ho
   ·exact hp o hm
theorem Ni{l:Lex}(hk:cD l=0){w:Str}(hw:w.length≤24){a:Analysis}(ha:a∈A6 l w):ka l a=w∧w≠[]∧a.ok 0∧a.firsts.l.length≤2:=by
 obtain ⟨p,h,hp,hos,hh,rfl,rfl⟩:=LP.1 ha
 obtain ⟨x,c,s,hA,hfw,hne⟩:=PR hk hh
 have hb:=PT p [] fun o ho=>(Wr hk (hos o ho)).1
 have hf:(jT l x s h.q == [])=false:=by rw [← hfw];simpa using hne
 have hd:decide ((24:Int)<(((Gg p++jT l x s h.q).length:Nat):Int))=false:=by rw [← hfw];exact decide_eq_false (by omega)
 have el:=hA.el;have ql:=hA.ql;have e0:=hA.e0;have q0:=hA.q0
 have hel:=Hq hk
 have hsl:=Ew hk hA.ent
 refine ⟨?_,by simp [hne],⟨?_,⟨by simp only;omega,by simp only;omega⟩,⟨by simp only;omega,by simp only;omega⟩⟩,by rw [Hs];simpa using hp⟩
 ·simp only [ka,Hs,hb,List.nil_append,hA.sl hk,hA.ent',hf,hd,Bool.false_or,sel]
  rw [hfw]
 ·refine ⟨by cases p<;>trivial,by rw [Hs];simp only [List.length_map,bD];omega, ?_⟩
  rw [Hs]
  intro f hf
  obtain ⟨o,ho,rfl⟩:=List.mem_map.1 hf
  have:=(Wr hk (hos o ho)).2
  exact ⟨this.1,this.2.1,this.2.2⟩
theorem S8{l:Lex}(hk:cD l=0){x:Analysis}(hx:x.firsts.l.length≤2)(hb:ka l x≠[]):Cp (ka l x)=true∧∃ a∈A6 l (ka l x),a.firsts.l=x.firsts.l∧a.entry=x.entry∧a.slot=x.slot:=by
 unfold ka at hb ⊢
 cases hbl:Fa l x.firsts.l [] with
 |none=>rw [hbl] at hb;exact absurd rfl hb
 |some u=>
  cases hs:slF l x.entry x.slot with
  |none=>rw [hbl,hs] at hb;exact absurd rfl hb
  |some s=>
   obtain ⟨y,c,hA⟩:=M6 hk hs
   rw [hbl,hs,hA.ent'] at hb
   simp only [hA.ent'] at hb ⊢
   cases hf:jT l y s x.slot == [] with
   |true=>rw [hf] at hb;exact absurd rfl hb
   |false=>
    cases hd:decide ((24:Int)<((u++jT l y s x.slot).length:Int)) with
    |true=>rw [hf,hd] at hb;exact absurd rfl hb
    |false=>
     simp only [Bool.false_or,sel]
     have hne:jT l y s x.slot≠[]:=by simpa using hf
     have hlen:=of_decide_eq_false hd
     have hlo:(u++jT l y s x.slot).all lC=true:=by rw [List.all_append,RV hk _ _ _ rfl hbl,US hk hA.ent hA.sok];rfl
     refine ⟨V0 hlo (by simp [hne]) (by omega), ?_⟩
     obtain ⟨p,hp,hu,hps⟩:=I5 _ _ _ hbl
     refine ⟨⟨fsT (p.map (·.first)),x.entry,x.slot⟩,LP.2 ⟨p,⟨x.entry,x.slot,jT l y s x.slot⟩,by rw [hp] at hx;simpa using hx,fun o ho=>Xb hk (hps o ho),RT hA hne,by rw [hu];simp,rfl⟩,by rw [Hs,hp],rfl,rfl⟩
theorem RW{l:Lex}{x:aK}{e:Nat}:∀ (t:List bt) (i:Nat),(x7 l x e i t).Pairwise fun a b => ¬ (a.e=b.e∧a.q=b.q)
 |[],_=>.nil
 |s::t,i=>by
  have ih:=RW (l:=l) (x:=x) (e:=e) t (i+1)
  rw [x7]
  cases jT l x s i == [] with
  |true=>exact ih
  |false=>
   refine List.pairwise_cons.2 ⟨fun y hy => ?_,ih⟩
   obtain ⟨j,s',_,rfl,_⟩:=Eb _ _ _ hy
   simp only;omega
theorem N9{l:Lex}:∀ (t:List aK) (e:Nat),(D9 l e t).Pairwise fun a b => ¬ (a.e=b.e∧a.q=b.q)
 |[],_=>.nil
 |x::t,e=>by
  rw [D9]
  refine List.pairwise_append.2 ⟨RW _ _,N9 t (e+1),fun a ha b hb => ?_⟩
  obtain ⟨j,s',_,rfl,_⟩:=Eb _ _ _ ha
  obtain ⟨m,y,_,hb⟩:=LM _ _ _ hb
  obtain ⟨j2,s2,_,rfl,_⟩:=Eb _ _ _ hb
  simp only;omega
theorem RY{x:aK}{s:bt}{h:bP}:∀ (t:List dt) (i:Nat),(B2 x s h i t).Pairwise fun a b=>a.first≠b.first
 |[],_=>.nil
 |k::t,i=>by
  have ih:=RY (x:=x) (s:=s) (h:=h) t (i+1)
  rw [B2]
  cases D8 x s k with
  |false=>exact ih
  |true=>
   refine List.pairwise_cons.2 ⟨fun y hy => ?_,ih⟩
   obtain ⟨j,k',_,_,rfl⟩:=Hx _ _ _ hy
   intro e
   have:=congrArg aJ.link e
   simp only at this;omega
theorem PU{l:Lex}{h:bP}{o:bw}(ho:o∈Jx l h):o.first.entry=h.e∧o.first.slot=h.q:=by
 unfold Jx at ho
 split at ho
 ·obtain ⟨j,k',_,_,rfl⟩:=Hx _ _ _ ho;exact ⟨rfl,rfl⟩
 ·cases ho
theorem V1(l:Lex)(h:bP):(Jx l h).Pairwise fun a b=>a.first≠b.first:=by
 unfold Jx
 split
 ·exact RY _ _
 ·exact .nil
theorem RZ{l:Lex}:∀ (t:List bP),t.Pairwise (fun a b => ¬ (a.e=b.e∧a.q=b.q))→(x8 l t).Pairwise fun a b=>a.first≠b.first
 |[],_=>.nil
 |h::t,hp=>by
  obtain ⟨h1,h2⟩:=List.pairwise_cons.1 hp
  rw [x8]
  refine List.pairwise_append.2 ⟨V1 l h,RZ t h2,fun a ha b hb => ?_⟩
  obtain ⟨h',hm,hb⟩:=(Hy _ _).1 hb
  obtain ⟨a1,a2⟩:=PU ha
  obtain ⟨b1,b2⟩:=PU hb
  intro e
  exact h1 h' hm ⟨by rw [← a1,← b1,e],by rw [← a2,← b2,e]⟩
def neA(a b:Analysis):Prop:=¬ (a.firsts.l=b.firsts.l∧a.entry=b.entry∧a.slot=b.slot)
theorem R0{w:Str}{hv:List aJ}:∀ fs:List bP,fs.Pairwise (fun a b => ¬ (a.e=b.e∧a.q=b.q))→(Fb w hv fs).Pairwise neA
 |[],_=>.nil
 |h::t,hp=>by
  obtain ⟨h1,h2⟩:=List.pairwise_cons.1 hp
  have ih:=R0 (w:=w) (hv:=hv) t h2
  rw [Fb]
  cases h.w == w with
  |false=>exact ih
  |true=>
   refine List.pairwise_cons.2 ⟨fun y hy => ?_,ih⟩
   obtain ⟨h',hm,_,rfl⟩:=(LN _ _).1 hy
   rintro ⟨_,e1,e2⟩
   exact h1 h' hm ⟨e1,e2⟩
theorem PV{F:Str→List aJ→List Analysis}{w:Str}{hv:List aJ}(hF:∀ w hv,(F w hv).Pairwise neA)(hP:∀ w hv,∀ x∈F w hv,∃ r,x.firsts.l=hv++r):∀ os:List bw,os.Pairwise (fun a b=>a.first≠b.first)→(tz F w hv os).Pairwise neA
 |[],_=>.nil
 |o::t,hp=>by
  obtain ⟨h1,h2⟩:=List.pairwise_cons.1 hp
  have ih:=PV (w:=w) (hv:=hv) hF hP t h2
  rw [tz]
  cases kC w o.w with
  |false=>exact ih
  |true=>
   refine List.pairwise_append.2 ⟨hF _ _,ih,fun a ha b hb => ?_⟩
   obtain ⟨o',hm,_,hb⟩:=(Iv _ _).1 hb
   obtain ⟨r,er⟩:=hP _ _ a ha
   obtain ⟨r',er'⟩:=hP _ _ b hb
   rintro ⟨e,_,_⟩
   rw [er,er',List.append_assoc,List.append_assoc] at e
   have:=List.append_cancel_left e
   simp at this
   exact h1 o' hm this.1
theorem UT{fs:List bP}{os:List bw}(n:Nat)(w:Str)(hv:List aJ):∀ x∈s4 fs os n w hv,∃ r,x.firsts.l=hv++r:=fun x hx=>by
 obtain ⟨p,h,_,_,_,_,rfl⟩:=(xm n w hv x).1 hx
 exact ⟨p.map (·.first),by rw [Hs]⟩
theorem R1{fs:List bP}{os:List bw}(hf:fs.Pairwise (fun a b => ¬ (a.e=b.e∧a.q=b.q)))(ho:os.Pairwise (fun a b=>a.first≠b.first)):∀ (n:Nat) (w:Str) (hv:List aJ),(s4 fs os n w hv).Pairwise neA
 |0,w,hv=>R0 fs hf
 |n+1,w,hv=>PV (fun w hv=>R1 hf ho n w hv) (fun w hv=>UT n w hv) os ho
theorem R2{fs:List bP}{os:List bw}(hf:fs.Pairwise (fun a b => ¬ (a.e=b.e∧a.q=b.q)))(ho:os.Pairwise (fun a b=>a.first≠b.first)){w:Str}:∀ (n i:Nat),(Ea fs os w i n).Pairwise neA
 |0,_=>.nil
 |n+1,i=>by
  rw [Ea]
  refine List.pairwise_append.2 ⟨R1 hf ho i w [],R2 hf ho n (i+1),fun a ha b hb => ?_⟩
  obtain ⟨m,h1,_,hb⟩:=(LO _ _ _).1 hb
  obtain ⟨p,h,e1,_,_,_,rfl⟩:=(xm i w [] a).1 ha
  obtain ⟨p',h',e1',_,_,_,rfl⟩:=(xm m w [] b).1 hb
  rintro ⟨e,_,_⟩
  rw [Hs,Hs] at e
  have:=congrArg List.length e
  simp at this;omega
theorem V2(l:Lex)(w:Str):(A6 l w).Pairwise neA:=R2 (N9 _ _) (RZ _ (N9 _ _)) 3 0
theorem Nj(a b:Analysis):FB a b=true↔a.firsts.l=b.firsts.l∧a.entry=b.entry∧a.slot=b.slot:=by
 unfold FB
 constructor
 ·intro h
  cases h1:a.entry == b.entry with
  |false=>rw [h1] at h;cases h
  |true=>
   cases h2:a.slot == b.slot with
   |false=>rw [h1,h2] at h;cases h
   |true=>
    cases h3:a.firsts.l.length == b.firsts.l.length with
    |false=>rw [h1,h2,h3] at h;cases h
    |true=>
     rw [h1,h2,h3] at h
     exact ⟨RP (eq_of_beq h3) h,eq_of_beq h1,eq_of_beq h2⟩
 ·rintro ⟨h1,h2,h3⟩
  rw [h1,h2,h3]
  simp [sel,Ng]
theorem UU{a b:Analysis}(h:neA a b):FB a b=false:=by
 cases hs:FB a b with
 |false=>rfl
 |true=>exact absurd ((Nj a b).1 hs) h
theorem V3{l:Lex}{w:Str}{i j:Nat}{a b:Analysis}(hij:i<j)(ha:(A6 l w)[i]?=some a)(hb:(A6 l w)[j]?=some b):FB a b=false:=by
 obtain ⟨h1,rfl⟩:=List.getElem?_eq_some_iff.1 ha
 obtain ⟨h2,rfl⟩:=List.getElem?_eq_some_iff.1 hb
 exact UU (List.pairwise_iff_getElem.1 (V2 l w) i j h1 h2 hij)
section
attribute [local congr] aF cu bm aG a7 aR aH aA aC aS aT
variable{E:bC}(M:cT cY E)
theorem XG(hSA:E.fn bL=some bh){l:Lex}{w:Str}{asq:List Analysis}(hlen:asq.length≤bD){j:Nat}{b:Analysis}(hb:asq[j]?=some b)(hne:∀ (i:Nat) (a:Analysis),i<j→asq[i]?=some a→FB a b=false∧a.firsts.l.length≤bD){tg:Tag}
  {H H0:List ae}{p r:Nat} (k:List Fra):∀ (n i:Nat) (He:List ae),i+n=j →
  M.go br H0 (.c ee :: .lp ⟨(some [1,3,5,7,9,12]),[],false⟩ ee He :: .blk 2 :: .c (.lv [1,3,5,7,9])::k) (kv [(1,.str w),(3,.ptr p 0),(5,.ptr r 0),(7,.slice tg 3 (asq.map Analysis.row)),(9,.int .i64 j),(12,.int .i64 i)]) H =
   M.go br H0 k (kv [(1,.str w),(3,.ptr p 0),(5,.ptr r 0),(7,.slice tg 3 (asq.map Analysis.row)),(9,.int .i64 j)]) H
 |0,i,He,h=>by
  have e:i=j:=by omega
  subst e
  rw [aw M ee.eq_1]
  simp (maxSteps:=3000000) (maxDischargeDepth:=6) +contextual -implicitDefEqProofs only [amA M,amB,↓aj,↓ab,↓al,↓ak,Nat.reduceBEq,Nat.reduceAdd,env,ao,bF,Nat.lt_irrefl]
 |n+1,i,He,h=>by
  have hij:i<j:=by omega
  have hj:=(List.getElem?_eq_some_iff.1 hb).1
  have hi:i<asq.length:=by omega
  have hx:asq[i]?=some asq[i]:=List.getElem?_eq_getElem hi
  generalize asq[i]=a at hx
  obtain ⟨h1,h2⟩:=hne i a hij hx
  have hs:=fun H=>A7 M hSA (a:=a) (b:=b) h2 H
  rw [h1] at hs
  have ih:=fun He=>XG hSA (l:=l) (w:=w) hlen hb hne (tg:=tg) (H:=H) (H0:=H0) (p:=p) (r:=r) k n (i+1) He (by omega)
  have hws:=c6 hi hlen
  simp only [kv_cons,kv_nil] at ih
  rw [aw M ee.eq_1]
  simp (maxSteps:=3000000) (maxDischargeDepth:=6) +contextual -implicitDefEqProofs only [amA M,amB,↓aj,↓ab,↓al,↓ak,Nat.reduceBEq,Nat.reduceAdd,env,ao,bF,hij,hx,hb,hs,ih,hws,bo hi,bo hj,dN]
theorem XH(hN:dG E)(hW:WdE M)(hE:iV E)(hS:SpE E)(hX:o4 M)(hY:D7 M)(hB:pA E)(hF:sZ E)(hU:vL E){srt:List aq→List aq}(hO:yK M srt)(hP:Srt srt)(hV:Jv E)(hSA:E.fn bL=some bh){l:Lex}(hl:l.ok 0)(hk:cD l=0){w:Str}(hw:w.length≤24)
  {asq:List Analysis} (has:asq=A6 l w) (hlen:asq.length≤4000000000000) {x:Analysis}{tg:Tag}{H H0:List ae}{p r:Nat}{T T2:TypeId} (hp:H[p]?=some (.cells l.row T)) (hr:H[r]?=some (.cells x.row T2)) (k:List Fra):∀ (n i:Nat) (He:List ae),i+n=asq.length →
  M.go br H0 (.c eg :: .lp ⟨(some [1,3,5,7,9]),[],false⟩ eg He :: .blk 0 :: .c (.lv [3,5])::k) (kv [(1,.str w),(3,.ptr p 0),(5,.ptr r 0),(7,.slice tg 3 (asq.map Analysis.row)),(9,.int .i64 i)]) H =
   M.go br H0 k (kv [(3,.ptr p 0),(5,.ptr r 0)]) H
 |0,i,He,h=>by
  have e:i=asq.length:=by omega
  subst e
  rw [aw M eg.eq_1]
  simp (maxSteps:=3000000) (maxDischargeDepth:=6) +contextual -implicitDefEqProofs only [amA M,amB,↓aj,↓ab,↓al,↓ak,Nat.reduceBEq,Nat.reduceAdd,env,ao,bF,Nat.lt_irrefl]
 |n+1,i,He,h=>by
  have hi:i<asq.length:=by omega
  have hx:asq[i]?=some asq[i]:=List.getElem?_eq_getElem hi
  have hm:asq[i]∈A6 l w:=by rw [← has];exact List.getElem_mem hi
  generalize asq[i]=a at hx hm
  obtain ⟨a1,a2,a3,a4⟩:=Ni hk hw hm
  have hbu:=fun H=>Nb M hN hW hE hS hX hY hB hF hU hO hP hV hl a3 H
  have e0:Ge l a = .tuple [.str w,.int .u8 0]:=by
   have d:decide ((2:Int)<(a.firsts.l.length:Int))=false:=decide_eq_false (by omega)
   have d2:(w == [])=false:=by simpa using a2
   simp only [Ge,hk,beq_self_eq_true,Bool.not_true,sel,d,a1,d2]
  rw [e0] at hbu
  have hin:=fun k He=>XG M hSA (l:=l) (w:=w) (asq:=asq) (by simp only [bD];omega) hx (fun i' a' h1 h2=>⟨V3 h1 (by rw [← has];exact h2) (by rw [← has];exact hx),by
   have hm':a'∈A6 l w:=by rw [← has];exact List.mem_of_getElem? h2
   have:=(Ni hk hw hm').2.2.2
   simp only [bD];omega⟩) (tg:=tg) (H:=H) (H0:=H0) (p:=p) (r:=r) k i 0 He (by omega)
  have ih:=fun He=>XH hN hW hE hS hX hY hB hF hU hO hP hV hSA hl hk hw has hlen (x:=x) (tg:=tg) (H0:=H0) hp hr k n (i+1) He (by omega)
  have hws:=c6 hi (show asq.length≤bD by simp only [bD];omega)
  simp only [kv_cons,kv_nil,Int.ofNat_zero] at ih hin
  rw [aw M eg.eq_1]
  simp (maxSteps:=3000000) (maxDischargeDepth:=6) +contextual -implicitDefEqProofs only [amA M,amB,↓aj,↓ab,↓al,↓ak,Nat.reduceBEq,Nat.reduceAdd,env,ao,bF,amG,AV.cell,Nat.reduceMul,Nat.reduceLeDiff,hi,hx,hbu,hin,ih,hws,hp,bo hi,dN,cZ,beq_self_eq_true,Bool.not_true,Bool.or_false]
theorem XI(hSA:E.fn bL=some bh){asq:List Analysis}(hlen:asq.length≤4000000000000)(hok:∀ a∈asq,a.firsts.l.length≤bD){x:Analysis}(hlv:∀ H,M.run bf [] H=some (.ret (.bool true),H)){tg:Tag}{H H0:List ae}{r:Nat}{T2:TypeId}(hr:H[r]?=some (.cells x.row T2))(hc:dM H0 H)(k:List Fra):∀ (n i:Nat) (He:List ae),i+n=asq.length→(∃ (j:Nat) (a:Analysis),i≤j∧asq[j]?=some a∧FB a x=true) →
  M.go br H0 (.c eh :: .lp ⟨(some [5,7,8,15]),[],false⟩ eh He :: .blk 4 :: .c (.lv [])::k) (kv [(5,.ptr r 0),(7,.slice tg 3 (asq.map Analysis.row)),(8,.int .u8 0),(15,.int .i64 i)]) H=some (.ret (.bool true),H.take H0.length)
 |0,i,He,h,⟨j,a,h1,h2,_⟩=>by
  have:=(List.getElem?_eq_some_iff.1 h2).1
  omega
 |n+1,i,He,h,hex=>by
  have hi:i<asq.length:=by omega
  have hx:asq[i]?=some asq[i]:=List.getElem?_eq_getElem hi
  have hm:=hok asq[i] (List.getElem_mem hi)
  generalize asq[i]=a at hx hm
  have hs:=fun H=>A7 M hSA (a:=a) (b:=x) hm H
  have hws:=c6 hi (show asq.length≤bD by simp only [bD];omega)
  cases hb:FB a x with
  |true=>
   rw [hb] at hs
   rw [aw M eh.eq_1]
   simp (maxSteps:=3000000) (maxDischargeDepth:=6) +contextual -implicitDefEqProofs only [amA M,amB,↓aj,↓ab,↓al,↓ak,Nat.reduceBEq,Nat.reduceAdd,env,ao,bF,hi,hx,hs,hlv,hr,hws,bo hi,dN,beq_self_eq_true,hc]
  |false=>
   rw [hb] at hs
   have ih:=fun He=>XI hSA hlen hok hlv (tg:=tg) (H0:=H0) hr hc k n (i+1) He (by omega) (by
    obtain ⟨j,a',h1,h2,h3⟩:=hex
    refine ⟨j,a', ?_,h2,h3⟩
    rcases Nat.lt_or_eq_of_le h1 with h4 | rfl
    ·omega
    ·rw [hx] at h2;obtain rfl:=Option.some.inj h2;rw [hb] at h3;cases h3)
   simp only [kv_cons,kv_nil] at ih
   rw [aw M eh.eq_1]
   simp (maxSteps:=3000000) (maxDischargeDepth:=6) +contextual -implicitDefEqProofs only [amA M,amB,↓aj,↓ab,↓al,↓ak,Nat.reduceBEq,Nat.reduceAdd,env,ao,bF,hi,hx,hs,ih,hr,hws,bo hi,dN]
theorem PW{l:Lex}(hk:cD l=0)(w:Str):(A6 l w).length≤2000000000000:=by
 have h1:=LC hk
 have h2:=LF hk (xl l)
 exact PO h1 (by omega) w
theorem V4{l:Lex}{w:Str}{a:Analysis}(ha:a∈A6 l w):a.firsts.l.length≤2:=by
 obtain ⟨p,h,hp,_,_,_,rfl⟩:=LP.1 ha
 rw [Hs];simpa using hp
theorem PX{w:Str}(h:Cp w=true):w.length≤24:=by
 simp only [Cp,Bool.and_eq_true,decide_eq_true_eq] at h
 omega
theorem S9{l:Lex}(hk:cD l=0)(x:Analysis):(∃ c:Int,Ge l x = .tuple [.str [],.int .u8 c]∧(c == 0)=false)∨(x.firsts.l.length≤2∧ka l x≠[]∧Ge l x = .tuple [.str (ka l x),.int .u8 0]):=by
 unfold Ge
 rw [hk]
 cases hd:decide ((2:Int)<(x.firsts.l.length:Int)) with
 |true=>exact .inl ⟨3,rfl,rfl⟩
 |false=>
  cases hb:ka l x == [] with
  |true=>exact .inl ⟨7,rfl,rfl⟩
  |false=>exact .inr ⟨by have:=of_decide_eq_false hd;omega,by simpa using hb,rfl⟩
theorem Iw(hN:dG E)(hW:WdE M)(hE:iV E)(hg:F9 E)(hS:SpE E)(hX:o4 M)(hY:D7 M)(hB:pA E)(hF:sZ E)(hU:vL E){srt:List aq→List aq}(hO:yK M srt)(hP:Srt srt)(hV:Jv E)(hA:Iu E)(hSA:E.fn bL=some bh)(h:E.fn jg=some br)
  {l:Lex} (hl:l.ok 0) {w:Str} (hw:w.length≤bD) {x:Analysis} (hx:x.ok 0) {H:List ae} (hlv:∀ H,M.run bf [] H=some (.ret (.bool true),H)) :
  M.run jg [.agg l.row,.str w,.agg x.row] H=some (.ret (.bool true),H):=by
 rw [aY M h rfl (c:=jj) rfl,jj]
 have a1:=fun H=>I4 M hN hW hE hS hX hY hB hF hU hO hP hV hA hl hw H
 unfold VU at a1
 cases hk:cD l == 0 with
 |false=>
  simp only [hk,Bool.not_false,sel] at a1
  have n0:(([]:List (List AV)).length:Int)=0:=rfl
  simp (maxSteps:=3000000) (maxDischargeDepth:=6) +contextual -implicitDefEqProofs only [amA M,amB,↓aj,↓ab,↓al,↓ak,Nat.reduceBEq,Nat.reduceAdd,env,ao,bF,amG,AV.cell,Nat.reduceMul,Nat.reduceLeDiff,hlv,Eo M hg hl,Nat.zero_le,a1,hk,cZ,dN,beq_self_eq_true,Bool.not_false,List.length_nil,Int.ofNat_zero,cut_app]
 |true=>
  cases hww:Cp w with
  |false=>
   simp only [hk,hww,Bool.not_true,Bool.not_false,sel] at a1
   simp (maxSteps:=3000000) (maxDischargeDepth:=6) +contextual -implicitDefEqProofs only [amA M,amB,↓aj,↓ab,↓al,↓ak,Nat.reduceBEq,Nat.reduceAdd,env,ao,bF,amG,AV.cell,Nat.reduceMul,Nat.reduceLeDiff,hlv,Eo M hg hl,Nat.zero_le,a1,hk,cZ,dN,beq_self_eq_true,Bool.not_false,List.length_nil,Int.ofNat_zero,(show ((1:Int) == 0)=false from rfl),cut_app]
  |true=>
   have hk0:=eq_of_beq hk
   have hal:=PW hk0 w
   simp only [hk,hww,Bool.not_true,sel] at a1
   have h1:=fun k He=>XH M hN hW hE hS hX hY hB hF hU hO hP hV hSA hl hk0 (PX hww) rfl (by omega) (x:=x) (tg:=.any) (H:=H++[.cells l.row az,.cells x.row au]) (H0:=H) (p:=H.length) (r:=H.length+1) (T:=az) (T2:=au) (by rw [dX];rfl) (by rw [hp_getk];rfl) k (A6 l w).length 0 He (by omega)
   simp only [kv_cons,kv_nil,Int.ofNat_zero] at h1
   have hbu:=fun H=>Nb M hN hW hE hS hX hY hB hF hU hO hP hV hl hx H
   rcases S9 hk0 x with ⟨c,e,hc⟩ | ⟨e1,e2,e⟩
   ·rw [e] at hbu
    simp (maxSteps:=3000000) (maxDischargeDepth:=6) +contextual -implicitDefEqProofs only [amA M,amB,↓aj,↓ab,↓al,↓ak,Nat.reduceBEq,Nat.reduceAdd,env,ao,bF,amG,AV.cell,Nat.reduceMul,Nat.reduceLeDiff,hlv,Eo M hg hl,Nat.zero_le,a1,hk,h1,hbu,hc,cZ,dN,beq_self_eq_true,Bool.not_false,Bool.not_true,cut_app]
   ·rw [e] at hbu
    obtain ⟨hw2,a,ha,ha2⟩:=S8 hk0 e1 e2
    obtain ⟨j,hj⟩:=List.getElem?_of_mem ha
    have a2:=fun H=>I4 M hN hW hE hS hX hY hB hF hU hO hP hV hA hl (w:=ka l x) (by have:=PX hw2;simp only [bD];omega) H
    simp only [VU,hk,hw2,Bool.not_true,sel] at a2
    have hbl:=PW hk0 (ka l x)
    have h2:=fun k He=>XI M hSA (asq:=A6 l (ka l x)) (by omega) (fun a ha=>by have:=V4 ha;simp only [bD];omega) (x:=x) hlv (tg:=.any) (H:=H++[.cells l.row az,.cells x.row au]) (H0:=H) (r:=H.length+1) (T2:=au) (by rw [hp_getk];rfl) (cut_app H _) k (A6 l (ka l x)).length 0 He (by omega) ⟨j,a,by omega,hj,(Nj a x).2 ha2⟩
    simp only [kv_cons,kv_nil,Int.ofNat_zero,hp_take] at h2
    simp (maxSteps:=3000000) (maxDischargeDepth:=6) +contextual -implicitDefEqProofs only [amA M,amB,↓aj,↓ab,↓al,↓ak,Nat.reduceBEq,Nat.reduceAdd,env,ao,bF,amG,AV.cell,Nat.reduceMul,Nat.reduceLeDiff,hlv,Eo M hg hl,Nat.zero_le,a1,a2,hk,h1,h2,hbu,cZ,dN,beq_self_eq_true,Bool.not_true,Bool.not_false,cut_app]
end
section
open Go.Sort Go.Proofs Go.Lib
abbrev Pr:=List UInt8×List UInt8
def Hz(x:Pr):List AV:=[.str x.1,.str x.2]
def CY(x:Pr):List Value:=[.string ⟨x.1.toArray⟩,.string ⟨x.2.toArray⟩]
def LR(x y:Pr):Int:=Lib.compareBytes x.1 y.1
def tA(d:Array Pr):Array Pr:=pdq (ltOf LR) d 0 d.size (Lib.bitLen d.size) true true
def FC(l:List Pr):List Pr:=(tA l.toArray).toList
section
variable{P:Program}{G:Nat→Option (List AV)}{K:aI}{H:List ae}{w:World}
theorem Inv.drewN(hi:Inv K H w):∀ n,Inv K H (w.drewN n)
 |0=>by rw [World.drewN_zero];exact hi
 |n+1=>(Inv.drewN hi n).drew
theorem Inv.grow(hi:Inv K H w)(os:Array Obj):Inv K H (Go.Sort.grow w os):=by
 obtain ⟨l,rfl⟩:∃ l:List Obj,os=l.toArray:=⟨os.toList,by simp⟩
 induction l generalizing w with
 |nil=>simpa using hi
 |cons o l ih=>
  have:=ih (hi.junk o)
  rw [alloc_eq_grow,grow_grow] at this
  simpa using this
theorem Q8:∀ (x y rest:List AV),x.length=y.length→aL (x++rest) 0 y=y++rest:=by
 have key:∀ (y x pre rest:List AV),x.length=y.length→aL (pre++x++rest) pre.length y=pre++y++rest:=by
  intro y
  induction y with
  |nil=>intro x pre rest h;have:x=[]:=List.length_eq_zero_iff.1 h;subst this;simp [aL]
  |cons a y ih=>
   intro x pre rest h
   cases x with
   |nil=>cases h
   |cons b x=>
    rw [aL]
    have:=ih x (pre++[a]) rest (by simpa using h)
    simp only [List.length_append,List.length_cons,List.length_nil,List.append_assoc,List.cons_append,List.nil_append] at this ⊢
    rw [← this]
    congr 1
    simp
 intro x y rest h
 simpa using key y x [] rest h
theorem Nk(l:List Pr):∀ (j:Nat),j<l.length*2→∃ s,(l.flatMap Hz)[j]?=some (.str s)∧(CY (l.toArray[j / 2]!))[j % 2]! = .string ⟨s.toArray⟩:=by
 induction l with
 |nil=>intro j h;simp at h
 |cons x l ih=>
  intro j h
  match j with
  |0=>exact ⟨x.1,rfl,rfl⟩
  |1=>exact ⟨x.2,rfl,rfl⟩
  |j+2=>
   obtain ⟨s,h1,h2⟩:=ih j (by simp at h;omega)
   refine ⟨s,by simpa [Hz] using h1, ?_⟩
   have e1:(j+2) / 2=j / 2+1:=by omega
   have e2:(j+2) % 2=j % 2:=by omega
   rw [e1,e2,← h2]
   simp
theorem kX(l:List Pr):(l.flatMap Hz).length=l.length*2:=by
 induction l with
 |nil=>rfl
 |cons x l ih=>simp [Hz,ih];omega
theorem PY{f g:FuncId}(ef:∀ args w,(callFunc f args).run P w = .ok (.enter f args) w)
  (hs:∀ (blk cap:Nat) (d:Array Pr) (w:World),HoldsK CY 2 w blk 0 d→blk<w.heap.size→d.size<4611686018427387904 →
   Calls P f #[.slice (some ⟨blk,0,none⟩) d.size cap,.func (.func g) #[] #[]] w fun e w'=>e = .returned (.tuple #[])∧∃ n os,w'=sortWorldK CY 2 w blk 0 n (tA d) os)
  (hz:∀ d:Array Pr,(tA d).size=d.size)
  {l:List Pr} (hl:l.length<4611686018427387904) {rest:List AV}{id:Nat}{room:Bool}{T:TypeId} (hid:H[id]?=some (.cells (l.flatMap Hz++rest) T)) :
  eX P G f [.rslice id 0 l.length 2 room,.fn (.func g) [] []] H fun r H'=>r = .ret (.tuple [])∧H'=H.set id (.cells ((FC l).flatMap Hz++rest) T):=by
 intro K w cargs hg hi hv
 obtain ⟨c,d,rfl,hc,hd⟩:=ue hv
 cases hc with
 |rslice _ _ _ _ _ b cap hb hcap hro=>
 cases hd with
 |fn _ _ _ vs us h1 h2 hv1 hu1=>
 obtain rfl:vs = #[]:=Array.eq_empty_of_size_eq_zero h1.symm
 obtain rfl:us = #[]:=Array.eq_empty_of_size_eq_zero h2.symm
 obtain ⟨b',vs,T',g1,g2,g3,g4,g5,g6,g7,g8,g9⟩:=hi.obj id _ hid
 rw [hb] at g1;cases g1
 have hlen:l.length*2≤vs.size:=by
  rw [List.length_append,kX] at g4;omega
 have hH:HoldsK CY 2 w b 0 l.toArray:=by
  intro j hj
  rw [size_flatK] at hj
  simp only [List.size_toArray] at hj
  obtain ⟨s,e1,e2⟩:=Nk l j hj
  have hav:=g5 j (.str s) (by rw [List.getElem?_append_left (by rw [kX];exact hj)];exact e1)
  have hlt:j<vs.size:=by omega
  refine ⟨?_,by simp [World.frozen?,g3]⟩
  rw [Nat.zero_add,cell_of_heap g3,Array.getElem?_eq_getElem hlt]
  rw [get_flatK _ _ _ _ (by simpa using hj),e2]
  have hgd:vs.getD j undef=vs[j]:=by simp [Array.getD,hlt]
  rw [hgd] at hav
  generalize vs[j]=v at hav
  cases hav
  rfl
 have hblk:b<w.heap.size:=(Array.getElem?_eq_some_iff.1 g3).1
 have hc:=hs b cap l.toArray w hH hblk (by simpa using hl)
 simp only [List.size_toArray] at hc
 refine .inl ⟨ef _ _,hc.mono ?_⟩
 rintro e w' ⟨rfl,n,os,rfl⟩
 have hz':(tA l.toArray).size=l.length:=by simpa using hz l.toArray
 have hsl:(FC l).length=l.length:=by simpa [FC] using hz'
 refine ⟨K,.ret (.tuple []),_,.refl K,(.tuple [] #[] rfl (by simp):V K _ _), ?_,rfl,rfl⟩
 have e1:putRowK CY 2 (Sort.ahead w n) b 0 (tA l.toArray)=(w.drewN n).setCells b 0 (flatK CY 2 (tA l.toArray)).toList:=by
  have:=putRow_eq_setCells (fun v:Value=>v) w b 0 (flatK CY 2 l.toArray) (flatK CY 2 (tA l.toArray)).toList n hH (by simp [hz'])
  simp only [Array.toArray_toList,List.map_id_fun,List.map_id] at this
  refine Eq.trans ?_ (this.trans ?_)
  ·rfl
  ·congr 1;exact List.map_id _
 unfold sortWorldK
 rw [e1]
 refine Inv.grow ?_ os
 have hi2:=hi.drewN n
 have:=Inv.stores hb ((FC l).flatMap Hz) (flatK CY 2 (tA l.toArray)).toList 0 H (w.drewN n) (l.flatMap Hz++rest) T hi2 hid (by rw [kX,hsl];simp [hz']) (by rw [kX,hsl,List.length_append,kX];omega) (fun j av hj=>by
  have hj2:j<(FC l).length*2:=by rw [← kX];exact (List.getElem?_eq_some_iff.1 hj).1
  obtain ⟨s,k1,k2⟩:=Nk (FC l) j hj2
  rw [hj] at k1;cases k1
  refine ⟨.string ⟨s.toArray⟩, ?_,.str s⟩
  have hj3:j<(tA l.toArray).size*2:=by rw [hz',← hsl];exact hj2
  have:(flatK CY 2 (tA l.toArray))[j]! = .string ⟨s.toArray⟩:=by
   rw [get_flatK _ _ _ _ hj3,← k2];simp [FC]
  rw [Array.getElem?_toList,← this,getElem!_def]
  have hj4:j<(flatK CY 2 (tA l.toArray)).size:=by rw [size_flatK];exact hj3
  rw [Array.getElem?_eq_getElem hj4])
 rwa [Q8 _ _ _ (by rw [kX,kX,hsl])] at this
end
end
section
open Go.Sort Go.Proofs Go.Lib
def toP(x:aq):Pr:=(x.name,x.value)
def ofP(p:Pr):aq:=⟨p.1,p.2⟩
def UV(l:List aq):List aq:=(FC (l.map toP)).map ofP
theorem R3(l:List aq):bW l=(l.map toP).flatMap Hz:=by
 unfold bW
 induction l with
 |nil=>rfl
 |cons x l ih=>rw [List.map_cons,List.flatten_cons,ih];rfl
theorem V5(l:List Pr):bW (l.map ofP)=l.flatMap Hz:=by
 rw [R3,List.map_map]
 congr 1
 exact List.map_id l
theorem UW:∀ x y:List UInt8,decide (Lib.compareBytes x y<0)=Op.bytesLess x y
 |[],[]=>rfl
 |[],_::_=>rfl
 |_::_,[]=>rfl
 |a::x,b::y=>by
  rw [Lib.compareBytes,Op.bytesLess]
  by_cases h1:a<b
  ·simp [h1]
  ·by_cases h2:b<a
   ·have:¬ a=b:=fun e=>by subst e;exact h1 h2
    simp [h1,h2,this]
   ·have:a=b:=UInt8.le_antisymm (UInt8.not_lt.1 h2) (UInt8.not_lt.1 h1)
    subst this
    simp [h1,UW x y]
theorem R4(x y:Pr):ltOf LR x y=Op.bytesLess x.1 y.1:=UW x.1 y.1
theorem XJ:SWO (ltOf LR) where
 irrefl x:=by rw [R4];exact D0 _
 trans x y z h1 h2:=by rw [R4] at *;exact qI h1 h2
 ntrans x y z h1 h2:=by
  rw [R4] at *
  cases h3:Op.bytesLess x.1 z.1 with
  |false=>rfl
  |true=>
   cases h4:Op.bytesLess y.1 x.1 with
   |true=>rw [qI h4 h3] at h2;cases h2
   |false=>rw [K8 h1 h4] at h3;rw [h3] at h2;cases h2
theorem Gh(d:Array Pr):PermIn 0 d.size d (tA d)∧SortedIn (ltOf LR) 0 d.size (tA d):=
 pdq_sorts (ltOf LR) XJ d 0 d.size (Lib.bitLen d.size) true true (Nat.zero_le _) (Nat.le_refl _) (Or.inl rfl)
theorem Ix(d:Array Pr):(tA d).size=d.size:=(Gh d).1.1
theorem UX:Srt UV:=by
 constructor
 ·intro l
  have h:=(Gh (l.map toP).toArray).1.2.2
  have hs:=Ix (l.map toP).toArray
  have e1:(tA (l.map toP).toArray).extract 0 (l.map toP).toArray.size=tA (l.map toP).toArray:=by rw [← hs];exact Array.extract_size
  have e2:(l.map toP).toArray.extract 0 (l.map toP).toArray.size=(l.map toP).toArray:=Array.extract_size
  rw [e1,e2] at h
  have h2:=h.map ofP
  have e3:(l.map toP).map ofP=l:=by rw [List.map_map];exact List.map_id l
  rwa [e3] at h2
 ·intro l
  have h:=(Gh (l.map toP).toArray).2
  have hs:=Ix (l.map toP).toArray
  unfold Wek UV FC
  rw [List.pairwise_iff_getElem]
  intro i j hi hj hij
  simp only [List.length_map,Array.length_toList] at hi hj
  have:=h i j (Nat.zero_le _) hij (by rw [← hs];exact hj)
  rw [R4] at this
  simp only [List.getElem_map,Array.getElem_toList]
  rw [getElem!_pos _ i hi,getElem!_pos _ j hj] at this
  exact this
def PZ:List AV→Option (List Pr)
 |[]=>some []
 |.str a :: .str b::r=>match PZ r with
  |some l=>some ((a,b)::l)
  |none=>none
 |_=>none
theorem Nl:∀ l:List Pr,PZ (l.flatMap Hz)=some l
 |[]=>rfl
 |x::l=>by
  show PZ (.str x.1 :: .str x.2::l.flatMap Hz)=_
  rw [PZ,Nl l]
theorem R5:∀ {cs:List AV}{l:List Pr},PZ cs=some l→cs=l.flatMap Hz
 |[],l,h=>by cases h;rfl
 |.str a :: .str b::r,l,h=>by
  rw [PZ] at h
  split at h
  ·rename_i l' h'
   cases h
   rw [R5 h'];rfl
  ·cases h
def Ta(fS gU:FuncId)(f:FuncId)(args:List AV)(H:List ae):Option Out:=
 match args with
 |[.rslice id 0 n 2 true,.fn (.func g) [] []]=>bif Nat.beq f fS&&Nat.beq g gU then (match H[id]? with
   |some (.cells cs T)=>match PZ cs with
    |some l=>bif Nat.beq l.length n&&Nat.ble n 4000000000 then some (.ret (.tuple []),H.set id (.cells ((FC l).flatMap Hz) T)) else none
    |none=>none
   |_=>none) else none
 |[.slice .full 2 [],.fn (.func g) [] []]=>bif Nat.beq f fS&&Nat.beq g gU then some (.ret (.tuple []),H) else none
 |_=>none
theorem V6{P:Program}{G:Nat→Option (List AV)}{fS gU:FuncId}(ef:∀ args w,(callFunc fS args).run P w = .ok (.enter fS args) w)
  (hs:∀ (blk cap:Nat) (d:Array Pr) (w:World),HoldsK CY 2 w blk 0 d→blk<w.heap.size→d.size<4611686018427387904 →
   Calls P fS #[.slice (some ⟨blk,0,none⟩) d.size cap,.func (.func gU) #[] #[]] w fun e w'=>e = .returned (.tuple #[])∧∃ n os,w'=sortWorldK CY 2 w blk 0 n (tA d) os)
  (h0:∀ (p:Option Addr) (cap:Nat) (fv:Value) (w:World),Calls P fS #[.slice p 0 cap,fv] w fun e w'=>e = .returned (.tuple #[])∧w'=w)
  {f:FuncId}{args:List AV}{H H':List ae}{r:vX} (h:Ta fS gU f args H=some (r,H')):eX P G f args H fun r2 H2=>r2=r∧H2=H':=by
 unfold Ta at h
 split at h
 ·rename_i id n g
  cases hb:(Nat.beq f fS&&Nat.beq g gU) with
  |false=>rw [hb] at h;cases h
  |true=>
   rw [hb,cond_true] at h
   simp only [Bool.and_eq_true] at hb
   obtain rfl:=Nat.eq_of_beq_eq_true hb.1
   obtain rfl:=Nat.eq_of_beq_eq_true hb.2
   split at h<;>try (cases h;done)
   rename_i cs T hx
   split at h<;>try (cases h;done)
   rename_i l hl
   cases hc:(Nat.beq l.length n&&Nat.ble n 4000000000) with
   |false=>rw [hc] at h;cases h
   |true=>
    rw [hc,cond_true] at h
    simp only [Bool.and_eq_true] at hc
    obtain rfl:=Nat.eq_of_beq_eq_true hc.1
    have hle:=Nat.le_of_ble_eq_true hc.2
    cases h
    obtain rfl:=R5 hl
    have:=PY (P:=P) (G:=G) ef hs Ix (l:=l) (by omega) (rest:=[]) (H:=H) (id:=id) (room:=true) (T:=T) (by rw [List.append_nil];exact hx)
    simpa using this
 ·rename_i g
  cases hb:(Nat.beq f fS&&Nat.beq g gU) with
  |false=>rw [hb] at h;cases h
  |true=>
   rw [hb,cond_true] at h
   simp only [Bool.and_eq_true] at hb
   obtain rfl:=Nat.eq_of_beq_eq_true hb.1
   cases h
   intro K w cargs hg hi hv
   obtain ⟨c,d,rfl,hc,hd⟩:=ue hv
   obtain ⟨p,rfl⟩:∃ p,c = .slice p 0 0:=by
    cases hc with
    |slice0 _ _ a _=>exact ⟨a,rfl⟩
    |slice _ _ _ b o cap vs hl him hvv hcap ht=>exact ⟨_,by have:cap=0:=ht;rw [this];rfl⟩
   refine .inl ⟨ef _ _,(h0 p 0 d w).mono ?_⟩
   rintro e w' ⟨rfl,rfl⟩
   exact ⟨K,.ret (.tuple []),H,.refl K,(.tuple [] #[] rfl (by simp):V K _ _),hi,rfl,rfl⟩
 ·cases h
end
section
open Go.ChangeShapes Go.WideShapes
structure iE (P:Program):Prop where
 u_string:P.underlying bB=some .string
 c_string:P.cellsOf bB=1
 f_Feat:fieldsOf P a6=some [(0,bB),(1,bB)]
 c_Feat:P.cellsOf a6=2
 u_sl_string:P.underlying rA=some (.slice bB)
 c_sl_string:P.cellsOf rA=1
 f_Trait:fieldsOf P iz=some [(0,bB),(1,rA)]
 c_Trait:P.cellsOf iz=2
 u_sl_Feat:P.underlying dH=some (.slice a6)
 c_sl_Feat:P.cellsOf dH=1
 u_int:P.underlying Ad=some (.int .i64)
 c_int:P.cellsOf Ad=1
 f_Slot:fieldsOf P bI=some [(0,Ad),(1,bB),(2,bB),(3,dH)]
 c_Slot:P.cellsOf bI=4
 u_sl_Slot:P.underlying tV=some (.slice bI)
 c_sl_Slot:P.cellsOf tV=1
 f_Class:fieldsOf P cr=some [(0,bB),(1,tV)]
 c_Class:P.cellsOf cr=2
 f_Irreg:fieldsOf P eL=some [(0,Ad),(1,bB)]
 c_Irreg:P.cellsOf eL=2
 u_sl_Irreg:P.underlying mP=some (.slice eL)
 c_sl_Irreg:P.cellsOf mP=1
 f_Entry:fieldsOf P ec=some [(0,bB),(1,bB),(2,dH),(3,mP)]
 c_Entry:P.cellsOf ec=4
 f_Spell:fieldsOf P eV=some [(0,bB),(1,bB),(2,bB),(3,bB)]
 c_Spell:P.cellsOf eV=4
 f_Link:fieldsOf P lb=some [(0,bB),(1,bB),(2,dH)]
 c_Link:P.cellsOf lb=3
 u_sl_Trait:P.underlying se=some (.slice iz)
 c_sl_Trait:P.cellsOf se=1
 u_sl_Class:P.underlying sf=some (.slice cr)
 c_sl_Class:P.cellsOf sf=1
 u_sl_Entry:P.underlying sg=some (.slice ec)
 c_sl_Entry:P.cellsOf sg=1
 u_sl_Spell:P.underlying si=some (.slice eV)
 c_sl_Spell:P.cellsOf si=1
 u_sl_Link:P.underlying tU=some (.slice lb)
 c_sl_Link:P.cellsOf tU=1
 f_Lex:fieldsOf P az=some [(0,bB),(1,se),(2,sf),(3,sg),(4,si),(5,tU)]
 c_Lex:P.cellsOf az=6
 f_First:fieldsOf P dE=some [(0,Ad),(1,Ad),(2,Ad)]
 c_First:P.cellsOf dE=3
 u_sl_First:P.underlying sj=some (.slice dE)
 c_sl_First:P.cellsOf sj=1
 f_Analysis:fieldsOf P au=some [(0,sj),(1,Ad),(2,Ad)]
 c_Analysis:P.cellsOf au=3
 f_Ask:fieldsOf P pZ=some [(0,bB),(1,bB),(2,dH),(3,Ad),(4,Ad)]
 c_Ask:P.cellsOf pZ=5
section
variable{P:Program}{W:World}{G:Nat→Option (List AV)}
theorem Tb(h:iE P):lF P W G a6 aq.row (aq.ok 0):=
 hJ h.f_Feat h.c_Feat (bp (ga h.u_string) h.c_string (bp (ga h.u_string) h.c_string (jZ _))) (fun a=>⟨a.1,a.2.1⟩) (fun a=>rfl) (fun a ha=>⟨ha.1,ha.2.1⟩)
theorem LS(h:iE P):lF P W G rA (fun s:Sl Str=>[.slice s.tag 1 (s.l.map k7)]) (fun s=>s.ok 0 fun s=>s.length≤bD):=
 jV h.u_sl_string h.c_string (by decide) (fun _=>rfl) (ga h.u_string)
theorem Q9(h:iE P):lF P W G iz bG.row (bG.ok 0):=
 hJ h.f_Trait h.c_Trait (bp (ga h.u_string) h.c_string (bp (LS h) h.c_sl_string (jZ _))) (fun a=>⟨a.1,a.2.1⟩) (fun a=>rfl) (fun a ha=>⟨ha.1,ha.2.1⟩)
theorem B3(h:iE P):lF P W G dH (fun s:Sl aq=>[.slice s.tag 2 (s.l.map aq.row)]) (fun s=>s.ok 0 (aq.ok 0)):=
 jV h.u_sl_Feat h.c_Feat (by decide) (fun _=>by simp only [yE]) (Tb h)
theorem Tc(h:iE P):lF P W G bI bt.row (bt.ok 0):=
 hJ h.f_Slot h.c_Slot (bp (tE h.u_int) h.c_int (bp (ga h.u_string) h.c_string (bp (ga h.u_string) h.c_string (bp (B3 h) h.c_sl_Feat (jZ _))))) (fun a=>⟨a.1,a.2.1,a.2.2.1,a.2.2.2.1⟩) (fun a=>rfl) (fun a ha=>⟨ha.1,ha.2.1,ha.2.2.1,ha.2.2.2.1⟩)
theorem Oa(h:iE P):lF P W G tV (fun s:Sl bt=>[.slice s.tag 4 (s.l.map bt.row)]) (fun s=>s.ok 0 (bt.ok 0)):=
 jV h.u_sl_Slot h.c_Slot (by decide) (fun _=>by simp only [jz]) (Tc h)
theorem Ra(h:iE P):lF P W G cr aZ.row (aZ.ok 0):=
 hJ h.f_Class h.c_Class (bp (ga h.u_string) h.c_string (bp (Oa h) h.c_sl_Slot (jZ _))) (fun a=>⟨a.1,a.2.1⟩) (fun a=>rfl) (fun a ha=>⟨ha.1,ha.2.1⟩)
theorem Rb(h:iE P):lF P W G eL bX.row (bX.ok 0):=
 hJ h.f_Irreg h.c_Irreg (bp (tE h.u_int) h.c_int (bp (ga h.u_string) h.c_string (jZ _))) (fun a=>⟨a.1,a.2.1⟩) (fun a=>rfl) (fun a ha=>⟨ha.1,ha.2.1⟩)
theorem Mo(h:iE P):lF P W G mP (fun s:Sl bX=>[.slice s.tag 2 (s.l.map bX.row)]) (fun s=>s.ok 0 (bX.ok 0)):=
 jV h.u_sl_Irreg h.c_Irreg (by decide) (fun _=>by simp only [HR]) (Rb h)
theorem Rc(h:iE P):lF P W G ec aK.row (aK.ok 0):=
 hJ h.f_Entry h.c_Entry (bp (ga h.u_string) h.c_string (bp (ga h.u_string) h.c_string (bp (B3 h) h.c_sl_Feat (bp (Mo h) h.c_sl_Irreg (jZ _))))) (fun a=>⟨a.1,a.2.1,a.2.2.1,a.2.2.2.1⟩) (fun a=>rfl) (fun a ha=>⟨ha.1,ha.2.1,ha.2.2.1,ha.2.2.2.1⟩)
theorem Re(h:iE P):lF P W G eV bA.row (bA.ok 0):=
 hJ h.f_Spell h.c_Spell (bp (ga h.u_string) h.c_string (bp (ga h.u_string) h.c_string (bp (ga h.u_string) h.c_string (bp (ga h.u_string) h.c_string (jZ _))))) (fun a=>⟨a.1,a.2.1,a.2.2.1,a.2.2.2.1⟩) (fun a=>rfl) (fun a ha=>⟨ha.1,ha.2.1,ha.2.2.1,ha.2.2.2.1⟩)
theorem Td(h:iE P):lF P W G lb dt.row (dt.ok 0):=
 hJ h.f_Link h.c_Link (bp (ga h.u_string) h.c_string (bp (ga h.u_string) h.c_string (bp (B3 h) h.c_sl_Feat (jZ _)))) (fun a=>⟨a.1,a.2.1,a.2.2.1⟩) (fun a=>rfl) (fun a ha=>⟨ha.1,ha.2.1,ha.2.2.1⟩)
theorem Mp(h:iE P):lF P W G se (fun s:Sl bG=>[.slice s.tag 2 (s.l.map bG.row)]) (fun s=>s.ok 0 (bG.ok 0)):=
 jV h.u_sl_Trait h.c_Trait (by decide) (fun _=>by simp only [uL]) (Q9 h)
theorem Mq(h:iE P):lF P W G sf (fun s:Sl aZ=>[.slice s.tag 2 (s.l.map aZ.row)]) (fun s=>s.ok 0 (aZ.ok 0)):=
 jV h.u_sl_Class h.c_Class (by decide) (fun _=>by simp only [ky]) (Ra h)
theorem Mr(h:iE P):lF P W G sg (fun s:Sl aK=>[.slice s.tag 4 (s.l.map aK.row)]) (fun s=>s.ok 0 (aK.ok 0)):=
 jV h.u_sl_Entry h.c_Entry (by decide) (fun _=>by simp only [gZ]) (Rc h)
theorem Ms(h:iE P):lF P W G si (fun s:Sl bA=>[.slice s.tag 4 (s.l.map bA.row)]) (fun s=>s.ok 0 (bA.ok 0)):=
 jV h.u_sl_Spell h.c_Spell (by decide) (fun _=>by simp only [yP]) (Re h)
theorem Ob(h:iE P):lF P W G tU (fun s:Sl dt=>[.slice s.tag 3 (s.l.map dt.row)]) (fun s=>s.ok 0 (dt.ok 0)):=
 jV h.u_sl_Link h.c_Link (by decide) (fun _=>by simp only [z8]) (Td h)
theorem UY(h:iE P):lF P W G az Lex.row (Lex.ok 0):=
 hJ h.f_Lex h.c_Lex (bp (ga h.u_string) h.c_string (bp (Mp h) h.c_sl_Trait (bp (Mq h) h.c_sl_Class (bp (Mr h) h.c_sl_Entry (bp (Ms h) h.c_sl_Spell (bp (Ob h) h.c_sl_Link (jZ _))))))) (fun a=>⟨a.1,a.2.1,a.2.2.1,a.2.2.2.1,a.2.2.2.2.1,a.2.2.2.2.2.1⟩) (fun a=>rfl) (fun a ha=>⟨ha.1,ha.2.1,ha.2.2.1,ha.2.2.2.1,ha.2.2.2.2.1,ha.2.2.2.2.2.1⟩)
theorem Rf(h:iE P):lF P W G dE aJ.row (aJ.ok 0):=
 hJ h.f_First h.c_First (bp (tE h.u_int) h.c_int (bp (tE h.u_int) h.c_int (bp (tE h.u_int) h.c_int (jZ _)))) (fun a=>⟨a.1,a.2.1,a.2.2.1⟩) (fun a=>rfl) (fun a ha=>⟨ha.1,ha.2.1,ha.2.2.1⟩)
theorem Mt(h:iE P):lF P W G sj (fun s:Sl aJ=>[.slice s.tag 3 (s.l.map aJ.row)]) (fun s=>s.ok 0 (aJ.ok 0)):=
 jV h.u_sl_First h.c_First (by decide) (fun _=>by simp only [uM]) (Rf h)
theorem Mu(h:iE P):lF P W G au Analysis.row (Analysis.ok 0):=
 hJ h.f_Analysis h.c_Analysis (bp (Mt h) h.c_sl_First (bp (tE h.u_int) h.c_int (bp (tE h.u_int) h.c_int (jZ _)))) (fun a=>⟨a.1,a.2.1,a.2.2.1⟩) (fun a=>rfl) (fun a ha=>⟨ha.1,ha.2.1,ha.2.2.1⟩)
end
end
section
open Go.Shelf Go.RowKit Go.Lib Go.Sort Go.Proofs
def V7:Go.Shelf.Ren:=⟨fun | 6=>135 | 15=>176 | 14=>175 | 28=>199 | 29=>200 | 20=>191 | 21=>192 | 22=>193 | 23=>194 | 24=>195 | 25=>196 | 26=>197 | 27=>198 | 46=>214 | 47=>215 | 48=>216 | 49=>217 | 50=>218 | 57=>228 | n=>n,fun | 22=>45 | 24=>66 | 25=>202 | 3=>3 | 39=>234 | 0=>0 | 53=>251 | 55=>253 | 4=>4 | 46=>244 | 45=>243 | 50=>248 | 5=>5 | 9=>9 | 66=>263 | 70=>267 | 76=>279 | 77=>280 | n=>n,fun | n=>n⟩
theorem Oc:Go.Proofs.SlLaysF0.n6 Tryz.prog V7 where
 mixed:=by kernel_rfl
 f6:=⟨Tryz.f135.name,by kernel_rfl,Tryz.func135.trans (congrArg some (by kernel_rfl))⟩
 f14:=⟨Tryz.f175.name,by kernel_rfl,Tryz.func175.trans (congrArg some (by kernel_rfl))⟩
 f15:=Tryz.func176.trans (congrArg some (by kernel_rfl))
 f20:=⟨Tryz.f191.name,by kernel_rfl,Tryz.func191.trans (congrArg some (by kernel_rfl))⟩
 f21:=⟨Tryz.f192.name,by kernel_rfl,Tryz.func192.trans (congrArg some (by kernel_rfl))⟩
 f22:=⟨Tryz.f193.name,by kernel_rfl,Tryz.func193.trans (congrArg some (by kernel_rfl))⟩
 f23:=⟨Tryz.f194.name,by kernel_rfl,Tryz.func194.trans (congrArg some (by kernel_rfl))⟩
 f24:=⟨Tryz.f195.name,by kernel_rfl,Tryz.func195.trans (congrArg some (by kernel_rfl))⟩
 f25:=⟨Tryz.f196.name,by kernel_rfl,Tryz.func196.trans (congrArg some (by kernel_rfl))⟩
 f26:=⟨Tryz.f197.name,by kernel_rfl,Tryz.func197.trans (congrArg some (by kernel_rfl))⟩
 f27:=⟨Tryz.f198.name,by kernel_rfl,Tryz.func198.trans (congrArg some (by kernel_rfl))⟩
 f28:=Tryz.func199.trans (congrArg some (by kernel_rfl))
 f29:=Tryz.func200.trans (congrArg some (by kernel_rfl))
 f46:=⟨Tryz.f214.name,by kernel_rfl,Tryz.func214.trans (congrArg some (by kernel_rfl))⟩
 f47:=Tryz.func215.trans (congrArg some (by kernel_rfl))
 f48:=Tryz.func216.trans (congrArg some (by kernel_rfl))
 f49:=⟨Tryz.f217.name,by kernel_rfl,Tryz.func217.trans (congrArg some (by kernel_rfl))⟩
 f50:=⟨Tryz.f218.name,by kernel_rfl,Tryz.func218.trans (congrArg some (by kernel_rfl))⟩
 f57:=⟨Tryz.f228.name,by kernel_rfl,Tryz.func228.trans (congrArg some (by kernel_rfl))⟩
 t0:=Tryz.underlying0
 a0:=Tryz.isAgg0
 z0:=Tryz.sizeOf0
 v0:=Tryz.zeroValue0
 t3:=Tryz.underlying3
 a3:=Tryz.isAgg3
 z3:=Tryz.sizeOf3
 v3:=Tryz.zeroValue3
 t4:=Tryz.underlying4
 a4:=Tryz.isAgg4
 z4:=Tryz.sizeOf4
 v4:=Tryz.zeroValue4
 t5:=Tryz.underlying5
 a5:=Tryz.isAgg5
 z5:=Tryz.sizeOf5
 v5:=Tryz.zeroValue5
 t9:=Tryz.underlying9
 a9:=Tryz.isAgg9
 z9:=Tryz.sizeOf9
 v9:=Tryz.zeroValue9
 t22:=Tryz.underlying45
 a22:=Tryz.isAgg45
 z22:=Tryz.sizeOf45
 v22:=Tryz.zeroValue45
 t25:=Tryz.underlying202
 a25:=Tryz.isAgg202
 z25:=Tryz.sizeOf202
 v25:=Tryz.zeroValue202
 t39:=Tryz.underlying234
 a39:=Tryz.isAgg234
 z39:=Tryz.sizeOf234
 v39:=Tryz.zeroValue234
 t45:=Tryz.underlying243
 a45:=Tryz.isAgg243
 z45:=Tryz.sizeOf243
 v45:=Tryz.zeroValue243
 t46:=Tryz.underlying244
 a46:=Tryz.isAgg244
 z46:=Tryz.sizeOf244
 v46:=Tryz.zeroValue244
 t50:=Tryz.underlying248
 a50:=Tryz.isAgg248
 z50:=Tryz.sizeOf248
 v50:=Tryz.zeroValue248
 t53:=Tryz.underlying251
 a53:=Tryz.isAgg251
 z53:=Tryz.sizeOf251
 v53:=Tryz.zeroValue251
 t55:=Tryz.underlying253
 a55:=Tryz.isAgg253
 z55:=Tryz.sizeOf253
 v55:=Tryz.zeroValue253
 t66:=Tryz.underlying263
 a66:=Tryz.isAgg263
 z66:=Tryz.sizeOf263
 v66:=Tryz.zeroValue263
 t70:=Tryz.underlying267
 a70:=Tryz.isAgg267
 z70:=Tryz.sizeOf267
 v70:=Tryz.zeroValue267
 t76:=Tryz.underlying279
 a76:=Tryz.isAgg279
 z76:=Tryz.sizeOf279
 v76:=Tryz.zeroValue279
 t77:=Tryz.underlying280
 a77:=Tryz.isAgg280
 z77:=Tryz.sizeOf280
 v77:=Tryz.zeroValue280
set_option maxHeartbeats 2000000 in
theorem V8(a b:ByteArray)(w:World):Calls Tryz.prog 177 #[.string a,.string b] w fun e w'=>e = .returned (.int .i64 (Lib.compareBytes a.data.toList b.data.toList))∧w'=w:=by
 go_enter Tryz.func177,Tryz.ntmps177
 go_wp2
 rw [run_callFunc_extern Tryz.func201 (by kernel_rfl) (by kernel_rfl) (by kernel_rfl) (e:=Extern.BytealgCompare.compare) (by kernel_rfl),Lib.run_compareString]
 simp only [Result.andThen]
 rw [Oper.upon_value]
 go_wp2
 go_ret
 exact ⟨rfl,rfl⟩
set_option maxHeartbeats 2000000 in
theorem V9(a b:ByteArray)(w:World):Calls Tryz.prog 137 #[.string a,.string b] w fun e w'=>e = .returned (.int .i64 (Lib.compareBytes a.data.toList b.data.toList))∧w'=w:=by
 have hcon:=fun W'=>V8 a b W'
 generalize Lib.compareBytes a.data.toList b.data.toList=r at hcon ⊢
 go_enter Tryz.func137,Tryz.ntmps137
 go_wp2_with (go_at_call 177;refine (hcon _).mono ?_;rintro e w' ⟨rfl,rfl⟩)
 go_ret
 exact ⟨rfl,rfl⟩
set_option maxHeartbeats 2000000 in
theorem Te(x y:Pr)(W:World):Calls Tryz.prog 136 #[.agg #[.string ⟨x.1.toArray⟩,.string ⟨x.2.toArray⟩],.agg #[.string ⟨y.1.toArray⟩,.string ⟨y.2.toArray⟩]] W fun e w'=>e = .returned (.int .i64 (LR x y))∧∃ q os',w'=Go.Sort.grow (W.drewN q) os':=by
 have hcon:∀ W',Calls Tryz.prog 137 #[.string ⟨x.1.toArray⟩,.string ⟨y.1.toArray⟩] W' fun e w'=>e = .returned (.int .i64 (LR x y))∧w'=W':=fun W'=>by
  have:=V9 ⟨x.1.toArray⟩ ⟨y.1.toArray⟩ W'
  simpa [LR] using this
 generalize LR x y=r at hcon ⊢
 go_enter Tryz.func136,Tryz.ntmps136
 go_wp2_with (go_at_call 137;refine (hcon _).mono ?_;rintro e w' ⟨rfl,rfl⟩)
 go_ret
 exact ⟨rfl,0,_,by rw [alloc_eq_grow,alloc_eq_grow,grow_grow];rfl⟩
theorem UZ(blk off size:Nat)(w:World):CmpLays Tryz.prog 136 #[] CY 2 LR blk off size w:=fun _ _ _ _ x y=>Te x y _
theorem P0:∀ args w,(callFunc 135 args).run Tryz.prog w = .ok (.enter 135 args) w:=Oc.f6.enters rfl
theorem Rg(blk cap:Nat)(d:Array Pr)(w:World)(hH:HoldsK CY 2 w blk 0 d)(hb:blk<w.heap.size)(hd:d.size<4611686018427387904) :
  Calls Tryz.prog 135 #[.slice (some ⟨blk,0,none⟩) d.size cap,.func (.func 136) #[] #[]] w fun e w'=>e = .returned (.tuple #[])∧∃ n os,w'=sortWorldK CY 2 w blk 0 n (tA d) os:=
 AnyQ.slices_SortFunc_eq Oc 2 Tryz.isAgg66 Tryz.sizeOf66 CY (fun _=>rfl) (fun x v hv=>by simp [CY] at hv;rcases hv with rfl | rfl<;>rfl) LR XJ 136 #[] blk 0 cap d w (enters_of Tryz.func136 (by kernel_rfl) rfl) (UZ blk 0 d.size w) hH hb hd
theorem Tg(p:Option Addr)(cap:Nat)(fv:Value)(w:World):Calls Tryz.prog 135 #[.slice p 0 cap,fv] w fun e w'=>e = .returned (.tuple #[])∧w'=w:=AnyF.slices_SortFunc_none Oc p cap fv w
end
section
open Go.Proofs
def Xc(f:FuncId):Option AFn:=(bif Nat.blt f 98 then (bif Nat.blt f 51 then (bif Nat.blt f 28 then (bif Nat.blt f 14 then (bif Nat.blt f 9 then (bif Nat.blt f 5 then (bif Nat.blt f 4 then (bif Nat.beq f 3 then some pg else none) else (bif Nat.beq f 4 then some br else none)) else (bif Nat.blt f 7 then (bif Nat.beq f 5 then some ph else none) else (bif Nat.beq f 7 then some aM else none))) else (bif Nat.blt f 11 then (bif Nat.blt f 10 then (bif Nat.beq f 9 then some kE else none) else (bif Nat.beq f 10 then some bh else none)) else (bif Nat.blt f 12 then (bif Nat.beq f 11 then some n4 else none) else (bif Nat.blt f 13 then (bif Nat.beq f 12 then some tF else none) else (bif Nat.beq f 13 then some y0 else none))))) else (bif Nat.blt f 23 then (bif Nat.blt f 16 then (bif Nat.blt f 15 then (bif Nat.beq f 14 then some jY else none) else (bif Nat.beq f 15 then some vx else none)) else (bif Nat.blt f 19 then (bif Nat.beq f 16 then some rB else none) else (bif Nat.blt f 21 then (bif Nat.beq f 19 then some oo else none) else (bif Nat.beq f 21 then some cO else none)))) else (bif Nat.blt f 25 then (bif Nat.blt f 24 then (bif Nat.beq f 23 then some lf else none) else (bif Nat.beq f 24 then some mR else none)) else (bif Nat.blt f 26 then (bif Nat.beq f 25 then some dh else none) else (bif Nat.blt f 27 then (bif Nat.beq f 26 then some dO else none) else (bif Nat.beq f 27 then some wx else none)))))) else (bif Nat.blt f 37 then (bif Nat.blt f 32 then (bif Nat.blt f 30 then (bif Nat.blt f 29 then (bif Nat.beq f 28 then some fL else none) else (bif Nat.beq f 29 then some eZ else none)) else (bif Nat.blt f 31 then (bif Nat.beq f 30 then some dz else none) else (bif Nat.beq f 31 then some fM else none))) else (bif Nat.blt f 34 then (bif Nat.blt f 33 then (bif Nat.beq f 32 then some b9 else none) else (bif Nat.beq f 33 then some tX else none)) else (bif Nat.blt f 35 then (bif Nat.beq f 34 then some bj else none) else (bif Nat.blt f 36 then (bif Nat.beq f 35 then some iJ else none) else (bif Nat.beq f 36 then some ca else none))))) else (bif Nat.blt f 43 then (bif Nat.blt f 39 then (bif Nat.blt f 38 then (bif Nat.beq f 37 then some pj else none) else (bif Nat.beq f 38 then some qp else none)) else (bif Nat.blt f 41 then (bif Nat.beq f 39 then some vl else none) else (bif Nat.blt f 42 then (bif Nat.beq f 41 then some cb else none) else (bif Nat.beq f 42 then some rf else none)))) else (bif Nat.blt f 45 then (bif Nat.blt f 44 then (bif Nat.beq f 43 then some mV else none) else (bif Nat.beq f 44 then some lV else none)) else (bif Nat.blt f 46 then (bif Nat.beq f 45 then some lW else none) else (bif Nat.blt f 47 then (bif Nat.beq f 46 then some ou else none) else (bif Nat.beq f 47 then some mW else none))))))) else (bif Nat.blt f 70 then (bif Nat.blt f 60 then (bif Nat.blt f 55 then (bif Nat.blt f 53 then (bif Nat.blt f 52 then (bif Nat.beq f 51 then some iP else none) else (bif Nat.beq f 52 then some c7 else none)) else (bif Nat.blt f 54 then (bif Nat.beq f 53 then some jl else none) else (bif Nat.beq f 54 then some cw else none))) else (bif Nat.blt f 57 then (bif Nat.blt f 56 then (bif Nat.beq f 55 then some dA else none) else (bif Nat.beq f 56 then some jm else none)) else (bif Nat.blt f 58 then (bif Nat.beq f 57 then some cA else none) else (bif Nat.blt f 59 then (bif Nat.beq f 58 then some fc else none) else (bif Nat.beq f 59 then some jn else none))))) else (bif Nat.blt f 65 then (bif Nat.blt f 62 then (bif Nat.blt f 61 then (bif Nat.beq f 60 then some cB else none) else (bif Nat.beq f 61 then some dB else none)) else (bif Nat.blt f 63 then (bif Nat.beq f 62 then some jo else none) else (bif Nat.blt f 64 then (bif Nat.beq f 63 then some cC else none) else (bif Nat.beq f 64 then some fe else none)))) else (bif Nat.blt f 67 then (bif Nat.blt f 66 then (bif Nat.beq f 65 then some jq else none) else (bif Nat.beq f 66 then some cQ else none)) else (bif Nat.blt f 68 then (bif Nat.beq f 67 then some fx else none) else (bif Nat.blt f 69 then (bif Nat.beq f 68 then some eW else none) else (bif Nat.beq f 69 then some iS else none)))))) else (bif Nat.blt f 79 then (bif Nat.blt f 74 then (bif Nat.blt f 72 then (bif Nat.blt f 71 then (bif Nat.beq f 70 then some bR else none) else (bif Nat.beq f 71 then some eS else none)) else (bif Nat.blt f 73 then (bif Nat.beq f 72 then some fN else none) else (bif Nat.beq f 73 then some eE else none))) else (bif Nat.blt f 76 then (bif Nat.blt f 75 then (bif Nat.beq f 74 then some jr else none) else (bif Nat.beq f 75 then some c8 else none)) else (bif Nat.blt f 77 then (bif Nat.beq f 76 then some fy else none) else (bif Nat.blt f 78 then (bif Nat.beq f 77 then some n5 else none) else (bif Nat.beq f 78 then some bN else none))))) else (bif Nat.blt f 93 then (bif Nat.blt f 81 then (bif Nat.blt f 80 then (bif Nat.beq f 79 then some aW else none) else (bif Nat.beq f 80 then some bJ else none)) else (bif Nat.blt f 82 then (bif Nat.beq f 81 then some qs else none) else (bif Nat.blt f 83 then (bif Nat.beq f 82 then some oE else none) else (bif Nat.beq f 83 then some pq else none)))) else (bif Nat.blt f 95 then (bif Nat.blt f 94 then (bif Nat.beq f 93 then some nm else none) else (bif Nat.beq f 94 then some pr else none)) else (bif Nat.blt f 96 then (bif Nat.beq f 95 then some oF else none) else (bif Nat.blt f 97 then (bif Nat.beq f 96 then some rh else none) else (bif Nat.beq f 97 then some oG else none)))))))) else (bif Nat.blt f 142 then (bif Nat.blt f 122 then (bif Nat.blt f 112 then (bif Nat.blt f 107 then (bif Nat.blt f 105 then (bif Nat.blt f 104 then (bif Nat.beq f 98 then some oH else none) else (bif Nat.beq f 104 then some gm else none)) else (bif Nat.blt f 106 then (bif Nat.beq f 105 then some iQ else none) else (bif Nat.beq f 106 then some ba else none))) else (bif Nat.blt f 109 then (bif Nat.blt f 108 then (bif Nat.beq f 107 then some ej else none) else (bif Nat.beq f 108 then some bb else none)) else (bif Nat.blt f 110 then (bif Nat.beq f 109 then some ek else none) else (bif Nat.blt f 111 then (bif Nat.beq f 110 then some cR else none) else (bif Nat.beq f 111 then some en else none))))) else (bif Nat.blt f 117 then (bif Nat.blt f 114 then (bif Nat.blt f 113 then (bif Nat.beq f 112 then some ll else none) else (bif Nat.beq f 113 then some ln else none)) else (bif Nat.blt f 115 then (bif Nat.beq f 114 then some bc else none) else (bif Nat.blt f 116 then (bif Nat.beq f 115 then some eo else none) else (bif Nat.beq f 116 then some bk else none)))) else (bif Nat.blt f 119 then (bif Nat.blt f 118 then (bif Nat.beq f 117 then some ep else none) else (bif Nat.beq f 118 then some lq else none)) else (bif Nat.blt f 120 then (bif Nat.beq f 119 then some aU else none) else (bif Nat.blt f 121 then (bif Nat.beq f 120 then some eu else none) else (bif Nat.beq f 121 then some j0 else none)))))) else (bif Nat.blt f 131 then (bif Nat.blt f 126 then (bif Nat.blt f 124 then (bif Nat.blt f 123 then (bif Nat.beq f 122 then some j1 else none) else (bif Nat.beq f 123 then some ct else none)) else (bif Nat.blt f 125 then (bif Nat.beq f 124 then some iy else none) else (bif Nat.beq f 125 then some cS else none))) else (bif Nat.blt f 128 then (bif Nat.blt f 127 then (bif Nat.beq f 126 then some dR else none) else (bif Nat.beq f 127 then some aO else none)) else (bif Nat.blt f 129 then (bif Nat.beq f 128 then some dy else none) else (bif Nat.blt f 130 then (bif Nat.beq f 129 then some aP else none) else (bif Nat.beq f 130 then some ig else none))))) else (bif Nat.blt f 137 then (bif Nat.blt f 133 then (bif Nat.blt f 132 then (bif Nat.beq f 131 then some c9 else none) else (bif Nat.beq f 132 then some da else none)) else (bif Nat.blt f 134 then (bif Nat.beq f 133 then some ew else none) else (bif Nat.blt f 136 then (bif Nat.beq f 134 then some cF else none) else (bif Nat.beq f 136 then some Cd else none)))) else (bif Nat.blt f 139 then (bif Nat.blt f 138 then (bif Nat.beq f 137 then some yF else none) else (bif Nat.beq f 138 then some aV else none)) else (bif Nat.blt f 140 then (bif Nat.beq f 139 then some so else none) else (bif Nat.blt f 141 then (bif Nat.beq f 140 then some np else none) else (bif Nat.beq f 141 then some pw else none))))))) else (bif Nat.blt f 173 then (bif Nat.blt f 163 then (bif Nat.blt f 158 then (bif Nat.blt f 145 then (bif Nat.blt f 144 then (bif Nat.beq f 142 then some oM else none) else (bif Nat.beq f 144 then some ju else none)) else (bif Nat.blt f 157 then (bif Nat.beq f 145 then some jv else none) else (bif Nat.beq f 157 then some ij else none))) else (bif Nat.blt f 160 then (bif Nat.blt f 159 then (bif Nat.beq f 158 then some iT else none) else (bif Nat.beq f 159 then some aQ else none)) else (bif Nat.blt f 161 then (bif Nat.beq f 160 then some aX else none) else (bif Nat.blt f 162 then (bif Nat.beq f 161 then some jw else none) else (bif Nat.beq f 162 then some ik else none))))) else (bif Nat.blt f 168 then (bif Nat.blt f 165 then (bif Nat.blt f 164 then (bif Nat.beq f 163 then some aE else none) else (bif Nat.beq f 164 then some cP else none)) else (bif Nat.blt f 166 then (bif Nat.beq f 165 then some fX else none) else (bif Nat.blt f 167 then (bif Nat.beq f 166 then some dC else none) else (bif Nat.beq f 167 then some db else none)))) else (bif Nat.blt f 170 then (bif Nat.blt f 169 then (bif Nat.beq f 168 then some cM else none) else (bif Nat.beq f 169 then some dc else none)) else (bif Nat.blt f 171 then (bif Nat.beq f 170 then some dW else none) else (bif Nat.blt f 172 then (bif Nat.beq f 171 then some ff else none) else (bif Nat.beq f 172 then some eG else none)))))) else (bif Nat.blt f 188 then (bif Nat.blt f 179 then (bif Nat.blt f 177 then (bif Nat.blt f 174 then (bif Nat.beq f 173 then some gX else none) else (bif Nat.beq f 174 then some cX else none)) else (bif Nat.blt f 178 then (bif Nat.beq f 177 then some kP else none) else (bif Nat.beq f 178 then some lB else none))) else (bif Nat.blt f 182 then (bif Nat.blt f 180 then (bif Nat.beq f 179 then some l7 else none) else (bif Nat.beq f 180 then some iq else none)) else (bif Nat.blt f 186 then (bif Nat.beq f 182 then some cU else none) else (bif Nat.blt f 187 then (bif Nat.beq f 186 then some bZ else none) else (bif Nat.beq f 187 then some eH else none))))) else (bif Nat.blt f 205 then (bif Nat.blt f 190 then (bif Nat.blt f 189 then (bif Nat.beq f 188 then some de else none) else (bif Nat.beq f 189 then some eI else none)) else (bif Nat.blt f 202 then (bif Nat.beq f 190 then some fP else none) else (bif Nat.blt f 203 then (bif Nat.beq f 202 then some l8 else none) else (bif Nat.beq f 203 then some b4 else none)))) else (bif Nat.blt f 211 then (bif Nat.blt f 206 then (bif Nat.beq f 205 then some j5 else none) else (bif Nat.beq f 206 then some fg else none)) else (bif Nat.blt f 219 then (bif Nat.beq f 211 then some fY else none) else (bif Nat.blt f 221 then (bif Nat.beq f 219 then some l9 else none) else (bif Nat.beq f 221 then some gY else none)))))))))
theorem uG:aa Tryz.prog G0 3 pg:=by unfold aa;kernel_rfl
theorem tl:aa Tryz.prog G0 4 br:=by unfold aa;kernel_rfl
theorem uH:aa Tryz.prog G0 5 ph:=by unfold aa;kernel_rfl
theorem zu:aa Tryz.prog G0 7 aM:=by unfold aa;kernel_rfl
theorem Gi:aa Tryz.prog G0 9 kE:=by unfold aa;kernel_rfl
theorem tm:aa Tryz.prog G0 10 bh:=by unfold aa;kernel_rfl
theorem Iy:aa Tryz.prog G0 11 n4:=by unfold aa;kernel_rfl
theorem Fc:aa Tryz.prog G0 12 tF:=by unfold aa;kernel_rfl
theorem Iz:aa Tryz.prog G0 13 y0:=by unfold aa;kernel_rfl
theorem Fe:aa Tryz.prog G0 14 jY:=by unfold aa;kernel_rfl
theorem Jy:aa Tryz.prog G0 15 vx:=by unfold aa;kernel_rfl
theorem xn:aa Tryz.prog G0 16 rB:=by unfold aa;kernel_rfl
theorem zw:aa Tryz.prog G0 19 oo:=by unfold aa;kernel_rfl
theorem xo:aa Tryz.prog G0 21 cO:=by unfold aa;kernel_rfl
theorem IA:aa Tryz.prog G0 23 lf:=by unfold aa;kernel_rfl
theorem Jz:aa Tryz.prog G0 24 mR:=by unfold aa;kernel_rfl
theorem vM:aa Tryz.prog G0 25 dh:=by unfold aa;kernel_rfl
theorem x9:aa Tryz.prog G0 26 dO:=by unfold aa;kernel_rfl
theorem HA:aa Tryz.prog G0 27 wx:=by unfold aa;kernel_rfl
theorem ya:aa Tryz.prog G0 28 fL:=by unfold aa;kernel_rfl
theorem zx:aa Tryz.prog G0 29 eZ:=by unfold aa;kernel_rfl
theorem zy:aa Tryz.prog G0 30 dz:=by unfold aa;kernel_rfl
theorem yb:aa Tryz.prog G0 31 fM:=by unfold aa;kernel_rfl
theorem rm:aa Tryz.prog G0 32 b9:=by unfold aa;kernel_rfl
theorem IB:aa Tryz.prog G0 33 tX:=by unfold aa;kernel_rfl
theorem nF:aa Tryz.prog G0 34 bj:=by unfold aa;kernel_rfl
theorem CZ:aa Tryz.prog G0 35 iJ:=by unfold aa;kernel_rfl
theorem pB:aa Tryz.prog G0 36 ca:=by unfold aa;kernel_rfl
theorem A8:aa Tryz.prog G0 37 pj:=by unfold aa;kernel_rfl
theorem vN:aa Tryz.prog G0 38 qp:=by unfold aa;kernel_rfl
theorem B4:aa Tryz.prog G0 39 vl:=by unfold aa;kernel_rfl
theorem xp:aa Tryz.prog G0 41 cb:=by unfold aa;kernel_rfl
theorem C0:aa Tryz.prog G0 42 rf:=by unfold aa;kernel_rfl
theorem yc:aa Tryz.prog G0 43 mV:=by unfold aa;kernel_rfl
theorem xq:aa Tryz.prog G0 44 lV:=by unfold aa;kernel_rfl
theorem xr:aa Tryz.prog G0 45 lW:=by unfold aa;kernel_rfl
theorem zA:aa Tryz.prog G0 46 ou:=by unfold aa;kernel_rfl
theorem yd:aa Tryz.prog G0 47 mW:=by unfold aa;kernel_rfl
theorem IC:aa Tryz.prog G0 51 iP:=by unfold aa;kernel_rfl
theorem ye:aa Tryz.prog G0 52 c7:=by unfold aa;kernel_rfl
theorem Gj:aa Tryz.prog G0 53 jl:=by unfold aa;kernel_rfl
theorem yf:aa Tryz.prog G0 54 cw:=by unfold aa;kernel_rfl
theorem zB:aa Tryz.prog G0 55 dA:=by unfold aa;kernel_rfl
theorem Gk:aa Tryz.prog G0 56 jm:=by unfold aa;kernel_rfl
theorem yg:aa Tryz.prog G0 57 cA:=by unfold aa;kernel_rfl
theorem zC:aa Tryz.prog G0 58 fc:=by unfold aa;kernel_rfl
theorem Gl:aa Tryz.prog G0 59 jn:=by unfold aa;kernel_rfl
theorem yh:aa Tryz.prog G0 60 cB:=by unfold aa;kernel_rfl
theorem zD:aa Tryz.prog G0 61 dB:=by unfold aa;kernel_rfl
theorem Gm:aa Tryz.prog G0 62 jo:=by unfold aa;kernel_rfl
theorem yi:aa Tryz.prog G0 63 cC:=by unfold aa;kernel_rfl
theorem zE:aa Tryz.prog G0 64 fe:=by unfold aa;kernel_rfl
theorem Gn:aa Tryz.prog G0 65 jq:=by unfold aa;kernel_rfl
theorem zF:aa Tryz.prog G0 66 cQ:=by unfold aa;kernel_rfl
theorem A9:aa Tryz.prog G0 67 fx:=by unfold aa;kernel_rfl
theorem LU:aa Tryz.prog G0 68 eW:=by unfold aa;kernel_rfl
theorem HB:aa Tryz.prog G0 69 iS:=by unfold aa;kernel_rfl
theorem vi:aa Tryz.prog G0 70 bR:=by unfold aa;kernel_rfl
theorem Ff:aa Tryz.prog G0 71 eS:=by unfold aa;kernel_rfl
theorem yj:aa Tryz.prog G0 72 fN:=by unfold aa;kernel_rfl
theorem yk:aa Tryz.prog G0 73 eE:=by unfold aa;kernel_rfl
theorem Gp:aa Tryz.prog G0 74 jr:=by unfold aa;kernel_rfl
theorem yl:aa Tryz.prog G0 75 c8:=by unfold aa;kernel_rfl
theorem Ba:aa Tryz.prog G0 76 fy:=by unfold aa;kernel_rfl
theorem ID:aa Tryz.prog G0 77 n5:=by unfold aa;kernel_rfl
theorem tn:aa Tryz.prog G0 78 bN:=by unfold aa;kernel_rfl
theorem o5:aa Tryz.prog G0 79 aW:=by unfold aa;kernel_rfl
theorem qK:aa Tryz.prog G0 80 bJ:=by unfold aa;kernel_rfl
theorem vO:aa Tryz.prog G0 81 qs:=by unfold aa;kernel_rfl
theorem zG:aa Tryz.prog G0 82 oE:=by unfold aa;kernel_rfl
theorem Bb:aa Tryz.prog G0 83 pq:=by unfold aa;kernel_rfl
theorem ym:aa Tryz.prog G0 93 nm:=by unfold aa;kernel_rfl
theorem Bc:aa Tryz.prog G0 94 pr:=by unfold aa;kernel_rfl
theorem zH:aa Tryz.prog G0 95 oF:=by unfold aa;kernel_rfl
theorem C1:aa Tryz.prog G0 96 rh:=by unfold aa;kernel_rfl
theorem zI:aa Tryz.prog G0 97 oG:=by unfold aa;kernel_rfl
theorem zJ:aa Tryz.prog G0 98 oH:=by unfold aa;kernel_rfl
theorem HC:aa Tryz.prog G0 104 gm:=by unfold aa;kernel_rfl
theorem JA:aa Tryz.prog G0 105 iQ:=by unfold aa;kernel_rfl
theorem mj:aa Tryz.prog G0 106 ba:=by unfold aa;kernel_rfl
theorem xt:aa Tryz.prog G0 107 ej:=by unfold aa;kernel_rfl
theorem ml:aa Tryz.prog G0 108 bb:=by unfold aa;kernel_rfl
theorem xu:aa Tryz.prog G0 109 ek:=by unfold aa;kernel_rfl
theorem zK:aa Tryz.prog G0 110 cR:=by unfold aa;kernel_rfl
theorem xv:aa Tryz.prog G0 111 en:=by unfold aa;kernel_rfl
theorem IE:aa Tryz.prog G0 112 ll:=by unfold aa;kernel_rfl
theorem IF:aa Tryz.prog G0 113 ln:=by unfold aa;kernel_rfl
theorem mo:aa Tryz.prog G0 114 bc:=by unfold aa;kernel_rfl
theorem xw:aa Tryz.prog G0 115 eo:=by unfold aa;kernel_rfl
theorem nG:aa Tryz.prog G0 116 bk:=by unfold aa;kernel_rfl
theorem xx:aa Tryz.prog G0 117 ep:=by unfold aa;kernel_rfl
theorem IG:aa Tryz.prog G0 118 lq:=by unfold aa;kernel_rfl
theorem jU:aa Tryz.prog G0 119 aU:=by unfold aa;kernel_rfl
theorem xy:aa Tryz.prog G0 120 eu:=by unfold aa;kernel_rfl
theorem HD:aa Tryz.prog G0 121 j0:=by unfold aa;kernel_rfl
theorem HE:aa Tryz.prog G0 122 j1:=by unfold aa;kernel_rfl
theorem pO:aa Tryz.prog G0 123 ct:=by unfold aa;kernel_rfl
theorem B5:aa Tryz.prog G0 124 iy:=by unfold aa;kernel_rfl
theorem zL:aa Tryz.prog G0 125 cS:=by unfold aa;kernel_rfl
theorem vP:aa Tryz.prog G0 126 dR:=by unfold aa;kernel_rfl
theorem nV:aa Tryz.prog G0 127 aO:=by unfold aa;kernel_rfl
theorem uI:aa Tryz.prog G0 128 dy:=by unfold aa;kernel_rfl
theorem nW:aa Tryz.prog G0 129 aP:=by unfold aa;kernel_rfl
theorem Ec:aa Tryz.prog G0 130 ig:=by unfold aa;kernel_rfl
theorem tO:aa Tryz.prog G0 131 c9:=by unfold aa;kernel_rfl
theorem yn:aa Tryz.prog G0 132 da:=by unfold aa;kernel_rfl
theorem Ed:aa Tryz.prog G0 133 ew:=by unfold aa;kernel_rfl
theorem qd:aa Tryz.prog G0 134 cF:=by unfold aa;kernel_rfl
theorem Gq:aa Tryz.prog G0 136 Cd:=by unfold aa;kernel_rfl
theorem Ee:aa Tryz.prog G0 137 yF:=by unfold aa;kernel_rfl
theorem pP:aa Tryz.prog G0 138 aV:=by unfold aa;kernel_rfl
theorem yo:aa Tryz.prog G0 139 so:=by unfold aa;kernel_rfl
theorem yp:aa Tryz.prog G0 140 np:=by unfold aa;kernel_rfl
theorem Bd:aa Tryz.prog G0 141 pw:=by unfold aa;kernel_rfl
theorem zM:aa Tryz.prog G0 142 oM:=by unfold aa;kernel_rfl
theorem Gr:aa Tryz.prog G0 144 ju:=by unfold aa;kernel_rfl
theorem Gs:aa Tryz.prog G0 145 jv:=by unfold aa;kernel_rfl
theorem HF:aa Tryz.prog G0 157 ij:=by unfold aa;kernel_rfl
theorem HG:aa Tryz.prog G0 158 iT:=by unfold aa;kernel_rfl
theorem nX:aa Tryz.prog G0 159 aQ:=by unfold aa;kernel_rfl
theorem o6:aa Tryz.prog G0 160 aX:=by unfold aa;kernel_rfl
theorem Gt:aa Tryz.prog G0 161 jw:=by unfold aa;kernel_rfl
theorem Ef:aa Tryz.prog G0 162 ik:=by unfold aa;kernel_rfl
theorem kn:aa Tryz.prog G0 163 aE:=by unfold aa;kernel_rfl
theorem qL:aa Tryz.prog G0 164 cP:=by unfold aa;kernel_rfl
theorem B6:aa Tryz.prog G0 165 fX:=by unfold aa;kernel_rfl
theorem zN:aa Tryz.prog G0 166 dC:=by unfold aa;kernel_rfl
theorem yq:aa Tryz.prog G0 167 db:=by unfold aa;kernel_rfl
theorem s5:aa Tryz.prog G0 168 cM:=by unfold aa;kernel_rfl
theorem tP:aa Tryz.prog G0 169 dc:=by unfold aa;kernel_rfl
theorem vQ:aa Tryz.prog G0 170 dW:=by unfold aa;kernel_rfl
theorem zO:aa Tryz.prog G0 171 ff:=by unfold aa;kernel_rfl
theorem yr:aa Tryz.prog G0 172 eG:=by unfold aa;kernel_rfl
theorem qe:aa Tryz.prog G0 173 gX:=by unfold aa;kernel_rfl
theorem rn:aa Tryz.prog G0 174 cX:=by unfold aa;kernel_rfl
theorem qM:aa Tryz.prog G0 177 kP:=by unfold aa;kernel_rfl
theorem vR:aa Tryz.prog G0 178 lB:=by unfold aa;kernel_rfl
theorem xz:aa Tryz.prog G0 179 l7:=by unfold aa;kernel_rfl
theorem qN:aa Tryz.prog G0 180 iq:=by unfold aa;kernel_rfl
theorem tp:aa Tryz.prog G0 182 cU:=by unfold aa;kernel_rfl
theorem qO:aa Tryz.prog G0 186 bZ:=by unfold aa;kernel_rfl
theorem yt:aa Tryz.prog G0 187 eH:=by unfold aa;kernel_rfl
theorem tQ:aa Tryz.prog G0 188 de:=by unfold aa;kernel_rfl
theorem yu:aa Tryz.prog G0 189 eI:=by unfold aa;kernel_rfl
theorem oU:aa Tryz.prog G0 190 fP:=by unfold aa;kernel_rfl
theorem xA:aa Tryz.prog G0 202 l8:=by unfold aa;kernel_rfl
theorem qP:aa Tryz.prog G0 203 b4:=by unfold aa;kernel_rfl
theorem uJ:aa Tryz.prog G0 205 j5:=by unfold aa;kernel_rfl
theorem my:aa Tryz.prog G0 206 fg:=by unfold aa;kernel_rfl
theorem B7:aa Tryz.prog G0 211 fY:=by unfold aa;kernel_rfl
theorem xB:aa Tryz.prog G0 219 l9:=by unfold aa;kernel_rfl
theorem qf:aa Tryz.prog G0 221 gY:=by unfold aa;kernel_rfl
theorem Wa:∀ f af,Xc f=some af→aa Tryz.prog G0 f af:=fun f af h=>by
 unfold Xc at h
 revert h
 exact (ah (ah (ah (ah (ah (ah (ah (ag (C:=_) uG) (ag (C:=_) tl)) (ah (ag (C:=_) uH) (ag (C:=_) zu))) (ah (ah (ag (C:=_) Gi) (ag (C:=_) tm)) (ah (ag (C:=_) Iy) (ah (ag (C:=_) Fc) (ag (C:=_) Iz))))) (ah (ah (ah (ag (C:=_) Fe) (ag (C:=_) Jy)) (ah (ag (C:=_) xn) (ah (ag (C:=_) zw) (ag (C:=_) xo)))) (ah (ah (ag (C:=_) IA) (ag (C:=_) Jz)) (ah (ag (C:=_) vM) (ah (ag (C:=_) x9) (ag (C:=_) HA)))))) (ah (ah (ah (ah (ag (C:=_) ya) (ag (C:=_) zx)) (ah (ag (C:=_) zy) (ag (C:=_) yb))) (ah (ah (ag (C:=_) rm) (ag (C:=_) IB)) (ah (ag (C:=_) nF) (ah (ag (C:=_) CZ) (ag (C:=_) pB))))) (ah (ah (ah (ag (C:=_) A8) (ag (C:=_) vN)) (ah (ag (C:=_) B4) (ah (ag (C:=_) xp) (ag (C:=_) C0)))) (ah (ah (ag (C:=_) yc) (ag (C:=_) xq)) (ah (ag (C:=_) xr) (ah (ag (C:=_) zA) (ag (C:=_) yd))))))) (ah (ah (ah (ah (ah (ag (C:=_) IC) (ag (C:=_) ye)) (ah (ag (C:=_) Gj) (ag (C:=_) yf))) (ah (ah (ag (C:=_) zB) (ag (C:=_) Gk)) (ah (ag (C:=_) yg) (ah (ag (C:=_) zC) (ag (C:=_) Gl))))) (ah (ah (ah (ag (C:=_) yh) (ag (C:=_) zD)) (ah (ag (C:=_) Gm) (ah (ag (C:=_) yi) (ag (C:=_) zE)))) (ah (ah (ag (C:=_) Gn) (ag (C:=_) zF)) (ah (ag (C:=_) A9) (ah (ag (C:=_) LU) (ag (C:=_) HB)))))) (ah (ah (ah (ah (ag (C:=_) vi) (ag (C:=_) Ff)) (ah (ag (C:=_) yj) (ag (C:=_) yk))) (ah (ah (ag (C:=_) Gp) (ag (C:=_) yl)) (ah (ag (C:=_) Ba) (ah (ag (C:=_) ID) (ag (C:=_) tn))))) (ah (ah (ah (ag (C:=_) o5) (ag (C:=_) qK)) (ah (ag (C:=_) vO) (ah (ag (C:=_) zG) (ag (C:=_) Bb)))) (ah (ah (ag (C:=_) ym) (ag (C:=_) Bc)) (ah (ag (C:=_) zH) (ah (ag (C:=_) C1) (ag (C:=_) zI)))))))) (ah (ah (ah (ah (ah (ah (ag (C:=_) zJ) (ag (C:=_) HC)) (ah (ag (C:=_) JA) (ag (C:=_) mj))) (ah (ah (ag (C:=_) xt) (ag (C:=_) ml)) (ah (ag (C:=_) xu) (ah (ag (C:=_) zK) (ag (C:=_) xv))))) (ah (ah (ah (ag (C:=_) IE) (ag (C:=_) IF)) (ah (ag (C:=_) mo) (ah (ag (C:=_) xw) (ag (C:=_) nG)))) (ah (ah (ag (C:=_) xx) (ag (C:=_) IG)) (ah (ag (C:=_) jU) (ah (ag (C:=_) xy) (ag (C:=_) HD)))))) (ah (ah (ah (ah (ag (C:=_) HE) (ag (C:=_) pO)) (ah (ag (C:=_) B5) (ag (C:=_) zL))) (ah (ah (ag (C:=_) vP) (ag (C:=_) nV)) (ah (ag (C:=_) uI) (ah (ag (C:=_) nW) (ag (C:=_) Ec))))) (ah (ah (ah (ag (C:=_) tO) (ag (C:=_) yn)) (ah (ag (C:=_) Ed) (ah (ag (C:=_) qd) (ag (C:=_) Gq)))) (ah (ah (ag (C:=_) Ee) (ag (C:=_) pP)) (ah (ag (C:=_) yo) (ah (ag (C:=_) yp) (ag (C:=_) Bd))))))) (ah (ah (ah (ah (ah (ag (C:=_) zM) (ag (C:=_) Gr)) (ah (ag (C:=_) Gs) (ag (C:=_) HF))) (ah (ah (ag (C:=_) HG) (ag (C:=_) nX)) (ah (ag (C:=_) o6) (ah (ag (C:=_) Gt) (ag (C:=_) Ef))))) (ah (ah (ah (ag (C:=_) kn) (ag (C:=_) qL)) (ah (ag (C:=_) B6) (ah (ag (C:=_) zN) (ag (C:=_) yq)))) (ah (ah (ag (C:=_) s5) (ag (C:=_) tP)) (ah (ag (C:=_) vQ) (ah (ag (C:=_) zO) (ag (C:=_) yr)))))) (ah (ah (ah (ah (ag (C:=_) qe) (ag (C:=_) rn)) (ah (ag (C:=_) qM) (ag (C:=_) vR))) (ah (ah (ag (C:=_) xz) (ag (C:=_) qN)) (ah (ag (C:=_) tp) (ah (ag (C:=_) qO) (ag (C:=_) yt))))) (ah (ah (ah (ag (C:=_) tQ) (ag (C:=_) yu)) (ah (ag (C:=_) oU) (ah (ag (C:=_) xA) (ag (C:=_) qP)))) (ah (ah (ag (C:=_) uJ) (ag (C:=_) my)) (ah (ag (C:=_) B7) (ah (ag (C:=_) xB) (ag (C:=_) qf)))))))))
def Xd(f:FuncId)(args:List AV)(H:List ae):Option Out:=
 match args with
 |[]=>bif Nat.beq f bf then some (.ret (.bool true),H) else none
 |args=>match Ta bn gv f args H with
  |some r=>some r
  |none=>T6 f args H
theorem Wb{f:FuncId}{args:List AV}{H H':List ae}{r:vX}(h:Xd f args H=some (r,H')):eX Tryz.prog G0 f args H fun r2 H2=>r2=r∧H2=H':=by
 unfold Xd at h
 split at h
 ·cases h1:Nat.beq f bf with
  |true=>rw [h1] at h;cases h;rw [Nat.eq_of_beq_eq_true h1];exact T8 H
  |false=>rw [h1] at h;cases h
 ·split at h
  ·rename_i r' hr
   cases h
   exact V6 P0 Rg Tg hr
  ·exact Rw h
noncomputable def EN:bC := { P:=Tryz.prog,G:=G0,fn:=Xc,orc:=Xd,dfn:=fun _=>none }
theorem Ws:EN.Ok:=⟨Rx,fun f af h=>Wa f af h,(fun _ _ _ h=>by cases h),(fun _ _ _ _ _ h=>by cases h),fun _ _ _ _ _ h=>Wb h⟩
theorem Wc(M:cT cY EN):yK M UV:=by
 refine ⟨fun H => ?_,fun {l H id T} h0 hl hx => ?_,fun l => ?_⟩
 ·rw [Em M rfl];rfl
 ·rw [Em M rfl]
  have hd:PZ (bW l)=some (l.map toP):=by rw [R3];exact Nl _
  have hs:Ta bn gv bn [.rslice id 0 l.length 2 true,.fn (.func gv) [] []] H=some (.ret (.tuple []),H.set id (.cells (bW (UV l)) T)):=by
   have hb:∀ n:Nat,Nat.beq n n=true:=fun n=>by simp
   have hle:Nat.ble l.length 4000000000=true:=Nat.ble_eq_true_of_le hl
   unfold Ta
   simp only [hb,Bool.and_self,cond_true,hx,hd,List.length_map,hle]
   rw [UV,V5]
  show (match Ta bn gv bn [.rslice id 0 l.length 2 true,.fn (.func gv) [] []] H with
   |some r=>some r
   |none=>T6 bn [.rslice id 0 l.length 2 true,.fn (.func gv) [] []] H)=_
  rw [hs]
 ·simpa using (UX.perm l).length_eq
end
end Go.Am
