import Derived.Test.YtcjafjephggobaaGreatDoorA6
import Derived.Shelf.SlSortCmp.WholeK
import Derived.Lib.RowBridge
import Derived.Test.YtcjafjephggobaaGreatDoorChecked
import Derived.Shelf.SlSortCmp.NoneTotal
import Derived.Laws.Externs
import Derived.KernelRfl
/-
  Part 7 of the tool: an abstract machine over the model, proved sound, and what it says of the functions that the law reaches. Condition: none but those that each theorem names.
-/
set_option linter.unusedVariables false
set_option linter.unusedSimpArgs false
set_option maxRecDepth 100000
set_option maxHeartbeats 4000000
namespace Go.Am
open Go.RowKit
section
attribute [local congr] aF ca bg aG aZ aL aH aA aC aM aN
variable{E:bt}(M:cK cU E)
theorem LW(hS:SpE E)(hA:Ic E)(s p:Str)(H:List ab):M.run pM [.str s,.str p] H=some (.ret (.tuple [.str (sel (jJ s p) (s.drop p.length) s),.bool (jJ s p)]),H):=by
 have h1:M.run gX [.str s,.str p] H=some (.ret (.tuple [.str (sel (jJ s p) (s.drop p.length) s),.bool (jJ s p)]),H):=by
  have h0:=fun H=>DW M hS s p H
  rw [a6 M hA.internal_stringslite_CutPrefix rfl (c:=hZ) rfl,hZ]
  cases hd:jJ s p with
  |true=>
   have hle:p.length≤s.length:=by
    simp only [jJ,Bool.and_eq_true,decide_eq_true_eq] at hd;omega
   simp (maxSteps:=3000000) (maxDischargeDepth:=6) +contextual -implicitDefEqProofs only [amA M,amB,↓aj,↓ae,↓al,↓ak,Nat.reduceBEq,Nat.reduceAdd,env,ao,kI,h0,hd,w9 hle,sel,wk_tuple]
  |false=>
   simp (maxSteps:=3000000) (maxDischargeDepth:=6) +contextual -implicitDefEqProofs only [amA M,amB,↓aj,↓ae,↓al,↓ak,Nat.reduceBEq,Nat.reduceAdd,env,ao,kI,h0,hd,sel,wk_tuple]
 rw [a6 M hA.strings_CutPrefix rfl (c:=pQ) rfl,pQ]
 simp (maxSteps:=3000000) (maxDischargeDepth:=6) +contextual -implicitDefEqProofs only [amA M,amB,↓aj,↓ae,↓al,↓ak,Nat.reduceBEq,Nat.reduceAdd,env,ao,Ep,h1,wk_tuple]
def fsT:List aQ→Sl aQ
 |[]=>⟨.nil,[]⟩
 |x::t=>⟨.any,x::t⟩
theorem Up(l:List aQ):(fsT l).l=l:=by cases l<;>rfl
def BO(w:Str)(hv:List aQ):List bS→List aq
 |[]=>[]
 |h::t=>sel (h.w == w) (⟨fsT hv,h.e,h.q⟩::BO w hv t) (BO w hv t)
def l5(F:Str→List aQ→List aq)(w:Str)(hv:List aQ):List bw→List aq
 |[]=>[]
 |o::t=>sel (jJ w o.w) (F (w.drop o.w.length) (hv++[o.first])++l5 F w hv t) (l5 F w hv t)
def oW(fs:List bS)(os:List bw):Nat→Str→List aQ→List aq
 |0,w,hv=>BO w hv fs
 |n+1,w,hv=>l5 (fun w hv=>oW fs os n w hv) w hv os
theorem Pw(w:Str)(hv:List aQ):∀ fs:List bS,(BO w hv fs).length≤fs.length
 |[]=>Nat.le_refl _
 |h::t=>by
  have h1:=Pw w hv t
  rw [BO]
  cases (h.w == w)<;>simp only [sel,List.length_cons]<;>omega
theorem MN{F:Str→List aQ→List aq}{B:Nat}(hF:∀ w hv,(F w hv).length≤B)(w:Str)(hv:List aQ):∀ os:List bw,(l5 F w hv os).length≤os.length*B
 |[]=>by simp [l5]
 |o::t=>by
  have h1:=MN hF w hv t
  have h2:=hF (w.drop o.w.length) (hv++[o.first])
  rw [l5,List.length_cons,Nat.add_mul,Nat.one_mul]
  cases jJ w o.w<;>simp only [sel,List.length_append]<;>omega
theorem Hd(fs:List bS)(os:List bw):∀ (n:Nat) (w:Str) (hv:List aQ),(oW fs os n w hv).length≤os.length ^ n*fs.length
 |0,w,hv=>by have:=Pw w hv fs;rw [oW];simpa using this
 |n+1,w,hv=>by
  rw [oW,Nat.pow_succ,Nat.mul_comm (os.length ^ n),Nat.mul_assoc]
  exact MN (fun w hv=>Hd fs os n w hv) w hv os
theorem Lh{fs:List bS}{os:List bw}(hf:fs.length≤3072)(ho:os.length≤24576){n:Nat}(hn:n≤2)(w:Str)(hv:List aQ):(oW fs os n w hv).length≤1900000000000:=by
 have h1:=Hd fs os n w hv
 have h2:os.length ^ n≤24576 ^ n:=Nat.pow_le_pow_left ho n
 have h3:24576 ^ n≤24576 ^ 2:=Nat.pow_le_pow_right (by decide) hn
 have h4:=Nat.mul_le_mul (Nat.le_trans h2 h3) hf
 have h5:24576 ^ 2*3072≤1900000000000:=by decide
 omega
theorem Hf(m:List aq)(hm:∀ x∈m,∃ l,x.firsts=fsT l):(∀ x∈m,(aq.row x).length=3∧(aq.row x).all AV.cell=true)∧(∀ x∈m,(aq.row x).map AV.strip=aq.row x):=⟨fun _ _=>⟨rfl,rfl⟩,fun x h=>by
 obtain ⟨l,e⟩:=hm x h
 unfold aq.row
 rw [e]
 cases l<;>rfl⟩
theorem WG(n:Nat)(x:aq)(l:List aQ)(e:x.firsts=fsT l):WkL n (aq.row x) (aq.row x):=by
 have hw:Wk n (.slice (fsT l).tag 3 ((fsT l).l.map aQ.row)) (.slice (fsT l).tag 3 ((fsT l).l.map aQ.row)):=wk_slice (by cases l<;>trivial) (tS K6 _ _)
 unfold aq.row
 rw [e]
 exact ⟨hw,wk_int _ _ _,wk_int _ _ _,trivial⟩
theorem Jx(w:Str)(hv:List aQ):∀ fs:List bS,∀ x∈BO w hv fs,∃ l,x.firsts=fsT l
 |[],x,h=>by cases h
 |y::t,x,h=>by
  rw [BO] at h
  cases hb:(y.w == w) with
  |true=>
   rw [hb] at h
   rcases List.mem_cons.1 h with rfl | h
   ·exact ⟨hv,rfl⟩
   ·exact Jx w hv t x h
  |false=>rw [hb] at h;exact Jx w hv t x h
theorem Li{F:Str→List aQ→List aq}(hF:∀ w hv,∀ x∈F w hv,∃ l,x.firsts=fsT l)(w:Str)(hv:List aQ):∀ os:List bw,∀ x∈l5 F w hv os,∃ l,x.firsts=fsT l
 |[],x,h=>by cases h
 |y::t,x,h=>by
  rw [l5] at h
  cases hb:jJ w y.w with
  |true=>
   rw [hb] at h
   rcases List.mem_append.1 h with h | h
   ·exact hF _ _ x h
   ·exact Li hF w hv t x h
  |false=>rw [hb] at h;exact Li hF w hv t x h
theorem Hg(fs:List bS)(os:List bw):∀ (n:Nat) (w:Str) (hv:List aQ),∀ x∈oW fs os n w hv,∃ l,x.firsts=fsT l
 |0,w,hv=>Jx w hv fs
 |n+1,w,hv=>Li (fun w hv=>Hg fs os n w hv) w hv os
theorem Ej(n:Nat)(m:List aq)(hm:∀ x∈m,∃ l,x.firsts=fsT l):mA n (m.map aq.row):=by
 rw [rowsWk_map];exact fun x h=>by obtain ⟨l,e⟩:=hm x h;exact WG n x l e
theorem QQ{E:bt}{g:FuncId}{first cap args:List AV}{H H':List ab}{T L:List Nat}{v:AV}(h:H'.take H.length=H):Ck cU E .keep (.fn (.func g) first cap) args H T L (some (.ret v,H'))=some (v,H',T,L):=by
 unfold Ck vg
 simp only [HC h,Cj.b,if_true]
theorem Ru(E:bt)(g:FuncId)(first cap args:List AV)(H:List ab)(x y z:ab)(T L:List Nat)(v:AV):Ck cU E .keep (.fn (.func g) first cap) args (H++[x,y]) T L (some (.ret v,H++[x,y,z]))=some (v,H++[x,y,z],T,L):=
 QQ (by rw [show H++[x,y,z]=(H++[x,y])++[z] by simp,List.take_left])
theorem WH(hA:Ic E){w:Str}{hv:List aQ}(hvl:hv.length≤2){tg:Tag}(htg:(tg = .nil∧hv=[])∨hv≠[]){fs:List bS}(hfl:fs.length≤3072){tf:Tag}{H H0:List ab}(hfw:qa H.length tf)(hvw:qa H.length tg)(k:List Fra):∀ (n i:Nat) (o:List aq) (He:List ab),(∀ x∈o,∃ l,x.firsts=fsT l)→He=H++[.tok (o.length*3) aI]→i+n=fs.length→o.length+n≤10000 →
  M.go eM H0 (.c gr :: .lp ⟨(some [2,4,11,20,21,22]),[(11,3,aI)],true⟩ gr He :: .blk 0 :: .c (.lv [11])::k) (kv [(2,.str w),(4,.slice tg 3 (hv.map aQ.row)),(11,.slice (.own H.length) 3 (o.map aq.row)),(20,.slice tf 3 (fs.map bS.row)),(21,.int .i64 fs.length),(22,.int .i64 i)]) (H++[.tok (o.length*3) aI]) =
   M.go eM H0 k (kv [(11,.slice (.own H.length) 3 ((o++BO w hv (fs.drop i)).map aq.row))]) (H++[.tok ((o++BO w hv (fs.drop i)).length*3) aI])
 |0,i,o,He,hof,hHe,h,ho=>by
  have e:i=fs.length:=by omega
  subst e
  rw [List.drop_length,BO,List.append_nil]
  rw [aw M gr.eq_1]
  simp (maxSteps:=3000000) (maxDischargeDepth:=6) +contextual -implicitDefEqProofs only [amA M,amB,↓aj,↓ae,↓al,↓ak,Nat.reduceBEq,Nat.reduceAdd,env,ao,eN,Nat.lt_irrefl]
 |n+1,i,o,He,hof,hHe,h,ho=>by
  subst hHe
  have hi:i<fs.length:=by omega
  have hx:fs[i]?=some fs[i]:=List.getElem?_eq_getElem hi
  have hd:fs.drop i=fs[i]::fs.drop (i+1):=List.drop_eq_getElem_cons hi
  generalize fs[i]=y at hx hd
  have w1:Wk (H.length+1) (.slice tf 3 (fs.map bS.row)) (.slice tf 3 (fs.map bS.row)):=wk_slice (hfw.mono (by omega)) (tS Hb _ fs)
  have w2:Wk (H.length+1) (.slice tg 3 (hv.map aQ.row)) (.slice tg 3 (hv.map aQ.row)):=wk_slice (hvw.mono (by omega)) (tS K6 _ hv)
  have w4:=fun (o:List aq) (ho:∀ x∈o,∃ l,x.firsts=fsT l)=>wk_slice (n:=H.length+1) (esz:=3) (tag:=.own H.length) (show H.length<H.length+1 by omega) (Ej _ o ho)
  have hws:=de hi (show fs.length≤bE by simp only [bE];omega)
  rw [hd,BO]
  cases hb:y.w == w with
  |false=>
   have ih:=WH hA hvl htg hfl hfw hvw (w:=w) (H0:=H0) k n (i+1) o _ hof rfl (by omega) (by omega)
   have w5:=w4 o hof
   simp only [kv_cons,kv_nil,sel] at ih ⊢
   rw [aw M gr.eq_1]
   simp (maxSteps:=3000000) (maxDischargeDepth:=6) +contextual -implicitDefEqProofs only [amA M,amB,↓aj,↓ae,↓al,↓ak,Nat.reduceBEq,Nat.reduceAdd,env,ao,eN,amG,AV.cell,Nat.reduceMul,Nat.reduceLeDiff,hi,hx,hb,ih,w1,w2,w5,yw,uw,hws,bp hi,ML]
  |true=>
   have hof2:∀ x∈o++[(⟨fsT hv,y.e,y.q⟩:aq)],∃ l,x.firsts=fsT l:=by
    intro x hx
    rcases List.mem_append.1 hx with hx | hx
    ·exact hof x hx
    ·rw [List.mem_singleton.1 hx];exact ⟨hv,rfl⟩
   have ih:=WH hA hvl htg hfl hfw hvw (w:=w) (H0:=H0) k n (i+1) (o++[⟨fsT hv,y.e,y.q⟩]) _ hof2 rfl (by omega) (by simp;omega)
   have w5:=w4 _ hof2
   simp only [kv_cons,kv_nil,sel,List.append_assoc,List.cons_append,List.nil_append] at ih w5 ⊢
   rcases htg with ⟨rfl,rfl⟩ | hne
   ·have ap:=fun L=>Jv (row:=aq.row) (l:=o) (x:=⟨fsT [],y.e,y.q⟩) (r:=[.slice .nil 3 [],.int .i64 y.e,.int .i64 y.q]) (sz:=3) (bytes:=40) (e:=aI) H L rfl rfl rfl (by omega) (by omega)
    simp only [List.map_nil] at ih w2 ⊢
    rw [aw M gr.eq_1]
    simp (maxSteps:=3000000) (maxDischargeDepth:=6) +contextual -implicitDefEqProofs only [amA M,amB,↓aj,↓ae,↓al,↓ak,Nat.reduceBEq,Nat.reduceAdd,env,ao,eN,amG,AV.cell,Nat.reduceMul,Nat.reduceLeDiff,hi,hx,hb,K7 M hA,ap,ih,w1,w2,w5,yw,uw,hws,bp hi,ML]
   ·have hcl:=fun H=>K8 M hA hne (by omega) tg H
    have ap:=fun L=>Jv (row:=aq.row) (l:=o) (x:=⟨fsT hv,y.e,y.q⟩) (r:=[.slice .any 3 (hv.map aQ.row),.int .i64 y.e,.int .i64 y.q]) (sz:=3) (bytes:=40) (e:=aI) H L rfl rfl (by cases hv with | nil=>exact absurd rfl hne | cons a b=>rfl) (by omega) (by omega)
    rw [aw M gr.eq_1]
    simp (maxSteps:=3000000) (maxDischargeDepth:=6) +contextual -implicitDefEqProofs only [amA M,amB,↓aj,↓ae,↓al,↓ak,Nat.reduceBEq,Nat.reduceAdd,env,ao,eN,amG,AV.cell,Nat.reduceMul,Nat.reduceLeDiff,hi,hx,hb,hcl,Ru,ap,ih,w1,w2,w5,yw,uw,hws,bp hi,ML]
end
section
attribute [local congr] aF ca bg aG aZ aL aH aA aC aM aN
variable{E:bt}(M:cK cU E)
theorem Vu(H:List ab)(x y:ab)(f:aQ):rap false (H++[x,y]) dJ 3 24 false (.slice .nil 3 []) (.slice .full 3 [aQ.row f])=some (.slice (.own (H.length+2)) 3 [aQ.row f],H++[x,y,.tok 3 dJ]):=by
 have hr:nV 3 [aQ.row f]=true:=rfl
 have hs:(aQ.row f).map AV.strip=aQ.row f:=rfl
 simp [rap,C8,Cg,hr,hs]
theorem Vv(H:List ab)(x y:ab){hv:List aQ}(hl:hv.length≤100)(f:aQ):rap false (H++[x,y,.tok (hv.length*3) dJ]) dJ 3 24 false (.slice (.own (H.length+2)) 3 (hv.map aQ.row)) (.slice .full 3 [aQ.row f])=some (.slice (.own (H.length+2)) 3 ((hv++[f]).map aQ.row),H++[x,y,.tok ((hv++[f]).length*3) dJ]):=by
 have h:=Tz (row:=aQ.row) (l:=hv) (x:=f) (r:=aQ.row f) (sz:=3) (bytes:=24) (e:=dJ) (H++[x,y]) rfl rfl rfl (by omega) (by omega)
 simpa using h
theorem WI(hS:SpE E)(hA:Ic E){fs:List bS}{os:List bw}(hfl:fs.length≤3072)(hol:os.length≤24576){w:Str}{hv:List aQ}{m:Nat}(hvl:hv.length+m≤1){tg:Tag}(htg:(tg = .nil∧hv=[])∨hv≠[]){tf to:Tag}{H H0:List ab}(hfw:qa H.length tf)(how:qa H.length to)(hvw:qa H.length tg)
  (hrec:∀ (w:Str) (hv:List aQ) (tg:Tag) (H2:List ab),hv.length+m≤2→(tg = .nil∧hv=[])∨hv≠[]→H.length≤H2.length→qa H2.length tg →
   M.run lE [.slice tf 3 (fs.map bS.row),.slice to 4 (os.map bw.row),.str w,.int .i64 m,.slice tg 3 (hv.map aQ.row)] H2=some (.ret (.slice .any 3 ((oW fs os m w hv).map aq.row)),H2)) (k:List Fra) :
  ∀ (n i:Nat) (o:List aq) (He:List ab),(∀ x∈o,∃ l,x.firsts=fsT l)→He=H++[.tok (o.length*3) aI]→i+n=os.length→o.length+(l5 (fun w hv=>oW fs os m w hv) w hv (os.drop i)).length≤3000000000000 →
  M.go eM H0 (.c gu :: .lp ⟨(some [0,1,2,3,4,11,42,43,44]),[(11,3,aI)],true⟩ gu He :: .blk 2 :: .c (.lv [11])::k) (kv [(0,.slice tf 3 (fs.map bS.row)),(1,.slice to 4 (os.map bw.row)),(2,.str w),(3,.int .i64 ((m+1:Nat):Int)),(4,.slice tg 3 (hv.map aQ.row)),(11,.slice (.own H.length) 3 (o.map aq.row)),(42,.slice to 4 (os.map bw.row)),(43,.int .i64 os.length),(44,.int .i64 i)]) (H++[.tok (o.length*3) aI]) =
   M.go eM H0 k (kv [(11,.slice (.own H.length) 3 ((o++l5 (fun w hv=>oW fs os m w hv) w hv (os.drop i)).map aq.row))]) (H++[.tok ((o++l5 (fun w hv=>oW fs os m w hv) w hv (os.drop i)).length*3) aI])
 |0,i,o,He,hof,hHe,h,ho=>by
  have e:i=os.length:=by omega
  subst e
  rw [List.drop_length,l5,List.append_nil]
  rw [aw M gu.eq_1]
  simp (maxSteps:=3000000) (maxDischargeDepth:=6) +contextual -implicitDefEqProofs only [amA M,amB,↓aj,↓ae,↓al,↓ak,Nat.reduceBEq,Nat.reduceAdd,env,ao,eN,Nat.lt_irrefl]
 |n+1,i,o,He,hof,hHe,h,ho=>by
  subst hHe
  have hi:i<os.length:=by omega
  have hx:os[i]?=some os[i]:=List.getElem?_eq_getElem hi
  have hd:os.drop i=os[i]::os.drop (i+1):=List.drop_eq_getElem_cons hi
  generalize os[i]=y at hx hd
  have w1:Wk (H.length+1) (.slice tf 3 (fs.map bS.row)) (.slice tf 3 (fs.map bS.row)):=wk_slice (hfw.mono (by omega)) (tS Hb _ fs)
  have w2:Wk (H.length+1) (.slice tg 3 (hv.map aQ.row)) (.slice tg 3 (hv.map aQ.row)):=wk_slice (hvw.mono (by omega)) (tS K6 _ hv)
  have w3:Wk (H.length+1) (.slice to 4 (os.map bw.row)) (.slice to 4 (os.map bw.row)):=wk_slice (how.mono (by omega)) (tS Jw _ os)
  have w4:=fun (o:List aq) (ho:∀ x∈o,∃ l,x.firsts=fsT l)=>wk_slice (n:=H.length+1) (esz:=3) (tag:=.own H.length) (show H.length<H.length+1 by omega) (Ej _ o ho)
  have hws:=de hi (show os.length≤bE by simp only [bE];omega)
  have hcp:=fun H=>LW M hS hA w y.w H
  have hpr:IntKind.i64.wrap (((m+1:Nat):Int)-1)=(m:Int):=R3 (by omega)
  rw [hd,l5] at ho ⊢
  cases hb:jJ w y.w with
  |false=>
   rw [hb] at ho hcp
   have ih:=WI hS hA hfl hol hvl htg hfw how hvw hrec (w:=w) (H0:=H0) k n (i+1) o _ hof rfl (by omega) ho
   have w5:=w4 o hof
   simp only [sel] at hcp
   simp only [kv_cons,kv_nil,sel] at ih ⊢
   rw [aw M gu.eq_1]
   simp (maxSteps:=3000000) (maxDischargeDepth:=6) +contextual -implicitDefEqProofs only [amA M,amB,↓aj,↓ae,↓al,↓ak,Nat.reduceBEq,Nat.reduceAdd,env,ao,eN,amG,AV.cell,Nat.reduceMul,Nat.reduceLeDiff,hi,hx,hb,hcp,ih,w1,w2,w3,w5,yw,uw,hws,bp hi,QO,Fx]
  |true=>
   rw [hb] at ho hcp
   simp only [sel,List.length_append] at ho hcp
   have hms:=fun l=>Hg fs os m (w.drop y.w.length) (hv++[y.first]) l
   have hof2:∀ x∈o++oW fs os m (w.drop y.w.length) (hv++[y.first]),∃ l,x.firsts=fsT l:=by
    intro x hx
    rcases List.mem_append.1 hx with hx | hx
    ·exact hof x hx
    ·exact hms x hx
   have ih:=WI hS hA hfl hol hvl htg hfw how hvw hrec (w:=w) (H0:=H0) k n (i+1) (o++oW fs os m (w.drop y.w.length) (hv++[y.first])) _ hof2 rfl (by omega) (by rw [List.length_append];omega)
   have w5:=w4 _ hof2
   have ap:=fun L=>Pu (row:=aq.row) (l:=o) (m:=oW fs os m (w.drop y.w.length) (hv++[y.first])) (tg:=.any) (sz:=3) (bytes:=40) (e:=aI) H L (Hf _ hms).1 (Hf _ hms).2 (by omega) (by omega)
   have hr:=fun X Y Z=>hrec (w.drop y.w.length) (hv++[y.first]) (.own (H.length+2)) (H++[X,Y,Z]) (by simp;omega) (.inr (by simp)) (by simp) (by simp [qa])
   generalize oW fs os m (w.drop y.w.length) (hv++[y.first])=rs at ih w5 ap hr
   simp only [kv_cons,kv_nil,sel,List.append_assoc,List.cons_append,List.nil_append] at ih w5 ⊢
   rcases htg with ⟨rfl,rfl⟩ | hne
   ·simp only [List.map_nil,List.nil_append,List.map_cons] at ih w2 hr ⊢
    rw [aw M gu.eq_1]
    simp (maxSteps:=3000000) (maxDischargeDepth:=6) +contextual -implicitDefEqProofs only [amA M,amB,↓aj,↓ae,↓al,↓ak,Nat.reduceBEq,Nat.reduceAdd,env,ao,eN,amG,AV.cell,Nat.reduceMul,Nat.reduceLeDiff,hi,hx,hb,hcp,hpr,K7 M hA,Vu,hr,ap,ih,w1,w2,w3,w5,yw,uw,hws,bp hi,QO,Fx]
   ·have hcl:=fun H=>K8 M hA hne (by omega) tg H
    rw [aw M gu.eq_1]
    simp (maxSteps:=3000000) (maxDischargeDepth:=6) +contextual -implicitDefEqProofs only [amA M,amB,↓aj,↓ae,↓al,↓ak,Nat.reduceBEq,Nat.reduceAdd,env,ao,eN,amG,AV.cell,Nat.reduceMul,Nat.reduceLeDiff,hi,hx,hb,hcp,hpr,hcl,Ru,Vv H _ _ (show hv.length≤100 by omega),hr,ap,ih,w1,w2,w3,w5,yw,uw,hws,bp hi,QO,Fx]
end
section
attribute [local congr] aF ca bg aG aZ aL aH aA aC aM aN
variable{E:bt}(M:cK cU E)
theorem Hh(hS:SpE E)(hA:Ic E){fs:List bS}{os:List bw}(hfl:fs.length≤3072)(hol:os.length≤24576){tf to:Tag}(hfw:qa 0 tf)(how:qa 0 to):∀ (n:Nat) (w:Str) (hv:List aQ) (tg:Tag) (H:List ab),hv.length+n≤2→(tg = .nil∧hv=[])∨hv≠[]→qa H.length tg →
  M.run lE [.slice tf 3 (fs.map bS.row),.slice to 4 (os.map bw.row),.str w,.int .i64 n,.slice tg 3 (hv.map aQ.row)] H=some (.ret (.slice .any 3 ((oW fs os n w hv).map aq.row)),H)
 |0,w,hv,tg,H,hn,htg,hvw=>by
  rw [a6 M hA.morph_analyses rfl (c:=lO) rfl,lO]
  have h1:=fun k=>WH M hA (w:=w) (hv:=hv) (by omega) htg hfl (H:=H) (H0:=H) (hfw.mono (Nat.zero_le _)) hvw k fs.length 0 [] _ (by simp) rfl (by omega) (by simp;omega)
  simp only [kv_cons,kv_nil,Int.ofNat_zero,List.drop_zero,List.length_nil,List.nil_append,List.map_nil,Nat.zero_mul] at h1
  have hwk:=fun n=>Ej n _ (Jx w hv fs)
  simp only [rowsWk_map] at hwk
  have hz:((((0:Nat):Int)) == 0)=true:=rfl
  rw [oW]
  simp (maxSteps:=3000000) (maxDischargeDepth:=6) +contextual -implicitDefEqProofs only [amA M,amB,↓aj,↓ae,↓al,↓ak,Nat.reduceBEq,Nat.reduceAdd,env,ao,eN,amG,AV.cell,Nat.reduceMul,Nat.reduceLeDiff,h1,hwk,hz,implies_true,cut_app]
 |n+1,w,hv,tg,H,hn,htg,hvw=>by
  rw [a6 M hA.morph_analyses rfl (c:=lO) rfl,lO]
  have hb:=Lh hfl hol (show n+1≤2 by omega) w hv
  have h1:=fun k=>WI M hS hA hfl hol (w:=w) (hv:=hv) (m:=n) (by omega) htg (H:=H) (H0:=H) (hfw.mono (Nat.zero_le _)) (how.mono (Nat.zero_le _)) hvw (fun w hv tg H2 h1 h2 _ h4=>Hh hS hA hfl hol hfw how n w hv tg H2 h1 h2 h4) k os.length 0 [] _ (by simp) rfl (by omega) (by rw [oW] at hb;simp only [List.drop_zero,List.length_nil];omega)
  simp only [kv_cons,kv_nil,Int.ofNat_zero,List.drop_zero,List.length_nil,List.nil_append,List.map_nil,Nat.zero_mul] at h1
  have hwk:=fun k=>Ej k _ (Hg fs os (n+1) w hv)
  have hz:((((n+1:Nat):Int)) == 0)=false:=by simp;omega
  rw [oW] at hwk ⊢
  simp only [rowsWk_map] at hwk
  simp (maxSteps:=3000000) (maxDischargeDepth:=6) +contextual -implicitDefEqProofs only [amA M,amB,↓aj,↓ae,↓al,↓ak,Nat.reduceBEq,Nat.reduceAdd,env,ao,eN,amG,AV.cell,Nat.reduceMul,Nat.reduceLeDiff,h1,hwk,hz,implies_true,cut_app]
def BP(fs:List bS)(os:List bw)(w:Str):Nat→Nat→List aq
 |_,0=>[]
 |i,n+1=>oW fs os i w []++BP fs os w (i+1) n
theorem NP(fs:List bS)(os:List bw)(w:Str):∀ n i,∀ x∈BP fs os w i n,∃ l,x.firsts=fsT l
 |0,i,x,h=>by cases h
 |n+1,i,x,h=>by
  rw [BP] at h
  rcases List.mem_append.1 h with h | h
  ·exact Hg fs os i w [] x h
  ·exact NP fs os w n (i+1) x h
theorem Px{fs:List bS}{os:List bw}(hfl:fs.length≤3072)(hol:os.length≤24576)(w:Str):(BP fs os w 0 3).length≤2000000000000:=by
 have h0:=Hd fs os 0 w []
 have h1:=Hd fs os 1 w []
 have h2:=Lh hfl hol (show 2≤2 by omega) w []
 have h3:os.length ^ 1*fs.length≤24576*3072:=Nat.mul_le_mul (by simpa using hol) hfl
 simp only [BP,List.length_append,List.length_nil,Nat.zero_add,Nat.reduceAdd]
 simp only [Nat.pow_zero,Nat.one_mul] at h0
 omega
def BQ(l:Lex)(w:Str):List aq:=BP (vB l) (sS l (vB l)) w 0 3
theorem azl(hS:SpE E)(hA:Ic E){fs:List bS}{os:List bw}(hfl:fs.length≤3072)(hol:os.length≤24576){w:Str}{tf to:Tag}(hfw:qa 0 tf)(how:qa 0 to){H H0:List ab}(k:List Fra):∀ (n i:Nat) (o:List aq) (He:List ab),i+n=3→(∀ x∈o,∃ l,x.firsts=fsT l)→o.length+(BP fs os w i n).length≤3000000000000 →
  M.go dc H0 (.c fo :: .lp ⟨(some [1,5,6,7,14]),[(7,3,aI)],false⟩ fo He :: .blk 0 :: .c (.lv [7])::k) (kv [(1,.str w),(5,.slice tf 3 (fs.map bS.row)),(6,.slice to 4 (os.map bw.row)),(7,.slice (.own H.length) 3 (o.map aq.row)),(14,.int .i64 i)]) (H++[.tok (o.length*3) aI]) =
   M.go dc H0 k (kv [(7,.slice (.own H.length) 3 ((o++BP fs os w i n).map aq.row))]) (H++[.tok ((o++BP fs os w i n).length*3) aI])
 |0,i,o,He,h,hof,ho=>by
  have e:i=3:=by omega
  subst e
  have d3:decide (((3:Nat):Int)<3)=false:=by decide
  rw [BP,List.append_nil]
  rw [aw M fo.eq_1]
  simp (maxSteps:=3000000) (maxDischargeDepth:=6) +contextual -implicitDefEqProofs only [amA M,amB,↓aj,↓ae,↓al,↓ak,Nat.reduceBEq,Nat.reduceAdd,env,ao,k7,d3]
 |n+1,i,o,He,h,hof,ho=>by
  have d3:decide (((i:Nat):Int)<3)=true:=decide_eq_true (by omega)
  have hws:IntKind.i64.wrap ((i:Int)+1)=((i+1:Nat):Int):=R2 (by omega)
  have hr:=fun H=>Hh M hS hA hfl hol hfw how i w [] .nil H (by simp;omega) (.inl ⟨rfl,rfl⟩) trivial
  rw [BP] at ho ⊢
  rw [List.length_append] at ho
  have hms:=Hg fs os i w []
  have ap:=fun L=>Pu (row:=aq.row) (l:=o) (m:=oW fs os i w []) (tg:=.any) (sz:=3) (bytes:=40) (e:=aI) H L (Hf _ hms).1 (Hf _ hms).2 (by omega) (by omega)
  have hof2:∀ x∈o++oW fs os i w [],∃ l,x.firsts=fsT l:=by
   intro x hx
   rcases List.mem_append.1 hx with hx | hx
   ·exact hof x hx
   ·exact hms x hx
  have ih:=fun He=>azl hS hA hfl hol (w:=w) hfw how (H:=H) (H0:=H0) k n (i+1) (o++oW fs os i w []) He (by omega) hof2 (by rw [List.length_append];omega)
  generalize oW fs os i w []=rs at ih ap hr
  simp only [List.map_nil] at hr
  simp only [kv_cons,kv_nil,List.append_assoc] at ih ⊢
  rw [aw M fo.eq_1]
  simp (maxSteps:=3000000) (maxDischargeDepth:=6) +contextual -implicitDefEqProofs only [amA M,amB,↓aj,↓ae,↓al,↓ak,Nat.reduceBEq,Nat.reduceAdd,env,ao,k7,amG,AV.cell,Nat.reduceMul,Nat.reduceLeDiff,d3,hws,hr,ap,ih]
theorem Py(hN:dW E)(hW:WdE M)(hE:jH E)(hS:SpE E)(hX:qy M)(hY:Ib M)(hB:ra E)(hF:u4 E)(hU:AS E){srt:List au→List au}(hO:Fl M srt)(hP:Srt srt)(hV:Pq E)(hA:Ic E){l:Lex}(hl:l.ok 0)(hk:eE l=0)(w:Str)(H:List ab) :
  M.run kX [.agg l.row,.str w] H=some (.ret (.slice .any 3 ((BQ l w).map aq.row)),H):=by
 rw [a6 M hA.morph_language_analyze rfl (c:=k6) rfl,k6]
 have h1:=fun H=>QP M hN hW hE hS hX hY hB hF hA hl hk H
 have h2:=fun H=>NO M hW hE hU hO hP hF hV hA hl hk (Vt hk) (La hk) (tf:=.any) trivial H
 have hsl:=La hk
 have hol:=Ld hk (vB l)
 have h3:=fun k He=>azl M hS hA hsl (show (sS l (vB l)).length≤24576 by omega) (w:=w) (tf:=.any) (to:=.any) trivial trivial (H:=H++[.cells l.row aE]) (H0:=H) k 3 0 [] He (by omega) (by simp) (by have:=Px hsl (show (sS l (vB l)).length≤24576 by omega) w;simp only [List.length_nil];omega)
 have hwk:=fun n=>Ej n _ (NP (vB l) (sS l (vB l)) w 3 0)
 rw [BQ]
 generalize BP (vB l) (sS l (vB l)) w 0 3=rs at h3 hwk
 simp only [rowsWk_map] at hwk
 simp only [kv_cons,kv_nil,Int.ofNat_zero,List.drop_zero,List.length_append,List.length_cons,List.length_nil,Nat.zero_add,Nat.reduceAdd,List.append_assoc,List.cons_append,List.nil_append,List.map_nil,Nat.zero_mul] at h3
 simp (maxSteps:=3000000) (maxDischargeDepth:=6) +contextual -implicitDefEqProofs only [amA M,amB,↓aj,↓ae,↓al,↓ak,Nat.reduceBEq,Nat.reduceAdd,env,ao,k7,amG,AV.cell,Nat.reduceMul,Nat.reduceLeDiff,h1,h2,h3,hwk,dZ,implies_true,cut_app]
end
section
attribute [local congr] aF ca bg aG aZ aL aH aA aC aM aN
variable{E:bt}(M:cK cU E)
def Hi(l:Lex)(w:Str):AV:=
 sel (!(eE l == 0)) (.tuple [.slice .any 3 [],.int .u8 (eE l)]) (sel (!(IG w)) (.tuple [.slice .any 3 [],.int .u8 1]) (.tuple [.slice .any 3 ((BQ l w).map aq.row),.int .u8 0]))
theorem Vw(l:Lex)(w:Str):∀ n:Nat,∀ x∈BQ l w,WkL n (aq.row x) (aq.row x):=fun n=>by
 have:=Ej n _ (NP (vB l) (sS l (vB l)) w 3 0)
 rw [rowsWk_map] at this
 exact this
theorem IN(hN:dW E)(hW:WdE M)(hE:jH E)(hS:SpE E)(hX:qy M)(hY:Ib M)(hB:ra E)(hF:u4 E)(hU:AS E){srt:List au→List au}(hO:Fl M srt)(hP:Srt srt)(hV:Pq E)(hA:Ic E){l:Lex}(hl:l.ok 0){w:Str}(hw:w.length≤bE)(H:List ab) :
  M.run iZ [.agg l.row,.str w] H=some (.ret (Hi l w),H):=by
 rw [a6 M hA.morph_Analyze rfl (c:=uM) rfl,uM]
 unfold Hi
 have hwd:=fun H=>OJ M hN hw H
 cases hk:eE l == 0 with
 |false=>
  simp (maxSteps:=3000000) (maxDischargeDepth:=6) +contextual -implicitDefEqProofs only [amA M,amB,↓aj,↓ae,↓al,↓ak,Nat.reduceBEq,Nat.reduceAdd,env,ao,uN,amG,AV.cell,Nat.reduceMul,Nat.reduceLeDiff,H6 M hN hE hl,Nat.zero_le,hk,dZ,kU,wk_tuple,sel]
 |true=>
  cases hww:IG w with
  |false=>
   rw [hww] at hwd
   simp (maxSteps:=3000000) (maxDischargeDepth:=6) +contextual -implicitDefEqProofs only [amA M,amB,↓aj,↓ae,↓al,↓ak,Nat.reduceBEq,Nat.reduceAdd,env,ao,uN,amG,AV.cell,Nat.reduceMul,Nat.reduceLeDiff,H6 M hN hE hl,Nat.zero_le,hk,hwd,dZ,kU,wk_tuple,sel]
  |true=>
   rw [hww] at hwd
   have ha:=fun H=>Py M hN hW hE hS hX hY hB hF hU hO hP hV hA hl (eq_of_beq hk) w H
   have hwk:=Vw l w
   generalize BQ l w=rs at ha hwk
   simp (maxSteps:=3000000) (maxDischargeDepth:=6) +contextual -implicitDefEqProofs only [amA M,amB,↓aj,↓ae,↓al,↓ak,Nat.reduceBEq,Nat.reduceAdd,env,ao,uN,amG,AV.cell,Nat.reduceMul,Nat.reduceLeDiff,H6 M hN hE hl,Nat.zero_le,hk,hwd,ha,hwk,dZ,implies_true,wk_tuple,sel]
def Pz(a b:aQ):Bool:=a.entry == b.entry&&(a.slot == b.slot&&a.link == b.link)
theorem Vx{a b:aQ}(h:Pz a b=true):a=b:=by
 simp only [Pz,Bool.and_eq_true,beq_iff_eq] at h
 cases a;cases b;simp_all
theorem SD(a:aQ):Pz a a=true:=by simp [Pz]
theorem MO(a b:aQ):req (.st [(0,.int .i64),(1,.int .i64),(2,.int .i64)]) (.agg a.row) (.agg b.row)=some (Pz a b):=by
 simp only [req,vK,aQ.row,Pz,Ea,List.getElem?_cons_zero,List.getElem?_cons_succ,if_true]
 cases a.entry == b.entry<;>cases a.slot == b.slot<;>cases a.link == b.link<;>rfl
def LX:List aQ→List aQ→Bool
 |x::a,y::b=>Pz x y&&LX a b
 |_,_=>true
theorem Rv:∀ {a b:List aQ},a.length=b.length→LX a b=true→a=b
 |[],[],_,_=>rfl
 |x::a,y::b,h,h2=>by
  rw [LX,Bool.and_eq_true] at h2
  rw [Vx h2.1,Rv (by simpa using h) h2.2]
theorem MP:∀ a:List aQ,LX a a=true
 |[]=>rfl
 |x::a=>by rw [LX,SD,MP a];rfl
def Lj(a b:aq):Bool:=sel (a.entry == b.entry) (sel (a.slot == b.slot) (sel (a.firsts.l.length == b.firsts.l.length) (LX a.firsts.l b.firsts.l) false) false) false
def Uq(M:cK cU E)(fn:AFn)(H0:List ab)(k:List Fra)(b:Bool)(H:List ab):Option Out:=
 match b with
 |true=>M.go fn H0 k (kv []) H
 |false=>some (.ret (.bool false),H.take H0.length)
theorem sal{a b:aq}(hab:a.firsts.l.length=b.firsts.l.length)(hal:a.firsts.l.length≤bE){H H0:List ab}{p r:Nat}{T T2:TypeId}(hp:H[p]?=some (.cells a.row T))(hr:H[r]?=some (.cells b.row T2))(hc:dL H0 H)(k:List Fra):∀ (n i:Nat) (He:List ab),i+n=a.firsts.l.length →
  M.go bD H0 (.c dg :: .lp ⟨(some [2,3,5]),[],false⟩ dg He :: .blk 0 :: .c (.lv [])::k) (kv [(2,.ptr p 0),(3,.ptr r 0),(5,.int .i64 i)]) H=Uq M bD H0 k (LX (a.firsts.l.drop i) (b.firsts.l.drop i)) H
 |0,i,He,h=>by
  have e:i=a.firsts.l.length:=by omega
  subst e
  rw [List.drop_length,LX,Uq]
  rw [aw M dg.eq_1]
  simp (maxSteps:=3000000) (maxDischargeDepth:=6) +contextual -implicitDefEqProofs only [amA M,amB,↓aj,↓ae,↓al,↓ak,Nat.reduceBEq,Nat.reduceAdd,env,ao,b6,Nat.lt_irrefl,hp,hr,iO]
  ·intro x a y b h;cases h
 |n+1,i,He,h=>by
  have hi:i<a.firsts.l.length:=by omega
  have hi2:i<b.firsts.l.length:=by omega
  have hx:a.firsts.l[i]?=some a.firsts.l[i]:=List.getElem?_eq_getElem hi
  have hd:a.firsts.l.drop i=a.firsts.l[i]::a.firsts.l.drop (i+1):=List.drop_eq_getElem_cons hi
  have hx2:b.firsts.l[i]?=some b.firsts.l[i]:=List.getElem?_eq_getElem hi2
  have hd2:b.firsts.l.drop i=b.firsts.l[i]::b.firsts.l.drop (i+1):=List.drop_eq_getElem_cons hi2
  have ih:=fun He=>sal hab hal hp hr hc k n (i+1) He (by omega)
  have hws:=de hi hal
  rw [hd,hd2,LX]
  generalize a.firsts.l[i]=x at hx
  generalize b.firsts.l[i]=y at hx2
  cases hb:Pz x y with
  |false=>
   simp only [Bool.false_and,Uq]
   rw [aw M dg.eq_1]
   simp (maxSteps:=3000000) (maxDischargeDepth:=6) +contextual -implicitDefEqProofs only [amA M,amB,↓aj,↓ae,↓al,↓ak,Nat.reduceBEq,Nat.reduceAdd,env,ao,b6,hi,hx,hx2,hp,hr,MO,hb,bp hi,bp hi2,iO,Fx,Option.map_some,hc]
  |true=>
   simp only [Bool.true_and]
   simp only [kv_cons,kv_nil] at ih
   rw [aw M dg.eq_1]
   simp (maxSteps:=3000000) (maxDischargeDepth:=6) +contextual -implicitDefEqProofs only [amA M,amB,↓aj,↓ae,↓al,↓ak,Nat.reduceBEq,Nat.reduceAdd,env,ao,b6,hi,hx,hx2,hp,hr,MO,hb,bp hi,bp hi2,iO,Fx,Option.map_some,ih,hws]
theorem AU(hSA:E.fn cR=some bD){a b:aq}(hal:a.firsts.l.length≤bE)(H:List ab) :
  M.run cR [.agg a.row,.agg b.row] H=some (.ret (.bool (Lj a b)),H):=by
 rw [a6 M hSA rfl (c:=i7) rfl,i7]
 unfold Lj
 cases h1:a.entry == b.entry with
 |false=>
  simp (maxSteps:=3000000) (maxDischargeDepth:=6) +contextual -implicitDefEqProofs only [amA M,amB,↓aj,↓ae,↓al,↓ak,Nat.reduceBEq,Nat.reduceAdd,env,ao,b6,amG,AV.cell,Nat.reduceMul,Nat.reduceLeDiff,h1,bne,Bool.not_false,Bool.not_true,iO,sel]
 |true=>
  cases h2:a.slot == b.slot with
  |false=>
   simp (maxSteps:=3000000) (maxDischargeDepth:=6) +contextual -implicitDefEqProofs only [amA M,amB,↓aj,↓ae,↓al,↓ak,Nat.reduceBEq,Nat.reduceAdd,env,ao,b6,amG,AV.cell,Nat.reduceMul,Nat.reduceLeDiff,h1,h2,bne,Bool.not_false,Bool.not_true,iO,sel]
  |true=>
   cases h3:a.firsts.l.length == b.firsts.l.length with
   |false=>
    simp (maxSteps:=3000000) (maxDischargeDepth:=6) +contextual -implicitDefEqProofs only [amA M,amB,↓aj,↓ae,↓al,↓ak,Nat.reduceBEq,Nat.reduceAdd,env,ao,b6,amG,AV.cell,Nat.reduceMul,Nat.reduceLeDiff,h1,h2,h3,bne,Bool.not_false,Bool.not_true,iO,sel]
   |true=>
    have e:a.firsts.l.length=b.firsts.l.length:=eq_of_beq h3
    have h4:=fun k He=>sal M e hal (H:=H++[.cells a.row aI,.cells b.row aI]) (H0:=H) (p:=H.length) (r:=H.length+1) (T:=aI) (T2:=aI) (by rw [ej];rfl) (by rw [hp_getk];rfl) (cut_app H _) k a.firsts.l.length 0 He (by omega)
    simp only [kv_cons,kv_nil,Int.ofNat_zero,List.drop_zero] at h4
    simp only [sel]
    cases hb:LX a.firsts.l b.firsts.l with
    |true=>
     simp only [hb,Uq] at h4
     simp (maxSteps:=3000000) (maxDischargeDepth:=6) +contextual -implicitDefEqProofs only [amA M,amB,↓aj,↓ae,↓al,↓ak,Nat.reduceBEq,Nat.reduceAdd,env,ao,b6,amG,AV.cell,Nat.reduceMul,Nat.reduceLeDiff,h1,h2,h3,h4,bne,Bool.not_false,Bool.not_true,iO,kv_nil]
    |false=>
     simp only [hb,Uq] at h4
     simp (maxSteps:=3000000) (maxDischargeDepth:=6) +contextual -implicitDefEqProofs only [amA M,amB,↓aj,↓ae,↓al,↓ak,Nat.reduceBEq,Nat.reduceAdd,env,ao,b6,amG,AV.cell,Nat.reduceMul,Nat.reduceLeDiff,h1,h2,h3,h4,bne,Bool.not_false,Bool.not_true,iO,hp_take]
end
theorem Lk(w p:Str):jJ w p=true↔∃ r,w=p++r:=by
 simp only [jJ,Bool.and_eq_true,decide_eq_true_eq,beq_iff_eq]
 constructor
 ·rintro ⟨_,h2⟩
  exact ⟨w.drop p.length,by conv=>lhs;rw [← List.take_append_drop p.length w,h2]⟩
 ·rintro ⟨r,rfl⟩
  exact ⟨by simp,by simp⟩
theorem PA{l:Lex}{x:aK}{e:Nat}:∀ (t:List bB) (i:Nat) (h:bS),h∈AT l x e i t→∃ (j:Nat) (s:bB),t[j]?=some s∧h=⟨e,((i+j:Nat):Int),F2 l x s ((i+j:Nat):Int)⟩∧h.w≠[]
 |[],_,h,hm=>by cases hm
 |s::t,i,h,hm=>by
  have ih:=PA (l:=l) (x:=x) (e:=e) t (i+1) h
  have rc:h∈AT l x e (i+1) t→∃ (j:Nat) (s':bB),(s::t)[j]?=some s'∧h=⟨e,((i+j:Nat):Int),F2 l x s' ((i+j:Nat):Int)⟩∧h.w≠[]:=fun hm=>by
   obtain ⟨j,s',h1,h2,h3⟩:=ih hm
   exact ⟨j+1,s',by simpa using h1,by rw [h2,show i+1+j=i+(j+1) by omega],h3⟩
  rw [AT] at hm
  cases hw:F2 l x s i == [] with
  |true=>rw [hw] at hm;exact rc hm
  |false=>
   rw [hw] at hm
   rcases List.mem_cons.1 hm with rfl | hm
   ·exact ⟨0,s,rfl,rfl,fun e=>by simp only at e;rw [e] at hw;cases hw⟩
   ·exact rc hm
def Vy(l:Lex)(x:aK):List bB:=match AO l x.cls with | some c=>c.slots.l | none=>[]
theorem PB{l:Lex}:∀ (t:List aK) (e:Nat) (h:bS),h∈sR l e t→∃ (j:Nat) (x:aK),t[j]?=some x∧h∈AT l x (e+j) 0 (Vy l x)
 |[],_,h,hm=>by cases hm
 |x::t,e,h,hm=>by
  rw [sR] at hm
  rcases List.mem_append.1 hm with hm | hm
  ·exact ⟨0,x,rfl,hm⟩
  ·obtain ⟨j,y,h1,h2⟩:=PB t (e+1) h hm
   exact ⟨j+1,y,by simpa using h1,by rwa [show e+(j+1)=e+1+j by omega]⟩
theorem PC{x:aK}{s:bB}{h:bS}:∀ (t:List dH) (i:Nat) (o:bw),o∈Hc x s h i t→∃ (j:Nat) (k:dH),t[j]?=some k∧Ps x s k=true∧o=⟨⟨h.e,h.q,((i+j:Nat):Int)⟩,h.w++k.glue⟩
 |[],_,o,hm=>by cases hm
 |k::t,i,o,hm=>by
  have rc:o∈Hc x s h (i+1) t→∃ (j:Nat) (k':dH),(k::t)[j]?=some k'∧Ps x s k'=true∧o=⟨⟨h.e,h.q,((i+j:Nat):Int)⟩,h.w++k'.glue⟩:=fun hm=>by
   obtain ⟨j,k',h1,h2,h3⟩:=PC t (i+1) o hm
   exact ⟨j+1,k',by simpa using h1,h2,by rw [h3,show i+1+j=i+(j+1) by omega]⟩
  rw [Hc] at hm
  cases hb:Ps x s k with
  |false=>rw [hb] at hm;exact rc hm
  |true=>
   rw [hb] at hm
   rcases List.mem_cons.1 hm with rfl | hm
   ·exact ⟨0,k,rfl,hb,rfl⟩
   ·exact rc hm
theorem Ll{l:Lex}:∀ (t:List bS) (o:bw),o∈sS l t↔∃ h∈t,o∈Lb l h
 |[],o=>by simp [sS]
 |h::t,o=>by rw [sS,List.mem_append,Ll t o];simp
theorem Hk{w:Str}{hv:List aQ}:∀ (fs:List bS) (x:aq),x∈BO w hv fs↔∃ h∈fs,h.w=w∧x=⟨fsT hv,h.e,h.q⟩
 |[],x=>by simp [BO]
 |h::t,x=>by
  have ih:=Hk (w:=w) (hv:=hv) t x
  rw [BO]
  cases hb:h.w == w with
  |true=>
   have e:=eq_of_beq hb
   simp only [sel,List.mem_cons,ih]
   constructor
   ·rintro (rfl | ⟨y,h1,h2,h3⟩)
    ·exact ⟨h,.inl rfl,e,rfl⟩
    ·exact ⟨y,.inr h1,h2,h3⟩
   ·rintro ⟨y,rfl | h1,h2,h3⟩
    ·exact .inl h3
    ·exact .inr ⟨y,h1,h2,h3⟩
  |false=>
   have e:h.w≠w:=by simpa using hb
   simp only [sel,ih,List.mem_cons]
   constructor
   ·rintro ⟨y,h1,h2,h3⟩;exact ⟨y,.inr h1,h2,h3⟩
   ·rintro ⟨y,rfl | h1,h2,h3⟩
    ·exact absurd h2 e
    ·exact ⟨y,h1,h2,h3⟩
theorem MQ{F:Str→List aQ→List aq}{w:Str}{hv:List aQ}:∀ (os:List bw) (x:aq),x∈l5 F w hv os↔∃ o∈os,jJ w o.w=true∧x∈F (w.drop o.w.length) (hv++[o.first])
 |[],x=>by simp [l5]
 |o::t,x=>by
  have ih:=MQ (F:=F) (w:=w) (hv:=hv) t x
  rw [l5]
  cases hb:jJ w o.w with
  |true=>
   simp only [sel,List.mem_append,ih,List.mem_cons]
   constructor
   ·rintro (h | ⟨y,h1,h2,h3⟩)
    ·exact ⟨o,.inl rfl,hb,h⟩
    ·exact ⟨y,.inr h1,h2,h3⟩
   ·rintro ⟨y,rfl | h1,h2,h3⟩
    ·exact .inl h3
    ·exact .inr ⟨y,h1,h2,h3⟩
  |false=>
   simp only [sel,ih,List.mem_cons]
   constructor
   ·rintro ⟨y,h1,h2,h3⟩;exact ⟨y,.inr h1,h2,h3⟩
   ·rintro ⟨y,rfl | h1,h2,h3⟩
    ·rw [hb] at h2;cases h2
    ·exact ⟨y,h1,h2,h3⟩
def PD(p:List bw):Str:=(p.map (·.w)).flatten
theorem D0{fs:List bS}{os:List bw}:∀ (n:Nat) (w:Str) (hv:List aQ) (x:aq),x∈oW fs os n w hv↔∃ (p:List bw) (h:bS),p.length=n∧(∀ o∈p,o∈os)∧h∈fs∧w=PD p++h.w∧x=⟨fsT (hv++p.map (·.first)),h.e,h.q⟩
 |0,w,hv,x=>by
  rw [oW,Hk]
  constructor
  ·rintro ⟨h,h1,h2,h3⟩;exact ⟨[],h,rfl,by simp,h1,by simp [PD,h2],by simpa using h3⟩
  ·rintro ⟨p,h,hp,_,h1,h2,h3⟩
   obtain rfl:=List.eq_nil_of_length_eq_zero hp
   exact ⟨h,h1,by simpa [PD] using h2.symm,by simpa using h3⟩
 |n+1,w,hv,x=>by
  rw [oW,MQ]
  constructor
  ·rintro ⟨o,ho,hb,hx⟩
   obtain ⟨r,rfl⟩:=(Lk _ _).1 hb
   rw [List.drop_left] at hx
   obtain ⟨p,h,h1,h2,h3,h4,h5⟩:=(D0 n r _ x).1 hx
   refine ⟨o::p,h,by simp [h1], ?_,h3,by simp [PD,h4],by simpa using h5⟩
   intro y hy
   rcases List.mem_cons.1 hy with rfl | hy
   ·exact ho
   ·exact h2 y hy
  ·rintro ⟨p,h,hp,h2,h3,h4,h5⟩
   cases p with
   |nil=>cases hp
   |cons o p=>
    refine ⟨o,h2 o (by simp),(Lk _ _).2 ⟨PD p++h.w,by rw [h4];simp [PD]⟩, ?_⟩
    refine (D0 n _ _ x).2 ⟨p,h,by simpa using hp,fun y hy=>h2 y (by simp [hy]),h3, ?_,by simpa using h5⟩
    rw [h4];simp [PD]
theorem PE{fs:List bS}{os:List bw}{w:Str}:∀ (n i:Nat) (x:aq),x∈BP fs os w i n↔∃ m,i≤m∧m<i+n∧x∈oW fs os m w []
 |0,i,x=>by
  rw [BP]
  constructor
  ·intro h;cases h
  ·rintro ⟨m,h1,h2,_⟩;omega
 |n+1,i,x=>by
  rw [BP,List.mem_append,PE n (i+1) x]
  constructor
  ·rintro (h | ⟨m,h1,h2,h3⟩)
   ·exact ⟨i,by omega,by omega,h⟩
   ·exact ⟨m,by omega,by omega,h3⟩
  ·rintro ⟨m,h1,h2,h3⟩
   by_cases he:m=i
   ·subst he;exact .inl h3
   ·exact .inr ⟨m,by omega,by omega,h3⟩
theorem Ur{l:Lex}{w:Str}{x:aq}:x∈BQ l w↔∃ (p:List bw) (h:bS),p.length≤2∧(∀ o∈p,o∈sS l (vB l))∧h∈vB l∧w=PD p++h.w∧x=⟨fsT (p.map (·.first)),h.e,h.q⟩:=by
 rw [BQ,PE]
 constructor
 ·rintro ⟨m,_,h2,hx⟩
  obtain ⟨p,h,h1,h2,h3,h4,h5⟩:=(D0 m w [] x).1 hx
  exact ⟨p,h,by omega,h2,h3,h4,by simpa using h5⟩
 ·rintro ⟨p,h,h1,h2,h3,h4,h5⟩
  exact ⟨p.length,by omega,by omega,(D0 _ w [] x).2 ⟨p,h,rfl,h2,h3,h4,by simpa using h5⟩⟩
theorem PF{l:Lex}{h:bS}{o:bw}(ho:o∈Lb l h):o.first.entry=h.e∧o.first.slot=h.q:=by
 unfold Lb at ho
 split at ho
 ·obtain ⟨j,k',_,_,rfl⟩:=PC _ _ _ ho;exact ⟨rfl,rfl⟩
 ·cases ho
theorem Us{fs:List bS}{os:List bw}(n:Nat)(w:Str)(hv:List aQ):∀ x∈oW fs os n w hv,∃ r,x.firsts.l=hv++r:=fun x hx=>by
 obtain ⟨p,h,_,_,_,_,rfl⟩:=(D0 n w hv x).1 hx
 exact ⟨p.map (·.first),by rw [Up]⟩
theorem MR(a b:aq):Lj a b=true↔a.firsts.l=b.firsts.l∧a.entry=b.entry∧a.slot=b.slot:=by
 unfold Lj
 constructor
 ·intro h
  cases h1:a.entry == b.entry with
  |false=>rw [h1] at h;cases h
  |true=>
   cases h2:a.slot == b.slot with
   |false=>rw [h1,h2] at h;cases h
   |true=>
    cases h3:a.firsts.l.length == b.firsts.l.length with
    |false=>rw [h1,h2,h3] at h;cases h
    |true=>
     rw [h1,h2,h3] at h
     exact ⟨Rv (eq_of_beq h3) h,eq_of_beq h1,eq_of_beq h2⟩
 ·rintro ⟨h1,h2,h3⟩
  rw [h1,h2,h3]
  simp [sel,MP]
section
attribute [local congr] aF ca bg aG aZ aL aH aA aC aM aN
variable{E:bt}(M:cK cU E)
theorem PG{l:Lex}(hk:eE l=0)(w:Str):(BQ l w).length≤2000000000000:=by
 have h1:=La hk
 have h2:=Ld hk (vB l)
 exact Px h1 (by omega) w
theorem Vz{l:Lex}{w:Str}{a:aq}(ha:a∈BQ l w):a.firsts.l.length≤2:=by
 obtain ⟨p,h,hp,_,_,_,rfl⟩:=Ur.1 ha
 rw [Up];simpa using hp
end
section
attribute [local congr] aF ca bg aG aZ aL aH aA aC aM aN
variable{E:bt}(M:cK cU E)
end
theorem Lm{α:Type}{F:Nat→α→Int}:∀ (l:List α) (i:Nat),(∀ (k:Nat) (x:α),l[k]?=some x→F (i+k) x=0)→w7 F i l=0
 |[],i,_=>rfl
 |x::l,i,h=>by
  have h0:F i x=0:=by simpa using h 0 x rfl
  have ih:=Lm (F:=F) l (i+1) fun k y hk=>by have:=h (k+1) y (by simpa using hk);rwa [show i+1+k=i+(k+1) by omega]
  rw [w7,h0]
  exact ih
def km(l:Lex)(n:Nat):Lex := { l with entries:=⟨.full,l.entries.l.take n⟩ }
theorem QR{l:Lex}(hk:eE l=0)(n:Nat):eE (km l n)=0:=by
 have e0:Ql (km l n)=0:=jQ hk 0 (Ql l) rfl
 have e1:FV (km l n)=0:=jQ hk 1 (FV l) rfl
 have e2:BN (km l n)=0:=jQ hk 2 (BN l) rfl
 have e4:DO (km l n)=0:=jQ hk 4 (DO l) rfl
 have e5:FW (km l n)=0:=jQ hk 5 (FW l) rfl
 have h3:=jR (jQ hk 3 (DN l) rfl)
 have e3:DN (km l n)=0:=by
  have hlen:(l.entries.l.take n).length≤l.entries.l.length:=by simp;omega
  have hd:decide ((128:Int)<((l.entries.l.take n).length:Int))=false:=decide_eq_false (by have:=h3.1;omega)
  show sel (decide ((128:Int)<((l.entries.l.take n).length:Int))) 3 (w7 (zd (km l n)) 0 (l.entries.l.take n))=0
  rw [hd]
  refine Lm _ _ fun k x hx => ?_
  have hkn:k<n:=by
   have:=(List.getElem?_eq_some_iff.1 hx).1
   simp at this;omega
  have hx2:l.entries.l[k]?=some x:=by rw [List.getElem?_take_of_lt hkn] at hx;exact hx
  have:=h3.2 k x hx2
  rw [Nat.zero_add]
  have e:(l.entries.l.take n).take k=l.entries.l.take k:=by rw [List.take_take,Nat.min_eq_left (by omega)]
  have e2:zd (km l n) k x=zd l k x:=by
   show (match AO l x.cls with
    |none=>sel (!zb x.lem) 1 5
    |some c=>sel (!zb x.lem) 1 (sel (((l.entries.l.take n).take k).any fun o=>o.lem == x.lem&&o.cls == x.cls) 6 (sel (!(sP l x.feats.l == 0)) (sP l x.feats.l)
     (sel (c.slots.l.any fun s=>kr x.feats.l s.feats.l) 10 (w7 (MA c.slots.l.length x.forms.l) 0 x.forms.l)))))=zd l k x
   rw [e];rfl
  rw [e2];exact this
 refine Lm _ _ fun k x hx => ?_
 match k,hx with
 |0,hx=>obtain rfl:=Option.some.inj hx;exact e0
 |1,hx=>obtain rfl:=Option.some.inj hx;exact e1
 |2,hx=>obtain rfl:=Option.some.inj hx;exact e2
 |3,hx=>obtain rfl:=Option.some.inj hx;exact e3
 |4,hx=>obtain rfl:=Option.some.inj hx;exact e4
 |5,hx=>obtain rfl:=Option.some.inj hx;exact e5
theorem MS(l:Lex)(n:Nat)(x:aK)(e:Nat):∀ (t:List bB) (i:Nat),AT (km l n) x e i t=AT l x e i t
 |[],_=>rfl
 |s::t,i=>by
  rw [AT,AT,MS l n x e t];rfl
theorem MT(l:Lex)(n:Nat):∀ (t:List aK) (e:Nat),sR (km l n) e t=sR l e t
 |[],_=>rfl
 |x::t,e=>by
  rw [sR,sR,MT l n t,MS];rfl
theorem IP(l:Lex):∀ (s t:List aK) (e:Nat),sR l e (s++t)=sR l e s++sR l (e+s.length) t
 |[],t,e=>by simp [sR]
 |x::s,t,e=>by
  rw [List.cons_append,sR,sR,IP l s t (e+1),List.append_assoc,List.length_cons,show e+1+s.length=e+(s.length+1) by omega]
theorem IQ(l:Lex):∀ s t:List bS,sS l (s++t)=sS l s++sS l t
 |[],t=>rfl
 |h::s,t=>by rw [List.cons_append,sS,sS,IQ l s t,List.append_assoc]
theorem SE{l:Lex}{n:Nat}{h:bS}(h1:h.e<n)(h0:0≤h.e):Lb (km l n) h=Lb l h:=by
 have e1:KX (km l n) h.e=KX l h.e:=by
  show (if h.e<0 then none else (l.entries.l.take n)[h.e.toNat]?)=if h.e<0 then none else l.entries.l[h.e.toNat]?
  rw [List.getElem?_take_of_lt (by omega)]
 have e2:slF (km l n) h.e h.q=slF l h.e h.q:=by
  unfold slF
  rw [e1];rfl
 unfold Lb
 rw [e1,e2];rfl
theorem MU{l:Lex}{n:Nat}:∀ t:List bS,(∀ h∈t,0≤h.e∧h.e<n)→sS (km l n) t=sS l t
 |[],_=>rfl
 |h::t,ht=>by
  rw [sS,sS,SE (ht h (by simp)).2 (ht h (by simp)).1,MU t fun y hy=>ht y (by simp [hy])]
theorem Ut{l:Lex}{t:List aK}{e:Nat}{h:bS}(hm:h∈sR l e t):∃ j:Nat,j<t.length∧h.e=((e+j:Nat):Int):=by
 obtain ⟨j,x,h1,h2⟩:=PB _ _ _ hm
 obtain ⟨i,s,_,rfl,_⟩:=PA _ _ _ h2
 exact ⟨j,(List.getElem?_eq_some_iff.1 h1).1,rfl⟩
def EU(n:Int)(a:aq):Bool := !(a.entry == n||a.firsts.l.any fun f=>f.entry == n)
theorem VA(hv:List aQ)(p:aQ→Bool):(fsT hv).l.any p=hv.any p:=by rw [Up]
theorem IR(w:Str)(hv:List aQ):∀ s t:List bS,BO w hv (s++t)=BO w hv s++BO w hv t
 |[],t=>rfl
 |h::s,t=>by
  rw [List.cons_append,BO,BO,IR w hv s t]
  cases h.w == w<;>rfl
theorem Hl(F:Str→List aQ→List aq)(w:Str)(hv:List aQ):∀ s t:List bw,l5 F w hv (s++t)=l5 F w hv s++l5 F w hv t
 |[],t=>rfl
 |o::s,t=>by
  rw [List.cons_append,l5,l5,Hl F w hv s t]
  cases jJ w o.w
  ·rfl
  ·simp only [sel,List.append_assoc]
theorem IS{α:Type}{p:α→Bool}{l:List α}(h:∀ x∈l,p x=false):l.filter p=[]:=by
 rw [List.filter_eq_nil_iff]
 intro x hx
 rw [h x hx];simp
theorem QS{α:Type}{p:α→Bool}{l:List α}(h:∀ x∈l,p x=true):l.filter p=l:=List.filter_eq_self.2 h
theorem BR{F F':Str→List aQ→List aq}{p:aq→Bool}{w:Str}{hv:List aQ}:∀ os:List bw,(∀ o∈os,∀ w,(F w (hv++[o.first])).filter p=F' w (hv++[o.first]))→(l5 F w hv os).filter p=l5 F' w hv os
 |[],_=>rfl
 |o::t,h=>by
  have ih:=BR (F:=F) (F':=F') (p:=p) (w:=w) (hv:=hv) t fun y hy=>h y (by simp [hy])
  rw [l5,l5]
  cases jJ w o.w with
  |true=>simp only [sel];rw [List.filter_append,ih,h o (by simp)]
  |false=>exact ih
theorem MV{w:Str}{hv:List aQ}:∀ os:List bw,l5 (fun _ _=>[]) w hv os=[]
 |[]=>rfl
 |o::t=>by
  rw [l5,MV t]
  cases jJ w o.w<;>rfl
theorem SF{fs:List bS}{os:List bw}{N:Int}(n:Nat)(w:Str)(hv:List aQ)(h:hv.any (fun f=>f.entry == N)=true):(oW fs os n w hv).filter (EU N)=[]:=IS fun x hx=>by
 obtain ⟨r,e⟩:=Us n w hv x hx
 simp only [EU,e,List.any_append,h,Bool.true_or,Bool.or_true,Bool.not_true]
theorem MW{fs1 fs2:List bS}{os1 os2:List bw}{N:Int}(hf1:∀ h∈fs1,h.e≠N)(hf2:∀ h∈fs2,h.e=N)(ho1:∀ o∈os1,o.first.entry≠N)(ho2:∀ o∈os2,o.first.entry=N):∀ (n:Nat) (w:Str) (hv:List aQ),hv.any (fun f=>f.entry == N)=false→(oW (fs1++fs2) (os1++os2) n w hv).filter (EU N)=oW fs1 os1 n w hv
 |0,w,hv,h=>by
  rw [oW,oW,IR,List.filter_append,QS,IS,List.append_nil]
  ·intro x hx
   obtain ⟨y,hy,_,rfl⟩:=(Hk _ _).1 hx
   simp [EU,hf2 y hy]
  ·intro x hx
   obtain ⟨y,hy,_,rfl⟩:=(Hk _ _).1 hx
   have:=hf1 y hy
   simp only [EU,VA,h,Bool.or_false,Bool.not_eq_true',beq_eq_false_iff_ne]
   exact this
 |n+1,w,hv,h=>by
  rw [oW,oW,Hl,List.filter_append]
  rw [BR (F':=fun w hv=>oW fs1 os1 n w hv) os1 fun o ho w=>MW hf1 hf2 ho1 ho2 n w _ (by rw [List.any_append,h];simpa using ho1 o ho)]
  rw [BR (F':=fun _ _=>[]) os2 fun o ho w=>SF n w _ (by rw [List.any_append];simp [ho2 o ho]),MV,List.append_nil]
theorem MX{fs1 fs2:List bS}{os1 os2:List bw}{N:Int}(hf1:∀ h∈fs1,h.e≠N)(hf2:∀ h∈fs2,h.e=N)(ho1:∀ o∈os1,o.first.entry≠N)(ho2:∀ o∈os2,o.first.entry=N)(w:Str):∀ (n i:Nat),(BP (fs1++fs2) (os1++os2) w i n).filter (EU N)=BP fs1 os1 w i n
 |0,_=>rfl
 |n+1,i=>by
  rw [BP,BP,List.filter_append,MW hf1 hf2 ho1 ho2 i w [] rfl,MX hf1 hf2 ho1 ho2 w n (i+1)]
theorem SG{l:Lex}{n:Nat}(hn:n+1=l.entries.l.length)(w:Str):BQ (km l n) w=(BQ l w).filter (EU (n:Int)):=by
 have e:l.entries.l=l.entries.l.take n++l.entries.l.drop n:=(List.take_append_drop n _).symm
 have hlt:(l.entries.l.take n).length=n:=by simp;omega
 have hld:(l.entries.l.drop n).length=1:=by simp;omega
 have e1:vB l=sR l 0 (l.entries.l.take n)++sR l n (l.entries.l.drop n):=by
  conv=>lhs;rw [vB,e,IP,hlt,Nat.zero_add]
 have e2:vB (km l n)=sR l 0 (l.entries.l.take n):=by rw [vB,MT];rfl
 have a1:∀ h∈sR l 0 (l.entries.l.take n),0≤h.e∧h.e<(n:Int):=fun h hm=>by
  obtain ⟨j,hj,he⟩:=Ut hm
  rw [he];omega
 have a2:∀ h∈sR l n (l.entries.l.drop n),h.e=(n:Int):=fun h hm=>by
  obtain ⟨j,hj,he⟩:=Ut hm
  rw [he];omega
 have e3:sS (km l n) (vB (km l n))=sS l (sR l 0 (l.entries.l.take n)):=by rw [e2];exact MU _ a1
 unfold BQ
 rw [e3,e2,e1,IQ]
 refine (MX (fun h hm=>by have:=a1 h hm;omega) a2 (fun o hm => ?_) (fun o hm => ?_) w 3 0).symm
 ·obtain ⟨h,hh,ho⟩:=(Ll _ _).1 hm
  rw [(PF ho).1]
  have:=a1 h hh;omega
 ·obtain ⟨h,hh,ho⟩:=(Ll _ _).1 hm
  rw [(PF ho).1]
  exact a2 h hh
theorem SH{n:Int}{a b:aq}(h:Lj a b=true):EU n a=EU n b:=by
 obtain ⟨h1,h2,_⟩:=(MR a b).1 h
 rw [EU,EU,h1,h2]
theorem VB{l:Lex}(hl:l.ok 0)(n:Nat):(km l n).ok 0:=
 ⟨hl.vowels,hl.traits,hl.classes,⟨trivial,by have:=hl.entries.len;simp only [km,List.length_take];omega,fun x hx=>hl.entries.all x (List.mem_of_mem_take hx)⟩,hl.spells,hl.links⟩
section
attribute [local congr] aF ca bg aG aZ aL aH aA aC aM aN
variable{E:bt}(M:cK cU E)
theorem VC{α:Type}{row:α→List AV}{l:List α}{tag:Tag}{sz n:Nat}(h:n≤l.length):Cf sz (.slice tag sz (l.map row)) none (some (.int .i64 (n:Int))) (some (.int .i64 (n:Int)))=some (.slice .full sz ((l.take n).map row)):=by
 simp [Cf,fm,h,List.map_take]
theorem Xg{asq bs:List aq}{ta tb:Tag}{N at_:Int}{i:Nat}{a:aq}(ha:asq[i]?=some a)(hal:a.firsts.l.length≤bE)(hlen:asq.length≤bE){H H0:List ab}(k:List Fra):∀ (n j:Nat) (b:Bool) (He:List ab),j+n=a.firsts.l.length →
  M.go bL H0 (.c dI :: .lp ⟨(some [5,7,9,11,12,13,14]),[],false⟩ dI He :: .blk 2 :: .c (.lv [5,7,9,11,12,13])::k) (kv [(5,.int .i64 N),(7,.slice ta 3 (asq.map aq.row)),(9,.slice tb 3 (bs.map aq.row)),(11,.int .i64 at_),(12,.int .i64 i),(13,.bool b),(14,.int .i64 j)]) H =
   M.go bL H0 k (kv [(5,.int .i64 N),(7,.slice ta 3 (asq.map aq.row)),(9,.slice tb 3 (bs.map aq.row)),(11,.int .i64 at_),(12,.int .i64 i),(13,.bool (b||(a.firsts.l.drop j).any fun f=>f.entry == N))]) H
 |0,j,b,He,h=>by
  have e:j=a.firsts.l.length:=by omega
  subst e
  have hi:=(List.getElem?_eq_some_iff.1 ha).1
  rw [List.drop_length,List.any_nil,Bool.or_false]
  rw [aw M dI.eq_1]
  simp (maxSteps:=3000000) (maxDischargeDepth:=6) +contextual -implicitDefEqProofs only [amA M,amB,↓aj,↓ae,↓al,↓ak,Nat.reduceBEq,Nat.reduceAdd,env,ao,bA,Nat.lt_irrefl,ha,bp hi,iO]
 |n+1,j,b,He,h=>by
  have hi:=(List.getElem?_eq_some_iff.1 ha).1
  have hj:j<a.firsts.l.length:=by omega
  have hx:a.firsts.l[j]?=some a.firsts.l[j]:=List.getElem?_eq_getElem hj
  have hd:a.firsts.l.drop j=a.firsts.l[j]::a.firsts.l.drop (j+1):=List.drop_eq_getElem_cons hj
  generalize a.firsts.l[j]=f at hx hd
  have hws:=de hj hal
  have ih:=fun b He=>Xg (bs:=bs) (ta:=ta) (tb:=tb) (N:=N) (at_:=at_) ha hal hlen (H:=H) (H0:=H0) k n (j+1) b He (by omega)
  rw [hd,List.any_cons]
  simp only [kv_cons,kv_nil] at ih
  cases b with
  |true=>
   simp only [Bool.true_or] at ih ⊢
   rw [aw M dI.eq_1]
   simp (maxSteps:=3000000) (maxDischargeDepth:=6) +contextual -implicitDefEqProofs only [amA M,amB,↓aj,↓ae,↓al,↓ak,Nat.reduceBEq,Nat.reduceAdd,env,ao,bA,hj,hx,ha,ih,hws,bp hi,bp hj,iO,Fx,Bool.true_or]
  |false=>
   simp only [Bool.false_or]
   rw [aw M dI.eq_1]
   simp (maxSteps:=3000000) (maxDischargeDepth:=6) +contextual -implicitDefEqProofs only [amA M,amB,↓aj,↓ae,↓al,↓ak,Nat.reduceBEq,Nat.reduceAdd,env,ao,bA,hj,hx,ha,ih,hws,bp hi,bp hj,iO,Fx,Bool.false_or]
theorem WJ(hSA:E.fn cR=some bD){asq bs:List aq}{ta tb:Tag}{N:Int}(hlen:asq.length≤4000000000000)(hal:∀ a∈asq,a.firsts.l.length≤bE)(hbl:bs.length≤4000000000000){H H0:List ab}(k:List Fra):∀ (n i at_:Nat) (He:List ab),i+n=asq.length→at_≤bs.length→bs.drop at_=(asq.drop i).filter (EU N) →
  M.go bL H0 (.c cS :: .lp ⟨(some [5,7,9,11,12]),[],false⟩ cS He :: .blk 0 :: .c (.lv [9,11])::k) (kv [(5,.int .i64 N),(7,.slice ta 3 (asq.map aq.row)),(9,.slice tb 3 (bs.map aq.row)),(11,.int .i64 at_),(12,.int .i64 i)]) H =
   M.go bL H0 k (kv [(9,.slice tb 3 (bs.map aq.row)),(11,.int .i64 bs.length)]) H
 |0,i,at_,He,h,hat,hf=>by
  have e:i=asq.length:=by omega
  subst e
  have e2:at_=bs.length:=by
   have:=congrArg List.length hf
   simp at this;omega
  subst e2
  rw [aw M cS.eq_1]
  simp (maxSteps:=3000000) (maxDischargeDepth:=6) +contextual -implicitDefEqProofs only [amA M,amB,↓aj,↓ae,↓al,↓ak,Nat.reduceBEq,Nat.reduceAdd,env,ao,bA,Nat.lt_irrefl]
 |n+1,i,at_,He,h,hat,hf=>by
  have hi:i<asq.length:=by omega
  have hx:asq[i]?=some asq[i]:=List.getElem?_eq_getElem hi
  have hd:asq.drop i=asq[i]::asq.drop (i+1):=List.drop_eq_getElem_cons hi
  have hm:=hal asq[i] (List.getElem_mem hi)
  generalize asq[i]=a at hx hd hm
  have hws:=de hi (show asq.length≤bE by simp only [bE];omega)
  have hin:=fun b k He=>Xg M (bs:=bs) (ta:=ta) (tb:=tb) (N:=N) (at_:=(at_:Int)) hx hm (show asq.length≤bE by simp only [bE];omega) (H:=H) (H0:=H0) k a.firsts.l.length 0 b He (by omega)
  simp only [kv_cons,kv_nil,Int.ofNat_zero,List.drop_zero] at hin
  rw [hd,List.filter_cons] at hf
  cases hu:EU N a with
  |true=>
   rw [hu] at hf
   simp only [if_true] at hf
   have hat2:at_<bs.length:=by
    have:=congrArg List.length hf
    simp at this;omega
   have hb:bs[at_]?=some a:=by
    have:=congrArg (fun l:List aq=>l[0]?) hf
    simpa using this
   have hf2:bs.drop (at_+1)=(asq.drop (i+1)).filter (EU N):=by
    have:=congrArg List.tail hf
    simpa using this
   have hs:=fun H=>AU M hSA (a:=a) (b:=a) hm H
   rw [(MR a a).2 ⟨rfl,rfl,rfl⟩] at hs
   have hwa:=de hat2 (show bs.length≤bE by simp only [bE];omega)
   have ih:=fun He=>WJ hSA (ta:=ta) (tb:=tb) hlen hal hbl (H:=H) (H0:=H0) k n (i+1) (at_+1) He (by omega) (by omega) hf2
   simp only [kv_cons,kv_nil] at ih
   rw [aw M cS.eq_1]
   simp (maxSteps:=3000000) (maxDischargeDepth:=6) +contextual -implicitDefEqProofs only [amA M,amB,↓aj,↓ae,↓al,↓ak,Nat.reduceBEq,Nat.reduceAdd,env,ao,bA,hi,hat2,hx,hb,hin,hs,ih,hws,hwa,bp hi,bp hat2,iO]
  |false=>
   rw [hu] at hf
   simp only [Bool.false_eq_true,if_false] at hf
   have hu2:(a.entry == N||a.firsts.l.any fun f=>f.entry == N)=true:=by simp only [EU,Bool.not_eq_false'] at hu;exact hu
   have ih:=fun He=>WJ hSA (ta:=ta) (tb:=tb) hlen hal hbl (H:=H) (H0:=H0) k n (i+1) at_ He (by omega) hat hf
   simp only [kv_cons,kv_nil] at ih
   cases hat2:decide (at_<bs.length) with
   |false=>
    have hat3:¬ at_<bs.length:=of_decide_eq_false hat2
    rw [aw M cS.eq_1]
    simp (maxSteps:=3000000) (maxDischargeDepth:=6) +contextual -implicitDefEqProofs only [amA M,amB,↓aj,↓ae,↓al,↓ak,Nat.reduceBEq,Nat.reduceAdd,env,ao,bA,hi,hat3,hx,hin,hu2,ih,hws,bp hi,iO,Bool.not_true]
   |true=>
    have hat3:at_<bs.length:=of_decide_eq_true hat2
    have hb:bs[at_]?=some bs[at_]:=List.getElem?_eq_getElem hat3
    have hbm:bs[at_]∈(asq.drop (i+1)).filter (EU N):=by
     rw [← hf,List.mem_drop_iff_getElem]
     exact ⟨0,by simpa using hat3,by simp⟩
    generalize bs[at_]=b at hb hbm
    have hs:=fun H=>AU M hSA (a:=a) (b:=b) hm H
    have hne:Lj a b=false:=by
     cases hsa:Lj a b with
     |false=>rfl
     |true=>
      have h1:=SH (n:=N) hsa
      have h2:=(List.mem_filter.1 hbm).2
      rw [hu,h2] at h1;cases h1
    rw [hne] at hs
    rw [aw M cS.eq_1]
    simp (maxSteps:=3000000) (maxDischargeDepth:=6) +contextual -implicitDefEqProofs only [amA M,amB,↓aj,↓ae,↓al,↓ak,Nat.reduceBEq,Nat.reduceAdd,env,ao,bA,hi,hat3,hx,hb,hin,hu2,hs,ih,hws,bp hi,bp hat3,iO,Bool.not_true]
theorem Lo(hN:dW E)(hW:WdE M)(hE:jH E)(hg:FY E)(hS:SpE E)(hX:qy M)(hY:Ib M)(hB:ra E)(hF:u4 E)(hU:AS E){srt:List au→List au}(hO:Fl M srt)(hP:Srt srt)(hV:Pq E)(hA:Ic E)(hSA:E.fn cR=some bD)(h:E.fn jS=some bL)
  {l:Lex} (hl:l.ok 0) {w:Str} (hw:w.length≤bE) {H:List ab} (hlv:∀ H,M.run bn [] H=some (.ret (.bool true),H)) :
  M.run jS [.agg l.row,.str w] H=some (.ret (.bool true),H):=by
 rw [a6 M h rfl (c:=jT) rfl,jT]
 cases hz:((l.entries.l.length:Int) == 0) with
 |true=>
  simp (maxSteps:=3000000) (maxDischargeDepth:=6) +contextual -implicitDefEqProofs only [amA M,amB,↓aj,↓ae,↓al,↓ak,Nat.reduceBEq,Nat.reduceAdd,env,ao,bA,amG,AV.cell,Nat.reduceMul,Nat.reduceLeDiff,hlv,Ed M hg hl,Nat.zero_le,hz,dZ,Bool.or_true,cut_app]
 |false=>
  have hz1:l.entries.l.length≠0:=by intro e;rw [e] at hz;cases hz
  obtain ⟨n,hn⟩:∃ n,n+1=l.entries.l.length:=⟨l.entries.l.length-1,by omega⟩
  have hwp:IntKind.i64.wrap ((l.entries.l.length:Int)-1)=(n:Int):=by have:=hl.entries.len;simp only [bE] at this;rw [← hn,ep (by omega) (by omega)];omega
  have hsl:=VC (row:=aK.row) (l:=l.entries.l) (tag:=l.entries.tag) (sz:=4) (n:=n) (by omega)
  have hlo:=VB hl n
  have a1:=fun H=>IN M hN hW hE hS hX hY hB hF hU hO hP hV hA hl hw H
  have a2:=fun H=>IN M hN hW hE hS hX hY hB hF hU hO hP hV hA hlo hw H
  have hst:l.row.set 3 (AV.slice Tag.full 4 (List.map aK.row (List.take n l.entries.l)))=(km l n).row:=rfl
  cases hk:eE l == 0 with
  |false=>
   have e1:Hi l w = .tuple [.slice .any 3 [],.int .u8 (eE l)]:=by simp [Hi,hk,sel]
   rw [e1] at a1
   have e2:∃ (r:List (List AV)) (c:Int),Hi (km l n) w = .tuple [.slice .any 3 r,.int .u8 c]:=by
    unfold Hi
    cases (!(eE (km l n) == 0))<;>cases (!(IG w))<;>exact ⟨_,_,rfl⟩
   obtain ⟨r,c,e2⟩:=e2
   rw [e2] at a2
   simp (maxSteps:=3000000) (maxDischargeDepth:=6) +contextual -implicitDefEqProofs only [amA M,amB,↓aj,↓ae,↓al,↓ak,Nat.reduceBEq,Nat.reduceAdd,env,ao,bA,amG,AV.cell,Nat.reduceMul,Nat.reduceLeDiff,hlv,Ed M hg hl,Nat.zero_le,hz,hwp,hsl,hst,a1,a2,hk,dZ,Bool.not_false,cut_app]
  |true=>
   have hk0:=eq_of_beq hk
   have hk2:=QR hk0 n
   cases hww:IG w with
   |false=>
    have e1:Hi l w = .tuple [.slice .any 3 [],.int .u8 1]:=by simp [Hi,hk,hww,sel]
    have e2:Hi (km l n) w = .tuple [.slice .any 3 [],.int .u8 1]:=by simp [Hi,hk2,hww,sel]
    rw [e1] at a1
    rw [e2] at a2
    simp (maxSteps:=3000000) (maxDischargeDepth:=6) +contextual -implicitDefEqProofs only [amA M,amB,↓aj,↓ae,↓al,↓ak,Nat.reduceBEq,Nat.reduceAdd,env,ao,bA,amG,AV.cell,Nat.reduceMul,Nat.reduceLeDiff,hlv,Ed M hg hl,Nat.zero_le,hz,hwp,hsl,hst,a1,a2,dZ,(show ((1:Int) == 0)=false from rfl),Bool.not_false,cut_app]
   |true=>
    have e1:Hi l w = .tuple [.slice .any 3 ((BQ l w).map aq.row),.int .u8 0]:=by simp [Hi,hk,hww,sel]
    have e2:Hi (km l n) w = .tuple [.slice .any 3 ((BQ (km l n) w).map aq.row),.int .u8 0]:=by simp [Hi,hk2,hww,sel]
    rw [e1] at a1
    rw [e2] at a2
    have hal:=PG hk0 w
    have hbl:=PG hk2 w
    have h1:=fun k He=>WJ M hSA (asq:=BQ l w) (bs:=BQ (km l n) w) (ta:=.any) (tb:=.any) (N:=(n:Int)) (by omega) (fun a ha=>by have:=Vz ha;simp only [bE];omega) (by omega) (H:=H++[.cells l.row az,.cells (km l n).row az]) (H0:=H) k (BQ l w).length 0 0 He (by omega) (by omega) (by rw [List.drop_zero,List.drop_zero];exact SG hn w)
    simp only [kv_cons,kv_nil,Int.ofNat_zero] at h1
    generalize BQ l w=asq at a1 h1
    generalize BQ (km l n) w=bs at a2 h1
    simp (maxSteps:=3000000) (maxDischargeDepth:=6) +contextual -implicitDefEqProofs only [amA M,amB,↓aj,↓ae,↓al,↓ak,Nat.reduceBEq,Nat.reduceAdd,env,ao,bA,amG,AV.cell,Nat.reduceMul,Nat.reduceLeDiff,hlv,Ed M hg hl,Nat.zero_le,hz,hwp,hsl,hst,a1,a2,h1,dZ,beq_self_eq_true,Bool.not_true,cut_app]
end
section
open Go.Sort Go.Proofs Go.Lib
abbrev Pr:=List UInt8×List UInt8
def Hm(x:Pr):List AV:=[.str x.1,.str x.2]
def CN(x:Pr):List Value:=[.string ⟨x.1.toArray⟩,.string ⟨x.2.toArray⟩]
def Lp(x y:Pr):Int:=Lib.compareBytes x.1 y.1
def tq(d:Array Pr):Array Pr:=pdq (ltOf Lp) d 0 d.size (Lib.bitLen d.size) true true
def Fo(l:List Pr):List Pr:=(tq l.toArray).toList
section
variable{P:Program}{G:Nat→Option (List AV)}{K:aJ}{H:List ab}{w:World}
theorem Inv.drewN(hi:Inv K H w):∀ n,Inv K H (w.drewN n)
 |0=>by rw [World.drewN_zero];exact hi
 |n+1=>(Inv.drewN hi n).drew
theorem Inv.grow(hi:Inv K H w)(os:Array Obj):Inv K H (Go.Sort.grow w os):=by
 obtain ⟨l,rfl⟩:∃ l:List Obj,os=l.toArray:=⟨os.toList,by simp⟩
 induction l generalizing w with
 |nil=>simpa using hi
 |cons o l ih=>
  have:=ih (hi.junk o)
  rw [alloc_eq_grow,grow_grow] at this
  simpa using this
theorem QT:∀ (x y rest:List AV),x.length=y.length→aO (x++rest) 0 y=y++rest:=by
 have key:∀ (y x pre rest:List AV),x.length=y.length→aO (pre++x++rest) pre.length y=pre++y++rest:=by
  intro y
  induction y with
  |nil=>intro x pre rest h;have:x=[]:=List.length_eq_zero_iff.1 h;subst this;simp [aO]
  |cons a y ih=>
   intro x pre rest h
   cases x with
   |nil=>cases h
   |cons b x=>
    rw [aO]
    have:=ih x (pre++[a]) rest (by simpa using h)
    simp only [List.length_append,List.length_cons,List.length_nil,List.append_assoc,List.cons_append,List.nil_append] at this ⊢
    rw [← this]
    congr 1
    simp
 intro x y rest h
 simpa using key y x [] rest h
theorem MY(l:List Pr):∀ (j:Nat),j<l.length*2→∃ s,(l.flatMap Hm)[j]?=some (.str s)∧(CN (l.toArray[j / 2]!))[j % 2]! = .string ⟨s.toArray⟩:=by
 induction l with
 |nil=>intro j h;simp at h
 |cons x l ih=>
  intro j h
  match j with
  |0=>exact ⟨x.1,rfl,rfl⟩
  |1=>exact ⟨x.2,rfl,rfl⟩
  |j+2=>
   obtain ⟨s,h1,h2⟩:=ih j (by simp at h;omega)
   refine ⟨s,by simpa [Hm] using h1, ?_⟩
   have e1:(j+2) / 2=j / 2+1:=by omega
   have e2:(j+2) % 2=j % 2:=by omega
   rw [e1,e2,← h2]
   simp
theorem kR(l:List Pr):(l.flatMap Hm).length=l.length*2:=by
 induction l with
 |nil=>rfl
 |cons x l ih=>simp [Hm,ih];omega
theorem PH{f g:FuncId}(ef:∀ args w,(callFunc f args).run P w = .ok (.enter f args) w)
  (hs:∀ (blk cap:Nat) (d:Array Pr) (w:World),HoldsK CN 2 w blk 0 d→blk<w.heap.size→d.size<4611686018427387904 →
   Calls P f #[.slice (some ⟨blk,0,none⟩) d.size cap,.func (.func g) #[] #[]] w fun e w'=>e = .returned (.tuple #[])∧∃ n os,w'=sortWorldK CN 2 w blk 0 n (tq d) os)
  (hz:∀ d:Array Pr,(tq d).size=d.size)
  {l:List Pr} (hl:l.length<4611686018427387904) {rest:List AV}{id:Nat}{room:Bool}{T:TypeId} (hid:H[id]?=some (.cells (l.flatMap Hm++rest) T)) :
  eS P G f [.rslice id 0 l.length 2 room,.fn (.func g) [] []] H fun r H'=>r = .ret (.tuple [])∧H'=H.set id (.cells ((Fo l).flatMap Hm++rest) T):=by
 intro K w cargs hg hi hv
 obtain ⟨c,d,rfl,hc,hd⟩:=tW hv
 cases hc with
 |rslice _ _ _ _ _ b cap hb hcap hro=>
 cases hd with
 |fn _ _ _ vs us h1 h2 hv1 hu1=>
 obtain rfl:vs = #[]:=Array.eq_empty_of_size_eq_zero h1.symm
 obtain rfl:us = #[]:=Array.eq_empty_of_size_eq_zero h2.symm
 obtain ⟨b',vs,T',g1,g2,g3,g4,g5,g6,g7,g8,g9⟩:=hi.obj id _ hid
 rw [hb] at g1;cases g1
 have hlen:l.length*2≤vs.size:=by
  rw [List.length_append,kR] at g4;omega
 have hH:HoldsK CN 2 w b 0 l.toArray:=by
  intro j hj
  rw [size_flatK] at hj
  simp only [List.size_toArray] at hj
  obtain ⟨s,e1,e2⟩:=MY l j hj
  have hav:=g5 j (.str s) (by rw [List.getElem?_append_left (by rw [kR];exact hj)];exact e1)
  have hlt:j<vs.size:=by omega
  refine ⟨?_,by simp [World.frozen?,g3]⟩
  rw [Nat.zero_add,cell_of_heap g3,Array.getElem?_eq_getElem hlt]
  rw [get_flatK _ _ _ _ (by simpa using hj),e2]
  have hgd:vs.getD j undef=vs[j]:=by simp [Array.getD,hlt]
  rw [hgd] at hav
  generalize vs[j]=v at hav
  cases hav
  rfl
 have hblk:b<w.heap.size:=(Array.getElem?_eq_some_iff.1 g3).1
 have hc:=hs b cap l.toArray w hH hblk (by simpa using hl)
 simp only [List.size_toArray] at hc
 refine .inl ⟨ef _ _,hc.mono ?_⟩
 rintro e w' ⟨rfl,n,os,rfl⟩
 have hz':(tq l.toArray).size=l.length:=by simpa using hz l.toArray
 have hsl:(Fo l).length=l.length:=by simpa [Fo] using hz'
 refine ⟨K,.ret (.tuple []),_,.refl K,(.tuple [] #[] rfl (by simp):V K _ _), ?_,rfl,rfl⟩
 have e1:putRowK CN 2 (Sort.ahead w n) b 0 (tq l.toArray)=(w.drewN n).setCells b 0 (flatK CN 2 (tq l.toArray)).toList:=by
  have:=putRow_eq_setCells (fun v:Value=>v) w b 0 (flatK CN 2 l.toArray) (flatK CN 2 (tq l.toArray)).toList n hH (by simp [hz'])
  simp only [Array.toArray_toList,List.map_id_fun,List.map_id] at this
  refine Eq.trans ?_ (this.trans ?_)
  ·rfl
  ·congr 1;exact List.map_id _
 unfold sortWorldK
 rw [e1]
 refine Inv.grow ?_ os
 have hi2:=hi.drewN n
 have:=Inv.stores hb ((Fo l).flatMap Hm) (flatK CN 2 (tq l.toArray)).toList 0 H (w.drewN n) (l.flatMap Hm++rest) T hi2 hid (by rw [kR,hsl];simp [hz']) (by rw [kR,hsl,List.length_append,kR];omega) (fun j av hj=>by
  have hj2:j<(Fo l).length*2:=by rw [← kR];exact (List.getElem?_eq_some_iff.1 hj).1
  obtain ⟨s,k1,k2⟩:=MY (Fo l) j hj2
  rw [hj] at k1;cases k1
  refine ⟨.string ⟨s.toArray⟩, ?_,.str s⟩
  have hj3:j<(tq l.toArray).size*2:=by rw [hz',← hsl];exact hj2
  have:(flatK CN 2 (tq l.toArray))[j]! = .string ⟨s.toArray⟩:=by
   rw [get_flatK _ _ _ _ hj3,← k2];simp [Fo]
  rw [Array.getElem?_toList,← this,getElem!_def]
  have hj4:j<(flatK CN 2 (tq l.toArray)).size:=by rw [size_flatK];exact hj3
  rw [Array.getElem?_eq_getElem hj4])
 rwa [QT _ _ _ (by rw [kR,kR,hsl])] at this
end
end
section
open Go.Sort Go.Proofs Go.Lib
def toP(x:au):Pr:=(x.name,x.value)
def ofP(p:Pr):au:=⟨p.1,p.2⟩
def Uu(l:List au):List au:=(Fo (l.map toP)).map ofP
theorem Rw(l:List au):bV l=(l.map toP).flatMap Hm:=by
 unfold bV
 induction l with
 |nil=>rfl
 |cons x l ih=>rw [List.map_cons,List.flatten_cons,ih];rfl
theorem VD(l:List Pr):bV (l.map ofP)=l.flatMap Hm:=by
 rw [Rw,List.map_map]
 congr 1
 exact List.map_id l
theorem Uv:∀ x y:List UInt8,decide (Lib.compareBytes x y<0)=Op.bytesLess x y
 |[],[]=>rfl
 |[],_::_=>rfl
 |_::_,[]=>rfl
 |a::x,b::y=>by
  rw [Lib.compareBytes,Op.bytesLess]
  by_cases h1:a<b
  ·simp [h1]
  ·by_cases h2:b<a
   ·have:¬ a=b:=fun e=>by subst e;exact h1 h2
    simp [h1,h2,this]
   ·have:a=b:=UInt8.le_antisymm (UInt8.not_lt.1 h2) (UInt8.not_lt.1 h1)
    subst this
    simp [h1,Uv x y]
theorem Rx(x y:Pr):ltOf Lp x y=Op.bytesLess x.1 y.1:=Uv x.1 y.1
theorem Xh:SWO (ltOf Lp) where
 irrefl x:=by rw [Rx];exact DS _
 trans x y z h1 h2:=by rw [Rx] at *;exact qx h1 h2
 ntrans x y z h1 h2:=by
  rw [Rx] at *
  cases h3:Op.bytesLess x.1 z.1 with
  |false=>rfl
  |true=>
   cases h4:Op.bytesLess y.1 x.1 with
   |true=>rw [qx h4 h3] at h2;cases h2
   |false=>rw [KI h1 h4] at h3;rw [h3] at h2;cases h2
theorem F4(d:Array Pr):PermIn 0 d.size d (tq d)∧SortedIn (ltOf Lp) 0 d.size (tq d):=
 pdq_sorts (ltOf Lp) Xh d 0 d.size (Lib.bitLen d.size) true true (Nat.zero_le _) (Nat.le_refl _) (Or.inl rfl)
theorem If(d:Array Pr):(tq d).size=d.size:=(F4 d).1.1
theorem Uw:Srt Uu:=by
 constructor
 ·intro l
  have h:=(F4 (l.map toP).toArray).1.2.2
  have hs:=If (l.map toP).toArray
  have e1:(tq (l.map toP).toArray).extract 0 (l.map toP).toArray.size=tq (l.map toP).toArray:=by rw [← hs];exact Array.extract_size
  have e2:(l.map toP).toArray.extract 0 (l.map toP).toArray.size=(l.map toP).toArray:=Array.extract_size
  rw [e1,e2] at h
  have h2:=h.map ofP
  have e3:(l.map toP).map ofP=l:=by rw [List.map_map];exact List.map_id l
  rwa [e3] at h2
 ·intro l
  have h:=(F4 (l.map toP).toArray).2
  have hs:=If (l.map toP).toArray
  unfold Wek Uu Fo
  rw [List.pairwise_iff_getElem]
  intro i j hi hj hij
  simp only [List.length_map,Array.length_toList] at hi hj
  have:=h i j (Nat.zero_le _) hij (by rw [← hs];exact hj)
  rw [Rx] at this
  simp only [List.getElem_map,Array.getElem_toList]
  rw [getElem!_pos _ i hi,getElem!_pos _ j hj] at this
  exact this
def PI:List AV→Option (List Pr)
 |[]=>some []
 |.str a :: .str b::r=>match PI r with
  |some l=>some ((a,b)::l)
  |none=>none
 |_=>none
theorem MZ:∀ l:List Pr,PI (l.flatMap Hm)=some l
 |[]=>rfl
 |x::l=>by
  show PI (.str x.1 :: .str x.2::l.flatMap Hm)=_
  rw [PI,MZ l]
theorem Ry:∀ {cs:List AV}{l:List Pr},PI cs=some l→cs=l.flatMap Hm
 |[],l,h=>by cases h;rfl
 |.str a :: .str b::r,l,h=>by
  rw [PI] at h
  split at h
  ·rename_i l' h'
   cases h
   rw [Ry h'];rfl
  ·cases h
def SI(fS gU:FuncId)(f:FuncId)(args:List AV)(H:List ab):Option Out:=
 match args with
 |[.rslice id 0 n 2 true,.fn (.func g) [] []]=>bif Nat.beq f fS&&Nat.beq g gU then (match H[id]? with
   |some (.cells cs T)=>match PI cs with
    |some l=>bif Nat.beq l.length n&&Nat.ble n 4000000000 then some (.ret (.tuple []),H.set id (.cells ((Fo l).flatMap Hm) T)) else none
    |none=>none
   |_=>none) else none
 |[.slice .full 2 [],.fn (.func g) [] []]=>bif Nat.beq f fS&&Nat.beq g gU then some (.ret (.tuple []),H) else none
 |_=>none
theorem VE{P:Program}{G:Nat→Option (List AV)}{fS gU:FuncId}(ef:∀ args w,(callFunc fS args).run P w = .ok (.enter fS args) w)
  (hs:∀ (blk cap:Nat) (d:Array Pr) (w:World),HoldsK CN 2 w blk 0 d→blk<w.heap.size→d.size<4611686018427387904 →
   Calls P fS #[.slice (some ⟨blk,0,none⟩) d.size cap,.func (.func gU) #[] #[]] w fun e w'=>e = .returned (.tuple #[])∧∃ n os,w'=sortWorldK CN 2 w blk 0 n (tq d) os)
  (h0:∀ (p:Option Addr) (cap:Nat) (fv:Value) (w:World),Calls P fS #[.slice p 0 cap,fv] w fun e w'=>e = .returned (.tuple #[])∧w'=w)
  {f:FuncId}{args:List AV}{H H':List ab}{r:vN} (h:SI fS gU f args H=some (r,H')):eS P G f args H fun r2 H2=>r2=r∧H2=H':=by
 unfold SI at h
 split at h
 ·rename_i id n g
  cases hb:(Nat.beq f fS&&Nat.beq g gU) with
  |false=>rw [hb] at h;cases h
  |true=>
   rw [hb,cond_true] at h
   simp only [Bool.and_eq_true] at hb
   obtain rfl:=Nat.eq_of_beq_eq_true hb.1
   obtain rfl:=Nat.eq_of_beq_eq_true hb.2
   split at h<;>try (cases h;done)
   rename_i cs T hx
   split at h<;>try (cases h;done)
   rename_i l hl
   cases hc:(Nat.beq l.length n&&Nat.ble n 4000000000) with
   |false=>rw [hc] at h;cases h
   |true=>
    rw [hc,cond_true] at h
    simp only [Bool.and_eq_true] at hc
    obtain rfl:=Nat.eq_of_beq_eq_true hc.1
    have hle:=Nat.le_of_ble_eq_true hc.2
    cases h
    obtain rfl:=Ry hl
    have:=PH (P:=P) (G:=G) ef hs If (l:=l) (by omega) (rest:=[]) (H:=H) (id:=id) (room:=true) (T:=T) (by rw [List.append_nil];exact hx)
    simpa using this
 ·rename_i g
  cases hb:(Nat.beq f fS&&Nat.beq g gU) with
  |false=>rw [hb] at h;cases h
  |true=>
   rw [hb,cond_true] at h
   simp only [Bool.and_eq_true] at hb
   obtain rfl:=Nat.eq_of_beq_eq_true hb.1
   cases h
   intro K w cargs hg hi hv
   obtain ⟨c,d,rfl,hc,hd⟩:=tW hv
   obtain ⟨p,rfl⟩:∃ p,c = .slice p 0 0:=by
    cases hc with
    |slice0 _ _ a _=>exact ⟨a,rfl⟩
    |slice _ _ _ b o cap vs hl him hvv hcap ht=>exact ⟨_,by have:cap=0:=ht;rw [this];rfl⟩
   refine .inl ⟨ef _ _,(h0 p 0 d w).mono ?_⟩
   rintro e w' ⟨rfl,rfl⟩
   exact ⟨K,.ret (.tuple []),H,.refl K,(.tuple [] #[] rfl (by simp):V K _ _),hi,rfl,rfl⟩
 ·cases h
end
section
open Go.ChangeShapes Go.WideShapes
structure jL (P:Program):Prop where
 u_string:P.underlying bu=some .string
 c_string:P.cellsOf bu=1
 f_Feat:fieldsOf P a7=some [(0,bu),(1,bu)]
 c_Feat:P.cellsOf a7=2
 u_sl_string:P.underlying rn=some (.slice bu)
 c_sl_string:P.cellsOf rn=1
 f_Trait:fieldsOf P iq=some [(0,bu),(1,rn)]
 c_Trait:P.cellsOf iq=2
 u_sl_Feat:P.underlying dB=some (.slice a7)
 c_sl_Feat:P.cellsOf dB=1
 u_int:P.underlying zT=some (.int .i64)
 c_int:P.cellsOf zT=1
 f_Slot:fieldsOf P bH=some [(0,zT),(1,bu),(2,bu),(3,dB)]
 c_Slot:P.cellsOf bH=4
 u_sl_Slot:P.underlying tO=some (.slice bH)
 c_sl_Slot:P.cellsOf tO=1
 f_Class:fieldsOf P cq=some [(0,bu),(1,tO)]
 c_Class:P.cellsOf cq=2
 f_Irreg:fieldsOf P eG=some [(0,zT),(1,bu)]
 c_Irreg:P.cellsOf eG=2
 u_sl_Irreg:P.underlying mH=some (.slice eG)
 c_sl_Irreg:P.cellsOf mH=1
 f_Entry:fieldsOf P dY=some [(0,bu),(1,bu),(2,dB),(3,mH)]
 c_Entry:P.cellsOf dY=4
 f_Spell:fieldsOf P eQ=some [(0,bu),(1,bu),(2,bu),(3,bu)]
 c_Spell:P.cellsOf eQ=4
 f_Link:fieldsOf P kY=some [(0,bu),(1,bu),(2,dB)]
 c_Link:P.cellsOf kY=3
 u_sl_Trait:P.underlying r7=some (.slice iq)
 c_sl_Trait:P.cellsOf r7=1
 u_sl_Class:P.underlying r8=some (.slice cq)
 c_sl_Class:P.cellsOf r8=1
 u_sl_Entry:P.underlying r9=some (.slice dY)
 c_sl_Entry:P.cellsOf r9=1
 u_sl_Spell:P.underlying sa=some (.slice eQ)
 c_sl_Spell:P.cellsOf sa=1
 u_sl_Link:P.underlying tN=some (.slice kY)
 c_sl_Link:P.cellsOf tN=1
 f_Lex:fieldsOf P az=some [(0,bu),(1,r7),(2,r8),(3,r9),(4,sa),(5,tN)]
 c_Lex:P.cellsOf az=6
 f_First:fieldsOf P dJ=some [(0,zT),(1,zT),(2,zT)]
 c_First:P.cellsOf dJ=3
 u_sl_First:P.underlying wb=some (.slice dJ)
 c_sl_First:P.cellsOf wb=1
 f_Analysis:fieldsOf P aI=some [(0,wb),(1,zT),(2,zT)]
 c_Analysis:P.cellsOf aI=3
 f_Ask:fieldsOf P pP=some [(0,bu),(1,bu),(2,dB),(3,zT),(4,zT)]
 c_Ask:P.cellsOf pP=5
section
variable{P:Program}{W:World}{G:Nat→Option (List AV)}
theorem SJ(h:jL P):nz P W G a7 au.row (au.ok 0):=
 jr h.f_Feat h.c_Feat (bI (fU h.u_string) h.c_string (bI (fU h.u_string) h.c_string (mB _))) (fun a=>⟨a.1,a.2.1⟩) (fun a=>rfl) (fun a ha=>⟨ha.1,ha.2.1⟩)
theorem Lq(h:jL P):nz P W G rn (fun s:Sl Str=>[.slice s.tag 1 (s.l.map kV)]) (fun s=>s.ok 0 fun s=>s.length≤bE):=
 kB h.u_sl_string h.c_string (by decide) (fun _=>rfl) (fU h.u_string)
theorem QU(h:jL P):nz P W G iq bF.row (bF.ok 0):=
 jr h.f_Trait h.c_Trait (bI (fU h.u_string) h.c_string (bI (Lq h) h.c_sl_string (mB _))) (fun a=>⟨a.1,a.2.1⟩) (fun a=>rfl) (fun a ha=>⟨ha.1,ha.2.1⟩)
theorem BS(h:jL P):nz P W G dB (fun s:Sl au=>[.slice s.tag 2 (s.l.map au.row)]) (fun s=>s.ok 0 (au.ok 0)):=
 kB h.u_sl_Feat h.c_Feat (by decide) (fun _=>by simp only [yp]) (SJ h)
theorem SK(h:jL P):nz P W G bH bB.row (bB.ok 0):=
 jr h.f_Slot h.c_Slot (bI (Mq h.u_int) h.c_int (bI (fU h.u_string) h.c_string (bI (fU h.u_string) h.c_string (bI (BS h) h.c_sl_Feat (mB _))))) (fun a=>⟨a.1,a.2.1,a.2.2.1,a.2.2.2.1⟩) (fun a=>rfl) (fun a ha=>⟨ha.1,ha.2.1,ha.2.2.1,ha.2.2.2.1⟩)
theorem NQ(h:jL P):nz P W G tO (fun s:Sl bB=>[.slice s.tag 4 (s.l.map bB.row)]) (fun s=>s.ok 0 (bB.ok 0)):=
 kB h.u_sl_Slot h.c_Slot (by decide) (fun _=>by simp only [o4]) (SK h)
theorem QV(h:jL P):nz P W G cq a8.row (a8.ok 0):=
 jr h.f_Class h.c_Class (bI (fU h.u_string) h.c_string (bI (NQ h) h.c_sl_Slot (mB _))) (fun a=>⟨a.1,a.2.1⟩) (fun a=>rfl) (fun a ha=>⟨ha.1,ha.2.1⟩)
theorem QW(h:jL P):nz P W G eG bW.row (bW.ok 0):=
 jr h.f_Irreg h.c_Irreg (bI (Mq h.u_int) h.c_int (bI (fU h.u_string) h.c_string (mB _))) (fun a=>⟨a.1,a.2.1⟩) (fun a=>rfl) (fun a ha=>⟨ha.1,ha.2.1⟩)
theorem LY(h:jL P):nz P W G mH (fun s:Sl bW=>[.slice s.tag 2 (s.l.map bW.row)]) (fun s=>s.ok 0 (bW.ok 0)):=
 kB h.u_sl_Irreg h.c_Irreg (by decide) (fun _=>by simp only [HF]) (QW h)
theorem QX(h:jL P):nz P W G dY aK.row (aK.ok 0):=
 jr h.f_Entry h.c_Entry (bI (fU h.u_string) h.c_string (bI (fU h.u_string) h.c_string (bI (BS h) h.c_sl_Feat (bI (LY h) h.c_sl_Irreg (mB _))))) (fun a=>⟨a.1,a.2.1,a.2.2.1,a.2.2.2.1⟩) (fun a=>rfl) (fun a ha=>⟨ha.1,ha.2.1,ha.2.2.1,ha.2.2.2.1⟩)
theorem QY(h:jL P):nz P W G eQ bz.row (bz.ok 0):=
 jr h.f_Spell h.c_Spell (bI (fU h.u_string) h.c_string (bI (fU h.u_string) h.c_string (bI (fU h.u_string) h.c_string (bI (fU h.u_string) h.c_string (mB _))))) (fun a=>⟨a.1,a.2.1,a.2.2.1,a.2.2.2.1⟩) (fun a=>rfl) (fun a ha=>⟨ha.1,ha.2.1,ha.2.2.1,ha.2.2.2.1⟩)
theorem SL(h:jL P):nz P W G kY dH.row (dH.ok 0):=
 jr h.f_Link h.c_Link (bI (fU h.u_string) h.c_string (bI (fU h.u_string) h.c_string (bI (BS h) h.c_sl_Feat (mB _)))) (fun a=>⟨a.1,a.2.1,a.2.2.1⟩) (fun a=>rfl) (fun a ha=>⟨ha.1,ha.2.1,ha.2.2.1⟩)
theorem LZ(h:jL P):nz P W G r7 (fun s:Sl bF=>[.slice s.tag 2 (s.l.map bF.row)]) (fun s=>s.ok 0 (bF.ok 0)):=
 kB h.u_sl_Trait h.c_Trait (by decide) (fun _=>by simp only [uC]) (QU h)
theorem L0(h:jL P):nz P W G r8 (fun s:Sl a8=>[.slice s.tag 2 (s.l.map a8.row)]) (fun s=>s.ok 0 (a8.ok 0)):=
 kB h.u_sl_Class h.c_Class (by decide) (fun _=>by simp only [ko]) (QV h)
theorem L3(h:jL P):nz P W G r9 (fun s:Sl aK=>[.slice s.tag 4 (s.l.map aK.row)]) (fun s=>s.ok 0 (aK.ok 0)):=
 kB h.u_sl_Entry h.c_Entry (by decide) (fun _=>by simp only [gS]) (QX h)
theorem L4(h:jL P):nz P W G sa (fun s:Sl bz=>[.slice s.tag 4 (s.l.map bz.row)]) (fun s=>s.ok 0 (bz.ok 0)):=
 kB h.u_sl_Spell h.c_Spell (by decide) (fun _=>by simp only [yA]) (QY h)
theorem NR(h:jL P):nz P W G tN (fun s:Sl dH=>[.slice s.tag 3 (s.l.map dH.row)]) (fun s=>s.ok 0 (dH.ok 0)):=
 kB h.u_sl_Link h.c_Link (by decide) (fun _=>by simp only [Fb]) (SL h)
theorem Ux(h:jL P):nz P W G az Lex.row (Lex.ok 0):=
 jr h.f_Lex h.c_Lex (bI (fU h.u_string) h.c_string (bI (LZ h) h.c_sl_Trait (bI (L0 h) h.c_sl_Class (bI (L3 h) h.c_sl_Entry (bI (L4 h) h.c_sl_Spell (bI (NR h) h.c_sl_Link (mB _))))))) (fun a=>⟨a.1,a.2.1,a.2.2.1,a.2.2.2.1,a.2.2.2.2.1,a.2.2.2.2.2.1⟩) (fun a=>rfl) (fun a ha=>⟨ha.1,ha.2.1,ha.2.2.1,ha.2.2.2.1,ha.2.2.2.2.1,ha.2.2.2.2.2.1⟩)
end
end
section
open Go.Shelf Go.RowKit Go.Lib Go.Sort Go.Proofs
def VF:Go.Shelf.Ren:=⟨fun | 6=>135 | 15=>176 | 14=>175 | 28=>199 | 29=>200 | 20=>191 | 21=>192 | 22=>193 | 23=>194 | 24=>195 | 25=>196 | 26=>197 | 27=>198 | 46=>214 | 47=>215 | 48=>216 | 49=>217 | 50=>218 | 57=>228 | n=>n,fun | 22=>45 | 24=>66 | 25=>202 | 3=>3 | 39=>234 | 0=>0 | 53=>251 | 55=>253 | 4=>4 | 46=>244 | 45=>243 | 50=>248 | 5=>5 | 9=>9 | 66=>263 | 70=>267 | 76=>279 | 77=>280 | n=>n,fun | n=>n⟩
theorem NS:Go.Proofs.SlLaysF0.n6 Tryz.prog VF where
 mixed:=by kernel_rfl
 f6:=⟨Tryz.f135.name,by kernel_rfl,Tryz.func135.trans (congrArg some (by kernel_rfl))⟩
 f14:=⟨Tryz.f175.name,by kernel_rfl,Tryz.func175.trans (congrArg some (by kernel_rfl))⟩
 f15:=Tryz.func176.trans (congrArg some (by kernel_rfl))
 f20:=⟨Tryz.f191.name,by kernel_rfl,Tryz.func191.trans (congrArg some (by kernel_rfl))⟩
 f21:=⟨Tryz.f192.name,by kernel_rfl,Tryz.func192.trans (congrArg some (by kernel_rfl))⟩
 f22:=⟨Tryz.f193.name,by kernel_rfl,Tryz.func193.trans (congrArg some (by kernel_rfl))⟩
 f23:=⟨Tryz.f194.name,by kernel_rfl,Tryz.func194.trans (congrArg some (by kernel_rfl))⟩
 f24:=⟨Tryz.f195.name,by kernel_rfl,Tryz.func195.trans (congrArg some (by kernel_rfl))⟩
 f25:=⟨Tryz.f196.name,by kernel_rfl,Tryz.func196.trans (congrArg some (by kernel_rfl))⟩
 f26:=⟨Tryz.f197.name,by kernel_rfl,Tryz.func197.trans (congrArg some (by kernel_rfl))⟩
 f27:=⟨Tryz.f198.name,by kernel_rfl,Tryz.func198.trans (congrArg some (by kernel_rfl))⟩
 f28:=Tryz.func199.trans (congrArg some (by kernel_rfl))
 f29:=Tryz.func200.trans (congrArg some (by kernel_rfl))
 f46:=⟨Tryz.f214.name,by kernel_rfl,Tryz.func214.trans (congrArg some (by kernel_rfl))⟩
 f47:=Tryz.func215.trans (congrArg some (by kernel_rfl))
 f48:=Tryz.func216.trans (congrArg some (by kernel_rfl))
 f49:=⟨Tryz.f217.name,by kernel_rfl,Tryz.func217.trans (congrArg some (by kernel_rfl))⟩
 f50:=⟨Tryz.f218.name,by kernel_rfl,Tryz.func218.trans (congrArg some (by kernel_rfl))⟩
 f57:=⟨Tryz.f228.name,by kernel_rfl,Tryz.func228.trans (congrArg some (by kernel_rfl))⟩
 t0:=Tryz.underlying0
 a0:=Tryz.isAgg0
 z0:=Tryz.sizeOf0
 v0:=Tryz.zeroValue0
 t3:=Tryz.underlying3
 a3:=Tryz.isAgg3
 z3:=Tryz.sizeOf3
 v3:=Tryz.zeroValue3
 t4:=Tryz.underlying4
 a4:=Tryz.isAgg4
 z4:=Tryz.sizeOf4
 v4:=Tryz.zeroValue4
 t5:=Tryz.underlying5
 a5:=Tryz.isAgg5
 z5:=Tryz.sizeOf5
 v5:=Tryz.zeroValue5
 t9:=Tryz.underlying9
 a9:=Tryz.isAgg9
 z9:=Tryz.sizeOf9
 v9:=Tryz.zeroValue9
 t22:=Tryz.underlying45
 a22:=Tryz.isAgg45
 z22:=Tryz.sizeOf45
 v22:=Tryz.zeroValue45
 t25:=Tryz.underlying202
 a25:=Tryz.isAgg202
 z25:=Tryz.sizeOf202
 v25:=Tryz.zeroValue202
 t39:=Tryz.underlying234
 a39:=Tryz.isAgg234
 z39:=Tryz.sizeOf234
 v39:=Tryz.zeroValue234
 t45:=Tryz.underlying243
 a45:=Tryz.isAgg243
 z45:=Tryz.sizeOf243
 v45:=Tryz.zeroValue243
 t46:=Tryz.underlying244
 a46:=Tryz.isAgg244
 z46:=Tryz.sizeOf244
 v46:=Tryz.zeroValue244
 t50:=Tryz.underlying248
 a50:=Tryz.isAgg248
 z50:=Tryz.sizeOf248
 v50:=Tryz.zeroValue248
 t53:=Tryz.underlying251
 a53:=Tryz.isAgg251
 z53:=Tryz.sizeOf251
 v53:=Tryz.zeroValue251
 t55:=Tryz.underlying253
 a55:=Tryz.isAgg253
 z55:=Tryz.sizeOf253
 v55:=Tryz.zeroValue253
 t66:=Tryz.underlying263
 a66:=Tryz.isAgg263
 z66:=Tryz.sizeOf263
 v66:=Tryz.zeroValue263
 t70:=Tryz.underlying267
 a70:=Tryz.isAgg267
 z70:=Tryz.sizeOf267
 v70:=Tryz.zeroValue267
 t76:=Tryz.underlying279
 a76:=Tryz.isAgg279
 z76:=Tryz.sizeOf279
 v76:=Tryz.zeroValue279
 t77:=Tryz.underlying280
 a77:=Tryz.isAgg280
 z77:=Tryz.sizeOf280
 v77:=Tryz.zeroValue280
set_option maxHeartbeats 2000000 in
theorem VG(a b:ByteArray)(w:World):Calls Tryz.prog 177 #[.string a,.string b] w fun e w'=>e = .returned (.int .i64 (Lib.compareBytes a.data.toList b.data.toList))∧w'=w:=by
 go_enter Tryz.func177,Tryz.ntmps177
 go_wp2
 rw [run_callFunc_extern Tryz.func201 (by kernel_rfl) (by kernel_rfl) (by kernel_rfl) (e:=Extern.BytealgCompare.compare) (by kernel_rfl),Lib.run_compareString]
 simp only [Result.andThen]
 rw [Oper.upon_value]
 go_wp2
 go_ret
 exact ⟨rfl,rfl⟩
set_option maxHeartbeats 2000000 in
theorem VH(a b:ByteArray)(w:World):Calls Tryz.prog 137 #[.string a,.string b] w fun e w'=>e = .returned (.int .i64 (Lib.compareBytes a.data.toList b.data.toList))∧w'=w:=by
 have hcon:=fun W'=>VG a b W'
 generalize Lib.compareBytes a.data.toList b.data.toList=r at hcon ⊢
 go_enter Tryz.func137,Tryz.ntmps137
 go_wp2_with (go_at_call 177;refine (hcon _).mono ?_;rintro e w' ⟨rfl,rfl⟩)
 go_ret
 exact ⟨rfl,rfl⟩
set_option maxHeartbeats 2000000 in
theorem SM(x y:Pr)(W:World):Calls Tryz.prog 136 #[.agg #[.string ⟨x.1.toArray⟩,.string ⟨x.2.toArray⟩],.agg #[.string ⟨y.1.toArray⟩,.string ⟨y.2.toArray⟩]] W fun e w'=>e = .returned (.int .i64 (Lp x y))∧∃ q os',w'=Go.Sort.grow (W.drewN q) os':=by
 have hcon:∀ W',Calls Tryz.prog 137 #[.string ⟨x.1.toArray⟩,.string ⟨y.1.toArray⟩] W' fun e w'=>e = .returned (.int .i64 (Lp x y))∧w'=W':=fun W'=>by
  have:=VH ⟨x.1.toArray⟩ ⟨y.1.toArray⟩ W'
  simpa [Lp] using this
 generalize Lp x y=r at hcon ⊢
 go_enter Tryz.func136,Tryz.ntmps136
 go_wp2_with (go_at_call 137;refine (hcon _).mono ?_;rintro e w' ⟨rfl,rfl⟩)
 go_ret
 exact ⟨rfl,0,_,by rw [alloc_eq_grow,alloc_eq_grow,grow_grow];rfl⟩
theorem Uy(blk off size:Nat)(w:World):CmpLays Tryz.prog 136 #[] CN 2 Lp blk off size w:=fun _ _ _ _ x y=>SM x y _
theorem PJ:∀ args w,(callFunc 135 args).run Tryz.prog w = .ok (.enter 135 args) w:=NS.f6.enters rfl
theorem QZ(blk cap:Nat)(d:Array Pr)(w:World)(hH:HoldsK CN 2 w blk 0 d)(hb:blk<w.heap.size)(hd:d.size<4611686018427387904) :
  Calls Tryz.prog 135 #[.slice (some ⟨blk,0,none⟩) d.size cap,.func (.func 136) #[] #[]] w fun e w'=>e = .returned (.tuple #[])∧∃ n os,w'=sortWorldK CN 2 w blk 0 n (tq d) os:=
 AnyQ.slices_SortFunc_eq NS 2 Tryz.isAgg66 Tryz.sizeOf66 CN (fun _=>rfl) (fun x v hv=>by simp [CN] at hv;rcases hv with rfl | rfl<;>rfl) Lp Xh 136 #[] blk 0 cap d w (enters_of Tryz.func136 (by kernel_rfl) rfl) (Uy blk 0 d.size w) hH hb hd
theorem SN(p:Option Addr)(cap:Nat)(fv:Value)(w:World):Calls Tryz.prog 135 #[.slice p 0 cap,fv] w fun e w'=>e = .returned (.tuple #[])∧w'=w:=AnyF.slices_SortFunc_none NS p cap fv w
end
section
open Go.Proofs
def WK(f:FuncId):Option AFn:=(bif Nat.blt f 98 then (bif Nat.blt f 51 then (bif Nat.blt f 28 then (bif Nat.blt f 14 then (bif Nat.blt f 9 then (bif Nat.blt f 5 then (bif Nat.blt f 4 then (bif Nat.beq f 3 then some bL else none) else (bif Nat.beq f 4 then some nB else none)) else (bif Nat.blt f 7 then (bif Nat.beq f 5 then some pa else none) else (bif Nat.beq f 7 then some aP else none))) else (bif Nat.blt f 11 then (bif Nat.blt f 10 then (bif Nat.beq f 9 then some kx else none) else (bif Nat.beq f 10 then some bD else none)) else (bif Nat.blt f 12 then (bif Nat.beq f 11 then some yL else none) else (bif Nat.blt f 13 then (bif Nat.beq f 12 then some tz else none) else (bif Nat.beq f 13 then some yM else none))))) else (bif Nat.blt f 23 then (bif Nat.blt f 16 then (bif Nat.blt f 15 then (bif Nat.beq f 14 then some jP else none) else (bif Nat.beq f 15 then some vm else none)) else (bif Nat.blt f 19 then (bif Nat.beq f 16 then some rp else none) else (bif Nat.blt f 21 then (bif Nat.beq f 19 then some oa else none) else (bif Nat.beq f 21 then some cM else none)))) else (bif Nat.blt f 25 then (bif Nat.blt f 24 then (bif Nat.beq f 23 then some kZ else none) else (bif Nat.beq f 24 then some mJ else none)) else (bif Nat.blt f 26 then (bif Nat.beq f 25 then some dc else none) else (bif Nat.blt f 27 then (bif Nat.beq f 26 then some mK else none) else (bif Nat.beq f 27 then some we else none)))))) else (bif Nat.blt f 37 then (bif Nat.blt f 32 then (bif Nat.blt f 30 then (bif Nat.blt f 29 then (bif Nat.beq f 28 then some fF else none) else (bif Nat.beq f 29 then some eU else none)) else (bif Nat.blt f 31 then (bif Nat.beq f 30 then some dv else none) else (bif Nat.beq f 31 then some fG else none))) else (bif Nat.blt f 34 then (bif Nat.blt f 33 then (bif Nat.beq f 32 then some b7 else none) else (bif Nat.beq f 33 then some tP else none)) else (bif Nat.blt f 35 then (bif Nat.beq f 34 then some bj else none) else (bif Nat.blt f 36 then (bif Nat.beq f 35 then some iB else none) else (bif Nat.beq f 36 then some b8 else none))))) else (bif Nat.blt f 43 then (bif Nat.blt f 39 then (bif Nat.blt f 38 then (bif Nat.beq f 37 then some pb else none) else (bif Nat.beq f 38 then some qe else none)) else (bif Nat.blt f 41 then (bif Nat.beq f 39 then some u9 else none) else (bif Nat.blt f 42 then (bif Nat.beq f 41 then some b9 else none) else (bif Nat.beq f 42 then some qS else none)))) else (bif Nat.blt f 45 then (bif Nat.blt f 44 then (bif Nat.beq f 43 then some mN else none) else (bif Nat.beq f 44 then some lM else none)) else (bif Nat.blt f 46 then (bif Nat.beq f 45 then some lN else none) else (bif Nat.blt f 47 then (bif Nat.beq f 46 then some oe else none) else (bif Nat.beq f 47 then some mO else none))))))) else (bif Nat.blt f 70 then (bif Nat.blt f 60 then (bif Nat.blt f 55 then (bif Nat.blt f 53 then (bif Nat.blt f 52 then (bif Nat.beq f 51 then some iH else none) else (bif Nat.beq f 52 then some cY else none)) else (bif Nat.blt f 54 then (bif Nat.beq f 53 then some ja else none) else (bif Nat.beq f 54 then some ct else none))) else (bif Nat.blt f 57 then (bif Nat.blt f 56 then (bif Nat.beq f 55 then some dw else none) else (bif Nat.beq f 56 then some jb else none)) else (bif Nat.blt f 58 then (bif Nat.beq f 57 then some cu else none) else (bif Nat.blt f 59 then (bif Nat.beq f 58 then some eW else none) else (bif Nat.beq f 59 then some jc else none))))) else (bif Nat.blt f 65 then (bif Nat.blt f 62 then (bif Nat.blt f 61 then (bif Nat.beq f 60 then some cw else none) else (bif Nat.beq f 61 then some dx else none)) else (bif Nat.blt f 63 then (bif Nat.beq f 62 then some jd else none) else (bif Nat.blt f 64 then (bif Nat.beq f 63 then some cA else none) else (bif Nat.beq f 64 then some eX else none)))) else (bif Nat.blt f 67 then (bif Nat.blt f 66 then (bif Nat.beq f 65 then some je else none) else (bif Nat.beq f 66 then some cO else none)) else (bif Nat.blt f 68 then (bif Nat.beq f 67 then some fp else none) else (bif Nat.blt f 69 then (bif Nat.beq f 68 then some eR else none) else (bif Nat.beq f 69 then some iK else none)))))) else (bif Nat.blt f 79 then (bif Nat.blt f 74 then (bif Nat.blt f 72 then (bif Nat.blt f 71 then (bif Nat.beq f 70 then some bP else none) else (bif Nat.beq f 71 then some eM else none)) else (bif Nat.blt f 73 then (bif Nat.beq f 72 then some fH else none) else (bif Nat.beq f 73 then some ez else none))) else (bif Nat.blt f 76 then (bif Nat.blt f 75 then (bif Nat.beq f 74 then some jf else none) else (bif Nat.beq f 75 then some cZ else none)) else (bif Nat.blt f 77 then (bif Nat.beq f 76 then some fq else none) else (bif Nat.blt f 78 then (bif Nat.beq f 77 then some nU else none) else (bif Nat.beq f 78 then some bM else none))))) else (bif Nat.blt f 93 then (bif Nat.blt f 81 then (bif Nat.blt f 80 then (bif Nat.beq f 79 then some aX else none) else (bif Nat.beq f 80 then some bJ else none)) else (bif Nat.blt f 82 then (bif Nat.beq f 81 then some qg else none) else (bif Nat.blt f 83 then (bif Nat.beq f 82 then some ov else none) else (bif Nat.beq f 83 then some pe else none)))) else (bif Nat.blt f 95 then (bif Nat.blt f 94 then (bif Nat.beq f 93 then some nb else none) else (bif Nat.beq f 94 then some pf else none)) else (bif Nat.blt f 96 then (bif Nat.beq f 95 then some ow else none) else (bif Nat.blt f 97 then (bif Nat.beq f 96 then some qT else none) else (bif Nat.beq f 97 then some oz else none)))))))) else (bif Nat.blt f 142 then (bif Nat.blt f 122 then (bif Nat.blt f 112 then (bif Nat.blt f 107 then (bif Nat.blt f 105 then (bif Nat.blt f 104 then (bif Nat.beq f 98 then some oA else none) else (bif Nat.beq f 104 then some gg else none)) else (bif Nat.blt f 106 then (bif Nat.beq f 105 then some iI else none) else (bif Nat.beq f 106 then some bb else none))) else (bif Nat.blt f 109 then (bif Nat.blt f 108 then (bif Nat.beq f 107 then some ec else none) else (bif Nat.beq f 108 then some bc else none)) else (bif Nat.blt f 110 then (bif Nat.beq f 109 then some ed else none) else (bif Nat.blt f 111 then (bif Nat.beq f 110 then some cP else none) else (bif Nat.beq f 111 then some ee else none))))) else (bif Nat.blt f 117 then (bif Nat.blt f 114 then (bif Nat.blt f 113 then (bif Nat.beq f 112 then some k8 else none) else (bif Nat.beq f 113 then some k9 else none)) else (bif Nat.blt f 115 then (bif Nat.beq f 114 then some bf else none) else (bif Nat.blt f 116 then (bif Nat.beq f 115 then some eg else none) else (bif Nat.beq f 116 then some bk else none)))) else (bif Nat.blt f 119 then (bif Nat.blt f 118 then (bif Nat.beq f 117 then some eh else none) else (bif Nat.beq f 118 then some lb else none)) else (bif Nat.blt f 120 then (bif Nat.beq f 119 then some aV else none) else (bif Nat.blt f 121 then (bif Nat.beq f 120 then some ei else none) else (bif Nat.beq f 121 then some jU else none)))))) else (bif Nat.blt f 131 then (bif Nat.blt f 126 then (bif Nat.blt f 124 then (bif Nat.blt f 123 then (bif Nat.beq f 122 then some jV else none) else (bif Nat.beq f 123 then some cr else none)) else (bif Nat.blt f 125 then (bif Nat.beq f 124 then some im else none) else (bif Nat.beq f 125 then some cQ else none))) else (bif Nat.blt f 128 then (bif Nat.blt f 127 then (bif Nat.beq f 126 then some dN else none) else (bif Nat.beq f 127 then some aS else none)) else (bif Nat.blt f 129 then (bif Nat.beq f 128 then some du else none) else (bif Nat.blt f 130 then (bif Nat.beq f 129 then some aT else none) else (bif Nat.beq f 130 then some hJ else none))))) else (bif Nat.blt f 137 then (bif Nat.blt f 133 then (bif Nat.blt f 132 then (bif Nat.beq f 131 then some c6 else none) else (bif Nat.beq f 132 then some c7 else none)) else (bif Nat.blt f 134 then (bif Nat.beq f 133 then some ek else none) else (bif Nat.blt f 136 then (bif Nat.beq f 134 then some cC else none) else (bif Nat.beq f 136 then some B4 else none)))) else (bif Nat.blt f 139 then (bif Nat.blt f 138 then (bif Nat.beq f 137 then some yq else none) else (bif Nat.beq f 138 then some aW else none)) else (bif Nat.blt f 140 then (bif Nat.beq f 139 then some se else none) else (bif Nat.blt f 141 then (bif Nat.beq f 140 then some nf else none) else (bif Nat.beq f 141 then some pg else none))))))) else (bif Nat.blt f 173 then (bif Nat.blt f 163 then (bif Nat.blt f 158 then (bif Nat.blt f 145 then (bif Nat.blt f 144 then (bif Nat.beq f 142 then some oF else none) else (bif Nat.beq f 144 then some ji else none)) else (bif Nat.blt f 157 then (bif Nat.beq f 145 then some jj else none) else (bif Nat.beq f 157 then some hQ else none))) else (bif Nat.blt f 160 then (bif Nat.blt f 159 then (bif Nat.beq f 158 then some iL else none) else (bif Nat.beq f 159 then some aU else none)) else (bif Nat.blt f 161 then (bif Nat.beq f 160 then some aY else none) else (bif Nat.blt f 162 then (bif Nat.beq f 161 then some jk else none) else (bif Nat.beq f 162 then some hT else none))))) else (bif Nat.blt f 168 then (bif Nat.blt f 165 then (bif Nat.blt f 164 then (bif Nat.beq f 163 then some aD else none) else (bif Nat.beq f 164 then some cN else none)) else (bif Nat.blt f 166 then (bif Nat.beq f 165 then some fQ else none) else (bif Nat.blt f 167 then (bif Nat.beq f 166 then some dy else none) else (bif Nat.beq f 167 then some c8 else none)))) else (bif Nat.blt f 170 then (bif Nat.blt f 169 then (bif Nat.beq f 168 then some cJ else none) else (bif Nat.beq f 169 then some c9 else none)) else (bif Nat.blt f 171 then (bif Nat.beq f 170 then some dR else none) else (bif Nat.blt f 172 then (bif Nat.beq f 171 then some eY else none) else (bif Nat.beq f 172 then some eB else none)))))) else (bif Nat.blt f 188 then (bif Nat.blt f 179 then (bif Nat.blt f 177 then (bif Nat.blt f 174 then (bif Nat.beq f 173 then some gQ else none) else (bif Nat.beq f 174 then some cX else none)) else (bif Nat.blt f 178 then (bif Nat.beq f 177 then some kJ else none) else (bif Nat.beq f 178 then some ll else none))) else (bif Nat.blt f 182 then (bif Nat.blt f 180 then (bif Nat.beq f 179 then some lV else none) else (bif Nat.beq f 180 then some ic else none)) else (bif Nat.blt f 186 then (bif Nat.beq f 182 then some cT else none) else (bif Nat.blt f 187 then (bif Nat.beq f 186 then some bX else none) else (bif Nat.beq f 187 then some eC else none))))) else (bif Nat.blt f 205 then (bif Nat.blt f 190 then (bif Nat.blt f 189 then (bif Nat.beq f 188 then some da else none) else (bif Nat.beq f 189 then some eD else none)) else (bif Nat.blt f 202 then (bif Nat.beq f 190 then some fJ else none) else (bif Nat.blt f 203 then (bif Nat.beq f 202 then some lW else none) else (bif Nat.beq f 203 then some bY else none)))) else (bif Nat.blt f 211 then (bif Nat.blt f 206 then (bif Nat.beq f 205 then some jY else none) else (bif Nat.beq f 206 then some eZ else none)) else (bif Nat.blt f 219 then (bif Nat.beq f 211 then some fR else none) else (bif Nat.blt f 221 then (bif Nat.beq f 219 then some lX else none) else (bif Nat.beq f 221 then some gR else none)))))))))
theorem ux:aa Tryz.prog G0 3 bL:=by unfold aa;kernel_rfl
theorem tc:aa Tryz.prog G0 4 nB:=by unfold aa;kernel_rfl
theorem uy:aa Tryz.prog G0 5 pa:=by unfold aa;kernel_rfl
theorem zh:aa Tryz.prog G0 7 aP:=by unfold aa;kernel_rfl
theorem F5:aa Tryz.prog G0 9 kx:=by unfold aa;kernel_rfl
theorem td:aa Tryz.prog G0 10 bD:=by unfold aa;kernel_rfl
theorem Ig:aa Tryz.prog G0 11 yL:=by unfold aa;kernel_rfl
theorem EV:aa Tryz.prog G0 12 tz:=by unfold aa;kernel_rfl
theorem Ih:aa Tryz.prog G0 13 yM:=by unfold aa;kernel_rfl
theorem EW:aa Tryz.prog G0 14 jP:=by unfold aa;kernel_rfl
theorem Jk:aa Tryz.prog G0 15 vm:=by unfold aa;kernel_rfl
theorem xa:aa Tryz.prog G0 16 rp:=by unfold aa;kernel_rfl
theorem zi:aa Tryz.prog G0 19 oa:=by unfold aa;kernel_rfl
theorem xb:aa Tryz.prog G0 21 cM:=by unfold aa;kernel_rfl
theorem Ii:aa Tryz.prog G0 23 kZ:=by unfold aa;kernel_rfl
theorem Jl:aa Tryz.prog G0 24 mJ:=by unfold aa;kernel_rfl
theorem vC:aa Tryz.prog G0 25 dc:=by unfold aa;kernel_rfl
theorem xR:aa Tryz.prog G0 26 mK:=by unfold aa;kernel_rfl
theorem Hn:aa Tryz.prog G0 27 we:=by unfold aa;kernel_rfl
theorem xS:aa Tryz.prog G0 28 fF:=by unfold aa;kernel_rfl
theorem zj:aa Tryz.prog G0 29 eU:=by unfold aa;kernel_rfl
theorem zk:aa Tryz.prog G0 30 dv:=by unfold aa;kernel_rfl
theorem xU:aa Tryz.prog G0 31 fG:=by unfold aa;kernel_rfl
theorem re:aa Tryz.prog G0 32 b7:=by unfold aa;kernel_rfl
theorem Ij:aa Tryz.prog G0 33 tP:=by unfold aa;kernel_rfl
theorem nv:aa Tryz.prog G0 34 bj:=by unfold aa;kernel_rfl
theorem CO:aa Tryz.prog G0 35 iB:=by unfold aa;kernel_rfl
theorem pn:aa Tryz.prog G0 36 b8:=by unfold aa;kernel_rfl
theorem AW:aa Tryz.prog G0 37 pb:=by unfold aa;kernel_rfl
theorem vD:aa Tryz.prog G0 38 qe:=by unfold aa;kernel_rfl
theorem BU:aa Tryz.prog G0 39 u9:=by unfold aa;kernel_rfl
theorem xc:aa Tryz.prog G0 41 b9:=by unfold aa;kernel_rfl
theorem CP:aa Tryz.prog G0 42 qS:=by unfold aa;kernel_rfl
theorem xV:aa Tryz.prog G0 43 mN:=by unfold aa;kernel_rfl
theorem xd:aa Tryz.prog G0 44 lM:=by unfold aa;kernel_rfl
theorem xf:aa Tryz.prog G0 45 lN:=by unfold aa;kernel_rfl
theorem zl:aa Tryz.prog G0 46 oe:=by unfold aa;kernel_rfl
theorem xW:aa Tryz.prog G0 47 mO:=by unfold aa;kernel_rfl
theorem Ik:aa Tryz.prog G0 51 iH:=by unfold aa;kernel_rfl
theorem xX:aa Tryz.prog G0 52 cY:=by unfold aa;kernel_rfl
theorem F6:aa Tryz.prog G0 53 ja:=by unfold aa;kernel_rfl
theorem xY:aa Tryz.prog G0 54 ct:=by unfold aa;kernel_rfl
theorem zm:aa Tryz.prog G0 55 dw:=by unfold aa;kernel_rfl
theorem F7:aa Tryz.prog G0 56 jb:=by unfold aa;kernel_rfl
theorem xZ:aa Tryz.prog G0 57 cu:=by unfold aa;kernel_rfl
theorem zn:aa Tryz.prog G0 58 eW:=by unfold aa;kernel_rfl
theorem F8:aa Tryz.prog G0 59 jc:=by unfold aa;kernel_rfl
theorem x3:aa Tryz.prog G0 60 cw:=by unfold aa;kernel_rfl
theorem zo:aa Tryz.prog G0 61 dx:=by unfold aa;kernel_rfl
theorem F9:aa Tryz.prog G0 62 jd:=by unfold aa;kernel_rfl
theorem x4:aa Tryz.prog G0 63 cA:=by unfold aa;kernel_rfl
theorem zp:aa Tryz.prog G0 64 eX:=by unfold aa;kernel_rfl
theorem Ga:aa Tryz.prog G0 65 je:=by unfold aa;kernel_rfl
theorem zq:aa Tryz.prog G0 66 cO:=by unfold aa;kernel_rfl
theorem AX:aa Tryz.prog G0 67 fp:=by unfold aa;kernel_rfl
theorem Lr:aa Tryz.prog G0 68 eR:=by unfold aa;kernel_rfl
theorem Ho:aa Tryz.prog G0 69 iK:=by unfold aa;kernel_rfl
theorem u5:aa Tryz.prog G0 70 bP:=by unfold aa;kernel_rfl
theorem EX:aa Tryz.prog G0 71 eM:=by unfold aa;kernel_rfl
theorem x5:aa Tryz.prog G0 72 fH:=by unfold aa;kernel_rfl
theorem x6:aa Tryz.prog G0 73 ez:=by unfold aa;kernel_rfl
theorem Gb:aa Tryz.prog G0 74 jf:=by unfold aa;kernel_rfl
theorem x7:aa Tryz.prog G0 75 cZ:=by unfold aa;kernel_rfl
theorem AY:aa Tryz.prog G0 76 fq:=by unfold aa;kernel_rfl
theorem Il:aa Tryz.prog G0 77 nU:=by unfold aa;kernel_rfl
theorem te:aa Tryz.prog G0 78 bM:=by unfold aa;kernel_rfl
theorem oX:aa Tryz.prog G0 79 aX:=by unfold aa;kernel_rfl
theorem qA:aa Tryz.prog G0 80 bJ:=by unfold aa;kernel_rfl
theorem vE:aa Tryz.prog G0 81 qg:=by unfold aa;kernel_rfl
theorem zr:aa Tryz.prog G0 82 ov:=by unfold aa;kernel_rfl
theorem AZ:aa Tryz.prog G0 83 pe:=by unfold aa;kernel_rfl
theorem x8:aa Tryz.prog G0 93 nb:=by unfold aa;kernel_rfl
theorem A1:aa Tryz.prog G0 94 pf:=by unfold aa;kernel_rfl
theorem zt:aa Tryz.prog G0 95 ow:=by unfold aa;kernel_rfl
theorem CQ:aa Tryz.prog G0 96 qT:=by unfold aa;kernel_rfl
theorem zu:aa Tryz.prog G0 97 oz:=by unfold aa;kernel_rfl
theorem zw:aa Tryz.prog G0 98 oA:=by unfold aa;kernel_rfl
theorem Hp:aa Tryz.prog G0 104 gg:=by unfold aa;kernel_rfl
theorem Jm:aa Tryz.prog G0 105 iI:=by unfold aa;kernel_rfl
theorem l6:aa Tryz.prog G0 106 bb:=by unfold aa;kernel_rfl
theorem xg:aa Tryz.prog G0 107 ec:=by unfold aa;kernel_rfl
theorem l7:aa Tryz.prog G0 108 bc:=by unfold aa;kernel_rfl
theorem xh:aa Tryz.prog G0 109 ed:=by unfold aa;kernel_rfl
theorem zx:aa Tryz.prog G0 110 cP:=by unfold aa;kernel_rfl
theorem xi:aa Tryz.prog G0 111 ee:=by unfold aa;kernel_rfl
theorem Im:aa Tryz.prog G0 112 k8:=by unfold aa;kernel_rfl
theorem Io:aa Tryz.prog G0 113 k9:=by unfold aa;kernel_rfl
theorem l8:aa Tryz.prog G0 114 bf:=by unfold aa;kernel_rfl
theorem xj:aa Tryz.prog G0 115 eg:=by unfold aa;kernel_rfl
theorem ny:aa Tryz.prog G0 116 bk:=by unfold aa;kernel_rfl
theorem xk:aa Tryz.prog G0 117 eh:=by unfold aa;kernel_rfl
theorem Ip:aa Tryz.prog G0 118 lb:=by unfold aa;kernel_rfl
theorem jM:aa Tryz.prog G0 119 aV:=by unfold aa;kernel_rfl
theorem xl:aa Tryz.prog G0 120 ei:=by unfold aa;kernel_rfl
theorem Hq:aa Tryz.prog G0 121 jU:=by unfold aa;kernel_rfl
theorem Hr:aa Tryz.prog G0 122 jV:=by unfold aa;kernel_rfl
theorem pE:aa Tryz.prog G0 123 cr:=by unfold aa;kernel_rfl
theorem BV:aa Tryz.prog G0 124 im:=by unfold aa;kernel_rfl
theorem zy:aa Tryz.prog G0 125 cQ:=by unfold aa;kernel_rfl
theorem vF:aa Tryz.prog G0 126 dN:=by unfold aa;kernel_rfl
theorem nP:aa Tryz.prog G0 127 aS:=by unfold aa;kernel_rfl
theorem uz:aa Tryz.prog G0 128 du:=by unfold aa;kernel_rfl
theorem nQ:aa Tryz.prog G0 129 aT:=by unfold aa;kernel_rfl
theorem D1:aa Tryz.prog G0 130 hJ:=by unfold aa;kernel_rfl
theorem tI:aa Tryz.prog G0 131 c6:=by unfold aa;kernel_rfl
theorem x9:aa Tryz.prog G0 132 c7:=by unfold aa;kernel_rfl
theorem D2:aa Tryz.prog G0 133 ek:=by unfold aa;kernel_rfl
theorem pX:aa Tryz.prog G0 134 cC:=by unfold aa;kernel_rfl
theorem Gc:aa Tryz.prog G0 136 B4:=by unfold aa;kernel_rfl
theorem D3:aa Tryz.prog G0 137 yq:=by unfold aa;kernel_rfl
theorem pF:aa Tryz.prog G0 138 aW:=by unfold aa;kernel_rfl
theorem ya:aa Tryz.prog G0 139 se:=by unfold aa;kernel_rfl
theorem yb:aa Tryz.prog G0 140 nf:=by unfold aa;kernel_rfl
theorem A2:aa Tryz.prog G0 141 pg:=by unfold aa;kernel_rfl
theorem zA:aa Tryz.prog G0 142 oF:=by unfold aa;kernel_rfl
theorem Gd:aa Tryz.prog G0 144 ji:=by unfold aa;kernel_rfl
theorem Ge:aa Tryz.prog G0 145 jj:=by unfold aa;kernel_rfl
theorem Hs:aa Tryz.prog G0 157 hQ:=by unfold aa;kernel_rfl
theorem Ht:aa Tryz.prog G0 158 iL:=by unfold aa;kernel_rfl
theorem nR:aa Tryz.prog G0 159 aU:=by unfold aa;kernel_rfl
theorem oY:aa Tryz.prog G0 160 aY:=by unfold aa;kernel_rfl
theorem Gf:aa Tryz.prog G0 161 jk:=by unfold aa;kernel_rfl
theorem D4:aa Tryz.prog G0 162 hT:=by unfold aa;kernel_rfl
theorem ke:aa Tryz.prog G0 163 aD:=by unfold aa;kernel_rfl
theorem qB:aa Tryz.prog G0 164 cN:=by unfold aa;kernel_rfl
theorem BW:aa Tryz.prog G0 165 fQ:=by unfold aa;kernel_rfl
theorem zB:aa Tryz.prog G0 166 dy:=by unfold aa;kernel_rfl
theorem yc:aa Tryz.prog G0 167 c8:=by unfold aa;kernel_rfl
theorem sU:aa Tryz.prog G0 168 cJ:=by unfold aa;kernel_rfl
theorem tJ:aa Tryz.prog G0 169 c9:=by unfold aa;kernel_rfl
theorem vG:aa Tryz.prog G0 170 dR:=by unfold aa;kernel_rfl
theorem zC:aa Tryz.prog G0 171 eY:=by unfold aa;kernel_rfl
theorem yd:aa Tryz.prog G0 172 eB:=by unfold aa;kernel_rfl
theorem pY:aa Tryz.prog G0 173 gQ:=by unfold aa;kernel_rfl
theorem rf:aa Tryz.prog G0 174 cX:=by unfold aa;kernel_rfl
theorem qC:aa Tryz.prog G0 177 kJ:=by unfold aa;kernel_rfl
theorem vH:aa Tryz.prog G0 178 ll:=by unfold aa;kernel_rfl
theorem xm:aa Tryz.prog G0 179 lV:=by unfold aa;kernel_rfl
theorem qD:aa Tryz.prog G0 180 ic:=by unfold aa;kernel_rfl
theorem th:aa Tryz.prog G0 182 cT:=by unfold aa;kernel_rfl
theorem qF:aa Tryz.prog G0 186 bX:=by unfold aa;kernel_rfl
theorem ye:aa Tryz.prog G0 187 eC:=by unfold aa;kernel_rfl
theorem tK:aa Tryz.prog G0 188 da:=by unfold aa;kernel_rfl
theorem yf:aa Tryz.prog G0 189 eD:=by unfold aa;kernel_rfl
theorem oN:aa Tryz.prog G0 190 fJ:=by unfold aa;kernel_rfl
theorem xn:aa Tryz.prog G0 202 lW:=by unfold aa;kernel_rfl
theorem qG:aa Tryz.prog G0 203 bY:=by unfold aa;kernel_rfl
theorem uA:aa Tryz.prog G0 205 jY:=by unfold aa;kernel_rfl
theorem mg:aa Tryz.prog G0 206 eZ:=by unfold aa;kernel_rfl
theorem BX:aa Tryz.prog G0 211 fR:=by unfold aa;kernel_rfl
theorem xo:aa Tryz.prog G0 219 lX:=by unfold aa;kernel_rfl
theorem pZ:aa Tryz.prog G0 221 gR:=by unfold aa;kernel_rfl
theorem VI:∀ f af,WK f=some af→aa Tryz.prog G0 f af:=fun f af h=>by
 unfold WK at h
 revert h
 exact (ah (ah (ah (ah (ah (ah (ah (ag (C:=_) ux) (ag (C:=_) tc)) (ah (ag (C:=_) uy) (ag (C:=_) zh))) (ah (ah (ag (C:=_) F5) (ag (C:=_) td)) (ah (ag (C:=_) Ig) (ah (ag (C:=_) EV) (ag (C:=_) Ih))))) (ah (ah (ah (ag (C:=_) EW) (ag (C:=_) Jk)) (ah (ag (C:=_) xa) (ah (ag (C:=_) zi) (ag (C:=_) xb)))) (ah (ah (ag (C:=_) Ii) (ag (C:=_) Jl)) (ah (ag (C:=_) vC) (ah (ag (C:=_) xR) (ag (C:=_) Hn)))))) (ah (ah (ah (ah (ag (C:=_) xS) (ag (C:=_) zj)) (ah (ag (C:=_) zk) (ag (C:=_) xU))) (ah (ah (ag (C:=_) re) (ag (C:=_) Ij)) (ah (ag (C:=_) nv) (ah (ag (C:=_) CO) (ag (C:=_) pn))))) (ah (ah (ah (ag (C:=_) AW) (ag (C:=_) vD)) (ah (ag (C:=_) BU) (ah (ag (C:=_) xc) (ag (C:=_) CP)))) (ah (ah (ag (C:=_) xV) (ag (C:=_) xd)) (ah (ag (C:=_) xf) (ah (ag (C:=_) zl) (ag (C:=_) xW))))))) (ah (ah (ah (ah (ah (ag (C:=_) Ik) (ag (C:=_) xX)) (ah (ag (C:=_) F6) (ag (C:=_) xY))) (ah (ah (ag (C:=_) zm) (ag (C:=_) F7)) (ah (ag (C:=_) xZ) (ah (ag (C:=_) zn) (ag (C:=_) F8))))) (ah (ah (ah (ag (C:=_) x3) (ag (C:=_) zo)) (ah (ag (C:=_) F9) (ah (ag (C:=_) x4) (ag (C:=_) zp)))) (ah (ah (ag (C:=_) Ga) (ag (C:=_) zq)) (ah (ag (C:=_) AX) (ah (ag (C:=_) Lr) (ag (C:=_) Ho)))))) (ah (ah (ah (ah (ag (C:=_) u5) (ag (C:=_) EX)) (ah (ag (C:=_) x5) (ag (C:=_) x6))) (ah (ah (ag (C:=_) Gb) (ag (C:=_) x7)) (ah (ag (C:=_) AY) (ah (ag (C:=_) Il) (ag (C:=_) te))))) (ah (ah (ah (ag (C:=_) oX) (ag (C:=_) qA)) (ah (ag (C:=_) vE) (ah (ag (C:=_) zr) (ag (C:=_) AZ)))) (ah (ah (ag (C:=_) x8) (ag (C:=_) A1)) (ah (ag (C:=_) zt) (ah (ag (C:=_) CQ) (ag (C:=_) zu)))))))) (ah (ah (ah (ah (ah (ah (ag (C:=_) zw) (ag (C:=_) Hp)) (ah (ag (C:=_) Jm) (ag (C:=_) l6))) (ah (ah (ag (C:=_) xg) (ag (C:=_) l7)) (ah (ag (C:=_) xh) (ah (ag (C:=_) zx) (ag (C:=_) xi))))) (ah (ah (ah (ag (C:=_) Im) (ag (C:=_) Io)) (ah (ag (C:=_) l8) (ah (ag (C:=_) xj) (ag (C:=_) ny)))) (ah (ah (ag (C:=_) xk) (ag (C:=_) Ip)) (ah (ag (C:=_) jM) (ah (ag (C:=_) xl) (ag (C:=_) Hq)))))) (ah (ah (ah (ah (ag (C:=_) Hr) (ag (C:=_) pE)) (ah (ag (C:=_) BV) (ag (C:=_) zy))) (ah (ah (ag (C:=_) vF) (ag (C:=_) nP)) (ah (ag (C:=_) uz) (ah (ag (C:=_) nQ) (ag (C:=_) D1))))) (ah (ah (ah (ag (C:=_) tI) (ag (C:=_) x9)) (ah (ag (C:=_) D2) (ah (ag (C:=_) pX) (ag (C:=_) Gc)))) (ah (ah (ag (C:=_) D3) (ag (C:=_) pF)) (ah (ag (C:=_) ya) (ah (ag (C:=_) yb) (ag (C:=_) A2))))))) (ah (ah (ah (ah (ah (ag (C:=_) zA) (ag (C:=_) Gd)) (ah (ag (C:=_) Ge) (ag (C:=_) Hs))) (ah (ah (ag (C:=_) Ht) (ag (C:=_) nR)) (ah (ag (C:=_) oY) (ah (ag (C:=_) Gf) (ag (C:=_) D4))))) (ah (ah (ah (ag (C:=_) ke) (ag (C:=_) qB)) (ah (ag (C:=_) BW) (ah (ag (C:=_) zB) (ag (C:=_) yc)))) (ah (ah (ag (C:=_) sU) (ag (C:=_) tJ)) (ah (ag (C:=_) vG) (ah (ag (C:=_) zC) (ag (C:=_) yd)))))) (ah (ah (ah (ah (ag (C:=_) pY) (ag (C:=_) rf)) (ah (ag (C:=_) qC) (ag (C:=_) vH))) (ah (ah (ag (C:=_) xm) (ag (C:=_) qD)) (ah (ag (C:=_) th) (ah (ag (C:=_) qF) (ag (C:=_) ye))))) (ah (ah (ah (ag (C:=_) tK) (ag (C:=_) yf)) (ah (ag (C:=_) oN) (ah (ag (C:=_) xn) (ag (C:=_) qG)))) (ah (ah (ag (C:=_) uA) (ag (C:=_) mg)) (ah (ag (C:=_) BX) (ah (ag (C:=_) xo) (ag (C:=_) pZ)))))))))
def WL(f:FuncId)(args:List AV)(H:List ab):Option Out:=
 match args with
 |[]=>bif Nat.beq f bn then some (.ret (.bool true),H) else none
 |args=>match SI bm gm f args H with
  |some r=>some r
  |none=>TD f args H
theorem VJ{f:FuncId}{args:List AV}{H H':List ab}{r:vN}(h:WL f args H=some (r,H')):eS Tryz.prog G0 f args H fun r2 H2=>r2=r∧H2=H':=by
 unfold WL at h
 split at h
 ·cases h1:Nat.beq f bn with
  |true=>rw [h1] at h;cases h;rw [Nat.eq_of_beq_eq_true h1];exact TF H
  |false=>rw [h1] at h;cases h
 ·split at h
  ·rename_i r' hr
   cases h
   exact VE PJ QZ SN hr
  ·exact Rf h
noncomputable def EN:bt := { P:=Tryz.prog,G:=G0,fn:=WK,orc:=WL,dfn:=fun _=>none }
theorem VZ:EN.Ok:=⟨Rg,fun f af h=>VI f af h,(fun _ _ _ h=>by cases h),(fun _ _ _ _ _ h=>by cases h),fun _ _ _ _ _ h=>VJ h⟩
theorem VK(M:cK cU EN):Fl M Uu:=by
 refine ⟨fun H => ?_,fun {l H id T} h0 hl hx => ?_,fun l => ?_⟩
 ·rw [Eb M rfl];rfl
 ·rw [Eb M rfl]
  have hd:PI (bV l)=some (l.map toP):=by rw [Rw];exact MZ _
  have hs:SI bm gm bm [.rslice id 0 l.length 2 true,.fn (.func gm) [] []] H=some (.ret (.tuple []),H.set id (.cells (bV (Uu l)) T)):=by
   have hb:∀ n:Nat,Nat.beq n n=true:=fun n=>by simp
   have hle:Nat.ble l.length 4000000000=true:=Nat.ble_eq_true_of_le hl
   unfold SI
   simp only [hb,Bool.and_self,cond_true,hx,hd,List.length_map,hle]
   rw [Uu,VD]
  show (match SI bm gm bm [.rslice id 0 l.length 2 true,.fn (.func gm) [] []] H with
   |some r=>some r
   |none=>TD bm [.rslice id 0 l.length 2 true,.fn (.func gm) [] []] H)=_
  rw [hs]
 ·simpa using (Uw.perm l).length_eq
end
end Go.Am
