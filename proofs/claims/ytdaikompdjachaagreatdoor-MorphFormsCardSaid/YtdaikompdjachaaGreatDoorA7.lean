import Derived.Test.YtdaikompdjachaaGreatDoorA6
import Derived.Test.YtdaikompdjachaaGreatDoorChecked
import Derived.Shelf.SlSortCmp.NoneTotal
import Derived.Laws.Externs
import Derived.KernelRfl
/-
  Part 7 of the tool: an abstract machine over the model, proved sound, and what it says of the functions that the law reaches. Condition: none but those that each theorem names.
-/
set_option linter.unusedVariables false
set_option linter.unusedSimpArgs false
set_option maxRecDepth 100000
set_option maxHeartbeats 4000000
namespace Go.Am
open Go.RowKit
section
attribute [local congr] aS eF bZ aT bC bk aU aI aJ bm bn
variable{E:bP}(M:dV ei E)
def RL(q:Int):Nat→bQ→Option AV:=fun _ f=>sel (f.slot == q) (some (.str f.word)) none
def Tu(l:List bQ)(q:Int):Option Str:=(l.find? fun f=>f.slot == q).map (·.word)
theorem HD(q:Int)(H:List ag)(x:Option Out):∀ (l:List bQ) (i:Nat),orE (bN (RL q) i l) H x=match Tu l q with
  |some w=>some (.ret (.str w),H)
  |none=>x
 |[],_=>rfl
 |f::l,i=>by
  rw [kH,show RL q i f=sel (f.slot == q) (some (.str f.word)) none from rfl,Gb,DN,C8,Ar,C9,HD q H x l]
  simp only [Tu,List.find?_cons]
  cases f.slot == q<;>rfl
def HE(o:Option (List Str)):Str:=
 match o with
 |none=>[]
 |some r=>sel (decide ((24:Int)<((uT (r.getLastD [])).length:Int))) [] (uT (r.getLastD []))
def zH(l:Lex)(x:aQ)(s:bD)(q:Int):Str:=
 match Tu x.forms.l q with
 |some w=>w
 |none=>HE (mw l x s)
theorem Kz(v:Str):∀ (l:List br) (o:List Str) (u:Str) (r:List Str),u.length≤1000→vx v (o++[u]) u l=some r→∃ r' u',r=r'++[u']∧u'.length≤1000∧r.length=o.length+1+l.length
 |[],o,u,r,hu,h=>by
  obtain rfl:=Option.some.inj h
  exact ⟨o,u,rfl,hu,by simp⟩
 |x::l,o,u,r,hu,h=>by
  rw [vx] at h
  cases hd:decide (((uC v x u).length:Int)≤512) with
  |false=>rw [hd] at h;simp [sel] at h
  |true=>
   rw [hd] at h
   obtain ⟨r',u',h1,h2,h3⟩:=Kz v l (o++[u]) (uC v x u) r (by have:=of_decide_eq_true hd;omega) h
   exact ⟨r',u',h1,h2,by rw [h3];simp;omega⟩
theorem Il{l:Lex}(hk:bK l=0){e q:Int}{x:aQ}{c:aV}{s:bD}(hA:At l e q x c s){r:List Str}(h:mw l x s=some r):∃ r' u',r=r'++[u']∧u'.length≤1000∧r.length≤100:=by
 unfold mw at h
 cases ho:IQ x.lem s with
 |none=>rw [ho] at h;cases h
 |some u=>
  rw [ho] at h
  have hul:u.length≤1000:=by
   have:=Ku (DX hA.ent.lem) hA.sok
   unfold IQ at ho
   revert ho
   cases decide ((x.lem.length:Int)<s.cut) with
   |true=>simp [sel]
   |false=>intro ho;rw [← Option.some.inj ho];omega
  obtain ⟨r',u',h1,h2,h3⟩:=Kz l.vowels l.spells.l [] u r hul h
  have:=rY hk
  exact ⟨r',u',h1,h2,by simp at h3;omega⟩
theorem mfl{H H0:List ag}{e q:Int}{x:aQ}{n0:Nat}(hx0:x.ok n0)(hn:n0≤H.length){p:Nat}(hpl:p<H.length)(hc:bU H0 H)(k:List Fra):∀ (n i:Nat),i+n=(x.forms.l).length →
  M.go dB H0 (.c iB :: .lp ⟨(some [1,2,3,20,21,22]),[],true⟩ iB H :: .blk 0 :: .c (.lv [1,2,3])::k) (kv [(1,.int .i64 e),(2,.int .i64 q),(3,.ptr p 0),(20,.slice x.forms.tag 2 (x.forms.l.map bQ.row)),(21,.int .i64 x.forms.l.length),(22,.int .i64 i)]) H =
   orE (bN (RL q) i (x.forms.l.drop i)) (H.take H0.length) (M.go dB H0 k (kv [(1,.int .i64 e),(2,.int .i64 q),(3,.ptr p 0)]) H)
 |0,i,h=>by
  have e:i=(x.forms.l).length:=by omega
  subst e
  rw [aq M iB.eq_1]
  simp (maxSteps:=3000000) (maxDischargeDepth:=6) +contextual -implicitDefEqProofs only [amA M,amB,↓ae,↓aa,↓aj,↓ah,Nat.reduceBEq,Nat.reduceAdd,env,ao,gA,Nat.lt_irrefl,List.drop_length]
 |n+1,i,h=>by
  have hi:i<(x.forms.l).length:=by omega
  have hx:(x.forms.l)[i]?=some (x.forms.l)[i]:=List.getElem?_eq_getElem hi
  have hd:((x.forms.l).drop i)=(x.forms.l)[i]::(x.forms.l).drop (i+1):=List.drop_eq_getElem_cons hi
  have hm:(x.forms.l)[i]∈(x.forms.l):=List.getElem_mem hi
  have ih:=mfl (H:=H) (H0:=H0) (e:=e) (q:=q) (x:=x) (n0:=n0) (hx0:=hx0) (hn:=hn) (p:=p) (hpl:=hpl) hc k n (i+1)  (by omega)
  simp only [kv_cons,kv_nil] at ih
  have w2:Wk H.length (.ptr p 0) (.ptr p 0):=wk_ptr hpl
  have w3:Wk H.length (.slice x.forms.tag 2 (x.forms.l.map bQ.row)) (.slice x.forms.tag 2 (x.forms.l.map bQ.row)):=(hx0.forms.mono hn (fun _ h=>h.mono hn)).wk (fun _ h=>h.wk)
  rw [aq M iB.eq_1]
  simp (maxSteps:=3000000) (maxDischargeDepth:=6) +contextual -implicitDefEqProofs only [amA M,amB,↓ae,↓aa,↓aj,↓ah,Nat.reduceBEq,Nat.reduceAdd,env,ao,gA,hx,hd,hi,ih,amG,AV.cell,w2,w3,bt hi hx0.forms.len,aC hi,Bt,hc,RL]
theorem GJ(r':List Str)(u':Str){t:Tag}(h:(r'++[u']).length≤100):Aj 1 (.slice t 1 ((r'++[u']).map dR)) (.int .i64 (IntKind.i64.wrap (((r'++[u']).length:Int)-1)))=some (.vptr 1 ((r'++[u']).map dR) r'.length 0):=by
 have e:IntKind.i64.wrap (((r'++[u']).length:Int)-1)=(r'.length:Int):=by
  simp only [List.length_append,List.length_cons,List.length_nil] at h ⊢
  rw [dx (by omega) (by omega)];omega
 rw [e]
 exact aC (by simp)
theorem GK(r':List Str)(u':Str):(r'++[u'])[r'.length]?=some u':=by simp
theorem MZ(r':List Str)(u':Str):(r'++[u']).getLastD []=u':=by simp
theorem OE(hN:bq E)(hW:WdE M)(hE:lH E)(hS:SpE E)(hX:sy M)(hY:Kx M)(hB:s4 E)(hF:qV E){l:Lex}(hl:l.ok 0)(hk:bK l=0){e q:Int}{x:aQ}{c:aV}{s:bD}(hA:At l e q x c s)(H:List ag) :
  M.run kW [.agg l.row,.int .i64 e,.int .i64 q] H=some (.ret (.str (zH l x s q)),H):=by
 rw [aK M hF.morph_language_form rfl (c:=pA) rfl,pA]
 have hx0:=hl.entries.all x (List.mem_of_getElem? hA.ex)
 have h1:=fun k=>mfl M (H:=H++[.cells l.row aM]) (H0:=H) (e:=e) (q:=q) hx0 (Nat.zero_le _) (p:=H.length) (by simp) (cut_app H _) k x.forms.l.length 0 (by omega)
 simp only [kv_cons,kv_nil,Int.ofNat_zero,List.drop_zero,HD] at h1
 have hsl:=fun H=>Oy M hW hE hF hl e q H
 simp only [hA.sl hk,Option.getD_some,Option.isSome_some] at hsl
 have hst:=fun H=>Mb M hN hS hX hB hF hl (Kk hk) hA (by have:=rY hk;omega) H
 have hsw:∀ n,WkL n s.row s.row:=fun n=>(((hl.classes.all c hA.cm).slots.all s (List.mem_of_getElem? hA.sx)).mono (Nat.zero_le n)).wk
 cases hi:Tu x.forms.l q with
 |some w=>
  have e1:zH l x s q=w:=by simp [zH,hi]
  rw [e1]
  simp only [hi] at h1
  simp (maxSteps:=3000000) (maxDischargeDepth:=6) +contextual -implicitDefEqProofs only [amA M,amB,↓ae,↓aa,↓aj,↓ah,Nat.reduceBEq,Nat.reduceAdd,env,ao,gA,amG,AV.cell,Nat.reduceMul,Nat.reduceLeDiff,h1,hA.ex,eE hA.e0 hA.el,bp,dc]
 |none=>
  have e1:zH l x s q=HE (mw l x s):=by simp [zH,hi]
  rw [e1]
  simp only [hi] at h1
  cases hr:mw l x s with
  |none=>
   simp only [hr,xQ,Option.getD_none,Option.isSome_none,List.map_nil] at hst
   simp (maxSteps:=3000000) (maxDischargeDepth:=6) +contextual -implicitDefEqProofs only [amA M,amB,↓ae,↓aa,↓aj,↓ah,Nat.reduceBEq,Nat.reduceAdd,env,ao,gA,amG,AV.cell,Nat.reduceMul,Nat.reduceLeDiff,h1,hsl,hst,hA.ex,eE hA.e0 hA.el,bp,dc,eU,HE]
  |some r=>
   obtain ⟨r',u',g1,g2,g3⟩:=Il hk hA hr
   subst g1
   simp only [hr,xQ,Option.getD_some,Option.isSome_some] at hst
   have hra:=fun H=>Ky M hN hF hS hX hY hB (s:=u') (by omega) H
   cases hd:decide ((24:Int)<((uT u').length:Int)) with
   |true=>
    have e2:HE (some (r'++[u']))=[]:=by simp only [HE,MZ,hd,sel]
    rw [e2]
    simp (maxSteps:=3000000) (maxDischargeDepth:=6) +contextual -implicitDefEqProofs only [amA M,amB,↓ae,↓aa,↓aj,↓ah,Nat.reduceBEq,Nat.reduceAdd,env,ao,gA,amG,AV.cell,Nat.reduceMul,Nat.reduceLeDiff,h1,hsl,hst,hra,hd,GJ r' u' g3,GK,hA.ex,eE hA.e0 hA.el,bp,dc,eU,KM]
   |false=>
    have e2:HE (some (r'++[u']))=uT u':=by simp only [HE,MZ,hd,sel]
    rw [e2]
    simp (maxSteps:=3000000) (maxDischargeDepth:=6) +contextual -implicitDefEqProofs only [amA M,amB,↓ae,↓aa,↓aj,↓ah,Nat.reduceBEq,Nat.reduceAdd,env,ao,gA,amG,AV.cell,Nat.reduceMul,Nat.reduceLeDiff,h1,hsl,hst,hra,hd,GJ r' u' g3,GK,hA.ex,eE hA.e0 hA.el,bp,dc,eU,KM]
end
section
attribute [local congr] aS eF bZ aT bC bk aU aI aJ bm bn
variable{E:bP}(M:dV ei E)
def we(l:Lex)(e q:Int):AV:=
 match nq l e q,uS l e with
 |some s,some x=>.tuple [.str (zH l x s q),.int .u8 (sel (zH l x s q == []) 7 0)]
 |_,_=>.tuple [.str [],.int .u8 (qG l e q)]
theorem Tv(hN:bq E)(hW:WdE M)(hE:lH E)(hS:SpE E)(hX:sy M)(hY:Kx M)(hB:s4 E)(hF:qV E){l:Lex}(hl:l.ok 0)(e q:Int)(H:List ag) :
  M.run wm [.agg l.row,.int .i64 e,.int .i64 q] H=some (.ret (we l e q),H):=by
 rw [aK M hF.morph_Form rfl (c:=Bx) rfl,Bx]
 have ha:=fun H=>HB M hN hW hE hF hl e q H
 by_cases hk:bK l=0
 ·cases hsl:slF l e q with
  |none=>
   have e1:vY l e q = .tuple [.agg EV.row,.agg vX.row,.int .u8 7]:=by simp [vY,nq,qG,hk,hsl,HA]
   have e2:we l e q = .tuple [.str [],.int .u8 7]:=by simp [we,nq,qG,hk,hsl]
   rw [e1] at ha;rw [e2]
   simp (maxSteps:=3000000) (maxDischargeDepth:=6) +contextual -implicitDefEqProofs only [amA M,amB,↓ae,↓aa,↓aj,↓ah,Nat.reduceBEq,Nat.reduceAdd,env,ao,wv,amG,AV.cell,Nat.reduceMul,Nat.reduceLeDiff,ha,b70,bp,eU,wk_tuple]
  |some s=>
   obtain ⟨x,c,hA⟩:=Ij hk hsl
   have e1:vY l e q = .tuple [.agg l.row,.agg s.row,.int .u8 0]:=by simp [vY,nq,qG,hk,hsl,HA]
   have e2:we l e q = .tuple [.str (zH l x s q),.int .u8 (sel (zH l x s q == []) 7 0)]:=by simp [we,nq,hk,hsl,hA.ent']
   have hf:=fun H=>OE M hN hW hE hS hX hY hB hF hl hk hA H
   rw [e1] at ha;rw [e2]
   cases hw:zH l x s q == [] with
   |true=>
    rw [eq_of_beq hw] at hf ⊢
    simp (maxSteps:=3000000) (maxDischargeDepth:=6) +contextual -implicitDefEqProofs only [amA M,amB,↓ae,↓aa,↓aj,↓ah,Nat.reduceBEq,Nat.reduceAdd,env,ao,wv,amG,AV.cell,Nat.reduceMul,Nat.reduceLeDiff,ha,hf,beq_self_eq_true,b70,b00,bp,eU,wk_tuple,sel]
   |false=>
    simp (maxSteps:=3000000) (maxDischargeDepth:=6) +contextual -implicitDefEqProofs only [amA M,amB,↓ae,↓aa,↓aj,↓ah,Nat.reduceBEq,Nat.reduceAdd,env,ao,wv,amG,AV.cell,Nat.reduceMul,Nat.reduceLeDiff,ha,hf,hw,b70,b00,bp,eU,wk_tuple,sel]
 ·have e0:(bK l == 0)=false:=by simpa using hk
  have e1:vY l e q = .tuple [.agg EV.row,.agg vX.row,.int .u8 (bK l)]:=by simp [vY,nq,qG,hk,HA]
  have e2:we l e q = .tuple [.str [],.int .u8 (bK l)]:=by simp [we,nq,qG,hk]
  rw [e1] at ha;rw [e2]
  simp (maxSteps:=3000000) (maxDischargeDepth:=6) +contextual -implicitDefEqProofs only [amA M,amB,↓ae,↓aa,↓aj,↓ah,Nat.reduceBEq,Nat.reduceAdd,env,ao,wv,amG,AV.cell,Nat.reduceMul,Nat.reduceLeDiff,ha,e0,bp,eU,wk_tuple]
theorem V2{H H0:List ag}{e q:Int}{x:aQ}{n0:Nat}(hx0:x.ok n0){p:Nat}(hc:bU H0 H)(k:List Fra):∀ (n i:Nat) (He:List ag),i+n=(x.forms.l).length →
  M.go dq H0 (.c iV :: .lp ⟨(some [1,2,3,9,10]),[],false⟩ iV He :: .blk 0 :: .c (.lv [1,2,3])::k) (kv [(1,.int .i64 e),(2,.int .i64 q),(3,.ptr p 0),(9,.slice x.forms.tag 2 (x.forms.l.map bQ.row)),(10,.int .i64 i)]) H =
   orE (bN (RL q) i (x.forms.l.drop i)) (H.take H0.length) (M.go dq H0 k (kv [(1,.int .i64 e),(2,.int .i64 q),(3,.ptr p 0)]) H)
 |0,i,He,h=>by
  have e:i=(x.forms.l).length:=by omega
  subst e
  rw [aq M iV.eq_1]
  simp (maxSteps:=3000000) (maxDischargeDepth:=6) +contextual -implicitDefEqProofs only [amA M,amB,↓ae,↓aa,↓aj,↓ah,Nat.reduceBEq,Nat.reduceAdd,env,ao,dt,Nat.lt_irrefl,List.drop_length]
 |n+1,i,He,h=>by
  have hi:i<(x.forms.l).length:=by omega
  have hx:(x.forms.l)[i]?=some (x.forms.l)[i]:=List.getElem?_eq_getElem hi
  have hd:((x.forms.l).drop i)=(x.forms.l)[i]::(x.forms.l).drop (i+1):=List.drop_eq_getElem_cons hi
  have hm:(x.forms.l)[i]∈(x.forms.l):=List.getElem_mem hi
  have ih:=fun He=>V2 (H:=H) (H0:=H0) (e:=e) (q:=q) (x:=x) (n0:=n0) (hx0:=hx0) (p:=p) hc k n (i+1)  He (by omega)
  simp only [kv_cons,kv_nil] at ih
  rw [aq M iV.eq_1]
  simp (maxSteps:=3000000) (maxDischargeDepth:=6) +contextual -implicitDefEqProofs only [amA M,amB,↓ae,↓aa,↓aj,↓ah,Nat.reduceBEq,Nat.reduceAdd,env,ao,dt,hx,hd,hi,ih,bt hi hx0.forms.len,aC hi,Bt,hc,RL]
theorem Vo{w:Str}(hw:w.length≤1000000){H H0:List ag}(k:List Fra):∀ (n i:Nat) (o:Str) (He:List ag),i+n=w.length→o.length≤i →
  M.go dq H0 (.c fU :: .lp ⟨(some [13,14,15]),[],false⟩ fU He :: .blk 2 :: .c (.lv [14])::k) (kv [(13,.str w),(14,.str o),(15,.int .i64 i)]) H=M.go dq H0 k (kv [(14,.str (o++uT (w.drop i)))]) H
 |0,i,o,He,h,ho=>by
  have e:i=w.length:=by omega
  subst e
  have e2:uT []=[]:=rfl
  rw [List.drop_length,e2,List.append_nil]
  rw [aq M fU.eq_1]
  simp (maxSteps:=3000000) (maxDischargeDepth:=6) +contextual -implicitDefEqProofs only [amA M,amB,↓ae,↓aa,↓aj,↓ah,Nat.reduceBEq,Nat.reduceAdd,env,ao,dt,Nat.lt_irrefl]
 |n+1,i,o,He,h,ho=>by
  have hi:i<w.length:=by omega
  have hx:w[i]?=some w[i]:=List.getElem?_eq_getElem hi
  have hd:w.drop i=w[i]::w.drop (i+1):=List.drop_eq_getElem_cons hi
  have q2:=GE (s:=w) (k:=.i64) (k':=.i64) (i:=i) (j:=i+1) (by omega) (by omega)
  rw [Nat.add_sub_cancel_left,hd] at q2
  simp only [List.take_succ_cons,List.take_zero] at q2
  have hb:∀ c:UInt8,((c.toNat:Int) == 43)=(c == 43):=fun c=>by
   rw [Bool.eq_iff_iff,beq_iff_eq,beq_iff_eq]
   refine ⟨fun h=>UInt8.toNat_inj.1 (by have:c.toNat=43:=by omega
                                        simpa using this),fun h=>by rw [h];rfl⟩
  rw [hd]
  generalize w[i]=c at hx q2
  cases hc:c == 43 with
  |true=>
   have e2:uT (c::w.drop (i+1))=uT (w.drop (i+1)):=by simp [uT,hc]
   have ih:=fun He=>Vo hw (H:=H) (H0:=H0) k n (i+1) o He (by omega) (by omega)
   simp only [kv_cons,kv_nil] at ih
   rw [e2]
   rw [aq M fU.eq_1]
   simp (maxSteps:=3000000) (maxDischargeDepth:=6) +contextual -implicitDefEqProofs only [amA M,amB,↓ae,↓aa,↓aj,↓ah,Nat.reduceBEq,Nat.reduceAdd,env,ao,dt,hi,hx,hb,hc,ih,bt hi (show w.length≤aZ by simp only [aZ];omega)]
  |false=>
   have e2:o++uT (c::w.drop (i+1))=(o++[c])++uT (w.drop (i+1)):=by simp [uT,hc]
   have ih:=fun He=>Vo hw (H:=H) (H0:=H0) k n (i+1) (o++[c]) He (by omega) (by simp;omega)
   simp only [kv_cons,kv_nil] at ih
   rw [e2]
   rw [aq M fU.eq_1]
   simp (maxSteps:=3000000) (maxDischargeDepth:=6) +contextual -implicitDefEqProofs only [amA M,amB,↓ae,↓aa,↓aj,↓ah,Nat.reduceBEq,Nat.reduceAdd,env,ao,dt,hi,hx,hb,hc,ih,q2,kE (s:=o) (t:=[c]) (by simp;omega),bt hi (show w.length≤aZ by simp only [aZ];omega)]
theorem Md(hN:bq E)(hR:sZ E)(hS:Er E)(hF:qV E){l:Lex}(hl:l.ok 0)(hk:bK l=0){e q:Int}{x:aQ}{c:aV}{s:bD}(hA:At l e q x c s)(H:List ag) :
  M.run jC [.agg l.row,.int .i64 e,.int .i64 q] H=some (.ret (.str (zH l x s q)),H):=by
 rw [aK M hF.truchmanref02_form rfl (c:=jH) rfl,jH]
 have hx0:=hl.entries.all x (List.mem_of_getElem? hA.ex)
 have h1:=fun k L He=>V2 M (H:=H++(.cells l.row au::L)) (H0:=H) (e:=e) (q:=q) hx0 (p:=H.length) (cut_app H _) k x.forms.l.length 0 He (by omega)
 simp only [kv_cons,kv_nil,Int.ofNat_zero,List.drop_zero,HD] at h1
 have hsl:=fun H=>A7 M hR hF hl hk e q H
 simp only [hA.sl hk,Option.getD_some,Option.isSome_some] at hsl
 have hst:=fun H=>Kw M hN hR hS hF hl hk hA H
 cases hi:Tu x.forms.l q with
 |some w=>
  have e1:zH l x s q=w:=by simp [zH,hi]
  rw [e1]
  simp only [hi] at h1
  simp (maxSteps:=3000000) (maxDischargeDepth:=6) +contextual -implicitDefEqProofs only [amA M,amB,↓ae,↓aa,↓aj,↓ah,Nat.reduceBEq,Nat.reduceAdd,env,ao,dt,amG,AV.cell,Nat.reduceMul,Nat.reduceLeDiff,h1,hsl,hA.ex,eE hA.e0 hA.el,bp,dc,eU]
 |none=>
  have e1:zH l x s q=HE (mw l x s):=by simp [zH,hi]
  rw [e1]
  simp only [hi] at h1
  cases hr:mw l x s with
  |none=>
   simp only [hr,xQ,Option.getD_none,Option.isSome_none,List.map_nil] at hst
   simp (maxSteps:=3000000) (maxDischargeDepth:=6) +contextual -implicitDefEqProofs only [amA M,amB,↓ae,↓aa,↓aj,↓ah,Nat.reduceBEq,Nat.reduceAdd,env,ao,dt,amG,AV.cell,Nat.reduceMul,Nat.reduceLeDiff,h1,hsl,hst,hA.ex,eE hA.e0 hA.el,bp,dc,eU,HE]
  |some r=>
   obtain ⟨r',u',g1,g2,g3⟩:=Il hk hA hr
   subst g1
   simp only [hr,xQ,Option.getD_some,Option.isSome_some] at hst
   have h2:=fun H0 H k He=>Vo M (w:=u') (by omega) (H:=H) (H0:=H0) k u'.length 0 [] He (by omega) (Nat.le_refl _)
   simp only [kv_cons,kv_nil,Int.ofNat_zero,List.drop_zero,List.nil_append] at h2
   cases hd:decide ((24:Int)<((uT u').length:Int)) with
   |true=>
    have e2:HE (some (r'++[u']))=[]:=by simp only [HE,MZ,hd,sel]
    rw [e2]
    simp (maxSteps:=3000000) (maxDischargeDepth:=6) +contextual -implicitDefEqProofs only [amA M,amB,↓ae,↓aa,↓aj,↓ah,Nat.reduceBEq,Nat.reduceAdd,env,ao,dt,amG,AV.cell,Nat.reduceMul,Nat.reduceLeDiff,h1,hsl,hst,h2,hd,GJ r' u' g3,GK,hA.ex,eE hA.e0 hA.el,bp,dc,eU,KM]
   |false=>
    have e2:HE (some (r'++[u']))=uT u':=by simp only [HE,MZ,hd,sel]
    rw [e2]
    simp (maxSteps:=3000000) (maxDischargeDepth:=6) +contextual -implicitDefEqProofs only [amA M,amB,↓ae,↓aa,↓aj,↓ah,Nat.reduceBEq,Nat.reduceAdd,env,ao,dt,amG,AV.cell,Nat.reduceMul,Nat.reduceLeDiff,h1,hsl,hst,h2,hd,GJ r' u' g3,GK,hA.ex,eE hA.e0 hA.el,bp,dc,eU,KM]
theorem P0(hR:sZ E)(hF:qV E){l:Lex}(hl:l.ok 0)(hk:bK l=0){e q:Int}(hs:slF l e q=none)(H:List ag) :
  M.run jC [.agg l.row,.int .i64 e,.int .i64 q] H=some (.ret (.str []),H):=by
 rw [aK M hF.truchmanref02_form rfl (c:=jH) rfl,jH]
 have ha':=fun H=>A7 M hR hF hl hk e q H
 simp only [hs,Option.getD_none,Option.isSome_none] at ha'
 simp (maxSteps:=3000000) (maxDischargeDepth:=6) +contextual -implicitDefEqProofs only [amA M,amB,↓ae,↓aa,↓aj,↓ah,Nat.reduceBEq,Nat.reduceAdd,env,ao,dt,amG,AV.cell,Nat.reduceMul,Nat.reduceLeDiff,ha',bp,eU,wk_tuple]
theorem RN(hN:bq E)(hR:sZ E)(hS:Er E)(hF:qV E){l:Lex}(hl:l.ok 0)(e q:Int)(H:List ag) :
  M.run qp [.agg l.row,.int .i64 e,.int .i64 q] H=some (.ret (we l e q),H):=by
 rw [aK M hF.truchmanref02_Form rfl (c:=qx) rfl,qx]
 by_cases hk:bK l=0
 ·have e0:(bK l == 0)=true:=by simpa using hk
  cases hsl:slF l e q with
  |none=>
   have e2:we l e q = .tuple [.str [],.int .u8 7]:=by simp [we,nq,qG,hk,hsl]
   have hst:=fun H=>P0 M hR hF hl hk hsl H
   rw [e2]
   simp (maxSteps:=3000000) (maxDischargeDepth:=6) +contextual -implicitDefEqProofs only [amA M,amB,↓ae,↓aa,↓aj,↓ah,Nat.reduceBEq,Nat.reduceAdd,env,ao,lT,amG,AV.cell,Nat.reduceMul,Nat.reduceLeDiff,hst,gX M hN hR hl,Nat.zero_le,e0,beq_self_eq_true,bp,wk_tuple]
  |some s=>
   obtain ⟨x,c,hA⟩:=Ij hk hsl
   have hf:=fun H=>Md M hN hR hS hF hl hk hA H
   have e2:we l e q = .tuple [.str (zH l x s q),.int .u8 (sel (zH l x s q == []) 7 0)]:=by simp [we,nq,hk,hsl,hA.ent']
   rw [e2]
   cases hw:zH l x s q == [] with
   |true=>
    rw [eq_of_beq hw] at hf ⊢
    simp (maxSteps:=3000000) (maxDischargeDepth:=6) +contextual -implicitDefEqProofs only [amA M,amB,↓ae,↓aa,↓aj,↓ah,Nat.reduceBEq,Nat.reduceAdd,env,ao,lT,amG,AV.cell,Nat.reduceMul,Nat.reduceLeDiff,hf,gX M hN hR hl,Nat.zero_le,e0,beq_self_eq_true,bp,wk_tuple,sel]
   |false=>
    simp (maxSteps:=3000000) (maxDischargeDepth:=6) +contextual -implicitDefEqProofs only [amA M,amB,↓ae,↓aa,↓aj,↓ah,Nat.reduceBEq,Nat.reduceAdd,env,ao,lT,amG,AV.cell,Nat.reduceMul,Nat.reduceLeDiff,hf,gX M hN hR hl,Nat.zero_le,e0,hw,bp,wk_tuple,sel]
 ·have e0:(bK l == 0)=false:=by simpa using hk
  have e2:we l e q = .tuple [.str [],.int .u8 (bK l)]:=by simp [we,nq,qG,hk]
  rw [e2]
  simp (maxSteps:=3000000) (maxDischargeDepth:=6) +contextual -implicitDefEqProofs only [amA M,amB,↓ae,↓aa,↓aj,↓ah,Nat.reduceBEq,Nat.reduceAdd,env,ao,lT,amG,AV.cell,Nat.reduceMul,Nat.reduceLeDiff,gX M hN hR hl,Nat.zero_le,e0,bp,wk_tuple]
end
section
attribute [local congr] aS eF bZ aT bC bk aU aI aJ bm bn
variable{E:bP}(M:dV ei E)
theorem UO{l:Lex}(hk:bK l=0){e:Int}(he:0≤e){x:aQ}(hx:l.entries.l[e.toNat]?=some x){c:aV}(hc:Ii l x c){i:Nat}{s:bD}(hs:c.slots.l[i]?=some s):At l e (i:Int) x c s:=by
 have hcm:c∈l.classes.l:=List.mem_of_find?_eq_some hc.cls
 exact ⟨he,by omega,(List.getElem?_eq_some_iff.1 hx).1,hx,hc,hcm,by simpa using (List.getElem?_eq_some_iff.1 hs).1,by simpa using hs,UN (QD hk hcm (List.mem_of_getElem? hs))⟩
def GL(l:Lex)(x:aQ):Nat→List bD→List Str
 |_,[]=>[]
 |i,s::t=>zH l x s i::GL l x (i+1) t
theorem RP(hW:WdE M)(hE:lH E)(hF:qV E){l:Lex}(hl:l.ok 0){e:Int}(he:0≤e){x:aQ}(hx:l.entries.l[e.toNat]?=some x){c:aV}(hc:Ii l x c)(H:List ag) :
  M.run nI [.agg l.row,.int .i64 e] H=some (.ret (.int .i64 c.slots.l.length),H):=by
 rw [aK M hF.morph_language_slots rfl (c:=nU) rfl,nU]
 have hcl:=fun H=>qR M hE hl hc.cls (H:=H) (Nat.zero_le _)
 have hw:=fun H T L=>MM hW (g:=fO) (first:=[]) (cap:=[]) (args:=[.agg l.row,.str x.cls]) (v:=.tuple [.agg c.row,.bool true]) hcl H T L
 simp (maxSteps:=3000000) (maxDischargeDepth:=6) +contextual -implicitDefEqProofs only [amA M,amB,↓ae,↓aa,↓aj,↓ah,Nat.reduceBEq,Nat.reduceAdd,env,ao,BB,amG,AV.cell,Nat.reduceMul,Nat.reduceLeDiff,hx,eE he (List.getElem?_eq_some_iff.1 hx).1,Aq hW,hcl,hw,bp,dc,gW]
theorem KA(hR:sZ E)(hF:qV E){l:Lex}(hl:l.ok 0){e:Int}(he:0≤e){x:aQ}(hx:l.entries.l[e.toNat]?=some x){c:aV}(hc:Ii l x c)(H:List ag) :
  M.run pg [.agg l.row,.int .i64 e] H=some (.ret (.int .i64 c.slots.l.length),H):=by
 rw [aK M hF.truchmanref02_Slots rfl (c:=pB) rfl,pB]
 have hcl:=fun H=>xN M hR hl x.cls H
 rcases oD (fun c:aV=>c.name == x.cls) l.classes.l 0 with ⟨h1,h2⟩ | ⟨j,c',h1,h2,h3⟩
 ·exact absurd (hc.cls.symm.trans h2) (by simp)
 obtain rfl:c=c':=Option.some.inj (hc.cls.symm.trans h3)
 rw [h1,Nat.zero_add] at hcl
 have hj:j<l.classes.l.length:=(List.getElem?_eq_some_iff.1 h2).1
 simp (maxSteps:=3000000) (maxDischargeDepth:=6) +contextual -implicitDefEqProofs only [amA M,amB,↓ae,↓aa,↓aj,↓ah,Nat.reduceBEq,Nat.reduceAdd,env,ao,Cm,amG,AV.cell,Nat.reduceMul,Nat.reduceLeDiff,hx,eE he (List.getElem?_eq_some_iff.1 hx).1,h2,aC hj,hcl,bp,dc,gW]
theorem fml(hN:bq E)(hW:WdE M)(hE:lH E)(hS:SpE E)(hX:sy M)(hY:Kx M)(hB:s4 E)(hF:qV E){l:Lex}(hl:l.ok 0)(hk:bK l=0){e:Int}(he:0≤e){x:aQ}(hx:l.entries.l[e.toNat]?=some x){c:aV}(hc:Ii l x c)
  {H H0:List ag}{p:Nat}{T:TypeId} (hp:H[p]?=some (.cells l.row T)) (k:List Fra):∀ (n i:Nat) (o:List Str) (He:List ag),i+n=c.slots.l.length→o.length+n≤1000→c.slots.l.length≤1000 →
  M.go kJ H0 (.c oJ :: .lp ⟨(some [1,7,8,28,29]),[(8,1,bb)],false⟩ oJ He :: .blk 0 :: .c (.lv [8])::k) (kv [(1,.int .i64 e),(7,.ptr p 0),(8,.slice (.own H.length) 1 (o.map dR)),(28,.int .i64 c.slots.l.length),(29,.int .i64 i)]) (H++[.tok (o.length*1) bb]) =
   M.go kJ H0 k (kv [(8,.slice (.own H.length) 1 ((o++GL l x i (c.slots.l.drop i)).map dR))]) (H++[.tok ((o++GL l x i (c.slots.l.drop i)).length*1) bb])
 |0,i,o,He,h,ho,hcl=>by
  have e:i=c.slots.l.length:=by omega
  subst e
  rw [List.drop_length,GL,List.append_nil]
  rw [aq M oJ.eq_1]
  simp (maxSteps:=3000000) (maxDischargeDepth:=6) +contextual -implicitDefEqProofs only [amA M,amB,↓ae,↓aa,↓aj,↓ah,Nat.reduceBEq,Nat.reduceAdd,env,ao,o5,Nat.lt_irrefl]
 |n+1,i,o,He,h,ho,hcl=>by
  have hi:i<c.slots.l.length:=by omega
  have hs:c.slots.l[i]?=some c.slots.l[i]:=List.getElem?_eq_getElem hi
  have hd:c.slots.l.drop i=c.slots.l[i]::c.slots.l.drop (i+1):=List.drop_eq_getElem_cons hi
  have hf:=fun H=>OE M hN hW hE hS hX hY hB hF hl hk (UO hk he hx hc hs) H
  have hp':=fun L=>cC (L:=L) hp
  rw [hd,GL]
  generalize zH l x c.slots.l[i] i=w at hf
  have ap:=Pe (row:=dR) (l:=o) (x:=w) (r:=[.str w]) (sz:=1) (bytes:=16) (e:=bb) H rfl rfl rfl (by omega) (by omega)
  have ih:=fun He=>fml hN hW hE hS hX hY hB hF hl hk he hx hc (H0:=H0) hp k n (i+1) (o++[w]) He (by omega) (by simp;omega) hcl
  simp only [kv_cons,kv_nil,List.append_assoc,List.cons_append,List.nil_append] at ih ⊢
  rw [aq M oJ.eq_1]
  simp (maxSteps:=3000000) (maxDischargeDepth:=6) +contextual -implicitDefEqProofs only [amA M,amB,↓ae,↓aa,↓aj,↓ah,Nat.reduceBEq,Nat.reduceAdd,env,ao,o5,amG,AV.cell,Nat.reduceMul,Nat.reduceLeDiff,hi,hf,hp',ap,ih,bp,bt hi (show c.slots.l.length≤aZ by simp only [aZ];omega)]
theorem V3(hN:bq E)(hR:sZ E)(hQ:Er E)(hF:qV E){l:Lex}(hl:l.ok 0)(hk:bK l=0){e:Int}(he:0≤e){x:aQ}(hx:l.entries.l[e.toNat]?=some x){c:aV}(hc:Ii l x c)
  {H H0:List ag}{p:Nat}{T:TypeId} (hp:H[p]?=some (.cells l.row T)) (k:List Fra):∀ (n i:Nat) (o:List Str) (He:List ag),i+n=c.slots.l.length→o.length+n≤1000→c.slots.l.length≤1000 →
  M.go ej H0 (.c iv :: .lp ⟨(some [1,2,7,8]),[(7,1,bb)],false⟩ iv He :: .blk 0 :: .c (.lv [7])::k) (kv [(1,.int .i64 e),(2,.ptr p 0),(7,.slice (.own H.length) 1 (o.map dR)),(8,.int .i64 i)]) (H++[.tok (o.length*1) bb]) =
   M.go ej H0 k (kv [(7,.slice (.own H.length) 1 ((o++GL l x i (c.slots.l.drop i)).map dR))]) (H++[.tok ((o++GL l x i (c.slots.l.drop i)).length*1) bb])
 |0,i,o,He,h,ho,hcl=>by
  have e:i=c.slots.l.length:=by omega
  subst e
  have hp':=fun L=>cC (L:=L) hp
  have hss:=fun H=>KA M hR hF hl he hx hc H
  rw [List.drop_length,GL,List.append_nil]
  rw [aq M iv.eq_1]
  simp (maxSteps:=3000000) (maxDischargeDepth:=6) +contextual -implicitDefEqProofs only [amA M,amB,↓ae,↓aa,↓aj,↓ah,Nat.reduceBEq,Nat.reduceAdd,env,ao,gz,Nat.lt_irrefl,hp',bp,hss]
 |n+1,i,o,He,h,ho,hcl=>by
  have hi:i<c.slots.l.length:=by omega
  have hs:c.slots.l[i]?=some c.slots.l[i]:=List.getElem?_eq_getElem hi
  have hd:c.slots.l.drop i=c.slots.l[i]::c.slots.l.drop (i+1):=List.drop_eq_getElem_cons hi
  have hf:=fun H=>Md M hN hR hQ hF hl hk (UO hk he hx hc hs) H
  have hp':=fun L=>cC (L:=L) hp
  have hss:=fun H=>KA M hR hF hl he hx hc H
  rw [hd,GL]
  generalize zH l x c.slots.l[i] i=w at hf
  have ap:=Pe (row:=dR) (l:=o) (x:=w) (r:=[.str w]) (sz:=1) (bytes:=16) (e:=bb) H rfl rfl rfl (by omega) (by omega)
  have ih:=fun He=>V3 hN hR hQ hF hl hk he hx hc (H0:=H0) hp k n (i+1) (o++[w]) He (by omega) (by simp;omega) hcl
  simp only [kv_cons,kv_nil,List.append_assoc,List.cons_append,List.nil_append] at ih ⊢
  rw [aq M iv.eq_1]
  simp (maxSteps:=3000000) (maxDischargeDepth:=6) +contextual -implicitDefEqProofs only [amA M,amB,↓ae,↓aa,↓aj,↓ah,Nat.reduceBEq,Nat.reduceAdd,env,ao,gz,amG,AV.cell,Nat.reduceMul,Nat.reduceLeDiff,hi,hf,hp',hss,ap,ih,bp,bt hi (show c.slots.l.length≤aZ by simp only [aZ];omega)]
theorem HF{l:Lex}(hk:bK l=0){x:aQ}{c:aV}(hc:Ii l x c):c.slots.l.length≤24:=by
 have hcm:c∈l.classes.l:=List.mem_of_find?_eq_some hc.cls
 obtain ⟨k,hk2⟩:=List.getElem?_of_mem hcm
 have h2:=(qS (DW hk).1).2 k c hk2
 unfold BP at h2
 have h3:=(kU (by decide) (kU (by decide) (kU (by decide) h2).2).2)
 have:=of_decide_eq_false (kU (by decide) (kU (by decide) (kU (by decide) h2).2).2).1
 omega
def nh(l:Lex)(e:Int):AV:=
 if bK l=0 then match uS l e with
  |some x=>match yU l x.cls with
   |some c=>.tuple [.slice .any 1 ((GL l x 0 c.slots.l).map dR),.int .u8 0]
   |none=>.tuple [.slice .any 1 [],.int .u8 7]
  |none=>.tuple [.slice .any 1 [],.int .u8 7]
 else .tuple [.slice .any 1 [],.int .u8 (bK l)]
theorem QI{l:Lex}{e:Int}(h:decide (e<0)=true):uS l e=none:=by simp [uS,of_decide_eq_true h]
theorem QJ{l:Lex}{e:Int}(h:decide (e<0)=false)(h2:decide ((l.entries.l.length:Int)≤e)=true):uS l e=none:=by
 have h0:¬ e<0:=of_decide_eq_false h
 have hrl:l.entries.l.length≤e.toNat:=by have:=of_decide_eq_true h2;omega
 simp [uS,h0,List.getElem?_eq_none hrl]
theorem RQ(hN:bq E)(hW:WdE M)(hE:lH E)(hS:SpE E)(hX:sy M)(hY:Kx M)(hB:s4 E)(hF:qV E){l:Lex}(hl:l.ok 0)(e:Int)(H:List ag) :
  M.run y9 [.agg l.row,.int .i64 e] H=some (.ret (nh l e),H):=by
 rw [aK M hF.morph_Forms rfl (c:=zk) rfl,zk]
 by_cases hk:bK l=0
 ·have e0:(bK l == 0)=true:=by simpa using hk
  cases hr1:decide (e<0) with
  |true=>
   have e2:nh l e = .tuple [.slice .any 1 [],.int .u8 7]:=by simp [nh,hk,QI hr1]
   rw [e2]
   simp (maxSteps:=3000000) (maxDischargeDepth:=6) +contextual -implicitDefEqProofs only [amA M,amB,↓ae,↓aa,↓aj,↓ah,Nat.reduceBEq,Nat.reduceAdd,env,ao,o5,amG,AV.cell,Nat.reduceMul,Nat.reduceLeDiff,uR M hN hE hl,Nat.zero_le,e0,hr1,bp,bV,wk_tuple]
  |false=>
   cases hr2:decide ((l.entries.l.length:Int)≤e) with
   |true=>
    have e2:nh l e = .tuple [.slice .any 1 [],.int .u8 7]:=by simp [nh,hk,QJ hr1 hr2]
    rw [e2]
    simp (maxSteps:=3000000) (maxDischargeDepth:=6) +contextual -implicitDefEqProofs only [amA M,amB,↓ae,↓aa,↓aj,↓ah,Nat.reduceBEq,Nat.reduceAdd,env,ao,o5,amG,AV.cell,Nat.reduceMul,Nat.reduceLeDiff,uR M hN hE hl,Nat.zero_le,e0,hr1,hr2,bp,bV,wk_tuple]
   |false=>
    have he:0≤e:=Int.not_lt.1 (of_decide_eq_false hr1)
    have hrl:e.toNat<l.entries.l.length:=by have:=of_decide_eq_false hr2;omega
    have hx:l.entries.l[e.toNat]?=some l.entries.l[e.toNat]:=List.getElem?_eq_getElem hrl
    generalize l.entries.l[e.toNat]=x at hx
    obtain ⟨c,hc⟩:=Kr hk hx
    have hsl:=HF hk hc
    have e3:uS l e=some x:=by simp [uS,of_decide_eq_false hr1,hx]
    have e2:nh l e = .tuple [.slice .any 1 ((GL l x 0 c.slots.l).map dR),.int .u8 0]:=by simp [nh,hk,e3,hc.cls]
    have hss:=fun H=>RP M hW hE hF hl he hx hc H
    have h1:=fun k He=>fml M hN hW hE hS hX hY hB hF hl hk he hx hc (H:=H++[.cells l.row au,.cells l.row aM]) (H0:=H) (p:=H.length+1) (T:=aM) (by rw [hp_getk];rfl) k c.slots.l.length 0 [] He (by omega) (by simp;omega) (by omega)
    simp only [kv_cons,kv_nil,Int.ofNat_zero,List.drop_zero,List.length_append,List.length_cons,List.length_nil,Nat.zero_add,Nat.reduceAdd,List.append_assoc,List.cons_append,List.nil_append,List.map_nil,Nat.zero_mul] at h1
    rw [e2]
    simp (maxSteps:=3000000) (maxDischargeDepth:=6) +contextual -implicitDefEqProofs only [amA M,amB,↓ae,↓aa,↓aj,↓ah,Nat.reduceBEq,Nat.reduceAdd,env,ao,o5,amG,AV.cell,Nat.reduceMul,Nat.reduceLeDiff,uR M hN hE hl,Nat.zero_le,e0,hr1,hr2,hss,h1,bp,HC,implies_true,cut_app,wk_tuple]
 ·have e0:(bK l == 0)=false:=by simpa using hk
  have e2:nh l e = .tuple [.slice .any 1 [],.int .u8 (bK l)]:=by simp [nh,hk]
  rw [e2]
  simp (maxSteps:=3000000) (maxDischargeDepth:=6) +contextual -implicitDefEqProofs only [amA M,amB,↓ae,↓aa,↓aj,↓ah,Nat.reduceBEq,Nat.reduceAdd,env,ao,o5,amG,AV.cell,Nat.reduceMul,Nat.reduceLeDiff,uR M hN hE hl,Nat.zero_le,e0,bp,bV,wk_tuple]
theorem P1(hN:bq E)(hR:sZ E)(hQ:Er E)(hF:qV E){l:Lex}(hl:l.ok 0)(e:Int)(H:List ag) :
  M.run pf [.agg l.row,.int .i64 e] H=some (.ret (nh l e),H):=by
 rw [aK M hF.truchmanref02_Forms rfl (c:=py) rfl,py]
 by_cases hk:bK l=0
 ·have e0:(bK l == 0)=true:=by simpa using hk
  cases hr1:decide (e<0) with
  |true=>
   have e2:nh l e = .tuple [.slice .any 1 [],.int .u8 7]:=by simp [nh,hk,QI hr1]
   rw [e2]
   simp (maxSteps:=3000000) (maxDischargeDepth:=6) +contextual -implicitDefEqProofs only [amA M,amB,↓ae,↓aa,↓aj,↓ah,Nat.reduceBEq,Nat.reduceAdd,env,ao,gz,amG,AV.cell,Nat.reduceMul,Nat.reduceLeDiff,gX M hN hR hl,Nat.zero_le,e0,hr1,bp,bV,wk_tuple]
  |false=>
   cases hr2:decide ((l.entries.l.length:Int)≤e) with
   |true=>
    have e2:nh l e = .tuple [.slice .any 1 [],.int .u8 7]:=by simp [nh,hk,QJ hr1 hr2]
    rw [e2]
    simp (maxSteps:=3000000) (maxDischargeDepth:=6) +contextual -implicitDefEqProofs only [amA M,amB,↓ae,↓aa,↓aj,↓ah,Nat.reduceBEq,Nat.reduceAdd,env,ao,gz,amG,AV.cell,Nat.reduceMul,Nat.reduceLeDiff,gX M hN hR hl,Nat.zero_le,e0,hr1,hr2,bp,bV,wk_tuple]
   |false=>
    have he:0≤e:=Int.not_lt.1 (of_decide_eq_false hr1)
    have hrl:e.toNat<l.entries.l.length:=by have:=of_decide_eq_false hr2;omega
    have hx:l.entries.l[e.toNat]?=some l.entries.l[e.toNat]:=List.getElem?_eq_getElem hrl
    generalize l.entries.l[e.toNat]=x at hx
    obtain ⟨c,hc⟩:=Kr hk hx
    have hsl:=HF hk hc
    have e3:uS l e=some x:=by simp [uS,of_decide_eq_false hr1,hx]
    have e2:nh l e = .tuple [.slice .any 1 ((GL l x 0 c.slots.l).map dR),.int .u8 0]:=by simp [nh,hk,e3,hc.cls]
    have h1:=fun k He=>V3 M hN hR hQ hF hl hk he hx hc (H:=H++[.cells l.row au]) (H0:=H) (p:=H.length) (T:=au) (by rw [cS];rfl) k c.slots.l.length 0 [] He (by omega) (by simp;omega) (by omega)
    simp only [kv_cons,kv_nil,Int.ofNat_zero,List.drop_zero,List.length_append,List.length_cons,List.length_nil,Nat.zero_add,Nat.reduceAdd,List.append_assoc,List.cons_append,List.nil_append,List.map_nil,Nat.zero_mul] at h1
    rw [e2]
    simp (maxSteps:=3000000) (maxDischargeDepth:=6) +contextual -implicitDefEqProofs only [amA M,amB,↓ae,↓aa,↓aj,↓ah,Nat.reduceBEq,Nat.reduceAdd,env,ao,gz,amG,AV.cell,Nat.reduceMul,Nat.reduceLeDiff,gX M hN hR hl,Nat.zero_le,e0,hr1,hr2,h1,bp,HC,implies_true,cut_app,wk_tuple]
 ·have e0:(bK l == 0)=false:=by simpa using hk
  have e2:nh l e = .tuple [.slice .any 1 [],.int .u8 (bK l)]:=by simp [nh,hk]
  rw [e2]
  simp (maxSteps:=3000000) (maxDischargeDepth:=6) +contextual -implicitDefEqProofs only [amA M,amB,↓ae,↓aa,↓aj,↓ah,Nat.reduceBEq,Nat.reduceAdd,env,ao,gz,amG,AV.cell,Nat.reduceMul,Nat.reduceLeDiff,gX M hN hR hl,Nat.zero_le,e0,bp,bV,wk_tuple]
theorem sms{H H0:List ag}{l:List Str}{ta tb:Tag}(hl:l.length≤aZ)(k:List Fra):∀ (n i:Nat) (He:List ag),i+n=l.length →
  M.go cE H0 (.c eJ :: .lp ⟨(some [0,1,5]),[],false⟩ eJ He :: .blk 0 :: .c (.lv [])::k) (kv [(0,.slice ta 1 (l.map dR)),(1,.slice tb 1 (l.map dR)),(5,.int .i64 i)]) H =
   (M.go cE H0 k .leaf H)
 |0,i,He,h=>by
  have e:i=l.length:=by omega
  subst e
  rw [aq M eJ.eq_1]
  simp (maxSteps:=3000000) (maxDischargeDepth:=6) +contextual -implicitDefEqProofs only [amA M,amB,↓ae,↓aa,↓aj,↓ah,Nat.reduceBEq,Nat.reduceAdd,env,ao,kA,Nat.lt_irrefl,List.drop_length]
 |n+1,i,He,h=>by
  have hi:i<l.length:=by omega
  have hx:l[i]?=some l[i]:=List.getElem?_eq_getElem hi
  have hd:(l.drop i)=l[i]::l.drop (i+1):=List.drop_eq_getElem_cons hi
  have hm:l[i]∈l:=List.getElem_mem hi
  have ih:=fun He=>sms (H:=H) (H0:=H0) (l:=l) (ta:=ta) (tb:=tb) (hl:=hl) k n (i+1)  He (by omega)
  simp only [kv_cons,kv_nil] at ih
  rw [aq M eJ.eq_1]
  simp (maxSteps:=3000000) (maxDischargeDepth:=6) +contextual -implicitDefEqProofs only [amA M,amB,↓ae,↓aa,↓aj,↓ah,Nat.reduceBEq,Nat.reduceAdd,env,ao,kA,hx,hd,hi,ih,aC hi,KM,beq_self_eq_true,bt hi hl]
theorem Cg(hF:qV E){l:List Str}{ta tb:Tag}(hl:l.length≤aZ)(H:List ag):M.run iN [.slice ta 1 (l.map dR),.slice tb 1 (l.map dR)] H=some (.ret (.bool true),H):=by
 rw [aK M hF.truchmanlaw02_SameStrings rfl (c:=kz) rfl,kz]
 have h1:=fun k He=>sms M (H:=H) (H0:=H) (ta:=ta) (tb:=tb) hl k l.length 0 He (by omega)
 simp only [kv_cons,kv_nil,Int.ofNat_zero,List.drop_zero] at h1
 simp (maxSteps:=3000000) (maxDischargeDepth:=6) +contextual -implicitDefEqProofs only [amA M,amB,↓ae,↓aa,↓aj,↓ah,Nat.reduceBEq,Nat.reduceAdd,env,ao,kA,h1,bne_self_eq_false,beq_self_eq_true]
theorem RR(l:Lex)(e q:Int):∃ (r:List aw) (c:Int),sA l e q = .tuple [.slice .any 2 (r.map aw.row),.int .u8 c]∧r.length≤aZ:=by
 refine ⟨BV l e q,qG l e q,rfl, ?_⟩
 unfold BV
 split
 ·rename_i s x hs hx
  by_cases hk:bK l=0
  ·have hs2:slF l e q=some s:=by simpa [nq,hk] using hs
   obtain ⟨x',c,hA⟩:=Ij hk hs2
   have:x=x':=Option.some.inj (hx.symm.trans hA.ent')
   subst this
   have hm:=hA.uni
   rw [vW,hA.ent.short.2,hA.sok.feats.2] at hm
   have hl:=DV _ _ _ _ (Nat.le_refl _) hm
   have h8:=hA.ent.short.1
   have h9:=hA.sok.feats.1
   simp only [aZ];omega
  ·simp [nq,hk] at hs
 ·simp [aZ]
theorem Me{v:Str}:∀ (l:List br) (o:List Str) (u:Str) (r:List Str),vx v o u l=some r→r.length=o.length+l.length
 |[],o,u,r,h=>by rw [← Option.some.inj h];rfl
 |x::l,o,u,r,h=>by
  rw [vx] at h
  cases hd:decide (((uC v x u).length:Int)≤512) with
  |false=>rw [hd] at h;cases h
  |true=>
   rw [hd] at h
   rw [Me l _ _ r h];simp;omega
theorem OF(l:Lex)(x:aQ):∀ (t:List bD) (i:Nat),(GL l x i t).length=t.length
 |[],_=>rfl
 |s::t,i=>by rw [GL,List.length_cons,OF l x t,List.length_cons]
theorem RT(l:Lex)(e:Int):∃ (r:List Str) (c:Int),nh l e = .tuple [.slice .any 1 (r.map dR),.int .u8 c]∧r.length≤aZ:=by
 unfold nh
 split
 ·rename_i hk
  split
  ·rename_i x hx
   split
   ·rename_i c hc
    refine ⟨_,0,rfl, ?_⟩
    unfold uS at hx
    split at hx
    ·cases hx
    ·obtain ⟨c',hc'⟩:=Kr hk hx
     have:=HF hk hc'
     obtain rfl:c=c':=Option.some.inj (hc.symm.trans hc'.cls)
     rw [OF];simp only [aZ];omega
   ·exact ⟨[],7,rfl,by simp⟩
  ·exact ⟨[],7,rfl,by simp⟩
 ·exact ⟨[],_,rfl,by simp⟩
theorem Tw(l:Lex)(e q:Int):∃ (w:Str) (c:Int),we l e q = .tuple [.str w,.int .u8 c]:=by
 unfold we
 split<;>exact ⟨_,_,rfl⟩
theorem RU{l:Lex}(e q:Int):∃ (r:List Str) (c:Int),ng l e q = .tuple [.slice .any 1 (r.map dR),.int .u8 c]∧r.length≤aZ:=by
 unfold ng
 split
 ·rename_i s x hs hx
  split
  ·rename_i r h
   refine ⟨r,0,rfl, ?_⟩
   by_cases hk:bK l=0
   ·have:=rY hk
    unfold mw at h
    split at h
    ·cases h
    ·rw [Me _ _ _ _ h];simp only [List.length_cons,List.length_nil,aZ];omega
   ·simp [nq,hk] at hs
  ·exact ⟨[],7,rfl,by simp⟩
 ·exact ⟨[],_,rfl,by simp⟩
theorem KB(hN:bq E)(hW:WdE M)(hE:lH E)(hR:sZ E)(hg:Fw E)(hS:SpE E)(hX:sy M)(hY:Kx M)(hB:s4 E)(hQ:Er E)(hF:qV E)(hU:Hy E){srt:List aw→List aw}(hO:Ow M srt)(hP:Srt srt)(h:E.fn kK=some er)
  {l:Lex} (hl:l.ok 0) (e q:Int) {H:List ag} (hlv:∀ H,M.run fg [] H=some (.ret (.bool true),H)) :
  M.run kK [.agg l.row,.int .i64 e,.int .i64 q] H=some (.ret (.bool true),H):=by
 rw [aK M h rfl (c:=kL) rfl,kL]
 have a1:=fun H=>RI M hN hW hE hF hU hO hP hl e q H
 have a2:=fun H=>PR M hN hR hF hl e q H
 have b1:=fun H=>RJ M hN hW hE hS hX hB hF hl e q H
 have b2:=fun H=>PU M hN hR hQ hF hl e q H
 have c1:=fun H=>Tv M hN hW hE hS hX hY hB hF hl e q H
 have c2:=fun H=>RN M hN hR hQ hF hl e q H
 have d1:=fun H=>RQ M hN hW hE hS hX hY hB hF hl e H
 have d2:=fun H=>P1 M hN hR hQ hF hl e H
 obtain ⟨ra,ca,ea,la⟩:=RR l e q
 obtain ⟨rb,cb,eb,lb⟩:=RU (l:=l) e q
 obtain ⟨wc,cc,ec⟩:=Tw l e q
 obtain ⟨rd,cd,ed,ld⟩:=RT l e
 simp only [ea,eb,ec,ed] at a1 a2 b1 b2 c1 c2 d1 d2
 have s1:=fun H=>K8 M hU (ta:=.any) (tb:=.any) la H
 have s2:=fun H=>Cg M hF (ta:=.any) (tb:=.any) lb H
 have s3:=fun H=>Cg M hF (ta:=.any) (tb:=.any) ld H
 simp (maxSteps:=3000000) (maxDischargeDepth:=6) +contextual -implicitDefEqProofs only [amA M,amB,↓ae,↓aa,↓aj,↓ah,Nat.reduceBEq,Nat.reduceAdd,env,ao,xc,amG,AV.cell,Nat.reduceMul,Nat.reduceLeDiff,hlv,Ry M hg hl,Nat.zero_le,a1,a2,b1,b2,c1,c2,d1,d2,s1,s2,s3,bp,beq_self_eq_true,cut_app]
end
section
open Go.ChangeShapes Go.WideShapes
structure kF (P:Program):Prop where
 u_string:P.underlying bb=some .string
 c_string:P.cellsOf bb=1
 f_Feat:fieldsOf P aR=some [(0,bb),(1,bb)]
 c_Feat:P.cellsOf aR=2
 u_sl_string:P.underlying yP=some (.slice bb)
 c_sl_string:P.cellsOf yP=1
 f_Trait:fieldsOf P gr=some [(0,bb),(1,yP)]
 c_Trait:P.cellsOf gr=2
 u_sl_Feat:P.underlying eZ=some (.slice aR)
 c_sl_Feat:P.cellsOf eZ=1
 u_int:P.underlying EF=some (.int .i64)
 c_int:P.cellsOf EF=1
 f_Slot:fieldsOf P cj=some [(0,EF),(1,bb),(2,bb),(3,eZ)]
 c_Slot:P.cellsOf cj=4
 u_sl_Slot:P.underlying u4=some (.slice cj)
 c_sl_Slot:P.cellsOf u4=1
 f_Class:fieldsOf P b5=some [(0,bb),(1,u4)]
 c_Class:P.cellsOf b5=2
 f_Irreg:fieldsOf P dQ=some [(0,EF),(1,bb)]
 c_Irreg:P.cellsOf dQ=2
 u_sl_Irreg:P.underlying nO=some (.slice dQ)
 c_sl_Irreg:P.cellsOf nO=1
 f_Entry:fieldsOf P b6=some [(0,bb),(1,bb),(2,eZ),(3,nO)]
 c_Entry:P.cellsOf b6=4
 f_Spell:fieldsOf P c7=some [(0,bb),(1,bb),(2,bb),(3,bb)]
 c_Spell:P.cellsOf c7=4
 f_Link:fieldsOf P qw=some [(0,bb),(1,bb),(2,eZ)]
 c_Link:P.cellsOf qw=3
 u_sl_Trait:P.underlying tn=some (.slice gr)
 c_sl_Trait:P.cellsOf tn=1
 u_sl_Class:P.underlying tp=some (.slice b5)
 c_sl_Class:P.cellsOf tp=1
 u_sl_Entry:P.underlying tq=some (.slice b6)
 c_sl_Entry:P.cellsOf tq=1
 u_sl_Spell:P.underlying tr=some (.slice c7)
 c_sl_Spell:P.cellsOf tr=1
 u_sl_Link:P.underlying u3=some (.slice qw)
 c_sl_Link:P.cellsOf u3=1
 f_Lex:fieldsOf P au=some [(0,bb),(1,tn),(2,tp),(3,tq),(4,tr),(5,u3)]
 c_Lex:P.cellsOf au=6
section
variable{P:Program}{W:World}{G:Nat→Option (List AV)}
theorem RV(h:kF P):oH P W G aR aw.row (aw.ok 0):=
 kj h.f_Feat h.c_Feat (bF (hJ h.u_string) h.c_string (bF (hJ h.u_string) h.c_string (nG _))) (fun a=>⟨a.1,a.2.1⟩) (fun a=>rfl) (fun a ha=>⟨ha.1,ha.2.1⟩)
theorem KC(h:kF P):oH P W G yP (fun s:Sl Str=>[.slice s.tag 1 (s.l.map dR)]) (fun s=>s.ok 0 fun s=>s.length≤aZ):=
 lN h.u_sl_string h.c_string (by decide) (fun _=>rfl) (hJ h.u_string)
theorem P2(h:kF P):oH P W G gr bA.row (bA.ok 0):=
 kj h.f_Trait h.c_Trait (bF (hJ h.u_string) h.c_string (bF (KC h) h.c_sl_string (nG _))) (fun a=>⟨a.1,a.2.1⟩) (fun a=>rfl) (fun a ha=>⟨ha.1,ha.2.1⟩)
theorem BW(h:kF P):oH P W G eZ (fun s:Sl aw=>[.slice s.tag 2 (s.l.map aw.row)]) (fun s=>s.ok 0 (aw.ok 0)):=
 lN h.u_sl_Feat h.c_Feat (by decide) (fun _=>by simp only [qn]) (RV h)
theorem RW(h:kF P):oH P W G cj bD.row (bD.ok 0):=
 kj h.f_Slot h.c_Slot (bF (DO h.u_int) h.c_int (bF (hJ h.u_string) h.c_string (bF (hJ h.u_string) h.c_string (bF (BW h) h.c_sl_Feat (nG _))))) (fun a=>⟨a.1,a.2.1,a.2.2.1,a.2.2.2.1⟩) (fun a=>rfl) (fun a ha=>⟨ha.1,ha.2.1,ha.2.2.1,ha.2.2.2.1⟩)
theorem M0(h:kF P):oH P W G u4 (fun s:Sl bD=>[.slice s.tag 4 (s.l.map bD.row)]) (fun s=>s.ok 0 (bD.ok 0)):=
 lN h.u_sl_Slot h.c_Slot (by decide) (fun _=>by simp only [eU]) (RW h)
theorem P3(h:kF P):oH P W G b5 aV.row (aV.ok 0):=
 kj h.f_Class h.c_Class (bF (hJ h.u_string) h.c_string (bF (M0 h) h.c_sl_Slot (nG _))) (fun a=>⟨a.1,a.2.1⟩) (fun a=>rfl) (fun a ha=>⟨ha.1,ha.2.1⟩)
theorem P4(h:kF P):oH P W G dQ bQ.row (bQ.ok 0):=
 kj h.f_Irreg h.c_Irreg (bF (DO h.u_int) h.c_int (bF (hJ h.u_string) h.c_string (nG _))) (fun a=>⟨a.1,a.2.1⟩) (fun a=>rfl) (fun a ha=>⟨ha.1,ha.2.1⟩)
theorem Lb(h:kF P):oH P W G nO (fun s:Sl bQ=>[.slice s.tag 2 (s.l.map bQ.row)]) (fun s=>s.ok 0 (bQ.ok 0)):=
 lN h.u_sl_Irreg h.c_Irreg (by decide) (fun _=>by simp only [Bt]) (P4 h)
theorem P5(h:kF P):oH P W G b6 aQ.row (aQ.ok 0):=
 kj h.f_Entry h.c_Entry (bF (hJ h.u_string) h.c_string (bF (hJ h.u_string) h.c_string (bF (BW h) h.c_sl_Feat (bF (Lb h) h.c_sl_Irreg (nG _))))) (fun a=>⟨a.1,a.2.1,a.2.2.1,a.2.2.2.1⟩) (fun a=>rfl) (fun a ha=>⟨ha.1,ha.2.1,ha.2.2.1,ha.2.2.2.1⟩)
theorem P6(h:kF P):oH P W G c7 br.row (br.ok 0):=
 kj h.f_Spell h.c_Spell (bF (hJ h.u_string) h.c_string (bF (hJ h.u_string) h.c_string (bF (hJ h.u_string) h.c_string (bF (hJ h.u_string) h.c_string (nG _))))) (fun a=>⟨a.1,a.2.1,a.2.2.1,a.2.2.2.1⟩) (fun a=>rfl) (fun a ha=>⟨ha.1,ha.2.1,ha.2.2.1,ha.2.2.2.1⟩)
theorem RY(h:kF P):oH P W G qw eI.row (eI.ok 0):=
 kj h.f_Link h.c_Link (bF (hJ h.u_string) h.c_string (bF (hJ h.u_string) h.c_string (bF (BW h) h.c_sl_Feat (nG _)))) (fun a=>⟨a.1,a.2.1,a.2.2.1⟩) (fun a=>rfl) (fun a ha=>⟨ha.1,ha.2.1,ha.2.2.1⟩)
theorem Lc(h:kF P):oH P W G tn (fun s:Sl bA=>[.slice s.tag 2 (s.l.map bA.row)]) (fun s=>s.ok 0 (bA.ok 0)):=
 lN h.u_sl_Trait h.c_Trait (by decide) (fun _=>by simp only [pa]) (P2 h)
theorem Ld(h:kF P):oH P W G tp (fun s:Sl aV=>[.slice s.tag 2 (s.l.map aV.row)]) (fun s=>s.ok 0 (aV.ok 0)):=
 lN h.u_sl_Class h.c_Class (by decide) (fun _=>by simp only [gW]) (P3 h)
theorem Lg(h:kF P):oH P W G tq (fun s:Sl aQ=>[.slice s.tag 4 (s.l.map aQ.row)]) (fun s=>s.ok 0 (aQ.ok 0)):=
 lN h.u_sl_Entry h.c_Entry (by decide) (fun _=>by simp only [dc]) (P5 h)
theorem Lh(h:kF P):oH P W G tr (fun s:Sl br=>[.slice s.tag 4 (s.l.map br.row)]) (fun s=>s.ok 0 (br.ok 0)):=
 lN h.u_sl_Spell h.c_Spell (by decide) (fun _=>by simp only [l9]) (P6 h)
theorem M1(h:kF P):oH P W G u3 (fun s:Sl eI=>[.slice s.tag 3 (s.l.map eI.row)]) (fun s=>s.ok 0 (eI.ok 0)):=
 lN h.u_sl_Link h.c_Link (by decide) (fun _=>by simp only [LG]) (RY h)
theorem Tx(h:kF P):oH P W G au Lex.row (Lex.ok 0):=
 kj h.f_Lex h.c_Lex (bF (hJ h.u_string) h.c_string (bF (Lc h) h.c_sl_Trait (bF (Ld h) h.c_sl_Class (bF (Lg h) h.c_sl_Entry (bF (Lh h) h.c_sl_Spell (bF (M1 h) h.c_sl_Link (nG _))))))) (fun a=>⟨a.1,a.2.1,a.2.2.1,a.2.2.2.1,a.2.2.2.2.1,a.2.2.2.2.2.1⟩) (fun a=>rfl) (fun a ha=>⟨ha.1,ha.2.1,ha.2.2.1,ha.2.2.2.1,ha.2.2.2.2.1,ha.2.2.2.2.2.1⟩)
end
end
section
open Go.Shelf Go.RowKit Go.Lib Go.Sort Go.Proofs
def Ut:Go.Shelf.Ren:=⟨fun | 6=>65 | 15=>117 | 14=>116 | 28=>174 | 29=>175 | 20=>166 | 21=>167 | 22=>168 | 23=>169 | 24=>170 | 25=>171 | 26=>172 | 27=>173 | 46=>193 | 47=>194 | 48=>195 | 49=>196 | 50=>197 | 57=>208 | n=>n,fun | 22=>22 | 24=>60 | 25=>114 | 3=>3 | 39=>173 | 0=>0 | 53=>217 | 55=>219 | 4=>4 | 46=>210 | 45=>209 | 50=>214 | 5=>5 | 9=>9 | 66=>233 | 70=>237 | 76=>240 | 77=>241 | n=>n,fun | n=>n⟩
theorem M3:Go.Proofs.SlLaysF0.n6 Tryz.prog Ut where
 mixed:=by kernel_rfl
 f6:=⟨Tryz.f65.name,by kernel_rfl,Tryz.func65.trans (congrArg some (by kernel_rfl))⟩
 f14:=⟨Tryz.f116.name,by kernel_rfl,Tryz.func116.trans (congrArg some (by kernel_rfl))⟩
 f15:=Tryz.func117.trans (congrArg some (by kernel_rfl))
 f20:=⟨Tryz.f166.name,by kernel_rfl,Tryz.func166.trans (congrArg some (by kernel_rfl))⟩
 f21:=⟨Tryz.f167.name,by kernel_rfl,Tryz.func167.trans (congrArg some (by kernel_rfl))⟩
 f22:=⟨Tryz.f168.name,by kernel_rfl,Tryz.func168.trans (congrArg some (by kernel_rfl))⟩
 f23:=⟨Tryz.f169.name,by kernel_rfl,Tryz.func169.trans (congrArg some (by kernel_rfl))⟩
 f24:=⟨Tryz.f170.name,by kernel_rfl,Tryz.func170.trans (congrArg some (by kernel_rfl))⟩
 f25:=⟨Tryz.f171.name,by kernel_rfl,Tryz.func171.trans (congrArg some (by kernel_rfl))⟩
 f26:=⟨Tryz.f172.name,by kernel_rfl,Tryz.func172.trans (congrArg some (by kernel_rfl))⟩
 f27:=⟨Tryz.f173.name,by kernel_rfl,Tryz.func173.trans (congrArg some (by kernel_rfl))⟩
 f28:=Tryz.func174.trans (congrArg some (by kernel_rfl))
 f29:=Tryz.func175.trans (congrArg some (by kernel_rfl))
 f46:=⟨Tryz.f193.name,by kernel_rfl,Tryz.func193.trans (congrArg some (by kernel_rfl))⟩
 f47:=Tryz.func194.trans (congrArg some (by kernel_rfl))
 f48:=Tryz.func195.trans (congrArg some (by kernel_rfl))
 f49:=⟨Tryz.f196.name,by kernel_rfl,Tryz.func196.trans (congrArg some (by kernel_rfl))⟩
 f50:=⟨Tryz.f197.name,by kernel_rfl,Tryz.func197.trans (congrArg some (by kernel_rfl))⟩
 f57:=⟨Tryz.f208.name,by kernel_rfl,Tryz.func208.trans (congrArg some (by kernel_rfl))⟩
 t0:=Tryz.underlying0
 a0:=Tryz.isAgg0
 z0:=Tryz.sizeOf0
 v0:=Tryz.zeroValue0
 t3:=Tryz.underlying3
 a3:=Tryz.isAgg3
 z3:=Tryz.sizeOf3
 v3:=Tryz.zeroValue3
 t4:=Tryz.underlying4
 a4:=Tryz.isAgg4
 z4:=Tryz.sizeOf4
 v4:=Tryz.zeroValue4
 t5:=Tryz.underlying5
 a5:=Tryz.isAgg5
 z5:=Tryz.sizeOf5
 v5:=Tryz.zeroValue5
 t9:=Tryz.underlying9
 a9:=Tryz.isAgg9
 z9:=Tryz.sizeOf9
 v9:=Tryz.zeroValue9
 t22:=Tryz.underlying22
 a22:=Tryz.isAgg22
 z22:=Tryz.sizeOf22
 v22:=Tryz.zeroValue22
 t25:=Tryz.underlying114
 a25:=Tryz.isAgg114
 z25:=Tryz.sizeOf114
 v25:=Tryz.zeroValue114
 t39:=Tryz.underlying173
 a39:=Tryz.isAgg173
 z39:=Tryz.sizeOf173
 v39:=Tryz.zeroValue173
 t45:=Tryz.underlying209
 a45:=Tryz.isAgg209
 z45:=Tryz.sizeOf209
 v45:=Tryz.zeroValue209
 t46:=Tryz.underlying210
 a46:=Tryz.isAgg210
 z46:=Tryz.sizeOf210
 v46:=Tryz.zeroValue210
 t50:=Tryz.underlying214
 a50:=Tryz.isAgg214
 z50:=Tryz.sizeOf214
 v50:=Tryz.zeroValue214
 t53:=Tryz.underlying217
 a53:=Tryz.isAgg217
 z53:=Tryz.sizeOf217
 v53:=Tryz.zeroValue217
 t55:=Tryz.underlying219
 a55:=Tryz.isAgg219
 z55:=Tryz.sizeOf219
 v55:=Tryz.zeroValue219
 t66:=Tryz.underlying233
 a66:=Tryz.isAgg233
 z66:=Tryz.sizeOf233
 v66:=Tryz.zeroValue233
 t70:=Tryz.underlying237
 a70:=Tryz.isAgg237
 z70:=Tryz.sizeOf237
 v70:=Tryz.zeroValue237
 t76:=Tryz.underlying240
 a76:=Tryz.isAgg240
 z76:=Tryz.sizeOf240
 v76:=Tryz.zeroValue240
 t77:=Tryz.underlying241
 a77:=Tryz.isAgg241
 z77:=Tryz.sizeOf241
 v77:=Tryz.zeroValue241
set_option maxHeartbeats 2000000 in
theorem Uu(a b:ByteArray)(w:World):Calls Tryz.prog 118 #[.string a,.string b] w fun e w'=>e = .returned (.int .i64 (Lib.compareBytes a.data.toList b.data.toList))∧w'=w:=by
 go_enter Tryz.func118,Tryz.ntmps118
 go_wp2
 rw [run_callFunc_extern Tryz.func176 (by kernel_rfl) (by kernel_rfl) (by kernel_rfl) (e:=Extern.BytealgCompare.compare) (by kernel_rfl),Lib.run_compareString]
 simp only [Result.andThen]
 rw [Oper.upon_value]
 go_wp2
 go_ret
 exact ⟨rfl,rfl⟩
set_option maxHeartbeats 2000000 in
theorem Uv(a b:ByteArray)(w:World):Calls Tryz.prog 67 #[.string a,.string b] w fun e w'=>e = .returned (.int .i64 (Lib.compareBytes a.data.toList b.data.toList))∧w'=w:=by
 have hcon:=fun W'=>Uu a b W'
 generalize Lib.compareBytes a.data.toList b.data.toList=r at hcon ⊢
 go_enter Tryz.func67,Tryz.ntmps67
 go_wp2_with (go_at_call 118;refine (hcon _).mono ?_;rintro e w' ⟨rfl,rfl⟩)
 go_ret
 exact ⟨rfl,rfl⟩
set_option maxHeartbeats 2000000 in
theorem RZ(x y:Pr)(W:World):Calls Tryz.prog 66 #[.agg #[.string ⟨x.1.toArray⟩,.string ⟨x.2.toArray⟩],.agg #[.string ⟨y.1.toArray⟩,.string ⟨y.2.toArray⟩]] W fun e w'=>e = .returned (.int .i64 (Kn x y))∧∃ q os',w'=Go.Sort.grow (W.drewN q) os':=by
 have hcon:∀ W',Calls Tryz.prog 67 #[.string ⟨x.1.toArray⟩,.string ⟨y.1.toArray⟩] W' fun e w'=>e = .returned (.int .i64 (Kn x y))∧w'=W':=fun W'=>by
  have:=Uv ⟨x.1.toArray⟩ ⟨y.1.toArray⟩ W'
  simpa [Kn] using this
 generalize Kn x y=r at hcon ⊢
 go_enter Tryz.func66,Tryz.ntmps66
 go_wp2_with (go_at_call 67;refine (hcon _).mono ?_;rintro e w' ⟨rfl,rfl⟩)
 go_ret
 exact ⟨rfl,0,_,by rw [alloc_eq_grow,alloc_eq_grow,grow_grow];rfl⟩
theorem Ty(blk off size:Nat)(w:World):CmpLays Tryz.prog 66 #[] Cz 2 Kn blk off size w:=fun _ _ _ _ x y=>RZ x y _
theorem OG:∀ args w,(callFunc 65 args).run Tryz.prog w = .ok (.enter 65 args) w:=M3.f6.enters rfl
theorem P7(blk cap:Nat)(d:Array Pr)(w:World)(hH:HoldsK Cz 2 w blk 0 d)(hb:blk<w.heap.size)(hd:d.size<4611686018427387904) :
  Calls Tryz.prog 65 #[.slice (some ⟨blk,0,none⟩) d.size cap,.func (.func 66) #[] #[]] w fun e w'=>e = .returned (.tuple #[])∧∃ n os,w'=sortWorldK Cz 2 w blk 0 n (uD d) os:=
 AnyQ.slices_SortFunc_eq M3 2 Tryz.isAgg60 Tryz.sizeOf60 Cz (fun _=>rfl) (fun x v hv=>by simp [Cz] at hv;rcases hv with rfl | rfl<;>rfl) Kn VZ 66 #[] blk 0 cap d w (enters_of Tryz.func66 (by kernel_rfl) rfl) (Ty blk 0 d.size w) hH hb hd
theorem R0(p:Option Addr)(cap:Nat)(fv:Value)(w:World):Calls Tryz.prog 65 #[.slice p 0 cap,fv] w fun e w'=>e = .returned (.tuple #[])∧w'=w:=AnyF.slices_SortFunc_none M3 p cap fv w
end
section
open Go.Proofs
def Vp(f:FuncId):Option AFn:=(bif Nat.blt f 87 then (bif Nat.blt f 47 then (bif Nat.blt f 29 then (bif Nat.blt f 15 then (bif Nat.blt f 11 then (bif Nat.blt f 9 then (bif Nat.blt f 8 then (bif Nat.beq f 5 then some er else none) else (bif Nat.beq f 8 then some zf else none)) else (bif Nat.blt f 10 then (bif Nat.beq f 9 then some bX else none) else (bif Nat.beq f 10 then some c8 else none))) else (bif Nat.blt f 13 then (bif Nat.blt f 12 then (bif Nat.beq f 11 then some uI else none) else (bif Nat.beq f 12 then some ma else none)) else (bif Nat.blt f 14 then (bif Nat.beq f 13 then some aD else none) else (bif Nat.beq f 14 then some o3 else none)))) else (bif Nat.blt f 19 then (bif Nat.blt f 17 then (bif Nat.blt f 16 then (bif Nat.beq f 15 then some gx else none) else (bif Nat.beq f 16 then some o4 else none)) else (bif Nat.blt f 18 then (bif Nat.beq f 17 then some gy else none) else (bif Nat.beq f 18 then some cE else none))) else (bif Nat.blt f 21 then (bif Nat.blt f 20 then (bif Nat.beq f 19 then some nQ else none) else (bif Nat.beq f 20 then some iu else none)) else (bif Nat.blt f 22 then (bif Nat.beq f 21 then some kJ else none) else (bif Nat.blt f 28 then (bif Nat.beq f 22 then some ej else none) else (bif Nat.beq f 28 then some jz else none)))))) else (bif Nat.blt f 38 then (bif Nat.blt f 33 then (bif Nat.blt f 31 then (bif Nat.blt f 30 then (bif Nat.beq f 29 then some nR else none) else (bif Nat.beq f 30 then some mb else none)) else (bif Nat.blt f 32 then (bif Nat.beq f 31 then some fD else none) else (bif Nat.beq f 32 then some mg else none))) else (bif Nat.blt f 35 then (bif Nat.blt f 34 then (bif Nat.beq f 33 then some o6 else none) else (bif Nat.beq f 34 then some bf else none)) else (bif Nat.blt f 36 then (bif Nat.beq f 35 then some sk else none) else (bif Nat.blt f 37 then (bif Nat.beq f 36 then some gE else none) else (bif Nat.beq f 37 then some cU else none))))) else (bif Nat.blt f 42 then (bif Nat.blt f 40 then (bif Nat.blt f 39 then (bif Nat.beq f 38 then some mh else none) else (bif Nat.beq f 39 then some fR else none)) else (bif Nat.blt f 41 then (bif Nat.beq f 40 then some bY else none) else (bif Nat.beq f 41 then some iA else none))) else (bif Nat.blt f 44 then (bif Nat.blt f 43 then (bif Nat.beq f 42 then some de else none) else (bif Nat.beq f 43 then some dA else none)) else (bif Nat.blt f 45 then (bif Nat.beq f 44 then some dB else none) else (bif Nat.blt f 46 then (bif Nat.beq f 45 then some dq else none) else (bif Nat.beq f 46 then some mj else none))))))) else (bif Nat.blt f 69 then (bif Nat.blt f 59 then (bif Nat.blt f 55 then (bif Nat.blt f 53 then (bif Nat.blt f 48 then (bif Nat.beq f 47 then some fV else none) else (bif Nat.beq f 48 then some gB else none)) else (bif Nat.blt f 54 then (bif Nat.beq f 53 then some fi else none) else (bif Nat.beq f 54 then some cq else none))) else (bif Nat.blt f 57 then (bif Nat.blt f 56 then (bif Nat.beq f 55 then some fe else none) else (bif Nat.beq f 56 then some kM else none)) else (bif Nat.blt f 58 then (bif Nat.beq f 57 then some dg else none) else (bif Nat.beq f 58 then some iW else none)))) else (bif Nat.blt f 63 then (bif Nat.blt f 61 then (bif Nat.blt f 60 then (bif Nat.beq f 59 then some gF else none) else (bif Nat.beq f 60 then some jI else none)) else (bif Nat.blt f 62 then (bif Nat.beq f 61 then some jJ else none) else (bif Nat.beq f 62 then some j1 else none))) else (bif Nat.blt f 66 then (bif Nat.blt f 64 then (bif Nat.beq f 63 then some iX else none) else (bif Nat.beq f 64 then some cL else none)) else (bif Nat.blt f 67 then (bif Nat.beq f 66 then some B4 else none) else (bif Nat.blt f 68 then (bif Nat.beq f 67 then some yQ else none) else (bif Nat.beq f 68 then some aN else none)))))) else (bif Nat.blt f 78 then (bif Nat.blt f 73 then (bif Nat.blt f 71 then (bif Nat.blt f 70 then (bif Nat.beq f 69 then some aO else none) else (bif Nat.beq f 70 then some iY else none)) else (bif Nat.blt f 72 then (bif Nat.beq f 71 then some aW else none) else (bif Nat.beq f 72 then some cF else none))) else (bif Nat.blt f 75 then (bif Nat.blt f 74 then (bif Nat.beq f 73 then some ct else none) else (bif Nat.beq f 74 then some aY else none)) else (bif Nat.blt f 76 then (bif Nat.beq f 75 then some en else none) else (bif Nat.blt f 77 then (bif Nat.beq f 76 then some dS else none) else (bif Nat.beq f 77 then some dh else none))))) else (bif Nat.blt f 82 then (bif Nat.blt f 80 then (bif Nat.blt f 79 then (bif Nat.beq f 78 then some dH else none) else (bif Nat.beq f 79 then some fE else none)) else (bif Nat.blt f 81 then (bif Nat.beq f 80 then some jA else none) else (bif Nat.beq f 81 then some di else none))) else (bif Nat.blt f 84 then (bif Nat.blt f 83 then (bif Nat.beq f 82 then some j3 else none) else (bif Nat.beq f 83 then some cG else none)) else (bif Nat.blt f 85 then (bif Nat.beq f 84 then some dC else none) else (bif Nat.blt f 86 then (bif Nat.beq f 85 then some j4 else none) else (bif Nat.beq f 86 then some cH else none)))))))) else (bif Nat.blt f 132 then (bif Nat.blt f 112 then (bif Nat.blt f 95 then (bif Nat.blt f 91 then (bif Nat.blt f 89 then (bif Nat.blt f 88 then (bif Nat.beq f 87 then some fk else none) else (bif Nat.beq f 88 then some j5 else none)) else (bif Nat.blt f 90 then (bif Nat.beq f 89 then some cI else none) else (bif Nat.beq f 90 then some dD else none))) else (bif Nat.blt f 93 then (bif Nat.blt f 92 then (bif Nat.beq f 91 then some j6 else none) else (bif Nat.beq f 92 then some cJ else none)) else (bif Nat.blt f 94 then (bif Nat.beq f 93 then some fm else none) else (bif Nat.beq f 94 then some j7 else none)))) else (bif Nat.blt f 107 then (bif Nat.blt f 97 then (bif Nat.blt f 96 then (bif Nat.beq f 95 then some cW else none) else (bif Nat.beq f 96 then some fF else none)) else (bif Nat.blt f 106 then (bif Nat.beq f 97 then some j8 else none) else (bif Nat.beq f 106 then some eN else none))) else (bif Nat.blt f 109 then (bif Nat.blt f 108 then (bif Nat.beq f 107 then some bL else none) else (bif Nat.beq f 108 then some gl else none)) else (bif Nat.blt f 110 then (bif Nat.beq f 109 then some dE else none) else (bif Nat.blt f 111 then (bif Nat.beq f 110 then some dj else none) else (bif Nat.beq f 111 then some cQ else none)))))) else (bif Nat.blt f 123 then (bif Nat.blt f 118 then (bif Nat.blt f 114 then (bif Nat.blt f 113 then (bif Nat.beq f 112 then some dk else none) else (bif Nat.beq f 113 then some dY else none)) else (bif Nat.blt f 115 then (bif Nat.beq f 114 then some fo else none) else (bif Nat.beq f 115 then some db else none))) else (bif Nat.blt f 120 then (bif Nat.blt f 119 then (bif Nat.beq f 118 then some lU else none) else (bif Nat.beq f 119 then some eP else none)) else (bif Nat.blt f 121 then (bif Nat.beq f 120 then some bG else none) else (bif Nat.blt f 122 then (bif Nat.beq f 121 then some eo else none) else (bif Nat.beq f 122 then some fG else none))))) else (bif Nat.blt f 127 then (bif Nat.blt f 125 then (bif Nat.blt f 124 then (bif Nat.beq f 123 then some gC else none) else (bif Nat.beq f 124 then some cu else none)) else (bif Nat.blt f 126 then (bif Nat.beq f 125 then some eD else none) else (bif Nat.beq f 126 then some a7 else none))) else (bif Nat.blt f 129 then (bif Nat.blt f 128 then (bif Nat.beq f 127 then some ew else none) else (bif Nat.beq f 128 then some a8 else none)) else (bif Nat.blt f 130 then (bif Nat.beq f 129 then some ey else none) else (bif Nat.blt f 131 then (bif Nat.beq f 130 then some cX else none) else (bif Nat.beq f 131 then some ez else none))))))) else (bif Nat.blt f 164 then (bif Nat.blt f 140 then (bif Nat.blt f 136 then (bif Nat.blt f 134 then (bif Nat.blt f 133 then (bif Nat.beq f 132 then some mo else none) else (bif Nat.beq f 133 then some ba else none)) else (bif Nat.blt f 135 then (bif Nat.beq f 134 then some eA else none) else (bif Nat.beq f 135 then some bg else none))) else (bif Nat.blt f 138 then (bif Nat.blt f 137 then (bif Nat.beq f 136 then some eB else none) else (bif Nat.beq f 137 then some aL else none)) else (bif Nat.blt f 139 then (bif Nat.beq f 138 then some eC else none) else (bif Nat.beq f 139 then some kN else none)))) else (bif Nat.blt f 159 then (bif Nat.blt f 143 then (bif Nat.blt f 141 then (bif Nat.beq f 140 then some aF else none) else (bif Nat.beq f 141 then some ja else none)) else (bif Nat.blt f 144 then (bif Nat.beq f 143 then some kb else none) else (bif Nat.beq f 144 then some kd else none))) else (bif Nat.blt f 161 then (bif Nat.blt f 160 then (bif Nat.beq f 159 then some cY else none) else (bif Nat.beq f 160 then some dZ else none)) else (bif Nat.blt f 162 then (bif Nat.beq f 161 then some aG else none) else (bif Nat.blt f 163 then (bif Nat.beq f 162 then some dz else none) else (bif Nat.beq f 163 then some b7 else none)))))) else (bif Nat.blt f 184 then (bif Nat.blt f 179 then (bif Nat.blt f 177 then (bif Nat.blt f 165 then (bif Nat.beq f 164 then some eQ else none) else (bif Nat.beq f 165 then some dm else none)) else (bif Nat.blt f 178 then (bif Nat.beq f 177 then some bH else none) else (bif Nat.beq f 178 then some dI else none))) else (bif Nat.blt f 181 then (bif Nat.blt f 180 then (bif Nat.beq f 179 then some eR else none) else (bif Nat.beq f 180 then some iP else none)) else (bif Nat.blt f 182 then (bif Nat.beq f 181 then some aH else none) else (bif Nat.blt f 183 then (bif Nat.beq f 182 then some aP else none) else (bif Nat.beq f 183 then some az else none))))) else (bif Nat.blt f 199 then (bif Nat.blt f 191 then (bif Nat.blt f 186 then (bif Nat.beq f 184 then some je else none) else (bif Nat.beq f 186 then some c6 else none)) else (bif Nat.blt f 198 then (bif Nat.beq f 191 then some gp else none) else (bif Nat.beq f 198 then some eS else none))) else (bif Nat.blt f 202 then (bif Nat.blt f 200 then (bif Nat.beq f 199 then some fW else none) else (bif Nat.beq f 200 then some b8 else none)) else (bif Nat.blt f 203 then (bif Nat.beq f 202 then some kP else none) else (bif Nat.blt f 211 then (bif Nat.beq f 203 then some fp else none) else (bif Nat.beq f 211 then some iQ else none)))))))))
theorem vy:ab Tryz.prog G0 5 er:=by unfold ab;kernel_rfl
theorem HG:ab Tryz.prog G0 8 zf:=by unfold ab;kernel_rfl
theorem zI:ab Tryz.prog G0 9 bX:=by unfold ab;kernel_rfl
theorem vZ:ab Tryz.prog G0 10 c8:=by unfold ab;kernel_rfl
theorem Et:ab Tryz.prog G0 11 uI:=by unfold ab;kernel_rfl
theorem wJ:ab Tryz.prog G0 12 ma:=by unfold ab;kernel_rfl
theorem zJ:ab Tryz.prog G0 13 aD:=by unfold ab;kernel_rfl
theorem HH:ab Tryz.prog G0 14 o3:=by unfold ab;kernel_rfl
theorem zK:ab Tryz.prog G0 15 gx:=by unfold ab;kernel_rfl
theorem HI:ab Tryz.prog G0 16 o4:=by unfold ab;kernel_rfl
theorem zL:ab Tryz.prog G0 17 gy:=by unfold ab;kernel_rfl
theorem uU:ab Tryz.prog G0 18 cE:=by unfold ab;kernel_rfl
theorem IR:ab Tryz.prog G0 19 nQ:=by unfold ab;kernel_rfl
theorem A8:ab Tryz.prog G0 20 iu:=by unfold ab;kernel_rfl
theorem HJ:ab Tryz.prog G0 21 kJ:=by unfold ab;kernel_rfl
theorem zM:ab Tryz.prog G0 22 ej:=by unfold ab;kernel_rfl
theorem IS:ab Tryz.prog G0 28 jz:=by unfold ab;kernel_rfl
theorem IT:ab Tryz.prog G0 29 nR:=by unfold ab;kernel_rfl
theorem HK:ab Tryz.prog G0 30 mb:=by unfold ab;kernel_rfl
theorem CA:ab Tryz.prog G0 31 fD:=by unfold ab;kernel_rfl
theorem HL:ab Tryz.prog G0 32 mg:=by unfold ab;kernel_rfl
theorem HM:ab Tryz.prog G0 33 o6:=by unfold ab;kernel_rfl
theorem oF:ab Tryz.prog G0 34 bf:=by unfold ab;kernel_rfl
theorem CB:ab Tryz.prog G0 35 sk:=by unfold ab;kernel_rfl
theorem qH:ab Tryz.prog G0 36 gE:=by unfold ab;kernel_rfl
theorem xR:ab Tryz.prog G0 37 cU:=by unfold ab;kernel_rfl
theorem HN:ab Tryz.prog G0 38 mh:=by unfold ab;kernel_rfl
theorem yn:ab Tryz.prog G0 39 fR:=by unfold ab;kernel_rfl
theorem zN:ab Tryz.prog G0 40 bY:=by unfold ab;kernel_rfl
theorem A9:ab Tryz.prog G0 41 iA:=by unfold ab;kernel_rfl
theorem yo:ab Tryz.prog G0 42 de:=by unfold ab;kernel_rfl
theorem zO:ab Tryz.prog G0 43 dA:=by unfold ab;kernel_rfl
theorem zP:ab Tryz.prog G0 44 dB:=by unfold ab;kernel_rfl
theorem Ba:ab Tryz.prog G0 45 dq:=by unfold ab;kernel_rfl
theorem HO:ab Tryz.prog G0 46 mj:=by unfold ab;kernel_rfl
theorem yp:ab Tryz.prog G0 47 fV:=by unfold ab;kernel_rfl
theorem zQ:ab Tryz.prog G0 48 gB:=by unfold ab;kernel_rfl
theorem zR:ab Tryz.prog G0 53 fi:=by unfold ab;kernel_rfl
theorem sB:ab Tryz.prog G0 54 cq:=by unfold ab;kernel_rfl
theorem KD:ab Tryz.prog G0 55 fe:=by unfold ab;kernel_rfl
theorem GM:ab Tryz.prog G0 56 kM:=by unfold ab;kernel_rfl
theorem yq:ab Tryz.prog G0 57 dg:=by unfold ab;kernel_rfl
theorem GN:ab Tryz.prog G0 58 iW:=by unfold ab;kernel_rfl
theorem GO:ab Tryz.prog G0 59 gF:=by unfold ab;kernel_rfl
theorem GP:ab Tryz.prog G0 60 jI:=by unfold ab;kernel_rfl
theorem GQ:ab Tryz.prog G0 61 jJ:=by unfold ab;kernel_rfl
theorem FA:ab Tryz.prog G0 62 j1:=by unfold ab;kernel_rfl
theorem DD:ab Tryz.prog G0 63 iX:=by unfold ab;kernel_rfl
theorem ru:ab Tryz.prog G0 64 cL:=by unfold ab;kernel_rfl
theorem FB:ab Tryz.prog G0 66 B4:=by unfold ab;kernel_rfl
theorem DE:ab Tryz.prog G0 67 yQ:=by unfold ab;kernel_rfl
theorem qW:ab Tryz.prog G0 68 aN:=by unfold ab;kernel_rfl
theorem qg:ab Tryz.prog G0 69 aO:=by unfold ab;kernel_rfl
theorem r3:ab Tryz.prog G0 70 iY:=by unfold ab;kernel_rfl
theorem CC:ab Tryz.prog G0 71 aW:=by unfold ab;kernel_rfl
theorem yr:ab Tryz.prog G0 72 cF:=by unfold ab;kernel_rfl
theorem xS:ab Tryz.prog G0 73 ct:=by unfold ab;kernel_rfl
theorem xU:ab Tryz.prog G0 74 aY:=by unfold ab;kernel_rfl
theorem zS:ab Tryz.prog G0 75 en:=by unfold ab;kernel_rfl
theorem yt:ab Tryz.prog G0 76 dS:=by unfold ab;kernel_rfl
theorem uV:ab Tryz.prog G0 77 dh:=by unfold ab;kernel_rfl
theorem xV:ab Tryz.prog G0 78 dH:=by unfold ab;kernel_rfl
theorem Bb:ab Tryz.prog G0 79 fE:=by unfold ab;kernel_rfl
theorem HP:ab Tryz.prog G0 80 jA:=by unfold ab;kernel_rfl
theorem yu:ab Tryz.prog G0 81 di:=by unfold ab;kernel_rfl
theorem FC:ab Tryz.prog G0 82 j3:=by unfold ab;kernel_rfl
theorem yv:ab Tryz.prog G0 83 cG:=by unfold ab;kernel_rfl
theorem zT:ab Tryz.prog G0 84 dC:=by unfold ab;kernel_rfl
theorem FD:ab Tryz.prog G0 85 j4:=by unfold ab;kernel_rfl
theorem yw:ab Tryz.prog G0 86 cH:=by unfold ab;kernel_rfl
theorem zU:ab Tryz.prog G0 87 fk:=by unfold ab;kernel_rfl
theorem FE:ab Tryz.prog G0 88 j5:=by unfold ab;kernel_rfl
theorem yx:ab Tryz.prog G0 89 cI:=by unfold ab;kernel_rfl
theorem zV:ab Tryz.prog G0 90 dD:=by unfold ab;kernel_rfl
theorem FF:ab Tryz.prog G0 91 j6:=by unfold ab;kernel_rfl
theorem yy:ab Tryz.prog G0 92 cJ:=by unfold ab;kernel_rfl
theorem zW:ab Tryz.prog G0 93 fm:=by unfold ab;kernel_rfl
theorem FG:ab Tryz.prog G0 94 j7:=by unfold ab;kernel_rfl
theorem zX:ab Tryz.prog G0 95 cW:=by unfold ab;kernel_rfl
theorem Bc:ab Tryz.prog G0 96 fF:=by unfold ab;kernel_rfl
theorem FH:ab Tryz.prog G0 97 j8:=by unfold ab;kernel_rfl
theorem yz:ab Tryz.prog G0 106 eN:=by unfold ab;kernel_rfl
theorem uu:ab Tryz.prog G0 107 bL:=by unfold ab;kernel_rfl
theorem BX:ab Tryz.prog G0 108 gl:=by unfold ab;kernel_rfl
theorem zY:ab Tryz.prog G0 109 dE:=by unfold ab;kernel_rfl
theorem yA:ab Tryz.prog G0 110 dj:=by unfold ab;kernel_rfl
theorem ud:ab Tryz.prog G0 111 cQ:=by unfold ab;kernel_rfl
theorem uW:ab Tryz.prog G0 112 dk:=by unfold ab;kernel_rfl
theorem wK:ab Tryz.prog G0 113 dY:=by unfold ab;kernel_rfl
theorem zZ:ab Tryz.prog G0 114 fo:=by unfold ab;kernel_rfl
theorem sC:ab Tryz.prog G0 115 db:=by unfold ab;kernel_rfl
theorem r4:ab Tryz.prog G0 118 lU:=by unfold ab;kernel_rfl
theorem yB:ab Tryz.prog G0 119 eP:=by unfold ab;kernel_rfl
theorem Bd:ab Tryz.prog G0 120 bG:=by unfold ab;kernel_rfl
theorem z6:ab Tryz.prog G0 121 eo:=by unfold ab;kernel_rfl
theorem CD:ab Tryz.prog G0 122 fG:=by unfold ab;kernel_rfl
theorem z7:ab Tryz.prog G0 123 gC:=by unfold ab;kernel_rfl
theorem xW:ab Tryz.prog G0 124 cu:=by unfold ab;kernel_rfl
theorem DF:ab Tryz.prog G0 125 eD:=by unfold ab;kernel_rfl
theorem ni:ab Tryz.prog G0 126 a7:=by unfold ab;kernel_rfl
theorem xX:ab Tryz.prog G0 127 ew:=by unfold ab;kernel_rfl
theorem nj:ab Tryz.prog G0 128 a8:=by unfold ab;kernel_rfl
theorem xY:ab Tryz.prog G0 129 ey:=by unfold ab;kernel_rfl
theorem z8:ab Tryz.prog G0 130 cX:=by unfold ab;kernel_rfl
theorem xZ:ab Tryz.prog G0 131 ez:=by unfold ab;kernel_rfl
theorem HQ:ab Tryz.prog G0 132 mo:=by unfold ab;kernel_rfl
theorem nk:ab Tryz.prog G0 133 ba:=by unfold ab;kernel_rfl
theorem x3:ab Tryz.prog G0 134 eA:=by unfold ab;kernel_rfl
theorem oG:ab Tryz.prog G0 135 bg:=by unfold ab;kernel_rfl
theorem x4:ab Tryz.prog G0 136 eB:=by unfold ab;kernel_rfl
theorem kG:ab Tryz.prog G0 137 aL:=by unfold ab;kernel_rfl
theorem x5:ab Tryz.prog G0 138 eC:=by unfold ab;kernel_rfl
theorem GR:ab Tryz.prog G0 139 kN:=by unfold ab;kernel_rfl
theorem oX:ab Tryz.prog G0 140 aF:=by unfold ab;kernel_rfl
theorem DG:ab Tryz.prog G0 141 ja:=by unfold ab;kernel_rfl
theorem FI:ab Tryz.prog G0 143 kb:=by unfold ab;kernel_rfl
theorem FJ:ab Tryz.prog G0 144 kd:=by unfold ab;kernel_rfl
theorem Aa:ab Tryz.prog G0 159 cY:=by unfold ab;kernel_rfl
theorem wL:ab Tryz.prog G0 160 dZ:=by unfold ab;kernel_rfl
theorem oY:ab Tryz.prog G0 161 aG:=by unfold ab;kernel_rfl
theorem vz:ab Tryz.prog G0 162 dz:=by unfold ab;kernel_rfl
theorem r5:ab Tryz.prog G0 163 b7:=by unfold ab;kernel_rfl
theorem yC:ab Tryz.prog G0 164 eQ:=by unfold ab;kernel_rfl
theorem uX:ab Tryz.prog G0 165 dm:=by unfold ab;kernel_rfl
theorem Be:ab Tryz.prog G0 177 bH:=by unfold ab;kernel_rfl
theorem x6:ab Tryz.prog G0 178 dI:=by unfold ab;kernel_rfl
theorem yD:ab Tryz.prog G0 179 eR:=by unfold ab;kernel_rfl
theorem ry:ab Tryz.prog G0 180 iP:=by unfold ab;kernel_rfl
theorem oZ:ab Tryz.prog G0 181 aH:=by unfold ab;kernel_rfl
theorem qh:ab Tryz.prog G0 182 aP:=by unfold ab;kernel_rfl
theorem lq:ab Tryz.prog G0 183 az:=by unfold ab;kernel_rfl
theorem r6:ab Tryz.prog G0 184 je:=by unfold ab;kernel_rfl
theorem uv:ab Tryz.prog G0 186 c6:=by unfold ab;kernel_rfl
theorem BY:ab Tryz.prog G0 191 gp:=by unfold ab;kernel_rfl
theorem yE:ab Tryz.prog G0 198 eS:=by unfold ab;kernel_rfl
theorem pZ:ab Tryz.prog G0 199 fW:=by unfold ab;kernel_rfl
theorem r7:ab Tryz.prog G0 200 b8:=by unfold ab;kernel_rfl
theorem vA:ab Tryz.prog G0 202 kP:=by unfold ab;kernel_rfl
theorem nr:ab Tryz.prog G0 203 fp:=by unfold ab;kernel_rfl
theorem rz:ab Tryz.prog G0 211 iQ:=by unfold ab;kernel_rfl
theorem Uw:∀ f af,Vp f=some af→ab Tryz.prog G0 f af:=fun f af h=>by
 unfold Vp at h
 revert h
 exact (al (al (al (al (al (al (al (ak (C:=_) vy) (ak (C:=_) HG)) (al (ak (C:=_) zI) (ak (C:=_) vZ))) (al (al (ak (C:=_) Et) (ak (C:=_) wJ)) (al (ak (C:=_) zJ) (ak (C:=_) HH)))) (al (al (al (ak (C:=_) zK) (ak (C:=_) HI)) (al (ak (C:=_) zL) (ak (C:=_) uU))) (al (al (ak (C:=_) IR) (ak (C:=_) A8)) (al (ak (C:=_) HJ) (al (ak (C:=_) zM) (ak (C:=_) IS)))))) (al (al (al (al (ak (C:=_) IT) (ak (C:=_) HK)) (al (ak (C:=_) CA) (ak (C:=_) HL))) (al (al (ak (C:=_) HM) (ak (C:=_) oF)) (al (ak (C:=_) CB) (al (ak (C:=_) qH) (ak (C:=_) xR))))) (al (al (al (ak (C:=_) HN) (ak (C:=_) yn)) (al (ak (C:=_) zN) (ak (C:=_) A9))) (al (al (ak (C:=_) yo) (ak (C:=_) zO)) (al (ak (C:=_) zP) (al (ak (C:=_) Ba) (ak (C:=_) HO))))))) (al (al (al (al (al (ak (C:=_) yp) (ak (C:=_) zQ)) (al (ak (C:=_) zR) (ak (C:=_) sB))) (al (al (ak (C:=_) KD) (ak (C:=_) GM)) (al (ak (C:=_) yq) (ak (C:=_) GN)))) (al (al (al (ak (C:=_) GO) (ak (C:=_) GP)) (al (ak (C:=_) GQ) (ak (C:=_) FA))) (al (al (ak (C:=_) DD) (ak (C:=_) ru)) (al (ak (C:=_) FB) (al (ak (C:=_) DE) (ak (C:=_) qW)))))) (al (al (al (al (ak (C:=_) qg) (ak (C:=_) r3)) (al (ak (C:=_) CC) (ak (C:=_) yr))) (al (al (ak (C:=_) xS) (ak (C:=_) xU)) (al (ak (C:=_) zS) (al (ak (C:=_) yt) (ak (C:=_) uV))))) (al (al (al (ak (C:=_) xV) (ak (C:=_) Bb)) (al (ak (C:=_) HP) (ak (C:=_) yu))) (al (al (ak (C:=_) FC) (ak (C:=_) yv)) (al (ak (C:=_) zT) (al (ak (C:=_) FD) (ak (C:=_) yw)))))))) (al (al (al (al (al (al (ak (C:=_) zU) (ak (C:=_) FE)) (al (ak (C:=_) yx) (ak (C:=_) zV))) (al (al (ak (C:=_) FF) (ak (C:=_) yy)) (al (ak (C:=_) zW) (ak (C:=_) FG)))) (al (al (al (ak (C:=_) zX) (ak (C:=_) Bc)) (al (ak (C:=_) FH) (ak (C:=_) yz))) (al (al (ak (C:=_) uu) (ak (C:=_) BX)) (al (ak (C:=_) zY) (al (ak (C:=_) yA) (ak (C:=_) ud)))))) (al (al (al (al (ak (C:=_) uW) (ak (C:=_) wK)) (al (ak (C:=_) zZ) (ak (C:=_) sC))) (al (al (ak (C:=_) r4) (ak (C:=_) yB)) (al (ak (C:=_) Bd) (al (ak (C:=_) z6) (ak (C:=_) CD))))) (al (al (al (ak (C:=_) z7) (ak (C:=_) xW)) (al (ak (C:=_) DF) (ak (C:=_) ni))) (al (al (ak (C:=_) xX) (ak (C:=_) nj)) (al (ak (C:=_) xY) (al (ak (C:=_) z8) (ak (C:=_) xZ))))))) (al (al (al (al (al (ak (C:=_) HQ) (ak (C:=_) nk)) (al (ak (C:=_) x3) (ak (C:=_) oG))) (al (al (ak (C:=_) x4) (ak (C:=_) kG)) (al (ak (C:=_) x5) (ak (C:=_) GR)))) (al (al (al (ak (C:=_) oX) (ak (C:=_) DG)) (al (ak (C:=_) FI) (ak (C:=_) FJ))) (al (al (ak (C:=_) Aa) (ak (C:=_) wL)) (al (ak (C:=_) oY) (al (ak (C:=_) vz) (ak (C:=_) r5)))))) (al (al (al (al (ak (C:=_) yC) (ak (C:=_) uX)) (al (ak (C:=_) Be) (ak (C:=_) x6))) (al (al (ak (C:=_) yD) (ak (C:=_) ry)) (al (ak (C:=_) oZ) (al (ak (C:=_) qh) (ak (C:=_) lq))))) (al (al (al (ak (C:=_) r6) (ak (C:=_) uv)) (al (ak (C:=_) BY) (ak (C:=_) yE))) (al (al (ak (C:=_) pZ) (ak (C:=_) r7)) (al (ak (C:=_) vA) (al (ak (C:=_) nr) (ak (C:=_) rz)))))))))
def Vq(f:FuncId)(args:List AV)(H:List ag):Option Out:=
 match args with
 |[]=>bif Nat.beq f fg then some (.ret (.bool true),H) else none
 |args=>match RF bh gR f args H with
  |some r=>some r
  |none=>SM f args H
theorem Ux{f:FuncId}{args:List AV}{H H':List ag}{r:wg}(h:Vq f args H=some (r,H')):ff Tryz.prog G0 f args H fun r2 H2=>r2=r∧H2=H':=by
 unfold Vq at h
 split at h
 ·cases h1:Nat.beq f fg with
  |true=>rw [h1] at h;cases h;rw [Nat.eq_of_beq_eq_true h1];exact SO H
  |false=>rw [h1] at h;cases h
 ·split at h
  ·rename_i r' hr
   cases h
   exact Uq OG P7 R0 hr
  ·exact Qn h
noncomputable def EN:bP := { P:=Tryz.prog,G:=G0,fn:=Vp,orc:=Vq,dfn:=fun _=>none }
theorem UP:EN.Ok:=⟨Qo,fun f af h=>Uw f af h,(fun _ _ _ h=>by cases h),(fun _ _ _ _ _ h=>by cases h),fun _ _ _ _ _ h=>Ux h⟩
theorem Uy(M:dV ei EN):Ow M Tk:=by
 refine ⟨fun H => ?_,fun {l H id T} h0 hl hx => ?_,fun l => ?_⟩
 ·rw [DM M rfl];rfl
 ·rw [DM M rfl]
  have hd:Ot (b4 l)=some (l.map toP):=by rw [QA];exact L9 _
  have hs:RF bh gR bh [.rslice id 0 l.length 2 true,.fn (.func gR) [] []] H=some (.ret (.tuple []),H.set id (.cells (b4 (Tk l)) T)):=by
   have hb:∀ n:Nat,Nat.beq n n=true:=fun n=>by simp
   have hle:Nat.ble l.length 4000000000=true:=Nat.ble_eq_true_of_le hl
   unfold RF
   simp only [hb,Bool.and_self,cond_true,hx,hd,List.length_map,hle]
   rw [Tk,Up]
  show (match RF bh gR bh [.rslice id 0 l.length 2 true,.fn (.func gR) [] []] H with
   |some r=>some r
   |none=>SM bh [.rslice id 0 l.length 2 true,.fn (.func gR) [] []] H)=_
  rw [hs]
 ·simpa using (Tm.perm l).length_eq
end
end Go.Am
