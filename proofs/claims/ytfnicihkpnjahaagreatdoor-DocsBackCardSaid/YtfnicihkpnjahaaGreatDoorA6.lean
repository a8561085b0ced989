import Derived.Test.YtfnicihkpnjahaaGreatDoorA5
import Derived.Deep.Slices
import Derived.DataReads
import Derived.SizedLaws
/-
  Part 1 of the tool: an abstract machine over the model, proved sound, and what it says of the functions that the law reaches. Condition: none but those that each theorem names.
-/
set_option linter.unusedVariables false
set_option linter.unusedSimpArgs false
set_option maxRecDepth 100000
set_option maxHeartbeats 4000000
namespace Go.Am
open Go.RowKit
section
set_option linter.defProp false
theorem Sl.ok.wk{α:Type}{s:Sl α}{n esz:Nat}{p:α→Prop}{row:α→List AV}(h:s.ok n p)(hr:∀ x,p x→WkL n (row x) (row x)):Wk n (.slice s.tag esz (s.l.map row)) (.slice s.tag esz (s.l.map row)):=
 wk_slice h.tag (by rw [rowsWk_map];exact fun x hx=>hr x (h.all x hx))
theorem ae.ok.wk{n:Nat}{x:ae}(h:x.ok n):WkL n x.row x.row:=⟨wk_int _ _ _,wk_str _ _,wk_bool _ _,trivial⟩
theorem nZ.ok.wk{n:Nat}{x:nZ}(h:x.ok n):WkL n x.row x.row:=⟨wk_int _ _ _,h.pieces.wk (fun _ h=>h.wk),trivial⟩
theorem ze.ok.wk{n:Nat}{x:ze}(h:x.ok n):WkL n x.row x.row:=⟨h.blocks.wk (fun _ h=>h.wk),trivial⟩
theorem Brk.ok.wk{n:Nat}{x:Brk}(h:x.ok n):WkL n x.row x.row:=⟨wk_str _ _,wk_str _ _,wk_bool _ _,trivial⟩
theorem zf.ok.wk{n:Nat}{x:zf}(h:x.ok n):WkL n x.row x.row:=⟨wk_int _ _ _,h.pieces.wk (fun _ h=>h.wk),trivial⟩
theorem Tie.ok.wk{n:Nat}{x:Tie}(h:x.ok n):WkL n x.row x.row:=⟨wk_int _ _ _,wk_int _ _ _,trivial⟩
end
section
open Go.ChangeShapes Go.WideShapes
section
variable(P:Program)(W:World)(G:Nat→Option (List AV))
end
section
variable{P:Program}{W:World}{G:Nat→Option (List AV)}
theorem LS{t:TypeId}{r:Reach}{b:Nat}{v:Value}(ht:P.underlying t=some .string)(h:Value.okWide P W r b t v):∃ s,v = .string s:=by
 simp only [Value.okWide,ht,Cell.okWide,Cell.ok] at h;split at h<;>first | exact ⟨_,rfl⟩ | (simp_all;done) | cases h
end
end
section
open Sh
theorem Kg:qf iP [.t 4] .drop:=⟨rfl,rfl,rfl⟩
theorem Kh:qf px [.t 2,.t 3] .drop:=⟨rfl,rfl,rfl⟩
theorem Kk:qf dY [.t 4] .drop:=⟨rfl,rfl,rfl⟩
theorem KF:qf mF [.t 2] .keep:=⟨rfl,rfl,rfl⟩
theorem Ky:qf je [] .drop:=⟨rfl,rfl,rfl⟩
theorem KG:qf i7 [.t 4] .drop:=⟨rfl,rfl,rfl⟩
theorem Ku:qf dL [.t 4] .keep:=⟨rfl,rfl,rfl⟩
theorem Kn:qf mI [.cell 2 (some 3),.t 3] .drop:=⟨rfl,rfl,rfl⟩
theorem KT:qf kH [.t 4] .drop:=⟨rfl,rfl,rfl⟩
theorem KD:qf iB [.t 4] .drop:=⟨rfl,rfl,rfl⟩
theorem KE:qf iC [.t 4] .drop:=⟨rfl,rfl,rfl⟩
theorem Ko:qf dC [.t 4] .drop:=⟨rfl,rfl,rfl⟩
theorem Kw:qf dM [.t 2] .drop:=⟨rfl,rfl,rfl⟩
theorem Kz:qf fu [.cell 2 (some 256),.t 3] .drop:=⟨rfl,rfl,rfl⟩
theorem Kx:qf dN [.t 4] .drop:=⟨rfl,rfl,rfl⟩
theorem Kl:qf cX [.t 4] .drop:=⟨rfl,rfl,rfl⟩
theorem Km:qf cY [.t 4] .drop:=⟨rfl,rfl,rfl⟩
end
section
attribute [local congr] au bc aM aw aL aE aA ah aj aF aG
variable{E:aT}(M:bk bK E)
theorem Lq{s:Str}{k:IntKind}{i:Nat}(h:i≤s.length):yJ (.str s) none (some (.int k (i:Int)))=some (.str (s.take i)):=by
 simp [yJ,cE,h]
end
section
attribute [local congr] au bc aM aw aL aE aA ah aj aF aG
variable{E:aT}(M:bk bK E)
def LU{α:Type}(p:α→Bool):Nat→α→Option AV:=fun i x=>sel (p x) (some (.int .i64 (i:Int))) none
theorem K9{α:Type}(p:α→Bool):∀ (l:List α) (i:Nat) (H:List AObj),orE (qL (LU p) i l) H (some (.ret (.int .i64 (-1)),H))=some (.ret (.int .i64 (sq p i l)),H)
 |[],i,H=>rfl
 |x::l,i,H=>by
  rw [AA,LU,sq,Hh,Hf,Fl,Fm,Fj,K9 p l];cases p x<;>rfl
def KH:List AV:=List.replicate 256 (.bool false)
theorem Me:List.replicate 256 (AV.bool false)=KH:=rfl
def LV:List AV:=bj KH 62 [.bool true]
def Kq:List AV:=bj LV 125 [.bool true]
theorem LI(c:UInt8):Kq[c.toNat]?=some (.bool (nd c)):=by
 have h:∀ n:Fin 256,Kq[n.val]?=some (.bool (nd (UInt8.ofNat n.val))):=by
  intro n
  have:Kq=(List.range 256).map fun n=>.bool (nd (UInt8.ofNat n)):=rfl
  rw [this,List.getElem?_map,List.getElem?_range n.isLt];rfl
 have:=h ⟨c.toNat,c.toNat_lt⟩;simpa using this
theorem LJ:bj Kq 0 Kq=Kq:=rfl
theorem LW:bj KH 0 Kq=Kq:=rfl
theorem LL(id:Nat)(c:UInt8):vi 256 1 (.ptr id 0) (.int .u8 (c.toNat:Int))=some (.ptr id c.toNat):=by
 have:=c.toNat_lt;simp only [vi];rw [if_pos (by omega)];simp
theorem Lg(hS:so E){H:List AObj}{p:Nat}{T:TypeId}(hp:H[p]?=some (.cells Kq T))(c:UInt8):M.run gv [.ptr p 0,.int .u8 c.toNat] H=some (.ret (.bool (nd c)),H):=by
 rw [cq M hS.strings_asciiSet_contains rfl (c:=lf) rfl,lf];have e:=LI c;have l0:b9 none Kq c.toNat=some (.bool (nd c)):=e;simp (maxSteps:=3000000) (maxDischargeDepth:=6) +contextual -implicitDefEqProofs only [amC M,↓amD,Nat.reduceBEq,Nat.reduceAdd,env,ao,Kx,rnc,LL,hp,l0]
theorem Lz{n:Nat}:∀ {l:List AV},(∀ v∈l,Wk n v v)→WkL n l l
 |[],_=>trivial
 |v::l,h=>⟨h v (List.mem_cons_self ..),Lz fun u hu=>h u (List.mem_cons_of_mem _ hu)⟩
theorem LX(n:Nat):Wk n (.agg Kq) (.agg Kq):=wk_agg (Lz fun v hv=>by
 have e:Kq=(List.range 256).map fun n=>.bool (nd (UInt8.ofNat n)):=rfl
 rw [e] at hv;obtain ⟨m,_,rfl⟩:=List.mem_map.1 hv;exact wk_bool _ _)
theorem LY(hS:so E)(H:List AObj):M.run jB [.str [62,125]] H=some (.ret (.tuple [.agg Kq,.bool true]),H):=by
 rw [cq M hS.strings_makeASCIISet rfl (c:=nO) rfl,nO];have a1:∀ id,vi 256 1 (.ptr id 0) (.int .u8 62)=some (.ptr id 62):=fun id=>LL id 62
 have a2:∀ id,vi 256 1 (.ptr id 0) (.int .u8 125)=some (.ptr id 125):=fun id=>LL id 125
 have s1:∀ T,stO 1 (H++[.cells KH T]) H.length 62 [.bool true] (some (.cells KH T))=some (H++[.cells LV T]):=fun T=>by
  simp only [stO];rw [if_pos ⟨rfl,by decide,rfl⟩,hp_set0];rfl
 have s2:∀ T,stO 1 (H++[.cells LV T]) H.length 125 [.bool true] (some (.cells LV T))=some (H++[.cells Kq T]):=fun T=>by
  simp only [stO];rw [if_pos ⟨rfl,by decide,rfl⟩,hp_set0];rfl
 have s3_1:∀ T,stO 256 (H++[.cells Kq T]) H.length 0 Kq (some (.cells Kq T))=some (H++[.cells Kq T]):=fun T=>by
  simp only [stO];rw [if_pos ⟨rfl,by decide,rfl⟩,hp_set0,LJ];rfl
 have l2:pg 256 Kq=some Kq:=rfl;have n0_1:decide ((0:Int)<(([62,125]:Str).length:Int))=true:=rfl;have n1:decide ((1:Int)<(([62,125]:Str).length:Int))=true:=rfl;have n2:decide ((2:Int)<(([62,125]:Str).length:Int))=false:=rfl;have w1:IntKind.i64.wrap (0+1)=1:=by decide
 have w2:IntKind.i64.wrap (1+1)=2:=by decide
 have c1:decide ((128:Int)≤62)=false:=rfl;have c2:decide ((128:Int)≤125)=false:=rfl;have hac:bR (.agg Kq)=some Kq:=rfl;have hac2:bR (.bool true)=some [.bool true]:=rfl;simp (maxSteps:=3000000) (maxDischargeDepth:=6) +contextual -implicitDefEqProofs only [amC M,↓amD,Nat.reduceBEq,Nat.reduceAdd,env,ao,Kz,↓Me,aH M mL.eq_1,a1,a2,s1,s2,s3_1,l2,aR,List.getElem?_cons_zero,n0_1,n1,n2,(show ((UInt8.toNat 62:Nat):Int)=62 from rfl),(show ((UInt8.toNat 125:Nat):Int)=125 from rfl),List.getElem?_cons_succ,w1,w2,c1,c2,hac,hac2,(show ∀ H,o1 (some H)=some (dm,H) from fun _=>rfl),cut_app,hp_take,wk_tuple,LX,(show n8 (.tuple [.agg Kq,.bool true]) = .tuple [.agg Kq,.bool true] from rfl)]
theorem Lr(hS:so E)(hX:sk M)(s:Str)(c:UInt8)(H:List AObj):M.run kC [.str s,.str [c]] H=some (.ret (.int .i64 (Lib.indexByte s c)),H):=by
 have h1:=wG M hS hX s c H
 have h2:M.run fx [.str s,.str [c]] H=some (.ret (.int .i64 (Lib.indexByte s c)),H):=by
  rw [cq M hS.internal_stringslite_Index rfl (c:=kI) rfl,kI];have e0:((([c].length:Nat):Int) == 0)=false:=rfl;have e1:((([c].length:Nat):Int) == 1)=true:=rfl;have e2:rV ([c]:Str)[0]?=some (.int .u8 (c.toNat:Int)):=rfl;cases he:([c]:Str) == s with
  |true=>
   have:Lib.indexByte s c=0:=by rw [← eq_of_beq he];simp [Lib.indexByte]
   rw [this];simp (maxSteps:=3000000) (maxDischargeDepth:=6) +contextual -implicitDefEqProofs only [amC M,↓amD,Nat.reduceBEq,Nat.reduceAdd,env,ao,Ko,e0,e1,he]
  |false=>
   simp (maxSteps:=3000000) (maxDischargeDepth:=6) +contextual -implicitDefEqProofs only [amC M,↓amD,Nat.reduceBEq,Nat.reduceAdd,env,ao,Ko,e0,e1,e2,h1,he]
 rw [cq M hS.strings_Index rfl (c:=tZ) rfl,tZ];simp (maxSteps:=3000000) (maxDischargeDepth:=6) +contextual -implicitDefEqProofs only [amC M,↓amD,Nat.reduceBEq,Nat.reduceAdd,env,ao,KT,h2]
theorem La:∀ (s:Str) (c:UInt8),decide ((0:Int)≤Lib.indexByte s c)=s.any fun d=>d == c
 |[],c=>rfl
 |d::s,c=>by
  rw [Lib.indexByte,List.any_cons,← La s c];cases h:d == c with
  |true=>simp
  |false=>
   have hg:=Lib.indexByte_ge s c;simp only [Bool.false_or]
   by_cases h2:Lib.indexByte s c = -1
   ·simp [h2]
   ·have:(Lib.indexByte s c == -1)=false:=by simpa using h2
    simp only [this];rw [Bool.eq_iff_iff];simp;omega
theorem K6(hS:so E)(hX:sk M)(s:Str)(c:UInt8)(H:List AObj):M.run iY [.str s,.str [c]] H=some (.ret (.bool (s.any fun d=>d == c)),H):=by
 have h1:=Lr M hS hX s c H;rw [cq M hS.strings_Contains rfl (c:=qN) rfl,qN];simp (maxSteps:=3000000) (maxDischargeDepth:=6) +contextual -implicitDefEqProofs only [amC M,↓amD,Nat.reduceBEq,Nat.reduceAdd,env,ao,KG,h1,La]
def Ki(s p:Str):Bool:=decide (p.length≤s.length)&&(s.take p.length == p)
theorem KV(hS:so E)(s p:Str)(H:List AObj):M.run eA [.str s,.str p] H=some (.ret (.bool (Ki s p)),H):=by
 rw [cq M hS.internal_stringslite_HasPrefix rfl (c:=jI) rfl,jI];cases hd:decide (p.length≤s.length) with
 |true=>
  have hle:p.length≤s.length:=of_decide_eq_true hd;simp (maxSteps:=3000000) (maxDischargeDepth:=6) +contextual -implicitDefEqProofs only [amC M,↓amD,Nat.reduceBEq,Nat.reduceAdd,env,ao,Kl,Ki,hd,Lq hle]
 |false=>
  simp (maxSteps:=3000000) (maxDischargeDepth:=6) +contextual -implicitDefEqProofs only [amC M,↓amD,Nat.reduceBEq,Nat.reduceAdd,env,ao,Kl,Ki,hd]
theorem K7(hS:so E)(s p:Str)(H:List AObj):M.run eR [.str s,.str p] H=some (.ret (.bool (Ki s p)),H):=by
 have h1:=KV M hS s p H;rw [cq M hS.strings_HasPrefix rfl (c:=pZ) rfl,pZ];simp (maxSteps:=3000000) (maxDischargeDepth:=6) +contextual -implicitDefEqProofs only [amC M,↓amD,Nat.reduceBEq,Nat.reduceAdd,env,ao,KD,h1]
def Ks(s p:Str):Bool:=decide (p.length≤s.length)&&(s.drop (s.length-p.length) == p)
theorem K8(hS:so E){s:Str}(hs:s.length≤cf)(p:Str)(H:List AObj):M.run kU [.str s,.str p] H=some (.ret (.bool (Ks s p)),H):=by
 have h1:M.run eB [.str s,.str p] H=some (.ret (.bool (Ks s p)),H):=by
  rw [cq M hS.internal_stringslite_HasSuffix rfl (c:=jJ) rfl,jJ];cases hd:decide (p.length≤s.length) with
  |true=>
   have hle:p.length≤s.length:=of_decide_eq_true hd
   have hw:IntKind.i64.wrap ((s.length:Int)-(p.length:Int))=((s.length-p.length:Nat):Int):=by
    simp only [cf] at hs;rw [ey (by omega) (by omega)];omega
   simp (maxSteps:=3000000) (maxDischargeDepth:=6) +contextual -implicitDefEqProofs only [amC M,↓amD,Nat.reduceBEq,Nat.reduceAdd,env,ao,Km,Ks,hd,hw,FG (show s.length-p.length≤s.length by omega)]
  |false=>
   simp (maxSteps:=3000000) (maxDischargeDepth:=6) +contextual -implicitDefEqProofs only [amC M,↓amD,Nat.reduceBEq,Nat.reduceAdd,env,ao,Km,Ks,hd]
 rw [cq M hS.strings_HasSuffix rfl (c:=p6) rfl,p6];simp (maxSteps:=3000000) (maxDischargeDepth:=6) +contextual -implicitDefEqProofs only [amC M,↓amD,Nat.reduceBEq,Nat.reduceAdd,env,ao,KE,h1]
end
section
attribute [local congr] au bc aM aw aL aE aA ah aj aF aG
variable{E:aT}(M:bk bK E)
theorem ia0{H H0:List AObj}(hS:so E){s:Str}(hs:s.length≤cf){p:Nat}{T:TypeId}(hp:H[p]?=some (.cells Kq T))(hc:dQ H0 H)(k:List Fra):∀ (n i:Nat) (He:List AObj),i+n=s.length →
  M.go di H0 (.c py :: .lp ⟨(some [0,6,8]),[],false⟩ py He :: .blk 0 :: .c (.lv [])::k) (kv [(0,.str s),(6,.ptr p 0),(8,.int .i64 i)]) H =
   orE (qL (LU nd) i (s.drop i)) (H.take H0.length) (M.go di H0 k .leaf H)
 |0,i,He,h=>by
  have e:i=s.length:=by omega
  subst e;rw [aH M py.eq_1];simp (maxSteps:=3000000) (maxDischargeDepth:=6) +contextual -implicitDefEqProofs only [amC M,↓amD,Nat.reduceBEq,Nat.reduceAdd,env,ao,ft,Nat.lt_irrefl,List.drop_length]
 |n+1,i,He,h=>by
  have hi:i<s.length:=by omega
  have hx:s[i]?=some s[i]:=List.getElem?_eq_getElem hi;have hd:(s.drop i)=s[i]::s.drop (i+1):=List.drop_eq_getElem_cons hi;have hm:s[i]∈s:=List.getElem_mem hi;have ih:=fun He=>ia0 (H:=H) (H0:=H0) (hS:=hS) (s:=s) (hs:=hs) (p:=p) (T:=T) (hp:=hp) hc k n (i+1)  He (by omega)
  simp only [kv_cons,kv_nil] at ih;rw [aH M py.eq_1];simp (maxSteps:=3000000) (maxDischargeDepth:=6) +contextual -implicitDefEqProofs only [amC M,↓amD,Nat.reduceBEq,Nat.reduceAdd,env,ao,ft,hx,hd,hi,ih,Lg M hS hp,iX hi hs,LU,hc]
theorem LA{α:Type}(p:α→Bool):∀ (l:List α) (i:Nat),decide ((0:Int)≤sq p i l)=false→sq p i l = -1
 |[],_,_=>rfl
 |x::l,i,h=>by
  rw [sq] at h ⊢;cases hx:p x with
  |true=>rw [hx] at h;simp [sel] at h
  |false=>rw [hx] at h;exact LA p l (i+1) h
theorem Lh(hS:so E)(hX:sk M){s:Str}(hs:s.length≤cf)(H:List AObj):M.run lL [.str s,.str [62,125]] H=some (.ret (.int .i64 (sq nd 0 s)),H):=by
 have h8:∀ H,M.run gu [.int .i64 (s.length:Int)] H=some (.ret (.bool (decide ((8:Int)<(s.length:Int)))),H):=fun H=>by
  rw [cq M hS.strings_shouldUseASCIISet rfl (c:=k9) rfl,k9];simp (maxSteps:=3000000) (maxDischargeDepth:=6) +contextual -implicitDefEqProofs only [amC M,↓amD,Nat.reduceBEq,Nat.reduceAdd,env,ao,Kw]
 have e1:(([62,125]:Str) == [])=false:=rfl;have e2:(((([62,125]:Str).length:Nat):Int) == 1)=false:=rfl;have hmk:=LY M hS;rw [cq M hS.strings_IndexAny rfl (c:=qO) rfl,qO];cases hb:decide ((8:Int)<(s.length:Int)) with
 |true=>
  rw [hb] at h8;have hl:=fun k He=>ia0 M (H:=H++[.cells Kq lP]) (H0:=H) hS hs (p:=H.length) (T:=lP) (by rw [aR];rfl) (cut_app H _) k s.length 0 He (by omega)
  simp only [kv_cons,kv_nil,Int.ofNat_zero,List.drop_zero,hp_take] at hl
  have hst:stO 256 (H++[.cells KH lP]) H.length 0 Kq (some (.cells KH lP))=some (H++[.cells Kq lP]):=by
   simp only [stO];rw [if_pos ⟨rfl,by decide,rfl⟩,hp_set0,LW];rfl
  have hac:bR (.agg Kq)=some Kq:=rfl;simp (maxSteps:=3000000) (maxDischargeDepth:=6) +contextual -implicitDefEqProofs only [amC M,↓amD,Nat.reduceBEq,Nat.reduceAdd,env,ao,ft,↓Me,e1,e2,h8,hmk,hac,hst,aR,List.getElem?_cons_zero,(show ∀ H,o1 (some H)=some (dm,H) from fun _=>rfl),hl,cut_app,hp_take];exact K9 _ _ _ _
 |false=>
  rw [hb] at h8;have hl:=fun k He=>ia1 M hS hX hs (H0:=H) k s.length 0 He (by omega) (by omega)
  simp only [kv_cons,kv_nil,Int.ofNat_zero,List.drop_zero] at hl;cases hp:decide ((0:Int)≤sq nd 0 s) with
  |true=>
   rw [hp] at hl;simp (maxSteps:=3000000) (maxDischargeDepth:=6) +contextual -implicitDefEqProofs only [amC M,↓amD,Nat.reduceBEq,Nat.reduceAdd,env,ao,ft,e1,e2,h8,rrg,hl]
  |false=>
   rw [hp] at hl;rw [LA _ _ _ hp];simp (maxSteps:=3000000) (maxDischargeDepth:=6) +contextual -implicitDefEqProofs only [amC M,↓amD,Nat.reduceBEq,Nat.reduceAdd,env,ao,ft,e1,e2,h8,rrg,hl,cut_app,hp_take]
end
section
attribute [local congr] au bc aM aw aL aE aA ah aj aF aG
variable{E:aT}(M:bk bK E)
theorem LF(x y:ae):req (.st [(0,.int .u8),(1,.str),(2,.bool)]) (.agg x.row) (.agg y.row)=some ((x.kind == y.kind)&&(x.text == y.text)&&(x.car == y.car)):=by
 simp only [req,pS,ae.row,List.getElem?_cons_zero,List.getElem?_cons_succ,uP];cases x.kind == y.kind<;>simp
 cases x.text == y.text<;>simp
 cases x.car == y.car<;>rfl
theorem spl{H H0:List AObj}{l:List ae}{ta tb_1:Tag}(hl:l.length≤cf)(hc:dQ H0 H)(k:List Fra):∀ (n i:Nat) (He:List AObj),i+n=l.length →
  M.go dY H0 (.c kG :: .lp ⟨(some [0,1,5]),[],false⟩ kG He :: .blk 0 :: .c (.lv [])::k) (kv [(0,.slice ta 3 (l.map ae.row)),(1,.slice tb_1 3 (l.map ae.row)),(5,.int .i64 i)]) H =
   (M.go dY H0 k .leaf H)
 |0,i,He,h=>by
  have e:i=l.length:=by omega
  subst e;rw [aH M kG.eq_1];simp (maxSteps:=3000000) (maxDischargeDepth:=6) +contextual -implicitDefEqProofs only [amC M,↓amD,Nat.reduceBEq,Nat.reduceAdd,env,ao,Kk,Nat.lt_irrefl,List.drop_length]
 |n+1,i,He,h=>by
  have hi:i<l.length:=by omega
  have hx:l[i]?=some l[i]:=List.getElem?_eq_getElem hi;have hd:(l.drop i)=l[i]::l.drop (i+1):=List.drop_eq_getElem_cons hi;have hm:l[i]∈l:=List.getElem_mem hi;have ih:=fun He=>spl (H:=H) (H0:=H0) (l:=l) (ta:=ta) (tb_1:=tb_1) (hl:=hl) hc k n (i+1)  He (by omega)
  simp only [kv_cons,kv_nil] at ih;rw [aH M kG.eq_1];simp (maxSteps:=3000000) (maxDischargeDepth:=6) +contextual -implicitDefEqProofs only [amC M,↓amD,Nat.reduceBEq,Nat.reduceAdd,env,ao,Kk,hx,hd,hi,ih,iX hi hl,bD hi,bg,LF,beq_self_eq_true]
theorem KB(hB:nS E){l:List ae}{ta tb_1:Tag}(hl:l.length≤cf)(H:List AObj):M.run bF [.slice ta 3 (l.map ae.row),.slice tb_1 3 (l.map ae.row)] H=some (.ret (.bool true),H):=by
 rw [cq M hB.truchmanref01_SamePieces rfl (c:=lQ) rfl,lQ];have h1:=fun k He=>spl M (ta:=ta) (tb_1:=tb_1) hl (cut_refl H) k l.length 0 He (by omega)
 simp only [kv_cons,kv_nil,Int.ofNat_zero] at h1;simp (maxSteps:=3000000) (maxDischargeDepth:=6) +contextual -implicitDefEqProofs only [amC M,↓amD,Nat.reduceBEq,Nat.reduceAdd,env,ao,Kk,beq_self_eq_true,h1]
theorem Ls{l:List ae}(h:jP l=0):l.length≤512:=by
 unfold jP at h;cases hb:decide ((512:Int)<(l.length:Int)) with
 |true=>rw [hb] at h;cases h
 |false=>have:=of_decide_eq_false hb;omega
end
section
attribute [local congr] au bc aM aw aL aE aA ah aj aF aG
variable{E:aT}(M:bk bK E)
theorem KI{p:UInt8→Bool}:∀ (l:Str) (i:Nat),(sq p i l = -1∧sq p (i+1) l = -1)∨∃ j,j<l.length∧sq p i l=((i+j:Nat):Int)∧sq p (i+1) l=((i+1+j:Nat):Int)∧p (l.getD j 0)=true∧∀ k,k<j→p (l.getD k 0)=false
 |[],i=>.inl ⟨rfl,rfl⟩
 |c::l,i=>by
  cases h:p c with
  |true=>exact .inr ⟨0,by simp,by simp [sq,h,sel],by simp [sq,h,sel],h,fun k hk=>absurd hk (Nat.not_lt_zero _)⟩
  |false=>
   rcases KI (p:=p) l (i+1) with ⟨h1,h2⟩ | ⟨j,h1,h2,h3,h4,h5⟩
   ·exact .inl ⟨by simp [sq,h,sel,h1],by simp [sq,h,sel,h2]⟩
   ·refine .inr ⟨j+1,by simpa using h1,by simp [sq,h,sel,h2];omega,by simp [sq,h,sel,h3];omega,by simpa using h4,fun k hk => ?_⟩
    cases k with
    |zero=>exact h
    |succ k=>simpa using h5 k (by omega)
def mkB(c:UInt8)(b:Str):ae:=
 sel (c == 123) ⟨5,b,false⟩ (sel (Ki b [47,43]) ⟨3,b.drop 2,true⟩ (sel (Ki b [47]) ⟨3,b.drop 1,false⟩ (sel (Ki b [43]) ⟨2,b.drop 1,true⟩ (sel (Ks b [47]) ⟨4,b.take (b.length-1),false⟩ ⟨2,b,false⟩))))
def mkT(c:UInt8)(t:Str)(j:Nat):Bool:=sj (mkB c (t.take j)).text&&(wrF (mkB c (t.take j)) == c::t.take (j+1))
def mkO:Str→Option (ae×Nat)
 |[]=>none
 |c::t=>sel (decide (sq nd 0 t<0)) none (sel (mkT c t (sq nd 0 t).toNat) (some (mkB c (t.take (sq nd 0 t).toNat),(sq nd 0 t).toNat+2)) none)
def mkV(o:Option (ae×Nat)):AV:=match o with
 |none=>.tuple [.agg (ae.row dP),.int .i64 0]
 |some (p,n)=>.tuple [.agg p.row,.int .i64 (n:Int)]
theorem LZ(b:Bool)(o:Option (ae×Nat)):mkV (sel b o none)=slc b (mkV o) (mkV none):=by cases b<;>rfl
theorem Lt(hB:nS E)(hS:so E)(hX:sk M){c:UInt8}{t:Str}(hc:(c == 60)=true∨(c == 123)=true)(ht:t.length+1≤140737488351232)(H:List AObj) :
  M.run kf [.str (c::t)] H=some (.ret (mkV (mkO (c::t))),H):=by
 have hml:(c::t).length≤cf:=by simp only [cf,List.length_cons];omega
 have hIA:=fun H=>Lh M hS hX hml H
 have hce:nd c=false:=by rcases hc with h | h<;>(have:=eq_of_beq h;subst this;rfl)
 have hz:dP.row=[.int .u8 0,.str [],.bool false]:=rfl;rw [mkO];rcases KI (p:=nd) t 0 with ⟨h1,h2⟩ | ⟨j,hj,h1,h2,h3,h4⟩
 ·have e:sq nd 0 (c::t) = -1:=by rw [sq,hce,sel_false];exact h2
  rw [h1,show decide ((-1:Int)<0)=true from rfl,sel_true];rw [e] at hIA;rw [cq M hS.docs_marked rfl (c:=xi) rfl,xi];simp (maxSteps:=3000000) (maxDischargeDepth:=6) +contextual -implicitDefEqProofs only [amC M,↓amD,Nat.reduceBEq,Nat.reduceAdd,env,ao,Kn,amG,AV.cell,Nat.reduceMul,Nat.reduceLeDiff,hIA,(show decide ((-1:Int)<0)=true from rfl),aR,hp_set0,mkV,hz,cut_app,hp_take]
 ·have e:sq nd 0 (c::t)=((1+j:Nat):Int):=by rw [sq,hce,sel_false];simpa using h2
  have e1:sq nd 0 t=(j:Int):=by simpa using h1
  have d0:decide ((j:Int)<0)=false:=decide_eq_false (by omega);have d1:decide (((1+j:Nat):Int)<0)=false:=decide_eq_false (by omega)
  have hsl:yJ (.str (c::t)) (some (.int .i64 1)) (some (.int .i64 ((1+j:Nat):Int)))=some (.str (t.take j)):=by
   have:=FH (s:=c::t) (k:=.i64) (k':=.i64) (i:=1) (j:=1+j) (by omega) (by simp;omega);rw [show ((1:Nat):Int)=1 from rfl] at this;rw [this,show 1+j-1=j by omega];rfl
  have hw:IntKind.i64.wrap (((1+j:Nat):Int)+1)=((j+2:Nat):Int):=by rw [ey (by omega) (by omega)];omega
  have hs2:yJ (.str (c::t)) none (some (.int .i64 ((j+2:Nat):Int)))=some (.str (c::t.take (j+1))):=by
   rw [Lq (by simp;omega)];rfl
  have hbl:(t.take j).length≤140737488351232:=by simp;omega
  have hc0:((c.toNat:Int) == 123)=(c == 123):=by
   rw [Bool.eq_iff_iff,beq_iff_eq,beq_iff_eq];constructor
   ·intro h;exact UInt8.toNat_inj.1 (by have:(123:UInt8).toNat=123:=rfl;omega)
   ·rintro rfl;rfl
  rw [e1,d0,sel_false,show (j:Int).toNat=j from rfl,mkT,LZ];rw [e] at hIA;have hpx:=fun p H=>K7 M hS (t.take j) p H
  have hsx:=fun p H=>K8 M hS (s:=t.take j) (by simp only [cf];omega) p H
  generalize t.take j=b at hsl hbl hpx hsx;cases h5:c == 123 with
  |true=>
   have hN:=fun H=>B4 M hB (s:=(⟨5,b,false⟩:ae).text) (by simp only [cf,List.length_drop,List.length_take];omega) H
   have hW:=fun H=>A2 M hS (x:=⟨5,b,false⟩) rfl (by simp only [List.length_drop,List.length_take];omega) H
   have hm:mkB c b=⟨5,b,false⟩:=by rw [mkB,h5];rfl
   rw [hm];simp only [ae.row] at hW;rw [cq M hS.docs_marked rfl (c:=xi) rfl,xi];simp (maxSteps:=3000000) (maxDischargeDepth:=6) +contextual -implicitDefEqProofs only [amC M,↓amD,Nat.reduceBEq,Nat.reduceAdd,env,ao,Kn,amG,AV.cell,Nat.reduceMul,Nat.reduceLeDiff,hIA,d1,hsl,hw,hs2,bg,aR,hp_set0,hc0,List.getElem?_cons_zero,hpx,hsx,mkV,hz,cut_app,hp_take,ae.row,hN,hW,h5];rw [← Bool.not_and,slc_not];rfl
  |false=>
  cases hp1:Ki b [47,43] with
  |true=>
   have hl2:2≤b.length:=by unfold Ki at hp1;simp at hp1;exact hp1.1
   have hs3:=FG (s:=b) (k:=.i64) (i:=2) hl2;rw [show ((2:Nat):Int)=2 from rfl] at hs3;have hN:=fun H=>B4 M hB (s:=(⟨3,b.drop 2,true⟩:ae).text) (by simp only [cf,List.length_drop,List.length_take];omega) H
   have hW:=fun H=>A2 M hS (x:=⟨3,b.drop 2,true⟩) rfl (by simp only [List.length_drop,List.length_take];omega) H
   have hm:mkB c b=⟨3,b.drop 2,true⟩:=by rw [mkB,h5,hp1];rfl
   rw [hm];simp only [ae.row] at hW;rw [cq M hS.docs_marked rfl (c:=xi) rfl,xi];simp (maxSteps:=3000000) (maxDischargeDepth:=6) +contextual -implicitDefEqProofs only [amC M,↓amD,Nat.reduceBEq,Nat.reduceAdd,env,ao,Kn,amG,AV.cell,Nat.reduceMul,Nat.reduceLeDiff,hIA,d1,hsl,hw,hs2,bg,aR,hp_set0,hc0,List.getElem?_cons_zero,hpx,hsx,mkV,hz,cut_app,hp_take,ae.row,hN,hW,hs3,h5,hp1];rw [← Bool.not_and,slc_not];rfl
  |false=>
  cases hp2:Ki b [47] with
  |true=>
   have hl2:1≤b.length:=by unfold Ki at hp2;simp at hp2;omega
   have hs3:=FG (s:=b) (k:=.i64) (i:=1) hl2;rw [show ((1:Nat):Int)=1 from rfl] at hs3;have hN:=fun H=>B4 M hB (s:=(⟨3,b.drop 1,false⟩:ae).text) (by simp only [cf,List.length_drop,List.length_take];omega) H
   have hW:=fun H=>A2 M hS (x:=⟨3,b.drop 1,false⟩) rfl (by simp only [List.length_drop,List.length_take];omega) H
   have hm:mkB c b=⟨3,b.drop 1,false⟩:=by rw [mkB,h5,hp1,hp2];rfl
   rw [hm];simp only [ae.row] at hW;rw [cq M hS.docs_marked rfl (c:=xi) rfl,xi];simp (maxSteps:=3000000) (maxDischargeDepth:=6) +contextual -implicitDefEqProofs only [amC M,↓amD,Nat.reduceBEq,Nat.reduceAdd,env,ao,Kn,amG,AV.cell,Nat.reduceMul,Nat.reduceLeDiff,hIA,d1,hsl,hw,hs2,bg,aR,hp_set0,hc0,List.getElem?_cons_zero,hpx,hsx,mkV,hz,cut_app,hp_take,ae.row,hN,hW,hs3,h5,hp1,hp2];rw [← Bool.not_and,slc_not];rfl
  |false=>
  cases hp3:Ki b [43] with
  |true=>
   have hl2:1≤b.length:=by unfold Ki at hp3;simp at hp3;omega
   have hs3:=FG (s:=b) (k:=.i64) (i:=1) hl2;rw [show ((1:Nat):Int)=1 from rfl] at hs3;have hN:=fun H=>B4 M hB (s:=(⟨2,b.drop 1,true⟩:ae).text) (by simp only [cf,List.length_drop,List.length_take];omega) H
   have hW:=fun H=>A2 M hS (x:=⟨2,b.drop 1,true⟩) rfl (by simp only [List.length_drop,List.length_take];omega) H
   have hm:mkB c b=⟨2,b.drop 1,true⟩:=by rw [mkB,h5,hp1,hp2,hp3];rfl
   rw [hm];simp only [ae.row] at hW;rw [cq M hS.docs_marked rfl (c:=xi) rfl,xi];simp (maxSteps:=3000000) (maxDischargeDepth:=6) +contextual -implicitDefEqProofs only [amC M,↓amD,Nat.reduceBEq,Nat.reduceAdd,env,ao,Kn,amG,AV.cell,Nat.reduceMul,Nat.reduceLeDiff,hIA,d1,hsl,hw,hs2,bg,aR,hp_set0,hc0,List.getElem?_cons_zero,hpx,hsx,mkV,hz,cut_app,hp_take,ae.row,hN,hW,hs3,h5,hp1,hp2,hp3];rw [← Bool.not_and,slc_not];rfl
  |false=>
  cases hp4:Ks b [47] with
  |true=>
   have hl2:1≤b.length:=by unfold Ks at hp4;simp at hp4;omega
   have hs3:=Lq (s:=b) (k:=.i64) (i:=b.length-1) (by omega);have hw3:IntKind.i64.wrap ((b.length:Int)-1)=((b.length-1:Nat):Int):=by rw [ey (by omega) (by omega)];omega
   have hN:=fun H=>B4 M hB (s:=(⟨4,b.take (b.length-1),false⟩:ae).text) (by simp only [cf,List.length_drop,List.length_take];omega) H
   have hW:=fun H=>A2 M hS (x:=⟨4,b.take (b.length-1),false⟩) rfl (by simp only [List.length_drop,List.length_take];omega) H
   have hm:mkB c b=⟨4,b.take (b.length-1),false⟩:=by rw [mkB,h5,hp1,hp2,hp3,hp4];rfl
   rw [hm];simp only [ae.row] at hW;rw [cq M hS.docs_marked rfl (c:=xi) rfl,xi];simp (maxSteps:=3000000) (maxDischargeDepth:=6) +contextual -implicitDefEqProofs only [amC M,↓amD,Nat.reduceBEq,Nat.reduceAdd,env,ao,Kn,amG,AV.cell,Nat.reduceMul,Nat.reduceLeDiff,hIA,d1,hsl,hw,hs2,bg,aR,hp_set0,hc0,List.getElem?_cons_zero,hpx,hsx,mkV,hz,cut_app,hp_take,ae.row,hN,hW,hs3,hw3,h5,hp1,hp2,hp3,hp4];rw [← Bool.not_and,slc_not];rfl
  |false=>
   have hN:=fun H=>B4 M hB (s:=(⟨2,b,false⟩:ae).text) (by simp only [cf,List.length_drop,List.length_take];omega) H
   have hW:=fun H=>A2 M hS (x:=⟨2,b,false⟩) rfl (by simp only [List.length_drop,List.length_take];omega) H
   have hm:mkB c b=⟨2,b,false⟩:=by rw [mkB,h5,hp1,hp2,hp3,hp4];rfl
   rw [hm];simp only [ae.row] at hW;rw [cq M hS.docs_marked rfl (c:=xi) rfl,xi];simp (maxSteps:=3000000) (maxDischargeDepth:=6) +contextual -implicitDefEqProofs only [amC M,↓amD,Nat.reduceBEq,Nat.reduceAdd,env,ao,Kn,amG,AV.cell,Nat.reduceMul,Nat.reduceLeDiff,hIA,d1,hsl,hw,hs2,bg,aR,hp_set0,hc0,List.getElem?_cons_zero,hpx,hsx,mkV,hz,cut_app,hp_take,ae.row,hN,hW,h5,hp1,hp2,hp3,hp4];rw [← Bool.not_and,slc_not];rfl
end
theorem Un.ok.wk{n:Nat}{x:Un}(h:x.ok n):WkL n x.row x.row:=⟨wk_int _ _ _,wk_bool _ _,trivial⟩
theorem Fit.ok.wk{n:Nat}{x:Fit}(h:x.ok n):WkL n x.row x.row:=⟨wk_bool _ _,wk_int _ _ _,trivial⟩
section
attribute [local congr] au bc aM aw aL aE aA ah aj aF aG
variable{E:aT}(M:bk bK E)
def L0(r:Nat):Str:=(Utf8.encode (r:Int)).data.toList
end
def L5(r:Nat):Prop:=L0 r≠[]∧Hu r (L0 r).length=false∧∀ t,b8 (L0 r++t)=(r,(L0 r).length)
def txP(rs:List Nat):ae:=⟨1,xJ rs,false⟩
def Tx(x:ae):Prop:=(x.kind == 1)=false∨∃ rs,rs≠[]∧(∀ r∈rs,L5 r)∧x=txP rs
def Sg(x:ae):Prop:=(x.kind == 1)=false∨∃ r,L5 r∧x=txP [r]
theorem Sg.tx{x:ae}(h:Sg x):Tx x:=by
 rcases h with h | ⟨r,h1,h2⟩
 ·exact .inl h
 ·exact .inr ⟨[r],by simp,fun y hy=>by simp at hy;subst hy;exact h1,h2⟩
theorem k12{x:ae}(h:(x.kind == 1)=true):(x.kind == 2)=false∧(x.kind == 3)=false∧(x.kind == 5)=false:=by
 rw [eq_of_beq h];exact ⟨rfl,rfl,rfl⟩
structure L8 (p:ae) (n:Nat) (s:Str):Prop where
 name:sj p.text=true
 kind:p.kind=2∨p.kind=3∨(p.kind=4∧p.car=false)∨(p.kind=5∧p.car=false)
 wr:wrF p=s.take n
 len:n=(wrF p).length
theorem Ll{s:Str}(h:sj s=true):s.all inN=true∧∃ d u,s=d::u∧97≤d.toNat∧d.toNat≤122:=by
 cases s with
 |nil=>cases h
 |cons d u=>
  simp only [sj,Bool.and_eq_true,decide_eq_true_eq] at h;exact ⟨h.2,d,u,rfl,by omega,by omega⟩
theorem KK{c:UInt8}(h:inN c=true):nd c=false∧(c == 47)=false∧(c == 43)=false∧(c == 62)=false∧(c == 125)=false:=by
 have key:∀ n:Fin 256,inN (UInt8.ofNat n.val)=true→nd (UInt8.ofNat n.val)=false∧(UInt8.ofNat n.val == 47)=false∧(UInt8.ofNat n.val == 43)=false∧(UInt8.ofNat n.val == 62)=false∧(UInt8.ofNat n.val == 125)=false:=by decide
 have:=key ⟨c.toNat,c.toNat_lt⟩;simp only [UInt8.ofNat_toNat] at this;exact this h
theorem LB{p:UInt8→Bool}:∀ (b:Str) (e:UInt8) (rest:Str) (i:Nat),(∀ x∈b,p x=false)→p e=true→sq p i (b++e::rest)=((i+b.length:Nat):Int)
 |[],e,rest,i,_,he=>by simp [sq,he,sel]
 |x::b,e,rest,i,hb,he=>by
  have h1:=hb x (List.mem_cons_self ..);rw [List.cons_append,sq,h1,sel_false,LB b e rest (i+1) (fun y hy=>hb y (List.mem_cons_of_mem _ hy)) he];simp;omega
theorem Lb{c e:UInt8}{b rest:Str}{p:ae}(he:nd e=true)(hb:∀ x∈b,nd x=false)(hp:mkB c b=p)(hn:sj p.text=true)(hw:wrF p=c::(b++[e])) :
  mkO (c::(b++e::rest))=some (p,b.length+2):=by
 have h1:=LB b e rest 0 hb he;rw [Nat.zero_add] at h1;have h2:(b++e::rest).take b.length=b:=List.take_left' rfl
 have h3:(b++e::rest).take (b.length+1)=b++[e]:=by
  rw [show b++e::rest=(b++[e])++rest by simp];exact List.take_left' (by simp)
 rw [mkO,h1,show decide (((b.length:Nat):Int)<0)=false from decide_eq_false (by omega),sel_false,mkT,show ((b.length:Nat):Int).toNat=b.length from rfl,h2,h3,hp,hn,hw];simp [sel]
theorem Kr{d:UInt8}{u p:Str}{q:UInt8}(h:(d == q)=false):Ki (d::u) (q::p)=false:=by
 unfold Ki;rw [Bool.and_eq_false_iff];right;rw [List.length_cons,List.take_succ_cons,beq_eq_false_iff_ne];intro e;simp at e h;exact h e.1
theorem KW(d:UInt8)(u:Str):Ki (d::u) [d]=true:=by simp [Ki]
theorem Lm(b:Str):Ks (b++[47]) [47]=true:=by simp [Ks]
theorem LG{b:Str}{x:UInt8}(h:(x == 47)=false):Ks (b++[x]) [47]=false:=by
 simp [Ks] at h ⊢;exact h
theorem L2{b:Str}(h:b≠[]):∃ a x,b=a++[x]:=⟨b.dropLast,b.getLast h,(List.dropLast_concat_getLast h).symm⟩
theorem L6{s:Str}{p:ae}{n:Nat}(h:mkO s=some (p,n)):L8 p n s:=by
 cases s with
 |nil=>cases h
 |cons c t=>
  rw [mkO] at h;cases h1:decide (sq nd 0 t<0) with
  |true=>rw [h1] at h;cases h
  |false=>
   rw [h1,sel_false] at h;rcases KI (p:=nd) t 0 with ⟨h2,_⟩ | ⟨j,hj,h2,_,_,_⟩
   ·rw [h2] at h1;cases h1
   ·rw [h2,show ((0+j:Nat):Int).toNat=j by simp] at h
    cases h3:mkT c t j with
    |false=>rw [h3] at h;cases h
    |true=>
     rw [h3] at h;simp only [sel,Option.some.injEq,Prod.mk.injEq] at h;obtain ⟨rfl,rfl⟩:=h;simp only [mkT,Bool.and_eq_true,beq_iff_eq] at h3;refine ⟨h3.1, ?_,by rw [h3.2];simp,by rw [h3.2];simp;omega⟩;unfold mkB;cases c == 123<;>cases Ki (t.take j) [47,43]<;>cases Ki (t.take j) [47]<;>cases Ki (t.take j) [43]<;>cases Ks (t.take j) [47]<;>simp [sel]
theorem Mf{s:Str}{p:ae}{n:Nat}(h:L8 p n s):mkO s=some (p,n):=by
 obtain ⟨hn,hk,hw,hl⟩:=h;obtain ⟨hall,d,u,ht,hd1,hd2⟩:=Ll hn;have hs:s=wrF p++s.drop n:=by rw [hw,List.take_append_drop]
 generalize s.drop n=rest at hs;have hin:∀ x∈p.text,inN x=true:=by simpa using hall
 have hne:∀ x∈p.text,nd x=false:=fun x hx=>(KK (hin x hx)).1
 have hd:=KK (hin d (by rw [ht];exact List.mem_cons_self ..));obtain ⟨k,tx_1,ca_1⟩:=p;dsimp only at *
 rcases hk with rfl | rfl | ⟨rfl,rfl⟩ | ⟨rfl,rfl⟩
 ·cases ca_1 with
  |false=>
   have e:wrF ⟨2,tx_1,false⟩=60::(tx_1++[62]):=by simp [wrF,jf,sel]
   have hm:mkB 60 tx_1=⟨2,tx_1,false⟩:=by
    obtain ⟨a,x,hax⟩:=L2 (b:=tx_1) (by rw [ht];simp);have hx:=KK (hin x (by rw [hax];simp));have q1:Ki tx_1 [47,43]=false:=by rw [ht];exact Kr hd.2.1
    have q2:Ki tx_1 [47]=false:=by rw [ht];exact Kr hd.2.1
    have q3:Ki tx_1 [43]=false:=by rw [ht];exact Kr hd.2.2.1
    have q4:Ks tx_1 [47]=false:=by rw [hax];exact LG hx.2.1
    rw [mkB,q1,q2,q3,q4];rfl
   have:=Lb (c:=60) (e:=62) (rest:=rest) rfl hne hm hn e;rw [hs,e,hl,e];simpa using this
  |true=>
   have e:wrF ⟨2,tx_1,true⟩=60::((43::tx_1)++[62]):=by simp [wrF,jf,sel]
   have hm:mkB 60 (43::tx_1)=⟨2,tx_1,true⟩:=by
    rw [mkB,Kr (d:=43) (q:=47) rfl,Kr (d:=43) (q:=47) rfl,KW];rfl
   have:=Lb (c:=60) (e:=62) (b:=43::tx_1) (rest:=rest) rfl (by intro x hx;rcases List.mem_cons.1 hx with rfl | hx;rfl;exact hne x hx) hm hn e;rw [hs,e,hl,e];simpa using this
 ·cases ca_1 with
  |false=>
   have e:wrF ⟨3,tx_1,false⟩=60::((47::tx_1)++[62]):=by simp [wrF,jf,sel]
   have hm:mkB 60 (47::tx_1)=⟨3,tx_1,false⟩:=by
    have q1:Ki (47::tx_1) [47,43]=false:=by
     rw [ht];unfold Ki;have:=hd.2.2.1;simp at this ⊢;exact this
    rw [mkB,q1,KW];rfl
   have:=Lb (c:=60) (e:=62) (b:=47::tx_1) (rest:=rest) rfl (by intro x hx;rcases List.mem_cons.1 hx with rfl | hx;rfl;exact hne x hx) hm hn e;rw [hs,e,hl,e];simpa using this
  |true=>
   have e:wrF ⟨3,tx_1,true⟩=60::((47::43::tx_1)++[62]):=by simp [wrF,jf,sel]
   have hm:mkB 60 (47::43::tx_1)=⟨3,tx_1,true⟩:=by
    have q1:Ki (47::43::tx_1) [47,43]=true:=by simp [Ki]
    rw [mkB,q1];rfl
   have:=Lb (c:=60) (e:=62) (b:=47::43::tx_1) (rest:=rest) rfl (by intro x hx;rcases List.mem_cons.1 hx with rfl | hx;rfl;rcases List.mem_cons.1 hx with rfl | hx;rfl;exact hne x hx) hm hn e;rw [hs,e,hl,e];simpa using this
 ·have e:wrF ⟨4,tx_1,false⟩=60::((tx_1++[47])++[62]):=by simp [wrF,sel]
  have hm:mkB 60 (tx_1++[47])=⟨4,tx_1,false⟩:=by
   have q1:Ki (tx_1++[47]) [47,43]=false:=by rw [ht];exact Kr hd.2.1
   have q2:Ki (tx_1++[47]) [47]=false:=by rw [ht];exact Kr hd.2.1
   have q3:Ki (tx_1++[47]) [43]=false:=by rw [ht];exact Kr hd.2.2.1
   rw [mkB,q1,q2,q3,Lm];simp [sel]
  have:=Lb (c:=60) (e:=62) (b:=tx_1++[47]) (rest:=rest) rfl (by intro x hx;rcases List.mem_append.1 hx with hx | hx;exact hne x hx;simp at hx;subst hx;rfl) hm hn e;rw [hs,e,hl,e];simpa using this
 ·have e:wrF ⟨5,tx_1,false⟩=123::(tx_1++[125]):=by simp [wrF,sel]
  have hm:mkB 123 tx_1=⟨5,tx_1,false⟩:=rfl;have:=Lb (c:=123) (e:=125) (rest:=rest) rfl hne hm hn e;rw [hs,e,hl,e];simpa using this
def Lu(c:UInt8):UInt8:=if (c == 123)=true then 125 else 62
theorem Lo{p:ae}(hn:sj p.text=true)(hk:p.kind=2∨p.kind=3∨(p.kind=4∧p.car=false)∨(p.kind=5∧p.car=false)) :
  ∃ (c:UInt8) (w:Str),wrF p=c::(w++[Lu c])∧∀ x∈c::w,(x == Lu c)=false:=by
 obtain ⟨hall,d,u,ht,hd1,hd2⟩:=Ll hn;have hin:∀ x∈p.text,inN x=true:=by simpa using hall
 have h62:∀ x∈p.text,(x == 62)=false:=fun x hx=>(KK (hin x hx)).2.2.2.1
 have h125:∀ x∈p.text,(x == 125)=false:=fun x hx=>(KK (hin x hx)).2.2.2.2
 obtain ⟨k,tx_1,ca_1⟩:=p;dsimp only at *
 rcases hk with rfl | rfl | ⟨rfl,rfl⟩ | ⟨rfl,rfl⟩
 ·refine ⟨60,jf ⟨2,tx_1,ca_1⟩++tx_1,by cases ca_1<;>simp [wrF,jf,sel,Lu],fun x hx => ?_⟩
  rcases List.mem_cons.1 hx with rfl | hx
  ·rfl
  rcases List.mem_append.1 hx with hx | hx
  ·cases ca_1
   ·cases hx
   ·simp [jf,sel] at hx;subst hx;rfl
  ·exact h62 x hx
 ·refine ⟨60,47::(jf ⟨3,tx_1,ca_1⟩++tx_1),by cases ca_1<;>simp [wrF,jf,sel,Lu],fun x hx => ?_⟩
  rcases List.mem_cons.1 hx with rfl | hx
  ·rfl
  rcases List.mem_cons.1 hx with rfl | hx
  ·rfl
  rcases List.mem_append.1 hx with hx | hx
  ·cases ca_1
   ·cases hx
   ·simp [jf,sel] at hx;subst hx;rfl
  ·exact h62 x hx
 ·refine ⟨60,tx_1++[47],by simp [wrF,sel,Lu],fun x hx => ?_⟩
  rcases List.mem_cons.1 hx with rfl | hx
  ·rfl
  rcases List.mem_append.1 hx with hx | hx
  ·exact h62 x hx
  ·simp at hx;subst hx;rfl
 ·refine ⟨123,tx_1,by simp [wrF,sel,Lu],fun x hx => ?_⟩
  rcases List.mem_cons.1 hx with rfl | hx
  ·rfl
  ·exact h125 x hx
section
attribute [local congr] au bc aM aw aL aE aA ah aj aF aG
variable{E:aT}(M:bk bK E)
def KA(N:Nat)(e:TypeId)(sz:Nat)(G:List AObj)(v:AV)(rows:List (List AV)):Prop:=
 (rows=[]∧v = .slice .nil sz [])∨∃ t,N≤t∧v = .slice (.own t) sz rows∧G[t]?=some (.tok (rows.length*sz) e)
def Lc(N b:Nat)(e:TypeId)(G G':List AObj):Prop:=
 G.length≤G'.length∧(∀ i,i<N→i≠b→G'[i]?=G[i]?)∧∀ i,i<G.length→i≠b→(∀ n,G[i]?≠some (.tok n e))→G'[i]?=G[i]?
theorem Lc.refl(N b:Nat)(e:TypeId)(G:List AObj):Lc N b e G G:=⟨Nat.le_refl _,fun _ _ _=>rfl,fun _ _ _ _=>rfl⟩
theorem KA.cell{N:Nat}{e:TypeId}{sz:Nat}{G:List AObj}{v:AV}{rows:List (List AV)}(h:KA N e sz G v rows):v.cell=true∧bR v=some [v]:=by
 rcases h with ⟨_,rfl⟩ | ⟨t,_,rfl,_⟩<;>exact ⟨rfl,rfl⟩
theorem KA.len{N:Nat}{e:TypeId}{sz:Nat}{G:List AObj}{v:AV}{rows:List (List AV)}(h:KA N e sz G v rows)(H:List AObj):nA H .sl v=some (.int .i64 (rows.length:Int)):=by
 rcases h with ⟨rfl,rfl⟩ | ⟨t,_,rfl,_⟩<;>rfl
theorem KA.wk{N:Nat}{e:TypeId}{sz:Nat}{G:List AObj}{v:AV}{rows:List (List AV)}(h:KA N e sz G v rows)(hr:gE G.length rows):Wk G.length v v:=by
 rcases h with ⟨rfl,rfl⟩ | ⟨t,_,rfl,hg⟩
 ·exact wk_slice trivial (vN _)
 ·exact wk_slice (gp hg) hr
theorem KA.stay{N:Nat}{e:TypeId}{sz:Nat}{G G':List AObj}{v:AV}{rows:List (List AV)}(h:KA N e sz G v rows)(hs:∀ t,N≤t→G[t]?=some (.tok (rows.length*sz) e)→G'[t]?=G[t]?):KA N e sz G' v rows:=by
 rcases h with ⟨h1,h2⟩ | ⟨t,ht,h1,hg⟩
 ·exact .inl ⟨h1,h2⟩
 ·exact .inr ⟨t,ht,h1,by rw [hs t ht hg];exact hg⟩
theorem LM{N:Nat}{e:TypeId}{sz bytes:Nat}{G:List AObj}{v:AV}{rows:List (List AV)}(h:KA N e sz G v rows)(hN:N≤G.length){r:List AV}(h1:r.length=sz)(h2:r.all AV.cell=true)(h3:r.map AV.strip=r)
  (hl:(rows.length+1)*bytes≤140737488355328) (hl2:rows.length+1≤4611686018427387904) :
  ∃ v' G',rap false G e sz bytes false v (.slice .full sz [r])=some (v',G')∧KA N e sz G' v' (rows++[r])∧G.length≤G'.length∧(∀ i,i<N→G'[i]?=G[i]?)∧∀ i,i<G.length→(∀ n,G[i]?≠some (.tok n e))→G'[i]?=G[i]? := by
 have hr:=vS h1 h2;rcases h with ⟨rfl,rfl⟩ | ⟨t,ht,rfl,hg⟩
 ·refine ⟨.slice (.own G.length) sz [r],G++[.tok (1*sz) e], ?_,.inr ⟨G.length,hN,rfl,by rw [aR];rfl⟩,by simp,fun i hi=>List.getElem?_append_left (by omega),fun i hi _=>List.getElem?_append_left hi⟩
  simp only [rap,tO,nB,or_true,if_true,List.length_nil,List.length_cons,Nat.zero_add,true_or,true_and,hr,and_true,List.nil_append,List.map_cons,List.map_nil,h3];rw [if_pos ⟨by simpa using hl,by omega⟩]
 ·refine ⟨.slice (.own t) sz (rows++[r]),G.set t (.tok (rows.length*sz+1*sz) e), ?_,.inr ⟨t,ht,rfl, ?_⟩,by simp,fun i hi => ?_,fun i hi hn => ?_⟩
  ·simp only [rap,tO,nB,or_true,if_true,List.length_cons,List.length_nil,Nat.zero_add,true_and,hr,and_true,hg,List.map_cons,List.map_nil,h3]
   rw [if_pos ⟨hl,by omega⟩]
  ·rw [List.getElem?_set_self (gp hg),List.length_append,Nat.add_mul];rfl
  ·rw [List.getElem?_set_ne (by omega)]
  ·rw [List.getElem?_set_ne (fun e1=>hn _ (by rw [← e1];exact hg))]
theorem KL{G:List AObj}{p off:Nat}{cs:List AV}{v:AV}{T:TypeId}(hc:v.cell=true)(ho:off<cs.length):stO 1 G p off [v] (some (.cells cs T))=some (G.set p (.cells (cs.set off v) T)):=by
 simp only [stO];rw [if_pos ⟨rfl,by omega,by simp [hc]⟩];rfl
structure KJ (N b:Nat) (G:List AObj) (w:Str):Prop where
 ex:∃ ad bv,G[b]?=some (.cells [ad,bv] aq)∧(ad = .nilp∨ad = .ptr b 0)∧KA N cD 1 G bv (dB w)
theorem LN{G:List AObj}{b:Nat}{x:AObj}(h:G[b]?=some x):G.set b x=G:=by
 refine List.ext_getElem? fun i => ?_
 by_cases e:b=i
 ·subst e;rw [List.getElem?_set_self (gp h),h]
 ·rw [List.getElem?_set_ne e]
theorem L9(hC:tb E)(hX:sk M){G:List AObj}{N b:Nat}{ad bv:AV}{w:Str}(hg:G[b]?=some (.cells [ad,bv] aq))(ha:ad = .nilp∨ad = .ptr b 0)(hv:KA N cD 1 G bv (dB w)) :
  M.run bU [.ptr b 0] G=some (.ret (.tuple []),G.set b (.cells [.ptr b 0,bv] aq)):=by
 have l0:∀ x y:AV,b9 none [x,y] 0=some x:=fun _ _=>rfl
 have hwb:=hv.wk (FP _ w);rcases ha with rfl | rfl
 ·have hwk:Ah G.length (.cells [.ptr b 0,bv] aq):=by
   intro c hc;simp at hc;rcases hc with rfl | rfl
   ·exact wk_ptr (gp hg)
   ·exact hwb
  have hu:Er G (.ptr b 0)=some (.ptr b 0):=by simp [Er,hg]
  have hf:Et G aq 2 (.ptr b 0)=some (.ptr b 0):=by simp [Et,hg]
  have hs:stO 1 G b 0 [.ptr b 0] (some (.cells [.nilp,bv] aq))=some (G.set b (.cells [.ptr b 0,bv] aq)):=KL rfl (by simp);have h1:=hX.same b 0;rw [cq M hC.strings_Builder_copyCheck rfl (c:=bW) rfl,bW];simp (maxSteps:=3000000) (maxDischargeDepth:=6) +contextual -implicitDefEqProofs only [amC M,↓amD,Nat.reduceBEq,Nat.reduceAdd,env,ao,gy,amG,AV.cell,Nat.reduceMul,Nat.reduceLeDiff,rnc,qU,hg,l0,FR,hu,hf,h1,hs,runit_mk,FS,AT hwk,wk_tuple]
  rw [List.take_of_length_le (by simp)]
 ·rw [LN hg]
  rw [cq M hC.strings_Builder_copyCheck rfl (c:=bW) rfl,bW];simp (maxSteps:=3000000) (maxDischargeDepth:=6) +contextual -implicitDefEqProofs only [amC M,↓amD,Nat.reduceBEq,Nat.reduceAdd,env,ao,gy,rnc,hg,l0,B6,FS,hp_self,wk_tuple]
theorem Lv(w:Str)(c:UInt8):dB (w++[c])=dB w++[[.int .u8 (c.toNat:Int)]]:=by simp [dB]
theorem KM(w:Str):(dB w).length=w.length:=by simp [dB]
theorem Li{G:List AObj}{b:Nat}{cs:List AV}{T:TypeId}(h:G[b]?=some (.cells cs T))(n:Nat)(e:TypeId):G[b]?≠some (.tok n e):=by rw [h];simp
theorem LO(hC:tb E)(hX:sk M){G:List AObj}{N b:Nat}{w:Str}(h:KJ N b G w)(hN:N≤G.length)(hl:w.length≤1000000000)(c:UInt8) :
  ∃ G',M.run bT [.ptr b 0,.int .u8 c.toNat] G=some (.ret .nilif,G')∧KJ N b G' (w++[c])∧Lc N b cD G G':=by
 obtain ⟨ad,bv,hg,ha,hv⟩:=h.ex;have hcc:=L9 M hC hX hg ha hv;have hlt:=gp hg;have hg1:(G.set b (.cells [.ptr b 0,bv] aq))[b]?=some (.cells [.ptr b 0,bv] aq):=List.getElem?_set_self hlt
 have hv1:KA N cD 1 (G.set b (.cells [.ptr b 0,bv] aq)) bv (dB w):=hv.stay fun t _ ht=>by
  rw [List.getElem?_set_ne];rintro rfl;rw [hg] at ht;cases ht
 obtain ⟨v',G2,a1,a2,a3,a4,a5⟩:=LM (bytes:=1) hv1 (by simpa using hN) (r:=[.int .u8 (c.toNat:Int)]) rfl rfl rfl (by rw [KM];omega) (by rw [KM];omega)
 have hg2:G2[b]?=some (.cells [.ptr b 0,bv] aq):=by
  rw [a5 b (by simpa using hlt) (fun n=>Li hg1 n _)];exact hg1
 refine ⟨G2.set b (.cells [.ptr b 0,v'] aq), ?_,⟨⟨.ptr b 0,v',List.getElem?_set_self (gp hg2),.inr rfl, ?_⟩⟩,⟨by simp at a3 ⊢;omega,fun i hi hne => ?_,fun i hi hne hn => ?_⟩⟩
 ·have l1:∀ x y:AV,b9 none [x,y] 1=some y:=fun _ _=>rfl
  have hst:stO 1 G2 b 1 [v'] (some (.cells [.ptr b 0,bv] aq))=some (G2.set b (.cells [.ptr b 0,v'] aq)):=KL a2.cell.1 (by simp);have hac:=a2.cell.2;generalize G.set b (.cells [.ptr b 0,bv] aq)=G1 at *
  rw [cq M hC.strings_Builder_WriteByte rfl (c:=k8) rfl,k8];simp (maxSteps:=3000000) (maxDischargeDepth:=6) +contextual -implicitDefEqProofs only [amC M,↓amD,Nat.reduceBEq,Nat.reduceAdd,env,ao,Ku,amG,AV.cell,Nat.reduceMul,Nat.reduceLeDiff,rnc,hcc,hg1,hg2,l1,a1,hac,hst,runit_mk]
 ·rw [Lv]
  exact a2.stay fun t _ ht=>by rw [List.getElem?_set_ne];rintro rfl;rw [hg2] at ht;cases ht
 ·rw [List.getElem?_set_ne (by omega),a4 i hi,List.getElem?_set_ne (by omega)]
 ·rw [List.getElem?_set_ne (by omega),a5 i (by simpa using hi) (fun n=>by rw [List.getElem?_set_ne (by omega)];exact hn n),List.getElem?_set_ne (by omega)]
theorem LP(hC:tb E){G:List AObj}{N b:Nat}{w:Str}(h:KJ N b G w)(hl:w.length≤1000000000):M.run cC [.ptr b 0] G=some (.ret (.str w),G):=by
 obtain ⟨ad,bv,hg,ha,hv⟩:=h.ex;have l1:∀ x y:AV,b9 none [x,y] 1=some y:=fun _ _=>rfl
 have hlen:=hv.len;rw [KM] at hlen
 have hu:∃ q,Ep bv=some q∧Bn G cD q (.int .i64 (w.length:Int))=some (.str w):=by
  rcases hv with ⟨h1,rfl⟩ | ⟨t,_,rfl,ht⟩
  ·have:w=[]:=by cases w with | nil=>rfl | cons c w=>cases h1
   subst this;exact ⟨_,rfl,by simp [Bn]⟩
  ·refine ⟨_,JL t w, ?_⟩
   cases w with
   |nil=>simp [dB,Bn]
   |cons c w=>
    have h1:=sm (c::w);have h2:=AU (c::w);simp only [dB,List.map_cons] at h1 h2 ht ⊢;simp only [Bn,ht,h1,h2];rw [if_pos];exact ⟨trivial,trivial,by simp,by simp at hl ⊢;omega,trivial⟩
 obtain ⟨q,h1,h2⟩:=hu;rw [cq M hC.strings_Builder_String rfl (c:=eH) rfl,eH];simp (maxSteps:=3000000) (maxDischargeDepth:=6) +contextual -implicitDefEqProofs only [amC M,↓amD,Nat.reduceBEq,Nat.reduceAdd,env,ao,mG,qU,rnc,hg,l1,hlen,h1,h2,hp_self]
theorem Lw(h:E.fn m4=some je){G:List AObj}{N b:Nat}{w:Str}(hb:KJ N b G w):M.run m4 [.ptr b 0] G=some (.ret (.tuple []),G.set b (.cells [.nilp,.slice .nil 1 []] aq)):=by
 obtain ⟨ad,bv,hg,ha,hv⟩:=hb.ex;have hlt:=gp hg;have s1:stO 1 G b 0 [.nilp] (some (.cells [ad,bv] aq))=some (G.set b (.cells [.nilp,bv] aq)):=KL rfl (by simp);have g1:(G.set b (.cells [.nilp,bv] aq))[b]?=some (.cells [.nilp,bv] aq):=List.getElem?_set_self hlt
 have s2:stO 1 (G.set b (.cells [.nilp,bv] aq)) b 1 [.slice .nil 1 []] (some (.cells [.nilp,bv] aq))=some (G.set b (.cells [.nilp,.slice .nil 1 []] aq)):=by
  rw [KL rfl (by simp),List.set_set];rfl
 have hwk:Ah G.length (.cells [.nilp,.slice .nil 1 []] aq):=by
  intro c hc;simp at hc;rcases hc with rfl | rfl
  ·exact wk_nilp _
  ·exact wk_slice trivial (vN _)
 rw [cq M h rfl (c:=m5) rfl,m5];simp (maxSteps:=3000000) (maxDischargeDepth:=6) +contextual -implicitDefEqProofs only [amC M,↓amD,Nat.reduceBEq,Nat.reduceAdd,env,ao,Ky,amG,AV.cell,Nat.reduceMul,Nat.reduceLeDiff,rnc,hg,s1,g1,s2,runit_mk,List.set_set,AT hwk,wk_tuple];rw [List.take_of_length_le (by simp)]
def KN(N o:Nat)(G:List AObj)(l:List ae):Prop:=∃ ov,G[o]?=some (.cells [ov] aP)∧KA N aa 3 G ov (l.map ae.row)
def Kj(w:Str):List ae:=sel (w == []) [] [⟨1,w,false⟩]
theorem KN.turn{N o b:Nat}{G G':List AObj}{l:List ae}(h:KN N o G l)(ht:Lc N b cD G G')(hob:o≠b)(hb:∃ cs T,G[b]?=some (.cells cs T))(hne:aa≠cD):KN N o G' l:=by
 obtain ⟨ov,h1,h2⟩:=h;obtain ⟨cs,T,hb⟩:=hb;refine ⟨ov,by rw [ht.2.2 o (gp h1) hob (fun n=>Li h1 n _)];exact h1,h2.stay fun t _ hg=>ht.2.2 t (gp hg) ?_ ?_⟩
 ·rintro rfl;rw [hb] at hg;cases hg
 ·intro n h3;rw [hg] at h3;injection h3 with h3;injection h3 with _ h3;exact hne h3
theorem LC{N o:Nat}{G:List AObj}{ov:AV}{l:List ae}(h1:G[o]?=some (.cells [ov] aP))(h2:KA N aa 3 G ov (l.map ae.row))(hN:N≤G.length)(hl:l.length≤1000000)(x:ae) :
  ∃ v' G1,rap false G aa 3 32 false ov (.slice .full 3 [x.row])=some (v',G1)∧G1[o]?=some (.cells [ov] aP)∧stO 1 G1 o 0 [v'] (some (.cells [ov] aP))=some (G1.set o (.cells [v'] aP))∧bR v'=some [v'] ∧
   KN N o (G1.set o (.cells [v'] aP)) (l++[x])∧Lc N o aa G (G1.set o (.cells [v'] aP)):=by
 obtain ⟨v',G1,a1,a2,a3,a4,a5⟩:=LM (bytes:=32) h2 hN (r:=x.row) rfl rfl rfl (by rw [List.length_map];omega) (by rw [List.length_map];omega);have hg1:G1[o]?=some (.cells [ov] aP):=by rw [a5 o (gp h1) (fun n=>Li h1 n _)];exact h1
 refine ⟨v',G1,a1,hg1,KL a2.cell.1 (by simp),a2.cell.2,⟨v',List.getElem?_set_self (gp hg1), ?_⟩,⟨by simpa using a3,fun i hi hne=>by rw [List.getElem?_set_ne (by omega)];exact a4 i hi,fun i hi hne hn=>by rw [List.getElem?_set_ne (by omega)];exact a5 i hi hn⟩⟩;rw [List.map_append];exact a2.stay fun t _ hg=>by rw [List.getElem?_set_ne];rintro rfl;rw [hg1] at hg;cases hg
theorem KJ.app{N b:Nat}{G:List AObj}{w:Str}(h:KJ N b G w)(L:List AObj):KJ N b (G++L) w:=by
 obtain ⟨ad,bv,h1,ha,h2⟩:=h.ex;exact ⟨ad,bv,ir h1,ha,h2.stay fun t _ hg=>by rw [List.getElem?_append_left (gp hg)]⟩
theorem KN.app{N o:Nat}{G:List AObj}{l:List ae}(h:KN N o G l)(L:List AObj):KN N o (G++L) l:=by
 obtain ⟨ov,h1,h2⟩:=h;exact ⟨ov,ir h1,h2.stay fun t _ hg=>by rw [List.getElem?_append_left (gp hg)]⟩
theorem KJ.turn{N o b:Nat}{G G':List AObj}{w:Str}(h:KJ N b G w)(ht:Lc N o aa G G')(hob:o≠b)(ho:∃ cs T,G[o]?=some (.cells cs T))(hne:aa≠cD):KJ N b G' w:=by
 obtain ⟨ad,bv,h1,ha,h2⟩:=h.ex;obtain ⟨cs,T,ho⟩:=ho;refine ⟨ad,bv,by rw [ht.2.2 b (gp h1) (Ne.symm hob) (fun n=>Li h1 n _)];exact h1,ha,h2.stay fun t _ hg=>ht.2.2 t (gp hg) ?_ ?_⟩
 ·rintro rfl;rw [ho] at hg;cases hg
 ·intro n h3;rw [hg] at h3;injection h3 with h3;injection h3 with _ h3;exact hne h3.symm
theorem LQ(w:Str):Kj w=if w=[] then [] else [⟨1,w,false⟩]:=by
 unfold Kj;cases w<;>rfl
theorem Ld(hB:nS E)(hS:so E)(hC:tb E)(hD:B1 M)(hR:E.fn m4=some je){G:List AObj}{N o b:Nat}{w:Str}{l:List ae}(hb:KJ N b G w)(hp:KN N o G l)(hob:o≠b)(hN:N≤G.length)(hw:w.length≤1000000000)(hl:l.length≤1000000) :
  ∃ G',M.run qA [.ptr b 0,.ptr o 0] G=some (.ret (.bool (qC w)),G')∧KJ N b G' []∧KN N o G' (l++Kj w)∧G.length≤G'.length∧(∀ i,i<N→i≠o→i≠b→G'[i]?=G[i]?)∧∀ i,i<G.length→i≠o→i≠b→(∀ n e,G[i]?≠some (.tok n e))→G'[i]?=G[i]? := by
 have h1:=LP M hC hb hw;have h2:=Lw M hR hb;obtain ⟨ad,bv,hg,ha,hv⟩:=hb.ex;obtain ⟨ov,hp1,hp2⟩:=hp;have hlt:=gp hg;have hT:=fun H=>B3 M hB hD (s:=w) (by simp only [cf];omega) H
 have hg2:(G.set b (.cells [.nilp,.slice .nil 1 []] aq))[b]?=some (.cells [.nilp,.slice .nil 1 []] aq):=List.getElem?_set_self hlt;have hb2:KJ N b (G.set b (.cells [.nilp,.slice .nil 1 []] aq)) []:=⟨.nilp,.slice .nil 1 [],hg2,.inl rfl,.inl ⟨rfl,rfl⟩⟩
 have hq1:(G.set b (.cells [.nilp,.slice .nil 1 []] aq))[o]?=some (.cells [ov] aP):=by rw [List.getElem?_set_ne (Ne.symm hob)];exact hp1
 have hq2:KA N aa 3 (G.set b (.cells [.nilp,.slice .nil 1 []] aq)) ov (l.map ae.row):=hp2.stay fun t _ ht=>by
  rw [List.getElem?_set_ne];rintro rfl;rw [hg] at ht;cases ht
 have hlen:(G.set b (.cells [.nilp,.slice .nil 1 []] aq)).length=G.length:=by simp
 have hkeep2:∀ i,i≠b→(G.set b (.cells [.nilp,.slice .nil 1 []] aq))[i]?=G[i]? := fun i hne=>by rw [List.getElem?_set_ne (by omega)]
 have hkeep:∀ i,i<N→i≠o→i≠b→(G.set b (.cells [.nilp,.slice .nil 1 []] aq))[i]?=G[i]? := fun i _ _ hne=>by rw [List.getElem?_set_ne (by omega)]
 generalize G.set b (.cells [.nilp,.slice .nil 1 []] aq)=G1 at *
 cases hwe:w == [] with
 |true=>
  refine ⟨G1, ?_,hb2,⟨ov,hq1,by rw [Kj,hwe];simpa [sel] using hq2⟩,by omega,hkeep,fun i _ _ hne _=>hkeep2 i hne⟩;rw [cq M hS.docs_Read_1 rfl (c:=xh) rfl,xh];simp (maxSteps:=3000000) (maxDischargeDepth:=6) +contextual -implicitDefEqProofs only [amC M,↓amD,Nat.reduceBEq,Nat.reduceAdd,env,ao,KF,h1,h2,hwe,hT]
 |false=>
  obtain ⟨v',G2,a1,a2,a3,a4,a5,a6⟩:=LC hq1 hq2 (by omega) hl ⟨1,w,false⟩;refine ⟨G2.set o (.cells [v'] aP), ?_,hb2.turn a6 hob ⟨_,_,hq1⟩ (by decide),by rw [Kj,hwe];exact a5,by have:=a6.1;omega,fun i hi hne hne2=>by rw [a6.2.1 i hi hne,hkeep i hi hne hne2],fun i hi hne hne2 hnt=>by rw [a6.2.2 i (by omega) hne (fun n=>by rw [hkeep2 i hne2];exact hnt n _),hkeep2 i hne2]⟩;have l0:∀ x:AV,b9 none [x] 0=some x:=fun _=>rfl
  simp only [ae.row] at a1;rw [cq M hS.docs_Read_1 rfl (c:=xh) rfl,xh];simp (maxSteps:=3000000) (maxDischargeDepth:=6) +contextual -implicitDefEqProofs only [amC M,↓amD,Nat.reduceBEq,Nat.reduceAdd,env,ao,KF,amG,AV.cell,Nat.reduceMul,Nat.reduceLeDiff,h1,h2,hwe,hT,hq1,l0,a1,a2,a3,a4,runit_mk]
end
section
attribute [local congr] au bc aM aw aL aE aA ah aj aF aG
variable{E:aT}(M:bk bK E)
def rdP:Nat→Str→Str→List ae→Option (List ae)
 |0,_,_,_=>none
 |n+1,s,w,out=>match s with
  |[]=>sel (qC w) (some (out++Kj w)) none
  |c :: t=>sel (c == 92)
     (match t with
      |[]=>none
      |d::t'=>sel ((d == 92)||(d == 60)||(d == 123)) (rdP n t' (w++[d]) out) none)
     (sel ((c == 60)||(c == 123))
      (match mkO (c::t) with
       |none=>none
       |some (p,m)=>sel (qC w) (rdP n ((c::t).drop m) [] (out++Kj w++[p])) none)
      (rdP n t (w++[c]) out))
def rdV(r:Option (List ae)):AV:=match r with
 |none=>.tuple [.slice .any 3 [],.int .u8 4]
 |some out=>sel (jP out == 0) (.tuple [.slice .any 3 (out.map ae.row),.int .u8 0]) (.tuple [.slice .any 3 [],.int .u8 (jP out)])
abbrev LD:AC:=.tab 0 xf (.tab 1 xg .skip)
theorem Mh:kT LD 0=some xf:=rfl
theorem Ma:kT LD 1=some xg:=rfl
structure RdB (i:Nat) (w:Str) (out:List ae):Prop where
 w:w.length≤i
 n:out.length≤2*i
 t:∀ x∈out,x.text.length≤65536
theorem RdB.flush{i:Nat}{w:Str}{out:List ae}(h:RdB i w out)(hi:i≤65536):(out++Kj w).length≤2*i+1∧∀ x∈out++Kj w,x.text.length≤65536:=by
 rw [LQ];have h1:=h.w;have h2:=h.n;split
 ·exact ⟨by simp;omega,by simpa using h.t⟩
 ·refine ⟨by simp;omega,fun x hx => ?_⟩
  rcases List.mem_append.1 hx with hx | hx
  ·exact h.t x hx
  ·simp at hx;subst hx;dsimp only;omega
theorem KN.val{N o:Nat}{G:List AObj}{l:List ae}(h:KN N o G l):∃ tg,G[o]?=some (.cells [.slice tg 3 (l.map ae.row)] aP)∧Ar G.length tg∧KA N aa 3 G (.slice tg 3 (l.map ae.row)) (l.map ae.row):=by
 obtain ⟨ov,h1,h2⟩:=h;rcases h2 with ⟨h3,rfl⟩ | ⟨t,ht,rfl,hg⟩
 ·rw [h3];exact ⟨.nil,h1,trivial,.inl ⟨rfl,rfl⟩⟩
 ·exact ⟨.own t,h1,gp hg,.inr ⟨t,ht,rfl,hg⟩⟩
theorem KC{H0 G G':List AObj}{o b:Nat}(hP:Pre H0 G)(ho:H0.length≤o)(hb:H0.length≤b)(hl:G.length≤G'.length)(h:∀ i,i<H0.length→i≠o→i≠b→G'[i]?=G[i]?):Pre H0 G':=
 ⟨Nat.le_trans hP.1 hl,fun i hi=>by rw [h i hi (by omega) (by omega)];exact hP.2 i hi⟩
theorem Mb(hB:nS E)(hS:so E)(hC:tb E)(hD:B1 M)(hR:E.fn m4=some je){H0 G:List AObj}{o b i:Nat}{w:Str}{out:List ae}(hP:Pre H0 G)(ho:H0.length≤o)(hbo:H0.length≤b)(hob:o≠b)
  (hb:KJ H0.length b G w) (hp:KN H0.length o G out) (hi:i≤65536) (hbd:RdB i w out) {a:Env} (a4:cP a 4 = .ptr o 0) (a7:cP a 7 = .fn (.func qA) [] [.ptr b 0,.ptr o 0]) (TB:AC) :
  M.go px H0 [.c xf,.sc TB] a G=some (.ret (rdV (sel (qC w) (some (out++Kj w)) none)),H0):=by
 obtain ⟨G1,f1,f2,f3,f4,f5,_⟩:=Ld M hB hS hC hD hR hb hp hob (by have:=hP.1;omega) (by have:=hbd.w;omega) (by have:=hbd.n;omega);obtain ⟨tg,v1,v2,v3⟩:=f3.val;have hP1:=KC hP ho hbo f4 f5;have hbf:=hbd.flush hi;have hCP:=fun H=>n0 M hB hD (l:=⟨tg,out++Kj w⟩) (by have:=hbf.1;dsimp only;omega) (fun x hx=>by have:=hbf.2 x hx;omega) H
 dsimp only at hCP;have l0:∀ x:AV,b9 none [x] 0=some x:=fun _=>rfl
 have hct:=hP1.cut;have htk:=hP1.take;rw [aH M xf.eq_1];cases ht:qC w with
 |false=>
  rw [ht] at f1;simp only [sel_false,rdV];simp (maxSteps:=3000000) (maxDischargeDepth:=6) +contextual -implicitDefEqProofs only [amC M,↓amD,Nat.reduceBEq,Nat.reduceAdd,env,ao,Kh,a4,a7,f1,hct,htk,vN,(show n8 (.tuple [.slice .nil 3 [],.int .u8 4]) = .tuple [.slice .any 3 [],.int .u8 4] from rfl)]
 |true=>
  rw [ht] at f1;simp only [sel_true,rdV];cases hz:jP (out++Kj w) == 0 with
  |false=>
   have e2:∀ n:Int,n8 (.tuple [.slice .nil 3 [],.int .u8 n]) = .tuple [.slice .any 3 [],.int .u8 n]:=fun _=>rfl
   simp (maxSteps:=3000000) (maxDischargeDepth:=6) +contextual -implicitDefEqProofs only [amC M,↓amD,Nat.reduceBEq,Nat.reduceAdd,env,ao,Kh,a4,a7,f1,v1,l0,hCP,hz,hct,htk,vN,e2]
  |true=>
   have e2:n8 (.tuple [.slice tg 3 ((out++Kj w).map ae.row),.int .u8 0]) = .tuple [.slice .any 3 ((out++Kj w).map ae.row),.int .u8 0]:=rfl
   have hw:∀ n,gE n ((out++Kj w).map ae.row):=fun n=>by
    rw [rowsWk_map];exact fun _ _=>⟨wk_int _ _ _,wk_str _ _,wk_bool _ _,trivial⟩
   have hwa:Wk H0.length (.slice tg 3 ((out++Kj w).map ae.row)) (.slice .any 3 ((out++Kj w).map ae.row)):=wk_any (hw _);simp (maxSteps:=3000000) (maxDischargeDepth:=6) +contextual -implicitDefEqProofs only [amC M,↓amD,Nat.reduceBEq,Nat.reduceAdd,env,ao,Kh,a4,a7,f1,v1,l0,hCP,hz,hct,htk,e2,hwa]
theorem KQ(x:ae):x.text.length≤(wrF x).length:=by
 have he:∀ s:Str,s.length≤(dF s).length:=fun s=>by
  induction s with
  |nil=>exact Nat.le_refl _
  |cons c t ih=>rw [D3,List.length_append];split<;>(simp only [List.length_cons,List.length_nil];omega)
 have:=he x.text;unfold wrF;cases x.kind == 2<;>cases x.kind == 3<;>cases x.kind == 4<;>cases x.kind == 5<;>simp [sel]<;>omega
theorem Mg(hB:nS E)(hS:so E)(hC:tb E)(hX:sk M)(hD:B1 M)(hR:E.fn m4=some je){s:Str}(hs:s.length≤65536){H0:List AObj}{o b:Nat}(ho:H0.length≤o)(hbo:H0.length≤b)(hob:o≠b) :
  ∀ (n i:Nat) (G:List AObj) (w:Str) (out:List ae) (a:Env),s.length-i<n→i≤s.length→Pre H0 G→KJ H0.length b G w→KN H0.length o G out→RdB i w out →
   cP a 0 = .str s→cP a 4 = .ptr o 0→cP a 5 = .ptr b 0→cP a 6 = .int .i64 (i:Int)→cP a 7 = .fn (.func qA) [] [.ptr b 0,.ptr o 0] →
   M.go px H0 [.c xg,.sc LD] a G=some (.ret (rdV (rdP n (s.drop i) w out)),H0):=by
 intro n;induction n with
 |zero=>intro i G w out a h;omega
 |succ n IH=>
  intro i G w out a h hi hP hb hp hbd a0 a4 a5 a6 a7;have hG:H0.length≤G.length:=hP.1;have hwl:=hbd.w;have hol:=hbd.n;rw [rdP.eq_def];dsimp only;cases hsd:s.drop i with
  |nil=>
   have hil:i=s.length:=by have:=congrArg List.length hsd;simp at this;omega
   subst hil;have hend:=fun a (a4:cP a 4 = .ptr o 0) (a7:cP a 7 = .fn (.func qA) [] [.ptr b 0,.ptr o 0])=>Mb M hB hS hC hD hR hP ho hbo hob hb hp hs hbd (a:=a) a4 a7 LD
   rw [aH M xg.eq_1];simp (maxSteps:=3000000) (maxDischargeDepth:=6) +contextual -implicitDefEqProofs only [amC M,↓amD,Nat.reduceBEq,Nat.reduceAdd,env,ao,Kh,a0,a4,a5,a6,a7,beq_self_eq_true,Mh,hend]
  |cons c t=>
   have hlt:i<s.length:=by have:=congrArg List.length hsd;simp at this;omega
   have hx:s[i]?=some c:=by rw [← List.head?_drop,hsd];rfl
   have hd1:s.drop (i+1)=t:=by rw [← List.drop_drop,hsd];rfl
   have hne:(i == s.length)=false:=by simp;omega
   have hws:IntKind.i64.wrap ((i:Int)+1)=((i+1:Nat):Int):=iX hlt (by simp only [cf];omega);have hfr:=hp;obtain ⟨ov0,hov0,_⟩:=hfr;obtain ⟨ad0,bv0,hbv0,_,_⟩:=hb.ex;dsimp only;have hct:=hP.cut;have htk:=hP.take;cases h92:c == 92 with
   |true=>
    simp only [sel_true];cases t with
    |nil=>
     have hil:i+1=s.length:=by have:=congrArg List.length hsd;simp at this;omega
     have he:(i+1 == s.length)=true:=by simp [hil]
     simp only [rdV];rw [aH M xg.eq_1];simp (maxSteps:=3000000) (maxDischargeDepth:=6) +contextual -implicitDefEqProofs only [amC M,↓amD,Nat.reduceBEq,Nat.reduceAdd,env,ao,Kh,a0,a4,a5,a6,a7,hne,hlt,hx,qB,h92,hws,he,hct,htk,vN,(show n8 (.tuple [.slice .nil 3 [],.int .u8 4]) = .tuple [.slice .any 3 [],.int .u8 4] from rfl)]
    |cons d t'=>
     have hlt1:i+1<s.length:=by have:=congrArg List.length hsd;simp at this;omega
     have he:(i+1 == s.length)=false:=by simp;omega
     have hx1:s[i+1]?=some d:=by rw [← List.head?_drop,hd1];rfl
     have hd2:s.drop (i+2)=t':=by rw [show i+2=i+1+1 by rfl,← List.drop_drop,hd1];rfl
     have hw2:IntKind.i64.wrap ((i:Int)+2)=((i+2:Nat):Int):=by rw [ey (by omega) (by omega)];omega
     have hsl:yJ (.str s) (some (.int .i64 ((i+1:Nat):Int))) (some (.int .i64 ((i+2:Nat):Int)))=some (.str [d]):=by
      rw [FH (by omega) (by omega),hd1,show i+2-(i+1)=1 by omega];rfl
     have hcon:=fun H=>K6 M hS hX [92,60,123] d H
     have hany:([92,60,123]:Str).any (fun e=>e == d)=((d == 92)||(d == 60)||(d == 123)):=by
      simp only [List.any_cons,List.any_nil,Bool.or_false];rw [Bool.beq_comm (a:=(92:UInt8)),Bool.beq_comm (a:=(60:UInt8)),Bool.beq_comm (a:=(123:UInt8))];exact (Bool.or_assoc _ _ _).symm
     rw [hany] at hcon;dsimp only;cases hesc:(d == 92)||(d == 60)||(d == 123) with
     |false=>
      rw [hesc] at hcon;simp only [sel_false,rdV];rw [aH M xg.eq_1];simp (maxSteps:=3000000) (maxDischargeDepth:=6) +contextual -implicitDefEqProofs only [amC M,↓amD,Nat.reduceBEq,Nat.reduceAdd,env,ao,Kh,a0,a4,a5,a6,a7,hne,hlt,hx,qB,h92,hws,he,hw2,hsl,hcon,hct,htk,vN,(show n8 (.tuple [.slice .nil 3 [],.int .u8 4]) = .tuple [.slice .any 3 [],.int .u8 4] from rfl)]
     |true=>
      rw [hesc] at hcon;simp only [sel_true];obtain ⟨G1,w1,w2,w3⟩:=LO M hC hX hb hG (by omega) d;have hP1:Pre H0 G1:=KC hP ho hbo w3.1 fun j hj _ hjb=>w3.2.1 j hj hjb
      have ih:=fun a=>IH (i+2) G1 (w++[d]) out a (by omega) (by omega) hP1 w2 (hp.turn w3 hob ⟨_,_,hbv0⟩ (by decide)) ⟨by simp;omega,by omega,hbd.t⟩
      rw [hd2] at ih;rw [aH M xg.eq_1];simp (maxSteps:=3000000) (maxDischargeDepth:=6) +contextual -implicitDefEqProofs only [amC M,↓amD,Nat.reduceBEq,Nat.reduceAdd,env,ao,Kh,a0,a4,a5,a6,a7,hne,hlt,hx,qB,h92,hws,he,hw2,hsl,hcon,hlt1,hx1,w1,Ma,ih]
   |false=>
    simp only [sel_false];cases htag:(c == 60)||(c == 123) with
    |false=>
     simp only [sel_false];have h60:(c == 60)=false:=by simp at htag ⊢;exact htag.1
     have h123:(c == 123)=false:=by simp at htag ⊢;exact htag.2
     obtain ⟨G1,w1,w2,w3⟩:=LO M hC hX hb hG (by omega) c;have hP1:Pre H0 G1:=KC hP ho hbo w3.1 fun j hj _ hjb=>w3.2.1 j hj hjb
     have ih:=fun a=>IH (i+1) G1 (w++[c]) out a (by omega) (by omega) hP1 w2 (hp.turn w3 hob ⟨_,_,hbv0⟩ (by decide)) ⟨by simp;omega,by omega,hbd.t⟩
     rw [hd1] at ih;rw [aH M xg.eq_1];simp (maxSteps:=3000000) (maxDischargeDepth:=6) +contextual -implicitDefEqProofs only [amC M,↓amD,Nat.reduceBEq,Nat.reduceAdd,env,ao,Kh,a0,a4,a5,a6,a7,hne,hlt,hx,qB,h92,h60,h123,hws,w1,Ma,ih]
    |true=>
     simp only [sel_true];have hct2:(c == 60)=true∨(c == 123)=true:=by simpa using htag
     have hsf:=FG (s:=s) (k:=.i64) (i:=i) (by omega);rw [hsd] at hsf;have htl:t.length+1≤140737488351232:=by have:=congrArg List.length hsd;simp at this;omega
     have hmk:=fun H=>Lt M hB hS hX hct2 htl H
     have hcond:(c == 60)=false→(c == 123)=true:=fun h=>by rcases hct2 with h2 | h2;rw [h2] at h;cases h;exact h2
     cases hm:mkO (c::t) with
     |none=>
      rw [hm] at hmk;have hz:dP.row=[.int .u8 0,.str [],.bool false]:=rfl;simp only [mkV] at hmk;simp only [rdV];rw [aH M xg.eq_1];simp (maxSteps:=3000000) (maxDischargeDepth:=6) +contextual -implicitDefEqProofs only [amC M,↓amD,Nat.reduceBEq,Nat.reduceAdd,env,ao,Kh,amG,AV.cell,Nat.reduceMul,Nat.reduceLeDiff,a0,a4,a5,a6,a7,hne,hlt,hx,qB,h92,hcond,hsf,hmk,ew,List.getElem?_cons_succ,bg,beq_self_eq_true,hct,htk,vN,(show n8 (.tuple [.slice .nil 3 [],.int .u8 4]) = .tuple [.slice .any 3 [],.int .u8 4] from rfl)]
     |some q=>
      obtain ⟨pc_1,m⟩:=q;rw [hm] at hmk;simp only [mkV] at hmk;dsimp only;have hV:=L6 hm;have hlen:(c::t).length=s.length-i:=by rw [← hsd,List.length_drop]
      have hml:m≤(c::t).length∧2≤m∧pc_1.text.length≤m:=by
       obtain ⟨c',w',hw',_⟩:=Lo hV.name hV.kind;have h1:=hV.len;have h2:=congrArg List.length hV.wr;rw [List.length_take] at h2;have h3:=congrArg List.length hw';simp only [List.length_cons,List.length_append,List.length_nil] at h3;refine ⟨by omega,by omega, ?_⟩;rw [h1];exact KQ pc_1
      have hGl:(G++[AObj.cells pc_1.row aa]).length=G.length+1:=by simp
      obtain ⟨G2,f1,f2,f3,f4,f5,f6⟩:=Ld M hB hS hC hD hR (hb.app [.cells pc_1.row aa]) (hp.app [.cells pc_1.row aa]) hob (by omega) (by omega) (by omega);have hol2:=gp hov0;have hbl2:=gp hbv0
      have f7:G2[G.length]?=some (.cells pc_1.row aa):=by
       rw [f6 G.length (by omega) (by omega) (by omega) (fun n e=>by rw [aR];simp),aR];rfl
      have hP2:Pre H0 G2:=KC (hP.app [.cells pc_1.row aa]) ho hbo f4 f5;have hct3:=hP2.cut;have htk3:=hP2.take;have hm0:((m:Int) == 0)=false:=by simp;omega
      have hbf:=hbd.flush (i:=i) (by omega);cases htx:qC w with
      |false=>
       rw [htx] at f1;simp only [sel_false,rdV];rw [aH M xg.eq_1];simp (maxSteps:=3000000) (maxDischargeDepth:=6) +contextual -implicitDefEqProofs only [amC M,↓amD,Nat.reduceBEq,Nat.reduceAdd,env,ao,Kh,amG,AV.cell,Nat.reduceMul,Nat.reduceLeDiff,a0,a4,a5,a6,a7,hne,hlt,hx,qB,h92,hcond,hsf,hmk,ew,List.getElem?_cons_succ,bg,aR,hp_set0,hm0,f1,hct3,htk3,vN,(show n8 (.tuple [.slice .nil 3 [],.int .u8 4]) = .tuple [.slice .any 3 [],.int .u8 4] from rfl)]
      |true=>
       rw [htx] at f1;simp only [sel_true];obtain ⟨ov,k1,k2⟩:=f3;obtain ⟨v',G3,e1,e2,e3,e4,e5,e6⟩:=LC k1 k2 (by have:=hP2.1;omega) (by omega) pc_1;have hP3:Pre H0 (G3.set o (.cells [v'] aP)):=KC hP2 ho hbo e6.1 fun j hj hjo _=>e6.2.1 j hj hjo
       have l0:∀ x:AV,b9 none [x] 0=some x:=fun _=>rfl
       have hwm:IntKind.i64.wrap ((i:Int)+(m:Int))=((i+m:Nat):Int):=I1 (by simp only [cf];omega);have hdm:(c::t).drop m=s.drop (i+m):=by rw [← hsd,List.drop_drop]
       have ih:=fun a=>IH (i+m) (G3.set o (.cells [v'] aP)) [] (out++Kj w++[pc_1]) a (by omega) (by omega) hP3 (f2.turn e6 hob ⟨_,_,k1⟩ (by decide)) e5 ⟨by simp,by rw [List.length_append];have:=hbf.1;simp only [List.length_cons,List.length_nil];omega,fun x hx=>by
        rcases List.mem_append.1 hx with hx | hx
        ·exact hbf.2 x hx
        ·simp at hx;subst hx;omega⟩
       rw [hdm];simp only [ae.row] at e1 f7 hmk f1;rw [aH M xg.eq_1];simp (maxSteps:=3000000) (maxDischargeDepth:=6) +contextual -implicitDefEqProofs only [amC M,↓amD,Nat.reduceBEq,Nat.reduceAdd,env,ao,Kh,amG,AV.cell,Nat.reduceMul,Nat.reduceLeDiff,a0,a4,a5,a6,a7,hne,hlt,hx,qB,h92,hcond,hsf,hmk,ew,List.getElem?_cons_succ,bg,ae.row,aR,hp_set0,hm0,f1,f7,k1,l0,e1,e2,e3,e4,runit_mk,hwm,Ma,ih]
def LR(s:Str):Option (List ae):=rdP (s.length+1) s [] []
def KX(s:Str):AV:=sel (decide ((65536:Int)<(s.length:Int))) (.tuple [.slice .any 3 [],.int .u8 3]) (rdV (LR s))
def L7:AC→AC
 |.seq _ y=>y
 |x=>x
theorem Mc{fn:AFn}{H0:List AObj}{k:List Fra}{a:Env}{H:List AObj}{g r:AC}(hg:g = .seq .skip r):M.go fn H0 (.c (.seq (.lbl 1) r)::k) a H=M.go fn H0 (.c g::k) a H:=by
 subst hg;rw [go_seq,go_lbl,go_seq,go_skip]
theorem KY(hB:nS E)(hS:so E)(hC:tb E)(hX:sk M)(hD:B1 M)(hR:E.fn m4=some je){s:Str}(H:List AObj)(hs:s.length≤cf) :
  M.run mo [.str s] H=some (.ret (KX s),H):=by
 rw [cq M hS.docs_Read rfl (c:=AG) rfl,AG];unfold KX;cases h6:decide ((65536:Int)<(s.length:Int)) with
 |true=>simp (maxSteps:=3000000) (maxDischargeDepth:=6) +contextual -implicitDefEqProofs only [amC M,↓amD,Nat.reduceBEq,Nat.reduceAdd,env,ao,Kh,h6,cut_refl,hp_self,vN,(show n8 (.tuple [.slice .nil 3 [],.int .u8 3]) = .tuple [.slice .any 3 [],.int .u8 3] from rfl)]
 |false=>
  have hsl:s.length≤65536:=by have:=of_decide_eq_false h6;omega
  obtain ⟨g,hg⟩:∃ g,g=xg:=⟨_,rfl⟩
  have hl:=fun k a H2=>Mc M (fn:=px) (H0:=H) (k:=k) (a:=a) (H:=H2) (g:=g) (r:=L7 xg) (by rw [hg];rfl)
  simp only [xg.eq_1,L7] at hl;simp (maxSteps:=3000000) (maxDischargeDepth:=6) +contextual -implicitDefEqProofs only [amC M,↓amD,Nat.reduceBEq,Nat.reduceAdd,env,ao,Kh,amG,AV.cell,Nat.reduceMul,Nat.reduceLeDiff,h6,↓hl,qU];rw [hg];have g0:∀ L:List AObj,(H++L)[H.length+1+1]?=L[2]? := fun L=>by rw [show H.length+1+1=H.length+2 by rfl,hp_getk]
  have hgo:=fun a=>Mg M hB hS hC hX hD hR hsl (H0:=H) (o:=H.length) (b:=H.length+1+1) (Nat.le_refl _) (by omega) (by omega) (s.length+1) 0 (H++[.cells [.slice .nil 3 []] aP,.tok 0 cD,.cells [.nilp,.slice (.own (H.length+1)) 1 []] aq]) [] [] a (by omega) (by omega) ((Pre.refl H).app _)
   ⟨.nilp,.slice (.own (H.length+1)) 1 [],by rw [g0];rfl,.inl rfl,.inr ⟨H.length+1,by omega,rfl,by rw [hp_getk];rfl⟩⟩ ⟨.slice .nil 3 [],by rw [aR];rfl,.inl ⟨rfl,rfl⟩⟩ ⟨by simp,by simp,fun x hx=>by cases hx⟩
  rw [List.drop_zero] at hgo;refine hgo _ ?_ ?_ ?_ ?_ ?_<;>simp [ik]
end
theorem L3(n:Nat)(w:Str)(out:List ae):rdP (n+1) [] w out=sel (qC w) (some (out++Kj w)) none:=by
 rw [rdP.eq_def]
theorem L4{n:Nat}{c:UInt8}{t w:Str}{out:List ae}(h:((c == 60)||(c == 123))=true):rdP (n+1) (c::t) w out=(match mkO (c::t) with
  |none=>none
  |some (p,m)=>sel (qC w) (rdP n ((c::t).drop m) [] (out++Kj w++[p])) none):=by
 have h92:(c == 92)=false:=by
  rcases Bool.or_eq_true _ _ ▸ h with h | h<;>(have:=eq_of_beq h;subst this;rfl)
 rw [rdP.eq_def];dsimp only;rw [h92,sel_false,h,sel_true]<;>rfl
section
attribute [local congr] au bc aM aw aL aE aA ah aj aF aG
variable{E:aT}(M:bk bK E)
structure Mi (E:aT):Prop where
end
section
attribute [local congr] au bc aM aw aL aE aA ah aj aF aG
variable{E:aT}(M:bk bK E)
theorem KP(a b:List ae):iT (a++b)=iT a++iT b:=by simp [iT]
theorem KR(w:Str):iT (Kj w)=dF w:=by
 unfold Kj;cases h:w == [] with
 |true=>rw [eq_of_beq h];rfl
 |false=>
  rw [sel_false];show wrF _++[]=_;rw [List.append_nil];rfl
theorem KU:∀ (n:Nat) (s w:Str) (out l:List ae),rdP n s w out=some l→iT l=iT out++dF w++s
 |0,_,_,_,_,h=>by cases h
 |n+1,s,w,out,l,h=>by
  rw [rdP.eq_def] at h;dsimp only at h;cases s with
  |nil=>
   dsimp only at h;cases ht:qC w with
   |false=>rw [ht] at h;cases h
   |true=>
    rw [ht,sel_true] at h;cases h;rw [KP,KR,List.append_nil]
  |cons c t=>
   dsimp only at h;cases h92:c == 92 with
   |true=>
    rw [h92,sel_true] at h;cases t with
    |nil=>cases h
    |cons d t'=>
     dsimp only at h;cases hd:(d == 92)||(d == 60)||(d == 123) with
     |false=>rw [hd] at h;cases h
     |true=>
      rw [hd,sel_true] at h;have ih:=KU n t' _ _ _ h
      have he:dF [d]=[92,d]:=by
       rw [nT,show iy d=true from hd];rfl
      rw [ih,A4,he,eq_of_beq h92];simp
   |false=>
    rw [h92,sel_false] at h;cases htag:(c == 60)||(c == 123) with
    |true=>
     rw [htag,sel_true] at h;cases hm:mkO (c::t) with
     |none=>rw [hm] at h;cases h
     |some q=>
      obtain ⟨p,m⟩:=q;rw [hm] at h;dsimp only at h;cases ht:qC w with
      |false=>rw [ht] at h;cases h
      |true=>
       rw [ht,sel_true] at h;have ih:=KU n _ _ _ _ h;have T:=L6 hm;rw [ih,KP,KP,KR,rm,T.wr,show iT []=[] from rfl,show dF []=[] from rfl];simp
    |false=>
     rw [htag,sel_false] at h;have ih:=KU n _ _ _ _ h
     have he:dF [c]=[c]:=by
      rw [nT,show iy c=false from by unfold iy;rw [h92,Bool.false_or];exact htag];rfl
     rw [ih,A4,he];simp
theorem Lx:∀ (t w rest:Str) (out:List ae) (n:Nat),(dF t++rest).length<n→∃ n',rest.length<n'∧rdP n (dF t++rest) w out=rdP n' rest (w++t) out
 |[],w,rest,out,n,h=>⟨n,h,by rw [show dF []=[] from rfl,List.nil_append,List.append_nil]⟩
 |c::t,w,rest,out,n,h=>by
  cases n with
  |zero=>exact absurd h (Nat.not_lt_zero _)
  |succ n=>
   rw [nT] at h ⊢;cases hc:iy c with
   |true=>
    rw [hc,if_pos rfl] at h;rw [if_pos rfl];simp only [List.append_assoc,List.cons_append,List.nil_append,List.length_cons] at h ⊢;rw [rdP.eq_def];dsimp only;rw [show ((92:UInt8) == 92)=true from rfl,sel_true,show ((c == 92)||(c == 60)||(c == 123))=true from hc,sel_true];obtain ⟨n',h1,h2⟩:=Lx t (w++[c]) rest out n (by omega);exact ⟨n',h1,by rw [h2];simp⟩
   |false=>
    rw [hc,if_neg (by simp)] at h;rw [if_neg (by simp)];simp only [List.append_assoc,List.cons_append,List.nil_append,List.length_cons] at h ⊢;unfold iy at hc;rw [Bool.or_eq_false_iff,Bool.or_eq_false_iff] at hc;rw [rdP.eq_def];dsimp only;rw [hc.1.1,sel_false,hc.1.2,hc.2,Bool.false_or,sel_false];obtain ⟨n',h1,h2⟩:=Lx t (w++[c]) rest out n (by omega);exact ⟨n',h1,by rw [h2];simp⟩
theorem Lj:∀ (l:List ae) (b e:Bool) (st:List Str) (p:Bool) (w:Str) (out:List ae) (n:Nat),Wok l b e st→NA p l→(p=false→w=[])→qC w=true→(iT l).length<n→rdP n (iT l) w out=some (out++Kj w++l)
 |[],b,e,st,p,w,out,n,_,_,_,hw,hn=>by
  cases n with
  |zero=>exact absurd hn (Nat.not_lt_zero _)
  |succ n=>rw [show iT []=[] from rfl,L3,hw,sel_true];simp
 |x::l,b,e,st,p,w,out,n,hk,ha,hp,hw,hn=>by
  have hx:=hk.1;unfold okW at hx;simp only [Bool.and_eq_true,Bool.not_eq_true'] at hx;obtain ⟨x1,x2,x3,x4,_⟩:=hx;rw [rm] at hn ⊢;cases k:x.kind == 1 with
  |true=>
   have hp0:p=false:=by
    have:=ha.1;rw [k,Bool.and_true] at this;exact this
   have hw0:=hp hp0;subst hw0;unfold HJ at x3;rw [k,Bool.not_true,Bool.false_or,Bool.and_eq_true,Bool.not_eq_true',beq_eq_false_iff_ne] at x3;unfold B7 at x2;rw [(k12 k).1,(k12 k).2.1] at x2;have hc:x.car=false:=by simpa using x2
   have hwx:wrF x=dF x.text:=by unfold wrF;rw [eq_of_beq k];rfl
   rw [hwx] at hn ⊢;obtain ⟨n',h1,h2⟩:=Lx x.text [] (iT l) out n hn;rw [h2,List.nil_append,Lj l _ _ _ _ x.text out n' hk.2 ha.2 (fun h=>by rw [k] at h;cases h) x3.2 h1]
   have hf:Kj x.text=[x]:=by
    unfold Kj;rw [show (x.text == [])=false from by simpa using x3.1,sel_false];obtain ⟨kd,t,c⟩:=x;dsimp only at k hc ⊢;rw [eq_of_beq k,hc]
   rw [hf,show Kj []=[] from rfl];simp
  |false=>
   have hnm:sj x.text=true:=by
    unfold B8 at x4;rw [k,Bool.not_false,Bool.true_and,Bool.not_eq_false'] at x4;exact x4
   have hkd:x.kind=2∨x.kind=3∨(x.kind=4∧x.car=false)∨(x.kind=5∧x.car=false):=by
    unfold oH at x1;unfold B7 at x2;rw [Bool.or_eq_false_iff] at x1;have a1:=of_decide_eq_false x1.1;have a2:=of_decide_eq_false x1.2;have a3:x.kind≠1:=by simpa using k
    have:x.kind=2∨x.kind=3∨x.kind=4∨x.kind=5:=by omega
    rcases this with e | e | e | e
    ·exact .inl e
    ·exact .inr (.inl e)
    ·refine .inr (.inr (.inl ⟨e, ?_⟩));rw [e] at x2;simpa using x2
    ·refine .inr (.inr (.inr ⟨e, ?_⟩));rw [e] at x2;simpa using x2
   obtain ⟨c,u0_1,hcu,hce⟩:=Lo hnm hkd;generalize u0_1++[Lu c]=u at hcu;have T:L8 x (wrF x).length (wrF x++iT l):=⟨hnm,hkd,by rw [List.take_left' rfl],rfl⟩
   have hm:=Mf T
   have hc2:((c == 60)||(c == 123))=true:=by
    rw [wrF] at hcu;rcases hkd with k | k | ⟨k,_⟩ | ⟨k,_⟩<;>(rw [k] at hcu;simp [sel] at hcu;rw [← hcu.1];rfl)
   cases n with
   |zero=>exact absurd hn (Nat.not_lt_zero _)
   |succ n=>
    have hlen:(wrF x).length=u.length+1:=by rw [hcu];rfl
    rw [List.length_append] at hn;have e0:wrF x++iT l=c::(u++iT l):=by rw [hcu];rfl
    rw [e0] at hm ⊢;rw [L4 hc2,hm];dsimp only;rw [hw,sel_true,← e0,List.drop_left' rfl,Lj l _ _ _ _ [] _ n hk.2 ha.2 (fun _=>rfl) rfl (by omega)];rw [show Kj []=[] from rfl];simp
theorem KZ{l:List ae}(h:jP l=0)(hl:(iT l).length≤65536):KX (iT l) = .tuple [.slice .any 3 (l.map ae.row),.int .u8 0]:=by
 obtain ⟨_,k2,k3,_⟩:=(Ci l).1 h;have:=Lj l _ _ _ _ [] [] ((iT l).length+1) k3 k2 (fun _=>rfl) rfl (by omega);unfold KX LR;rw [decide_eq_false (by omega),sel_false,this,show Kj []=[] from rfl,List.nil_append,List.nil_append,rdV,h];rfl
theorem Ly(s:Str)(hs:s.length≤65536):(∃ e,KX s = .tuple [.slice .any 3 [],.int .u8 e]∧(e == 0)=false)∨∃ l,KX s = .tuple [.slice .any 3 (l.map ae.row),.int .u8 0]∧jP l=0∧iT l=s:=by
 unfold KX;rw [decide_eq_false (by omega),sel_false];unfold LR;cases hr:rdP (s.length+1) s [] [] with
 |none=>exact .inl ⟨_,rfl,rfl⟩
 |some l=>
  rw [rdV];cases hc:jP l == 0 with
  |false=>exact .inl ⟨_,rfl,hc⟩
  |true=>
   have:=KU _ _ _ _ _ hr;exact .inr ⟨l,rfl,eq_of_beq hc,by rw [this];rfl⟩
theorem KS(l:List ae):(∃ e,th l = .tuple [.str [],.int .u8 e]∧(e == 0)=false)∨(th l = .tuple [.str (iT l),.int .u8 0]∧jP l=0∧(iT l).length≤65536):=by
 unfold th;cases hc:jP l == 0 with
 |false=>exact .inl ⟨_,rfl,hc⟩
 |true=>
  rw [sel_true];cases h5:decide ((65536:Int)<((iT l).length:Int)) with
  |true=>exact .inl ⟨_,rfl,rfl⟩
  |false=>exact .inr ⟨rfl,eq_of_beq hc,by have:=of_decide_eq_false h5;omega⟩
theorem Lp:∀ {l:List ae}{x:ae},x∈l→x.text.length≤(iT l).length
 |y::l,x,h=>by
  rw [rm,List.length_append];rcases List.mem_cons.1 h with rfl | h
  ·have:=KQ x;omega
  ·have:=Lp h;omega
theorem Lk(hB:nS E)(hS:so E)(hBl:tb E)(hX:sk M)(hD:B1 M)(hRs:E.fn m4=some je)(hR:wK E)(hXC:xL M)(hE:Cd M)(hT:HK E){s:Str}(hs:s.length≤cf){l:Sl ae}(hl:l.ok 0 (ae.ok 0)){H:List AObj}
  (hL:∀ H,M.run bq [] H=some (.ret (.bool true),H)):M.run mC [.str s,.slice l.tag 3 (l.l.map ae.row)] H=some (.ret (.bool true),H):=by
 have s1:=fun H=>D6 M hB hl H
 have hkl:∀ n,Wk n (.slice l.tag 3 (l.l.map ae.row)) (.slice l.tag 3 (l.l.map ae.row)):=fun n=>wk_slice (hl.tag.mono (Nat.zero_le _)) (I3 n l.l)
 rw [cq M hT.truchmanlaw01_DocsBack rfl (c:=mE) rfl,mE];cases h25:decide ((2500:Int)<(s.length:Int)) with
 |true=>simp (maxSteps:=3000000) (maxDischargeDepth:=6) +contextual -implicitDefEqProofs only [amC M,↓amD,Nat.reduceBEq,Nat.reduceAdd,env,ao,Kg,amG,AV.cell,Nat.reduceMul,Nat.reduceLeDiff,h25,hL]
 |false=>
 cases c1:A9 [l] with
 |true=>simp (maxSteps:=3000000) (maxDischargeDepth:=6) +contextual -implicitDefEqProofs only [amC M,↓amD,Nat.reduceBEq,Nat.reduceAdd,env,ao,Kg,amG,AV.cell,Nat.reduceMul,Nat.reduceLeDiff,h25,s1,pj,c1,hL]
 |false=>
 have hsl:s.length≤2500:=by have:=of_decide_eq_false h25;omega
 have hlong:=D5 c1;have htx:∀ x∈l.l,x.text.length≤1000000:=fun x hx=>by have:=Ga hx;omega
 have v1:=fun H=>KY M hB hS hBl hX hD hRs (s:=s) H hs
 have v2:=fun H=>Cj M hB hS hD hBl hX hR hXC hE hT (l:=l) (by omega) htx hkl (fun h=>by have:=yt h;omega) H
 have z0:((0:Int) == 0)=true:=rfl;have qs:∀ s:Str,a8 .neq s s=some (.bool false):=fun s=>by simp [a8]
 have back:∀ (m:List ae),jP m=0→iT m=s→∀ H,M.run jy [.slice .any 3 (m.map ae.row)] H=some (.ret (.tuple [.str s,.int .u8 0]),H):=fun m hc hf H=>by
  have hml:=Ls hc;have:=Cj M hB hS hD hBl hX hR hXC hE hT (l:=⟨.any,m⟩) (by dsimp only;omega) (fun x hx=>by have:=Lp hx;rw [hf] at this;omega) (fun n=>wk_slice trivial (I3 n m)) (fun _=>by dsimp only;rw [hf];omega) H;dsimp only at this;unfold th at this;rw [hc,hf,decide_eq_false (by omega)] at this;exact this
 rcases Ly s (by omega) with ⟨e1,h1,k1⟩ | ⟨m,h1,k1,k2⟩
 ·rw [h1] at v1
  rcases KS l.l with ⟨e2,h2,k3⟩ | ⟨h2,k3,k4⟩
  ·rw [h2] at v2
   simp (maxSteps:=3000000) (maxDischargeDepth:=6) +contextual -implicitDefEqProofs only [amC M,↓amD,Nat.reduceBEq,Nat.reduceAdd,env,ao,Kg,amG,AV.cell,Nat.reduceMul,Nat.reduceLeDiff,h25,s1,pj,c1,v1,k1,v2,k3,hL,ew,List.getElem?_cons_zero,List.getElem?_cons_succ,hp_self]
  ·rw [h2] at v2
   have v3:=fun H=>KY M hB hS hBl hX hD hRs (s:=iT l.l) H (by simp only [cf];omega)
   rw [KZ k3 k4] at v3;have sp:=fun H=>KB M hB (l:=l.l) (ta:=.any) (tb_1:=l.tag) hl.len H
   simp (maxSteps:=3000000) (maxDischargeDepth:=6) +contextual -implicitDefEqProofs only [amC M,↓amD,Nat.reduceBEq,Nat.reduceAdd,env,ao,Kg,amG,AV.cell,Nat.reduceMul,Nat.reduceLeDiff,h25,s1,pj,c1,v1,k1,v2,z0,v3,sp,hL,ew,List.getElem?_cons_zero,List.getElem?_cons_succ,hp_self]
 ·rw [h1] at v1
  have v4:=back m k1 k2;rcases KS l.l with ⟨e2,h2,k3⟩ | ⟨h2,k3,k4⟩
  ·rw [h2] at v2
   simp (maxSteps:=3000000) (maxDischargeDepth:=6) +contextual -implicitDefEqProofs only [amC M,↓amD,Nat.reduceBEq,Nat.reduceAdd,env,ao,Kg,amG,AV.cell,Nat.reduceMul,Nat.reduceLeDiff,h25,s1,pj,c1,v1,z0,v4,qs,beq_self_eq_true,v2,k3,hL,ew,List.getElem?_cons_zero,List.getElem?_cons_succ,hp_self]
  ·rw [h2] at v2
   have v3:=fun H=>KY M hB hS hBl hX hD hRs (s:=iT l.l) H (by simp only [cf];omega)
   rw [KZ k3 k4] at v3;have sp:=fun H=>KB M hB (l:=l.l) (ta:=.any) (tb_1:=l.tag) hl.len H
   simp (maxSteps:=3000000) (maxDischargeDepth:=6) +contextual -implicitDefEqProofs only [amC M,↓amD,Nat.reduceBEq,Nat.reduceAdd,env,ao,Kg,amG,AV.cell,Nat.reduceMul,Nat.reduceLeDiff,h25,s1,pj,c1,v1,z0,v4,qs,beq_self_eq_true,v2,v3,sp,hL,ew,List.getElem?_cons_zero,List.getElem?_cons_succ,hp_self]
end
end Go.Am
