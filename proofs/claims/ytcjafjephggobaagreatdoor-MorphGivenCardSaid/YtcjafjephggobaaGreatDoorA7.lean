import Derived.Test.YtcjafjephggobaaGreatDoorA6
import Derived.Shelf.SlSortCmp.WholeK
import Derived.Lib.RowBridge
import Derived.Test.YtcjafjephggobaaGreatDoorChecked
import Derived.Shelf.SlSortCmp.NoneTotal
import Derived.Laws.Externs
import Derived.KernelRfl
/-
  Part 7 of the tool: an abstract machine over the model, proved sound, and what it says of the functions that the law reaches. Condition: none but those that each theorem names.
-/
set_option linter.unusedVariables false
set_option linter.unusedSimpArgs false
set_option maxRecDepth 100000
set_option maxHeartbeats 4000000
namespace Go.Am
open Go.RowKit
section
attribute [local congr] aG ct bm aH a7 aN aI aA aC aO aP
variable{E:bB}(M:cT cU E)
def Bl(l:Lex)(x:aF)(e:Nat):Nat→List br→List b4
 |_,[]=>[]
 |i,s::t=>sel (jB l x s i == []) (Bl l x e (i+1) t) (⟨e,i,jB l x s i⟩::Bl l x e (i+1) t)
def Gm(l:Lex):Nat→List aF→List b4
 |_,[]=>[]
 |e,x::t=>Bl l x e 0 (match Bg l x.cls with | some c=>c.slots.l | none=>[])++Gm l (e+1) t
def zI(l:Lex):List b4:=Gm l 0 l.entries.l
theorem LC(l:Lex)(x:aF)(e:Nat):∀ (t:List br) (i:Nat),(Bl l x e i t).length≤t.length
 |[],_=>Nat.le_refl _
 |s::t,i=>by
  have h1:=LC l x e t (i+1)
  rw [Bl]
  cases (jB l x s i == [])<;>simp only [sel,List.length_cons]<;>omega
theorem PQ{l:Lex}(hk:bG l=0):∀ (t:List aF) (e:Nat),(∀ x∈t,∃ c,yW l x c)→(Gm l e t).length≤24*t.length
 |[],_,_=>Nat.le_refl _
 |x::t,e,h=>by
  obtain ⟨c,hc⟩:=h x (by simp)
  have h1:=PQ hk t (e+1) fun y hy=>h y (List.mem_cons_of_mem _ hy)
  have h2:=LC l x e c.slots.l 0
  have h3:=EE hk hc
  rw [Gm,hc.cls,List.length_append,List.length_cons]
  simp only;omega
theorem LD{l:Lex}(hk:bG l=0):(zI l).length≤3072:=by
 have h1:=PQ hk l.entries.l 0 (RT hk)
 have h2:=HB hk
 unfold zI;omega
theorem WX(hN:cS E)(hW:WdE M)(hE:iz E)(hS:SpE E)(hX:oZ M)(hY:C9 M)(hB:pb E)(hF:qg E){l:Lex}(hl:l.ok 0)(hk:bG l=0){e:Nat}{x:aF}(hx:l.entries.l[e]?=some x){c:a6}(hc:yW l x c){e2 N:Int}
  {H H0:List ae}{p:Nat}{T:TypeId} (hp:H[p]?=some (.cells l.row T)) (k:List Fra):∀ (n i:Nat) (o:List b4) (He:List ae),i+n=c.slots.l.length→o.length+n≤10000→c.slots.l.length≤1000 →
  M.go ca H0 (.c eo :: .lp ⟨(some [1,3,4,10,11,16,17]),[(3,3,dC)],false⟩ eo He :: .blk 2 :: .c (.lv [1,3,10,11])::k) (kv [(1,.ptr p 0),(3,.slice (.own H.length) 3 (o.map b4.row)),(4,.int .i64 e),(10,.int .i64 N),(11,.int .i64 e2),(16,.int .i64 c.slots.l.length),(17,.int .i64 i)]) (H++[.tok (o.length*3) dC]) =
   M.go ca H0 k (kv [(1,.ptr p 0),(3,.slice (.own H.length) 3 ((o++Bl l x e i (c.slots.l.drop i)).map b4.row)),(10,.int .i64 N),(11,.int .i64 e2)]) (H++[.tok ((o++Bl l x e i (c.slots.l.drop i)).length*3) dC])
 |0,i,o,He,h,ho,hcl=>by
  have e:i=c.slots.l.length:=by omega
  subst e
  rw [List.drop_length,Bl,List.append_nil]
  rw [aw M eo.eq_1]
  simp (maxSteps:=3000000) (maxDischargeDepth:=6) +contextual -implicitDefEqProofs only [amA M,amB,↓aj,↓ab,↓al,↓ak,Nat.reduceBEq,Nat.reduceAdd,env,ao,fo,Nat.lt_irrefl]
 |n+1,i,o,He,h,ho,hcl=>by
  have hi:i<c.slots.l.length:=by omega
  have hs:c.slots.l[i]?=some c.slots.l[i]:=List.getElem?_eq_getElem hi
  have hd:c.slots.l.drop i=c.slots.l[i]::c.slots.l.drop (i+1):=List.drop_eq_getElem_cons hi
  have hf:=fun H=>Lv M hN hW hE hS hX hY hB hF hl hk (PL hk (e:=(e:Int)) (by omega) (by simpa using hx) hc hs) H
  have hp':=fun L=>dg (L:=L) hp
  have hws:=cY hi (show c.slots.l.length≤bH by simp only [bH];omega)
  rw [hd,Bl]
  generalize jB l x c.slots.l[i] i=w at hf
  cases hw:w == [] with
  |true=>
   have ih:=fun He=>WX hN hW hE hS hX hY hB hF hl hk hx hc (e2:=e2) (N:=N) (H0:=H0) hp k n (i+1) o He (by omega) (by omega) hcl
   simp only [kv_cons,kv_nil,sel] at ih ⊢
   rw [aw M eo.eq_1]
   simp (maxSteps:=3000000) (maxDischargeDepth:=6) +contextual -implicitDefEqProofs only [amA M,amB,↓aj,↓ab,↓al,↓ak,Nat.reduceBEq,Nat.reduceAdd,env,ao,fo,amG,AV.cell,Nat.reduceMul,Nat.reduceLeDiff,hi,hf,hw,bne,hp',ih,hws,cj]
  |false=>
   have ap:=TS (row:=b4.row) (l:=o) (x:=⟨e,i,w⟩) (r:=b4.row ⟨e,i,w⟩) (sz:=3) (bytes:=32) (e:=dC) H rfl rfl rfl (by omega) (by omega)
   have ih:=fun He=>WX hN hW hE hS hX hY hB hF hl hk hx hc (e2:=e2) (N:=N) (H0:=H0) hp k n (i+1) (o++[⟨e,i,w⟩]) He (by omega) (by simp;omega) hcl
   simp only [b4.row] at ap
   simp only [kv_cons,kv_nil,sel,List.append_assoc,List.cons_append,List.nil_append] at ih ⊢
   rw [aw M eo.eq_1]
   simp (maxSteps:=3000000) (maxDischargeDepth:=6) +contextual -implicitDefEqProofs only [amA M,amB,↓aj,↓ab,↓al,↓ak,Nat.reduceBEq,Nat.reduceAdd,env,ao,fo,amG,AV.cell,Nat.reduceMul,Nat.reduceLeDiff,hi,hf,hw,bne,hp',ap,ih,hws,cj]
theorem Xz(hN:cS E)(hW:WdE M)(hE:iz E)(hS:SpE E)(hX:oZ M)(hY:C9 M)(hB:pb E)(hF:qg E){l:Lex}(hl:l.ok 0)(hk:bG l=0)
  {H H0:List ae}{p:Nat}{T:TypeId} (hp:H[p]?=some (.cells l.row T)) (k:List Fra):∀ (n i:Nat) (o:List b4) (He:List ae),i+n=l.entries.l.length→o.length+24*n≤9000 →
  M.go ca H0 (.c fR :: .lp ⟨(some [1,3,10,11]),[(3,3,dC)],false⟩ fR He :: .blk 0 :: .c (.lv [3])::k) (kv [(1,.ptr p 0),(3,.slice (.own H.length) 3 (o.map b4.row)),(10,.int .i64 l.entries.l.length),(11,.int .i64 i)]) (H++[.tok (o.length*3) dC]) =
   M.go ca H0 k (kv [(3,.slice (.own H.length) 3 ((o++Gm l i (l.entries.l.drop i)).map b4.row))]) (H++[.tok ((o++Gm l i (l.entries.l.drop i)).length*3) dC])
 |0,i,o,He,h,ho=>by
  have e:i=l.entries.l.length:=by omega
  subst e
  rw [List.drop_length,Gm,List.append_nil]
  rw [aw M fR.eq_1]
  simp (maxSteps:=3000000) (maxDischargeDepth:=6) +contextual -implicitDefEqProofs only [amA M,amB,↓aj,↓ab,↓al,↓ak,Nat.reduceBEq,Nat.reduceAdd,env,ao,fo,Nat.lt_irrefl]
 |n+1,i,o,He,h,ho=>by
  have hi:i<l.entries.l.length:=by omega
  have hx:l.entries.l[i]?=some l.entries.l[i]:=List.getElem?_eq_getElem hi
  have hd:l.entries.l.drop i=l.entries.l[i]::l.entries.l.drop (i+1):=List.drop_eq_getElem_cons hi
  generalize l.entries.l[i]=x at hx hd
  obtain ⟨c,hc⟩:=Gj hk hx
  have hsl:=EE hk hc
  have hp':=fun L=>dg (L:=L) hp
  have hss:=fun H=>M9 M hW hE hF hl (e:=(i:Int)) (by omega) (by simpa using hx) hc H
  have hws:=cY hi hl.entries.len
  rw [hd,Gm,hc.cls]
  have hgl:=LC l x i c.slots.l 0
  have ih:=fun He=>Xz hN hW hE hS hX hY hB hF hl hk (H0:=H0) hp k n (i+1) (o++Bl l x i 0 c.slots.l) He (by omega) (by simp only [List.length_append];omega)
  have hin:=fun k He=>WX M hN hW hE hS hX hY hB hF hl hk hx hc (e2:=(i:Int)) (N:=l.entries.l.length) (H0:=H0) hp k c.slots.l.length 0 o He (by omega) (by omega) (by omega)
  simp only [kv_cons,kv_nil,Int.ofNat_zero,List.drop_zero,List.append_assoc] at ih hin ⊢
  rw [aw M fR.eq_1]
  simp (maxSteps:=3000000) (maxDischargeDepth:=6) +contextual -implicitDefEqProofs only [amA M,amB,↓aj,↓ab,↓al,↓ak,Nat.reduceBEq,Nat.reduceAdd,env,ao,fo,amG,AV.cell,Nat.reduceMul,Nat.reduceLeDiff,hi,hp',hss,hin,ih,hws,cj]
theorem Rb(hN:cS E)(hW:WdE M)(hE:iz E)(hS:SpE E)(hX:oZ M)(hY:C9 M)(hB:pb E)(hF:qg E)(hA:HC E){l:Lex}(hl:l.ok 0)(hk:bG l=0)(H:List ae) :
  M.run lJ [.agg l.row] H=some (.ret (.slice .any 3 ((zI l).map b4.row)),H):=by
 rw [aZ M hA.morph_language_shapes rfl (c:=lS) rfl,lS]
 have hel:=HB hk
 have h1:=fun k He=>Xz M hN hW hE hS hX hY hB hF hl hk (H:=H++[.cells l.row aD]) (H0:=H) (p:=H.length) (T:=aD) (by rw [dW];rfl) k l.entries.l.length 0 [] He (by omega) (by simp;omega)
 simp only [kv_cons,kv_nil,Int.ofNat_zero,List.drop_zero,List.length_append,List.length_cons,List.length_nil,Nat.zero_add,Nat.reduceAdd,List.append_assoc,List.cons_append,List.nil_append,List.map_nil,Nat.zero_mul] at h1
 rw [zI]
 simp (maxSteps:=3000000) (maxDischargeDepth:=6) +contextual -implicitDefEqProofs only [amA M,amB,↓aj,↓ab,↓al,↓ak,Nat.reduceBEq,Nat.reduceAdd,env,ao,fo,amG,AV.cell,Nat.reduceMul,Nat.reduceLeDiff,h1,cj,HD,implies_true,cut_app]
end
section
attribute [local congr] aG ct bm aH a7 aN aI aA aC aO aP
variable{E:bB}(M:cT cU E)
def LF(x:aF)(s:br)(h:b4):Nat→List dK→List bL
 |_,[]=>[]
 |i,k::t=>sel (UI x s k) (⟨⟨h.e,h.q,i⟩,h.w++k.glue⟩::LF x s h (i+1) t) (LF x s h (i+1) t)
def UK(l:Lex)(h:b4):List bL:=
 match slF l h.e h.q,Hy l h.e with
 |some s,some x=>LF x s h 0 l.links.l
 |_,_=>[]
def Gn(l:Lex):List b4→List bL
 |[]=>[]
 |h::t=>UK l h++Gn l t
theorem LG(x:aF)(s:br)(h:b4):∀ (t:List dK) (i:Nat),(LF x s h i t).length≤t.length
 |[],_=>Nat.le_refl _
 |k::t,i=>by
  have h1:=LG x s h t (i+1)
  rw [LF]
  cases UI x s k<;>simp only [sel,List.length_cons]<;>omega
theorem IG{l:Lex}(hk:bG l=0):l.links.l.length≤8:=by
 have:=(jW (rU hk).2.2.2).1
 omega
theorem UL{l:Lex}(hk:bG l=0)(h:b4):(UK l h).length≤8:=by
 have h2:=IG hk
 unfold UK
 split
 ·rename_i s x _ _;have:=LG x s h l.links.l 0;omega
 ·simp
theorem LI{l:Lex}(hk:bG l=0):∀ (t:List b4),(Gn l t).length≤8*t.length
 |[]=>Nat.le_refl _
 |h::t=>by
  have h1:=LI hk t
  have h2:=UL hk h
  rw [Gn,List.length_append,List.length_cons];omega
theorem UM{H0:List ae}(n m:Nat)(T:TypeId)(x y:ae)(L:List ae):dG (H0++[.tok n T,x,y]) (H0++(.tok m T::x::y::L)):=⟨by simp,fun i z hi hz=>by
 rw [List.length_append] at hi
 by_cases h:i<H0.length
 ·rw [List.getElem?_append_left h] at hz ⊢;exact .inl hz
 ·by_cases h2:i=H0.length
  ·subst h2
   rw [dW] at hz
   obtain rfl:=Option.some.inj hz
   exact .inr trivial
  ·by_cases h3:i=H0.length+1
   ·subst h3
    rw [hp_getk] at hz ⊢
    exact .inl hz
   ·obtain rfl:i=H0.length+2:=by simp at hi;omega
    rw [hp_getk] at hz ⊢
    exact .inl hz⟩
theorem Nd(H0:List ae)(z x y:ae)(L:List ae):(H0++(z::x::y::L)).take (H0.length+3)=H0++[z,x,y]:=by
 rw [show H0++(z::x::y::L)=(H0++[z,x,y])++L by simp,show H0.length+3=(H0++[z,x,y]).length by simp,List.take_left]
def LJ(l:Lex)(h:b4):Prop:=(∃ x c s,At l h.e h.q x c s)∧h.w.length≤24
theorem WY(hE:iz E)(hU:uN E){srt:List aq→List aq}(hO:vw M srt)(hP:Srt srt)(hF:qg E)(hV:N1 E){l:Lex}(hl:l.ok 0)(hk:bG l=0){h:b4}(hw:h.w.length≤24){x:aF}{c:a6}{s:br}(hA:At l h.e h.q x c s){fs:List b4}{tf:Tag}(hfw:pT 0 tf){e2:Int}
  {H H0:List ae}{p:Nat}{T:TypeId} (hp:H[p]?=some (.cells l.row T)) (k:List Fra):∀ (n i:Nat) (o:List bL) (He:List ae),He=H++[.tok (o.length*4) dk,.cells h.row dC,.cells s.row bI]→i+n=l.links.l.length→o.length+n≤100000 →
  M.go bP H0 (.c dR :: .lp ⟨(some [2,5,7,8,12,13,14,29,30,31]),[(5,4,dk)],true⟩ dR He :: .blk 2 :: .c (.lv [2,5,12,13,14])::k) (kv [(2,.ptr p 0),(5,.slice (.own H.length) 4 (o.map bL.row)),(7,.ptr (H.length+1) 0),(8,.ptr (H.length+2) 0),(12,.slice tf 3 (fs.map b4.row)),(13,.int .i64 fs.length),(14,.int .i64 e2),(29,.slice l.links.tag 3 (l.links.l.map dK.row)),(30,.int .i64 l.links.l.length),(31,.int .i64 i)]) (H++[.tok (o.length*4) dk,.cells h.row dC,.cells s.row bI]) =
   M.go bP H0 k (kv [(2,.ptr p 0),(5,.slice (.own H.length) 4 ((o++LF x s h i (l.links.l.drop i)).map bL.row)),(12,.slice tf 3 (fs.map b4.row)),(13,.int .i64 fs.length),(14,.int .i64 e2)]) (H++[.tok ((o++LF x s h i (l.links.l.drop i)).length*4) dk,.cells h.row dC,.cells s.row bI])
 |0,i,o,He,hHe,hi0,ho=>by
  have e:i=l.links.l.length:=by omega
  subst e
  rw [List.drop_length,LF,List.append_nil]
  rw [aw M dR.eq_1]
  simp (maxSteps:=3000000) (maxDischargeDepth:=6) +contextual -implicitDefEqProofs only [amA M,amB,↓aj,↓ab,↓al,↓ak,Nat.reduceBEq,Nat.reduceAdd,env,ao,ep,Nat.lt_irrefl]
 |n+1,i,o,He,hHe,hi0,ho=>by
  subst hHe
  have hi:i<l.links.l.length:=by omega
  have hkx:l.links.l[i]?=some l.links.l[i]:=List.getElem?_eq_getElem hi
  have hkm:l.links.l[i]∈l.links.l:=List.getElem_mem hi
  have hd:l.links.l.drop i=l.links.l[i]::l.links.l.drop (i+1):=List.drop_eq_getElem_cons hi
  generalize l.links.l[i]=kk at hkx hkm hd
  have hgl:=UH hk hkm
  have hop:=fun H=>S2 M hE hU hO hP hF hV hA (hl.links.all kk hkm) H
  have hp':=fun L=>dg (L:=L) hp
  have hpl:=(List.getElem?_eq_some_iff.1 hp).1
  have w1:Wk (H.length+3) (.ptr p 0) (.ptr p 0):=wk_ptr (by omega)
  have w2:Wk (H.length+3) (.slice tf 3 (fs.map b4.row)) (.slice tf 3 (fs.map b4.row)):=wk_slice (hfw.mono (Nat.zero_le _)) (uj HD _ fs)
  have w3:Wk (H.length+3) (.slice l.links.tag 3 (l.links.l.map dK.row)) (.slice l.links.tag 3 (l.links.l.map dK.row)):=(hl.links.mono (Nat.zero_le _) (fun _ h=>h.mono (Nat.zero_le _))).wk (fun _ h=>h.wk)
  have w4:=fun o:List bL=>wk_slice (n:=H.length+3) (esz:=4) (tag:=.own H.length) (show H.length<H.length+3 by omega) (uj JR _ o)
  have w5:Wk (H.length+3) (.ptr (H.length+1) 0) (.ptr (H.length+1) 0):=wk_ptr (by omega)
  have w6:Wk (H.length+3) (.ptr (H.length+2) 0) (.ptr (H.length+2) 0):=wk_ptr (by omega)
  have hws:=cY hi (show l.links.l.length≤bH by have:=IG hk;simp only [bH];omega)
  have hcc:=fun m L=>UM (H0:=H) (o.length*4) m dk (.cells h.row dC) (.cells s.row bI) L
  rw [hd,LF]
  cases hb:UI x s kk with
  |false=>
   have ih:=WY hE hU hO hP hF hV hl hk hw hA (fs:=fs) hfw (e2:=e2) (H0:=H0) hp k n (i+1) o _ rfl (by omega) (by omega)
   rw [hb] at hop
   simp only [kv_cons,kv_nil,sel] at ih ⊢
   rw [aw M dR.eq_1]
   simp (maxSteps:=3000000) (maxDischargeDepth:=6) +contextual -implicitDefEqProofs only [amA M,amB,↓aj,↓ab,↓al,↓ak,Nat.reduceBEq,Nat.reduceAdd,env,ao,ep,amG,AV.cell,Nat.reduceMul,Nat.reduceLeDiff,hi,hkx,hop,hp',ih,w1,w2,w3,w4,w5,w6,hcc,Nd,hws,bz hi,cj,FA,iS,Na]
  |true=>
   have ap:=fun L=>HA (row:=bL.row) (l:=o) (x:=⟨⟨h.e,h.q,i⟩,h.w++kk.glue⟩) (r:=bL.row ⟨⟨h.e,h.q,i⟩,h.w++kk.glue⟩) (sz:=4) (bytes:=40) (e:=dk) H L rfl rfl rfl (by omega) (by omega)
   have ih:=WY hE hU hO hP hF hV hl hk hw hA (fs:=fs) hfw (e2:=e2) (H0:=H0) hp k n (i+1) (o++[⟨⟨h.e,h.q,i⟩,h.w++kk.glue⟩]) _ rfl (by omega) (by simp;omega)
   rw [hb] at hop
   simp only [bL.row,a8.row,List.cons_append,List.nil_append] at ap
   simp only [kv_cons,kv_nil,sel,List.append_assoc,List.cons_append,List.nil_append] at ih ⊢
   rw [aw M dR.eq_1]
   simp (maxSteps:=3000000) (maxDischargeDepth:=6) +contextual -implicitDefEqProofs only [amA M,amB,↓aj,↓ab,↓al,↓ak,Nat.reduceBEq,Nat.reduceAdd,env,ao,ep,amG,AV.cell,Nat.reduceMul,Nat.reduceLeDiff,hi,hkx,hop,hp',ap,ih,w1,w2,w3,w4,w5,w6,hcc,Nd,hws,vV (s:=h.w) (t:=kk.glue) (by omega),bz hi,cj,FA,iS,Na]
end
section
attribute [local congr] aG ct bm aH a7 aN aI aA aC aO aP
variable{E:bB}(M:cT cU E)
theorem XA(hW:WdE M)(hE:iz E)(hU:uN E){srt:List aq→List aq}(hO:vw M srt)(hP:Srt srt)(hF:qg E)(hV:N1 E){l:Lex}(hl:l.ok 0)(hk:bG l=0){fs:List b4}(hfs:∀ h∈fs,LJ l h)(hfl:fs.length≤3072){tf:Tag}(hfw:pT 0 tf)
  {H H0:List ae}{p:Nat}{T:TypeId} (hp:H[p]?=some (.cells l.row T)) (k:List Fra):∀ (n i:Nat) (o:List bL) (He:List ae),He=H++[.tok (o.length*4) dk]→i+n=fs.length→o.length+8*n≤90000 →
  M.go bP H0 (.c fh :: .lp ⟨(some [2,5,12,13,14]),[(5,4,dk)],true⟩ fh He :: .blk 0 :: .c (.lv [5])::k) (kv [(2,.ptr p 0),(5,.slice (.own H.length) 4 (o.map bL.row)),(12,.slice tf 3 (fs.map b4.row)),(13,.int .i64 fs.length),(14,.int .i64 i)]) (H++[.tok (o.length*4) dk]) =
   M.go bP H0 k (kv [(5,.slice (.own H.length) 4 ((o++Gn l (fs.drop i)).map bL.row))]) (H++[.tok ((o++Gn l (fs.drop i)).length*4) dk])
 |0,i,o,He,hHe,hi0,ho=>by
  have e:i=fs.length:=by omega
  subst e
  rw [List.drop_length,Gn,List.append_nil]
  rw [aw M fh.eq_1]
  simp (maxSteps:=3000000) (maxDischargeDepth:=6) +contextual -implicitDefEqProofs only [amA M,amB,↓aj,↓ab,↓al,↓ak,Nat.reduceBEq,Nat.reduceAdd,env,ao,ep,Nat.lt_irrefl]
 |n+1,i,o,He,hHe,hi0,ho=>by
  subst hHe
  have hi:i<fs.length:=by omega
  have hx0:fs[i]?=some fs[i]:=List.getElem?_eq_getElem hi
  have hm0:fs[i]∈fs:=List.getElem_mem hi
  have hd:fs.drop i=fs[i]::fs.drop (i+1):=List.drop_eq_getElem_cons hi
  generalize fs[i]=h at hx0 hm0 hd
  obtain ⟨⟨x,c,s,hA⟩,hw⟩:=hfs h hm0
  have hsl:=fun H=>Hz M hW hE hF hl h.e h.q H
  simp only [hA.sl hk,Option.getD_some,Option.isSome_some] at hsl
  have hp':=fun L=>dg (L:=L) hp
  have hpl:=(List.getElem?_eq_some_iff.1 hp).1
  have w1:Wk (H.length+1) (.ptr p 0) (.ptr p 0):=wk_ptr (by omega)
  have w2:Wk (H.length+1) (.slice tf 3 (fs.map b4.row)) (.slice tf 3 (fs.map b4.row)):=wk_slice (hfw.mono (Nat.zero_le _)) (uj HD _ fs)
  have w4:=fun o:List bL=>wk_slice (n:=H.length+1) (esz:=4) (tag:=.own H.length) (show H.length<H.length+1 by omega) (uj JR _ o)
  have hws:=cY hi (show fs.length≤bH by simp only [bH];omega)
  have e1:UK l h=LF x s h 0 l.links.l:=by simp only [UK,hA.sl hk,hA.ent']
  rw [hd,Gn,e1]
  have hl8:=IG hk
  have hol:=LG x s h l.links.l 0
  have ih:=XA hW hE hU hO hP hF hV hl hk hfs hfl hfw (H0:=H0) hp k n (i+1) (o++LF x s h 0 l.links.l) _ rfl (by omega) (by simp only [List.length_append];omega)
  have hin:=fun k=>WY M hE hU hO hP hF hV hl hk hw hA (fs:=fs) hfw (e2:=(i:Int)) (H0:=H0) hp k l.links.l.length 0 o _ rfl (by omega) (by omega)
  simp only [kv_cons,kv_nil,Int.ofNat_zero,List.drop_zero,List.append_assoc] at ih hin ⊢
  rw [aw M fh.eq_1]
  simp (maxSteps:=3000000) (maxDischargeDepth:=6) +contextual -implicitDefEqProofs only [amA M,amB,↓aj,↓ab,↓al,↓ak,Nat.reduceBEq,Nat.reduceAdd,env,ao,ep,amG,AV.cell,Nat.reduceMul,Nat.reduceLeDiff,hi,hx0,hsl,hp',hin,ih,w1,w2,w4,ui,qM,hws,bz hi,cj,FA,iS,Na]
theorem N4(hW:WdE M)(hE:iz E)(hU:uN E){srt:List aq→List aq}(hO:vw M srt)(hP:Srt srt)(hF:qg E)(hV:N1 E)(hA:HC E){l:Lex}(hl:l.ok 0)(hk:bG l=0){fs:List b4}(hfs:∀ h∈fs,LJ l h)(hfl:fs.length≤3072){tf:Tag}(hfw:pT 0 tf)(H:List ae) :
  M.run kx [.agg l.row,.slice tf 3 (fs.map b4.row)] H=some (.ret (.slice .any 4 ((Gn l fs).map bL.row)),H):=by
 rw [aZ M hA.morph_language_openings rfl (c:=ky) rfl,ky]
 have h1:=fun k=>XA M hW hE hU hO hP hF hV hl hk hfs hfl hfw (H:=H++[.cells l.row aD]) (H0:=H) (p:=H.length) (T:=aD) (by rw [dW];rfl) k fs.length 0 [] _ rfl (by omega) (by simp;omega)
 simp only [kv_cons,kv_nil,Int.ofNat_zero,List.drop_zero,List.length_append,List.length_cons,List.length_nil,Nat.zero_add,Nat.reduceAdd,List.append_assoc,List.cons_append,List.nil_append,List.map_nil,Nat.zero_mul] at h1
 simp (maxSteps:=3000000) (maxDischargeDepth:=6) +contextual -implicitDefEqProofs only [amA M,amB,↓aj,↓ab,↓al,↓ak,Nat.reduceBEq,Nat.reduceAdd,env,ao,ep,amG,AV.cell,Nat.reduceMul,Nat.reduceLeDiff,h1,cj,JR,implies_true,cut_app]
theorem RU{l:Lex}(hk:bG l=0){e:Nat}{x:aF}{c:a6}(hx:l.entries.l[e]?=some x)(hc:yW l x c):∀ (t:List br) (i:Nat),(∀ (j:Nat) (s:br),t[j]?=some s→c.slots.l[i+j]?=some s)→∀ h∈Bl l x e i t,LJ l h
 |[],_,_,h,hm=>by cases hm
 |s::t,i,ht,h,hm=>by
  have h0:=ht 0 s rfl
  have hA:At l (e:Int) (i:Int) x c s:=PL hk (by omega) (by simpa using hx) hc (by simpa using h0)
  have ih:=RU hk hx hc t (i+1) fun j s hj=>by have:=ht (j+1) s (by simpa using hj);rwa [show i+1+j=i+(j+1) by omega]
  rw [Bl] at hm
  cases hw:jB l x s i == [] with
  |true=>rw [hw] at hm;exact ih h hm
  |false=>
   rw [hw] at hm
   rcases List.mem_cons.1 hm with rfl | hm
   ·exact ⟨⟨x,c,s,hA⟩,RR hc s i⟩
   ·exact ih h hm
theorem RV{l:Lex}(hk:bG l=0):∀ (t:List aF) (e:Nat),(∀ (j:Nat) (x:aF),t[j]?=some x→l.entries.l[e+j]?=some x)→∀ h∈Gm l e t,LJ l h
 |[],_,_,h,hm=>by cases hm
 |x::t,e,ht,h,hm=>by
  have h0:l.entries.l[e]?=some x:=ht 0 x rfl
  obtain ⟨c,hc⟩:=Gj hk h0
  have ih:=RV hk t (e+1) fun j s hj=>by have:=ht (j+1) s (by simpa using hj);rwa [show e+1+j=e+(j+1) by omega]
  rw [Gm,hc.cls] at hm
  rcases List.mem_append.1 hm with hm | hm
  ·exact RU hk h0 hc c.slots.l 0 (fun j s hj=>by rwa [Nat.zero_add]) h hm
  ·exact ih h hm
theorem VP{l:Lex}(hk:bG l=0):∀ h∈zI l,LJ l h:=RV hk l.entries.l 0 fun j x hj=>by rwa [Nat.zero_add]
end
section
attribute [local congr] aG ct bm aH a7 aN aI aA aC aO aP
variable{E:bB}(M:cT cU E)
theorem Ml(hS:SpE E)(hA:HC E)(s p:Str)(H:List ae):M.run pZ [.str s,.str p] H=some (.ret (.tuple [.str (sel (lB s p) (s.drop p.length) s),.bool (lB s p)]),H):=by
 have h1:M.run ib [.str s,.str p] H=some (.ret (.tuple [.str (sel (lB s p) (s.drop p.length) s),.bool (lB s p)]),H):=by
  have h0:=fun H=>Eg M hS s p H
  rw [aZ M hA.internal_stringslite_CutPrefix rfl (c:=il) rfl,il]
  cases hd:lB s p with
  |true=>
   have hle:p.length≤s.length:=by
    simp only [lB,Bool.and_eq_true,decide_eq_true_eq] at hd;omega
   simp (maxSteps:=3000000) (maxDischargeDepth:=6) +contextual -implicitDefEqProofs only [amA M,amB,↓aj,↓ab,↓al,↓ak,Nat.reduceBEq,Nat.reduceAdd,env,ao,kM,h0,hd,xx hle,sel,wk_tuple]
  |false=>
   simp (maxSteps:=3000000) (maxDischargeDepth:=6) +contextual -implicitDefEqProofs only [amA M,amB,↓aj,↓ab,↓al,↓ak,Nat.reduceBEq,Nat.reduceAdd,env,ao,kM,h0,hd,sel,wk_tuple]
 rw [aZ M hA.strings_CutPrefix rfl (c:=p8) rfl,p8]
 simp (maxSteps:=3000000) (maxDischargeDepth:=6) +contextual -implicitDefEqProofs only [amA M,amB,↓aj,↓ab,↓al,↓ak,Nat.reduceBEq,Nat.reduceAdd,env,ao,ER,h1,wk_tuple]
def fsT:List a8→Sl a8
 |[]=>⟨.nil,[]⟩
 |x::t=>⟨.any,x::t⟩
def HE(w:Str)(hv:List a8):List b4→List au
 |[]=>[]
 |h::t=>sel (h.w == w) (⟨fsT hv,h.e,h.q⟩::HE w hv t) (HE w hv t)
def vx(F:Str→List a8→List au)(w:Str)(hv:List a8):List bL→List au
 |[]=>[]
 |o::t=>sel (lB w o.w) (F (w.drop o.w.length) (hv++[o.first])++vx F w hv t) (vx F w hv t)
def tW(fs:List b4)(os:List bL):Nat→Str→List a8→List au
 |0,w,hv=>HE w hv fs
 |n+1,w,hv=>vx (fun w hv=>tW fs os n w hv) w hv os
theorem PR(w:Str)(hv:List a8):∀ fs:List b4,(HE w hv fs).length≤fs.length
 |[]=>Nat.le_refl _
 |h::t=>by
  have h1:=PR w hv t
  rw [HE]
  cases (h.w == w)<;>simp only [sel,List.length_cons]<;>omega
theorem Nf{F:Str→List a8→List au}{B:Nat}(hF:∀ w hv,(F w hv).length≤B)(w:Str)(hv:List a8):∀ os:List bL,(vx F w hv os).length≤os.length*B
 |[]=>by simp [vx]
 |o::t=>by
  have h1:=Nf hF w hv t
  have h2:=hF (w.drop o.w.length) (hv++[o.first])
  rw [vx,List.length_cons,Nat.add_mul,Nat.one_mul]
  cases lB w o.w<;>simp only [sel,List.length_append]<;>omega
theorem HF(fs:List b4)(os:List bL):∀ (n:Nat) (w:Str) (hv:List a8),(tW fs os n w hv).length≤os.length ^ n*fs.length
 |0,w,hv=>by have:=PR w hv fs;rw [tW];simpa using this
 |n+1,w,hv=>by
  rw [tW,Nat.pow_succ,Nat.mul_comm (os.length ^ n),Nat.mul_assoc]
  exact Nf (fun w hv=>HF fs os n w hv) w hv os
theorem LL{fs:List b4}{os:List bL}(hf:fs.length≤3072)(ho:os.length≤24576){n:Nat}(hn:n≤2)(w:Str)(hv:List a8):(tW fs os n w hv).length≤1900000000000:=by
 have h1:=HF fs os n w hv
 have h2:os.length ^ n≤24576 ^ n:=Nat.pow_le_pow_left ho n
 have h3:24576 ^ n≤24576 ^ 2:=Nat.pow_le_pow_right (by decide) hn
 have h4:=Nat.mul_le_mul (Nat.le_trans h2 h3) hf
 have h5:24576 ^ 2*3072≤1900000000000:=by decide
 omega
theorem HG(m:List au)(hm:∀ x∈m,∃ l,x.firsts=fsT l):(∀ x∈m,(au.row x).length=3∧(au.row x).all AV.cell=true)∧(∀ x∈m,(au.row x).map AV.strip=au.row x):=⟨fun _ _=>⟨rfl,rfl⟩,fun x h=>by
 obtain ⟨l,e⟩:=hm x h
 unfold au.row
 rw [e]
 cases l<;>rfl⟩
theorem WZ(n:Nat)(x:au)(l:List a8)(e:x.firsts=fsT l):WkL n (au.row x) (au.row x):=by
 have hw:Wk n (.slice (fsT l).tag 3 ((fsT l).l.map a8.row)) (.slice (fsT l).tag 3 ((fsT l).l.map a8.row)):=wk_slice (by cases l<;>trivial) (uj Lz _ _)
 unfold au.row
 rw [e]
 exact ⟨hw,wk_int _ _ _,wk_int _ _ _,trivial⟩
theorem JS(w:Str)(hv:List a8):∀ fs:List b4,∀ x∈HE w hv fs,∃ l,x.firsts=fsT l
 |[],x,h=>by cases h
 |y::t,x,h=>by
  rw [HE] at h
  cases hb:(y.w == w) with
  |true=>
   rw [hb] at h
   rcases List.mem_cons.1 h with rfl | h
   ·exact ⟨hv,rfl⟩
   ·exact JS w hv t x h
  |false=>rw [hb] at h;exact JS w hv t x h
theorem LM{F:Str→List a8→List au}(hF:∀ w hv,∀ x∈F w hv,∃ l,x.firsts=fsT l)(w:Str)(hv:List a8):∀ os:List bL,∀ x∈vx F w hv os,∃ l,x.firsts=fsT l
 |[],x,h=>by cases h
 |y::t,x,h=>by
  rw [vx] at h
  cases hb:lB w y.w with
  |true=>
   rw [hb] at h
   rcases List.mem_append.1 h with h | h
   ·exact hF _ _ x h
   ·exact LM hF w hv t x h
  |false=>rw [hb] at h;exact LM hF w hv t x h
theorem HH(fs:List b4)(os:List bL):∀ (n:Nat) (w:Str) (hv:List a8),∀ x∈tW fs os n w hv,∃ l,x.firsts=fsT l
 |0,w,hv=>JS w hv fs
 |n+1,w,hv=>LM (fun w hv=>HH fs os n w hv) w hv os
theorem EG(n:Nat)(m:List au)(hm:∀ x∈m,∃ l,x.firsts=fsT l):mI n (m.map au.row):=by
 rw [rowsWk_map];exact fun x h=>by obtain ⟨l,e⟩:=hm x h;exact WZ n x l e
theorem Rc{E:bB}{g:FuncId}{first cap args:List AV}{H H':List ae}{T L:List Nat}{v:AV}(h:H'.take H.length=H):CI cU E .keep (.fn (.func g) first cap) args H T L (some (.ret v,H'))=some (v,H',T,L):=by
 unfold CI vA
 simp only [H6 h,CH.b,if_true]
theorem RW(E:bB)(g:FuncId)(first cap args:List AV)(H:List ae)(x y z:ae)(T L:List Nat)(v:AV):CI cU E .keep (.fn (.func g) first cap) args (H++[x,y]) T L (some (.ret v,H++[x,y,z]))=some (v,H++[x,y,z],T,L):=
 Rc (by rw [show H++[x,y,z]=(H++[x,y])++[z] by simp,List.take_left])
theorem W0(hA:HC E){w:Str}{hv:List a8}(hvl:hv.length≤2){tg:Tag}(htg:(tg = .nil∧hv=[])∨hv≠[]){fs:List b4}(hfl:fs.length≤3072){tf:Tag}{H H0:List ae}(hfw:pT H.length tf)(hvw:pT H.length tg)(k:List Fra):∀ (n i:Nat) (o:List au) (He:List ae),(∀ x∈o,∃ l,x.firsts=fsT l)→He=H++[.tok (o.length*3) aL]→i+n=fs.length→o.length+n≤10000 →
  M.go eM H0 (.c gB :: .lp ⟨(some [2,4,11,20,21,22]),[(11,3,aL)],true⟩ gB He :: .blk 0 :: .c (.lv [11])::k) (kv [(2,.str w),(4,.slice tg 3 (hv.map a8.row)),(11,.slice (.own H.length) 3 (o.map au.row)),(20,.slice tf 3 (fs.map b4.row)),(21,.int .i64 fs.length),(22,.int .i64 i)]) (H++[.tok (o.length*3) aL]) =
   M.go eM H0 k (kv [(11,.slice (.own H.length) 3 ((o++HE w hv (fs.drop i)).map au.row))]) (H++[.tok ((o++HE w hv (fs.drop i)).length*3) aL])
 |0,i,o,He,hof,hHe,h,ho=>by
  have e:i=fs.length:=by omega
  subst e
  rw [List.drop_length,HE,List.append_nil]
  rw [aw M gB.eq_1]
  simp (maxSteps:=3000000) (maxDischargeDepth:=6) +contextual -implicitDefEqProofs only [amA M,amB,↓aj,↓ab,↓al,↓ak,Nat.reduceBEq,Nat.reduceAdd,env,ao,eN,Nat.lt_irrefl]
 |n+1,i,o,He,hof,hHe,h,ho=>by
  subst hHe
  have hi:i<fs.length:=by omega
  have hx:fs[i]?=some fs[i]:=List.getElem?_eq_getElem hi
  have hd:fs.drop i=fs[i]::fs.drop (i+1):=List.drop_eq_getElem_cons hi
  generalize fs[i]=y at hx hd
  have w1:Wk (H.length+1) (.slice tf 3 (fs.map b4.row)) (.slice tf 3 (fs.map b4.row)):=wk_slice (hfw.mono (by omega)) (uj HD _ fs)
  have w2:Wk (H.length+1) (.slice tg 3 (hv.map a8.row)) (.slice tg 3 (hv.map a8.row)):=wk_slice (hvw.mono (by omega)) (uj Lz _ hv)
  have w4:=fun (o:List au) (ho:∀ x∈o,∃ l,x.firsts=fsT l)=>wk_slice (n:=H.length+1) (esz:=3) (tag:=.own H.length) (show H.length<H.length+1 by omega) (EG _ o ho)
  have hws:=cY hi (show fs.length≤bH by simp only [bH];omega)
  rw [hd,HE]
  cases hb:y.w == w with
  |false=>
   have ih:=W0 hA hvl htg hfl hfw hvw (w:=w) (H0:=H0) k n (i+1) o _ hof rfl (by omega) (by omega)
   have w5:=w4 o hof
   simp only [kv_cons,kv_nil,sel] at ih ⊢
   rw [aw M gB.eq_1]
   simp (maxSteps:=3000000) (maxDischargeDepth:=6) +contextual -implicitDefEqProofs only [amA M,amB,↓aj,↓ab,↓al,↓ak,Nat.reduceBEq,Nat.reduceAdd,env,ao,eN,amG,AV.cell,Nat.reduceMul,Nat.reduceLeDiff,hi,hx,hb,ih,w1,w2,w5,ui,qM,hws,bz hi,Na]
  |true=>
   have hof2:∀ x∈o++[(⟨fsT hv,y.e,y.q⟩:au)],∃ l,x.firsts=fsT l:=by
    intro x hx
    rcases List.mem_append.1 hx with hx | hx
    ·exact hof x hx
    ·rw [List.mem_singleton.1 hx];exact ⟨hv,rfl⟩
   have ih:=W0 hA hvl htg hfl hfw hvw (w:=w) (H0:=H0) k n (i+1) (o++[⟨fsT hv,y.e,y.q⟩]) _ hof2 rfl (by omega) (by simp;omega)
   have w5:=w4 _ hof2
   simp only [kv_cons,kv_nil,sel,List.append_assoc,List.cons_append,List.nil_append] at ih w5 ⊢
   rcases htg with ⟨rfl,rfl⟩ | hne
   ·have ap:=fun L=>HA (row:=au.row) (l:=o) (x:=⟨fsT [],y.e,y.q⟩) (r:=[.slice .nil 3 [],.int .i64 y.e,.int .i64 y.q]) (sz:=3) (bytes:=40) (e:=aL) H L rfl rfl rfl (by omega) (by omega)
    simp only [List.map_nil] at ih w2 ⊢
    rw [aw M gB.eq_1]
    simp (maxSteps:=3000000) (maxDischargeDepth:=6) +contextual -implicitDefEqProofs only [amA M,amB,↓aj,↓ab,↓al,↓ak,Nat.reduceBEq,Nat.reduceAdd,env,ao,eN,amG,AV.cell,Nat.reduceMul,Nat.reduceLeDiff,hi,hx,hb,LA M hA,ap,ih,w1,w2,w5,ui,qM,hws,bz hi,Na]
   ·have hcl:=fun H=>LB M hA hne (by omega) tg H
    have ap:=fun L=>HA (row:=au.row) (l:=o) (x:=⟨fsT hv,y.e,y.q⟩) (r:=[.slice .any 3 (hv.map a8.row),.int .i64 y.e,.int .i64 y.q]) (sz:=3) (bytes:=40) (e:=aL) H L rfl rfl (by cases hv with | nil=>exact absurd rfl hne | cons a b=>rfl) (by omega) (by omega)
    rw [aw M gB.eq_1]
    simp (maxSteps:=3000000) (maxDischargeDepth:=6) +contextual -implicitDefEqProofs only [amA M,amB,↓aj,↓ab,↓al,↓ak,Nat.reduceBEq,Nat.reduceAdd,env,ao,eN,amG,AV.cell,Nat.reduceMul,Nat.reduceLeDiff,hi,hx,hb,hcl,RW,ap,ih,w1,w2,w5,ui,qM,hws,bz hi,Na]
end
section
attribute [local congr] aG ct bm aH a7 aN aI aA aC aO aP
variable{E:bB}(M:cT cU E)
theorem VQ(H:List ae)(x y:ae)(f:a8):rap false (H++[x,y]) dH 3 24 false (.slice .nil 3 []) (.slice .full 3 [a8.row f])=some (.slice (.own (H.length+2)) 3 [a8.row f],H++[x,y,.tok 3 dH]):=by
 have hr:oe 3 [a8.row f]=true:=rfl
 have hs:(a8.row f).map AV.strip=a8.row f:=rfl
 simp [rap,Dv,CE,hr,hs]
theorem VR(H:List ae)(x y:ae){hv:List a8}(hl:hv.length≤100)(f:a8):rap false (H++[x,y,.tok (hv.length*3) dH]) dH 3 24 false (.slice (.own (H.length+2)) 3 (hv.map a8.row)) (.slice .full 3 [a8.row f])=some (.slice (.own (H.length+2)) 3 ((hv++[f]).map a8.row),H++[x,y,.tok ((hv++[f]).length*3) dH]):=by
 have h:=TS (row:=a8.row) (l:=hv) (x:=f) (r:=a8.row f) (sz:=3) (bytes:=24) (e:=dH) (H++[x,y]) rfl rfl rfl (by omega) (by omega)
 simpa using h
theorem W1(hS:SpE E)(hA:HC E){fs:List b4}{os:List bL}(hfl:fs.length≤3072)(hol:os.length≤24576){w:Str}{hv:List a8}{m:Nat}(hvl:hv.length+m≤1){tg:Tag}(htg:(tg = .nil∧hv=[])∨hv≠[]){tf to:Tag}{H H0:List ae}(hfw:pT H.length tf)(how:pT H.length to)(hvw:pT H.length tg)
  (hrec:∀ (w:Str) (hv:List a8) (tg:Tag) (H2:List ae),hv.length+m≤2→(tg = .nil∧hv=[])∨hv≠[]→H.length≤H2.length→pT H2.length tg →
   M.run lK [.slice tf 3 (fs.map b4.row),.slice to 4 (os.map bL.row),.str w,.int .i64 m,.slice tg 3 (hv.map a8.row)] H2=some (.ret (.slice .any 3 ((tW fs os m w hv).map au.row)),H2)) (k:List Fra) :
  ∀ (n i:Nat) (o:List au) (He:List ae),(∀ x∈o,∃ l,x.firsts=fsT l)→He=H++[.tok (o.length*3) aL]→i+n=os.length→o.length+(vx (fun w hv=>tW fs os m w hv) w hv (os.drop i)).length≤3000000000000 →
  M.go eM H0 (.c gC :: .lp ⟨(some [0,1,2,3,4,11,42,43,44]),[(11,3,aL)],true⟩ gC He :: .blk 2 :: .c (.lv [11])::k) (kv [(0,.slice tf 3 (fs.map b4.row)),(1,.slice to 4 (os.map bL.row)),(2,.str w),(3,.int .i64 ((m+1:Nat):Int)),(4,.slice tg 3 (hv.map a8.row)),(11,.slice (.own H.length) 3 (o.map au.row)),(42,.slice to 4 (os.map bL.row)),(43,.int .i64 os.length),(44,.int .i64 i)]) (H++[.tok (o.length*3) aL]) =
   M.go eM H0 k (kv [(11,.slice (.own H.length) 3 ((o++vx (fun w hv=>tW fs os m w hv) w hv (os.drop i)).map au.row))]) (H++[.tok ((o++vx (fun w hv=>tW fs os m w hv) w hv (os.drop i)).length*3) aL])
 |0,i,o,He,hof,hHe,h,ho=>by
  have e:i=os.length:=by omega
  subst e
  rw [List.drop_length,vx,List.append_nil]
  rw [aw M gC.eq_1]
  simp (maxSteps:=3000000) (maxDischargeDepth:=6) +contextual -implicitDefEqProofs only [amA M,amB,↓aj,↓ab,↓al,↓ak,Nat.reduceBEq,Nat.reduceAdd,env,ao,eN,Nat.lt_irrefl]
 |n+1,i,o,He,hof,hHe,h,ho=>by
  subst hHe
  have hi:i<os.length:=by omega
  have hx:os[i]?=some os[i]:=List.getElem?_eq_getElem hi
  have hd:os.drop i=os[i]::os.drop (i+1):=List.drop_eq_getElem_cons hi
  generalize os[i]=y at hx hd
  have w1:Wk (H.length+1) (.slice tf 3 (fs.map b4.row)) (.slice tf 3 (fs.map b4.row)):=wk_slice (hfw.mono (by omega)) (uj HD _ fs)
  have w2:Wk (H.length+1) (.slice tg 3 (hv.map a8.row)) (.slice tg 3 (hv.map a8.row)):=wk_slice (hvw.mono (by omega)) (uj Lz _ hv)
  have w3:Wk (H.length+1) (.slice to 4 (os.map bL.row)) (.slice to 4 (os.map bL.row)):=wk_slice (how.mono (by omega)) (uj JR _ os)
  have w4:=fun (o:List au) (ho:∀ x∈o,∃ l,x.firsts=fsT l)=>wk_slice (n:=H.length+1) (esz:=3) (tag:=.own H.length) (show H.length<H.length+1 by omega) (EG _ o ho)
  have hws:=cY hi (show os.length≤bH by simp only [bH];omega)
  have hcp:=fun H=>Ml M hS hA w y.w H
  have hpr:IntKind.i64.wrap (((m+1:Nat):Int)-1)=(m:Int):=Sv (by omega)
  rw [hd,vx] at ho ⊢
  cases hb:lB w y.w with
  |false=>
   rw [hb] at ho hcp
   have ih:=W1 hS hA hfl hol hvl htg hfw how hvw hrec (w:=w) (H0:=H0) k n (i+1) o _ hof rfl (by omega) ho
   have w5:=w4 o hof
   simp only [sel] at hcp
   simp only [kv_cons,kv_nil,sel] at ih ⊢
   rw [aw M gC.eq_1]
   simp (maxSteps:=3000000) (maxDischargeDepth:=6) +contextual -implicitDefEqProofs only [amA M,amB,↓aj,↓ab,↓al,↓ak,Nat.reduceBEq,Nat.reduceAdd,env,ao,eN,amG,AV.cell,Nat.reduceMul,Nat.reduceLeDiff,hi,hx,hb,hcp,ih,w1,w2,w3,w5,ui,qM,hws,bz hi,Q9,QB]
  |true=>
   rw [hb] at ho hcp
   simp only [sel,List.length_append] at ho hcp
   have hms:=fun l=>HH fs os m (w.drop y.w.length) (hv++[y.first]) l
   have hof2:∀ x∈o++tW fs os m (w.drop y.w.length) (hv++[y.first]),∃ l,x.firsts=fsT l:=by
    intro x hx
    rcases List.mem_append.1 hx with hx | hx
    ·exact hof x hx
    ·exact hms x hx
   have ih:=W1 hS hA hfl hol hvl htg hfw how hvw hrec (w:=w) (H0:=H0) k n (i+1) (o++tW fs os m (w.drop y.w.length) (hv++[y.first])) _ hof2 rfl (by omega) (by rw [List.length_append];omega)
   have w5:=w4 _ hof2
   have ap:=fun L=>PP (row:=au.row) (l:=o) (m:=tW fs os m (w.drop y.w.length) (hv++[y.first])) (tg:=.any) (sz:=3) (bytes:=40) (e:=aL) H L (HG _ hms).1 (HG _ hms).2 (by omega) (by omega)
   have hr:=fun X Y Z=>hrec (w.drop y.w.length) (hv++[y.first]) (.own (H.length+2)) (H++[X,Y,Z]) (by simp;omega) (.inr (by simp)) (by simp) (by simp [pT])
   generalize tW fs os m (w.drop y.w.length) (hv++[y.first])=rs at ih w5 ap hr
   simp only [kv_cons,kv_nil,sel,List.append_assoc,List.cons_append,List.nil_append] at ih w5 ⊢
   rcases htg with ⟨rfl,rfl⟩ | hne
   ·simp only [List.map_nil,List.nil_append,List.map_cons] at ih w2 hr ⊢
    rw [aw M gC.eq_1]
    simp (maxSteps:=3000000) (maxDischargeDepth:=6) +contextual -implicitDefEqProofs only [amA M,amB,↓aj,↓ab,↓al,↓ak,Nat.reduceBEq,Nat.reduceAdd,env,ao,eN,amG,AV.cell,Nat.reduceMul,Nat.reduceLeDiff,hi,hx,hb,hcp,hpr,LA M hA,VQ,hr,ap,ih,w1,w2,w3,w5,ui,qM,hws,bz hi,Q9,QB]
   ·have hcl:=fun H=>LB M hA hne (by omega) tg H
    rw [aw M gC.eq_1]
    simp (maxSteps:=3000000) (maxDischargeDepth:=6) +contextual -implicitDefEqProofs only [amA M,amB,↓aj,↓ab,↓al,↓ak,Nat.reduceBEq,Nat.reduceAdd,env,ao,eN,amG,AV.cell,Nat.reduceMul,Nat.reduceLeDiff,hi,hx,hb,hcp,hpr,hcl,RW,VR H _ _ (show hv.length≤100 by omega),hr,ap,ih,w1,w2,w3,w5,ui,qM,hws,bz hi,Q9,QB]
end
section
attribute [local congr] aG ct bm aH a7 aN aI aA aC aO aP
variable{E:bB}(M:cT cU E)
theorem HI(hS:SpE E)(hA:HC E){fs:List b4}{os:List bL}(hfl:fs.length≤3072)(hol:os.length≤24576){tf to:Tag}(hfw:pT 0 tf)(how:pT 0 to):∀ (n:Nat) (w:Str) (hv:List a8) (tg:Tag) (H:List ae),hv.length+n≤2→(tg = .nil∧hv=[])∨hv≠[]→pT H.length tg →
  M.run lK [.slice tf 3 (fs.map b4.row),.slice to 4 (os.map bL.row),.str w,.int .i64 n,.slice tg 3 (hv.map a8.row)] H=some (.ret (.slice .any 3 ((tW fs os n w hv).map au.row)),H)
 |0,w,hv,tg,H,hn,htg,hvw=>by
  rw [aZ M hA.morph_analyses rfl (c:=lV) rfl,lV]
  have h1:=fun k=>W0 M hA (w:=w) (hv:=hv) (by omega) htg hfl (H:=H) (H0:=H) (hfw.mono (Nat.zero_le _)) hvw k fs.length 0 [] _ (by simp) rfl (by omega) (by simp;omega)
  simp only [kv_cons,kv_nil,Int.ofNat_zero,List.drop_zero,List.length_nil,List.nil_append,List.map_nil,Nat.zero_mul] at h1
  have hwk:=fun n=>EG n _ (JS w hv fs)
  simp only [rowsWk_map] at hwk
  have hz:((((0:Nat):Int)) == 0)=true:=rfl
  rw [tW]
  simp (maxSteps:=3000000) (maxDischargeDepth:=6) +contextual -implicitDefEqProofs only [amA M,amB,↓aj,↓ab,↓al,↓ak,Nat.reduceBEq,Nat.reduceAdd,env,ao,eN,amG,AV.cell,Nat.reduceMul,Nat.reduceLeDiff,h1,hwk,hz,implies_true,cut_app]
 |n+1,w,hv,tg,H,hn,htg,hvw=>by
  rw [aZ M hA.morph_analyses rfl (c:=lV) rfl,lV]
  have hb:=LL hfl hol (show n+1≤2 by omega) w hv
  have h1:=fun k=>W1 M hS hA hfl hol (w:=w) (hv:=hv) (m:=n) (by omega) htg (H:=H) (H0:=H) (hfw.mono (Nat.zero_le _)) (how.mono (Nat.zero_le _)) hvw (fun w hv tg H2 h1 h2 _ h4=>HI hS hA hfl hol hfw how n w hv tg H2 h1 h2 h4) k os.length 0 [] _ (by simp) rfl (by omega) (by rw [tW] at hb;simp only [List.drop_zero,List.length_nil];omega)
  simp only [kv_cons,kv_nil,Int.ofNat_zero,List.drop_zero,List.length_nil,List.nil_append,List.map_nil,Nat.zero_mul] at h1
  have hwk:=fun k=>EG k _ (HH fs os (n+1) w hv)
  have hz:((((n+1:Nat):Int)) == 0)=false:=by simp;omega
  rw [tW] at hwk ⊢
  simp only [rowsWk_map] at hwk
  simp (maxSteps:=3000000) (maxDischargeDepth:=6) +contextual -implicitDefEqProofs only [amA M,amB,↓aj,↓ab,↓al,↓ak,Nat.reduceBEq,Nat.reduceAdd,env,ao,eN,amG,AV.cell,Nat.reduceMul,Nat.reduceLeDiff,h1,hwk,hz,implies_true,cut_app]
def Gp(fs:List b4)(os:List bL)(w:Str):Nat→Nat→List au
 |_,0=>[]
 |i,n+1=>tW fs os i w []++Gp fs os w (i+1) n
theorem N5(fs:List b4)(os:List bL)(w:Str):∀ n i,∀ x∈Gp fs os w i n,∃ l,x.firsts=fsT l
 |0,i,x,h=>by cases h
 |n+1,i,x,h=>by
  rw [Gp] at h
  rcases List.mem_append.1 h with h | h
  ·exact HH fs os i w [] x h
  ·exact N5 fs os w n (i+1) x h
theorem PS{fs:List b4}{os:List bL}(hfl:fs.length≤3072)(hol:os.length≤24576)(w:Str):(Gp fs os w 0 3).length≤2000000000000:=by
 have h0:=HF fs os 0 w []
 have h1:=HF fs os 1 w []
 have h2:=LL hfl hol (show 2≤2 by omega) w []
 have h3:os.length ^ 1*fs.length≤24576*3072:=Nat.mul_le_mul (by simpa using hol) hfl
 simp only [Gp,List.length_append,List.length_nil,Nat.zero_add,Nat.reduceAdd]
 simp only [Nat.pow_zero,Nat.one_mul] at h0
 omega
def Fj(l:Lex)(w:Str):List au:=Gp (zI l) (Gn l (zI l)) w 0 3
theorem azl(hS:SpE E)(hA:HC E){fs:List b4}{os:List bL}(hfl:fs.length≤3072)(hol:os.length≤24576){w:Str}{tf to:Tag}(hfw:pT 0 tf)(how:pT 0 to){H H0:List ae}(k:List Fra):∀ (n i:Nat) (o:List au) (He:List ae),i+n=3→(∀ x∈o,∃ l,x.firsts=fsT l)→o.length+(Gp fs os w i n).length≤3000000000000 →
  M.go de H0 (.c ft :: .lp ⟨(some [1,5,6,7,14]),[(7,3,aL)],false⟩ ft He :: .blk 0 :: .c (.lv [7])::k) (kv [(1,.str w),(5,.slice tf 3 (fs.map b4.row)),(6,.slice to 4 (os.map bL.row)),(7,.slice (.own H.length) 3 (o.map au.row)),(14,.int .i64 i)]) (H++[.tok (o.length*3) aL]) =
   M.go de H0 k (kv [(7,.slice (.own H.length) 3 ((o++Gp fs os w i n).map au.row))]) (H++[.tok ((o++Gp fs os w i n).length*3) aL])
 |0,i,o,He,h,hof,ho=>by
  have e:i=3:=by omega
  subst e
  have d3:decide (((3:Nat):Int)<3)=false:=by decide
  rw [Gp,List.append_nil]
  rw [aw M ft.eq_1]
  simp (maxSteps:=3000000) (maxDischargeDepth:=6) +contextual -implicitDefEqProofs only [amA M,amB,↓aj,↓ab,↓al,↓ak,Nat.reduceBEq,Nat.reduceAdd,env,ao,lb,d3]
 |n+1,i,o,He,h,hof,ho=>by
  have d3:decide (((i:Nat):Int)<3)=true:=decide_eq_true (by omega)
  have hws:IntKind.i64.wrap ((i:Int)+1)=((i+1:Nat):Int):=Su (by omega)
  have hr:=fun H=>HI M hS hA hfl hol hfw how i w [] .nil H (by simp;omega) (.inl ⟨rfl,rfl⟩) trivial
  rw [Gp] at ho ⊢
  rw [List.length_append] at ho
  have hms:=HH fs os i w []
  have ap:=fun L=>PP (row:=au.row) (l:=o) (m:=tW fs os i w []) (tg:=.any) (sz:=3) (bytes:=40) (e:=aL) H L (HG _ hms).1 (HG _ hms).2 (by omega) (by omega)
  have hof2:∀ x∈o++tW fs os i w [],∃ l,x.firsts=fsT l:=by
   intro x hx
   rcases List.mem_append.1 hx with hx | hx
   ·exact hof x hx
   ·exact hms x hx
  have ih:=fun He=>azl hS hA hfl hol (w:=w) hfw how (H:=H) (H0:=H0) k n (i+1) (o++tW fs os i w []) He (by omega) hof2 (by rw [List.length_append];omega)
  generalize tW fs os i w []=rs at ih ap hr
  simp only [List.map_nil] at hr
  simp only [kv_cons,kv_nil,List.append_assoc] at ih ⊢
  rw [aw M ft.eq_1]
  simp (maxSteps:=3000000) (maxDischargeDepth:=6) +contextual -implicitDefEqProofs only [amA M,amB,↓aj,↓ab,↓al,↓ak,Nat.reduceBEq,Nat.reduceAdd,env,ao,lb,amG,AV.cell,Nat.reduceMul,Nat.reduceLeDiff,d3,hws,hr,ap,ih]
theorem PT(hN:cS E)(hW:WdE M)(hE:iz E)(hS:SpE E)(hX:oZ M)(hY:C9 M)(hB:pb E)(hF:qg E)(hU:uN E){srt:List aq→List aq}(hO:vw M srt)(hP:Srt srt)(hV:N1 E)(hA:HC E){l:Lex}(hl:l.ok 0)(hk:bG l=0)(w:Str)(H:List ae) :
  M.run k6 [.agg l.row,.str w] H=some (.ret (.slice .any 3 ((Fj l w).map au.row)),H):=by
 rw [aZ M hA.morph_language_analyze rfl (c:=k9) rfl,k9]
 have h1:=fun H=>Rb M hN hW hE hS hX hY hB hF hA hl hk H
 have h2:=fun H=>N4 M hW hE hU hO hP hF hV hA hl hk (VP hk) (LD hk) (tf:=.any) trivial H
 have hsl:=LD hk
 have hol:=LI hk (zI l)
 have h3:=fun k He=>azl M hS hA hsl (show (Gn l (zI l)).length≤24576 by omega) (w:=w) (tf:=.any) (to:=.any) trivial trivial (H:=H++[.cells l.row aD]) (H0:=H) k 3 0 [] He (by omega) (by simp) (by have:=PS hsl (show (Gn l (zI l)).length≤24576 by omega) w;simp only [List.length_nil];omega)
 have hwk:=fun n=>EG n _ (N5 (zI l) (Gn l (zI l)) w 3 0)
 rw [Fj]
 generalize Gp (zI l) (Gn l (zI l)) w 0 3=rs at h3 hwk
 simp only [rowsWk_map] at hwk
 simp only [kv_cons,kv_nil,Int.ofNat_zero,List.drop_zero,List.length_append,List.length_cons,List.length_nil,Nat.zero_add,Nat.reduceAdd,List.append_assoc,List.cons_append,List.nil_append,List.map_nil,Nat.zero_mul] at h3
 simp (maxSteps:=3000000) (maxDischargeDepth:=6) +contextual -implicitDefEqProofs only [amA M,amB,↓aj,↓ab,↓al,↓ak,Nat.reduceBEq,Nat.reduceAdd,env,ao,lb,amG,AV.cell,Nat.reduceMul,Nat.reduceLeDiff,h1,h2,h3,hwk,cj,implies_true,cut_app]
end
section
attribute [local congr] aG ct bm aH a7 aN aI aA aC aO aP
variable{E:bB}(M:cT cU E)
def VS(l:Lex)(w:Str):AV:=
 sel (!(bG l == 0)) (.tuple [.slice .any 3 [],.int .u8 (bG l)]) (sel (!(Be w)) (.tuple [.slice .any 3 [],.int .u8 1]) (.tuple [.slice .any 3 ((Fj l w).map au.row),.int .u8 0]))
theorem VT(l:Lex)(w:Str):∀ n:Nat,∀ x∈Fj l w,WkL n (au.row x) (au.row x):=fun n=>by
 have:=EG n _ (N5 (zI l) (Gn l (zI l)) w 3 0)
 rw [rowsWk_map] at this
 exact this
theorem PU(hN:cS E)(hW:WdE M)(hE:iz E)(hS:SpE E)(hX:oZ M)(hY:C9 M)(hB:pb E)(hF:qg E)(hU:uN E){srt:List aq→List aq}(hO:vw M srt)(hP:Srt srt)(hV:N1 E)(hA:HC E){l:Lex}(hl:l.ok 0){w:Str}(hw:w.length≤bH)(H:List ae) :
  M.run ji [.agg l.row,.str w] H=some (.ret (VS l w),H):=by
 rw [aZ M hA.morph_Analyze rfl (c:=u3) rfl,u3]
 unfold VS
 have hwd:=fun H=>O4 M hN hw H
 cases hk:bG l == 0 with
 |false=>
  simp (maxSteps:=3000000) (maxDischargeDepth:=6) +contextual -implicitDefEqProofs only [amA M,amB,↓aj,↓ab,↓al,↓ak,Nat.reduceBEq,Nat.reduceAdd,env,ao,u4,amG,AV.cell,Nat.reduceMul,Nat.reduceLeDiff,rS M hN hE hl,Nat.zero_le,hk,cj,hJ,wk_tuple,sel]
 |true=>
  cases hww:Be w with
  |false=>
   rw [hww] at hwd
   simp (maxSteps:=3000000) (maxDischargeDepth:=6) +contextual -implicitDefEqProofs only [amA M,amB,↓aj,↓ab,↓al,↓ak,Nat.reduceBEq,Nat.reduceAdd,env,ao,u4,amG,AV.cell,Nat.reduceMul,Nat.reduceLeDiff,rS M hN hE hl,Nat.zero_le,hk,hwd,cj,hJ,wk_tuple,sel]
  |true=>
   rw [hww] at hwd
   have ha:=fun H=>PT M hN hW hE hS hX hY hB hF hU hO hP hV hA hl (eq_of_beq hk) w H
   have hwk:=VT l w
   generalize Fj l w=rs at ha hwk
   simp (maxSteps:=3000000) (maxDischargeDepth:=6) +contextual -implicitDefEqProofs only [amA M,amB,↓aj,↓ab,↓al,↓ak,Nat.reduceBEq,Nat.reduceAdd,env,ao,u4,amG,AV.cell,Nat.reduceMul,Nat.reduceLeDiff,rS M hN hE hl,Nat.zero_le,hk,hwd,ha,hwk,cj,implies_true,wk_tuple,sel]
end
theorem LN(w p:Str):lB w p=true↔∃ r,w=p++r:=by
 simp only [lB,Bool.and_eq_true,decide_eq_true_eq,beq_iff_eq]
 constructor
 ·rintro ⟨_,h2⟩
  exact ⟨w.drop p.length,by conv=>lhs;rw [← List.take_append_drop p.length w,h2]⟩
 ·rintro ⟨r,rfl⟩
  exact ⟨by simp,by simp⟩
theorem PV{l:Lex}{x:aF}{e:Nat}:∀ (t:List br) (i:Nat) (h:b4),h∈Bl l x e i t→∃ (j:Nat) (s:br),t[j]?=some s∧h=⟨e,((i+j:Nat):Int),jB l x s ((i+j:Nat):Int)⟩∧h.w≠[]
 |[],_,h,hm=>by cases hm
 |s::t,i,h,hm=>by
  have ih:=PV (l:=l) (x:=x) (e:=e) t (i+1) h
  have rc:h∈Bl l x e (i+1) t→∃ (j:Nat) (s':br),(s::t)[j]?=some s'∧h=⟨e,((i+j:Nat):Int),jB l x s' ((i+j:Nat):Int)⟩∧h.w≠[]:=fun hm=>by
   obtain ⟨j,s',h1,h2,h3⟩:=ih hm
   exact ⟨j+1,s',by simpa using h1,by rw [h2,show i+1+j=i+(j+1) by omega],h3⟩
  rw [Bl] at hm
  cases hw:jB l x s i == [] with
  |true=>rw [hw] at hm;exact rc hm
  |false=>
   rw [hw] at hm
   rcases List.mem_cons.1 hm with rfl | hm
   ·exact ⟨0,s,rfl,rfl,fun e=>by simp only at e;rw [e] at hw;cases hw⟩
   ·exact rc hm
theorem RY{l:Lex}{x:aF}{e:Nat}:∀ (t:List br) (i j:Nat) (s:br),t[j]?=some s→jB l x s ((i+j:Nat):Int)≠[]→(⟨e,((i+j:Nat):Int),jB l x s ((i+j:Nat):Int)⟩:b4)∈Bl l x e i t
 |[],_,j,s,h,_=>by simp at h
 |y::t,i,0,s,h,hw=>by
  obtain rfl:y=s:=by simpa using h
  have:(jB l x y i == [])=false:=by simpa using hw
  rw [Bl,this]
  exact List.mem_cons_self ..
 |y::t,i,j+1,s,h,hw=>by
  have ih:=RY (l:=l) (x:=x) (e:=e) t (i+1) j s (by simpa using h) (by rwa [show i+1+j=i+(j+1) by omega])
  rw [show i+1+j=i+(j+1) by omega] at ih
  rw [Bl]
  cases (jB l x y i == []) with
  |true=>exact ih
  |false=>exact List.mem_cons_of_mem _ ih
def Ch(l:Lex)(x:aF):List br:=match Bg l x.cls with | some c=>c.slots.l | none=>[]
theorem PW{l:Lex}:∀ (t:List aF) (e:Nat) (h:b4),h∈Gm l e t→∃ (j:Nat) (x:aF),t[j]?=some x∧h∈Bl l x (e+j) 0 (Ch l x)
 |[],_,h,hm=>by cases hm
 |x::t,e,h,hm=>by
  rw [Gm] at hm
  rcases List.mem_append.1 hm with hm | hm
  ·exact ⟨0,x,rfl,hm⟩
  ·obtain ⟨j,y,h1,h2⟩:=PW t (e+1) h hm
   exact ⟨j+1,y,by simpa using h1,by rwa [show e+(j+1)=e+1+j by omega]⟩
theorem RZ{l:Lex}:∀ (t:List aF) (e j:Nat) (x:aF) (h:b4),t[j]?=some x→h∈Bl l x (e+j) 0 (Ch l x)→h∈Gm l e t
 |[],_,j,x,h,h1,_=>by simp at h1
 |y::t,e,0,x,h,h1,h2=>by
  obtain rfl:y=x:=by simpa using h1
  rw [Gm]
  exact List.mem_append_left _ h2
 |y::t,e,j+1,x,h,h1,h2=>by
  rw [Gm]
  exact List.mem_append_right _ (RZ t (e+1) j x h (by simpa using h1) (by rwa [show e+1+j=e+(j+1) by omega]))
theorem UN{l:Lex}(hk:bG l=0){h:b4}(hm:h∈zI l):∃ x c s,At l h.e h.q x c s∧h.w=jB l x s h.q∧h.w≠[]:=by
 obtain ⟨j,x,h1,h2⟩:=PW _ _ _ hm
 obtain ⟨c,hc⟩:=Gj hk h1
 rw [Ch,hc.cls] at h2
 obtain ⟨i,s,h3,rfl,h5⟩:=PV _ _ _ h2
 refine ⟨x,c,s, ?_,rfl,h5⟩
 have:=PL hk (e:=((0+j:Nat):Int)) (by omega) (by simpa using h1) hc h3
 simpa using this
theorem VU{l:Lex}{e q:Int}{x:aF}{c:a6}{s:br}(hA:At l e q x c s)(hw:jB l x s q≠[]):(⟨e,q,jB l x s q⟩:b4)∈zI l:=by
 have he:((e.toNat:Nat):Int)=e:=by have:=hA.e0;omega
 have hq:((q.toNat:Nat):Int)=q:=by have:=hA.q0;omega
 refine RZ _ 0 e.toNat x _ hA.ex ?_
 rw [Ch,hA.ent.cls,Nat.zero_add]
 have:=RY (l:=l) (x:=x) (e:=e.toNat) c.slots.l 0 q.toNat s hA.sx (by rw [Nat.zero_add,hq];exact hw)
 rw [Nat.zero_add,hq,he] at this
 exact this
theorem PX{w:Str}{hv:List a8}:∀ (fs:List b4) (x:au),x∈HE w hv fs↔∃ h∈fs,h.w=w∧x=⟨fsT hv,h.e,h.q⟩
 |[],x=>by simp [HE]
 |h::t,x=>by
  have ih:=PX (w:=w) (hv:=hv) t x
  rw [HE]
  cases hb:h.w == w with
  |true=>
   have e:=eq_of_beq hb
   simp only [sel,List.mem_cons,ih]
   constructor
   ·rintro (rfl | ⟨y,h1,h2,h3⟩)
    ·exact ⟨h,.inl rfl,e,rfl⟩
    ·exact ⟨y,.inr h1,h2,h3⟩
   ·rintro ⟨y,rfl | h1,h2,h3⟩
    ·exact .inl h3
    ·exact .inr ⟨y,h1,h2,h3⟩
  |false=>
   have e:h.w≠w:=by simpa using hb
   simp only [sel,ih,List.mem_cons]
   constructor
   ·rintro ⟨y,h1,h2,h3⟩;exact ⟨y,.inr h1,h2,h3⟩
   ·rintro ⟨y,rfl | h1,h2,h3⟩
    ·exact absurd h2 e
    ·exact ⟨y,h1,h2,h3⟩
theorem Ng{F:Str→List a8→List au}{w:Str}{hv:List a8}:∀ (os:List bL) (x:au),x∈vx F w hv os↔∃ o∈os,lB w o.w=true∧x∈F (w.drop o.w.length) (hv++[o.first])
 |[],x=>by simp [vx]
 |o::t,x=>by
  have ih:=Ng (F:=F) (w:=w) (hv:=hv) t x
  rw [vx]
  cases hb:lB w o.w with
  |true=>
   simp only [sel,List.mem_append,ih,List.mem_cons]
   constructor
   ·rintro (h | ⟨y,h1,h2,h3⟩)
    ·exact ⟨o,.inl rfl,hb,h⟩
    ·exact ⟨y,.inr h1,h2,h3⟩
   ·rintro ⟨y,rfl | h1,h2,h3⟩
    ·exact .inl h3
    ·exact .inr ⟨y,h1,h2,h3⟩
  |false=>
   simp only [sel,ih,List.mem_cons]
   constructor
   ·rintro ⟨y,h1,h2,h3⟩;exact ⟨y,.inr h1,h2,h3⟩
   ·rintro ⟨y,rfl | h1,h2,h3⟩
    ·rw [hb] at h2;cases h2
    ·exact ⟨y,h1,h2,h3⟩
def N6(p:List bL):Str:=(p.map (·.w)).flatten
theorem HJ{fs:List b4}{os:List bL}:∀ (n:Nat) (w:Str) (hv:List a8) (x:au),x∈tW fs os n w hv↔∃ (p:List bL) (h:b4),p.length=n∧(∀ o∈p,o∈os)∧h∈fs∧w=N6 p++h.w∧x=⟨fsT (hv++p.map (·.first)),h.e,h.q⟩
 |0,w,hv,x=>by
  rw [tW,PX]
  constructor
  ·rintro ⟨h,h1,h2,h3⟩;exact ⟨[],h,rfl,by simp,h1,by simp [N6,h2],by simpa using h3⟩
  ·rintro ⟨p,h,hp,_,h1,h2,h3⟩
   obtain rfl:=List.eq_nil_of_length_eq_zero hp
   exact ⟨h,h1,by simpa [N6] using h2.symm,by simpa using h3⟩
 |n+1,w,hv,x=>by
  rw [tW,Ng]
  constructor
  ·rintro ⟨o,ho,hb,hx⟩
   obtain ⟨r,rfl⟩:=(LN _ _).1 hb
   rw [List.drop_left] at hx
   obtain ⟨p,h,h1,h2,h3,h4,h5⟩:=(HJ n r _ x).1 hx
   refine ⟨o::p,h,by simp [h1], ?_,h3,by simp [N6,h4],by simpa using h5⟩
   intro y hy
   rcases List.mem_cons.1 hy with rfl | hy
   ·exact ho
   ·exact h2 y hy
  ·rintro ⟨p,h,hp,h2,h3,h4,h5⟩
   cases p with
   |nil=>cases hp
   |cons o p=>
    refine ⟨o,h2 o (by simp),(LN _ _).2 ⟨N6 p++h.w,by rw [h4];simp [N6]⟩, ?_⟩
    refine (HJ n _ _ x).2 ⟨p,h,by simpa using hp,fun y hy=>h2 y (by simp [hy]),h3, ?_,by simpa using h5⟩
    rw [h4];simp [N6]
theorem PY{fs:List b4}{os:List bL}{w:Str}:∀ (n i:Nat) (x:au),x∈Gp fs os w i n↔∃ m,i≤m∧m<i+n∧x∈tW fs os m w []
 |0,i,x=>by
  rw [Gp]
  constructor
  ·intro h;cases h
  ·rintro ⟨m,h1,h2,_⟩;omega
 |n+1,i,x=>by
  rw [Gp,List.mem_append,PY n (i+1) x]
  constructor
  ·rintro (h | ⟨m,h1,h2,h3⟩)
   ·exact ⟨i,by omega,by omega,h⟩
   ·exact ⟨m,by omega,by omega,h3⟩
  ·rintro ⟨m,h1,h2,h3⟩
   by_cases he:m=i
   ·subst he;exact .inl h3
   ·exact .inr ⟨m,by omega,by omega,h3⟩
theorem PZ{l:Lex}{w:Str}{x:au}:x∈Fj l w↔∃ (p:List bL) (h:b4),p.length≤2∧(∀ o∈p,o∈Gn l (zI l))∧h∈zI l∧w=N6 p++h.w∧x=⟨fsT (p.map (·.first)),h.e,h.q⟩:=by
 rw [Fj,PY]
 constructor
 ·rintro ⟨m,_,h2,hx⟩
  obtain ⟨p,h,h1,h2,h3,h4,h5⟩:=(HJ m w [] x).1 hx
  exact ⟨p,h,by omega,h2,h3,h4,by simpa using h5⟩
 ·rintro ⟨p,h,h1,h2,h3,h4,h5⟩
  exact ⟨p.length,by omega,by omega,(HJ _ w [] x).2 ⟨p,h,rfl,h2,h3,h4,by simpa using h5⟩⟩
theorem LO{v:Str}{x:bA}{s:Str}(ht:x.to.all kr=true)(hs:s.all kr=true):∀ (n i:Nat) (w:Str),w.all kr=true→(Gf v x s n i w).all kr=true
 |0,i,w,hw=>by rw [Gf];exact hw
 |n+1,i,w,hw=>by
  rw [Gf]
  cases hc:s[i]? with
  |none=>exact hw
  |some c=>
   have hcs:kr c=true:=List.all_eq_true.1 hs c (List.mem_of_getElem? hc)
   cases Um v x s i with
   |true=>exact LO ht hs n _ _ (by rw [List.all_append,hw,ht];rfl)
   |false=>exact LO ht hs n _ _ (by rw [List.all_append,hw];simp [hcs])
theorem Nh{v:Str}:∀ (l:List bA) (o:List Str) (u:Str) (r:List Str),(∀ x∈l,x.to.all kr=true)→(∀ s∈o,s.all kr=true)→u.all kr=true→CD v o u l=some r→∀ s∈r,s.all kr=true
 |[],o,u,r,hl,ho,hu,h=>by
  rw [CD] at h
  obtain rfl:=Option.some.inj h
  exact ho
 |x::l,o,u,r,hl,ho,hu,h=>by
  rw [CD] at h
  have h2:(uM v x u).all kr=true:=LO (hl x (by simp)) hu _ _ _ rfl
  cases hd:decide (((uM v x u).length:Int)≤512) with
  |false=>rw [hd] at h;cases h
  |true=>
   rw [hd] at h
   refine Nh l (o++[uM v x u]) (uM v x u) r (fun y hy=>hl y (by simp [hy])) ?_ h2 h
   intro s hs
   rcases List.mem_append.1 hs with hs | hs
   ·exact ho s hs
   ·rw [List.mem_singleton.1 hs];exact h2
theorem Re{s:Str}(h:s.all nY=true):s.all kr=true:=by
 rw [List.all_eq_true] at h ⊢
 intro c hc
 simp [kr,h c hc]
theorem VV{s:Str}(h:s.all kr=true):(Bk s).all nY=true:=by
 rw [List.all_eq_true] at h ⊢
 intro c hc
 obtain ⟨h1,h2⟩:=List.mem_filter.1 hc
 have h3:=h c h1
 simp only [kr,Bool.or_eq_true,beq_iff_eq] at h3
 rcases h3 with h3 | h3
 ·exact h3
 ·exfalso
  have:c=43:=by
   have h4:c.toNat=43:=by omega
   exact UInt8.toNat_inj.1 h4
  rw [this] at h2
  simp at h2
theorem UO{lem:Str}{s:br}(hl:lem.all nY=true)(hs:Uw s):(PA lem s).all kr=true:=by
 have h1:=Re hs.pre.2
 have h2:=Re hs.add.2
 have h3:(lem.take (lem.length-s.cut.toNat)).all kr=true:=by
  rw [List.all_eq_true]
  intro c hc
  exact List.all_eq_true.1 (Re hl) c (List.mem_of_mem_take hc)
 have h4:(([43]:Str)).all kr=true:=by decide
 have h5:(Lr s (lem.take (lem.length-s.cut.toNat))).all kr=true:=by
  unfold Lr
  cases s.pre == [] with
  |true=>exact h3
  |false=>simp only [sel];rw [List.all_append,List.all_append,h1,h3,h4];rfl
 unfold PA IE
 cases s.add == [] with
 |true=>exact h5
 |false=>simp only [sel];rw [List.all_append,List.all_append,h2,h5,h4];rfl
theorem P0{s:Str}(h:zF s=true):s.all nY=true:=by
 simp only [zF,Bool.and_eq_true] at h
 exact h.2
theorem S3{l:Lex}(hk:bG l=0):∀ x∈l.spells.l,x.to.all kr=true:=fun x hx=>by
 obtain ⟨j,hj⟩:=List.getElem?_of_mem hx
 have h4:=(jW (rU hk).2.2.1).2 j x hj
 unfold Ce at h4
 have:=(fF (by decide) h4).1
 simp only [Bool.or_eq_false_iff,Bool.not_eq_false',qf,Bool.and_eq_true] at this
 exact this.1.1.2.2
theorem W2{l:Lex}(hk:bG l=0){x:aF}{c:a6}(h:yW l x c){s:br}(hs:Uw s)(q:Int):(jB l x s q).all nY=true:=by
 unfold jB
 split
 ·rename_i w hi
  simp only [Q8,Option.map_eq_some_iff] at hi
  obtain ⟨f,hf,rfl⟩:=hi
  obtain ⟨k,hk⟩:=List.getElem?_of_mem (List.mem_of_find?_eq_some hf)
  have:=rT h.forms k f hk
  rw [Nat.zero_add] at this
  unfold MV at this
  have h3:=(fF (by decide) (fF (by decide) (fF (by decide) this).2).2).1
  cases hw:f.word == [] with
  |true=>rw [eq_of_beq hw];rfl
  |false=>
   rw [hw] at h3
   exact P0 (by simpa using h3)
 ·unfold Mk
  split
  ·rfl
  ·rename_i r hr
   unfold xA at hr
   split at hr
   ·cases hr
   ·rename_i u hu
    unfold Ls at hu
    cases hd:decide ((x.lem.length:Int)<s.cut) with
    |true=>rw [hd] at hu;cases hu
    |false=>
     rw [hd] at hu
     obtain rfl:=Option.some.inj hu
     have hus:=UO (P0 h.lem) hs
     have hrs:=Nh l.spells.l _ _ r (S3 hk) (by simpa using hus) hus hr
     have hlast:(r.getLastD []).all kr=true:=by
      cases hrr:r with
      |nil=>rfl
      |cons a t=>
       rw [List.getLastD_eq_getLast?,List.getLast?_eq_some_getLast (by simp:a::t≠[])]
       exact hrs _ (by rw [hrr];exact List.getLast_mem _)
     cases decide ((24:Int)<((Bk (r.getLastD [])).length:Int)) with
     |true=>rfl
     |false=>exact VV hlast
theorem VW{s:Str}(h:s.all nY=true)(h0:s≠[])(hl:s.length≤24):Be s=true:=by
 have h1:s.all O2=true:=by
  rw [List.all_eq_true] at h ⊢
  intro c hc
  have h2:=h c hc
  simp only [nY,O2,Bool.and_eq_true,decide_eq_true_eq] at h2 ⊢
  omega
 have h2:1≤s.length:=by cases s with | nil=>exact absurd rfl h0 | cons a b=>simp
 simp only [Be,h1,Bool.and_true,Bool.and_eq_true,decide_eq_true_eq]
 omega
section
attribute [local congr] aG ct bm aH a7 aN aI aA aC aO aP
variable{E:bB}(M:cT cU E)
theorem UP{l:Lex}(hk:bG l=0)(w:Str):(Fj l w).length≤2000000000000:=by
 have h1:=LD hk
 have h2:=LI hk (zI l)
 exact PS h1 (by omega) w
theorem UQ{w:Str}(h:Be w=true):w.length≤24:=by
 simp only [Be,Bool.and_eq_true,decide_eq_true_eq] at h
 omega
end
section
attribute [local congr] aG ct bm aH a7 aN aI aA aC aO aP
variable{E:bB}(M:cT cU E)
def gfA(l:Lex)(fe:List aq)(lem:Str)(a:au):Bool:=
 match slF l a.entry a.slot,Hy l a.entry with
 |some s,some x=>sel (decide ((0:Int)<(a.firsts.l.length:Int))) false (sel (x.lem == lem) (Gi fe (vo x s)) false)
 |_,_=>false
theorem UR{l:Lex}{fe:List aq}{x:aF}{i:Nat}{s:br}{o:List Str}{v:Str}:v∈PN l fe x i s o↔v∈o∨(jB l x s i=v∧v≠[]∧Gi fe (vo x s)=true):=by
 unfold PN
 cases hw:jB l x s i == [] with
 |true=>
  have e:=eq_of_beq hw
  simp only [Bool.not_true,Bool.false_and,sel]
  constructor
  ·exact .inl
  ·rintro (h | ⟨h1,h2,_⟩)
   ·exact h
   ·exact absurd (h1.symm.trans e) h2
 |false=>
  have e:jB l x s i≠[]:=by simpa using hw
  cases hs:Gi fe (vo x s) with
  |false=>simp [sel]
  |true=>
   cases ha:o.any (fun t=>jB l x s i == t) with
   |true=>
    simp only [Bool.not_false,Bool.and_true,Bool.not_true,Bool.and_false,sel]
    constructor
    ·exact .inl
    ·rintro (h | ⟨rfl,h2,_⟩)
     ·exact h
     ·obtain ⟨t,ht,h3⟩:=List.any_eq_true.1 ha
      rw [eq_of_beq h3];exact ht
   |false=>
    simp only [Bool.not_false,Bool.and_true,sel,List.mem_append,List.mem_singleton]
    constructor
    ·rintro (h | rfl)
     ·exact .inl h
     ·exact .inr ⟨rfl,e,trivial⟩
    ·rintro (h | ⟨rfl,_,_⟩)
     ·exact .inl h
     ·exact .inr rfl
theorem P1{l:Lex}{fe:List aq}{x:aF}{v:Str}:∀ (t:List br) (i:Nat) (o:List Str),v∈IF l fe x i t o↔v∈o∨∃ (j:Nat) (s:br),t[j]?=some s∧jB l x s ((i+j:Nat):Int)=v∧v≠[]∧Gi fe (vo x s)=true
 |[],i,o=>by simp [IF]
 |s::t,i,o=>by
  rw [IF,P1 t (i+1),UR]
  constructor
  ·rintro ((h | h) | ⟨j,s',h1,h2,h3⟩)
   ·exact .inl h
   ·exact .inr ⟨0,s,rfl,h⟩
   ·exact .inr ⟨j+1,s',by simpa using h1,by rwa [show i+(j+1)=i+1+j by omega],h3⟩
  ·rintro (h | ⟨j,s',h1,h2,h3⟩)
   ·exact .inl (.inl h)
   ·cases j with
    |zero=>obtain rfl:s=s':=by simpa using h1
           exact .inl (.inr ⟨h2,h3⟩)
    |succ j=>exact .inr ⟨j,s',by simpa using h1,by rwa [show i+1+j=i+(j+1) by omega],h3⟩
theorem HK{l:Lex}{fe:List aq}{lem v:Str}:∀ (t:List aF) (o:List Str) (b:Bool),v∈(xB l fe lem t o b).1↔v∈o∨∃ x∈t,x.lem=lem∧∃ (j:Nat) (s:br),(Ch l x)[j]?=some s∧jB l x s (j:Int)=v∧v≠[]∧Gi fe (vo x s)=true
 |[],o,b=>by simp [xB]
 |x::t,o,b=>by
  rw [xB]
  cases hb:x.lem == lem with
  |true=>
   have e:=eq_of_beq hb
   simp only [sel]
   rw [HK t,P1]
   constructor
   ·rintro ((h | ⟨j,s,h1,h2,h3⟩) | ⟨y,h1,h2⟩)
    ·exact .inl h
    ·exact .inr ⟨x,by simp,e,j,s,h1,by simpa using h2,h3⟩
    ·exact .inr ⟨y,by simp [h1],h2⟩
   ·rintro (h | ⟨y,h1,h2,j,s,h3,h4,h5⟩)
    ·exact .inl (.inl h)
    ·rcases List.mem_cons.1 h1 with rfl | h1
     ·exact .inl (.inr ⟨j,s,h3,by simpa using h4,h5⟩)
     ·exact .inr ⟨y,h1,h2,j,s,h3,h4,h5⟩
  |false=>
   have e:x.lem≠lem:=by simpa using hb
   simp only [sel]
   rw [HK t]
   constructor
   ·rintro (h | ⟨y,h1,h2⟩)
    ·exact .inl h
    ·exact .inr ⟨y,by simp [h1],h2⟩
   ·rintro (h | ⟨y,h1,h2,h3⟩)
    ·exact .inl h
    ·rcases List.mem_cons.1 h1 with rfl | h1
     ·exact absurd h2 e
     ·exact .inr ⟨y,h1,h2,h3⟩
theorem W3{l:Lex}(hk:bG l=0){fe:List aq}{lem v:Str}(h:v∈(xB l fe lem l.entries.l [] false).1):∃ (e q:Int) (x:aF) (c:a6) (s:br),At l e q x c s∧x.lem=lem∧jB l x s q=v∧v≠[]∧Gi fe (vo x s)=true:=by
 rcases (HK _ _ _).1 h with h | ⟨x,hx,h1,j,s,h2,h3,h4,h5⟩
 ·cases h
 ·obtain ⟨e,he⟩:=List.getElem?_of_mem hx
  obtain ⟨c,hc⟩:=Gj hk he
  rw [Ch,hc.cls] at h2
  exact ⟨e,j,x,c,s,PL hk (by omega) (by simpa using he) hc h2,h1,h3,h4,h5⟩
theorem US{l:Lex}(hk:bG l=0){fe:List aq}{lem v:Str}(h:v∈(xB l fe lem l.entries.l [] false).1):Be v=true∧(Fj l v).any (gfA l fe lem)=true:=by
 obtain ⟨e,q,x,c,s,hA,h1,rfl,h3,h4⟩:=W3 hk h
 refine ⟨VW (W2 hk hA.ent hA.sok q) h3 (RR hA.ent s q),List.any_eq_true.2 ⟨⟨fsT [],e,q⟩, ?_, ?_⟩⟩
 ·exact PZ.2 ⟨[],⟨e,q,jB l x s q⟩,by simp,by simp,VU hA h3,by simp [N6],rfl⟩
 ·simp only [gfA,hA.sl hk,hA.ent',h1,h4,beq_self_eq_true,sel]
  rfl
theorem W4{l:Lex}{fe:List aq}{lem:Str}{e q:Int}{x:aF}{c:a6}{s:br}(hA:At l e q x c s)(h1:x.lem=lem)(h2:jB l x s q≠[])(h3:Gi fe (vo x s)=true):jB l x s q∈(xB l fe lem l.entries.l [] false).1:=by
 have hq:((q.toNat:Nat):Int)=q:=by have:=hA.q0;omega
 exact (HK _ _ _).2 (.inr ⟨x,List.mem_of_getElem? hA.ex,h1,q.toNat,s,by rw [Ch,hA.ent.cls];exact hA.sx,by rw [hq],h2,h3⟩)
theorem W5{l:Lex}(hk:bG l=0){w:Str}{a:au}(ha:a∈Fj l w):∃ x c s,At l a.entry a.slot x c s:=by
 obtain ⟨p,h,_,_,hh,_,rfl⟩:=PZ.1 ha
 obtain ⟨x,c,s,hA,_⟩:=UN hk hh
 exact ⟨x,c,s,hA⟩
theorem XB(hN:cS E)(hW:WdE M)(hE:iz E)(hF:qg E)(hU:uN E){srt:List aq→List aq}(hO:vw M srt)(hP:Srt srt){l:Lex}(hl:l.ok 0)(hk:bG l=0){lem:Str}{fe:Sl aq}(hfe:fe.ok 0 (aq.ok 0)){en sl:Int}{ws:List Str}{tw ta:Tag}{j:Int}
  {asq:List au} (hlen:asq.length≤4000000000000) (hat:∀ a∈asq,∃ x c s,At l a.entry a.slot x c s) {H H0:List ae}{p:Nat}{T:TypeId} (hp:H[p]?=some (.cells l.row T)) (k:List Fra):∀ (n i:Nat) (b:Bool) (He:List ae),i+n=asq.length →
  M.go bC H0 (.c b6 :: .lp ⟨(some [2,5,6,7,8,9,11,12,14,15]),[],false⟩ b6 He :: .blk 2 :: .c (.lv [2,5,6,7,8,9,11,14])::k) (kv [(2,.ptr p 0),(5,.str lem),(6,.slice fe.tag 2 (fe.l.map aq.row)),(7,.int .i64 en),(8,.int .i64 sl),(9,.slice tw 1 (ws.map gd)),(11,.int .i64 j),(12,.slice ta 3 (asq.map au.row)),(14,.bool b),(15,.int .i64 i)]) H =
   M.go bC H0 k (kv [(2,.ptr p 0),(5,.str lem),(6,.slice fe.tag 2 (fe.l.map aq.row)),(7,.int .i64 en),(8,.int .i64 sl),(9,.slice tw 1 (ws.map gd)),(11,.int .i64 j),(14,.bool (b||(asq.drop i).any (gfA l fe.l lem)))]) H
 |0,i,b,He,h=>by
  have e:i=asq.length:=by omega
  subst e
  rw [List.drop_length,List.any_nil,Bool.or_false]
  rw [aw M b6.eq_1]
  simp (maxSteps:=3000000) (maxDischargeDepth:=6) +contextual -implicitDefEqProofs only [amA M,amB,↓aj,↓ab,↓al,↓ak,Nat.reduceBEq,Nat.reduceAdd,env,ao,aW,Nat.lt_irrefl]
 |n+1,i,b,He,h=>by
  have hi:i<asq.length:=by omega
  have hx:asq[i]?=some asq[i]:=List.getElem?_eq_getElem hi
  have hd:asq.drop i=asq[i]::asq.drop (i+1):=List.drop_eq_getElem_cons hi
  obtain ⟨x,c,s,hA⟩:=hat asq[i] (List.getElem_mem hi)
  generalize asq[i]=a at hx hd hA
  have hws:=cY hi (show asq.length≤bH by simp only [bH];omega)
  have hft:=fun H=>M6 M hN hW hE hF hU hO hP hl a.entry a.slot H
  rw [Nc hk hA] at hft
  have hsu:=fun H=>vW M hE hU (a:=fe) (b:=⟨.any,vo x s⟩) hfe.len (JQ hA) H
  simp only at hsu
  have r1:decide (a.entry<0)=false:=decide_eq_false (by have:=hA.e0;omega)
  have r2:decide ((l.entries.l.length:Int)≤a.entry)=false:=decide_eq_false (by have:=hA.el;omega)
  have ih:=fun b He=>XB hN hW hE hF hU hO hP hl hk (lem:=lem) hfe (en:=en) (sl:=sl) (ws:=ws) (tw:=tw) (ta:=ta) (j:=j) hlen hat (H0:=H0) hp k n (i+1) b He (by omega)
  rw [hd,List.any_cons]
  have e0:gfA l fe.l lem a=sel (decide ((0:Int)<(a.firsts.l.length:Int))) false (sel (x.lem == lem) (Gi fe.l (vo x s)) false):=by simp only [gfA,hA.sl hk,hA.ent']
  simp only [kv_cons,kv_nil] at ih
  cases h1:decide ((0:Int)<(a.firsts.l.length:Int)) with
  |true=>
   rw [e0,h1]
   simp only [sel,Bool.false_or]
   rw [aw M b6.eq_1]
   simp (maxSteps:=3000000) (maxDischargeDepth:=6) +contextual -implicitDefEqProofs only [amA M,amB,↓aj,↓ab,↓al,↓ak,Nat.reduceBEq,Nat.reduceAdd,env,ao,aW,hi,hx,h1,ih,hws,hp,bz hi,Ew,cj]
  |false=>
   cases h2:x.lem == lem with
   |false=>
    rw [e0,h1,h2]
    simp only [sel,Bool.false_or]
    rw [aw M b6.eq_1]
    simp (maxSteps:=3000000) (maxDischargeDepth:=6) +contextual -implicitDefEqProofs only [amA M,amB,↓aj,↓ab,↓al,↓ak,Nat.reduceBEq,Nat.reduceAdd,env,ao,aW,hi,hx,h1,h2,r1,r2,hA.ex,ih,hws,hp,bz hi,gz hA.e0 hA.el,Ew,cj,eU,bne,Bool.not_false]
   |true=>
    rw [e0,h1,h2]
    simp only [sel]
    cases b with
    |true=>
     simp only [Bool.true_or]
     rw [aw M b6.eq_1]
     simp (maxSteps:=3000000) (maxDischargeDepth:=6) +contextual -implicitDefEqProofs only [amA M,amB,↓aj,↓ab,↓al,↓ak,Nat.reduceBEq,Nat.reduceAdd,env,ao,aW,hi,hx,h1,h2,r1,r2,hA.ex,ih,hft,hws,hp,bz hi,gz hA.e0 hA.el,Ew,cj,eU,bne,Bool.not_true,Bool.true_or]
    |false=>
     simp only [Bool.false_or]
     rw [aw M b6.eq_1]
     simp (maxSteps:=3000000) (maxDischargeDepth:=6) +contextual -implicitDefEqProofs only [amA M,amB,↓aj,↓ab,↓al,↓ak,Nat.reduceBEq,Nat.reduceAdd,env,ao,aW,hi,hx,h1,h2,r1,r2,hA.ex,ih,hft,hsu,hws,hp,bz hi,gz hA.e0 hA.el,Ew,cj,eU,bne,Bool.not_true,beq_self_eq_true,Bool.false_or]
theorem XC(hN:cS E)(hW:WdE M)(hE:iz E)(hS:SpE E)(hX:oZ M)(hY:C9 M)(hB:pb E)(hF:qg E)(hU:uN E){srt:List aq→List aq}(hO:vw M srt)(hP:Srt srt)(hV:N1 E)(hA:HC E){l:Lex}(hl:l.ok 0)(hk:bG l=0){lem:Str}{fe:Sl aq}(hfe:fe.ok 0 (aq.ok 0)){en sl:Int}{ws:List Str}(hwl:ws.length≤bH)(hwd:∀ v∈ws,Be v=true∧(Fj l v).any (gfA l fe.l lem)=true){tw:Tag}
  {H H0:List ae}{p:Nat}{T:TypeId} (hp:H[p]?=some (.cells l.row T)) (k:List Fra):∀ (n i:Nat) (He:List ae),i+n=ws.length →
  M.go bC H0 (.c eE :: .lp ⟨(some [2,5,6,7,8,9,11]),[],false⟩ eE He :: .blk 0 :: .c (.lv [2,5,6,7,8,9])::k) (kv [(2,.ptr p 0),(5,.str lem),(6,.slice fe.tag 2 (fe.l.map aq.row)),(7,.int .i64 en),(8,.int .i64 sl),(9,.slice tw 1 (ws.map gd)),(11,.int .i64 i)]) H =
   M.go bC H0 k (kv [(2,.ptr p 0),(5,.str lem),(6,.slice fe.tag 2 (fe.l.map aq.row)),(7,.int .i64 en),(8,.int .i64 sl),(9,.slice tw 1 (ws.map gd))]) H
 |0,i,He,h=>by
  have e:i=ws.length:=by omega
  subst e
  rw [aw M eE.eq_1]
  simp (maxSteps:=3000000) (maxDischargeDepth:=6) +contextual -implicitDefEqProofs only [amA M,amB,↓aj,↓ab,↓al,↓ak,Nat.reduceBEq,Nat.reduceAdd,env,ao,aW,Nat.lt_irrefl]
 |n+1,i,He,h=>by
  have hi:i<ws.length:=by omega
  have hx:ws[i]?=some ws[i]:=List.getElem?_eq_getElem hi
  obtain ⟨h1,h2⟩:=hwd ws[i] (List.getElem_mem hi)
  generalize ws[i]=v at hx h1 h2
  have hws:=cY hi hwl
  have a1:=fun H=>PU M hN hW hE hS hX hY hB hF hU hO hP hV hA hl (w:=v) (by have:=UQ h1;simp only [bH];omega) H
  have e0:VS l v = .tuple [.slice .any 3 ((Fj l v).map au.row),.int .u8 0]:=by simp [VS,hk,h1,sel]
  rw [e0] at a1
  have hal:=UP hk v
  have hin:=fun k He=>XB M hN hW hE hF hU hO hP hl hk (lem:=lem) hfe (en:=en) (sl:=sl) (ws:=ws) (tw:=tw) (ta:=.any) (j:=(i:Int)) (asq:=Fj l v) (show (Fj l v).length≤4000000000000 by omega) (fun a ha=>W5 hk ha) (H0:=H0) hp k (Fj l v).length 0 false He (by omega)
  simp only [kv_cons,kv_nil,Int.ofNat_zero,List.drop_zero,h2,Bool.or_true] at hin
  have ih:=fun He=>XC hN hW hE hS hX hY hB hF hU hO hP hV hA hl hk (lem:=lem) hfe (en:=en) (sl:=sl) hwl hwd (tw:=tw) (H0:=H0) hp k n (i+1) He (by omega)
  simp only [kv_cons,kv_nil] at ih
  rw [aw M eE.eq_1]
  simp (maxSteps:=3000000) (maxDischargeDepth:=6) +contextual -implicitDefEqProofs only [amA M,amB,↓aj,↓ab,↓al,↓ak,Nat.reduceBEq,Nat.reduceAdd,env,ao,aW,amG,AV.cell,Nat.reduceMul,Nat.reduceLeDiff,hi,hx,a1,hin,ih,hws,hp,bz hi,cj,OY,beq_self_eq_true,Bool.not_true]
theorem XD{ws:List Str}(hwl:ws.length≤bH){v:Str}(hlv:∀ H,M.run bh [] H=some (.ret (.bool true),H)){tw:Tag}{H H0:List ae}(hc:dG H0 H)(k:List Fra):∀ (n i:Nat) (He:List ae),i+n=ws.length→(∃ j,i≤j∧ws[j]?=some v) →
  M.go bC H0 (.c eF :: .lp ⟨(some [9,18,22]),[],false⟩ eF He :: .blk 4 :: .c (.lv [])::k) (kv [(9,.slice tw 1 (ws.map gd)),(18,.str v),(22,.int .i64 i)]) H=some (.ret (.bool true),H.take H0.length)
 |0,i,He,h,⟨j,h1,h2⟩=>by
  have:=(List.getElem?_eq_some_iff.1 h2).1
  omega
 |n+1,i,He,h,hex=>by
  have hi:i<ws.length:=by omega
  have hx:ws[i]?=some ws[i]:=List.getElem?_eq_getElem hi
  generalize ws[i]=u at hx
  have hws:=cY hi hwl
  cases hb:u == v with
  |true=>
   rw [aw M eF.eq_1]
   simp (maxSteps:=3000000) (maxDischargeDepth:=6) +contextual -implicitDefEqProofs only [amA M,amB,↓aj,↓ab,↓al,↓ak,Nat.reduceBEq,Nat.reduceAdd,env,ao,aW,hi,hx,hb,hlv,bz hi,OY,hc]
  |false=>
   have ih:=fun He=>XD hwl (v:=v) hlv (tw:=tw) (H0:=H0) hc k n (i+1) He (by omega) (by
    obtain ⟨j,h1,h2⟩:=hex
    refine ⟨j, ?_,h2⟩
    rcases Nat.lt_or_eq_of_le h1 with h4 | rfl
    ·omega
    ·rw [hx] at h2;obtain rfl:=Option.some.inj h2;simp at hb)
   simp only [kv_cons,kv_nil] at ih
   rw [aw M eF.eq_1]
   simp (maxSteps:=3000000) (maxDischargeDepth:=6) +contextual -implicitDefEqProofs only [amA M,amB,↓aj,↓ab,↓al,↓ak,Nat.reduceBEq,Nat.reduceAdd,env,ao,aW,hi,hx,hb,ih,hws,bz hi,OY]
theorem LP(hN:cS E)(hW:WdE M)(hE:iz E)(hg:Gd E)(hS:SpE E)(hX:oZ M)(hY:C9 M)(hB:pb E)(hF:qg E)(hU:uN E){srt:List aq→List aq}(hO:vw M srt)(hP:Srt srt)(hG:VM E)(hV:N1 E)(hA:HC E)(h:E.fn jX=some bC)
  {l:Lex} (hl:l.ok 0) {x:Ask} (hx:x.ok 0) {H:List ae} (hlv:∀ H,M.run bh [] H=some (.ret (.bool true),H)) :
  M.run jX [.agg l.row,.agg x.row] H=some (.ret (.bool true),H):=by
 rw [aZ M h rfl (c:=jY) rfl,jY]
 have b1:=fun H=>N2 M hN hW hE hS hX hY hB hF hU hO hP hG hl (lem:=x.lem) hx.feats H
 unfold WV at b1
 cases hb:PM l x.feats.l == 0 with
 |false=>
  simp only [hb,Bool.not_false,sel] at b1
  simp (maxSteps:=3000000) (maxDischargeDepth:=6) +contextual -implicitDefEqProofs only [amA M,amB,↓aj,↓ab,↓al,↓ak,Nat.reduceBEq,Nat.reduceAdd,env,ao,aW,amG,AV.cell,Nat.reduceMul,Nat.reduceLeDiff,hlv,tV M hg hl,Nat.zero_le,b1,hb,cj,QC,beq_self_eq_true,Bool.not_false,List.length_nil,Int.ofNat_zero,cut_app]
 |true=>
  obtain ⟨hk,hb2⟩:=Nb hb
  cases hr:(xB l x.feats.l x.lem l.entries.l [] false).2 with
  |false=>
   simp only [hb,hr,Bool.not_true,sel] at b1
   simp (maxSteps:=3000000) (maxDischargeDepth:=6) +contextual -implicitDefEqProofs only [amA M,amB,↓aj,↓ab,↓al,↓ak,Nat.reduceBEq,Nat.reduceAdd,env,ao,aW,amG,AV.cell,Nat.reduceMul,Nat.reduceLeDiff,hlv,tV M hg hl,Nat.zero_le,b1,hb,b70,cj,QC,beq_self_eq_true,Bool.not_false,List.length_nil,Int.ofNat_zero,cut_app]
  |true=>
   simp only [hb,hr,Bool.not_true,sel] at b1
   have hgl:=Lx hk x.feats.l x.lem l.entries.l [] false (RT hk)
   have hel:=HB hk
   simp only [List.length_nil,Nat.zero_add] at hgl
   have hwd:∀ v∈(xB l x.feats.l x.lem l.entries.l [] false).1,Be v=true∧(Fj l v).any (gfA l x.feats.l x.lem)=true:=fun v hv=>US hk hv
   have h1:=fun k He=>XC M hN hW hE hS hX hY hB hF hU hO hP hV hA hl hk (lem:=x.lem) hx.feats (en:=x.entry) (sl:=x.slot) (ws:=(xB l x.feats.l x.lem l.entries.l [] false).1) (by simp only [bH];omega) hwd (tw:=.any) (H:=H++[.cells l.row az,.cells x.row eQ]) (H0:=H) (p:=H.length) (T:=az) (by rw [dW];rfl) k (xB l x.feats.l x.lem l.entries.l [] false).1.length 0 He (by omega)
   simp only [kv_cons,kv_nil,Int.ofNat_zero] at h1
   have c1:=fun H=>UF M hN hW hE hS hX hY hB hF hl x.entry x.slot H
   have c2:=fun H=>M6 M hN hW hE hF hU hO hP hl x.entry x.slot H
   cases hsl:slF l x.entry x.slot with
   |none=>
    have e1:Ej l x.entry x.slot = .tuple [.str [],.int .u8 7]:=by simp [Ej,xy,Bj,hk,hsl]
    have e2:xz l x.entry x.slot = .tuple [.slice .any 2 [],.int .u8 7]:=by simp [xz,ID,xy,Bj,hk,hsl]
    rw [e1] at c1
    rw [e2] at c2
    simp (maxSteps:=3000000) (maxDischargeDepth:=6) +contextual -implicitDefEqProofs only [amA M,amB,↓aj,↓ab,↓al,↓ak,Nat.reduceBEq,Nat.reduceAdd,env,ao,aW,amG,AV.cell,Nat.reduceMul,Nat.reduceLeDiff,hlv,tV M hg hl,Nat.zero_le,b1,c1,c2,h1,b70,b00,cj,QC,beq_self_eq_true,Bool.not_false,Bool.not_true,cut_app]
   |some s=>
    obtain ⟨y,c,hAt⟩:=RL hk hsl
    have e1:Ej l x.entry x.slot = .tuple [.str (jB l y s x.slot),.int .u8 (sel (jB l y s x.slot == []) 7 0)]:=by simp [Ej,xy,hk,hsl,hAt.ent']
    have hsu:=fun H=>vW M hE hU (a:=x.feats) (b:=⟨.any,vo y s⟩) hx.feats.len (JQ hAt) H
    simp only at hsu
    rw [e1] at c1
    rw [Nc hk hAt] at c2
    cases hw:jB l y s x.slot == [] with
    |true=>
     simp only [hw,sel] at c1
     simp (maxSteps:=3000000) (maxDischargeDepth:=6) +contextual -implicitDefEqProofs only [amA M,amB,↓aj,↓ab,↓al,↓ak,Nat.reduceBEq,Nat.reduceAdd,env,ao,aW,amG,AV.cell,Nat.reduceMul,Nat.reduceLeDiff,hlv,tV M hg hl,Nat.zero_le,b1,c1,c2,h1,b70,b00,cj,QC,beq_self_eq_true,Bool.not_false,Bool.not_true,cut_app]
    |false=>
     simp only [hw,sel] at c1
     have hw2:jB l y s x.slot≠[]:=by simpa using hw
     cases hlm:y.lem == x.lem with
     |false=>
      simp (maxSteps:=3000000) (maxDischargeDepth:=6) +contextual -implicitDefEqProofs only [amA M,amB,↓aj,↓ab,↓al,↓ak,Nat.reduceBEq,Nat.reduceAdd,env,ao,aW,amG,AV.cell,Nat.reduceMul,Nat.reduceLeDiff,hlv,tV M hg hl,Nat.zero_le,b1,c1,c2,h1,hlm,hAt.ex,gz hAt.e0 hAt.el,b70,b00,cj,eU,QC,beq_self_eq_true,Bool.not_false,Bool.not_true,cut_app]
     |true=>
      cases hsb:Gi x.feats.l (vo y s) with
      |false=>
       rw [hsb] at hsu
       simp (maxSteps:=3000000) (maxDischargeDepth:=6) +contextual -implicitDefEqProofs only [amA M,amB,↓aj,↓ab,↓al,↓ak,Nat.reduceBEq,Nat.reduceAdd,env,ao,aW,amG,AV.cell,Nat.reduceMul,Nat.reduceLeDiff,hlv,tV M hg hl,Nat.zero_le,b1,c1,c2,h1,hlm,hsu,hAt.ex,gz hAt.e0 hAt.el,b70,b00,cj,eU,QC,beq_self_eq_true,Bool.not_false,Bool.not_true,cut_app]
      |true=>
       rw [hsb] at hsu
       have hin:=W4 hAt (eq_of_beq hlm) hw2 hsb
       obtain ⟨j,hj⟩:=List.getElem?_of_mem hin
       have h2:=fun k He=>XD M (ws:=(xB l x.feats.l x.lem l.entries.l [] false).1) (by simp only [bH];omega) (v:=jB l y s x.slot) hlv (tw:=.any) (H:=H++[.cells l.row az,.cells x.row eQ]) (H0:=H) (cut_app H _) k _ 0 He (Nat.zero_add _) ⟨j,Nat.zero_le _,hj⟩
       simp only [kv_cons,kv_nil,Int.ofNat_zero,hp_take] at h2
       simp (maxSteps:=3000000) (maxDischargeDepth:=6) +contextual -implicitDefEqProofs only [amA M,amB,↓aj,↓ab,↓al,↓ak,Nat.reduceBEq,Nat.reduceAdd,env,ao,aW,amG,AV.cell,Nat.reduceMul,Nat.reduceLeDiff,hlv,tV M hg hl,Nat.zero_le,b1,c1,c2,h1,h2,hlm,hsu,hAt.ex,gz hAt.e0 hAt.el,b70,b00,cj,eU,QC,beq_self_eq_true,Bool.not_false,Bool.not_true,cut_app]
end
section
open Go.Sort Go.Proofs Go.Lib
abbrev Pr:=List UInt8×List UInt8
def HL(x:Pr):List AV:=[.str x.1,.str x.2]
def Da(x:Pr):List Value:=[.string ⟨x.1.toArray⟩,.string ⟨x.2.toArray⟩]
def LQ(x y:Pr):Int:=Lib.compareBytes x.1 y.1
def tD(d:Array Pr):Array Pr:=pdq (ltOf LQ) d 0 d.size (Lib.bitLen d.size) true true
def FJ(l:List Pr):List Pr:=(tD l.toArray).toList
section
variable{P:Program}{G:Nat→Option (List AV)}{K:aK}{H:List ae}{w:World}
theorem Inv.drewN(hi:Inv K H w):∀ n,Inv K H (w.drewN n)
 |0=>by rw [World.drewN_zero];exact hi
 |n+1=>(Inv.drewN hi n).drew
theorem Inv.grow(hi:Inv K H w)(os:Array Obj):Inv K H (Go.Sort.grow w os):=by
 obtain ⟨l,rfl⟩:∃ l:List Obj,os=l.toArray:=⟨os.toList,by simp⟩
 induction l generalizing w with
 |nil=>simpa using hi
 |cons o l ih=>
  have:=ih (hi.junk o)
  rw [alloc_eq_grow,grow_grow] at this
  simpa using this
theorem Rf:∀ (x y rest:List AV),x.length=y.length→aJ (x++rest) 0 y=y++rest:=by
 have key:∀ (y x pre rest:List AV),x.length=y.length→aJ (pre++x++rest) pre.length y=pre++y++rest:=by
  intro y
  induction y with
  |nil=>intro x pre rest h;have:x=[]:=List.length_eq_zero_iff.1 h;subst this;simp [aJ]
  |cons a y ih=>
   intro x pre rest h
   cases x with
   |nil=>cases h
   |cons b x=>
    rw [aJ]
    have:=ih x (pre++[a]) rest (by simpa using h)
    simp only [List.length_append,List.length_cons,List.length_nil,List.append_assoc,List.cons_append,List.nil_append] at this ⊢
    rw [← this]
    congr 1
    simp
 intro x y rest h
 simpa using key y x [] rest h
theorem Ni(l:List Pr):∀ (j:Nat),j<l.length*2→∃ s,(l.flatMap HL)[j]?=some (.str s)∧(Da (l.toArray[j / 2]!))[j % 2]! = .string ⟨s.toArray⟩:=by
 induction l with
 |nil=>intro j h;simp at h
 |cons x l ih=>
  intro j h
  match j with
  |0=>exact ⟨x.1,rfl,rfl⟩
  |1=>exact ⟨x.2,rfl,rfl⟩
  |j+2=>
   obtain ⟨s,h1,h2⟩:=ih j (by simp at h;omega)
   refine ⟨s,by simpa [HL] using h1, ?_⟩
   have e1:(j+2) / 2=j / 2+1:=by omega
   have e2:(j+2) % 2=j % 2:=by omega
   rw [e1,e2,← h2]
   simp
theorem kV(l:List Pr):(l.flatMap HL).length=l.length*2:=by
 induction l with
 |nil=>rfl
 |cons x l ih=>simp [HL,ih];omega
theorem P2{f g:FuncId}(ef:∀ args w,(callFunc f args).run P w = .ok (.enter f args) w)
  (hs:∀ (blk cap:Nat) (d:Array Pr) (w:World),HoldsK Da 2 w blk 0 d→blk<w.heap.size→d.size<4611686018427387904 →
   Calls P f #[.slice (some ⟨blk,0,none⟩) d.size cap,.func (.func g) #[] #[]] w fun e w'=>e = .returned (.tuple #[])∧∃ n os,w'=sortWorldK Da 2 w blk 0 n (tD d) os)
  (hz:∀ d:Array Pr,(tD d).size=d.size)
  {l:List Pr} (hl:l.length<4611686018427387904) {rest:List AV}{id:Nat}{room:Bool}{T:TypeId} (hid:H[id]?=some (.cells (l.flatMap HL++rest) T)) :
  eT P G f [.rslice id 0 l.length 2 room,.fn (.func g) [] []] H fun r H'=>r = .ret (.tuple [])∧H'=H.set id (.cells ((FJ l).flatMap HL++rest) T):=by
 intro K w cargs hg hi hv
 obtain ⟨c,d,rfl,hc,hd⟩:=uq hv
 cases hc with
 |rslice _ _ _ _ _ b cap hb hcap hro=>
 cases hd with
 |fn _ _ _ vs us h1 h2 hv1 hu1=>
 obtain rfl:vs = #[]:=Array.eq_empty_of_size_eq_zero h1.symm
 obtain rfl:us = #[]:=Array.eq_empty_of_size_eq_zero h2.symm
 obtain ⟨b',vs,T',g1,g2,g3,g4,g5,g6,g7,g8,g9⟩:=hi.obj id _ hid
 rw [hb] at g1;cases g1
 have hlen:l.length*2≤vs.size:=by
  rw [List.length_append,kV] at g4;omega
 have hH:HoldsK Da 2 w b 0 l.toArray:=by
  intro j hj
  rw [size_flatK] at hj
  simp only [List.size_toArray] at hj
  obtain ⟨s,e1,e2⟩:=Ni l j hj
  have hav:=g5 j (.str s) (by rw [List.getElem?_append_left (by rw [kV];exact hj)];exact e1)
  have hlt:j<vs.size:=by omega
  refine ⟨?_,by simp [World.frozen?,g3]⟩
  rw [Nat.zero_add,cell_of_heap g3,Array.getElem?_eq_getElem hlt]
  rw [get_flatK _ _ _ _ (by simpa using hj),e2]
  have hgd:vs.getD j undef=vs[j]:=by simp [Array.getD,hlt]
  rw [hgd] at hav
  generalize vs[j]=v at hav
  cases hav
  rfl
 have hblk:b<w.heap.size:=(Array.getElem?_eq_some_iff.1 g3).1
 have hc:=hs b cap l.toArray w hH hblk (by simpa using hl)
 simp only [List.size_toArray] at hc
 refine .inl ⟨ef _ _,hc.mono ?_⟩
 rintro e w' ⟨rfl,n,os,rfl⟩
 have hz':(tD l.toArray).size=l.length:=by simpa using hz l.toArray
 have hsl:(FJ l).length=l.length:=by simpa [FJ] using hz'
 refine ⟨K,.ret (.tuple []),_,.refl K,(.tuple [] #[] rfl (by simp):V K _ _), ?_,rfl,rfl⟩
 have e1:putRowK Da 2 (Sort.ahead w n) b 0 (tD l.toArray)=(w.drewN n).setCells b 0 (flatK Da 2 (tD l.toArray)).toList:=by
  have:=putRow_eq_setCells (fun v:Value=>v) w b 0 (flatK Da 2 l.toArray) (flatK Da 2 (tD l.toArray)).toList n hH (by simp [hz'])
  simp only [Array.toArray_toList,List.map_id_fun,List.map_id] at this
  refine Eq.trans ?_ (this.trans ?_)
  ·rfl
  ·congr 1;exact List.map_id _
 unfold sortWorldK
 rw [e1]
 refine Inv.grow ?_ os
 have hi2:=hi.drewN n
 have:=Inv.stores hb ((FJ l).flatMap HL) (flatK Da 2 (tD l.toArray)).toList 0 H (w.drewN n) (l.flatMap HL++rest) T hi2 hid (by rw [kV,hsl];simp [hz']) (by rw [kV,hsl,List.length_append,kV];omega) (fun j av hj=>by
  have hj2:j<(FJ l).length*2:=by rw [← kV];exact (List.getElem?_eq_some_iff.1 hj).1
  obtain ⟨s,k1,k2⟩:=Ni (FJ l) j hj2
  rw [hj] at k1;cases k1
  refine ⟨.string ⟨s.toArray⟩, ?_,.str s⟩
  have hj3:j<(tD l.toArray).size*2:=by rw [hz',← hsl];exact hj2
  have:(flatK Da 2 (tD l.toArray))[j]! = .string ⟨s.toArray⟩:=by
   rw [get_flatK _ _ _ _ hj3,← k2];simp [FJ]
  rw [Array.getElem?_toList,← this,getElem!_def]
  have hj4:j<(flatK Da 2 (tD l.toArray)).size:=by rw [size_flatK];exact hj3
  rw [Array.getElem?_eq_getElem hj4])
 rwa [Rf _ _ _ (by rw [kV,kV,hsl])] at this
end
end
section
open Go.Sort Go.Proofs Go.Lib
def toP(x:aq):Pr:=(x.name,x.value)
def ofP(p:Pr):aq:=⟨p.1,p.2⟩
def UT(l:List aq):List aq:=(FJ (l.map toP)).map ofP
theorem R0(l:List aq):bU l=(l.map toP).flatMap HL:=by
 unfold bU
 induction l with
 |nil=>rfl
 |cons x l ih=>rw [List.map_cons,List.flatten_cons,ih];rfl
theorem VX(l:List Pr):bU (l.map ofP)=l.flatMap HL:=by
 rw [R0,List.map_map]
 congr 1
 exact List.map_id l
theorem UU:∀ x y:List UInt8,decide (Lib.compareBytes x y<0)=Op.bytesLess x y
 |[],[]=>rfl
 |[],_::_=>rfl
 |_::_,[]=>rfl
 |a::x,b::y=>by
  rw [Lib.compareBytes,Op.bytesLess]
  by_cases h1:a<b
  ·simp [h1]
  ·by_cases h2:b<a
   ·have:¬ a=b:=fun e=>by subst e;exact h1 h2
    simp [h1,h2,this]
   ·have:a=b:=UInt8.le_antisymm (UInt8.not_lt.1 h2) (UInt8.not_lt.1 h1)
    subst this
    simp [h1,UU x y]
theorem R1(x y:Pr):ltOf LQ x y=Op.bytesLess x.1 y.1:=UU x.1 y.1
theorem XE:SWO (ltOf LQ) where
 irrefl x:=by rw [R1];exact Ec _
 trans x y z h1 h2:=by rw [R1] at *;exact qL h1 h2
 ntrans x y z h1 h2:=by
  rw [R1] at *
  cases h3:Op.bytesLess x.1 z.1 with
  |false=>rfl
  |true=>
   cases h4:Op.bytesLess y.1 x.1 with
   |true=>rw [qL h4 h3] at h2;cases h2
   |false=>rw [K9 h1 h4] at h3;rw [h3] at h2;cases h2
theorem Gq(d:Array Pr):PermIn 0 d.size d (tD d)∧SortedIn (ltOf LQ) 0 d.size (tD d):=
 pdq_sorts (ltOf LQ) XE d 0 d.size (Lib.bitLen d.size) true true (Nat.zero_le _) (Nat.le_refl _) (Or.inl rfl)
theorem II(d:Array Pr):(tD d).size=d.size:=(Gq d).1.1
theorem UV:Srt UT:=by
 constructor
 ·intro l
  have h:=(Gq (l.map toP).toArray).1.2.2
  have hs:=II (l.map toP).toArray
  have e1:(tD (l.map toP).toArray).extract 0 (l.map toP).toArray.size=tD (l.map toP).toArray:=by rw [← hs];exact Array.extract_size
  have e2:(l.map toP).toArray.extract 0 (l.map toP).toArray.size=(l.map toP).toArray:=Array.extract_size
  rw [e1,e2] at h
  have h2:=h.map ofP
  have e3:(l.map toP).map ofP=l:=by rw [List.map_map];exact List.map_id l
  rwa [e3] at h2
 ·intro l
  have h:=(Gq (l.map toP).toArray).2
  have hs:=II (l.map toP).toArray
  unfold Wek UT FJ
  rw [List.pairwise_iff_getElem]
  intro i j hi hj hij
  simp only [List.length_map,Array.length_toList] at hi hj
  have:=h i j (Nat.zero_le _) hij (by rw [← hs];exact hj)
  rw [R1] at this
  simp only [List.getElem_map,Array.getElem_toList]
  rw [getElem!_pos _ i hi,getElem!_pos _ j hj] at this
  exact this
def P3:List AV→Option (List Pr)
 |[]=>some []
 |.str a :: .str b::r=>match P3 r with
  |some l=>some ((a,b)::l)
  |none=>none
 |_=>none
theorem Nj:∀ l:List Pr,P3 (l.flatMap HL)=some l
 |[]=>rfl
 |x::l=>by
  show P3 (.str x.1 :: .str x.2::l.flatMap HL)=_
  rw [P3,Nj l]
theorem R2:∀ {cs:List AV}{l:List Pr},P3 cs=some l→cs=l.flatMap HL
 |[],l,h=>by cases h;rfl
 |.str a :: .str b::r,l,h=>by
  rw [P3] at h
  split at h
  ·rename_i l' h'
   cases h
   rw [R2 h'];rfl
  ·cases h
def S4(fS gU:FuncId)(f:FuncId)(args:List AV)(H:List ae):Option Out:=
 match args with
 |[.rslice id 0 n 2 true,.fn (.func g) [] []]=>bif Nat.beq f fS&&Nat.beq g gU then (match H[id]? with
   |some (.cells cs T)=>match P3 cs with
    |some l=>bif Nat.beq l.length n&&Nat.ble n 4000000000 then some (.ret (.tuple []),H.set id (.cells ((FJ l).flatMap HL) T)) else none
    |none=>none
   |_=>none) else none
 |[.slice .full 2 [],.fn (.func g) [] []]=>bif Nat.beq f fS&&Nat.beq g gU then some (.ret (.tuple []),H) else none
 |_=>none
theorem VY{P:Program}{G:Nat→Option (List AV)}{fS gU:FuncId}(ef:∀ args w,(callFunc fS args).run P w = .ok (.enter fS args) w)
  (hs:∀ (blk cap:Nat) (d:Array Pr) (w:World),HoldsK Da 2 w blk 0 d→blk<w.heap.size→d.size<4611686018427387904 →
   Calls P fS #[.slice (some ⟨blk,0,none⟩) d.size cap,.func (.func gU) #[] #[]] w fun e w'=>e = .returned (.tuple #[])∧∃ n os,w'=sortWorldK Da 2 w blk 0 n (tD d) os)
  (h0:∀ (p:Option Addr) (cap:Nat) (fv:Value) (w:World),Calls P fS #[.slice p 0 cap,fv] w fun e w'=>e = .returned (.tuple #[])∧w'=w)
  {f:FuncId}{args:List AV}{H H':List ae}{r:wi} (h:S4 fS gU f args H=some (r,H')):eT P G f args H fun r2 H2=>r2=r∧H2=H':=by
 unfold S4 at h
 split at h
 ·rename_i id n g
  cases hb:(Nat.beq f fS&&Nat.beq g gU) with
  |false=>rw [hb] at h;cases h
  |true=>
   rw [hb,cond_true] at h
   simp only [Bool.and_eq_true] at hb
   obtain rfl:=Nat.eq_of_beq_eq_true hb.1
   obtain rfl:=Nat.eq_of_beq_eq_true hb.2
   split at h<;>try (cases h;done)
   rename_i cs T hx
   split at h<;>try (cases h;done)
   rename_i l hl
   cases hc:(Nat.beq l.length n&&Nat.ble n 4000000000) with
   |false=>rw [hc] at h;cases h
   |true=>
    rw [hc,cond_true] at h
    simp only [Bool.and_eq_true] at hc
    obtain rfl:=Nat.eq_of_beq_eq_true hc.1
    have hle:=Nat.le_of_ble_eq_true hc.2
    cases h
    obtain rfl:=R2 hl
    have:=P2 (P:=P) (G:=G) ef hs II (l:=l) (by omega) (rest:=[]) (H:=H) (id:=id) (room:=true) (T:=T) (by rw [List.append_nil];exact hx)
    simpa using this
 ·rename_i g
  cases hb:(Nat.beq f fS&&Nat.beq g gU) with
  |false=>rw [hb] at h;cases h
  |true=>
   rw [hb,cond_true] at h
   simp only [Bool.and_eq_true] at hb
   obtain rfl:=Nat.eq_of_beq_eq_true hb.1
   cases h
   intro K w cargs hg hi hv
   obtain ⟨c,d,rfl,hc,hd⟩:=uq hv
   obtain ⟨p,rfl⟩:∃ p,c = .slice p 0 0:=by
    cases hc with
    |slice0 _ _ a _=>exact ⟨a,rfl⟩
    |slice _ _ _ b o cap vs hl him hvv hcap ht=>exact ⟨_,by have:cap=0:=ht;rw [this];rfl⟩
   refine .inl ⟨ef _ _,(h0 p 0 d w).mono ?_⟩
   rintro e w' ⟨rfl,rfl⟩
   exact ⟨K,.ret (.tuple []),H,.refl K,(.tuple [] #[] rfl (by simp):V K _ _),hi,rfl,rfl⟩
 ·cases h
end
section
open Go.ChangeShapes Go.WideShapes
structure jg (P:Program):Prop where
 u_string:P.underlying bj=some .string
 c_string:P.cellsOf bj=1
 f_Feat:fieldsOf P ba=some [(0,bj),(1,bj)]
 c_Feat:P.cellsOf ba=2
 u_sl_string:P.underlying rC=some (.slice bj)
 c_sl_string:P.cellsOf rC=1
 f_Trait:fieldsOf P iA=some [(0,bj),(1,rC)]
 c_Trait:P.cellsOf iA=2
 u_sl_Feat:P.underlying dB=some (.slice ba)
 c_sl_Feat:P.cellsOf dB=1
 u_int:P.underlying Aq=some (.int .i64)
 c_int:P.cellsOf Aq=1
 f_Slot:fieldsOf P bI=some [(0,Aq),(1,bj),(2,bj),(3,dB)]
 c_Slot:P.cellsOf bI=4
 u_sl_Slot:P.underlying uf=some (.slice bI)
 c_sl_Slot:P.cellsOf uf=1
 f_Class:fieldsOf P cr=some [(0,bj),(1,uf)]
 c_Class:P.cellsOf cr=2
 f_Irreg:fieldsOf P eD=some [(0,Aq),(1,bj)]
 c_Irreg:P.cellsOf eD=2
 u_sl_Irreg:P.underlying mO=some (.slice eD)
 c_sl_Irreg:P.cellsOf mO=1
 f_Entry:fieldsOf P dI=some [(0,bj),(1,bj),(2,dB),(3,mO)]
 c_Entry:P.cellsOf dI=4
 f_Spell:fieldsOf P eR=some [(0,bj),(1,bj),(2,bj),(3,bj)]
 c_Spell:P.cellsOf eR=4
 f_Link:fieldsOf P k7=some [(0,bj),(1,bj),(2,dB)]
 c_Link:P.cellsOf k7=3
 u_sl_Trait:P.underlying sk=some (.slice iA)
 c_sl_Trait:P.cellsOf sk=1
 u_sl_Class:P.underlying sm=some (.slice cr)
 c_sl_Class:P.cellsOf sm=1
 u_sl_Entry:P.underlying sn=some (.slice dI)
 c_sl_Entry:P.cellsOf sn=1
 u_sl_Spell:P.underlying so=some (.slice eR)
 c_sl_Spell:P.cellsOf so=1
 u_sl_Link:P.underlying ue=some (.slice k7)
 c_sl_Link:P.cellsOf ue=1
 f_Lex:fieldsOf P az=some [(0,bj),(1,sk),(2,sm),(3,sn),(4,so),(5,ue)]
 c_Lex:P.cellsOf az=6
 f_First:fieldsOf P dH=some [(0,Aq),(1,Aq),(2,Aq)]
 c_First:P.cellsOf dH=3
 u_sl_First:P.underlying wI=some (.slice dH)
 c_sl_First:P.cellsOf wI=1
 f_Analysis:fieldsOf P aL=some [(0,wI),(1,Aq),(2,Aq)]
 c_Analysis:P.cellsOf aL=3
 f_Ask:fieldsOf P eQ=some [(0,bj),(1,bj),(2,dB),(3,Aq),(4,Aq)]
 c_Ask:P.cellsOf eQ=5
section
variable{P:Program}{W:World}{G:Nat→Option (List AV)}
theorem S5(h:jg P):my P W G ba aq.row (aq.ok 0):=
 iN h.f_Feat h.c_Feat (bt (fJ h.u_string) h.c_string (bt (fJ h.u_string) h.c_string (kY _))) (fun a=>⟨a.1,a.2.1⟩) (fun a=>rfl) (fun a ha=>⟨ha.1,ha.2.1⟩)
theorem LR(h:jg P):my P W G rC (fun s:Sl Str=>[.slice s.tag 1 (s.l.map gd)]) (fun s=>s.ok 0 fun s=>s.length≤bH):=
 kF h.u_sl_string h.c_string (by decide) (fun _=>rfl) (fJ h.u_string)
theorem Rg(h:jg P):my P W G iA bE.row (bE.ok 0):=
 iN h.f_Trait h.c_Trait (bt (fJ h.u_string) h.c_string (bt (LR h) h.c_sl_string (kY _))) (fun a=>⟨a.1,a.2.1⟩) (fun a=>rfl) (fun a ha=>⟨ha.1,ha.2.1⟩)
theorem vX(h:jg P):my P W G dB (fun s:Sl aq=>[.slice s.tag 2 (s.l.map aq.row)]) (fun s=>s.ok 0 (aq.ok 0)):=
 kF h.u_sl_Feat h.c_Feat (by decide) (fun _=>by simp only [yQ]) (S5 h)
theorem S6(h:jg P):my P W G bI br.row (br.ok 0):=
 iN h.f_Slot h.c_Slot (bt (Ex h.u_int) h.c_int (bt (fJ h.u_string) h.c_string (bt (fJ h.u_string) h.c_string (bt (vX h) h.c_sl_Feat (kY _))))) (fun a=>⟨a.1,a.2.1,a.2.2.1,a.2.2.2.1⟩) (fun a=>rfl) (fun a ha=>⟨ha.1,ha.2.1,ha.2.2.1,ha.2.2.2.1⟩)
theorem N7(h:jg P):my P W G uf (fun s:Sl br=>[.slice s.tag 4 (s.l.map br.row)]) (fun s=>s.ok 0 (br.ok 0)):=
 kF h.u_sl_Slot h.c_Slot (by decide) (fun _=>by simp only [iS]) (S6 h)
theorem Rh(h:jg P):my P W G cr a6.row (a6.ok 0):=
 iN h.f_Class h.c_Class (bt (fJ h.u_string) h.c_string (bt (N7 h) h.c_sl_Slot (kY _))) (fun a=>⟨a.1,a.2.1⟩) (fun a=>rfl) (fun a ha=>⟨ha.1,ha.2.1⟩)
theorem Ri(h:jg P):my P W G eD bV.row (bV.ok 0):=
 iN h.f_Irreg h.c_Irreg (bt (Ex h.u_int) h.c_int (bt (fJ h.u_string) h.c_string (kY _))) (fun a=>⟨a.1,a.2.1⟩) (fun a=>rfl) (fun a ha=>⟨ha.1,ha.2.1⟩)
theorem Mm(h:jg P):my P W G mO (fun s:Sl bV=>[.slice s.tag 2 (s.l.map bV.row)]) (fun s=>s.ok 0 (bV.ok 0)):=
 kF h.u_sl_Irreg h.c_Irreg (by decide) (fun _=>by simp only [H9]) (Ri h)
theorem Rj(h:jg P):my P W G dI aF.row (aF.ok 0):=
 iN h.f_Entry h.c_Entry (bt (fJ h.u_string) h.c_string (bt (fJ h.u_string) h.c_string (bt (vX h) h.c_sl_Feat (bt (Mm h) h.c_sl_Irreg (kY _))))) (fun a=>⟨a.1,a.2.1,a.2.2.1,a.2.2.2.1⟩) (fun a=>rfl) (fun a ha=>⟨ha.1,ha.2.1,ha.2.2.1,ha.2.2.2.1⟩)
theorem Rk(h:jg P):my P W G eR bA.row (bA.ok 0):=
 iN h.f_Spell h.c_Spell (bt (fJ h.u_string) h.c_string (bt (fJ h.u_string) h.c_string (bt (fJ h.u_string) h.c_string (bt (fJ h.u_string) h.c_string (kY _))))) (fun a=>⟨a.1,a.2.1,a.2.2.1,a.2.2.2.1⟩) (fun a=>rfl) (fun a ha=>⟨ha.1,ha.2.1,ha.2.2.1,ha.2.2.2.1⟩)
theorem S7(h:jg P):my P W G k7 dK.row (dK.ok 0):=
 iN h.f_Link h.c_Link (bt (fJ h.u_string) h.c_string (bt (fJ h.u_string) h.c_string (bt (vX h) h.c_sl_Feat (kY _)))) (fun a=>⟨a.1,a.2.1,a.2.2.1⟩) (fun a=>rfl) (fun a ha=>⟨ha.1,ha.2.1,ha.2.2.1⟩)
theorem Mn(h:jg P):my P W G sk (fun s:Sl bE=>[.slice s.tag 2 (s.l.map bE.row)]) (fun s=>s.ok 0 (bE.ok 0)):=
 kF h.u_sl_Trait h.c_Trait (by decide) (fun _=>by simp only [uT]) (Rg h)
theorem Mo(h:jg P):my P W G sm (fun s:Sl a6=>[.slice s.tag 2 (s.l.map a6.row)]) (fun s=>s.ok 0 (a6.ok 0)):=
 kF h.u_sl_Class h.c_Class (by decide) (fun _=>by simp only [ku]) (Rh h)
theorem Mp(h:jg P):my P W G sn (fun s:Sl aF=>[.slice s.tag 4 (s.l.map aF.row)]) (fun s=>s.ok 0 (aF.ok 0)):=
 kF h.u_sl_Entry h.c_Entry (by decide) (fun _=>by simp only [eU]) (Rj h)
theorem Mq(h:jg P):my P W G so (fun s:Sl bA=>[.slice s.tag 4 (s.l.map bA.row)]) (fun s=>s.ok 0 (bA.ok 0)):=
 kF h.u_sl_Spell h.c_Spell (by decide) (fun _=>by simp only [yZ]) (Rk h)
theorem N8(h:jg P):my P W G ue (fun s:Sl dK=>[.slice s.tag 3 (s.l.map dK.row)]) (fun s=>s.ok 0 (dK.ok 0)):=
 kF h.u_sl_Link h.c_Link (by decide) (fun _=>by simp only [FA]) (S7 h)
theorem UW(h:jg P):my P W G az Lex.row (Lex.ok 0):=
 iN h.f_Lex h.c_Lex (bt (fJ h.u_string) h.c_string (bt (Mn h) h.c_sl_Trait (bt (Mo h) h.c_sl_Class (bt (Mp h) h.c_sl_Entry (bt (Mq h) h.c_sl_Spell (bt (N8 h) h.c_sl_Link (kY _))))))) (fun a=>⟨a.1,a.2.1,a.2.2.1,a.2.2.2.1,a.2.2.2.2.1,a.2.2.2.2.2.1⟩) (fun a=>rfl) (fun a ha=>⟨ha.1,ha.2.1,ha.2.2.1,ha.2.2.2.1,ha.2.2.2.2.1,ha.2.2.2.2.2.1⟩)
theorem UX(h:jg P):my P W G eQ Ask.row (Ask.ok 0):=
 iN h.f_Ask h.c_Ask (bt (fJ h.u_string) h.c_string (bt (fJ h.u_string) h.c_string (bt (vX h) h.c_sl_Feat (bt (Ex h.u_int) h.c_int (bt (Ex h.u_int) h.c_int (kY _)))))) (fun a=>⟨a.1,a.2.1,a.2.2.1,a.2.2.2.1,a.2.2.2.2.1⟩) (fun a=>rfl) (fun a ha=>⟨ha.1,ha.2.1,ha.2.2.1,ha.2.2.2.1,ha.2.2.2.2.1⟩)
end
end
section
open Go.Shelf Go.RowKit Go.Lib Go.Sort Go.Proofs
def VZ:Go.Shelf.Ren:=⟨fun | 6=>135 | 15=>176 | 14=>175 | 28=>199 | 29=>200 | 20=>191 | 21=>192 | 22=>193 | 23=>194 | 24=>195 | 25=>196 | 26=>197 | 27=>198 | 46=>214 | 47=>215 | 48=>216 | 49=>217 | 50=>218 | 57=>228 | n=>n,fun | 22=>45 | 24=>66 | 25=>202 | 3=>3 | 39=>234 | 0=>0 | 53=>251 | 55=>253 | 4=>4 | 46=>244 | 45=>243 | 50=>248 | 5=>5 | 9=>9 | 66=>263 | 70=>267 | 76=>279 | 77=>280 | n=>n,fun | n=>n⟩
theorem N9:Go.Proofs.SlLaysF0.n6 Tryz.prog VZ where
 mixed:=by kernel_rfl
 f6:=⟨Tryz.f135.name,by kernel_rfl,Tryz.func135.trans (congrArg some (by kernel_rfl))⟩
 f14:=⟨Tryz.f175.name,by kernel_rfl,Tryz.func175.trans (congrArg some (by kernel_rfl))⟩
 f15:=Tryz.func176.trans (congrArg some (by kernel_rfl))
 f20:=⟨Tryz.f191.name,by kernel_rfl,Tryz.func191.trans (congrArg some (by kernel_rfl))⟩
 f21:=⟨Tryz.f192.name,by kernel_rfl,Tryz.func192.trans (congrArg some (by kernel_rfl))⟩
 f22:=⟨Tryz.f193.name,by kernel_rfl,Tryz.func193.trans (congrArg some (by kernel_rfl))⟩
 f23:=⟨Tryz.f194.name,by kernel_rfl,Tryz.func194.trans (congrArg some (by kernel_rfl))⟩
 f24:=⟨Tryz.f195.name,by kernel_rfl,Tryz.func195.trans (congrArg some (by kernel_rfl))⟩
 f25:=⟨Tryz.f196.name,by kernel_rfl,Tryz.func196.trans (congrArg some (by kernel_rfl))⟩
 f26:=⟨Tryz.f197.name,by kernel_rfl,Tryz.func197.trans (congrArg some (by kernel_rfl))⟩
 f27:=⟨Tryz.f198.name,by kernel_rfl,Tryz.func198.trans (congrArg some (by kernel_rfl))⟩
 f28:=Tryz.func199.trans (congrArg some (by kernel_rfl))
 f29:=Tryz.func200.trans (congrArg some (by kernel_rfl))
 f46:=⟨Tryz.f214.name,by kernel_rfl,Tryz.func214.trans (congrArg some (by kernel_rfl))⟩
 f47:=Tryz.func215.trans (congrArg some (by kernel_rfl))
 f48:=Tryz.func216.trans (congrArg some (by kernel_rfl))
 f49:=⟨Tryz.f217.name,by kernel_rfl,Tryz.func217.trans (congrArg some (by kernel_rfl))⟩
 f50:=⟨Tryz.f218.name,by kernel_rfl,Tryz.func218.trans (congrArg some (by kernel_rfl))⟩
 f57:=⟨Tryz.f228.name,by kernel_rfl,Tryz.func228.trans (congrArg some (by kernel_rfl))⟩
 t0:=Tryz.underlying0
 a0:=Tryz.isAgg0
 z0:=Tryz.sizeOf0
 v0:=Tryz.zeroValue0
 t3:=Tryz.underlying3
 a3:=Tryz.isAgg3
 z3:=Tryz.sizeOf3
 v3:=Tryz.zeroValue3
 t4:=Tryz.underlying4
 a4:=Tryz.isAgg4
 z4:=Tryz.sizeOf4
 v4:=Tryz.zeroValue4
 t5:=Tryz.underlying5
 a5:=Tryz.isAgg5
 z5:=Tryz.sizeOf5
 v5:=Tryz.zeroValue5
 t9:=Tryz.underlying9
 a9:=Tryz.isAgg9
 z9:=Tryz.sizeOf9
 v9:=Tryz.zeroValue9
 t22:=Tryz.underlying45
 a22:=Tryz.isAgg45
 z22:=Tryz.sizeOf45
 v22:=Tryz.zeroValue45
 t25:=Tryz.underlying202
 a25:=Tryz.isAgg202
 z25:=Tryz.sizeOf202
 v25:=Tryz.zeroValue202
 t39:=Tryz.underlying234
 a39:=Tryz.isAgg234
 z39:=Tryz.sizeOf234
 v39:=Tryz.zeroValue234
 t45:=Tryz.underlying243
 a45:=Tryz.isAgg243
 z45:=Tryz.sizeOf243
 v45:=Tryz.zeroValue243
 t46:=Tryz.underlying244
 a46:=Tryz.isAgg244
 z46:=Tryz.sizeOf244
 v46:=Tryz.zeroValue244
 t50:=Tryz.underlying248
 a50:=Tryz.isAgg248
 z50:=Tryz.sizeOf248
 v50:=Tryz.zeroValue248
 t53:=Tryz.underlying251
 a53:=Tryz.isAgg251
 z53:=Tryz.sizeOf251
 v53:=Tryz.zeroValue251
 t55:=Tryz.underlying253
 a55:=Tryz.isAgg253
 z55:=Tryz.sizeOf253
 v55:=Tryz.zeroValue253
 t66:=Tryz.underlying263
 a66:=Tryz.isAgg263
 z66:=Tryz.sizeOf263
 v66:=Tryz.zeroValue263
 t70:=Tryz.underlying267
 a70:=Tryz.isAgg267
 z70:=Tryz.sizeOf267
 v70:=Tryz.zeroValue267
 t76:=Tryz.underlying279
 a76:=Tryz.isAgg279
 z76:=Tryz.sizeOf279
 v76:=Tryz.zeroValue279
 t77:=Tryz.underlying280
 a77:=Tryz.isAgg280
 z77:=Tryz.sizeOf280
 v77:=Tryz.zeroValue280
set_option maxHeartbeats 2000000 in
theorem V0(a b:ByteArray)(w:World):Calls Tryz.prog 177 #[.string a,.string b] w fun e w'=>e = .returned (.int .i64 (Lib.compareBytes a.data.toList b.data.toList))∧w'=w:=by
 go_enter Tryz.func177,Tryz.ntmps177
 go_wp2
 rw [run_callFunc_extern Tryz.func201 (by kernel_rfl) (by kernel_rfl) (by kernel_rfl) (e:=Extern.BytealgCompare.compare) (by kernel_rfl),Lib.run_compareString]
 simp only [Result.andThen]
 rw [Oper.upon_value]
 go_wp2
 go_ret
 exact ⟨rfl,rfl⟩
set_option maxHeartbeats 2000000 in
theorem V1(a b:ByteArray)(w:World):Calls Tryz.prog 137 #[.string a,.string b] w fun e w'=>e = .returned (.int .i64 (Lib.compareBytes a.data.toList b.data.toList))∧w'=w:=by
 have hcon:=fun W'=>V0 a b W'
 generalize Lib.compareBytes a.data.toList b.data.toList=r at hcon ⊢
 go_enter Tryz.func137,Tryz.ntmps137
 go_wp2_with (go_at_call 177;refine (hcon _).mono ?_;rintro e w' ⟨rfl,rfl⟩)
 go_ret
 exact ⟨rfl,rfl⟩
set_option maxHeartbeats 2000000 in
theorem S8(x y:Pr)(W:World):Calls Tryz.prog 136 #[.agg #[.string ⟨x.1.toArray⟩,.string ⟨x.2.toArray⟩],.agg #[.string ⟨y.1.toArray⟩,.string ⟨y.2.toArray⟩]] W fun e w'=>e = .returned (.int .i64 (LQ x y))∧∃ q os',w'=Go.Sort.grow (W.drewN q) os':=by
 have hcon:∀ W',Calls Tryz.prog 137 #[.string ⟨x.1.toArray⟩,.string ⟨y.1.toArray⟩] W' fun e w'=>e = .returned (.int .i64 (LQ x y))∧w'=W':=fun W'=>by
  have:=V1 ⟨x.1.toArray⟩ ⟨y.1.toArray⟩ W'
  simpa [LQ] using this
 generalize LQ x y=r at hcon ⊢
 go_enter Tryz.func136,Tryz.ntmps136
 go_wp2_with (go_at_call 137;refine (hcon _).mono ?_;rintro e w' ⟨rfl,rfl⟩)
 go_ret
 exact ⟨rfl,0,_,by rw [alloc_eq_grow,alloc_eq_grow,grow_grow];rfl⟩
theorem UY(blk off size:Nat)(w:World):CmpLays Tryz.prog 136 #[] Da 2 LQ blk off size w:=fun _ _ _ _ x y=>S8 x y _
theorem P4:∀ args w,(callFunc 135 args).run Tryz.prog w = .ok (.enter 135 args) w:=N9.f6.enters rfl
theorem Rl(blk cap:Nat)(d:Array Pr)(w:World)(hH:HoldsK Da 2 w blk 0 d)(hb:blk<w.heap.size)(hd:d.size<4611686018427387904) :
  Calls Tryz.prog 135 #[.slice (some ⟨blk,0,none⟩) d.size cap,.func (.func 136) #[] #[]] w fun e w'=>e = .returned (.tuple #[])∧∃ n os,w'=sortWorldK Da 2 w blk 0 n (tD d) os:=
 AnyQ.slices_SortFunc_eq N9 2 Tryz.isAgg66 Tryz.sizeOf66 Da (fun _=>rfl) (fun x v hv=>by simp [Da] at hv;rcases hv with rfl | rfl<;>rfl) LQ XE 136 #[] blk 0 cap d w (enters_of Tryz.func136 (by kernel_rfl) rfl) (UY blk 0 d.size w) hH hb hd
theorem S9(p:Option Addr)(cap:Nat)(fv:Value)(w:World):Calls Tryz.prog 135 #[.slice p 0 cap,fv] w fun e w'=>e = .returned (.tuple #[])∧w'=w:=AnyF.slices_SortFunc_none N9 p cap fv w
end
section
open Go.Proofs
def W6(f:FuncId):Option AFn:=(bif Nat.blt f 98 then (bif Nat.blt f 51 then (bif Nat.blt f 28 then (bif Nat.blt f 14 then (bif Nat.blt f 9 then (bif Nat.blt f 5 then (bif Nat.blt f 4 then (bif Nat.beq f 3 then some pr else none) else (bif Nat.beq f 4 then some nJ else none)) else (bif Nat.blt f 7 then (bif Nat.beq f 5 then some bC else none) else (bif Nat.beq f 7 then some aM else none))) else (bif Nat.blt f 11 then (bif Nat.blt f 10 then (bif Nat.beq f 9 then some kB else none) else (bif Nat.beq f 10 then some nK else none)) else (bif Nat.blt f 12 then (bif Nat.beq f 11 then some ze else none) else (bif Nat.blt f 13 then (bif Nat.beq f 12 then some eK else none) else (bif Nat.beq f 13 then some oc else none))))) else (bif Nat.blt f 23 then (bif Nat.blt f 16 then (bif Nat.blt f 15 then (bif Nat.beq f 14 then some jV else none) else (bif Nat.beq f 15 then some mQ else none)) else (bif Nat.blt f 19 then (bif Nat.beq f 16 then some rD else none) else (bif Nat.blt f 21 then (bif Nat.beq f 19 then some ow else none) else (bif Nat.beq f 21 then some cM else none)))) else (bif Nat.blt f 25 then (bif Nat.blt f 24 then (bif Nat.beq f 23 then some k8 else none) else (bif Nat.beq f 24 then some mR else none)) else (bif Nat.blt f 26 then (bif Nat.beq f 25 then some de else none) else (bif Nat.blt f 27 then (bif Nat.beq f 26 then some mS else none) else (bif Nat.beq f 27 then some lR else none)))))) else (bif Nat.blt f 37 then (bif Nat.blt f 32 then (bif Nat.blt f 30 then (bif Nat.blt f 29 then (bif Nat.beq f 28 then some fL else none) else (bif Nat.beq f 29 then some eW else none)) else (bif Nat.blt f 31 then (bif Nat.beq f 30 then some dv else none) else (bif Nat.beq f 31 then some fM else none))) else (bif Nat.blt f 34 then (bif Nat.blt f 33 then (bif Nat.beq f 32 then some b7 else none) else (bif Nat.beq f 33 then some lf else none)) else (bif Nat.blt f 35 then (bif Nat.beq f 34 then some bn else none) else (bif Nat.blt f 36 then (bif Nat.beq f 35 then some iJ else none) else (bif Nat.beq f 36 then some b9 else none))))) else (bif Nat.blt f 43 then (bif Nat.blt f 39 then (bif Nat.blt f 38 then (bif Nat.beq f 37 then some pw else none) else (bif Nat.beq f 38 then some qt else none)) else (bif Nat.blt f 41 then (bif Nat.beq f 39 then some vt else none) else (bif Nat.blt f 42 then (bif Nat.beq f 41 then some ca else none) else (bif Nat.beq f 42 then some rj else none)))) else (bif Nat.blt f 45 then (bif Nat.blt f 44 then (bif Nat.beq f 43 then some mV else none) else (bif Nat.beq f 44 then some lT else none)) else (bif Nat.blt f 46 then (bif Nat.beq f 45 then some lU else none) else (bif Nat.blt f 47 then (bif Nat.beq f 46 then some oB else none) else (bif Nat.beq f 47 then some mW else none))))))) else (bif Nat.blt f 70 then (bif Nat.blt f 60 then (bif Nat.blt f 55 then (bif Nat.blt f 53 then (bif Nat.blt f 52 then (bif Nat.beq f 51 then some iQ else none) else (bif Nat.beq f 52 then some cZ else none)) else (bif Nat.blt f 54 then (bif Nat.beq f 53 then some jl else none) else (bif Nat.beq f 54 then some cw else none))) else (bif Nat.blt f 57 then (bif Nat.blt f 56 then (bif Nat.beq f 55 then some dw else none) else (bif Nat.beq f 56 then some jm else none)) else (bif Nat.blt f 58 then (bif Nat.beq f 57 then some cA else none) else (bif Nat.blt f 59 then (bif Nat.beq f 58 then some eY else none) else (bif Nat.beq f 59 then some jn else none))))) else (bif Nat.blt f 65 then (bif Nat.blt f 62 then (bif Nat.blt f 61 then (bif Nat.beq f 60 then some cB else none) else (bif Nat.beq f 61 then some dx else none)) else (bif Nat.blt f 63 then (bif Nat.beq f 62 then some jo else none) else (bif Nat.blt f 64 then (bif Nat.beq f 63 then some cC else none) else (bif Nat.beq f 64 then some eZ else none)))) else (bif Nat.blt f 67 then (bif Nat.blt f 66 then (bif Nat.beq f 65 then some jq else none) else (bif Nat.beq f 66 then some cO else none)) else (bif Nat.blt f 68 then (bif Nat.beq f 67 then some fu else none) else (bif Nat.blt f 69 then (bif Nat.beq f 68 then some eS else none) else (bif Nat.beq f 69 then some iU else none)))))) else (bif Nat.blt f 79 then (bif Nat.blt f 74 then (bif Nat.blt f 72 then (bif Nat.blt f 71 then (bif Nat.beq f 70 then some bP else none) else (bif Nat.beq f 71 then some eM else none)) else (bif Nat.blt f 73 then (bif Nat.beq f 72 then some fN else none) else (bif Nat.beq f 73 then some eu else none))) else (bif Nat.blt f 76 then (bif Nat.blt f 75 then (bif Nat.beq f 74 then some jr else none) else (bif Nat.beq f 75 then some c6 else none)) else (bif Nat.blt f 77 then (bif Nat.beq f 76 then some fw else none) else (bif Nat.blt f 78 then (bif Nat.beq f 77 then some od else none) else (bif Nat.beq f 78 then some bM else none))))) else (bif Nat.blt f 93 then (bif Nat.blt f 81 then (bif Nat.blt f 80 then (bif Nat.beq f 79 then some aX else none) else (bif Nat.beq f 80 then some bJ else none)) else (bif Nat.blt f 82 then (bif Nat.beq f 81 then some qv else none) else (bif Nat.blt f 83 then (bif Nat.beq f 82 then some oJ else none) else (bif Nat.beq f 83 then some pz else none)))) else (bif Nat.blt f 95 then (bif Nat.blt f 94 then (bif Nat.beq f 93 then some nm else none) else (bif Nat.beq f 94 then some pA else none)) else (bif Nat.blt f 96 then (bif Nat.beq f 95 then some oK else none) else (bif Nat.blt f 97 then (bif Nat.beq f 96 then some rk else none) else (bif Nat.beq f 97 then some oL else none)))))))) else (bif Nat.blt f 142 then (bif Nat.blt f 122 then (bif Nat.blt f 112 then (bif Nat.blt f 107 then (bif Nat.blt f 105 then (bif Nat.blt f 104 then (bif Nat.beq f 98 then some oM else none) else (bif Nat.beq f 104 then some gm else none)) else (bif Nat.blt f 106 then (bif Nat.beq f 105 then some iR else none) else (bif Nat.beq f 106 then some bc else none))) else (bif Nat.blt f 109 then (bif Nat.blt f 108 then (bif Nat.beq f 107 then some ea else none) else (bif Nat.beq f 108 then some bf else none)) else (bif Nat.blt f 110 then (bif Nat.beq f 109 then some eb else none) else (bif Nat.blt f 111 then (bif Nat.beq f 110 then some cP else none) else (bif Nat.beq f 111 then some ec else none))))) else (bif Nat.blt f 117 then (bif Nat.blt f 114 then (bif Nat.blt f 113 then (bif Nat.beq f 112 then some lg else none) else (bif Nat.beq f 113 then some lj else none)) else (bif Nat.blt f 115 then (bif Nat.beq f 114 then some bg else none) else (bif Nat.blt f 116 then (bif Nat.beq f 115 then some ed else none) else (bif Nat.beq f 116 then some bo else none)))) else (bif Nat.blt f 119 then (bif Nat.blt f 118 then (bif Nat.beq f 117 then some ee else none) else (bif Nat.beq f 118 then some ll else none)) else (bif Nat.blt f 120 then (bif Nat.beq f 119 then some aU else none) else (bif Nat.blt f 121 then (bif Nat.beq f 120 then some eg else none) else (bif Nat.beq f 121 then some jZ else none)))))) else (bif Nat.blt f 131 then (bif Nat.blt f 126 then (bif Nat.blt f 124 then (bif Nat.blt f 123 then (bif Nat.beq f 122 then some j0 else none) else (bif Nat.beq f 123 then some cu else none)) else (bif Nat.blt f 125 then (bif Nat.beq f 124 then some iy else none) else (bif Nat.beq f 125 then some cQ else none))) else (bif Nat.blt f 128 then (bif Nat.blt f 127 then (bif Nat.beq f 126 then some dM else none) else (bif Nat.beq f 127 then some aR else none)) else (bif Nat.blt f 129 then (bif Nat.beq f 128 then some du else none) else (bif Nat.blt f 130 then (bif Nat.beq f 129 then some aS else none) else (bif Nat.beq f 130 then some ig else none))))) else (bif Nat.blt f 137 then (bif Nat.blt f 133 then (bif Nat.blt f 132 then (bif Nat.beq f 131 then some c7 else none) else (bif Nat.beq f 132 then some c8 else none)) else (bif Nat.blt f 134 then (bif Nat.beq f 133 then some eh else none) else (bif Nat.blt f 136 then (bif Nat.beq f 134 then some cE else none) else (bif Nat.beq f 136 then some Cs else none)))) else (bif Nat.blt f 139 then (bif Nat.blt f 138 then (bif Nat.beq f 137 then some yR else none) else (bif Nat.beq f 138 then some aV else none)) else (bif Nat.blt f 140 then (bif Nat.beq f 139 then some su else none) else (bif Nat.blt f 141 then (bif Nat.beq f 140 then some np else none) else (bif Nat.beq f 141 then some pB else none))))))) else (bif Nat.blt f 173 then (bif Nat.blt f 163 then (bif Nat.blt f 158 then (bif Nat.blt f 145 then (bif Nat.blt f 144 then (bif Nat.beq f 142 then some oR else none) else (bif Nat.beq f 144 then some ju else none)) else (bif Nat.blt f 157 then (bif Nat.beq f 145 then some jv else none) else (bif Nat.beq f 157 then some ij else none))) else (bif Nat.blt f 160 then (bif Nat.blt f 159 then (bif Nat.beq f 158 then some iV else none) else (bif Nat.beq f 159 then some aT else none)) else (bif Nat.blt f 161 then (bif Nat.beq f 160 then some aY else none) else (bif Nat.blt f 162 then (bif Nat.beq f 161 then some jw else none) else (bif Nat.beq f 162 then some ik else none))))) else (bif Nat.blt f 168 then (bif Nat.blt f 165 then (bif Nat.blt f 164 then (bif Nat.beq f 163 then some aE else none) else (bif Nat.beq f 164 then some cN else none)) else (bif Nat.blt f 166 then (bif Nat.beq f 165 then some fX else none) else (bif Nat.blt f 167 then (bif Nat.beq f 166 then some dy else none) else (bif Nat.beq f 167 then some c9 else none)))) else (bif Nat.blt f 170 then (bif Nat.blt f 169 then (bif Nat.beq f 168 then some cK else none) else (bif Nat.beq f 169 then some da else none)) else (bif Nat.blt f 171 then (bif Nat.beq f 170 then some dQ else none) else (bif Nat.blt f 172 then (bif Nat.beq f 171 then some fb else none) else (bif Nat.beq f 172 then some ey else none)))))) else (bif Nat.blt f 188 then (bif Nat.blt f 179 then (bif Nat.blt f 177 then (bif Nat.blt f 174 then (bif Nat.beq f 173 then some gY else none) else (bif Nat.beq f 174 then some cX else none)) else (bif Nat.blt f 178 then (bif Nat.beq f 177 then some kN else none) else (bif Nat.beq f 178 then some lu else none))) else (bif Nat.blt f 182 then (bif Nat.blt f 180 then (bif Nat.beq f 179 then some l5 else none) else (bif Nat.beq f 180 then some iq else none)) else (bif Nat.blt f 186 then (bif Nat.beq f 182 then some cR else none) else (bif Nat.blt f 187 then (bif Nat.beq f 186 then some bW else none) else (bif Nat.beq f 187 then some ez else none))))) else (bif Nat.blt f 205 then (bif Nat.blt f 190 then (bif Nat.blt f 189 then (bif Nat.beq f 188 then some db else none) else (bif Nat.beq f 189 then some eA else none)) else (bif Nat.blt f 202 then (bif Nat.beq f 190 then some fP else none) else (bif Nat.blt f 203 then (bif Nat.beq f 202 then some l6 else none) else (bif Nat.beq f 203 then some bX else none)))) else (bif Nat.blt f 211 then (bif Nat.blt f 206 then (bif Nat.beq f 205 then some j4 else none) else (bif Nat.beq f 206 then some fc else none)) else (bif Nat.blt f 219 then (bif Nat.beq f 211 then some fY else none) else (bif Nat.blt f 221 then (bif Nat.beq f 219 then some l7 else none) else (bif Nat.beq f 221 then some gZ else none)))))))))
theorem uO:aa Tryz.prog G0 3 pr:=by unfold aa;kernel_rfl
theorem tp:aa Tryz.prog G0 4 nJ:=by unfold aa;kernel_rfl
theorem uP:aa Tryz.prog G0 5 bC:=by unfold aa;kernel_rfl
theorem zJ:aa Tryz.prog G0 7 aM:=by unfold aa;kernel_rfl
theorem Gr:aa Tryz.prog G0 9 kB:=by unfold aa;kernel_rfl
theorem tq:aa Tryz.prog G0 10 nK:=by unfold aa;kernel_rfl
theorem IJ:aa Tryz.prog G0 11 ze:=by unfold aa;kernel_rfl
theorem Fk:aa Tryz.prog G0 12 eK:=by unfold aa;kernel_rfl
theorem IK:aa Tryz.prog G0 13 oc:=by unfold aa;kernel_rfl
theorem Fl:aa Tryz.prog G0 14 jV:=by unfold aa;kernel_rfl
theorem JE:aa Tryz.prog G0 15 mQ:=by unfold aa;kernel_rfl
theorem xC:aa Tryz.prog G0 16 rD:=by unfold aa;kernel_rfl
theorem zK:aa Tryz.prog G0 19 ow:=by unfold aa;kernel_rfl
theorem xD:aa Tryz.prog G0 21 cM:=by unfold aa;kernel_rfl
theorem IL:aa Tryz.prog G0 23 k8:=by unfold aa;kernel_rfl
theorem JF:aa Tryz.prog G0 24 mR:=by unfold aa;kernel_rfl
theorem vY:aa Tryz.prog G0 25 de:=by unfold aa;kernel_rfl
theorem yl:aa Tryz.prog G0 26 mS:=by unfold aa;kernel_rfl
theorem HM:aa Tryz.prog G0 27 lR:=by unfold aa;kernel_rfl
theorem ym:aa Tryz.prog G0 28 fL:=by unfold aa;kernel_rfl
theorem zL:aa Tryz.prog G0 29 eW:=by unfold aa;kernel_rfl
theorem zM:aa Tryz.prog G0 30 dv:=by unfold aa;kernel_rfl
theorem yn:aa Tryz.prog G0 31 fM:=by unfold aa;kernel_rfl
theorem rp:aa Tryz.prog G0 32 b7:=by unfold aa;kernel_rfl
theorem IM:aa Tryz.prog G0 33 lf:=by unfold aa;kernel_rfl
theorem nG:aa Tryz.prog G0 34 bn:=by unfold aa;kernel_rfl
theorem Db:aa Tryz.prog G0 35 iJ:=by unfold aa;kernel_rfl
theorem pE:aa Tryz.prog G0 36 b9:=by unfold aa;kernel_rfl
theorem Bm:aa Tryz.prog G0 37 pw:=by unfold aa;kernel_rfl
theorem vZ:aa Tryz.prog G0 38 qt:=by unfold aa;kernel_rfl
theorem Ci:aa Tryz.prog G0 39 vt:=by unfold aa;kernel_rfl
theorem xE:aa Tryz.prog G0 41 ca:=by unfold aa;kernel_rfl
theorem Dc:aa Tryz.prog G0 42 rj:=by unfold aa;kernel_rfl
theorem yo:aa Tryz.prog G0 43 mV:=by unfold aa;kernel_rfl
theorem xF:aa Tryz.prog G0 44 lT:=by unfold aa;kernel_rfl
theorem xG:aa Tryz.prog G0 45 lU:=by unfold aa;kernel_rfl
theorem zN:aa Tryz.prog G0 46 oB:=by unfold aa;kernel_rfl
theorem yp:aa Tryz.prog G0 47 mW:=by unfold aa;kernel_rfl
theorem IN:aa Tryz.prog G0 51 iQ:=by unfold aa;kernel_rfl
theorem yq:aa Tryz.prog G0 52 cZ:=by unfold aa;kernel_rfl
theorem Gs:aa Tryz.prog G0 53 jl:=by unfold aa;kernel_rfl
theorem yr:aa Tryz.prog G0 54 cw:=by unfold aa;kernel_rfl
theorem zO:aa Tryz.prog G0 55 dw:=by unfold aa;kernel_rfl
theorem Gt:aa Tryz.prog G0 56 jm:=by unfold aa;kernel_rfl
theorem yt:aa Tryz.prog G0 57 cA:=by unfold aa;kernel_rfl
theorem zP:aa Tryz.prog G0 58 eY:=by unfold aa;kernel_rfl
theorem Gu:aa Tryz.prog G0 59 jn:=by unfold aa;kernel_rfl
theorem yu:aa Tryz.prog G0 60 cB:=by unfold aa;kernel_rfl
theorem zQ:aa Tryz.prog G0 61 dx:=by unfold aa;kernel_rfl
theorem Gv:aa Tryz.prog G0 62 jo:=by unfold aa;kernel_rfl
theorem yv:aa Tryz.prog G0 63 cC:=by unfold aa;kernel_rfl
theorem zR:aa Tryz.prog G0 64 eZ:=by unfold aa;kernel_rfl
theorem Gw:aa Tryz.prog G0 65 jq:=by unfold aa;kernel_rfl
theorem zS:aa Tryz.prog G0 66 cO:=by unfold aa;kernel_rfl
theorem Bn:aa Tryz.prog G0 67 fu:=by unfold aa;kernel_rfl
theorem LS:aa Tryz.prog G0 68 eS:=by unfold aa;kernel_rfl
theorem HN:aa Tryz.prog G0 69 iU:=by unfold aa;kernel_rfl
theorem vp:aa Tryz.prog G0 70 bP:=by unfold aa;kernel_rfl
theorem Fm:aa Tryz.prog G0 71 eM:=by unfold aa;kernel_rfl
theorem yw:aa Tryz.prog G0 72 fN:=by unfold aa;kernel_rfl
theorem yx:aa Tryz.prog G0 73 eu:=by unfold aa;kernel_rfl
theorem Gx:aa Tryz.prog G0 74 jr:=by unfold aa;kernel_rfl
theorem yy:aa Tryz.prog G0 75 c6:=by unfold aa;kernel_rfl
theorem Bo:aa Tryz.prog G0 76 fw:=by unfold aa;kernel_rfl
theorem IP:aa Tryz.prog G0 77 od:=by unfold aa;kernel_rfl
theorem tr:aa Tryz.prog G0 78 bM:=by unfold aa;kernel_rfl
theorem pc:aa Tryz.prog G0 79 aX:=by unfold aa;kernel_rfl
theorem qO:aa Tryz.prog G0 80 bJ:=by unfold aa;kernel_rfl
theorem v7:aa Tryz.prog G0 81 qv:=by unfold aa;kernel_rfl
theorem zT:aa Tryz.prog G0 82 oJ:=by unfold aa;kernel_rfl
theorem Bp:aa Tryz.prog G0 83 pz:=by unfold aa;kernel_rfl
theorem yz:aa Tryz.prog G0 93 nm:=by unfold aa;kernel_rfl
theorem Bq:aa Tryz.prog G0 94 pA:=by unfold aa;kernel_rfl
theorem zU:aa Tryz.prog G0 95 oK:=by unfold aa;kernel_rfl
theorem Dd:aa Tryz.prog G0 96 rk:=by unfold aa;kernel_rfl
theorem zV:aa Tryz.prog G0 97 oL:=by unfold aa;kernel_rfl
theorem zW:aa Tryz.prog G0 98 oM:=by unfold aa;kernel_rfl
theorem HO:aa Tryz.prog G0 104 gm:=by unfold aa;kernel_rfl
theorem JG:aa Tryz.prog G0 105 iR:=by unfold aa;kernel_rfl
theorem mg:aa Tryz.prog G0 106 bc:=by unfold aa;kernel_rfl
theorem xH:aa Tryz.prog G0 107 ea:=by unfold aa;kernel_rfl
theorem mh:aa Tryz.prog G0 108 bf:=by unfold aa;kernel_rfl
theorem xI:aa Tryz.prog G0 109 eb:=by unfold aa;kernel_rfl
theorem zX:aa Tryz.prog G0 110 cP:=by unfold aa;kernel_rfl
theorem xJ:aa Tryz.prog G0 111 ec:=by unfold aa;kernel_rfl
theorem IQ:aa Tryz.prog G0 112 lg:=by unfold aa;kernel_rfl
theorem IR:aa Tryz.prog G0 113 lj:=by unfold aa;kernel_rfl
theorem mj:aa Tryz.prog G0 114 bg:=by unfold aa;kernel_rfl
theorem xK:aa Tryz.prog G0 115 ed:=by unfold aa;kernel_rfl
theorem nH:aa Tryz.prog G0 116 bo:=by unfold aa;kernel_rfl
theorem xL:aa Tryz.prog G0 117 ee:=by unfold aa;kernel_rfl
theorem IS:aa Tryz.prog G0 118 ll:=by unfold aa;kernel_rfl
theorem jT:aa Tryz.prog G0 119 aU:=by unfold aa;kernel_rfl
theorem xM:aa Tryz.prog G0 120 eg:=by unfold aa;kernel_rfl
theorem HP:aa Tryz.prog G0 121 jZ:=by unfold aa;kernel_rfl
theorem HQ:aa Tryz.prog G0 122 j0:=by unfold aa;kernel_rfl
theorem pQ:aa Tryz.prog G0 123 cu:=by unfold aa;kernel_rfl
theorem Cj:aa Tryz.prog G0 124 iy:=by unfold aa;kernel_rfl
theorem zY:aa Tryz.prog G0 125 cQ:=by unfold aa;kernel_rfl
theorem v8:aa Tryz.prog G0 126 dM:=by unfold aa;kernel_rfl
theorem nZ:aa Tryz.prog G0 127 aR:=by unfold aa;kernel_rfl
theorem uQ:aa Tryz.prog G0 128 du:=by unfold aa;kernel_rfl
theorem n4:aa Tryz.prog G0 129 aS:=by unfold aa;kernel_rfl
theorem Ek:aa Tryz.prog G0 130 ig:=by unfold aa;kernel_rfl
theorem tX:aa Tryz.prog G0 131 c7:=by unfold aa;kernel_rfl
theorem yA:aa Tryz.prog G0 132 c8:=by unfold aa;kernel_rfl
theorem El:aa Tryz.prog G0 133 eh:=by unfold aa;kernel_rfl
theorem qh:aa Tryz.prog G0 134 cE:=by unfold aa;kernel_rfl
theorem Gy:aa Tryz.prog G0 136 Cs:=by unfold aa;kernel_rfl
theorem Em:aa Tryz.prog G0 137 yR:=by unfold aa;kernel_rfl
theorem pR:aa Tryz.prog G0 138 aV:=by unfold aa;kernel_rfl
theorem yB:aa Tryz.prog G0 139 su:=by unfold aa;kernel_rfl
theorem yC:aa Tryz.prog G0 140 np:=by unfold aa;kernel_rfl
theorem Br:aa Tryz.prog G0 141 pB:=by unfold aa;kernel_rfl
theorem zZ:aa Tryz.prog G0 142 oR:=by unfold aa;kernel_rfl
theorem Gz:aa Tryz.prog G0 144 ju:=by unfold aa;kernel_rfl
theorem GA:aa Tryz.prog G0 145 jv:=by unfold aa;kernel_rfl
theorem HR:aa Tryz.prog G0 157 ij:=by unfold aa;kernel_rfl
theorem HS:aa Tryz.prog G0 158 iV:=by unfold aa;kernel_rfl
theorem n5:aa Tryz.prog G0 159 aT:=by unfold aa;kernel_rfl
theorem pd:aa Tryz.prog G0 160 aY:=by unfold aa;kernel_rfl
theorem GB:aa Tryz.prog G0 161 jw:=by unfold aa;kernel_rfl
theorem En:aa Tryz.prog G0 162 ik:=by unfold aa;kernel_rfl
theorem kj:aa Tryz.prog G0 163 aE:=by unfold aa;kernel_rfl
theorem qP:aa Tryz.prog G0 164 cN:=by unfold aa;kernel_rfl
theorem Ck:aa Tryz.prog G0 165 fX:=by unfold aa;kernel_rfl
theorem z6:aa Tryz.prog G0 166 dy:=by unfold aa;kernel_rfl
theorem yD:aa Tryz.prog G0 167 c9:=by unfold aa;kernel_rfl
theorem s8:aa Tryz.prog G0 168 cK:=by unfold aa;kernel_rfl
theorem tY:aa Tryz.prog G0 169 da:=by unfold aa;kernel_rfl
theorem wa:aa Tryz.prog G0 170 dQ:=by unfold aa;kernel_rfl
theorem z7:aa Tryz.prog G0 171 fb:=by unfold aa;kernel_rfl
theorem yE:aa Tryz.prog G0 172 ey:=by unfold aa;kernel_rfl
theorem qi:aa Tryz.prog G0 173 gY:=by unfold aa;kernel_rfl
theorem rq:aa Tryz.prog G0 174 cX:=by unfold aa;kernel_rfl
theorem qQ:aa Tryz.prog G0 177 kN:=by unfold aa;kernel_rfl
theorem wb:aa Tryz.prog G0 178 lu:=by unfold aa;kernel_rfl
theorem xN:aa Tryz.prog G0 179 l5:=by unfold aa;kernel_rfl
theorem qR:aa Tryz.prog G0 180 iq:=by unfold aa;kernel_rfl
theorem tt:aa Tryz.prog G0 182 cR:=by unfold aa;kernel_rfl
theorem qS:aa Tryz.prog G0 186 bW:=by unfold aa;kernel_rfl
theorem yF:aa Tryz.prog G0 187 ez:=by unfold aa;kernel_rfl
theorem tZ:aa Tryz.prog G0 188 db:=by unfold aa;kernel_rfl
theorem yG:aa Tryz.prog G0 189 eA:=by unfold aa;kernel_rfl
theorem o1:aa Tryz.prog G0 190 fP:=by unfold aa;kernel_rfl
theorem xO:aa Tryz.prog G0 202 l6:=by unfold aa;kernel_rfl
theorem qT:aa Tryz.prog G0 203 bX:=by unfold aa;kernel_rfl
theorem uR:aa Tryz.prog G0 205 j4:=by unfold aa;kernel_rfl
theorem mr:aa Tryz.prog G0 206 fc:=by unfold aa;kernel_rfl
theorem Cm:aa Tryz.prog G0 211 fY:=by unfold aa;kernel_rfl
theorem xP:aa Tryz.prog G0 219 l7:=by unfold aa;kernel_rfl
theorem qj:aa Tryz.prog G0 221 gZ:=by unfold aa;kernel_rfl
theorem V2:∀ f af,W6 f=some af→aa Tryz.prog G0 f af:=fun f af h=>by
 unfold W6 at h
 revert h
 exact (ah (ah (ah (ah (ah (ah (ah (ag (C:=_) uO) (ag (C:=_) tp)) (ah (ag (C:=_) uP) (ag (C:=_) zJ))) (ah (ah (ag (C:=_) Gr) (ag (C:=_) tq)) (ah (ag (C:=_) IJ) (ah (ag (C:=_) Fk) (ag (C:=_) IK))))) (ah (ah (ah (ag (C:=_) Fl) (ag (C:=_) JE)) (ah (ag (C:=_) xC) (ah (ag (C:=_) zK) (ag (C:=_) xD)))) (ah (ah (ag (C:=_) IL) (ag (C:=_) JF)) (ah (ag (C:=_) vY) (ah (ag (C:=_) yl) (ag (C:=_) HM)))))) (ah (ah (ah (ah (ag (C:=_) ym) (ag (C:=_) zL)) (ah (ag (C:=_) zM) (ag (C:=_) yn))) (ah (ah (ag (C:=_) rp) (ag (C:=_) IM)) (ah (ag (C:=_) nG) (ah (ag (C:=_) Db) (ag (C:=_) pE))))) (ah (ah (ah (ag (C:=_) Bm) (ag (C:=_) vZ)) (ah (ag (C:=_) Ci) (ah (ag (C:=_) xE) (ag (C:=_) Dc)))) (ah (ah (ag (C:=_) yo) (ag (C:=_) xF)) (ah (ag (C:=_) xG) (ah (ag (C:=_) zN) (ag (C:=_) yp))))))) (ah (ah (ah (ah (ah (ag (C:=_) IN) (ag (C:=_) yq)) (ah (ag (C:=_) Gs) (ag (C:=_) yr))) (ah (ah (ag (C:=_) zO) (ag (C:=_) Gt)) (ah (ag (C:=_) yt) (ah (ag (C:=_) zP) (ag (C:=_) Gu))))) (ah (ah (ah (ag (C:=_) yu) (ag (C:=_) zQ)) (ah (ag (C:=_) Gv) (ah (ag (C:=_) yv) (ag (C:=_) zR)))) (ah (ah (ag (C:=_) Gw) (ag (C:=_) zS)) (ah (ag (C:=_) Bn) (ah (ag (C:=_) LS) (ag (C:=_) HN)))))) (ah (ah (ah (ah (ag (C:=_) vp) (ag (C:=_) Fm)) (ah (ag (C:=_) yw) (ag (C:=_) yx))) (ah (ah (ag (C:=_) Gx) (ag (C:=_) yy)) (ah (ag (C:=_) Bo) (ah (ag (C:=_) IP) (ag (C:=_) tr))))) (ah (ah (ah (ag (C:=_) pc) (ag (C:=_) qO)) (ah (ag (C:=_) v7) (ah (ag (C:=_) zT) (ag (C:=_) Bp)))) (ah (ah (ag (C:=_) yz) (ag (C:=_) Bq)) (ah (ag (C:=_) zU) (ah (ag (C:=_) Dd) (ag (C:=_) zV)))))))) (ah (ah (ah (ah (ah (ah (ag (C:=_) zW) (ag (C:=_) HO)) (ah (ag (C:=_) JG) (ag (C:=_) mg))) (ah (ah (ag (C:=_) xH) (ag (C:=_) mh)) (ah (ag (C:=_) xI) (ah (ag (C:=_) zX) (ag (C:=_) xJ))))) (ah (ah (ah (ag (C:=_) IQ) (ag (C:=_) IR)) (ah (ag (C:=_) mj) (ah (ag (C:=_) xK) (ag (C:=_) nH)))) (ah (ah (ag (C:=_) xL) (ag (C:=_) IS)) (ah (ag (C:=_) jT) (ah (ag (C:=_) xM) (ag (C:=_) HP)))))) (ah (ah (ah (ah (ag (C:=_) HQ) (ag (C:=_) pQ)) (ah (ag (C:=_) Cj) (ag (C:=_) zY))) (ah (ah (ag (C:=_) v8) (ag (C:=_) nZ)) (ah (ag (C:=_) uQ) (ah (ag (C:=_) n4) (ag (C:=_) Ek))))) (ah (ah (ah (ag (C:=_) tX) (ag (C:=_) yA)) (ah (ag (C:=_) El) (ah (ag (C:=_) qh) (ag (C:=_) Gy)))) (ah (ah (ag (C:=_) Em) (ag (C:=_) pR)) (ah (ag (C:=_) yB) (ah (ag (C:=_) yC) (ag (C:=_) Br))))))) (ah (ah (ah (ah (ah (ag (C:=_) zZ) (ag (C:=_) Gz)) (ah (ag (C:=_) GA) (ag (C:=_) HR))) (ah (ah (ag (C:=_) HS) (ag (C:=_) n5)) (ah (ag (C:=_) pd) (ah (ag (C:=_) GB) (ag (C:=_) En))))) (ah (ah (ah (ag (C:=_) kj) (ag (C:=_) qP)) (ah (ag (C:=_) Ck) (ah (ag (C:=_) z6) (ag (C:=_) yD)))) (ah (ah (ag (C:=_) s8) (ag (C:=_) tY)) (ah (ag (C:=_) wa) (ah (ag (C:=_) z7) (ag (C:=_) yE)))))) (ah (ah (ah (ah (ag (C:=_) qi) (ag (C:=_) rq)) (ah (ag (C:=_) qQ) (ag (C:=_) wb))) (ah (ah (ag (C:=_) xN) (ag (C:=_) qR)) (ah (ag (C:=_) tt) (ah (ag (C:=_) qS) (ag (C:=_) yF))))) (ah (ah (ah (ag (C:=_) tZ) (ag (C:=_) yG)) (ah (ag (C:=_) o1) (ah (ag (C:=_) xO) (ag (C:=_) qT)))) (ah (ah (ag (C:=_) uR) (ag (C:=_) mr)) (ah (ag (C:=_) Cm) (ah (ag (C:=_) xP) (ag (C:=_) qj)))))))))
def W7(f:FuncId)(args:List AV)(H:List ae):Option Out:=
 match args with
 |[]=>bif Nat.beq f bh then some (.ret (.bool true),H) else none
 |args=>match S4 bp gv f args H with
  |some r=>some r
  |none=>TW f args H
theorem V3{f:FuncId}{args:List AV}{H H':List ae}{r:wi}(h:W7 f args H=some (r,H')):eT Tryz.prog G0 f args H fun r2 H2=>r2=r∧H2=H':=by
 unfold W7 at h
 split at h
 ·cases h1:Nat.beq f bh with
  |true=>rw [h1] at h;cases h;rw [Nat.eq_of_beq_eq_true h1];exact TY H
  |false=>rw [h1] at h;cases h
 ·split at h
  ·rename_i r' hr
   cases h
   exact VY P4 Rl S9 hr
  ·exact RA h
noncomputable def EN:bB := { P:=Tryz.prog,G:=G0,fn:=W6,orc:=W7,dfn:=fun _=>none }
theorem Wi:EN.Ok:=⟨RB,fun f af h=>V2 f af h,(fun _ _ _ h=>by cases h),(fun _ _ _ _ _ h=>by cases h),fun _ _ _ _ _ h=>V3 h⟩
theorem V4(M:cT cU EN):vw M UT:=by
 refine ⟨fun H => ?_,fun {l H id T} h0 hl hx => ?_,fun l => ?_⟩
 ·rw [Ev M rfl];rfl
 ·rw [Ev M rfl]
  have hd:P3 (bU l)=some (l.map toP):=by rw [R0];exact Nj _
  have hs:S4 bp gv bp [.rslice id 0 l.length 2 true,.fn (.func gv) [] []] H=some (.ret (.tuple []),H.set id (.cells (bU (UT l)) T)):=by
   have hb:∀ n:Nat,Nat.beq n n=true:=fun n=>by simp
   have hle:Nat.ble l.length 4000000000=true:=Nat.ble_eq_true_of_le hl
   unfold S4
   simp only [hb,Bool.and_self,cond_true,hx,hd,List.length_map,hle]
   rw [UT,VX]
  show (match S4 bp gv bp [.rslice id 0 l.length 2 true,.fn (.func gv) [] []] H with
   |some r=>some r
   |none=>TW bp [.rslice id 0 l.length 2 true,.fn (.func gv) [] []] H)=_
  rw [hs]
 ·simpa using (UV.perm l).length_eq
end
end Go.Am
