import Derived.Test.YtdgcaegjmohbkaaGreatDoorA5
/-
  Part 6 of the tool: an abstract machine over the model, proved sound, and what it says of the functions that the law reaches. Condition: none but those that each theorem names.
-/
set_option linter.unusedVariables false
set_option linter.unusedSimpArgs false
set_option maxRecDepth 100000
set_option maxHeartbeats 4000000
namespace Go.Am
open Go.RowKit
section
attribute [local congr] aI bR aZ aJ aY aR aK aC aD aS aT
variable{E:bG}(M:cJ cM E)
def sJ(s:Str):Int:=sel ((yK (cE s)).isSome&&sG s) (sel (decide ((32:Int)<((jb s).length:Int))) 3 0) 4
theorem DZ{q j:Nat}(hj:j<2)(k:IntKind):Jq 2 1 (.ptr q 0) (.int k (j:Int))=some (.ptr q j):=by
 simp only [Jq];rw [if_pos (by omega)];simp
theorem Qi{H H0:List AObj}{v0 v3:AV}{p:Nat}(k:List Fra)(He:List AObj) :
  M.go bO H0 (.c bJ :: .lp ⟨(some [0,3,4,5]),[],false⟩ bJ He :: .blk 2 :: .c (.lv [0,3])::k) (kv [(0,v0),(3,v3),(4,.ptr p 0),(5,.int .i64 2)]) H=M.go bO H0 k (kv [(0,v0),(3,v3)]) H:=by
 rw [ak M bJ.eq_1];simp (maxSteps:=3000000) (maxDischargeDepth:=6) +contextual -implicitDefEqProofs only [amC M,↓amD,Nat.reduceBEq,Nat.reduceAdd,env,aj,bE,(show decide ((2:Int)<2)=false from rfl)]
theorem Iz(hB:gA E)(hU:fT E){H H0:List AObj}(hc:b5 H0 H){v0 v3:AV}{p j:Nat}{a b s:Str}{T:TypeId}(hp:H[p]?=some (.cells [.str a,.str b] T))(hj:j<2)(hx:([a,b]:List Str)[j]?=some s)(hs:s.length≤1000000)(k:List Fra)(He:List AObj) :
  M.go bO H0 (.c bJ :: .lp ⟨(some [0,3,4,5]),[],false⟩ bJ He :: .blk 2 :: .c (.lv [0,3])::k) (kv [(0,v0),(3,v3),(4,.ptr p 0),(5,.int .i64 (j:Int))]) H =
   sel (sJ s == 0) ((fun He=>M.go bO H0 (.c bJ :: .lp ⟨(some [0,3,4,5]),[],false⟩ bJ He :: .blk 2 :: .c (.lv [0,3])::k) (kv [(0,v0),(3,v3),(4,.ptr p 0),(5,.int .i64 ((j+1:Nat):Int))]) H) H) (some (.ret (.int .u8 (sJ s)),H.take H0.length)):=by
 have hf:=fun H=>AN M hU hs H
 simp only [Ol] at hf;have ht:=fun H=>Iq M hB (s:=s) (by omega) H
 have hld:bn none [.str a,.str b] j=some (.str s):=by
  rcases j with _ | _ | j
  ·cases hx;rfl
  ·cases hx;rfl
  ·omega
 have hlt:decide ((j:Int)<2)=true:=decide_eq_true (by omega);have hw:=bt (n:=2) hj (by simp [aX]);rw [ak M bJ.eq_1];cases h1:(yK (cE s)).isSome with
 |false=>
  simp only [h1] at hf;simp (maxSteps:=3000000) (maxDischargeDepth:=6) +contextual -implicitDefEqProofs only [amC M,↓amD,Nat.reduceBEq,Nat.reduceAdd,env,aj,bE,hlt,DZ hj,hp,hld,hf,bQ,List.getElem?_cons_succ,h1,hc,sJ]
  try rfl
 |true=>
  simp only [h1] at hf;cases h2:sG s with
  |false=>
   simp only [h2] at ht;simp (maxSteps:=3000000) (maxDischargeDepth:=6) +contextual -implicitDefEqProofs only [amC M,↓amD,Nat.reduceBEq,Nat.reduceAdd,env,aj,bE,hlt,DZ hj,hp,hld,hf,ht,bQ,List.getElem?_cons_succ,h1,h2,hc,sJ]
   try rfl
  |true=>
   simp only [h2] at ht;cases h3:decide ((32:Int)<((jb s).length:Int)) with
   |true=>
    simp (maxSteps:=3000000) (maxDischargeDepth:=6) +contextual -implicitDefEqProofs only [amC M,↓amD,Nat.reduceBEq,Nat.reduceAdd,env,aj,bE,hlt,DZ hj,hp,hld,hf,ht,bQ,List.getElem?_cons_succ,List.length_map,h1,h2,h3,hc,sJ]
    try rfl
   |false=>
    simp (maxSteps:=3000000) (maxDischargeDepth:=6) +contextual -implicitDefEqProofs only [amC M,↓amD,Nat.reduceBEq,Nat.reduceAdd,env,aj,bE,hlt,DZ hj,hp,hld,hf,ht,hw,bQ,List.getElem?_cons_succ,List.length_map,h1,h2,h3,hc,sJ,(show ((0:Int) == 0)=true from rfl)]
def oD:List Brk→Int
 |[]=>0
 |r::rs=>sel (sJ r.bef == 0) (sel (sJ r.aft == 0) (oD rs) (sJ r.aft)) (sJ r.bef)
theorem rcb{H H0:List AObj}(hB:gA E)(hU:fT E){l:Sl Brk}(hl:l.ok 0 (Brk.ok 0))(hr0:l.l.length≤1000)(hr:∀ r∈l.l,r.bef.length≤1000000∧r.aft.length≤1000000)(hc:b5 H0 H)(k:List Fra):∀ (n i:Nat),i+n=(l.l).length →
  M.go bO H0 (.c dj :: .lp ⟨(some [0,3]),[],true⟩ dj H :: .blk 0 :: .c (.lv [])::k) (kv [(0,.slice l.tag 3 (l.l.map Brk.row)),(3,.int .i64 i)]) H =
   sel (oD (l.l.drop i) == 0) (M.go bO H0 k .leaf H) (some (.ret (.int .u8 (oD (l.l.drop i))),H.take H0.length))
 |0,i,h=>by
  have e:i=(l.l).length:=by omega
  subst e;rw [ak M dj.eq_1];simp (maxSteps:=3000000) (maxDischargeDepth:=6) +contextual -implicitDefEqProofs only [amC M,↓amD,Nat.reduceBEq,Nat.reduceAdd,env,aj,bE,Nat.lt_irrefl,List.drop_length,oD,(show ((0:Int) == 0)=true from rfl)]
 |n+1,i,h=>by
  have hi:i<(l.l).length:=by omega
  have hx:(l.l)[i]?=some (l.l)[i]:=List.getElem?_eq_getElem hi;have hd:((l.l).drop i)=(l.l)[i]::(l.l).drop (i+1):=List.drop_eq_getElem_cons hi;have hm:(l.l)[i]∈(l.l):=List.getElem_mem hi;have ih:=rcb (H:=H) (H0:=H0) (hB:=hB) (hU:=hU) (l:=l) (hl:=hl) (hr0:=hr0) (hr:=hr) hc k n (i+1)  (by omega);simp only [kv_cons,kv_nil] at ih;have hm1:=hr _ hm;have w1:Wk H.length (.slice l.tag 3 (l.l.map Brk.row)) (.slice l.tag 3 (l.l.map Brk.row)):=(hl.mono (Nat.zero_le _) (fun _ h=>h.mono (Nat.zero_le _))).wk (fun _ h=>h.wk)
  have hwi:=bt (n:=l.l.length) hi (by simp only [aX];omega);have hir:=aA (row:=Brk.row) (tag:=l.tag) (sz:=3) (k:=.i64) hi;have hce:=fun L=>ue hc L
  have hte:=fun L=>Ar hc L
  have hp:(H++[.cells [.str l.l[i].bef,.str l.l[i].aft] qh])[H.length]?=some (.cells [.str l.l[i].bef,.str l.l[i].aft] qh):=aL _ _;have s0:=fun k He=>Iz M hB hU (ue hc [.cells [.str l.l[i].bef,.str l.l[i].aft] qh]) (v0:=.slice l.tag 3 (l.l.map Brk.row)) (v3:=.int .i64 (i:Int)) hp (j:=0) (by omega) rfl hm1.1 k He
  have s1:=fun k He=>Iz M hB hU (ue hc [.cells [.str l.l[i].bef,.str l.l[i].aft] qh]) (v0:=.slice l.tag 3 (l.l.map Brk.row)) (v3:=.int .i64 (i:Int)) hp (j:=1) (by omega) rfl hm1.2 k He
  have s2:=fun k He=>Qi M (H:=H++[.cells [.str l.l[i].bef,.str l.l[i].aft] qh]) (H0:=H0) (v0:=.slice l.tag 3 (l.l.map Brk.row)) (v3:=.int .i64 (i:Int)) (p:=H.length) k He
  simp only [kv_cons,kv_nil,Int.ofNat_zero,Nat.zero_add,show ((1:Nat):Int)=1 from rfl,show ((1+1:Nat):Int)=2 from rfl] at s0 s1 s2;rw [ak M dj.eq_1];simp (maxSteps:=3000000) (maxDischargeDepth:=6) +contextual -implicitDefEqProofs only [amC M,↓amD,Nat.reduceBEq,Nat.reduceAdd,env,aj,bE,amG,AV.cell,Nat.reduceMul,Nat.reduceLeDiff,hi,ih,hx,hd,hc,oD,w1,hwi,hir,L2,s0,s1,s2,hce,hte,cut_app,hp_take];cases h1:sJ l.l[i].bef == 0 with
  |false=>
   show _=slc (sJ l.l[i].bef == 0) _ _;rw [h1];rfl
  |true=>
   cases h2:sJ l.l[i].aft == 0 with
   |false=>
    show _=slc (sJ l.l[i].aft == 0) _ _;rw [h2];rfl
   |true=>rfl
def kh(l:List Brk):Int:=sel (decide ((64:Int)<(l.length:Int))) 3 (oD l)
theorem uo(hB:gA E)(hU:fT E){l:Sl Brk}(hl:l.ok 0 (Brk.ok 0))(hr0:l.l.length≤1000)(hr:l.l.length≤64→∀ r∈l.l,r.bef.length≤1000000∧r.aft.length≤1000000)(H:List AObj) :
  M.run fm [.slice l.tag 3 (l.l.map Brk.row)] H=some (.ret (.int .u8 (kh l.l)),H):=by
 rw [br M hU.truchmanref01_CheckBreaks rfl (c:=iK) rfl,iK];have h1:=fun (h64:l.l.length≤64) k=>rcb M hB hU hl hr0 (hr h64) (cut_refl H) k l.l.length 0 (by omega)
 simp only [kv_cons,kv_nil,Int.ofNat_zero,List.drop_zero] at h1;cases h:decide ((64:Int)<(l.l.length:Int)) with
 |true=>simp (maxSteps:=3000000) (maxDischargeDepth:=6) +contextual -implicitDefEqProofs only [amC M,↓amD,Nat.reduceBEq,Nat.reduceAdd,env,aj,bE,List.length_map,h,kh]
 |false=>
  have h1:=h1 (by have:=of_decide_eq_false h;omega);cases h2:oD l.l == 0 with
  |true=>
   simp only [h2,sel_true] at h1;have h3:oD l.l=0:=by simpa using h2
   simp (maxSteps:=3000000) (maxDischargeDepth:=6) +contextual -implicitDefEqProofs only [amC M,↓amD,Nat.reduceBEq,Nat.reduceAdd,env,aj,bE,List.length_map,h,kh,h1,h3]
  |false=>
   simp only [h2,sel_false] at h1;simp (maxSteps:=3000000) (maxDischargeDepth:=6) +contextual -implicitDefEqProofs only [amC M,↓amD,Nat.reduceBEq,Nat.reduceAdd,env,aj,bE,List.length_map,h,kh,h1,hp_self]
end
section
attribute [local congr] aI bR aZ aJ aY aR aK aC aD aS aT
variable{E:bG}(M:cJ cM E)
def xR(u:List Un)(rs:List Brk):Nat→Nat→List Int
 |0,_=>[]
 |n+1,a=>sel (tJ u a rs) [(a:Int)] []++xR u rs n (a+1)
theorem rpl(hU:fT E){rs:List Brk}{u:List Un}{t tx:Tag}(hu:u.length≤1000000)(hr0:rs.length≤aX)(hr:∀ r∈rs,r.bef.length≤1000000∧r.aft.length≤1000000){H H0:List AObj}(k:List Fra) :
  ∀ (n a:Nat) (o:List Int) (He:List AObj),u.length-a=n→o.length≤a →
  M.go fJ H0 (.c dF :: .lp ⟨(some [0,7,8,9]),[(8,1,mC)],false⟩ dF He :: .blk 0 :: .c (.lv [8])::k) (kv [(0,.slice tx 3 (rs.map Brk.row)),(7,.slice t 2 (u.map Un.row)),(8,.slice (.own H.length) 1 (o.map bU)),(9,.int .i64 a)]) (H++[.tok (o.length*1) mC]) =
   M.go fJ H0 k (kv [(8,.slice (.own H.length) 1 ((o++xR u rs n a).map bU))]) (H++[.tok ((o++xR u rs n a).length*1) mC])
 |0,a,o,He,h,ho=>by
  have e:¬ a<u.length:=by omega
  rw [ak M dF.eq_1];simp (maxSteps:=3000000) (maxDischargeDepth:=6) +contextual -implicitDefEqProofs only [amC M,↓amD,Nat.reduceBEq,Nat.reduceAdd,env,aj,eE,e,xR,List.append_nil]
 |n+1,a,o,He,h,ho=>by
  have hi:a<u.length:=by omega
  have hb:=fun H=>Iy M hU (t:=t) (tx:=tx) hu hr0 hr (a:=a) (by omega) H
  have hw:=bt (n:=u.length) hi (by simp only [aX];omega);cases hk:tJ u a rs with
  |true=>
   have ap:=fun L=>kR (row:=bU) (l:=o) (x:=(a:Int)) (r:=[.int .i64 (a:Int)]) (sz:=1) (bytes:=8) (e:=mC) H L rfl rfl rfl (by omega) (by omega)
   have ih:=fun He=>rpl hU hu hr0 hr (H:=H) (H0:=H0) (t:=t) (tx:=tx) k n (a+1) (o++[(a:Int)]) He (by omega) (by simp;omega)
   simp only [kv_cons,kv_nil] at ih;rw [xR,hk,sel_true,← List.append_assoc];rw [ak M dF.eq_1];simp (maxSteps:=3000000) (maxDischargeDepth:=6) +contextual -implicitDefEqProofs only [amC M,↓amD,Nat.reduceBEq,Nat.reduceAdd,env,aj,eE,amG,AV.cell,Nat.reduceMul,Nat.reduceLeDiff,hi,hb,hk,hw,ap,ih]
  |false=>
   have ih:=fun He=>rpl hU hu hr0 hr (H:=H) (H0:=H0) (t:=t) (tx:=tx) k n (a+1) o He (by omega) (by omega)
   simp only [kv_cons,kv_nil] at ih;rw [xR,hk,sel_false,List.nil_append];rw [ak M dF.eq_1];simp (maxSteps:=3000000) (maxDischargeDepth:=6) +contextual -implicitDefEqProofs only [amC M,↓amD,Nat.reduceBEq,Nat.reduceAdd,env,aj,eE,amG,AV.cell,Nat.reduceMul,Nat.reduceLeDiff,hi,hb,hk,hw,ih]
def sK(rs:List Brk)(l:List ag):List Int:=xR (unL l) rs ((unL l).length-1) 1
def zO(rs:List Brk)(l:List ag):AV:=
 sel (kh rs == 0) (sel (dX l == 0) (.tuple [.slice .any 1 ((sK rs l).map bU),.int .u8 0]) (.tuple [.slice .any 1 [],.int .u8 (dX l)])) (.tuple [.slice .any 1 [],.int .u8 (kh rs)])
theorem Ca(n:Nat)(l:List Int):ik n (l.map bU):=by
 rw [rowsWk_map];exact fun _ _=>⟨wk_int _ _ _,trivial⟩
theorem D0{l:List Brk}(h:(kh l == 0)=true):l.length≤64:=by
 have h:=eq_of_beq h;unfold kh at h;cases hb:decide ((64:Int)<(l.length:Int)) with
 |true=>rw [hb] at h;cases h
 |false=>have:=of_decide_eq_false hb;omega
theorem IA(hB:gA E)(hU:fT E){rs:Sl Brk}(hrs:rs.ok 0 (Brk.ok 0))(hr0:rs.l.length≤1000)(hr:rs.l.length≤64→∀ r∈rs.l,r.bef.length≤1000000∧r.aft.length≤1000000){l:Sl ag}(hl:l.l.length≤100000)(ht:nz l.l)(hu:(unL l.l).length≤1000000)(H:List AObj) :
  M.run kz [.slice rs.tag 3 (rs.l.map Brk.row),.slice l.tag 3 (l.l.map ag.row)] H=some (.ret (zO rs.l l.l),H):=by
 rw [br M hU.truchmanref01_Breaks rfl (c:=kF) rfl,kF];have h1:=fun H=>uo M hB hU hrs hr0 hr H
 have h2:=fun H=>ny M hB (l:=l) (by omega) ht H
 have h3:=fun H=>DY M hU (l:=l.l) (tg:=l.tag) hl ht hu H
 have h4:=fun (hr:∀ r∈rs.l,r.bef.length≤1000000∧r.aft.length≤1000000) k He=>rpl M hU (rs:=rs.l) (u:=unL l.l) (t:=.any) (tx:=rs.tag) hu (by simp only [aX];omega) hr (H:=H) (H0:=H) k ((unL l.l).length-1) 1 [] He rfl (by simp)
 simp only [kv_cons,kv_nil,List.nil_append,List.length_nil,Nat.zero_mul,List.map_nil,show ((1:Nat):Int)=1 from rfl] at h4;have e0:∀ x:Int,(x == 0)=false→(x != 0)=true:=fun x h=>by rw [bne,h];rfl
 cases c1:kh rs.l == 0 with
 |false=>simp (maxSteps:=3000000) (maxDischargeDepth:=6) +contextual -implicitDefEqProofs only [amC M,↓amD,Nat.reduceBEq,Nat.reduceAdd,env,aj,eE,h1,c1,zO,dK,wk_tuple,hp_self,cut_refl]
 |true=>
  cases c2:dX l.l == 0 with
  |false=>simp (maxSteps:=3000000) (maxDischargeDepth:=6) +contextual -implicitDefEqProofs only [amC M,↓amD,Nat.reduceBEq,Nat.reduceAdd,env,aj,eE,h1,h2,c1,c2,zO,dK,wk_tuple,hp_self,cut_refl]
  |true=>
   have h4:=h4 (hr (D0 c1));have hh:=handV_drop (cut_app H [.tok ((sK rs.l l.l).length*1) mC]) (wk_tuple (xs:=[.slice (.own H.length) 1 ((sK rs.l l.l).map bU),.int .u8 0]) ⟨wk_any (esz:=1) (tag:=.own H.length) (Ca H.length (sK rs.l l.l)),wk_int _ _ 0,trivial⟩);simp only [anyV_tuple,hp_take,sK] at hh;simp (maxSteps:=3000000) (maxDischargeDepth:=6) +contextual -implicitDefEqProofs only [amC M,↓amD,Nat.reduceBEq,Nat.reduceAdd,env,aj,eE,h1,h2,h3,h4,c1,c2,zO,hh,sK]
   try rfl
end
section
attribute [local congr] aI bR aZ aJ aY aR aK aC aD aS aT
variable{E:bG}(M:cJ cM E)
end
section
attribute [local congr] aI bR aZ aJ aY aR aK aC aD aS aT
variable{E:bG}(M:cJ cM E)
theorem pN:∀ n:Int,bn none (bU n) 0=some (.int .i64 n):=fun _=>rfl
def oE:List ag→Str
 |[]=>[]
 |x::l=>sel (x.kind == 1) x.text []++oE l
theorem rpn{H H0:List AObj}{l:List ag}{tg:Tag}(hl:l.length≤aX)(k:List Fra):∀ (n i:Nat) (w:Str) (He:List AObj),i+n=l.length→w.length+(oE (l.drop i)).length≤1000000 →
  M.go fY H0 (.c dZ :: .lp ⟨(some [0,3,4]),[],false⟩ dZ He :: .blk 0 :: .c (.lv [3])::k) (kv [(0,.slice tg 3 (l.map ag.row)),(3,.str w),(4,.int .i64 i)]) H =
   M.go fY H0 k (kv [(3,.str (w++oE (l.drop i)))]) H
 |0,i,w,He,h,hw=>by
  have e:i=l.length:=by omega
  subst e;rw [ak M dZ.eq_1];simp (maxSteps:=3000000) (maxDischargeDepth:=6) +contextual -implicitDefEqProofs only [amC M,↓amD,Nat.reduceBEq,Nat.reduceAdd,env,aj,ji,Nat.lt_irrefl,List.drop_length,oE,List.append_nil]
 |n+1,i,w,He,h,hw=>by
  have hi:i<l.length:=by omega
  have hx:l[i]?=some l[i]:=List.getElem?_eq_getElem hi;have hd:(l.drop i)=l[i]::l.drop (i+1):=List.drop_eq_getElem_cons hi;have hwi:=bt (n:=l.length) hi hl;rw [hd,oE] at hw ⊢;cases h1:l[i].kind == 1 with
  |true=>
   rw [h1,sel_true,List.length_append] at hw;have ih:=fun He=>rpn (H:=H) (H0:=H0) (tg:=tg) hl k n (i+1) (w++l[i].text) He (by omega) (by rw [List.length_append];omega)
   simp only [kv_cons,kv_nil] at ih;have ha:=GO (s:=w) (t:=l[i].text) (by omega);rw [sel_true,← List.append_assoc];rw [ak M dZ.eq_1];simp (maxSteps:=3000000) (maxDischargeDepth:=6) +contextual -implicitDefEqProofs only [amC M,↓amD,Nat.reduceBEq,Nat.reduceAdd,env,aj,ji,hi,hx,h1,ih,ha,aA hi,aW,hwi]
  |false=>
   rw [h1,sel_false,List.nil_append] at hw;have ih:=fun He=>rpn (H:=H) (H0:=H0) (tg:=tg) hl k n (i+1) w He (by omega) hw
   simp only [kv_cons,kv_nil] at ih;rw [sel_false,List.nil_append];rw [ak M dZ.eq_1];simp (maxSteps:=3000000) (maxDischargeDepth:=6) +contextual -implicitDefEqProofs only [amC M,↓amD,Nat.reduceBEq,Nat.reduceAdd,env,aj,ji,hi,hx,h1,ih,aA hi,aW,hwi]
theorem Mt(hU:fT E){l:List ag}{tg:Tag}(hl:l.length≤aX)(hp:(oE l).length≤1000000)(H:List AObj):M.run lA [.slice tg 3 (l.map ag.row)] H=some (.ret (.str (oE l)),H):=by
 rw [br M hU.truchmanref01_Plain rfl (c:=lH) rfl,lH];have h1:=fun k He=>rpn M (H:=H) (H0:=H) (tg:=tg) hl k l.length 0 [] He (by omega) (by simpa using hp)
 simp only [kv_cons,kv_nil,Int.ofNat_zero,List.drop_zero,List.nil_append] at h1;simp (maxSteps:=3000000) (maxDischargeDepth:=6) +contextual -implicitDefEqProofs only [amC M,↓amD,Nat.reduceBEq,Nat.reduceAdd,env,aj,ji,h1,hp_self,cut_refl]
end
section
attribute [local congr] aI bR aZ aJ aY aR aK aC aD aS aT
variable{E:bG}(M:cJ cM E)
def nA(v:AV):List AV:=[v]
def B2(c:Nat):AV:=
 if c=97 then .fn (.func eV) [] [] else if c=117 then .fn (.func mo) [] [] else if c=108 then .fn (.func mq) [] []
 else if c=100 then .fn (.func fy) [] [] else if c=115 then .fn (.func gY) [] [] else if c=112 then .fn (.func gm) [] []
 else if c=104 then .fn (.func mr) [] [] else if c=46 then .fn (.func mw) [] [] else if c=37 then .fn (.func my) [] [] else .nilfn
def yL(x:Fit):AV:=match x.cls with
 |true=>B2 x.r.toNat
 |false=>.fn (.func fA) [] [.vptr 1 [[.int .i32 x.r]] 0 0]
def Itm(b:Nat)(L:List AObj)(x:Fit)(v:AV):Prop:=match x.cls with
 |true=>v=B2 x.r.toNat
 |false => ∃ j T,v = .fn (.func fA) [] [.ptr (b+(j+1)) 0]∧L[j]?=some (.cells [.int .i32 x.r] T)
def J1(b:Nat)(L:List AObj)(xs:List Fit)(o:List AV):Prop:=o.length=xs.length∧∀ (i:Nat) (x:Fit) (v:AV),xs[i]?=some x→o[i]?=some v→Itm b L x v
theorem Qj{b:Nat}{L:List AObj}{x:Fit}{v:AV}(h:Itm b L x v)(X:List AObj):Itm b (L++X) x v:=by
 unfold Itm at h ⊢;cases hc:x.cls with
 |true=>rw [hc] at h;exact h
 |false=>
  rw [hc] at h;obtain ⟨j,T,h1,h2⟩:=h;exact ⟨j,T,h1,bD h2⟩
theorem Om(b:Nat)(L:List AObj):J1 b L [] []:=⟨rfl,fun i x v h=>by simp at h⟩
theorem Mu{b:Nat}{L:List AObj}{xs:List Fit}{o:List AV}(h:J1 b L xs o)(X:List AObj){x:Fit}{v:AV}(hx:Itm b (L++X) x v):J1 b (L++X) (xs++[x]) (o++[v]):=by
 refine ⟨by simp [h.1],fun i y w hy hw => ?_⟩
 by_cases hi:i<xs.length
 ·rw [List.getElem?_append_left hi] at hy
  rw [List.getElem?_append_left (by rw [h.1];exact hi)] at hw;exact Qj (h.2 i y w hy hw) X
 ·have:i=xs.length:=by
   have:=(List.getElem?_eq_some_iff.1 hy).1;simp at this;omega
  subst this;rw [List.getElem?_append_right (Nat.le_refl _)] at hy;rw [List.getElem?_append_right (by rw [h.1];exact Nat.le_refl _)] at hw;simp [h.1] at hy hw;subst hy;subst hw;exact hx
theorem R7(k n:Nat)(H:List AObj)(c:Nat):fzF (k+1) n H (B2 c)=some (B2 c):=by
 unfold B2
 repeat' split
 all_goals rfl
theorem Qk{H0:List AObj}{T:TypeId}{m:Nat}{L:List AObj}{xs:List Fit}{o:List AV}(h:J1 H0.length L xs o) :
  fzF 5 H0.length (H0++(.tok m T::L)) (.tuple [.slice (.own H0.length) 1 (o.map nA),.bool true])=some (.tuple [.slice .any 1 (xs.map fun x=>[yL x]),.bool true]):=by
 refine ph (b6 (rJ (t:=.own H0.length) (zq (by simp [h.1]) fun i x y hx hy => ?_)) (b6 (B8 _ _ _ _) (dQ _)));rw [List.getElem?_map] at hx hy;cases hv:o[i]? with
 |none=>rw [hv] at hx;cases hx
 |some v=>
  cases hf:xs[i]? with
  |none=>rw [hf] at hy;cases hy
  |some f=>
   rw [hv] at hx;rw [hf] at hy;cases hx;cases hy;have hi:=h.2 i f v hf hv;unfold Itm at hi;refine b6 ?_ (dQ _);unfold yL;cases hc:f.cls with
   |true=>rw [hc] at hi;rw [hi];exact R7 _ _ _ _
   |false=>
    rw [hc] at hi;obtain ⟨j,T2,h1,h2⟩:=hi;rw [h1];exact SI (dQ _) (b6 (RI (by omega) ((hp_getk H0 _ (j+1)).trans h2) (b6 (uM _ _ _ _ _) (dQ _))) (dQ _))
def D1:Option (List Fit)→AV
 |none=>.tuple [.slice .nil 1 [],.bool false]
 |some l=>.tuple [.slice .any 1 (l.map fun x=>[yL x]),.bool true]
theorem FN(H0 L:List AObj):pZ cM .deep H0 (H0++L) (.tuple [.slice .nil 1 [],.bool false])=some (.tuple [.slice .nil 1 [],.bool false],H0):=by
 rw [kx (cut_app _ _) ⟨5,ph (b6 (rJ (t:=.nil) (dQ _)) (b6 (B8 _ _ _ _) (dQ _)))⟩,hp_take];rfl
theorem Mv{H0:List AObj}:pZ cM .deep H0 H0 (.tuple [.slice .nil 1 [],.bool false])=some (.tuple [.slice .nil 1 [],.bool false],H0):=by
 have:=FN H0 [];rwa [List.append_nil] at this
theorem SR:((97:Nat):Int)=97∧((117:Nat):Int)=117∧((108:Nat):Int)=108∧((100:Nat):Int)=100∧((115:Nat):Int)=115∧((112:Nat):Int)=112∧((104:Nat):Int)=104∧((46:Nat):Int)=46∧((37:Nat):Int)=37∧((98:Nat):Int)=98:=
 ⟨rfl,rfl,rfl,rfl,rfl,rfl,rfl,rfl,rfl,rfl⟩
theorem itl{H0:List AObj}{rs:List Nat}(hrs:rs.length≤1000000){k:List Fra}
  (hk:∀ (o:List AV) (xs:List Fit) (L:List AObj),J1 H0.length L xs o→M.go pB H0 k (kv [(4,.slice (.own H0.length) 1 (o.map nA))]) (H0++(.tok (o.length*1) cR::L))=some (.ret (D1 (some xs)),H0)) :
  ∀ (n i:Nat) (o:List AV) (xs:List Fit) (L He:List AObj),rs.length-i<n→i≤rs.length→o.length≤i→J1 H0.length L xs o →
  M.go pB H0 (.c gJ :: .lp ⟨(some [4,5,6]),[(4,1,cR)],false⟩ gJ He :: .blk 0 :: .c (.lv [4])::k) (kv [(4,.slice (.own H0.length) 1 (o.map nA)),(5,.slice .any 1 (rs.map kQ)),(6,.int .i64 i)]) (H0++(.tok (o.length*1) cR::L)) =
   some (.ret (D1 (yJ n xs (rs.drop i))),H0):=by
 intro n;induction n with
 |zero=>intro i o xs L He h;omega
 |succ n IH=>
  intro i o xs L He h hi hol hI
  by_cases he:i=rs.length
  ·subst he
   rw [List.drop_length,yJ];have h1:=hk o xs L hI;simp only [kv_cons,kv_nil] at h1;rw [ak M gJ.eq_1];simp (maxSteps:=3000000) (maxDischargeDepth:=6) +contextual -implicitDefEqProofs only [amC M,↓amD,Nat.reduceBEq,Nat.reduceAdd,env,aj,jE,Nat.lt_irrefl,h1]
  ·have hlt:i<rs.length:=by omega
   have hx:rs[i]?=some rs[i]:=List.getElem?_eq_getElem hlt;have hd:(rs.drop i)=rs[i]::rs.drop (i+1):=List.drop_eq_getElem_cons hlt;have hw1:=bt (n:=rs.length) hlt (by simp only [aX];omega);have hi1:=aA (row:=kQ) (tag:=.any) (sz:=1) (k:=.i64) hlt;have ap:=fun (X:List AObj) (v:AV) (h2:v.cell=true) (h3:v.strip=v)=>kR (row:=nA) (l:=o) (x:=v) (r:=[v]) (sz:=1) (bytes:=8) (e:=cR) H0 (L++X) rfl (by simp [h2]) (by simp [h3,nA]) (by omega) (by omega)
   have ih:=fun (j:Nat) (x:Fit) (v:AV) (X He:List AObj) (h1:rs.length-j<n) (h2:j≤rs.length) (h3:o.length+1≤j) (h4:Itm H0.length (L++X) x v)=>IH j (o++[v]) (xs++[x]) (L++X) He h1 h2 (by simpa using h3) (Mu hI X h4)
   simp only [kv_cons,kv_nil] at ih;have hG:∀ (m:Nat) (X:List AObj),H0++(.tok m cR::(L++X))=(H0++(.tok m cR::L))++X:=fun m X=>by simp
   simp only [hG] at ap ih;have hcut:∀ m X,b5 H0 ((H0++(.tok m cR::L))++X):=fun m X=>by rw [List.append_assoc];exact cut_app _ _
   have hL:(H0++(.tok (o.length*1) cR::L)).length=H0.length+(L.length+1):=by simp
   have dn:∀ X,pZ cM .deep H0 (H0++(.tok (o.length*1) cR::L)++X) (.tuple [.slice .nil 1 [],.bool false])=some (.tuple [.slice .nil 1 [],.bool false],H0):=fun X=>by rw [List.append_assoc];exact FN _ _
   generalize H0++(.tok (o.length*1) cR::L)=G at *
   rw [hd,yJ.eq_def];dsimp only
   by_cases h37:rs[i]=37
   ·rw [if_pos h37]
    have e37:(((rs[i]:Nat):Int) == 37)=true:=by rw [h37];rfl
    by_cases he2:i+1=rs.length
    ·rw [List.drop_of_length_le (by omega)]
     simp only [D1];have hq:(i+1 == rs.length)=true:=by simp [he2]
     rw [ak M gJ.eq_1];simp (maxSteps:=3000000) (maxDischargeDepth:=6) +contextual -implicitDefEqProofs only [amC M,↓amD,Nat.reduceBEq,Nat.reduceAdd,env,aj,jE,amG,AV.cell,Nat.reduceMul,Nat.reduceLeDiff,hlt,hx,hw1,hi1,xh,e37,hq,aL,dn]
    ·have hlt2:i+1<rs.length:=by omega
     have hx2:rs[i+1]?=some rs[i+1]:=List.getElem?_eq_getElem hlt2;have hd2:(rs.drop (i+1))=rs[i+1]::rs.drop (i+2):=List.drop_eq_getElem_cons hlt2;have hi2:=aA (row:=kQ) (tag:=.any) (sz:=1) (k:=.i64) hlt2;have hw2:=bt (n:=rs.length) hlt2 (by simp only [aX];omega);have hq:(i+1 == rs.length)=false:=by simp [he2]
     have gk:∀ L:List AObj,(G++L)[G.length+1]?=L[1]? := fun L=>hp_getk G L 1
     have sk:∀ (L:List AObj) (x:AObj),(G++L).set (G.length+1) x=G++L.set 1 x:=fun L x=>hp_setk G L 1 x
     rw [hd2];dsimp only;cases hcl:zM rs[i+1] with
     |false=>
      simp only [Bool.false_eq_true,if_false,D1]
      have hn:∀ m:Nat,m∈[97,117,108,100,115,112,104,46,37,98]→((rs[i+1]:Int) == (m:Int))=false:=fun m hm=>by
       simp only [beq_eq_false_iff_ne];intro e;have e2:rs[i+1]=m:=by exact_mod_cast e
       rw [e2] at hcl;simp [zM] at hcl hm;omega
      have n1:=hn 97 (by simp);have n2:=hn 117 (by simp);have n3:=hn 108 (by simp);have n4:=hn 100 (by simp);have n5:=hn 115 (by simp);have n6:=hn 112 (by simp);have n7:=hn 104 (by simp);have n8:=hn 46 (by simp);have n9:=hn 37 (by simp);have n0:=hn 98 (by simp);rw [show ((97:Nat):Int)=97 from rfl] at n1;rw [show ((117:Nat):Int)=117 from rfl] at n2;rw [show ((108:Nat):Int)=108 from rfl] at n3;rw [show ((100:Nat):Int)=100 from rfl] at n4;rw [show ((115:Nat):Int)=115 from rfl] at n5
      rw [show ((112:Nat):Int)=112 from rfl] at n6;rw [show ((104:Nat):Int)=104 from rfl] at n7;rw [show ((46:Nat):Int)=46 from rfl] at n8;rw [show ((37:Nat):Int)=37 from rfl] at n9;rw [show ((98:Nat):Int)=98 from rfl] at n0;rw [ak M gJ.eq_1];simp (maxSteps:=3000000) (maxDischargeDepth:=6) +contextual -implicitDefEqProofs only [amC M,↓amD,Nat.reduceBEq,Nat.reduceAdd,env,aj,jE,amG,AV.cell,Nat.reduceMul,Nat.reduceLeDiff,hlt,hx,hx2,hw1,hi1,hi2,xh,e37,hq,gk,sk,n1,n2,n3,n4,n5,n6,n7,n8,n9,n0,List.getElem?_cons_succ,List.set_cons_succ,aL,dn]
     |true=>
      rw [if_pos rfl];have hcs:rs[i+1]=97∨rs[i+1]=117∨rs[i+1]=108∨rs[i+1]=100∨rs[i+1]=115∨rs[i+1]=112∨rs[i+1]=104∨rs[i+1]=46∨rs[i+1]=37∨rs[i+1]=98:=by simpa [zM] using hcl
      have ap1:=fun X=>ap X (B2 rs[i+1]) (by unfold B2;(repeat' split)<;>rfl) (by unfold B2;(repeat' split)<;>rfl)
      have ih1:=fun X He=>ih (i+1+1) ⟨true,(rs[i+1]:Int)⟩ (B2 rs[i+1]) X He (by omega) (by omega) (by omega) rfl
      rw [ak M gJ.eq_1];rcases hcs with e | e | e | e | e | e | e | e | e | e
      all_goals
       rw [e] at hx2 ap1 ih1 ⊢;simp only [B2,if_true,Nat.reduceEqDiff,if_false] at ap1 ih1;simp only [List.append_assoc,List.cons_append] at ih1;simp (maxSteps:=3000000) (maxDischargeDepth:=6) +contextual -implicitDefEqProofs only [amC M,↓amD,Nat.reduceBEq,Nat.reduceAdd,env,aj,jE,amG,AV.cell,Nat.reduceMul,Nat.reduceLeDiff,hlt,hx,hx2,hw1,hw2,hi1,hi2,xh,e37,hq,gk,sk,ap1,ih1,List.getElem?_cons_succ,List.set_cons_succ,aL,SR,Int.reduceBEq,(show AV.nilfn.strip = .nilfn from rfl)]
   ·rw [if_neg h37]
    have e37:(((rs[i]:Nat):Int) == 37)=false:=by simp only [beq_eq_false_iff_ne];intro e;exact h37 (by exact_mod_cast e)
    have ap1:=fun X=>ap X (.fn (.func fA) [] [.ptr G.length 0]) rfl rfl
    have ih1:=fun He=>ih (i+1) ⟨false,(rs[i]:Int)⟩ (.fn (.func fA) [] [.ptr G.length 0]) [.cells [.int .i32 (rs[i]:Int)] B9] He (by omega) (by omega) (by omega) ⟨L.length,B9,by rw [hL],by simp⟩
    rw [ak M gJ.eq_1];simp only [List.append_assoc,List.cons_append] at ih1;simp (maxSteps:=3000000) (maxDischargeDepth:=6) +contextual -implicitDefEqProofs only [amC M,↓amD,Nat.reduceBEq,Nat.reduceAdd,env,aj,jE,amG,AV.cell,Nat.reduceMul,Nat.reduceLeDiff,hlt,hx,hw1,hi1,xh,e37,ap1,ih1,aL]
theorem Mw(hB:gA E)(hX:vO M)(hU:fT E){s:Str}(hs:s.length≤1000000)(H:List AObj):M.run rN [.str s] H=some (.ret (sel (sG s) (D1 (yK (cE s))) (D1 none)),H):=by
 rw [br M hU.docs_items rfl (c:=uY) rfl,uY];have hT:=fun H=>DS M hB hX (s:=s) (by simp only [aX];omega) H
 have hrl:=jQ s;have hh:=fun (o:List AV) (xs:List Fit) (L:List AObj) (h:J1 H.length L xs o)=>kx (cut_app H (.tok (o.length*1) cR::L)) ⟨5,Qk h⟩
 have h1:=fun k hk He=>itl M (H0:=H) (rs:=cE s) (by omega) (k:=k) hk ((cE s).length+1) 0 [] [] [] He (by omega) (by omega) (by simp) (Om _ _)
 simp only [kv_cons,kv_nil,Int.ofNat_zero,List.drop_zero,List.length_nil,Nat.zero_mul,List.map_nil] at h1;have h2:=zJ (s:=s) (by omega);cases ht:sG s with
 |false=>simp (maxSteps:=3000000) (maxDischargeDepth:=6) +contextual -implicitDefEqProofs only [amC M,↓amD,Nat.reduceBEq,Nat.reduceAdd,env,aj,jE,hT,ht,Mv,D1]
 |true=>
 rw [sel_true,yK];simp (maxSteps:=3000000) (maxDischargeDepth:=6) +contextual -implicitDefEqProofs only [amC M,↓amD,Nat.reduceBEq,Nat.reduceAdd,env,aj,jE,hT,ht,h2];refine h1 _ (fun o xs L hI => ?_) _;have hh1:=hh o xs L hI;simp only [hp_take] at hh1;simp (maxSteps:=3000000) (maxDischargeDepth:=6) +contextual -implicitDefEqProofs only [amC M,↓amD,Nat.reduceBEq,Nat.reduceAdd,env,aj,jE,hh1];rfl
end
section
attribute [local congr] aI bR aZ aJ aY aR aK aC aD aS aT
variable{E:bG}(M:cJ cM E)
def dY(x:Fit):List AV:=[yL x]
theorem On(x:Fit):(yL x).cell=true:=by
 unfold yL;cases x.cls with
 |false=>rfl
 |true=>
  dsimp only;unfold B2
  repeat' split
  all_goals rfl
theorem Mx:(∀ x:Fit,pg 1 (dY x)=some (dY x))∧(∀ x:Fit,bn none (dY x) 0=some (yL x))∧(∀ x:Fit,(dY x).length=1)∧(∀ x:Fit,(dY x).all AV.cell=true)∧(∀ (x:Fit) (c:AV),bf [c] 0 (dY x)=dY x):=
 ⟨fun _=>rfl,fun _=>rfl,fun _=>rfl,fun x=>by simp [dY,On],fun _ _=>rfl⟩
theorem Ql(hU:fT E)(r:Int)(u:Un)(H:List AObj):M.run fA [.agg u.row,.vptr 1 [[.int .i32 r]] 0 0] H=some (.ret (.bool (!u.hole&&(u.r == r))),H):=by
 rw [br M hU.docs_items_1 rfl (c:=sy) rfl,sy];cases hh:u.hole<;>simp (maxSteps:=3000000) (maxDischargeDepth:=6) +contextual -implicitDefEqProofs only [amC M,↓amD,Nat.reduceBEq,Nat.reduceAdd,env,aj,Dq,amG,AV.cell,Nat.reduceMul,Nat.reduceLeDiff,qUn,aL,hh,List.getElem?_cons_zero,rowO_some,(show ∀ v:AV,bn none [v] 0=some v from fun _=>rfl),cut_app,hp_take]
theorem Qm(hU:fT E)(u:Un)(H:List AObj):M.run mo [.agg u.row] H=some (.ret (.bool (!u.hole&&decide (65≤u.r)&&decide (u.r≤90))),H):=by
 rw [br M hU.docs_items_2 rfl (c:=sA) rfl,sA];cases hh:u.hole<;>simp (maxSteps:=3000000) (maxDischargeDepth:=6) +contextual -implicitDefEqProofs only [amC M,↓amD,Nat.reduceBEq,Nat.reduceAdd,env,aj,Dr,amG,AV.cell,Nat.reduceMul,Nat.reduceLeDiff,qUn,aL,hh,cut_app,hp_take]
theorem Qo(hU:fT E)(u:Un)(H:List AObj):M.run mq [.agg u.row] H=some (.ret (.bool (!u.hole&&decide (97≤u.r)&&decide (u.r≤122))),H):=by
 rw [br M hU.docs_items_3 rfl (c:=sB) rfl,sB];cases hh:u.hole<;>simp (maxSteps:=3000000) (maxDischargeDepth:=6) +contextual -implicitDefEqProofs only [amC M,↓amD,Nat.reduceBEq,Nat.reduceAdd,env,aj,Ds,amG,AV.cell,Nat.reduceMul,Nat.reduceLeDiff,qUn,aL,hh,cut_app,hp_take]
theorem Qp(hU:fT E)(u:Un)(H:List AObj):M.run mr [.agg u.row] H=some (.ret (.bool u.hole),H):=by
 rw [br M hU.docs_items_4 rfl (c:=sC) rfl,sC];simp (maxSteps:=3000000) (maxDischargeDepth:=6) +contextual -implicitDefEqProofs only [amC M,↓amD,Nat.reduceBEq,Nat.reduceAdd,env,aj,Dt,amG,AV.cell,Nat.reduceMul,Nat.reduceLeDiff,qUn,aL,cut_app,hp_take]
theorem Qq(hU:fT E)(u:Un)(H:List AObj):M.run mw [.agg u.row] H=some (.ret (.bool true),H):=by
 rw [br M hU.docs_items_5 rfl (c:=sD) rfl,sD];simp (maxSteps:=3000000) (maxDischargeDepth:=6) +contextual -implicitDefEqProofs only [amC M,↓amD,Nat.reduceBEq,Nat.reduceAdd,env,aj,Du,amG,AV.cell,Nat.reduceMul,Nat.reduceLeDiff,qUn,aL,cut_app,hp_take]
theorem Qr(hU:fT E)(u:Un)(H:List AObj):M.run my [.agg u.row] H=some (.ret (.bool (!u.hole&&(u.r == 37))),H):=by
 rw [br M hU.docs_items_6 rfl (c:=sE) rfl,sE];cases hh:u.hole<;>simp (maxSteps:=3000000) (maxDischargeDepth:=6) +contextual -implicitDefEqProofs only [amC M,↓amD,Nat.reduceBEq,Nat.reduceAdd,env,aj,Dv,amG,AV.cell,Nat.reduceMul,Nat.reduceLeDiff,qUn,aL,hh,cut_app,hp_take]
theorem qfn:(req .fn .nilfn .nilfn=some true)∧(∀ f a b,req .fn (.fn f a b) .nilfn=some false)∧(∀ f a b,req .fn .nilfn (.fn f a b)=some false):=⟨rfl,fun _ _ _=>rfl,fun _ _ _=>rfl⟩
def Bp(x:Fit):Prop:=x.cls=true→∃ c:Nat,zM c=true∧x.r=(c:Int)
theorem IB{x:Fit}(h:um x=true):yL x = .nilfn:=by
 simp only [um,Bool.and_eq_true,beq_iff_eq] at h;unfold yL;rw [h.1,h.2];rfl
theorem IC(hU:fT E){x:Fit}(hx:Bp x)(h:um x=false):∃ f cap,yL x = .fn (.func f) [] cap∧∀ (u:Un) (H:List AObj),M.run f (.agg u.row::cap) H=some (.ret (.bool (Iw x u)),H):=by
 cases hc:x.cls with
 |false=>
  refine ⟨fA,[.vptr 1 [[.int .i32 x.r]] 0 0],by unfold yL;rw [hc],fun u H => ?_⟩;rw [Ql M hU x.r u H,Iw,hc,sel_false]
 |true=>
  obtain ⟨c,h1,h2⟩:=hx hc;have hcs:c=97∨c=117∨c=108∨c=100∨c=115∨c=112∨c=104∨c=46∨c=37∨c=98:=by simpa [zM] using h1
  unfold yL Iw;rw [hc,h2];rcases hcs with rfl | rfl | rfl | rfl | rfl | rfl | rfl | rfl | rfl | rfl
  ·exact ⟨_,[],rfl,fun u H=>xn M hU u H⟩
  ·exact ⟨_,[],rfl,fun u H=>Qm M hU u H⟩
  ·exact ⟨_,[],rfl,fun u H=>Qo M hU u H⟩
  ·exact ⟨_,[],rfl,fun u H=>yH M hU u H⟩
  ·exact ⟨_,[],rfl,fun u H=>DW M hU u H⟩
  ·exact ⟨_,[],rfl,fun u H=>Mm M hU u H⟩
  ·exact ⟨_,[],rfl,fun u H=>Qp M hU u H⟩
  ·exact ⟨_,[],rfl,fun u H=>Qq M hU u H⟩
  ·exact ⟨_,[],rfl,fun u H=>Qr M hU u H⟩
  ·simp [um,hc,h2] at h
theorem Qs:∀ (n:Nat) (o:List Fit) (l:List Nat) (x:List Fit),(∀ y∈o,Bp y)→yJ n o l=some x→∀ y∈x,Bp y:=by
 intro n;induction n with
 |zero=>intro o l x _ h;cases h
 |succ n IH=>
  intro o l x ho h;rw [yJ.eq_def] at h;cases l with
  |nil=>cases h;exact ho
  |cons r t=>
   dsimp only at h;split at h
   ·cases t with
    |nil=>cases h
    |cons c t=>
     dsimp only at h;split at h
     ·rename_i hcl
      refine IH _ _ _ (fun y hy => ?_) h;rcases List.mem_append.1 hy with hy | hy
      ·exact ho y hy
      ·rw [List.mem_singleton] at hy;subst hy;exact fun _=>⟨c,hcl,rfl⟩
     ·cases h
   ·refine IH _ _ _ (fun y hy => ?_) h
    rcases List.mem_append.1 hy with hy | hy
    ·exact ho y hy
    ·rw [List.mem_singleton] at hy;subst hy;exact fun e=>by cases e
theorem KM(s:Str):∀ y∈jb s,Bp y:=by
 unfold jb yK;cases h:yJ ((cE s).length+1) [] (cE s) with
 |none=>intro y hy;cases hy
 |some x=>exact Qs _ _ _ _ (fun y hy=>by cases hy) h
theorem dbh{H H0:List AObj}(hU:fT E){l:List Un}{xs:List Fit}{t tx:Tag}(hl:l.length≤aX)(hx0:xs.length≤aX)(hxo:∀ x∈xs,Bp x)(ht:∀ n,Wk n (.slice t 2 (l.map Un.row)) (.slice t 2 (l.map Un.row)))(htx:∀ n,Wk n (.slice tx 1 (xs.map dY)) (.slice tx 1 (xs.map dY)))(hc:b5 H0 H)(k:List Fra):∀ (n i:Nat) (a:Nat) (ha:a≤l.length),i+n=xs.length →
  M.go lq H0 (.c iB :: .lp ⟨(some [1,2,9,10,11]),[],true⟩ iB H :: .blk 0 :: .c (.lv [])::k) (kv [(1,.slice t 2 (l.map Un.row)),(2,.int .i64 a),(9,.slice tx 1 (xs.map dY)),(10,.int .i64 xs.length),(11,.int .i64 i)]) H =
   sel (nP l (xs.drop i) a) (M.go lq H0 k .leaf H) (some (.ret (.bool false),H.take H0.length))
 |0,i,a,ha,h=>by
  have e:i=xs.length:=by omega
  subst e;rw [ak M iB.eq_1];simp (maxSteps:=3000000) (maxDischargeDepth:=6) +contextual -implicitDefEqProofs only [amC M,↓amD,Nat.reduceBEq,Nat.reduceAdd,env,aj,od,Nat.lt_irrefl,List.drop_length,nP]
 |n+1,i,a,ha,h=>by
  have hi:i<xs.length:=by omega
  have hx:xs[i]?=some xs[i]:=List.getElem?_eq_getElem hi;have hd:(xs.drop i)=xs[i]::xs.drop (i+1):=List.drop_eq_getElem_cons hi;have hm:xs[i]∈xs:=List.getElem_mem hi;have ih:=fun a ha=>dbh (H:=H) (H0:=H0) (hU:=hU) (l:=l) (xs:=xs) (t:=t) (tx:=tx) (hl:=hl) (hx0:=hx0) (hxo:=hxo) (ht:=ht) (htx:=htx) hc k n (i+1) a ha (by omega)
  simp only [kv_cons,kv_nil] at ih;have hwi:=bt (n:=xs.length) hi hx0;have hir:=aA (row:=dY) (tag:=tx) (sz:=1) (k:=.i64) hi;have hedge:=fun H=>FL M hU (t:=t) hl ha H
  have hce:=fun L=>ue hc L
  have hte:=fun L=>Ar hc L
  have ht1:=ht H.length;have ht2:=htx H.length;cases hb:um xs[i] with
  |true=>
   have hq:=IB hb;rw [ak M iB.eq_1];simp (maxSteps:=3000000) (maxDischargeDepth:=6) +contextual -implicitDefEqProofs only [amC M,↓amD,Nat.reduceBEq,Nat.reduceAdd,env,aj,od,amG,AV.cell,Nat.reduceMul,Nat.reduceLeDiff,hi,ih a ha,hx,hd,nP,hb,hc,hwi,hir,Mx,qfn,Option.map_some,hq,hedge,aL,ht1,ht2,hce,hte,cut_app,hp_take]
  |false=>
   obtain ⟨f,cap,hq,hf⟩:=IC M hU (hxo _ hm) hb
   by_cases hlt:a<l.length
   ·have hla:l[a]?=some l[a]:=List.getElem?_eq_getElem hlt
    have hge:(a == l.length)=false:=by simp;omega
    have hwa:=bt (n:=l.length) hlt hl;have hia:=aA (row:=Un.row) (tag:=t) (sz:=2) (k:=.i64) hlt;rw [ak M iB.eq_1];simp (maxSteps:=3000000) (maxDischargeDepth:=6) +contextual -implicitDefEqProofs only [amC M,↓amD,Nat.reduceBEq,Nat.reduceAdd,env,aj,od,amG,AV.cell,Nat.reduceMul,Nat.reduceLeDiff,hi,ih (a+1) hlt,hx,hd,nP,hb,hc,hwi,hir,Mx,qfn,Option.map_some,hq,hf,hla,hge,hwa,hia,qUn,aL,ht1,ht2,hce,hte,cut_app,hp_take]
   ·have hla:l[a]?=none:=List.getElem?_eq_none (by omega)
    have hge:(a == l.length)=true:=by simp;omega
    rw [ak M iB.eq_1];simp (maxSteps:=3000000) (maxDischargeDepth:=6) +contextual -implicitDefEqProofs only [amC M,↓amD,Nat.reduceBEq,Nat.reduceAdd,env,aj,od,amG,AV.cell,Nat.reduceMul,Nat.reduceLeDiff,hi,hx,hd,nP,hb,hc,hwi,hir,Mx,qfn,Option.map_some,hq,hf,hla,hge,qUn,aL,ht1,ht2,hce,hte,cut_app,hp_take]
theorem ID(hU:fT E){l:List Un}{xs:List Fit}{t tx:Tag}(hl:l.length≤aX)(hx0:xs.length≤aX)(hxo:∀ x∈xs,Bp x)(ht:∀ n,Wk n (.slice t 2 (l.map Un.row)) (.slice t 2 (l.map Un.row)))(htx:∀ n,Wk n (.slice tx 1 (xs.map dY)) (.slice tx 1 (xs.map dY))){a:Nat}(ha:a≤l.length)(H:List AObj) :
  M.run tu [.slice tx 1 (xs.map dY),.slice t 2 (l.map Un.row),.int .i64 a] H=some (.ret (.bool (nP l xs a)),H):=by
 rw [br M hU.docs_behind rfl (c:=tE) rfl,tE];have h1:=fun k=>dbh M hU (t:=t) (tx:=tx) hl hx0 hxo ht htx (cut_refl H) k xs.length 0 a ha (by omega)
 simp only [kv_cons,kv_nil,Int.ofNat_zero,List.drop_zero] at h1;simp (maxSteps:=3000000) (maxDischargeDepth:=6) +contextual -implicitDefEqProofs only [amC M,↓amD,Nat.reduceBEq,Nat.reduceAdd,env,aj,od,h1,List.length_map]
def xS(l:List Un):List Fit→Nat→Bool
 |[],_=>true
 |x::xs,a=>sel (um x) (sI l a&&xS l xs a) (match a with
  |0=>false
  |a+1=>(match l[a]? with
   |some u=>Iw x u&&xS l xs a
   |none=>false))
theorem dah(hU:fT E){l:List Un}{xs:List Fit}{t tx:Tag}(hl:l.length≤aX)(hx0:xs.length≤aX)(hxo:∀ x∈xs,Bp x){H H0:List AObj}(hc:b5 H0 H)(k:List Fra):∀ (n a:Nat) (He:List AObj),n≤xs.length→a≤l.length →
  M.go nv H0 (.c iY :: .lp ⟨(some [0,1,2,7]),[],false⟩ iY He :: .blk 0 :: .c (.lv [])::k) (kv [(0,.slice tx 1 (xs.map dY)),(1,.slice t 2 (l.map Un.row)),(2,.int .i64 a),(7,.int .i64 ((n:Int)-1))]) H =
   sel (xS l (xs.take n).reverse a) (M.go nv H0 k .leaf H) (some (.ret (.bool false),H.take H0.length))
 |0,a,He,hn,ha=>by
  have h0:decide ((0:Int)≤((0:Nat):Int)-1)=false:=rfl;rw [ak M iY.eq_1];simp (maxSteps:=3000000) (maxDischargeDepth:=6) +contextual -implicitDefEqProofs only [amC M,↓amD,Nat.reduceBEq,Nat.reduceAdd,env,aj,pK,h0,List.take_zero,List.reverse_nil,xS]
 |n+1,a,He,hn,ha=>by
  have hi:n<xs.length:=by omega
  have hm:xs[n]∈xs:=List.getElem_mem hi;have hx:xs[n]?=some xs[n]:=List.getElem?_eq_getElem hi;have hx0':xs.length≤9223372036854775807:=Nat.le_trans hx0 (by decide);have hl':l.length≤9223372036854775807:=Nat.le_trans hl (by decide);have hd:(xs.take (n+1)).reverse=xs[n]::(xs.take n).reverse:=by rw [List.take_add_one,hx];simp
  have e1:((n+1:Nat):Int)-1=(n:Int):=by omega
  have h0:decide ((0:Int)≤(n:Int))=true:=decide_eq_true (by omega);have hw1:IntKind.i64.wrap ((n:Int)-1)=(n:Int)-1:=bK (by omega) (by omega);have hir:=aA (row:=dY) (tag:=tx) (sz:=1) (k:=.i64) hi;have hedge:=fun H=>FL M hU (t:=t) hl ha H
  have ih:=fun a ha He=>dah hU (t:=t) (tx:=tx) hl hx0 hxo hc k n a He (by omega) ha
  simp only [kv_cons,kv_nil] at ih;rw [e1,hd];cases hb:um xs[n] with
  |true=>
   have hq:=IB hb;rw [ak M iY.eq_1];simp (maxSteps:=3000000) (maxDischargeDepth:=6) +contextual -implicitDefEqProofs only [amC M,↓amD,Nat.reduceBEq,Nat.reduceAdd,env,aj,pK,amG,AV.cell,Nat.reduceMul,Nat.reduceLeDiff,h0,ih a ha,hx,xS,hb,hc,hw1,hir,Mx,qfn,Option.map_some,hq,hedge]
  |false=>
   obtain ⟨f,cap,hq,hf⟩:=IC M hU (hxo _ hm) hb;cases a with
   |zero=>
    have hge:(((0:Nat):Int) == 0)=true:=rfl;rw [ak M iY.eq_1];simp (maxSteps:=3000000) (maxDischargeDepth:=6) +contextual -implicitDefEqProofs only [amC M,↓amD,Nat.reduceBEq,Nat.reduceAdd,env,aj,pK,amG,AV.cell,Nat.reduceMul,Nat.reduceLeDiff,h0,hx,xS,hb,hc,hw1,hir,Mx,qfn,Option.map_some,hq,hge]
   |succ a=>
    have hlt:a<l.length:=by omega
    have hla:l[a]?=some l[a]:=List.getElem?_eq_getElem hlt;have hge:(((a+1:Nat):Int) == 0)=false:=by simp;omega
    have e2:((a+1:Nat):Int)-1=(a:Int):=by omega
    have hwa:IntKind.i64.wrap (((a+1:Nat):Int)-1)=(a:Int):=by rw [e2];exact bK (by omega) (by omega)
    have hia:=aA (row:=Un.row) (tag:=t) (sz:=2) (k:=.i64) hlt;rw [ak M iY.eq_1];simp (maxSteps:=3000000) (maxDischargeDepth:=6) +contextual -implicitDefEqProofs only [amC M,↓amD,Nat.reduceBEq,Nat.reduceAdd,env,aj,pK,amG,AV.cell,Nat.reduceMul,Nat.reduceLeDiff,h0,ih a (by omega),hx,xS,hb,hc,hw1,hir,Mx,qfn,Option.map_some,hq,hf,hla,hge,hwa,hia,qUn]
theorem J2(hU:fT E){l:List Un}{xs:List Fit}{t tx:Tag}(hl:l.length≤aX)(hx0:xs.length≤aX)(hxo:∀ x∈xs,Bp x){a:Nat}(ha:a≤l.length)(H:List AObj) :
  M.run uP [.slice tx 1 (xs.map dY),.slice t 2 (l.map Un.row),.int .i64 a] H=some (.ret (.bool (xS l xs.reverse a)),H):=by
 rw [br M hU.docs_ahead rfl (c:=u5) rfl,u5];have hx0':xs.length≤9223372036854775807:=Nat.le_trans hx0 (by decide);have h1:=fun k He=>dah M hU (t:=t) (tx:=tx) hl hx0 hxo (cut_refl H) k xs.length a He (Nat.le_refl _) ha
 have hw1:IntKind.i64.wrap ((xs.length:Int)-1)=(xs.length:Int)-1:=bK (by omega) (by omega);simp only [kv_cons,kv_nil,List.take_length] at h1;simp (maxSteps:=3000000) (maxDischargeDepth:=6) +contextual -implicitDefEqProofs only [amC M,↓amD,Nat.reduceBEq,Nat.reduceAdd,env,aj,pK,h1,hw1,List.length_map]
theorem D2(l:List Un):∀ (xs ys:List Fit) (a:Nat),nP l (xs++ys) a=(nP l xs a&&nP l ys (a+jo xs))
 |[],ys,a=>by simp [nP,jo]
 |x::xs,ys,a=>by
  rw [List.cons_append,nP,nP,jo];cases hb:um x with
  |true=>simp only [sel_true,D2 l xs ys a,Bool.and_assoc,if_true,Nat.zero_add]
  |false=>
   simp only [sel_false,Bool.false_eq_true,if_false];cases l[a]? with
   |none=>simp
   |some u=>
    dsimp only;rw [D2 l xs ys (a+1),Bool.and_assoc,show a+1+jo xs=a+(1+jo xs) by omega]
theorem IE:∀ (xs ys:List Fit),jo (xs++ys)=jo xs+jo ys
 |[],ys=>by simp [jo]
 |x::xs,ys=>by rw [List.cons_append,jo,jo,IE xs ys];omega
theorem My(l:List Un)(x:Fit)(xs:List Fit)(a:Nat):xS l (x::xs) a=sel (um x) (sI l a&&xS l xs a) (match a with
  |0=>false
  |a+1=>(match l[a]? with
   |some u=>Iw x u&&xS l xs a
   |none=>false)):=by rw [xS.eq_def]
theorem Cb(l:List Un):∀ (rs:List Fit) (a:Nat),xS l rs a=(decide (jo rs.reverse≤a)&&nP l rs.reverse (a-jo rs.reverse))
 |[],a=>by simp [xS,nP,jo]
 |x::rs,a=>by
  rw [My,List.reverse_cons,D2,IE];cases hb:um x with
  |true=>
   have w:jo [x]=0:=by simp [jo,hb]
   rw [w,Nat.add_zero,sel_true,Cb l rs a]
   by_cases h:jo rs.reverse≤a
   ·rw [show a-jo rs.reverse+jo rs.reverse=a by omega,nP,hb,sel_true]
    simp [h,nP,Bool.and_comm]
   ·simp [h]
  |false=>
   have w:jo [x]=1:=by simp [jo,hb]
   rw [w,sel_false];cases a with
   |zero=>simp
   |succ a=>
    dsimp only
    by_cases h:jo rs.reverse≤a
    ·rw [show a+1-(jo rs.reverse+1)=a-jo rs.reverse by omega,show a-jo rs.reverse+jo rs.reverse=a by omega,Cb l rs a,nP,hb,sel_false]
     simp only [nP];cases l[a]? with
     |none=>simp
     |some u=>simp [h,Bool.and_comm]
    ·have h2:¬ jo rs.reverse+1≤a+1:=by omega
     rw [Cb l rs a];cases l[a]? <;> simp [h,h2]
def fq(r:Brk):List AV:=[.slice .any 1 ((jb r.bef).map dY),.slice .any 1 ((jb r.aft).map dY),.bool r.brk]
theorem R8(n:Nat)(x:Fit):Wk n (yL x) (yL x):=by
 unfold yL;cases x.cls with
 |false=>exact wk_fn trivial ⟨wk_vptr fun r hr=>(by rw [List.mem_singleton] at hr;subst hr;exact ⟨wk_int _ _ _,trivial⟩),trivial⟩
 |true=>
  dsimp only;unfold B2
  repeat' split
  all_goals first | exact wk_nilfn n | exact wk_fn trivial trivial
theorem GQ(n:Nat)(l:List Fit):ik n (l.map dY):=by
 rw [rowsWk_map];exact fun x _=>⟨R8 n x,trivial⟩
theorem D3(n:Nat)(l:List Brk):ik n (l.map fq):=by
 rw [rowsWk_map];exact fun x _=>⟨wk_slice trivial (GQ n _),wk_slice trivial (GQ n _),wk_bool _ _,trivial⟩
theorem Qt:(∀ x:Brk,pg 3 (fq x)=some (fq x))∧(∀ x:Brk,bn none (fq x) 0=some (.slice .any 1 ((jb x.bef).map dY)))∧(∀ x:Brk,bn none (fq x) 1=some (.slice .any 1 ((jb x.aft).map dY)))∧(∀ x:Brk,bn none (fq x) 2=some (.bool x.brk))∧(∀ x:Brk,(fq x).length=3)∧(∀ x:Brk,(fq x).all AV.cell=true)∧(∀ (x:Brk) (c0 c1 c2:AV),bf [c0,c1,c2] 0 (fq x)=fq x):=
 ⟨fun _=>rfl,fun _=>rfl,fun _=>rfl,fun _=>rfl,fun _=>rfl,fun _=>rfl,fun _ _ _ _=>rfl⟩
theorem Mz(u:List Un)(a:Nat)(r:Brk):(xS u (jb r.bef).reverse a&&nP u (jb r.aft) a)=zN u a r:=by
 rw [Cb,List.reverse_reverse];rfl
theorem GR(hU:fT E){u:List Un}{t:Tag}(hl:u.length≤aX)(r:Brk)(hr1:r.bef.length≤1000000)(hr2:r.aft.length≤1000000)(ht:∀ n,Wk n (.slice t 2 (u.map Un.row)) (.slice t 2 (u.map Un.row))){a:Nat}(ha:a≤u.length)(H:List AObj) :
  M.run qe [.agg (fq r),.slice t 2 (u.map Un.row),.int .i64 a] H=some (.ret (.bool (zN u a r)),H):=by
 rw [br M hU.docs_rule_fits rfl (c:=qm) rfl,qm];have l1:=xp r.bef;have l2:=xp r.aft;have h1:=fun H=>J2 M hU (t:=t) (tx:=.any) hl (by simp only [aX];omega) (KM r.bef) ha H
 have h2:=fun H=>ID M hU (t:=t) (tx:=.any) hl (by simp only [aX];omega) (KM r.aft) ht (fun n=>wk_slice trivial (GQ n _)) ha H
 rw [← Mz];cases hb:xS u (jb r.bef).reverse a<;>simp (maxSteps:=3000000) (maxDischargeDepth:=6) +contextual -implicitDefEqProofs only [amC M,↓amD,Nat.reduceBEq,Nat.reduceAdd,env,aj,Av,amG,AV.cell,Nat.reduceMul,Nat.reduceLeDiff,Qt,aL,h1,h2,hb,cut_app,hp_take]
theorem J3(hB:gA E)(hX:vO M)(hU:fT E){s:Str}(hs:s.length≤1000000)(H:List AObj):M.run rN [.str s] H=some (.ret (sel ((yK (cE s)).isSome&&sG s) (.tuple [.slice .any 1 ((jb s).map dY),.bool true]) (.tuple [.slice .nil 1 [],.bool false])),H):=by
 rw [Mw M hB hX hU hs H,jb];cases sG s<;>cases yK (cE s)<;>rfl
theorem IF(hB:gA E)(hX:vO M)(hU:fT E){H H0:List AObj}(hc:b5 H0 H){v4 v6 v15 v16 v17:AV}{q j:Nat}{cs:List AV}{a b s:Str}{T:TypeId}{tg:Tag}(hq:H[q]?=some (.cells cs T))(hcs:cs.length=2)(hcl:∀ c∈cs,c.cell=true)(hj:j<2)(hx:([a,b]:List Str)[j]?=some s)(hs:s.length≤1000000)(k:List Fra)(He:List AObj) :
  M.go eA H0 (.c dU :: .lp ⟨(some [4,6,7,15,16,17,25,26,27]),[],false⟩ dU He :: .blk 2 :: .c (.lv [4,6,7,15,16,17])::k) (kv [(4,v4),(6,v6),(7,.ptr q 0),(15,v15),(16,v16),(17,v17),(25,.slice tg 1 [[.str a],[.str b]]),(26,.int .i64 2),(27,.int .i64 (j:Int))]) H =
   sel (sJ s == 0) ((fun H He=>M.go eA H0 (.c dU :: .lp ⟨(some [4,6,7,15,16,17,25,26,27]),[],false⟩ dU He :: .blk 2 :: .c (.lv [4,6,7,15,16,17])::k) (kv [(4,v4),(6,v6),(7,.ptr q 0),(15,v15),(16,v16),(17,v17),(25,.slice tg 1 [[.str a],[.str b]]),(26,.int .i64 2),(27,.int .i64 ((j+1:Nat):Int))]) H) (H.set q (.cells (cs.set j (.slice .any 1 ((jb s).map dY))) T)) (H.set q (.cells (cs.set j (.slice .any 1 ((jb s).map dY))) T))) (some (.ret (.tuple [.slice .any 3 [],.int .u8 (sJ s)]),H.take H0.length)):=by
 have hf:=fun H=>J3 M hB hX hU hs H
 have hl:=xp s;have hlt:decide ((j:Int)<2)=true:=decide_eq_true (by omega);have hw:=bt (n:=2) hj (by simp [aX])
 have hia:vv 1 (.slice tg 1 [[.str a],[.str b]]) (.int .i64 (j:Int))=some (.vptr 1 [[.str a],[.str b]] j 0):=by
  have:=aA (row:=jJ) (l:=[a,b]) (tag:=tg) (sz:=1) (k:=.i64) (i:=j) (by simpa using hj);simpa [jJ] using this
 have hld:RE none 0 ([[.str a],[.str b]]:List (List AV))[j]?=some (.str s):=by
  rcases j with _ | _ | j
  ·cases hx;rfl
  ·cases hx;rfl
  ·omega
 have hst:bf cs j [.slice .any 1 ((jb s).map dY)]=cs.set j (.slice .any 1 ((jb s).map dY)):=by rw [setRow_cons,setRow_nil]
 have hso:stO 1 H q j [.slice .any 1 ((jb s).map dY)] (some (.cells cs T))=some (H.set q (.cells (cs.set j (.slice .any 1 ((jb s).map dY))) T)):=by rw [stO_cells (sz:=1) (old:=cs) (off:=j) rfl (by omega) rfl,hst]
 rw [ak M dU.eq_1];cases h1:((yK (cE s)).isSome&&sG s) with
 |false=>
  simp only [h1,sel_false] at hf;simp (maxSteps:=3000000) (maxDischargeDepth:=6) +contextual -implicitDefEqProofs only [amC M,↓amD,Nat.reduceBEq,Nat.reduceAdd,env,aj,eS,amG,AV.cell,Nat.reduceMul,Nat.reduceLeDiff,hlt,hia,hld,hf,h1,hc,sJ,dK,wk_tuple]
  try rfl
 |true=>
  simp only [h1,sel_true] at hf;cases h3:decide ((32:Int)<((jb s).length:Int)) with
  |true=>
   simp (maxSteps:=3000000) (maxDischargeDepth:=6) +contextual -implicitDefEqProofs only [amC M,↓amD,Nat.reduceBEq,Nat.reduceAdd,env,aj,eS,amG,AV.cell,Nat.reduceMul,Nat.reduceLeDiff,hlt,hia,hld,hf,List.length_map,h1,h3,hc,sJ,dK,wk_tuple]
   try rfl
  |false=>
   simp (maxSteps:=3000000) (maxDischargeDepth:=6) +contextual -implicitDefEqProofs only [amC M,↓amD,Nat.reduceBEq,Nat.reduceAdd,env,aj,eS,amG,AV.cell,Nat.reduceMul,Nat.reduceLeDiff,hlt,hia,hld,hf,hw,List.length_map,h1,h3,hc,sJ,DZ hj,hq,hso,(show ((0:Int) == 0)=true from rfl)]
theorem Qu{H H0:List AObj}{v4 v6 v7 v15 v16 v17 v25:AV}(k:List Fra)(He:List AObj) :
  M.go eA H0 (.c dU :: .lp ⟨(some [4,6,7,15,16,17,25,26,27]),[],false⟩ dU He :: .blk 2 :: .c (.lv [4,6,7,15,16,17])::k) (kv [(4,v4),(6,v6),(7,v7),(15,v15),(16,v16),(17,v17),(25,v25),(26,.int .i64 2),(27,.int .i64 2)]) H=M.go eA H0 k (kv [(4,v4),(6,v6),(7,v7),(15,v15),(16,v16),(17,v17)]) H:=by
 rw [ak M dU.eq_1];simp (maxSteps:=3000000) (maxDischargeDepth:=6) +contextual -implicitDefEqProofs only [amC M,↓amD,Nat.reduceBEq,Nat.reduceAdd,env,aj,eS,(show decide ((2:Int)<2)=false from rfl)]
def Oo(l:List Brk):AV:=sel (kh l == 0) (.tuple [.slice .any 3 (l.map fq),.int .u8 0]) (.tuple [.slice .any 3 [],.int .u8 (kh l)])
theorem dco(hB:gA E)(hX:vO M)(hU:fT E){l:Sl Brk}{m0:Nat}(hl:l.ok m0 (Brk.ok m0))(hr0:l.l.length≤1000)(hr:∀ r∈l.l,r.bef.length≤1000000∧r.aft.length≤1000000){H0:List AObj}(hm0:m0≤H0.length)(k:List Fra) :
  ∀ (n i:Nat) (o:List Brk),i+n=l.l.length→o.length≤i →
  M.go eA H0 (.c jB :: .lp ⟨(some [4,15,16,17]),[(4,3,fe)],true⟩ jB (H0++[.tok (o.length*3) fe]) :: .blk 0 :: .c (.lv [4])::k) (kv [(4,.slice (.own H0.length) 3 (o.map fq)),(15,.slice l.tag 3 (l.l.map Brk.row)),(16,.int .i64 l.l.length),(17,.int .i64 i)]) (H0++[.tok (o.length*3) fe]) =
   sel (oD (l.l.drop i) == 0) (M.go eA H0 k (kv [(4,.slice (.own H0.length) 3 ((o++l.l.drop i).map fq))]) (H0++[.tok ((o++l.l.drop i).length*3) fe])) (some (.ret (.tuple [.slice .any 3 [],.int .u8 (oD (l.l.drop i))]),H0))
 |0,i,o,h,ho=>by
  have e:i=l.l.length:=by omega
  subst e;rw [ak M jB.eq_1];simp (maxSteps:=3000000) (maxDischargeDepth:=6) +contextual -implicitDefEqProofs only [amC M,↓amD,Nat.reduceBEq,Nat.reduceAdd,env,aj,eS,Nat.lt_irrefl,List.drop_length,oD,(show ((0:Int) == 0)=true from rfl),List.append_nil]
 |n+1,i,o,h,ho=>by
  have hi:i<l.l.length:=by omega
  have hx:l.l[i]?=some l.l[i]:=List.getElem?_eq_getElem hi;have hd:(l.l.drop i)=l.l[i]::l.l.drop (i+1):=List.drop_eq_getElem_cons hi;have hm1:=hr _ (List.getElem_mem hi);have w1:Wk (H0.length+1) (.slice l.tag 3 (l.l.map Brk.row)) (.slice l.tag 3 (l.l.map Brk.row)):=(hl.mono (by omega) (fun _ h=>h.mono (by omega))).wk (fun _ h=>h.wk);have w2:=fun o:List Brk=>wk_slice (n:=H0.length+1) (esz:=3) (tag:=.own H0.length) (by simp [x9]) (D3 _ o)
  have hwi:=bt (n:=l.l.length) hi (by simp only [aX];omega);have hir:=aA (row:=Brk.row) (tag:=l.tag) (sz:=3) (k:=.i64) hi;have ih:=dco hB hX hU hl hr0 hr (H0:=H0) hm0 k n (i+1) (o++[l.l[i]]) (by omega) (by simp;omega);simp only [kv_cons,kv_nil] at ih;have ap:=fun L=>kR (row:=fq) (l:=o) (x:=l.l[i]) (r:=[.slice .any 1 ((jb l.l[i].bef).map dY),.slice .any 1 ((jb l.l[i].aft).map dY),.bool l.l[i].brk]) (sz:=3) (bytes:=56) (e:=fe) H0 L rfl rfl rfl (by omega) (by omega)
  have g1:∀ L:List AObj,(H0++L)[H0.length+1]?=L[1]? := fun L=>hp_getk H0 L 1
  have g2:∀ L:List AObj,(H0++L)[H0.length+2]?=L[2]? := fun L=>hp_getk H0 L 2
  have k1:∀ (L:List AObj) (x:AObj),(H0++L).set (H0.length+1) x=H0++L.set 1 x:=fun L x=>hp_setk H0 L 1 x
  have k2:∀ (L:List AObj) (x:AObj),(H0++L).set (H0.length+2) x=H0++L.set 2 x:=fun L x=>hp_setk H0 L 2 x
  have s0:=fun v4 v6 v15 v16 v17 (k:List Fra) He=>IF M hB hX hU (H:=H0++[.tok (o.length*3) fe,.cells (Brk.row l.l[i]) jz,.cells [.slice .nil 1 [],.slice .nil 1 []] iP]) (cut_app H0 _) (v4:=v4) (v6:=v6) (v15:=v15) (v16:=v16) (v17:=v17) (q:=H0.length+2) (cs:=[.slice .nil 1 [],.slice .nil 1 []]) (T:=iP) (tg:=.full) (a:=l.l[i].bef) (b:=l.l[i].aft) (s:=l.l[i].bef) (j:=0) (g2 _) rfl (by simp [AV.cell]) (by omega) rfl hm1.1 k He
  have s1:=fun v4 v6 v15 v16 v17 (k:List Fra) He=>IF M hB hX hU (H:=H0++[.tok (o.length*3) fe,.cells (Brk.row l.l[i]) jz,.cells [.slice .any 1 ((jb l.l[i].bef).map dY),.slice .nil 1 []] iP]) (cut_app H0 _) (v4:=v4) (v6:=v6) (v15:=v15) (v16:=v16) (v17:=v17) (q:=H0.length+2) (cs:=[.slice .any 1 ((jb l.l[i].bef).map dY),.slice .nil 1 []]) (T:=iP) (tg:=.full) (a:=l.l[i].bef) (b:=l.l[i].aft) (s:=l.l[i].aft) (j:=1) (g2 _) rfl (by simp [AV.cell]) (by omega) rfl hm1.2 k He
  have s2:=fun v4 v6 v7 v15 v16 v17 v25 (k:List Fra) He=>Qu M (H:=H0++[.tok (o.length*3) fe,.cells (Brk.row l.l[i]) jz,.cells [.slice .any 1 ((jb l.l[i].bef).map dY),.slice .any 1 ((jb l.l[i].aft).map dY)] iP]) (H0:=H0) (v4:=v4) (v6:=v6) (v7:=v7) (v15:=v15) (v16:=v16) (v17:=v17) (v25:=v25) k He
  simp only [kv_cons,kv_nil,Int.ofNat_zero,Nat.zero_add,show ((1:Nat):Int)=1 from rfl,show ((1+1:Nat):Int)=2 from rfl,k2,List.set_cons_succ,List.set_cons_zero] at s0 s1 s2;rw [hd,show o++l.l[i]::l.l.drop (i+1)=o++[l.l[i]]++l.l.drop (i+1) by simp];rw [ak M jB.eq_1];simp (maxSteps:=3000000) (maxDischargeDepth:=6) +contextual -implicitDefEqProofs only [amC M,↓amD,Nat.reduceBEq,Nat.reduceAdd,env,aj,eS,amG,AV.cell,Nat.reduceMul,Nat.reduceLeDiff,hi,hx,ih,oD,w1,w2,hwi,hir,L2,s0,s1,s2,g1,g2,k1,k2,ap,(show ∀ q,Jq 2 1 (.ptr q 0) (.int .i64 0)=some (.ptr q 0) from fun q=>DZ (j:=0) (by omega) _),(show ∀ q,Jq 2 1 (.ptr q 0) (.int .i64 1)=some (.ptr q 1) from fun q=>DZ (j:=1) (by omega) _),List.getElem?_cons_succ,List.set_cons_succ,vk,sH,cut_app,hp_take,(show ((2:Nat):Int)=2 from rfl)]
  cases h1:sJ l.l[i].bef == 0 with
  |false=>
   show _=slc (sJ l.l[i].bef == 0) _ _;rw [h1];rfl
  |true=>
   cases h2:sJ l.l[i].aft == 0 with
   |false=>
    show _=slc (sJ l.l[i].aft == 0) _ _;rw [h2];rfl
   |true=>rfl
theorem GS(hB:gA E)(hX:vO M)(hU:fT E){l:Sl Brk}{m0:Nat}(hl:l.ok m0 (Brk.ok m0))(hr0:l.l.length≤1000)(hr:l.l.length≤64→∀ r∈l.l,r.bef.length≤1000000∧r.aft.length≤1000000)(H:List AObj)(hm0:m0≤H.length:=by exact Nat.zero_le _) :
  M.run og [.slice l.tag 3 (l.l.map Brk.row)] H=some (.ret (Oo l.l),H):=by
 rw [br M hU.docs_compiled rfl (c:=q8) rfl,q8];have h1:=fun (h64:l.l.length≤64) k=>dco M hB hX hU hl hr0 (hr h64) (H0:=H) hm0 k l.l.length 0 [] (by omega) (by simp)
 simp only [kv_cons,kv_nil,Int.ofNat_zero,List.drop_zero,List.nil_append,List.length_nil,Nat.zero_mul,List.map_nil] at h1;cases h:decide ((64:Int)<(l.l.length:Int)) with
 |true=>simp (maxSteps:=3000000) (maxDischargeDepth:=6) +contextual -implicitDefEqProofs only [amC M,↓amD,Nat.reduceBEq,Nat.reduceAdd,env,aj,eS,List.length_map,h,kh,Oo,dK,wk_tuple,cut_refl,hp_self,(show ((3:Int) == 0)=false from rfl)]
 |false=>
  have h1:=h1 (by have:=of_decide_eq_false h;omega);have hc:kh l.l=oD l.l:=by rw [kh,h,sel_false]
  cases h2:oD l.l == 0 with
  |true=>
   simp only [h2,sel_true] at h1;have h3:oD l.l=0:=by simpa using h2
   have hh:=handV_drop (cut_app H [.tok (l.l.length*3) fe]) (wk_tuple (xs:=[.slice (.own H.length) 3 (l.l.map fq),.int .u8 0]) ⟨wk_any (esz:=3) (tag:=.own H.length) (D3 H.length l.l),wk_int _ _ 0,trivial⟩);simp only [anyV_tuple,hp_take] at hh;rw [Oo,hc,h2,sel_true];simp (maxSteps:=3000000) (maxDischargeDepth:=6) +contextual -implicitDefEqProofs only [amC M,↓amD,Nat.reduceBEq,Nat.reduceAdd,env,aj,eS,List.length_map,h,h1,hh]
  |false=>
   simp only [h2,sel_false] at h1;rw [Oo,hc,h2,sel_false];simp (maxSteps:=3000000) (maxDischargeDepth:=6) +contextual -implicitDefEqProofs only [amC M,↓amD,Nat.reduceBEq,Nat.reduceAdd,env,aj,eS,List.length_map,h,h1,hp_self]
end
section
attribute [local congr] aI bR aZ aJ aY aR aK aC aD aS aT
variable{E:bG}(M:cJ cM E)
structure J4 (E:bG):Prop where
 seq:E.seq iS=zr
 sar:E.sar iS=1
theorem Re{α:Type}{row:α→List AV}{l:List α}{x:α}{r:List AV}{sz bytes t:Nat}{e:TypeId}{H:List AObj}(ht:H[t]?=some (.tok (l.length*sz) e))(h1:r.length=sz)(h2:r.all AV.cell=true)(h3:r.map AV.strip=row x)
  (hl:(l.length+1)*bytes≤140737488355328) (hl2:l.length+1≤4611686018427387904) :
  rap false H e sz bytes false (.slice (.own t) sz (l.map row)) (.slice .full sz [r])=some (.slice (.own t) sz ((l++[x]).map row),H.set t (.tok ((l++[x]).length*sz) e)):=by
 simp only [rap,vw,pS,List.length_map,List.length_cons,List.length_nil,Nat.zero_add,or_true,if_true,hl,hl2,om h1 h2,and_true,true_and,ht,List.map_cons,List.map_nil,h3,List.map_append,List.length_append,Nat.add_mul,Nat.one_mul];rw [Nat.add_mul,Nat.one_mul] at hl;rw [if_pos hl]
theorem R9{sz bytes:Nat}{e:TypeId}{r:List AV}(H:List AObj)(h1:r.length=sz)(h2:r.all AV.cell=true)(hb:bytes≤140737488355328) :
  rap false H e sz bytes false (.slice .nil sz []) (.slice .full sz [r])=some (.slice (.own H.length) sz [r.map AV.strip],H++[.tok sz e]):=by
 simp only [rap,vw,pS,List.length_cons,List.length_nil,Nat.zero_add,or_true,if_true,om h1 h2,and_true,true_and,List.map_cons,List.map_nil,Nat.one_mul];rw [if_pos ⟨hb,by omega⟩];rfl
theorem J5(hU:fT E){l:List ag}{t:Tag}(H:List AObj):M.run pn [.slice t 3 (l.map ag.row)] H=some (.ret (.fn (.func iS) [] [.ptr H.length 0]),H++[.cells [.slice t 3 (l.map ag.row)] al]):=by
 rw [br M hU.docs_units rfl (c:=uV) rfl,uV];simp (maxSteps:=3000000) (maxDischargeDepth:=6) +contextual -implicitDefEqProofs only [amC M,↓amD,Nat.reduceBEq,Nat.reduceAdd,env,aj,GG,amG,AV.cell,Nat.reduceMul,Nat.reduceLeDiff]
theorem Bq:∀ l:List ag,ud (l.map ag.row)=some ((unL l).map fun u=>[.agg u.row])
 |[]=>rfl
 |x::l=>by
  rw [List.map_cons,show ag.row x=[.int .u8 x.kind,.str x.text,.bool x.car] from rfl,ud,Bq l];show _=some ((unP x++unL l).map _);rw [List.map_append];dsimp only
  by_cases h5:x.kind=5
  ·rw [if_pos h5,unP,h5];rfl
  ·have e5:(x.kind == 5)=false:=by simpa using h5
   rw [if_neg h5,unP,e5,sel_false]
   by_cases h1:x.kind=1
   ·rw [if_pos h1,h1]
    show _=some (((cE x.text).map unR).map _++_);rw [FJ,List.map_map,List.map_map];rfl
   ·have e1:(x.kind == 1)=false:=by simpa using h1
    rw [if_neg h1,e1];rfl
def uX(b:Nat):List Un→List AObj
 |[]=>[.cells [.slice .nil 2 []] eN]
 |x::l=>.cells [.slice (.own (b+2)) 2 ((x::l).map Un.row)] eN :: .cells x.row bz :: .tok ((x::l).length*2) bz::l.map fun u=>.cells u.row bz
theorem Qv(H:List AObj)(b:Nat)(l:List Un):yj (H++uX b []) (H++uX b l)=true:=HX H (by
 have h:∀ l:List Un,yj [] (l.map fun u=>AObj.cells u.row bz)=true:=fun l=>by
  induction l with
  |nil=>rfl
  |cons x l ih=>simpa [yj,CO] using ih
 cases l with
 |nil=>rfl
 |cons x l=>simpa [uX,yj,CO] using h l)
theorem KN{H:List AObj}{e:Env}(he2:fp e 2 = .ptr H.length 0):∀ (xs st:List Un),st.length+xs.length≤1000000 →
  ku cM M.go (qD aV) [7] [[⟨some 5,none,.op (.nw [.int .i32 0,.bool false] bz)⟩,⟨none,none,.op (.st 2 (.t 5) (.t 7))⟩]] cH e [] (H++uX H.length []) (xs.map fun u=>[.agg u.row]) (H++uX H.length st)=some (none,H++uX H.length (st++xs))
 |[],st,_=>by rw [List.append_nil];rfl
 |x::xs,st,hb=>by
  have q1:(qD aV).dfr=some ([],.c .unk,.bad):=rfl;have q2:(qD aV).mode = .keep:=rfl;have q3:(qD aV).res=[]:=rfl;have ih:=KN he2 xs (st++[x]) (by simp at hb ⊢;omega);rw [List.append_assoc] at ih;rw [List.map_cons];refine NM ?_ (Qv H H.length (st++[x])) (fun _ h=>by cases h) ih;generalize qD aV=rf at q1 q2 q3;cases st with
  |nil=>
   have gk:∀ L:List AObj,(H++L)[H.length+1]?=L[1]? := fun L=>hp_getk H L 1
   have sk:∀ (L:List AObj) (x:AObj),(H++L).set (H.length+1) x=H++L.set 1 x:=fun L x=>hp_setk H L 1 x
   have ap:rap false (H++[.cells [.slice .nil 2 []] eN,.cells x.row bz]) bz 2 8 false (.slice .nil 2 []) (.slice .full 2 [x.row])=some (.slice (.own (H.length+2)) 2 [x.row],H++[.cells [.slice .nil 2 []] eN,.cells x.row bz,.tok 2 bz]):=by
    rw [R9 (sz:=2) (bytes:=8) (r:=x.row) _ rfl rfl (by omega)];simp [Un.row,AV.strip]
   simp only [List.nil_append,uX,x8,List.map_cons,List.map_nil,List.cons_append,kv_cons,kv_nil,cH,List.length_cons,List.length_nil,Nat.zero_add,Nat.one_mul] at ap ⊢;simp (maxSteps:=3000000) (maxDischargeDepth:=6) +contextual -implicitDefEqProofs only [amC M,↓amD,Nat.reduceBEq,Nat.reduceAdd,env,aj,cV,amG,AV.cell,Nat.reduceMul,Nat.reduceLeDiff,q1,q2,q3,he2,ap,qUn,gk,sk,List.getElem?_cons_succ,List.set_cons_succ]
  |cons y st=>
   have hG:H++uX H.length (y::st)=H++(.cells [.slice (.own (H.length+2)) 2 ((y::st).map Un.row)] eN :: .cells y.row bz :: .tok ((y::st).length*2) bz::st.map fun u=>.cells u.row bz):=rfl;obtain ⟨G2,hG2⟩:∃ G2,G2=H++(.cells [.slice (.own (H.length+2)) 2 ((y::st).map Un.row)] eN :: .cells y.row bz :: .tok ((y::st++[x]).length*2) bz::st.map fun u=>.cells u.row bz):=⟨_,rfl⟩
   have gg:∀ X,(H++uX H.length (y::st)++X)[H.length]?=some (.cells [.slice (.own (H.length+2)) 2 ((y::st).map Un.row)] eN):=fun X=>by rw [hG,List.append_assoc,aL];rfl
   have gg2:∀ X,(G2++X)[H.length]?=some (.cells [.slice (.own (H.length+2)) 2 ((y::st).map Un.row)] eN):=fun X=>by rw [hG2,List.append_assoc,aL];rfl
   have ap:∀ X,rap false (H++uX H.length (y::st)++X) bz 2 8 false (.slice (.own (H.length+2)) 2 ((y::st).map Un.row)) (.slice .full 2 [x.row])=some (.slice (.own (H.length+2)) 2 ((y::st++[x]).map Un.row),G2++X):=fun X=>by
    rw [hG2,hG,Re (row:=Un.row) (l:=y::st) (x:=x) (r:=x.row) (sz:=2) (bytes:=8) (by rw [List.append_assoc,hp_getk];rfl) rfl rfl rfl (by simp at hb ⊢;omega) (by simp at hb ⊢;omega),List.append_assoc,List.append_assoc,hp_setk];rfl
   have hs:(G2++[AObj.cells x.row bz]).set H.length (AObj.cells [.slice (.own (H.length+2)) 2 ((y::st++[x]).map Un.row)] eN)=H++uX H.length (y::st++[x]):=by
    rw [hG2,List.append_assoc,hp_set0,List.cons_append,List.set_cons_zero];simp [uX]
   clear hG hG2;simp only [x8,List.map_cons,List.map_nil,List.cons_append,List.nil_append,kv_cons,kv_nil,cH] at gg gg2 ap hs ⊢;generalize H++uX H.length (y::st)=G at *
   generalize H++uX H.length (y::(st++[x]))=G3 at *
   simp (maxSteps:=3000000) (maxDischargeDepth:=6) +contextual -implicitDefEqProofs only [amC M,↓amD,Nat.reduceBEq,Nat.reduceAdd,env,aj,cV,amG,AV.cell,Nat.reduceMul,Nat.reduceLeDiff,q1,q2,q3,he2,ap,gg,gg2,hs,qUn,aL]
theorem IG(n:Nat)(l:List Un):ik n (l.map Un.row):=by
 rw [rowsWk_map];exact fun _ _=>⟨wk_int _ _ _,wk_bool _ _,trivial⟩
theorem E8(hU:fT E)(hN:J4 E){l:List ag}{t:Tag}{H:List AObj}{id:Nat}{T:TypeId}(hl:l.length≤1000000)(hu:(unL l).length≤1000000)(hid:H[id]?=some (.cells [.slice t 3 (l.map ag.row)] T)):M.run ed [.slice .nil 2 [],.fn (.func iS) [] [.ptr id 0]] H=some (.ret (.slice .any 2 ((unL l).map Un.row)),H):=by
 have hs:E.seq iS [.ptr id 0] (H++uX H.length [])=some ((unL l).map fun u=>[.agg u.row],[]):=by
  rw [hN.seq];have h1:(H++uX H.length [])[id]?=some (.cells [.slice t 3 (l.map ag.row)] T):=bD hid;have h2:Nat.ble (l.map ag.row).length 9223372036854775807=true:=by rw [Nat.ble_eq,List.length_map];omega
  simp only [zr,h1,Bq,h2,cond_true]
 rw [br M hU.slices_AppendSeq_docs_unit_docs_unit rfl (c:=eu) rfl,eu]
 have he:=fun (k:List Fra) (e:Env) (H0:List AObj) (he2:fp e 2 = .ptr H.length 0)=>by
  have hrr:=KN M (H:=H) he2 (unL l) [] (by simpa using hu);rw [List.nil_append] at hrr;exact Ry (M:=M) (ps:=[7]) (fn:=aV) (k:=k) (a:=e) (H0:=H0) _ hs hN.sar hrr
 cases hq:unL l with
 |nil=>
  rw [hq] at he;simp only [uX] at he;simp (maxSteps:=3000000) (maxDischargeDepth:=6) +contextual -implicitDefEqProofs only [amC M,↓amD,Nat.reduceBEq,Nat.reduceAdd,env,aj,cV,amG,AV.cell,Nat.reduceMul,Nat.reduceLeDiff,he,rfnC_none,go_rfn,dK,aL,cut_app,hp_take]
 |cons x xs=>
  rw [hq] at he;have hh:=handV_drop (cut_app H (uX H.length (x::xs))) (wk_any (esz:=2) (tag:=.own (H.length+2)) (IG H.length (x::xs)));simp only [uX,List.length_cons,hp_take,anyV_slice] at he hh;simp (maxSteps:=3000000) (maxDischargeDepth:=6) +contextual -implicitDefEqProofs only [amC M,↓amD,Nat.reduceBEq,Nat.reduceAdd,env,aj,cV,amG,AV.cell,Nat.reduceMul,Nat.reduceLeDiff,he,rfnC_none,go_rfn,aL,hh,hp_take]
theorem II(hU:fT E)(hN:J4 E){l:List ag}{t:Tag}{H:List AObj}{id:Nat}{T:TypeId}(hl:l.length≤1000000)(hu:(unL l).length≤1000000)(hid:H[id]?=some (.cells [.slice t 3 (l.map ag.row)] T)):M.run fx [.fn (.func iS) [] [.ptr id 0]] H=some (.ret (.slice .any 2 ((unL l).map Un.row)),H):=by
 rw [br M hU.slices_Collect_docs_unit rfl (c:=iW) rfl,iW];have h1:=E8 M hU hN hl hu hid;have hh:=handV_drop (cut_refl H) (wk_any (esz:=2) (tag:=.any) (IG H.length (unL l)));simp only [anyV_slice,hp_self] at hh;simp (maxSteps:=3000000) (maxDischargeDepth:=6) +contextual -implicitDefEqProofs only [amC M,↓amD,Nat.reduceBEq,Nat.reduceAdd,env,aj,su,h1,hh]
end
section
attribute [local congr] aI bR aZ aJ aY aR aK aC aD aS aT
variable{E:bG}(M:cJ cM E)
theorem dpi(hU:fT E){rs:List Brk}{u:List Un}(hu:u.length≤1000000)(hr0:rs.length≤aX)(hr:∀ r∈rs,r.bef.length≤1000000∧r.aft.length≤1000000){H H0:List AObj}{a:Nat}(ha:a≤u.length){o:List Int}(ho:o.length≤1000000){k:List Fra}{R:Option Out}
  (hk:∀ X,M.go iL H0 k (kv [(0,.slice .any 3 (rs.map fq)),(5,.slice .any 2 (u.map Un.row)),(6,.slice (.own H.length) 1 ((o++sel (tJ u a rs) [(a:Int)] []).map bU)),(7,.int .i64 a)]) (H++(.tok ((o++sel (tJ u a rs) [(a:Int)] []).length*1) mC::X))=R) :
  ∀ (n i:Nat),i+n=rs.length→tJ u a (rs.drop i)=tJ u a rs →
  M.go iL H0 (.c iA :: .lp ⟨(some [0,5,6,7,19,20,21]),[(6,1,mC)],true⟩ iA (H++[.tok (o.length*1) mC]) :: .blk 2 :: .c (.lv [0,5,6,7])::k) (kv [(0,.slice .any 3 (rs.map fq)),(5,.slice .any 2 (u.map Un.row)),(6,.slice (.own H.length) 1 (o.map bU)),(7,.int .i64 a),(19,.slice .any 3 (rs.map fq)),(20,.int .i64 rs.length),(21,.int .i64 i)]) (H++[.tok (o.length*1) mC])=R
 |0,i,h,hb=>by
  have e:i=rs.length:=by omega
  subst e;have h1:=hk [];rw [List.drop_length] at hb;rw [← hb,tJ,sel_false,List.append_nil] at h1;simp only [kv_cons,kv_nil] at h1;rw [ak M iA.eq_1];simp (maxSteps:=3000000) (maxDischargeDepth:=6) +contextual -implicitDefEqProofs only [amC M,↓amD,Nat.reduceBEq,Nat.reduceAdd,env,aj,iM,Nat.lt_irrefl,h1]
 |n+1,i,h,hb=>by
  have hi:i<rs.length:=by omega
  have hx:rs[i]?=some rs[i]:=List.getElem?_eq_getElem hi;have hd:(rs.drop i)=rs[i]::rs.drop (i+1):=List.drop_eq_getElem_cons hi;have hm1:=hr _ (List.getElem_mem hi);have hf:=fun H=>GR M hU (u:=u) (t:=.any) (by simp only [aX];omega) rs[i] hm1.1 hm1.2 (fun n=>wk_slice trivial (IG n u)) ha H
  have hwi:=bt (n:=rs.length) hi hr0;have hir:=aA (row:=fq) (tag:=.any) (sz:=3) (k:=.i64) hi;have w1:Wk (H.length+1) (.slice .any 3 (rs.map fq)) (.slice .any 3 (rs.map fq)):=wk_slice trivial (D3 _ _);have w2:Wk (H.length+1) (.slice .any 2 (u.map Un.row)) (.slice .any 2 (u.map Un.row)):=wk_slice trivial (IG _ _);have w3:Wk (H.length+1) (.slice (.own H.length) 1 (o.map bU)) (.slice (.own H.length) 1 (o.map bU)):=wk_slice (by simp [x9]) (Ca _ _)
  have gk:∀ L:List AObj,(H++L)[H.length+1]?=L[1]? := fun L=>hp_getk H L 1
  have sk:∀ (L:List AObj) (x:AObj),(H++L).set (H.length+1) x=H++L.set 1 x:=fun L x=>hp_setk H L 1 x
  rw [hd,tJ] at hb;cases hq:zN u a rs[i] with
  |false=>
   rw [hq,sel_false] at hb;have ih:=dpi hU hu hr0 hr ha ho hk n (i+1) (by omega) hb;simp only [kv_cons,kv_nil] at ih;rw [ak M iA.eq_1];simp (maxSteps:=3000000) (maxDischargeDepth:=6) +contextual -implicitDefEqProofs only [amC M,↓amD,Nat.reduceBEq,Nat.reduceAdd,env,aj,iM,amG,AV.cell,Nat.reduceMul,Nat.reduceLeDiff,hi,hx,hf,hq,hwi,hir,Qt,ih,w1,w2,w3,gk,sk,vk,sH,List.getElem?_cons_succ,List.set_cons_succ]
  |true=>
   rw [hq,sel_true] at hb;have h1:=fun X=>hk X
   rw [← hb] at h1;cases hz:rs[i].brk with
   |true=>
    rw [hz,sel_true] at h1;have ap:=fun L=>kR (row:=bU) (l:=o) (x:=(a:Int)) (r:=[.int .i64 (a:Int)]) (sz:=1) (bytes:=8) (e:=mC) H L rfl rfl rfl (by omega) (by omega)
    simp only [kv_cons,kv_nil] at h1;rw [ak M iA.eq_1];simp (maxSteps:=3000000) (maxDischargeDepth:=6) +contextual -implicitDefEqProofs only [amC M,↓amD,Nat.reduceBEq,Nat.reduceAdd,env,aj,iM,amG,AV.cell,Nat.reduceMul,Nat.reduceLeDiff,hi,hx,hf,hq,hz,hwi,hir,Qt,ap,h1,gk,sk,List.getElem?_cons_succ,List.set_cons_succ]
   |false=>
    rw [hz,sel_false,List.append_nil] at h1;simp only [kv_cons,kv_nil] at h1;rw [ak M iA.eq_1];simp (maxSteps:=3000000) (maxDischargeDepth:=6) +contextual -implicitDefEqProofs only [amC M,↓amD,Nat.reduceBEq,Nat.reduceAdd,env,aj,iM,amG,AV.cell,Nat.reduceMul,Nat.reduceLeDiff,hi,hx,hf,hq,hz,hwi,hir,Qt,h1,gk,sk,List.getElem?_cons_succ,List.set_cons_succ]
theorem dpo(hU:fT E){rs:List Brk}{u:List Un}(hu:u.length≤1000000)(hr0:rs.length≤aX)(hr:∀ r∈rs,r.bef.length≤1000000∧r.aft.length≤1000000){H H0:List AObj}(k:List Fra) :
  ∀ (n a:Nat) (o:List Int),u.length-a=n→o.length≤a →
  M.go iL H0 (.c kT :: .lp ⟨(some [0,5,6,7]),[(6,1,mC)],true⟩ kT (H++[.tok (o.length*1) mC]) :: .blk 0 :: .c (.lv [6])::k) (kv [(0,.slice .any 3 (rs.map fq)),(5,.slice .any 2 (u.map Un.row)),(6,.slice (.own H.length) 1 (o.map bU)),(7,.int .i64 a)]) (H++[.tok (o.length*1) mC]) =
   M.go iL H0 k (kv [(6,.slice (.own H.length) 1 ((o++xR u rs n a).map bU))]) (H++[.tok ((o++xR u rs n a).length*1) mC])
 |0,a,o,h,ho=>by
  have e:¬ a<u.length:=by omega
  rw [ak M kT.eq_1];simp (maxSteps:=3000000) (maxDischargeDepth:=6) +contextual -implicitDefEqProofs only [amC M,↓amD,Nat.reduceBEq,Nat.reduceAdd,env,aj,iM,e,xR,List.append_nil]
 |n+1,a,o,h,ho=>by
  have hi:a<u.length:=by omega
  have hw:=bt (n:=u.length) hi (by simp only [aX];omega);have w1:Wk (H.length+1) (.slice .any 3 (rs.map fq)) (.slice .any 3 (rs.map fq)):=wk_slice trivial (D3 _ _);have w2:Wk (H.length+1) (.slice .any 2 (u.map Un.row)) (.slice .any 2 (u.map Un.row)):=wk_slice trivial (IG _ _);have w3:∀ o:List Int,Wk (H.length+1) (.slice (.own H.length) 1 (o.map bU)) (.slice (.own H.length) 1 (o.map bU)):=fun o=>wk_slice (by simp [x9]) (Ca _ _)
  have hol:(sel (tJ u a rs) [(a:Int)] []).length≤1:=by cases tJ u a rs<;>simp [sel_true,sel_false]
  have ih:=dpo hU hu hr0 hr (H:=H) (H0:=H0) k n (a+1) (o++sel (tJ u a rs) [(a:Int)] []) (by omega) (by simp;omega);simp only [kv_cons,kv_nil] at ih;rw [xR,← List.append_assoc];generalize hoo:o++sel (tJ u a rs) [(a:Int)] []=oo at ih ⊢;rw [ak M kT.eq_1];simp (maxSteps:=3000000) (maxDischargeDepth:=6) +contextual -implicitDefEqProofs only [amC M,↓amD,Nat.reduceBEq,Nat.reduceAdd,env,aj,iM,hi];have hz:=fun k R hk=>dpi M hU hu hr0 hr (H:=H) (H0:=H0) (a:=a) (by omega) (o:=o) (by omega) (k:=k) (R:=R) hk rs.length 0 (by omega) (by rw [List.drop_zero])
  simp only [kv_cons,kv_nil,Int.ofNat_zero,hoo] at hz;refine hz _ _ fun X => ?_
  simp (maxSteps:=3000000) (maxDischargeDepth:=6) +contextual -implicitDefEqProofs only [amC M,↓amD,Nat.reduceBEq,Nat.reduceAdd,env,aj,iM,hw,ih,w1,w2,w3,vk,sH]
theorem J6(hB:gA E)(hU:fT E)(hN:J4 E){rs:List Brk}(hr0:rs.length≤aX)(hr:∀ r∈rs,r.bef.length≤1000000∧r.aft.length≤1000000){l:Sl ag}(hl:l.l.length≤100000)(hu:(unL l.l).length≤1000000)(H:List AObj) :
  M.run qu [.slice .any 3 (rs.map fq),.slice l.tag 3 (l.l.map ag.row)] H=some (.ret (.slice .any 1 ((sK rs l.l).map bU)),H):=by
 rw [br M hU.docs_places rfl (c:=tA) rfl,tA];have h2:=fun H=>J5 M hU (l:=l.l) (t:=l.tag) H
 have h3:=II M hU hN (l:=l.l) (t:=l.tag) (H:=H++[.cells [.slice l.tag 3 (l.l.map ag.row)] al]) (id:=H.length) (by omega) hu (aL _ _);have h4:=fun k=>dpo M hU (rs:=rs) (u:=unL l.l) hu hr0 hr (H:=H++[.cells [.slice l.tag 3 (l.l.map ag.row)] al]) (H0:=H) k ((unL l.l).length-1) 1 [] rfl (by simp)
 simp only [kv_cons,kv_nil,List.nil_append,List.length_nil,Nat.zero_mul,List.map_nil,show ((1:Nat):Int)=1 from rfl,List.length_append,List.length_cons,List.append_assoc,List.cons_append,Nat.zero_add] at h4;have hh:=handV_drop (cut_app H [.cells [.slice l.tag 3 (l.l.map ag.row)] al,.tok ((sK rs l.l).length*1) mC]) (wk_any (esz:=1) (tag:=.own (H.length+1)) (Ca H.length (sK rs l.l)));simp only [anyV_slice,hp_take,sK] at hh
 simp (maxSteps:=3000000) (maxDischargeDepth:=6) +contextual -implicitDefEqProofs only [amC M,↓amD,Nat.reduceBEq,Nat.reduceAdd,env,aj,iM,h2,h3,h4,hh,sK]
end
section
attribute [local congr] aI bR aZ aJ aY aR aK aC aD aS aT
variable{E:bG}(M:cJ cM E)
def dD(p:Sl ag):List AV:=[.slice p.tag 3 (p.l.map ag.row)]
theorem qPl:(∀ p:Sl ag,bn none (dD p) 0=some (.slice p.tag 3 (p.l.map ag.row)))∧(∀ p:Sl ag,pg 1 (dD p)=some (dD p))∧(∀ p:Sl ag,(dD p).length=1):=⟨fun _=>rfl,fun _=>rfl,fun _=>rfl⟩
def uq(n:Nat):List ag→Nat
 |[]=>n
 |x::l=>if n<5000 then uq (n+x.text.length) l else n
def zP(n:Nat):List (Sl ag)→Nat
 |[]=>n
 |p::ps=>zP (uq (n+p.l.length) p.l) ps
def yb(ps:List (Sl ag)):Bool:=decide (2500<zP 0 ps)
theorem GT:∀ (l:List ag) (n:Nat),5000≤n→uq n l=n
 |[],n,_=>rfl
 |x::l,n,h=>by rw [uq,if_neg (by omega)]
theorem KP:∀ (l:List ag) (n:Nat),(∀ x∈l,x.text.length≤aX)→n<5000→uq n l≤aX+5000
 |[],n,_,hn=>by rw [uq];simp only [aX];omega
 |x::l,n,h,hn=>by
  rw [uq,if_pos hn];have h1:=h x List.mem_cons_self
  by_cases h2:n+x.text.length<5000
  ·exact KP l (n+x.text.length) (fun y hy=>h y (List.mem_cons_of_mem _ hy)) h2
  ·rw [GT l _ (by omega)];omega
theorem Oq(l:List ag)(n:Nat)(h:∀ x∈l,x.text.length≤aX):uq n l≤n+aX+5000:=by
 by_cases hn:n<5000
 ·have:=KP l n h hn;omega
 ·rw [GT l n (by omega)];omega
theorem AP:∀ (l:List ag) (n:Nat),n≤uq n l
 |[],n=>Nat.le_refl _
 |x::l,n=>by
  rw [uq];split
  ·have:=AP l (n+x.text.length);omega
  ·exact Nat.le_refl _
theorem FO:∀ (ps:List (Sl ag)) (n:Nat),n≤zP n ps
 |[],n=>Nat.le_refl _
 |p::ps,n=>by
  rw [zP];have h1:=AP p.l (n+p.l.length);have h2:=FO ps (uq (n+p.l.length) p.l);omega
def jG(l:List ag):Nat:=(l.map fun x=>x.text.length).sum
theorem KQ:∀ (l:List ag) (n:Nat),uq n l≤2500→uq n l=n+jG l
 |[],n,_=>by simp [uq,jG]
 |x::l,n,h=>by
  have h0:n<5000:=by have:=AP (x::l) n;omega
  rw [uq,if_pos h0] at h ⊢;rw [KQ l _ h,jG,jG,List.map_cons,List.sum_cons];omega
def Ot(ps:List (Sl ag)):Nat:=(ps.map fun p=>p.l.length+jG p.l).sum
theorem KR:∀ (ps:List (Sl ag)) (n:Nat),zP n ps≤2500→zP n ps=n+Ot ps
 |[],n,_=>by simp [zP,Ot]
 |p::ps,n,h=>by
  rw [zP] at h ⊢;have h0:=FO ps (uq (n+p.l.length) p.l);rw [KR ps _ h,KQ p.l _ (by omega),Ot,Ot,List.map_cons,List.sum_cons];omega
theorem AQ{p:Sl ag}(h:yb [p]=false):p.l.length+jG p.l≤2500:=by
 have h1:zP 0 [p]≤2500:=by have:=of_decide_eq_false h;omega
 have h2:=KR [p] 0 h1;simp only [Ot,List.map_cons,List.map_nil,List.sum_cons,List.sum_nil] at h2;omega
theorem qM{l:List ag}{x:ag}(h:x∈l):x.text.length≤jG l:=by
 induction l with
 |nil=>cases h
 |cons y l ih=>
  rw [jG,List.map_cons,List.sum_cons];rcases List.mem_cons.1 h with rfl | h
  ·omega
  ·have:=ih h;unfold jG at this;omega
theorem Cc:∀ l:List ag,(unL l).length≤l.length+jG l
 |[]=>by simp [unL]
 |x::l=>by
  show (unP x++unL l).length≤_;have h1:=Qh x;have h2:=Cc l;rw [List.length_append,jG,List.map_cons,List.sum_cons,List.length_cons];unfold jG at h2;omega
theorem D4:∀ l:List ag,(oE l).length≤jG l
 |[]=>by simp [oE]
 |x::l=>by
  have h2:=D4 l;rw [oE,List.length_append,jG,List.map_cons,List.sum_cons];unfold jG at h2;cases x.kind == 1
  ·rw [sel_false,List.length_nil];omega
  ·rw [sel_true];omega
theorem lgi{H H0:List AObj}{ps:List (Sl ag)}{tg:Tag}{j:Nat}{p:Sl ag}(hp:ps[j]?=some p)(hj:j<ps.length)(hpl:p.l.length≤aX)(hpt:∀ x∈p.l,x.text.length≤aX)(hc:b5 H0 H)(k:List Fra):∀ (n i:Nat) (n2:Nat) (hn:n2≤1000000000000000000) (He:List AObj),i+n=(p.l).length →
  M.go el H0 (.c eD :: .lp ⟨(some [0,3,4,5]),[],false⟩ eD He :: .blk 2 :: .c (.lv [0,3,4])::k) (kv [(0,.slice tg 1 (ps.map dD)),(3,.int .i64 n2),(4,.int .i64 j),(5,.int .i64 i)]) H =
   (M.go el H0 k (kv [(0,.slice tg 1 (ps.map dD)),(3,.int .i64 (uq n2 (p.l.drop i):Nat)),(4,.int .i64 j)]) (H))
 |0,i,n2,hn,He,h=>by
  have e:i=(p.l).length:=by omega
  subst e;rw [ak M eD.eq_1];simp (maxSteps:=3000000) (maxDischargeDepth:=6) +contextual -implicitDefEqProofs only [amC M,↓amD,Nat.reduceBEq,Nat.reduceAdd,env,aj,ff,Nat.lt_irrefl,List.drop_length,hp,hpl,qPl,aA hj,uq]
 |n+1,i,n2,hn,He,h=>by
  have hi:i<(p.l).length:=by omega
  have hx:(p.l)[i]?=some (p.l)[i]:=List.getElem?_eq_getElem hi;have hd:((p.l).drop i)=(p.l)[i]::(p.l).drop (i+1):=List.drop_eq_getElem_cons hi;have hm:(p.l)[i]∈(p.l):=List.getElem_mem hi;have ih:=fun n2 hn He=>lgi (H:=H) (H0:=H0) (ps:=ps) (tg:=tg) (j:=j) (p:=p) (hp:=hp) (hj:=hj) (hpl:=hpl) (hpt:=hpt) hc k n (i+1) n2 hn He (by omega)
  simp only [kv_cons,kv_nil] at ih;have hij:=aA (row:=dD) (tag:=tg) (sz:=1) (k:=.i64) hj;have hir:=aA (row:=ag.row) (tag:=p.tag) (sz:=3) (k:=.i64) hi;have hwi:=bt (n:=p.l.length) hi hpl;have hmt:=hpt _ hm
  by_cases h5:n2<5000
  ·have d5:decide ((n2:Int)<5000)=true:=decide_eq_true (by omega)
   have hw2:IntKind.i64.wrap ((n2:Int)+(p.l[i].text.length:Int))=((n2+p.l[i].text.length:Nat):Int):=by rw [bK (by omega) (by simp only [aX] at hmt;omega)];omega
   have ih:=ih (n2+p.l[i].text.length) (by simp only [aX] at hmt;omega);rw [hd,uq,if_pos h5];rw [ak M eD.eq_1];simp (maxSteps:=3000000) (maxDischargeDepth:=6) +contextual -implicitDefEqProofs only [amC M,↓amD,Nat.reduceBEq,Nat.reduceAdd,env,aj,ff,hi,hx,hp,hd,d5,ih,hij,hir,hwi,hw2,qPl,aW]
  ·have d5:decide ((n2:Int)<5000)=false:=decide_eq_false (by omega)
   rw [GT _ _ (by omega)];rw [ak M eD.eq_1];simp (maxSteps:=3000000) (maxDischargeDepth:=6) +contextual -implicitDefEqProofs only [amC M,↓amD,Nat.reduceBEq,Nat.reduceAdd,env,aj,ff,hi,hx,hp,hd,d5,hij,hir,qPl,aW]
theorem lgo{H H0:List AObj}{ps:List (Sl ag)}{tg:Tag}(hps:ps.length≤100)(hpl:∀ p∈ps,p.l.length≤aX∧∀ x∈p.l,x.text.length≤aX)(hc:b5 H0 H)(k:List Fra):∀ (n i:Nat) (n2:Nat) (hn:n2≤i*300000000000000) (He:List AObj),i+n=ps.length →
  M.go el H0 (.c fE :: .lp ⟨(some [0,3,4]),[],false⟩ fE He :: .blk 0 :: .c (.lv [3])::k) (kv [(0,.slice tg 1 (ps.map dD)),(3,.int .i64 n2),(4,.int .i64 i)]) H =
   (M.go el H0 k (kv [(3,.int .i64 (zP n2 (ps.drop i):Nat))]) (H))
 |0,i,n2,hn,He,h=>by
  have e:i=ps.length:=by omega
  subst e;rw [ak M fE.eq_1];simp (maxSteps:=3000000) (maxDischargeDepth:=6) +contextual -implicitDefEqProofs only [amC M,↓amD,Nat.reduceBEq,Nat.reduceAdd,env,aj,ff,Nat.lt_irrefl,List.drop_length,zP]
 |n+1,i,n2,hn,He,h=>by
  have hi:i<ps.length:=by omega
  have hx:ps[i]?=some ps[i]:=List.getElem?_eq_getElem hi;have hd:(ps.drop i)=ps[i]::ps.drop (i+1):=List.drop_eq_getElem_cons hi;have hm:ps[i]∈ps:=List.getElem_mem hi;have ih:=fun n2 hn He=>lgo (H:=H) (H0:=H0) (ps:=ps) (tg:=tg) (hps:=hps) (hpl:=hpl) hc k n (i+1) n2 hn He (by omega)
  simp only [kv_cons,kv_nil] at ih;have hij:=aA (row:=dD) (tag:=tg) (sz:=1) (k:=.i64) hi;have hwi:=bt (n:=ps.length) hi (by simp only [aX];omega);have hq:=hpl _ hm;have hq1:ps[i].l.length≤140737488351232:=hq.1;have hw2:IntKind.i64.wrap ((n2:Int)+(ps[i].l.length:Int))=((n2+ps[i].l.length:Nat):Int):=by rw [bK (by omega) (by omega)];omega
  have hb:=Oq ps[i].l (n2+ps[i].l.length) hq.2;have hz:=fun k He=>lgi M (H:=H) (H0:=H0) (ps:=ps) (tg:=tg) (j:=i) (p:=ps[i]) hx hi hq.1 hq.2 hc k ps[i].l.length 0 (n2+ps[i].l.length) (by omega) He (by omega)
  have ih:=ih (uq (n2+ps[i].l.length) ps[i].l) (by simp only [aX] at hb;omega);simp only [kv_cons,kv_nil,Int.ofNat_zero,List.drop_zero] at hz;rw [hd,zP];rw [ak M fE.eq_1];simp (maxSteps:=3000000) (maxDischargeDepth:=6) +contextual -implicitDefEqProofs only [amC M,↓amD,Nat.reduceBEq,Nat.reduceAdd,env,aj,ff,hi,hx,ih,hz,hij,hwi,hw2,qPl,List.length_map]
theorem Ou(hB:gA E){ps:List (Sl ag)}{tg:Tag}(hps:ps.length≤100)(hpl:∀ p∈ps,p.l.length≤aX∧∀ x∈p.l,x.text.length≤aX)(H:List AObj) :
  M.run gD [.slice tg 1 (ps.map dD)] H=some (.ret (.bool (yb ps)),H):=by
 rw [br M hB.truchmanlaw01_long rfl (c:=mE) rfl,mE];have h1:=fun k He=>lgo M (tg:=tg) hps hpl (cut_refl H) k ps.length 0 0 (by omega) He (by omega)
 simp only [kv_cons,kv_nil,Int.ofNat_zero,List.drop_zero] at h1;have h2:decide ((2500:Int)<(zP 0 ps:Int))=decide (2500<zP 0 ps):=by rw [Bool.eq_iff_iff];simp;omega
 simp (maxSteps:=3000000) (maxDischargeDepth:=6) +contextual -implicitDefEqProofs only [amC M,↓amD,Nat.reduceBEq,Nat.reduceAdd,env,aj,ff,h1,h2,yb]
theorem FP(hB:gA E){l:Sl ag}(h:l.ok 0 (ag.ok 0))(H:List AObj):M.run gD [.slice .full 1 [[.slice l.tag.strip 3 (l.l.map ag.row)]]] H=some (.ret (.bool (yb [l])),H):=
 Ou M hB (tg:=.full) (ps:=[⟨l.tag.strip,l.l⟩]) (by simp) (fun p hp=>by
  rw [List.mem_singleton] at hp;subst hp;exact ⟨h.len,fun x hx=>(h.all x hx).text⟩) H
def AR(n:Nat)(x:Brk):Nat:=n+x.bef.length+x.aft.length
def xB(rs:List Brk):Bool:=decide (600<(rs.take 100).foldl AR rs.length)
theorem MA{α:Type}(l:List α)(n:Nat):∀ k,k<(l.take n).length→l[k]?=(l.take n)[k]? := fun k hk=>by
 rw [List.getElem?_take,if_pos (by rw [List.length_take] at hk;omega)]
theorem Qw{n m:Nat}(h:m=min 100 n):(decide (m<n)&&decide ((m:Int)<100))=false:=by
 rw [Bool.eq_false_iff];simp;omega
theorem stl{H H0:List AObj}{b Lf:List Brk}{tg:Tag}(hM:Lf.length=min 100 b.length)(hL:∀ k,k<Lf.length→b[k]?=Lf[k]?)(hb:∀ x∈b,x.bef.length≤aX∧x.aft.length≤aX)(hc:b5 H0 H)(k:List Fra):∀ (n i:Nat) (n2:Nat) (hn:n2≤140737488351232+i*300000000000000) (He:List AObj),i+n=Lf.length →
  M.go fF H0 (.c eO :: .lp ⟨(some [0,3,4]),[],false⟩ eO He :: .blk 0 :: .c (.lv [3])::k) (kv [(0,.slice tg 3 (b.map Brk.row)),(3,.int .i64 n2),(4,.int .i64 i)]) H =
   (M.go fF H0 k (kv [(3,.int .i64 ((Lf.drop i).foldl AR n2:Nat))]) (H))
 |0,i,n2,hn,He,h=>by
  have e:i=Lf.length:=by omega
  subst e;rw [ak M eO.eq_1];simp (maxSteps:=3000000) (maxDischargeDepth:=6) +contextual -implicitDefEqProofs only [amC M,↓amD,Nat.reduceBEq,Nat.reduceAdd,env,aj,kD,Nat.lt_irrefl,List.drop_length,Qw hM,List.foldl_nil]
 |n+1,i,n2,hn,He,h=>by
  have hi:i<Lf.length:=by omega
  have hx:Lf[i]?=some Lf[i]:=List.getElem?_eq_getElem hi;have hd:(Lf.drop i)=Lf[i]::Lf.drop (i+1):=List.drop_eq_getElem_cons hi;have hm:Lf[i]∈Lf:=List.getElem_mem hi;have ih:=fun n2 hn He=>stl (H:=H) (H0:=H0) (b:=b) (Lf:=Lf) (tg:=tg) (hM:=hM) (hL:=hL) (hb:=hb) hc k n (i+1) n2 hn He (by omega)
  simp only [kv_cons,kv_nil] at ih;have hib:i<b.length:=by omega
  have hxb:=(hL i hi).trans hx;have hq:=hb Lf[i] (List.mem_of_getElem? hxb);have hq1:Lf[i].bef.length≤140737488351232:=hq.1;have hq2:Lf[i].aft.length≤140737488351232:=hq.2;have hlt:decide ((i:Int)<100)=true:=decide_eq_true (by omega);have hw1:IntKind.i64.wrap ((n2:Int)+(Lf[i].bef.length:Int))=((n2+Lf[i].bef.length:Nat):Int):=by rw [bK (by omega) (by omega)];omega
  have hw2:IntKind.i64.wrap (((n2+Lf[i].bef.length:Nat):Int)+(Lf[i].aft.length:Int))=((AR n2 Lf[i]:Nat):Int):=by rw [bK (by omega) (by omega),AR];omega
  have ih:=ih (AR n2 Lf[i]) (by unfold AR;omega);rw [hd,List.foldl_cons];rw [ak M eO.eq_1];simp (maxSteps:=3000000) (maxDischargeDepth:=6) +contextual -implicitDefEqProofs only [amC M,↓amD,Nat.reduceBEq,Nat.reduceAdd,env,aj,kD,hib,hxb,ih,hlt,aA hib,L2,bt (n:=100) (show i<100 by omega) (by simp [aX]),hw1,hw2]
theorem J7(hU:fT E){rs:Sl Brk}(h:rs.ok 0 (Brk.ok 0))(H:List AObj):M.run ky [.slice rs.tag 3 (rs.l.map Brk.row)] H=some (.ret (.bool (xB rs.l)),H):=by
 rw [br M hU.truchmanlaw01_strict rfl (c:=kC) rfl,kC];have hl:rs.l.length≤140737488351232:=h.len;have h1:=fun k He=>stl M (b:=rs.l) (Lf:=rs.l.take 100) (tg:=rs.tag) (by simp) (MA rs.l 100) (fun x hx=>⟨(h.all x hx).bef,(h.all x hx).aft⟩) (cut_refl H) k (rs.l.take 100).length 0 rs.l.length (by omega) He (by omega)
 simp only [kv_cons,kv_nil,Int.ofNat_zero,List.drop_zero] at h1;have h2:decide ((600:Int)<(((rs.l.take 100).foldl AR rs.l.length:Nat):Int))=xB rs.l:=by rw [xB,Bool.eq_iff_iff];simp;omega
 simp (maxSteps:=3000000) (maxDischargeDepth:=6) +contextual -implicitDefEqProofs only [amC M,↓amD,Nat.reduceBEq,Nat.reduceAdd,env,aj,kD,h1,h2,List.length_map]
theorem KS:∀ (l:List Brk) (n:Nat),n≤l.foldl AR n∧∀ x∈l,x.bef.length+x.aft.length≤l.foldl AR n
 |[],n=>⟨Nat.le_refl _,fun x h=>by cases h⟩
 |y::l,n=>by
  obtain ⟨h1,h2⟩:=KS l (AR n y);rw [List.foldl_cons];refine ⟨by unfold AR at h1 ⊢;omega,fun x hx => ?_⟩;rcases List.mem_cons.1 hx with rfl | hx
  ·unfold AR at h1 ⊢;omega
  ·exact h2 x hx
theorem yc{rs:List Brk}(h:xB rs=false):rs.length≤600∧∀ (i:Nat) (x:Brk),i<100→rs[i]?=some x→x.bef.length≤600∧x.aft.length≤600:=by
 have h0:(rs.take 100).foldl AR rs.length≤600:=by have:=of_decide_eq_false h;omega
 obtain ⟨h1,h2⟩:=KS (rs.take 100) rs.length;refine ⟨by omega,fun i x hi hx => ?_⟩;have hm:x∈rs.take 100:=List.mem_of_getElem? (i:=i) (by rw [List.getElem?_take,if_pos hi];exact hx);have:=h2 x hm;omega
theorem J8{rs:List Brk}(h:xB rs=false):rs.length≤64→∀ r∈rs,r.bef.length≤1000000∧r.aft.length≤1000000:=fun h64 r hr=>by
 obtain ⟨i,hi⟩:=List.getElem?_of_mem hr;have hlt:=(List.getElem?_eq_some_iff.1 hi).1;have:=(yc h).2 i r (by omega) hi;omega
end
section
attribute [local congr] aI bR aZ aJ aY aR aK aC aD aS aT
variable{E:bG}(M:cJ cM E)
structure jT (E:bG):Prop where
 docs_cutter_put:E.fn bS=some lW
 docs_cutter_turn:E.fn ee=some ew
 docs_cutter_unit:E.fn eU=some kG
 docs_cutter_tag:E.fn lV=some pA
 slices_IndexFunc_api_Piece_api_Piece:E.fn eh=some bc
 slices_ContainsFunc_api_Piece_api_Piece:E.fn cA=some cB
 docs_cut_1:E.fn gy=some rS
 docs_cut:E.fn uN=some kE
 truchmanref01_add:E.fn dI=some nG
 truchmanref01_single:E.fn kB=some dw
 truchmanref01_Cut:E.fn nC=some bH
 docs_ends:E.fn te=some mJ
 slices_Reverse_string_string:E.fn gl=some bC
 slices_Equal_string_string:E.fn iq=some dB
 docs_Glue:E.fn wJ=some en
 truchmanref01_ends:E.fn jy=some gO
 truchmanref01_Glue:E.fn mj=some bA
def pcC(l:List ag):List AV:=(l.map ag.row).flatten
theorem xC(l m:List ag):pcC (l++m)=pcC l++pcC m:=by simp [pcC]
theorem GU(x:ag):pcC [x]=[.int .u8 x.kind,.str x.text,.bool x.car]:=rfl
theorem rX:∀ l:List ag,(pcC l).length=l.length*3
 |[]=>rfl
 |x::l=>by
  have:=rX l;rw [show pcC (x::l)=pcC [x]++pcC l from xC [x] l,List.length_append,this,GU,List.length_cons];simp;omega
def PcV(H:List AObj)(v:AV)(l:List ag):Prop:=(l=[]∧v = .slice .nil 3 [])∨(l≠[]∧∃ Q,v = .rslice Q 0 l.length 3 true∧H[Q]?=some (.cells (pcC l) ah))
def below(q:Nat)(v:AV):Prop:=∀ Q o n e r,v = .rslice Q o n e r→Q<q
def KT(q:Nat)(v:AV):Prop:=∀ Q o n e r,v = .rslice Q o n e r→q≤Q
def OpV(H:List AObj)(v:AV)(l:List Str):Prop:=(l=[]∧v = .slice .nil 1 [])∨∃ O junk,v = .rslice O 0 l.length 1 true∧H[O]?=some (.cells (kr l++junk) aH)
def jH(l:List ag)(p:ag):List ag:=
 match l.getLast? with
 |some x=>sel (p.kind == 1&&x.kind == 1) (l.dropLast++[{ x with text:=x.text++p.text }]) (l++[p])
 |none=>[p]
structure CSt where
 done:List (List ag)
 cur:List ag
 pos:List Int
 place:Nat
 due:Bool
 opn:List Str
def free(R:Nat→Prop)(v:AV):Prop:=∀ Q o n e r,v = .rslice Q o n e r→¬ R Q
structure yM (R:Nat→Prop) (c:Nat) (H:List AObj) (S:CSt) (P q:Nat) (vs:List AV) (v:AV) (ta:Tag) (ov:AV):Prop where
 hn:¬ R c
 hP:¬ R P
 rl:∀ i,R i→i<H.length
 cell:H[c]?=some (.cells [.rslice P 0 (S.done.length+1) 1 true,.slice ta 1 (S.pos.map bU),.int .i64 S.place,.bool S.due,ov] bo)
 par:H[P]?=some (.cells (vs++[v]) al)
 len:vs.length=S.done.length
 dn:∀ (i:Nat) (w:AV) (l:List ag),vs[i]?=some w→S.done[i]?=some l→PcV H w l∧below q w∧free R w
 cr:PcV H v S.cur
 ab:KT q v
 pr:free R v
 ql:q≤H.length
 op:OpV H ov S.opn
 oa:free R ov
 tg:ta = .any∨ta = .some∨S.pos=[]
def jd(R:Nat→Prop)(c:Nat)(H:List AObj)(S:CSt):Prop:=∃ P q vs v ta ov,yM R c H S P q vs v ta ov
structure Frm (R:Nat→Prop) (H H':List AObj):Prop where
 len:H.length≤H'.length
 low:∀ i,R i→H'[i]?=H[i]?
 it:∀ (i:Nat) s pos,H[i]?=some (.siter s pos)→H'[i]?=some (.siter s pos)
theorem Frm.refl(R:Nat→Prop)(H:List AObj):Frm R H H:=⟨Nat.le_refl _,fun _ _=>rfl,fun _ _ _ h=>h⟩
theorem Frm.trans{R:Nat→Prop}{A B C:List AObj}(h:Frm R A B)(k:Frm R B C):Frm R A C:=⟨Nat.le_trans h.len k.len,fun i hi=>(k.low i hi).trans (h.low i hi),fun i s p e=>k.it i s p (h.it i s p e)⟩
theorem Frm.mono{R R':Nat→Prop}{A B:List AObj}(h:Frm R A B)(hr:∀ i,R' i→R i):Frm R' A B:=⟨h.len,fun i hi=>h.low i (hr i hi),h.it⟩
theorem Frm.app{R:Nat→Prop}(H X:List AObj)(hn:∀ i,R i→i<H.length):Frm R H (H++X):=⟨by simp,fun i hi=>List.getElem?_append_left (hn i hi),fun i s p h=>bD h⟩
theorem Frm.set{R:Nat→Prop}{H:List AObj}{k:Nat}{cs:List AV}{T:TypeId}(x:AObj)(hk:¬ R k)(h:H[k]?=some (.cells cs T)):Frm R H (H.set k x):=
 ⟨by simp,fun i hi=>List.getElem?_set_ne (fun e=>hk (by rw [e];exact hi)),fun i s p e=>by
  rw [List.getElem?_set_ne (fun ek=>by subst ek;rw [h] at e;cases e)];exact e⟩
theorem PcV.stay{H H':List AObj}{v:AV}{l:List ag}(h:PcV H v l)(hs:∀ (Q:Nat) (cs:List AV),v = .rslice Q 0 l.length 3 true→H[Q]?=some (AObj.cells cs ah)→H'[Q]?=some (AObj.cells cs ah)):PcV H' v l:=by
 rcases h with h | ⟨h1,Q,h2,h3⟩
 ·exact .inl h
 ·exact .inr ⟨h1,Q,h2,hs Q _ h2 h3⟩
theorem OpV.stay{H H':List AObj}{v:AV}{l:List Str}(h:OpV H v l)(hs:∀ (O:Nat) (cs:List AV),H[O]?=some (AObj.cells cs aH)→H'[O]?=some (AObj.cells cs aH)):OpV H' v l:=by
 rcases h with h | ⟨O,junk,h1,h2⟩
 ·exact .inl h
 ·exact .inr ⟨O,junk,h1,hs O _ h2⟩
theorem jt{H:List AObj}{k i:Nat}{x:AObj}{cs ds:List AV}{T T':TypeId}(hk:H[k]?=some (.cells ds T'))(hT:T≠T')(h:H[i]?=some (.cells cs T)):(H.set k x)[i]?=some (.cells cs T):=by
 rw [List.getElem?_set_ne (fun e=>by subst e;rw [hk] at h;cases h;exact hT rfl)];exact h
theorem D5:ah≠bo:=by decide
theorem Ov:ah≠al:=by decide
theorem D6:aH≠ah:=by decide
theorem KU:aH≠al:=by decide
theorem FQ:aH≠bo:=by decide
theorem FR:al≠bo:=by decide
theorem AS{H G:List AObj}{v:AV}{l:List ag}(h:PcV H v l):rG G .sl v=some (.int .i64 (l.length:Int)):=by
 rcases h with ⟨rfl,rfl⟩ | ⟨_,Q,rfl,_⟩<;>rfl
theorem FS(p:ag):qR 3 [p.row]=true:=rfl
theorem zQ{H:List AObj}{v:AV}{l:List ag}(h:PcV H v l):v.cell=true∧cP v=some [v]:=by
 rcases h with ⟨rfl,rfl⟩ | ⟨_,Q,rfl,_⟩<;>exact ⟨rfl,rfl⟩
theorem Ow{G:List AObj}{v:AV}{l:List ag}(h:PcV G v l)(hl:l.length≤100000000)(p:ag) :
  ∃ G',rap true G ah 3 32 false v (.slice .full 3 [p.row])=some (.rslice G.length 0 (l.length+1) 3 true,G')∧G'[G.length]?=some (.cells (pcC (l++[p])) ah)∧G'.length=G.length+1∧∀ i,i<G.length→(∀ Q,v = .rslice Q 0 l.length 3 true→i≠Q)→G'[i]?=G[i]? := by
 rcases h with ⟨rfl,rfl⟩ | ⟨_,Q,rfl,hg⟩
 ·refine ⟨G++[.cells (pcC [p]) ah], ?_,by rw [aL];rfl,by simp,fun i hi _=>List.getElem?_append_left hi⟩
  simp only [rap,pY,pS,or_true,if_true,FS];rw [if_pos (by simp)];rfl
 ·have hlt:=cg hg
  have hlen:l.length*3≤(pcC l).length:=by rw [rX];omega
  refine ⟨G.set Q .dead++[.cells (pcC (l++[p])) ah], ?_, ?_,by simp,fun i hi hne => ?_⟩
  ·simp only [rap,pY,pS,or_true,if_true,FS,hg]
   rw [if_pos ⟨trivial,trivial,hlen,by simp;omega,by simp;omega⟩];rw [List.take_of_length_le (by rw [rX];omega),xC];rfl
  ·rw [show G.length=(G.set Q .dead).length by simp,aL];rfl
  ·rw [List.getElem?_append_left (by simp;omega),List.getElem?_set_ne (fun e=>hne Q rfl e.symm)]
theorem Ox{id n i:Nat}(h:i<n)(k:IntKind):vv 3 (.rslice id 0 n 3 true) (.int k (i:Int))=some (.ptr id (i*3)):=by
 simp only [vv];rw [if_pos ⟨trivial,by omega,by simp;omega⟩];simp
theorem qz{id n i:Nat}(h:i<n)(k:IntKind):vv 1 (.rslice id 0 n 1 true) (.int k (i:Int))=some (.ptr id i):=by
 simp only [vv];rw [if_pos ⟨trivial,by omega,by simp;omega⟩];simp
theorem KV(l:List ag)(x:ag):bn none (pcC (l++[x])) (l.length*3)=some (.int .u8 x.kind)∧bn none (pcC (l++[x])) (l.length*3+1)=some (.str x.text):=by
 have hl:=rX l;refine ⟨?_, ?_⟩
 ·simp only [bn,xC]
  rw [List.getElem?_append_right (by omega),hl,Nat.sub_self,GU];rfl
 ·simp only [bn,xC]
  rw [List.getElem?_append_right (by omega),hl,show l.length*3+1-l.length*3=1 by omega,GU];rfl
theorem KW(l:List ag)(x:ag)(s:Str):bf (pcC (l++[x])) (l.length*3+1) [.str s]=pcC (l++[{ x with text:=s }]):=by
 rw [setRow_cons,setRow_nil,xC,xC,List.set_append_right _ _ (by rw [rX];omega),rX,show l.length*3+1-l.length*3=1 by omega];rfl
end
section
attribute [local congr] aI bR aZ aJ aY aR aK aC aD aS aT
variable{E:bG}(M:cJ cM E)
theorem cl5:(∀ a b c d e:AV,bn none [a,b,c,d,e] 0=some a)∧(∀ a b c d e:AV,bn none [a,b,c,d,e] 1=some b)∧(∀ a b c d e:AV,bn none [a,b,c,d,e] 2=some c)∧(∀ a b c d e:AV,bn none [a,b,c,d,e] 3=some d)∧(∀ a b c d e:AV,bn none [a,b,c,d,e] 4=some e):=
 ⟨fun _ _ _ _ _=>rfl,fun _ _ _ _ _=>rfl,fun _ _ _ _ _=>rfl,fun _ _ _ _ _=>rfl,fun _ _ _ _ _=>rfl⟩
def KX(o:Option Nat)(T L:List Nat):Option (List Nat×List Nat):=
 match o with
 |some id=>some (T,id::L)
 |none=>some (T,L)
def SS(o:Option Nat)(T L:List Nat):Option (List Nat×List Nat):=
 match o with
 |some id=>some (id::T,L)
 |none=>none
theorem dyK:(∀ (a:Env) (g:Option Nat) (x:RX) (T L:List Nat),nX true .wide a (.ld g x) T L=KX (qS (rx a x)) T L)∧(∀ (a:Env) (g:LK) (x:RX) (T L:List Nat),nX true .wide a (.len g x) T L=KX (qS (rx a x)) T L) ∧
  (∀ (s:Bool) (a:Env) (n:Nat) (x v:RX) (T L:List Nat),nX s .keep a (.st n x v) T L=SS (qS (rx a x)) T L)∧(∀ (s:Bool) (a:Env) (g:Option Nat) (x:RX) (T L:List Nat),nX s .quiet a (.ld g x) T L=some (T,L)) ∧
  (∀ i o,qS (.ptr i o)=some i)∧(∀ i o n e r,qS (.rslice i o n e r)=some i)∧(∀ t n r,qS (.slice t n r)=none)∧(∀ s,qS (.str s)=none)∧(∀ e r i o,qS (.vptr e r i o)=none)∧(∀ (id:Nat) (T L:List Nat),KX (some id) T L=some (T,id::L))∧(∀ T L:List Nat,KX none T L=some (T,L))∧(∀ (id:Nat) (T L:List Nat),SS (some id) T L=some (id::T,L)):=
 ⟨fun _ _ _ _ _=>rfl,fun _ _ _ _ _=>rfl,fun _ _ _ _ _ _ _=>rfl,fun _ _ _ _ _ _=>rfl,fun _ _=>rfl,fun _ _ _ _ _=>rfl,fun _ _ _=>rfl,fun _=>rfl,fun _ _ _ _=>rfl,fun _ _ _=>rfl,fun _ _=>rfl,fun _ _ _=>rfl⟩
theorem r6{T L:List Nat}(h:apart T L)(r:Option Out):qT cM T L r=r:=by
 unfold qT;rw [Gy h]
theorem D7{a b c:Nat}(h1:c≠a)(h2:c≠b):apart [a,b] [c]:=fun x hx=>by
 rw [List.mem_singleton] at hx;subst hx;simp [h1,h2]
theorem D8{a c:Nat}(h1:c≠a):apart [a] [c]:=fun x hx=>by
 rw [List.mem_singleton] at hx;subst hx;simp [h1]
theorem MB{H:List AObj}{i j:Nat}{cs ds:List AV}{T T':TypeId}(h1:H[i]?=some (.cells cs T))(h2:H[j]?=some (.cells ds T'))(hT:T≠T'):i≠j:=fun e=>by
 subst e;rw [h1] at h2;injection h2 with h2;injection h2 with _ h3;exact hT h3
theorem IJ{H:List AObj}{v:AV}{l:List ag}(h:PcV H v l){Q:Nat}(e:v = .rslice Q 0 l.length 3 true):∃ cs,H[Q]?=some (.cells cs ah):=by
 rcases h with ⟨_,h⟩ | ⟨_,Q',h1,h2⟩
 ·rw [h] at e;cases e
 ·rw [h1] at e;cases e;exact ⟨_,h2⟩
def StK(H H':List AObj):Prop:=∀ (O:Nat) (cs:List AV),H[O]?=some (AObj.cells cs aH)→H'[O]?=some (AObj.cells cs aH)
theorem yM.turned{R:Nat→Prop}{c:Nat}{H H2:List AObj}{S:CSt}{P q:Nat}{vs:List AV}{v w:AV}{ta:Tag}{ov:AV}(h:yM R c H S P q vs v ta ov){cur:List ag}
  (hlen:H.length≤H2.length) (hs:∀ i y,H[i]?=some y→(∀ Q,v = .rslice Q 0 S.cur.length 3 true→i≠Q)→i≠P→H2[i]?=some y)
  (hpar:H2[P]?=some (.cells (vs++[w]) al)) (hw:PcV H2 w cur) (hwa:KT q w) (hwf:free R w):yM R c H2 { S with cur:=cur } P q vs w ta ov∧Frm R H H2∧StK H H2:=by
 have hP:=h.par
 have nq:∀ (i:Nat) (cs:List AV) (T:TypeId),H[i]?=some (.cells cs T)→T≠ah→∀ Q,v = .rslice Q 0 S.cur.length 3 true→i≠Q:=fun i cs T hi hT Q e ei=>by
  obtain ⟨ds,hd⟩:=IJ h.cr e;subst ei;rw [hi] at hd;cases hd;exact hT rfl
 have np:∀ (i:Nat) (cs:List AV) (T:TypeId),H[i]?=some (.cells cs T)→T≠al→i≠P:=fun i cs T hi hT ei=>by
  subst ei;rw [hi] at hP;cases hP;exact hT rfl
 have hlow:∀ i,R i→H2[i]?=H[i]? := fun i hi=>by
  have hin:=h.rl i hi;rw [List.getElem?_eq_getElem hin];refine hs i _ (List.getElem?_eq_getElem hin) (fun Q e ei => ?_) (fun e => ?_)
  ·exact h.pr Q _ _ _ _ e (ei ▸ hi)
  ·exact h.hP (e ▸ hi)
 refine ⟨⟨h.hn,h.hP,fun i hi=>Nat.lt_of_lt_of_le (h.rl i hi) hlen,hs c _ h.cell (nq c _ _ h.cell D5.symm) (np c _ _ h.cell FR.symm),hpar,h.len,fun i w' l hi hl => ?_,hw,hwa,hwf,Nat.le_trans h.ql hlen,h.op.stay fun O cs hO=>hs O _ hO (nq O _ _ hO D6) (np O _ _ hO KU),h.oa,h.tg⟩,⟨hlen,hlow,fun i s pos hi=>hs i _ hi (fun Q e ei => ?_) (fun e => ?_)⟩,fun O cs hO=>hs O _ hO (nq O _ _ hO D6) (np O _ _ hO KU)⟩
 ·obtain ⟨h1,h2,h3⟩:=h.dn i w' l hi hl
  refine ⟨h1.stay fun Q cs e hQ=>hs Q _ hQ (fun Q' e' ei => ?_) (np Q _ _ hQ Ov),h2,h3⟩;have a1:=h2 Q _ _ _ _ e;have a2:=h.ab Q' _ _ _ _ e';omega
 ·obtain ⟨ds,hd⟩:=IJ h.cr e
  subst ei;rw [hi] at hd;cases hd
 ·subst e;rw [hi] at hP;cases hP
theorem oJ(l:List ag)(x p:ag):jH (l++[x]) p=sel (p.kind == 1&&x.kind == 1) (l++[{ x with text:=x.text++p.text }]) (l++[x]++[p]):=by
 unfold jH;rw [List.getLast?_concat,List.dropLast_concat]
theorem zR(hC:jT E){R:Nat→Prop}{c:Nat}{H:List AObj}{S:CSt}(hS:jd R c H S)(hd:S.done.length≤100000000)(hcu:S.cur.length≤100000000)(hct:∀ x∈S.cur,x.text.length≤100000000){p:ag}(hp:p.text.length≤100000000) :
  ∃ H',M.run bS [.ptr c 0,.agg p.row] H=some (.ret (.tuple []),H')∧jd R c H' { S with cur:=jH S.cur p }∧Frm R H H'∧StK H H':=by
 obtain ⟨P,q,vs,v,ta,ov,h⟩:=hS;obtain ⟨done,cur,pos,place,due,opn⟩:=S;dsimp only at hd hcu hct;have hvs:=h.len;dsimp only at hvs;have hc1:∀ X,(H++X)[c]?=_:=fun X=>bD h.cell
 have hp1:∀ X,(H++X)[P]?=_:=fun X=>bD h.par
 have hia:=qz (id:=P) (n:=done.length+1) (i:=done.length) (by omega) .i64
 have hld:bn none (vs++[v]) done.length=some v:=by
  simp only [bn];rw [← hvs,List.getElem?_append_right (Nat.le_refl _),Nat.sub_self];rfl
 have hw1:IntKind.i64.wrap (((done.length+1:Nat):Int)-1)=(done.length:Int):=by rw [bK (by omega) (by omega)];omega
 have hln:=fun G=>AS (G:=G) h.cr
 dsimp only at hln;have hcr:=h.cr;dsimp only at hcr;have hcr1:PcV (H++[.cells p.row ah]) v cur:=hcr.stay fun Q cs _ hQ=>bD hQ
 have more:jH cur p=cur++[p]→∀ k:Int,True→∃ w G,rap true (H++[.cells p.row ah]) ah 3 32 false v (.slice .full 3 [p.row])=some (w,G)∧(G[P]?=some (.cells (vs++[v]) al)) ∧
   stO 1 G P done.length [w] (some (.cells (vs++[v]) al))=some (G.set P (.cells (vs++[w]) al))∧cP w=some [w]∧jd R c (G.set P (.cells (vs++[w]) al)) ⟨done,jH cur p,pos,place,due,opn⟩∧Frm R H (G.set P (.cells (vs++[w]) al))∧StK H (G.set P (.cells (vs++[w]) al)):=fun hpf _ _=>by
  obtain ⟨G,a1,a2,a3,a4⟩:=Ow hcr1 hcu p;have hPlt:=cg h.par;have hlen1:(H++[AObj.cells p.row ah]).length=H.length+1:=by simp
  rw [hlen1] at a1 a2 a3 a4
  have nQ:∀ Q,v = .rslice Q 0 cur.length 3 true→P≠Q:=fun Q e ei=>by
   obtain ⟨ds,hds⟩:=IJ hcr e;subst ei;rw [h.par] at hds;cases hds
  have gP:G[P]?=some (.cells (vs++[v]) al):=by rw [a4 P (by omega) nQ];exact hp1 _
  refine ⟨_,G,a1,gP, ?_,rfl, ?_⟩
  ·rw [stO_cells (sz:=1) rfl (by simp;omega) rfl,setRow_cons,setRow_nil,← hvs,List.set_append_right _ _ (Nat.le_refl _),Nat.sub_self];rfl
  ·have:=h.turned (H2:=G.set P (.cells (vs++[.rslice (H.length+1) 0 (cur.length+1) 3 true]) al)) (cur:=jH cur p) (w:=.rslice (H.length+1) 0 (cur.length+1) 3 true) (by simp;omega) (fun i y hi hne hiP=>by
    rw [List.getElem?_set_ne hiP.symm,a4 i (by have:=(List.getElem?_eq_some_iff.1 hi).1;omega) hne];exact bD hi) (List.getElem?_set_self (by omega)) (.inr ⟨by rw [hpf];simp,H.length+1,by rw [hpf];simp,by rw [List.getElem?_set_ne (by omega),a2,hpf]⟩) (fun Q o n e r eq=>by cases eq;have:=h.ql;omega) (fun Q o n e r eq hR=>by cases eq;have:=h.rl _ hR;omega)
   exact ⟨⟨P,q,vs,_,ta,ov,this.1⟩,this.2⟩
 have r1:∀ H,oW (some H)=some (eB,H):=fun _=>rfl
 have gx:=fun X=>aL H X
 have ncP:c≠P:=MB h.cell h.par FR.symm
 have ncQ:∀ Q,v = .rslice Q 0 cur.length 3 true→c≠Q:=fun Q e ei=>by
  obtain ⟨ds,hds⟩:=IJ hcr e;exact MB h.cell hds D5.symm ei
 have ab:ig v=none∨∃ Q,ig v=some Q∧c≠Q:=by
  rcases hcr with ⟨_,rfl⟩ | ⟨_,Q,rfl,_⟩
  ·exact .inl rfl
  ·exact .inr ⟨Q,rfl,ncQ Q rfl⟩
 rcases (show cur=[]∨∃ l x,cur=l++[x] by
  rcases List.eq_nil_or_concat cur with h | ⟨l,x,h⟩
  ·exact .inl h
  ·exact .inr ⟨l,x,by simpa using h⟩) with rfl | ⟨l,x,rfl⟩
 ·obtain ⟨w,G,m1,m2,m3,m4,m5,m6⟩:=more rfl 0 trivial
  refine ⟨_, ?_,m5,m6⟩;have d0:decide ((0:Int)<((0:Nat):Int))=false:=rfl;rw [br M hC.docs_cutter_put rfl (c:=dS) rfl,dS]
  have ab0:ig v=none:=by
   rcases hcr with ⟨_,rfl⟩ | ⟨h,_⟩
   ·rfl
   ·exact absurd rfl h
  have aa:=r6 (D8 ncP);cases hk:p.kind == 1<;>simp (maxSteps:=3000000) (maxDischargeDepth:=6) +contextual -implicitDefEqProofs only [amC M,↓amD,Nat.reduceBEq,Nat.reduceAdd,env,aj,lX,amG,AV.cell,Nat.reduceMul,Nat.reduceLeDiff,rnc,hc1,hp1,gx,cl5,hia,hld,hw1,hln,hk,d0,aW,List.getElem?_cons_zero,m1,m2,m3,m4,r1,dyK,amZ,ab0,aa]
 ·obtain ⟨⟨Q,e1,e2⟩⟩:Nonempty (∃ Q,v = .rslice Q 0 (l.length+1) 3 true∧H[Q]?=some (.cells (pcC (l++[x])) ah)):=by
   rcases hcr with ⟨h0,_⟩ | ⟨_,Q,h1,h2⟩
   ·simp at h0
   ·exact ⟨⟨Q,by simpa using h1,h2⟩⟩
  have hl:l.length≤100000000:=by simp at hcu;omega
  have hxt:=hct x (by simp);have d1:decide ((0:Int)<(((l++[x]).length:Nat):Int))=true:=decide_eq_true (by simp);have hw2:IntKind.i64.wrap ((((l++[x]).length:Nat):Int)-1)=(l.length:Int):=by rw [bK (by simp) (by simp;omega)];simp
  have hiq:vv 3 v (.int .i64 (l.length:Int))=some (.ptr Q (l.length*3)):=by rw [e1];exact Ox (by omega) _
  have hQ1:∀ X,(H++X)[Q]?=_:=fun X=>bD e2
  obtain ⟨q1,q2⟩:=KV l x;have ab1:ig v=some Q:=by rw [e1];rfl
  have aa:=r6 (D7 ncP (ncQ Q (by rw [e1];simp)));generalize hn:(l++[x]).length=n at d1 hw2 hln;cases hk:p.kind == 1 with
  |false=>
   obtain ⟨w,G,m1,m2,m3,m4,m5,m6⟩:=more (by rw [oJ,hk];rfl) 0 trivial;refine ⟨_, ?_,m5,m6⟩;rw [br M hC.docs_cutter_put rfl (c:=dS) rfl,dS];simp (maxSteps:=3000000) (maxDischargeDepth:=6) +contextual -implicitDefEqProofs only [amC M,↓amD,Nat.reduceBEq,Nat.reduceAdd,env,aj,lX,amG,AV.cell,Nat.reduceMul,Nat.reduceLeDiff,rnc,hc1,hp1,gx,cl5,hia,hld,hw1,hln,hk,d1,aW,List.getElem?_cons_zero,m1,m2,m3,m4,r1,dyK,amZ,ab1,aa,Nat.add_zero]
  |true=>
   cases hx:x.kind == 1 with
   |false=>
    obtain ⟨w,G,m1,m2,m3,m4,m5,m6⟩:=more (by rw [oJ,hk,hx];rfl) 0 trivial;refine ⟨_, ?_,m5,m6⟩;rw [br M hC.docs_cutter_put rfl (c:=dS) rfl,dS];simp (maxSteps:=3000000) (maxDischargeDepth:=6) +contextual -implicitDefEqProofs only [amC M,↓amD,Nat.reduceBEq,Nat.reduceAdd,env,aj,lX,amG,AV.cell,Nat.reduceMul,Nat.reduceLeDiff,rnc,hc1,hp1,gx,cl5,hia,hld,hw1,hln,hk,hx,d1,hw2,hiq,hQ1,q1,aW,List.getElem?_cons_zero,m1,m2,m3,m4,r1,dyK,amZ,ab1,aa,Nat.add_zero]
   |true=>
    have hpf:jH (l++[x]) p=l++[{ x with text:=x.text++p.text }]:=by rw [oJ,hk,hx];rfl
    have ha:=GO (s:=x.text) (t:=p.text) (by simp only [List.length_append] at *;omega);have hqlt:=cg e2
    have hst:stO 1 (H++[AObj.cells p.row ah]) Q (l.length*3+1) [.str (x.text++p.text)] (some (.cells (pcC (l++[x])) ah))=some ((H++[AObj.cells p.row ah]).set Q (AObj.cells (pcC (jH (l++[x]) p)) ah)):=by
     rw [stO_cells (sz:=1) rfl (by rw [rX];simp;omega) rfl,KW,hpf]
    have:=h.turned (H2:=(H++[AObj.cells p.row ah]).set Q (AObj.cells (pcC (jH (l++[x]) p)) ah)) (cur:=jH (l++[x]) p) (w:=v) (by simp) (fun i y hi hne hiP=>by
     rw [List.getElem?_set_ne (fun e=>hne Q (by rw [e1];simp) e.symm)];exact bD hi) (by rw [List.getElem?_set_ne (MB e2 h.par Ov)];exact hp1 _) (.inr ⟨by rw [hpf];simp,Q,by rw [hpf,e1];simp,List.getElem?_set_self (by simp;omega)⟩) h.ab h.pr
    refine ⟨_, ?_,⟨P,q,vs,v,ta,ov,this.1⟩,this.2⟩;rw [br M hC.docs_cutter_put rfl (c:=dS) rfl,dS];simp (maxSteps:=3000000) (maxDischargeDepth:=6) +contextual -implicitDefEqProofs only [amC M,↓amD,Nat.reduceBEq,Nat.reduceAdd,env,aj,lX,amG,AV.cell,Nat.reduceMul,Nat.reduceLeDiff,rnc,hc1,hp1,gx,cl5,hia,hld,hw1,hln,hk,hx,d1,hw2,hiq,hQ1,q1,q2,ha,hst,aW,List.getElem?_cons_zero,r1,dyK,amZ,Nat.add_zero]
end
section
attribute [local congr] aI bR aZ aJ aY aR aK aC aD aS aT
variable{E:bG}(M:cJ cM E)
theorem KY{l:List ag}{p:ag}(h:(p.kind == 1)=false):jH l p=l++[p]:=by
 unfold jH;cases hl:l.getLast? with
 |none=>simp at hl;subst hl;rfl
 |some x=>dsimp only;rw [h];rfl
def zS(s:Str):ag:=⟨3,s,true⟩
def IK(s:Str):ag:=⟨2,s,true⟩
theorem AT{H:List AObj}{v:AV}{l:List Str}(h:OpV H v l){i:Nat}{s:Str}(hi:l[i]?=some s):∃ O cs,vv 1 v (.int .i64 (i:Int))=some (.ptr O i)∧H[O]?=some (.cells cs aH)∧bn none cs i=some (.str s):=by
 rcases h with ⟨rfl,rfl⟩ | ⟨O,junk,rfl,h2⟩
 ·simp at hi
 ·have hlt:=(List.getElem?_eq_some_iff.1 hi).1
  refine ⟨O,_,qz hlt _,h2, ?_⟩;simp only [bn];rw [List.getElem?_append_left (by rw [kg];exact hlt),kr,List.getElem?_map,hi];rfl
theorem tK{H G:List AObj}{v:AV}{l:List Str}(h:OpV H v l):rG G .sl v=some (.int .i64 (l.length:Int)):=by
 rcases h with ⟨rfl,rfl⟩ | ⟨O,junk,rfl,_⟩<;>rfl
theorem tn0(hC:jT E){R:Nat→Prop}{c:Nat}{H0:List AObj}:∀ (n:Nat) (H:List AObj) (S:CSt),jd R c H S→n≤S.opn.length→S.opn.length≤100000→(∀ s∈S.opn,s.length≤100000000)→S.done.length≤100000000→S.cur.length+n≤100000000→(∀ x∈S.cur,x.text.length≤100000000) →
  ∃ H',(∀ (k:List Fra) (He:List AObj),M.go ew H0 (.c gQ :: .lp ⟨(some [0,2]),[],false⟩ gQ He :: .blk 0 :: .c (.lv [0])::k) (kv [(0,.ptr c 0),(2,.int .i64 ((n:Int)-1))]) H=M.go ew H0 k (kv [(0,.ptr c 0)]) H')∧jd R c H' { S with cur:=S.cur++((S.opn.take n).reverse.map zS) }∧Frm R H H'
 |0,H,S,hS,hn,ho,hol,hd,hcu,hct=>by
  refine ⟨H,fun k He => ?_,by simpa using hS,Frm.refl _ _⟩;have h0:decide ((0:Int)≤((0:Nat):Int)-1)=false:=rfl;rw [ak M gQ.eq_1];simp (maxSteps:=3000000) (maxDischargeDepth:=6) +contextual -implicitDefEqProofs only [amC M,↓amD,Nat.reduceBEq,Nat.reduceAdd,env,aj,iX,h0]
 |n+1,H,S,hS,hn,ho,hol,hd,hcu,hct=>by
  have hlt:n<S.opn.length:=by omega
  have hx:S.opn[n]?=some S.opn[n]:=List.getElem?_eq_getElem hlt;have hm:=List.getElem_mem hlt;obtain ⟨H1,p1,p2,p3,p4⟩:=zR M hC hS hd (by omega) hct (p:=zS S.opn[n]) (hol _ hm);rw [KY rfl] at p2
  obtain ⟨H2,i1,i2,i3⟩:=tn0 hC (H0:=H0) n H1 _ p2 (by dsimp only;omega) ho hol hd (by simp;omega) (fun x hx=>by
   rcases List.mem_append.1 hx with hx | hx
   ·exact hct x hx
   ·rw [List.mem_singleton] at hx;subst hx;exact hol _ hm)
  refine ⟨H2,fun k He => ?_, ?_,p3.trans i3⟩
  ·rw [← i1 k H1]
   obtain ⟨P,q,vs,v,ta,ov,h⟩:=hS;obtain ⟨O,cs,o1,o2,o3⟩:=AT h.op hx;have hc:=h.cell;have e1:((n+1:Nat):Int)-1=(n:Int):=by omega
   have h0:decide ((0:Int)≤(n:Int))=true:=decide_eq_true (by omega);have hw1:IntKind.i64.wrap ((n:Int)-1)=(n:Int)-1:=bK (by omega) (by omega);have hbd:M.run bS [.ptr c 0,.agg [.int .u8 3,.str S.opn[n],.bool true]] H=some (.ret (.tuple []),H1):=p1;rw [e1];rw [ak M gQ.eq_1];simp (maxSteps:=3000000) (maxDischargeDepth:=6) +contextual -implicitDefEqProofs only [amC M,↓amD,Nat.reduceBEq,Nat.reduceAdd,env,aj,iX,amG,AV.cell,Nat.reduceMul,Nat.reduceLeDiff,rnc,h0,hw1,hc,cl5,o1,o2,o3,hbd]
  ·have e:(S.opn.take (n+1)).reverse.map zS=zS S.opn[n]::(S.opn.take n).reverse.map zS:=by rw [List.take_add_one,hx];rw [Option.toList_some,List.reverse_append,List.map_append];rfl
   rw [e];simpa using i2
theorem tn1(hC:jT E){R:Nat→Prop}{c:Nat}{H0:List AObj}{ov:AV}:∀ (n i:Nat) (H:List AObj) (S:CSt),jd R c H S→OpV H ov S.opn→i+n=S.opn.length→S.opn.length≤100000→(∀ s∈S.opn,s.length≤100000000)→S.done.length≤100000000→S.cur.length+n≤100000000→(∀ x∈S.cur,x.text.length≤100000000) →
  ∃ H',(∀ (k:List Fra) (He:List AObj),M.go ew H0 (.c gR :: .lp ⟨(some [0,37,38,39]),[],false⟩ gR He :: .blk 2 :: .c (.lv [0])::k) (kv [(0,.ptr c 0),(37,ov),(38,.int .i64 S.opn.length),(39,.int .i64 i)]) H=M.go ew H0 k (kv [(0,.ptr c 0)]) H')∧jd R c H' { S with cur:=S.cur++((S.opn.drop i).map IK) }∧Frm R H H'
 |0,i,H,S,hS,ho,hn,hol,hot,hd,hcu,hct=>by
  have e:i=S.opn.length:=by omega
  subst e;refine ⟨H,fun k He => ?_,by rw [List.drop_length];simpa using hS,Frm.refl _ _⟩;rw [ak M gR.eq_1];simp (maxSteps:=3000000) (maxDischargeDepth:=6) +contextual -implicitDefEqProofs only [amC M,↓amD,Nat.reduceBEq,Nat.reduceAdd,env,aj,iX,Nat.lt_irrefl]
 |n+1,i,H,S,hS,ho,hn,hol,hot,hd,hcu,hct=>by
  have hlt:i<S.opn.length:=by omega
  have hx:S.opn[i]?=some S.opn[i]:=List.getElem?_eq_getElem hlt;have hm:=List.getElem_mem hlt;obtain ⟨H1,p1,p2,p3,p4⟩:=zR M hC hS hd (by omega) hct (p:=IK S.opn[i]) (hot _ hm);rw [KY rfl] at p2
  obtain ⟨H2,i1,i2,i3⟩:=tn1 hC (H0:=H0) n (i+1) H1 _ p2 (ho.stay p4) (by dsimp only;omega) hol hot hd (by simp;omega) (fun x hx=>by
   rcases List.mem_append.1 hx with hx | hx
   ·exact hct x hx
   ·rw [List.mem_singleton] at hx;subst hx;exact hot _ hm)
  refine ⟨H2,fun k He => ?_, ?_,p3.trans i3⟩
  ·rw [← i1 k H1]
   obtain ⟨O,cs,o1,o2,o3⟩:=AT ho hx;have hw1:=bt (n:=S.opn.length) hlt (by simp only [aX];omega);have hbd:M.run bS [.ptr c 0,.agg [.int .u8 2,.str S.opn[i],.bool true]] H=some (.ret (.tuple []),H1):=p1;rw [ak M gR.eq_1];simp (maxSteps:=3000000) (maxDischargeDepth:=6) +contextual -implicitDefEqProofs only [amC M,↓amD,Nat.reduceBEq,Nat.reduceAdd,env,aj,iX,amG,AV.cell,Nat.reduceMul,Nat.reduceLeDiff,rnc,hlt,hw1,o1,o2,o3,hbd]
  ·rw [List.drop_eq_getElem_cons hlt,List.map_cons]
   simpa using i2
theorem Sa{G:List AObj}{P R m:Nat}{vs:List AV}{v:AV}{T:TypeId}(hvs:vs.length=m)(hv:v.cell=true)(hP:G[P]?=some (.cells (vs++[v]) al))(hR:G[R]?=some (.cells [.slice .nil 3 []] T))(hm:m≤100000000) :
  rap true G al 1 24 false (.rslice P 0 (m+1) 1 true) (.rslice R 0 1 1 true)=some (.rslice G.length 0 (m+1+1) 1 true,G.set P .dead++[.cells (vs++[v]++[.slice .nil 3 []]) al]):=by
 have hs:pS G 1 false (.rslice R 0 1 1 true)=some [[.slice .nil 3 []]]:=by
  simp only [pS,hR];rw [if_pos ⟨trivial,by simp⟩];rfl
 simp only [rap,pY,hs,hP];rw [if_pos (show qR 1 [[AV.slice .nil 3 []]]=true from rfl),if_pos ⟨trivial,trivial,by simp;omega,by simp;omega,by simp;omega⟩,List.take_of_length_le (by simp;omega)];rfl
theorem yM.upd{R:Nat→Prop}{c:Nat}{H:List AObj}{S:CSt}{P q:Nat}{vs:List AV}{v:AV}{ta:Tag}{ov:AV}(h:yM R c H S P q vs v ta ov)(pos:List Int)(place:Nat)(due:Bool)(opn:List Str)(ta':Tag)(ov':AV)(ho:OpV H ov' opn)(ha:free R ov')(ht:ta' = .any∨ta' = .some∨pos=[]) :
  yM R c (H.set c (.cells [.rslice P 0 (S.done.length+1) 1 true,.slice ta' 1 (pos.map bU),.int .i64 place,.bool due,ov'] bo)) { S with pos:=pos,place:=place,due:=due,opn:=opn } P q vs v ta' ov'∧Frm R H (H.set c (.cells [.rslice P 0 (S.done.length+1) 1 true,.slice ta' 1 (pos.map bU),.int .i64 place,.bool due,ov'] bo)) ∧
   StK H (H.set c (.cells [.rslice P 0 (S.done.length+1) 1 true,.slice ta' 1 (pos.map bU),.int .i64 place,.bool due,ov'] bo)):=
 ⟨⟨h.hn,h.hP,fun i hi=>by simpa using h.rl i hi,List.getElem?_set_self (cg h.cell),jt h.cell FR h.par,h.len,fun i w l hi hl=>⟨(h.dn i w l hi hl).1.stay fun Q cs _ hQ=>jt h.cell D5 hQ,(h.dn i w l hi hl).2⟩,h.cr.stay fun Q cs _ hQ=>jt h.cell D5 hQ,h.ab,h.pr,by simpa using h.ql,ho.stay fun O cs hO=>jt h.cell FQ hO,ha,ht⟩,Frm.set _ h.hn h.cell,fun O cs hO=>jt h.cell FQ hO⟩
def tl(S:CSt):CSt := { S with done:=S.done++[S.cur++S.opn.reverse.map zS],cur:=S.opn.map IK,due:=false }
theorem Oy(hC:jT E){R:Nat→Prop}{c:Nat}{H:List AObj}{S:CSt}(hS:jd R c H S)(ho:S.opn.length≤100000)(hot:∀ s∈S.opn,s.length≤100000000)(hd:S.done.length≤100000)(hcu:S.cur.length≤100000)(hct:∀ x∈S.cur,x.text.length≤100000000) :
  ∃ H',M.run ee [.ptr c 0] H=some (.ret (.tuple []),H')∧jd R c H' (tl S)∧Frm R H H':=by
 obtain ⟨H1,e1,s1,f1⟩:=tn0 M hC (R:=R) (c:=c) (H0:=H) S.opn.length H S hS (Nat.le_refl _) ho hot (by omega) (by omega) hct;obtain ⟨P0,q0,vs0,v0,ta0,ov0,h0⟩:=hS;obtain ⟨P,q,vs,v,ta,ov,h⟩:=s1;rw [List.take_length] at h;have hvs:=h.len;dsimp only at hvs;have hcl:=cg h.cell;have hpl:=cg h.par;have hc1:∀ X,(H1++X)[c]?=_:=fun X=>bD h.cell
 have hr1:∀ x:AObj,(H1++[x])[H1.length]?=some x:=fun x=>aL H1 [x]
 have app:=fun X=>Sa (G:=H1++[AObj.cells [.slice .nil 3 []] X]) (P:=P) (R:=H1.length) (m:=S.done.length) hvs (zQ h.cr).1 (bD h.par) (hr1 _) (by omega)
 obtain ⟨G,hG⟩:∃ G,G=(H1++[AObj.cells [.slice .nil 3 []] al]).set P .dead++[AObj.cells (vs++[v]++[.slice .nil 3 []]) al]:=⟨_,rfl⟩
 have gL:G.length=H1.length+2:=by rw [hG];simp
 have gK:∀ (i:Nat) (cs:List AV) (T:TypeId),H1[i]?=some (.cells cs T)→T≠al→G[i]?=some (.cells cs T):=fun i cs T hi hT=>by
  have hlt:=cg hi;rw [hG,List.getElem?_append_left (by simp;omega),List.getElem?_set_ne (MB h.par hi hT.symm)];exact bD hi
 have gP:G[H1.length+1]?=some (.cells (vs++[v]++[.slice .nil 3 []]) al):=by
  rw [hG,List.getElem?_append_right (by simp)];simp
 have gF:Frm R H1 G:=⟨by omega,fun i hi=>by
  have hlt:=h.rl i hi;rw [hG,List.getElem?_append_left (by simp;omega),List.getElem?_set_ne (fun e:P=i=>h.hP (by rw [e];exact hi)),List.getElem?_append_left hlt],fun i s pos hi=>by
  have hlt:=(List.getElem?_eq_some_iff.1 hi).1;rw [hG,List.getElem?_append_left (by simp;omega),List.getElem?_set_ne (fun e=>by subst e;rw [h.par] at hi;cases hi),List.getElem?_append_left hlt];exact hi⟩
 have gc:=gK c _ _ h.cell FR.symm;have app1:=app al;rw [← hG] at app1;simp only [List.length_append,List.length_cons,List.length_nil,Nat.zero_add] at app1
 have w2:yM R c (G.set c (.cells [.rslice (H1.length+1) 0 (S.done.length+1+1) 1 true,.slice ta 1 (S.pos.map bU),.int .i64 S.place,.bool S.due,ov] bo)) { S with done:=S.done++[S.cur++S.opn.reverse.map zS],cur:=[] } (H1.length+1) H1.length (vs++[v]) (.slice .nil 3 []) ta ov:=by
  have gp:∀ (w:AV) (l:List ag),PcV H1 w l→PcV (G.set c (.cells [.rslice (H1.length+1) 0 (S.done.length+1+1) 1 true,.slice ta 1 (S.pos.map bU),.int .i64 S.place,.bool S.due,ov] bo)) w l:=fun w l hw=>hw.stay fun Q cs _ hQ=>jt gc D5 (gK Q _ _ hQ Ov)
  refine ⟨h.hn,fun hR=>by have:=h.rl _ hR;omega,fun i hi=>by have:=h.rl i hi;simp;omega,by rw [List.getElem?_set_self (by omega)];simp,jt gc FR gP,by simp [hvs],fun i w l hi hl => ?_,.inl ⟨rfl,rfl⟩,fun Q o n e r eq=>(by cases eq),fun Q o n e r eq=>(by cases eq),by simp;omega,h.op.stay fun O cs hO=>jt gc FQ (gK O _ _ hO KU),h.oa,h.tg⟩
  by_cases hlt:i<vs.length
  ·rw [List.getElem?_append_left hlt] at hi
   rw [List.getElem?_append_left (by omega)] at hl;obtain ⟨d1,d2,d3⟩:=h.dn i w l hi hl;exact ⟨gp w l d1,fun Q o n e r eq=>Nat.lt_of_lt_of_le (d2 Q o n e r eq) h.ql,d3⟩
  ·have hi2:i=vs.length:=by
    have:=(List.getElem?_eq_some_iff.1 hi).1;simp at this;omega
   subst hi2;rw [List.getElem?_append_right (Nat.le_refl _),Nat.sub_self,List.getElem?_cons_zero] at hi;rw [List.getElem?_append_right (by omega),show vs.length-S.done.length=0 by omega,List.getElem?_cons_zero] at hl;cases hi;cases hl;refine ⟨gp v _ h.cr,fun Q o n e r eq => ?_,h.pr⟩;rcases h.cr with ⟨_,hv⟩ | ⟨_,Q',hv,hQ⟩
   ·rw [hv] at eq;cases eq
   ·rw [hv] at eq;cases eq;exact cg hQ
 have f2:Frm R G (G.set c (.cells [.rslice (H1.length+1) 0 (S.done.length+1+1) 1 true,.slice ta 1 (S.pos.map bU),.int .i64 S.place,.bool S.due,ov] bo)):=Frm.set _ h.hn gc;obtain ⟨G2,hG2⟩:∃ G2,G2=G.set c (.cells [.rslice (H1.length+1) 0 (S.done.length+1+1) 1 true,.slice ta 1 (S.pos.map bU),.int .i64 S.place,.bool S.due,ov] bo):=⟨_,rfl⟩
 rw [← hG2] at w2 f2;obtain ⟨H3,e3,s3,f3⟩:=tn1 M hC (R:=R) (c:=c) (H0:=H) (ov:=ov) S.opn.length 0 G2 _ ⟨_,_,_,_,_,_,w2⟩ w2.op (by dsimp only;omega) ho hot (by simp;omega) (by simp;omega) (fun x hx=>by cases hx);obtain ⟨P4,q4,vs4,v4,ta4,ov4,h4⟩:=s3;have u4:=h4.upd S.pos S.place false S.opn ta4 ov4 h4.op h4.oa h4.tg;refine ⟨_, ?_,⟨P4,q4,vs4,v4,ta4,ov4, ?_⟩,(((f1.trans gF).trans f2).trans f3).trans u4.2.1⟩
 ·have hln0:=fun G=>tK (G:=G) h0.op
  have hln2:=fun G=>tK (G:=G) w2.op
  dsimp only at hln2;have hw1:IntKind.i64.wrap ((S.opn.length:Int)-1)=(S.opn.length:Int)-1:=bK (by omega) (by omega);have hc0:=h0.cell;have hc2:=w2.cell;have hc4:=h4.cell;have hc10:=h.cell;have r1:∀ H,oW (some H)=some (eB,H):=fun _=>rfl
  have st5:∀ (a b c0 d e x:AV),bf [a,b,c0,d,e] 0 [x]=[x,b,c0,d,e]∧bf [a,b,c0,d,e] 3 [x]=[a,b,c0,x,e]:=fun _ _ _ _ _ _=>⟨rfl,rfl⟩
  have so1:=stO_cells (sz:=1) (H:=G) (id:=c) (off:=0) (cs:=[.rslice (H1.length+1) 0 (S.done.length+1+1) 1 true]) (T:=bo) (old:=[.rslice P 0 (S.done.length+1) 1 true,.slice ta 1 (S.pos.map bU),.int .i64 S.place,.bool S.due,ov]) rfl (by simp) rfl;have so2:=stO_cells (sz:=1) (H:=H3) (id:=c) (off:=3) (cs:=[.bool false]) (T:=bo) (old:=[.rslice P4 0 ((S.done++[S.cur++S.opn.reverse.map zS]).length+1) 1 true,.slice ta4 1 (S.pos.map bU),.int .i64 S.place,.bool S.due,ov4]) rfl (by simp) rfl
  simp only [(st5 _ _ _ _ _ _).1,(st5 _ _ _ _ _ _).2,← hG2] at so1 so2;simp only [kv_cons,kv_nil,Int.ofNat_zero] at e1 e3;dsimp only at hc1 hc10 gc hc2 hc4 e3;rw [br M hC.docs_cutter_turn rfl (c:=ow) rfl,ow];simp (maxSteps:=3000000) (maxDischargeDepth:=6) +contextual -implicitDefEqProofs only [amC M,↓amD,Nat.reduceBEq,Nat.reduceAdd,env,aj,iX,amG,AV.cell,Nat.reduceMul,Nat.reduceLeDiff,rnc,hc0,cl5,hln0,hw1,e1,hc10,hc1,gc,app1,so1,hG2.symm,hc2,hln2,e3,hc4,so2,r1]
 ·have:=u4.1
  simpa [tl] using this
end
section
attribute [local congr] aI bR aZ aJ aY aR aK aC aD aS aT
variable{E:bG}(M:cJ cM E)
theorem yM.app{R:Nat→Prop}{c:Nat}{H:List AObj}{S:CSt}{P q:Nat}{vs:List AV}{v:AV}{ta:Tag}{ov:AV}(h:yM R c H S P q vs v ta ov)(X:List AObj):yM R c (H++X) S P q vs v ta ov:=
 ⟨h.hn,h.hP,fun i hi=>by have:=h.rl i hi;simp;omega,bD h.cell,bD h.par,h.len,fun i w l hi hl=>⟨(h.dn i w l hi hl).1.stay fun Q cs _ hQ=>bD hQ,(h.dn i w l hi hl).2⟩,h.cr.stay fun Q cs _ hQ=>bD hQ,h.ab,h.pr,by have:=h.ql;simp;omega,h.op.stay fun O cs hO=>bD hO,h.oa,h.tg⟩
theorem jd.app{R:Nat→Prop}{c:Nat}{H:List AObj}{S:CSt}(h:jd R c H S)(X:List AObj):jd R c (H++X) S:=by
 obtain ⟨P,q,vs,v,ta,ov,h⟩:=h;exact ⟨P,q,vs,v,ta,ov,h.app X⟩
theorem jd.le{R:Nat→Prop}{c:Nat}{H:List AObj}{S:CSt}(h:jd R c H S):c<H.length∧∀ i,R i→i<H.length:=by
 obtain ⟨P,q,vs,v,ta,ov,h⟩:=h;exact ⟨cg h.cell,h.rl⟩
theorem Rf{R:Nat→Prop}{G:List AObj}{v:AV}{l:List Str}(h:OpV G v l)(ha:free R v)(hn:∀ i,R i→i<G.length)(hl:l.length≤100000000)(s:Str) :
  ∃ v' G',rap true G aH 1 16 false v (.slice .full 1 [[.str s]])=some (v',G')∧OpV G' v' (l++[s])∧free R v'∧v'.cell=true∧cP v'=some [v']∧Frm R G G'∧∀ (i:Nat) (cs:List AV) (T:TypeId),G[i]?=some (AObj.cells cs T)→T≠aH→G'[i]?=some (AObj.cells cs T):=by
 rcases h with ⟨rfl,rfl⟩ | ⟨O,junk,rfl,hg⟩
 ·refine ⟨.rslice G.length 0 1 1 true,G++[.cells [.str s] aH], ?_,.inr ⟨G.length,[],rfl,by rw [aL];rfl⟩,fun Q o n e r eq hR=>(by cases eq;have:=hn _ hR;omega),rfl,rfl,Frm.app _ _ hn,fun i cs T hi _=>bD hi⟩
  simp only [rap,pY,pS,or_true,if_true,na];rw [if_pos (by simp)];rfl
 ·have hlt:=cg hg
  have hO:=ha O _ _ _ _ rfl;have hlen:l.length*1≤(kr l++junk).length:=by rw [List.length_append,kg];omega
  refine ⟨.rslice G.length 0 (l.length+1) 1 true,G.set O .dead++[.cells (kr (l++[s])) aH], ?_,.inr ⟨G.length,[],by simp, ?_⟩,fun Q o n e r eq hR=>(by cases eq;have:=hn _ hR;omega),rfl,rfl,⟨by simp,fun i hi => ?_,fun i s pos hi => ?_⟩,fun i cs T hi hT => ?_⟩
  ·simp only [rap,pY,pS,or_true,if_true,na,hg]
   rw [if_pos ⟨trivial,trivial,hlen,by simp;omega,by simp;omega⟩];simp only [Nat.mul_one];rw [List.take_left' (by rw [kg]),xl];rfl
  ·rw [List.append_nil,show G.length=(G.set O .dead).length by simp,aL];rfl
  ·have:=hn i hi
   rw [List.getElem?_append_left (by simp;omega),List.getElem?_set_ne (fun e:O=i=>hO (by rw [e];exact hi))]
  ·have:=(List.getElem?_eq_some_iff.1 hi).1
   rw [List.getElem?_append_left (by simp;omega),List.getElem?_set_ne (fun e=>by subst e;rw [hg] at hi;cases hi)];exact hi
  ·have:=cg hi
   rw [List.getElem?_append_left (by simp;omega),List.getElem?_set_ne (MB hg hi hT.symm)];exact hi
theorem Oz{G:List AObj}{v:AV}{l:List Str}{s:Str}(h:OpV G v (l++[s])){R:Nat→Prop}(ha:free R v):∃ v',CB 1 v none (some (.int .i64 (l.length:Int))) none=some v'∧OpV G v' l∧free R v'∧v'.cell=true∧cP v'=some [v']:=by
 rcases h with ⟨h,_⟩ | ⟨O,junk,rfl,hg⟩
 ·simp at h
 ·refine ⟨.rslice O 0 l.length 1 true, ?_,.inr ⟨O,.str s::junk,rfl,by rw [hg,xl,List.append_assoc];rfl⟩,fun Q o n e r eq=>(by cases eq;exact ha O _ _ _ _ rfl),rfl,rfl⟩
  have h1:eL (some (.int .i64 (l.length:Int))) (l++[s]).length=some l.length:=by simp [eL]
  simp only [CB,h1,(show eL none 0=some 0 from rfl)];cases l with
  |nil=>rfl
  |cons y t=>rw [if_pos (by simp)];simp
def oF(S:CSt)(p:ag):CSt:=sel (S.due && !(p.kind == 3)) (tl S) S
def sL(l:List Str)(p:ag):List Str:=sel (p.kind == 2) (l++[p.text]) (sel (p.kind == 3) l.dropLast l)
def GV(S:CSt)(p:ag):CSt := { oF S p with opn:=sL (oF S p).opn p,cur:=jH (oF S p).cur p }
structure CBd (S:CSt):Prop where
 opn:S.opn.length≤100000
 opt:∀ s∈S.opn,s.length≤100000000
 done:S.done.length≤100000
 cur:S.cur.length≤100000
 txt:∀ x∈S.cur,x.text.length≤100000000
theorem IL(S:CSt)(p:ag):(oF S p).opn=S.opn:=by unfold oF;cases S.due && !(p.kind == 3)<;>rfl
theorem KZ{S:CSt}(h:CBd S)(p:ag):(oF S p).done.length≤100000000∧(oF S p).cur.length≤100000000∧∀ x∈(oF S p).cur,x.text.length≤100000000:=by
 have h1:=h.opn;have h2:=h.done;have h3:=h.cur;unfold oF;cases S.due && !(p.kind == 3) with
 |false=>exact ⟨by rw [sel_false];omega,by rw [sel_false];omega,by rw [sel_false];exact h.txt⟩
 |true=>
  rw [sel_true];refine ⟨by simp [tl];omega,by simp [tl];omega,fun x hx => ?_⟩;obtain ⟨s,hs,rfl⟩:=List.mem_map.1 (show x∈S.opn.map IK from hx);exact h.opt s hs
def R1(R:Nat→Prop)(k:Nat):Nat→Prop:=fun i=>R i∨i=k
theorem jd.more{R:Nat→Prop}{c:Nat}{H:List AObj}{S:CSt}(h:jd R c H S)(x:AObj):jd (R1 R H.length) c (H++[x]) S:=by
 obtain ⟨P,q,vs,v,ta,ov,h⟩:=h;have h2:=h.app [x]
 have fr:∀ (w:AV) (l:List ag),PcV H w l→free R w→free (R1 R H.length) w:=fun w l hp hf Q o n e r eq hR=>by
  rcases hR with hR | hR
  ·exact hf Q o n e r eq hR
  ·rcases hp with ⟨_,hv⟩ | ⟨_,Q',hv,hQ⟩
   ·rw [hv] at eq;cases eq
   ·rw [hv] at eq;cases eq;have:=cg hQ;omega
 refine ⟨P,q,vs,v,ta,ov,⟨fun hR => ?_,fun hR => ?_,fun i hi => ?_,h2.cell,h2.par,h2.len,fun i w l hi hl=>⟨(h2.dn i w l hi hl).1,(h2.dn i w l hi hl).2.1,fr w l (h.dn i w l hi hl).1 (h.dn i w l hi hl).2.2⟩,h2.cr,h2.ab,fr v _ h.cr h.pr,h2.ql,h2.op,fun Q o n e r eq hR => ?_,h2.tg⟩⟩
 ·rcases hR with hR | hR
  ·exact h.hn hR
  ·have:=cg h.cell;omega
 ·rcases hR with hR | hR
  ·exact h.hP hR
  ·have:=cg h.par;omega
 ·rcases hi with hi | hi
  ·have:=h.rl i hi;simp;omega
  ·simp;omega
 ·rcases hR with hR | hR
  ·exact h.oa Q o n e r eq hR
  ·rcases h.op with ⟨_,hv⟩ | ⟨O,junk,hv,hO⟩
   ·rw [hv] at eq;cases eq
   ·rw [hv] at eq;cases eq;have:=cg hO;omega
theorem jd.mono{R R':Nat→Prop}{c:Nat}{H:List AObj}{S:CSt}(h:jd R c H S)(hr:∀ i,R' i→R i):jd R' c H S:=by
 obtain ⟨P,q,vs,v,ta,ov,h⟩:=h;exact ⟨P,q,vs,v,ta,ov,⟨fun hR=>h.hn (hr _ hR),fun hR=>h.hP (hr _ hR),fun i hi=>h.rl i (hr i hi),h.cell,h.par,h.len,fun i w l hi hl=>⟨(h.dn i w l hi hl).1,(h.dn i w l hi hl).2.1,fun Q o n e r eq hR=>(h.dn i w l hi hl).2.2 Q o n e r eq (hr _ hR)⟩,h.cr,h.ab,fun Q o n e r eq hR=>h.pr Q o n e r eq (hr _ hR),h.ql,h.op,fun Q o n e r eq hR=>h.oa Q o n e r eq (hr _ hR),h.tg⟩⟩
theorem yM.upo{R:Nat→Prop}{c:Nat}{H G:List AObj}{S:CSt}{P q:Nat}{vs:List AV}{v:AV}{ta:Tag}{ov:AV}(h:yM R c H S P q vs v ta ov)(f:Frm R H G)(hT:∀ (i:Nat) (cs:List AV) (T:TypeId),H[i]?=some (AObj.cells cs T)→T≠aH→G[i]?=some (AObj.cells cs T))(ov':AV)(opn:List Str)(ho:OpV G ov' opn)(ha:free R ov') :
  yM R c (G.set c (.cells [.rslice P 0 (S.done.length+1) 1 true,.slice ta 1 (S.pos.map bU),.int .i64 S.place,.bool S.due,ov'] bo)) { S with opn:=opn } P q vs v ta ov'∧Frm R G (G.set c (.cells [.rslice P 0 (S.done.length+1) 1 true,.slice ta 1 (S.pos.map bU),.int .i64 S.place,.bool S.due,ov'] bo))∧True:=by
 have gc:=hT c _ _ h.cell FQ.symm;exact ⟨⟨h.hn,h.hP,fun i hi=>by have:=h.rl i hi;have:=f.len;simp;omega,List.getElem?_set_self (cg gc),jt gc FR (hT P _ _ h.par KU.symm),h.len,fun i w l hi hl=>⟨(h.dn i w l hi hl).1.stay fun Q cs _ hQ=>jt gc D5 (hT Q _ _ hQ D6.symm),(h.dn i w l hi hl).2⟩,h.cr.stay fun Q cs _ hQ=>jt gc D5 (hT Q _ _ hQ D6.symm),h.ab,h.pr,by have:=h.ql;have:=f.len;simp;omega,ho.stay fun O cs hO=>jt gc FQ hO,ha,h.tg⟩,Frm.set _ h.hn gc,trivial⟩
theorem IM(hC:jT E){R:Nat→Prop}{c:Nat}{H:List AObj}{S:CSt}(hS:jd R c H S)(hB:CBd S) :
  ∃ H',M.run ee [.ptr c 0] H=some (.ret (.tuple []),H')∧jd R c H' (tl S)∧Frm R H H':=Oy M hC hS (by have:=hB.opn;omega) hB.opt hB.done hB.cur hB.txt
theorem OA{R:Nat→Prop}{c:Nat}{H:List AObj}{S:CSt}(h:jd R c H S):∃ cs,H[c]?=some (.cells cs bo)∧bn none cs 3=some (.bool S.due):=by
 obtain ⟨P,q,vs,v,ta,ov,h⟩:=h;exact ⟨_,h.cell,rfl⟩
theorem Qx(hC:jT E){R:Nat→Prop}{c:Nat}{H:List AObj}{S:CSt}(hS:jd R c H S)(hB:CBd S){p:ag}(hp:p.text.length≤100000000)(hop:(p.kind == 3)=true→S.opn≠[]) :
  ∃ H',M.run lV [.ptr c 0,.agg p.row] H=some (.ret (.tuple []),H')∧jd R c H' (GV S p)∧Frm R H H':=by
 have h23:(p.kind == 3)=true→(p.kind == 2)=false:=fun h=>by rw [eq_of_beq h];rfl
 obtain ⟨l1,l2⟩:=hS.le;have h0:=hS.more (.cells p.row ah);have f0:Frm R H (H++[AObj.cells p.row ah]):=Frm.app _ _ l2;obtain ⟨b1,b2,b3⟩:=KZ hB p;have hcR:∀ i,R i→R1 R H.length i:=fun i hi=>.inl hi
 have r1:∀ H,oW (some H)=some (eB,H):=fun _=>rfl
 have st5:∀ (a b c0 d e x:AV),bf [a,b,c0,d,e] 4 [x]=[a,b,c0,d,x]:=fun _ _ _ _ _ _=>rfl
 obtain ⟨cs0,g0,g0d⟩:=OA h0;have hopn:=IL S p;have hpo:=hB.opn;have gx:=aL H [AObj.cells p.row ah];rw [List.getElem?_cons_zero] at gx
 obtain ⟨H1,c1,c2,c3⟩:∃ H1,jd (R1 R H.length) c H1 (oF S p)∧Frm (R1 R H.length) (H++[AObj.cells p.row ah]) H1∧sel (S.due && !(p.kind == 3)) (M.run ee [.ptr c 0] (H++[AObj.cells p.row ah])=some (.ret (.tuple []),H1)) (H1=H++[AObj.cells p.row ah]):=by
  cases hd:S.due && !(p.kind == 3) with
  |false=>exact ⟨_,by unfold oF;rw [hd];exact h0,Frm.refl _ _,rfl⟩
  |true=>
   obtain ⟨H1,t1,t2,t3⟩:=IM M hC h0 hB;exact ⟨H1,by unfold oF;rw [hd];exact t2,t3,t1⟩
 have hx1:H1[H.length]?=some (.cells p.row ah):=by rw [c2.low _ (.inr rfl),aL];rfl
 have e1:(S.due && !(p.kind == 3))=false→oF S p=S:=fun h=>by unfold oF;rw [h];rfl
 rw [show GV S p = { oF S p with opn:=sL (oF S p).opn p,cur:=jH (oF S p).cur p } from rfl];generalize oF S p=S1 at *
 obtain ⟨P,q,vs,v,ta,ov,h1⟩:=c1;have hw1:IntKind.i64.wrap ((S.opn.length:Int)-1)=(S.opn.length:Int)-1:=bK (by omega) (by omega);have hcl:=h1.cell
 have last:∀ {H2:List AObj}{S2:CSt},jd (R1 R H.length) c H2 S2→Frm (R1 R H.length) H1 H2→S2.done=S1.done→S2.cur=S1.cur→∃ H3,M.run bS [.ptr c 0,.agg p.row] H2=some (.ret (.tuple []),H3)∧jd R c H3 { S2 with cur:=jH S2.cur p }∧Frm R H H3∧H2[H.length]?=some (.cells p.row ah):=fun {H2 S2} w f e1 e2=>by
  obtain ⟨H3,p1,p2,p3,_⟩:=zR M hC w (by rw [e1];exact b1) (by rw [e2];exact b2) (by rw [e2];exact b3) hp;exact ⟨H3,p1,p2.mono hcR,((f0.trans (c2.mono hcR)).trans (f.mono hcR)).trans (p3.mono hcR),by rw [f.low _ (.inr rfl)];exact hx1⟩
 cases k2:p.kind == 2 with
 |true=>
  have k3:(p.kind == 3)=false:=by rw [eq_of_beq k2];rfl
  obtain ⟨ov',G,a1,a2,a3,a4,a5,a6,a7⟩:=Rf h1.op h1.oa h1.rl (by rw [hopn];omega) p.text;have gc:=a7 c _ _ h1.cell FQ.symm;have so:=stO_cells (sz:=1) (H:=G) (id:=c) (off:=4) (cs:=[ov']) (T:=bo) (old:=[.rslice P 0 (S1.done.length+1) 1 true,.slice ta 1 (S1.pos.map bU),.int .i64 S1.place,.bool S1.due,ov]) rfl (by simp) (by simp [a4]);simp only [st5] at so;obtain ⟨u1,u2,_⟩:=yM.upo (h:=h1) a6 a7 ov' (S1.opn++[p.text]) a2 a3
  obtain ⟨H3,q1,q2,q3,q4⟩:=last ⟨P,q,vs,v,ta,ov',u1⟩ (a6.trans u2) rfl rfl;refine ⟨H3, ?_,by simpa [sL,k2,k3,sel_true,sel_false] using q2,q3⟩;rw [br M hC.docs_cutter_tag rfl (c:=fM) rfl,fM];cases hd:S.due with
  |true=>
   rw [hd,k3] at c3;simp only [Bool.not_false,Bool.and_self,sel_true] at c3;simp (maxSteps:=3000000) (maxDischargeDepth:=6) +contextual -implicitDefEqProofs only [amC M,↓amD,Nat.reduceBEq,Nat.reduceAdd,env,aj,jD,amG,AV.cell,Nat.reduceMul,Nat.reduceLeDiff,rnc,gx,g0,g0d,hd,k2,k3,aW,c3,hx1,hcl,cl5,a1,gc,a5,so,q4,q1,r1]
  |false=>
   have hS1:=e1 (by rw [hd];rfl);have hd1:S1.due=false:=by rw [hS1];exact hd
   rw [hd] at c3;simp only [Bool.false_and,sel_false] at c3;subst c3;rw [hd1] at hcl gc so q1 q4;simp (maxSteps:=3000000) (maxDischargeDepth:=6) +contextual -implicitDefEqProofs only [amC M,↓amD,Nat.reduceBEq,Nat.reduceAdd,env,aj,jD,amG,AV.cell,Nat.reduceMul,Nat.reduceLeDiff,rnc,gx,hd1,k2,k3,aW,hcl,cl5,a1,gc,a5,so,q4,q1,r1]
 |false=>
  cases k3:p.kind == 3 with
  |true=>
   have hne:=hop k3
   obtain ⟨l,s,hls⟩:∃ l s,S1.opn=l++[s]:=by
    rcases List.eq_nil_or_concat S1.opn with h | ⟨l,s,h⟩
    ·rw [hopn] at h;exact absurd h hne
    ·exact ⟨l,s,by simpa using h⟩
   have hlen:S.opn.length=l.length+1:=by rw [← hopn,hls];simp
   have ho:=h1.op;rw [hls] at ho;obtain ⟨ov',o1,o2,o3,o4,o5⟩:=Oz ho h1.oa;obtain ⟨u1,u2,_⟩:=h1.upd S1.pos S1.place S1.due l ta ov' o2 o3 h1.tg;obtain ⟨H3,q1,q2,q3,q4⟩:=last ⟨P,q,vs,v,ta,ov',u1⟩ u2 rfl rfl;have hl0:rG (H++[AObj.cells p.row ah]) .sl ov=some (.int .i64 ((l.length+1:Nat):Int)):=by have:=tK (G:=H++[AObj.cells p.row ah]) ho;simpa using this
   have hl1:rG H1 .sl ov=some (.int .i64 ((l.length+1:Nat):Int)):=by have:=tK (G:=H1) ho;simpa using this
   have hw2:IntKind.i64.wrap (((l.length+1:Nat):Int)-1)=(l.length:Int):=by rw [bK (by omega) (by omega)];omega
   refine ⟨H3, ?_,by simpa [sL,k2,k3,hls,sel_true,sel_false] using q2,q3⟩;rw [k3] at c3;simp only [Bool.not_true,Bool.and_false,sel_false] at c3;subst c3;rw [br M hC.docs_cutter_tag rfl (c:=fM) rfl,fM];have so:=stO_cells (sz:=1) (H:=H++[AObj.cells p.row ah]) (id:=c) (off:=4) (cs:=[ov']) (T:=bo) (old:=[.rslice P 0 (S1.done.length+1) 1 true,.slice ta 1 (S1.pos.map bU),.int .i64 S1.place,.bool S1.due,ov]) rfl (by simp) (by simp [o4])
   simp only [st5] at so;cases hd1:S1.due<;>(rw [hd1] at hcl so;try rw [hd1] at q1 q4)<;>simp (maxSteps:=3000000) (maxDischargeDepth:=6) +contextual -implicitDefEqProofs only [amC M,↓amD,Nat.reduceBEq,Nat.reduceAdd,env,aj,jD,amG,AV.cell,Nat.reduceMul,Nat.reduceLeDiff,rnc,gx,hd1,k2,k3,aW,hcl,cl5,hl0,hw2,o1,o5,so,q4,q1,r1]
  |false=>
   obtain ⟨H3,q1,q2,q3,q4⟩:=last ⟨P,q,vs,v,ta,ov,h1⟩ (Frm.refl _ _) rfl rfl;refine ⟨H3, ?_,by simpa [sL,k2,k3,sel_true,sel_false] using q2,q3⟩;rw [br M hC.docs_cutter_tag rfl (c:=fM) rfl,fM];cases hd:S.due with
   |true=>
    rw [hd,k3] at c3;simp only [Bool.not_false,Bool.and_self,sel_true] at c3;simp (maxSteps:=3000000) (maxDischargeDepth:=6) +contextual -implicitDefEqProofs only [amC M,↓amD,Nat.reduceBEq,Nat.reduceAdd,env,aj,jD,amG,AV.cell,Nat.reduceMul,Nat.reduceLeDiff,rnc,gx,g0,g0d,hd,k2,k3,aW,c3,hx1,q1,r1]
   |false=>
    rw [hd] at c3;simp only [Bool.false_and,sel_false] at c3;subst c3;simp (maxSteps:=3000000) (maxDischargeDepth:=6) +contextual -implicitDefEqProofs only [amC M,↓amD,Nat.reduceBEq,Nat.reduceAdd,env,aj,jD,amG,AV.cell,Nat.reduceMul,Nat.reduceLeDiff,rnc,gx,g0,g0d,hd,k2,k3,aW,q1,r1]
end
section
attribute [local congr] aI bR aZ aJ aY aR aK aC aD aS aT
variable{E:bG}(M:cJ cM E)
def jq(S:CSt):CSt:=sel S.due (tl S) S
def B3(l:List Int)(n:Nat):Bool:=match l with
 |[]=>false
 |x::_=>x == (n:Int)
def sM(S:CSt)(p:ag):CSt:=
 let S1:=jq S
 let h:=B3 S1.pos (S1.place+1)
 {S1 with cur:=jH S1.cur p,place:=S1.place+1,pos:=sel h S1.pos.tail S1.pos,due:=sel h true S1.due }
theorem Qy{S:CSt}(h:CBd S):(jq S).done.length≤100000000∧(jq S).cur.length≤100000000∧∀ x∈(jq S).cur,x.text.length≤100000000:=by
 have:=KZ h ⟨0,[],false⟩;unfold oF at this;rw [show (S.due && !((0:Int) == 3))=S.due by simp] at this;exact this
theorem Qz(S:CSt):(jq S).place=S.place:=by unfold jq;cases S.due<;>rfl
theorem IN(hC:jT E){R:Nat→Prop}{c:Nat}{H:List AObj}{S:CSt}(hS:jd R c H S)(hB:CBd S)(hpl:S.place≤100000000){p:ag}(hp:p.text.length≤100000000) :
  ∃ H',M.run eU [.ptr c 0,.agg p.row] H=some (.ret (.tuple []),H')∧jd R c H' (sM S p)∧Frm R H H':=by
 obtain ⟨l1,l2⟩:=hS.le;have h0:=hS.more (.cells p.row ah);have f0:Frm R H (H++[AObj.cells p.row ah]):=Frm.app _ _ l2;obtain ⟨b1,b2,b3⟩:=Qy hB;have hcR:∀ i,R i→R1 R H.length i:=fun i hi=>.inl hi
 have r1:∀ H,oW (some H)=some (eB,H):=fun _=>rfl
 obtain ⟨cs0,g0,g0d⟩:=OA h0;have gx:=aL H [AObj.cells p.row ah];rw [List.getElem?_cons_zero] at gx
 obtain ⟨H1,c1,c2,c3⟩:∃ H1,jd (R1 R H.length) c H1 (jq S)∧Frm (R1 R H.length) (H++[AObj.cells p.row ah]) H1∧sel S.due (M.run ee [.ptr c 0] (H++[AObj.cells p.row ah])=some (.ret (.tuple []),H1)) (H1=H++[AObj.cells p.row ah]):=by
  cases hd:S.due with
  |false=>exact ⟨_,by unfold jq;rw [hd];exact h0,Frm.refl _ _,rfl⟩
  |true=>
   obtain ⟨H1,t1,t2,t3⟩:=IM M hC h0 hB;exact ⟨H1,by unfold jq;rw [hd];exact t2,t3,t1⟩
 have hx1:H1[H.length]?=some (.cells p.row ah):=by rw [c2.low _ (.inr rfl),aL];rfl
 have hpl1:=Qz S;rw [show sM S p = { jq S with cur:=jH (jq S).cur p,place:=(jq S).place+1,pos:=sel (B3 (jq S).pos ((jq S).place+1)) (jq S).pos.tail (jq S).pos,due:=sel (B3 (jq S).pos ((jq S).place+1)) true (jq S).due } from rfl];generalize jq S=S1 at *
 obtain ⟨H2,q1,q2,q3,_⟩:=zR M hC c1 b1 b2 b3 hp;have f2:Frm R H H2:=(f0.trans (c2.mono hcR)).trans (q3.mono hcR);obtain ⟨P,q,vs,v,ta,ov,h2⟩:=q2.mono hcR;have hw1:IntKind.i64.wrap ((S1.place:Int)+1)=((S1.place+1:Nat):Int):=by rw [bK (by omega) (by omega)];rfl
 have st5:(∀ (a b c0 d e x:AV),bf [a,b,c0,d,e] 2 [x]=[a,b,x,d,e])∧(∀ (a b c0 d e x:AV),bf [a,b,c0,d,e] 1 [x]=[a,x,c0,d,e])∧(∀ (a b c0 d e x:AV),bf [a,b,c0,d,e] 3 [x]=[a,b,c0,x,e]):=⟨fun _ _ _ _ _ _=>rfl,fun _ _ _ _ _ _=>rfl,fun _ _ _ _ _ _=>rfl⟩
 obtain ⟨w3,f3,_⟩:=h2.upd S1.pos (S1.place+1) S1.due S1.opn ta ov h2.op h2.oa h2.tg;dsimp only at w3 f3;have hc2:=h2.cell;dsimp only at hc2;have so3:=stO_cells (sz:=1) (H:=H2) (id:=c) (off:=2) (cs:=[.int .i64 ((S1.place+1:Nat):Int)]) (T:=bo) (old:=[.rslice P 0 (S1.done.length+1) 1 true,.slice ta 1 (S1.pos.map bU),.int .i64 S1.place,.bool S1.due,ov]) rfl (by simp) rfl;simp only [st5] at so3;generalize hG3:H2.set c (AObj.cells [.rslice P 0 (S1.done.length+1) 1 true,.slice ta 1 (S1.pos.map bU),.int .i64 ((S1.place+1:Nat):Int),.bool S1.due,ov] bo)=G3 at w3 f3 so3
 have hc3:=w3.cell;dsimp only at hc3;cases hh:B3 S1.pos (S1.place+1) with
 |false=>
  refine ⟨_, ?_,⟨P,q,vs,v,ta,ov,w3⟩,f2.trans f3⟩;cases hps:S1.pos with
  |nil=>
   rw [hps] at hc2 hc3 so3 hG3;simp only [List.map_nil] at hc2 hc3 so3 hG3;have d0:decide ((0:Int)<((0:Nat):Int))=false:=rfl;rw [br M hC.docs_cutter_unit rfl (c:=eZ) rfl,eZ];cases hd:S.due with
   |true=>
    rw [hd,sel_true] at c3;simp (maxSteps:=3000000) (maxDischargeDepth:=6) +contextual -implicitDefEqProofs only [amC M,↓amD,Nat.reduceBEq,Nat.reduceAdd,env,aj,gu,amG,AV.cell,Nat.reduceMul,Nat.reduceLeDiff,rnc,gx,g0,g0d,hd,aW,c3,hx1,q1,hc2,cl5,hw1,so3,hG3,hc3,List.map_nil,List.length_nil,d0,r1]
   |false=>
    rw [hd,sel_false] at c3;subst c3;simp (maxSteps:=3000000) (maxDischargeDepth:=6) +contextual -implicitDefEqProofs only [amC M,↓amD,Nat.reduceBEq,Nat.reduceAdd,env,aj,gu,amG,AV.cell,Nat.reduceMul,Nat.reduceLeDiff,rnc,gx,g0,g0d,hd,aW,q1,hc2,cl5,hw1,so3,hG3,hc3,List.map_nil,List.length_nil,d0,r1]
  |cons x t=>
   rw [hps] at hc2 hc3 so3 hG3 hh;have hx0:(x == ((S1.place+1:Nat):Int))=false:=hh;have d0:decide ((0:Int)<(((x::t).length:Nat):Int))=true:=decide_eq_true (by simp);have hir:=aA (row:=bU) (l:=x::t) (tag:=ta) (sz:=1) (k:=.i64) (i:=0) (by simp);rw [Int.ofNat_zero] at hir;generalize hpp:x::t=pp at hc2 hc3 so3 hG3 d0 hir;have hp0:pp[0]?=some x:=by rw [← hpp];rfl
   rw [br M hC.docs_cutter_unit rfl (c:=eZ) rfl,eZ];cases hd:S.due with
   |true=>
    rw [hd,sel_true] at c3;simp (maxSteps:=3000000) (maxDischargeDepth:=6) +contextual -implicitDefEqProofs only [amC M,↓amD,Nat.reduceBEq,Nat.reduceAdd,env,aj,gu,amG,AV.cell,Nat.reduceMul,Nat.reduceLeDiff,rnc,gx,g0,g0d,hd,aW,c3,hx1,q1,hc2,cl5,hw1,so3,hG3,hc3,List.length_map,d0,hir,hp0,pN,hx0,r1]
   |false=>
    rw [hd,sel_false] at c3;subst c3;simp (maxSteps:=3000000) (maxDischargeDepth:=6) +contextual -implicitDefEqProofs only [amC M,↓amD,Nat.reduceBEq,Nat.reduceAdd,env,aj,gu,amG,AV.cell,Nat.reduceMul,Nat.reduceLeDiff,rnc,gx,g0,g0d,hd,aW,q1,hc2,cl5,hw1,so3,hG3,hc3,List.length_map,d0,hir,hp0,pN,hx0,r1]
 |true=>
  obtain ⟨x,t,hps⟩:∃ x t,S1.pos=x::t:=by
   cases hq:S1.pos with
   |nil=>rw [hq] at hh;cases hh
   |cons x t=>exact ⟨x,t,rfl⟩
  have hx0:(x == ((S1.place+1:Nat):Int))=true:=by rw [hps] at hh;exact hh
  have d0:decide ((0:Int)<(((x::t).length:Nat):Int))=true:=decide_eq_true (by simp);have hir:=aA (row:=bU) (l:=x::t) (tag:=ta) (sz:=1) (k:=.i64) (i:=0) (by simp);rw [Int.ofNat_zero] at hir
  have hsl:CB 1 (.slice ta 1 ((x::t).map bU)) (some (.int .i64 1)) none none=some (.slice .any 1 (t.map bU)):=by
   simp [CB,eL];exact List.take_of_length_le (by simp)
  obtain ⟨w4,f4,_⟩:=w3.upd t (S1.place+1) S1.due S1.opn .any ov w3.op w3.oa (.inl rfl);dsimp only at w4 f4;rw [hps] at hc2 hc3 so3 hG3;have so4:=stO_cells (sz:=1) (H:=G3) (id:=c) (off:=1) (cs:=[.slice .any 1 (t.map bU)]) (T:=bo) (old:=[.rslice P 0 (S1.done.length+1) 1 true,.slice ta 1 ((x::t).map bU),.int .i64 ((S1.place+1:Nat):Int),.bool S1.due,ov]) rfl (by simp) rfl;simp only [st5] at so4;generalize hG4:G3.set c (AObj.cells [.rslice P 0 (S1.done.length+1) 1 true,.slice .any 1 (t.map bU),.int .i64 ((S1.place+1:Nat):Int),.bool S1.due,ov] bo)=G4 at w4 f4 so4
  have hc4:=w4.cell;dsimp only at hc4;obtain ⟨w5,f5,_⟩:=w4.upd t (S1.place+1) true S1.opn .any ov w4.op w4.oa (.inl rfl);dsimp only at w5 f5;have so5:=stO_cells (sz:=1) (H:=G4) (id:=c) (off:=3) (cs:=[.bool true]) (T:=bo) (old:=[.rslice P 0 (S1.done.length+1) 1 true,.slice .any 1 (t.map bU),.int .i64 ((S1.place+1:Nat):Int),.bool S1.due,ov]) rfl (by simp) rfl;simp only [st5] at so5;refine ⟨_, ?_,⟨P,q,vs,v,.any,ov,by rw [hps];exact w5⟩,((f2.trans f3).trans f4).trans f5⟩
  generalize hpp:x::t=pp at hc2 hc3 so3 hG3 so4 d0 hir hsl;have hp0:pp[0]?=some x:=by rw [← hpp];rfl
  rw [br M hC.docs_cutter_unit rfl (c:=eZ) rfl,eZ];cases hd:S.due with
  |true=>
   rw [hd,sel_true] at c3;simp (maxSteps:=3000000) (maxDischargeDepth:=6) +contextual -implicitDefEqProofs only [amC M,↓amD,Nat.reduceBEq,Nat.reduceAdd,env,aj,gu,amG,AV.cell,Nat.reduceMul,Nat.reduceLeDiff,rnc,gx,g0,g0d,hd,aW,c3,hx1,q1,hc2,cl5,hw1,so3,hG3,hc3,List.length_map,d0,hir,hp0,pN,hx0,hsl,so4,hG4,hc4,so5,r1]
  |false=>
   rw [hd,sel_false] at c3;subst c3;simp (maxSteps:=3000000) (maxDischargeDepth:=6) +contextual -implicitDefEqProofs only [amC M,↓amD,Nat.reduceBEq,Nat.reduceAdd,env,aj,gu,amG,AV.cell,Nat.reduceMul,Nat.reduceLeDiff,rnc,gx,g0,g0d,hd,aW,q1,hc2,cl5,hw1,so3,hG3,hc3,List.length_map,d0,hir,hp0,pN,hx0,hsl,so4,hG4,hc4,so5,r1]
end
section
attribute [local congr] aI bR aZ aJ aY aR aK aC aD aS aT
variable{E:bG}(M:cJ cM E)
def MC(r:Nat):Str:=(Utf8.encode (r:Int)).data.toList
def rq(r:Nat):ag:=⟨1,MC r,false⟩
theorem QA(r:Nat):(MC r).length≤4:=by
 unfold MC;simp only [Utf8.encode]
 repeat' split
 all_goals simp [ByteArray.size,ByteArray.push,ByteArray.empty,ByteArray.emptyWithCapacity]
theorem xq(r:Nat):(rq r).text.length≤4:=by
 have h:=QA r;simpa only [rq] using h
def GW(S:CSt)(p:ag):CSt:=sel (p.kind == 1) ((cE p.text).foldl (fun S r=>sM S (rq r)) S) (sel (p.kind == 5) (sM S p) (GV S p))
structure CBm (m:Nat) (S:CSt):Prop where
 opn:S.opn.length≤m
 opt:∀ s∈S.opn,s.length≤m
 done:S.done.length≤m
 cur:S.cur.length≤2*m
 txt:∀ x∈S.cur,x.text.length≤m
 place:S.place≤m
theorem CBm.mono{m n:Nat}{S:CSt}(h:CBm m S)(hn:m≤n):CBm n S:=⟨Nat.le_trans h.opn hn,fun s hs=>Nat.le_trans (h.opt s hs) hn,Nat.le_trans h.done hn,by have:=h.cur;omega,fun x hx=>Nat.le_trans (h.txt x hx) hn,Nat.le_trans h.place hn⟩
theorem CBm.bd{m:Nat}{S:CSt}(h:CBm m S)(hm:m≤50000):CBd S:=⟨by have:=h.opn;omega,fun s hs=>by have:=h.opt s hs;omega,by have:=h.done;omega,by have:=h.cur;omega,fun x hx=>by have:=h.txt x hx;omega⟩
theorem GX{m:Nat}{S:CSt}(h:CBm m S):CBm (m+1) (tl S):=⟨Nat.le_trans h.opn (by omega),fun s hs=>Nat.le_trans (h.opt s hs) (by omega),by simp [tl];exact h.done,by simp [tl];have:=h.opn;omega,fun x hx=>by
 obtain ⟨s,hs,rfl⟩:=List.mem_map.1 (show x∈S.opn.map IK from hx);exact Nat.le_trans (h.opt s hs) (by omega),Nat.le_trans h.place (by omega)⟩
theorem zT(l:List ag)(p:ag):(jH l p).length≤l.length+1:=by
 rcases List.eq_nil_or_concat l with rfl | ⟨t,x,rfl⟩
 ·simp [jH]
 ·rw [List.concat_eq_append,oJ]
  cases p.kind == 1&&x.kind == 1<;>simp [sel_true,sel_false]
theorem zU{l:List ag}{p:ag}{m w:Nat}(h:∀ x∈l,x.text.length≤m)(hp:p.text.length≤w):∀ x∈jH l p,x.text.length≤m+w:=by
 intro y hy;rcases List.eq_nil_or_concat l with rfl | ⟨t,x,rfl⟩
 ·simp [jH] at hy;subst hy;omega
 ·rw [List.concat_eq_append] at hy h
  rw [oJ] at hy;cases hk:p.kind == 1&&x.kind == 1 with
  |true=>
   rw [hk,sel_true] at hy;rcases List.mem_append.1 hy with hy | hy
   ·have:=h y (List.mem_append_left _ hy);omega
   ·rw [List.mem_singleton] at hy;subst hy
    have:=h x (by simp);simp only [List.length_append];omega
  |false=>
   rw [hk,sel_false] at hy;rcases List.mem_append.1 hy with hy | hy
   ·have:=h y hy;omega
   ·rw [List.mem_singleton] at hy;subst hy;omega
theorem QB{m:Nat}{S:CSt}(h:CBm m S):CBm (m+1) (jq S):=by
 unfold jq;cases S.due
 ·exact h.mono (by omega)
 ·exact GX h
theorem QC{m:Nat}{S:CSt}(h:CBm m S)(p:ag):CBm (m+1) (oF S p):=by
 unfold oF;cases S.due && !(p.kind == 3)
 ·exact h.mono (by omega)
 ·exact GX h
theorem GY{m w:Nat}{S:CSt}(h:CBm m S){p:ag}(hp:p.text.length≤w):CBm (m+w+2) (sM S p):=by
 have h1:=QB h;refine ⟨by have:=h1.opn;simp only [sM];omega,fun s hs=>by have:=h1.opt s hs;omega,by have:=h1.done;simp only [sM];omega,by have:=h1.cur;have:=zT (jq S).cur p;simp only [sM];omega,fun x hx => ?_,by have:=h1.place;simp only [sM];omega⟩;have:=zU h1.txt hp x hx;omega
theorem Sb{m w:Nat}{S:CSt}(h:CBm m S){p:ag}(hp:p.text.length≤w):CBm (m+w+2) (GV S p):=by
 have h1:=QC h p
 have ho:(sL (oF S p).opn p).length≤(oF S p).opn.length+1∧∀ s∈sL (oF S p).opn p,s.length≤m+1+w:=by
  unfold sL;cases p.kind == 2 with
  |true=>
   refine ⟨by simp [sel_true],fun s hs => ?_⟩;rw [sel_true] at hs;rcases List.mem_append.1 hs with hs | hs
   ·have:=h1.opt s hs;omega
   ·rw [List.mem_singleton] at hs;subst hs;omega
  |false=>
   cases p.kind == 3 with
   |true=>exact ⟨by simp [sel_true,sel_false];omega,fun s hs=>by rw [sel_false,sel_true] at hs;have:=h1.opt s (List.dropLast_subset _ hs);omega⟩
   |false=>exact ⟨by simp [sel_false],fun s hs=>by rw [sel_false,sel_false] at hs;have:=h1.opt s hs;omega⟩
 refine ⟨by have:=h1.opn;have:=ho.1;simp only [GV];omega,fun s hs=>by have:=ho.2 s hs;omega,by have:=h1.done;simp only [GV];omega,by have:=h1.cur;have:=zT (oF S p).cur p;simp only [GV];omega,fun x hx => ?_,by have:=h1.place;simp only [GV];omega⟩;have:=zU h1.txt hp x hx;omega
theorem IP:∀ (rs:List Nat) {m:Nat}{S:CSt},CBm m S→CBm (m+6*rs.length) (rs.foldl (fun S r=>sM S (rq r)) S)
 |[],m,S,h=>by simpa using h
 |r::rs,m,S,h=>by
  rw [List.foldl_cons];have h1:=GY (w:=4) (p:=rq r) h (xq r);have h2:=IP rs h1;exact h2.mono (by simp only [List.length_cons];omega)
theorem K6{m:Nat}{S:CSt}(h:CBm m S)(p:ag):CBm (m+(6*p.text.length+2)) (GW S p):=by
 unfold GW;have hr:=jQ p.text;cases p.kind == 1 with
 |true=>rw [sel_true];exact (IP _ h).mono (by omega)
 |false=>
  rw [sel_false];cases p.kind == 5 with
  |true=>rw [sel_true];exact (GY h (Nat.le_refl _)).mono (by omega)
  |false=>rw [sel_false];exact (Sb h (Nat.le_refl _)).mono (by omega)
def FT(S:CSt)(l:List ag):CSt:=l.foldl GW S
def szP(p:ag):Nat:=6*p.text.length+2
def xr:List ag→Nat→Prop
 |[],_=>True
 |x::l,n=>((x.kind == 3)=true→0<n)∧xr l (if x.kind == 2 then n+1 else if x.kind == 3 then n-1 else n)
theorem IQ(S:CSt)(p:ag):(sM S p).opn=S.opn:=by
 show (jq S).opn=S.opn;unfold jq;cases S.due<;>rfl
theorem FU:∀ (rs:List Nat) (S:CSt),(rs.foldl (fun S r=>sM S (rq r)) S).opn=S.opn
 |[],S=>rfl
 |r::rs,S=>by rw [List.foldl_cons,FU rs,IQ]
theorem QD{S:CSt}{p:ag}:(GW S p).opn.length=(if p.kind == 2 then S.opn.length+1 else if p.kind == 3 then S.opn.length-1 else S.opn.length):=by
 unfold GW;cases k1:p.kind == 1 with
 |true=>rw [sel_true,FU,eq_of_beq k1];rfl
 |false=>
  rw [sel_false];cases k5:p.kind == 5 with
  |true=>rw [sel_true,IQ,eq_of_beq k5];rfl
  |false=>
   rw [sel_false];show (sL (oF S p).opn p).length=_;rw [IL,sL];cases p.kind == 2 with
   |true=>simp [sel_true]
   |false=>cases p.kind == 3<;>simp [sel_true,sel_false]
theorem jd.setit{R:Nat→Prop}{c:Nat}{H:List AObj}{S:CSt}(h:jd R c H S){t:Nat}{s:Str}{i:Nat}(ht:H[t]?=some (.siter s i))(j:Nat):jd R c (H.set t (.siter s j)) S:=by
 obtain ⟨P,q,vs,v,ta,ov,h⟩:=h
 have hs:∀ {k:Nat}{cs:List AV}{T:TypeId},H[k]?=some (.cells cs T)→(H.set t (.siter s j))[k]?=some (.cells cs T):=fun {k cs T} hk=>by
  rw [List.getElem?_set_ne (fun e=>by subst e;rw [ht] at hk;cases hk)];exact hk
 exact ⟨P,q,vs,v,ta,ov,⟨h.hn,h.hP,fun i hi=>by simpa using h.rl i hi,hs h.cell,hs h.par,h.len,fun i w l hi hl=>⟨(h.dn i w l hi hl).1.stay fun Q cs _ hQ=>hs hQ,(h.dn i w l hi hl).2⟩,h.cr.stay fun Q cs _ hQ=>hs hQ,h.ab,h.pr,by simpa using h.ql,h.op.stay fun O cs hO=>hs hO,h.oa,h.tg⟩⟩
theorem OB:∀ (k:IntKind) (n:Int),Pt (.int k n)=some (.str (Utf8.encode n).data.toList):=fun _ _=>rfl
theorem ct0(hC:jT E){R:Nat→Prop}{c t:Nat}{s:Str}(hs:s.length≤aX)(htR:¬ R t){H0:List AObj}{v15 v16 v17:AV}:∀ (n i m:Nat) (H:List AObj) (S:CSt),s.length-i≤n→i≤s.length→H[t]?=some (.siter s i)→jd R c H S→CBm m S→m+6*(s.length-i)≤50000 →
  ∃ H',(∀ (k:List Fra) (He:List AObj),M.go kE H0 (.c py :: .lp ⟨(some [6,15,16,17,30]),[],false⟩ py He :: .blk 3 :: .c (.lv [6,15,16,17])::k) (kv [(6,.ptr c 0),(15,v15),(16,v16),(17,v17),(30,.ptr t 0)]) H=M.go kE H0 k (kv [(6,.ptr c 0),(15,v15),(16,v16),(17,v17)]) H')∧jd R c H' ((cE (s.drop i)).foldl (fun S r=>sM S (rq r)) S)∧H.length≤H'.length∧∀ i,R i→H'[i]?=H[i]?
 |n,i,m,H,S,hn,hi,ht,hS,hb,hm=>by
  by_cases hlt:i<s.length
  ·have hne:s.drop i≠[]:=fun e=>by have:=congrArg List.length e;simp at this;omega
   have hw:=yF (s.drop i);have hle:=KH hne;rw [List.length_drop] at hle;have hdd:Utf8.decode ⟨s.toArray⟩ i=gv (s.drop i):=FH s i;rw [Io hne,List.foldl_cons,List.drop_drop];generalize gv (s.drop i)=d at *
   have htl:=(List.getElem?_eq_some_iff.1 ht).1;have h1:=hS.setit ht (i+d.2);obtain ⟨H1,u1,u2,u3⟩:=IN M hC h1 (hb.bd (by omega)) (by have:=hb.place;omega) (p:=rq d.1) (Nat.le_trans (xq d.1) (by omega));have ht1:H1[t]?=some (.siter s (i+d.2)):=u3.it t _ _ (List.getElem?_set_self htl);obtain ⟨H2,i1,i2,i3,i4⟩:=ct0 hC hs htR (H0:=H0) (v15:=v15) (v16:=v16) (v17:=v17) (n-1) (i+d.2) (m+6) H1 _ (by omega) (by omega) ht1 u2 (GY hb (xq d.1)) (by omega)
   refine ⟨H2,fun k He => ?_,i2,by have:=u3.len;simp at this;omega,fun j hj => ?_⟩
   ·rw [← i1 k H1]
    have hbd:M.run eU [.ptr c 0,.agg [.int .u8 1,.str (Utf8.encode (d.1:Int)).data.toList,.bool false]] (H.set t (.siter s (i+d.2)))=some (.ret (.tuple []),H1):=by have u:=u1;simp only [ag.row,rq,MC] at u;exact u
    rw [ak M py.eq_1];simp (maxSteps:=3000000) (maxDischargeDepth:=6) +contextual -implicitDefEqProofs only [amC M,↓amD,Nat.reduceBEq,Nat.reduceAdd,env,aj,oq,amG,AV.cell,Nat.reduceMul,Nat.reduceLeDiff,Cv,ht,hlt,hdd,bQ,List.getElem?_cons_succ,List.getElem?_cons_zero,OB,hbd]
   ·rw [i4 j hj,u3.low j hj,List.getElem?_set_ne (fun e=>htR (by rw [e];exact hj))]
  ·obtain rfl:i=s.length:=by omega
   rw [List.drop_length];refine ⟨H,fun k He => ?_,hS,Nat.le_refl _,fun _ _=>rfl⟩;rw [ak M py.eq_1];simp (maxSteps:=3000000) (maxDischargeDepth:=6) +contextual -implicitDefEqProofs only [amC M,↓amD,Nat.reduceBEq,Nat.reduceAdd,env,aj,oq,Cv,ht,List.getElem?_cons_zero,Nat.lt_irrefl,bQ]
end
section
attribute [local congr] aI bR aZ aJ aY aR aK aC aD aS aT
variable{E:bG}(M:cJ cM E)
theorem SU:∀ (G:List AObj) (s:Str),rrg G (.str s)=some (.ptr G.length 0,G++[.siter s 0]):=fun _ _=>rfl
def IR(l:List ag):Nat:=(l.map szP).sum
theorem xD(x:ag)(l:List ag):IR (x::l)=szP x+IR l:=by simp [IR]
theorem ct1(hC:jT E){R:Nat→Prop}{c:Nat}{l:List ag}{tg:Tag}(hl:l.length≤aX)(htx:∀ x∈l,x.text.length≤aX){H0:List AObj}:∀ (n i m:Nat) (H:List AObj) (S:CSt),i+n=l.length→jd R c H S→CBm m S→xr (l.drop i) S.opn.length→m+IR (l.drop i)≤50000 →
  ∃ H',(∀ (k:List Fra) (He:List AObj),M.go kE H0 (.c fI :: .lp ⟨(some [6,15,16,17]),[],false⟩ fI He :: .blk 0 :: .c (.lv [6])::k) (kv [(6,.ptr c 0),(15,.slice tg 3 (l.map ag.row)),(16,.int .i64 l.length),(17,.int .i64 i)]) H=M.go kE H0 k (kv [(6,.ptr c 0)]) H')∧jd R c H' (FT S (l.drop i))∧H.length≤H'.length∧∀ i,R i→H'[i]?=H[i]?
 |0,i,m,H,S,h,hS,hb,hop,hm=>by
  have e:i=l.length:=by omega
  subst e;refine ⟨H,fun k He => ?_,by rw [List.drop_length];exact hS,Nat.le_refl _,fun _ _=>rfl⟩;rw [ak M fI.eq_1];simp (maxSteps:=3000000) (maxDischargeDepth:=6) +contextual -implicitDefEqProofs only [amC M,↓amD,Nat.reduceBEq,Nat.reduceAdd,env,aj,oq,Nat.lt_irrefl]
 |n+1,i,m,H,S,h,hS,hb,hop,hm=>by
  have hi:i<l.length:=by omega
  have hx:l[i]?=some l[i]:=List.getElem?_eq_getElem hi;have hd:(l.drop i)=l[i]::l.drop (i+1):=List.drop_eq_getElem_cons hi;have hmem:l[i]∈l:=List.getElem_mem hi;have hwi:=bt (n:=l.length) hi hl;have hir:=aA (row:=ag.row) (tag:=tg) (sz:=3) (k:=.i64) hi;rw [hd] at hop hm ⊢;rw [xD,szP] at hm;obtain ⟨hop1,hop2⟩:=hop;rw [← QD] at hop2;have htl:=htx _ hmem;have hb2:=K6 hb l[i];obtain ⟨l1,l2⟩:=hS.le;have h1:=hS.app [AObj.cells l[i].row ah]
  have gx:=aL H [AObj.cells l[i].row ah];rw [List.getElem?_cons_zero] at gx;have hbd:=hb.bd (by omega)
  have one:∃ H1,jd R c H1 (GW S l[i])∧H.length≤H1.length∧(∀ j,R j→H1[j]?=H[j]?)∧(∀ k He,M.go kE H0 (.c fI :: .lp ⟨(some [6,15,16,17]),[],false⟩ fI He :: .blk 0 :: .c (.lv [6])::k) (kv [(6,.ptr c 0),(15,.slice tg 3 (l.map ag.row)),(16,.int .i64 l.length),(17,.int .i64 i)]) H=M.go kE H0 (.c fI :: .lp ⟨(some [6,15,16,17]),[],false⟩ fI H1 :: .blk 0 :: .c (.lv [6])::k) (kv [(6,.ptr c 0),(15,.slice tg 3 (l.map ag.row)),(16,.int .i64 l.length),(17,.int .i64 ((i+1:Nat):Int))]) H1):=by
   unfold GW;cases k1:l[i].kind == 1 with
   |true=>
    rw [sel_true];have h2:=h1.app [AObj.siter l[i].text 0];obtain ⟨H1,t1,t2,t3,t4⟩:=ct0 M hC (t:=H.length+1) htl (fun hR=>by have:=l2 _ hR;omega) (H0:=H0) (v15:=.slice tg 3 (l.map ag.row)) (v16:=.int .i64 l.length) (v17:=.int .i64 i) l[i].text.length 0 m _ _ (by omega) (by omega) (by rw [List.append_assoc,hp_getk];rfl) h2 hb (by omega);refine ⟨H1,by simpa using t2,by simp at t3;omega,fun j hj => ?_,fun k He => ?_⟩
    ·have:=l2 j hj
     rw [t4 j hj,List.getElem?_append_left (by simp;omega),List.getElem?_append_left this]
    ·simp only [kv_cons,kv_nil,List.append_assoc,List.cons_append,List.nil_append] at t1
     rw [ak M fI.eq_1];simp (maxSteps:=3000000) (maxDischargeDepth:=6) +contextual -implicitDefEqProofs only [amC M,↓amD,Nat.reduceBEq,Nat.reduceAdd,env,aj,oq,amG,AV.cell,Nat.reduceMul,Nat.reduceLeDiff,hi,hx,hir,hwi,aW,gx,k1,SU,t1]
   |false=>
    rw [sel_false];cases k5:l[i].kind == 5 with
    |true=>
     rw [sel_true];obtain ⟨H1,u1,u2,u3⟩:=IN M hC h1 hbd (by have:=hb.place;omega) (p:=l[i]) (by omega);refine ⟨H1,u2,by have:=u3.len;simp at this;omega,fun j hj=>by rw [u3.low j hj,List.getElem?_append_left (l2 j hj)],fun k He => ?_⟩;rw [ak M fI.eq_1];simp (maxSteps:=3000000) (maxDischargeDepth:=6) +contextual -implicitDefEqProofs only [amC M,↓amD,Nat.reduceBEq,Nat.reduceAdd,env,aj,oq,amG,AV.cell,Nat.reduceMul,Nat.reduceLeDiff,hi,hx,hir,hwi,aW,gx,k1,k5,u1]
    |false=>
     rw [sel_false]
     obtain ⟨H1,u1,u2,u3⟩:=Qx M hC h1 hbd (p:=l[i]) (by omega) (fun hk=>by
      intro e;have:=hop1 hk;rw [e] at this;simp at this)
     refine ⟨H1,u2,by have:=u3.len;simp at this;omega,fun j hj=>by rw [u3.low j hj,List.getElem?_append_left (l2 j hj)],fun k He => ?_⟩;rw [ak M fI.eq_1];simp (maxSteps:=3000000) (maxDischargeDepth:=6) +contextual -implicitDefEqProofs only [amC M,↓amD,Nat.reduceBEq,Nat.reduceAdd,env,aj,oq,amG,AV.cell,Nat.reduceMul,Nat.reduceLeDiff,hi,hx,hir,hwi,aW,gx,k1,k5,u1]
  obtain ⟨H1,o1,o2,o3,o4⟩:=one;obtain ⟨H2,i1,i2,i3,i4⟩:=ct1 hC hl htx (H0:=H0) (tg:=tg) n (i+1) (m+(6*l[i].text.length+2)) H1 _ (by omega) o1 hb2 hop2 (by omega);exact ⟨H2,fun k He=>by rw [o4 k He,i1 k H1],i2,by omega,fun j hj=>by rw [i4 j hj,o3 j hj]⟩
end
section
attribute [local congr] aI bR aZ aJ aY aR aK aC aD aS aT
variable{E:bG}(M:cJ cM E)
def nR(l:List ag):Bool:=decide ((512:Int)<(l.length:Int))
theorem OC(hC:jT E){G:List AObj}{w:AV}{l:List ag}(h:PcV G w l):M.run gy [w] G=some (.ret (.bool (nR l)),G):=by
 rw [br M hC.docs_cut_1 rfl (c:=uW) rfl,uW];have hl:=fun H=>AS (G:=H) h
 simp (maxSteps:=3000000) (maxDischargeDepth:=6) +contextual -implicitDefEqProofs only [amC M,↓amD,Nat.reduceBEq,Nat.reduceAdd,env,aj,GH,hl,nR]
theorem ixl(hC:jT E){G H0:List AObj}(hc:b5 H0 G){P:Nat}{ws:List AV}{pl:List (List ag)}(hP:G[P]?=some (.cells ws al))(hl:ws.length=pl.length)(hb:pl.length≤100000000)(hw:∀ (i:Nat) (w:AV) (l:List ag),ws[i]?=some w→pl[i]?=some l→PcV G w l):∀ (n i:Nat),i+n=pl.length →
  sel ((pl.drop i).any nR) (∃ j:Nat,∀ (k:List Fra) (He:List AObj),M.go bc H0 (.c aG :: .lp ⟨(some [0,1,7,8]),[],false⟩ aG He :: .blk 0 :: .c (.lv [])::k) (kv [(0,.rslice P 0 pl.length 1 true),(1,.fn (.func gy) [] []),(7,.int .i64 pl.length),(8,.int .i64 i)]) G=some (.ret (.int .i64 j),G.take H0.length))
   (∀ (k:List Fra) (He:List AObj),M.go bc H0 (.c aG :: .lp ⟨(some [0,1,7,8]),[],false⟩ aG He :: .blk 0 :: .c (.lv [])::k) (kv [(0,.rslice P 0 pl.length 1 true),(1,.fn (.func gy) [] []),(7,.int .i64 pl.length),(8,.int .i64 i)]) G=M.go bc H0 k .leaf G)
 |0,i,h=>by
  have e:i=pl.length:=by omega
  subst e;rw [List.drop_length,List.any_nil,sel_false];intro k He;rw [ak M aG.eq_1];simp (maxSteps:=3000000) (maxDischargeDepth:=6) +contextual -implicitDefEqProofs only [amC M,↓amD,Nat.reduceBEq,Nat.reduceAdd,env,aj,b9,Nat.lt_irrefl]
 |n+1,i,h=>by
  have hi:i<pl.length:=by omega
  have hiw:i<ws.length:=by omega
  have hx:pl[i]?=some pl[i]:=List.getElem?_eq_getElem hi;have hxw:ws[i]?=some ws[i]:=List.getElem?_eq_getElem hiw;have hd:(pl.drop i)=pl[i]::pl.drop (i+1):=List.drop_eq_getElem_cons hi;have hf:=OC M hC (hw i _ _ hxw hx);have hia:=qz (id:=P) hi .i64;have hld:bn none ws i=some ws[i]:=by simp only [bn,hxw]
  have hwi:=bt (n:=pl.length) hi (by simp only [aX];omega);rw [hd,List.any_cons];cases hbg:nR pl[i] with
  |true=>
   rw [Bool.true_or,sel_true];refine ⟨i,fun k He => ?_⟩;rw [ak M aG.eq_1];simp (maxSteps:=3000000) (maxDischargeDepth:=6) +contextual -implicitDefEqProofs only [amC M,↓amD,Nat.reduceBEq,Nat.reduceAdd,env,aj,b9,hi,hP,hia,hld,hf,hbg,hc]
  |false=>
   have ih:=ixl hC hc hP hl hb hw n (i+1) (by omega);rw [Bool.false_or]
   have step:∀ (k:List Fra) (He:List AObj),M.go bc H0 (.c aG :: .lp ⟨(some [0,1,7,8]),[],false⟩ aG He :: .blk 0 :: .c (.lv [])::k) (kv [(0,.rslice P 0 pl.length 1 true),(1,.fn (.func gy) [] []),(7,.int .i64 pl.length),(8,.int .i64 i)]) G=M.go bc H0 (.c aG :: .lp ⟨(some [0,1,7,8]),[],false⟩ aG G :: .blk 0 :: .c (.lv [])::k) (kv [(0,.rslice P 0 pl.length 1 true),(1,.fn (.func gy) [] []),(7,.int .i64 pl.length),(8,.int .i64 ((i+1:Nat):Int))]) G:=fun k He=>by
    rw [ak M aG.eq_1];simp (maxSteps:=3000000) (maxDischargeDepth:=6) +contextual -implicitDefEqProofs only [amC M,↓amD,Nat.reduceBEq,Nat.reduceAdd,env,aj,b9,hi,hP,hia,hld,hf,hbg,hwi]
   cases ha:(pl.drop (i+1)).any nR with
   |true=>
    rw [ha,sel_true] at ih;rw [sel_true];obtain ⟨j,ih⟩:=ih;exact ⟨j,fun k He=>by rw [step k He,ih k G]⟩
   |false=>
    rw [ha,sel_false] at ih;rw [sel_false];exact fun k He=>by rw [step k He,ih k G]
theorem MD(hC:jT E){G:List AObj}{P:Nat}{ws:List AV}{pl:List (List ag)}(hP:G[P]?=some (.cells ws al))(hl:ws.length=pl.length)(hb:pl.length≤100000000)(hw:∀ (i:Nat) (w:AV) (l:List ag),ws[i]?=some w→pl[i]?=some l→PcV G w l) :
  M.run cA [.rslice P 0 pl.length 1 true,.fn (.func gy) [] []] G=some (.ret (.bool (pl.any nR)),G):=by
 have h:=ixl M hC (cut_refl G) hP hl hb hw pl.length 0 (by omega);rw [List.drop_zero] at h
 have hi:∃ z:Int,decide ((0:Int)≤z)=pl.any nR∧M.run eh [.rslice P 0 pl.length 1 true,.fn (.func gy) [] []] G=some (.ret (.int .i64 z),G):=by
  cases ha:pl.any nR with
  |true=>
   rw [ha,sel_true] at h;obtain ⟨j,h⟩:=h;simp only [kv_cons,kv_nil,Int.ofNat_zero] at h;refine ⟨(j:Int),decide_eq_true (by omega), ?_⟩;rw [br M hC.slices_IndexFunc_api_Piece_api_Piece rfl (c:=b8) rfl,b8];simp (maxSteps:=3000000) (maxDischargeDepth:=6) +contextual -implicitDefEqProofs only [amC M,↓amD,Nat.reduceBEq,Nat.reduceAdd,env,aj,b9,h,hp_self]
  |false=>
   rw [ha,sel_false] at h;simp only [kv_cons,kv_nil,Int.ofNat_zero] at h;refine ⟨-1,rfl, ?_⟩;rw [br M hC.slices_IndexFunc_api_Piece_api_Piece rfl (c:=b8) rfl,b8];simp (maxSteps:=3000000) (maxDischargeDepth:=6) +contextual -implicitDefEqProofs only [amC M,↓amD,Nat.reduceBEq,Nat.reduceAdd,env,aj,b9,h,hp_self,cut_refl]
 obtain ⟨z,z1,z2⟩:=hi;rw [br M hC.slices_ContainsFunc_api_Piece_api_Piece rfl (c:=dC) rfl,dC];simp (maxSteps:=3000000) (maxDischargeDepth:=6) +contextual -implicitDefEqProofs only [amC M,↓amD,Nat.reduceBEq,Nat.reduceAdd,env,aj,kU,z2,z1]
def pO(l:List ag):Tag:=match l with
 |[]=>.nil
 |_=>.any
def plR(l:List ag):List AV:=[.slice (pO l) 3 (l.map ag.row)]
theorem FV:∀ l:List ag,jI 3 l.length (pcC l)=l.map ag.row
 |[]=>rfl
 |x::l=>by
  rw [List.length_cons,show pcC (x::l)=x.row++pcC l from rfl,jI,List.map_cons,show (x.row++pcC l).drop 3=pcC l from rfl,FV l];rfl
theorem IS:∀ l:List AV,jI 1 l.length l=l.map fun w=>[w]
 |[]=>rfl
 |x::l=>by rw [List.length_cons,jI,List.map_cons,List.drop_one,List.tail_cons,IS l];rfl
theorem OD{k n:Nat}{H:List AObj}(l:List ag):ft (ft (fzF (k+1) n H)) (l.map ag.row)=some (l.map ag.row):=
 Da fun x _=>b6 (uM _ _ _ _ _) (b6 (RJ _ _ _ _) (b6 (B8 _ _ _ _) (dQ _)))
theorem K7{k n:Nat}{G:List AObj}{w:AV}{l:List ag}(h:PcV G w l)(hf:free (fun i=>i<n) w):fzF (k+2) n G w=some (.slice (pO l) 3 (l.map ag.row)):=by
 rcases h with ⟨rfl,rfl⟩ | ⟨hne,Q,rfl,hQ⟩
 ·exact rJ (t:=.nil) (dQ _)
 ·have hn:=hf Q _ _ _ _ rfl
  have ht:pO l = .any:=by
   cases l with
   |nil=>exact absurd rfl hne
   |cons x l=>rfl
  rw [ht];exact FB (by omega) hQ (by rw [rX];omega) (by rw [List.drop_zero,FV];exact OD l)
theorem GZ:∀ (l:List ag) {m:Nat}{S:CSt},CBm m S→CBm (m+IR l) (FT S l)
 |[],m,S,h=>by
  show CBm (m+0) S;exact h
 |x::l,m,S,h=>by
  have h1:=GZ l (K6 h x);rw [xD,szP,← Nat.add_assoc];exact h1
def IT(l:List ag)(pos:List Int):CSt:=FT ⟨[],[],pos,0,false,[]⟩ l
def vP(l:List ag)(pos:List Int):List (List ag):=(IT l pos).done++[(IT l pos).cur]
def Sc(l:List ag)(pos:List Int):AV:=.tuple [.slice .any 1 ((vP l pos).map plR),.bool (!(vP l pos).any nR)]
theorem QE(hC:jT E){l:List ag}{tg ta:Tag}{pos:List Int}(hl:l.length≤aX)(htx:∀ x∈l,x.text.length≤aX)(hta:ta = .any∨ta = .some∨pos=[])(hop:xr l 0)(hm:IR l≤50000)(H:List AObj) :
  M.run uN [.slice tg 3 (l.map ag.row),.slice ta 1 (pos.map bU)] H=some (.ret (Sc l pos),H):=by
 obtain ⟨G,hG⟩:∃ G,G=H++[AObj.cells [.slice .nil 3 []] al,AObj.cells [.rslice H.length 0 1 1 true,.slice ta 1 (pos.map bU),.int .i64 0,.bool false,.slice .nil 1 []] bo]:=⟨_,rfl⟩
 have w0:jd (fun i=>i<H.length) (H.length+1) G ⟨[],[],pos,0,false,[]⟩:=by
  refine ⟨H.length,H.length+2,[],.slice .nil 3 [],ta,.slice .nil 1 [],⟨by omega,by omega,fun i hi=>by rw [hG];simp;omega,by rw [hG,hp_getk];rfl,by rw [hG,aL];rfl,rfl,fun i w l h=>by simp at h,.inl ⟨rfl,rfl⟩,fun Q o n e r eq=>(by cases eq),fun Q o n e r eq=>(by cases eq),by rw [hG];simp,.inl ⟨rfl,rfl⟩,fun Q o n e r eq=>(by cases eq),hta⟩⟩
 have b0:CBm 0 ⟨[],[],pos,0,false,[]⟩:=⟨Nat.le_refl _,fun s hs=>(by cases hs),Nat.le_refl _,Nat.le_refl _,fun x hx=>(by cases hx),Nat.le_refl _⟩
 obtain ⟨H1,c1,c2,c3,c4⟩:=ct1 M hC (tg:=tg) hl htx (H0:=H) l.length 0 0 G _ (by omega) w0 b0 (by rw [List.drop_zero];exact hop) (by rw [List.drop_zero];omega);rw [List.drop_zero] at c2;have hS:FT ⟨[],[],pos,0,false,[]⟩ l=IT l pos:=rfl;rw [hS] at c2;obtain ⟨P,q,vs,v,ta',ov,h⟩:=c2;have hlen:(vs++[v]).length=(vP l pos).length:=by simp [vP,h.len]
 have hws:∀ (i:Nat) (w:AV) (p:List ag),(vs++[v])[i]?=some w→(vP l pos)[i]?=some p→PcV H1 w p∧free (fun i=>i<H.length) w:=fun i w p hi hp=>by
  by_cases hlt:i<vs.length
  ·rw [List.getElem?_append_left hlt] at hi
   rw [vP,List.getElem?_append_left (by rw [← h.len];exact hlt)] at hp;have:=h.dn i w p hi hp;exact ⟨this.1,this.2.2⟩
  ·have hi2:i=vs.length:=by
    have:=(List.getElem?_eq_some_iff.1 hi).1;simp at this;omega
   subst hi2;rw [List.getElem?_append_right (Nat.le_refl _),Nat.sub_self,List.getElem?_cons_zero] at hi;rw [vP,List.getElem?_append_right (by rw [h.len];exact Nat.le_refl _),h.len,Nat.sub_self,List.getElem?_cons_zero] at hp;cases hi;cases hp;exact ⟨h.cr,h.pr⟩
 have hk:H1.take H.length=H:=by
  refine List.ext_getElem? fun i => ?_
  by_cases hi:i<H.length
  ·rw [List.getElem?_take_of_lt hi,c4 i hi,hG,List.getElem?_append_left hi]
  ·rw [List.getElem?_eq_none (by simp;omega),List.getElem?_eq_none (by omega)]
 have hcut:b5 H H1:=⟨by have:=h.rl;rw [hG] at c3;simp at c3;omega,fun i x hi hx=>.inl (by rw [← hk,List.getElem?_take_of_lt hi];exact hx)⟩
 have hfz:Fz H.length H1 (.tuple [.rslice P 0 ((IT l pos).done.length+1) 1 true,.bool (!(vP l pos).any nR)]) (Sc l pos):=by
  refine ⟨6,ph (b6 (FB (by have:=h.hP;omega) h.par (by simp [h.len]) ?_) (b6 (B8 _ _ _ _) (dQ _)))⟩;rw [List.drop_zero,show (IT l pos).done.length+1=(vs++[v]).length by simp [h.len],IS];refine zq (by rw [List.length_map,List.length_map];exact hlen) fun i x y hx hy => ?_
  rw [List.getElem?_map] at hx hy;cases hxi:(vs++[v])[i]? with
  |none=>rw [hxi] at hx;cases hx
  |some w=>
   cases hyi:(vP l pos)[i]? with
   |none=>rw [hyi] at hy;cases hy
   |some p=>
    rw [hxi] at hx;rw [hyi] at hy;cases hx;cases hy;obtain ⟨g1,g2⟩:=hws i w p hxi hyi;exact b6 (K7 g1 g2) (dQ _)
 have hh:=kx hcut hfz;rw [hk] at hh;have hdn:=(GZ l b0).done;rw [hS] at hdn;have hlc:(IT l pos).done.length+1=(vP l pos).length:=by rw [← hlen];simp [h.len]
 have hcf:=MD M hC (P:=P) (ws:=vs++[v]) (pl:=vP l pos) h.par hlen (by omega) fun i w p hi hp=>(hws i w p hi hp).1
 have hcl:=h.cell;rw [hlc] at hcl hh;simp only [kv_cons,kv_nil,Int.ofNat_zero] at c1;rw [hG] at c1;rw [br M hC.docs_cut rfl (c:=yq) rfl,yq];simp (maxSteps:=3000000) (maxDischargeDepth:=6) +contextual -implicitDefEqProofs only [amC M,↓amD,Nat.reduceBEq,Nat.reduceAdd,env,aj,oq,amG,AV.cell,Nat.reduceMul,Nat.reduceLeDiff,rnc,List.length_map,c1,hcl,cl5,hcf,hh]
end
section
attribute [local congr] aI bR aZ aJ aY aR aK aC aD aS aT
variable{E:bG}(M:cJ cM E)
theorem zV:∀ (l:List ag) (p b e:Bool) (st:List Str),DT l p b e st=0→xr l st.length
 |[],_,_,_,_,_=>trivial
 |x::l,p,b,e,st,h=>by
  rw [DT] at h;cases h1:Me x with
  |true=>rw [h1,sel_true] at h;cases h
  |false=>
  rw [h1,sel_false] at h;cases h2:Mf x with
  |true=>rw [h2,sel_true] at h;cases h
  |false=>
  rw [h2,sel_false] at h;cases h3:Mg p x with
  |true=>rw [h3,sel_true] at h;cases h
  |false=>
  rw [h3,sel_false] at h;cases h4:Mh x with
  |true=>rw [h4,sel_true] at h;cases h
  |false=>
  rw [h4,sel_false] at h;cases h5:tI b e x with
  |false=>rw [h5,sel_false] at h;cases h
  |true=>
  rw [h5,sel_true] at h;cases h6:(x.kind == 3) && !AL st x.text with
  |true=>rw [h6,sel_true] at h;cases h
  |false=>
  rw [h6,sel_false] at h;cases k3:x.kind == 3 with
  |true=>
   have k2:(x.kind == 2)=false:=by rw [eq_of_beq k3];rfl
   rw [k3,Bool.true_and,Bool.not_eq_false'] at h6;rw [k2,sel_false] at h;have hst:stP x st=st.tail:=by unfold stP;simp [k3]
   have hne:st≠[]:=fun e=>by rw [e] at h6;cases h6
   rw [hst] at h;have ih:=zV l _ _ _ _ h;refine ⟨fun _=>List.length_pos_iff.2 hne, ?_⟩;rw [if_neg (by simp [k2]),if_pos k3];rwa [List.length_tail] at ih
  |false=>
   have hst:stP x st=st:=by unfold stP;simp [k3]
   rw [hst] at h;cases k2:x.kind == 2 with
   |true=>
    rw [k2,sel_true] at h;cases h7:decide ((16:Int)<((x.text::st).length:Int)) with
    |true=>rw [h7,sel_true] at h;cases h
    |false=>
     rw [h7,sel_false] at h;have ih:=zV l _ _ _ _ h;refine ⟨fun hk=>(by rw [k3] at hk;cases hk), ?_⟩;rw [if_pos k2];exact ih
   |false=>
    rw [k2,sel_false] at h;have ih:=zV l _ _ _ _ h;refine ⟨fun hk=>(by rw [k3] at hk;cases hk), ?_⟩;rw [if_neg (by simp [k2]),if_neg (by simp [k3])];exact ih
theorem D9{l:List ag}(h:dX l=0):xr l 0:=by
 unfold dX at h;cases hb:decide ((512:Int)<(l.length:Int)) with
 |true=>rw [hb] at h;cases h
 |false=>rw [hb,sel_false] at h;exact zV l _ _ _ [] h
theorem Cd:∀ l:List ag,IR l=6*jG l+2*l.length
 |[]=>rfl
 |x::l=>by
  rw [xD,Cd l,szP,jG,jG,List.map_cons,List.sum_cons,List.length_cons];omega
def okA(n:Int):Option Int→List Int→Bool
 |_,[]=>true
 |p,k::t => !(decide (k<1))&&(!(decide (n-1<k))&&((match p with
  |none=>true
  |some q => !(decide (k≤q)))&&okA n (some k) t))
theorem Ea(n:Int)(p:Option Int)(k:Int)(t:List Int):okA n p (k::t)=(!(decide (k<1))&&(!(decide (n-1<k))&&((match p with
  |none=>true
  |some q => !(decide (k≤q)))&&okA n (some k) t))):=by rw [okA.eq_def]
def prv(l:List Int)(i:Nat):Option Int:=match i with
 |0=>none
 |i+1=>l[i]?
end
section
attribute [local congr] aI bR aZ aJ aY aR aK aC aD aS aT
variable{E:bG}(M:cJ cM E)
def xt(x:ag):List ag:=sel (x.kind == 1) ((cE x.text).map rq) [x]
def pP(l:List ag):List ag:=(l.map xt).flatten
theorem OE(x:ag):(xt x).length≤x.text.length+1:=by
 have:=jQ x.text;unfold xt;cases x.kind == 1
 ·rw [sel_false];simp
 ·rw [sel_true];simp;omega
theorem IU:∀ l:List ag,(pP l).length≤l.length+jG l
 |[]=>by simp [pP]
 |x::l=>by
  show (xt x++pP l).length≤_;have h1:=OE x;have h2:=IU l;rw [List.length_append,jG,List.map_cons,List.sum_cons,List.length_cons];unfold jG at h2;omega
theorem sg0{H H0:List AObj}{l:List ag}{tg:Tag}{rs:List Nat}(hrs:rs.length≤aX){j:Int}(k:List Fra):∀ (n i:Nat) (o:List ag) (He:List AObj),i+n=rs.length→o.length+n≤100000000 →
  M.go dw H0 (.c eQ :: .lp ⟨(some [0,3,4,5,6]),[(3,3,ah)],false⟩ eQ He :: .blk 2 :: .c (.lv [0,3,4])::k) (kv [(0,.slice tg 3 (l.map ag.row)),(3,.slice (.own H.length) 3 (o.map ag.row)),(4,.int .i64 j),(5,.slice .any 1 (rs.map kQ)),(6,.int .i64 i)]) (H++[.tok (o.length*3) ah]) =
   M.go dw H0 k (kv [(0,.slice tg 3 (l.map ag.row)),(3,.slice (.own H.length) 3 ((o++(rs.drop i).map rq).map ag.row)),(4,.int .i64 j)]) (H++[.tok ((o++(rs.drop i).map rq).length*3) ah])
 |0,i,o,He,h,ho=>by
  have e:i=rs.length:=by omega
  subst e;rw [ak M eQ.eq_1];simp (maxSteps:=3000000) (maxDischargeDepth:=6) +contextual -implicitDefEqProofs only [amC M,↓amD,Nat.reduceBEq,Nat.reduceAdd,env,aj,eH,Nat.lt_irrefl,List.drop_length,List.map_nil,List.append_nil]
 |n+1,i,o,He,h,ho=>by
  have hi:i<rs.length:=by omega
  have hx:rs[i]?=some rs[i]:=List.getElem?_eq_getElem hi;have hd:(rs.drop i)=rs[i]::rs.drop (i+1):=List.drop_eq_getElem_cons hi;have ap:=fun L=>kR (row:=ag.row) (l:=o) (x:=rq rs[i]) (r:=[.int .u8 1,.str (MC rs[i]),.bool false]) (sz:=3) (bytes:=32) (e:=ah) H L rfl rfl (by simp only [rq,ag.row];rfl) (by omega) (by omega)
  simp only [MC] at ap;have ih:=fun He=>sg0 (H:=H) (H0:=H0) (l:=l) (tg:=tg) hrs (j:=j) k n (i+1) (o++[rq rs[i]]) He (by omega) (by simp;omega)
  simp only [kv_cons,kv_nil] at ih;rw [hd,List.map_cons,show o++rq rs[i]::(rs.drop (i+1)).map rq=o++[rq rs[i]]++(rs.drop (i+1)).map rq by simp];rw [ak M eQ.eq_1];simp (maxSteps:=3000000) (maxDischargeDepth:=6) +contextual -implicitDefEqProofs only [amC M,↓amD,Nat.reduceBEq,Nat.reduceAdd,env,aj,eH,amG,AV.cell,Nat.reduceMul,Nat.reduceLeDiff,hi,hx,ap,ih,aA hi,xh,OB,bt hi hrs]
theorem sg1{H H0:List AObj}{l:List ag}{tg:Tag}(hl:l.length≤100000)(ht:nz l)(k:List Fra):∀ (n i:Nat) (o:List ag) (He:List AObj),i+n=l.length→o.length+(pP (l.drop i)).length≤100000000 →
  M.go dw H0 (.c dH :: .lp ⟨(some [0,3,4]),[(3,3,ah)],false⟩ dH He :: .blk 0 :: .c (.lv [3])::k) (kv [(0,.slice tg 3 (l.map ag.row)),(3,.slice (.own H.length) 3 (o.map ag.row)),(4,.int .i64 i)]) (H++[.tok (o.length*3) ah]) =
   M.go dw H0 k (kv [(3,.slice (.own H.length) 3 ((o++pP (l.drop i)).map ag.row))]) (H++[.tok ((o++pP (l.drop i)).length*3) ah])
 |0,i,o,He,h,ho=>by
  have e:i=l.length:=by omega
  subst e;rw [ak M dH.eq_1];simp (maxSteps:=3000000) (maxDischargeDepth:=6) +contextual -implicitDefEqProofs only [amC M,↓amD,Nat.reduceBEq,Nat.reduceAdd,env,aj,eH,Nat.lt_irrefl,List.drop_length,pP,List.map_nil,List.flatten_nil,List.append_nil]
 |n+1,i,o,He,h,ho=>by
  have hi:i<l.length:=by omega
  have hx:l[i]?=some l[i]:=List.getElem?_eq_getElem hi;have hd:(l.drop i)=l[i]::l.drop (i+1):=List.drop_eq_getElem_cons hi;have hm:l[i]∈l:=List.getElem_mem hi;have htl:=ht _ hm;have hul:pP (l.drop i)=xt l[i]++pP (l.drop (i+1)):=by rw [hd];rfl
  rw [hul] at ho ⊢;rw [List.length_append] at ho;have hwi:=bt (n:=l.length) hi (by simp only [aX];omega);have hir:=aA (row:=ag.row) (tag:=tg) (sz:=3) (k:=.i64) hi;have hcv:=zJ (s:=l[i].text) htl;have hrl:=jQ l[i].text;cases h1:l[i].kind == 1 with
  |true=>
   have hs:xt l[i]=(cE l[i].text).map rq:=by unfold xt;rw [h1];rfl
   rw [hs] at ho ⊢;rw [List.length_map] at ho;have h0:=fun k He=>sg0 M (H:=H) (H0:=H0) (l:=l) (tg:=tg) (rs:=cE l[i].text) (by simp only [aX];omega) (j:=(i:Int)) k (cE l[i].text).length 0 o He (by omega) (by omega)
   have ih:=fun He=>sg1 (H:=H) (H0:=H0) (tg:=tg) hl ht k n (i+1) (o++(cE l[i].text).map rq) He (by omega) (by rw [List.length_append,List.length_map];omega)
   simp only [kv_cons,kv_nil,Int.ofNat_zero,List.drop_zero] at h0 ih;rw [← List.append_assoc];rw [ak M dH.eq_1];simp (maxSteps:=3000000) (maxDischargeDepth:=6) +contextual -implicitDefEqProofs only [amC M,↓amD,Nat.reduceBEq,Nat.reduceAdd,env,aj,eH,amG,AV.cell,Nat.reduceMul,Nat.reduceLeDiff,hi,hx,hir,aW,h1,hcv,h0,hwi,ih]
  |false=>
   have hs:xt l[i]=[l[i]]:=by unfold xt;rw [h1];rfl
   rw [hs] at ho ⊢;have ap:=fun L=>kR (row:=ag.row) (l:=o) (x:=l[i]) (r:=l[i].row) (sz:=3) (bytes:=32) (e:=ah) H L rfl rfl rfl (by simp at ho;omega) (by simp at ho;omega)
   have ih:=fun He=>sg1 (H:=H) (H0:=H0) (tg:=tg) hl ht k n (i+1) (o++[l[i]]) He (by omega) (by simp at ho ⊢;omega)
   simp only [kv_cons,kv_nil] at ih;rw [← List.append_assoc];rw [ak M dH.eq_1];simp (maxSteps:=3000000) (maxDischargeDepth:=6) +contextual -implicitDefEqProofs only [amC M,↓amD,Nat.reduceBEq,Nat.reduceAdd,env,aj,eH,amG,AV.cell,Nat.reduceMul,Nat.reduceLeDiff,hi,hx,hir,aW,h1,ap,hwi,ih]
theorem J9(hC:jT E){l:List ag}{tg:Tag}(hl:l.length≤100000)(ht:nz l)(hu:(pP l).length≤100000000)(H:List AObj) :
  M.run kB [.slice tg 3 (l.map ag.row)] H=some (.ret (.slice .any 3 ((pP l).map ag.row)),H):=by
 rw [br M hC.truchmanref01_single rfl (c:=kI) rfl,kI];have h1:=fun k He=>sg1 M (H:=H) (H0:=H) (tg:=tg) hl ht k l.length 0 [] He (by omega) (by simpa using hu)
 simp only [kv_cons,kv_nil,Int.ofNat_zero,List.drop_zero,List.nil_append,List.length_nil,Nat.zero_mul,List.map_nil] at h1;have hh:=handV_drop (cut_app H [.tok ((pP l).length*3) ah]) (wk_any (esz:=3) (tag:=.own H.length) (JZ H.length (pP l)));simp only [anyV_slice,hp_take] at hh;simp (maxSteps:=3000000) (maxDischargeDepth:=6) +contextual -implicitDefEqProofs only [amC M,↓amD,Nat.reduceBEq,Nat.reduceAdd,env,aj,eH,h1,hh]
theorem K8(hC:jT E){H:List AObj}{v:AV}{l:List ag}(h:PcV H v l)(hl:l.length≤100000000)(ht:∀ x∈l,x.text.length≤100000000){p:ag}(hp:p.text.length≤100000000) :
  ∃ w H',M.run dI [v,.agg p.row] H=some (.ret w,H')∧PcV H' w (jH l p)∧w.strip=w∧(∀ Q o n e r,w = .rslice Q o n e r→w=v∨H.length≤Q)∧H.length≤H'.length∧∀ (i:Nat) (y:AObj),H[i]?=some y→(∀ Q,v = .rslice Q 0 l.length 3 true→i≠Q)→H'[i]?=some y:=by
 have r1:∀ H,oW (some H)=some (eB,H):=fun _=>rfl
 have gx:=aL H [AObj.cells p.row ah];rw [List.getElem?_cons_zero] at gx;have hln:=fun G=>AS (G:=G) h
 have h1:PcV (H++[AObj.cells p.row ah]) v l:=h.stay fun Q cs _ hQ=>bD hQ
 have hlen1:(H++[AObj.cells p.row ah]).length=H.length+1:=by simp
 have more:jH l p=l++[p]→∃ w G,rap true (H++[AObj.cells p.row ah]) ah 3 32 false v (.slice .full 3 [p.row])=some (w,G)∧PcV G w (jH l p)∧w.strip=w∧(∀ Q o n e r,w = .rslice Q o n e r→w=v∨H.length≤Q)∧H.length≤G.length∧∀ (i:Nat) (y:AObj),H[i]?=some y→(∀ Q,v = .rslice Q 0 l.length 3 true→i≠Q)→G[i]?=some y:=fun hpf=>by
  obtain ⟨G,a1,a2,a3,a4⟩:=Ow h1 hl p;rw [hlen1] at a1 a2 a3 a4;refine ⟨_,G,a1,.inr ⟨by rw [hpf];simp,H.length+1,by rw [hpf];simp,by rw [hpf];exact a2⟩,rfl,fun Q o n e r eq=>.inr (by cases eq;omega),by omega,fun i y hi hne => ?_⟩;have hlt:=(List.getElem?_eq_some_iff.1 hi).1;rw [a4 i (by omega) hne];exact bD hi
 rcases (show l=[]∨∃ t x,l=t++[x] by
  rcases List.eq_nil_or_concat l with h | ⟨t,x,h⟩
  ·exact .inl h
  ·exact .inr ⟨t,x,by simpa using h⟩) with rfl | ⟨l,x,rfl⟩
 ·obtain ⟨w,G,m1,m2,m3,m4,m5,m6⟩:=more rfl
  refine ⟨w,G, ?_,m2,m3,m4,m5,m6⟩;have d0:decide ((0:Int)<((0:Nat):Int))=false:=rfl;rw [br M hC.truchmanref01_add rfl (c:=c7) rfl,c7];cases hk:p.kind == 1<;>simp (maxSteps:=3000000) (maxDischargeDepth:=6) +contextual -implicitDefEqProofs only [amC M,↓amD,Nat.reduceBEq,Nat.reduceAdd,env,aj,jW,amG,AV.cell,Nat.reduceMul,Nat.reduceLeDiff,gx,hln,hk,d0,aW,List.getElem?_cons_zero,m1]
 ·obtain ⟨⟨Q,e1,e2⟩⟩:Nonempty (∃ Q,v = .rslice Q 0 (l.length+1) 3 true∧H[Q]?=some (.cells (pcC (l++[x])) ah)):=by
   rcases h with ⟨h0,_⟩ | ⟨_,Q,h1,h2⟩
   ·simp at h0
   ·exact ⟨⟨Q,by simpa using h1,h2⟩⟩
  have hl2:l.length≤100000000:=by simp at hl;omega
  have hxt:=ht x (by simp);have d1:decide ((0:Int)<(((l++[x]).length:Nat):Int))=true:=decide_eq_true (by simp);have hw2:IntKind.i64.wrap ((((l++[x]).length:Nat):Int)-1)=(l.length:Int):=by rw [bK (by simp) (by simp;omega)];simp
  have hiq:vv 3 v (.int .i64 (l.length:Int))=some (.ptr Q (l.length*3)):=by rw [e1];exact Ox (by omega) _
  have hQ1:∀ X,(H++X)[Q]?=_:=fun X=>bD e2
  obtain ⟨q1,q2⟩:=KV l x;generalize hn:(l++[x]).length=n at d1 hw2 hln;cases hk:p.kind == 1 with
  |false=>
   obtain ⟨w,G,m1,m2,m3,m4,m5,m6⟩:=more (by rw [oJ,hk];rfl);refine ⟨w,G, ?_,m2,m3,m4,m5,by rw [← hn];exact m6⟩;rw [br M hC.truchmanref01_add rfl (c:=c7) rfl,c7];simp (maxSteps:=3000000) (maxDischargeDepth:=6) +contextual -implicitDefEqProofs only [amC M,↓amD,Nat.reduceBEq,Nat.reduceAdd,env,aj,jW,amG,AV.cell,Nat.reduceMul,Nat.reduceLeDiff,gx,hln,hk,d1,aW,List.getElem?_cons_zero,m1]
  |true=>
   cases hx:x.kind == 1 with
   |false=>
    obtain ⟨w,G,m1,m2,m3,m4,m5,m6⟩:=more (by rw [oJ,hk,hx];rfl);refine ⟨w,G, ?_,m2,m3,m4,m5,by rw [← hn];exact m6⟩;rw [br M hC.truchmanref01_add rfl (c:=c7) rfl,c7];simp (maxSteps:=3000000) (maxDischargeDepth:=6) +contextual -implicitDefEqProofs only [amC M,↓amD,Nat.reduceBEq,Nat.reduceAdd,env,aj,jW,amG,AV.cell,Nat.reduceMul,Nat.reduceLeDiff,gx,hln,hk,hx,d1,hw2,hiq,hQ1,q1,aW,List.getElem?_cons_zero,Nat.add_zero,m1]
   |true=>
    have hpf:jH (l++[x]) p=l++[{ x with text:=x.text++p.text }]:=by rw [oJ,hk,hx];rfl
    have ha:=GO (s:=x.text) (t:=p.text) (by simp only [List.length_append] at *;omega);have hqlt:=cg e2
    have hst:stO 1 (H++[AObj.cells p.row ah]) Q (l.length*3+1) [.str (x.text++p.text)] (some (.cells (pcC (l++[x])) ah))=some ((H++[AObj.cells p.row ah]).set Q (AObj.cells (pcC (jH (l++[x]) p)) ah)):=by
     rw [stO_cells (sz:=1) rfl (by rw [rX];simp;omega) rfl,KW,hpf]
    refine ⟨v,(H++[AObj.cells p.row ah]).set Q (AObj.cells (pcC (jH (l++[x]) p)) ah), ?_,.inr ⟨by rw [hpf];simp,Q,by rw [hpf,e1];simp,List.getElem?_set_self (by simp;omega)⟩,by rw [e1];rfl,fun Q o n e r eq=>.inl rfl,by simp,fun i y hi hne => ?_⟩
    ·rw [br M hC.truchmanref01_add rfl (c:=c7) rfl,c7]
     simp (maxSteps:=3000000) (maxDischargeDepth:=6) +contextual -implicitDefEqProofs only [amC M,↓amD,Nat.reduceBEq,Nat.reduceAdd,env,aj,jW,amG,AV.cell,Nat.reduceMul,Nat.reduceLeDiff,gx,hln,hk,hx,d1,hw2,hiq,hQ1,q1,q2,ha,hst,aW,List.getElem?_cons_zero,r1,Nat.add_zero]
    ·rw [List.getElem?_set_ne (fun e=>hne Q (by rw [← hn,e1];simp) e.symm)];exact bD hi
end
section
attribute [local congr] aI bR aZ aJ aY aR aK aC aD aS aT
variable{E:bG}(M:cJ cM E)
structure nd (t:Nat) (R:Nat→Prop) (H:List AObj) (S:CSt) (q:Nat) (vs:List AV) (v ov:AV):Prop where
 rl:∀ i,R i→i<H.length
 tr:¬ R t
 tok:H[t]?=some (.tok (vs.length*1) al)
 len:vs.length=S.done.length
 dn:∀ (i:Nat) (w:AV) (l:List ag),vs[i]?=some w→S.done[i]?=some l→PcV H w l∧below q w∧free R w
 cr:PcV H v S.cur
 ab:KT q v
 pr:free R v
 ql:q≤H.length
 op:OpV H ov S.opn
 oa:free R ov
structure sX (R:Nat→Prop) (H H':List AObj):Prop where
 len:H.length≤H'.length
 low:∀ i,R i→H'[i]?=H[i]?
theorem sX.refl(R:Nat→Prop)(H:List AObj):sX R H H:=⟨Nat.le_refl _,fun _ _=>rfl⟩
theorem sX.trans{R:Nat→Prop}{A B C:List AObj}(h:sX R A B)(k:sX R B C):sX R A C:=⟨Nat.le_trans h.len k.len,fun i hi=>(k.low i hi).trans (h.low i hi)⟩
theorem nd.turned{t:Nat}{R:Nat→Prop}{H H2:List AObj}{S:CSt}{q:Nat}{vs:List AV}{v w ov:AV}(h:nd t R H S q vs v ov){cur:List ag}(hlen:H.length≤H2.length)(hs:∀ (i:Nat) (y:AObj),H[i]?=some y→(∀ Q,v = .rslice Q 0 S.cur.length 3 true→i≠Q)→H2[i]?=some y)
  (hw:PcV H2 w cur) (hwa:KT q w) (hwf:free R w):nd t R H2 { S with cur:=cur } q vs w ov∧sX R H H2:=by
 have nq:∀ (i:Nat) (y:AObj),H[i]?=some y→(∀ cs,y≠.cells cs ah)→∀ Q,v = .rslice Q 0 S.cur.length 3 true→i≠Q:=fun i y hi hy Q e ei=>by
  obtain ⟨ds,hd⟩:=IJ h.cr e;subst ei;rw [hi] at hd;cases hd;exact hy ds rfl
 refine ⟨⟨fun i hi=>Nat.lt_of_lt_of_le (h.rl i hi) hlen,h.tr,hs t _ h.tok (nq t _ h.tok fun cs e=>by cases e),h.len,fun i w' l hi hl => ?_,hw,hwa,hwf,Nat.le_trans h.ql hlen,h.op.stay fun O cs hO=>hs O _ hO (nq O _ hO fun ds e=>by injection e with _ e;exact D6 e),h.oa⟩,⟨hlen,fun i hi => ?_⟩⟩
 ·obtain ⟨h1,h2,h3⟩:=h.dn i w' l hi hl
  refine ⟨h1.stay fun Q cs e hQ=>hs Q _ hQ fun Q' e' ei => ?_,h2,h3⟩;have a1:=h2 Q _ _ _ _ e;have a2:=h.ab Q' _ _ _ _ e';omega
 ·have hin:=h.rl i hi
  rw [List.getElem?_eq_getElem hin];exact hs i _ (List.getElem?_eq_getElem hin) fun Q e ei=>h.pr Q _ _ _ _ e (ei ▸ hi)
theorem nd.more{t:Nat}{R:Nat→Prop}{H:List AObj}{S:CSt}{q:Nat}{vs:List AV}{v ov:AV}(h:nd t R H S q vs v ov)(hl:S.cur.length≤100000000)(p:ag) :
  ∃ w G,rap true H ah 3 32 false v (.slice .full 3 [p.row])=some (w,G)∧nd t R G { S with cur:=S.cur++[p] } q vs w ov∧sX R H G:=by
 obtain ⟨G,a1,a2,a3,a4⟩:=Ow h.cr hl p
 obtain ⟨b1,b2⟩:=h.turned (H2:=G) (cur:=S.cur++[p]) (w:=.rslice H.length 0 (S.cur.length+1) 3 true) (by omega) (fun i y hi hne=>by
  rw [a4 i (List.getElem?_eq_some_iff.1 hi).1 hne];exact hi) (.inr ⟨by simp,H.length,by simp,a2⟩) (fun Q o n e r eq=>by cases eq;exact h.ql) (fun Q o n e r eq hR=>by cases eq;have:=h.rl _ hR;omega)
 exact ⟨_,G,a1,b1,b2⟩
theorem rc1{t:Nat}{R:Nat→Prop}{q:Nat}{vs:List AV}{ov v1 v9 v10 v13 v14:AV}{H0:List AObj}:∀ (n:Nat) (H:List AObj) (v:AV) (S:CSt),nd t R H S q vs v ov→n≤S.opn.length→S.opn.length≤100000→S.cur.length+n≤100000000 →
  ∃ H' v',(∀ (k:List Fra) (He:List AObj),M.go bH H0 (.c ga :: .lp ⟨(some [1,9,10,11,12,13,14,16]),[],false⟩ ga He :: .blk 4 :: .c (.lv [1,9,10,11,12,13,14])::k) (kv [(1,v1),(9,v9),(10,v10),(11,v),(12,ov),(13,v13),(14,v14),(16,.int .i64 ((n:Int)-1))]) H=M.go bH H0 k (kv [(1,v1),(9,v9),(10,v10),(11,v'),(12,ov),(13,v13),(14,v14)]) H')∧nd t R H' { S with cur:=S.cur++(S.opn.take n).reverse.map zS } q vs v' ov∧sX R H H'
 |0,H,v,S,h,hn,ho,hcu=>by
  refine ⟨H,v,fun k He => ?_,by simpa using h,sX.refl _ _⟩;have h0:decide ((0:Int)≤((0:Nat):Int)-1)=false:=rfl;rw [ak M ga.eq_1];simp (maxSteps:=3000000) (maxDischargeDepth:=6) +contextual -implicitDefEqProofs only [amC M,↓amD,Nat.reduceBEq,Nat.reduceAdd,env,aj,au,h0]
 |n+1,H,v,S,h,hn,ho,hcu=>by
  have hlt:n<S.opn.length:=by omega
  have hx:S.opn[n]?=some S.opn[n]:=List.getElem?_eq_getElem hlt;obtain ⟨w,G,a1,a2,a3⟩:=h.more (by omega) (zS S.opn[n]);obtain ⟨H2,v2,i1,i2,i3⟩:=rc1 (v1:=v1) (v9:=v9) (v10:=v10) (v13:=v13) (v14:=v14) (H0:=H0) n G w _ a2 (by dsimp only;omega) ho (by simp;omega);refine ⟨H2,v2,fun k He => ?_, ?_,a3.trans i3⟩
  ·rw [← i1 k G]
   obtain ⟨O,cs,o1,o2,o3⟩:=AT h.op hx;have e1:((n+1:Nat):Int)-1=(n:Int):=by omega
   have h0:decide ((0:Int)≤(n:Int))=true:=decide_eq_true (by omega);have hw1:IntKind.i64.wrap ((n:Int)-1)=(n:Int)-1:=bK (by omega) (by omega);have a1':rap true H ah 3 32 false v (.slice .full 3 [[.int .u8 3,.str S.opn[n],.bool true]])=some (w,G):=a1;rw [e1];rw [ak M ga.eq_1];simp (maxSteps:=3000000) (maxDischargeDepth:=6) +contextual -implicitDefEqProofs only [amC M,↓amD,Nat.reduceBEq,Nat.reduceAdd,env,aj,au,amG,AV.cell,Nat.reduceMul,Nat.reduceLeDiff,h0,hw1,o1,o2,o3,a1']
  ·have e:(S.opn.take (n+1)).reverse.map zS=zS S.opn[n]::(S.opn.take n).reverse.map zS:=by rw [List.take_add_one,hx];rw [Option.toList_some,List.reverse_append,List.map_append];rfl
   rw [e];simpa using i2
theorem rc2{t:Nat}{R:Nat→Prop}{q:Nat}{vs:List AV}{ov v1 v9 v10 v13 v14:AV}{H0:List AObj}:∀ (n i:Nat) (H:List AObj) (v:AV) (S:CSt),nd t R H S q vs v ov→i+n=S.opn.length→S.opn.length≤100000→S.cur.length+n≤100000000 →
  ∃ H' v',(∀ (k:List Fra) (He:List AObj),M.go bH H0 (.c gb :: .lp ⟨(some [1,9,10,11,12,13,14,17]),[],false⟩ gb He :: .blk 6 :: .c (.lv [1,9,10,11,12,13,14])::k) (kv [(1,v1),(9,v9),(10,v10),(11,v),(12,ov),(13,v13),(14,v14),(17,.int .i64 i)]) H=M.go bH H0 k (kv [(1,v1),(9,v9),(10,v10),(11,v'),(12,ov),(13,v13),(14,v14)]) H')∧nd t R H' { S with cur:=S.cur++(S.opn.drop i).map IK } q vs v' ov∧sX R H H'
 |0,i,H,v,S,h,hn,ho,hcu=>by
  have e:i=S.opn.length:=by omega
  subst e;refine ⟨H,v,fun k He => ?_,by rw [List.drop_length];simpa using h,sX.refl _ _⟩;have hl:=fun G=>tK (G:=G) h.op
  rw [ak M gb.eq_1];simp (maxSteps:=3000000) (maxDischargeDepth:=6) +contextual -implicitDefEqProofs only [amC M,↓amD,Nat.reduceBEq,Nat.reduceAdd,env,aj,au,hl,Nat.lt_irrefl]
 |n+1,i,H,v,S,h,hn,ho,hcu=>by
  have hlt:i<S.opn.length:=by omega
  have hx:S.opn[i]?=some S.opn[i]:=List.getElem?_eq_getElem hlt;obtain ⟨w,G,a1,a2,a3⟩:=h.more (by omega) (IK S.opn[i]);obtain ⟨H2,v2,i1,i2,i3⟩:=rc2 (v1:=v1) (v9:=v9) (v10:=v10) (v13:=v13) (v14:=v14) (H0:=H0) n (i+1) G w _ a2 (by dsimp only;omega) ho (by simp;omega);refine ⟨H2,v2,fun k He => ?_, ?_,a3.trans i3⟩
  ·rw [← i1 k G]
   have hl:=fun G=>tK (G:=G) h.op
   obtain ⟨O,cs,o1,o2,o3⟩:=AT h.op hx;have hw1:=bt (n:=S.opn.length) hlt (by simp only [aX];omega);have a1':rap true H ah 3 32 false v (.slice .full 3 [[.int .u8 2,.str S.opn[i],.bool true]])=some (w,G):=a1;rw [ak M gb.eq_1];simp (maxSteps:=3000000) (maxDischargeDepth:=6) +contextual -implicitDefEqProofs only [amC M,↓amD,Nat.reduceBEq,Nat.reduceAdd,env,aj,au,amG,AV.cell,Nat.reduceMul,Nat.reduceLeDiff,hl,hlt,hw1,o1,o2,o3,a1']
  ·rw [List.drop_eq_getElem_cons hlt,List.map_cons]
   simpa using i2
theorem AU{H:List AObj}{v:AV}{l:List ag}(h:PcV H v l):v.strip=v:=by
 rcases h with ⟨rfl,rfl⟩ | ⟨_,Q,rfl,_⟩<;>rfl
theorem nd.push{t:Nat}{R:Nat→Prop}{H:List AObj}{S:CSt}{q:Nat}{vs:List AV}{v ov:AV}(h:nd t R H S q vs v ov)(hd:S.done.length≤100000000) :
  rap false H al 1 24 false (.slice (.own t) 1 (vs.map nA)) (.slice .full 1 [[v]])=some (.slice (.own t) 1 ((vs++[v]).map nA),H.set t (.tok ((vs++[v]).length*1) al)) ∧
   nd t R (H.set t (.tok ((vs++[v]).length*1) al)) { S with done:=S.done++[S.cur],cur:=[] } H.length (vs++[v]) (.slice .nil 3 []) ov∧sX R H (H.set t (.tok ((vs++[v]).length*1) al)):=by
 have htl:=(List.getElem?_eq_some_iff.1 h.tok).1
 have hs:∀ {i:Nat}{cs:List AV}{T:TypeId},H[i]?=some (.cells cs T)→(H.set t (.tok ((vs++[v]).length*1) al))[i]?=some (.cells cs T):=fun {i cs T} hi=>by
  rw [List.getElem?_set_ne (fun e=>by subst e;have:=h.tok;rw [hi] at this;cases this)];exact hi
 have hvs:=h.len;refine ⟨Re (row:=nA) (l:=vs) (x:=v) (r:=[v]) (sz:=1) (bytes:=24) h.tok rfl (by simp [(zQ h.cr).1]) (by simp [AU h.cr,nA]) (by omega) (by omega),⟨fun i hi=>by simpa using h.rl i hi,h.tr,List.getElem?_set_self htl,by simp [hvs],fun i w l hi hl => ?_,.inl ⟨rfl,rfl⟩,fun Q o n e r eq=>(by cases eq),fun Q o n e r eq=>(by cases eq),by simp,h.op.stay fun O cs hO=>hs hO,h.oa⟩,⟨by simp,fun i hi=>List.getElem?_set_ne (fun e:t=i=>h.tr (by rw [e];exact hi))⟩⟩
 by_cases hlt:i<vs.length
 ·rw [List.getElem?_append_left hlt] at hi
  rw [List.getElem?_append_left (by omega)] at hl;obtain ⟨d1,d2,d3⟩:=h.dn i w l hi hl;exact ⟨d1.stay fun Q cs _ hQ=>hs hQ,fun Q o n e r eq=>Nat.lt_of_lt_of_le (d2 Q o n e r eq) h.ql,d3⟩
 ·have hi2:i=vs.length:=by
   have:=(List.getElem?_eq_some_iff.1 hi).1;simp at this;omega
  subst hi2;rw [List.getElem?_append_right (Nat.le_refl _),Nat.sub_self,List.getElem?_cons_zero] at hi;rw [List.getElem?_append_right (by omega),show vs.length-S.done.length=0 by omega,List.getElem?_cons_zero] at hl;cases hi;cases hl;refine ⟨h.cr.stay fun Q cs _ hQ=>hs hQ,fun Q o n e r eq => ?_,h.pr⟩;rcases h.cr with ⟨_,hv⟩ | ⟨_,Q',hv,hQ⟩
  ·rw [hv] at eq;cases eq
  ·rw [hv] at eq;cases eq;exact cg hQ
end
section
attribute [local congr] aI bR aZ aJ aY aR aK aC aD aS aT
variable{E:bG}(M:cJ cM E)
theorem nd.add(hC:jT E){t:Nat}{R:Nat→Prop}{H:List AObj}{S:CSt}{q:Nat}{vs:List AV}{v ov:AV}(h:nd t R H S q vs v ov)(hl:S.cur.length≤100000000)(ht:∀ x∈S.cur,x.text.length≤100000000){p:ag}(hp:p.text.length≤100000000) :
  ∃ w G,M.run dI [v,.agg p.row] H=some (.ret w,G)∧nd t R G { S with cur:=jH S.cur p } q vs w ov∧sX R H G:=by
 obtain ⟨w,G,a1,a2,a3,a4,a5,a6⟩:=K8 M hC h.cr hl ht hp
 have:=h.turned (H2:=G) (cur:=jH S.cur p) (w:=w) a5 a6 a2 (fun Q o n e r eq=>by
  rcases a4 Q o n e r eq with e1 | e1
  ·exact h.ab Q o n e r (e1 ▸ eq)
  ·have:=h.ql;omega) (fun Q o n e r eq hR=>by
  rcases a4 Q o n e r eq with e1 | e1
  ·exact h.pr Q o n e r (e1 ▸ eq) hR
  ·have:=h.rl _ hR;omega)
 exact ⟨w,G,a1,this.1,this.2⟩
theorem nd.open{t:Nat}{R:Nat→Prop}{H:List AObj}{S:CSt}{q:Nat}{vs:List AV}{v ov:AV}(h:nd t R H S q vs v ov)(hl:S.opn.length≤100000)(s:Str) :
  ∃ w G,rap true H aH 1 16 false ov (.slice .full 1 [[.str s]])=some (w,G)∧nd t R G { S with opn:=S.opn++[s] } q vs v w∧sX R H G:=by
 obtain ⟨w,G,a1,a2,a3,a4,a5,a6,a7⟩:=Rf h.op h.oa h.rl (by omega) s
 have tk:G[t]?=some (.tok (vs.length*1) al):=by
  have htok:=h.tok
  have:∀ O,ov≠.rslice O 0 S.opn.length 1 true∨t≠O:=fun O=>by
   rcases h.op with ⟨_,e⟩ | ⟨O',junk,e,hO⟩
   ·left;rw [e];intro h;cases h
   ·by_cases ht:t=O
    ·left;rw [e];intro h2;cases h2;rw [ht,hO] at htok;cases htok
    ·exact .inr ht
  rcases h.op with ⟨e0,e⟩ | ⟨O',junk,e,hO⟩
  ·rw [e] at a1
   simp only [rap,pY,pS,or_true,if_true,na] at a1;rw [if_pos (by simp)] at a1;cases a1;exact bD htok
  ·rw [e] at a1
   have hlen:S.opn.length*1≤(kr S.opn++junk).length:=by rw [List.length_append,kg];omega
   simp only [rap,pY,pS,or_true,if_true,na,hO] at a1;rw [if_pos ⟨trivial,trivial,hlen,by simp;omega,by simp;omega⟩] at a1;cases a1;have htl:=(List.getElem?_eq_some_iff.1 htok).1;rw [List.getElem?_append_left (by simp;omega),List.getElem?_set_ne (fun e=>by subst e;rw [hO] at htok;cases htok)];exact htok
 exact ⟨w,G,a1,⟨fun i hi=>by have:=h.rl i hi;have:=a6.len;omega,h.tr,tk,h.len,fun i w' l hi hl=>⟨(h.dn i w' l hi hl).1.stay fun Q cs _ hQ=>a7 Q _ _ hQ D6.symm,(h.dn i w' l hi hl).2⟩,h.cr.stay fun Q cs _ hQ=>a7 Q _ _ hQ D6.symm,h.ab,h.pr,by have:=h.ql;have:=a6.len;omega,a2,a3⟩,⟨a6.len,a6.low⟩⟩
theorem nd.shut{t:Nat}{R:Nat→Prop}{H:List AObj}{S:CSt}{q:Nat}{vs:List AV}{v ov:AV}(h:nd t R H S q vs v ov){l:List Str}{s:Str}(hls:S.opn=l++[s]) :
  ∃ w,CB 1 ov none (some (.int .i64 (l.length:Int))) none=some w∧nd t R H { S with opn:=l } q vs v w:=by
 have ho:=h.op;rw [hls] at ho;obtain ⟨w,a1,a2,a3,_,_⟩:=Oz ho h.oa;exact ⟨w,a1,⟨h.rl,h.tr,h.tok,h.len,h.dn,h.cr,h.ab,h.pr,h.ql,a2,a3⟩⟩
def yN(pos:List Int)(S:CSt)(x:ag):Bool:=decide (S.done.length<pos.length)&&(((S.place:Int) == pos.getD S.done.length 0) && !(x.kind == 3))
def qN(S:CSt):CSt := { S with done:=S.done++[S.cur++S.opn.reverse.map zS],cur:=S.opn.map IK }
def iC(S1:CSt)(x:ag):CSt := { S1 with opn:=sL S1.opn x,place:=sel ((x.kind == 1)||(x.kind == 5)) (S1.place+1) S1.place,cur:=jH S1.cur x }
def xU(pos:List Int)(S:CSt)(x:ag):CSt:=iC (sel (yN pos S x) (qN S) S) x
theorem K9{m:Nat}{S:CSt}(h:CBm m S):CBm (m+1) (qN S):=by
 have:=GX h;exact ⟨this.opn,this.opt,this.done,this.cur,this.txt,this.place⟩
theorem QF{m w:Nat}{S:CSt}(h1:CBm m S){p:ag}(hp:p.text.length≤w):CBm (m+w+1) (iC S p):=by
 have ho:(sL S.opn p).length≤S.opn.length+1∧∀ s∈sL S.opn p,s.length≤m+w:=by
  unfold sL;cases p.kind == 2 with
  |true=>
   refine ⟨by simp [sel_true],fun s hs => ?_⟩;rw [sel_true] at hs;rcases List.mem_append.1 hs with hs | hs
   ·have:=h1.opt s hs;omega
   ·rw [List.mem_singleton] at hs;subst hs;omega
  |false=>
   cases p.kind == 3 with
   |true=>exact ⟨by simp [sel_true,sel_false];omega,fun s hs=>by rw [sel_false,sel_true] at hs;have:=h1.opt s (List.dropLast_subset _ hs);omega⟩
   |false=>exact ⟨by simp [sel_false],fun s hs=>by rw [sel_false,sel_false] at hs;have:=h1.opt s hs;omega⟩
 have hpl:(sel ((p.kind == 1)||(p.kind == 5)) (S.place+1) S.place)≤S.place+1:=by cases (p.kind == 1)||(p.kind == 5)<;>simp [sel_true,sel_false]
 refine ⟨by have:=h1.opn;have:=ho.1;simp only [iC];omega,fun s hs=>by have:=ho.2 s hs;omega,by have:=h1.done;simp only [iC];omega,by have:=h1.cur;have:=zT S.cur p;simp only [iC];omega,fun x hx => ?_,by have:=h1.place;simp only [iC];omega⟩;have:=zU h1.txt hp x hx;omega
theorem QG{m w:Nat}{S:CSt}(h:CBm m S)(pos:List Int){p:ag}(hp:p.text.length≤w):CBm (m+w+2) (xU pos S p):=by
 have:CBm (m+1) (sel (yN pos S p) (qN S) S):=by
  cases yN pos S p with
  |true=>exact K9 h
  |false=>exact h.mono (by omega)
 exact (QF this hp).mono (by omega)
end
end Go.Am
