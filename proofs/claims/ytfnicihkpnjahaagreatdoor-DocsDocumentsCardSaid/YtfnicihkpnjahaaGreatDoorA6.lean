import Derived.Test.YtfnicihkpnjahaaGreatDoorA5
import Derived.Test.YtfnicihkpnjahaaGreatDoorChecked
import Derived.Shelf.Unicode.DecodeAny
import Derived.Lib.LaidU8T
import Derived.KernelRfl
import Derived.WalkKit
import Derived.Defers
import Derived.Laws.Pointers
import Derived.Laws.LoneSync
import Derived.RegionTactic
import Derived.RegionCalls
/-
  Part 6 of the tool: an abstract machine over the model, proved sound, and what it says of the functions that the law reaches. Condition: none but those that each theorem names.
-/
set_option linter.unusedVariables false
set_option linter.unusedSimpArgs false
set_option maxRecDepth 100000
set_option maxHeartbeats 4000000
namespace Go.Am
open Go.RowKit
section
attribute [local congr] aw bw aR aA aQ aH aC al ao aI aJ
variable{E:bc}(M:bM b4 E)
theorem uS:∀ {l:List aL},kC l=0→∀ b∈l,jd b.pieces.l=0
 |x::l,h,b,hb=>by
  rw [kC] at h;cases c:tV x == 0 with
  |false=>
   rw [c,sel_false] at h;rw [h] at c;cases c
  |true=>
   rw [c,sel_true] at h;rcases List.mem_cons.1 hb with rfl | hb
   ·have e:tV b=0:=by simpa using c
    unfold tV at e;cases c1:(decide (b.kind<1)||decide (6<b.kind)) with
    |true=>rw [c1,sel_true] at e;cases e
    |false=>
     rw [c1,sel_false] at e;cases c2:jd b.pieces.l == 0 with
     |true=>simpa using c2
     |false=>rw [c2,sel_false] at e;exact e
   ·exact uS h b hb
end
section
attribute [local congr] aw bw aR aA aQ aH aC al ao aI aJ
variable{E:bc}(M:bM b4 E)
structure uT (E:bc):Prop where
 docs_Print:E.fn oR=some gj
 truchmanref01_Print:E.fn gL=some dV
 docs_heads:E.fn oS=some o3
 truchmanref01_heads:E.fn gO=some hZ
 slices_EqualFunc_api_Block_api_Block_api_Block_api_Block:E.fn bD=some aU
 docs_Same_1:E.fn fC=some nL
 docs_Same:E.fn nr=some qJ
 slices_Equal_api_Piece_api_Piece:E.fn dq=some bS
 truchmanlaw01_DocsDocuments:E.fn eo=some er
theorem JP(hB:sL E)(hX:wj M)(H L:List AObj){w:Str}{c:UInt8}{a:AV}(ha:a = .nilp∨a = .ptr (H.length+1) 0)(h:w.length+1≤140737488355328) :
  M.run bf [.ptr (H.length+1) 0,.int .u8 c.toNat] (H++(bTok w::da a H.length w aq::L))=some (.ret .nilif,H++(bTok (w++[c])::da (.ptr (H.length+1) 0) H.length (w++[c]) aq::L)):=by
 rcases ha with rfl | rfl
 ·exact yr M (T:=0) hB hX H L h
 ·exact yt M hB hX H L h
def hdS:List Str:=[[],[104,49],[104,50],[104,51],[112],[108,105],[114,97,119]]
def hdF(b:aL):Str:=hdS.getD b.kind.toNat []
def blF(b:aL):Str:=hdF b++([32]++(jf b.pieces.l++[10]))
def ga(l:List aL):Str:=(l.map blF).flatten
theorem rm(b:aL)(l:List aL):ga (b::l)=blF b++ga l:=rfl
theorem Ms{b:aL}(h1:1≤b.kind)(h6:b.kind≤6):b.kind=1∨b.kind=2∨b.kind=3∨b.kind=4∨b.kind=5∨b.kind=6:=by omega
theorem Bv(b:aL):(hdF b).length≤3:=by
 unfold hdF;rw [List.getD_eq_getElem?_getD];cases h:hdS[b.kind.toNat]? with
 |none=>exact Nat.zero_le _
 |some x=>
  have:=List.mem_of_getElem? h;simp only [hdS,List.mem_cons,List.not_mem_nil,or_false] at this;rcases this with rfl | rfl | rfl | rfl | rfl | rfl | rfl<;>simp
theorem JQ(hT:uT E)(H:List AObj):M.run oS [] H=some (.ret (.agg (hdS.map AV.str)),H):=by
 rw [bJ M hT.docs_heads rfl (c:=o1) rfl,o1];have gx:=aP H [AObj.cells (hdS.map AV.str) xU];rw [List.getElem?_cons_zero] at gx;simp only [hdS,List.map_cons,List.map_nil] at gx ⊢;simp (maxSteps:=3000000) (maxDischargeDepth:=6) +contextual -implicitDefEqProofs only [amC M,↓amD,Nat.reduceBEq,Nat.reduceAdd,env,ag,Bc,amG,AV.cell,Nat.reduceMul,Nat.reduceLeDiff,gx,hp_take,cut_app]
theorem JR(hT:uT E)(H:List AObj):M.run gO [] H=some (.ret (.slice .any 1 (hdS.map bK)),H):=by
 rw [bJ M hT.truchmanref01_heads rfl (c:=gZ) rfl,gZ];have hh:=handV_drop (cut_refl H) (wk_any (esz:=1) (tag:=.full) (JK H.length hdS));simp only [anyV_slice,hp_self] at hh;simp only [hdS,List.map_cons,List.map_nil,bK] at hh ⊢;simp (maxSteps:=3000000) (maxDischargeDepth:=6) +contextual -implicitDefEqProofs only [amC M,↓amD,Nat.reduceBEq,Nat.reduceAdd,env,ag,pJ,amG,AV.cell,Nat.reduceMul,Nat.reduceLeDiff,hh]
theorem Li{b:aL}(h1:1≤b.kind)(h6:b.kind≤6):IP 7 none 1 (.agg (hdS.map AV.str)) (.int .u8 b.kind)=some (.str (hdF b)):=by
 unfold hdF;rcases Ms h1 h6 with e | e | e | e | e | e<;>(rw [e];rfl)
theorem dpn(hS:uP E)(hBl:sL E)(hX:wj M)(hR:wt E)(hXC:yx M)(hE:CS M){l:List aa}{tg:Tag}(hl:l.length≤bN)(hxs:∀ x∈l,x.text.length≤1000000)(hxa:∀ x∈l,rh x=false)(hw:∀ n,Wk n (.slice tg 3 (l.map aa.row)) (.slice tg 3 (l.map aa.row))){bs:AV}(hwb:∀ n,Wk n bs bs){bn bi:Int}{Z:AObj}{H H0:List AObj}:∀ (n i:Nat) (w:Str) (a:AV),(a = .nilp∨a = .ptr (H.length+1) 0)→i+n=l.length→w.length+(jf (l.drop i)).length≤100000000 →
  ∃ a',(a' = .nilp∨a' = .ptr (H.length+1) 0)∧∀ (k:List Fra),M.go gj H0 (.c iQ :: .lp ⟨(some [5,16,17,18,29,30,31]),[],true⟩ iQ (H++[bTok w,da a H.length w aq,Z]) :: .blk 2 :: .c (.lv [5,16,17,18])::k) (kv [(5,.ptr (H.length+1) 0),(16,bs),(17,.int .i64 bn),(18,.int .i64 bi),(29,.slice tg 3 (l.map aa.row)),(30,.int .i64 l.length),(31,.int .i64 i)]) (H++[bTok w,da a H.length w aq,Z]) =
   M.go gj H0 k (kv [(5,.ptr (H.length+1) 0),(16,bs),(17,.int .i64 bn),(18,.int .i64 bi)]) (H++[bTok (w++jf (l.drop i)),da a' H.length (w++jf (l.drop i)) aq,Z])
 |0,i,w,a,ha,h,hw0=>by
  have e:i=l.length:=by omega
  subst e;refine ⟨a,ha,fun k => ?_⟩;rw [List.drop_length,show jf []=[] from rfl,List.append_nil];rw [ak M iQ.eq_1];simp (maxSteps:=3000000) (maxDischargeDepth:=6) +contextual -implicitDefEqProofs only [amC M,↓amD,Nat.reduceBEq,Nat.reduceAdd,env,ag,eU,Nat.lt_irrefl]
 |n+1,i,w,a,ha,h,hw0=>by
  have hi:i<l.length:=by omega
  have hx:l[i]?=some l[i]:=List.getElem?_eq_getElem hi;have hd:(l.drop i)=l[i]::l.drop (i+1):=List.drop_eq_getElem_cons hi;have hwi:=en (n:=l.length) hi hl;have hir:=bt (row:=aa.row) (tag:=tg) (sz:=3) (k:=.i64) hi;have hm:=hxs _ (List.getElem_mem hi);have ha2:=hxa _ (List.getElem_mem hi);rw [hd,sN] at hw0 ⊢;generalize hxx:l[i]=x at *
  have hwr:=fun H=>Bu M hS hR hXC hE ha2 (by omega) H
  have g2:∀ y z u:AObj,(H++[y,z,u,AObj.cells x.row ae])[H.length+3]?=some (.cells x.row ae):=fun y z u=>by rw [hp_getk];rfl
  have s2:∀ (y z t u v:AObj),(H++[y,z,t,u]).set (H.length+3) v=H++[y,z,t,v]:=fun y z t u v=>by rw [hp_setk];rfl
  have w3:Wk (H.length+3) (.ptr (H.length+1) 0) (.ptr (H.length+1) 0):=wk_ptr (by omega);have w6:=hw (H.length+3);have w7:=hwb (H.length+3);rw [List.length_append] at hw0;rw [← List.append_assoc];obtain ⟨a',ha',ih⟩:=dpn hS hBl hX hR hXC hE hl hxs hxa hw hwb (bn:=bn) (bi:=bi) (Z:=Z) (H0:=H0) n (i+1) (w++wrF x) (.ptr (H.length+1) 0) (.inr rfl) (by omega) (by rw [List.length_append];omega);refine ⟨a',ha',fun k => ?_⟩
  have w1:=EY M hBl hX H [Z,AObj.cells x.row ae] (w:=w) (s:=wrF x) ha (by omega);have hc:=tx (pn (H:=H) (L:=[Z]) (n:=w.length) (n':=(w++wrF x).length) (T:=dk) (T':=dk) (cs:=[a,.slice (.own H.length) 1 (dO w)]) (T1:=aq) (T2:=aq) (DO H [Z] (w++wrF x))) [AObj.cells x.row ae]
  have ht:(H++[bTok (w++wrF x),da (.ptr (H.length+1) 0) H.length (w++wrF x) aq,Z,AObj.cells x.row ae]).take (H.length+3)=H++[bTok (w++wrF x),da (.ptr (H.length+1) 0) H.length (w++wrF x) aq,Z]:=by
   rw [show (H++[bTok (w++wrF x),da (.ptr (H.length+1) 0) H.length (w++wrF x) aq,Z,AObj.cells x.row ae])=(H++[bTok (w++wrF x),da (.ptr (H.length+1) 0) H.length (w++wrF x) aq,Z])++[AObj.cells x.row ae] by simp,List.take_left' (by simp)]
  simp only [List.append_assoc,List.cons_append,List.nil_append] at hc;have i2:=ih k;simp only [kv_cons,kv_nil] at i2;rw [ak M iQ.eq_1];simp (maxSteps:=3000000) (maxDischargeDepth:=6) +contextual -implicitDefEqProofs only [amC M,↓amD,Nat.reduceBEq,Nat.reduceAdd,env,ag,eU,amG,AV.cell,Nat.reduceMul,Nat.reduceLeDiff,hi,hx,hxx,hir,hwi,bu,g2,s2,hwr,w1,hc,ht,w3,w6,w7]
  all_goals exact i2
theorem dpb(hS:uP E)(hBl:sL E)(hX:wj M)(hR:wt E)(hXC:yx M)(hE:CS M)(hT:uT E){l:List aL}{tg:Tag}(hl:l.length≤bN)(hxl:∀ b∈l,b.pieces.l.length≤bN)(hxs:∀ b∈l,∀ x∈b.pieces.l,x.text.length≤1000000)(hxa:∀ b∈l,∀ x∈b.pieces.l,rh x=false)(hk1:∀ b∈l,1≤b.kind∧b.kind≤6)(hpw:∀ b∈l,∀ n,Wk n (.slice b.pieces.tag 3 (b.pieces.l.map aa.row)) (.slice b.pieces.tag 3 (b.pieces.l.map aa.row)))(hw:∀ n,Wk n (.slice tg 2 (l.map aL.row)) (.slice tg 2 (l.map aL.row))){H H0:List AObj}:∀ (n i:Nat) (w:Str) (a:AV),(a = .nilp∨a = .ptr (H.length+1) 0)→i+n=l.length→w.length+(ga (l.drop i)).length≤100000000 →
  ∃ a',∀ (k:List Fra),M.go gj H0 (.c iR :: .lp ⟨(some [5,16,17,18]),[],true⟩ iR (H++[bTok w,da a H.length w aq]) :: .blk 0 :: .c (.lv [5])::k) (kv [(5,.ptr (H.length+1) 0),(16,.slice tg 2 (l.map aL.row)),(17,.int .i64 l.length),(18,.int .i64 i)]) (H++[bTok w,da a H.length w aq]) =
   M.go gj H0 k (kv [(5,.ptr (H.length+1) 0)]) (H++[bTok (w++ga (l.drop i)),da a' H.length (w++ga (l.drop i)) aq])
 |0,i,w,a,ha,h,hw0=>by
  have e:i=l.length:=by omega
  subst e;refine ⟨a,fun k => ?_⟩;rw [List.drop_length,show ga []=[] from rfl,List.append_nil];rw [ak M iR.eq_1];simp (maxSteps:=3000000) (maxDischargeDepth:=6) +contextual -implicitDefEqProofs only [amC M,↓amD,Nat.reduceBEq,Nat.reduceAdd,env,ag,eU,Nat.lt_irrefl]
 |n+1,i,w,a,ha,h,hw0=>by
  have hi:i<l.length:=by omega
  have hx:l[i]?=some l[i]:=List.getElem?_eq_getElem hi;have hd:(l.drop i)=l[i]::l.drop (i+1):=List.drop_eq_getElem_cons hi;have hwi:=en (n:=l.length) hi hl;have hir:=bt (row:=aL.row) (tag:=tg) (sz:=2) (k:=.i64) hi;have hm:=List.getElem_mem hi;have m1:=hxl _ hm;have m2:=hxs _ hm;have m3:=hxa _ hm;have m4:=hk1 _ hm;have m5:=hpw _ hm;rw [hd,rm] at hw0 ⊢;generalize hbb:l[i]=b at *
  have hh:=fun H=>JQ M hT H
  have hix:=Li m4.1 m4.2;have h3:=Bv b;have had:bj .add (hdF b) [32]=some (.str (hdF b++[32])):=bp (by simp;omega);have g2:∀ y z:AObj,(H++[y,z,AObj.cells b.row aV])[H.length+2]?=some (.cells b.row aV):=fun y z=>by rw [hp_getk];rfl
  have s2:∀ (y z u v:AObj),(H++[y,z,u]).set (H.length+2) v=H++[y,z,v]:=fun y z u v=>by rw [hp_setk];rfl
  have w3:Wk (H.length+2) (.ptr (H.length+1) 0) (.ptr (H.length+1) 0):=wk_ptr (by omega);have w6:=hw (H.length+2);have hbl:(blF b).length=(hdF b).length+(jf b.pieces.l).length+2:=by unfold blF;simp;omega
  rw [List.length_append,hbl] at hw0;have w1:=EY M hBl hX H [AObj.cells b.row aV] (w:=w) (s:=hdF b++[32]) ha (by simp;omega);obtain ⟨a2,ha2,h2⟩:=dpn M hS hBl hX hR hXC hE m1 m2 m3 m5 hw (bn:=l.length) (bi:=i) (Z:=AObj.cells b.row aV) (H:=H) (H0:=H0) b.pieces.l.length 0 (w++(hdF b++[32])) (.ptr (H.length+1) 0) (.inr rfl) (by omega) (by rw [List.drop_zero];simp;omega);rw [List.drop_zero] at h2
  have wb:M.run bf [.ptr (H.length+1) 0,.int .u8 10] (H++(bTok (w++(hdF b++[32])++jf b.pieces.l)::da a2 H.length (w++(hdF b++[32])++jf b.pieces.l) aq::[AObj.cells b.row aV]))=some (.ret .nilif,H++(bTok (w++blF b)::da (.ptr (H.length+1) 0) H.length (w++blF b) aq::[AObj.cells b.row aV])):=by
   have:=JP M hBl hX H [AObj.cells b.row aV] (w:=w++(hdF b++[32])++jf b.pieces.l) (c:=10) ha2 (by simp;omega);rw [show w++(hdF b++[32])++jf b.pieces.l++[10]=w++blF b by unfold blF;simp] at this;exact this
  obtain ⟨a',ih⟩:=dpb hS hBl hX hR hXC hE hT hl hxl hxs hxa hk1 hpw hw (H:=H) (H0:=H0) n (i+1) (w++blF b) (.ptr (H.length+1) 0) (.inr rfl) (by omega) (by rw [List.length_append,hbl];omega);rw [← List.append_assoc];refine ⟨a',fun k => ?_⟩;have hc:=tx (pn (H:=H) (L:=[]) (n:=w.length) (n':=(w++blF b).length) (T:=dk) (T':=dk) (cs:=[a,.slice (.own H.length) 1 (dO w)]) (T1:=aq) (T2:=aq) (DO H [] (w++blF b))) [AObj.cells b.row aV]
  have ht:(H++[bTok (w++blF b),da (.ptr (H.length+1) 0) H.length (w++blF b) aq,AObj.cells b.row aV]).take (H.length+2)=H++[bTok (w++blF b),da (.ptr (H.length+1) 0) H.length (w++blF b) aq]:=by
   rw [← JL,List.take_left' (by simp)]
  simp only [List.append_assoc,List.cons_append,List.nil_append] at hc;have i2:=ih k;simp only [kv_cons,kv_nil] at i2 h2;have l2:∀ x y:AV,bW none [x,y] 0=some x:=fun _ _=>rfl
  have l3:∀ x y:AV,bW none [x,y] 1=some y:=fun _ _=>rfl
  rw [ak M iR.eq_1];simp (maxSteps:=3000000) (maxDischargeDepth:=6) +contextual -implicitDefEqProofs only [amC M,↓amD,Nat.reduceBEq,Nat.reduceAdd,env,ag,eU,amG,AV.cell,Nat.reduceMul,Nat.reduceLeDiff,hi,hx,hbb,hir,eI,g2,s2,hh,hix,had,w1,List.length_map];refine (h2 _).trans ?_;simp (maxSteps:=3000000) (maxDischargeDepth:=6) +contextual -implicitDefEqProofs only [amC M,↓amD,Nat.reduceBEq,Nat.reduceAdd,env,ag,eU,amG,AV.cell,Nat.reduceMul,Nat.reduceLeDiff,wb,hwi,hc,ht,w3,w6]
  all_goals exact i2
def uU(l:List aL):AV:=sel (jg l == 0) (sel (decide ((65536:Int)<((ga l).length:Int))) (.tuple [.str [],.int .u8 3]) (.tuple [.str (ga l),.int .u8 0])) (.tuple [.str [],.int .u8 (jg l)])
theorem sO:∀ {l:List aL},kC l=0→∀ b∈l,1≤b.kind∧b.kind≤6
 |x::l,h,b,hb=>by
  rw [kC] at h;cases c:tV x == 0 with
  |false=>
   rw [c,sel_false] at h;rw [h] at c;cases c
  |true=>
   rw [c,sel_true] at h;rcases List.mem_cons.1 hb with rfl | hb
   ·have e:=eq_of_beq c
    unfold tV at e;cases c1:decide (b.kind<1) with
    |true=>rw [c1,Bool.true_or,sel_true] at e;cases e
    |false=>
    cases c2:decide (6<b.kind) with
    |true=>rw [c1,c2,Bool.false_or,sel_true] at e;cases e
    |false=>
     have:=of_decide_eq_false c1;have:=of_decide_eq_false c2;omega
   ·exact sO h b hb
theorem rD{l:List aL}(h:jg l=0):l.length≤256∧kC l=0:=by
 unfold jg at h;cases c:decide ((256:Int)<(l.length:Int)) with
 |true=>rw [c,sel_true] at h;cases h
 |false=>
  rw [c,sel_false] at h;have:=of_decide_eq_false c;exact ⟨by omega,h⟩
theorem D3(hB:kH E)(hS:uP E)(hD:Bm M)(hSg:pq E)(hBl:sL E)(hX:wj M)(hR:wt E)(hXC:yx M)(hE:CS M)(hT:uT E){d:Docu}(hd:d.ok 0)(hsz:d.blocks.l.length≤256→∀ b∈d.blocks.l,b.pieces.l.length≤1000000∧pB b.pieces.l)(htx:jg d.blocks.l=0→∀ b∈d.blocks.l,∀ x∈b.pieces.l,x.text.length≤1000000)(hf:jg d.blocks.l=0→(ga d.blocks.l).length≤100000000)(H:List AObj) :
  M.run oR [.agg d.row] H=some (.ret (uU d.blocks.l),H):=by
 have hc:=fun H=>yD M hB hD hSg hd hsz H
 have gx:∀ X,(H++AObj.cells d.row ah::X)[H.length]?=some (.cells d.row ah):=fun X=>by rw [aP];rfl
 unfold uU;cases h0:jg d.blocks.l == 0 with
 |false=>
  rw [sel_false];rw [bJ M hT.docs_Print rfl (c:=ks) rfl,ks];simp (maxSteps:=3000000) (maxDischargeDepth:=6) +contextual -implicitDefEqProofs only [amC M,↓amD,Nat.reduceBEq,Nat.reduceAdd,env,ag,eU,amG,AV.cell,Nat.reduceMul,Nat.reduceLeDiff,gx,jR,hc,h0,hp_take,cut_app,wk_tuple]
 |true=>
  have e0:=eq_of_beq h0;rw [e0] at hc;rw [sel_true];obtain ⟨k1,k2⟩:=rD e0;have hfl:=hf e0;have hkl:∀ n,Wk n (.slice d.blocks.tag 2 (d.blocks.l.map aL.row)) (.slice d.blocks.tag 2 (d.blocks.l.map aL.row)):=fun n=>(hd.blocks.mono (Nat.zero_le n) (fun _ h=>h.mono (Nat.zero_le n))).wk (fun _ h=>h.wk)
  have hpl:∀ b∈d.blocks.l,∀ n,Wk n (.slice b.pieces.tag 3 (b.pieces.l.map aa.row)) (.slice b.pieces.tag 3 (b.pieces.l.map aa.row)):=fun b hb n=>wk_slice ((hd.blocks.all b hb).pieces.tag.mono (Nat.zero_le _)) (La n b.pieces.l)
  obtain ⟨a',h1⟩:=dpb M hS hBl hX hR hXC hE hT (l:=d.blocks.l) (tg:=d.blocks.tag) (by simp only [bN];omega) (fun b hb=>by have:=(hsz k1 b hb).1;simp only [bN];omega) (htx e0) (fun b hb=>vm (uS k2 b hb)) (sO k2) hpl hkl (H:=H++[AObj.cells d.row ah]) (H0:=H) d.blocks.l.length 0 [] .nilp (.inl rfl) (by omega) (by simpa using hfl);simp only [kv_cons,kv_nil,Int.ofNat_zero,List.drop_zero,List.nil_append,List.length_nil,List.map_nil,List.append_assoc,List.cons_append,List.length_append,List.length_cons,Nat.zero_add,Nat.add_assoc,Nat.reduceAdd] at h1
  have h2:=CG M hBl (H++[AObj.cells d.row ah]) [] (w:=ga d.blocks.l) (a:=a') (T:=aq) (by omega);have h3:=HP M hBl (H++[AObj.cells d.row ah]) [] (w:=ga d.blocks.l) (a:=a') (T:=aq);simp only [List.append_assoc,List.cons_append,List.nil_append,List.length_append,List.length_cons,List.length_nil,Nat.zero_add,Nat.add_assoc,Nat.reduceAdd] at h2 h3;rw [bJ M hT.docs_Print rfl (c:=ks) rfl,ks];simp (maxSteps:=3000000) (maxDischargeDepth:=6) +contextual -implicitDefEqProofs only [amC M,↓amD,Nat.reduceBEq,Nat.reduceAdd,env,ag,eU,amG,AV.cell,Nat.reduceMul,Nat.reduceLeDiff,gx,qU,hc,jR,(show ((0:Int) == 0)=true from rfl),List.length_map]
  refine (h1 _).trans ?_;cases h5:decide ((65536:Int)<((ga d.blocks.l).length:Int)) with
  |true=>simp (maxSteps:=3000000) (maxDischargeDepth:=6) +contextual -implicitDefEqProofs only [amC M,↓amD,Nat.reduceBEq,Nat.reduceAdd,env,ag,eU,amG,AV.cell,Nat.reduceMul,Nat.reduceLeDiff,h3,h5,hp_take,cut_app,wk_tuple]
  |false=>simp (maxSteps:=3000000) (maxDischargeDepth:=6) +contextual -implicitDefEqProofs only [amC M,↓amD,Nat.reduceBEq,Nat.reduceAdd,env,ag,eU,amG,AV.cell,Nat.reduceMul,Nat.reduceLeDiff,h2,h3,h5,hp_take,cut_app,wk_tuple]
theorem F9(hS:uP E)(hT:If E){l:List aa}{tg:Tag}(hl:l.length≤bN)(hs:∀ x∈l,x.text.length≤1000000)(hf:(jf l).length≤100000000)(H:List AObj):M.run iH [.slice tg 3 (l.map aa.row)] H=some (.ret (.str (jf l)),H):=by
 have h2:=fun k He=>rfr M hS (l:=l) (tg:=tg) hl hs (H:=H) (H0:=H) k l.length 0 [] He (by omega) (by simpa using hf)
 simp only [kv_cons,kv_nil,Int.ofNat_zero,List.drop_zero,List.nil_append] at h2;rw [bJ M hT.truchmanref01_form rfl (c:=iT) rfl,iT];simp (maxSteps:=3000000) (maxDischargeDepth:=6) +contextual -implicitDefEqProofs only [amC M,↓amD,Nat.reduceBEq,Nat.reduceAdd,env,ag,iU,amG,AV.cell,Nat.reduceMul,Nat.reduceLeDiff,h2,hp_self,cut_refl]
theorem rpb(hS:uP E)(hW:If E)(hT:uT E){l:List aL}{tg:Tag}(hl:l.length≤bN)(hxl:∀ b∈l,b.pieces.l.length≤bN)(hxs:∀ b∈l,∀ x∈b.pieces.l,x.text.length≤1000000)(hk1:∀ b∈l,1≤b.kind∧b.kind≤6){p:Nat}{H H0:List AObj}(hp:H[p]?=some (.cells [.slice tg 2 (l.map aL.row)] ah))(k:List Fra):∀ (n i:Nat) (w:Str) (He:List AObj),i+n=l.length→w.length+(ga (l.drop i)).length≤100000000 →
  M.go dV H0 (.c dz :: .lp ⟨(some [1,5,6]),[],false⟩ dz He :: .blk 0 :: .c (.lv [5])::k) (kv [(1,.ptr p 0),(5,.str w),(6,.int .i64 i)]) H=M.go dV H0 k (kv [(5,.str (w++ga (l.drop i)))]) H
 |0,i,w,He,h,hw0=>by
  have e:i=l.length:=by omega
  subst e;have l1:∀ x:AV,bW none [x] 0=some x:=fun _=>rfl
  rw [List.drop_length,show ga []=[] from rfl,List.append_nil];rw [ak M dz.eq_1];simp (maxSteps:=3000000) (maxDischargeDepth:=6) +contextual -implicitDefEqProofs only [amC M,↓amD,Nat.reduceBEq,Nat.reduceAdd,env,ag,dW,hp,l1,Nat.lt_irrefl,List.length_map]
 |n+1,i,w,He,h,hw0=>by
  have hi:i<l.length:=by omega
  have hx:l[i]?=some l[i]:=List.getElem?_eq_getElem hi;have l1:∀ x:AV,bW none [x] 0=some x:=fun _=>rfl
  have hwi:=en (n:=l.length) hi hl;have hir:=bt (row:=aL.row) (tag:=tg) (sz:=2) (k:=.i64) hi;have hm:=List.getElem_mem hi;have m1:=hxl _ hm;have m2:=hxs _ hm;have m4:=hk1 _ hm;rw [List.drop_eq_getElem_cons hi,rm] at hw0 ⊢;generalize hbb:l[i]=b at *
  have h3:=Bv b;have hbl:(blF b).length=(hdF b).length+(jf b.pieces.l).length+2:=by unfold blF;simp;omega
  rw [List.length_append,hbl] at hw0;have hh:=fun H=>JR M hT H
  have hfm:=fun H=>F9 M hS hW (l:=b.pieces.l) (tg:=b.pieces.tag) m1 m2 (by omega) H
  obtain ⟨j,hj⟩:∃ j:Nat,b.kind=(j:Int):=⟨b.kind.toNat,by omega⟩
  have hj7:j<hdS.length:=by show j<7;omega
  have hi2:=bt (row:=bK) (l:=hdS) (tag:=.any) (sz:=1) (k:=.u8) hj7
  have hx2:hdS[j]?=some (hdF b):=by
   unfold hdF;rw [hj,Int.toNat_natCast,List.getD_eq_getElem?_getD,List.getElem?_eq_getElem hj7];rfl
  have a1:bj .add w (hdF b)=some (.str (w++hdF b)):=bp (by omega);have a2:bj .add (w++hdF b) [32]=some (.str (w++hdF b++[32])):=bp (by simp;omega);have a3:bj .add (w++hdF b++[32]) (jf b.pieces.l)=some (.str (w++hdF b++[32]++jf b.pieces.l)):=bp (by simp;omega);have a4:bj .add (w++hdF b++[32]++jf b.pieces.l) [10]=some (.str (w++blF b)):=by rw [bp (by simp;omega)];unfold blF;simp
  rw [← List.append_assoc];have ih:=fun He=>rpb hS hW hT hl hxl hxs hk1 hp (H0:=H0) k n (i+1) (w++blF b) He (by omega) (by rw [List.length_append,hbl];omega)
  simp only [kv_cons,kv_nil] at ih;rw [hj] at m4;have hsr:∀ s:Str,bK s=[.str s]:=fun _=>rfl
  rw [ak M dz.eq_1];simp (maxSteps:=3000000) (maxDischargeDepth:=6) +contextual -implicitDefEqProofs only [amC M,↓amD,Nat.reduceBEq,Nat.reduceAdd,env,ag,dW,amG,AV.cell,Nat.reduceMul,Nat.reduceLeDiff,hp,l1,List.length_map,hi,hx,hbb,hir,eI,hh,hj,hi2,hx2,hsr,hfm,a1,a2,a3,a4,hwi,ih]
theorem D4(hB:kH E)(hS:uP E)(hSg:pq E)(hW:If E)(hT:uT E){d:Docu}(hd:d.ok 0)(hsz:d.blocks.l.length≤256→∀ b∈d.blocks.l,b.pieces.l.length≤1000000∧pB b.pieces.l)(htx:jg d.blocks.l=0→∀ b∈d.blocks.l,∀ x∈b.pieces.l,x.text.length≤1000000)(hf:jg d.blocks.l=0→(ga d.blocks.l).length≤100000000)(H:List AObj) :
  M.run gL [.agg d.row] H=some (.ret (uU d.blocks.l),H):=by
 have hc:=fun H=>yE M hB hSg hd hsz H
 have gx:∀ X,(H++AObj.cells d.row ah::X)[H.length]?=some (.cells d.row ah):=fun X=>by rw [aP];rfl
 unfold uU;cases h0:jg d.blocks.l == 0 with
 |false=>
  rw [sel_false];rw [bJ M hT.truchmanref01_Print rfl (c:=cI) rfl,cI];simp (maxSteps:=3000000) (maxDischargeDepth:=6) +contextual -implicitDefEqProofs only [amC M,↓amD,Nat.reduceBEq,Nat.reduceAdd,env,ag,dW,amG,AV.cell,Nat.reduceMul,Nat.reduceLeDiff,gx,jR,hc,h0,hp_take,cut_app,wk_tuple]
 |true=>
  have e0:=eq_of_beq h0;rw [e0] at hc;rw [sel_true];obtain ⟨k1,k2⟩:=rD e0;have h1:=fun k He=>rpb M hS hW hT (l:=d.blocks.l) (tg:=d.blocks.tag) (by simp only [bN];omega) (fun b hb=>by have:=(hsz k1 b hb).1;simp only [bN];omega) (htx e0) (sO k2) (H:=H++[AObj.cells d.row ah]) (H0:=H) (p:=H.length) (gx _) k d.blocks.l.length 0 [] He (by omega) (by simpa using hf e0)
  simp only [kv_cons,kv_nil,Int.ofNat_zero,List.drop_zero,List.nil_append] at h1;cases h5:decide ((65536:Int)<((ga d.blocks.l).length:Int)) with
  |true=>
   rw [bJ M hT.truchmanref01_Print rfl (c:=cI) rfl,cI];simp (maxSteps:=3000000) (maxDischargeDepth:=6) +contextual -implicitDefEqProofs only [amC M,↓amD,Nat.reduceBEq,Nat.reduceAdd,env,ag,dW,amG,AV.cell,Nat.reduceMul,Nat.reduceLeDiff,gx,jR,hc,(show ((0:Int) == 0)=true from rfl),h1,h5,hp_take,cut_app,wk_tuple]
  |false=>
   rw [bJ M hT.truchmanref01_Print rfl (c:=cI) rfl,cI];simp (maxSteps:=3000000) (maxDischargeDepth:=6) +contextual -implicitDefEqProofs only [amC M,↓amD,Nat.reduceBEq,Nat.reduceAdd,env,ag,dW,amG,AV.cell,Nat.reduceMul,Nat.reduceLeDiff,gx,jR,hc,(show ((0:Int) == 0)=true from rfl),h1,h5,hp_take,cut_app,wk_tuple]
end
section
attribute [local congr] aw bw aR aA aQ aH aC al ao aI aJ
variable{E:bc}(M:bM b4 E)
def pEq(x y:aa):Bool:=(x.kind == y.kind)&&(x.text == y.text)&&(x.car == y.car)
def wx:List aa→List aa→Bool
 |[],[]=>true
 |x::a,y::b=>pEq x y&&wx a b
 |_,_=>false
def vn(a b:List aa):Bool:=(a.length == b.length)&&wx a b
def bEq(x y:aL):Bool:=(x.kind == y.kind)&&vn x.pieces.l y.pieces.l
def wy:List aL→List aL→Bool
 |[],[]=>true
 |x::a,y::b=>bEq x y&&wy a b
 |_,_=>false
def yF(a b:List aL):Bool:=(a.length == b.length)&&wy a b
theorem Ij(x:aa):pEq x x=true:=by simp [pEq]
theorem Ak:∀ a:List aa,wx a a=true
 |[]=>rfl
 |x::a=>by rw [wx,Ij,Ak a];rfl
theorem D5(a:List aa):vn a a=true:=by rw [vn,Ak];simp
theorem Al:∀ a:List aL,wy a a=true
 |[]=>rfl
 |x::a=>by rw [wy,bEq,D5,Al a];simp
theorem D6(a:List aL):yF a a=true:=by rw [yF,Al];simp
theorem spg{a b:List aa}{ta tb:Tag}(hab:a.length=b.length)(hl:a.length≤bN){H H0:List AObj}(hc:dg H0 H)(k:List Fra):∀ (n i:Nat) (He:List AObj),i+n=a.length →
  M.go b9 H0 (.c bX :: .lp ⟨(some [0,1,5]),[],false⟩ bX He :: .blk 0 :: .c (.lv [])::k) (kv [(0,.slice ta 3 (a.map aa.row)),(1,.slice tb 3 (b.map aa.row)),(5,.int .i64 i)]) H =
   sel (wx (a.drop i) (b.drop i)) (M.go b9 H0 k (kv []) H) (some (.ret (.bool false),H.take H0.length))
 |0,i,He,h=>by
  have e:i=a.length:=by omega
  subst e;rw [List.drop_length,hab,List.drop_length,wx,sel_true,← hab];rw [ak M bX.eq_1];simp (maxSteps:=3000000) (maxDischargeDepth:=6) +contextual -implicitDefEqProofs only [amC M,↓amD,Nat.reduceBEq,Nat.reduceAdd,env,ag,ca,Nat.lt_irrefl,List.length_map]
 |n+1,i,He,h=>by
  have hi:i<a.length:=by omega
  have hib:i<b.length:=by omega
  have hx:a[i]?=some a[i]:=List.getElem?_eq_getElem hi;have hy:b[i]?=some b[i]:=List.getElem?_eq_getElem hib;have hwi:=en (n:=a.length) hi hl;have ira:=bt (row:=aa.row) (tag:=ta) (sz:=3) (k:=.i64) hi;have irb:=bt (row:=aa.row) (tag:=tb) (sz:=3) (k:=.i64) hib;have ih:=fun He=>spg hab hl hc (ta:=ta) (tb:=tb) k n (i+1) He (by omega)
  simp only [kv_cons,kv_nil] at ih;have rq:req (.st [(0,.int .u8),(1,.str),(2,.bool)]) (.agg a[i].row) (.agg b[i].row)=some (pEq a[i] b[i]):=Ad _ _;rw [List.drop_eq_getElem_cons hi,List.drop_eq_getElem_cons hib,wx];generalize a[i]=x at *
  generalize b[i]=y at *
  cases c0:pEq x y with
  |false=>
   rw [c0] at rq;rw [Bool.false_and,sel_false];rw [ak M bX.eq_1];simp (maxSteps:=3000000) (maxDischargeDepth:=6) +contextual -implicitDefEqProofs only [amC M,↓amD,Nat.reduceBEq,Nat.reduceAdd,env,ag,ca,amG,AV.cell,Nat.reduceMul,Nat.reduceLeDiff,hi,hib,hx,hy,ira,irb,bu,rq,hc,List.length_map,Bool.not_false]
  |true=>
   rw [c0] at rq;rw [Bool.true_and];rw [ak M bX.eq_1];simp (maxSteps:=3000000) (maxDischargeDepth:=6) +contextual -implicitDefEqProofs only [amC M,↓amD,Nat.reduceBEq,Nat.reduceAdd,env,ag,ca,amG,AV.cell,Nat.reduceMul,Nat.reduceLeDiff,hi,hib,hx,hy,ira,irb,bu,rq,hwi,ih,List.length_map,Bool.not_true]
theorem Ga(hB:kH E){a b:List aa}{ta tb:Tag}(hl:a.length≤bN)(H:List AObj):M.run bP [.slice ta 3 (a.map aa.row),.slice tb 3 (b.map aa.row)] H=some (.ret (.bool (vn a b)),H):=by
 unfold vn;cases c:a.length == b.length with
 |false=>
  rw [Bool.false_and];rw [bJ M hB.truchmanref01_SamePieces rfl (c:=bR) rfl,bR];simp (maxSteps:=3000000) (maxDischargeDepth:=6) +contextual -implicitDefEqProofs only [amC M,↓amD,Nat.reduceBEq,Nat.reduceAdd,env,ag,ca,amG,AV.cell,Nat.reduceMul,Nat.reduceLeDiff,List.length_map,c,Bool.not_false,hp_self,cut_refl]
 |true=>
  rw [Bool.true_and];have h1:=fun k He=>spg M (ta:=ta) (tb:=tb) (by simpa using c) hl (cut_refl H) k a.length 0 He (by omega)
  simp only [kv_cons,kv_nil,Int.ofNat_zero,List.drop_zero,hp_self] at h1;cases c2:wx a b with
  |false=>
   simp only [c2,sel_false] at h1;rw [bJ M hB.truchmanref01_SamePieces rfl (c:=bR) rfl,bR];simp (maxSteps:=3000000) (maxDischargeDepth:=6) +contextual -implicitDefEqProofs only [amC M,↓amD,Nat.reduceBEq,Nat.reduceAdd,env,ag,ca,amG,AV.cell,Nat.reduceMul,Nat.reduceLeDiff,List.length_map,c,Bool.not_true,h1]
  |true=>
   simp only [c2,sel_true] at h1;rw [bJ M hB.truchmanref01_SamePieces rfl (c:=bR) rfl,bR];simp (maxSteps:=3000000) (maxDischargeDepth:=6) +contextual -implicitDefEqProofs only [amC M,↓amD,Nat.reduceBEq,Nat.reduceAdd,env,ag,ca,amG,AV.cell,Nat.reduceMul,Nat.reduceLeDiff,List.length_map,c,Bool.not_true,h1,hp_self,cut_refl]
theorem epg{a b:List aa}{ta tb:Tag}(hab:a.length=b.length)(hl:a.length≤bN){H H0:List AObj}(hc:dg H0 H)(k:List Fra):∀ (n i:Nat) (He:List AObj),i+n=a.length →
  M.go bS H0 (.c bA :: .lp ⟨(some [0,1,12,13]),[],false⟩ bA He :: .blk 0 :: .c (.lv [])::k) (kv [(0,.slice ta 3 (a.map aa.row)),(1,.slice tb 3 (b.map aa.row)),(12,.int .i64 a.length),(13,.int .i64 i)]) H =
   sel (wx (a.drop i) (b.drop i)) (M.go bS H0 k (kv []) H) (some (.ret (.bool false),H.take H0.length))
 |0,i,He,h=>by
  have e:i=a.length:=by omega
  subst e;rw [List.drop_length,hab,List.drop_length,wx,sel_true,← hab];rw [ak M bA.eq_1];simp (maxSteps:=3000000) (maxDischargeDepth:=6) +contextual -implicitDefEqProofs only [amC M,↓amD,Nat.reduceBEq,Nat.reduceAdd,env,ag,bE,Nat.lt_irrefl]
 |n+1,i,He,h=>by
  have hi:i<a.length:=by omega
  have hib:i<b.length:=by omega
  have hx:a[i]?=some a[i]:=List.getElem?_eq_getElem hi;have hy:b[i]?=some b[i]:=List.getElem?_eq_getElem hib;have hwi:=en (n:=a.length) hi hl;have ira:=bt (row:=aa.row) (tag:=ta) (sz:=3) (k:=.i64) hi;have irb:=bt (row:=aa.row) (tag:=tb) (sz:=3) (k:=.i64) hib;have ih:=fun He=>epg hab hl hc (ta:=ta) (tb:=tb) k n (i+1) He (by omega)
  simp only [kv_cons,kv_nil] at ih;have rq:req (.st [(0,.int .u8),(1,.str),(2,.bool)]) (.agg a[i].row) (.agg b[i].row)=some (pEq a[i] b[i]):=Ad _ _;rw [List.drop_eq_getElem_cons hi,List.drop_eq_getElem_cons hib,wx];generalize a[i]=x at *
  generalize b[i]=y at *
  cases c0:pEq x y with
  |false=>
   rw [c0] at rq;rw [Bool.false_and,sel_false];rw [ak M bA.eq_1];simp (maxSteps:=3000000) (maxDischargeDepth:=6) +contextual -implicitDefEqProofs only [amC M,↓amD,Nat.reduceBEq,Nat.reduceAdd,env,ag,bE,amG,AV.cell,Nat.reduceMul,Nat.reduceLeDiff,hi,hib,hx,hy,ira,irb,bu,rq,hc,Bool.not_false]
  |true=>
   rw [c0] at rq;rw [Bool.true_and];rw [ak M bA.eq_1];simp (maxSteps:=3000000) (maxDischargeDepth:=6) +contextual -implicitDefEqProofs only [amC M,↓amD,Nat.reduceBEq,Nat.reduceAdd,env,ag,bE,amG,AV.cell,Nat.reduceMul,Nat.reduceLeDiff,hi,hib,hx,hy,ira,irb,bu,rq,hwi,ih,Bool.not_true]
theorem Ik(hT:uT E){a b:List aa}{ta tb:Tag}(hl:a.length≤bN)(H:List AObj):M.run dq [.slice ta 3 (a.map aa.row),.slice tb 3 (b.map aa.row)] H=some (.ret (.bool (vn a b)),H):=by
 unfold vn;cases c:a.length == b.length with
 |false=>
  rw [Bool.false_and];rw [bJ M hT.slices_Equal_api_Piece_api_Piece rfl (c:=bk) rfl,bk];simp (maxSteps:=3000000) (maxDischargeDepth:=6) +contextual -implicitDefEqProofs only [amC M,↓amD,Nat.reduceBEq,Nat.reduceAdd,env,ag,bE,amG,AV.cell,Nat.reduceMul,Nat.reduceLeDiff,List.length_map,c,Bool.not_false,hp_self,cut_refl]
 |true=>
  rw [Bool.true_and];have h1:=fun k He=>epg M (ta:=ta) (tb:=tb) (by simpa using c) hl (cut_refl H) k a.length 0 He (by omega)
  simp only [kv_cons,kv_nil,Int.ofNat_zero,List.drop_zero,hp_self] at h1;cases c2:wx a b with
  |false=>
   simp only [c2,sel_false] at h1;rw [bJ M hT.slices_Equal_api_Piece_api_Piece rfl (c:=bk) rfl,bk];simp (maxSteps:=3000000) (maxDischargeDepth:=6) +contextual -implicitDefEqProofs only [amC M,↓amD,Nat.reduceBEq,Nat.reduceAdd,env,ag,bE,amG,AV.cell,Nat.reduceMul,Nat.reduceLeDiff,List.length_map,c,Bool.not_true,h1]
  |true=>
   simp only [c2,sel_true] at h1;rw [bJ M hT.slices_Equal_api_Piece_api_Piece rfl (c:=bk) rfl,bk];simp (maxSteps:=3000000) (maxDischargeDepth:=6) +contextual -implicitDefEqProofs only [amC M,↓amD,Nat.reduceBEq,Nat.reduceAdd,env,ag,bE,amG,AV.cell,Nat.reduceMul,Nat.reduceLeDiff,List.length_map,c,Bool.not_true,h1,hp_self,cut_refl]
theorem Gb(hT:uT E){x y:aL}(hl:x.pieces.l.length≤bN)(H:List AObj):M.run fC [.agg x.row,.agg y.row] H=some (.ret (.bool (bEq x y)),H):=by
 have g0:∀ X,(H++AObj.cells x.row aV::X)[H.length]?=some (AObj.cells x.row aV):=fun X=>by rw [aP];rfl
 have g1:(H++[AObj.cells x.row aV,AObj.cells y.row aV])[H.length+1]?=some (AObj.cells y.row aV):=by rw [hp_getk];rfl
 have h1:=fun H=>Ik M hT (ta:=x.pieces.tag) (tb:=y.pieces.tag) (b:=y.pieces.l) hl H
 unfold bEq;rw [bJ M hT.docs_Same_1 rfl (c:=nK) rfl,nK];cases c:x.kind == y.kind with
 |false=>simp (maxSteps:=3000000) (maxDischargeDepth:=6) +contextual -implicitDefEqProofs only [amC M,↓amD,Nat.reduceBEq,Nat.reduceAdd,env,ag,r9,amG,AV.cell,Nat.reduceMul,Nat.reduceLeDiff,g0,g1,eI,c,Bool.false_and,hp_take,cut_app]
 |true=>simp (maxSteps:=3000000) (maxDischargeDepth:=6) +contextual -implicitDefEqProofs only [amC M,↓amD,Nat.reduceBEq,Nat.reduceAdd,env,ag,r9,amG,AV.cell,Nat.reduceMul,Nat.reduceLeDiff,g0,g1,eI,c,h1,Bool.true_and,hp_take,cut_app]
theorem efg(hT:uT E){a b:List aL}{ta tb:Tag}(hab:a.length=b.length)(hl:a.length≤bN)(hp:∀ x∈a,x.pieces.l.length≤bN)(hwb:∀ n,Wk n (.slice tb 2 (b.map aL.row)) (.slice tb 2 (b.map aL.row)))(hwa:∀ n,Wk n (.slice ta 2 (a.map aL.row)) (.slice ta 2 (a.map aL.row))){H H0:List AObj}(hc:dg H0 H)(k:List Fra):∀ (n i:Nat),i+n=a.length →
  M.go aU H0 (.c aK :: .lp ⟨(some [1,2,15,16,17]),[],true⟩ aK H :: .blk 0 :: .c (.lv [])::k) (kv [(1,.slice tb 2 (b.map aL.row)),(2,.fn (.func fC) [] []),(15,.slice ta 2 (a.map aL.row)),(16,.int .i64 a.length),(17,.int .i64 i)]) H =
   sel (wy (a.drop i) (b.drop i)) (M.go aU H0 k (kv []) H) (some (.ret (.bool false),H.take H0.length))
 |0,i,h=>by
  have e:i=a.length:=by omega
  subst e;rw [List.drop_length,hab,List.drop_length,wy,sel_true,← hab];rw [ak M aK.eq_1];simp (maxSteps:=3000000) (maxDischargeDepth:=6) +contextual -implicitDefEqProofs only [amC M,↓amD,Nat.reduceBEq,Nat.reduceAdd,env,ag,aN,Nat.lt_irrefl]
 |n+1,i,h=>by
  have hi:i<a.length:=by omega
  have hib:i<b.length:=by omega
  have hx:a[i]?=some a[i]:=List.getElem?_eq_getElem hi;have hy:b[i]?=some b[i]:=List.getElem?_eq_getElem hib;have hwi:=en (n:=a.length) hi hl;have ira:=bt (row:=aL.row) (tag:=ta) (sz:=2) (k:=.i64) hi;have irb:=bt (row:=aL.row) (tag:=tb) (sz:=2) (k:=.i64) hib;have hs:=fun H=>Gb M hT (x:=a[i]) (y:=b[i]) (hp _ (List.getElem_mem hi)) H
  have ih:=efg hT hab hl hp hwb hwa hc k n (i+1) (by omega);simp only [kv_cons,kv_nil] at ih;rw [List.drop_eq_getElem_cons hi,List.drop_eq_getElem_cons hib,wy];generalize a[i]=x at *
  generalize b[i]=y at *
  have g0:∀ X,(H++AObj.cells x.row aV::X)[H.length]?=some (AObj.cells x.row aV):=fun X=>by rw [aP];rfl
  have g1:(H++[AObj.cells x.row aV,AObj.cells y.row aV])[H.length+1]?=some (AObj.cells y.row aV):=by rw [hp_getk];rfl
  have wf:Wk H.length (.fn (.func fC) [] []) (.fn (.func fC) [] []):=wk_fn trivial trivial;have w1:=hwa H.length;have w2:=hwb H.length;have hct:∀ X,dg H0 (H++X):=fun X=>⟨by have:=hc.1;simp;omega,fun i x hi hx=>hc.2 i x hi (by rwa [List.getElem?_append_left (by have:=hc.1;omega)] at hx)⟩
  have htk:∀ X,(H++X).take H0.length=H.take H0.length:=fun X=>List.take_append_of_le_length hc.1
  cases c0:bEq x y with
  |false=>
   rw [c0] at hs;rw [Bool.false_and,sel_false];rw [ak M aK.eq_1];simp (maxSteps:=3000000) (maxDischargeDepth:=6) +contextual -implicitDefEqProofs only [amC M,↓amD,Nat.reduceBEq,Nat.reduceAdd,env,ag,aN,amG,AV.cell,Nat.reduceMul,Nat.reduceLeDiff,hi,hib,hx,hy,ira,irb,eI,g0,g1,aP,hp_set0,hp_getk,hp_setk,List.set_cons_zero,List.set_cons_succ,List.getElem?_cons_zero,List.getElem?_cons_succ,hs,hct,htk,Bool.not_false,List.length_map]
  |true=>
   rw [c0] at hs;rw [Bool.true_and];rw [ak M aK.eq_1];simp (maxSteps:=3000000) (maxDischargeDepth:=6) +contextual -implicitDefEqProofs only [amC M,↓amD,Nat.reduceBEq,Nat.reduceAdd,env,ag,aN,amG,AV.cell,Nat.reduceMul,Nat.reduceLeDiff,hi,hib,hx,hy,ira,irb,eI,g0,g1,aP,hp_set0,hp_getk,hp_setk,List.set_cons_zero,List.set_cons_succ,List.getElem?_cons_zero,List.getElem?_cons_succ,hs,hwi,wf,w1,w2,ih,cut_app,hp_take,Bool.not_true,List.length_map]
theorem JS(hT:uT E){a b:List aL}{ta tb:Tag}(hl:a.length≤bN)(hp:∀ x∈a,x.pieces.l.length≤bN)(hwb:∀ n,Wk n (.slice tb 2 (b.map aL.row)) (.slice tb 2 (b.map aL.row)))(hwa:∀ n,Wk n (.slice ta 2 (a.map aL.row)) (.slice ta 2 (a.map aL.row)))(H:List AObj) :
  M.run bD [.slice ta 2 (a.map aL.row),.slice tb 2 (b.map aL.row),.fn (.func fC) [] []] H=some (.ret (.bool (yF a b)),H):=by
 unfold yF;cases c:a.length == b.length with
 |false=>
  rw [Bool.false_and];rw [bJ M hT.slices_EqualFunc_api_Block_api_Block_api_Block_api_Block rfl (c:=aF) rfl,aF];simp (maxSteps:=3000000) (maxDischargeDepth:=6) +contextual -implicitDefEqProofs only [amC M,↓amD,Nat.reduceBEq,Nat.reduceAdd,env,ag,aN,amG,AV.cell,Nat.reduceMul,Nat.reduceLeDiff,List.length_map,c,Bool.not_false,hp_self,cut_refl]
 |true=>
  rw [Bool.true_and];have h1:=fun k=>efg M hT (ta:=ta) (tb:=tb) (by simpa using c) hl hp hwb hwa (cut_refl H) k a.length 0 (by omega)
  simp only [kv_cons,kv_nil,Int.ofNat_zero,List.drop_zero,hp_self] at h1;cases c2:wy a b with
  |false=>
   simp only [c2,sel_false] at h1;rw [bJ M hT.slices_EqualFunc_api_Block_api_Block_api_Block_api_Block rfl (c:=aF) rfl,aF];simp (maxSteps:=3000000) (maxDischargeDepth:=6) +contextual -implicitDefEqProofs only [amC M,↓amD,Nat.reduceBEq,Nat.reduceAdd,env,ag,aN,amG,AV.cell,Nat.reduceMul,Nat.reduceLeDiff,List.length_map,c,Bool.not_true,h1]
  |true=>
   simp only [c2,sel_true] at h1;rw [bJ M hT.slices_EqualFunc_api_Block_api_Block_api_Block_api_Block rfl (c:=aF) rfl,aF];simp (maxSteps:=3000000) (maxDischargeDepth:=6) +contextual -implicitDefEqProofs only [amC M,↓amD,Nat.reduceBEq,Nat.reduceAdd,env,ag,aN,amG,AV.cell,Nat.reduceMul,Nat.reduceLeDiff,List.length_map,c,Bool.not_true,h1,hp_self,cut_refl]
theorem E3{d:Docu}(hd:d.ok 0)(n:Nat):Wk n (.slice d.blocks.tag 2 (d.blocks.l.map aL.row)) (.slice d.blocks.tag 2 (d.blocks.l.map aL.row)):=(hd.blocks.mono (Nat.zero_le n) (fun _ h=>h.mono (Nat.zero_le n))).wk (fun _ h=>h.wk)
theorem An(hT:uT E){a b:Docu}(ha:a.ok 0)(hb:b.ok 0)(H:List AObj):M.run nr [.agg a.row,.agg b.row] H=some (.ret (.bool (yF a.blocks.l b.blocks.l)),H):=by
 have g0:∀ X,(H++AObj.cells a.row ah::X)[H.length]?=some (AObj.cells a.row ah):=fun X=>by rw [aP];rfl
 have g1:(H++[AObj.cells a.row ah,AObj.cells b.row ah])[H.length+1]?=some (AObj.cells b.row ah):=by rw [hp_getk];rfl
 have h1:=fun H=>JS M hT (ta:=a.blocks.tag) (tb:=b.blocks.tag) (b:=b.blocks.l) ha.blocks.len (fun x hx=>(ha.blocks.all x hx).pieces.len) (E3 hb) (E3 ha) H
 rw [bJ M hT.docs_Same rfl (c:=qI) rfl,qI];simp (maxSteps:=3000000) (maxDischargeDepth:=6) +contextual -implicitDefEqProofs only [amC M,↓amD,Nat.reduceBEq,Nat.reduceAdd,env,ag,Cr,amG,AV.cell,Nat.reduceMul,Nat.reduceLeDiff,g0,g1,jR,h1,hp_take,cut_app]
theorem smg(hB:kH E){a b:List aL}(hab:a.length=b.length)(hl:a.length≤bN)(hpl:∀ x∈a,x.pieces.l.length≤bN){ta tb:Tag}{p q:Nat}{H H0:List AObj}(hc:dg H0 H)(hp:H[p]?=some (.cells [.slice ta 2 (a.map aL.row)] ah))(hq:H[q]?=some (.cells [.slice tb 2 (b.map aL.row)] ah))(k:List Fra):∀ (n i:Nat) (He:List AObj),i+n=a.length →
  M.go ey H0 (.c cu :: .lp ⟨(some [2,3,5]),[],false⟩ cu He :: .blk 0 :: .c (.lv [])::k) (kv [(2,.ptr p 0),(3,.ptr q 0),(5,.int .i64 i)]) H =
   sel (wy (a.drop i) (b.drop i)) (M.go ey H0 k (kv []) H) (some (.ret (.bool false),H.take H0.length))
 |0,i,He,h=>by
  have e:i=a.length:=by omega
  subst e;have l1:∀ x:AV,bW none [x] 0=some x:=fun _=>rfl
  rw [List.drop_length,hab,List.drop_length,wy,sel_true,← hab];rw [ak M cu.eq_1];simp (maxSteps:=3000000) (maxDischargeDepth:=6) +contextual -implicitDefEqProofs only [amC M,↓amD,Nat.reduceBEq,Nat.reduceAdd,env,ag,cU,hp,l1,Nat.lt_irrefl,List.length_map]
 |n+1,i,He,h=>by
  have hi:i<a.length:=by omega
  have hib:i<b.length:=by rw [← hab];exact hi
  have l1:∀ x:AV,bW none [x] 0=some x:=fun _=>rfl
  have hx:a[i]?=some a[i]:=List.getElem?_eq_getElem hi;have hy:b[i]?=some b[i]:=List.getElem?_eq_getElem hib;have hwi:=en (n:=a.length) hi hl;have ira:=bt (row:=aL.row) (tag:=ta) (sz:=2) (k:=.i64) hi;have irb:=bt (row:=aL.row) (tag:=tb) (sz:=2) (k:=.i64) hib;have hs:=fun H=>Ga M hB (a:=a[i].pieces.l) (b:=b[i].pieces.l) (ta:=a[i].pieces.tag) (tb:=b[i].pieces.tag) (hpl _ (List.getElem_mem hi)) H
  have ih:=fun He=>smg hB hab hl hpl hc hp hq k n (i+1) He (by omega)
  simp only [kv_cons,kv_nil] at ih;rw [List.drop_eq_getElem_cons hi,List.drop_eq_getElem_cons hib,wy];generalize a[i]=x at *
  generalize b[i]=y at *
  unfold bEq;cases c0:x.kind == y.kind with
  |false=>
   rw [Bool.false_and,Bool.false_and,sel_false];rw [ak M cu.eq_1];simp (maxSteps:=3000000) (maxDischargeDepth:=6) +contextual -implicitDefEqProofs only [amC M,↓amD,Nat.reduceBEq,Nat.reduceAdd,env,ag,cU,amG,AV.cell,Nat.reduceMul,Nat.reduceLeDiff,hp,hq,l1,hi,hib,hx,hy,ira,irb,eI,c0,hc,Bool.not_false,List.length_map]
  |true=>
  rw [Bool.true_and];cases c1:vn x.pieces.l y.pieces.l with
  |false=>
   rw [c1] at hs;rw [Bool.false_and,sel_false];rw [ak M cu.eq_1];simp (maxSteps:=3000000) (maxDischargeDepth:=6) +contextual -implicitDefEqProofs only [amC M,↓amD,Nat.reduceBEq,Nat.reduceAdd,env,ag,cU,amG,AV.cell,Nat.reduceMul,Nat.reduceLeDiff,hp,hq,l1,hi,hib,hx,hy,ira,irb,eI,c0,hs,hc,Bool.not_false,Bool.not_true,List.length_map]
  |true=>
   rw [c1] at hs;rw [Bool.true_and];rw [ak M cu.eq_1];simp (maxSteps:=3000000) (maxDischargeDepth:=6) +contextual -implicitDefEqProofs only [amC M,↓amD,Nat.reduceBEq,Nat.reduceAdd,env,ag,cU,amG,AV.cell,Nat.reduceMul,Nat.reduceLeDiff,hp,hq,l1,hi,hib,hx,hy,hwi,ira,irb,eI,c0,hs,ih,Bool.not_true,List.length_map]
theorem D7(hB:kH E)(hS:pq E){a b:Docu}(ha:a.ok 0)(H:List AObj):M.run iG [.agg a.row,.agg b.row] H=some (.ret (.bool (yF a.blocks.l b.blocks.l)),H):=by
 have g0:∀ X,(H++AObj.cells a.row ah::X)[H.length]?=some (AObj.cells a.row ah):=fun X=>by rw [aP];rfl
 have g1:(H++[AObj.cells a.row ah,AObj.cells b.row ah])[H.length+1]?=some (AObj.cells b.row ah):=by rw [hp_getk];rfl
 unfold yF;cases c:a.blocks.l.length == b.blocks.l.length with
 |false=>
  rw [Bool.false_and];rw [bJ M hS.truchmanref01_Same rfl (c:=cT) rfl,cT];simp (maxSteps:=3000000) (maxDischargeDepth:=6) +contextual -implicitDefEqProofs only [amC M,↓amD,Nat.reduceBEq,Nat.reduceAdd,env,ag,cU,amG,AV.cell,Nat.reduceMul,Nat.reduceLeDiff,g0,g1,jR,List.length_map,c,Bool.not_false,hp_take,cut_app]
 |true=>
  rw [Bool.true_and];have h1:=fun k He=>smg M hB (ta:=a.blocks.tag) (tb:=b.blocks.tag) (a:=a.blocks.l) (b:=b.blocks.l) (by simpa using c) ha.blocks.len (fun x hx=>(ha.blocks.all x hx).pieces.len) (cut_app H [AObj.cells a.row ah,AObj.cells b.row ah]) (p:=H.length) (q:=H.length+1) (g0 _) g1 k a.blocks.l.length 0 He (by omega)
  simp only [kv_cons,kv_nil,Int.ofNat_zero,List.drop_zero,hp_take] at h1;cases c2:wy a.blocks.l b.blocks.l with
  |false=>
   simp only [c2,sel_false] at h1;rw [bJ M hS.truchmanref01_Same rfl (c:=cT) rfl,cT];simp (maxSteps:=3000000) (maxDischargeDepth:=6) +contextual -implicitDefEqProofs only [amC M,↓amD,Nat.reduceBEq,Nat.reduceAdd,env,ag,cU,amG,AV.cell,Nat.reduceMul,Nat.reduceLeDiff,g0,g1,jR,List.length_map,c,Bool.not_true,h1]
  |true=>
   simp only [c2,sel_true] at h1;rw [bJ M hS.truchmanref01_Same rfl (c:=cT) rfl,cT];simp (maxSteps:=3000000) (maxDischargeDepth:=6) +contextual -implicitDefEqProofs only [amC M,↓amD,Nat.reduceBEq,Nat.reduceAdd,env,ag,cU,amG,AV.cell,Nat.reduceMul,Nat.reduceLeDiff,g0,g1,jR,List.length_map,c,Bool.not_true,h1,hp_take,cut_app]
theorem Il{l:List aL}(h:Aj l=false)(hl:l.length≤256):∀ b∈l,b.pieces.l.length+rk b.pieces.l≤2500:=fun b hb=>by
 unfold Aj at h;rw [List.take_of_length_le (by omega)] at h;cases c:vsB l with
 |true=>rw [c,sel_true] at h;cases h
 |false=>
  have:=List.any_eq_false.1 c b hb;exact Af (by simpa using this)
theorem yG:∀ {l:List aL},(∀ b∈l,b.pieces.l.length+rk b.pieces.l≤2500)→(∀ b∈l,∀ x∈b.pieces.l,rh x=false)→(ga l).length≤l.length*20000
 |[],_,_=>Nat.zero_le _
 |b::l,h,ha=>by
  have ih:=yG (l:=l) (fun x hx=>h x (by simp [hx])) (fun x hx=>ha x (by simp [hx]));have h1:=h b (by simp);have h2:=Ai (ha b (by simp));have h3:=Bv b;have hbl:(blF b).length=(hdF b).length+(jf b.pieces.l).length+2:=by unfold blF;simp;omega
  rw [rm,List.length_append,hbl,List.length_cons,Nat.add_mul];omega
theorem Bw(l:List aL):∃ (s:Str) (e:Int),uU l = .tuple [.str s,.int .u8 e]:=by
 unfold uU;cases jg l == 0 with
 |false=>exact ⟨_,_,rfl⟩
 |true=>
  rw [sel_true];cases decide ((65536:Int)<((ga l).length:Int)) with
  |true=>exact ⟨_,_,rfl⟩
  |false=>exact ⟨_,_,rfl⟩
theorem tW(hB:kH E)(hS:uP E)(hBl:sL E)(hX:wj M)(hD:Bm M)(hU:HZ E)(hSg:pq E)(hR:wt E)(hXC:yx M)(hE:CS M)(hW:If E)(hT:uT E){d:Docu}(hd:d.ok 0){o:Docu}(ho:o.ok 0){H:List AObj}
  (hL:∀ H,M.run cH [] H=some (.ret (.bool true),H)):M.run eo [.agg d.row,.agg o.row] H=some (.ret (.bool true),H):=by
 have s1:=fun H=>CX M hB hU hSg hd H
 have s2:=fun H=>CX M hB hU hSg ho H
 have g0:∀ X,(H++AObj.cells d.row ah::X)[H.length]?=some (.cells d.row ah):=fun X=>by rw [aP];rfl
 have g1:∀ y z X,(H++y::z::X)[H.length+1]?=some z:=fun y z X=>by rw [hp_getk];rfl
 rw [bJ M hT.truchmanlaw01_DocsDocuments rfl (c:=ep) rfl,ep];cases c1:Aj d.blocks.l with
 |true=>simp (maxSteps:=3000000) (maxDischargeDepth:=6) +contextual -implicitDefEqProofs only [amC M,↓amD,Nat.reduceBEq,Nat.reduceAdd,env,ag,eu,amG,AV.cell,Nat.reduceMul,Nat.reduceLeDiff,g0,g1,jR,s1,c1,hL,hp_take,cut_app]
 |false=>
 cases c2:Aj o.blocks.l with
 |true=>simp (maxSteps:=3000000) (maxDischargeDepth:=6) +contextual -implicitDefEqProofs only [amC M,↓amD,Nat.reduceBEq,Nat.reduceAdd,env,ag,eu,amG,AV.cell,Nat.reduceMul,Nat.reduceLeDiff,g0,g1,jR,s1,s2,c1,c2,hL,hp_take,cut_app]
 |false=>
 have hv:=Il c1;have hsz:d.blocks.l.length≤256→∀ b∈d.blocks.l,b.pieces.l.length≤1000000∧pB b.pieces.l:=fun h b hb=>⟨by have:=hv h b hb;omega,fun x hx=>by have:=hv h b hb;have:=CU hx;omega⟩
 have htx:jg d.blocks.l=0→∀ b∈d.blocks.l,∀ x∈b.pieces.l,x.text.length≤1000000:=fun h b hb x hx=>by have:=hv (rD h).1 b hb;have:=CU hx;omega
 have hf:jg d.blocks.l=0→(ga d.blocks.l).length≤100000000:=fun h=>by
  obtain ⟨k1,k2⟩:=rD h;have:=yG (hv k1) (fun b hb=>vm (uS k2 b hb));omega
 have v1:=fun H=>D3 M hB hS hD hSg hBl hX hR hXC hE hT hd hsz htx hf H
 have v2:=fun H=>D4 M hB hS hSg hW hT hd hsz htx hf H
 have v3:=fun H=>yD M hB hD hSg hd hsz H
 have v4:=fun H=>yE M hB hSg hd hsz H
 have v5:=fun H=>An M hT hd ho H
 have v6:=fun H=>D7 M hB hSg (b:=o) hd H
 have v7:=fun H=>An M hT hd hd H
 simp only [D6] at v7;obtain ⟨s,e,h1⟩:=Bw d.blocks.l;rw [h1] at v1 v2;have qs:∀ s:Str,bj .eql s s=some (.bool true):=fun s=>by simp [bj]
 have rqb:∀ b:Bool,req .bool (.bool b) (.bool b)=some true:=fun b=>by cases b<;>rfl
 simp (maxSteps:=3000000) (maxDischargeDepth:=6) +contextual -implicitDefEqProofs only [amC M,↓amD,Nat.reduceBEq,Nat.reduceAdd,env,ag,eu,amG,AV.cell,Nat.reduceMul,Nat.reduceLeDiff,g0,g1,jR,s1,s2,c1,c2,v1,v2,v3,v4,v5,v6,v7,qs,rqb,hL,j4,List.getElem?_cons_zero,List.getElem?_cons_succ,beq_self_eq_true,Bool.not_true,hp_take,cut_app]
end
section
open Go.ChangeShapes Go.WideShapes
structure rE (P:Program):Prop where
 u_api_PieceKind:P.underlying lI=some (.int .u8)
 c_api_PieceKind:P.cellsOf lI=1
 u_string:P.underlying aO=some .string
 c_string:P.cellsOf aO=1
 u_bool:P.underlying Bb=some .bool
 c_bool:P.cellsOf Bb=1
 f_Piece:fieldsOf P ae=some [(0,lI),(1,aO),(2,Bb)]
 c_Piece:P.cellsOf ae=3
 u_sl_Piece:P.underlying a8=some (.slice ae)
 c_sl_Piece:P.cellsOf a8=1
 y_Piece:Nat.blt 0 (P.bytesOf ae)=true
 u_api_BlockKind:P.underlying lJ=some (.int .u8)
 c_api_BlockKind:P.cellsOf lJ=1
 f_Block:fieldsOf P aV=some [(0,lJ),(1,a8)]
 c_Block:P.cellsOf aV=2
 u_sl_Block:P.underlying kq=some (.slice aV)
 c_sl_Block:P.cellsOf kq=1
 y_Block:Nat.blt 0 (P.bytesOf aV)=true
 f_Docu:fieldsOf P ah=some [(0,kq)]
 c_Docu:P.cellsOf ah=1
section
variable{P:Program}{W:World}{G:Nat→Option (List AV)}
theorem D8(h:rE P):ln P W G ae aa.row (aa.ok 0):=
 oQ h.f_Piece h.c_Piece (jS (Ey h.u_api_PieceKind) h.c_api_PieceKind (jS (FI h.u_string) h.c_string (jS (DD h.u_bool) h.c_bool (sm _)))) (fun a=>⟨a.1,a.2.1,a.2.2.1⟩) (fun a=>rfl) (fun a ha=>⟨ha.2.1⟩)
theorem zC(h:rE P):ln P W G a8 (fun s:Sl aa=>[.slice s.tag 3 (s.l.map aa.row)]) (fun s=>s.ok 0 (aa.ok 0)):=
 vh h.u_sl_Piece h.c_Piece (by decide) (EA h.y_Piece) (fun _=>by simp only [bu]) (D8 h)
theorem D9(h:rE P):ln P W G aV aL.row (aL.ok 0):=
 oQ h.f_Block h.c_Block (jS (Ey h.u_api_BlockKind) h.c_api_BlockKind (jS (zC h) h.c_sl_Piece (sm _))) (fun a=>⟨a.1,a.2.1⟩) (fun a=>rfl) (fun a ha=>⟨ha.2.1⟩)
theorem zD(h:rE P):ln P W G kq (fun s:Sl aL=>[.slice s.tag 2 (s.l.map aL.row)]) (fun s=>s.ok 0 (aL.ok 0)):=
 vh h.u_sl_Block h.c_Block (by decide) (EA h.y_Block) (fun _=>by simp only [eI]) (D9 h)
theorem Ao(h:rE P):ln P W G ah Docu.row (Docu.ok 0):=
 oQ h.f_Docu h.c_Docu (jS (zD h) h.c_sl_Block (sm _)) (fun a=>⟨a.1⟩) (fun a=>rfl) (fun a ha=>⟨ha.1⟩)
end
end
section
open Go.Shelf Go.RowKit Go.Lib Go.Proofs
def yH:Go.Shelf.Ren:=⟨fun | 197=>70 | 260=>109 | n=>n,fun | 9=>9 | 21=>21 | 3=>3 | 4=>4 | 5=>5 | 105=>119 | 119=>194 | 0=>0 | 46=>195 | 139=>198 | 138=>197 | n=>n,fun | 3=>0 | 4=>1 | n=>n⟩
theorem Im:Go.Proofs.Lays.n197 Tryz.prog yH where
 mixed:=by kernel_rfl
 f197:=Tryz.func70.trans (congrArg some (by kernel_rfl))
 f260:=Tryz.func109.trans (congrArg some (by kernel_rfl))
 t0:=Tryz.underlying0
 a0:=Tryz.isAgg0
 z0:=Tryz.sizeOf0
 v0:=Tryz.zeroValue0
 t3:=Tryz.underlying3
 a3:=Tryz.isAgg3
 z3:=Tryz.sizeOf3
 v3:=Tryz.zeroValue3
 t4:=Tryz.underlying4
 a4:=Tryz.isAgg4
 z4:=Tryz.sizeOf4
 v4:=Tryz.zeroValue4
 t5:=Tryz.underlying5
 a5:=Tryz.isAgg5
 z5:=Tryz.sizeOf5
 v5:=Tryz.zeroValue5
 t9:=Tryz.underlying9
 a9:=Tryz.isAgg9
 z9:=Tryz.sizeOf9
 v9:=Tryz.zeroValue9
 t21:=Tryz.underlying21
 a21:=Tryz.isAgg21
 z21:=Tryz.sizeOf21
 v21:=Tryz.zeroValue21
 t46:=Tryz.underlying195
 a46:=Tryz.isAgg195
 z46:=Tryz.sizeOf195
 v46:=Tryz.zeroValue195
 t105:=Tryz.underlying119
 a105:=Tryz.isAgg119
 z105:=Tryz.sizeOf119
 v105:=Tryz.zeroValue119
 t119:=Tryz.underlying194
 a119:=Tryz.isAgg194
 z119:=Tryz.sizeOf194
 t138:=Tryz.underlying197
 a138:=Tryz.isAgg197
 z138:=Tryz.sizeOf197
 v138:=Tryz.zeroValue197
 t139:=Tryz.underlying198
 a139:=Tryz.isAgg198
 z139:=Tryz.sizeOf198
 v139:=Tryz.zeroValue198
 g3:=by kernel_rfl
 g4:=by kernel_rfl
theorem Ea:∀ args w,(callFunc 70 args).run Tryz.prog w = .ok (.enter 70 args) w:=enters_of Tryz.func70 (by kernel_rfl) rfl
theorem Gc:∀ (s:ByteArray) (w:World),Lib.Utf8Tabs 0 1 w→Calls Tryz.prog 70 #[.string s] w fun e w'=>e = .returned (.tuple #[.int .i32 (Lib.decodeGo s).1,.int .i64 (Lib.decodeGo s).2])∧Below w.heap.size w w':=fun s w hT=>Any.utf8_DecodeRuneInString Im s w hT
theorem Gd {W:World} (h3:VarReads Tryz.prog W "unicode/utf8.first" firstData) (h4:VarReads Tryz.prog W "unicode/utf8.acceptRanges" acceptData):Lib.Utf8Tabs 0 1 W:=
 utf8Tabs_of_readsT (ρ:=yH) { Im with } ⟨by kernel_rfl,by kernel_rfl,by kernel_rfl,by kernel_rfl,by kernel_rfl,by kernel_rfl,by kernel_rfl⟩ h3 h4
end
section
open Go.Proofs
def Io:List (Nat×AFn):=[(5,er),(6,cS),(10,b9),(12,ec),(13,cL),(15,dU),(16,ew),(17,gj),(18,dV),(19,ku),(20,dX),(21,qJ)]
theorem Lj:ll (dE Tryz.prog G0) Io:=by repeat' first | (unfold dE;kernel_rfl) | exact trivial | refine ⟨?_, ?_⟩
def Ip:List (Nat×AFn):=[(22,ey),(32,eh),(34,gG),(36,dC),(38,ez),(39,mR),(40,gW),(41,eA),(42,gH),(43,fy),(44,eG),(45,fG)]
theorem Lk:ll (dE Tryz.prog G0) Ip:=by repeat' first | (unfold dE;kernel_rfl) | exact trivial | refine ⟨?_, ?_⟩
def Iq:List (Nat×AFn):=[(46,gY),(47,dA),(48,o3),(49,hZ),(50,o5),(51,ss),(52,fW),(53,aU),(54,nL),(55,bS),(71,lK),(72,dD)]
theorem Ll:ll (dE Tryz.prog G0) Iq:=by repeat' first | (unfold dE;kernel_rfl) | exact trivial | refine ⟨?_, ?_⟩
def Ir:List (Nat×AFn):=[(76,ig),(77,fc),(78,dB),(79,eB),(80,eC),(81,cE),(82,mU),(83,o7),(84,dY),(85,eD),(110,eJ),(119,eL)]
theorem Lm:ll (dE Tryz.prog G0) Ir:=by repeat' first | (unfold dE;kernel_rfl) | exact trivial | refine ⟨?_, ?_⟩
def Is:List (Nat×AFn):=[(120,aW),(137,dN),(139,i0),(140,ea),(145,fI),(152,fp),(211,aD),(213,lO),(214,kz)]
theorem Lo:ll (dE Tryz.prog G0) Is:=by repeat' first | (unfold dE;kernel_rfl) | exact trivial | refine ⟨?_, ?_⟩
def It:List (Nat×List (Nat×AFn)):=[(21,Io),(45,Ip),(72,Iq),(119,Ir),(214,Is)]
def Mc(f:FuncId):Option AFn:=Ci It f
theorem JT:∀ f af,Mc f=some af→dE Tryz.prog G0 f af:=fun f af h=>xG (show A2 _ It from ⟨Lj,Lk,Ll,Lm,Lo,trivial⟩) h
def Lp(f:FuncId)(args:List AV)(H:List AObj):Option Out:=
 match args with
 |[]=>bif Nat.beq f cH then some (.ret (.bool true),H) else none
 |[.str s]=>bif Nat.beq f bV then some (.ret (.tuple [.int .i32 ((vu s).1:Nat),.int .i64 ((vu s).2:Nat)]),H) else none
 |_=>Jo f args H
theorem JU{f:FuncId}{args:List AV}{H H':List AObj}{r:kJ}(h:Lp f args H=some (r,H')):cB Tryz.prog G0 f args H fun r2 H2=>r2=r∧H2=H':=by
 unfold Lp at h;split at h
 ·cases h1:Nat.beq f cH with
  |true=>rw [h1] at h;cases h;rw [Nat.eq_of_beq_eq_true h1];exact HB H
  |false=>rw [h1] at h;cases h
 ·rename_i s
  cases h1:Nat.beq f bV with
  |true=>rw [h1] at h;cases h;rw [Nat.eq_of_beq_eq_true h1];exact Jh rfl Ea Gc s H
  |false=>rw [h1] at h;cases h
 ·exact EF h
noncomputable def EN:bc := { P:=Tryz.prog,G:=G0,fn:=Mc,orc:=Lp,dfn:=fun _=>none,seq:=Jr,sar:=fun _=>1 }
theorem vo:EN.Ok:=⟨EG,fun f af h=>JT f af h,(fun _ _ _ h=>by cases h),(fun _ _ _ _ _ h=>by cases h),fun _ _ _ _ _ h=>JU h,(fun _ _ _ h=>by cases h),EH⟩
end
section
open Go.Proofs
theorem Ap(w:World):(callFunc 168 #[]).run Tryz.prog w = .ok (.value (.tuple #[])) w:=run_call_mark0 Tryz.func168 (by kernel_rfl) (by kernel_rfl) (by kernel_rfl) .disable (by kernel_rfl) w
theorem CZ(w:World):(callFunc 170 #[]).run Tryz.prog w = .ok (.value (.tuple #[])) w:=run_call_mark0 Tryz.func170 (by kernel_rfl) (by kernel_rfl) (by kernel_rfl) .enable (by kernel_rfl) w
theorem Ge(a:Addr)(w:World):(callFunc 171 #[.pointer (some a)]).run Tryz.prog w = .ok (.value (.tuple #[])) w:=run_call_marked Tryz.func171 (by kernel_rfl) (by kernel_rfl) (by kernel_rfl) .acquire (by kernel_rfl) a w
theorem Gf(a:Addr)(w:World):(callFunc 173 #[.pointer (some a)]).run Tryz.prog w = .ok (.value (.tuple #[])) w:=run_call_marked Tryz.func173 (by kernel_rfl) (by kernel_rfl) (by kernel_rfl) .releaseMerge (by kernel_rfl) a w
set_option maxRecDepth 100000 in
set_option maxHeartbeats 1600000 in
theorem JV(a:Addr)(x:Value)(u:FrameMode)(w:World)(hc:w.cell? a=some x)(hz:w.frozen? a=false) :
  CallsD Tryz.prog 156 #[.pointer (some a),.bool true] u w fun e u' w'=>u'=u∧(e = .returned (.tuple #[])∧w'=w.drew.setCell a (.int .u32 1)):=by
 have hc':w.drew.cell? a=some x:=by go_simp
 have hz':w.drew.frozen? a=false:=by go_simp
 have hst:=run_call_store (P:=Tryz.prog) Tryz.func163 (by kernel_rfl) (by kernel_rfl) (by kernel_rfl) (by kernel_rfl) (k:=.u32) (y:=1) hc' hz'
 go_enter_d Tryz.func156,Tryz.ntmps156
 go_wp2
 go_region_calls
 all_goals (go_end0;exact ⟨rfl,rfl⟩)
set_option maxRecDepth 100000 in
set_option maxHeartbeats 1600000 in
theorem Iu(a:Addr)(u:FrameMode)(w:World)(hc:w.cell? a=some (.int .i32 1))(hz:w.frozen? a=false) :
  CallsD Tryz.prog 155 #[.pointer (some a)] u w fun e u' w'=>u'=u∧(e = .returned (.tuple #[])∧w'=w.setCell a (.int .i32 0)):=by
 have hd:=Ap;have he:=CZ;have hr:=Gf;have hadd:=run_call_add (P:=Tryz.prog) Tryz.func174 (by kernel_rfl) (by kernel_rfl) (by kernel_rfl) .i32 (by kernel_rfl) (y := -1) (s:=0) hc hz (by simp [go_sem];rfl);have hcv:=run_convert_to_unsafe (P:=Tryz.prog) (src:=238) (dst:=154) Tryz.underlying238 Tryz.underlying154 (by kernel_rfl) hc
 go_enter_d Tryz.func155,Tryz.ntmps155
 go_wp2
 go_end0
 go_wp2
 go_end0
 exact ⟨rfl,rfl⟩
set_option maxRecDepth 100000 in
set_option maxHeartbeats 1600000 in
theorem Lq(a:Addr)(w:World)(hc:w.cell? a=some (.int .i32 0))(hz:w.frozen? a=false) :
  Calls Tryz.prog 154 #[.pointer (some a)] w fun e w'=>e = .returned (.tuple #[])∧w'=w.setCell a (.int .i32 1):=by
 have hd:=Ap;have he:=CZ;have ha:=Ge;have hcas:=run_call_cas_hit (P:=Tryz.prog) Tryz.func169 (by kernel_rfl) (by kernel_rfl) (by kernel_rfl) .i32 (by kernel_rfl) (y:=1) hc hz;have hc':(w.setCell a (.int .i32 1)).cell? a=some (.int .i32 1):=World.cell?_setCell_same w a _ hc;have hcv:=run_convert_to_unsafe (P:=Tryz.prog) (src:=238) (dst:=154) Tryz.underlying238 Tryz.underlying154 (by kernel_rfl) hc'
 go_enter Tryz.func154,Tryz.ntmps154
 go_wp2
 first | go_end0 | (simp only [Exit.inBlock,Exit.then];refine bodyPost_ret (results_none rfl _ _ _) rfl ?_) | refine bodyPost_ret (results_none rfl _ _ _) rfl ?_
 go_wp2
 go_end0
 exact ⟨rfl,rfl⟩
set_option maxRecDepth 100000 in
set_option maxHeartbeats 1600000 in
theorem Lr(b:Nat)(w:World)(Q:World→Prop)
  (h0:w.cell? ⟨b,0,none⟩=some (.int .u32 0)) (h1:w.cell? ⟨b,0+1,none⟩=some (.int .i32 0)) (f1:w.frozen? ⟨b,0+1,none⟩=false)
  (hf:Calls Tryz.prog 119 #[.pointer (some ⟨b,0,none⟩)] (w.setCell ⟨b,0+1,none⟩ (.int .i32 1)) fun e w'=>e = .returned (.tuple #[])∧Q w')
  (hQ:∀ w',Q w'→w'.cell? ⟨b,0,none⟩=some (.int .u32 0)∧w'.cell? ⟨b,0+1,none⟩=some (.int .i32 1)∧w'.frozen? ⟨b,0,none⟩=false∧w'.frozen? ⟨b,0+1,none⟩=false) :
  Calls Tryz.prog 144 #[.pointer (some ⟨b,0,none⟩),.func (.func 119) #[.pointer (some ⟨b,0,none⟩)] #[]] w fun e w'=>e = .returned (.tuple #[]) ∧
   ∃ w2,Q w2∧w'=(w2.drew.setCell ⟨b,0,none⟩ (.int .u32 1)).setCell ⟨b,0+1,none⟩ (.int .i32 0):=by
 have hl:=run_call_load (P:=Tryz.prog) Tryz.func153 (by kernel_rfl) (by kernel_rfl) (by kernel_rfl) .u32 (by kernel_rfl) (w:=w.setCell ⟨b,0+1,none⟩ (.int .i32 1)) (a:=⟨b,0,none⟩) (x:=0) ((World.cell?_setCell_other _ ⟨b,0+1,none⟩ ⟨b,0,none⟩ _ (by simp)).trans h0);have hnot:∀ (x:Bool) (w:World),(Op.unary .not (.bool x)).run Tryz.prog w = .ok (.bool (!x)) w:=fun _ _=>rfl
 go_enter_defers Tryz.func144,Tryz.ntmps144
 go_wp2_with (first | (go_at_call 154;refine (Lq ⟨b,0+1,none⟩ _ h1 f1).mono ?_;rintro e w' ⟨rfl,rfl⟩) | (go_at_call 119;refine hf.mono ?_;rintro e w2 ⟨rfl,hq⟩) | (go_at_call 143;go_in))
 refine leaves_cons (f:=156) (args := #[.pointer (some ⟨b,0,none⟩),.bool true]) (by simp) (by simp [go_sem]) ?_;refine (JV ⟨b,0,none⟩ (.int .u32 0) .returning _ (hQ w2 hq).1 (hQ w2 hq).2.2.1).mono ?_;rintro e u' w'' ⟨rfl,rfl,rfl⟩;refine leaves_cons (f:=155) (args := #[.pointer (some ⟨b,0+1,none⟩)]) (by simp [settle]) (by simp [go_sem]) ?_;refine (Iu ⟨b,0+1,none⟩ _ _ ?_ ?_).mono ?_
 ·refine (World.cell?_setCell_other _ ⟨b,0,none⟩ ⟨b,0+1,none⟩ _ (by simp)).trans ?_
  rw [World.cell?_drew];exact (hQ w2 hq).2.1
 ·simp [(hQ w2 hq).2.2.2]
 rintro e u' w'' ⟨rfl,rfl,rfl⟩;simp [Leaves,settle,results,Tryz.results144];exact ⟨w2,hq,rfl⟩
set_option maxRecDepth 100000 in
set_option maxHeartbeats 1600000 in
theorem Mt(b:Nat)(w:World)(Q:World→Prop)
  (h0:w.cell? ⟨b,0,none⟩=some (.int .u32 0)) (h1:w.cell? ⟨b,0+1,none⟩=some (.int .i32 0)) (f1:w.frozen? ⟨b,0+1,none⟩=false)
  (hf:Calls Tryz.prog 119 #[.pointer (some ⟨b,0,none⟩)] (w.setCell ⟨b,0+1,none⟩ (.int .i32 1)) fun e w'=>e = .returned (.tuple #[])∧Q w')
  (hQ:∀ w',Q w'→w'.cell? ⟨b,0,none⟩=some (.int .u32 0)∧w'.cell? ⟨b,0+1,none⟩=some (.int .i32 1)∧w'.frozen? ⟨b,0,none⟩=false∧w'.frozen? ⟨b,0+1,none⟩=false) :
  Calls Tryz.prog 118 #[.pointer (some ⟨b,0,none⟩),.func (.func 119) #[.pointer (some ⟨b,0,none⟩)] #[]] w fun e w'=>e = .returned (.tuple #[]) ∧
   ∃ w2,Q w2∧w'=(w2.drew.setCell ⟨b,0,none⟩ (.int .u32 1)).setCell ⟨b,0+1,none⟩ (.int .i32 0):=by
 have hl:=run_call_load (P:=Tryz.prog) Tryz.func153 (by kernel_rfl) (by kernel_rfl) (by kernel_rfl) .u32 (by kernel_rfl) h0;have hnot:∀ (x:Bool) (w:World),(Op.unary .not (.bool x)).run Tryz.prog w = .ok (.bool (!x)) w:=fun _ _=>rfl
 go_enter Tryz.func118,Tryz.ntmps118
 go_wp2_with (first | (go_at_call 144;refine (Lr b w Q h0 h1 f1 hf hQ).mono ?_;rintro e w' ⟨rfl,w2,hq,rfl⟩) | (go_at_call 143;go_in))
 go_end0
 exact ⟨rfl,w2,hq,rfl⟩
end
section
open Go.Proofs
theorem tX{K:aj}{H:List AObj}{w:World}(hi:Inv K H w){id b off:Nat}{cs:List AV}{T0:TypeId}{av:AV}(hx:H[id]?=some (.cells cs T0))(hb:K.loc[id]?=some b)(ha:cs[off]?=some av) :
  ∃ v,w.cell? ⟨b,off,none⟩=some v∧V K av v∧w.frozen? ⟨b,off,none⟩=false:=by
 obtain ⟨b',vs,T,h1,h2,h3,h4,h5,_⟩:=hi.obj id _ hx;rw [hb] at h1;cases h1;have hlt:off<vs.size:=Nat.lt_of_lt_of_le (List.getElem?_eq_some_iff.1 ha).1 h4;refine ⟨vs.getD off undef, ?_,h5 off av ha,by simp [World.frozen?,h3]⟩;rw [b6 h3];simp [Array.getD,hlt]
noncomputable def M0:bM b4 EN:=Classical.choice (vf b4 EN)
noncomputable def E4(q:Nat)(H:List AObj):Option Out:=
 match H[q]? with
 |some (.cells (.int .u32 0 :: .int .i32 0::rest) T)=>
  match M0.run bh [.ptr q 0] (H.set q (.cells (.int .u32 0 :: .int .i32 1::rest) T)) with
  |some (.ret (.tuple []),H2)=>
   match H2[q]? with
   |some (.cells (.int .u32 0 :: .int .i32 1::rest2) T2)=>some (.ret (.tuple []),H2.set q (.cells (.int .u32 1 :: .int .i32 0::rest2) T2))
   |_=>none
  |_=>none
 |_=>none
theorem Iv{q:Nat}{H H':List AObj}{r:kJ}(h:E4 q H=some (r,H')):cB Tryz.prog G0 iM [.ptr q 0,.fn (.func bh) [.ptr q 0] []] H fun r2 H2=>r2=r∧H2=H':=by
 unfold E4 at h;split at h
 ·rename_i rest T hH
  split at h
  ·rename_i H2 hrun
   split at h
   ·rename_i rest2 T2 hH2
    cases h;intro K w cargs hg hi hv;refine .inl ⟨eW Tryz.func118 (by kernel_rfl) (by kernel_rfl) _ _, ?_⟩;have hA:=M0.sound vo hrun;have hsz:=hv.size
    obtain ⟨v0,v1,rfl⟩:∃ v0 v1,cargs = #[v0,v1]:=by
     obtain ⟨l⟩:=cargs;rcases l with _ | ⟨v0,_ | ⟨v1,_ | ⟨v2,l⟩⟩⟩<;>simp at hsz
     exact ⟨v0,v1,rfl⟩
    have h0:V K (.ptr q 0) v0:=hv.at_ 0 _ rfl;have h1:V K (.fn (.func bh) [.ptr q 0] []) v1:=hv.at_ 1 _ rfl;cases h0 with
    |ptr _ _ b hb=>
    cases h1 with
    |fn _ _ _ vs us e1 e2 e3 e4=>
    obtain rfl:us = #[]:=Array.eq_empty_of_size_eq_zero (by simpa using e2.symm)
    obtain ⟨u,rfl⟩:∃ u,vs = #[u]:=by
     obtain ⟨l⟩:=vs;rcases l with _ | ⟨u,_ | ⟨u2,l⟩⟩<;>simp at e1
     exact ⟨u,rfl⟩
    have h2:V K (.ptr q 0) u:=e3 0 _ rfl;cases h2 with
    |ptr _ _ b2 hb2=>
    rw [hb] at hb2;cases hb2;obtain ⟨x0,c0,V0,f0⟩:=tX hi hH hb (off:=0) rfl;obtain ⟨x1,c1,V1,f1⟩:=tX hi hH hb (off:=1) rfl;cases V0;cases V1;have hi1:=hi.store hH (off:=1) (by simp) hb (V.int .i32 1)
    have hvs1:Vs K [.ptr q 0] #[.pointer (some ⟨b,0,none⟩)]:=⟨rfl,fun i av h=>by
     cases i with
     |zero=>cases h;exact V.ptr _ _ _ hb
     |succ i=>simp at h⟩
    rcases hA K _ _ hg hi1 hvs1 with ⟨_,hcalls⟩ | ⟨cv,w',e,_⟩
    rotate_left
    ·have e':=eW Tryz.func119 (by kernel_rfl) (by kernel_rfl) #[.pointer (some ⟨b,0,none⟩)] (w.setCell ⟨b,1,none⟩ (.int .i32 1))
     have e:(callFunc 119 #[.pointer (some ⟨b,0,none⟩)]).run Tryz.prog (w.setCell ⟨b,1,none⟩ (.int .i32 1)) = .ok (.value cv) w':=e;rw [e'] at e;cases e
    refine (Mt b w (fun w2 => ∃ K2,K.le K2∧Inv K2 H2 w2) c0 c1 f1 (hcalls.mono ?_) ?_).mono ?_
    ·rintro e w2 ⟨K2,r2,H3,hk,he,hi2,rfl,rfl⟩
     cases e with
     |returned x=>
      have he:V K2 (.tuple []) x:=he;cases he with
      |tuple _ vs2 g1 g2=>
       obtain rfl:vs2 = #[]:=Array.eq_empty_of_size_eq_zero (by simpa using g1.symm);exact ⟨rfl,K2,hk,hi2⟩
     |_=>exact he.elim
    ·rintro w2 ⟨K2,hk,hi2⟩
     obtain ⟨y0,d0,W0,k0⟩:=tX hi2 hH2 (hk.loc _ _ hb) (off:=0) rfl;obtain ⟨y1,d1,W1,k1⟩:=tX hi2 hH2 (hk.loc _ _ hb) (off:=1) rfl;cases W0;cases W1;exact ⟨d0,d1,k0,k1⟩
    ·rintro e w' ⟨rfl,w2,⟨K2,hk,hi2⟩,rfl⟩
     have i1:=hi2.drew.store hH2 (off:=0) (by simp) (hk.loc _ _ hb) (V.int .u32 1);have hlt:=(List.getElem?_eq_some_iff.1 hH2).1;have i2:=i1.store (List.getElem?_set_self hlt) (off:=1) (by simp) (hk.loc _ _ hb) (V.int .i32 0);rw [List.set_set] at i2;exact ⟨K2,.ret (.tuple []),_,hk,(show Gh K2 (.ret (.tuple [])) (.returned (.tuple #[])) from V.tuple [] #[] rfl (fun i av h=>by simp at h)),i2,rfl,rfl⟩
   ·cases h
  ·cases h
 ·cases h
noncomputable def Eb(f:FuncId)(args:List AV)(H:List AObj):Option Out:=
 match args with
 |[.ptr q 0,.fn (.func g) [.ptr q' 0] []]=>bif Nat.beq f iM&&Nat.beq g bh&&Nat.beq q' q then E4 q H else EN.orc f args H
 |_=>EN.orc f args H
theorem JW{f:FuncId}{args:List AV}{H H':List AObj}{r:kJ}(h:Eb f args H=some (r,H')):cB Tryz.prog G0 f args H fun r2 H2=>r2=r∧H2=H':=by
 unfold Eb at h;split at h
 ·rename_i q g q'
  cases hb:Nat.beq f iM&&Nat.beq g bh&&Nat.beq q' q with
  |true=>
   rw [hb,cond_true] at h;simp only [Bool.and_eq_true] at hb;rw [Nat.eq_of_beq_eq_true hb.1.1,Nat.eq_of_beq_eq_true hb.1.2,Nat.eq_of_beq_eq_true hb.2];exact Iv h
  |false=>rw [hb,cond_false] at h;exact vo.orc _ _ _ _ _ h
 ·exact vo.orc _ _ _ _ _ h
def Iw (t:TypeId) (m:String):Option FuncId:=bif Nat.beq t aZ&&(m == "Replace") then some bL else none
theorem Iy(t:TypeId)(m:String)(g:FuncId)(h:Iw t m=some g)(v:Value)(w:World):(method (Tryz.prog.types.size+Made.depth) t v m).run Tryz.prog w = .ok (g,v) w:=by
 unfold Iw at h;cases hb:Nat.beq t aZ&&(m == "Replace") with
 |true=>
  rw [hb,cond_true] at h;cases h;rw [Bool.and_eq_true] at hb;rw [Nat.eq_of_beq_eq_true hb.1,eq_of_beq hb.2];kernel_rfl
 |false=>rw [hb,cond_false] at h;cases h
noncomputable def EN1:bc := { EN with orc:=Eb,meth:=Iw }
theorem Ls:EN1.Ok:=⟨vo.mixed,vo.fn,vo.dfn,vo.wo,fun _ _ _ _ _ h=>JW h,Iy,vo.seq⟩
theorem Iz{f:FuncId}{x:AV}{H:List AObj}:EN1.orc f [x] H=EN.orc f [x] H:=by
 rw [show EN1.orc=Eb from rfl];unfold Eb;cases x with
 |ptr i o=>cases o<;>rfl
 |_=>rfl
theorem JX:HX EN:=by constructor<;>rfl
theorem JY(M:bM b4 EN1):CS M:=by
 refine ⟨rfl,fun H r tg T hr => ?_⟩;have hlt:=(List.getElem?_eq_some_iff.1 hr).1;obtain ⟨tg',h1⟩:=zA M0 JX (H:=H.set r (.cells [.int .u32 0,.int .i32 1,.int .u32 0,.nilif,.slice tg 1 (cX.map bK)] T)) (r:=r) (List.getElem?_set_self hlt);rw [List.length_set] at h1;have hne:r≠H.length:=by omega
 have hls:(H.set r (.cells [.int .u32 0,.int .i32 1,.int .u32 0,.nilif,.slice tg 1 (cX.map bK)] T)).length=H.length:=List.length_set;refine ⟨((H.set r (.cells [.int .u32 0,.int .i32 1,.int .u32 0,.nilif,.slice tg 1 (cX.map bK)] T)++[AObj.tok 3 aO,AObj.cells (sM++[.slice tg' 1 (nf.map bK)]) aT]).set r (AObj.cells [.int .u32 0,.int .i32 1,.int .u32 0,.iface aZ (.ptr (H.length+1) 0),.slice .nil 1 []] T)).set r (AObj.cells [.int .u32 1,.int .i32 0,.int .u32 0,.iface aZ (.ptr (H.length+1) 0),.slice .nil 1 []] T),tg',H.length+1, ?_, ?_, ?_, ?_, ?_⟩
 ·rw [tq M rfl]
  rw [show EN1.orc=Eb from rfl];unfold Eb
  have nb:∀ n:Nat,Nat.beq n n=true:=fun n=>by
   induction n with
   |zero=>rfl
   |succ n ih=>exact ih
  simp only [nb,Bool.and_self,cond_true];unfold E4;rw [hr];simp only [h1];rw [List.getElem?_set_self (by rw [List.length_append,hls];omega)];rfl
 ·exact List.getElem?_set_self (by rw [List.length_set,List.length_append,hls];omega)
 ·rw [List.getElem?_set_ne (by omega),List.getElem?_set_ne (by omega),← hls,hp_getk];rfl
 ·rw [List.length_set,List.length_set,List.length_append,hls];omega
 ·intro i hi hn
  rw [List.getElem?_set_ne (fun e=>hn e.symm),List.getElem?_set_ne (fun e=>hn e.symm),List.getElem?_append_left (by rw [hls];exact hi),List.getElem?_set_ne (fun e=>hn e.symm)]
end
end Go.Am
