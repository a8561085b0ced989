import Derived.Test.YthbkdffdgopjeaaGreatDoorA5
import Derived.Test.YthbkdffdgopjeaaGreatDoorChecked
import Derived.Shelf.Unicode.DecodeAny
import Derived.Lib.LaidU8T
import Derived.KernelRfl
/-
  Part 6 of the tool: an abstract machine over the model, proved sound, and what it says of the functions that the law reaches. Condition: none but those that each theorem names.
-/
set_option linter.unusedVariables false
set_option linter.unusedSimpArgs false
set_option maxRecDepth 100000
set_option maxHeartbeats 4000000
namespace Go.Am
open Go.RowKit
section
attribute [local congr] aD a8 aO aE aN aI aF au aw aJ aK
variable{E:aT}(M:br bP E)
def wG(rs:List Nat):Bool:=rs.all fun r=>mR (unR r)
def El(rs:List Nat):Bool:=match rs with
 |[]=>false
 |r::t=>sel (t.isEmpty&&qM (unR r)) true (wG (r::t))
def HR(w:Str):Bool:=tm w&&El (bF w)
theorem HS{rs:List Nat}{i:Nat}(h:i<rs.length):wG (rs.drop i)=(mR (unR rs[i])&&wG (rs.drop (i+1))):=by
 rw [List.drop_eq_getElem_cons h];rfl
theorem rrl(hU:kR E){rs:List Nat}(hr:rs.length≤bh){H H0:List AObj}(hc:dh H0 H)(k:List Fra):∀ (n i:Nat) (He:List AObj),i+n=rs.length →
  M.go fc H0 (.c di :: .lp ⟨(some [3,4]),[],false⟩ di He :: .blk 0 :: .c (.lv [])::k) (kv [(3,.slice .any 1 (rs.map lS)),(4,.int .i64 i)]) H=sel (wG (rs.drop i)) (M.go fc H0 k .leaf H) (some (.ret (.bool false),H.take H0.length))
 |0,i,He,h=>by
  have e:i=rs.length:=by omega
  subst e;rw [List.drop_length,show wG []=true from rfl,sel_true];rw [al M di.eq_1];simp (maxSteps:=3000000) (maxDischargeDepth:=6) +contextual -implicitDefEqProofs only [amC M,↓amD,Nat.reduceBEq,Nat.reduceAdd,env,ah,bG,Nat.lt_irrefl]
 |n+1,i,He,h=>by
  have hi:i<rs.length:=by omega
  have hx:rs[i]?=some rs[i]:=List.getElem?_eq_getElem hi;have ih:=fun He=>rrl hU hr hc k n (i+1) He (by omega)
  simp only [kv_cons,kv_nil] at ih;have hw:=fun H=>BK M hU (unR rs[i]) H
  have hrow:(unR rs[i]).row=[.int .i32 (rs[i]:Int),.bool false]:=rfl;rw [hrow] at hw;rw [HS hi];cases hq:mR (unR rs[i]) with
  |true=>
   rw [hq] at hw;rw [Bool.true_and];rw [al M di.eq_1];simp (maxSteps:=3000000) (maxDischargeDepth:=6) +contextual -implicitDefEqProofs only [amC M,↓amD,Nat.reduceBEq,Nat.reduceAdd,env,ah,bG,amG,AV.cell,Nat.reduceMul,Nat.reduceLeDiff,hi,hx,hw,ih,a7 hi,tr,dJ hi hr]
  |false=>
   rw [hq] at hw;rw [Bool.false_and,sel_false];rw [al M di.eq_1];simp (maxSteps:=3000000) (maxDischargeDepth:=6) +contextual -implicitDefEqProofs only [amC M,↓amD,Nat.reduceBEq,Nat.reduceAdd,env,ah,bG,amG,AV.cell,Nat.reduceMul,Nat.reduceLeDiff,hi,hx,hw,a7 hi,tr,hc]
theorem Lr(hB:fV E)(hU:kR E)(hW:WsE E){w:Str}(hw:w.length≤70368744177664)(H:List AObj):M.run kT [.str w] H=some (.ret (.bool (HR w)),H):=by
 have ht:=fun H=>D9 M hB hw H
 have hl:=pw w;have h4:=fun k He=>rrl M hU (rs:=bF w) (by simp only [bh];omega) (cut_refl H) k (bF w).length 0 He (by omega)
 simp only [kv_cons,kv_nil,Int.ofNat_zero,List.drop_zero] at h4;have z0:(((0:Nat):Int) == 0)=true:=rfl;have z1:(((0:Nat):Int) == 1)=false:=rfl;have o0:(((1:Nat):Int) == 0)=false:=rfl;have o1:(((1:Nat):Int) == 1)=true:=rfl;unfold HR;cases hx:tm w with
 |false=>
  rw [hx] at ht;rw [Bool.false_and];rw [aG M hW.truchmanref01_row rfl (c:=aU) rfl,aU];simp (maxSteps:=3000000) (maxDischargeDepth:=6) +contextual -implicitDefEqProofs only [amC M,↓amD,Nat.reduceBEq,Nat.reduceAdd,env,ah,bG,amG,AV.cell,Nat.reduceMul,Nat.reduceLeDiff,ht,vw hw]
 |true=>
  rw [hx] at ht;rw [Bool.true_and];cases hr:bF w with
  |nil=>
   have rc:=vw hw;rw [hr] at rc;rw [aG M hW.truchmanref01_row rfl (c:=aU) rfl,aU];simp (maxSteps:=3000000) (maxDischargeDepth:=6) +contextual -implicitDefEqProofs only [amC M,↓amD,Nat.reduceBEq,Nat.reduceAdd,env,ah,bG,amG,AV.cell,Nat.reduceMul,Nat.reduceLeDiff,ht,rc,El,List.length_nil,z0,z1]
  |cons r t=>
   have rc:=vw hw;rw [hr] at rc h4;have hm:=fun H=>HM M hU (unR r) H
   have hrow:(unR r).row=[.int .i32 (r:Int),.bool false]:=rfl;rw [hrow] at hm
   have i0:rT 1 (.slice .any 1 ((r::t).map lS)) (.int .i64 0)=some (.vptr 1 ((r::t).map lS) 0 0):=by
    have:=a7 (row:=lS) (l:=r::t) (tag:=.any) (sz:=1) (k:=.i64) (i:=0) (by simp);simpa using this
   cases t with
   |nil=>
    cases hk:qM (unR r) with
    |true=>
     rw [hk] at hm;rw [show El [r]=true by rw [El,hk];rfl];rw [aG M hW.truchmanref01_row rfl (c:=aU) rfl,aU];simp (maxSteps:=3000000) (maxDischargeDepth:=6) +contextual -implicitDefEqProofs only [amC M,↓amD,Nat.reduceBEq,Nat.reduceAdd,env,ah,bG,amG,AV.cell,Nat.reduceMul,Nat.reduceLeDiff,ht,rc,hm,i0,tr,o0,o1,List.length_cons,List.length_nil,List.getElem?_cons_zero]
    |false=>
     rw [hk] at hm;rw [show El [r]=wG [r] by rw [El,hk];rfl];cases ha:wG [r] with
     |true=>
      rw [ha] at h4;rw [aG M hW.truchmanref01_row rfl (c:=aU) rfl,aU];simp (maxSteps:=3000000) (maxDischargeDepth:=6) +contextual -implicitDefEqProofs only [amC M,↓amD,Nat.reduceBEq,Nat.reduceAdd,env,ah,bG,amG,AV.cell,Nat.reduceMul,Nat.reduceLeDiff,ht,rc,hm,i0,tr,o0,o1,List.length_cons,List.length_nil,List.getElem?_cons_zero,h4,sel_true]
     |false=>
      rw [ha] at h4;rw [aG M hW.truchmanref01_row rfl (c:=aU) rfl,aU];simp (maxSteps:=3000000) (maxDischargeDepth:=6) +contextual -implicitDefEqProofs only [amC M,↓amD,Nat.reduceBEq,Nat.reduceAdd,env,ah,bG,amG,AV.cell,Nat.reduceMul,Nat.reduceLeDiff,ht,rc,hm,i0,tr,o0,o1,List.length_cons,List.length_nil,List.getElem?_cons_zero,h4,sel_false]
   |cons r2 t=>
    have e0:(((t.length+1+1:Nat):Int) == 0)=false:=beq_eq_false_iff_ne.2 (by omega);have e1:(((t.length+1+1:Nat):Int) == 1)=false:=beq_eq_false_iff_ne.2 (by omega);rw [show El (r::r2::t)=wG (r::r2::t) from rfl];cases ha:wG (r::r2::t) with
    |true=>
     rw [ha] at h4;rw [aG M hW.truchmanref01_row rfl (c:=aU) rfl,aU];simp (maxSteps:=3000000) (maxDischargeDepth:=6) +contextual -implicitDefEqProofs only [amC M,↓amD,Nat.reduceBEq,Nat.reduceAdd,env,ah,bG,amG,AV.cell,Nat.reduceMul,Nat.reduceLeDiff,ht,rc,e0,e1,List.length_cons,h4,sel_true]
    |false=>
     rw [ha] at h4;rw [aG M hW.truchmanref01_row rfl (c:=aU) rfl,aU];simp (maxSteps:=3000000) (maxDischargeDepth:=6) +contextual -implicitDefEqProofs only [amC M,↓amD,Nat.reduceBEq,Nat.reduceAdd,env,ah,bG,amG,AV.cell,Nat.reduceMul,Nat.reduceLeDiff,ht,rc,e0,e1,List.length_cons,h4,sel_false]
end
section
attribute [local congr] aD a8 aO aE aN aI aF au aw aJ aK
variable{E:aT}(M:br bP E)
theorem HT(hX:wA M)(hW:WsE E)(s:Str)(H:List AObj):M.run rp [.str s] H=some (.ret (.tuple [.int .i32 ((Hv s).1:Int),.bool (((Hv s).2:Int) == (s.length:Int))]),H):=by
 have h:=fun H=>hX.dec s H
 rw [aG M hW.docs_first rfl (c:=rA) rfl,rA];simp (maxSteps:=3000000) (maxDischargeDepth:=6) +contextual -implicitDefEqProofs only [amC M,↓amD,Nat.reduceBEq,Nat.reduceAdd,env,ah,CI,amG,AV.cell,Nat.reduceMul,Nat.reduceLeDiff,h,aR,List.getElem?_cons_zero,List.getElem?_cons_succ]
theorem Em(hU:kR E)(hW:WsE E)(r:Nat)(H:List AObj):M.run eS [.int .i32 (r:Int)] H=some (.ret (.bool (!mR (unR r))),H):=by
 have h:=fun H=>BJ M hU (unR r) H
 have hrow:(unR r).row=[.int .i32 (r:Int),.bool false]:=rfl;rw [hrow] at h;rw [aG M hW.docs_isWord_1 rfl (c:=oe) rfl,oe];simp (maxSteps:=3000000) (maxDischargeDepth:=6) +contextual -implicitDefEqProofs only [amC M,↓amD,Nat.reduceBEq,Nat.reduceAdd,env,ah,xv,amG,AV.cell,Nat.reduceMul,Nat.reduceLeDiff,h]
def noW:Nat→Nat→Str→Int
 |0,_,_ => -1
 |n+1,i,s=>sel s.isEmpty (-1) (sel (mR (unR (bE s).1)) (noW n (i+(bE s).2) (s.drop (bE s).2)) (i:Int))
theorem Gz:∀ (n i:Nat) (s:Str),s.length≤n→decide (0≤noW n i s) = !wG (bF s)
 |0,i,s,h=>by
  obtain rfl:s=[]:=List.eq_nil_of_length_eq_zero (by omega);rfl
 |n+1,i,s,h=>by
  by_cases hs:s=[]
  ·subst hs;rfl
  ·have hw:=rG s
   have he:s.isEmpty=false:=by cases s with
    |nil=>exact absurd rfl hs
    |cons c t=>rfl
   have ih:=Gz n (i+(bE s).2) (s.drop (bE s).2) (by rw [List.length_drop];omega);rw [noW,he,sel_false,tl hs,show wG ((bE s).1::bF (s.drop (bE s).2))=(mR (unR (bE s).1)&&wG (bF (s.drop (bE s).2))) from rfl];cases mR (unR (bE s).1) with
   |true=>rw [sel_true,ih,Bool.true_and]
   |false=>rw [sel_false,Bool.false_and];simp
theorem Ae{H0 H:List AObj}(h:H.take H0.length=H0):dh H0 H:=by
 refine ⟨by have:=congrArg List.length h;rw [List.length_take] at this;omega,fun i x hi hx=>.inl ?_⟩;rw [← h,List.getElem?_take,if_pos hi];exact hx
theorem NY(hU:kR E)(hW:WsE E){s:Str}(hs:s.length≤bh){t:Nat}{H0:List AObj}(ht0:H0.length≤t):∀ (n i:Nat) (H:List AObj),s.length-i≤n→i≤s.length→H[t]?=some (.siter s i)→H.take H0.length=H0→dh H0 H →
  ∃ H',H'.take H0.length=H0∧∀ (k:List Fra) (He:List AObj),M.go ec H0 (.c cH :: .lp ⟨(some [1,2,10]),[],false⟩ cH He :: .blk 0 :: .c (.lv [])::k) (kv [(1,.fn (.func eS) [] []),(2,.bool true),(10,.ptr t 0)]) H=sel (decide (0≤noW n i (s.drop i))) (some (.ret (.int .i64 (noW n i (s.drop i))),H0)) (M.go ec H0 k .leaf H'):=by
 intro n;induction n with
 |zero=>
  intro i H hn hi ht hc hck;obtain rfl:i=s.length:=by omega
  refine ⟨H,hc,fun k He => ?_⟩;rw [noW,show decide ((0:Int)≤-1)=false from rfl,sel_false];rw [al M cH.eq_1];simp (maxSteps:=3000000) (maxDischargeDepth:=6) +contextual -implicitDefEqProofs only [amC M,↓amD,Nat.reduceBEq,Nat.reduceAdd,env,ah,ed,pJ,ht,List.getElem?_cons_zero,Nat.lt_irrefl,aR]
 |succ n ih=>
  intro i H hn hi ht hc hck
  by_cases hlt:i<s.length
  ·have hne:s.drop i≠[]:=fun e=>by have:=congrArg List.length e;simp at this;omega
   have hem:(s.drop i).isEmpty=false:=by cases h:s.drop i with
    |nil=>exact absurd h hne
    |cons c t=>rfl
   have hw:=rG (s.drop i);have hle:=vt hne;rw [List.length_drop] at hle;have hdd:Utf8.decode ⟨s.toArray⟩ i=bE (s.drop i):=wz s i;rw [noW,hem,sel_false,List.drop_drop];generalize bE (s.drop i)=d at *
   have htl:=bT ht;have ht1:(H.set t (.siter s (i+d.2)))[t]?=some (.siter s (i+d.2)):=List.getElem?_set_self htl;have hc1:(H.set t (.siter s (i+d.2))).take H0.length=H0:=by rw [List.take_set_of_le ht0];exact hc
   have hck1:dh H0 (H.set t (.siter s (i+d.2))):=Ae hc1;have hwd:=fun H=>Em M hU hW d.1 H
   obtain ⟨H',h0,h1⟩:=ih (i+d.2) _ (by omega) (by omega) ht1 hc1 hck1;simp only [kv_cons,kv_nil] at h1;refine ⟨H',h0,fun k He => ?_⟩;cases hq:mR (unR d.1) with
   |true=>
    rw [hq] at hwd;rw [sel_true];rw [al M cH.eq_1];simp (maxSteps:=3000000) (maxDischargeDepth:=6) +contextual -implicitDefEqProofs only [amC M,↓amD,Nat.reduceBEq,Nat.reduceAdd,env,ah,ed,amG,AV.cell,Nat.reduceMul,Nat.reduceLeDiff,pJ,ht,hlt,hdd,aR,List.getElem?_cons_succ,List.getElem?_cons_zero,hwd,h1,Bool.not_true,(show req EK.bool (.bool false) (.bool true)=some false from rfl)]
   |false=>
    rw [hq] at hwd;rw [sel_false,show decide ((0:Int)≤(i:Int))=true from decide_eq_true (by omega),sel_true];rw [al M cH.eq_1];simp (maxSteps:=3000000) (maxDischargeDepth:=6) +contextual -implicitDefEqProofs only [amC M,↓amD,Nat.reduceBEq,Nat.reduceAdd,env,ah,ed,amG,AV.cell,Nat.reduceMul,Nat.reduceLeDiff,pJ,ht,hlt,hdd,aR,List.getElem?_cons_succ,List.getElem?_cons_zero,hwd,hc1,hck1,Bool.not_false,(show req EK.bool (.bool true) (.bool true)=some true from rfl)]
  ·obtain rfl:i=s.length:=by omega
   refine ⟨H,hc,fun k He => ?_⟩;rw [List.drop_length,noW,show ([]:Str).isEmpty=true from rfl,sel_true,show decide ((0:Int)≤-1)=false from rfl,sel_false];rw [al M cH.eq_1];simp (maxSteps:=3000000) (maxDischargeDepth:=6) +contextual -implicitDefEqProofs only [amC M,↓amD,Nat.reduceBEq,Nat.reduceAdd,env,ah,ed,pJ,ht,List.getElem?_cons_zero,Nat.lt_irrefl,aR]
theorem JP:∀ (n i:Nat) (s:Str),decide (0≤noW n i s)=false→noW n i s = -1
 |0,_,_,_=>rfl
 |n+1,i,s,h=>by
  rw [noW] at h ⊢;cases he:s.isEmpty with
  |true=>rfl
  |false=>
   rw [he,sel_false] at h;rw [sel_false];cases hq:mR (unR (bE s).1) with
   |true=>
    rw [hq,sel_true] at h;rw [sel_true];exact JP n _ _ h
   |false=>
    rw [hq,sel_false] at h;have:=of_decide_eq_false h;omega
theorem Fw(hU:kR E)(hW:WsE E){s:Str}(hs:s.length≤bh)(H:List AObj):M.run iL [.str s,.fn (.func eS) [] []] H=some (.ret (.bool (!wG (bF s))),H):=by
 have h0:∀ H,M.run kW [.str s,.fn (.func eS) [] [],.bool true] H=some (.ret (.int .i64 (noW s.length 0 s)),H):=by
  intro H;have hg:(H++[.siter s 0])[H.length]?=some (.siter s 0):=aj H _;obtain ⟨H',hc,h1⟩:=NY M hU hW hs (t:=H.length) (H0:=H) (Nat.le_refl _) s.length 0 (H++[.siter s 0]) (by omega) (by omega) hg (hp_take H _) (cut_app H _);simp only [kv_cons,kv_nil,List.drop_zero] at h1;have rr:∀ H,rrg H (.str s)=some (AV.ptr H.length 0,H++[.siter s 0]):=fun _=>rfl
  have hck:=Ae hc;cases hq:decide (0≤noW s.length 0 s) with
  |true=>
   rw [hq] at h1;simp only [sel_true] at h1;rw [aG M hW.strings_indexFunc rfl (c:=fe) rfl,fe];simp (maxSteps:=3000000) (maxDischargeDepth:=6) +contextual -implicitDefEqProofs only [amC M,↓amD,Nat.reduceBEq,Nat.reduceAdd,env,ah,ed,amG,AV.cell,Nat.reduceMul,Nat.reduceLeDiff,rr,h1]
  |false=>
   rw [hq] at h1;simp only [sel_false] at h1;rw [JP _ _ _ hq];rw [aG M hW.strings_indexFunc rfl (c:=fe) rfl,fe];simp (maxSteps:=3000000) (maxDischargeDepth:=6) +contextual -implicitDefEqProofs only [amC M,↓amD,Nat.reduceBEq,Nat.reduceAdd,env,ah,ed,amG,AV.cell,Nat.reduceMul,Nat.reduceLeDiff,rr,h1,hc,hck]
 have h2:∀ H,M.run kV [.str s,.fn (.func eS) [] []] H=some (.ret (.int .i64 (noW s.length 0 s)),H):=by
  intro H;rw [aG M hW.strings_IndexFunc rfl (c:=k9) rfl,k9];simp (maxSteps:=3000000) (maxDischargeDepth:=6) +contextual -implicitDefEqProofs only [amC M,↓amD,Nat.reduceBEq,Nat.reduceAdd,env,ah,tK,amG,AV.cell,Nat.reduceMul,Nat.reduceLeDiff,h0]
 rw [← Gz s.length 0 s (Nat.le_refl _)];rw [aG M hW.strings_ContainsFunc rfl (c:=iU) rfl,iU];simp (maxSteps:=3000000) (maxDischargeDepth:=6) +contextual -implicitDefEqProofs only [amC M,↓amD,Nat.reduceBEq,Nat.reduceAdd,env,ah,rB,amG,AV.cell,Nat.reduceMul,Nat.reduceLeDiff,h2]
end
section
attribute [local congr] aD a8 aO aE aN aI aF au aw aJ aK
variable{E:aT}(M:br bP E)
def pS(w:Str):Bool:=(pcF w).2||HR w
theorem Fx(s:Str):(bF s).isEmpty=s.isEmpty:=by
 cases s with
 |nil=>rfl
 |cons c t=>rw [tl (by simp)];rfl
theorem Ls{w:Str}(h:w≠[]):(((bE w).2:Int) == (w.length:Int))=(bF (w.drop (bE w).2)).isEmpty:=by
 have h1:=vt h;rw [Fx,Bool.eq_iff_iff,beq_iff_eq,List.isEmpty_iff,List.drop_eq_nil_iff];omega
theorem Fy(hB:fV E)(hS:fM E)(hX:sg M)(hD:wA M)(hU:kR E)(hW:WsE E){w:Str}(hw:w.length≤70368744177664)(H:List AObj):M.run pY [.str w] H=some (.ret (.bool (pS w)),H):=by
 have hm:w.length≤bh:=by simp only [bh];omega
 have hp:=fun H=>rK M hB hS hX hW (Nat.le_trans hw (by omega)) H
 have ht:=fun H=>zP M hB hD hm H
 have hf:=fun H=>HT M hD hW w H
 have hn:=fun H=>Fw M hU hW hm H
 unfold pS;rcases hq:pcF w with ⟨p,ok⟩
 rw [hq] at hp;have hr:p.row=[.int .u8 p.kind,.str p.text,.bool p.car]:=rfl;dsimp only [kQ] at hp ⊢;rw [hr] at hp;cases ok with
 |true=>
  rw [aG M hW.docs_isWord rfl (c:=cC) rfl,cC];simp (maxSteps:=3000000) (maxDischargeDepth:=6) +contextual -implicitDefEqProofs only [amC M,↓amD,Nat.reduceBEq,Nat.reduceAdd,env,ah,jt,amG,AV.cell,Nat.reduceMul,Nat.reduceLeDiff,hp,aj,hp_set0,cut_app,hp_take,aR,List.getElem?_cons_zero,List.getElem?_cons_succ]
 |false=>
  rw [Bool.false_or]
  by_cases hne:w=[]
  ·subst hne
   rw [aG M hW.docs_isWord rfl (c:=cC) rfl,cC];simp (maxSteps:=3000000) (maxDischargeDepth:=6) +contextual -implicitDefEqProofs only [amC M,↓amD,Nat.reduceBEq,Nat.reduceAdd,env,ah,jt,amG,AV.cell,Nat.reduceMul,Nat.reduceLeDiff,hp,aj,hp_set0,cut_app,hp_take,aR,List.getElem?_cons_zero,List.getElem?_cons_succ,(show (([]:Str) == [])=true from rfl),(show HR []=false from rfl)]
  ·have hne2:(w == ([]:Str))=false:=beq_eq_false_iff_ne.2 hne
   unfold HR;cases hx:tm w with
   |false=>
    rw [hx] at ht;rw [aG M hW.docs_isWord rfl (c:=cC) rfl,cC];simp (maxSteps:=3000000) (maxDischargeDepth:=6) +contextual -implicitDefEqProofs only [amC M,↓amD,Nat.reduceBEq,Nat.reduceAdd,env,ah,jt,amG,AV.cell,Nat.reduceMul,Nat.reduceLeDiff,hp,ht,hne2,aj,hp_set0,cut_app,hp_take,aR,List.getElem?_cons_zero,List.getElem?_cons_succ,Bool.false_and]
   |true=>
    rw [hx] at ht;have hm:=fun H=>BI M hU (unR (bE w).1) H
    have hrow:(unR (bE w).1).row=[.int .i32 ((bE w).1:Int),.bool false]:=rfl;rw [hrow] at hm;rw [show Hv w=bE w from if_neg hne,Ls hne] at hf;rw [tl hne] at hn ⊢;rw [Bool.true_and,El];cases h1:(bF (w.drop (bE w).2)).isEmpty with
    |false=>
     rw [h1] at hf;rw [Bool.false_and,sel_false];rw [aG M hW.docs_isWord rfl (c:=cC) rfl,cC];simp (maxSteps:=3000000) (maxDischargeDepth:=6) +contextual -implicitDefEqProofs only [amC M,↓amD,Nat.reduceBEq,Nat.reduceAdd,env,ah,jt,amG,AV.cell,Nat.reduceMul,Nat.reduceLeDiff,hp,ht,hne2,hf,hn,aj,hp_set0,cut_app,hp_take,aR,List.getElem?_cons_zero,List.getElem?_cons_succ,Bool.not_not]
    |true=>
     rw [h1] at hf;rw [Bool.true_and];cases h2:qM (unR (bE w).1) with
     |true=>
      rw [h2] at hm;rw [sel_true];rw [aG M hW.docs_isWord rfl (c:=cC) rfl,cC];simp (maxSteps:=3000000) (maxDischargeDepth:=6) +contextual -implicitDefEqProofs only [amC M,↓amD,Nat.reduceBEq,Nat.reduceAdd,env,ah,jt,amG,AV.cell,Nat.reduceMul,Nat.reduceLeDiff,hp,ht,hne2,hf,hm,aj,hp_set0,cut_app,hp_take,aR,List.getElem?_cons_zero,List.getElem?_cons_succ]
     |false=>
      rw [h2] at hm;rw [sel_false];rw [aG M hW.docs_isWord rfl (c:=cC) rfl,cC];simp (maxSteps:=3000000) (maxDischargeDepth:=6) +contextual -implicitDefEqProofs only [amC M,↓amD,Nat.reduceBEq,Nat.reduceAdd,env,ah,jt,amG,AV.cell,Nat.reduceMul,Nat.reduceLeDiff,hp,ht,hne2,hf,hm,hn,aj,hp_set0,cut_app,hp_take,aR,List.getElem?_cons_zero,List.getElem?_cons_succ,Bool.not_not]
def A9(w:Str):ag×Bool:=sel (rmk w).2 ((rmk w).1,true) (⟨1,w,false⟩,HR w)
theorem Af(hB:fV E)(hS:fM E)(hU:kR E)(hW:WsE E){w:Str}(hw:w.length≤70368744177664)(H:List AObj):M.run fP [.str w] H=some (.ret (kQ (A9 w)),H):=by
 have hp:=fun H=>xc M hB hS (Nat.le_trans hw (by omega)) H
 have ht:=fun H=>Lr M hB hU hW hw H
 unfold A9;rcases hq:rmk w with ⟨p,ok⟩
 rw [hq] at hp;have hr:p.row=[.int .u8 p.kind,.str p.text,.bool p.car]:=rfl;have hr1:(⟨1,w,false⟩:ag).row=[.int .u8 1,.str w,.bool false]:=rfl;dsimp only [kQ] at hp ⊢;rw [hr] at hp;have g1:∀ y z X,(H++y::z::X)[H.length+1]?=some z:=fun y z X=>by rw [hp_getk];rfl
 cases ok with
 |true=>
  rw [sel_true,hr];rw [aG M hW.truchmanref01_piece rfl (c:=ey) rfl,ey];simp (maxSteps:=3000000) (maxDischargeDepth:=6) +contextual -implicitDefEqProofs only [amC M,↓amD,Nat.reduceBEq,Nat.reduceAdd,env,ah,m0,amG,AV.cell,Nat.reduceMul,Nat.reduceLeDiff,hp,aj,hp_set0,g1,cut_app,hp_take,wk_tuple,aR,List.getElem?_cons_zero,List.getElem?_cons_succ]
 |false=>
  rw [sel_false,hr1];rw [aG M hW.truchmanref01_piece rfl (c:=ey) rfl,ey];simp (maxSteps:=3000000) (maxDischargeDepth:=6) +contextual -implicitDefEqProofs only [amC M,↓amD,Nat.reduceBEq,Nat.reduceAdd,env,ah,m0,amG,AV.cell,Nat.reduceMul,Nat.reduceLeDiff,hp,ht,aj,hp_set0,g1,cut_app,hp_take,wk_tuple,aR,List.getElem?_cons_zero,List.getElem?_cons_succ]
theorem JQ(w:Str):(A9 w).2=pS w:=by
 unfold A9 pS;rw [(vz w).1];cases (rmk w).2<;>rfl
end
section
attribute [local congr] aD a8 aO aE aN aI aF au aw aJ aK
variable{E:aT}(M:br bP E)
def wP(w:Str):ag:=sel (pcF w).2 (pcF w).1 ⟨5,[120],false⟩
theorem dcw(hB:fV E)(hS:fM E)(hX:sg M)(hD:wA M)(hU:kR E)(hW:WsE E){l:List Str}{tg:Tag}(hl:l.length≤1000000)(hs:∀ w∈l,w.length≤70368744177664)(hk:∀ n,Wk n (.slice tg 1 (l.map aA)) (.slice tg 1 (l.map aA))){H:List AObj}(k:List Fra) :
  ∀ (n i:Nat) (o:List ag),i+n=l.length→o.length≤i →
  M.go eQ H (.c dg :: .lp ⟨(some [3,11,12,13]),[(3,3,ae)],true⟩ dg (H++[.tok (o.length*3) ae]) :: .blk 0 :: .c (.lv [3])::k) (kv [(3,.slice (.own H.length) 3 (o.map ag.row)),(11,.slice tg 1 (l.map aA)),(12,.int .i64 l.length),(13,.int .i64 i)]) (H++[.tok (o.length*3) ae]) =
   sel ((l.drop i).all pS) (M.go eQ H k (kv [(3,.slice (.own H.length) 3 ((o++(l.drop i).map wP).map ag.row))]) (H++[.tok ((o++(l.drop i).map wP).length*3) ae])) (some (.ret (.int .u8 4),H))
 |0,i,o,h,ho=>by
  have e:i=l.length:=by omega
  subst e;rw [List.drop_length,List.map_nil,List.append_nil,List.all_nil,sel_true];rw [al M dg.eq_1];simp (maxSteps:=3000000) (maxDischargeDepth:=6) +contextual -implicitDefEqProofs only [amC M,↓amD,Nat.reduceBEq,Nat.reduceAdd,env,ah,dS,Nat.lt_irrefl]
 |n+1,i,o,h,ho=>by
  have hi:i<l.length:=by omega
  have hx:l[i]?=some l[i]:=List.getElem?_eq_getElem hi;have hm:=hs _ (List.getElem_mem hi);have ht:=fun H=>Fy M hB hS hX hD hU hW hm H
  have hp:=fun H=>rK M hB hS hX hW (Nat.le_trans hm (by omega)) H
  have hwi:=dJ (n:=l.length) hi (by simp only [bh];omega);have hir:=a7 (row:=aA) (tag:=tg) (sz:=1) (k:=.i64) hi;have w3:∀ o:List ag,Wk (H.length+1) (.slice (.own H.length) 3 (o.map ag.row)) (.slice (.own H.length) 3 (o.map ag.row)):=fun o=>wk_slice (by simp [qC]) (zX _ _)
  have ih:=dcw hB hS hX hD hU hW (tg:=tg) (H:=H) hl hs hk k n (i+1) (o++[wP l[i]]) (by omega) (by simp;omega);simp only [kv_cons,kv_nil] at ih;have hr:∀ p:ag,p.row=[.int .u8 p.kind,.str p.text,.bool p.car]:=fun _=>rfl
  rw [List.drop_eq_getElem_cons hi,List.all_cons,List.map_cons,show o++wP l[i]::(l.drop (i+1)).map wP=o++[wP l[i]]++(l.drop (i+1)).map wP by simp];cases hq:pS l[i] with
  |false=>
   rw [hq] at ht;rw [Bool.false_and,sel_false];rw [al M dg.eq_1];simp (maxSteps:=3000000) (maxDischargeDepth:=6) +contextual -implicitDefEqProofs only [amC M,↓amD,Nat.reduceBEq,Nat.reduceAdd,env,ah,dS,amG,AV.cell,Nat.reduceMul,Nat.reduceLeDiff,hi,hx,ht,hir,(show ∀ s:Str,aA s=[.str s] from fun _=>rfl),hp_take,cut_app]
  |true=>
   rw [hq] at ht;rw [Bool.true_and];simp only [kQ,hr] at hp;cases hok:(pcF l[i]).2 with
   |true=>
    rw [hok] at hp;have hwp:wP l[i]=(pcF l[i]).1:=by rw [wP,hok,sel_true]
    rw [hwp] at ih ⊢;have ap:=fun L=>mQ (row:=ag.row) (l:=o) (x:=(pcF l[i]).1) (r:=[.int .u8 (pcF l[i]).1.kind,.str (pcF l[i]).1.text,.bool (pcF l[i]).1.car]) (sz:=3) (bytes:=32) (e:=ae) H L rfl rfl rfl (by omega) (by omega)
    rw [al M dg.eq_1];simp (maxSteps:=3000000) (maxDischargeDepth:=6) +contextual -implicitDefEqProofs only [amC M,↓amD,Nat.reduceBEq,Nat.reduceAdd,env,ah,dS,amG,AV.cell,Nat.reduceMul,Nat.reduceLeDiff,hi,hx,ht,hp,hwi,hir,hk,w3,ap,ih,(show ∀ s:Str,aA s=[.str s] from fun _=>rfl),aj,hp_set0,hp_getk,hp_setk,fw,eb,aR,List.getElem?_cons_zero,List.getElem?_cons_succ,List.set_cons_succ,List.set_cons_zero]
   |false=>
    rw [hok] at hp;have hwp:wP l[i]=⟨5,[120],false⟩:=by rw [wP,hok,sel_false]
    rw [hwp] at ih ⊢;have ap:=fun L=>mQ (row:=ag.row) (l:=o) (x:=⟨5,[120],false⟩) (r:=[.int .u8 5,.str [120],.bool false]) (sz:=3) (bytes:=32) (e:=ae) H L rfl rfl rfl (by omega) (by omega)
    rw [al M dg.eq_1];simp (maxSteps:=3000000) (maxDischargeDepth:=6) +contextual -implicitDefEqProofs only [amC M,↓amD,Nat.reduceBEq,Nat.reduceAdd,env,ah,dS,amG,AV.cell,Nat.reduceMul,Nat.reduceLeDiff,hi,hx,ht,hp,hwi,hir,hk,w3,ap,ih,(show ∀ s:Str,aA s=[.str s] from fun _=>rfl),aj,hp_set0,hp_getk,hp_setk,fw,eb,aR,List.getElem?_cons_zero,List.getElem?_cons_succ,List.set_cons_succ,List.set_cons_zero]
theorem FA(w:Str):(wP w).text.length≤w.length+1:=by
 unfold wP;cases h:(pcF w).2 with
 |false=>rw [sel_false];simp
 |true=>
  rw [sel_true];have h2:(rmk w).2=true:=by rw [← (vz w).1];exact h
  rw [(vz w).2 h2];have T:=Gp h2;have hw:wrF (rmk w).1=w:=by rw [T.wr,List.take_length]
  have:(rmk w).1.text.length≤(wrF (rmk w).1).length:=by
   rw [wrF];rcases T.kind with k | k | ⟨k,_⟩ | ⟨k,_⟩<;>(rw [k];simp [sel];try omega)
  rw [hw] at this;omega
def xY(l:List Str):Int:=sel (decide ((512:Int)<(l.length:Int))) 3 (sel (l.all pS) (i9 (l.map wP)) 4)
theorem rR(hB:fV E)(hS:fM E)(hX:sg M)(hD:wA M)(hU:kR E)(hW:WsE E){l:List Str}{tg:Tag}(hs:l.length≤512→∀ w∈l,w.length≤1000000)(hk:∀ n,Wk n (.slice tg 1 (l.map aA)) (.slice tg 1 (l.map aA)))(H:List AObj) :
  M.run gy [.slice tg 1 (l.map aA)] H=some (.ret (.int .u8 (xY l)),H):=by
 unfold xY;cases h5:decide ((512:Int)<(l.length:Int)) with
 |true=>
  rw [aG M hW.docs_CheckWords rfl (c:=dR) rfl,dR];simp (maxSteps:=3000000) (maxDischargeDepth:=6) +contextual -implicitDefEqProofs only [amC M,↓amD,Nat.reduceBEq,Nat.reduceAdd,env,ah,dS,h5]
 |false=>
  have hl:l.length≤512:=by have:=of_decide_eq_false h5;omega
  have hs:=hs hl;have h4:=fun k=>dcw M hB hS hX hD hU hW (by omega) (fun w hw=>Nat.le_trans (hs w hw) (by omega)) hk (H:=H) k l.length 0 [] (by omega) (by simp)
  simp only [kv_cons,kv_nil,List.nil_append,List.length_nil,Nat.zero_mul,List.map_nil,Int.ofNat_zero,List.drop_zero] at h4
  have hc:=fun G:List AObj=>ow M hB hD (l:=⟨.own H.length,l.map wP⟩) (by rw [List.length_map];omega) (fun x hx=>by
   obtain ⟨w,hw,rfl⟩:=List.mem_map.1 hx;have:=FA w;have:=hs w hw;omega) G
  dsimp only at hc;rw [sel_false];cases ha:l.all pS with
  |false=>
   rw [ha] at h4;simp only [sel_false] at h4;rw [sel_false];rw [aG M hW.docs_CheckWords rfl (c:=dR) rfl,dR];simp (maxSteps:=3000000) (maxDischargeDepth:=6) +contextual -implicitDefEqProofs only [amC M,↓amD,Nat.reduceBEq,Nat.reduceAdd,env,ah,dS,h5,h4]
  |true=>
   rw [ha] at h4;simp only [sel_true] at h4;rw [sel_true];have hc0:=hc (H++[.tok ((l.map wP).length*3) ae]);rw [aG M hW.docs_CheckWords rfl (c:=dR) rfl,dR];simp (maxSteps:=3000000) (maxDischargeDepth:=6) +contextual -implicitDefEqProofs only [amC M,↓amD,Nat.reduceBEq,Nat.reduceAdd,env,ah,dS,h5,h4,hc0,hp_take,cut_app]
theorem rcw(hB:fV E)(hS:fM E)(hU:kR E)(hW:WsE E){l:List Str}{tg:Tag}(hl:l.length≤1000000)(hs:∀ w∈l,w.length≤70368744177664)(hk:∀ n,Wk n (.slice tg 1 (l.map aA)) (.slice tg 1 (l.map aA))){H:List AObj}(k:List Fra) :
  ∀ (n i:Nat) (o:List ag),i+n=l.length→o.length≤i →
  M.go cT H (.c bq :: .lp ⟨(some [0,3,4]),[(3,3,ae)],true⟩ bq (H++[.tok (o.length*3) ae]) :: .blk 0 :: .c (.lv [3])::k) (kv [(0,.slice tg 1 (l.map aA)),(3,.slice (.own H.length) 3 (o.map ag.row)),(4,.int .i64 i)]) (H++[.tok (o.length*3) ae]) =
   sel ((l.drop i).all pS) (M.go cT H k (kv [(3,.slice (.own H.length) 3 ((o++(l.drop i).map wP).map ag.row))]) (H++[.tok ((o++(l.drop i).map wP).length*3) ae])) (some (.ret (.int .u8 4),H))
 |0,i,o,h,ho=>by
  have e:i=l.length:=by omega
  subst e;rw [List.drop_length,List.map_nil,List.append_nil,List.all_nil,sel_true];rw [al M bq.eq_1];simp (maxSteps:=3000000) (maxDischargeDepth:=6) +contextual -implicitDefEqProofs only [amC M,↓amD,Nat.reduceBEq,Nat.reduceAdd,env,ah,bz,Nat.lt_irrefl]
 |n+1,i,o,h,ho=>by
  have hi:i<l.length:=by omega
  have hx:l[i]?=some l[i]:=List.getElem?_eq_getElem hi;have hm:=hs _ (List.getElem_mem hi);have hp:=fun H=>Af M hB hS hU hW hm H
  have hwi:=dJ (n:=l.length) hi (by simp only [bh];omega);have hir:=a7 (row:=aA) (tag:=tg) (sz:=1) (k:=.i64) hi;have w3:∀ o:List ag,Wk (H.length+1) (.slice (.own H.length) 3 (o.map ag.row)) (.slice (.own H.length) 3 (o.map ag.row)):=fun o=>wk_slice (by simp [qC]) (zX _ _)
  have ih:=rcw hB hS hU hW (tg:=tg) (H:=H) hl hs hk k n (i+1) (o++[wP l[i]]) (by omega) (by simp;omega);simp only [kv_cons,kv_nil] at ih;have hr:∀ p:ag,p.row=[.int .u8 p.kind,.str p.text,.bool p.car]:=fun _=>rfl
  rw [List.drop_eq_getElem_cons hi,List.all_cons,List.map_cons,show o++wP l[i]::(l.drop (i+1)).map wP=o++[wP l[i]]++(l.drop (i+1)).map wP by simp];simp only [kQ,hr,JQ] at hp;cases hq:pS l[i] with
  |false=>
   rw [hq] at hp;rw [Bool.false_and,sel_false];rw [al M bq.eq_1];simp (maxSteps:=3000000) (maxDischargeDepth:=6) +contextual -implicitDefEqProofs only [amC M,↓amD,Nat.reduceBEq,Nat.reduceAdd,env,ah,bz,amG,AV.cell,Nat.reduceMul,Nat.reduceLeDiff,hi,hx,hp,hir,(show ∀ s:Str,aA s=[.str s] from fun _=>rfl),aj,hp_set0,hp_getk,hp_setk,hp_take,cut_app,aR,List.getElem?_cons_zero,List.getElem?_cons_succ,List.set_cons_succ,List.set_cons_zero]
  |true=>
   rw [hq] at hp;rw [Bool.true_and];cases hok:(rmk l[i]).2 with
   |true=>
    have e1:(A9 l[i]).1=(rmk l[i]).1:=by rw [A9,hok,sel_true]
    have e2:(pcF l[i]).2=true:=by rw [(vz _).1,hok]
    have hwp:wP l[i]=(rmk l[i]).1:=by rw [wP,e2,sel_true,(vz _).2 hok]
    have k1:((rmk l[i]).1.kind == 1)=false:=by rcases (Gp hok).kind with k | k | ⟨k,_⟩ | ⟨k,_⟩<;>(rw [k];rfl)
    rw [e1] at hp;rw [hwp] at ih ⊢;have ap:=fun L=>mQ (row:=ag.row) (l:=o) (x:=(rmk l[i]).1) (r:=[.int .u8 (rmk l[i]).1.kind,.str (rmk l[i]).1.text,.bool (rmk l[i]).1.car]) (sz:=3) (bytes:=32) (e:=ae) H L rfl rfl rfl (by omega) (by omega)
    rw [al M bq.eq_1];simp (maxSteps:=3000000) (maxDischargeDepth:=6) +contextual -implicitDefEqProofs only [amC M,↓amD,Nat.reduceBEq,Nat.reduceAdd,env,ah,bz,amG,AV.cell,Nat.reduceMul,Nat.reduceLeDiff,hi,hx,hp,k1,hwi,hir,hk,w3,ap,ih,(show ∀ s:Str,aA s=[.str s] from fun _=>rfl),aj,hp_set0,hp_getk,hp_setk,fw,eb,aR,List.getElem?_cons_zero,List.getElem?_cons_succ,List.set_cons_succ,List.set_cons_zero]
   |false=>
    have e1:(A9 l[i]).1=⟨1,l[i],false⟩:=by rw [A9,hok,sel_false]
    have e2:(pcF l[i]).2=false:=by rw [(vz _).1,hok]
    have hwp:wP l[i]=⟨5,[120],false⟩:=by rw [wP,e2,sel_false]
    rw [e1] at hp;rw [hwp] at ih ⊢;have ap:=fun L=>mQ (row:=ag.row) (l:=o) (x:=⟨5,[120],false⟩) (r:=[.int .u8 5,.str [120],.bool false]) (sz:=3) (bytes:=32) (e:=ae) H L rfl rfl rfl (by omega) (by omega)
    rw [al M bq.eq_1];simp (maxSteps:=3000000) (maxDischargeDepth:=6) +contextual -implicitDefEqProofs only [amC M,↓amD,Nat.reduceBEq,Nat.reduceAdd,env,ah,bz,amG,AV.cell,Nat.reduceMul,Nat.reduceLeDiff,hi,hx,hp,(show ((1:Int) == 1)=true from rfl),hwi,hir,hk,w3,ap,ih,(show ∀ s:Str,aA s=[.str s] from fun _=>rfl),aj,hp_set0,hp_getk,hp_setk,fw,eb,aR,List.getElem?_cons_zero,List.getElem?_cons_succ,List.set_cons_succ,List.set_cons_zero]
theorem rS(hB:fV E)(hS:fM E)(hU:kR E)(hW:WsE E){l:List Str}{tg:Tag}(hs:l.length≤512→∀ w∈l,w.length≤1000000)(hk:∀ n,Wk n (.slice tg 1 (l.map aA)) (.slice tg 1 (l.map aA)))(H:List AObj) :
  M.run dK [.slice tg 1 (l.map aA)] H=some (.ret (.int .u8 (xY l)),H):=by
 unfold xY;cases h5:decide ((512:Int)<(l.length:Int)) with
 |true=>
  rw [aG M hW.truchmanref01_CheckWords rfl (c:=bw) rfl,bw];simp (maxSteps:=3000000) (maxDischargeDepth:=6) +contextual -implicitDefEqProofs only [amC M,↓amD,Nat.reduceBEq,Nat.reduceAdd,env,ah,bz,h5]
 |false=>
  have hl:l.length≤512:=by have:=of_decide_eq_false h5;omega
  have hs:=hs hl;have h4:=fun k=>rcw M hB hS hU hW (by omega) (fun w hw=>Nat.le_trans (hs w hw) (by omega)) hk (H:=H) k l.length 0 [] (by omega) (by simp)
  simp only [kv_cons,kv_nil,List.nil_append,List.length_nil,Nat.zero_mul,List.map_nil,Int.ofNat_zero,List.drop_zero] at h4
  have hc:=fun G:List AObj=>nB M hB (l:=⟨.own H.length,l.map wP⟩) (by rw [List.length_map];omega) (fun x hx=>by
   obtain ⟨w,hw,rfl⟩:=List.mem_map.1 hx;have:=FA w;have:=hs w hw;omega) G
  dsimp only at hc;rw [sel_false];cases ha:l.all pS with
  |false=>
   rw [ha] at h4;simp only [sel_false] at h4;rw [sel_false];rw [aG M hW.truchmanref01_CheckWords rfl (c:=bw) rfl,bw];simp (maxSteps:=3000000) (maxDischargeDepth:=6) +contextual -implicitDefEqProofs only [amC M,↓amD,Nat.reduceBEq,Nat.reduceAdd,env,ah,bz,h5,h4]
  |true=>
   rw [ha] at h4;simp only [sel_true] at h4;rw [sel_true];have hc0:=hc (H++[.tok ((l.map wP).length*3) ae]);rw [aG M hW.truchmanref01_CheckWords rfl (c:=bw) rfl,bw];simp (maxSteps:=3000000) (maxDischargeDepth:=6) +contextual -implicitDefEqProofs only [amC M,↓amD,Nat.reduceBEq,Nat.reduceAdd,env,ah,bz,h5,h4,hc0,hp_take,cut_app]
end
section
attribute [local congr] aD a8 aO aE aN aI aF au aw aJ aK
variable{E:aT}(M:br bP E)
theorem Ag:∀ (l:List ag) (p b e:Bool) (st:List Str),zU l p b e st=0→∀ x∈l,vx x=false
 |[],_,_,_,_,_,x,hx=>by cases hx
 |y::l,p,b,e,st,h,x,hx=>by
  rw [zU] at h;cases h1:vx y with
  |true=>rw [h1,sel_true] at h;cases h
  |false=>
   rw [h1,sel_false] at h;rcases List.mem_cons.1 hx with rfl | hx
   ·exact h1
   ·cases h2:HA y with
    |true=>rw [h2,sel_true] at h;cases h
    |false=>
     rw [h2,sel_false] at h;cases h3:HB p y with
     |true=>rw [h3,sel_true] at h;cases h
     |false=>
      rw [h3,sel_false] at h;cases h4:HC y with
      |true=>rw [h4,sel_true] at h;cases h
      |false=>
       rw [h4,sel_false] at h;cases h5:qj b e y with
       |false=>rw [h5,sel_false] at h;cases h
       |true=>
        rw [h5,sel_true] at h;cases h6:(y.kind == 3) && !wD st y.text with
        |true=>rw [h6,sel_true] at h;cases h
        |false=>
         rw [h6,sel_false] at h;cases h7:y.kind == 2 with
         |false=>
          rw [h7,sel_false] at h;exact Ag l _ _ _ _ h x hx
         |true=>
          rw [h7,sel_true] at h;cases h8:decide ((16:Int)<((y.text::stP y st).length:Int)) with
          |true=>rw [h8,sel_true] at h;cases h
          |false=>
           rw [h8,sel_false] at h;exact Ag l _ _ _ _ h x hx
theorem uJ{l:List ag}(h:i9 l=0):∀ x∈l,vx x=false:=by
 unfold i9 at h;cases h1:decide ((512:Int)<(l.length:Int)) with
 |true=>rw [h1,sel_true] at h;cases h
 |false=>rw [h1,sel_false] at h;exact Ag l _ _ _ _ h
def tgK(x:ag):Bool := !(x.kind == 1) && !(x.kind == 5)
def mT(l:List ag):List Str:=(l.filter tgK).map wrF
theorem Ma{x:ag}(h:vx x=false):((x.kind == 2)||(x.kind == 3)||(x.kind == 4))=tgK x:=by
 have hk:x.kind=1∨x.kind=2∨x.kind=3∨x.kind=4∨x.kind=5:=by
  unfold vx at h;simp at h;omega
 unfold tgK;rcases hk with k | k | k | k | k<;>(rw [k];rfl)
theorem Ah{l:List ag}{i:Nat}(h:i<l.length)(o:List Str):o++mT (l.drop i)=sel (tgK l[i]) (o++[wrF l[i]]) o++mT (l.drop (i+1)):=by
 rw [List.drop_eq_getElem_cons h,mT,List.filter_cons];cases tgK l[i]<;>simp [sel,mT]
theorem dtl(hS:fM E)(hW:WsE E){l:List ag}{tg:Tag}(hl:l.length≤1000000)(hs:∀ x∈l,x.text.length≤1000000)(ha:∀ x∈l,vx x=false)(hk:∀ n,Wk n (.slice tg 3 (l.map ag.row)) (.slice tg 3 (l.map ag.row))){H:List AObj}(k:List Fra) :
  ∀ (n i:Nat) (o:List Str),i+n=l.length→o.length≤i →
  M.go nV H (.c gO :: .lp ⟨(some [5,13,14,15]),[(5,1,ak)],true⟩ gO (H++[.tok (o.length*1) ak]) :: .blk 0 :: .c (.lv [5])::k) (kv [(5,.slice (.own H.length) 1 (o.map aA)),(13,.slice tg 3 (l.map ag.row)),(14,.int .i64 l.length),(15,.int .i64 i)]) (H++[.tok (o.length*1) ak]) =
   M.go nV H k (kv [(5,.slice (.own H.length) 1 ((o++mT (l.drop i)).map aA))]) (H++[.tok ((o++mT (l.drop i)).length*1) ak])
 |0,i,o,h,ho=>by
  have e:i=l.length:=by omega
  subst e;rw [List.drop_length,show mT []=[] from rfl,List.append_nil];rw [al M gO.eq_1];simp (maxSteps:=3000000) (maxDischargeDepth:=6) +contextual -implicitDefEqProofs only [amC M,↓amD,Nat.reduceBEq,Nat.reduceAdd,env,ah,mb,Nat.lt_irrefl]
 |n+1,i,o,h,ho=>by
  have hi:i<l.length:=by omega
  have hx:l[i]?=some l[i]:=List.getElem?_eq_getElem hi;have hm:=hs _ (List.getElem_mem hi);have hwi:=dJ (n:=l.length) hi (by simp only [bh];omega);have hir:=a7 (row:=ag.row) (tag:=tg) (sz:=3) (k:=.i64) hi;have w3:∀ o:List Str,Wk (H.length+1) (.slice (.own H.length) 1 (o.map aA)) (.slice (.own H.length) 1 (o.map aA)):=fun o=>wk_slice (by simp [qC]) (py _ _)
  rw [Ah hi];have ih:=dtl hS hW (tg:=tg) (H:=H) hl hs ha hk k n (i+1) (sel (tgK l[i]) (o++[wrF l[i]]) o) (by omega) (by cases tgK l[i]<;>simp [sel]<;>omega);simp only [kv_cons,kv_nil] at ih;cases k1:l[i].kind == 1 with
  |true=>
   have hq:tgK l[i]=false:=by rw [tgK,k1];rfl
   rw [hq,sel_false] at ih ⊢;rw [al M gO.eq_1];simp (maxSteps:=3000000) (maxDischargeDepth:=6) +contextual -implicitDefEqProofs only [amC M,↓amD,Nat.reduceBEq,Nat.reduceAdd,env,ah,mb,amG,AV.cell,Nat.reduceMul,Nat.reduceLeDiff,hi,hx,k1,hwi,hir,hk,w3,aQ,ih,aj,hp_set0,hp_getk,hp_setk,fw,eb,List.getElem?_cons_zero,List.getElem?_cons_succ,List.set_cons_succ,List.set_cons_zero]
  |false=>
   cases k5:l[i].kind == 5 with
   |true=>
    have hq:tgK l[i]=false:=by rw [tgK,k1,k5];rfl
    rw [hq,sel_false] at ih ⊢;rw [al M gO.eq_1];simp (maxSteps:=3000000) (maxDischargeDepth:=6) +contextual -implicitDefEqProofs only [amC M,↓amD,Nat.reduceBEq,Nat.reduceAdd,env,ah,mb,amG,AV.cell,Nat.reduceMul,Nat.reduceLeDiff,hi,hx,k1,k5,hwi,hir,hk,w3,aQ,ih,aj,hp_set0,hp_getk,hp_setk,fw,eb,List.getElem?_cons_zero,List.getElem?_cons_succ,List.set_cons_succ,List.set_cons_zero]
   |false=>
    have hq:tgK l[i]=true:=by rw [tgK,k1,k5];rfl
    have hth:HH l[i]=true:=by
     have h:=Ma (ha _ (List.getElem_mem hi));rw [hq] at h;rw [HH,h];rfl
    have hwr:=fun H=>iH M hS hth (by omega) H
    rw [hq,sel_true] at ih ⊢;have ap:=fun L=>mQ (row:=aA) (l:=o) (x:=wrF l[i]) (r:=[.str (wrF l[i])]) (sz:=1) (bytes:=16) (e:=ak) H L rfl rfl rfl (by omega) (by omega)
    rw [al M gO.eq_1];simp (maxSteps:=3000000) (maxDischargeDepth:=6) +contextual -implicitDefEqProofs only [amC M,↓amD,Nat.reduceBEq,Nat.reduceAdd,env,ah,mb,amG,AV.cell,Nat.reduceMul,Nat.reduceLeDiff,hi,hx,k1,k5,hwi,hir,hk,w3,hwr,ap,aQ,ih,aj,hp_set0,hp_getk,hp_setk,fw,eb,List.getElem?_cons_zero,List.getElem?_cons_succ,List.set_cons_succ,List.set_cons_zero]
theorem rtl(hS:fM E)(hW:WsE E){l:List ag}{tg:Tag}(hl:l.length≤1000000)(hs:∀ x∈l,x.text.length≤1000000)(ha:∀ x∈l,vx x=false)(hk:∀ n,Wk n (.slice tg 3 (l.map ag.row)) (.slice tg 3 (l.map ag.row))){H:List AObj}(k:List Fra) :
  ∀ (n i:Nat) (o:List Str),i+n=l.length→o.length≤i →
  M.go eI H (.c da :: .lp ⟨(some [0,5,6]),[(5,1,ak)],false⟩ da (H++[.tok (o.length*1) ak]) :: .blk 0 :: .c (.lv [5])::k) (kv [(0,.slice tg 3 (l.map ag.row)),(5,.slice (.own H.length) 1 (o.map aA)),(6,.int .i64 i)]) (H++[.tok (o.length*1) ak]) =
   M.go eI H k (kv [(5,.slice (.own H.length) 1 ((o++mT (l.drop i)).map aA))]) (H++[.tok ((o++mT (l.drop i)).length*1) ak])
 |0,i,o,h,ho=>by
  have e:i=l.length:=by omega
  subst e;rw [List.drop_length,show mT []=[] from rfl,List.append_nil];rw [al M da.eq_1];simp (maxSteps:=3000000) (maxDischargeDepth:=6) +contextual -implicitDefEqProofs only [amC M,↓amD,Nat.reduceBEq,Nat.reduceAdd,env,ah,eJ,Nat.lt_irrefl]
 |n+1,i,o,h,ho=>by
  have hi:i<l.length:=by omega
  have hx:l[i]?=some l[i]:=List.getElem?_eq_getElem hi;have hm:=hs _ (List.getElem_mem hi);have hwi:=dJ (n:=l.length) hi (by simp only [bh];omega);have hir:=a7 (row:=ag.row) (tag:=tg) (sz:=3) (k:=.i64) hi;have htg:=fun H=>Ac M hW l[i].kind H
  rw [Ma (ha _ (List.getElem_mem hi))] at htg;rw [Ah hi];have ih:=rtl hS hW (tg:=tg) (H:=H) hl hs ha hk k n (i+1) (sel (tgK l[i]) (o++[wrF l[i]]) o) (by omega) (by cases tgK l[i]<;>simp [sel]<;>omega);simp only [kv_cons,kv_nil] at ih;cases hq:tgK l[i] with
  |false=>
   rw [hq] at htg;rw [hq,sel_false] at ih;rw [sel_false];rw [al M da.eq_1];simp (maxSteps:=3000000) (maxDischargeDepth:=6) +contextual -implicitDefEqProofs only [amC M,↓amD,Nat.reduceBEq,Nat.reduceAdd,env,ah,eJ,amG,AV.cell,Nat.reduceMul,Nat.reduceLeDiff,hi,hx,htg,hwi,hir,aQ,ih]
  |true=>
   have hwr:=fun H=>rH M hS (x:=l[i]) (by omega) H
   rw [hq] at htg;rw [hq,sel_true] at ih;rw [sel_true];have ap:=mQ (row:=aA) (l:=o) (x:=wrF l[i]) (r:=[.str (wrF l[i])]) (sz:=1) (bytes:=16) (e:=ak) H [] rfl rfl rfl (by omega) (by omega);rw [al M da.eq_1];simp (maxSteps:=3000000) (maxDischargeDepth:=6) +contextual -implicitDefEqProofs only [amC M,↓amD,Nat.reduceBEq,Nat.reduceAdd,env,ah,eJ,amG,AV.cell,Nat.reduceMul,Nat.reduceLeDiff,hi,hx,htg,hwi,hir,hwr,ap,aQ,ih]
def BO(l:List ag):AV:=sel (i9 l == 0) (.tuple [.slice .any 1 ((mT l).map aA),.int .u8 0]) (.tuple [.slice .any 1 [],.int .u8 (i9 l)])
theorem HU(hB:fV E)(hS:fM E)(hD:wA M)(hW:WsE E){l:Sl ag}(hl:l.l.length≤1000000)(hs:∀ x∈l.l,x.text.length≤1000000)(hk:∀ n,Wk n (.slice l.tag 3 (l.l.map ag.row)) (.slice l.tag 3 (l.l.map ag.row)))(H:List AObj) :
  M.run sY [.slice l.tag 3 (l.l.map ag.row)] H=some (.ret (BO l.l),H):=by
 have hc:=fun H=>ow M hB hD hl (fun x hx=>Nat.le_trans (hs x hx) (by omega)) H
 unfold BO;cases h0:i9 l.l == 0 with
 |false=>
  rw [sel_false];rw [aG M hW.docs_Tags rfl (c:=nU) rfl,nU];simp (maxSteps:=3000000) (maxDischargeDepth:=6) +contextual -implicitDefEqProofs only [amC M,↓amD,Nat.reduceBEq,Nat.reduceAdd,env,ah,mb,amG,AV.cell,Nat.reduceMul,Nat.reduceLeDiff,hc,h0,hp_self,cut_refl,wk_tuple]
 |true=>
  have e0:=eq_of_beq h0;rw [e0] at hc;have h4:=fun k=>dtl M hS hW hl hs (uJ e0) hk (H:=H) k l.l.length 0 [] (by omega) (by simp)
  simp only [kv_cons,kv_nil,List.nil_append,List.length_nil,Nat.zero_mul,List.map_nil,Int.ofNat_zero,List.drop_zero] at h4;have hh:=handV_drop (cut_app H [.tok ((mT l.l).length*1) ak]) (wk_tuple (xs:=[.slice (.own H.length) 1 ((mT l.l).map aA),.int .u8 0]) ⟨wk_any (esz:=1) (tag:=.own H.length) (py H.length (mT l.l)),wk_int _ _ 0,trivial⟩);simp only [anyV_tuple,List.map_cons,List.map_nil,anyS_slice,anyS_int,hp_take] at hh
  rw [sel_true];rw [aG M hW.docs_Tags rfl (c:=nU) rfl,nU];simp (maxSteps:=3000000) (maxDischargeDepth:=6) +contextual -implicitDefEqProofs only [amC M,↓amD,Nat.reduceBEq,Nat.reduceAdd,env,ah,mb,amG,AV.cell,Nat.reduceMul,Nat.reduceLeDiff,hc,(show ((0:Int) == 0)=true from rfl),h4,hh]
theorem HV(hB:fV E)(hS:fM E)(hW:WsE E){l:Sl ag}(hl:l.l.length≤1000000)(hs:∀ x∈l.l,x.text.length≤1000000)(hk:∀ n,Wk n (.slice l.tag 3 (l.l.map ag.row)) (.slice l.tag 3 (l.l.map ag.row)))(H:List AObj) :
  M.run ke [.slice l.tag 3 (l.l.map ag.row)] H=some (.ret (BO l.l),H):=by
 have hc:=fun H=>nB M hB hl (fun x hx=>Nat.le_trans (hs x hx) (by omega)) H
 unfold BO;cases h0:i9 l.l == 0 with
 |false=>
  rw [sel_false];rw [aG M hW.truchmanref01_Tags rfl (c:=eH) rfl,eH];simp (maxSteps:=3000000) (maxDischargeDepth:=6) +contextual -implicitDefEqProofs only [amC M,↓amD,Nat.reduceBEq,Nat.reduceAdd,env,ah,eJ,amG,AV.cell,Nat.reduceMul,Nat.reduceLeDiff,hc,h0,hp_self,cut_refl,wk_tuple]
 |true=>
  have e0:=eq_of_beq h0;rw [e0] at hc;have h4:=fun k=>rtl M hS hW hl hs (uJ e0) hk (H:=H) k l.l.length 0 [] (by omega) (by simp)
  simp only [kv_cons,kv_nil,List.nil_append,List.length_nil,Nat.zero_mul,List.map_nil,Int.ofNat_zero,List.drop_zero] at h4;have hh:=handV_drop (cut_app H [.tok ((mT l.l).length*1) ak]) (wk_tuple (xs:=[.slice (.own H.length) 1 ((mT l.l).map aA),.int .u8 0]) ⟨wk_any (esz:=1) (tag:=.own H.length) (py H.length (mT l.l)),wk_int _ _ 0,trivial⟩);simp only [anyV_tuple,List.map_cons,List.map_nil,anyS_slice,anyS_int,hp_take] at hh
  rw [sel_true];rw [aG M hW.truchmanref01_Tags rfl (c:=eH) rfl,eH];simp (maxSteps:=3000000) (maxDischargeDepth:=6) +contextual -implicitDefEqProofs only [amC M,↓amD,Nat.reduceBEq,Nat.reduceAdd,env,ah,eJ,amG,AV.cell,Nat.reduceMul,Nat.reduceLeDiff,hc,(show ((0:Int) == 0)=true from rfl),h4,hh]
end
section
attribute [local congr] aD a8 aO aE aN aI aF au aw aJ aK
variable{E:aT}(M:br bP E)
end
section
attribute [local congr] aD a8 aO aE aN aI aF au aw aJ aK
variable{E:aT}(M:br bP E)
theorem Fv.app{R:Nat→Prop}{c:Nat}{H:List AObj}{S:CSt}{P q:Nat}{vs:List AV}{v:AV}{ta:Tag}{ov:AV}(h:Fv R c H S P q vs v ta ov)(X:List AObj):Fv R c (H++X) S P q vs v ta ov:=
 ⟨h.hn,h.hP,fun i hi=>by have:=h.rl i hi;simp;omega,bU h.cell,bU h.par,h.len,fun i w l hi hl=>⟨(h.dn i w l hi hl).1.stay fun Q cs _ hQ=>bU hQ,(h.dn i w l hi hl).2⟩,h.cr.stay fun Q cs _ hQ=>bU hQ,h.ab,h.pr,by have:=h.ql;simp;omega,h.op.stay fun O cs hO=>bU hO,h.oa,h.tg⟩
theorem si.app{R:Nat→Prop}{c:Nat}{H:List AObj}{S:CSt}(h:si R c H S)(X:List AObj):si R c (H++X) S:=by
 obtain ⟨P,q,vs,v,ta,ov,h⟩:=h;exact ⟨P,q,vs,v,ta,ov,h.app X⟩
theorem si.le{R:Nat→Prop}{c:Nat}{H:List AObj}{S:CSt}(h:si R c H S):c<H.length∧∀ i,R i→i<H.length:=by
 obtain ⟨P,q,vs,v,ta,ov,h⟩:=h;exact ⟨bT h.cell,h.rl⟩
structure CBd (S:CSt):Prop where
 opn:S.opn.length≤100000
 opt:∀ s∈S.opn,s.length≤100000000
 done:S.done.length≤100000
 cur:S.cur.length≤100000
 txt:∀ x∈S.cur,x.text.length≤100000000
def R1(R:Nat→Prop)(k:Nat):Nat→Prop:=fun i=>R i∨i=k
theorem si.more{R:Nat→Prop}{c:Nat}{H:List AObj}{S:CSt}(h:si R c H S)(x:AObj):si (R1 R H.length) c (H++[x]) S:=by
 obtain ⟨P,q,vs,v,ta,ov,h⟩:=h;have h2:=h.app [x]
 have fr:∀ (w:AV) (l:List ag),PcV H w l→free R w→free (R1 R H.length) w:=fun w l hp hf Q o n e r eq hR=>by
  rcases hR with hR | hR
  ·exact hf Q o n e r eq hR
  ·rcases hp with ⟨_,hv⟩ | ⟨_,Q',hv,hQ⟩
   ·rw [hv] at eq;cases eq
   ·rw [hv] at eq;cases eq;have:=bT hQ;omega
 refine ⟨P,q,vs,v,ta,ov,⟨fun hR => ?_,fun hR => ?_,fun i hi => ?_,h2.cell,h2.par,h2.len,fun i w l hi hl=>⟨(h2.dn i w l hi hl).1,(h2.dn i w l hi hl).2.1,fr w l (h.dn i w l hi hl).1 (h.dn i w l hi hl).2.2⟩,h2.cr,h2.ab,fr v _ h.cr h.pr,h2.ql,h2.op,fun Q o n e r eq hR => ?_,h2.tg⟩⟩
 ·rcases hR with hR | hR
  ·exact h.hn hR
  ·have:=bT h.cell;omega
 ·rcases hR with hR | hR
  ·exact h.hP hR
  ·have:=bT h.par;omega
 ·rcases hi with hi | hi
  ·have:=h.rl i hi;simp;omega
  ·simp;omega
 ·rcases hR with hR | hR
  ·exact h.oa Q o n e r eq hR
  ·rcases h.op with ⟨_,hv⟩ | ⟨O,junk,hv,hO⟩
   ·rw [hv] at eq;cases eq
   ·rw [hv] at eq;cases eq;have:=bT hO;omega
theorem si.mono{R R':Nat→Prop}{c:Nat}{H:List AObj}{S:CSt}(h:si R c H S)(hr:∀ i,R' i→R i):si R' c H S:=by
 obtain ⟨P,q,vs,v,ta,ov,h⟩:=h;exact ⟨P,q,vs,v,ta,ov,⟨fun hR=>h.hn (hr _ hR),fun hR=>h.hP (hr _ hR),fun i hi=>h.rl i (hr i hi),h.cell,h.par,h.len,fun i w l hi hl=>⟨(h.dn i w l hi hl).1,(h.dn i w l hi hl).2.1,fun Q o n e r eq hR=>(h.dn i w l hi hl).2.2 Q o n e r eq (hr _ hR)⟩,h.cr,h.ab,fun Q o n e r eq hR=>h.pr Q o n e r eq (hr _ hR),h.ql,h.op,fun Q o n e r eq hR=>h.oa Q o n e r eq (hr _ hR),h.tg⟩⟩
end
section
attribute [local congr] aD a8 aO aE aN aI aF au aw aJ aK
variable{E:aT}(M:br bP E)
end
section
attribute [local congr] aD a8 aO aE aN aI aF au aw aJ aK
variable{E:aT}(M:br bP E)
def CU(r:Nat):Str:=(Utf8.encode (r:Int)).data.toList
theorem Lt(r:Nat):(CU r).length≤4:=by
 unfold CU;simp only [Utf8.encode]
 repeat' split
 all_goals simp [ByteArray.size,ByteArray.push,ByteArray.empty,ByteArray.emptyWithCapacity]
structure CBm (m:Nat) (S:CSt):Prop where
 opn:S.opn.length≤m
 opt:∀ s∈S.opn,s.length≤m
 done:S.done.length≤m
 cur:S.cur.length≤2*m
 txt:∀ x∈S.cur,x.text.length≤m
 place:S.place≤m
theorem CBm.mono{m n:Nat}{S:CSt}(h:CBm m S)(hn:m≤n):CBm n S:=⟨Nat.le_trans h.opn hn,fun s hs=>Nat.le_trans (h.opt s hs) hn,Nat.le_trans h.done hn,by have:=h.cur;omega,fun x hx=>Nat.le_trans (h.txt x hx) hn,Nat.le_trans h.place hn⟩
theorem CBm.bd{m:Nat}{S:CSt}(h:CBm m S)(hm:m≤50000):CBd S:=⟨by have:=h.opn;omega,fun s hs=>by have:=h.opt s hs;omega,by have:=h.done;omega,by have:=h.cur;omega,fun x hx=>by have:=h.txt x hx;omega⟩
theorem JR(l:List ag)(p:ag):(ja l p).length≤l.length+1:=by
 rcases List.eq_nil_or_concat l with rfl | ⟨t,x,rfl⟩
 ·simp [ja]
 ·rw [List.concat_eq_append,mh]
  cases p.kind == 1&&x.kind == 1<;>simp [sel_true,sel_false]
theorem JS{l:List ag}{p:ag}{m w:Nat}(h:∀ x∈l,x.text.length≤m)(hp:p.text.length≤w):∀ x∈ja l p,x.text.length≤m+w:=by
 intro y hy;rcases List.eq_nil_or_concat l with rfl | ⟨t,x,rfl⟩
 ·simp [ja] at hy;subst hy;omega
 ·rw [List.concat_eq_append] at hy h
  rw [mh] at hy;cases hk:p.kind == 1&&x.kind == 1 with
  |true=>
   rw [hk,sel_true] at hy;rcases List.mem_append.1 hy with hy | hy
   ·have:=h y (List.mem_append_left _ hy);omega
   ·rw [List.mem_singleton] at hy;subst hy
    have:=h x (by simp);simp only [List.length_append];omega
  |false=>
   rw [hk,sel_false] at hy;rcases List.mem_append.1 hy with hy | hy
   ·have:=h y hy;omega
   ·rw [List.mem_singleton] at hy;subst hy;omega
end
section
attribute [local congr] aD a8 aO aE aN aI aF au aw aJ aK
variable{E:aT}(M:br bP E)
def uK(w:Str):List Str:=sel (w == []) [] [w]
def mkS(r:Nat):List Str:=sel (qM (unR r)) [CU r] []
def wdS:List Nat→Str→List Str×Str
 |[],w=>([],w)
 |r::rs,w=>sel (mR (unR r)) (wdS rs (w++CU r)) (uK w++mkS r++(wdS rs []).1,(wdS rs []).2)
def wdL(rs:List Nat):List Str:=(wdS rs []).1++uK (wdS rs []).2
theorem Lu{r:Nat}(h:mR (unR r)=false):qM (unR r) = !((r:Int) == 32):=by
 unfold mR at h;unfold qM z8;have e:(unR r).hole=false:=rfl;simp only [e,Bool.false_or,Bool.or_eq_false_iff] at h;rw [h.1,h.2,e];rfl
theorem JT(r:Nat):Dj (.int .i32 (r:Int))=some (.str (CU r)):=rfl
theorem JU(r:Nat):∃ c,CU r=c∧c.length≤4:=by
 have h:=Lt r;generalize CU r=c at h;exact ⟨c,rfl,h⟩
theorem vB(w:Str):(uK w).length≤1:=by unfold uK;cases w == []<;>simp [sel]
theorem GA(r:Nat):(mkS r).length≤1:=by unfold mkS;cases qM (unR r)<;>simp [sel]
theorem MU(hU:kR E)(hW:WsE E){l:List ag}{tg:Tag}{rs:List Nat}(hr:rs.length≤1000000)(hk:∀ n,Wk n (.slice tg 3 (l.map ag.row)) (.slice tg 3 (l.map ag.row))){j:Int}{H H0:List AObj}(k:List Fra) :
  ∀ (n i:Nat) (o:List Str) (w:Str),i+n=rs.length→o.length+2*n≤100000000→w.length+4*n≤100000000 →
  M.go bR H0 (.c bc :: .lp ⟨(some [0,3,4,5,6,7]),[(3,1,ak)],true⟩ bc (H++[.tok (o.length*1) ak]) :: .blk 2 :: .c (.lv [0,3,4,6])::k)
   (kv [(0,.slice tg 3 (l.map ag.row)),(3,.slice (.own H.length) 1 (o.map aA)),(4,.int .i64 j),(5,.slice .any 1 (rs.map lS)),(6,.str w),(7,.int .i64 i)]) (H++[.tok (o.length*1) ak]) =
  M.go bR H0 k
   (kv [(0,.slice tg 3 (l.map ag.row)),(3,.slice (.own H.length) 1 ((o++(wdS (rs.drop i) w).1).map aA)),(4,.int .i64 j),(6,.str (wdS (rs.drop i) w).2)]) (H++[.tok ((o++(wdS (rs.drop i) w).1).length*1) ak])
 |0,i,o,w,h,ho,hw=>by
  have e:i=rs.length:=by omega
  subst e;rw [List.drop_length,wdS,List.append_nil];rw [al M bc.eq_1];simp (maxSteps:=3000000) (maxDischargeDepth:=6) +contextual -implicitDefEqProofs only [amC M,↓amD,Nat.reduceBEq,Nat.reduceAdd,env,ah,aW,Nat.lt_irrefl]
 |n+1,i,o,w,h,ho,hw=>by
  have hi:i<rs.length:=by omega
  have hx:rs[i]?=some rs[i]:=List.getElem?_eq_getElem hi;have hwi:=dJ (n:=rs.length) hi (by simp only [bh];omega);have hir:=a7 (row:=lS) (l:=rs) (tag:=.any) (sz:=1) (k:=.i64) hi;have hwd:=fun H=>BK M hU (unR rs[i]) H
  have hrow:(unR rs[i]).row=[.int .i32 (rs[i]:Int),.bool false]:=rfl;rw [hrow] at hwd;have w3:∀ o:List Str,Wk (H.length+1) (.slice (.own H.length) 1 (o.map aA)) (.slice (.own H.length) 1 (o.map aA)):=fun o=>wk_slice (by simp [qC]) (py _ _)
  have w5:Wk (H.length+1) (.slice .any 1 (rs.map lS)) (.slice .any 1 (rs.map lS)):=wk_slice trivial (by rw [rowsWk_map];exact fun _ _=>⟨wk_int _ _ _,trivial⟩);obtain ⟨c,hc,hcl⟩:∃ c,CU rs[i]=c∧c.length≤4:=JU rs[i];have hce:Dj (.int .i32 (rs[i]:Int))=some (.str c):=by rw [← hc];exact JT _
  rw [List.drop_eq_getElem_cons hi,wdS];cases hq:mR (unR rs[i]) with
  |true=>
   rw [hq] at hwd;simp only [sel_true];rw [hc];have ih:=MU hU hW (tg:=tg) (H:=H) (H0:=H0) (j:=j) hr hk k n (i+1) o (w++c) (by omega) (by omega) (by rw [List.length_append];omega);simp only [kv_cons,kv_nil] at ih;have F1:bg .add w c=some (.str (w++c)):=bf (by omega);rw [al M bc.eq_1];simp (maxSteps:=3000000) (maxDischargeDepth:=6) +contextual -implicitDefEqProofs only [amC M,↓amD,Nat.reduceBEq,Nat.reduceAdd,env,ah,aW,amG,AV.cell,Nat.reduceMul,Nat.reduceLeDiff,hi,hx,hwi,hir,hwd,hk,w3,w5,tr,hce,F1,ih,aj,hp_set0,hp_getk,hp_setk,fw,eb,List.getElem?_cons_zero,List.getElem?_cons_succ,List.set_cons_succ,List.set_cons_zero]
  |false=>
   have hmk:=Lu hq;rw [hq] at hwd;simp only [sel_false]
   have ih:=MU hU hW (tg:=tg) (H:=H) (H0:=H0) (j:=j) hr hk k n (i+1) (o++(uK w++mkS rs[i])) [] (by omega) (by
    have h1:=vB w;have h2:=GA rs[i];rw [List.length_append,List.length_append];omega) (by simp;omega)
   simp only [kv_cons,kv_nil] at ih;rw [show o++(uK w++mkS rs[i]++(wdS (rs.drop (i+1)) []).1)=o++(uK w++mkS rs[i])++(wdS (rs.drop (i+1)) []).1 by simp];unfold mkS at ih ⊢;rw [hmk,hc] at ih ⊢;unfold uK at ih ⊢;have ap:=fun (o:List Str) (ho:o.length≤100000000) (x:Str) L=>mQ (row:=aA) (l:=o) (x:=x) (r:=[.str x]) (sz:=1) (bytes:=16) (e:=ak) H L rfl rfl rfl (by omega) (by omega)
   cases hz:w == [] with
   |true=>
    cases h32:(rs[i]:Int) == 32 with
    |true=>
     simp only [hz,h32,sel_true,sel_false,Bool.not_true,List.nil_append,List.append_nil] at ih ⊢;obtain rfl:=eq_of_beq hz;rw [al M bc.eq_1];simp (maxSteps:=3000000) (maxDischargeDepth:=6) +contextual -implicitDefEqProofs only [amC M,↓amD,Nat.reduceBEq,Nat.reduceAdd,env,ah,aW,amG,AV.cell,Nat.reduceMul,Nat.reduceLeDiff,hi,hx,hwi,hir,hwd,hk,w3,w5,tr,hce,hz,h32,ih,aj,hp_set0,hp_getk,hp_setk,fw,eb,List.getElem?_cons_zero,List.getElem?_cons_succ,List.set_cons_succ,List.set_cons_zero]
    |false=>
     simp only [hz,h32,sel_true,sel_false,Bool.not_false,List.nil_append,List.append_nil] at ih ⊢;obtain rfl:=eq_of_beq hz;have ap1:=ap o (by omega) c;rw [al M bc.eq_1];simp (maxSteps:=3000000) (maxDischargeDepth:=6) +contextual -implicitDefEqProofs only [amC M,↓amD,Nat.reduceBEq,Nat.reduceAdd,env,ah,aW,amG,AV.cell,Nat.reduceMul,Nat.reduceLeDiff,hi,hx,hwi,hir,hwd,hk,w3,w5,tr,hce,hz,h32,ap1,ih,aj,hp_set0,hp_getk,hp_setk,fw,eb,List.getElem?_cons_zero,List.getElem?_cons_succ,List.set_cons_succ,List.set_cons_zero]
   |false=>
    have ap0:=ap o (by omega) w;cases h32:(rs[i]:Int) == 32 with
    |true=>
     simp only [hz,h32,sel_true,sel_false,Bool.not_true,List.nil_append,List.append_nil] at ih ⊢;rw [al M bc.eq_1];simp (maxSteps:=3000000) (maxDischargeDepth:=6) +contextual -implicitDefEqProofs only [amC M,↓amD,Nat.reduceBEq,Nat.reduceAdd,env,ah,aW,amG,AV.cell,Nat.reduceMul,Nat.reduceLeDiff,hi,hx,hwi,hir,hwd,hk,w3,w5,tr,hce,hz,h32,ap0,ih,aj,hp_set0,hp_getk,hp_setk,fw,eb,List.getElem?_cons_zero,List.getElem?_cons_succ,List.set_cons_succ,List.set_cons_zero]
    |false=>
     simp only [hz,h32,sel_true,sel_false,Bool.not_false] at ih ⊢;have ap1:=ap (o++[w]) (by rw [List.length_append,List.length_singleton];omega) c;rw [show o++([w]++[c])=o++[w]++[c] by simp] at ih ⊢;rw [al M bc.eq_1];simp (maxSteps:=3000000) (maxDischargeDepth:=6) +contextual -implicitDefEqProofs only [amC M,↓amD,Nat.reduceBEq,Nat.reduceAdd,env,ah,aW,amG,AV.cell,Nat.reduceMul,Nat.reduceLeDiff,hi,hx,hwi,hir,hwd,hk,w3,w5,tr,hce,hz,h32,ap0,ap1,ih,aj,hp_set0,hp_getk,hp_setk,fw,eb,List.getElem?_cons_zero,List.getElem?_cons_succ,List.set_cons_succ,List.set_cons_zero]
end
section
attribute [local congr] aD a8 aO aE aN aI aF au aw aJ aK
variable{E:aT}(M:br bP E)
def wdP(x:ag):List Str:=sel (x.kind == 1) (wdL (bF x.text)) [wrF x]
def dI(l:List ag):List Str:=(l.map wdP).flatten
theorem vC:∀ (rs:List Nat) (w:Str),(wdS rs w).1.length≤2*rs.length
 |[],w=>by simp [wdS]
 |r::rs,w=>by
  rw [wdS];cases mR (unR r) with
  |true=>rw [sel_true];have:=vC rs (w++CU r);simp only [List.length_cons];omega
  |false=>
   rw [sel_false];have h0:=vC rs [];have h1:=vB w;have h2:=GA r;simp only [List.length_append,List.length_cons];omega
theorem Lv(x:ag):(wdP x).length≤2*x.text.length+1:=by
 have h:=pw x.text;unfold wdP wdL;cases x.kind == 1 with
 |true=>
  rw [sel_true,List.length_append];have h1:=vC (bF x.text) [];have h2:=vB (wdS (bF x.text) []).2;omega
 |false=>rw [sel_false];simp
theorem xh{l:List ag}{i:Nat}(h:i<l.length):dI (l.drop i)=wdP l[i]++dI (l.drop (i+1)):=by
 rw [List.drop_eq_getElem_cons h];rfl
theorem NF(hS:fM E)(hU:kR E)(hW:WsE E){l:List ag}{tg:Tag}(hl:l.length≤1000000)(hs:∀ x∈l,x.text.length≤1000000)(hk:∀ n,Wk n (.slice tg 3 (l.map ag.row)) (.slice tg 3 (l.map ag.row))){H:List AObj}(k:List Fra) :
  ∀ (n i:Nat) (o:List Str),i+n=l.length→o.length+(dI (l.drop i)).length≤10000000 →
  M.go bR H (.c bD :: .lp ⟨(some [0,3,4]),[(3,1,ak)],true⟩ bD (H++[.tok (o.length*1) ak]) :: .blk 0 :: .c (.lv [3])::k) (kv [(0,.slice tg 3 (l.map ag.row)),(3,.slice (.own H.length) 1 (o.map aA)),(4,.int .i64 i)]) (H++[.tok (o.length*1) ak]) =
   M.go bR H k (kv [(3,.slice (.own H.length) 1 ((o++dI (l.drop i)).map aA))]) (H++[.tok ((o++dI (l.drop i)).length*1) ak])
 |0,i,o,h,ho=>by
  have e:i=l.length:=by omega
  subst e;rw [List.drop_length,show dI []=[] from rfl,List.append_nil];rw [al M bD.eq_1];simp (maxSteps:=3000000) (maxDischargeDepth:=6) +contextual -implicitDefEqProofs only [amC M,↓amD,Nat.reduceBEq,Nat.reduceAdd,env,ah,aW,Nat.lt_irrefl]
 |n+1,i,o,h,ho=>by
  have hi:i<l.length:=by omega
  have hx:l[i]?=some l[i]:=List.getElem?_eq_getElem hi;have hm:=hs _ (List.getElem_mem hi);have hwi:=dJ (n:=l.length) hi (by simp only [bh];omega);have hir:=a7 (row:=ag.row) (tag:=tg) (sz:=3) (k:=.i64) hi;have w3:∀ o:List Str,Wk (H.length+1) (.slice (.own H.length) 1 (o.map aA)) (.slice (.own H.length) 1 (o.map aA)):=fun o=>wk_slice (by simp [qC]) (py _ _)
  rw [xh hi] at ho ⊢;rw [List.length_append] at ho;rw [← List.append_assoc];have ih:=NF hS hU hW (tg:=tg) (H:=H) hl hs hk k n (i+1) (o++wdP l[i]) (by omega) (by rw [List.length_append];omega);simp only [kv_cons,kv_nil] at ih;cases k1:l[i].kind == 1 with
  |false=>
   have hq:wdP l[i]=[wrF l[i]]:=by rw [wdP,k1,sel_false]
   rw [hq] at ih ho ⊢;have hwr:=fun H=>rH M hS (x:=l[i]) (by omega) H
   have ap:=mQ (row:=aA) (l:=o) (x:=wrF l[i]) (r:=[.str (wrF l[i])]) (sz:=1) (bytes:=16) (e:=ak) H [] rfl rfl rfl (by simp at ho;omega) (by simp at ho;omega);rw [al M bD.eq_1];simp (maxSteps:=3000000) (maxDischargeDepth:=6) +contextual -implicitDefEqProofs only [amC M,↓amD,Nat.reduceBEq,Nat.reduceAdd,env,ah,aW,amG,AV.cell,Nat.reduceMul,Nat.reduceLeDiff,hi,hx,k1,hwi,hir,hk,w3,hwr,ap,aQ,ih,aj,hp_set0,fw,eb]
  |true=>
   have hq:wdP l[i]=(wdS (bF l[i].text) []).1++uK (wdS (bF l[i].text) []).2:=by rw [wdP,k1,sel_true];rfl
   rw [hq] at ih ho ⊢;have hrl:=pw l[i].text;have rc:=vw (s:=l[i].text) (by omega);have hl1:=vC (bF l[i].text) [];have h0:=fun k=>MU M hU hW (l:=l) (tg:=tg) (rs:=bF l[i].text) (by omega) hk (j:=(i:Int)) (H:=H) (H0:=H) k (bF l[i].text).length 0 o [] (by omega) (by rw [List.length_append] at ho;omega) (by simp;omega)
   simp only [kv_cons,kv_nil,List.drop_zero,Int.ofNat_zero] at h0;rw [← List.append_assoc] at ih ⊢;generalize (wdS (bF l[i].text) []).1=a at *
   generalize (wdS (bF l[i].text) []).2=w at *
   unfold uK at ih ho ⊢;cases hz:w == [] with
   |true=>
    simp only [hz,sel_true,List.append_nil] at ih ho ⊢;rw [al M bD.eq_1];simp (maxSteps:=3000000) (maxDischargeDepth:=6) +contextual -implicitDefEqProofs only [amC M,↓amD,Nat.reduceBEq,Nat.reduceAdd,env,ah,aW,amG,AV.cell,Nat.reduceMul,Nat.reduceLeDiff,hi,hx,k1,hwi,hir,hk,w3,rc,h0,hz,aQ,ih,aj,hp_set0,fw,eb]
   |false=>
    simp only [hz,sel_false,List.length_append,List.length_singleton] at ih ho ⊢;have ap:=mQ (row:=aA) (l:=o++a) (x:=w) (r:=[.str w]) (sz:=1) (bytes:=16) (e:=ak) H [] rfl rfl rfl (by rw [List.length_append];omega) (by rw [List.length_append];omega);simp only [List.length_append,List.length_singleton] at ap h0;rw [al M bD.eq_1];simp (maxSteps:=3000000) (maxDischargeDepth:=6) +contextual -implicitDefEqProofs only [amC M,↓amD,Nat.reduceBEq,Nat.reduceAdd,env,ah,aW,amG,AV.cell,Nat.reduceMul,Nat.reduceLeDiff,hi,hx,k1,hwi,hir,hk,w3,rc,h0,hz,ap,aQ,ih,aj,hp_set0,fw,eb,List.length_append,List.length_singleton]
theorem CV(hS:fM E)(hU:kR E)(hW:WsE E){l:List ag}{tg:Tag}(hl:l.length≤1000000)(hs:∀ x∈l,x.text.length≤1000000)(hwl:(dI l).length≤10000000)(hk:∀ n,Wk n (.slice tg 3 (l.map ag.row)) (.slice tg 3 (l.map ag.row)))(H:List AObj) :
  M.run gK [.slice tg 3 (l.map ag.row)] H=some (.ret (.slice .any 1 ((dI l).map aA)),H):=by
 have h4:=fun k=>NF M hS hU hW hl hs hk (H:=H) k l.length 0 [] (by omega) (by simpa using hwl)
 simp only [kv_cons,kv_nil,List.nil_append,List.length_nil,Nat.zero_mul,List.map_nil,Int.ofNat_zero,List.drop_zero] at h4;have hh:=handV_drop (cut_app H [.tok ((dI l).length*1) ak]) (wk_any (esz:=1) (tag:=.own H.length) (py H.length (dI l)));simp only [anyV_slice,hp_take] at hh;rw [aG M hW.truchmanref01_cutWords rfl (c:=gR) rfl,gR];simp (maxSteps:=3000000) (maxDischargeDepth:=6) +contextual -implicitDefEqProofs only [amC M,↓amD,Nat.reduceBEq,Nat.reduceAdd,env,ah,aW,h4,hh]
def wH(l:List ag):AV:=sel (i9 l == 0) (sel (decide ((512:Int)<((dI l).length:Int))) (.tuple [.slice .any 1 [],.int .u8 3]) (.tuple [.slice .any 1 ((dI l).map aA),.int .u8 0])) (.tuple [.slice .any 1 [],.int .u8 (i9 l)])
theorem FB(hB:fV E)(hS:fM E)(hU:kR E)(hW:WsE E){l:Sl ag}(hl:l.l.length≤1000000)(hs:∀ x∈l.l,x.text.length≤1000000)(hwl:(dI l.l).length≤10000000)(hk:∀ n,Wk n (.slice l.tag 3 (l.l.map ag.row)) (.slice l.tag 3 (l.l.map ag.row)))(H:List AObj) :
  M.run jy [.slice l.tag 3 (l.l.map ag.row)] H=some (.ret (wH l.l),H):=by
 have hc:=fun H=>nB M hB hl (fun x hx=>Nat.le_trans (hs x hx) (by omega)) H
 have hw:=fun H=>CV M hS hU hW hl hs hwl hk H
 unfold wH;cases h0:i9 l.l == 0 with
 |false=>
  rw [sel_false];rw [aG M hW.truchmanref01_Words rfl (c:=cF) rfl,cF];simp (maxSteps:=3000000) (maxDischargeDepth:=6) +contextual -implicitDefEqProofs only [amC M,↓amD,Nat.reduceBEq,Nat.reduceAdd,env,ah,jE,amG,AV.cell,Nat.reduceMul,Nat.reduceLeDiff,hc,h0,hp_self,cut_refl,wk_tuple]
 |true=>
  have e0:=eq_of_beq h0;rw [e0] at hc;rw [sel_true];cases h5:decide ((512:Int)<((dI l.l).length:Int)) with
  |true=>
   rw [sel_true];rw [aG M hW.truchmanref01_Words rfl (c:=cF) rfl,cF];simp (maxSteps:=3000000) (maxDischargeDepth:=6) +contextual -implicitDefEqProofs only [amC M,↓amD,Nat.reduceBEq,Nat.reduceAdd,env,ah,jE,amG,AV.cell,Nat.reduceMul,Nat.reduceLeDiff,hc,(show ((0:Int) == 0)=true from rfl),hw,h5,hp_self,cut_refl,wk_tuple,List.length_map]
  |false=>
   have hh:=handV_drop (cut_refl H) (wk_tuple (xs:=[.slice .any 1 ((dI l.l).map aA),.int .u8 0]) ⟨wk_any (esz:=1) (tag:=.any) (py H.length (dI l.l)),wk_int _ _ 0,trivial⟩);simp only [anyV_tuple,List.map_cons,List.map_nil,anyS_slice,anyS_int,hp_self] at hh;rw [sel_false];rw [aG M hW.truchmanref01_Words rfl (c:=cF) rfl,cF];simp (maxSteps:=3000000) (maxDischargeDepth:=6) +contextual -implicitDefEqProofs only [amC M,↓amD,Nat.reduceBEq,Nat.reduceAdd,env,ah,jE,amG,AV.cell,Nat.reduceMul,Nat.reduceLeDiff,hc,(show ((0:Int) == 0)=true from rfl),hw,h5,hh,List.length_map]
end
section
attribute [local congr] aD a8 aO aE aN aI aF au aw aJ aK
variable{E:aT}(M:br bP E)
def NG(n:Nat)(G:List AObj)(v:AV)(l:List Str):Prop:=(l=[]∧v = .slice .nil 1 [])∨∃ t,n≤t∧v = .slice (.own t) 1 (l.map aA)∧G[t]?=some (.tok (l.length*1) ak)
structure WdG (H0 G:List AObj) (p q:Nat) (o:List Str) (w:Str):Prop where
 hp:H0.length≤p
 hq:H0.length≤q
 ne:p≠q
 row:G[q]?=some (.cells [.str w] ak)
 own:∃ v,G[p]?=some (.cells [v] bn)∧NG H0.length G v o
 len:H0.length≤G.length
 low:∀ m,m<H0.length→G[m]?=H0[m]?
 nit:∀ i s j,H0.length≤i→G[i]?≠some (.siter s j)
theorem CW:∀ (H G:List AObj),(∀ (i:Nat) (s:List UInt8) (p:Nat),G[i]?=some (.siter s p)→∃ s' p',H[i]?=some (.siter s' p'))→noIt H G=true
 |H,[],_=>by cases H<;>rfl
 |[],x::l,h=>by
  have h0:Cf x=false:=by
   cases x with
   |siter s p=>obtain ⟨_,_,e⟩:=h 0 s p rfl;cases e
   |_=>rfl
  rw [noIt,h0,CW [] l fun i s p hi=>h (i+1) s p (by simpa using hi)];rfl
 |y::H,x::l,h=>by
  have h0:(!Cf x||Cf y)=true:=by
   cases x with
   |siter s p=>
    obtain ⟨_,_,e⟩:=h 0 s p rfl;simp at e;subst e;rfl
   |_=>rfl
  rw [noIt,h0,CW H l fun i s p hi=>by simpa using h (i+1) s p (by simpa using hi)];rfl
theorem WdG.noIt{H0 Hs G:List AObj}{p q:Nat}{o:List Str}{w:Str}(h:WdG H0 G p q o w)(hs:∀ m,m<H0.length→Hs[m]?=H0[m]?):noIt Hs G=true:=
 CW _ _ fun i s j hi=>by
  rcases Nat.lt_or_ge i H0.length with hl | hl
  ·exact ⟨s,j,by rw [hs i hl,← h.low i hl];exact hi⟩
  ·exact absurd hi (h.nit i s j hl)
theorem WdG.app{H0 G:List AObj}{p q:Nat}{o:List Str}{w:Str}(h:WdG H0 G p q o w)(vs:List AV)(T:TypeId):WdG H0 (G++[.cells vs T]) p q o w:=by
 obtain ⟨v,h1,h2⟩:=h.own;have hlen:=h.len;refine ⟨h.hp,h.hq,h.ne,bU h.row,⟨v,bU h1, ?_⟩,by simp;omega,fun m hm=>by rw [List.getElem?_append_left (by omega)];exact h.low m hm,fun i s j hi e => ?_⟩
 ·rcases h2 with h2 | ⟨t,a,b,c⟩
  ·exact .inl h2
  ·exact .inr ⟨t,a,b,bU c⟩
 ·rcases Nat.lt_or_ge i G.length with hl | hl
  ·rw [List.getElem?_append_left hl] at e;exact h.nit i s j hi e
  ·rw [List.getElem?_append_right hl] at e
   cases hz:i-G.length with
   |zero=>rw [hz] at e;cases e
   |succ z=>rw [hz] at e;cases e
theorem WdG.setr{H0 G:List AObj}{p q:Nat}{o:List Str}{w:Str}(h:WdG H0 G p q o w)(w2:Str):WdG H0 (G.set q (.cells [.str w2] ak)) p q o w2:=by
 obtain ⟨v,h1,h2⟩:=h.own;have hql:=bT h.row;refine ⟨h.hp,h.hq,h.ne,List.getElem?_set_self hql,⟨v,by rw [List.getElem?_set_ne h.ne.symm];exact h1, ?_⟩,by simpa using h.len,fun m hm=>by rw [List.getElem?_set_ne (by have:=h.hq;omega)];exact h.low m hm,fun i s j hi e => ?_⟩
 ·rcases h2 with h2 | ⟨t,a,b,c⟩
  ·exact .inl h2
  ·refine .inr ⟨t,a,b, ?_⟩
   rw [List.getElem?_set_ne (fun e=>by subst e;rw [h.row] at c;cases c)];exact c
 ·by_cases hiq:q=i
  ·subst hiq;rw [List.getElem?_set_self hql] at e;cases e
  ·rw [List.getElem?_set_ne hiq] at e;exact h.nit i s j hi e
theorem WdG.push{H0 G:List AObj}{p q:Nat}{o:List Str}{w:Str}(h:WdG H0 G p q o w)(hl:o.length≤100000000)(x:Str) :
  ∃ v v' G2,G[p]?=some (.cells [v] bn)∧rap false G ak 1 16 false v (.slice .full 1 [[.str x]])=some (v',G2)∧G2[p]?=some (.cells [v] bn)∧v.cell=true∧b6 v'=some [v'] ∧
   stO 1 G2 p 0 [v'] (some (.cells [v] bn))=some (G2.set p (.cells [v'] bn))∧WdG H0 (G2.set p (.cells [v'] bn)) p q (o++[x]) w∧G2[q]?=some (.cells [.str w] ak) ∧
   ∀ i vs T,G[i]?=some (.cells vs T)→i≠p→(G2.set p (.cells [v'] bn))[i]?=some (.cells vs T):=by
 obtain ⟨v,h1,h2⟩:=h.own;have hlen:=h.len;have hpl:=bT h1;rcases h2 with ⟨rfl,rfl⟩ | ⟨t,a,rfl,c⟩
 ·have hr:=Ft (sz:=1) (bytes:=16) (e:=ak) (r:=[.str x]) G rfl rfl (by omega)
  have g1:(G++[AObj.tok 1 ak])[p]?=some (.cells [.slice .nil 1 []] bn):=bU h1;refine ⟨_,_,_,h1,hr,g1,rfl,rfl,by rw [stO_cells (sz:=1) rfl (by simp) rfl];rfl,⟨h.hp,h.hq,h.ne,by rw [List.getElem?_set_ne h.ne];exact bU h.row,⟨_,List.getElem?_set_self (by simp;omega),.inr ⟨G.length,hlen,rfl,by rw [List.getElem?_set_ne (by omega),aj];rfl⟩⟩,by simp;omega,fun m hm => ?_,fun i s j hi e => ?_⟩,bU h.row,fun i vs T hi hne=>by rw [List.getElem?_set_ne hne.symm];exact bU hi⟩
  ·rw [List.getElem?_set_ne (by have:=h.hp;omega),List.getElem?_append_left (by omega)];exact h.low m hm
  ·by_cases hip:p=i
   ·subst hip;rw [List.getElem?_set_self (by simp;omega)] at e;cases e
   ·rw [List.getElem?_set_ne hip] at e
    rcases Nat.lt_or_ge i G.length with hl | hl
    ·rw [List.getElem?_append_left hl] at e;exact h.nit i s j hi e
    ·rw [List.getElem?_append_right hl] at e
     cases hz:i-G.length with
     |zero=>rw [hz] at e;cases e
     |succ z=>rw [hz] at e;cases e
 ·have hr:=JF (row:=aA) (l:=o) (x:=x) (r:=[.str x]) (sz:=1) (bytes:=16) (e:=ak) (H:=G) (t:=t) c rfl rfl rfl (by omega) (by omega)
  have htl:=bT c;have tp:t≠p:=fun e=>by subst e;rw [h1] at c;cases c
  have tq:t≠q:=fun e=>by subst e;rw [h.row] at c;cases c
  have g1:(G.set t (AObj.tok ((o++[x]).length*1) ak))[p]?=some (.cells [.slice (.own t) 1 (o.map aA)] bn):=by rw [List.getElem?_set_ne tp];exact h1
  refine ⟨_,_,_,h1,hr,g1,rfl,rfl,by rw [stO_cells (sz:=1) rfl (by simp) rfl];rfl,⟨h.hp,h.hq,h.ne,by rw [List.getElem?_set_ne h.ne,List.getElem?_set_ne tq];exact h.row,⟨_,List.getElem?_set_self (by simpa using hpl),.inr ⟨t,a,rfl,by rw [List.getElem?_set_ne tp.symm,List.getElem?_set_self htl]⟩⟩,by simpa using hlen,fun m hm => ?_,fun i s j hi e => ?_⟩,by rw [List.getElem?_set_ne tq];exact h.row,fun i vs T hi hne => ?_⟩
  ·rw [List.getElem?_set_ne (by have:=h.hp;omega),List.getElem?_set_ne (by omega)];exact h.low m hm
  ·by_cases hip:p=i
   ·subst hip;rw [List.getElem?_set_self (by simpa using hpl)] at e;cases e
   ·rw [List.getElem?_set_ne hip] at e
    by_cases hit:t=i
    ·subst hit;rw [List.getElem?_set_self htl] at e;cases e
    ·rw [List.getElem?_set_ne hit] at e;exact h.nit i s j hi e
  ·rw [List.getElem?_set_ne hne.symm,List.getElem?_set_ne (fun e=>by subst e;rw [hi] at c;cases c)];exact hi
end
section
attribute [local congr] aD a8 aO aE aN aI aF au aw aJ aK
variable{E:aT}(M:br bP E)
theorem Mb{G:List AObj}{q:Nat}{w x:Str}(h:G[q]?=some (.cells [.str w] ak)):stO 1 G q 0 [.str x] (some (.cells [.str w] ak))=some (G.set q (.cells [.str x] ak)):=by
 rw [stO_cells (sz:=1) rfl (by simp) rfl];rfl
theorem qO(hU:kR E){H0 Hs:List AObj}(hs:∀ m,m<H0.length→Hs[m]?=H0[m]?){p q:Nat}:∀ (rs:List Nat) (G:List AObj) (o:List Str) (w:Str),WdG H0 G p q o w→o.length+2*rs.length≤100000000→w.length+4*rs.length≤100000000 →
  ∃ G',(∀ e:Env,dm e 5 = .ptr p 0→dm e 8 = .ptr q 0→iJ bP M.go (lG bY) [32] [[⟨some 9,none,.op (.nw [.int .i32 0,.bool false] bk)⟩,⟨none,none,.op (.st 2 (.t 9) (.t 32))⟩]] fH e [] Hs (rs.map fun r=>[.agg (unR r).row]) G=some (none,G'))∧WdG H0 G' p q (o++(wdS rs w).1) (wdS rs w).2
 |[],G,o,w,h,_,_=>⟨G,fun _ _ _=>rfl,by rw [wdS,List.append_nil];exact h⟩
 |r::rs,G,o,w,h,ho,hw=>by
  have q1:(lG bY).dfr=some ([],.c .unk,.bad):=rfl;have q2:(lG bY).mode = .keep:=rfl;have q3:(lG bY).res=[]:=rfl;obtain ⟨c,hc,hcl⟩:=JU r;have hce:Dj (.int .i32 (r:Int))=some (.str c):=by rw [← hc];exact JT _
  simp only [List.length_cons] at ho hw;have h1:=h.app (unR r).row bk;have hrow:(unR r).row=[.int .i32 (r:Int),.bool false]:=rfl;have hwd:=fun H=>BJ M hU (unR r) H
  have hmd:=fun H=>BI M hU (unR r) H
  have gu:(G++[AObj.cells (unR r).row bk])[G.length]?=some (.cells (unR r).row bk):=by rw [aj];rfl
  have nq:G.length≠q:=fun e=>by have:=bT h.row;omega
  have np:G.length≠p:=fun e=>by obtain ⟨v,hv,_⟩:=h.own;have:=bT hv;omega
  rw [hrow] at h1 hwd hmd gu;rw [wdS,hc];cases hq:mR (unR r) with
  |true=>
   rw [hq] at hwd;simp only [sel_true];have h2:=h1.setr (w++c);obtain ⟨G',i1,i2⟩:=qO hU hs rs _ o (w++c) h2 (by omega) (by rw [List.length_append];omega);refine ⟨G',fun e he5 he8 => ?_,i2⟩;rw [List.map_cons];refine sV ?_ (h2.noIt hs) (fun _ h=>by cases h) (i1 e he5 he8);have F1:bg .add w c=some (.str (w++c)):=bf (by omega);have g8:=h1.row;have s8:=Mb (x:=w++c) g8;generalize lG bY=rf at q1 q2 q3;simp only [qx,List.map_cons,List.map_nil,List.cons_append,List.nil_append,fH,hrow]
   have a0:∀ y:AObj,(G++[y])=G++[y]:=fun _=>rfl
   generalize hG1:G++[AObj.cells [AV.int .i32 (r:Int),AV.bool false] bk]=G1 at *
   simp (maxSteps:=3000000) (maxDischargeDepth:=6) +contextual -implicitDefEqProofs only [amC M,↓amD,Nat.reduceBEq,Nat.reduceAdd,env,ah,dj,amG,AV.cell,Nat.reduceMul,Nat.reduceLeDiff,q1,q2,q3,he5,he8,hwd,hce,F1,g8,s8,gu,hG1,aj,hp_set0,List.set_cons_zero]
  |false=>
   rw [hq] at hwd;simp only [sel_false];rw [show o++(uK w++mkS r++(wdS rs []).1)=o++uK w++mkS r++(wdS rs []).1 by simp];have hf1:=vB w;unfold mkS;rw [hc];unfold uK at hf1 ⊢;have g8:=h1.row;cases hz:w == [] with
   |true=>
    obtain rfl:=eq_of_beq hz;simp only [sel_true,List.append_nil];cases hm:qM (unR r) with
    |false=>
     rw [hm] at hmd;simp only [sel_false,List.append_nil];obtain ⟨G',i1,i2⟩:=qO hU hs rs _ o [] h1 (by omega) (by simp;omega);refine ⟨G',fun e he5 he8 => ?_,i2⟩;rw [List.map_cons];refine sV ?_ (h1.noIt hs) (fun _ h=>by cases h) (i1 e he5 he8);generalize lG bY=rf at q1 q2 q3;simp only [qx,List.map_cons,List.map_nil,List.cons_append,List.nil_append,fH,hrow];generalize hG1:G++[AObj.cells [AV.int .i32 (r:Int),AV.bool false] bk]=G1 at *
     simp (maxSteps:=3000000) (maxDischargeDepth:=6) +contextual -implicitDefEqProofs only [amC M,↓amD,Nat.reduceBEq,Nat.reduceAdd,env,ah,dj,amG,AV.cell,Nat.reduceMul,Nat.reduceLeDiff,q1,q2,q3,he5,he8,hwd,hmd,g8,gu,hG1,hz,aj,hp_set0,List.set_cons_zero]
    |true=>
     rw [hm] at hmd;simp only [sel_true];obtain ⟨v,v',G2,p1,p2,p3,p4,p5,p6,p7,p8,p9⟩:=h1.push (by omega) c;obtain ⟨G',i1,i2⟩:=qO hU hs rs _ (o++[c]) [] p7 (by rw [List.length_append,List.length_singleton];omega) (by simp;omega);refine ⟨G',fun e he5 he8 => ?_,i2⟩;rw [List.map_cons];refine sV ?_ (p7.noIt hs) (fun _ h=>by cases h) (i1 e he5 he8);have l1:bJ none [v] 0=some v:=rfl;generalize lG bY=rf at q1 q2 q3
     simp only [qx,List.map_cons,List.map_nil,List.cons_append,List.nil_append,fH,hrow];generalize hG1:G++[AObj.cells [AV.int .i32 (r:Int),AV.bool false] bk]=G1 at *
     simp (maxSteps:=3000000) (maxDischargeDepth:=6) +contextual -implicitDefEqProofs only [amC M,↓amD,Nat.reduceBEq,Nat.reduceAdd,env,ah,dj,amG,AV.cell,Nat.reduceMul,Nat.reduceLeDiff,q1,q2,q3,he5,he8,hwd,hmd,hce,g8,gu,hG1,hz,l1,p1,p2,p3,p4,p5,p6,aj,hp_set0,List.set_cons_zero]
   |false=>
    simp only [sel_false];obtain ⟨v,v',G2,p1,p2,p3,p4,p5,p6,p7,p8,p9⟩:=h1.push (by omega) w;have l1:bJ none [v] 0=some v:=rfl;have h3:=p7.setr [];have g8':=p7.row;have s8:=Mb (x:=[]) g8'
    have gu3:((G2.set p (AObj.cells [v'] bn)).set q (AObj.cells [AV.str []] ak))[G.length]?=some (.cells [.int .i32 (r:Int),.bool false] bk):=by
     rw [List.getElem?_set_ne nq.symm];exact p9 _ _ _ gu np
    cases hm:qM (unR r) with
    |false=>
     rw [hm] at hmd;simp only [sel_false,List.append_nil];obtain ⟨G',i1,i2⟩:=qO hU hs rs _ (o++[w]) [] h3 (by rw [List.length_append,List.length_singleton];omega) (by simp;omega);refine ⟨G',fun e he5 he8 => ?_,i2⟩;rw [List.map_cons];refine sV ?_ (h3.noIt hs) (fun _ h=>by cases h) (i1 e he5 he8);generalize lG bY=rf at q1 q2 q3;simp only [qx,List.map_cons,List.map_nil,List.cons_append,List.nil_append,fH,hrow]
     generalize hG1:G++[AObj.cells [AV.int .i32 (r:Int),AV.bool false] bk]=G1 at *
     simp (maxSteps:=3000000) (maxDischargeDepth:=6) +contextual -implicitDefEqProofs only [amC M,↓amD,Nat.reduceBEq,Nat.reduceAdd,env,ah,dj,amG,AV.cell,Nat.reduceMul,Nat.reduceLeDiff,q1,q2,q3,he5,he8,hwd,hmd,g8,gu,hG1,hz,l1,p1,p2,p3,p4,p5,p6,g8',s8,gu3,aj,hp_set0,List.set_cons_zero]
    |true=>
     rw [hm] at hmd;simp only [sel_true];obtain ⟨u,u',G5,t1,t2,t3,t4,t5,t6,t7,t8,t9⟩:=h3.push (by rw [List.length_append,List.length_singleton];omega) c;have l2:bJ none [u] 0=some u:=rfl;obtain ⟨G',i1,i2⟩:=qO hU hs rs _ (o++[w]++[c]) [] t7 (by rw [List.length_append,List.length_append,List.length_singleton,List.length_singleton];omega) (by simp;omega);refine ⟨G',fun e he5 he8 => ?_,i2⟩;rw [List.map_cons]
     refine sV ?_ (t7.noIt hs) (fun _ h=>by cases h) (i1 e he5 he8);generalize lG bY=rf at q1 q2 q3;simp only [qx,List.map_cons,List.map_nil,List.cons_append,List.nil_append,fH,hrow];generalize hG1:G++[AObj.cells [AV.int .i32 (r:Int),AV.bool false] bk]=G1 at *
     simp (maxSteps:=3000000) (maxDischargeDepth:=6) +contextual -implicitDefEqProofs only [amC M,↓amD,Nat.reduceBEq,Nat.reduceAdd,env,ah,dj,amG,AV.cell,Nat.reduceMul,Nat.reduceLeDiff,q1,q2,q3,he5,he8,hwd,hmd,hce,g8,gu,hG1,hz,l1,l2,p1,p2,p3,p4,p5,p6,g8',s8,gu3,t1,t2,t3,t4,t5,t6,aj,hp_set0,List.set_cons_zero]
end
section
attribute [local congr] aD a8 aO aE aN aI aF au aw aJ aK
variable{E:aT}(M:br bP E)
structure WdH (H0 G:List AObj) (p:Nat) (o:List Str):Prop where
 hp:H0.length≤p
 own:∃ v,G[p]?=some (.cells [v] bn)∧NG H0.length G v o
 len:H0.length≤G.length
 low:∀ m,m<H0.length→G[m]?=H0[m]?
 nit:∀ i s j,H0.length≤i→G[i]?≠some (.siter s j)
theorem WdG.forget{H0 G:List AObj}{p q:Nat}{o:List Str}{w:Str}(h:WdG H0 G p q o w):WdH H0 G p o:=⟨h.hp,h.own,h.len,h.low,h.nit⟩
theorem WdH.row{H0 G:List AObj}{p q:Nat}{o:List Str}{w:Str}(h:WdH H0 G p o)(hq:H0.length≤q)(hg:G[q]?=some (.cells [.str w] ak)):WdG H0 G p q o w:=
 ⟨h.hp,hq,(fun e=>by
  subst e;obtain ⟨v,hv,ho⟩:=h.own;rw [hg] at hv;rcases ho with ⟨_,rfl⟩ | ⟨_,_,rfl,_⟩<;>cases hv),hg,h.own,h.len,h.low,h.nit⟩
theorem WdH.app{H0 G:List AObj}{p:Nat}{o:List Str}(h:WdH H0 G p o)(vs:List AV)(T:TypeId):WdH H0 (G++[.cells vs T]) p o:=by
 obtain ⟨v,h1,h2⟩:=h.own;have hlen:=h.len;refine ⟨h.hp,⟨v,bU h1, ?_⟩,by simp;omega,fun m hm=>by rw [List.getElem?_append_left (by omega)];exact h.low m hm,fun i s j hi e => ?_⟩
 ·rcases h2 with h2 | ⟨t,a,b,c⟩
  ·exact .inl h2
  ·exact .inr ⟨t,a,b,bU c⟩
 ·rcases Nat.lt_or_ge i G.length with hl | hl
  ·rw [List.getElem?_append_left hl] at e;exact h.nit i s j hi e
  ·rw [List.getElem?_append_right hl] at e
   cases hz:i-G.length with
   |zero=>rw [hz] at e;cases e
   |succ z=>rw [hz] at e;cases e
theorem WdH.push{H0 G:List AObj}{p:Nat}{o:List Str}(h:WdH H0 G p o)(hl:o.length≤100000000)(x:Str) :
  ∃ v v' G2,G[p]?=some (.cells [v] bn)∧rap false G ak 1 16 false v (.slice .full 1 [[.str x]])=some (v',G2)∧G2[p]?=some (.cells [v] bn)∧v.cell=true∧b6 v'=some [v'] ∧
   stO 1 G2 p 0 [v'] (some (.cells [v] bn))=some (G2.set p (.cells [v'] bn))∧WdH H0 (G2.set p (.cells [v'] bn)) p (o++[x]):=by
 have hlen:=h.len;have h1:=h.app [.str []] ak;obtain ⟨v,hv,ho⟩:=h.own;have hpl:=bT hv;rcases ho with ⟨rfl,rfl⟩ | ⟨t,a,rfl,c⟩
 ·have hr:=Ft (sz:=1) (bytes:=16) (e:=ak) (r:=[.str x]) G rfl rfl (by omega)
  refine ⟨_,_,_,hv,hr,bU hv,rfl,rfl,by rw [stO_cells (sz:=1) rfl (by simp) rfl];rfl,⟨h.hp,⟨_,List.getElem?_set_self (by simp;omega),.inr ⟨G.length,hlen,rfl,by rw [List.getElem?_set_ne (by omega),aj];rfl⟩⟩,by simp;omega,fun m hm => ?_,fun i s j hi e => ?_⟩⟩
  ·rw [List.getElem?_set_ne (by have:=h.hp;omega),List.getElem?_append_left (by omega)];exact h.low m hm
  ·by_cases hip:p=i
   ·subst hip;rw [List.getElem?_set_self (by simp;omega)] at e;cases e
   ·rw [List.getElem?_set_ne hip] at e
    rcases Nat.lt_or_ge i G.length with hl | hl
    ·rw [List.getElem?_append_left hl] at e;exact h.nit i s j hi e
    ·rw [List.getElem?_append_right hl] at e
     cases hz:i-G.length with
     |zero=>rw [hz] at e;cases e
     |succ z=>rw [hz] at e;cases e
 ·have hr:=JF (row:=aA) (l:=o) (x:=x) (r:=[.str x]) (sz:=1) (bytes:=16) (e:=ak) (H:=G) (t:=t) c rfl rfl rfl (by omega) (by omega)
  have htl:=bT c;have tp:t≠p:=fun e=>by subst e;rw [hv] at c;cases c
  refine ⟨_,_,_,hv,hr,by rw [List.getElem?_set_ne tp];exact hv,rfl,rfl,by rw [stO_cells (sz:=1) rfl (by simp) rfl];rfl,⟨h.hp,⟨_,List.getElem?_set_self (by simpa using hpl),.inr ⟨t,a,rfl,by rw [List.getElem?_set_ne tp.symm,List.getElem?_set_self htl]⟩⟩,by simpa using hlen,fun m hm => ?_,fun i s j hi e => ?_⟩⟩
  ·rw [List.getElem?_set_ne (by have:=h.hp;omega),List.getElem?_set_ne (by omega)];exact h.low m hm
  ·by_cases hip:p=i
   ·subst hip;rw [List.getElem?_set_self (by simpa using hpl)] at e;cases e
   ·rw [List.getElem?_set_ne hip] at e
    by_cases hit:t=i
    ·subst hit;rw [List.getElem?_set_self htl] at e;cases e
    ·rw [List.getElem?_set_ne hit] at e;exact h.nit i s j hi e
theorem Lw{x:ag}(h:(x.kind == 1)=true):unL [x]=(bF x.text).map unR:=by
 have h5:(x.kind == 5)=false:=by rw [eq_of_beq h];rfl
 show unP x++[]=_;rw [List.append_nil,unP,h5,sel_false,h,sel_true]
theorem dwl(hS:fM E)(hU:kR E)(hN:Lp E)(hW:WsE E){l:List ag}{tg:Tag}(hl:l.length≤1000000)(hs:∀ x∈l,x.text.length≤1000000)(ha:∀ x∈l,vx x=false){H0:List AObj}{p:Nat}{vs:Nat→AV} :
  ∀ (n i:Nat) (G:List AObj) (o:List Str),i+n=l.length→o.length+(dI (l.drop i)).length≤10000000→WdH H0 G p o →
  ∃ G',(∀ (k:List Fra) (He:List AObj),M.go bY H0 (.c fI :: .lp ⟨(some [2,3,5,9,15,16,17,32,33,34,35,36,37,38,39,40,41,42,43,44,45,46,47,48,49,50,51,52,53]),[(42,1,ak),(48,1,ak)],false⟩ fI He :: .blk 0 :: .c (.lv [5])::k) (kv [(2,.slice .nil 1 []),(3,.int .u8 0),(5,.ptr p 0),(9,vs 9),(15,.slice tg 3 (l.map ag.row)),(16,.int .i64 l.length),(17,.int .i64 i),(32,vs 32),(33,vs 33),(34,vs 34),(35,vs 35),(36,vs 36),(37,vs 37),(38,vs 38),(39,vs 39),(40,vs 40),(41,vs 41),(42,vs 42),(43,vs 43),(44,vs 44),(45,vs 45),(46,vs 46),(47,vs 47),(48,vs 48),(49,vs 49),(50,vs 50),(51,vs 51),(52,vs 52),(53,vs 53)]) G =
   M.go bY H0 k (kv [(5,.ptr p 0)]) G')∧WdH H0 G' p (o++dI (l.drop i))
 |0,i,G,o,h,ho,hG=>by
  have e:i=l.length:=by omega
  subst e;rw [List.drop_length,show dI []=[] from rfl,List.append_nil];refine ⟨G,fun k He => ?_,hG⟩;rw [al M fI.eq_1];simp (maxSteps:=3000000) (maxDischargeDepth:=6) +contextual -implicitDefEqProofs only [amC M,↓amD,Nat.reduceBEq,Nat.reduceAdd,env,ah,dj,Nat.lt_irrefl]
 |n+1,i,G,o,h,ho,hG=>by
  have hi:i<l.length:=by omega
  have hx:l[i]?=some l[i]:=List.getElem?_eq_getElem hi;have hm:=hs _ (List.getElem_mem hi);have hwi:=dJ (n:=l.length) hi (by simp only [bh];omega);have hir:=a7 (row:=ag.row) (tag:=tg) (sz:=3) (k:=.i64) hi;rw [xh hi] at ho ⊢;rw [List.length_append] at ho;rw [← List.append_assoc];have h1:=hG.app l[i].row ae;have gp:(G++[AObj.cells l[i].row ae])[G.length]?=some (.cells l[i].row ae):=by rw [aj];rfl
  cases k1:l[i].kind == 1 with
  |false=>
   have hq:wdP l[i]=[wrF l[i]]:=by rw [wdP,k1,sel_false]
   rw [hq] at ho ⊢
   have hth:HH l[i]=true:=by
    have h:=ha _ (List.getElem_mem hi)
    have hk:l[i].kind=2∨l[i].kind=3∨l[i].kind=4∨l[i].kind=5:=by
     unfold vx at h
     have:l[i].kind≠1:=by simpa using k1
     simp at h;omega
    unfold HH;rcases hk with k | k | k | k<;>(rw [k];rfl)
   have hwr:=fun H=>iH M hS hth (by omega) H
   obtain ⟨v,v',G2,p1,p2,p3,p4,p5,p6,p7⟩:=h1.push (by omega) (wrF l[i]);have l1:bJ none [v] 0=some v:=rfl;obtain ⟨G',i1,i2⟩:=dwl hS hU hN hW (tg:=tg) (vs:=vs) hl hs ha n (i+1) _ _ (by omega) (by rw [List.length_append];simp at ho ⊢;omega) p7;simp only [kv_cons,kv_nil] at i1;refine ⟨G',fun k He => ?_,i2⟩;have i1:=i1 k;generalize hG1:G++[AObj.cells l[i].row ae]=G1 at *
   rw [al M fI.eq_1];simp (maxSteps:=3000000) (maxDischargeDepth:=6) +contextual -implicitDefEqProofs only [amC M,↓amD,Nat.reduceBEq,Nat.reduceAdd,env,ah,dj,amG,AV.cell,Nat.reduceMul,Nat.reduceLeDiff,hi,hx,k1,hwi,hir,aQ,hwr,gp,hG1,l1,p1,p2,p3,p4,p5,p6,i1,aj,hp_set0,List.set_cons_zero]
  |true=>
   have hq:wdP l[i]=(wdS (bF l[i].text) []).1++uK (wdS (bF l[i].text) []).2:=by rw [wdP,k1,sel_true];rfl
   rw [hq] at ho ⊢;rw [← List.append_assoc];have hrl:=pw l[i].text;have hl1:=vC (bF l[i].text) [];have h2:=h1.app [.str []] ak;have h3:=h2.app [.slice .full 3 ([l[i]].map ag.row)] ao;have hlG1:(G++[AObj.cells l[i].row ae]).length=G.length+1:=by simp
   have hlG2:(G++[AObj.cells l[i].row ae]++[AObj.cells [.str []] ak]).length=G.length+2:=by simp
   have hgr:(G++[AObj.cells l[i].row ae]++[AObj.cells [.str []] ak]++[AObj.cells [.slice .full 3 ([l[i]].map ag.row)] ao])[G.length+1]?=some (.cells [.str []] ak):=by
    rw [List.append_assoc,List.append_assoc,hp_getk];rfl
   have h4:=h3.row (q:=G.length+1) (w:=[]) (by have:=hG.len;omega) hgr
   have hid:(G++[AObj.cells l[i].row ae]++[AObj.cells [.str []] ak]++[AObj.cells [.slice .full 3 ([l[i]].map ag.row)] ao])[G.length+2]?=some (.cells [.slice .full 3 ([l[i]].map ag.row)] ao):=by
    rw [List.append_assoc,List.append_assoc,hp_getk];rfl
   have hsq:E.seq kh [.ptr (G.length+2) 0] (G++[AObj.cells l[i].row ae]++[AObj.cells [.str []] ak]++[AObj.cells [.slice .full 3 ([l[i]].map ag.row)] ao])=some ((bF l[i].text).map fun r=>[.agg (unR r).row],[]):=by
    rw [hN.seq];have hb:Nat.ble ([l[i]].map ag.row).length 9223372036854775807=true:=by rw [Nat.ble_eq];simp
    simp only [vh,hid,xg,hb,cond_true,Lw k1,List.map_map];rfl
   obtain ⟨G4,r1,r2⟩:=qO M hU (Hs:=G++[AObj.cells l[i].row ae]++[AObj.cells [.str []] ak]++[AObj.cells [.slice .full 3 ([l[i]].map ag.row)] ao]) h3.low (bF l[i].text) _ o [] h4 (by omega) (by simp;omega);have he:=fun (k:List Fra) (e:Env) (H0:List AObj) (he5:dm e 5 = .ptr p 0) (he8:dm e 8 = .ptr (G.length+1) 0)=>Mt (M:=M) (ps:=[32]) (fn:=bY) (k:=k) (a:=e) (H0:=H0) _ hsq hN.sar (r1 e he5 he8)
   have hdu:=fun H=>Fu M hU (l:=[l[i]]) (t:=.full) H
   simp only [List.map_cons,List.map_nil] at hdu he hsq;have g8:=r2.row;generalize (wdS (bF l[i].text) []).1=a at *
   generalize (wdS (bF l[i].text) []).2=w at *
   have gp2:∀ X,(G++AObj.cells l[i].row ae::X)[G.length]?=some (.cells l[i].row ae):=fun X=>by rw [aj];rfl
   have sq:∀ (X:List AObj) (x y z:AObj),(G++x::y::X).set (G.length+1) z=G++x::z::X:=fun X x y z=>by rw [hp_setk];rfl
   have hrow:l[i].row=[.int .u8 l[i].kind,.str l[i].text,.bool l[i].car]:=rfl;unfold uK at ho ⊢;cases hz:w == [] with
   |true=>
    simp only [hz,sel_true,List.append_nil] at ho ⊢;obtain ⟨G',i1,i2⟩:=dwl hS hU hN hW (tg:=tg) (vs:=vs) hl hs ha n (i+1) G4 _ (by omega) (by rw [List.length_append];omega) r2.forget;simp only [kv_cons,kv_nil] at i1;refine ⟨G',fun k He => ?_,i2⟩;have i1:=i1 k;simp only [List.append_assoc,List.cons_append,List.nil_append] at he;rw [al M fI.eq_1];simp (maxSteps:=3000000) (maxDischargeDepth:=6) +contextual -implicitDefEqProofs only [amC M,↓amD,Nat.reduceBEq,Nat.reduceAdd,env,ah,dj,amG,AV.cell,Nat.reduceMul,Nat.reduceLeDiff,hi,hx,k1,hwi,hir,aQ,gp2,sq,hdu,he,rfnC_none,go_rfn,g8,hz,i1,aj,hp_set0,List.set_cons_zero,List.append_assoc,List.cons_append,List.nil_append]
   |false=>
    simp only [hz,sel_false,List.length_append,List.length_singleton] at ho ⊢;obtain ⟨v,v',G5,p1,p2,p3,p4,p5,p6,p7,p8,p9⟩:=r2.push (by rw [List.length_append];omega) w;have l1:bJ none [v] 0=some v:=rfl;obtain ⟨G',i1,i2⟩:=dwl hS hU hN hW (tg:=tg) (vs:=vs) hl hs ha n (i+1) _ _ (by omega) (by simp only [List.length_append,List.length_singleton];omega) p7.forget;simp only [kv_cons,kv_nil] at i1;refine ⟨G',fun k He => ?_,i2⟩
    have i1:=i1 k;simp only [List.append_assoc,List.cons_append,List.nil_append] at he;rw [al M fI.eq_1];simp (maxSteps:=3000000) (maxDischargeDepth:=6) +contextual -implicitDefEqProofs only [amC M,↓amD,Nat.reduceBEq,Nat.reduceAdd,env,ah,dj,amG,AV.cell,Nat.reduceMul,Nat.reduceLeDiff,hi,hx,k1,hwi,hir,aQ,gp2,sq,hdu,he,rfnC_none,go_rfn,g8,hz,l1,p1,p2,p3,p4,p5,p6,i1,aj,hp_set0,List.set_cons_zero,List.append_assoc,List.cons_append,List.nil_append]
theorem FC(hB:fV E)(hS:fM E)(hD:wA M)(hU:kR E)(hN:Lp E)(hW:WsE E){l:Sl ag}(hl:l.l.length≤1000000)(hs:∀ x∈l.l,x.text.length≤1000000)(hwl:(dI l.l).length≤10000000)(H:List AObj) :
  M.run mJ [.slice l.tag 3 (l.l.map ag.row)] H=some (.ret (wH l.l),H):=by
 have hc:=fun H=>ow M hB hD hl (fun x hx=>Nat.le_trans (hs x hx) (by omega)) H
 unfold wH;cases h0:i9 l.l == 0 with
 |false=>
  rw [sel_false];rw [aG M hW.docs_Words rfl (c:=iO) rfl,iO];simp (maxSteps:=3000000) (maxDischargeDepth:=6) +contextual -implicitDefEqProofs only [amC M,↓amD,Nat.reduceBEq,Nat.reduceAdd,env,ah,dj,amG,AV.cell,Nat.reduceMul,Nat.reduceLeDiff,hc,h0,hp_self,cut_refl,wk_tuple]
 |true=>
  have e0:=eq_of_beq h0;rw [e0] at hc;rw [sel_true]
  have w0:WdH H (H++[.cells [.slice .nil 1 []] bn]) H.length []:=
   ⟨Nat.le_refl _,⟨_,by rw [aj];rfl,.inl ⟨rfl,rfl⟩⟩,by simp,fun m hm=>List.getElem?_append_left hm,fun i s j hi e=>by
    rw [List.getElem?_append_right hi] at e;cases hz:i-H.length with
    |zero=>rw [hz] at e;cases e
    |succ z=>rw [hz] at e;cases e⟩
  obtain ⟨G',i1,i2⟩:=dwl M hS hU hN hW (tg:=l.tag) (vs:=fun _=>.unk) hl hs (uJ e0) l.l.length 0 _ [] (by omega) (by simpa using hwl) w0;simp only [kv_cons,kv_nil,List.drop_zero,List.nil_append,Int.ofNat_zero] at i1 i2;obtain ⟨v,hv,ho⟩:=i2.own;have l1:bJ none [v] 0=some v:=rfl;have hck:dh H G':=⟨i2.len,fun i x hi hx=>.inl (by rw [← i2.low i hi];exact hx)⟩
  have htk:G'.take H.length=H:=List.ext_getElem? fun i=>by
   rw [List.getElem?_take];split
   ·rename_i h;exact i2.low i h
   ·rename_i h;rw [List.getElem?_eq_none (by omega)]
  have hln:∀ G,pT G .sl v=some (.int .i64 ((dI l.l).length:Int)):=fun G=>by
   rcases ho with ⟨e,rfl⟩ | ⟨t,_,rfl,_⟩
   ·rw [e];rfl
   ·simp only [pT,List.length_map]
  have tu:∀ l a H t sz e,Ha l a H t sz e .unk=pV l a H:=fun _ _ _ _ _ _=>rfl
  cases h5:decide ((512:Int)<((dI l.l).length:Int)) with
  |true=>
   rw [sel_true];have hh:=handV_drop hck (wk_tuple (n:=H.length) (xs:=[.slice .nil 1 [],.int .u8 3]) (ys:=[.slice .any 1 [],.int .u8 3]) ⟨wk_any (esz:=1) (tag:=.nil) (py H.length []),wk_int _ _ 3,trivial⟩);simp only [anyV_tuple,List.map_cons,List.map_nil,anyS_slice,anyS_int,htk] at hh;rw [aG M hW.docs_Words rfl (c:=iO) rfl,iO];simp (maxSteps:=3000000) (maxDischargeDepth:=6) +contextual -implicitDefEqProofs only [amC M,↓amD,Nat.reduceBEq,Nat.reduceAdd,env,ah,dj,amG,AV.cell,Nat.reduceMul,Nat.reduceLeDiff,hc,(show ((0:Int) == 0)=true from rfl),tw,tu,i1,hv,l1,hln,h5,hh]
  |false=>
   have hh:qw bP .drop H G' (.tuple [v,.int .u8 0])=some (.tuple [.slice .any 1 ((dI l.l).map aA),.int .u8 0],H):=by
    rcases ho with ⟨e,rfl⟩ | ⟨t,_,rfl,_⟩
    ·rw [e]
     have hh:=handV_drop hck (wk_tuple (n:=H.length) (xs:=[.slice .nil 1 [],.int .u8 0]) (ys:=[.slice .any 1 [],.int .u8 0]) ⟨wk_any (esz:=1) (tag:=.nil) (py H.length []),wk_int _ _ 0,trivial⟩);simpa only [anyV_tuple,List.map_cons,List.map_nil,anyS_slice,anyS_int,htk] using hh
    ·have hh:=handV_drop hck (wk_tuple (n:=H.length) (xs:=[.slice (.own t) 1 ((dI l.l).map aA),.int .u8 0]) ⟨wk_any (esz:=1) (tag:=.own t) (py H.length (dI l.l)),wk_int _ _ 0,trivial⟩)
     simpa only [anyV_tuple,List.map_cons,List.map_nil,anyS_slice,anyS_int,htk] using hh
   rw [sel_false];rw [aG M hW.docs_Words rfl (c:=iO) rfl,iO];simp (maxSteps:=3000000) (maxDischargeDepth:=6) +contextual -implicitDefEqProofs only [amC M,↓amD,Nat.reduceBEq,Nat.reduceAdd,env,ah,dj,amG,AV.cell,Nat.reduceMul,Nat.reduceLeDiff,hc,(show ((0:Int) == 0)=true from rfl),tw,tu,i1,hv,l1,hln,h5,hh]
end
section
attribute [local congr] aD a8 aO aE aN aI aF au aw aJ aK
variable{E:aT}(M:br bP E)
theorem smw{l:List Str}{ta tb:Tag}(hl:l.length≤bh){H H0:List AObj}(k:List Fra):∀ (n i:Nat) (He:List AObj),i+n=l.length →
  M.go dA H0 (.c dQ :: .lp ⟨(some [0,1,5]),[],false⟩ dQ He :: .blk 0 :: .c (.lv [])::k) (kv [(0,.slice ta 1 (l.map aA)),(1,.slice tb 1 (l.map aA)),(5,.int .i64 i)]) H=M.go dA H0 k .leaf H
 |0,i,He,h=>by
  have e:i=l.length:=by omega
  subst e;rw [al M dQ.eq_1];simp (maxSteps:=3000000) (maxDischargeDepth:=6) +contextual -implicitDefEqProofs only [amC M,↓amD,Nat.reduceBEq,Nat.reduceAdd,env,ah,kq,Nat.lt_irrefl]
 |n+1,i,He,h=>by
  have hi:i<l.length:=by omega
  have hx:l[i]?=some l[i]:=List.getElem?_eq_getElem hi;have ih:=fun He=>smw hl (ta:=ta) (tb:=tb) (H:=H) (H0:=H0) k n (i+1) He (by omega)
  simp only [kv_cons,kv_nil] at ih;have ia:=a7 (row:=aA) (tag:=ta) (sz:=1) (k:=.i64) hi;have ib:=a7 (row:=aA) (tag:=tb) (sz:=1) (k:=.i64) hi;have hwi:=dJ (n:=l.length) hi hl;rw [al M dQ.eq_1];simp (maxSteps:=3000000) (maxDischargeDepth:=6) +contextual -implicitDefEqProofs only [amC M,↓amD,Nat.reduceBEq,Nat.reduceAdd,env,ah,kq,amG,AV.cell,Nat.reduceMul,Nat.reduceLeDiff,hi,hx,ia,ib,hwi,ih,dyK,amZ,beq_self_eq_true,(show ∀ s:Str,aA s=[.str s] from fun _=>rfl)]
theorem Ai(hW:WsE E){l:List Str}{ta tb:Tag}(hl:l.length≤bh)(H:List AObj):M.run du [.slice ta 1 (l.map aA),.slice tb 1 (l.map aA)] H=some (.ret (.bool true),H):=by
 have h1:=fun k He=>smw M (H:=H) (H0:=H) (ta:=ta) (tb:=tb) hl k l.length 0 He (by omega)
 simp only [kv_cons,kv_nil,Int.ofNat_zero] at h1;rw [aG M hW.truchmanlaw01_same rfl (c:=kp) rfl,kp];simp (maxSteps:=3000000) (maxDischargeDepth:=6) +contextual -implicitDefEqProofs only [amC M,↓amD,Nat.reduceBEq,Nat.reduceAdd,env,ah,kq,h1,bne_self_eq_false,beq_self_eq_true]
def wyN:Nat→List Str→Nat
 |0,_=>0
 |_,[]=>0
 |n+1,w::l=>w.length+wyN n l
def CX(l:List Str):Bool:=decide ((3000:Int)<((l.length+wyN 700 l:Nat):Int))
theorem wyl{l:List Str}{tg:Tag}(hl:l.length≤bh)(hs:∀ w∈l,w.length≤bh){H H0:List AObj}(k:List Fra):∀ (m i n:Nat) (He:List AObj),i+m=700→i≤l.length→n+m*bh≤701*bh →
  M.go ep H0 (.c b8 :: .lp ⟨(some [0,3,4]),[],false⟩ b8 He :: .blk 0 :: .c (.lv [3])::k) (kv [(0,.slice tg 1 (l.map aA)),(3,.int .i64 n),(4,.int .i64 i)]) H=M.go ep H0 k (kv [(3,.int .i64 ((n+wyN m (l.drop i):Nat):Int))]) H
 |0,i,n,He,h,hi,hn=>by
  obtain rfl:i=700:=by omega
  have d7:decide (((700:Nat):Int)<700)=false:=rfl;have z7:((700:Nat):Int)=700:=rfl;rw [wyN,Nat.add_zero];cases d1:decide (700<l.length) with
  |true=>
   rw [al M b8.eq_1];simp (maxSteps:=3000000) (maxDischargeDepth:=6) +contextual -implicitDefEqProofs only [amC M,↓amD,Nat.reduceBEq,Nat.reduceAdd,env,ah,er,amG,AV.cell,Nat.reduceMul,Nat.reduceLeDiff,d1,of_decide_eq_true d1,d7]
  |false=>
   rw [al M b8.eq_1];simp (maxSteps:=3000000) (maxDischargeDepth:=6) +contextual -implicitDefEqProofs only [amC M,↓amD,Nat.reduceBEq,Nat.reduceAdd,env,ah,er,amG,AV.cell,Nat.reduceMul,Nat.reduceLeDiff,d1,of_decide_eq_false d1,d7]
 |m+1,i,n,He,h,hi,hn=>by
  have d7:decide ((i:Int)<700)=true:=decide_eq_true (by omega)
  by_cases hlt:i<l.length
  ·have hx:l[i]?=some l[i]:=List.getElem?_eq_getElem hlt
   have hm:=hs _ (List.getElem_mem hlt);have ia:=a7 (row:=aA) (tag:=tg) (sz:=1) (k:=.i64) hlt;have hwi:=dJ (n:=l.length) hlt hl;rw [Nat.add_mul,Nat.one_mul] at hn
   have hww:IntKind.i64.wrap ((n:Int)+(l[i].length:Int))=((n+l[i].length:Nat):Int):=by
    simp only [bh] at hn hm;rw [eE (by omega) (by omega)];rfl
   have ih:=fun He=>wyl hl hs (tg:=tg) (H:=H) (H0:=H0) k m (i+1) (n+l[i].length) He (by omega) (by omega) (by omega)
   simp only [kv_cons,kv_nil] at ih;rw [List.drop_eq_getElem_cons hlt,wyN,← Nat.add_assoc];rw [al M b8.eq_1];simp (maxSteps:=3000000) (maxDischargeDepth:=6) +contextual -implicitDefEqProofs only [amC M,↓amD,Nat.reduceBEq,Nat.reduceAdd,env,ah,er,amG,AV.cell,Nat.reduceMul,Nat.reduceLeDiff,hlt,hx,ia,hwi,hww,d7,ih,(show ∀ s:Str,aA s=[.str s] from fun _=>rfl)]
  ·obtain rfl:i=l.length:=by omega
   rw [List.drop_length,show wyN (m+1) []=0 from rfl,Nat.add_zero];rw [al M b8.eq_1];simp (maxSteps:=3000000) (maxDischargeDepth:=6) +contextual -implicitDefEqProofs only [amC M,↓amD,Nat.reduceBEq,Nat.reduceAdd,env,ah,er,Nat.lt_irrefl]
theorem HW(hW:WsE E){l:List Str}{tg:Tag}(hl:l.length≤bh)(hs:∀ w∈l,w.length≤bh)(H:List AObj):M.run jx [.slice tg 1 (l.map aA)] H=some (.ret (.bool (CX l)),H):=by
 have h1:=fun k He=>wyl M hl hs (tg:=tg) (H:=H) (H0:=H) k 700 0 l.length He (by omega) (by omega) (by simp only [bh] at hl ⊢;omega)
 simp only [kv_cons,kv_nil,Int.ofNat_zero,List.drop_zero] at h1;unfold CX;rw [aG M hW.truchmanlaw01_wordy rfl (c:=jC) rfl,jC];simp (maxSteps:=3000000) (maxDischargeDepth:=6) +contextual -implicitDefEqProofs only [amC M,↓amD,Nat.reduceBEq,Nat.reduceAdd,env,ah,er,h1]
end
section
attribute [local congr] aD a8 aO aE aN aI aF au aw aJ aK
variable{E:aT}(M:br bP E)
theorem ixw{H H0:List AObj}{v:Str}{tg:Tag}{l:List Str}(hs:l.length≤bh)(hc:dh H0 H)(k:List Fra):∀ (n i:Nat) (He:List AObj),i+n=l.length →
  M.go bL H0 (.c cg :: .lp ⟨(some [0,1,7,8]),[],false⟩ cg He :: .blk 0 :: .c (.lv [])::k) (kv [(0,.slice tg 1 (l.map aA)),(1,.str v),(7,.int .i64 l.length),(8,.int .i64 i)]) H =
   orE (n8 (Hz fun s=>v == s) i (l.drop i)) (H.take H0.length) (M.go bL H0 k .leaf H)
 |0,i,He,h=>by
  have e:i=l.length:=by omega
  subst e;rw [al M cg.eq_1];simp (maxSteps:=3000000) (maxDischargeDepth:=6) +contextual -implicitDefEqProofs only [amC M,↓amD,Nat.reduceBEq,Nat.reduceAdd,env,ah,eV,Nat.lt_irrefl,List.drop_length]
 |n+1,i,He,h=>by
  have hi:i<l.length:=by omega
  have hx:l[i]?=some l[i]:=List.getElem?_eq_getElem hi;have hd:(l.drop i)=l[i]::l.drop (i+1):=List.drop_eq_getElem_cons hi;have hm:l[i]∈l:=List.getElem_mem hi;have ih:=fun He=>ixw (H:=H) (H0:=H0) (v:=v) (tg:=tg) (l:=l) (hs:=hs) hc k n (i+1)  He (by omega)
  simp only [kv_cons,kv_nil] at ih;rw [al M cg.eq_1];simp (maxSteps:=3000000) (maxDischargeDepth:=6) +contextual -implicitDefEqProofs only [amC M,↓amD,Nat.reduceBEq,Nat.reduceAdd,env,ah,eV,hx,hd,hi,ih,dJ hi hs,a7 hi,Ns,Hz,hc]
theorem En{α:Type}(p:α→Bool):∀ (l:List α) (i:Nat),decide (0≤fN p i l)=l.any p
 |[],_=>rfl
 |x::l,i=>by
  rw [fN,List.any_cons];cases p x with
  |true=>rw [sel_true,Bool.true_or];exact decide_eq_true (by omega)
  |false=>rw [sel_false,Bool.false_or];exact En p l (i+1)
theorem Ba(hW:WsE E){v:Str}{tg:Tag}{l:List Str}(hs:l.length≤bh)(H:List AObj):M.run eh [.slice tg 1 (l.map aA),.str v] H=some (.ret (.bool (l.any fun s=>v == s)),H):=by
 have h1:∀ H,M.run eT [.slice tg 1 (l.map aA),.str v] H=some (.ret (.int .i64 (fN (fun s=>v == s) 0 l)),H):=by
  intro H;have hl:=fun k He=>ixw M (tg:=tg) (v:=v) hs (cut_refl H) k l.length 0 He (by omega)
  simp only [kv_cons,kv_nil,Int.ofNat_zero,List.drop_zero] at hl;rw [aG M hW.slices_Index_string_string rfl (c:=eU) rfl,eU];simp (maxSteps:=3000000) (maxDischargeDepth:=6) +contextual -implicitDefEqProofs only [amC M,↓amD,Nat.reduceBEq,Nat.reduceAdd,env,ah,eV,hl];exact wB _ l 0 H
 rw [← En (fun s=>v == s) l 0];rw [aG M hW.slices_Contains_string_string rfl (c:=ej) rfl,ej];simp (maxSteps:=3000000) (maxDischargeDepth:=6) +contextual -implicitDefEqProofs only [amC M,↓amD,Nat.reduceBEq,Nat.reduceAdd,env,ah,mU,h1]
def FD:List Str:=[[46],[44],[59],[58],[33],[63],[41],[93]]
def qP(a b:Str):Bool := !(FD.any fun s=>b == s) && !(a == [40]) && !(a == [91])
theorem bs8(e:Env):Option.map (fun cs=>AV.slice Tag.full 1 (oY 1 8 (List.map AV.strip cs))) (gn (fun i=>some (i*1,1)) (qX 8 [AV.str []]) (List.map (fun p=>(p.fst,rx e p.snd)) [(0,Sh.s [46]),(1,Sh.s [44]),(2,Sh.s [59]),(3,Sh.s [58]),(4,Sh.s [33]),(5,Sh.s [63]),(6,Sh.s [41]),(7,Sh.s [93])]))=some (.slice .full 1 [[.str [46]],[.str [44]],[.str [59]],[.str [58]],[.str [33]],[.str [63]],[.str [41]],[.str [93]]]):=rfl
theorem FE(hW:WsE E)(a b:Str)(H:List AObj):M.run nF [.str a,.str b] H=some (.ret (.bool (qP a b)),H):=by
 have h1:=fun (t:Tag) H=>Ba M hW (v:=b) (tg:=t) (l:=FD) (by simp [FD,bh]) H
 unfold qP;simp only [FD,List.map_cons,List.map_nil,(show ∀ s:Str,aA s=[.str s] from fun _=>rfl)] at h1 ⊢;generalize ([[46],[44],[59],[58],[33],[63],[41],[93]]:List Str).any (fun s=>b == s)=c at *
 cases c with
 |true=>
  rw [aG M hW.docs_parted rfl (c:=gT) rfl,gT];simp (maxSteps:=3000000) (maxDischargeDepth:=6) +contextual -implicitDefEqProofs only [amC M,↓amD,Nat.reduceBEq,Nat.reduceAdd,env,ah,qc,bs8,h1]
 |false=>
  cases h2:a == [40] with
  |true=>
   rw [aG M hW.docs_parted rfl (c:=gT) rfl,gT];simp (maxSteps:=3000000) (maxDischargeDepth:=6) +contextual -implicitDefEqProofs only [amC M,↓amD,Nat.reduceBEq,Nat.reduceAdd,env,ah,qc,bs8,h1,h2]
  |false=>
   rw [aG M hW.docs_parted rfl (c:=gT) rfl,gT];simp (maxSteps:=3000000) (maxDischargeDepth:=6) +contextual -implicitDefEqProofs only [amC M,↓amD,Nat.reduceBEq,Nat.reduceAdd,env,ah,qc,bs8,h1,h2]
theorem inw{H H0:List AObj}{v:Str}{tg:Tag}{l:List Str}(hs:l.length≤bh)(hc:dh H0 H)(k:List Fra):∀ (n i:Nat) (He:List AObj),i+n=l.length →
  M.go fJ H0 (.c eO :: .lp ⟨(some [0,1,5]),[],false⟩ eO He :: .blk 0 :: .c (.lv [])::k) (kv [(0,.slice tg 1 (l.map aA)),(1,.str v),(5,.int .i64 i)]) H =
   orE (n8 (fun _ s=>sel (s == v) (some (.bool true)) none) i (l.drop i)) (H.take H0.length) (M.go fJ H0 k .leaf H)
 |0,i,He,h=>by
  have e:i=l.length:=by omega
  subst e;rw [al M eO.eq_1];simp (maxSteps:=3000000) (maxDischargeDepth:=6) +contextual -implicitDefEqProofs only [amC M,↓amD,Nat.reduceBEq,Nat.reduceAdd,env,ah,lZ,Nat.lt_irrefl,List.drop_length]
 |n+1,i,He,h=>by
  have hi:i<l.length:=by omega
  have hx:l[i]?=some l[i]:=List.getElem?_eq_getElem hi;have hd:(l.drop i)=l[i]::l.drop (i+1):=List.drop_eq_getElem_cons hi;have hm:l[i]∈l:=List.getElem_mem hi;have ih:=fun He=>inw (H:=H) (H0:=H0) (v:=v) (tg:=tg) (l:=l) (hs:=hs) hc k n (i+1)  He (by omega)
  simp only [kv_cons,kv_nil] at ih;rw [al M eO.eq_1];simp (maxSteps:=3000000) (maxDischargeDepth:=6) +contextual -implicitDefEqProofs only [amC M,↓amD,Nat.reduceBEq,Nat.reduceAdd,env,ah,lZ,hx,hd,hi,ih,dJ hi hs,a7 hi,Ns,hc]
theorem Eo(v:Str):∀ (l:List Str) (i:Nat) (H:List AObj),orE (n8 (fun _ s=>sel (s == v) (some (AV.bool true)) none) i l) H (some (.ret (.bool false),H))=some (.ret (.bool (l.any fun s=>s == v)),H)
 |[],_,_=>rfl
 |x::l,i,H=>by
  rw [List.any_cons];cases h:x == v with
  |true=>rw [pO,h,sel_true,ze,zd];rfl
  |false=>rw [pO,h,sel_false,zf,Eo v l (i+1) H];rfl
theorem JV(hW:WsE E){v:Str}{tg:Tag}{l:List Str}(hs:l.length≤bh)(H:List AObj):M.run iM [.slice tg 1 (l.map aA),.str v] H=some (.ret (.bool (l.any fun s=>s == v)),H):=by
 have hl:=fun k He=>inw M (tg:=tg) (v:=v) hs (cut_refl H) k l.length 0 He (by omega)
 simp only [kv_cons,kv_nil,Int.ofNat_zero,List.drop_zero] at hl;rw [aG M hW.truchmanref01_in rfl (c:=lY) rfl,lY];simp (maxSteps:=3000000) (maxDischargeDepth:=6) +contextual -implicitDefEqProofs only [amC M,↓amD,Nat.reduceBEq,Nat.reduceAdd,env,ah,lZ,hl];exact Eo v l 0 H
theorem bs2(e:Env):Option.map (fun cs=>AV.slice Tag.full 1 (oY 1 2 (List.map AV.strip cs))) (gn (fun i=>some (i*1,1)) (qX 2 [AV.str []]) (List.map (fun p=>(p.fst,rx e p.snd)) [(0,Sh.s [40]),(1,Sh.s [91])]))=some (.slice .full 1 [[.str [40]],[.str [91]]]):=rfl
theorem NH(a b:Str):(a == b)=(b == a):=by rw [Bool.eq_iff_iff,beq_iff_eq,beq_iff_eq];exact eq_comm
theorem HX(hW:WsE E)(a b:Str)(H:List AObj):M.run fQ [.str a,.str b] H=some (.ret (.bool (qP a b)),H):=by
 have h1:=fun (t:Tag) H=>JV M hW (v:=b) (tg:=t) (l:=FD) (by simp [FD,bh]) H
 have h2:=fun (t:Tag) H=>JV M hW (v:=a) (tg:=t) (l:=[[40],[91]]) (by simp [bh]) H
 have e2:(([[40],[91]]:List Str).any fun s=>s == a)=((a == [40])||(a == [91])):=by
  simp only [List.any_cons,List.any_nil,Bool.or_false,NH a]
 rw [show (fun s=>s == b)=(fun s=>b == s) from funext fun s=>NH s b] at h1;rw [e2] at h2;unfold qP;simp only [FD,List.map_cons,List.map_nil,(show ∀ s:Str,aA s=[.str s] from fun _=>rfl)] at h1 h2 ⊢;generalize ([[46],[44],[59],[58],[33],[63],[41],[93]]:List Str).any (fun s=>b == s)=c at *
 cases c with
 |true=>
  rw [aG M hW.truchmanref01_apart rfl (c:=cG) rfl,cG];simp (maxSteps:=3000000) (maxDischargeDepth:=6) +contextual -implicitDefEqProofs only [amC M,↓amD,Nat.reduceBEq,Nat.reduceAdd,env,ah,jK,bs8,bs2,h1]
 |false=>
  cases h3:a == [40] with
  |true=>
   rw [h3] at h2;rw [aG M hW.truchmanref01_apart rfl (c:=cG) rfl,cG];simp (maxSteps:=3000000) (maxDischargeDepth:=6) +contextual -implicitDefEqProofs only [amC M,↓amD,Nat.reduceBEq,Nat.reduceAdd,env,ah,jK,bs8,bs2,h1,h2,Bool.true_or]
  |false=>
   rw [h3] at h2;rw [aG M hW.truchmanref01_apart rfl (c:=cG) rfl,cG];simp (maxSteps:=3000000) (maxDischargeDepth:=6) +contextual -implicitDefEqProofs only [amC M,↓amD,Nat.reduceBEq,Nat.reduceAdd,env,ah,jK,bs8,bs2,h1,h2,Bool.false_or]
end
section
attribute [local congr] aD a8 aO aE aN aI aF au aw aJ aK
variable{E:aT}(M:br bP E)
def bbF:List Str→Str
 |[]=>[]
 |w::l=>sel (lN w) (bbF l) w
theorem rbb(hB:fV E)(hS:fM E)(hW:WsE E){l:List Str}{tg:Tag}(hl:l.length≤bh)(hs:∀ w∈l,w.length≤140737488351232){H H0:List AObj}(hc:dh H0 H)(k:List Fra):∀ (n i:Nat) (He:List AObj),i+n=l.length →
  M.go cV H0 (.c bK :: .lp ⟨(some [0,5]),[],false⟩ bK He :: .blk 0 :: .c (.lv [])::k) (kv [(0,.slice tg 1 (l.map aA)),(5,.int .i64 i)]) H=sel ((l.drop i).all lN) (M.go cV H0 k .leaf H) (some (.ret (.str (bbF (l.drop i))),H.take H0.length))
 |0,i,He,h=>by
  have e:i=l.length:=by omega
  subst e;rw [List.drop_length,List.all_nil,sel_true];rw [al M bK.eq_1];simp (maxSteps:=3000000) (maxDischargeDepth:=6) +contextual -implicitDefEqProofs only [amC M,↓amD,Nat.reduceBEq,Nat.reduceAdd,env,ah,cW,Nat.lt_irrefl]
 |n+1,i,He,h=>by
  have hi:i<l.length:=by omega
  have hx:l[i]?=some l[i]:=List.getElem?_eq_getElem hi;have ih:=fun He=>rbb hB hS hW hl hs (tg:=tg) hc k n (i+1) He (by omega)
  simp only [kv_cons,kv_nil] at ih;have ht:=fun H=>BN M hB hS hW (hs _ (List.getElem_mem hi)) H
  have ia:=a7 (row:=aA) (tag:=tg) (sz:=1) (k:=.i64) hi;have hwi:=dJ (n:=l.length) hi hl;rw [List.drop_eq_getElem_cons hi,List.all_cons,bbF];cases hq:lN l[i] with
  |true=>
   rw [hq] at ht;rw [Bool.true_and,sel_true];rw [al M bK.eq_1];simp (maxSteps:=3000000) (maxDischargeDepth:=6) +contextual -implicitDefEqProofs only [amC M,↓amD,Nat.reduceBEq,Nat.reduceAdd,env,ah,cW,amG,AV.cell,Nat.reduceMul,Nat.reduceLeDiff,hi,hx,ht,ia,hwi,ih,(show ∀ s:Str,aA s=[.str s] from fun _=>rfl)]
  |false=>
   rw [hq] at ht;rw [Bool.false_and,sel_false,sel_false];rw [al M bK.eq_1];simp (maxSteps:=3000000) (maxDischargeDepth:=6) +contextual -implicitDefEqProofs only [amC M,↓amD,Nat.reduceBEq,Nat.reduceAdd,env,ah,cW,amG,AV.cell,Nat.reduceMul,Nat.reduceLeDiff,hi,hx,ht,ia,hc,(show ∀ s:Str,aA s=[.str s] from fun _=>rfl)]
theorem CY:∀ (l:List Str),l.all lN=true→bbF l=[]
 |[],_=>rfl
 |w::l,h=>by
  rw [List.all_cons,Bool.and_eq_true] at h;rw [bbF,h.1,sel_true];exact CY l h.2
theorem Aj(hB:fV E)(hS:fM E)(hW:WsE E){l:List Str}{tg:Tag}(hl:l.length≤bh)(hs:∀ w∈l,w.length≤140737488351232){i:Nat}(hi:i≤l.length)(H:List AObj):M.run fC [.slice tg 1 (l.map aA),.int .i64 i] H=some (.ret (.str (bbF (l.drop i))),H):=by
 have h1:=fun k He=>rbb M hB hS hW hl hs (tg:=tg) (cut_refl H) k (l.length-i) i He (by omega)
 simp only [kv_cons,kv_nil,hp_self] at h1;cases ha:(l.drop i).all lN with
 |true=>
  rw [ha] at h1;simp only [sel_true] at h1;rw [CY _ ha];rw [aG M hW.truchmanref01_bareBehind rfl (c:=cU) rfl,cU];simp (maxSteps:=3000000) (maxDischargeDepth:=6) +contextual -implicitDefEqProofs only [amC M,↓amD,Nat.reduceBEq,Nat.reduceAdd,env,ah,cW,h1]
 |false=>
  rw [ha] at h1;simp only [sel_false] at h1;rw [aG M hW.truchmanref01_bareBehind rfl (c:=cU) rfl,cU];simp (maxSteps:=3000000) (maxDischargeDepth:=6) +contextual -implicitDefEqProofs only [amC M,↓amD,Nat.reduceBEq,Nat.reduceAdd,env,ah,cW,h1]
end
section
attribute [local congr] aD a8 aO aE aN aI aF au aw aJ aK
variable{E:aT}(M:br bP E)
def wI:ag:=⟨1,[32],false⟩
def wPc(w:Str):ag:=sel (pcF w).2 (pcF w).1 ⟨1,w,false⟩
def spR:List Str→List ag→Str→Bool→List ag
 |[],out,_,_=>out
 |w::ws,out,last,blank=>
  sel (lN w)
   (sel (!((wPc w).kind == 3) && !(last == []) && !blank)
    (spR ws (ja (sel (!(bbF (w::ws) == [])&&qP last (bbF (w::ws))) (ja out wI) out) (wPc w)) last true)
    (spR ws (ja out (wPc w)) last blank))
   (spR ws (ja (sel (!(last == []) && !blank&&qP last w) (ja out wI) out) (wPc w)) w false)
def lu:List ag→Bool→List ag→List ag
 |[],due,out=>sel due (ja out wI) out
 |p::tags,due,out=>sel (due && !(p.kind == 3)) (lu tags false (ja (ja out wI) p)) (lu tags due (ja out p))
def spD:List Str→List ag→List ag→Str→Bool→List ag
 |[],tags,out,_,_=>lu tags false out
 |w::ws,tags,out,last,any=>sel (lN w) (spD ws (tags++[wPc w]) out last any) (spD ws [] (ja (lu tags (any&&qP last w) out) (wPc w)) w true)
theorem Ep:∀ (ts:List Str) (w:Str) (ws:List Str),ts.all lN=true→lN w=false→bbF (ts++w::ws)=w
 |[],w,ws,_,h=>by rw [List.nil_append,bbF,h,sel_false]
 |t::ts,w,ws,ha,h=>by
  rw [List.all_cons,Bool.and_eq_true] at ha;rw [List.cons_append,bbF,ha.1,sel_true];exact Ep ts w ws ha.2 h
theorem Ak(w:Str)(ws:List Str)(hw:lN w=false)(hn:(w == ([]:Str))=false)(last:Str):∀ (ts:List Str) (out:List ag) (blank:Bool),ts.all lN=true →
  spR (ts++w::ws) out last blank=spR ws (ja (lu (ts.map wPc) (!(last == []) && !blank&&qP last w) out) (wPc w)) w false
 |[],out,blank,_=>by rw [List.nil_append,spR,hw,sel_false];rfl
 |t::ts,out,blank,ha=>by
  have hb:=Ep (t::ts) w ws ha hw;rw [List.all_cons,Bool.and_eq_true] at ha;rw [List.cons_append] at hb;rw [List.cons_append,spR,ha.1,sel_true,hb,hn,List.map_cons,lu,Ak w ws hw hn last ts _ true ha.2,Ak w ws hw hn last ts _ blank ha.2];cases (wPc t).kind == 3<;>cases last == []<;>cases blank<;>cases qP last w<;>rfl
theorem CZ(last:Str):∀ (ts:List Str) (out:List ag) (blank:Bool),ts.all lN=true→spR ts out last blank=lu (ts.map wPc) false out
 |[],out,blank,_=>rfl
 |t::ts,out,blank,ha=>by
  have hb:=CY (t::ts) ha;rw [List.all_cons,Bool.and_eq_true] at ha;rw [spR,ha.1,sel_true,hb,List.map_cons,lu,CZ last ts _ true ha.2,CZ last ts _ blank ha.2];cases (wPc t).kind == 3<;>cases last == []<;>cases blank<;>rfl
theorem C0:∀ (ws ts:List Str) (out:List ag) (last:Str),(∀ w∈ws,lN w=false→w≠[])→ts.all lN=true →
  spD ws (ts.map wPc) out last (!(last == []))=spR (ts++ws) out last false
 |[],ts,out,last,_,ha=>by rw [List.append_nil,CZ last ts out false ha];rfl
 |w::ws,ts,out,last,hn,ha=>by
  rw [spD];cases hq:lN w with
  |true=>
   rw [sel_true];have ih:=C0 ws (ts++[w]) out last (fun y hy=>hn y (List.mem_cons_of_mem _ hy)) (by rw [List.all_append,ha,List.all_cons,hq];rfl);rw [List.map_append,List.append_assoc] at ih;exact ih
  |false=>
   rw [sel_false];have hw:(w == ([]:Str))=false:=beq_eq_false_iff_ne.2 (hn w List.mem_cons_self hq);have ih:=C0 ws [] (ja (lu (ts.map wPc) (!(last == [])&&qP last w) out) (wPc w)) w (fun y hy=>hn y (List.mem_cons_of_mem _ hy)) rfl;rw [hw] at ih;rw [Ak w ws hq hw last ts out false ha,Bool.not_false,Bool.and_true];exact ih
end
section
attribute [local congr] aD a8 aO aE aN aI aF au aw aJ aK
variable{E:aT}(M:br bP E)
end
section
attribute [local congr] aD a8 aO aE aN aI aF au aw aJ aK
variable{E:aT}(M:br bP E)
def HY(l:List ag):Tag:=match l with
 |[]=>.nil
 |_=>.any
theorem BP:∀ l:List ag,iI 3 l.length (pcC l)=l.map ag.row
 |[]=>rfl
 |x::l=>by
  rw [List.length_cons,show pcC (x::l)=x.row++pcC l from rfl,iI,List.map_cons,show (x.row++pcC l).drop 3=pcC l from rfl,BP l];rfl
theorem MV{k n:Nat}{H:List AObj}(l:List ag):eX (eX (fzF (k+1) n H)) (l.map ag.row)=some (l.map ag.row):=
 DN fun x _=>vS (MC _ _ _ _ _) (vS (MD _ _ _ _) (vS (KK _ _ _ _) (DO _)))
theorem Mc{k n:Nat}{G:List AObj}{w:AV}{l:List ag}(h:PcV G w l)(hf:free (fun i=>i<n) w):fzF (k+2) n G w=some (.slice (HY l) 3 (l.map ag.row)):=by
 rcases h with ⟨rfl,rfl⟩ | ⟨hne,Q,rfl,hQ⟩
 ·exact KJ (t:=.nil) (DO _)
 ·have hn:=hf Q _ _ _ _ rfl
  have ht:HY l = .any:=by
   cases l with
   |nil=>exact absurd rfl hne
   |cons x l=>rfl
  rw [ht];exact Hh (by omega) hQ (by rw [oS];omega) (by rw [List.drop_zero,BP];exact MV l)
end
section
attribute [local congr] aD a8 aO aE aN aI aF au aw aJ aK
variable{E:aT}(M:br bP E)
end
section
attribute [local congr] aD a8 aO aE aN aI aF au aw aJ aK
variable{E:aT}(M:br bP E)
theorem Lx(hC:uI E){H:List AObj}{v:AV}{l:List ag}(h:PcV H v l)(hl:l.length≤100000000)(ht:∀ x∈l,x.text.length≤100000000){p:ag}(hp:p.text.length≤100000000) :
  ∃ w H',M.run bX [v,.agg p.row] H=some (.ret w,H')∧PcV H' w (ja l p)∧w.strip=w∧(∀ Q o n e r,w = .rslice Q o n e r→w=v∨H.length≤Q)∧H.length≤H'.length∧∀ (i:Nat) (y:AObj),H[i]?=some y→(∀ Q,v = .rslice Q 0 l.length 3 true→i≠Q)→H'[i]?=some y:=by
 have r1:∀ H,o6 (some H)=some (dG,H):=fun _=>rfl
 have gx:=aj H [AObj.cells p.row ae];rw [List.getElem?_cons_zero] at gx;have hln:=fun G=>JK (G:=G) h
 have h1:PcV (H++[AObj.cells p.row ae]) v l:=h.stay fun Q cs _ hQ=>bU hQ
 have hlen1:(H++[AObj.cells p.row ae]).length=H.length+1:=by simp
 have more:ja l p=l++[p]→∃ w G,rap true (H++[AObj.cells p.row ae]) ae 3 32 false v (.slice .full 3 [p.row])=some (w,G)∧PcV G w (ja l p)∧w.strip=w∧(∀ Q o n e r,w = .rslice Q o n e r→w=v∨H.length≤Q)∧H.length≤G.length∧∀ (i:Nat) (y:AObj),H[i]?=some y→(∀ Q,v = .rslice Q 0 l.length 3 true→i≠Q)→G[i]?=some y:=fun hpf=>by
  obtain ⟨G,a1,a2,a3,a4⟩:=L9 h1 hl p;rw [hlen1] at a1 a2 a3 a4;refine ⟨_,G,a1,.inr ⟨by rw [hpf];simp,H.length+1,by rw [hpf];simp,by rw [hpf];exact a2⟩,rfl,fun Q o n e r eq=>.inr (by cases eq;omega),by omega,fun i y hi hne => ?_⟩;have hlt:=(List.getElem?_eq_some_iff.1 hi).1;rw [a4 i (by omega) hne];exact bU hi
 rcases (show l=[]∨∃ t x,l=t++[x] by
  rcases List.eq_nil_or_concat l with h | ⟨t,x,h⟩
  ·exact .inl h
  ·exact .inr ⟨t,x,by simpa using h⟩) with rfl | ⟨l,x,rfl⟩
 ·obtain ⟨w,G,m1,m2,m3,m4,m5,m6⟩:=more rfl
  refine ⟨w,G, ?_,m2,m3,m4,m5,m6⟩;have d0:decide ((0:Int)<((0:Nat):Int))=false:=rfl;rw [aG M hC.truchmanref01_add rfl (c:=bZ) rfl,bZ];cases hk:p.kind == 1<;>simp (maxSteps:=3000000) (maxDischargeDepth:=6) +contextual -implicitDefEqProofs only [amC M,↓amD,Nat.reduceBEq,Nat.reduceAdd,env,ah,ij,amG,AV.cell,Nat.reduceMul,Nat.reduceLeDiff,gx,hln,hk,d0,aQ,List.getElem?_cons_zero,m1]
 ·obtain ⟨⟨Q,e1,e2⟩⟩:Nonempty (∃ Q,v = .rslice Q 0 (l.length+1) 3 true∧H[Q]?=some (.cells (pcC (l++[x])) ae)):=by
   rcases h with ⟨h0,_⟩ | ⟨_,Q,h1,h2⟩
   ·simp at h0
   ·exact ⟨⟨Q,by simpa using h1,h2⟩⟩
  have hl2:l.length≤100000000:=by simp at hl;omega
  have hxt:=ht x (by simp);have d1:decide ((0:Int)<(((l++[x]).length:Nat):Int))=true:=decide_eq_true (by simp);have hw2:IntKind.i64.wrap ((((l++[x]).length:Nat):Int)-1)=(l.length:Int):=by rw [eE (by simp) (by simp;omega)];simp
  have hiq:rT 3 v (.int .i64 (l.length:Int))=some (.ptr Q (l.length*3)):=by rw [e1];exact JL (by omega) _
  have hQ1:∀ X,(H++X)[Q]?=_:=fun X=>bU e2
  obtain ⟨q1,q2⟩:=Gv l x;generalize hn:(l++[x]).length=n at d1 hw2 hln;cases hk:p.kind == 1 with
  |false=>
   obtain ⟨w,G,m1,m2,m3,m4,m5,m6⟩:=more (by rw [mh,hk];rfl);refine ⟨w,G, ?_,m2,m3,m4,m5,by rw [← hn];exact m6⟩;rw [aG M hC.truchmanref01_add rfl (c:=bZ) rfl,bZ];simp (maxSteps:=3000000) (maxDischargeDepth:=6) +contextual -implicitDefEqProofs only [amC M,↓amD,Nat.reduceBEq,Nat.reduceAdd,env,ah,ij,amG,AV.cell,Nat.reduceMul,Nat.reduceLeDiff,gx,hln,hk,d1,aQ,List.getElem?_cons_zero,m1]
  |true=>
   cases hx:x.kind == 1 with
   |false=>
    obtain ⟨w,G,m1,m2,m3,m4,m5,m6⟩:=more (by rw [mh,hk,hx];rfl);refine ⟨w,G, ?_,m2,m3,m4,m5,by rw [← hn];exact m6⟩;rw [aG M hC.truchmanref01_add rfl (c:=bZ) rfl,bZ];simp (maxSteps:=3000000) (maxDischargeDepth:=6) +contextual -implicitDefEqProofs only [amC M,↓amD,Nat.reduceBEq,Nat.reduceAdd,env,ah,ij,amG,AV.cell,Nat.reduceMul,Nat.reduceLeDiff,gx,hln,hk,hx,d1,hw2,hiq,hQ1,q1,aQ,List.getElem?_cons_zero,Nat.add_zero,m1]
   |true=>
    have hpf:ja (l++[x]) p=l++[{ x with text:=x.text++p.text }]:=by rw [mh,hk,hx];rfl
    have ha:=bf (s:=x.text) (t:=p.text) (by simp only [List.length_append] at *;omega);have hqlt:=bT e2
    have hst:stO 1 (H++[AObj.cells p.row ae]) Q (l.length*3+1) [.str (x.text++p.text)] (some (.cells (pcC (l++[x])) ae))=some ((H++[AObj.cells p.row ae]).set Q (AObj.cells (pcC (ja (l++[x]) p)) ae)):=by
     rw [stO_cells (sz:=1) rfl (by rw [oS];simp;omega) rfl,Gw,hpf]
    refine ⟨v,(H++[AObj.cells p.row ae]).set Q (AObj.cells (pcC (ja (l++[x]) p)) ae), ?_,.inr ⟨by rw [hpf];simp,Q,by rw [hpf,e1];simp,List.getElem?_set_self (by simp;omega)⟩,by rw [e1];rfl,fun Q o n e r eq=>.inl rfl,by simp,fun i y hi hne => ?_⟩
    ·rw [aG M hC.truchmanref01_add rfl (c:=bZ) rfl,bZ]
     simp (maxSteps:=3000000) (maxDischargeDepth:=6) +contextual -implicitDefEqProofs only [amC M,↓amD,Nat.reduceBEq,Nat.reduceAdd,env,ah,ij,amG,AV.cell,Nat.reduceMul,Nat.reduceLeDiff,gx,hln,hk,hx,d1,hw2,hiq,hQ1,q1,q2,ha,hst,aQ,List.getElem?_cons_zero,r1,Nat.add_zero]
    ·rw [List.getElem?_set_ne (fun e=>hne Q (by rw [← hn,e1];simp) e.symm)];exact bU hi
end
section
attribute [local congr] aD a8 aO aE aN aI aF au aw aJ aK
variable{E:aT}(M:br bP E)
theorem Ly(w:Str):(A9 w).1=wPc w:=by
 unfold A9 wPc;have h:=vz w;cases e:(rmk w).2 with
 |false=>rw [h.1,e];rfl
 |true=>rw [h.1,e,sel_true,sel_true,h.2 e]
theorem MW(w:Str):lN w=(((wPc w).kind == 2)||((wPc w).kind == 3)||((wPc w).kind == 4)):=by
 rw [JO];unfold wPc;have h:=vz w;cases e:(rmk w).2 with
 |false=>rw [h.1,e];rfl
 |true=>rw [h.1,e,sel_true,h.2 e,Bool.true_and]
theorem GB(w:Str):(wPc w).text.length≤w.length+1:=by
 have h:=FA w;unfold wP at h;unfold wPc;cases e:(pcF w).2 with
 |false=>rw [sel_false];simp
 |true=>rw [e,sel_true] at h;rw [sel_true];exact h
def PcB(m:Nat)(l:List ag):Prop:=l.length≤m∧∀ x∈l,x.text.length≤m
theorem PcB.put{m:Nat}{l:List ag}(h:PcB m l)(p:ag):PcB (m+(p.text.length+1)) (ja l p):=
 ⟨by have:=JR l p;have:=h.1;omega,fun x hx=>by have:=JS h.2 (Nat.le_refl p.text.length) x hx;omega⟩
theorem PcB.mono{m n:Nat}{l:List ag}(h:PcB m l)(hm:m≤n):PcB n l:=⟨Nat.le_trans h.1 hm,fun x hx=>Nat.le_trans (h.2 x hx) hm⟩
def wtS(l:List Str):Nat:=(l.map fun w=>w.length+8).sum
theorem vD(w:Str)(l:List Str):wtS (w::l)=w.length+8+wtS l:=by simp [wtS]
structure SpV (R:Nat→Prop) (H:List AObj) (v:AV) (l:List ag):Prop where
 rl:∀ i,R i→i<H.length
 pv:PcV H v l
 fr:free R v
structure qk (R:Nat→Prop) (H H':List AObj):Prop where
 len:H.length≤H'.length
 low:∀ i,R i→H'[i]?=H[i]?
theorem qk.refl(R:Nat→Prop)(H:List AObj):qk R H H:=⟨Nat.le_refl _,fun _ _=>rfl⟩
theorem qk.trans{R:Nat→Prop}{A B C:List AObj}(h:qk R A B)(k:qk R B C):qk R A C:=⟨Nat.le_trans h.len k.len,fun i hi=>(k.low i hi).trans (h.low i hi)⟩
theorem qk.mono{R R':Nat→Prop}{A B:List AObj}(h:qk R A B)(hr:∀ i,R' i→R i):qk R' A B:=⟨h.len,fun i hi=>h.low i (hr i hi)⟩
theorem SpV.mono{R R':Nat→Prop}{H:List AObj}{v:AV}{l:List ag}(h:SpV R H v l)(hr:∀ i,R' i→R i):SpV R' H v l:=⟨fun i hi=>h.rl i (hr i hi),h.pv,fun Q o n e r eq hR=>h.fr Q o n e r eq (hr _ hR)⟩
theorem SpV.alloc{R:Nat→Prop}{H:List AObj}{v:AV}{l:List ag}(h:SpV R H v l)(x:AObj):SpV (fun i=>R i∨i=H.length) (H++[x]) v l∧qk R H (H++[x]):=by
 refine ⟨⟨fun i hi => ?_,h.pv.stay fun Q cs _ hQ=>bU hQ,fun Q o n e r eq hR => ?_⟩,⟨by simp,fun i hi=>List.getElem?_append_left (h.rl i hi)⟩⟩
 ·rcases hi with hi | hi
  ·have:=h.rl i hi;simp;omega
  ·simp;omega
 ·rcases hR with hR | hR
  ·exact h.fr Q o n e r eq hR
  ·rcases h.pv with ⟨_,hv⟩ | ⟨_,Q',hv,hQ⟩
   ·rw [hv] at eq;cases eq
   ·rw [hv] at eq;cases eq;have:=bT hQ;omega
theorem SpV.add(hC:uI E){R:Nat→Prop}{H:List AObj}{v:AV}{l:List ag}(h:SpV R H v l){m:Nat}(hb:PcB m l)(hm:m≤100000000)(p:ag)(hp:p.text.length≤100000000) :
  ∃ w H',M.run bX [v,.agg p.row] H=some (.ret w,H')∧SpV R H' w (ja l p)∧qk R H H':=by
 obtain ⟨w,H',a1,a2,_,a4,a5,a6⟩:=Lx M hC h.pv (by have:=hb.1;omega) (fun x hx=>by have:=hb.2 x hx;omega) hp;refine ⟨w,H',a1,⟨fun i hi=>Nat.lt_of_lt_of_le (h.rl i hi) a5,a2,fun Q o n e r eq hR => ?_⟩,⟨a5,fun i hi => ?_⟩⟩
 ·rcases a4 Q o n e r eq with hv | hv
  ·exact h.fr Q o n e r (hv ▸ eq) hR
  ·have:=h.rl _ hR;omega
 ·have hlt:=h.rl i hi
  rw [List.getElem?_eq_getElem hlt];exact a6 i _ (List.getElem?_eq_getElem hlt) fun Q eq ei=>h.fr Q _ _ _ _ eq (ei ▸ hi)
theorem rsp(hB:fV E)(hS:fM E)(hU:kR E)(hC:uI E)(hW:WsE E){l:List Str}{tg:Tag}(hl:l.length≤1000000)(hs:∀ w∈l,w.length≤1000000){R:Nat→Prop}{H0:List AObj} :
  ∀ (n i m:Nat) (H:List AObj) (v:AV) (o:List ag) (last:Str) (blank:Bool),i+n=l.length→SpV R H v o→PcB m o→m+wtS (l.drop i)≤100000000 →
  ∃ v' H',(∀ (k:List Fra) (He:List AObj),M.go ct H0 (.c aM :: .lp ⟨(some [0,3,4,5,6]),[],false⟩ aM He :: .blk 0 :: .c (.lv [3])::k) (kv [(0,.slice tg 1 (l.map aA)),(3,v),(4,.str last),(5,.bool blank),(6,.int .i64 i)]) H=M.go ct H0 k (kv [(3,v')]) H')∧SpV R H' v' (spR (l.drop i) o last blank)∧qk R H H'
 |0,i,m,H,v,o,last,blank,h,hv,hb,hm=>by
  have e:i=l.length:=by omega
  subst e;refine ⟨v,H,fun k He => ?_,by rw [List.drop_length];exact hv,qk.refl _ _⟩;rw [al M aM.eq_1];simp (maxSteps:=3000000) (maxDischargeDepth:=6) +contextual -implicitDefEqProofs only [amC M,↓amD,Nat.reduceBEq,Nat.reduceAdd,env,ah,aX,Nat.lt_irrefl]
 |n+1,i,m,H,v,o,last,blank,h,hv,hb,hm=>by
  have hi:i<l.length:=by omega
  have hx:l[i]?=some l[i]:=List.getElem?_eq_getElem hi;have hsz:=hs _ (List.getElem_mem hi);have hp:=fun H=>Af M hB hS hU hW (w:=l[i]) (by omega) H
  have ht:=fun H=>Ac M hW (wPc l[i]).kind H
  rw [← MW] at ht;have hwi:=dJ (n:=l.length) hi (by simp only [bh];omega);have hir:=a7 (row:=aA) (tag:=tg) (sz:=1) (k:=.i64) hi;have hbb:=fun H=>Aj M hB hS hW (l:=l) (tg:=tg) (i:=i) (by simp only [bh];omega) (fun w hw=>by have:=hs w hw;omega) (by omega) H
  have hap:=fun a b H=>HX M hW a b H
  have hr:∀ p:ag,p.row=[.int .u8 p.kind,.str p.text,.bool p.car]:=fun _=>rfl
  have hsr:∀ s:Str,aA s=[.str s]:=fun _=>rfl
  have hwt:=GB l[i];have hd:=List.drop_eq_getElem_cons hi;simp only [kQ,hr,Ly] at hp;rw [hd,vD] at hm;rw [hd] at hbb;rw [hd,spR];obtain ⟨h1,f1⟩:=hv.alloc (AObj.cells (wPc l[i]).row ae);rw [hr] at h1 f1;have g0:(H++[AObj.cells [.int .u8 (wPc l[i]).kind,.str (wPc l[i]).text,.bool (wPc l[i]).car] ae])[H.length]?=some (AObj.cells [.int .u8 (wPc l[i]).kind,.str (wPc l[i]).text,.bool (wPc l[i]).car] ae):=by rw [aj];rfl
  have fin:∀ (A:List AObj) (va:AV) (oa:List ag) (ma:Nat) (last':Str) (blank':Bool),SpV (fun i=>R i∨i=H.length) A va oa→qk (fun i=>R i∨i=H.length) (H++[AObj.cells [.int .u8 (wPc l[i]).kind,.str (wPc l[i]).text,.bool (wPc l[i]).car] ae]) A→PcB ma oa→ma≤m+2 →
    A[H.length]?=some (AObj.cells [.int .u8 (wPc l[i]).kind,.str (wPc l[i]).text,.bool (wPc l[i]).car] ae) ∧
    ∃ wa Ga,M.run bX [va,.agg [.int .u8 (wPc l[i]).kind,.str (wPc l[i]).text,.bool (wPc l[i]).car]] A=some (.ret wa,Ga) ∧
    ∃ v' H',(∀ (k:List Fra) (He:List AObj),M.go ct H0 (.c aM :: .lp ⟨(some [0,3,4,5,6]),[],false⟩ aM He :: .blk 0 :: .c (.lv [3])::k) (kv [(0,.slice tg 1 (l.map aA)),(3,wa),(4,.str last'),(5,.bool blank'),(6,.int .i64 ((i+1:Nat):Int))]) Ga=M.go ct H0 k (kv [(3,v')]) H')∧SpV R H' v' (spR (l.drop (i+1)) (ja oa (wPc l[i])) last' blank')∧qk R H H':=fun A va oa ma last' blank' ha la hba hma=>by
   refine ⟨by rw [la.low _ (.inr rfl)];exact g0, ?_⟩;obtain ⟨wa,Ga,a1,a2,a3⟩:=ha.add M hC hba (by omega) (wPc l[i]) (by omega);obtain ⟨v',H',i1,i2,i3⟩:=rsp hB hS hU hC hW (tg:=tg) hl hs n (i+1) _ Ga wa _ last' blank' (by omega) (a2.mono fun _=>.inl) (hba.put (wPc l[i])) (by omega);exact ⟨wa,Ga,a1,v',H',i1,i2,f1.trans (((la.trans a3).mono fun _=>.inl).trans i3)⟩
  have bl:∃ wb Gb,M.run bX [v,.agg [.int .u8 1,.str [32],.bool false]] (H++[AObj.cells [.int .u8 (wPc l[i]).kind,.str (wPc l[i]).text,.bool (wPc l[i]).car] ae])=some (.ret wb,Gb)∧SpV (fun i=>R i∨i=H.length) Gb wb (ja o wI)∧qk (fun i=>R i∨i=H.length) (H++[AObj.cells [.int .u8 (wPc l[i]).kind,.str (wPc l[i]).text,.bool (wPc l[i]).car] ae]) Gb∧PcB (m+2) (ja o wI):=by
   obtain ⟨wb,Gb,b1,b2,b3⟩:=h1.add M hC hb (by omega) wI (by decide);exact ⟨wb,Gb,b1,b2,b3,hb.put wI⟩
  obtain ⟨wb,Gb,b1,b2,b3,b4⟩:=bl;cases ht1:lN l[i] with
  |true=>
   rw [ht1] at ht;rw [sel_true];cases hc : !((wPc l[i]).kind == 3) && !(last == []) && !blank with
   |true=>
    rw [sel_true];simp only [Bool.and_eq_true,Bool.not_eq_true'] at hc;obtain ⟨⟨c1,c2⟩,rfl⟩:=hc;cases hq : !(bbF (l[i]::l.drop (i+1)) == [])&&qP last (bbF (l[i]::l.drop (i+1))) with
    |true=>
     rw [sel_true];simp only [Bool.and_eq_true,Bool.not_eq_true'] at hq;obtain ⟨q1,q2⟩:=hq;obtain ⟨x0,wa,Ga,a1,v',H',i1,i2,i3⟩:=fin Gb wb _ _ last true b2 b3 b4 (Nat.le_refl _);refine ⟨v',H',fun k He => ?_,i2,i3⟩;have i1:=i1 k;simp only [kv_cons,kv_nil] at i1;rw [al M aM.eq_1];simp (maxSteps:=3000000) (maxDischargeDepth:=6) +contextual -implicitDefEqProofs only [amC M,↓amD,Nat.reduceBEq,Nat.reduceAdd,env,ah,aX,amG,AV.cell,Nat.reduceMul,Nat.reduceLeDiff,hi,hx,hp,ht,hwi,hir,hsr,hbb,hap,c1,c2,q1,q2,b1,x0,a1,i1,g0,aj,hp_set0,aR,List.getElem?_cons_zero,List.getElem?_cons_succ]
    |false=>
     rw [sel_false];obtain ⟨x0,wa,Ga,a1,v',H',i1,i2,i3⟩:=fin _ v o m last true h1 (qk.refl _ _) hb (by omega);refine ⟨v',H',fun k He => ?_,i2,i3⟩;have i1:=i1 k;simp only [kv_cons,kv_nil] at i1;cases q1:bbF (l[i]::l.drop (i+1)) == [] with
     |true=>
      rw [al M aM.eq_1];simp (maxSteps:=3000000) (maxDischargeDepth:=6) +contextual -implicitDefEqProofs only [amC M,↓amD,Nat.reduceBEq,Nat.reduceAdd,env,ah,aX,amG,AV.cell,Nat.reduceMul,Nat.reduceLeDiff,hi,hx,hp,ht,hwi,hir,hsr,hbb,hap,c1,c2,q1,a1,i1,g0,aj,hp_set0,aR,List.getElem?_cons_zero,List.getElem?_cons_succ]
     |false=>
      rw [q1,Bool.not_false,Bool.true_and] at hq;rw [al M aM.eq_1];simp (maxSteps:=3000000) (maxDischargeDepth:=6) +contextual -implicitDefEqProofs only [amC M,↓amD,Nat.reduceBEq,Nat.reduceAdd,env,ah,aX,amG,AV.cell,Nat.reduceMul,Nat.reduceLeDiff,hi,hx,hp,ht,hwi,hir,hsr,hbb,hap,c1,c2,q1,hq,a1,i1,g0,aj,hp_set0,aR,List.getElem?_cons_zero,List.getElem?_cons_succ]
   |false=>
    rw [sel_false];obtain ⟨x0,wa,Ga,a1,v',H',i1,i2,i3⟩:=fin _ v o m last blank h1 (qk.refl _ _) hb (by omega);refine ⟨v',H',fun k He => ?_,i2,i3⟩;have i1:=i1 k;simp only [kv_cons,kv_nil] at i1;cases c1:(wPc l[i]).kind == 3 with
    |true=>
     rw [al M aM.eq_1];simp (maxSteps:=3000000) (maxDischargeDepth:=6) +contextual -implicitDefEqProofs only [amC M,↓amD,Nat.reduceBEq,Nat.reduceAdd,env,ah,aX,amG,AV.cell,Nat.reduceMul,Nat.reduceLeDiff,hi,hx,hp,ht,hwi,hir,hsr,c1,a1,i1,g0,aj,hp_set0,aR,List.getElem?_cons_zero,List.getElem?_cons_succ]
    |false=>
     cases c2:last == [] with
     |true=>
      rw [al M aM.eq_1];simp (maxSteps:=3000000) (maxDischargeDepth:=6) +contextual -implicitDefEqProofs only [amC M,↓amD,Nat.reduceBEq,Nat.reduceAdd,env,ah,aX,amG,AV.cell,Nat.reduceMul,Nat.reduceLeDiff,hi,hx,hp,ht,hwi,hir,hsr,c1,c2,a1,i1,g0,aj,hp_set0,aR,List.getElem?_cons_zero,List.getElem?_cons_succ]
     |false=>
      rw [c1,c2,Bool.not_false,Bool.true_and,Bool.true_and,Bool.not_eq_false'] at hc;subst hc;rw [al M aM.eq_1];simp (maxSteps:=3000000) (maxDischargeDepth:=6) +contextual -implicitDefEqProofs only [amC M,↓amD,Nat.reduceBEq,Nat.reduceAdd,env,ah,aX,amG,AV.cell,Nat.reduceMul,Nat.reduceLeDiff,hi,hx,hp,ht,hwi,hir,hsr,c1,c2,a1,i1,g0,aj,hp_set0,aR,List.getElem?_cons_zero,List.getElem?_cons_succ]
  |false=>
   rw [ht1] at ht;rw [sel_false];cases hc : !(last == []) && !blank&&qP last l[i] with
   |true=>
    rw [sel_true];simp only [Bool.and_eq_true,Bool.not_eq_true'] at hc;obtain ⟨⟨c1,rfl⟩,c2⟩:=hc;obtain ⟨x0,wa,Ga,a1,v',H',i1,i2,i3⟩:=fin Gb wb _ _ l[i] false b2 b3 b4 (Nat.le_refl _);refine ⟨v',H',fun k He => ?_,i2,i3⟩;have i1:=i1 k;simp only [kv_cons,kv_nil] at i1;rw [al M aM.eq_1];simp (maxSteps:=3000000) (maxDischargeDepth:=6) +contextual -implicitDefEqProofs only [amC M,↓amD,Nat.reduceBEq,Nat.reduceAdd,env,ah,aX,amG,AV.cell,Nat.reduceMul,Nat.reduceLeDiff,hi,hx,hp,ht,hwi,hir,hsr,hap,c1,c2,b1,x0,a1,i1,g0,aj,hp_set0,aR,List.getElem?_cons_zero,List.getElem?_cons_succ]
   |false=>
    rw [sel_false];obtain ⟨x0,wa,Ga,a1,v',H',i1,i2,i3⟩:=fin _ v o m l[i] false h1 (qk.refl _ _) hb (by omega);refine ⟨v',H',fun k He => ?_,i2,i3⟩;have i1:=i1 k;simp only [kv_cons,kv_nil] at i1;cases c1:last == [] with
    |true=>
     rw [al M aM.eq_1];simp (maxSteps:=3000000) (maxDischargeDepth:=6) +contextual -implicitDefEqProofs only [amC M,↓amD,Nat.reduceBEq,Nat.reduceAdd,env,ah,aX,amG,AV.cell,Nat.reduceMul,Nat.reduceLeDiff,hi,hx,hp,ht,hwi,hir,hsr,c1,a1,i1,g0,aj,hp_set0,aR,List.getElem?_cons_zero,List.getElem?_cons_succ]
    |false=>
     cases blank with
     |true=>
      rw [al M aM.eq_1];simp (maxSteps:=3000000) (maxDischargeDepth:=6) +contextual -implicitDefEqProofs only [amC M,↓amD,Nat.reduceBEq,Nat.reduceAdd,env,ah,aX,amG,AV.cell,Nat.reduceMul,Nat.reduceLeDiff,hi,hx,hp,ht,hwi,hir,hsr,c1,a1,i1,g0,aj,hp_set0,aR,List.getElem?_cons_zero,List.getElem?_cons_succ]
     |false=>
      rw [c1,Bool.not_false,Bool.true_and,Bool.true_and] at hc;rw [al M aM.eq_1];simp (maxSteps:=3000000) (maxDischargeDepth:=6) +contextual -implicitDefEqProofs only [amC M,↓amD,Nat.reduceBEq,Nat.reduceAdd,env,ah,aX,amG,AV.cell,Nat.reduceMul,Nat.reduceLeDiff,hi,hx,hp,ht,hwi,hir,hsr,hap,c1,hc,a1,i1,g0,aj,hp_set0,aR,List.getElem?_cons_zero,List.getElem?_cons_succ]
theorem Er(hB:fV E)(hS:fM E)(hU:kR E)(hC:uI E)(hW:WsE E){l:List Str}{tg:Tag}(hl:l.length≤1000000)(hs:∀ w∈l,w.length≤1000000)(hm:wtS l≤100000000)(H:List AObj) :
  M.run iK [.slice tg 1 (l.map aA)] H=some (.ret (.slice (HY (spR l [] [] false)) 3 ((spR l [] [] false).map ag.row)),H):=by
 have h0:SpV (fun i=>i<H.length) H (.slice .nil 3 []) []:=⟨fun _ h=>h,.inl ⟨rfl,rfl⟩,fun Q o n e r eq=>(by cases eq)⟩
 obtain ⟨v,G,i1,i2,i3⟩:=rsp M hB hS hU hC hW (tg:=tg) hl hs (H0:=H) l.length 0 0 H _ [] [] false (by omega) h0 ⟨Nat.le_refl _,fun x hx=>(by cases hx)⟩ (by rw [List.drop_zero];omega);simp only [kv_cons,kv_nil,Int.ofNat_zero,List.drop_zero] at i1 i2
 have hk:G.take H.length=H:=by
  refine List.ext_getElem? fun i => ?_
  by_cases hi:i<H.length
  ·rw [List.getElem?_take_of_lt hi,i3.low i hi]
  ·rw [List.getElem?_eq_none (by simp;omega),List.getElem?_eq_none (by omega)]
 have hcut:dh H G:=⟨i3.len,fun i x hi hx=>.inl (by rw [← hk,List.getElem?_take_of_lt hi];exact hx)⟩
 have hh:=y7 hcut ⟨4,Mc i2.pv i2.fr⟩;rw [hk] at hh;rw [aG M hW.truchmanref01_spaced rfl (c:=iP) rfl,iP];simp (maxSteps:=3000000) (maxDischargeDepth:=6) +contextual -implicitDefEqProofs only [amC M,↓amD,Nat.reduceBEq,Nat.reduceAdd,env,ah,aX,i1,hh]
end
section
attribute [local congr] aD a8 aO aE aN aI aF au aw aJ aK
variable{E:aT}(M:br bP E)
theorem si.grow{R R':Nat→Prop}{c:Nat}{H H':List AObj}{S:CSt}(h:si R c H S)(hlen:H.length≤H'.length)(hs:∀ (i:Nat) (y:AObj),¬ R i→H[i]?=some y→H'[i]?=some y)(hr:∀ i,R' i→i<H'.length)(hn:∀ i,R' i→¬ R i→H.length≤i):si R' c H' S:=by
 obtain ⟨P,q,vs,v,ta,ov,h⟩:=h;have nr:∀ (i:Nat),¬ R i→i<H.length→¬ R' i:=fun i h1 h2 h3=>by have:=hn i h3 h1;omega
 have fr:∀ {w:AV}{l:List ag},PcV H w l→free R w→PcV H' w l∧free R' w:=fun {w l} hp hf=>by
  refine ⟨hp.stay fun Q cs e hQ=>hs Q _ (hf Q _ _ _ _ e) hQ,fun Q o n e r eq hR => ?_⟩;rcases hp with ⟨_,hv⟩ | ⟨_,Q',hv,hQ⟩
  ·rw [hv] at eq;cases eq
  ·have e1:=hv
   rw [hv] at eq;cases eq;exact nr _ (hf _ _ _ _ _ e1) (bT hQ) hR
 refine ⟨P,q,vs,v,ta,ov,⟨nr c h.hn (bT h.cell),nr P h.hP (bT h.par),hr,hs c _ h.hn h.cell,hs P _ h.hP h.par,h.len,fun i w l hi hl => ?_,(fr h.cr h.pr).1,h.ab,(fr h.cr h.pr).2,Nat.le_trans h.ql hlen, ?_, ?_,h.tg⟩⟩
 ·obtain ⟨d1,d2,d3⟩:=h.dn i w l hi hl
  exact ⟨(fr d1 d3).1,d2,(fr d1 d3).2⟩
 ·rcases h.op with hz | ⟨O,junk,h1,h2⟩
  ·exact .inl hz
  ·exact .inr ⟨O,junk,h1,hs O _ (h.oa _ _ _ _ _ h1) h2⟩
 ·intro Q o n e r eq hR
  rcases h.op with ⟨_,hv⟩ | ⟨O,junk,h1,h2⟩
  ·rw [hv] at eq;cases eq
  ·have e1:=h1
   rw [eq] at h1;cases h1;exact nr _ (h.oa _ _ _ _ _ e1) (bT h2) hR
def FF(N:Nat)(R:Nat→Prop)(H:List AObj)(v:AV)(l:List ag):Prop:=(l=[]∧v = .slice .nil 3 [])∨∃ t,N≤t∧R t∧v = .slice (.own t) 3 (l.map ag.row)∧H[t]?=some (.tok (l.length*3) ae)
structure SdV (R:Nat→Prop) (H0 H:List AObj) (ts:List ag) (tv:AV) (o:List ag):Prop where
 lo:∀ i,i<H0.length→R i
 k2:R (H0.length+2)
 k3:R (H0.length+3)
 k4:R (H0.length+4)
 cv:si R (H0.length+1) H ⟨[],o,[],0,false,[]⟩
 c2:H[H0.length+2]?=some (.cells [.ptr (H0.length+1) 0] lP)
 c3:H[H0.length+3]?=some (.cells [tv] ao)
 c4:H[H0.length+4]?=some (.cells [.fn (.func gi) [] [.ptr (H0.length+2) 0]] CF)
 tg:FF H0.length R H tv ts
 low:∀ i,i<H0.length→H[i]?=H0[i]?
theorem SdV.rl{R:Nat→Prop}{H0 H:List AObj}{ts:List ag}{tv:AV}{o:List ag}(h:SdV R H0 H ts tv o):∀ i,R i→i<H.length:=by
 obtain ⟨P,q,vs,v,ta,ov,h⟩:=h.cv;exact h.rl
theorem FF.stay{N:Nat}{R R':Nat→Prop}{H H':List AObj}{v:AV}{l:List ag}(h:FF N R H v l)(hr:∀ i,R i→R' i)(hs:∀ i n,R i→H[i]?=some (.tok n ae)→H'[i]?=some (.tok n ae)):FF N R' H' v l:=by
 rcases h with h | ⟨t,h0,h1,h2,h3⟩
 ·exact .inl h
 ·exact .inr ⟨t,h0,hr t h1,h2,hs t _ h1 h3⟩
theorem FF.sl{N:Nat}{R:Nat→Prop}{H:List AObj}{v:AV}{l:List ag}(h:FF N R H v l):∃ tg,v = .slice tg 3 (l.map ag.row):=by
 rcases h with ⟨rfl,h⟩ | ⟨t,_,_,h,_⟩
 ·exact ⟨_,h⟩
 ·exact ⟨_,h⟩
theorem SdV.alloc{R:Nat→Prop}{H0 H:List AObj}{ts:List ag}{tv:AV}{o:List ag}(h:SdV R H0 H ts tv o)(x:AObj):SdV (fun i=>R i∨i=H.length) H0 (H++[x]) ts tv o:=by
 have hrl:=h.rl;have hg:∀ (i:Nat) (y:AObj),H[i]?=some y→(H++[x])[i]?=some y:=fun i y hy=>bU hy
 refine ⟨fun i hi=>.inl (h.lo i hi),.inl h.k2,.inl h.k3,.inl h.k4,h.cv.grow (by simp) (fun i y _ hy=>hg i y hy) (fun i hi => ?_) (fun i hi hn => ?_),hg _ _ h.c2,hg _ _ h.c3,hg _ _ h.c4,h.tg.stay (fun _=>.inl) (fun i n _ hy=>hg i _ hy),fun i hi => ?_⟩
 ·rcases hi with hi | hi
  ·have:=hrl i hi;simp;omega
  ·simp;omega
 ·rcases hi with hi | hi
  ·exact absurd hi hn
  ·omega
 ·rw [List.getElem?_append_left (hrl i (h.lo i hi))];exact h.low i hi
theorem SdV.back{R R1:Nat→Prop}{H0 H H':List AObj}{ts:List ag}{tv:AV}{o o':List ag}(h:SdV R H0 H ts tv o)(h':SdV R1 H0 H' ts tv o')(hr:∀ i,R i→R1 i):SdV R H0 H' ts tv o':=by
 have hrl:=h'.rl;refine ⟨h.lo,h.k2,h.k3,h.k4,h'.cv.grow (Nat.le_refl _) (fun _ _ _ hy=>hy) (fun i hi=>hrl i (hr i hi)) (fun i hi hn=>absurd (hr i hi) hn),h'.c2,h'.c3,h'.c4, ?_,h'.low⟩;rcases h'.tg with h1 | ⟨t,h0,h1,h2,h3⟩
 ·exact .inl h1
 ·rcases h.tg with ⟨_,g2⟩ | ⟨t',_,g1,g2,_⟩
  ·rw [g2] at h2;cases h2
  ·rw [g2] at h2
   injection h2 with h2;injection h2 with h2;subst h2;exact .inr ⟨_,h0,g1,g2,h3⟩
theorem SdV.put(hC:uI E){R:Nat→Prop}{H0 H:List AObj}{ts:List ag}{tv:AV}{o:List ag}(h:SdV R H0 H ts tv o){m:Nat}(hb:PcB m o)(hm:m≤100000000)(p:ag)(hp:p.text.length≤100000000) :
  ∃ H',M.run bp [.ptr (H0.length+1) 0,.agg p.row] H=some (.ret (.tuple []),H')∧SdV R H0 H' ts tv (ja o p)∧qk R H H':=by
 obtain ⟨H',a1,a2,a3,_⟩:=Lq M hC h.cv (by simp) (by have:=hb.1;dsimp only;omega) (fun x hx=>by have:=hb.2 x hx;omega) hp;refine ⟨H',a1,⟨h.lo,h.k2,h.k3,h.k4,a2, ?_, ?_, ?_,h.tg.stay (fun _ hi=>hi) (fun i n hi hy=>by rw [a3.low i hi];exact hy),fun i hi=>by rw [a3.low i (h.lo i hi)];exact h.low i hi⟩,⟨a3.len,a3.low⟩⟩
 ·rw [a3.low _ h.k2];exact h.c2
 ·rw [a3.low _ h.k3];exact h.c3
 ·rw [a3.low _ h.k4];exact h.c4
theorem BQ(hC:uI E)(hW:WsE E){R:Nat→Prop}{H0 H:List AObj}{ts:List ag}{tv:AV}{o:List ag}(h:SdV R H0 H ts tv o){m:Nat}(hb:PcB m o)(hm:m≤100000000) :
  ∃ H',M.run gi [.ptr (H0.length+2) 0] H=some (.ret (.tuple []),H')∧SdV R H0 H' ts tv (ja o wI)∧qk R H H':=by
 obtain ⟨H',a1,a2,a3⟩:=h.put M hC hb hm wI (by decide);refine ⟨H', ?_,a2,a3⟩;have hr:wI.row=[.int .u8 1,.str [32],.bool false]:=rfl;rw [hr] at a1;have c2:=h.c2;have l1:∀ v:AV,bJ none [v] 0=some v:=fun _=>rfl
 rw [aG M hW.docs_spaced_1 rfl (c:=od) rfl,od];simp (maxSteps:=3000000) (maxDischargeDepth:=6) +contextual -implicitDefEqProofs only [amC M,↓amD,Nat.reduceBEq,Nat.reduceAdd,env,ah,xu,amG,AV.cell,Nat.reduceMul,Nat.reduceLeDiff,c2,l1,a1]
def wtP(l:List ag):Nat:=(l.map fun p=>p.text.length+4).sum
theorem Et(p:ag)(l:List ag):wtP (p::l)=p.text.length+4+wtP l:=by simp [wtP]
theorem sfl(hC:uI E)(hW:WsE E){R:Nat→Prop}{H0 Hc:List AObj}{ts:List ag}{tv:AV}(ht:ts.length≤1000000)(hx:∀ p∈ts,p.text.length≤10000000) :
  ∀ (n i m:Nat) (H:List AObj) (o:List ag) (due:Bool),i+n=ts.length→SdV R H0 H ts tv o→PcB m o→m+wtP (ts.drop i)≤100000000 →
  ∃ H' due' o',(∀ (k:List Fra) (He:List AObj),M.go gl Hc (.c dU :: .lp ⟨(some [0,1,2,3,7,8,9]),[],false⟩ dU He :: .blk 0 :: .c (.lv [0,1,2])::k) (kv [(0,.bool due),(1,.ptr (H0.length+3) 0),(2,.ptr (H0.length+4) 0),(3,.ptr (H0.length+2) 0),(7,tv),(8,.int .i64 ts.length),(9,.int .i64 i)]) H=M.go gl Hc k (kv [(0,.bool due'),(1,.ptr (H0.length+3) 0),(2,.ptr (H0.length+4) 0)]) H') ∧
   SdV R H0 H' ts tv o'∧lu (ts.drop i) due o=lu [] due' o'∧PcB (m+wtP (ts.drop i)) o'
 |0,i,m,H,o,due,h,hv,hb,hm=>by
  have e:i=ts.length:=by omega
  subst e;refine ⟨H,due,o,fun k He => ?_,hv,by rw [List.drop_length],hb.mono (by omega)⟩;rw [al M dU.eq_1];simp (maxSteps:=3000000) (maxDischargeDepth:=6) +contextual -implicitDefEqProofs only [amC M,↓amD,Nat.reduceBEq,Nat.reduceAdd,env,ah,gm,Nat.lt_irrefl]
 |n+1,i,m,H,o,due,h,hv,hb,hm=>by
  have hi:i<ts.length:=by omega
  have hxi:ts[i]?=some ts[i]:=List.getElem?_eq_getElem hi;have hsz:=hx _ (List.getElem_mem hi);have hwi:=dJ (n:=ts.length) hi (by simp only [bh];omega);have hd:=List.drop_eq_getElem_cons hi;obtain ⟨tg,htv⟩:=hv.tg.sl;have hir:=a7 (row:=ag.row) (l:=ts) (tag:=tg) (sz:=3) (k:=.i64) hi;rw [hd,Et] at hm ⊢;rw [lu];have h1:=hv.alloc (AObj.cells ts[i].row ae);have l1:∀ v:AV,bJ none [v] 0=some v:=fun _=>rfl
  have c2:=h1.c2;have c4:=h1.c4;have g0:(H++[AObj.cells ts[i].row ae])[H.length]?=some (AObj.cells ts[i].row ae):=by rw [aj];rfl
  cases hc:due && !(ts[i].kind == 3) with
  |true=>
   rw [sel_true];simp only [Bool.and_eq_true,Bool.not_eq_true'] at hc;obtain ⟨rfl,hk⟩:=hc;obtain ⟨G1,a1,a2,a3⟩:=BQ M hC hW h1 hb (by omega);have b1:=hb.put wI;obtain ⟨G2,d1,d2,d3⟩:=a2.put M hC (m:=m+2) b1 (by omega) ts[i] (by omega);have b2:=b1.put ts[i];obtain ⟨H',due',o',i1,i2,i3,i4⟩:=sfl hC hW (Hc:=Hc) ht hx n (i+1) _ G2 _ false (by omega) (hv.back d2 fun _=>.inl) b2 (by show m+2+_+_≤_;omega);refine ⟨H',due',o',fun k He => ?_,i2,i3,i4.mono (by show m+2+_+_≤_;omega)⟩
   have i1:=i1 k;have x0:G1[H.length]?=some (AObj.cells ts[i].row ae):=by rw [a3.low _ (.inr rfl)];exact g0
   have x2:=a2.c2;simp only [kv_cons,kv_nil] at i1;rw [htv] at i1 ⊢;rw [al M dU.eq_1];simp (maxSteps:=3000000) (maxDischargeDepth:=6) +contextual -implicitDefEqProofs only [amC M,↓amD,Nat.reduceBEq,Nat.reduceAdd,env,ah,gm,amG,AV.cell,Nat.reduceMul,Nat.reduceLeDiff,hi,hxi,hwi,hir,aQ,l1,hk,c2,c4,a1,x0,x2,d1,i1,aj,hp_set0,List.getElem?_cons_zero,List.set_cons_zero]
  |false=>
   rw [sel_false];obtain ⟨G2,d1,d2,d3⟩:=h1.put M hC hb (by omega) ts[i] (by omega);have b2:=hb.put ts[i];obtain ⟨H',due',o',i1,i2,i3,i4⟩:=sfl hC hW (Hc:=Hc) ht hx n (i+1) _ G2 _ due (by omega) (hv.back d2 fun _=>.inl) b2 (by omega);refine ⟨H',due',o',fun k He => ?_,i2,i3,i4.mono (by omega)⟩;have i1:=i1 k;simp only [kv_cons,kv_nil] at i1;rw [htv] at i1 ⊢;cases due with
   |false=>
    rw [al M dU.eq_1];simp (maxSteps:=3000000) (maxDischargeDepth:=6) +contextual -implicitDefEqProofs only [amC M,↓amD,Nat.reduceBEq,Nat.reduceAdd,env,ah,gm,amG,AV.cell,Nat.reduceMul,Nat.reduceLeDiff,hi,hxi,hwi,hir,aQ,l1,c2,d1,i1,aj,hp_set0,List.getElem?_cons_zero,List.set_cons_zero]
   |true=>
    rw [Bool.true_and,Bool.not_eq_false'] at hc;rw [al M dU.eq_1];simp (maxSteps:=3000000) (maxDischargeDepth:=6) +contextual -implicitDefEqProofs only [amC M,↓amD,Nat.reduceBEq,Nat.reduceAdd,env,ah,gm,amG,AV.cell,Nat.reduceMul,Nat.reduceLeDiff,hi,hxi,hwi,hir,aQ,l1,hc,c2,d1,i1,aj,hp_set0,List.getElem?_cons_zero,List.set_cons_zero]
theorem SdV.setT{R R':Nat→Prop}{H0 H H':List AObj}{ts ts':List ag}{tv tv':AV}{o:List ag}(h:SdV R H0 H ts tv o)(hr:∀ i,R i→R' i)(hl:H.length≤H'.length)(hn:∀ i,R' i→R i∨H.length≤i)(hrl:∀ i,R' i→i<H'.length)
  (hs:∀ (i:Nat) (y:AObj),H[i]?=some y→(∀ n,y≠.tok n ae)→H'[i]?=some y) (hlow:∀ i,i<H0.length→H'[i]?=H[i]?) (ht:FF H0.length R' H' tv' ts') :
  SdV R' H0 (H'.set (H0.length+3) (.cells [tv'] ao)) ts' tv' o∧H'[H0.length+3]?=some (.cells [tv] ao):=by
 have g3:H'[H0.length+3]?=some (.cells [tv] ao):=hs _ _ h.c3 fun n e=>by cases e
 have hlt:=bT g3;refine ⟨⟨fun i hi=>hr i (h.lo i hi),hr _ h.k2,hr _ h.k3,hr _ h.k4, ?_, ?_,List.getElem?_set_self hlt, ?_,ht.stay (fun _ hi=>hi) (fun i n _ hy => ?_),fun i hi => ?_⟩,g3⟩
 ·obtain ⟨P,q,vs,v,ta,ov,hw⟩:=h.cv
  have nr:∀ (i:Nat),¬ R i→i<H.length→¬ R' i:=fun i h1 h2 h3=>by rcases hn i h3 with h4 | h4<;>first | exact h1 h4 | omega
  have st:∀ (i:Nat) (cs:List AV) (T:TypeId),¬ R i→H[i]?=some (.cells cs T)→(H'.set (H0.length+3) (AObj.cells [tv'] ao))[i]?=some (.cells cs T):=fun i cs T hi hy=>by
   rw [List.getElem?_set_ne (fun e=>hi (by rw [← e];exact h.k3))];exact hs i _ hy fun n e=>by cases e
  have fr:∀ {w:AV}{l:List ag},PcV H w l→free R w→PcV (H'.set (H0.length+3) (AObj.cells [tv'] ao)) w l∧free R' w:=fun {w l} hp hf=>by
   refine ⟨hp.stay fun Q cs e hQ=>st Q _ _ (hf Q _ _ _ _ e) hQ,fun Q o n e r eq hR => ?_⟩;rcases hp with ⟨_,hv⟩ | ⟨_,Q',hv,hQ⟩
   ·rw [hv] at eq;cases eq
   ·have e1:=hv
    rw [hv] at eq;cases eq;exact nr _ (hf _ _ _ _ _ e1) (bT hQ) hR
  refine ⟨P,q,vs,v,ta,ov,⟨nr _ hw.hn (bT hw.cell),nr P hw.hP (bT hw.par),fun i hi=>by simpa using hrl i hi,st _ _ _ hw.hn hw.cell,st P _ _ hw.hP hw.par,hw.len,fun i w l hi hl => ?_,(fr hw.cr hw.pr).1,hw.ab,(fr hw.cr hw.pr).2,by have:=hw.ql;simp;omega, ?_, ?_,hw.tg⟩⟩
  ·obtain ⟨d1,d2,d3⟩:=hw.dn i w l hi hl
   exact ⟨(fr d1 d3).1,d2,(fr d1 d3).2⟩
  ·rcases hw.op with hz | ⟨O,junk,h1,h2⟩
   ·exact .inl hz
   ·exact .inr ⟨O,junk,h1,st O _ _ (hw.oa _ _ _ _ _ h1) h2⟩
  ·intro Q o n e r eq hR
   rcases hw.op with ⟨_,hv⟩ | ⟨O,junk,h1,h2⟩
   ·rw [hv] at eq;cases eq
   ·have e1:=h1
    rw [eq] at h1;cases h1;exact nr _ (hw.oa _ _ _ _ _ e1) (bT h2) hR
 ·rw [List.getElem?_set_ne (by omega)];exact hs _ _ h.c2 fun n e=>by cases e
 ·rw [List.getElem?_set_ne (by omega)];exact hs _ _ h.c4 fun n e=>by cases e
 ·rw [List.getElem?_set_ne (fun e=>by rw [← e,g3] at hy;cases hy)];exact hy
 ·rw [List.getElem?_set_ne (by omega),hlow i hi];exact h.low i hi
theorem Al(hC:uI E)(hW:WsE E){R:Nat→Prop}{H0 H:List AObj}{ts:List ag}{tv:AV}{o:List ag}(h:SdV R H0 H ts tv o)(ht:ts.length≤1000000)(hx:∀ p∈ts,p.text.length≤10000000){m:Nat}(hb:PcB m o)(hm:m+wtP ts≤100000000)(due:Bool) :
  ∃ H',M.run gj [.bool due,.ptr (H0.length+3) 0,.ptr (H0.length+4) 0,.ptr (H0.length+2) 0] H=some (.ret (.tuple []),H')∧SdV R H0 H' [] (.slice .nil 3 []) (lu ts due o)∧PcB (m+wtP ts+2) (lu ts due o):=by
 obtain ⟨H1,due',o',i1,i2,i3,i4⟩:=sfl M hC hW (Hc:=H) ht hx ts.length 0 m H o due (by omega) h hb (by rw [List.drop_zero];exact hm);rw [List.drop_zero] at i3 i4;simp only [kv_cons,kv_nil,Int.ofNat_zero] at i1;rw [i3,lu];have l1:∀ v:AV,bJ none [v] 0=some v:=fun _=>rfl
 have c3:=h.c3;have c4:=i2.c4
 have fin:∀ {G:List AObj}{oo:List ag},SdV R H0 G ts tv oo→SdV R H0 (G.set (H0.length+3) (.cells [.slice .nil 3 []] ao)) [] (.slice .nil 3 []) oo∧G[H0.length+3]?=some (.cells [tv] ao):=fun {G oo} hg=>
  hg.setT (fun _ hi=>hi) (Nat.le_refl _) (fun _ hi=>.inl hi) hg.rl (fun _ _ hy _=>hy) (fun _ _=>rfl) (.inl ⟨rfl,rfl⟩)
 have stq:∀ G:List AObj,stO 1 G (H0.length+3) 0 [.slice .nil 3 []] (some (.cells [tv] ao))=some (G.set (H0.length+3) (.cells [.slice .nil 3 []] ao)):=fun G=>by rw [stO_cells (sz:=1) rfl (by simp) rfl];rfl
 have hln:∀ G,pT G .sl tv=some (.int .i64 (ts.length:Int)):=fun G=>by
  obtain ⟨tg,e⟩:=h.tg.sl;rw [e];simp only [pT,List.length_map]
 cases due' with
 |false=>
  rw [sel_false];obtain ⟨f1,f2⟩:=fin i2;refine ⟨_, ?_,f1,i4.mono (by omega)⟩;rw [aG M hW.docs_spaced_2 rfl (c:=jd) rfl,jd];simp (maxSteps:=3000000) (maxDischargeDepth:=6) +contextual -implicitDefEqProofs only [amC M,↓amD,Nat.reduceBEq,Nat.reduceAdd,env,ah,gm,amG,AV.cell,Nat.reduceMul,Nat.reduceLeDiff,c3,l1,hln,i1,f2,stq]
 |true=>
  rw [sel_true];obtain ⟨G1,a1,a2,a3⟩:=BQ M hC hW i2 i4 (by omega);obtain ⟨f1,f2⟩:=fin a2;refine ⟨_, ?_,f1,i4.put wI⟩;rw [aG M hW.docs_spaced_2 rfl (c:=jd) rfl,jd];simp (maxSteps:=3000000) (maxDischargeDepth:=6) +contextual -implicitDefEqProofs only [amC M,↓amD,Nat.reduceBEq,Nat.reduceAdd,env,ah,gm,amG,AV.cell,Nat.reduceMul,Nat.reduceLeDiff,c3,l1,hln,i1,c4,a1,f2,stq]
theorem SdV.push{R:Nat→Prop}{H0 H:List AObj}{ts:List ag}{tv:AV}{o:List ag}(h:SdV R H0 H ts tv o)(ht:ts.length≤1000000)(p:ag) :
  ∃ tv' G R',rap false H ae 3 32 false tv (.slice .full 3 [p.row])=some (tv',G)∧G[H0.length+3]?=some (.cells [tv] ao)∧b6 tv'=some [tv']∧tv'.cell=true ∧
   stO 1 G (H0.length+3) 0 [tv'] (some (.cells [tv] ao))=some (G.set (H0.length+3) (.cells [tv'] ao))∧SdV R' H0 (G.set (H0.length+3) (.cells [tv'] ao)) (ts++[p]) tv' o:=by
 have hrl:=h.rl;have hlo:=h.lo;have h3l:=bT h.c3;rcases h.tg with ⟨rfl,rfl⟩ | ⟨t,t0,t1,rfl,t3⟩
 ·have hr:=Ft (sz:=3) (bytes:=32) (e:=ae) (r:=p.row) H rfl rfl (by omega)
  obtain ⟨a1,a2⟩:=h.setT (H':=H++[.tok 3 ae]) (R':=fun i=>R i∨i=H.length) (ts':=[p]) (tv':=.slice (.own H.length) 3 [p.row.map AV.strip]) (fun _=>.inl) (by simp) (fun i hi=>by rcases hi with hi | hi;exact .inl hi;exact .inr (by omega)) (fun i hi=>by
   rcases hi with hi | hi
   ·have:=hrl i hi;simp;omega
   ·simp;omega) (fun i y hy _=>bU hy) (fun i hi=>List.getElem?_append_left (by omega)) (.inr ⟨H.length,by omega,.inr rfl,rfl,by rw [aj];rfl⟩)
  exact ⟨_,_,_,hr,a2,rfl,rfl,by rw [stO_cells (sz:=1) rfl (by simp) rfl];rfl,a1⟩
 ·have htl:=(List.getElem?_eq_some_iff.1 t3).1
  have hr:=JF (row:=ag.row) (l:=ts) (x:=p) (r:=p.row) (sz:=3) (bytes:=32) (e:=ae) (H:=H) (t:=t) t3 rfl rfl rfl (by omega) (by omega)
  obtain ⟨a1,a2⟩:=h.setT (H':=H.set t (.tok ((ts++[p]).length*3) ae)) (R':=R) (ts':=ts++[p]) (tv':=.slice (.own t) 3 ((ts++[p]).map ag.row)) (fun _ hi=>hi) (by simp) (fun _=>.inl) (fun i hi=>by simpa using hrl i hi)
   (fun i y hy hn=>by
    rw [List.getElem?_set_ne (fun e=>by subst e;rw [t3] at hy;cases hy;exact hn _ rfl)];exact hy)
   (fun i hi=>List.getElem?_set_ne (by omega)) (.inr ⟨t,t0,t1,rfl,List.getElem?_set_self htl⟩)
  exact ⟨_,_,_,hr,a2,rfl,rfl,by rw [stO_cells (sz:=1) rfl (by simp) rfl];rfl,a1⟩
theorem Lz(l m:List ag):wtP (l++m)=wtP l+wtP m:=by simp [wtP,List.sum_append]
theorem dsp(hB:fV E)(hS:fM E)(hX:sg M)(hC:uI E)(hW:WsE E){l:List Str}{tg:Tag}(hl:l.length≤1000000)(hs:∀ w∈l,w.length≤1000000){H0 Hc:List AObj} :
  ∀ (n i m:Nat) (R:Nat→Prop) (H:List AObj) (ts:List ag) (tv:AV) (o:List ag) (last:Str) (any:Bool),i+n=l.length→SdV R H0 H ts tv o→PcB m o→ts.length+n≤1000000→(∀ p∈ts,p.text.length≤10000000)→m+wtP ts+wtS (l.drop i)+2≤100000000 →
  ∃ H' R' ts' tv' o',(∀ (k:List Fra) (He:List AObj),M.go lK Hc (.c dk :: .lp ⟨(some [3,4,5,6,8,20,21,22]),[],false⟩ dk He :: .blk 0 :: .c (.lv [3,8])::k) (kv [(3,.ptr (H0.length+2) 0),(4,.ptr (H0.length+3) 0),(5,.str last),(6,.bool any),(8,.fn (.func gj) [] [.ptr (H0.length+3) 0,.ptr (H0.length+4) 0,.ptr (H0.length+2) 0]),(20,.slice tg 1 (l.map aA)),(21,.int .i64 l.length),(22,.int .i64 i)]) H =
   M.go lK Hc k (kv [(3,.ptr (H0.length+2) 0),(8,.fn (.func gj) [] [.ptr (H0.length+3) 0,.ptr (H0.length+4) 0,.ptr (H0.length+2) 0])]) H') ∧
   SdV R' H0 H' ts' tv' o'∧spD (l.drop i) ts o last any=lu ts' false o'∧ts'.length≤1000000∧(∀ p∈ts',p.text.length≤10000000)∧∃ m',PcB m' o'∧m'+wtP ts'+2≤100000000
 |0,i,m,R,H,ts,tv,o,last,any,h,hv,hb,ht,hx,hm=>by
  have e:i=l.length:=by omega
  subst e;refine ⟨H,R,ts,tv,o,fun k He => ?_,hv,by rw [List.drop_length];rfl,by omega,hx,m,hb,by omega⟩;rw [al M dk.eq_1];simp (maxSteps:=3000000) (maxDischargeDepth:=6) +contextual -implicitDefEqProofs only [amC M,↓amD,Nat.reduceBEq,Nat.reduceAdd,env,ah,gQ,Nat.lt_irrefl]
 |n+1,i,m,R,H,ts,tv,o,last,any,h,hv,hb,ht,hx,hm=>by
  have hi:i<l.length:=by omega
  have hxi:l[i]?=some l[i]:=List.getElem?_eq_getElem hi;have hsz:=hs _ (List.getElem_mem hi);have hp:=fun H=>rK M hB hS hX hW (w:=l[i]) (by omega) H
  have htg:=fun H=>Ek M hB hS hX hW (w:=l[i]) (by omega) H
  have hpa:=fun a b H=>FE M hW a b H
  have hwi:=dJ (n:=l.length) hi (by simp only [bh];omega);have hir:=a7 (row:=aA) (tag:=tg) (sz:=1) (k:=.i64) hi;have hr:∀ p:ag,p.row=[.int .u8 p.kind,.str p.text,.bool p.car]:=fun _=>rfl
  have hsr:∀ s:Str,aA s=[.str s]:=fun _=>rfl
  have hwt:=GB l[i];have hd:=List.drop_eq_getElem_cons hi;have l1:∀ v:AV,bJ none [v] 0=some v:=fun _=>rfl
  have g0:∀ (G:List AObj) (x:AObj),(G++[x])[G.length]?=some x:=fun G x=>by rw [aj];rfl
  rw [hd,vD] at hm;rw [hd,spD];cases hq:lN l[i] with
  |true=>
   rw [sel_true]
   have hok:(pcF l[i]).2=true:=by
    unfold lN tgF at hq;simp only [Bool.and_eq_true] at hq;exact hq.1
   have ew:(pcF l[i]).1=wPc l[i]:=by rw [wPc,hok,sel_true]
   have et:tgF l[i]=(wPc l[i],true):=by
    have:(tgF l[i]).2=true:=hq
    rw [← ew,← this];rfl
   simp only [et,kQ,hr] at htg;have h1:=hv.alloc (AObj.cells (wPc l[i]).row ae);obtain ⟨tv',G,R',a1,a2,a3,a4,a5,a6⟩:=h1.push (by omega) (wPc l[i])
   obtain ⟨H',R2,ts',tv2,o',i1,i2,i3,i4,i5,m',i6,i7⟩:=dsp hB hS hX hC hW (Hc:=Hc) (tg:=tg) hl hs n (i+1) m R' _ (ts++[wPc l[i]]) tv' o last any (by omega) a6 hb (by simp;omega) (fun p hp=>by
    rcases List.mem_append.1 hp with hp | hp
    ·exact hx p hp
    ·rw [List.mem_singleton] at hp;subst hp;omega) (by rw [Lz,Et,show wtP []=0 from rfl];omega)
   refine ⟨H',R2,ts',tv2,o',fun k He => ?_,i2,i3,i4,i5,m',i6,i7⟩;have i1:=i1 k;have c3:=h1.c3;simp only [kv_cons,kv_nil] at i1;have g0:=g0 H (AObj.cells (wPc l[i]).row ae);rw [hr] at a1 c3 g0;rw [al M dk.eq_1];simp (maxSteps:=3000000) (maxDischargeDepth:=6) +contextual -implicitDefEqProofs only [amC M,↓amD,Nat.reduceBEq,Nat.reduceAdd,env,ah,gQ,amG,AV.cell,Nat.reduceMul,Nat.reduceLeDiff,hi,hxi,htg,hwi,hir,hsr,l1,c3,a1,a2,a3,a4,a5,i1,g0,aj,hp_set0,aR,List.getElem?_cons_zero,List.getElem?_cons_succ]
  |false=>
   rw [sel_false];have et:(tgF l[i]).2=false:=hq;rw [show tgF l[i]=((tgF l[i]).1,false) from Prod.ext rfl et] at htg;simp only [kQ,hr] at htg;have h1:=hv.alloc (AObj.cells (tgF l[i]).1.row ae);obtain ⟨G1,f1,f2,f3⟩:=Al M hC hW h1 (by omega) hx hb (by omega) (any&&qP last l[i]);have h2:=f2.alloc (AObj.cells (pcF l[i]).1.row ae);obtain ⟨G2,d1,d2,d3⟩:=h2.put M hC f3 (by omega) (wPc l[i]) (by omega);obtain ⟨H',R2,ts',tv2,o',i1,i2,i3,i4,i5,m',i6,i7⟩:=dsp hB hS hX hC hW (Hc:=Hc) (tg:=tg) hl hs n (i+1) _ _ G2 [] _ _ l[i] true (by omega) d2 (f3.put (wPc l[i])) (by simp;omega) (fun p hp=>by cases hp) (by rw [show wtP []=0 from rfl];omega)
   refine ⟨H',R2,ts',tv2,o',fun k He => ?_,i2,i3,i4,i5,m',i6,i7⟩;have i1:=i1 k;have c2:=h2.c2;simp only [kv_cons,kv_nil] at i1;have g0:=g0 G1 (AObj.cells (pcF l[i]).1.row ae);have hrt:=hr (tgF l[i]).1;rw [hrt] at f1;rw [hr (pcF l[i]).1] at d1 c2 g0;cases any with
   |false=>
    rw [Bool.false_and] at f1;cases hok:(pcF l[i]).2 with
    |true=>
     have ew:(pcF l[i]).1=wPc l[i]:=by rw [wPc,hok,sel_true]
     rw [show pcF l[i]=((pcF l[i]).1,true) from Prod.ext rfl hok] at hp;simp only [kQ,hr] at hp;rw [← ew,hr] at d1;rw [al M dk.eq_1];simp (maxSteps:=3000000) (maxDischargeDepth:=6) +contextual -implicitDefEqProofs only [amC M,↓amD,Nat.reduceBEq,Nat.reduceAdd,env,ah,gQ,amG,AV.cell,Nat.reduceMul,Nat.reduceLeDiff,hi,hxi,htg,hp,hpa,hwi,hir,hsr,l1,c2,f1,d1,i1,g0,aj,hp_set0,aR,List.getElem?_cons_zero,List.getElem?_cons_succ]
    |false=>
     have ew:(wPc l[i]).row=[.int .u8 1,.str l[i],.bool false]:=by rw [wPc,hok,sel_false];rfl
     rw [show pcF l[i]=((pcF l[i]).1,false) from Prod.ext rfl hok] at hp;simp only [kQ,hr] at hp;rw [ew] at d1;rw [al M dk.eq_1];simp (maxSteps:=3000000) (maxDischargeDepth:=6) +contextual -implicitDefEqProofs only [amC M,↓amD,Nat.reduceBEq,Nat.reduceAdd,env,ah,gQ,amG,AV.cell,Nat.reduceMul,Nat.reduceLeDiff,hi,hxi,htg,hp,hpa,hwi,hir,hsr,l1,c2,f1,d1,i1,g0,aj,hp_set0,aR,List.getElem?_cons_zero,List.getElem?_cons_succ]
   |true=>
    rw [Bool.true_and] at f1;cases hok:(pcF l[i]).2 with
    |true=>
     have ew:(pcF l[i]).1=wPc l[i]:=by rw [wPc,hok,sel_true]
     rw [show pcF l[i]=((pcF l[i]).1,true) from Prod.ext rfl hok] at hp;simp only [kQ,hr] at hp;rw [← ew,hr] at d1;rw [al M dk.eq_1];simp (maxSteps:=3000000) (maxDischargeDepth:=6) +contextual -implicitDefEqProofs only [amC M,↓amD,Nat.reduceBEq,Nat.reduceAdd,env,ah,gQ,amG,AV.cell,Nat.reduceMul,Nat.reduceLeDiff,hi,hxi,htg,hp,hpa,hwi,hir,hsr,l1,c2,f1,d1,i1,g0,aj,hp_set0,aR,List.getElem?_cons_zero,List.getElem?_cons_succ]
    |false=>
     have ew:(wPc l[i]).row=[.int .u8 1,.str l[i],.bool false]:=by rw [wPc,hok,sel_false];rfl
     rw [show pcF l[i]=((pcF l[i]).1,false) from Prod.ext rfl hok] at hp;simp only [kQ,hr] at hp;rw [ew] at d1;rw [al M dk.eq_1];simp (maxSteps:=3000000) (maxDischargeDepth:=6) +contextual -implicitDefEqProofs only [amC M,↓amD,Nat.reduceBEq,Nat.reduceAdd,env,ah,gQ,amG,AV.cell,Nat.reduceMul,Nat.reduceLeDiff,hi,hxi,htg,hp,hpa,hwi,hir,hsr,l1,c2,f1,d1,i1,g0,aj,hp_set0,aR,List.getElem?_cons_zero,List.getElem?_cons_succ]
theorem Eu(hB:fV E)(hS:fM E)(hX:sg M)(hC:uI E)(hW:WsE E){l:List Str}{tg:Tag}(hl:l.length≤1000000)(hs:∀ w∈l,w.length≤1000000)(hm:wtS l+2≤100000000)(H:List AObj) :
  M.run nE [.slice tg 1 (l.map aA)] H=some (.ret (.slice (HY (spD l [] [] [] false)) 3 ((spD l [] [] [] false).map ag.row)),H):=by
 obtain ⟨G,hG⟩:∃ G,G=H++[AObj.cells [.slice .nil 3 []] ao,AObj.cells [.rslice H.length 0 1 1 true,.slice .nil 1 [],.int .i64 0,.bool false,.slice .nil 1 []] gN,AObj.cells [.ptr (H.length+1) 0] lP,AObj.cells [.slice .nil 3 []] ao,AObj.cells [.fn (.func gi) [] [.ptr (H.length+2) 0]] CF]:=⟨_,rfl⟩
 have hgl:G.length=H.length+5:=by rw [hG];simp
 have w0:SdV (fun i=>i<H.length∨i=H.length+2∨i=H.length+3∨i=H.length+4) H G [] (.slice .nil 3 []) []:=by
  refine ⟨fun i hi=>.inl hi,.inr (.inl rfl),.inr (.inr (.inl rfl)),.inr (.inr (.inr rfl)), ?_,by rw [hG,hp_getk];rfl,by rw [hG,hp_getk];rfl,by rw [hG,hp_getk];rfl,.inl ⟨rfl,rfl⟩,fun i hi=>by rw [hG,List.getElem?_append_left hi]⟩;exact ⟨H.length,G.length,[],.slice .nil 3 [],.nil,.slice .nil 1 [],⟨by omega,by omega,fun i hi=>by omega,by rw [hG,hp_getk];rfl,by rw [hG,aj];rfl,rfl,fun i w l h=>by simp at h,.inl ⟨rfl,rfl⟩,fun Q o n e r eq=>(by cases eq),fun Q o n e r eq=>(by cases eq),Nat.le_refl _,.inl ⟨rfl,rfl⟩,fun Q o n e r eq=>(by cases eq),.inr (.inr (.inl rfl))⟩⟩
 obtain ⟨H1,R',ts',tv',o',i1,i2,i3,i4,i5,m',i6,i7⟩:=dsp M hB hS hX hC hW (Hc:=H) (tg:=tg) hl hs l.length 0 0 _ G [] _ [] [] false (by omega) w0 ⟨Nat.le_refl _,fun x hx=>(by cases hx)⟩ (by simpa using hl) (fun p hp=>by cases hp) (by rw [List.drop_zero,show wtP []=0 from rfl];omega);obtain ⟨H2,f1,f2,f3⟩:=Al M hC hW i2 i4 i5 i6 (by omega) false;rw [List.drop_zero] at i3;rw [← i3] at f2 f3;simp only [kv_cons,kv_nil,Int.ofNat_zero] at i1
 have c2:=f2.c2;obtain ⟨P,q,vs,v,ta,ov,hw⟩:=f2.cv;have hvs:vs=[]:=List.length_eq_zero_iff.1 hw.len;subst hvs;have hce:=hw.cell;have hpa:=hw.par;dsimp only [List.length_nil,List.nil_append] at hce hpa
 have hk:H2.take H.length=H:=by
  have:=f2.rl;have h4:=this _ f2.k4;refine List.ext_getElem? fun i => ?_
  by_cases hi:i<H.length
  ·rw [List.getElem?_take_of_lt hi,f2.low i hi]
  ·rw [List.getElem?_eq_none (by simp;omega),List.getElem?_eq_none (by omega)]
 have hcut:dh H H2:=⟨by have:=f2.rl _ f2.k4;omega,fun i x hi hx=>.inl (by rw [← hk,List.getElem?_take_of_lt hi];exact hx)⟩
 have hh:=y7 hcut ⟨4,Mc hw.cr fun Q o n e r eq hR=>hw.pr Q o n e r eq (f2.lo Q hR)⟩;rw [hk] at hh;have l1:∀ v:AV,bJ none [v] 0=some v:=fun _=>rfl
 have hia:rT 1 (.rslice P 0 1 1 true) (.int .i64 0)=some (.ptr P 0):=Gu (id:=P) (n:=1) (i:=0) (by omega) .i64;rw [aG M hW.docs_spaced rfl (c:=qa) rfl,qa];simp (maxSteps:=3000000) (maxDischargeDepth:=6) +contextual -implicitDefEqProofs only [amC M,↓amD,Nat.reduceBEq,Nat.reduceAdd,env,ah,gQ,amG,AV.cell,Nat.reduceMul,Nat.reduceLeDiff,rnc,cl5,l1,aj,hp_set0,hp_getk,hp_setk,aR,List.getElem?_cons_zero,List.getElem?_cons_succ,List.set_cons_zero,List.set_cons_succ,List.append_assoc,List.cons_append,List.nil_append,← hG,i1,f1,c2,hce,hpa,hia,hh]
end
section
attribute [local congr] aD a8 aO aE aN aI aF au aw aJ aK
variable{E:aT}(M:br bP E)
def qQ(l:List Str):List ag:=spD l [] [] [] false
def BR(l:List Str):AV:=sel (xY l == 0) (sel (decide ((512:Int)<((qQ l).length:Int))) (.tuple [.slice .any 3 [],.int .u8 3]) (.tuple [.slice .any 3 ((qQ l).map ag.row),.int .u8 0])) (.tuple [.slice .any 3 [],.int .u8 (xY l)])
theorem C1{l:List Str}(h:xY l=0):l.length≤512∧∀ w∈l,pS w=true:=by
 unfold xY at h;cases h5:decide ((512:Int)<(l.length:Int)) with
 |true=>rw [h5,sel_true] at h;cases h
 |false=>
  rw [h5,sel_false] at h;refine ⟨by have:=of_decide_eq_false h5;omega, ?_⟩;cases ha:l.all pS with
  |true=>exact List.all_eq_true.1 ha
  |false=>rw [ha,sel_false] at h;cases h
theorem JW{w:Str}(h:pS w=true):w≠[]:=fun e=>by subst e;cases h
theorem LA{l:List Str}(h:xY l=0):spR l [] [] false=qQ l:=
 (C0 l [] [] [] (fun w hw _=>JW ((C1 h).2 w hw)) rfl).symm
theorem GC:∀ {l:List Str}{w:Str},w∈l→w.length+8≤wtS l
 |x::l,w,h=>by
  rw [vD];rcases List.mem_cons.1 h with rfl | h
  ·omega
  ·have:=GC h;omega
theorem An(hB:fV E)(hS:fM E)(hX:sg M)(hD:wA M)(hU:kR E)(hC:uI E)(hW:WsE E){l:List Str}{tg:Tag}(hs:l.length≤512→wtS l≤10000000∧∀ w∈l,w.length≤1000000)(hk:∀ n,Wk n (.slice tg 1 (l.map aA)) (.slice tg 1 (l.map aA)))(H:List AObj) :
  M.run ng [.slice tg 1 (l.map aA)] H=some (.ret (BR l),H):=by
 have hc:=fun H=>rR M hB hS hX hD hU hW (l:=l) (tg:=tg) (fun h=>(hs h).2) hk H
 unfold BR;cases h0:xY l == 0 with
 |false=>
  rw [sel_false];rw [aG M hW.docs_FromWords rfl (c:=eA) rfl,eA];simp (maxSteps:=3000000) (maxDischargeDepth:=6) +contextual -implicitDefEqProofs only [amC M,↓amD,Nat.reduceBEq,Nat.reduceAdd,env,ah,nm,amG,AV.cell,Nat.reduceMul,Nat.reduceLeDiff,hc,h0,hp_self,cut_refl,wk_tuple,nf]
 |true=>
  have e0:=eq_of_beq h0;have hl:=(C1 e0).1;obtain ⟨hwt,hws⟩:=hs hl;rw [e0] at hc;rw [sel_true];have hsp:=fun H=>Eu M hB hS hX hC hW (l:=l) (tg:=tg) (by omega) hws (by omega) H
  rw [show spD l [] [] [] false=qQ l from rfl] at hsp;cases h5:decide ((512:Int)<((qQ l).length:Int)) with
  |true=>
   rw [sel_true];rw [aG M hW.docs_FromWords rfl (c:=eA) rfl,eA];simp (maxSteps:=3000000) (maxDischargeDepth:=6) +contextual -implicitDefEqProofs only [amC M,↓amD,Nat.reduceBEq,Nat.reduceAdd,env,ah,nm,amG,AV.cell,Nat.reduceMul,Nat.reduceLeDiff,hc,(show ((0:Int) == 0)=true from rfl),hsp,List.length_map,h5,hp_self,cut_refl,wk_tuple,nf]
  |false=>
   have hh:=handV_drop (cut_refl H) (wk_tuple (n:=H.length) (xs:=[.slice (HY (qQ l)) 3 ((qQ l).map ag.row),.int .u8 0]) ⟨wk_any (esz:=3) (zX H.length (qQ l)),wk_int _ _ 0,trivial⟩);simp only [anyV_tuple,List.map_cons,List.map_nil,anyS_slice,anyS_int,hp_self] at hh;rw [sel_false];rw [aG M hW.docs_FromWords rfl (c:=eA) rfl,eA];simp (maxSteps:=3000000) (maxDischargeDepth:=6) +contextual -implicitDefEqProofs only [amC M,↓amD,Nat.reduceBEq,Nat.reduceAdd,env,ah,nm,amG,AV.cell,Nat.reduceMul,Nat.reduceLeDiff,hc,(show ((0:Int) == 0)=true from rfl),hsp,List.length_map,h5,hh]
theorem Ao(hB:fV E)(hS:fM E)(hU:kR E)(hC:uI E)(hW:WsE E){l:List Str}{tg:Tag}(hs:l.length≤512→wtS l≤10000000∧∀ w∈l,w.length≤1000000)(hk:∀ n,Wk n (.slice tg 1 (l.map aA)) (.slice tg 1 (l.map aA)))(H:List AObj) :
  M.run fZ [.slice tg 1 (l.map aA)] H=some (.ret (BR l),H):=by
 have hc:=fun H=>rS M hB hS hU hW (l:=l) (tg:=tg) (fun h=>(hs h).2) hk H
 unfold BR;cases h0:xY l == 0 with
 |false=>
  rw [sel_false];rw [aG M hW.truchmanref01_FromWords rfl (c:=bI) rfl,bI];simp (maxSteps:=3000000) (maxDischargeDepth:=6) +contextual -implicitDefEqProofs only [amC M,↓amD,Nat.reduceBEq,Nat.reduceAdd,env,ah,gh,amG,AV.cell,Nat.reduceMul,Nat.reduceLeDiff,hc,h0,hp_self,cut_refl,wk_tuple,nf]
 |true=>
  have e0:=eq_of_beq h0;have hl:=(C1 e0).1;obtain ⟨hwt,hws⟩:=hs hl;rw [e0] at hc;rw [sel_true];have hsp:=fun H=>Er M hB hS hU hC hW (l:=l) (tg:=tg) (by omega) hws (by omega) H
  rw [LA e0] at hsp;cases h5:decide ((512:Int)<((qQ l).length:Int)) with
  |true=>
   rw [sel_true];rw [aG M hW.truchmanref01_FromWords rfl (c:=bI) rfl,bI];simp (maxSteps:=3000000) (maxDischargeDepth:=6) +contextual -implicitDefEqProofs only [amC M,↓amD,Nat.reduceBEq,Nat.reduceAdd,env,ah,gh,amG,AV.cell,Nat.reduceMul,Nat.reduceLeDiff,hc,(show ((0:Int) == 0)=true from rfl),hsp,List.length_map,h5,hp_self,cut_refl,wk_tuple,nf]
  |false=>
   have hh:=handV_drop (cut_refl H) (wk_tuple (n:=H.length) (xs:=[.slice (HY (qQ l)) 3 ((qQ l).map ag.row),.int .u8 0]) ⟨wk_any (esz:=3) (zX H.length (qQ l)),wk_int _ _ 0,trivial⟩);simp only [anyV_tuple,List.map_cons,List.map_nil,anyS_slice,anyS_int,hp_self] at hh;rw [sel_false];rw [aG M hW.truchmanref01_FromWords rfl (c:=bI) rfl,bI];simp (maxSteps:=3000000) (maxDischargeDepth:=6) +contextual -implicitDefEqProofs only [amC M,↓amD,Nat.reduceBEq,Nat.reduceAdd,env,ah,gh,amG,AV.cell,Nat.reduceMul,Nat.reduceLeDiff,hc,(show ((0:Int) == 0)=true from rfl),hsp,List.length_map,h5,hh]
theorem Ap:∀ l:List ag,(dI l).length≤2*xX l+l.length
 |[]=>by simp [dI]
 |x::l=>by
  show (wdP x++dI l).length≤_;have h1:=Lv x;have h2:=Ap l;rw [List.length_append,xX,List.map_cons,List.sum_cons,List.length_cons];unfold xX at h2;omega
theorem C2{l:List ag}(h:(dI l).length≤bh):∃ (o:List Str) (e:Int),wH l = .tuple [.slice .any 1 (o.map aA),.int .u8 e]∧o.length≤bh:=by
 unfold wH;cases i9 l == 0 with
 |false=>exact ⟨[],_,rfl,Nat.zero_le _⟩
 |true=>
  rw [sel_true];cases decide ((512:Int)<((dI l).length:Int)) with
  |true=>exact ⟨[],_,rfl,Nat.zero_le _⟩
  |false=>exact ⟨_,_,rfl,h⟩
theorem HZ:∀ l:List ag,(mT l).length≤l.length:=fun l=>by
 unfold mT;rw [List.length_map];exact List.length_filter_le _ _
theorem Ev{l:List ag}(h:l.length≤bh):∃ (o:List Str) (e:Int),BO l = .tuple [.slice .any 1 (o.map aA),.int .u8 e]∧o.length≤bh:=by
 unfold BO;cases i9 l == 0 with
 |false=>exact ⟨[],_,rfl,Nat.zero_le _⟩
 |true=>exact ⟨_,_,rfl,Nat.le_trans (HZ l) h⟩
theorem Ew(l:List Str):∃ (o:List ag) (e:Int),BR l = .tuple [.slice .any 3 (o.map ag.row),.int .u8 e]∧o.length≤bh:=by
 unfold BR;cases xY l == 0 with
 |false=>exact ⟨[],_,rfl,Nat.zero_le _⟩
 |true=>
  rw [sel_true];cases h:decide ((512:Int)<((qQ l).length:Int)) with
  |true=>exact ⟨[],_,rfl,Nat.zero_le _⟩
  |false=>exact ⟨_,_,rfl,by have:=of_decide_eq_false h;simp only [bh];omega⟩
theorem GD:∀ (n:Nat) (l:List Str),l.length≤n→wyN n l+8*l.length=wtS l
 |0,l,h=>by
  obtain rfl:l=[]:=List.length_eq_zero_iff.1 (by omega);rfl
 |n+1,[],h=>rfl
 |n+1,w::l,h=>by
  have:=GD n l (by simp at h;omega);rw [wyN,vD,List.length_cons];omega
theorem Ex{l:List Str}(h:CX l=false):l.length≤3000∧(l.length≤512→wtS l≤10000000∧∀ w∈l,w.length≤1000000):=by
 have h1:=of_decide_eq_false h;refine ⟨by omega,fun h2 => ?_⟩;have:=GD 700 l (by omega);exact ⟨by omega,fun w hw=>by have:=GC hw;omega⟩
theorem H6:∀ l:List Str,(mS l).length≤l.length:=fun l=>by
 unfold mS;exact List.length_filter_le _ _
theorem Bb(hB:fV E)(hS:fM E)(hX:sg M)(hD:wA M)(hU:kR E)(hN:Lp E)(hC:uI E)(hW:WsE E){l:Sl ag}(hl:l.ok 0 (ag.ok 0)){ws:Sl Str}(hws:ws.ok 0 (fun s=>s.length≤bh)){H:List AObj}
  (hL:∀ H,M.run cE [] H=some (.ret (.bool true),H)):M.run fY [.slice l.tag 3 (l.l.map ag.row),.slice ws.tag 1 (ws.l.map aA)] H=some (.ret (.bool true),H):=by
 have s1:=fun H=>HO M hB hl H
 have s2:=fun H=>HW M hW (l:=ws.l) (tg:=ws.tag) hws.len hws.all H
 have hkl:∀ n,Wk n (.slice l.tag 3 (l.l.map ag.row)) (.slice l.tag 3 (l.l.map ag.row)):=fun n=>wk_slice (hl.tag.mono (Nat.zero_le _)) (zX n l.l)
 have hkw:∀ n,Wk n (.slice ws.tag 1 (ws.l.map aA)) (.slice ws.tag 1 (ws.l.map aA)):=fun n=>wk_slice (hws.tag.mono (Nat.zero_le _)) (py n ws.l)
 rw [aG M hW.truchmanlaw01_DocsWords rfl (c:=ga) rfl,ga];cases c1:Ej [l] with
 |true=>simp (maxSteps:=3000000) (maxDischargeDepth:=6) +contextual -implicitDefEqProofs only [amC M,↓amD,Nat.reduceBEq,Nat.reduceAdd,env,ah,gd,amG,AV.cell,Nat.reduceMul,Nat.reduceLeDiff,s1,pN,c1,hL]
 |false=>
 cases c2:CX ws.l with
 |true=>simp (maxSteps:=3000000) (maxDischargeDepth:=6) +contextual -implicitDefEqProofs only [amC M,↓amD,Nat.reduceBEq,Nat.reduceAdd,env,ah,gd,amG,AV.cell,Nat.reduceMul,Nat.reduceLeDiff,s1,s2,pN,c1,c2,hL]
 |false=>
 have hlong:=HN c1;obtain ⟨w1,w2⟩:=Ex c2;have htx:∀ x∈l.l,x.text.length≤1000000:=fun x hx=>by have:=JI hx;omega
 have hwl:=Ap l.l;have v1:=fun H=>FC M hB hS hD hU hN hW (l:=l) (by omega) htx (by omega) H
 have v2:=fun H=>FB M hB hS hU hW (l:=l) (by omega) htx (by omega) hkl H
 have v3:=fun H=>rR M hB hS hX hD hU hW (l:=ws.l) (tg:=ws.tag) (fun h=>(w2 h).2) hkw H
 have v4:=fun H=>rS M hB hS hU hW (l:=ws.l) (tg:=ws.tag) (fun h=>(w2 h).2) hkw H
 have v5:=fun H=>HP M hB hS hX hW (l:=ws.l) (tg:=ws.tag) (by omega) hws.all hkw H
 have v6:=fun H=>HQ M hB hS hW (l:=ws.l) (tg:=ws.tag) (by omega) hws.all hkw H
 have v7:=fun H=>An M hB hS hX hD hU hC hW (l:=ws.l) (tg:=ws.tag) w2 hkw H
 have v8:=fun H=>Ao M hB hS hU hC hW (l:=ws.l) (tg:=ws.tag) w2 hkw H
 have v9:=fun H=>HU M hB hS hD hW (l:=l) (by omega) htx hkl H
 have v10:=fun H=>HV M hB hS hW (l:=l) (by omega) htx hkl H
 obtain ⟨o1,e1,h1,b1⟩:=C2 (l:=l.l) (by simp only [bh];omega);obtain ⟨o2,e2,h2,b2⟩:=Ew ws.l;obtain ⟨o3,e3,h3,b3⟩:=Ev hl.len;rw [h1] at v1 v2;rw [h2] at v7 v8;rw [h3] at v9 v10;have bl:=H6 ws.l;have m1:=fun H=>Ai M hW (l:=o1) (ta:=.any) (tb:=.any) b1 H
 have m2:=fun H=>Ai M hW (l:=mS ws.l) (ta:=.any) (tb:=.any) (by simp only [bh];omega) H
 have m3:=fun H=>Ai M hW (l:=o3) (ta:=.any) (tb:=.any) b3 H
 have sp:=fun H=>zY M hB (l:=o2) (ta:=.any) (tb:=.any) b2 H
 simp (maxSteps:=3000000) (maxDischargeDepth:=6) +contextual -implicitDefEqProofs only [amC M,↓amD,Nat.reduceBEq,Nat.reduceAdd,env,ah,gd,amG,AV.cell,Nat.reduceMul,Nat.reduceLeDiff,s1,s2,pN,c1,c2,v1,v2,v3,v4,v5,v6,v7,v8,v9,v10,m1,m2,m3,sp,hL,aR,List.getElem?_cons_zero,List.getElem?_cons_succ,beq_self_eq_true,bne_self_eq_false,Bool.not_true,hp_self]
end
section
open Go.ChangeShapes Go.WideShapes
structure x6 (P:Program):Prop where
 u_api_PieceKind:P.underlying oc=some (.int .u8)
 c_api_PieceKind:P.cellsOf oc=1
 u_string:P.underlying ak=some .string
 c_string:P.cellsOf ak=1
 u_bool:P.underlying CG=some .bool
 c_bool:P.cellsOf CG=1
 f_Piece:fieldsOf P ae=some [(0,oc),(1,ak),(2,CG)]
 c_Piece:P.cellsOf ae=3
 u_sl_Piece:P.underlying ao=some (.slice ae)
 c_sl_Piece:P.cellsOf ao=1
 y_Piece:Nat.blt 0 (P.bytesOf ae)=true
 u_sl_string:P.underlying bn=some (.slice ak)
 c_sl_string:P.cellsOf bn=1
 y_string:Nat.blt 0 (P.bytesOf ak)=true
section
variable{P:Program}{W:World}{G:Nat→Option (List AV)}
theorem FG(h:x6 P):pa P W G ae ag.row (ag.ok 0):=
 Cy h.f_Piece h.c_Piece (sX (KT h.u_api_PieceKind) h.c_api_PieceKind (sX (Bx h.u_string) h.c_string (sX (Ff h.u_bool) h.c_bool (Fg _)))) (fun a=>⟨a.1,a.2.1,a.2.2.1⟩) (fun a=>rfl) (fun a ha=>⟨ha.2.1⟩)
theorem Bc(h:x6 P):pa P W G ao (fun s:Sl ag=>[.slice s.tag 3 (s.l.map ag.row)]) (fun s=>s.ok 0 (ag.ok 0)):=
 w7 h.u_sl_Piece h.c_Piece (by decide) (F6 h.y_Piece) (fun _=>by simp only [aQ]) (FG h)
theorem Aq(h:x6 P):pa P W G bn (fun s:Sl Str=>[.slice s.tag 1 (s.l.map aA)]) (fun s=>s.ok 0 fun s=>s.length≤bh):=
 w7 h.u_sl_string h.c_string (by decide) (F6 h.y_string) (fun _=>rfl) (Bx h.u_string)
end
end
section
open Go.Shelf Go.RowKit Go.Lib Go.Proofs
def Ar:Go.Shelf.Ren:=⟨fun | 197=>100 | 260=>122 | n=>n,fun | 9=>9 | 21=>21 | 3=>3 | 4=>4 | 5=>5 | 105=>141 | 119=>197 | 0=>0 | 46=>198 | 139=>201 | 138=>200 | n=>n,fun | 3=>0 | 4=>1 | n=>n⟩
theorem JX:Go.Proofs.Lays.n197 Tryz.prog Ar where
 mixed:=by kernel_rfl
 f197:=Tryz.func100.trans (congrArg some (by kernel_rfl))
 f260:=Tryz.func122.trans (congrArg some (by kernel_rfl))
 t0:=Tryz.underlying0
 a0:=Tryz.isAgg0
 z0:=Tryz.sizeOf0
 v0:=Tryz.zeroValue0
 t3:=Tryz.underlying3
 a3:=Tryz.isAgg3
 z3:=Tryz.sizeOf3
 v3:=Tryz.zeroValue3
 t4:=Tryz.underlying4
 a4:=Tryz.isAgg4
 z4:=Tryz.sizeOf4
 v4:=Tryz.zeroValue4
 t5:=Tryz.underlying5
 a5:=Tryz.isAgg5
 z5:=Tryz.sizeOf5
 v5:=Tryz.zeroValue5
 t9:=Tryz.underlying9
 a9:=Tryz.isAgg9
 z9:=Tryz.sizeOf9
 v9:=Tryz.zeroValue9
 t21:=Tryz.underlying21
 a21:=Tryz.isAgg21
 z21:=Tryz.sizeOf21
 v21:=Tryz.zeroValue21
 t46:=Tryz.underlying198
 a46:=Tryz.isAgg198
 z46:=Tryz.sizeOf198
 v46:=Tryz.zeroValue198
 t105:=Tryz.underlying141
 a105:=Tryz.isAgg141
 z105:=Tryz.sizeOf141
 v105:=Tryz.zeroValue141
 t119:=Tryz.underlying197
 a119:=Tryz.isAgg197
 z119:=Tryz.sizeOf197
 t138:=Tryz.underlying200
 a138:=Tryz.isAgg200
 z138:=Tryz.sizeOf200
 v138:=Tryz.zeroValue200
 t139:=Tryz.underlying201
 a139:=Tryz.isAgg201
 z139:=Tryz.sizeOf201
 v139:=Tryz.zeroValue201
 g3:=by kernel_rfl
 g4:=by kernel_rfl
theorem FH:∀ args w,(callFunc 100 args).run Tryz.prog w = .ok (.enter 100 args) w:=enters_of Tryz.func100 (by kernel_rfl) rfl
theorem H7:∀ (s:ByteArray) (w:World),Lib.Utf8Tabs 0 1 w→Calls Tryz.prog 100 #[.string s] w fun e w'=>e = .returned (.tuple #[.int .i32 (Lib.decodeGo s).1,.int .i64 (Lib.decodeGo s).2])∧Below w.heap.size w w':=fun s w hT=>Any.utf8_DecodeRuneInString JX s w hT
theorem H8 {W:World} (h3:VarReads Tryz.prog W "unicode/utf8.first" firstData) (h4:VarReads Tryz.prog W "unicode/utf8.acceptRanges" acceptData):Lib.Utf8Tabs 0 1 W:=
 utf8Tabs_of_readsT (ρ:=Ar) { JX with } ⟨by kernel_rfl,by kernel_rfl,by kernel_rfl,by kernel_rfl,by kernel_rfl,by kernel_rfl,by kernel_rfl⟩ h3 h4
end
section
open Go.Proofs
def JY:List (Nat×AFn):=[(6,gb),(7,cS),(8,ep),(12,b9),(13,bY),(14,jD),(15,cJ),(16,dA),(17,eG),(21,nk),(22,eQ),(23,cT)]
theorem MX:mI (c7 Tryz.prog G0) JY:=by repeat' first | (unfold c7;kernel_rfl) | exact trivial | refine ⟨?_, ?_⟩
def JZ:List (Nat×AFn):=[(24,l9),(25,gg),(26,nV),(27,eI),(37,oJ),(38,gF),(39,lK),(43,ct),(44,eB),(45,ph),(46,oK),(47,kO)]
theorem MY:mI (c7 Tryz.prog G0) JZ:=by repeat' first | (unfold c7;kernel_rfl) | exact trivial | refine ⟨?_, ?_⟩
def J0:List (Nat×AFn):=[(48,kP),(49,bR),(50,jG),(51,dB),(52,jH),(53,jI),(54,nH),(55,ry),(56,kY),(57,dC),(61,ju),(64,nJ)]
theorem MZ:mI (c7 Tryz.prog G0) J0:=by repeat' first | (unfold c7;kernel_rfl) | exact trivial | refine ⟨?_, ?_⟩
def J1:List (Nat×AFn):=[(75,lQ),(76,jV),(77,gl),(78,nK),(80,cV),(81,jJ),(82,k6),(83,jv),(84,eR),(85,gV),(88,s6),(89,iQ)]
theorem M0:mI (c7 Tryz.prog G0) J1:=by repeat' first | (unfold c7;kernel_rfl) | exact trivial | refine ⟨?_, ?_⟩
def J2:List (Nat×AFn):=[(90,jX),(91,jY),(92,iS),(93,eL),(94,eM),(95,iT),(96,fc),(97,oL),(98,fp),(99,lR),(103,cY),(104,ik)]
theorem M1:mI (c7 Tryz.prog G0) J2:=by repeat' first | (unfold c7;kernel_rfl) | exact trivial | refine ⟨?_, ?_⟩
def J3:List (Nat×AFn):=[(105,il),(114,cP),(115,fJ),(118,iW),(119,jM),(120,kA),(121,im),(125,iq),(126,dE),(127,ft),(128,dF),(129,cL)]
theorem M3:mI (c7 Tryz.prog G0) J3:=by repeat' first | (unfold c7;kernel_rfl) | exact trivial | refine ⟨?_, ?_⟩
def J4:List (Nat×AFn):=[(130,cM),(144,bL),(148,ec),(149,cN),(151,kB),(153,iu),(154,eC)]
theorem M4:mI (c7 Tryz.prog G0) J4:=by repeat' first | (unfold c7;kernel_rfl) | exact trivial | refine ⟨?_, ?_⟩
def J5:List (Nat×List (Nat×AFn)):=[(23,JY),(47,JZ),(64,J0),(89,J1),(104,J2),(129,J3),(154,J4)]
def NI(f:FuncId):Option AFn:=DQ J5 f
theorem LB:∀ f af,NI f=some af→c7 Tryz.prog G0 f af:=fun f af h=>za (show Cu _ J5 from ⟨MX,MY,MZ,M0,M1,M3,M4,trivial⟩) h
def M5(f:FuncId)(args:List AV)(H:List AObj):Option Out:=
 match args with
 |[]=>bif Nat.beq f cE then some (.ret (.bool true),H) else none
 |[.str s]=>bif Nat.beq f bH then some (.ret (.tuple [.int .i32 ((xo s).1:Nat),.int .i64 ((xo s).2:Nat)]),H) else none
 |_=>KX f args H
theorem LC{f:FuncId}{args:List AV}{H H':List AObj}{r:oD}(h:M5 f args H=some (r,H')):cQ Tryz.prog G0 f args H fun r2 H2=>r2=r∧H2=H':=by
 unfold M5 at h;split at h
 ·cases h1:Nat.beq f cE with
  |true=>rw [h1] at h;cases h;rw [Nat.eq_of_beq_eq_true h1];exact Jp H
  |false=>rw [h1] at h;cases h
 ·rename_i s
  cases h1:Nat.beq f bH with
  |true=>rw [h1] at h;cases h;rw [Nat.eq_of_beq_eq_true h1];exact KR rfl FH H7 s H
  |false=>rw [h1] at h;cases h
 ·exact Gc h
noncomputable def EN:aT := { P:=Tryz.prog,G:=G0,fn:=NI,orc:=M5,dfn:=fun _=>none,seq:=KZ,sar:=fun _=>1 }
theorem NJ:EN.Ok:=⟨Gd,fun f af h=>LB f af h,(fun _ _ _ h=>by cases h),(fun _ _ _ _ _ h=>by cases h),fun _ _ _ _ _ h=>LC h,(fun _ _ _ h=>by cases h),Ge⟩
end
end Go.Am
