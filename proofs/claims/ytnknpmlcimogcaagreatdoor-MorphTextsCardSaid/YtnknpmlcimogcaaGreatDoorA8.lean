import Derived.Test.YtnknpmlcimogcaaGreatDoorA7
/-
  Part 8 of the tool: an abstract machine over the model, proved sound, and what it says of the functions that the law reaches. Condition: none but those that each theorem names.
-/
set_option linter.unusedVariables false
set_option linter.unusedSimpArgs false
set_option maxRecDepth 100000
set_option maxHeartbeats 4000000
namespace Go.Am
open Go.RowKit
section
attribute [local congr] aF aS cC bn aG aX aL aH az aA aM aN
variable{E:br}(M:cH bM E)
theorem YB(fn:Zj)(H0:List Y4)(x:RX)(B:AC)(k:List ZA)(a:Env)(H:List Y4):M.go fn H0 (.df x B::k) a H=dfR E M.go fn H0 B k a H (rx a x):=M.step _ _ _ _ _
theorem Xu(hD:FN E)(fn:Zj)(H0:List Y4)(B:AC)(k:List ZA)(a:Env)(H:List Y4)(x y:List AV):dfR E M.go fn H0 B k a H (.fn (.func aq) x y)=M.go fn H0 (.c B :: .dr (.fn (.func aq) x y)::k) a H:=by
 simp [dfR,hD.rd]
theorem Xv(hS:gB E)(args:List AV)(H:List Y4):M.run fY args H=M.go ag H [.c qX,.c (.ops [⟨(some 10),none,(.op (.mf (.func aq) [] [(.t 4)]))⟩]),.df (.t 10) al] (env args) H:=by
 unfold cH.run yu;rw [hS.acn];rfl
theorem mC(hS:gB E)(hD:FN E)(r:Nat)(s:Zc)(G:List Y4):M.run fY [.ptr r 0,.str s] G=M.go ag G [.c al,.dr (Rs G.length)] (qx (qx (qx (qx Env.leaf 0 (.ptr r 0)) 1 (.str s)) 4 (.ptr G.length 0)) 10 (Rs G.length)) (G++[Y4.cells [.bool false] el]):=by
 rw [Xv M hS,qX];simp (config:=apy) only [Zh M,↓Zi,Nat.reduceBEq,Nat.reduceAdd,env,ae,(show ag.res=[.cell 4 none] from rfl),(show ag.mode = .Zn from rfl),(show ag.Z7=(some ([⟨(some 10),none,(.op (.mf (.func aq) [] [(.t 4)]))⟩],(.t 10),al)) from rfl),Zx,AV.cell,Nat.reduceMul,Nat.reduceLeDiff,YB,Xu M hD]
theorem P5(H:List Y4){o:Y4}(cs:List AV)(h:cs.length=4)(hc:cs.all AV.cell=true):stO 4 (H++[o,.cells [.int .i64 0,.int .i64 0,.bool false,.Zw] ep]) (H.length+1) 0 cs (some (.cells [.int .i64 0,.int .i64 0,.bool false,.Zw] ep))=some (H++[o,.cells cs ep]):=by
 obtain ⟨a,b,c,d,rfl⟩:∃ a b c d,cs=[a,b,c,d]:=by
  match cs,h with
  |[a,b,c,d],_=>exact ⟨a,b,c,d,rfl⟩
 simp only [stO];rw [if_pos ⟨rfl,by simp,hc⟩];simp [bq]
def JT(k:K)(last:Zc)(Zb:Nat)(ws:List Zc):Bool:=decide ((k.least:Int)≤(ws.length:Int))&&(k.more||((ws.length:Int) == (k.least:Int)))
def EC(k:K)(last:Zc)(Zb:Nat):Bool:=((last == []) == ((k.Zb:Int) == 0))&&decide ((Zb:Int)≤(k.Zb:Int))
def uV(d:Rd)(last:Zc)(Zb:Nat)(s:Zc):Option (Rd×Zc×Nat):=
 match gh 32 s with
 |[]=>none
 |w::ws=>match kOf w with
  |none=>none
  |some k=>if ((w::ws).all fun x => !(x == []))=true then (if JT k last Zb ws=true then (if EC k last Zb=true then (qS k d last ws).map fun d'=>(d',w,k.Zb) else none) else none) else none
def YC(last:Zc)(Zb:Nat)(s:Zc):Bool:=
 match gh 32 s with
 |[]=>true
 |w::_=>match kOf w with
  |none=>true
  |some k=>EC k last Zb
theorem qK(a b c d:AV):bO none [a,b,c,d] 0=some a∧bO none [a,b,c,d] 1=some b∧bO none [a,b,c,d] 2=some c∧bO none [a,b,c,d] 3=some d:=⟨rfl,rfl,rfl,rfl⟩
theorem TK{N r:Nat}{G G4:List Y4}(hN:N≤G.length)(h:LoR N r G G4)(x:Y4):LoR N r G (G4.set G.length x):=
 ⟨by simpa using h.1,fun i hi hn=>by rw [ami (by omega)];exact h.2.1 i hi hn,fun i cs T hT hi=>by
  have:=dS hi;rw [ami (by omega)];exact h.2.2 i cs T hT hi⟩
theorem ED{N r q:Nat}{G H:List Y4}(hN:N≤G.length)(hq:G.length≤q)(hl:LoR N r G H)(hlen:q<H.length):LoR N r G (L8 H q):=by
 refine ⟨by have:=hl.1;simp;omega,fun i hi hn => ?_,fun i cs T hT hi => ?_⟩
 ·rw [ami (by omega),al7 (by omega)];exact hl.2.1 i hi hn
 ·have hlt:=dS hi
  rw [ami (by omega)];exact bR (hl.2.2 i cs T hT hi)
theorem wU(c:UInt8):∀ s:Zc,(gh c s).length≤s.length+1∧∀ w∈gh c s,w.length≤s.length
 |[]=>⟨by simp [gh],by simp [gh]⟩
 |x::s=>by
  obtain ⟨h1,h2⟩:=wU c s;rw [gh];split
  ·refine ⟨by simp;omega,fun w hw => ?_⟩
   rcases ank.1 hw with rfl | hw
   ·simp
   ·have:=h2 w hw;simp;omega
  ·split
   ·exact ⟨by simp,by simp⟩
   ·rename_i w ws e
    rw [e] at h1 h2;refine ⟨by simp at h1 ⊢;omega,fun v hv => ?_⟩;rcases ank.1 hv with rfl | hv
    ·have:=h2 w (.head _);simp;omega
    ·have:=h2 v (.tail _ hv);simp;omega
theorem TL{N:Nat}(r:Nat)(G L:List Y4)(hN:N≤G.length):LoR N r G (G++L):=⟨by simp,fun i hi _=>al7 (by omega),fun i cs T _ hi=>bR hi⟩
theorem vG.more{N:Nat}{e:TypeId}{sz:Nat}{G:List Y4}{v:AV}{rows:List (List AV)}(h:vG N e sz G v rows)(L:List Y4):vG N e sz (G++L) v rows:=h.stay fun t _ ht=>al7 (dS ht)
theorem RdV.more{N r:Nat}{G:List Y4}{d:Rd}{last:Zc}{Zb:Int}(h:RdV N r G d last Zb)(L:List Y4):RdV N r (G++L) d last Zb:=by
 obtain ⟨tv,cv,ev,sv,kv,hg,p1,p2,p3,p4,p5⟩:=h;have g:∀ {α:Type}{g:Gro α}{cv:AV}{xs:List α},GrV g N G cv xs→GrV g N (G++L) cv xs:=fun h=>h.stay (by simp) (fun i cs _ hi=>al7 (dS hi)) (fun i n _ hi=>al7 (dS hi))
 exact ⟨tv,cv,ev,sv,kv,bR hg,p1.more L,g p2,g p3,p4.more L,p5.more L⟩
theorem mg.chgB{N:Nat}{G G':List Y4}{d:Rd}{tv cv ev sv kv:AV}(h:mg N G d tv cv ev sv kv){e T:TypeId}(c:Chg e T G G')(h1:bW≠e)(h2:aJ≠T)(h3:bX≠e)(h4:aD≠T)(h5:bk≠e)(h6:di≠e)(h7:eo≠e):mg N G' d tv cv ev sv kv:=
 ⟨h.1.chg c h1,h.2.1.chg c h2 h3,h.2.2.1.chg c h4 h5,h.2.2.2.1.chg c h6,h.2.2.2.2.chg c h7⟩
theorem TM{r k:Nat}(h:k≠r):apart [r,r] [k]:=fun x hx=>by
 rw [aoa] at hx;subst hx;simp [h]
abbrev Xw(k:K):Y4:=.cells [.int .i64 (k.Zb:Int),.int .i64 (k.least:Int),.bool k.more,.fn (.func k.fid) [] []] ep
theorem NK(hS:gB E)(hX:nk M)(hP:qN E)(hD:FN E)(hW:WdE M){N r:Nat}{G:List Y4}{d:Rd}{last:Zc}{Zb:Nat}(hN:N≤G.length)(hr:r<N)(h:RdV N r G d last Zb)(hJ:CO d last){m:Nat}(hZ:Cb m d)(hm:m≤1000000){s:Zc}(hs:s.length≤100000)(h0:s≠[]) :
  match uV d last Zb s with
  |some x => ∃ G',M.run fY [.ptr r 0,.str s] G=some (.ret (.bool true),G')∧RdV N r G' x.1 x.2.1 (x.2.2:Int)∧LoR N r G G'
  |none => ∃ G',M.run fY [.ptr r 0,.str s] G=some (.ret (.bool false),G')∧LoR N r G G':=by
 obtain ⟨w,ws,hsp⟩:∃ w ws,gh 32 s=w::ws:=by
  cases hq:gh 32 s with
  |nil=>exact absurd hq (Ew 32 s)
  |cons w ws=>exact ⟨w,ws,rfl⟩
 obtain ⟨hb1,hb2⟩:=wU 32 s;rw [hsp] at hb1 hb2;have hwl:(w::ws).length≤1000000:=by omega
 have hsl:∀ x∈w::ws,x.length≤1000000:=fun x hx=>by have:=hb2 x hx;omega
 have hspl:=fun H=>KO M hS hX (c:=32) (s:=s) hs H
 rw [hsp] at hspl;have hkn:=fun H=>Rq M hS H
 have hlk:=fun G=>Vu G w
 have hdm:=fun b H=>qv M hS b H
 have hq1:∀ L,(G++(Y4.cells [.bool false] el::L))[G.length]?=some (.cells [.bool false] el):=fun L=>by rw [cY];rfl
 have hwx:=SA hW;have hwk:=fun H T L=>PJ hW (g:=ru) (first:=[]) (cap:=[]) (args:=[]) (v:=.Z2 (ni.map pM)) (fun H=>hkn H) H T L
 obtain ⟨rest,hla⟩:=O4 M hS hX (c:=32) (s:=s) (w:=w) (ws:=ws) hs h0 hsp;have hlw:=fun H T L=>PJ hW (g:=kF) (first:=[]) (cap:=[]) (args:=[.str s,.str [32],.int .i64 2]) (v:=.slice .any 1 ((w::rest).map ak)) (fun H=>hla H) H T L
 have hli:=oz (tg:=.any) (ws:=w::rest) (w:=w) rfl;have hlow:∀ L,LoR N r G (G++L):=fun L=>TL r G L hN
 unfold uV;simp only [hsp];rw [TH] at hlk;obtain ⟨W,hWd⟩:∃ W,W=w::ws:=⟨_,rfl⟩
 have hw0:W[0]?=some w:=by rw [hWd];rfl
 have hdr:W.drop 1=ws:=by rw [hWd];rfl
 have hWl:W.length=ws.length+1:=by rw [hWd];rfl
 rw [← hWd] at hspl hwl hsl ⊢;have hwi:=oz (tg:=.any) hw0;clear hWd;cases hk:kOf w with
 |none=>
  simp only [hk,aon] at hlk;refine ⟨L8 (G++[.cells [.bool false] el,.cells [.int .i64 0,.int .i64 0,.bool false,.Zw] ep]) G.length, ?_,ED hN (amp _) (hlow _) (by simp)⟩;have hst:=P5 G (o:=.cells [.bool false] el) [.int .i64 0,.int .i64 0,.bool false,.Zw] rfl rfl;rw [mC M hS hD,al];simp (config:=apy) only [Zh M,↓Zi,Nat.reduceBEq,Nat.reduceAdd,env,ae,(show ag.res=[.cell 4 none] from rfl),(show ag.mode = .Zn from rfl),(show ag.Z7=(some ([⟨(some 10),none,(.op (.mf (.func aq) [] [(.t 4)]))⟩],(.t 10),al)) from rfl),Zx,AV.cell,Nat.reduceMul,Nat.reduceLeDiff,rnc,hspl,hkn,hwx,hwk,hlk,hst,hdm,Zv,dh,hwi,hw0,Zq,qw,Dq M hD (hq1 _)]
 |some k=>
  simp only [hk,amO,TG] at hlk;have hst:=P5 G (o:=.cells [.bool false] el) [.int .i64 (k.Zb:Int),.int .i64 (k.least:Int),.bool k.more,.fn (.func k.fid) [] []] rfl rfl;obtain ⟨G2,hG2⟩:∃ G2,G2=G++[.cells [.bool false] el,Xw k]:=⟨_,rfl⟩
  have hst2:stO 4 (G++[.cells [.bool false] el,.cells [.int .i64 0,.int .i64 0,.bool false,.Zw] ep]) (G.length+1) 0 [.int .i64 (k.Zb:Int),.int .i64 (k.least:Int),.bool k.more,.fn (.func k.fid) [] []] (some (.cells [.int .i64 0,.int .i64 0,.bool false,.Zw] ep))=some G2:=by rw [hG2];exact hst
  have hq2:G2[G.length]?=some (.cells [.bool false] el):=by rw [hG2];exact hq1 _
  have hk2:G2[G.length+1]?=some (.cells [.int .i64 (k.Zb:Int),.int .i64 (k.least:Int),.bool k.more,.fn (.func k.fid) [] []] ep):=by rw [hG2,ZV];rfl
  have hv2:RdV N r G2 d last Zb:=by rw [hG2];exact h.more _
  have hl2:LoR N r G G2:=by rw [hG2];exact hlow _
  have hN2:N≤G2.length:=ams hN hl2.1;have hql:G.length<G2.length:=dS hq2;have hGe:G++[Y4.cells [.bool false] el,.cells [.int .i64 (k.Zb:Int),.int .i64 (k.least:Int),.bool k.more,.fn (.func k.fid) [] []] ep]=G2:=hG2.symm;clear hG2 hst;have loop:=fun k (hk:si k=some (Rs G.length))=>wl0 M hS hD hwl (q:=G.length) (r:=r) (kid:=G.length+1) (s:=s) (H0:=G) hq2 k hk W.length 0 (by omega)
  simp only [Y6,Y8,amj,amf] at loop;have hfr:=vZ (ws:=W) (i:=1) (by omega) (by omega);have e1:((1:Nat):Int)=1:=rfl;rw [e1,hdr] at hfr;have hwr:=fun (a:Env) (ha:fh a 4 = .ptr G.length 0)=>Dq M hD (H0:=G) (a:=a) hq2 ha
  cases hall:(W.all fun x => !(x == [])) with
  |false=>
   simp only [amQ,if_false];refine ⟨L8 G2 G.length, ?_,ED hN (amp _) hl2 hql⟩;rw [hall] at loop;simp only [aaR] at loop;rw [mC M hS hD,al];simp (config:=apy) only [Zh M,↓Zi,Nat.reduceBEq,Nat.reduceAdd,env,ae,(show ag.res=[.cell 4 none] from rfl),(show ag.mode = .Zn from rfl),(show ag.Z7=(some ([⟨(some 10),none,(.op (.mf (.func aq) [] [(.t 4)]))⟩],(.t 10),al)) from rfl),Zx,AV.cell,Nat.reduceMul,Nat.reduceLeDiff,rnc,hspl,hkn,hwx,hwk,hlk,hst2,hGe,hk2,hdm,Zv,dh,hwi,hw0,qK,loop,Zq,qw,hfr,ama]
  |true=>
   simp only [if_true];rw [hall] at loop;simp only [abc] at loop;cases hln:JT k last Zb ws with
   |false=>
    simp only [amQ,if_false];refine ⟨L8 G2 G.length, ?_,ED hN (amp _) hl2 hql⟩;unfold JT at hln;cases hb1:decide ((k.least:Int)≤(ws.length:Int)) with
    |false=>
     have hb1n:decide (k.least≤ws.length)=false:=by rw [← hb1];exact anp.2 (by omega)
     rw [mC M hS hD,al];simp (config:=apy) only [Zh M,↓Zi,Nat.reduceBEq,Nat.reduceAdd,env,ae,(show ag.res=[.cell 4 none] from rfl),(show ag.mode = .Zn from rfl),(show ag.Z7=(some ([⟨(some 10),none,(.op (.mf (.func aq) [] [(.t 4)]))⟩],(.t 10),al)) from rfl),Zx,AV.cell,Nat.reduceMul,Nat.reduceLeDiff,rnc,hspl,hkn,hwx,hwk,hlk,hst2,hGe,hk2,hdm,Zv,dh,hwi,hw0,qK,loop,Zq,qw,hfr,ama,hb1,hb1n,hwr]
    |true=>
     rw [hb1,amY,anR] at hln;obtain ⟨hb2,hb3⟩:=hln
     have hb3n:(ws.length == k.least)=false:=by
      have:=amg.1 hb3;exact amg.2 (by omega)
     have hb1n:decide (k.least≤ws.length)=true:=by rw [← hb1];exact anp.2 (by omega)
     rw [hb2] at hst2 hk2 hlk hGe;rw [mC M hS hD,al];simp (config:=apy) only [Zh M,↓Zi,Nat.reduceBEq,Nat.reduceAdd,env,ae,(show ag.res=[.cell 4 none] from rfl),(show ag.mode = .Zn from rfl),(show ag.Z7=(some ([⟨(some 10),none,(.op (.mf (.func aq) [] [(.t 4)]))⟩],(.t 10),al)) from rfl),Zx,AV.cell,Nat.reduceMul,Nat.reduceLeDiff,rnc,hspl,hkn,hwx,hwk,hlk,hst2,hGe,hk2,hdm,Zv,dh,hwi,hw0,qK,loop,Zq,qw,hfr,ama,hb1,hb1n,hb2,hb3,hb3n,hwr]
   |true=>
    simp only [if_true];unfold JT at hln;rw [amb] at hln;obtain ⟨hb1,hb23⟩:=hln;have hleast:k.least≤ws.length:=by have:=of_decide_eq_true hb1;omega
    have hb1n:decide (k.least≤ws.length)=true:=amu hleast;cases hrk:EC k last Zb with
    |false=>
     simp only [amQ,if_false];refine ⟨L8 G2 G.length, ?_,ED hN (amp _) hl2 hql⟩;obtain ⟨tv2,cv2,ev2,sv2,kv2,hg2,_⟩:=id hv2;obtain ⟨b2,hb2⟩:∃ b2,k.more=b2:=⟨_,rfl⟩
     obtain ⟨b3,hb3⟩:∃ b3,((ws.length:Int) == (k.least:Int))=b3:=⟨_,rfl⟩
     rw [hb3] at hb23;rw [hb2] at hb23 hst2 hk2 hlk hGe;have ef1:req EK.bool (.bool true) (.bool false)=some false:=rfl;have ef2:req EK.bool (.bool false) (.bool true)=some false:=rfl;have et1:req EK.bool (.bool true) (.bool true)=some true:=rfl;have et2:req EK.bool (.bool false) (.bool false)=some true:=rfl;unfold EC at hrk
     have hb3x:b2=false→b3=true∧(ws.length == k.least)=true:=fun e=>by
      rw [e,anH] at hb23;subst hb23;exact ⟨rfl,by have:=eq_of_beq hb3;exact amU.2 (by omega)⟩
     cases hc1:(last == ([]:Zc))<;>cases hc2:((k.Zb:Int) == 0)<;>rw [hc1,hc2] at hrk
     ·have hc3:decide ((Zb:Int)≤(k.Zb:Int))=false:=by simpa using hrk
      have hc3n:decide (Zb≤k.Zb)=false:=by rw [← hc3];exact anp.2 (by omega)
      cases b2 with
      |true=>
       rw [mC M hS hD,al];simp (config:=apy) only [Zh M,↓Zi,Nat.reduceBEq,Nat.reduceAdd,env,ae,(show ag.res=[.cell 4 none] from rfl),(show ag.mode = .Zn from rfl),(show ag.Z7=(some ([⟨(some 10),none,(.op (.mf (.func aq) [] [(.t 4)]))⟩],(.t 10),al)) from rfl),Zx,AV.cell,Nat.reduceMul,Nat.reduceLeDiff,am6,rK,rL,rnc,hspl,hkn,hwx,hwk,hlk,hst2,hGe,hk2,hdm,Zv,dh,hwi,hw0,qK,loop,Zq,qw,hfr,ama,hb1,hb1n,hwr,hg2,qRd,hc1,hc2,hc3,hc3n,ef1,ef2,et1,et2]
      |false=>
       obtain ⟨rfl,hb3n⟩:=hb3x rfl;rw [mC M hS hD,al];simp (config:=apy) only [Zh M,↓Zi,Nat.reduceBEq,Nat.reduceAdd,env,ae,(show ag.res=[.cell 4 none] from rfl),(show ag.mode = .Zn from rfl),(show ag.Z7=(some ([⟨(some 10),none,(.op (.mf (.func aq) [] [(.t 4)]))⟩],(.t 10),al)) from rfl),Zx,AV.cell,Nat.reduceMul,Nat.reduceLeDiff,am6,rK,rL,rnc,hspl,hkn,hwx,hwk,hlk,hst2,hGe,hk2,hdm,Zv,dh,hwi,hw0,qK,loop,Zq,qw,hfr,ama,hb1,hb1n,hb3,hb3n,hwr,hg2,qRd,hc1,hc2,hc3,hc3n,ef1,ef2,et1,et2]
     ·cases b2 with
      |true=>
       rw [mC M hS hD,al];simp (config:=apy) only [Zh M,↓Zi,Nat.reduceBEq,Nat.reduceAdd,env,ae,(show ag.res=[.cell 4 none] from rfl),(show ag.mode = .Zn from rfl),(show ag.Z7=(some ([⟨(some 10),none,(.op (.mf (.func aq) [] [(.t 4)]))⟩],(.t 10),al)) from rfl),Zx,AV.cell,Nat.reduceMul,Nat.reduceLeDiff,am6,rK,rL,rnc,hspl,hkn,hwx,hwk,hlk,hst2,hGe,hk2,hdm,Zv,dh,hwi,hw0,qK,loop,Zq,qw,hfr,ama,hb1,hb1n,hwr,hg2,qRd,hc1,hc2,ef1,ef2,et1,et2]
      |false=>
       obtain ⟨rfl,hb3n⟩:=hb3x rfl;rw [mC M hS hD,al];simp (config:=apy) only [Zh M,↓Zi,Nat.reduceBEq,Nat.reduceAdd,env,ae,(show ag.res=[.cell 4 none] from rfl),(show ag.mode = .Zn from rfl),(show ag.Z7=(some ([⟨(some 10),none,(.op (.mf (.func aq) [] [(.t 4)]))⟩],(.t 10),al)) from rfl),Zx,AV.cell,Nat.reduceMul,Nat.reduceLeDiff,am6,rK,rL,rnc,hspl,hkn,hwx,hwk,hlk,hst2,hGe,hk2,hdm,Zv,dh,hwi,hw0,qK,loop,Zq,qw,hfr,ama,hb1,hb1n,hb3,hb3n,hwr,hg2,qRd,hc1,hc2,ef1,ef2,et1,et2]
     ·cases b2 with
      |true=>
       rw [mC M hS hD,al];simp (config:=apy) only [Zh M,↓Zi,Nat.reduceBEq,Nat.reduceAdd,env,ae,(show ag.res=[.cell 4 none] from rfl),(show ag.mode = .Zn from rfl),(show ag.Z7=(some ([⟨(some 10),none,(.op (.mf (.func aq) [] [(.t 4)]))⟩],(.t 10),al)) from rfl),Zx,AV.cell,Nat.reduceMul,Nat.reduceLeDiff,am6,rK,rL,rnc,hspl,hkn,hwx,hwk,hlk,hst2,hGe,hk2,hdm,Zv,dh,hwi,hw0,qK,loop,Zq,qw,hfr,ama,hb1,hb1n,hwr,hg2,qRd,hc1,hc2,ef1,ef2,et1,et2]
      |false=>
       obtain ⟨rfl,hb3n⟩:=hb3x rfl;rw [mC M hS hD,al];simp (config:=apy) only [Zh M,↓Zi,Nat.reduceBEq,Nat.reduceAdd,env,ae,(show ag.res=[.cell 4 none] from rfl),(show ag.mode = .Zn from rfl),(show ag.Z7=(some ([⟨(some 10),none,(.op (.mf (.func aq) [] [(.t 4)]))⟩],(.t 10),al)) from rfl),Zx,AV.cell,Nat.reduceMul,Nat.reduceLeDiff,am6,rK,rL,rnc,hspl,hkn,hwx,hwk,hlk,hst2,hGe,hk2,hdm,Zv,dh,hwi,hw0,qK,loop,Zq,qw,hfr,ama,hb1,hb1n,hb3,hb3n,hwr,hg2,qRd,hc1,hc2,ef1,ef2,et1,et2]
     ·have hc3:decide ((Zb:Int)≤(k.Zb:Int))=false:=by simpa using hrk
      have hc3n:decide (Zb≤k.Zb)=false:=by rw [← hc3];exact anp.2 (by omega)
      cases b2 with
      |true=>
       rw [mC M hS hD,al];simp (config:=apy) only [Zh M,↓Zi,Nat.reduceBEq,Nat.reduceAdd,env,ae,(show ag.res=[.cell 4 none] from rfl),(show ag.mode = .Zn from rfl),(show ag.Z7=(some ([⟨(some 10),none,(.op (.mf (.func aq) [] [(.t 4)]))⟩],(.t 10),al)) from rfl),Zx,AV.cell,Nat.reduceMul,Nat.reduceLeDiff,am6,rK,rL,rnc,hspl,hkn,hwx,hwk,hlk,hst2,hGe,hk2,hdm,Zv,dh,hwi,hw0,qK,loop,Zq,qw,hfr,ama,hb1,hb1n,hwr,hg2,qRd,hc1,hc2,hc3,hc3n,ef1,ef2,et1,et2]
      |false=>
       obtain ⟨rfl,hb3n⟩:=hb3x rfl;rw [mC M hS hD,al];simp (config:=apy) only [Zh M,↓Zi,Nat.reduceBEq,Nat.reduceAdd,env,ae,(show ag.res=[.cell 4 none] from rfl),(show ag.mode = .Zn from rfl),(show ag.Z7=(some ([⟨(some 10),none,(.op (.mf (.func aq) [] [(.t 4)]))⟩],(.t 10),al)) from rfl),Zx,AV.cell,Nat.reduceMul,Nat.reduceLeDiff,am6,rK,rL,rnc,hspl,hkn,hwx,hwk,hlk,hst2,hGe,hk2,hdm,Zv,dh,hwi,hw0,qK,loop,Zq,qw,hfr,ama,hb1,hb1n,hb3,hb3n,hwr,hg2,qRd,hc1,hc2,hc3,hc3n,ef1,ef2,et1,et2]
    |true=>
    simp only [if_true];unfold EC at hrk;rw [amb] at hrk;obtain ⟨hc12,hc3⟩:=hrk;have hc3n:decide (Zb≤k.Zb)=true:=by rw [← hc3];exact anp.2 (by omega)
    have hkd:=TI M hS hX hP hN2 hv2 hJ hZ hm k hleast (by omega) (fun x hx=>hsl x (by rw [← hdr] at hx;exact anu hx));obtain ⟨tv2,cv2,ev2,sv2,kv2,hg2,_⟩:=id hv2;have hb:∃ c1 c2 b3,(last == ([]:Zc))=c1∧((k.Zb:Int) == 0)=c2∧((ws.length:Int) == (k.least:Int))=b3:=⟨_,_,_,rfl,rfl,rfl⟩
    obtain ⟨c1,c2,b3,hc1,hc2,hb3⟩:=hb;rw [hc1,hc2] at hc12;rw [hb3] at hb23;have hcc:c1=c2:=eq_of_beq hc12;subst hcc;have ec:∀ c:Bool,req EK.bool (.bool c) (.bool c)=some true:=fun c=>by cases c<;>rfl
    obtain ⟨b2,hb2⟩:∃ b2,k.more=b2:=⟨_,rfl⟩
    rw [hb2] at hb23 hst2 hk2 hlk hGe;cases hrd:qS k d last ws with
    |none=>
     simp only [hrd] at hkd;simp only [aon];refine ⟨L8 G2 G.length, ?_,ED hN (amp _) hl2 hql⟩;cases b2 with
     |true=>
      rw [mC M hS hD,al];simp (config:=apy) only [Zh M,↓Zi,Nat.reduceBEq,Nat.reduceAdd,env,ae,(show ag.res=[.cell 4 none] from rfl),(show ag.mode = .Zn from rfl),(show ag.Z7=(some ([⟨(some 10),none,(.op (.mf (.func aq) [] [(.t 4)]))⟩],(.t 10),al)) from rfl),Zx,AV.cell,Nat.reduceMul,Nat.reduceLeDiff,am6,rK,rL,rnc,hspl,hkn,hwx,hwk,hlk,hst2,hGe,hk2,hdm,Zv,dh,hwi,hw0,qK,loop,Zq,qw,hfr,ama,hb1,hb1n,hwr,hg2,qRd,hc1,hc2,hc3,hc3n,ec,hkd]
     |false=>
      simp only [anH] at hb23;subst hb23
      have hb3n:(ws.length == k.least)=true:=by
       have:=eq_of_beq hb3;exact amU.2 (by omega)
      rw [mC M hS hD,al];simp (config:=apy) only [Zh M,↓Zi,Nat.reduceBEq,Nat.reduceAdd,env,ae,(show ag.res=[.cell 4 none] from rfl),(show ag.mode = .Zn from rfl),(show ag.Z7=(some ([⟨(some 10),none,(.op (.mf (.func aq) [] [(.t 4)]))⟩],(.t 10),al)) from rfl),Zx,AV.cell,Nat.reduceMul,Nat.reduceLeDiff,am6,rK,rL,rnc,hspl,hkn,hwx,hwk,hlk,hst2,hGe,hk2,hdm,Zv,dh,hwi,hw0,qK,loop,Zq,qw,hfr,ama,hb1,hb1n,hb3,hb3n,hwr,hg2,qRd,hc1,hc2,hc3,hc3n,ec,hkd]
    |some d'=>
     simp only [hrd] at hkd;simp only [amO];obtain ⟨G3,hk3r,hv3,hl3⟩:=hkd;obtain ⟨tv,cv,ev,sv,kv,hg3,hp3⟩:=hv3;have hq3:=hl3.2.2 _ _ _ (.inl rfl) hq2;have hk3:=hl3.2.2 _ _ _ (.inr rfl) hk2;have hrq:r≠G.length:=by omega
     have hrk2:G.length+1≠r:=by omega
     have hst6:stO 1 G3 r 6 [.str w] (some (rdC d'.Z3 tv cv ev sv kv last Zb))=some (G3.set r (rdC d'.Z3 tv cv ev sv kv w Zb)):=jW rfl (by simp);obtain ⟨G4,hG4⟩:∃ G4,G4=G3.set r (rdC d'.Z3 tv cv ev sv kv w Zb):=⟨_,rfl⟩
     have hg4:G4[r]?=some (rdC d'.Z3 tv cv ev sv kv w Zb):=by rw [hG4];exact amy (dS hg3)
     have hq4:G4[G.length]?=some (.cells [.bool false] el):=by rw [hG4,ami hrq];exact hq3
     have hk4:G4[G.length+1]?=some (.cells [.int .i64 (k.Zb:Int),.int .i64 (k.least:Int),.bool b2,.fn (.func k.fid) [] []] ep):=by rw [hG4,ami (Ne.symm hrk2)];exact hk3
     have hp4:mg N G4 d' tv cv ev sv kv:=by rw [hG4];exact hp3.set hg3
     have hl4:LoR N r G3 G4:=by rw [hG4];exact xE (Chg.refl el da G3) (by decide) (fun _ _=>rfl) hg3 _
     rw [← hG4] at hst6;have e4:=hG4.symm;clear hG4;have hst7:stO 1 G4 r 7 [.int .i64 (k.Zb:Int)] (some (rdC d'.Z3 tv cv ev sv kv w Zb))=some (G4.set r (rdC d'.Z3 tv cv ev sv kv w k.Zb)):=jW rfl (by simp);obtain ⟨G5,hG5⟩:∃ G5,G5=G4.set r (rdC d'.Z3 tv cv ev sv kv w k.Zb):=⟨_,rfl⟩
     have hg5:G5[r]?=some (rdC d'.Z3 tv cv ev sv kv w k.Zb):=by rw [hG5];exact amy (dS hg4)
     have hq5:G5[G.length]?=some (.cells [.bool false] el):=by rw [hG5,ami hrq];exact hq4
     have hp5:mg N G5 d' tv cv ev sv kv:=by rw [hG5];exact hp4.set hg4
     have hl5:LoR N r G4 G5:=by rw [hG5];exact xE (Chg.refl el da G4) (by decide) (fun _ _=>rfl) hg4 _
     rw [← hG5] at hst7;have e5:=hG5.symm;clear hG5;have hst8:stO 1 G5 G.length 0 [.bool true] (some (.cells [.bool false] el))=some (G5.set G.length (.cells [.bool true] el)):=jW rfl (by simp);have hq6:(G5.set G.length (.cells [.bool true] el))[G.length]?=some (.cells [.bool true] el):=amy (dS hq5);have cB:Chg el el G5 (G5.set G.length (.cells [.bool true] el)):=⟨by simp,fun i x hx _ n2=>by rw [ami (fun e=>n2 [.bool false] (by rw [← e,hq5] at hx;injection hx with hx;exact hx.symm))];exact hx⟩
     have hnl:=fun (a:Env) (ha:fh a 4 = .ptr G.length 0)=>TJ M hD (H0:=G) (a:=a) hq6 ha
     have aa:=fun r'=>TF (TM hrk2) r'
     refine ⟨G5.set G.length (.cells [.bool true] el), ?_,⟨tv,cv,ev,sv,kv, ?_,hp5.chgB cB (by decide) (by decide) (by decide) (by decide) (by decide) (by decide) (by decide)⟩,TK hN (((hl2.trans hl3).trans hl4).trans hl5) _⟩
     ·cases b2 with
      |true=>
       rw [mC M hS hD,al];simp (config:=apy) only [Zh M,↓Zi,Nat.reduceBEq,Nat.reduceAdd,env,ae,(show ag.res=[.cell 4 none] from rfl),(show ag.mode = .Zn from rfl),(show ag.Z7=(some ([⟨(some 10),none,(.op (.mf (.func aq) [] [(.t 4)]))⟩],(.t 10),al)) from rfl),Zx,AV.cell,Nat.reduceMul,Nat.reduceLeDiff,am6,rK,rL,rnc,hspl,hkn,hwx,hwk,hlk,hst2,hGe,hk2,hdm,Zv,dh,hwi,hw0,qK,loop,Zq,qw,hfr,ama,Cx,amZ,aa,Zl,hb1,hb1n,hwr,hg2,qRd,hc1,hc2,hc3,hc3n,ec,hk3r,hg3,hk3,hlw,hla,hli,hst6,e4,hg4,hst7,e5,hq5,hst8,hnl,amx]
      |false=>
       simp only [anH] at hb23;subst hb23
       have hb3n:(ws.length == k.least)=true:=by
        have:=eq_of_beq hb3;exact amU.2 (by omega)
       rw [mC M hS hD,al];simp (config:=apy) only [Zh M,↓Zi,Nat.reduceBEq,Nat.reduceAdd,env,ae,(show ag.res=[.cell 4 none] from rfl),(show ag.mode = .Zn from rfl),(show ag.Z7=(some ([⟨(some 10),none,(.op (.mf (.func aq) [] [(.t 4)]))⟩],(.t 10),al)) from rfl),Zx,AV.cell,Nat.reduceMul,Nat.reduceLeDiff,am6,rK,rL,rnc,hspl,hkn,hwx,hwk,hlk,hst2,hGe,hk2,hdm,Zv,dh,hwi,hw0,qK,loop,Zq,qw,hfr,ama,Cx,amZ,aa,Zl,hb1,hb1n,hb3,hb3n,hwr,hg2,qRd,hc1,hc2,hc3,hc3n,ec,hk3r,hg3,hk3,hlw,hla,hli,hst6,e4,hg4,hst7,e5,hq5,hst8,hnl,amx]
     ·rw [ami (Ne.symm hrq)];exact hg5
end
section
attribute [local congr] aF aS cC bn aG aX aL aH az aA aM aN
variable{E:br}(M:cH bM E)
def YD(c:UInt8):Bool:=c != 32&&c != 10&&c != 61
def Ji(s:Zc):Bool:=s.all YD
def okD(s:Zc):Prop:=Ji s=true∧s≠[45]
theorem P6{s:Zc}(h:okD s):Ji (cX s)=true∧cX s≠[]∧dc (cX s)=s:=by
 unfold cX
 by_cases e:(s == [])=true
 ·rw [if_pos e]
  have:s=[]:=eq_of_beq e
  subst this;exact ⟨by decide,by simp,by decide⟩
 ·rw [if_neg e]
  have e1:s≠[]:=fun h=>e (by rw [h];rfl)
  refine ⟨h.1,e1, ?_⟩;unfold dc;rw [if_neg (by simpa using h.2)]
theorem Vw:(List.range 1000).all (fun n=>(Ji (fJ n)) && !(fJ n == [])&&(match wR (fJ n) with | some m=>m == n | none=>false))=true:=by decide +kernel
theorem Xx{n:Nat}(h:n<1000):Ji (fJ n)=true∧fJ n≠[]∧wR (fJ n)=some n:=by
 have:=amI.1 Vw n (anV.2 h);simp only [amb] at this;obtain ⟨⟨h1,h2⟩,h3⟩:=this;refine ⟨h1,by simpa using h2, ?_⟩;cases hn:wR (fJ n) with
 |none=>rw [hn] at h3;cases h3
 |some m=>rw [hn] at h3;rw [eq_of_beq h3]
def fe1(f:aw):Zc:=f.name++61::f.value
theorem NL{c:UInt8}{s:Zc}(h:∀ x∈s,x≠c):Lib.countByte s c=0:=by
 rw [Lib.countByte,api];exact fun hm=>h c hm rfl
theorem Hl{s:Zc}(h:Ji s=true):∀ x∈s,x≠32∧x≠10∧x≠61:=fun x hx=>by
 have:=amI.1 h x hx;simp only [YD,amb,bne_iff_ne,ne_eq] at this;exact ⟨this.1.1,this.1.2,this.2⟩
theorem P7(c:UInt8):∀ (a r:Zc),(∀ x∈a,x≠c)→Lib.indexByte (a++c::r) c=(a.length:Int)
 |[],r,_=>by simp [Lib.indexByte]
 |x::a,r,h=>by
  have ih:=P7 c a r fun y hy=>h y (.tail _ hy)
  have hb:(x == c)=false:=by simpa using h x (.head _)
  simp only [amW,Lib.indexByte,hb,ih]
  have:((a.length:Int) == -1)=false:=amg.2 (by omega)
  simp [this]
theorem Xy{f:aw}(h1:Ji f.name=true)(h2:Ji f.value=true):Lib.countByte (fe1 f) 61=1∧wS 61 (fe1 f)=f.name∧wT 61 (fe1 f)=f.value:=by
 have n1:=fun x hx=>(Hl h1 x hx).2.2
 have n2:=fun x hx=>(Hl h2 x hx).2.2
 have hi:=P7 61 f.name f.value n1;have hn:(Lib.indexByte (fe1 f) 61).toNat=f.name.length:=by unfold fe1;rw [hi];rfl
 refine ⟨?_, ?_, ?_⟩
 ·have c1:=NL n1
  have c2:=NL n2;unfold fe1;rw [Lib.countByte] at c1 c2 ⊢;rw [List.count_append,List.count_cons_self,c1,c2]
 ·unfold wS;rw [hn];exact aoe rfl
 ·unfold wT;rw [hn]
  have:fe1 f=(f.name++[61])++f.value:=by simp [fe1]
  rw [this];exact aoF (by simp)
theorem NM:∀ {fs:List aw},(∀ f∈fs,Ji f.name=true∧Ji f.value=true)→dq (fs.map fe1)=some fs
 |[],_=>rfl
 |f::l,h=>by
  obtain ⟨h1,h2,h3⟩:=Xy (h f (.head _)).1 (h f (.head _)).2;rw [amN,dq,if_pos h1,NM fun g hg=>h g (.tail _ hg),h2,h3];rfl
abbrev StR:Type:=Rd×Zc×Nat
def CP(s:Zc):Bool:=s == []||s.head? == some 59
def xI(st:StR)(s:Zc):Option StR:=if CP s=true then some st else uV st.1 st.2.1 st.2.2 s
def uW:List Zc→StR→Option StR
 |[],st=>some st
 |x::l,st=>match xI st x with
  |some st'=>uW l st'
  |none=>none
theorem P8(k:K):kOf k.key=some k:=by cases k<;>rfl
theorem Xz(k:K):Ji k.key=true∧k.key≠[]∧k.key.head?≠some 59∧k.key≠([]:Zc):=by cases k<;>decide
end
section
attribute [local congr] aF aS cC bn aG aX aL aH az aA aM aN
variable{E:br}(M:cH bM E)
def zi(x:Zc):Prop:=Ji x=true∧x≠[]
def FsG(fs:List aw):Prop:=∀ f∈fs,zi f.name∧zi f.value
structure VOk (l:Lex):Prop where
 Z3:okD l.Zs
 tr:∀ t∈l.Y9.l,zi t.name∧∀ v∈t.values.l,zi v
 cl:∀ c∈l.Y7.l,zi c.name∧∀ s∈c.Zd.l,(0≤s.cut∧s.cut≤24)∧okD s.pre∧okD s.add∧FsG s.Zf.l
 en:∀ x∈l.entries.l,zi x.lem∧zi x.cls∧FsG x.Zf.l∧∀ f∈x.Zg.l,(0≤f.slot∧f.slot<24)∧okD f.word
 sp:∀ x∈l.Ze.l,x.frm≠[]∧okD x.frm∧okD x.to∧okD x.left∧okD x.right
 li:∀ x∈l.Zm.l,zi x.cls∧okD x.glue∧FsG x.Zf.l
def sp1(x:Zc):Prop:=x≠[]∧∀ c∈x,c≠(32:UInt8)∧c≠(10:UInt8)
theorem zi.sp{x:Zc}(h:zi x):sp1 x:=⟨h.2,fun c hc=>⟨(Hl h.1 c hc).1,(Hl h.1 c hc).2.1⟩⟩
theorem okD.dash{x:Zc}(h:okD x):zi (cX x):=⟨(P6 h).1,(P6 h).2.1⟩
theorem XA{f:aw}(h1:zi f.name)(h2:zi f.value):sp1 (fe1 f):=by
 refine ⟨by simp [fe1],fun c hc => ?_⟩;rcases aoc.1 hc with hc | hc
 ·exact h1.sp.2 c hc
 ·rcases ank.1 hc with rfl | hc
  ·decide
  ·exact h2.sp.2 c hc
theorem FsG.sp{fs:List aw}(h:FsG fs):∀ x∈fs.map fe1,sp1 x:=fun x hx=>by
 obtain ⟨f,hf,rfl⟩:=anD.1 hx;exact XA (h f hf).1 (h f hf).2
theorem FsG.ok{fs:List aw}(h:FsG fs):dq (fs.map fe1)=some fs:=NM fun f hf=>⟨(h f hf).1.1,(h f hf).2.1⟩
def trB(t:bf):bf:=⟨t.name,⟨.any,t.values.l⟩⟩
def slB(s:bU):bU:=⟨s.cut,s.pre,s.add,⟨.any,s.Zf.l⟩⟩
def clB(c:aV):aV:=⟨c.name,⟨.any,c.Zd.l.map slB⟩⟩
def enB(x:aT):aT:=⟨x.lem,x.cls,⟨.any,x.Zf.l⟩,⟨.any,x.Zg.l⟩⟩
def liB(x:dn):dn:=⟨x.cls,x.glue,⟨.any,x.Zf.l⟩⟩
theorem TN(k:K):k.key≠[]:=(Xz k).2.1
def rd0:Rd:=⟨[],[],[],[],[],[]⟩
end
section
attribute [local congr] aF aS cC bn aG aX aL aH az aA aM aN
variable{E:br}(M:cH bM E)
deriving instance DecidableEq for K
def Lex.ba(l:Lex):Lex:=⟨l.Zs,⟨.any,l.Y9.l.map trB⟩,⟨.any,l.Y7.l.map clB⟩,⟨.any,l.entries.l.map enB⟩,⟨.any,l.Ze.l⟩,⟨.any,l.Zm.l.map liB⟩⟩
theorem KR{α β:Type}(f:α→β)(F:Nat→β→Int):∀ (l:List α) (i:Nat),tF F i (l.map f)=tF (fun i x=>F i (f x)) i l
 |[],_=>rfl
 |x::l,i=>by rw [amN,tF,tF,KR f F l (i+1)]
theorem wV{α β:Type}(m:Int)(f:α→β)(F:Nat→β→Int)(l:List α):j9 m F (l.map f)=j9 m (fun i x=>F i (f x)) l:=by
 rw [j9,j9,KR,ama]
theorem FO{α β:Type}(f:α→β)(p:β→Bool)(q:α→Bool)(h:∀ x,p (f x)=q x):∀ l:List α,(l.map f).find? p=(l.find? q).map f
 |[]=>rfl
 |x::l=>by
  rw [amN,ao4,ao4,h x];cases q x with
  |true=>rfl
  |false=>exact FO f p q h l
theorem NN{α β:Type}(f:α→β)(p:β→Bool)(q:α→Bool)(h:∀ x,p (f x)=q x)(l:List α):(l.map f).any p=l.any q:=by
 rw [List.any_map];congr 1;funext x;exact h x
theorem FP{α β:Type}(f:α→β)(p:β→Bool)(q:α→Bool)(h:∀ x,p (f x)=q x)(l:List α)(i:Nat):((l.map f).take i).any p=(l.take i).any q:=by
 rw [← List.map_take];exact NN f p q h _
theorem TO(l:Lex)(s:Zc):uR l.ba s=(uR l s).map clB:=FO _ _ _ (fun _=>rfl) l.Y7.l
theorem XB(l:Lex)(b:List aw)(i:Nat)(f:aw):BY l.ba b i f=BY l b i f:=by
 unfold BY;rw [show l.ba.Y9.l.find? (fun t=>t.name == f.name)=(l.Y9.l.find? fun t=>t.name == f.name).map trB from FO _ _ _ (fun _=>rfl) l.Y9.l];cases l.Y9.l.find? fun t=>t.name == f.name<;>rfl
theorem FQ(l:Lex)(b:List aw):iW l.ba b=iW l b:=by
 unfold iW;rw [show BY l.ba b=BY l b from funext fun i=>funext fun f=>XB l b i f]
theorem Jj(l:Lex):iV l.ba=iV l:=by
 have h1:pC l.ba=pC l:=by
  unfold pC;rw [show l.ba.Y9.l=l.Y9.l.map trB from rfl,wV];congr 1;funext i t;unfold Dh;rw [show l.ba.Y9.l=l.Y9.l.map trB from rfl,FP trB _ (fun o=>o.name == t.name) (fun _=>rfl)];rfl
 have h2:pD l.ba=pD l:=by
  unfold pD;rw [show l.ba.Y7.l=l.Y7.l.map clB from rfl,wV];congr 1;funext i c;unfold B1;rw [show l.ba.Y7.l=l.Y7.l.map clB from rfl,FP clB _ (fun o=>o.name == c.name) (fun _=>rfl)];rw [show (clB c).Zd.l=c.Zd.l.map slB from rfl,wV,ama]
  have:(fun (i:Nat) (s:bU)=>BZ l.ba (slB s))=fun i s=>BZ l s:=by
   funext i s;unfold BZ;rw [FQ];rfl
  rw [this];rfl
 have h3:tG l.ba=tG l:=by
  unfold tG;rw [show l.ba.entries.l=l.entries.l.map enB from rfl,wV];congr 1;funext i x;unfold wM;rw [show (enB x).cls=x.cls from rfl,TO];cases uR l x.cls with
  |none=>rfl
  |some c=>
   simp only [amO];rw [show l.ba.entries.l=l.entries.l.map enB from rfl,FP enB _ (fun o=>o.lem == x.lem&&o.cls == x.cls) (fun _=>rfl),FQ];rw [show (clB c).Zd.l=c.Zd.l.map slB from rfl,NN slB _ (fun s=>re x.Zf.l s.Zf.l) (fun _=>rfl),ama];rfl
 have h4:vF l.ba=vF l:=rfl
 have h5:ud l.ba=ud l:=by
  unfold ud;rw [show l.ba.Zm.l=l.Zm.l.map liB from rfl,wV];congr 1;funext i x;unfold B2;rw [show (liB x).cls=x.cls from rfl,TO];cases uR l x.cls with
  |none=>rfl
  |some c=>
   simp only [amO];rw [FQ];rfl
 unfold iV;rw [h1,h2,h3,h4,h5];rfl
theorem zj{α β:Type}(f:α→β)(g:β→Zc)(h:α→Zc)(e:∀ x,g (f x)=h x):∀ l:List α,db g (l.map f)=db h l
 |[]=>rfl
 |x::l=>by rw [amN,db,db,e x,zj f g h e l]
theorem P9(l:Lex):qt l.ba=qt l:=by
 unfold qt
 have h2:∀ c,mz (clB c)=mz c:=fun c=>by
  unfold mz;rw [show (clB c).Zd.l=c.Zd.l.map slB from rfl,zj slB uT uT (fun _=>rfl)];rfl
 rw [show l.ba.Y9.l=l.Y9.l.map trB from rfl,show l.ba.Y7.l=l.Y7.l.map clB from rfl,show l.ba.entries.l=l.entries.l.map enB from rfl,show l.ba.Zm.l=l.Zm.l.map liB from rfl];rw [zj trB qs qs (fun _=>rfl),zj clB mz mz h2,zj enB pE pE (fun _=>rfl),zj liB uU uU (fun _=>rfl)];rfl
abbrev BB:Nat:=100000
def FsK(fs:Sl aw):Prop:=fs.tag = .any∧fs.l.length≤BB∧∀ f∈fs.l,f.name.length≤BB∧f.value.length≤BB
def TrK(t:bf):Prop:=t.name.length≤BB∧(t.values.tag = .any∨t.values.tag = .nil)∧t.values.l.length≤BB∧∀ v∈t.values.l,v.length≤BB
def SlK(s:bU):Prop:=(0≤s.cut∧s.cut≤999)∧s.pre.length≤BB∧s.add.length≤BB∧FsK s.Zf
def ClK(c:aV):Prop:=c.name.length≤BB∧c.Zd.tag = .any∧∀ s∈c.Zd.l,SlK s
def IrK(f:bE):Prop:=(0≤f.slot∧f.slot≤999)∧f.word.length≤BB
def EnK(x:aT):Prop:=x.lem.length≤BB∧x.cls.length≤BB∧FsK x.Zf∧x.Zg.tag = .any∧∀ f∈x.Zg.l,IrK f
def SpK(x:bL):Prop:=x.frm.length≤BB∧x.to.length≤BB∧x.left.length≤BB∧x.right.length≤BB
def LiK(x:dn):Prop:=x.cls.length≤BB∧x.glue.length≤BB∧FsK x.Zf
def DOk(d:Rd):Prop:=d.Z3.length≤BB∧(∀ t∈d.tr,TrK t)∧(∀ c∈d.cl,ClK c)∧(∀ x∈d.en,EnK x)∧(∀ x∈d.sp,SpK x)∧∀ x∈d.li,LiK x
theorem nj{α:Type}{p:α→Prop}{l:List α}{x:α}(h:∀ y∈l,p y)(hx:p x):∀ y∈l++[x],p y:=fun y hy=>by
 rcases aoc.1 hy with hy | hy
 ·exact h y hy
 ·rw [aoa] at hy;exact hy ▸ hx
theorem Vx(s:Zc):(dc s).length≤s.length:=by
 unfold dc;split<;>simp
theorem O8{s:Zc}{n:Nat}(h:wR s=some n):n≤999:=by
 unfold wR at h;cases hv:Lib.atoiAll s with
 |ok v=>
  rw [hv] at h;simp only at h;split at h
  ·cases h;omega
  ·cases h
 |_=>rw [hv] at h;cases h
theorem Hm:∀ {ws:List Zc}{fs:List aw},dq ws=some fs→fs.length=ws.length∧((∀ w∈ws,w.length≤BB)→∀ f∈fs,f.name.length≤BB∧f.value.length≤BB)
 |[],fs,h=>by cases h;exact ⟨rfl,fun _ f hf=>by cases hf⟩
 |s::l,fs,h=>by
  rw [dq] at h;split at h
  ·cases hq:dq l with
   |none=>rw [hq] at h;cases h
   |some gs=>
    rw [hq] at h;cases h;obtain ⟨h1,h2⟩:=Hm hq;refine ⟨by simp [h1],fun hw f hf => ?_⟩;rcases ank.1 hf with rfl | hf
    ·have:=hw s (.head _)
     have e1:(wS 61 s).length≤s.length:=by unfold wS;rw [an7];omega
     have e2:(wT 61 s).length≤s.length:=by unfold wT;rw [anJ];omega
     exact ⟨by show (wS 61 s).length≤BB;omega,by show (wT 61 s).length≤BB;omega⟩
    ·exact h2 (fun w hw'=>hw w (.tail _ hw')) f hf
  ·cases h
theorem se{k k':K}(h:k.key=k'.key):k=k':=by
 have:=P8 k;rw [h,P8 k'] at this;injection this with this;exact this.symm
theorem Ay{d:Rd}{k:K}(h1:k≠.cla)(h2:k≠.slot)(h3:k≠.entry)(h4:k≠.form):CO d k.key:=
 ⟨fun h=>by
  rcases h with h | h
  ·exact absurd (se (k':=.cla) h) h1
  ·exact absurd (se (k':=.slot) h) h2,fun h=>by
  rcases h with h | h
  ·exact absurd (se (k':=.entry) h) h3
  ·exact absurd (se (k':=.form) h) h4⟩
theorem EE{m m':Nat}{d:Rd}(h:Cb m d)(hm:m≤m'):Cb m' d:=by
 obtain ⟨z1,z2,z3,z4,z5,z6,z7⟩:=h;exact ⟨by omega,by omega,by omega,by omega,by omega,fun c hc=>ams (z6 c hc) hm,fun c hc=>ams (z7 c hc) hm⟩
theorem L9{k:K}{d d':Rd}{last:Zc}{ws:List Zc}{m:Nat}(h:qS k d last ws=some d')(hJ:CO d last)(hZ:Cb m d)(hD:DOk d)(hl:ws.length≤BB)(hw:∀ w∈ws,w.length≤BB):Cb (m+1) d'∧DOk d'∧CO d' k.key:=by
 have hZ1:=EE hZ (apa m);obtain ⟨z1,z2,z3,z4,z5,z6,z7⟩:=hZ;obtain ⟨y1,y2,y3,y4,y5,y6,y7⟩:=hZ1;obtain ⟨d1,d2,d3,d4,d5,d6⟩:=hD;have txb:∀ w∈ws,(dc w).length≤BB:=fun w hww=>ams (Vx w) (hw w hww)
 unfold qS at h;split at h
 ·cases h
  exact ⟨⟨y1,y2,y3,y4,y5,y6,y7⟩,⟨txb _ (.head _),d2,d3,d4,d5,d6⟩,Ay (k:=.Z3) (by decide) (by decide) (by decide) (by decide)⟩
 ·rename_i a r
  cases h;refine ⟨⟨by simp;omega,y2,y3,y4,y5,y6,y7⟩,⟨d1,nj d2 ⟨hw _ (.head _),.inl rfl, ?_,fun v hv=>hw v (.tail _ hv)⟩,d3,d4,d5,d6⟩,Ay (k:=.trait) (by decide) (by decide) (by decide) (by decide)⟩;show r.length≤BB;simp only [amk] at hl;omega
 ·cases h
  refine ⟨⟨y1,by simp;omega,y3,y4,y5,nj y6 (by simp),y7⟩,⟨d1,d2,nj d3 ⟨hw _ (.head _),rfl,fun s hs=>by cases hs⟩,d4,d5,d6⟩,⟨fun _=>by simp,fun h => ?_⟩⟩;rcases h with h | h
  ·exact absurd (se (k:=.cla) (k':=.entry) h) (by decide)
  ·exact absurd (se (k:=.cla) (k':=.form) h) (by decide)
 ·rename_i a b c r
  split at h
  ·rename_i hk
   split at h
   ·rename_i n fs hn hf
    cases h;obtain ⟨i,x,hi⟩:=Ax (hJ.1 hk);obtain ⟨f1,f2⟩:=Hm hf;have hx:x∈d.cl:=by rw [hi];simp
    have hii:∀ y∈i,y∈d.cl:=fun y hy=>by rw [hi];simp [hy]
    have hn9:=O8 hn;simp only [hi,xG];rw [hi,al8,amP] at z2;refine ⟨⟨y1,by simp;omega,y3,y4,y5,nj (fun y hy=>y6 y (hii y hy)) (by have:=z6 x hx;simp;omega),y7⟩,⟨d1,d2,nj (fun y hy=>d3 y (hii y hy)) ⟨(d3 x hx).1,rfl,nj (d3 x hx).2.2 ⟨⟨apj n,by show (n:Int)≤999;omega⟩,txb _ (.tail _ (.head _)),txb _ (.tail _ (.tail _ (.head _))),rfl, ?_,f2 fun w hww=>hw w (.tail _ (.tail _ (.tail _ hww)))⟩⟩,d4,d5,d6⟩,⟨fun _=>by simp,fun h => ?_⟩⟩
    ·show fs.length≤BB
     simp only [amk] at hl;omega
    ·rcases h with h | h
     ·exact absurd (se (k:=.slot) (k':=.entry) h) (by decide)
     ·exact absurd (se (k:=.slot) (k':=.form) h) (by decide)
   ·cases h
  ·cases h
 ·rename_i a b r
  split at h
  ·rename_i fs hf
   cases h;obtain ⟨f1,f2⟩:=Hm hf;refine ⟨⟨y1,y2,by simp;omega,y4,y5,y6,nj y7 (by simp)⟩,⟨d1,d2,d3,nj d4 ⟨hw _ (.head _),hw _ (.tail _ (.head _)),⟨rfl, ?_,f2 fun w hww=>hw w (.tail _ (.tail _ hww))⟩,rfl,fun f hf=>by cases hf⟩,d5,d6⟩,⟨fun h => ?_,fun _=>by simp⟩⟩
   ·show fs.length≤BB
    simp only [amk] at hl;omega
   ·rcases h with h | h
    ·exact absurd (se (k:=.entry) (k':=.cla) h) (by decide)
    ·exact absurd (se (k:=.entry) (k':=.slot) h) (by decide)
  ·cases h
 ·rename_i a b r
  split at h
  ·rename_i hk
   split at h
   ·rename_i n hn
    cases h;obtain ⟨i,x,hi⟩:=Ax (hJ.2 hk);have hx:x∈d.en:=by rw [hi];simp
    have hii:∀ y∈i,y∈d.en:=fun y hy=>by rw [hi];simp [hy]
    have hn9:=O8 hn;simp only [hi,xH];rw [hi,al8,amP] at z3;refine ⟨⟨y1,y2,by simp;omega,y4,y5,y6,nj (fun y hy=>y7 y (hii y hy)) (by have:=z7 x hx;simp;omega)⟩,⟨d1,d2,d3,nj (fun y hy=>d4 y (hii y hy)) ⟨(d4 x hx).1,(d4 x hx).2.1,(d4 x hx).2.2.1,rfl,nj (d4 x hx).2.2.2.2 ⟨⟨apj n,by show (n:Int)≤999;omega⟩,txb _ (.tail _ (.head _))⟩⟩,d5,d6⟩,⟨fun h => ?_,fun _=>by simp⟩⟩
    rcases h with h | h
    ·exact absurd (se (k:=.form) (k':=.cla) h) (by decide)
    ·exact absurd (se (k:=.form) (k':=.slot) h) (by decide)
   ·cases h
  ·cases h
 ·cases h
  refine ⟨⟨y1,y2,y3,by simp;omega,y5,y6,y7⟩,⟨d1,d2,d3,d4,nj d5 ⟨txb _ (.head _),txb _ (.tail _ (.head _)),txb _ (.tail _ (.tail _ (.head _))),txb _ (.tail _ (.tail _ (.tail _ (.head _))))⟩,d6⟩,Ay (k:=.spell) (by decide) (by decide) (by decide) (by decide)⟩
 ·rename_i a b r
  split at h
  ·rename_i fs hf
   cases h;obtain ⟨f1,f2⟩:=Hm hf;refine ⟨⟨y1,y2,y3,y4,by simp;omega,y6,y7⟩,⟨d1,d2,d3,d4,d5,nj d6 ⟨hw _ (.head _),txb _ (.tail _ (.head _)),rfl, ?_,f2 fun w hww=>hw w (.tail _ (.tail _ hww))⟩⟩,Ay (k:=.link) (by decide) (by decide) (by decide) (by decide)⟩;show fs.length≤BB;simp only [amk] at hl;omega
  ·cases h
 ·cases h
end
section
attribute [local congr] aF aS cC bn aG aX aL aH az aA aM aN
variable{E:br}(M:cH bM E)
def pT(t:Tag):Prop:=t = .any∨t = .nil
theorem pT.fzd{t:Tag}(h:pT t):t.fzd=t:=by rcases h with rfl | rfl<;>rfl
theorem pT.lt{t:Tag}(h:pT t):Kj 0 t:=by rcases h with rfl | rfl<;>trivial
theorem NO{α β:Type}{f:α→Option β}{b:List α}{b':List β}(hb:dX f b=some b'):∀ {a:List α}{a':List β},dX f a=some a'→dX f (a++b)=some (a'++b')
 |[],a',h=>by cases h;exact hb
 |x::a,a',h=>by
  simp only [dX] at h;cases hy:f x with
  |none=>rw [hy] at h;cases h
  |some y=>
   cases hl:dX f a with
   |none=>rw [hy,hl] at h;cases h
   |some l=>
    rw [hy,hl] at h;cases h;exact aK hy (NO hb hl)
section
variable{k n:Nat}{H:List Y4}
theorem Y0(w:Zc):dX (Z8 (k+1) n H) (ak w)=some (ak w):=aK (jn _ _ _ _) (fO _)
theorem YE(t:Tag)(ws:List Zc):Z8 (k+2) n H (.slice t 1 (ws.map ak))=some (.slice t.fzd 1 (ws.map ak)):=D8 (gn fun w _=>Y0 w)
theorem YF(f:aw):dX (Z8 (k+1) n H) f.row=some f.row:=aK (jn _ _ _ _) (aK (jn _ _ _ _) (fO _))
theorem YG(t:Tag)(fs:List aw):Z8 (k+2) n H (.slice t 2 (fs.map aw.row))=some (.slice t.fzd 2 (fs.map aw.row)):=D8 (gn fun w _=>YF w)
theorem Jk{fs:Sl aw}(h:fs.tag = .any):Z8 (k+2) n H (.slice fs.tag 2 (fs.l.map aw.row))=some (.slice fs.tag 2 (fs.l.map aw.row)):=by rw [YG,h];rfl
theorem TP{t:bf}(h:pT t.values.tag):dX (Z8 (k+3) n H) t.row=some t.row:=by
 refine aK (jn _ _ _ _) (aK ?_ (fO _));rw [YE,h.fzd]
theorem TQ{s:bU}(h:s.Zf.tag = .any):dX (Z8 (k+3) n H) s.row=some s.row:=
 aK (BC _ _ _ _ _) (aK (jn _ _ _ _) (aK (jn _ _ _ _) (aK (Jk h) (fO _))))
theorem TR(f:bE):dX (Z8 (k+1) n H) f.row=some f.row:=aK (BC _ _ _ _ _) (aK (jn _ _ _ _) (fO _))
theorem TS(x:bL):dX (Z8 (k+1) n H) x.row=some x.row:=aK (jn _ _ _ _) (aK (jn _ _ _ _) (aK (jn _ _ _ _) (aK (jn _ _ _ _) (fO _))))
theorem TT{x:dn}(h:x.Zf.tag = .any):dX (Z8 (k+3) n H) x.row=some x.row:=aK (jn _ _ _ _) (aK (jn _ _ _ _) (aK (Jk h) (fO _)))
theorem TU{N n' sz:Nat}{v:AV}{rows:List (List AV)}(h:O5 N n' sz v rows)(hr:dX (dX (Z8 k n H)) rows=some rows):∃ t,pT t∧Z8 (k+1) n H v=some (.slice t sz rows):=by
 rcases h with ⟨rfl,rfl⟩ | ⟨t,_,_,rfl⟩
 ·exact ⟨.nil,.inr rfl,D8 hr⟩
 ·exact ⟨.any,.inl rfl,D8 hr⟩
theorem FR{N sz:Nat}{e:TypeId}{G:List Y4}{v:AV}{rows:List (List AV)}(h:vG N e sz G v rows)(hr:dX (dX (Z8 k n H)) rows=some rows):∃ t,pT t∧Z8 (k+1) n H v=some (.slice t sz rows):=TU h.own hr
theorem Wt{α:Type}{g:Gro α}{N n':Nat}{row:α→List AV}{er:α→α}{P:α→Prop}(hm:∀ (x:α) (t:Tag),P x→pT t→∃ y,row y=g.pre x++[.slice t g.m (g.rows x)]∧er y=er x∧P y)
  (hp:∀ x,P x→dX (Z8 (k+1) n H) (g.pre x)=some (g.pre x)) (hr:∀ x,P x→dX (dX (Z8 k n H)) (g.rows x)=some (g.rows x)) :
  ∀ {cells:List AV}{xs:List α},GP g N n' cells xs→(∀ x∈xs,P x)→∃ ys:List α,dX (dX (Z8 (k+1) n H)) (iT g.w xs.length cells)=some (ys.map row)∧ys.map er=xs.map er∧∀ y∈ys,P y
 |_,[],_,_=>⟨[],rfl,rfl,fun y hy=>by cases hy⟩
 |cells,x::xs,⟨v,rest,h1,h2,h3⟩,hP=>by
  have hx:=hP x (.head _);obtain ⟨ys,e1,e2,e3⟩:=Wt hm hp hr h3 fun y hy=>hP y (.tail _ hy)
  obtain ⟨t,ht,hv⟩:=TU h2 (hr x hx);obtain ⟨y,y1,y2,y3⟩:=hm x t hx ht;have hw:=g.hw x
  have e4:cells.take g.w=g.pre x++[v]:=by
   rw [h1,show g.pre x++v::rest=(g.pre x++[v])++rest by simp];exact aoe (by rw [al8];exact hw)
  have e5:cells.drop g.w=rest:=by
   rw [h1,show g.pre x++v::rest=(g.pre x++[v])++rest by simp];exact aoF (by rw [al8];exact hw)
  refine ⟨y::ys, ?_,by rw [amN,amN,e2,y2],fun z hz => ?_⟩
  ·rw [amk,iT,e4,e5,amN,y1]
   exact aK (NO (aK hv (fO _)) (hp x hx)) e1
  ·rcases ank.1 hz with rfl | hz
   ·exact y3
   ·exact e3 z hz
theorem Qa{α:Type}{g:Gro α}{N:Nat}{row:α→List AV}{er:α→α}{P:α→Prop}(hm:∀ (x:α) (t:Tag),P x→pT t→∃ y,row y=g.pre x++[.slice t g.m (g.rows x)]∧er y=er x∧P y)
  (hp:∀ x,P x→dX (Z8 (k+1) n H) (g.pre x)=some (g.pre x)) (hr:∀ x,P x→dX (dX (Z8 k n H)) (g.rows x)=some (g.rows x)) (hn:n≤N) {cv:AV}{xs:List α} (h:GrV g N H cv xs) (hP:∀ x∈xs,P x) :
  ∃ (t:Tag) (ys:List α),pT t∧Z8 (k+2) n H cv=some (.slice t g.w (ys.map row))∧ys.map er=xs.map er∧∀ y∈ys,P y:=by
 rcases h with ⟨rfl,rfl⟩ | ⟨id,pc,i,x,v,rfl,h2,rfl,h4,h5,h6⟩
 ·exact ⟨.nil,[],.inr rfl,rfl,rfl,fun y hy=>by cases hy⟩
 ·have hg:=h5.app h6.own
  obtain ⟨ys,e1,e2,e3⟩:=Wt hm hp hr hg hP;refine ⟨.any,ys,.inl rfl, ?_,e2,e3⟩;exact Km (by omega) h4 (by rw [hg.len];omega) (by rw [amf];exact e1)
end
structure PlL (l:Lex):Prop where
 tags:pT l.Y9.tag∧pT l.Y7.tag∧pT l.entries.tag∧pT l.Ze.tag∧pT l.Zm.tag
 tr:∀ t∈l.Y9.l,TrK t
 cl:∀ c∈l.Y7.l,c.name.length≤BB∧pT c.Zd.tag∧c.Zd.l.length≤1000000∧∀ s∈c.Zd.l,SlK s
 en:∀ x∈l.entries.l,x.lem.length≤BB∧x.cls.length≤BB∧FsK x.Zf∧pT x.Zg.tag∧x.Zg.l.length≤1000000∧∀ f∈x.Zg.l,IrK f
 sp:∀ x∈l.Ze.l,SpK x
 li:∀ x∈l.Zm.l,LiK x
 lens:l.Zs.length≤BB∧l.Y9.l.length≤1000000∧l.Y7.l.length≤1000000∧l.entries.l.length≤1000000∧l.Ze.l.length≤1000000∧l.Zm.l.length≤1000000
theorem bbL{n:Nat}(h:n≤BB):n≤aZ:=by have e:BB=100000:=rfl;rw [e] at h;simp only [aZ];omega
theorem mlL{n:Nat}(h:n≤1000000):n≤aZ:=by simp only [aZ];omega
theorem FsK.ok{fs:Sl aw}(h:FsK fs):fs.ok 0 (aw.ok 0):=⟨by rw [h.1];trivial,by have:=h.2.1;first | exact bbL (by assumption) | exact mlL (by assumption),fun f hf=>⟨by have:=(h.2.2 f hf).1;first | exact bbL (by assumption) | exact mlL (by assumption),by have:=(h.2.2 f hf).2;first | exact bbL (by assumption) | exact mlL (by assumption)⟩⟩
theorem TV{n:Int}(h:0≤n∧n≤999):I64 n:=by unfold I64;omega
theorem PlL.ok{l:Lex}(h:PlL l):l.ok 0:=by
 obtain ⟨l0,l1,l2,l3,l4,l5⟩:=h.lens;obtain ⟨t1,t2,t3,t4,t5⟩:=h.tags;refine ⟨by first | exact bbL (by assumption) | exact mlL (by assumption),⟨t1.lt,by first | exact bbL (by assumption) | exact mlL (by assumption),fun t ht => ?_⟩,⟨t2.lt,by first | exact bbL (by assumption) | exact mlL (by assumption),fun c hc => ?_⟩,⟨t3.lt,by first | exact bbL (by assumption) | exact mlL (by assumption),fun x hx => ?_⟩,⟨t4.lt,by first | exact bbL (by assumption) | exact mlL (by assumption),fun x hx => ?_⟩,⟨t5.lt,by first | exact bbL (by assumption) | exact mlL (by assumption),fun x hx => ?_⟩⟩
 ·obtain ⟨a1,a2,a3,a4⟩:=h.tr t ht
  exact ⟨by first | exact bbL (by assumption) | exact mlL (by assumption),⟨(show pT t.values.tag from a2).lt,by first | exact bbL (by assumption) | exact mlL (by assumption),fun v hv=>by have:=a4 v hv;first | exact bbL (by assumption) | exact mlL (by assumption)⟩⟩
 ·obtain ⟨a1,a2,a3,a4⟩:=h.cl c hc
  exact ⟨by first | exact bbL (by assumption) | exact mlL (by assumption),⟨a2.lt,by first | exact bbL (by assumption) | exact mlL (by assumption),fun s hs=>by
   obtain ⟨b1,b2,b3,b4⟩:=a4 s hs;exact ⟨TV b1,by first | exact bbL (by assumption) | exact mlL (by assumption),by first | exact bbL (by assumption) | exact mlL (by assumption),b4.ok⟩⟩⟩
 ·obtain ⟨a1,a2,a3,a4,a5,a6⟩:=h.en x hx
  exact ⟨by first | exact bbL (by assumption) | exact mlL (by assumption),by first | exact bbL (by assumption) | exact mlL (by assumption),a3.ok,⟨a4.lt,by first | exact bbL (by assumption) | exact mlL (by assumption),fun f hf=>by
   obtain ⟨b1,b2⟩:=a6 f hf;exact ⟨TV b1,by first | exact bbL (by assumption) | exact mlL (by assumption)⟩⟩⟩
 ·obtain ⟨a1,a2,a3,a4⟩:=h.sp x hx
  exact ⟨by first | exact bbL (by assumption) | exact mlL (by assumption),by first | exact bbL (by assumption) | exact mlL (by assumption),by first | exact bbL (by assumption) | exact mlL (by assumption),by first | exact bbL (by assumption) | exact mlL (by assumption)⟩
 ·obtain ⟨a1,a2,a3⟩:=h.li x hx
  exact ⟨by first | exact bbL (by assumption) | exact mlL (by assumption),by first | exact bbL (by assumption) | exact mlL (by assumption),a3.ok⟩
theorem PlL.fz{l:Lex}(h:PlL l)(n:Nat)(H:List Y4):dX (Z8 7 n H) l.row=some l.row:=by
 obtain ⟨t1,t2,t3,t4,t5⟩:=h.tags;have sl:∀ {k:Nat}{t:Tag}{sz:Nat}{rows:List (List AV)},pT t→dX (dX (Z8 k n H)) rows=some rows→Z8 (k+1) n H (.slice t sz rows)=some (.slice t sz rows):=fun ht hr=>by rw [D8 hr,ht.fzd]
 refine aK (jn _ _ _ _) (aK (sl t1 (gn fun t ht=>TP (h.tr t ht).2.1)) (aK (sl t2 (gn fun c hc => ?_)) (aK (sl t3 (gn fun x hx => ?_)) (aK (sl t4 (gn fun x _=>TS x)) (aK (sl t5 (gn fun x hx=>TT (h.li x hx).2.2.1)) (fO _))))))
 ·obtain ⟨a1,a2,a3,a4⟩:=h.cl c hc
  exact aK (jn _ _ _ _) (aK (sl a2 (gn fun s hs=>TQ (a4 s hs).2.2.2.1)) (fO _))
 ·obtain ⟨a1,a2,a3,a4,a5,a6⟩:=h.en x hx
  exact aK (jn _ _ _ _) (aK (jn _ _ _ _) (aK (Jk a3.1) (aK (sl a4 (gn fun f _=>TR f)) (fO _))))
def baR(d:Rd):Lex:=⟨d.Z3,⟨.any,d.tr.map trB⟩,⟨.any,d.cl.map clB⟩,⟨.any,d.en.map enB⟩,⟨.any,d.sp⟩,⟨.any,d.li.map liB⟩⟩
theorem YH{N r:Nat}{G:List Y4}{d:Rd}{last:Zc}{Zb:Int}(h:RdV N r G d last Zb)(hr:r≤N){m:Nat}(hZ:Cb m d)(hm:m≤1000000)(hD:DOk d) :
  ∃ l:Lex,PlL l∧l.ba=baR d∧Z8 8 r G (.ptr r 0)=some (.Zu 8 [l.row++[.str last,.int .i64 Zb]] 0 0):=by
 obtain ⟨tv,cv,ev,sv,kv,hg,p1,p2,p3,p4,p5⟩:=h;obtain ⟨d1,d2,d3,d4,d5,d6⟩:=hD;obtain ⟨z1,z2,z3,z4,z5,z6,z7⟩:=hZ;obtain ⟨t1,q1,f1⟩:=FR (k:=6) (n:=r) (H:=G) p1 (gn fun t ht=>TP (d2 t ht).2.1);obtain ⟨t4,q4,f4⟩:=FR (k:=6) (n:=r) (H:=G) p4 (gn fun t ht=>TS t);obtain ⟨t5,q5,f5⟩:=FR (k:=6) (n:=r) (H:=G) p5 (gn fun t ht=>TT (d6 t ht).2.2.1)
 obtain ⟨t2,cs,q2,f2,e2,g2⟩:=Qa (k:=5) (n:=r) (H:=G) (g:=clG) (row:=aV.row) (er:=clB) (P:=fun c=>c.name.length≤BB∧pT c.Zd.tag∧c.Zd.l.length≤1000000∧∀ s∈c.Zd.l,SlK s)
  (fun x t hx ht=>⟨⟨x.name,⟨t,x.Zd.l⟩⟩,rfl,rfl,hx.1,ht,hx.2.2⟩) (fun x hx=>aK (jn _ _ _ _) (fO _)) (fun x hx=>gn fun s hs=>TQ (hx.2.2.2 s hs).2.2.2.1) hr p2
  (fun c hc=>⟨(d3 c hc).1,by rw [(d3 c hc).2.1];exact .inl rfl,by have:=z6 c hc;omega,(d3 c hc).2.2⟩)
 obtain ⟨t3,es,q3,f3,e3,g3⟩:=Qa (k:=5) (n:=r) (H:=G) (g:=enG) (row:=aT.row) (er:=enB) (P:=fun x=>x.lem.length≤BB∧x.cls.length≤BB∧FsK x.Zf∧pT x.Zg.tag∧x.Zg.l.length≤1000000∧∀ f∈x.Zg.l,IrK f)
  (fun x t hx ht=>⟨⟨x.lem,x.cls,x.Zf,⟨t,x.Zg.l⟩⟩,rfl,rfl,hx.1,hx.2.1,hx.2.2.1,ht,hx.2.2.2.2⟩) (fun x hx=>aK (jn _ _ _ _) (aK (jn _ _ _ _) (aK (Jk hx.2.2.1.1) (fO _)))) (fun x hx=>gn fun f _=>TR f) hr p3
  (fun c hc=>⟨(d4 c hc).1,(d4 c hc).2.1,(d4 c hc).2.2.1,by rw [(d4 c hc).2.2.2.1];exact .inl rfl,by have:=z7 c hc;omega,(d4 c hc).2.2.2.2⟩)
 have lc:cs.length=d.cl.length:=by have:=congrArg List.length e2;simpa using this
 have le:es.length=d.en.length:=by have:=congrArg List.length e3;simpa using this
 refine ⟨⟨d.Z3,⟨t1,d.tr⟩,⟨t2,cs⟩,⟨t3,es⟩,⟨t4,d.sp⟩,⟨t5,d.li⟩⟩,⟨⟨q1,q2,q3,q4,q5⟩,d2,g2,g3,d5,d6,d1,by show d.tr.length≤_;omega,by show cs.length≤_;omega,by show es.length≤_;omega,by show d.sp.length≤_;omega,by show d.li.length≤_;omega⟩, ?_, ?_⟩
 ·simp only [Lex.ba,baR,e2,e3]
 ·exact SI (amp _) hg (aK (jn _ _ _ _) (aK f1 (aK f2 (aK f3 (aK f4 (aK f5 (aK (jn _ _ _ _) (aK (BC _ _ _ _ _) (fO _)))))))))
end
section
attribute [local congr] aF aS cC bn aG aX aL aH az aA aM aN
variable{E:br}(M:cH bM E)
theorem NP{d:Rd}{last:Zc}{Zb:Nat}{s:Zc}{x:StR}(h:uV d last Zb s=some x):YC last Zb s=true∧∃ k ws,gh 32 s=k.key::ws∧qS k d last ws=some x.1∧x.2.1=k.key∧x.2.2=k.Zb:=by
 unfold uV at h;unfold YC;cases hs:gh 32 s with
 |nil=>rw [hs] at h;cases h
 |cons w ws=>
  rw [hs] at h;simp only at h ⊢;cases hk:kOf w with
  |none=>rw [hk] at h;cases h
  |some k=>
   rw [hk] at h;simp only at h ⊢
   have hw:w=k.key:=by
    have:=aoq hk;exact eq_of_beq this
   split at h
   ·split at h
    ·split at h
     ·rename_i h3
      refine ⟨h3,k,ws,by rw [hw], ?_⟩;cases hr:qS k d last ws with
      |none=>rw [hr] at h;cases h
      |some d'=>
       rw [hr] at h;cases h;exact ⟨rfl,hw,rfl⟩
     ·cases h
    ·cases h
   ·cases h
theorem FS(c:UInt8):((c.toNat:Int) == 59)=(c == 59):=by
 cases h:(c == 59) with
 |true=>
  have:=eq_of_beq h;subst this;rfl
 |false=>
  refine amg.2 fun e => ?_
  have:c.toNat=59:=by omega
  have h2:c=59:=aor.1 this;rw [h2] at h;simp at h
theorem pl0(hS:gB E)(hX:nk M)(hP:qN E)(hD:FN E)(hW:WdE M){N r p:Nat}(hr:r<N){tg:Tag}{ls:List Zc}(hls:ls.length≤99999)(hsl:∀ x∈ls,x.length≤99999)(H0:List Y4):∀ (n i:Nat) (d:Rd) (last:Zc) (Zb:Nat) (G:List Y4) (st':StR),i+n=ls.length→RdV N r G d last Zb→N≤G.length→CO d last→Cb i d→DOk d→uW (ls.drop i) (d,last,Zb)=some st' →
  ∃ G',RdV N r G' st'.1 st'.2.1 st'.2.2∧LoR N r G G'∧Cb ls.length st'.1∧DOk st'.1∧∀ (k:List ZA) (He:List Y4),M.go oF H0 (.c dH :: .lp ⟨(some [2,6,28,29,30]),[],false⟩ dH He :: .ZU 0 :: .c (.lv [2,6])::k) (kv [(2,.ptr p 0),(6,.ptr r 0),(28,.slice tg 1 (ls.map ak)),(29,.int .i64 ls.length),(30,.int .i64 i)]) G=M.go oF H0 k (kv [(2,.ptr p 0),(6,.ptr r 0)]) G'
 |0,i,d,last,Zb,G,st',h,hv,hN,hJ,hZ,hK,hf=>by
  have e:i=ls.length:=by omega
  subst e;rw [al9,uW] at hf;cases hf;refine ⟨G,hv,.refl _ _ _,hZ,hK,fun k He => ?_⟩;rw [ah M dH.eq_1];simp (config:=apy) only [Zh M,↓Zi,Nat.reduceBEq,Nat.reduceAdd,env,ae,dj,ame]
 |n+1,i,d,last,Zb,G,st',h,hv,hN,hJ,hZ,hK,hf=>by
  have hi:i<ls.length:=by omega
  have hx:=al4 hi;have hd:=al6 hi;have hxl:=hsl _ (amc hi);have hil:=aE (row:=ak) (tag:=tg) (sz:=1) (k:=.i64) hi;have hwr:=bt hi (show ls.length≤aZ by simp only [aZ];omega);rw [hd,uW] at hf
  by_cases hsk:CP ls[i]=true
  ·have hst:xI (d,last,Zb) ls[i]=some (d,last,Zb):=by unfold xI;rw [if_pos hsk]
   rw [hst] at hf;obtain ⟨G',a1,a2,a3,a4,a5⟩:=pl0 hS hX hP hD hW hr (tg:=tg) (p:=p) hls hsl H0 n (i+1) d last Zb G st' (by omega) hv hN hJ (EE hZ (by omega)) hK hf;refine ⟨G',a1,a2,a3,a4,fun k He => ?_⟩;have a5:=a5 k;simp only [Y6,Y8] at a5;cases hxe:ls[i] with
   |nil=>
    have e0:(([]:Zc) == [])=true:=rfl;rw [hxe] at hx;rw [ah M dH.eq_1];simp (config:=apy) only [Zh M,↓Zi,Nat.reduceBEq,Nat.reduceAdd,env,ae,dj,hi,hx,hil,e0,a5,hwr,dh]
   |cons c t=>
    have e0:((c::t:Zc) == [])=false:=rfl;have e1:vH (c::t:Zc)[0]?=some (.int .u8 (c.toNat:Int)):=rfl
    have e2:((c.toNat:Int) == 59)=true:=by
     rw [FS];unfold CP at hsk;rw [hxe] at hsk;simpa using hsk
    rw [hxe] at hx;rw [ah M dH.eq_1];simp (config:=apy) only [Zh M,↓Zi,Nat.reduceBEq,Nat.reduceAdd,env,ae,dj,hi,hx,hil,e0,e1,e2,a5,hwr,dh]
  ·have hst:xI (d,last,Zb) ls[i]=uV d last Zb ls[i]:=by unfold xI;rw [if_neg hsk]
   rw [hst] at hf;cases hq:uV d last Zb ls[i] with
   |none=>rw [hq] at hf;cases hf
   |some x=>
    rw [hq] at hf;obtain ⟨hrk,kk,ws,hsp,hrd,hl1,hl2⟩:=NP hq;have hne:ls[i]≠[]:=fun e=>hsk (by rw [e];rfl)
    have hrr:=NK M hS hX hP hD hW hN hr hv hJ hZ (by omega) (s:=ls[i]) (by omega) hne;rw [hq] at hrr;obtain ⟨G1,r1,v1,l1⟩:=hrr;obtain ⟨sb1,sb2⟩:=wU 32 ls[i];rw [hsp] at sb1 sb2;obtain ⟨z1,k1,j1⟩:=L9 hrd hJ hZ hK (by simp at sb1;show ws.length≤100000;omega) (fun w hw=>by have:=sb2 w (.tail _ hw);show w.length≤100000;omega);obtain ⟨d1,last1,rank1⟩:=x;simp only at r1 v1 l1 z1 k1 hl1 hl2 hf;obtain ⟨G',a1,a2,a3,a4,a5⟩:=pl0 hS hX hP hD hW hr (tg:=tg) (p:=p) hls hsl H0 n (i+1) d1 last1 rank1 G1 st' (by omega) v1 (ams hN l1.1) (by rw [hl1];exact j1) z1 k1 hf
    refine ⟨G',a1,l1.trans a2,a3,a4,fun k He => ?_⟩;have a5:=a5 k;simp only [Y6,Y8] at a5;cases hxe:ls[i] with
    |nil=>exact absurd hxe hne
    |cons c t=>
     have e0:((c::t:Zc) == [])=false:=rfl;have e1:vH (c::t:Zc)[0]?=some (.int .u8 (c.toNat:Int)):=rfl
     have e2:((c.toNat:Int) == 59)=false:=by
      rw [FS];unfold CP at hsk;rw [hxe] at hsk;simpa using hsk
     rw [hxe] at hx r1;rw [ah M dH.eq_1];simp (config:=apy) only [Zh M,↓Zi,Nat.reduceBEq,Nat.reduceAdd,env,ae,dj,hi,hx,hil,e0,e1,e2,r1,a5,hwr,dh]
theorem NQ{n:Nat}{G:List Y4}(hn:n≤G.length):(qO n G).length=G.length∧∀ i,i<n→(qO n G)[i]?=G[i]? := by
 refine ⟨by simp [qO];omega,fun i hi => ?_⟩;unfold qO;rw [al7 (by simp;omega),am9 hi]
end
section
attribute [local congr] aF aS cC bn aG aX aL aH az aA aM aN
variable{E:br}(M:cH bM E)
theorem Vy{ls:List Zc}{z:Zc}{t:Tag}(ht:t≠.nil):AN 1 (.slice t 1 ((ls++[z]).map ak)) none (some (.int .i64 (ls.length:Int))) none=some (.slice .any 1 (ls.map ak)):=by
 have e:((ls++[z]).map ak).length=ls.length+1:=by simp
 have e2:((ls++[z]).map ak).isEmpty=false:=by cases ls<;>rfl
 have e3:((ls++[z]).map ak).take ls.length=ls.map ak:=by
  rw [anP];exact aoe (by simp)
 simp [AN,fX,e3,ht]
end
section
attribute [local congr] aF aS cC bn aG aX aL aH az aA aM aN
variable{E:br}(M:cH bM E)
end
section
attribute [local congr] aF aS cC bn aG aX aL aH az aA aM aN
variable{E:br}(M:cH bM E)
theorem eqB(c k:UInt8):((c.toNat:Int) == (k.toNat:Int))=(c == k):=by
 cases h:(c == k) with
 |true=>rw [eq_of_beq h];exact amV _
 |false=>
  refine amg.2 fun e => ?_
  have:c.toNat=k.toNat:=by omega
  rw [aor.1 this] at h;simp at h
def AM(p:Zc):List Zc→List Zc
 |[]=>[p]
 |w::ws=>(p++w)::ws
theorem Co{c:UInt8}{s:Zc}:AM [] (gh c s)=gh c s:=by
 cases h:gh c s with
 |nil=>exact absurd h (Ew c s)
 |cons w ws=>rfl
theorem Rt{s:Zc}{fr i:Nat}(h:fr≤i)(hi:i<s.length):(s.drop fr).take (i+1-fr)=(s.drop fr).take (i-fr)++[s[i]]:=by
 have e:i+1-fr=(i-fr)+1:=by omega
 rw [e,apn,amM,show fr+(i-fr)=i from by omega,al4 hi];rfl
theorem Qb{c:UInt8}{s:Zc}{i:Nat}(p:Zc)(hi:i<s.length)(hc:(s[i] == c)=true):AM p (gh c (s.drop i))=p::gh c (s.drop (i+1)):=by
 rw [al6 hi,gh,if_pos (eq_of_beq hc)];simp [AM]
theorem TW{c:UInt8}{s:Zc}{i fr:Nat}(h:fr≤i)(hi:i<s.length)(hc:(s[i] == c)=false):AM ((s.drop fr).take (i-fr)) (gh c (s.drop i))=AM ((s.drop fr).take (i+1-fr)) (gh c (s.drop (i+1))):=by
 rw [al6 hi,gh,if_neg (by simpa using hc),Rt h hi];cases hq:gh c (s.drop (i+1)) with
 |nil=>exact absurd hq (Ew c _)
 |cons w ws=>simp [AM]
def Jl(s:Zc):List Zc:=if (gh 10 s).getLast? = some [] then (gh 10 s).dropLast else gh 10 s
theorem Qd{s:Zc}{o:List Zc}{z:Zc}(h:gh 10 s=o++[z]):Jl s=if z=[] then o else o++[z]:=by
 unfold Jl;rw [h];simp
theorem Qe(H:List Y4)(o:List Zc)(w:Zc)(h:o.length≤1000000):rap false (H++[.tok (o.length*1) aI]) aI 1 16 false (.slice (.own H.length) 1 (o.map ak)) (.slice .full 1 [[.str w]])=some (.slice (.own H.length) 1 ((o++[w]).map ak),H++[.tok ((o++[w]).length*1) aI]):=
 O3 (row:=ak) (l:=o) (x:=w) (sz:=1) (bytes:=16) (e:=aI) H (by rfl) (by rfl) (by rfl) (by omega) (by omega)
theorem rl0(hS:gB E){s:Zc}(hs:s.length≤100000)(H0 H:List Y4):∀ (n i fr:Nat) (o:List Zc),i+n=s.length→fr≤i→o.length≤i →
  ∃ (o':List Zc) (fr':Nat),o'++[s.drop fr']=o++AM ((s.drop fr).take (i-fr)) (gh 10 (s.drop i))∧fr'≤s.length∧o'.length≤s.length∧∀ (k:List ZA) (He:List Y4),
   M.go jc H0 (.c fq :: .lp ⟨(some [0,3,4,5]),[(3,1,aI)],false⟩ fq He :: .ZU 0 :: .c (.lv [0,3,4])::k) (kv [(0,.str s),(3,.slice (.own H.length) 1 (o.map ak)),(4,.int .i64 fr),(5,.int .i64 i)]) (H++[.tok (o.length*1) aI])=M.go jc H0 k (kv [(0,.str s),(3,.slice (.own H.length) 1 (o'.map ak)),(4,.int .i64 fr')]) (H++[.tok (o'.length*1) aI])
 |0,i,fr,o,h,hf,ho=>by
  have e:i=s.length:=by omega
  subst e;refine ⟨o,fr, ?_,hf,ho,fun k He => ?_⟩
  ·rw [al9,gh,AM,amt,am8 (by simp)]
  ·have d0:decide ((s.length:Int)<(s.length:Int))=false:=amq (by omega)
   rw [ah M fq.eq_1];simp (config:=apy) only [Zh M,↓Zi,Nat.reduceBEq,Nat.reduceAdd,env,ae,jd,ame,d0]
 |n+1,i,fr,o,h,hf,ho=>by
  have hi:i<s.length:=by omega
  have hx:=al4 hi;have hwr:=bt hi (show s.length≤aZ by simp only [aZ];omega);have e10:=eqB s[i] 10;have e10':((s[i].toNat:Int) == 10)=(s[i] == 10):=e10;cases hc:(s[i] == 10) with
  |true=>
   rw [hc] at e10';obtain ⟨o',fr',h1,h2,h3,h4⟩:=rl0 hS hs H0 H n (i+1) (i+1) (o++[(s.drop fr).take (i-fr)]) (by omega) (amp _) (by simp;omega);refine ⟨o',fr', ?_,h2,h3,fun k He => ?_⟩
   ·rw [h1,Qb _ hi hc,an1,anU,Co];simp
   ·have h4:=h4 k
    simp only [Y6,Y8] at h4;have hsl:=Xe (s:=s) hf (by omega:i≤s.length);have hap:=Qe H o ((s.drop fr).take (i-fr)) (by omega);generalize (s.drop fr).take (i-fr)=w at *
    generalize o++[w]=o2 at *
    rw [ah M fq.eq_1];simp (config:=apy) only [Zh M,↓Zi,Nat.reduceBEq,Nat.reduceAdd,env,ae,jd,Zx,AV.cell,Nat.reduceMul,Nat.reduceLeDiff,hi,hx,e10',hsl,hap,hwr,h4]
  |false=>
   rw [hc] at e10';obtain ⟨o',fr',h1,h2,h3,h4⟩:=rl0 hS hs H0 H n (i+1) fr o (by omega) (by omega) (by omega);refine ⟨o',fr', ?_,h2,h3,fun k He => ?_⟩
   ·rw [h1,TW hf hi hc]
   ·have h4:=h4 k
    simp only [Y6,Y8] at h4;rw [ah M fq.eq_1];simp (config:=apy) only [Zh M,↓Zi,Nat.reduceBEq,Nat.reduceAdd,env,ae,jd,Zx,AV.cell,Nat.reduceMul,Nat.reduceLeDiff,hi,hx,e10',hwr,h4]
theorem O9(hS:gB E){s:Zc}(hs:s.length≤100000)(H:List Y4):M.run oM [.str s] H=some (.ret (.slice .any 1 ((Jl s).map ak)),H):=by
 obtain ⟨o,fr,h1,h2,h3,h4⟩:=rl0 M hS hs H H s.length 0 0 [] (by omega) (amp _) (by simp);simp only [Y6,Y8,amj,amf,anm,amw,aof,an1,anU,Co,amH] at h1 h4;have hl:=Qd h1.symm
 have hh:∀ o2:List Zc,iZ bM .drop H (H++[.tok (o2.length*1) aI]) (.slice (.own H.length) 1 (o2.map ak))=some (.slice .any 1 (o2.map ak),H):=fun o2=>by
  have:=aaa (Zz H [Y4.tok (o2.length*1) aI]) (acd (esz:=1) (tag:=.own H.length) (Hi H.length o2));simp only [aaW,aaP] at this;exact this
 by_cases hz:s.drop fr=[]
 ·have hf:fr=s.length:=by
   have:=aoi.1 hz;omega
  rw [if_pos hz] at hl;rw [hl];subst hf;have d0:decide ((s.length:Int)<(s.length:Int))=false:=amq (by omega);have hh:=hh o;rw [au M hS.aaN rfl (c:=jb) rfl,jb];simp (config:=apy) only [Zh M,↓Zi,Nat.reduceBEq,Nat.reduceAdd,env,ae,jd,Zx,AV.cell,Nat.reduceMul,Nat.reduceLeDiff,h4,d0,ame,hh]
 ·have hf:fr<s.length:=by
   rcases aoI fr s.length with h | h
   ·exact h
   ·exact absurd (aoi.2 h) hz
  rw [if_neg hz] at hl;rw [hl];have hsl:=Vf (s:=s) (by omega:fr≤s.length);have hap:=Qe H o (s.drop fr) (by omega);have hh:=hh (o++[s.drop fr]);generalize s.drop fr=w at *
  generalize o++[w]=o2 at *
  rw [au M hS.aaN rfl (c:=jb) rfl,jb];simp (config:=apy) only [Zh M,↓Zi,Nat.reduceBEq,Nat.reduceAdd,env,ae,jd,Zx,AV.cell,Nat.reduceMul,Nat.reduceLeDiff,h4,hf,hsl,hap,hh]
def Dr(l:List Zc):Bool:=l.all fun x => !(x == [])
theorem rs0(hS:gB E){s:Zc}(hs:s.length≤100000){H H0:List Y4}(hc:bY H0 H)(k:List ZA):∀ (n i fr:Nat) (o:List Zc),i+n=s.length→fr≤i→o.length≤i→∀ (He:List Y4),
  M.go eU H0 (.c b8 :: .lp ⟨(some [0,4,5,6]),[(4,1,aI)],false⟩ b8 He :: .ZU 0 :: .c (.lv [4])::k) (kv [(0,.str s),(4,.slice (.own H.length) 1 (o.map ak)),(5,.int .i64 fr),(6,.int .i64 i)]) (H++[.tok (o.length*1) aI]) =
   slc (Dr (AM ((s.drop fr).take (i-fr)) (gh 32 (s.drop i)))) (M.go eU H0 k (kv [(4,.slice (.own H.length) 1 ((o++AM ((s.drop fr).take (i-fr)) (gh 32 (s.drop i))).map ak))]) (H++[.tok ((o++AM ((s.drop fr).take (i-fr)) (gh 32 (s.drop i))).length*1) aI])) (some (.ret (.tuple [.slice .any 1 [],.bool false]),H.take H0.length))
 |0,i,fr,o,h,hf,ho,He=>by
  have e:i=s.length:=by omega
  subst e;rw [al9,gh,AM,amt,am8 (by simp)];have hcm:=nZ hc [Y4.tok (o.length*1) aI];have htk:(H++[Y4.tok (o.length*1) aI]).take H0.length=H.take H0.length:=anB hc.1;have hwr:IntKind.i64.wrap ((s.length:Int)+1)=((s.length+1:Nat):Int):=by rw [eY (by omega) (by omega)];rfl
  have b1:(s.length == s.length)=true:=amV _;have b2:((s.length:Int) == (s.length:Int))=true:=amV _;have d1:decide ((s.length:Int)≤(s.length:Int))=true:=amu (by omega);have d2:decide (((s.length+1:Nat):Int)≤(s.length:Int))=false:=amq (by omega);have d3:¬ (s.length+1≤s.length):=by omega
  have ex:=fun (o:List Zc) (fr:Nat) (He:List Y4)=>show M.go eU H0 (.c b8 :: .lp ⟨(some [0,4,5,6]),[(4,1,aI)],false⟩ b8 He :: .ZU 0 :: .c (.lv [4])::k) (kv [(0,.str s),(4,.slice (.own H.length) 1 (o.map ak)),(5,.int .i64 fr),(6,.int .i64 ((s.length+1:Nat):Int))]) (H++[.tok (o.length*1) aI])=M.go eU H0 k (kv [(4,.slice (.own H.length) 1 (o.map ak))]) (H++[.tok (o.length*1) aI]) by
   rw [ah M b8.eq_1];simp (config:=apy) only [Zh M,↓Zi,Nat.reduceBEq,Nat.reduceAdd,env,ae,dV,Zx,AV.cell,Nat.reduceMul,Nat.reduceLeDiff,d2,d3]
  simp only [Y6,Y8] at ex
  by_cases hz:s.drop fr=[]
  ·have hf:fr=s.length:=by
    have:=aoi.1 hz;omega
   rw [hz,show Dr [[]]=false from rfl,aaR];subst hf;rw [ah M b8.eq_1];simp (config:=apy) only [Zh M,↓Zi,Nat.reduceBEq,Nat.reduceAdd,env,ae,dV,Zx,AV.cell,Nat.reduceMul,Nat.reduceLeDiff,b1,b2,d1,hcm,htk]
  ·have hf2:fr<s.length:=by
    rcases aoI fr s.length with h | h
    ·exact h
    ·exact absurd (aoi.2 h) hz
   have ok:Dr [s.drop fr]=true:=by
    unfold Dr;simp [hz]
   rw [ok,abc];have b3:(s.length == fr)=false:=amg.2 (by omega);have b4:((s.length:Int) == (fr:Int))=false:=amg.2 (by omega);have hsl:=Xe (s:=s) (i:=fr) (j:=s.length) hf (amp _);rw [am8 (by simp)] at hsl;have hap:=Qe H o (s.drop fr) (by omega);have ex:=ex (o++[s.drop fr]);generalize s.drop fr=w at *
   generalize o++[w]=o2 at *
   rw [ah M b8.eq_1];simp (config:=apy) only [Zh M,↓Zi,Nat.reduceBEq,Nat.reduceAdd,env,ae,dV,Zx,AV.cell,Nat.reduceMul,Nat.reduceLeDiff,b1,b2,b3,b4,d1,hsl,hap,hwr,ex]
 |n+1,i,fr,o,h,hf,ho,He=>by
  have hi:i<s.length:=by omega
  have hx:=al4 hi;have hwr:=bt hi (show s.length≤aZ by simp only [aZ];omega);have e32:((s[i].toNat:Int) == 32)=(s[i] == 32):=eqB s[i] 32;have b1:(i == s.length)=false:=amg.2 (by omega);have b2:((i:Int) == (s.length:Int))=false:=amg.2 (by omega);have d1:decide ((i:Int)≤(s.length:Int))=true:=amu (by omega);have d2:i≤s.length:=by omega
  have hcm:=nZ hc [Y4.tok (o.length*1) aI];have htk:(H++[Y4.tok (o.length*1) aI]).take H0.length=H.take H0.length:=anB hc.1;cases hcc:(s[i] == 32) with
  |true=>
   rw [hcc] at e32;rw [Qb _ hi hcc]
   by_cases he:i=fr
   ·subst he
    have b3:(i == i)=true:=amV _;have b4:((i:Int) == (i:Int))=true:=amV _;rw [an1,anU,show Dr ([]::gh 32 (s.drop (i+1)))=false from rfl,aaR];rw [ah M b8.eq_1];simp (config:=apy) only [Zh M,↓Zi,Nat.reduceBEq,Nat.reduceAdd,env,ae,dV,Zx,AV.cell,Nat.reduceMul,Nat.reduceLeDiff,hi,hx,e32,b1,b2,b3,b4,d1,d2,hcm,htk]
   ·have b3:(i == fr)=false:=amg.2 (by omega)
    have b4:((i:Int) == (fr:Int))=false:=amg.2 (by omega);have ih:=rs0 hS hs hc k n (i+1) (i+1) (o++[(s.drop fr).take (i-fr)]) (by omega) (amp _) (by simp;omega);rw [an1,anU,Co] at ih
    have hne:((s.drop fr).take (i-fr) == [])=false:=by
     refine amg.2 fun e => ?_
     have:=congrArg List.length e;simp at this;omega
    have ok:Dr ((s.drop fr).take (i-fr)::gh 32 (s.drop (i+1)))=Dr (gh 32 (s.drop (i+1))):=by
     unfold Dr;rw [anq,hne];rfl
    rw [ok];have eap:∀ (w:Zc) (l:List Zc),o++w::l=(o++[w])++l:=fun w l=>by simp
    rw [eap];simp only [Y6,Y8] at ih;have hsl:=Xe (s:=s) hf (by omega:i≤s.length);have hap:=Qe H o ((s.drop fr).take (i-fr)) (by omega);generalize (s.drop fr).take (i-fr)=w at *
    generalize o++[w]=o2 at *
    rw [ah M b8.eq_1];simp (config:=apy) only [Zh M,↓Zi,Nat.reduceBEq,Nat.reduceAdd,env,ae,dV,Zx,AV.cell,Nat.reduceMul,Nat.reduceLeDiff,hi,hx,e32,b1,b2,b3,b4,d1,d2,hsl,hap,hwr,ih]
  |false=>
   rw [hcc] at e32;rw [TW hf hi hcc];have ih:=rs0 hS hs hc k n (i+1) fr o (by omega) (by omega) (by omega);simp only [Y6,Y8] at ih;rw [ah M b8.eq_1];simp (config:=apy) only [Zh M,↓Zi,Nat.reduceBEq,Nat.reduceAdd,env,ae,dV,Zx,AV.cell,Nat.reduceMul,Nat.reduceLeDiff,hi,hx,e32,b1,b2,d1,d2,hwr,ih]
theorem Pa(hS:gB E){s:Zc}(hs:s.length≤100000)(H:List Y4):M.run oN [.str s] H=some (.ret (.tuple [.slice .any 1 ((if Dr (gh 32 s)=true then gh 32 s else []).map ak),.bool (Dr (gh 32 s))]),H):=by
 have l0:=fun k He=>rs0 M hS hs (Zt H) k s.length 0 0 [] (by omega) (amp _) (by simp) He
 simp only [Y6,Y8,amj,amf,anm,amw,aof,an1,anU,Co,amH,aav] at l0;cases ho:Dr (gh 32 s) with
 |false=>
  rw [ho] at l0;simp only [aaR] at l0;rw [au M hS.aaO rfl (c:=je) rfl,je];simp (config:=apy) only [Zh M,↓Zi,Nat.reduceBEq,Nat.reduceAdd,env,ae,dV,Zx,AV.cell,Nat.reduceMul,Nat.reduceLeDiff,l0]
 |true=>
  rw [ho] at l0;simp only [abc] at l0;rw [if_pos rfl]
  have hh:∀ o2:List Zc,iZ bM .drop H (H++[.tok (o2.length*1) aI]) (.tuple [.slice (.own H.length) 1 (o2.map ak),.bool true])=some (.tuple [.slice .any 1 (o2.map ak),.bool true],H):=fun o2=>by
   have:=aaa (Zz H [Y4.tok (o2.length*1) aI]) (v:=.tuple [.slice (.own H.length) 1 (o2.map ak),.bool true]) (aaV ⟨acd (esz:=1) (tag:=.own H.length) (Hi H.length o2),acq _ _,trivial⟩);simp only [aaP] at this;exact this
  have hh:=hh (gh 32 s);rw [au M hS.aaO rfl (c:=je) rfl,je];simp (config:=apy) only [Zh M,↓Zi,Nat.reduceBEq,Nat.reduceAdd,env,ae,dV,Zx,AV.cell,Nat.reduceMul,Nat.reduceLeDiff,l0,hh]
end
section
attribute [local congr] aF aS cC bn aG aX aL aH az aA aM aN
variable{E:br}(M:cH bM E)
theorem zk(hS:gB E)(s:Zc)(H:List Y4):M.run cO [.str s] H=some (.ret (.str (dc s)),H):=by
 rw [au M hS.ach rfl (c:=qh) rfl,qh];cases h:(s == ([45]:Zc))<;>simp (config:=apy) only [Zh M,↓Zi,Nat.reduceBEq,Nat.reduceAdd,env,ae,BL,h,dc]
def K.is:K→K→Bool
 |.Z3,.Z3=>true
 |.trait,.trait=>true
 |.cla,.cla=>true
 |.slot,.slot=>true
 |.entry,.entry=>true
 |.form,.form=>true
 |.spell,.spell=>true
 |.link,.link=>true
 |_,_=>false
theorem uX(k:K):(k.key == [118,111,119,101,108,115])=k.is .Z3∧(k.key == [116,114,97,105,116])=k.is .trait∧(k.key == [99,108,97,115,115])=k.is .cla∧(k.key == [115,108,111,116])=k.is .slot∧(k.key == [101,110,116,114,121])=k.is .entry∧(k.key == [102,111,114,109])=k.is .form∧(k.key == [115,112,101,108,108])=k.is .spell∧(k.key == [108,105,110,107])=k.is .link:=by
 cases k<;>exact ⟨rfl,rfl,rfl,rfl,rfl,rfl,rfl,rfl⟩
theorem TX{w:Zc}(h:kOf w=none):(w == [118,111,119,101,108,115])=false∧(w == [116,114,97,105,116])=false∧(w == [99,108,97,115,115])=false∧(w == [115,108,111,116])=false∧(w == [101,110,116,114,121])=false∧(w == [102,111,114,109])=false∧(w == [115,112,101,108,108])=false∧(w == [108,105,110,107])=false:=by
 unfold kOf at h;have h:=List.find?_eq_none.1 h;have f:∀ k∈GW,(w == k.key)=false:=fun k hk=>by simpa using h k hk
 exact ⟨f .Z3 (by simp [GW]),f .trait (by simp [GW]),f .cla (by simp [GW]),f .slot (by simp [GW]),f .entry (by simp [GW]),f .form (by simp [GW]),f .spell (by simp [GW]),f .link (by simp [GW])⟩
def KS(w:Zc):Int:=match kOf w with
 |some k=>(k.Zb:Int)+1
 |none=>0
theorem Ru(hS:gB E)(w:Zc)(H:List Y4):M.run pZ [.str w] H=some (.ret (.int .i64 (KS w)),H):=by
 unfold KS;cases hk:kOf w with
 |none=>
  obtain ⟨q1,q2,q3,q4,q5,q6,q7,q8⟩:=TX hk;rw [au M hS.ZD rfl (c:=bc) rfl,bc];simp (config:=apy) only [Zh M,↓Zi,Nat.reduceBEq,Nat.reduceAdd,env,ae,dK,q1,q2,q3,q4,q5,q6,q7,q8]
 |some k=>
  have hw:w=k.key:=by
   have:=aoq hk;exact eq_of_beq this
  obtain ⟨q1,q2,q3,q4,q5,q6,q7,q8⟩:=uX k;rw [← hw] at q1 q2 q3 q4 q5 q6 q7 q8;clear hk hw;cases k<;>simp only [K.is] at q1 q2 q3 q4 q5 q6 q7 q8
  ·rw [au M hS.ZD rfl (c:=bc) rfl,bc]
   simp (config:=apy) only [Zh M,↓Zi,Nat.reduceBEq,Nat.reduceAdd,env,ae,dK,q1,q2,q3,q4,q5,q6,q7,q8];rfl
  ·rw [au M hS.ZD rfl (c:=bc) rfl,bc]
   simp (config:=apy) only [Zh M,↓Zi,Nat.reduceBEq,Nat.reduceAdd,env,ae,dK,q1,q2,q3,q4,q5,q6,q7,q8];rfl
  ·rw [au M hS.ZD rfl (c:=bc) rfl,bc]
   simp (config:=apy) only [Zh M,↓Zi,Nat.reduceBEq,Nat.reduceAdd,env,ae,dK,q1,q2,q3,q4,q5,q6,q7,q8];rfl
  ·rw [au M hS.ZD rfl (c:=bc) rfl,bc]
   simp (config:=apy) only [Zh M,↓Zi,Nat.reduceBEq,Nat.reduceAdd,env,ae,dK,q1,q2,q3,q4,q5,q6,q7,q8];rfl
  ·rw [au M hS.ZD rfl (c:=bc) rfl,bc]
   simp (config:=apy) only [Zh M,↓Zi,Nat.reduceBEq,Nat.reduceAdd,env,ae,dK,q1,q2,q3,q4,q5,q6,q7,q8];rfl
  ·rw [au M hS.ZD rfl (c:=bc) rfl,bc]
   simp (config:=apy) only [Zh M,↓Zi,Nat.reduceBEq,Nat.reduceAdd,env,ae,dK,q1,q2,q3,q4,q5,q6,q7,q8];rfl
  ·rw [au M hS.ZD rfl (c:=bc) rfl,bc]
   simp (config:=apy) only [Zh M,↓Zi,Nat.reduceBEq,Nat.reduceAdd,env,ae,dK,q1,q2,q3,q4,q5,q6,q7,q8];rfl
  ·rw [au M hS.ZD rfl (c:=bc) rfl,bc]
   simp (config:=apy) only [Zh M,↓Zi,Nat.reduceBEq,Nat.reduceAdd,env,ae,dK,q1,q2,q3,q4,q5,q6,q7,q8];rfl
def rh:Nat→Zc→Option Nat
 |n,[]=>some n
 |n,c::r=>if 48≤c.toNat∧c.toNat≤57 then rh (10*n+(c.toNat-48)) r else none
def Pb(s:Zc):Bool:=(s == [])||(decide (9<s.length)||(decide (1<s.length)&&s.head? == some 48))
def wW(s:Zc):Option Nat:=if Pb s=true then none else rh 0 s
def GX:Option Nat→Int
 |some n=>n
 |none=>0
def GY:Option Nat→Bool
 |some n=>decide ((n:Int)≤999)
 |none=>false
def Rv(M:cH bM E)(H0:List Y4)(k:List ZA)(H:List Y4):Option Nat→Option Out
 |some v=>M.go iG H0 k (kv [(1,.int .i64 999),(6,.int .i64 (v:Int))]) H
 |none=>some (.ret (.tuple [.int .i64 0,.bool false]),H.take H0.length)
theorem rn0(hS:gB E){s:Zc}(hs:s.length≤9){H H0:List Y4}(hc:bY H0 H)(k:List ZA):∀ (m i n:Nat),i+m=s.length→n<10 ^ i→∀ (He:List Y4),
  M.go iG H0 (.c dO :: .lp ⟨(some [0,1,6,7]),[],false⟩ dO He :: .ZU 0 :: .c (.lv [1,6])::k) (kv [(0,.str s),(1,.int .i64 999),(6,.int .i64 n),(7,.int .i64 i)]) H=Rv M H0 k H (rh n (s.drop i))
 |0,i,n,h,hn,He=>by
  have e:i=s.length:=by omega
  subst e;rw [al9,rh,Rv];have d0:decide ((s.length:Int)<(s.length:Int))=false:=amq (by omega);rw [ah M dO.eq_1];simp (config:=apy) only [Zh M,↓Zi,Nat.reduceBEq,Nat.reduceAdd,env,ae,cg,Zx,AV.cell,Nat.reduceMul,Nat.reduceLeDiff,ame,d0]
 |m+1,i,n,h,hn,He=>by
  have hi:i<s.length:=by omega
  have hx:=al4 hi;have hd:=al6 hi;have hwr:=bt hi (show s.length≤aZ by simp only [aZ];omega);rw [hd,rh];have hp:n<10 ^ 9:=anb hn (Nat.pow_le_pow_right (by decide) (by omega));have hp:n<1000000000:=hp;generalize s[i]=c at *
  by_cases h1:c.toNat<48
  ·rw [if_neg (by omega),Rv]
   have d1:decide ((c.toNat:Int)<48)=true:=amu (by omega);have d1n:decide (c.toNat<48)=true:=amu h1;rw [ah M dO.eq_1];simp (config:=apy) only [Zh M,↓Zi,Nat.reduceBEq,Nat.reduceAdd,env,ae,cg,Zx,AV.cell,Nat.reduceMul,Nat.reduceLeDiff,hi,hx,d1,d1n,h1,hc]
  ·have d1:decide ((c.toNat:Int)<48)=false:=amq (by omega)
   have d1n:decide (c.toNat<48)=false:=amq h1
   by_cases h2:57<c.toNat
   ·rw [if_neg (by omega),Rv]
    have d2:decide ((57:Int)<(c.toNat:Int))=true:=amu (by omega);have d2n:decide (57<c.toNat)=true:=amu h2;rw [ah M dO.eq_1];simp (config:=apy) only [Zh M,↓Zi,Nat.reduceBEq,Nat.reduceAdd,env,ae,cg,Zx,AV.cell,Nat.reduceMul,Nat.reduceLeDiff,hi,hx,d1,d1n,d2,d2n,h1,h2,hc]
   ·have d2:decide ((57:Int)<(c.toNat:Int))=false:=amq (by omega)
    have d2n:decide (57<c.toNat)=false:=amq h2;rw [if_pos ⟨by omega,by omega⟩];have w1:IntKind.i64.wrap (10*(n:Int))=((10*n:Nat):Int):=by rw [eY (by omega) (by omega)];push_cast;rfl
    have w2:IntKind.u8.wrap ((c.toNat:Int)-48)=((c.toNat-48:Nat):Int):=by
     rw [IntWalk.u8_in _ ⟨by omega,by omega⟩];omega
    have w3:IntKind.i64.wrap ((c.toNat-48:Nat):Int)=((c.toNat-48:Nat):Int):=eY (by omega) (by omega);have w3:Mv .i64 (.int .u8 ((c.toNat-48:Nat):Int))=some (.int .i64 ((c.toNat-48:Nat):Int)):=by simp only [Mv,w3]
    have w4:IntKind.i64.wrap (((10*n:Nat):Int)+((c.toNat-48:Nat):Int))=((10*n+(c.toNat-48):Nat):Int):=by rw [eY (by omega) (by omega)];push_cast;rfl
    have hn2:10*n+(c.toNat-48)<10 ^ (i+1):=by rw [Nat.pow_succ];omega
    have ih:=rn0 hS hs hc k m (i+1) (10*n+(c.toNat-48)) (by omega) hn2;simp only [Y6,Y8] at ih;generalize 10*n+(c.toNat-48)=n2 at *
    rw [ah M dO.eq_1];simp (config:=apy) only [Zh M,↓Zi,Nat.reduceBEq,Nat.reduceAdd,env,ae,cg,Zx,AV.cell,Nat.reduceMul,Nat.reduceLeDiff,hi,hx,d1,d1n,d2,d2n,h1,h2,w1,w2,w3,w4,hwr,ih]
theorem Gn(hS:gB E){s:Zc}(H:List Y4):M.run kj [.str s,.int .i64 999] H=some (.ret (.tuple [.int .i64 (GX (wW s)),.bool (GY (wW s))]),H):=by
 cases s with
 |nil=>
  rw [show wW []=none from rfl,GX,GY];have e0:(([]:Zc) == [])=true:=rfl;rw [au M hS.ZE rfl (c:=bD) rfl,bD];simp (config:=apy) only [Zh M,↓Zi,Nat.reduceBEq,Nat.reduceAdd,env,ae,cg,e0]
 |cons c t=>
  have e0:((c::t:Zc) == [])=false:=rfl
  by_cases h9:9<(c::t:Zc).length
  ·have d9:decide ((9:Int)<((c::t:Zc).length:Int))=true:=amu (by omega)
   have d9n:decide (9<(c::t:Zc).length)=true:=amu h9;have hq:wW (c::t)=none:=by unfold wW Pb;rw [d9n,e0];rfl
   rw [hq,GX,GY];generalize c::t=s at *
   rw [au M hS.ZE rfl (c:=bD) rfl,bD];simp (config:=apy) only [Zh M,↓Zi,Nat.reduceBEq,Nat.reduceAdd,env,ae,cg,e0,d9,d9n,h9]
  ·have d9:decide ((9:Int)<((c::t:Zc).length:Int))=false:=amq (by omega)
   have d9n:decide (9<(c::t:Zc).length)=false:=amq h9;have hx:(c::t:Zc)[0]?=some c:=rfl;have hz:((c.toNat:Int) == 48)=(c == 48):=eqB c 48;have l0:=rn0 M hS (s:=c::t) (by omega) (Zt H)
   have fin:Pb (c::t)=false→(∃ b1 b2,(decide ((1:Int)<((c::t:Zc).length:Int))=b1∧decide (1<(c::t:Zc).length)=b1∧(c == 48)=b2∧(b1&&b2)=false)):=fun hq=>by
    refine ⟨decide (1<(c::t:Zc).length),(c == 48),anp.2 (by omega),rfl,rfl, ?_⟩;unfold Pb at hq;rw [e0,d9n] at hq;simpa using hq
   cases hq:Pb (c::t) with
   |true=>
    have hr:wW (c::t)=none:=by unfold wW;rw [hq];rfl
    rw [hr,GX,GY];unfold Pb at hq;rw [e0,d9n] at hq;simp only [anH,amb,ana,List.head?_cons,amU,amo] at hq;have d1:decide ((1:Int)<((c::t:Zc).length:Int))=true:=amu (by omega);have d1n:decide (1<(c::t:Zc).length)=true:=amu hq.1;have hz:((c.toNat:Int) == 48)=true:=by rw [hq.2];rfl
    have h1:=hq.1;generalize c::t=s at *
    rw [au M hS.ZE rfl (c:=bD) rfl,bD];simp (config:=apy) only [Zh M,↓Zi,Nat.reduceBEq,Nat.reduceAdd,env,ae,cg,e0,d9,d9n,h9,d1,d1n,h1,hx,hz]
   |false=>
    obtain ⟨b1,b2,d1,d1n,hb2,hbb⟩:=fin hq;have hr:wW (c::t)=rh 0 (c::t):=by unfold wW;rw [hq];rfl
    rw [hr];rw [hb2] at hz;have l0:=fun k He=>l0 k (c::t:Zc).length 0 0 (by omega) (by decide) He
    simp only [Y6,Y8,amj,amf] at l0
    have hh:∀ (x:Int) (b:Bool),iZ bM .drop H H (.tuple [.int .i64 x,.bool b])=some (.tuple [.int .i64 x,.bool b],H):=fun x b=>by
     have:=aaa (Zt H) (v:=.tuple [.int .i64 x,.bool b]) (aaV ⟨aab _ _ _,acq _ _,trivial⟩);simp only [aav] at this;exact this
    cases hv:rh 0 (c::t) with
    |none=>
     rw [hv] at l0;simp only [Rv,aav] at l0;rw [GX,GY];generalize c::t=s at *
     cases b1 with
     |true=>
      simp only [amY] at hbb;subst hbb;rw [au M hS.ZE rfl (c:=bD) rfl,bD];simp (config:=apy) only [Zh M,↓Zi,Nat.reduceBEq,Nat.reduceAdd,env,ae,cg,e0,d9,d9n,h9,d1,d1n,hx,hz,l0]
     |false=>
      rw [au M hS.ZE rfl (c:=bD) rfl,bD];simp (config:=apy) only [Zh M,↓Zi,Nat.reduceBEq,Nat.reduceAdd,env,ae,cg,e0,d9,d9n,h9,d1,d1n,hx,hz,l0]
    |some v=>
     rw [hv] at l0;simp only [Rv,Y6,Y8] at l0;rw [GX,GY];have hd:decide ((v:Int)≤999)=decide (v≤999):=anp.2 (by omega);rw [hd];generalize c::t=s at *
     cases b1 with
     |true=>
      simp only [amY] at hbb;subst hbb;rw [au M hS.ZE rfl (c:=bD) rfl,bD];simp (config:=apy) only [Zh M,↓Zi,Nat.reduceBEq,Nat.reduceAdd,env,ae,cg,e0,d9,d9n,h9,d1,d1n,hx,hz,l0,hh,hd]
     |false=>
      rw [au M hS.ZE rfl (c:=bD) rfl,bD];simp (config:=apy) only [Zh M,↓Zi,Nat.reduceBEq,Nat.reduceAdd,env,ae,cg,e0,d9,d9n,h9,d1,d1n,hx,hz,l0,hh,hd]
end
section
attribute [local congr] aF aS cC bn aG aX aL aH az aA aM aN
variable{E:br}(M:cH bM E)
def CQ:Option Nat→Nat→Zc→Option (Option Nat)
 |at',_,[]=>some at'
 |at',k,c::r=>if c=61 then (match at' with
  |some _=>none
  |none=>CQ (some k) (k+1) r) else CQ at' (k+1) r
theorem Az(a:Option Nat)(k:Nat)(c:UInt8)(r:Zc):CQ a k (c::r)=if c=61 then (match a with
  |some _=>none
  |none=>CQ (some k) (k+1) r) else CQ a (k+1) r:=by cases a<;>rfl
def atI:Option Nat→Int
 |some j=>j
 |none => -1
theorem Qf:∀ (r:Zc) (a:Option Nat) (k:Nat),Lib.countByte r 61=0→CQ a k r=some a
 |[],_,_,_=>rfl
 |c::r,a,k,h=>by
  have hc:¬ c=61:=fun e=>by rw [e] at h;simp [Lib.countByte] at h
  rw [Az,if_neg hc];refine Qf r a (k+1) ?_;rwa [Lib.countByte,aog (by simpa using hc)] at h
theorem KT:∀ (r:Zc) (j k:Nat),Lib.countByte r 61≠0→CQ (some j) k r=none
 |[],_,_,h=>by simp [Lib.countByte] at h
 |c::r,j,k,h=>by
  rw [Az]
  by_cases hc:c=61
  ·rw [if_pos hc]
  ·rw [if_neg hc]
   refine KT r j (k+1) ?_;rwa [Lib.countByte,aog (by simpa using hc)] at h
theorem Qg:∀ (w:Zc) (k:Nat),CQ none k w=(if Lib.countByte w 61=0 then some none else if Lib.countByte w 61=1 then some (some (k+(Lib.indexByte w 61).toNat)) else none)
 |[],_=>rfl
 |c::r,k=>by
  rw [Az]
  by_cases hc:c=61
  ·subst hc
   have e:Lib.countByte (61::r) 61=Lib.countByte r 61+1:=by simp [Lib.countByte]
   have ei:Lib.indexByte (61::r) 61=0:=by simp [Lib.indexByte]
   rw [if_pos rfl,e,ei,if_neg (by omega)]
   by_cases h0:Lib.countByte r 61=0
   ·rw [Qf r _ _ h0,if_pos (by omega)];rfl
   ·rw [KT r _ _ h0,if_neg (by omega)]
  ·have e:Lib.countByte (c::r) 61=Lib.countByte r 61:=by rw [Lib.countByte,aog (by simpa using hc)];rfl
   rw [if_neg hc,e,Qg r (k+1)]
   by_cases h0:Lib.countByte r 61=0
   ·rw [if_pos h0,if_pos h0]
   ·by_cases h1:Lib.countByte r 61=1
    ·rw [if_neg h0,if_pos h1,if_neg h0,if_pos h1]
     obtain ⟨a,t,q1,q2,q3,q4⟩:=Jf 61 r 0 h1;have hb:(c == 61)=false:=by simpa using hc
     have ei:Lib.indexByte (c::r) 61=((a.length+1:Nat):Int):=by
      simp only [Lib.indexByte,hb,q3]
      have:((a.length:Int) == -1)=false:=amg.2 (by omega)
      simp [this]
     rw [ei,q3];simp only [apm];congr 2;omega
    ·rw [if_neg h0,if_neg h1,if_neg h0,if_neg h1]
def scX(M:cH bM E)(H0:List Y4)(k:List ZA)(H:List Y4)(tg:Tag)(ws:List Zc)(v4:AV)(i:Nat):Option (Option Nat)→Option Out
 |some a=>M.go eb H0 k (kv [(0,.slice tg 1 (ws.map ak)),(4,v4),(5,.int .i64 i),(6,.int .i64 (atI a))]) H
 |none=>some (.ret (.tuple [.slice .any 2 [],.bool false]),H.take H0.length)
theorem rb0(hS:gB E){tg:Tag}{ws:List Zc}{i:Nat}{w:Zc}(hi:i<ws.length)(hx:ws[i]?=some w)(hw:w.length≤1000000){v4:AV}{H H0:List Y4}(hc:bY H0 H)(k:List ZA):∀ (n j:Nat) (a:Option Nat),j+n=w.length→∀ (He:List Y4),
  M.go eb H0 (.c dE :: .lp ⟨(some [0,4,5,6,7]),[],false⟩ dE He :: .ZU 2 :: .c (.lv [0,4,5,6])::k) (kv [(0,.slice tg 1 (ws.map ak)),(4,v4),(5,.int .i64 i),(6,.int .i64 (atI a)),(7,.int .i64 j)]) H=scX M H0 k H tg ws v4 i (CQ a j (w.drop j))
 |0,j,a,h,He=>by
  have e:j=w.length:=by omega
  subst e;rw [al9,CQ,scX];have d0:decide ((w.length:Int)<(w.length:Int))=false:=amq (by omega);have hil:=aE (row:=ak) (tag:=tg) (sz:=1) (k:=.i64) hi;rw [ah M dE.eq_1];simp (config:=apy) only [Zh M,↓Zi,Nat.reduceBEq,Nat.reduceAdd,env,ae,cw,Zx,AV.cell,Nat.reduceMul,Nat.reduceLeDiff,ame,d0,hx,hil,dh]
 |n+1,j,a,h,He=>by
  have hj:j<w.length:=by omega
  have hxj:w[j]?=some w[j]:=al4 hj;have hd:w.drop j=w[j]::w.drop (j+1):=al6 hj;have hil:=aE (row:=ak) (tag:=tg) (sz:=1) (k:=.i64) hi;have hwr:=bt hj (show w.length≤aZ by simp only [aZ];omega);have e61:((w[j].toNat:Int) == 61)=(w[j] == 61):=eqB w[j] 61;have d0:decide ((j:Int)<(w.length:Int))=true:=amu (by omega);rw [hd,Az];cases hcc:(w[j] == 61) with
  |true=>
   rw [hcc] at e61;rw [if_pos (eq_of_beq hcc)];cases a with
   |some q=>
    have d1:decide ((0:Int)≤(q:Int))=true:=amu (by omega);rw [scX];rw [ah M dE.eq_1];simp (config:=apy) only [Zh M,↓Zi,Nat.reduceBEq,Nat.reduceAdd,env,ae,cw,Zx,AV.cell,Nat.reduceMul,Nat.reduceLeDiff,hj,d0,hx,hil,hxj,e61,atI,d1,anC,hc,dh]
   |none=>
    have ih:=rb0 hS (tg:=tg) hi hx hw (v4:=v4) hc k n (j+1) (some j) (by omega);have d1:decide ((0:Int)≤(-1:Int))=false:=rfl;simp only [Y6,Y8,atI] at ih ⊢;rw [ah M dE.eq_1];simp (config:=apy) only [Zh M,↓Zi,Nat.reduceBEq,Nat.reduceAdd,env,ae,cw,Zx,AV.cell,Nat.reduceMul,Nat.reduceLeDiff,hj,d0,hx,hil,hxj,e61,d1,hwr,ih,dh]
  |false=>
   rw [hcc] at e61;rw [if_neg (by simpa using hcc)];have ih:=rb0 hS (tg:=tg) hi hx hw (v4:=v4) hc k n (j+1) a (by omega);simp only [Y6,Y8] at ih;generalize atI a=q at *
   rw [ah M dE.eq_1];simp (config:=apy) only [Zh M,↓Zi,Nat.reduceBEq,Nat.reduceAdd,env,ae,cw,Zx,AV.cell,Nat.reduceMul,Nat.reduceLeDiff,hj,d0,hx,hil,hxj,e61,hwr,ih,dh]
def fbO(M:cH bM E)(H0:List Y4)(k:List ZA)(H:List Y4)(o:List aw):Option (List aw)→Option Out
 |some fs=>M.go eb H0 k (kv [(4,.slice (.own H.length) 2 ((o++fs).map aw.row))]) (H++[.tok ((o++fs).length*2) aR])
 |none=>some (.ret (.tuple [.slice .any 2 [],.bool false]),H.take H0.length)
theorem TY(M:cH bM E)(H0:List Y4)(k:List ZA)(H:List Y4)(o:List aw)(f:aw)(r:Option (List aw)):fbO M H0 k H o (r.map (f :: ·))=fbO M H0 k H (o++[f]) r:=by
 cases r with
 |none=>rfl
 |some fs=>simp only [amO,fbO,amr,amW,amH]
theorem rb1(hS:gB E){tg:Tag}{ws:List Zc}(hw:ws.length≤1000000)(hl:∀ s∈ws,s.length≤1000000){H H0:List Y4}(hc:bY H0 H):∀ (n i:Nat) (o:List aw),i+n=ws.length→o.length≤i→∀ (k:List ZA) (He:List Y4),
  M.go eb H0 (.c dF :: .lp ⟨(some [0,4,5]),[(4,2,aR)],false⟩ dF He :: .ZU 0 :: .c (.lv [4])::k) (kv [(0,.slice tg 1 (ws.map ak)),(4,.slice (.own H.length) 2 (o.map aw.row)),(5,.int .i64 i)]) (H++[.tok (o.length*2) aR])=fbO M H0 k H o (dq (ws.drop i))
 |0,i,o,h,ho,k,He=>by
  have e:i=ws.length:=by omega
  subst e;rw [al9,dq,fbO];simp only [amt];have d0:decide ((ws.length:Int)<(ws.length:Int))=false:=amq (by omega);rw [ah M dF.eq_1];simp (config:=apy) only [Zh M,↓Zi,Nat.reduceBEq,Nat.reduceAdd,env,ae,cw,ame,d0,ama]
 |n+1,i,o,h,ho,k,He=>by
  have hi:i<ws.length:=by omega
  have hx:=al4 hi;have hd:=al6 hi;have hsl:=hl _ (amc hi);have hil:=aE (row:=ak) (tag:=tg) (sz:=1) (k:=.i64) hi;have hwr:=bt hi (show ws.length≤aZ by simp only [aZ];omega);have hcm:=nZ hc [Y4.tok (o.length*2) aR];have htk:(H++[Y4.tok (o.length*2) aR]).take H0.length=H.take H0.length:=anB hc.1
  have d0:decide ((i:Int)<(ws.length:Int))=true:=amu (by omega);have l0:=fun k He=>rb0 M hS (tg:=tg) hi hx hsl (v4:=.slice (.own H.length) 2 (o.map aw.row)) hcm k ws[i].length 0 none (by omega) He
  simp only [Y6,Y8,amj,amf,atI] at l0;rw [Qg,amJ] at l0;rw [hd,dq]
  by_cases h1:Lib.countByte ws[i] 61=1
  ·rw [if_pos h1,TY]
   rw [if_neg (by omega),if_pos h1] at l0;obtain ⟨a,r,q1,q2,q3,q4⟩:=Jf 61 ws[i] 0 h1;have hal:a.length+1≤ws[i].length:=by rw [q1];simp
   have hto:(Lib.indexByte ws[i] 61).toNat=a.length:=by rw [q3];rfl
   simp only [scX,Y6,Y8,atI,hto] at l0;have d1:decide ((a.length:Int)<0)=false:=amq (by omega);have s1:=Xd (s:=ws[i]) (n:=a.length) (by omega);have s2:=Vf (s:=ws[i]) (n:=a.length+1) hal;have w1:IntKind.i64.wrap ((a.length:Int)+1)=((a.length+1:Nat):Int):=by rw [eY (by omega) (by omega)];rfl
   have hA:wS 61 ws[i]=ws[i].take a.length:=by unfold wS;rw [hto]
   have hB:wT 61 ws[i]=ws[i].drop (a.length+1):=by unfold wT;rw [hto]
   rw [← hA] at s1;rw [← hB] at s2;have hap:=O3 (row:=aw.row) (l:=o) (x:=⟨wS 61 ws[i],wT 61 ws[i]⟩) (sz:=2) (bytes:=32) (e:=aR) H (by rfl) (by rfl) (by rfl) (by omega) (by omega);have hap:rap false (H++[.tok (o.length*2) aR]) aR 2 32 false (.slice (.own H.length) 2 (o.map aw.row)) (.slice .full 2 [[.str (wS 61 ws[i]),.str (wT 61 ws[i])]])=some (.slice (.own H.length) 2 ((o++[(⟨wS 61 ws[i],wT 61 ws[i]⟩:aw)]).map aw.row),H++[.tok ((o++[(⟨wS 61 ws[i],wT 61 ws[i]⟩:aw)]).length*2) aR]):=hap
   have ih:=rb1 hS (tg:=tg) hw hl hc n (i+1) (o++[⟨wS 61 ws[i],wT 61 ws[i]⟩]) (by omega) (by simp;omega) k;simp only [Y6,Y8] at ih;generalize hff:(⟨wS 61 ws[i],wT 61 ws[i]⟩:aw)=ff at *
   generalize ho2:o++[ff]=o2 at *
   rw [ah M dF.eq_1];simp (config:=apy) only [Zh M,↓Zi,Nat.reduceBEq,Nat.reduceAdd,env,ae,cw,Zx,AV.cell,Nat.reduceMul,Nat.reduceLeDiff,hi,d0,hx,hil,l0,d1,s1,s2,w1,hap,ih,hwr,dh,ama]
  ·rw [if_neg h1,fbO]
   rw [if_neg h1] at l0
   by_cases h0:Lib.countByte ws[i] 61=0
   ·rw [if_pos h0] at l0
    simp only [scX,Y6,Y8,atI] at l0;have d1:decide ((-1:Int)<0)=true:=rfl;rw [ah M dF.eq_1];simp (config:=apy) only [Zh M,↓Zi,Nat.reduceBEq,Nat.reduceAdd,env,ae,cw,Zx,AV.cell,Nat.reduceMul,Nat.reduceLeDiff,hi,d0,hx,hil,l0,d1,hcm,htk,dh,ama]
   ·rw [if_neg h0] at l0
    simp only [scX,htk] at l0;rw [ah M dF.eq_1];simp (config:=apy) only [Zh M,↓Zi,Nat.reduceBEq,Nat.reduceAdd,env,ae,cw,Zx,AV.cell,Nat.reduceMul,Nat.reduceLeDiff,hi,d0,hx,hil,l0,dh,ama]
theorem AA(hS:gB E){tg:Tag}{ws:List Zc}(hw:ws.length≤1000000)(hl:∀ s∈ws,s.length≤1000000)(H:List Y4) :
  M.run gF [.slice tg 1 (ws.map ak)] H=some (.ret (.tuple [.slice .any 2 (((dq ws).getD []).map aw.row),.bool (dq ws).isSome]),H):=by
 have l0:=fun k He=>rb1 M hS (tg:=tg) hw hl (Zt H) ws.length 0 [] (by omega) (by simp) k He
 simp only [Y6,Y8,amj,amf,anm,amw,aof] at l0;cases hf:dq ws with
 |none=>
  rw [hf] at l0;simp only [fbO,aav] at l0;rw [au M hS.aaC rfl (c:=gX) rfl,gX];simp (config:=apy) only [Zh M,↓Zi,Nat.reduceBEq,Nat.reduceAdd,env,ae,cw,Zx,AV.cell,Nat.reduceMul,Nat.reduceLeDiff,l0];rfl
 |some fs=>
  rw [hf] at l0;simp only [fbO,Y6,Y8,amH] at l0;have hr:mE H.length (fs.map aw.row):=by rw [aaF];exact fun _ _=>⟨ZH _ _,ZH _ _,trivial⟩
  have hh:=aaa (Zz H [.tok (fs.length*2) aR]) (v:=.tuple [.slice (.own H.length) 2 (fs.map aw.row),.bool true]) (aaV ⟨acd (esz:=2) (tag:=.own H.length) hr,acq _ _,trivial⟩);simp only [aaP] at hh;have hh:iZ bM .drop H (H++[.tok (fs.length*2) aR]) (.tuple [.slice (.own H.length) 2 (fs.map aw.row),.bool true])=some (.tuple [.slice .any 2 (fs.map aw.row),.bool true],H):=hh;rw [au M hS.aaC rfl (c:=gX) rfl,gX]
  simp (config:=apy) only [Zh M,↓Zi,Nat.reduceBEq,Nat.reduceAdd,env,ae,cw,Zx,AV.cell,Nat.reduceMul,Nat.reduceLeDiff,l0,hh];rfl
end
section
attribute [local congr] aF aS cC bn aG aX aL aH az aA aM aN
variable{E:br}(M:cH bM E)
abbrev lxC(Z3:Zc)(tv cv ev sv kv:AV):Y4:=.cells [.str Z3,tv,cv,ev,sv,kv] ab
def LxV(N r:Nat)(G:List Y4)(d:Rd):Prop:=∃ tv cv ev sv kv,G[r]?=some (lxC d.Z3 tv cv ev sv kv)∧mg N G d tv cv ev sv kv
def LoX(N r:Nat)(G G':List Y4):Prop:=G.length≤G'.length∧∀ i,i<N→i≠r→G'[i]?=G[i]?
theorem LoX.refl(N r:Nat)(G:List Y4):LoX N r G G:=⟨amp _,fun _ _ _=>rfl⟩
theorem LoX.trans{N r:Nat}{A B C:List Y4}(h:LoX N r A B)(k:LoX N r B C):LoX N r A C:=⟨ams h.1 k.1,fun i hi hn=>(k.2 i hi hn).trans (h.2 i hi hn)⟩
theorem qLx(a b c d e f:AV):bO none [a,b,c,d,e,f] 0=some a∧bO none [a,b,c,d,e,f] 1=some b∧bO none [a,b,c,d,e,f] 2=some c∧bO none [a,b,c,d,e,f] 3=some d∧bO none [a,b,c,d,e,f] 4=some e∧bO none [a,b,c,d,e,f] 5=some f:=⟨rfl,rfl,rfl,rfl,rfl,rfl⟩
theorem XC{G:List Y4}{r:Nat}{cs cs':List AV}(h:G[r]?=some (.cells cs ab)):Chg ab ab G (G.set r (.cells cs' ab)):=
 ⟨by simp,fun i x hx _ n2=>by rw [ami (fun e=>n2 cs (by rw [← e,h] at hx;injection hx with hx;exact hx.symm))];exact hx⟩
theorem mg.setL{N r:Nat}{G:List Y4}{d:Rd}{tv cv ev sv kv:AV}(h:mg N G d tv cv ev sv kv){cs cs':List AV}(hr:G[r]?=some (.cells cs ab)):mg N (G.set r (.cells cs' ab)) d tv cv ev sv kv:=by
 obtain ⟨h1,h2,h3,h4,h5⟩:=h;have c:=XC (cs':=cs') hr;exact ⟨h1.chg c (by decide),h2.chg c (by decide) (by decide),h3.chg c (by decide) (by decide),h4.chg c (by decide),h5.chg c (by decide)⟩
theorem Ds{N r:Nat}{G:List Y4}{d:Rd}{tv cv ev sv kv:AV}(h:mg N G d tv cv ev sv kv){cs:List AV}(hr:G[r]?=some (.cells cs ab)):LxV N r (G.set r (lxC d.Z3 tv cv ev sv kv)) d:=⟨tv,cv,ev,sv,kv,amy (dS hr),h.setL hr⟩
theorem AB{N r:Nat}{G G1:List Y4}(h1:G.length≤G1.length)(h2:∀ i,i<N→G1[i]?=G[i]?)(x:Y4):LoX N r G (G1.set r x):=⟨by simpa using h1,fun i hi hn=>by rw [ami (Ne.symm hn),h2 i hi]⟩
theorem mg.akW{N:Nat}{G:List Y4}{d:Rd}{tv cv ev sv kv:AV}(h:mg N G d tv cv ev sv kv)(L:List Y4):mg N (G++L) d tv cv ev sv kv:=by
 obtain ⟨p1,p2,p3,p4,p5⟩:=h;have g:∀ {α:Type}{g:Gro α}{cv:AV}{xs:List α},GrV g N G cv xs→GrV g N (G++L) cv xs:=fun h=>h.stay (by simp) (fun i cs _ hi=>al7 (dS hi)) (fun i n _ hi=>al7 (dS hi))
 exact ⟨p1.more L,g p2,g p3,p4.more L,p5.more L⟩
def tgL(l:List Zc):Tag:=match l with
 |[]=>.nil
 |_=>.any
theorem Qh{tg:Tag}{ws:List Zc}{z:Zc}(h:ws[ws.length-1]?=some z)(h0:0<ws.length)(hl:ws.length≤1000000):IntKind.i64.wrap ((ws.length:Int)-1)=((ws.length-1:Nat):Int)∧qV 1 (.slice tg 1 (ws.map ak)) (.int .i64 ((ws.length-1:Nat):Int))=some (.Zu 1 (ws.map ak) (ws.length-1) 0):=
 ⟨by rw [eY (by omega) (by omega)];omega,Jh h⟩
theorem Y1{tg:Tag}{ws:List Zc}{w:Zc}(h:ws[4]?=some w):qV 1 (.slice tg 1 (ws.map ak)) (.int .i64 4)=some (.Zu 1 (ws.map ak) 4 0):=Jh h
section
variable{N r:Nat}{G:List Y4}{d:Rd}{ws:List Zc}
theorem Pc(hS:gB E)(h:LxV N r G d){w z:Zc}(hw:w=K.Z3.key)(h0:ws[0]?=some w)(hz:ws[ws.length-1]?=some z)(hl:ws.length≤1000000) :
  ∃ G',M.run aP [.ptr r 0,.slice .any 1 (ws.map ak)] G=some (.ret (.bool (ws.length == 2)),G')∧LxV N r G' { d with Z3:=dc z }∧LoX N r G G':=by
 obtain ⟨tv,cv,ev,sv,kv,hg,hp⟩:=h;have hpos:0<ws.length:=(al3.1 h0).1;refine ⟨G.set r (lxC (dc z) tv cv ev sv kv), ?_,Ds (d := { d with Z3:=dc z }) hp hg,AB (amp _) (fun _ _=>rfl) _⟩;have q:=uX .Z3;rw [← hw] at q;simp only [K.is] at q;obtain ⟨q1,q2,q3,q4,q5,q6,q7,q8⟩:=q;obtain ⟨w1,w2⟩:=Qh (tg:=.any) hz hpos hl;have hba:=fun s H=>zk M hS s H
 have hst:stO 1 G r 0 [.str (dc z)] (some (lxC d.Z3 tv cv ev sv kv))=some (G.set r (lxC (dc z) tv cv ev sv kv)):=jW rfl (by simp)
 have e2:((ws.length:Int) == 2)=(ws.length == 2):=by
  cases hq:(ws.length == 2) with
  |true=>have:=eq_of_beq hq;exact amU.2 (by omega)
  |false=>have:=amg.1 hq;exact amg.2 (by omega)
 rw [au M hS.Zp rfl (c:=ao) rfl,ao];simp (config:=apy) only [Zh M,↓Zi,Nat.reduceBEq,Nat.reduceAdd,env,ae,bw,Zx,AV.cell,Nat.reduceMul,Nat.reduceLeDiff,rnc,q1,q2,q3,q4,q5,q6,q7,q8,oz h0,h0,hz,w1,w2,hba,hg,hst,Zl,dh,ama,e2]
theorem Pd(hS:gB E){w:Zc}(hw:w=K.trait.key)(h0:ws[0]?=some w)(hb:ws.length<2):M.run aP [.ptr r 0,.slice .any 1 (ws.map ak)] G=some (.ret (.bool false),G):=by
 have q:=uX .trait;rw [← hw] at q;simp only [K.is] at q;obtain ⟨q1,q2,q3,q4,q5,q6,q7,q8⟩:=q;have d1:decide ((ws.length:Int)<2)=true:=amu (by omega);have d2:decide (ws.length<2)=true:=amu hb;rw [au M hS.Zp rfl (c:=ao) rfl,ao];simp (config:=apy) only [Zh M,↓Zi,Nat.reduceBEq,Nat.reduceAdd,env,ae,bw,Zx,AV.cell,Nat.reduceMul,Nat.reduceLeDiff,rnc,q1,q2,q3,q4,q5,q6,q7,q8,oz h0,h0,dh,ama,d1,d2]
theorem XD(hS:gB E)(hN:N≤G.length)(h:LxV N r G d){w a:Zc}(hw:w=K.trait.key)(h0:ws[0]?=some w)(h1:ws[1]?=some a)(hl:d.tr.length≤1000000)(hwl:ws.length≤1000000) :
  ∃ G',M.run aP [.ptr r 0,.slice .any 1 (ws.map ak)] G=some (.ret (.bool true),G')∧LxV N r G' { d with tr:=d.tr++[⟨a,⟨tgL (ws.drop 2),ws.drop 2⟩⟩] }∧LoX N r G G':=by
 obtain ⟨tv,cv,ev,sv,kv,hg,hp⟩:=h;have hlen:2≤ws.length:=(al3.1 h1).1;have q:=uX .trait;rw [← hw] at q;simp only [K.is] at q;obtain ⟨q1,q2,q3,q4,q5,q6,q7,q8⟩:=q;have d1:decide ((ws.length:Int)<2)=false:=amq (by omega);have d2:decide (ws.length<2)=false:=amq (by omega);have hfr:=vZ (ws:=ws) (i:=2) (by omega) hlen;have e2:((2:Nat):Int)=2:=rfl;rw [e2] at hfr
 obtain ⟨X,hX⟩:∃ X,X=ws.drop 2:=⟨_,rfl⟩
 have hXl:X.length≤1000000:=by rw [hX,anJ];omega
 rw [← hX] at hfr ⊢;clear hX;cases X with
 |nil=>
  obtain ⟨p1,p2,p3,p4,p5⟩:=hp;obtain ⟨v',G1,a1,a2,a3,a4,a5⟩:=B3 p1 hN (r:=bf.row ⟨a,⟨.nil,[]⟩⟩) (bytes:=40) rfl rfl rfl (by simp;omega) (by simp;omega);have c:=Aw a3 a5;have hg1:=c.2 r _ hg (fun n e=>by cases e) (fun cs e=>by cases e);have q:mg N G1 { d with tr:=d.tr++[⟨a,⟨.nil,[]⟩⟩] } v' cv ev sv kv:=⟨by simpa using a2,p2.chg c (by decide) (by decide),p3.chg c (by decide) (by decide),p4.chg c (by decide),p5.chg c (by decide)⟩
  refine ⟨G1.set r (lxC d.Z3 v' cv ev sv kv), ?_,Ds q hg1,AB a3 a4 _⟩;have hst:stO 1 G1 r 1 [v'] (some (lxC d.Z3 tv cv ev sv kv))=some (G1.set r (lxC d.Z3 v' cv ev sv kv)):=jW a2.cell.1 (by simp);have a1:rap false G bW 2 40 false tv (.slice .full 2 [[.str a,.slice .nil 1 []]])=some (v',G1):=a1;have hac:=a2.cell.2
  have hv:rap false G aI 1 16 false (.slice .nil 1 []) (.slice .any 1 (List.map ak []))=some (.slice .nil 1 [],G):=by
   simp [rap,yq,xJ,sg]
  simp only [anm] at hfr hv;rw [au M hS.Zp rfl (c:=ao) rfl,ao];simp (config:=apy) only [Zh M,↓Zi,Nat.reduceBEq,Nat.reduceAdd,env,ae,bw,Zx,AV.cell,Nat.reduceMul,Nat.reduceLeDiff,rnc,q1,q2,q3,q4,q5,q6,q7,q8,hg,hg1,qLx,oz h0,xj h1,h0,h1,hfr,amZ,hv,a1,hac,hst,Zl,dh,ama,d1,d2,AV.strip]
 |cons x l=>
  have hp:=hp.akW [Y4.tok ((x::l).length*1) aI];have hgm:(G++[Y4.tok ((x::l).length*1) aI])[r]?=some (lxC d.Z3 tv cv ev sv kv):=bR hg;have hGl:G.length≤(G++[Y4.tok ((x::l).length*1) aI]).length:=by simp
  have hGi:∀ i,i<N→(G++[Y4.tok ((x::l).length*1) aI])[i]?=G[i]? := fun i hi=>al7 (by omega)
  have hro:sg 1 ((x::l).map ak)=true:=by
   unfold sg;rw [amI];intro y hy;obtain ⟨z,_,rfl⟩:=anD.1 hy;rfl
  have hms:((x::l).map ak).map (·.map AV.strip)=(x::l).map ak:=by
   rw [aoJ];exact List.map_congr_left fun z _=>rfl
  have hv:rap false G aI 1 16 false (.slice .nil 1 []) (.slice .any 1 ((x::l).map ak))=some (.slice (.own G.length) 1 ((x::l).map ak),G++[Y4.tok ((x::l).length*1) aI]):=by
   have hb:(0+((x::l).map ak).length)*16≤140737488355328∧0+((x::l).map ak).length≤4611686018427387904:=by rw [ama];omega
   have e1:(0+((x::l).map ak).length)*1=(x::l).length*1:=by rw [ama];omega
   simp only [rap,yq,xJ,or_true,if_true,amw];rw [if_pos ⟨trivial,hb.1,hb.2,hro⟩];rw [e1,hms];rfl
  generalize G++[Y4.tok ((x::l).length*1) aI]=G0 at *
  obtain ⟨p1,p2,p3,p4,p5⟩:=hp;obtain ⟨v',G1,a1,a2,a3,a4,a5⟩:=B3 p1 (ams hN hGl) (r:=bf.row ⟨a,⟨.any,x::l⟩⟩) (bytes:=40) rfl rfl rfl (by simp;omega) (by simp;omega);have c:=Aw a3 a5;have hg1:=c.2 r _ hgm (fun n e=>by cases e) (fun cs e=>by cases e);have q:mg N G1 { d with tr:=d.tr++[⟨a,⟨.any,x::l⟩⟩] } v' cv ev sv kv:=⟨by simpa using a2,p2.chg c (by decide) (by decide),p3.chg c (by decide) (by decide),p4.chg c (by decide),p5.chg c (by decide)⟩
  refine ⟨G1.set r (lxC d.Z3 v' cv ev sv kv), ?_,Ds q hg1,AB (ams hGl a3) (fun i hi=>(a4 i hi).trans (hGi i hi)) _⟩;have hst:stO 1 G1 r 1 [v'] (some (lxC d.Z3 tv cv ev sv kv))=some (G1.set r (lxC d.Z3 v' cv ev sv kv)):=jW a2.cell.1 (by simp);have a1:rap false G0 bW 2 40 false tv (.slice .full 2 [[.str a,.slice .any 1 ((x::l).map ak)]])=some (v',G1):=a1;have hac:=a2.cell.2;generalize (x::l).map ak=R at *
  rw [au M hS.Zp rfl (c:=ao) rfl,ao];simp (config:=apy) only [Zh M,↓Zi,Nat.reduceBEq,Nat.reduceAdd,env,ae,bw,Zx,AV.cell,Nat.reduceMul,Nat.reduceLeDiff,rnc,q1,q2,q3,q4,q5,q6,q7,q8,hg,hgm,hg1,qLx,oz h0,xj h1,h0,h1,hfr,amZ,hv,a1,hac,hst,Zl,dh,ama,d1,d2,AV.strip]
theorem Pe(hS:gB E)(hN:N≤G.length)(h:LxV N r G d){w z:Zc}(hw:w=K.cla.key)(h0:ws[0]?=some w)(hz:ws[ws.length-1]?=some z)(hl:d.cl.length≤1000000)(hwl:ws.length≤1000000) :
  ∃ G',M.run aP [.ptr r 0,.slice .any 1 (ws.map ak)] G=some (.ret (.bool (ws.length == 2)),G')∧LxV N r G' { d with cl:=d.cl++[⟨z,⟨.any,[]⟩⟩] }∧LoX N r G G':=by
 obtain ⟨tv,cv,ev,sv,kv,hg,p1,p2,p3,p4,p5⟩:=h;have hpos:0<ws.length:=(al3.1 h0).1;have q:=uX .cla;rw [← hw] at q;simp only [K.is] at q;obtain ⟨q1,q2,q3,q4,q5,q6,q7,q8⟩:=q;obtain ⟨w1,w2⟩:=Qh (tg:=.any) hz hpos hwl;obtain ⟨v',G1,a1,a2,a3,a4,a5⟩:=p2.push hN (x:=⟨z,⟨.any,[]⟩⟩) rfl (bytes:=40) (by omega) (by omega);have c:=Ez a3 a5;have hg1:=c.2 r _ hg (fun n e=>by cases e) (fun cs e=>by cases e)
 have q:mg N G1 { d with cl:=d.cl++[⟨z,⟨.any,[]⟩⟩] } tv v' ev sv kv:=⟨p1.chg c (by decide),a2,p3.chg c (by decide) (by decide),p4.chg c (by decide),p5.chg c (by decide)⟩
 refine ⟨G1.set r (lxC d.Z3 tv v' ev sv kv), ?_,Ds q hg1,AB a3 a4 _⟩;have hst:stO 1 G1 r 2 [v'] (some (lxC d.Z3 tv cv ev sv kv))=some (G1.set r (lxC d.Z3 tv v' ev sv kv)):=jW (a2.len []).2.1 (by simp);have a1:rap true G aJ 2 40 false cv (.slice .full 2 [[.str z,.slice .nil 4 []]])=some (v',G1):=a1;have hac:=(a2.len []).2.2
 have e2:((ws.length:Int) == 2)=(ws.length == 2):=by
  cases hq:(ws.length == 2) with
  |true=>have:=eq_of_beq hq;exact amU.2 (by omega)
  |false=>have:=amg.1 hq;exact amg.2 (by omega)
 rw [au M hS.Zp rfl (c:=ao) rfl,ao];simp (config:=apy) only [Zh M,↓Zi,Nat.reduceBEq,Nat.reduceAdd,env,ae,bw,Zx,AV.cell,Nat.reduceMul,Nat.reduceLeDiff,rnc,q1,q2,q3,q4,q5,q6,q7,q8,hg,hg1,qLx,oz h0,h0,hz,w1,w2,a1,hac,hst,Zl,dh,ama,e2,AV.strip]
theorem Jm(hS:gB E){w:Zc}(hw:w=K.entry.key)(h0:ws[0]?=some w)(hb:ws.length<3):M.run aP [.ptr r 0,.slice .any 1 (ws.map ak)] G=some (.ret (.bool false),G):=by
 have q:=uX .entry;rw [← hw] at q;simp only [K.is] at q;obtain ⟨q1,q2,q3,q4,q5,q6,q7,q8⟩:=q;have d1:decide ((ws.length:Int)<3)=true:=amu (by omega);have d2:decide (ws.length<3)=true:=amu hb;rw [au M hS.Zp rfl (c:=ao) rfl,ao];simp (config:=apy) only [Zh M,↓Zi,Nat.reduceBEq,Nat.reduceAdd,env,ae,bw,Zx,AV.cell,Nat.reduceMul,Nat.reduceLeDiff,rnc,q1,q2,q3,q4,q5,q6,q7,q8,oz h0,h0,dh,ama,d1,d2]
theorem XE(hS:gB E)(hN:N≤G.length)(h:LxV N r G d){w a b:Zc}(hw:w=K.entry.key)(h0:ws[0]?=some w)(h1:ws[1]?=some a)(h2:ws[2]?=some b)(hl:d.en.length≤1000000)(hwl:ws.length≤1000000)(hsl:∀ s∈ws,s.length≤1000000) :
  ∃ G',M.run aP [.ptr r 0,.slice .any 1 (ws.map ak)] G=some (.ret (.bool (dq (ws.drop 3)).isSome),G')∧LxV N r G' { d with en:=d.en++[⟨a,b,⟨.any,(dq (ws.drop 3)).getD []⟩,⟨.any,[]⟩⟩] }∧LoX N r G G':=by
 obtain ⟨tv,cv,ev,sv,kv,hg,p1,p2,p3,p4,p5⟩:=h;have hlen0:3≤ws.length:=(al3.1 h2).1;have q:=uX .entry;rw [← hw] at q;simp only [K.is] at q;obtain ⟨q1,q2,q3,q4,q5,q6,q7,q8⟩:=q;have d1:decide ((ws.length:Int)<3)=false:=amq (by omega);have d2:decide (ws.length<3)=false:=amq (by omega);have hfr:=vZ (ws:=ws) (i:=3) (by omega) hlen0;have e2:((3:Nat):Int)=3:=rfl
 rw [e2] at hfr;have hf:=fun H=>AA M hS (tg:=.any) (ws:=ws.drop 3) (by rw [anJ];omega) (fun s hs=>hsl s (anu hs)) H
 generalize dq (ws.drop 3)=fo at *
 obtain ⟨fs,hfs⟩:∃ fs,fs=fo.getD []:=⟨_,rfl⟩
 obtain ⟨fb,hfb⟩:∃ fb,fb=fo.isSome:=⟨_,rfl⟩
 rw [← hfs,← hfb] at hf ⊢;obtain ⟨v',G1,a1,a2,a3,a4,a5⟩:=p3.push hN (x:=⟨a,b,⟨.any,fs⟩,⟨.any,[]⟩⟩) rfl (bytes:=80) (by omega) (by omega);have c:=Ez a3 a5;have hg1:=c.2 r _ hg (fun n e=>by cases e) (fun cs e=>by cases e);have q:mg N G1 { d with en:=d.en++[⟨a,b,⟨.any,fs⟩,⟨.any,[]⟩⟩] } tv cv v' sv kv:=⟨p1.chg c (by decide),p2.chg c (by decide) (by decide),a2,p4.chg c (by decide),p5.chg c (by decide)⟩
 refine ⟨G1.set r (lxC d.Z3 tv cv v' sv kv), ?_,Ds q hg1,AB a3 a4 _⟩;have hst:stO 1 G1 r 3 [v'] (some (lxC d.Z3 tv cv ev sv kv))=some (G1.set r (lxC d.Z3 tv cv v' sv kv)):=jW (a2.len []).2.1 (by simp);have a1:rap true G aD 4 80 false ev (.slice .full 4 [[.str a,.str b,.slice .any 2 (fs.map aw.row),.slice .nil 2 []]])=some (v',G1):=a1;have hac:=(a2.len []).2.2;rw [au M hS.Zp rfl (c:=ao) rfl,ao]
 simp (config:=apy) only [Zh M,↓Zi,Nat.reduceBEq,Nat.reduceAdd,env,ae,bw,Zx,AV.cell,Nat.reduceMul,Nat.reduceLeDiff,rnc,q1,q2,q3,q4,q5,q6,q7,q8,hg,hg1,qLx,oz h0,xj h1,GV h2,h0,h1,h2,hfr,hf,a1,hac,hst,Zl,dh,ama,d1,d2,AV.strip]
theorem wX(hS:gB E){w:Zc}(hw:w=K.spell.key)(h0:ws[0]?=some w)(hb:ws.length≠5):M.run aP [.ptr r 0,.slice .any 1 (ws.map ak)] G=some (.ret (.bool false),G):=by
 have q:=uX .spell;rw [← hw] at q;simp only [K.is] at q;obtain ⟨q1,q2,q3,q4,q5,q6,q7,q8⟩:=q;have d1:((ws.length:Int) == 5)=false:=amg.2 (by omega);have d2:(ws.length == 5)=false:=amg.2 hb;rw [au M hS.Zp rfl (c:=ao) rfl,ao];simp (config:=apy) only [Zh M,↓Zi,Nat.reduceBEq,Nat.reduceAdd,env,ae,bw,Zx,AV.cell,Nat.reduceMul,Nat.reduceLeDiff,rnc,q1,q2,q3,q4,q5,q6,q7,q8,oz h0,h0,dh,ama,d1,d2]
theorem XF(hS:gB E)(hN:N≤G.length)(h:LxV N r G d){w a b c' e':Zc}(hw:w=K.spell.key)(h0:ws[0]?=some w)(h1:ws[1]?=some a)(h2:ws[2]?=some b)(h3:ws[3]?=some c')(h4:ws[4]?=some e')(hlen:ws.length=5)(hl:d.sp.length≤1000000) :
  ∃ G',M.run aP [.ptr r 0,.slice .any 1 (ws.map ak)] G=some (.ret (.bool true),G')∧LxV N r G' { d with sp:=d.sp++[⟨dc a,dc b,dc c',dc e'⟩] }∧LoX N r G G':=by
 obtain ⟨tv,cv,ev,sv,kv,hg,p1,p2,p3,p4,p5⟩:=h;have q:=uX .spell;rw [← hw] at q;simp only [K.is] at q;obtain ⟨q1,q2,q3,q4,q5,q6,q7,q8⟩:=q;have d1:((ws.length:Int) == 5)=true:=amU.2 (by omega);have d2:(ws.length == 5)=true:=amU.2 hlen;have hba:=fun s H=>zk M hS s H
 obtain ⟨v',G1,a1,a2,a3,a4,a5⟩:=B3 p4 hN (r:=bL.row ⟨dc a,dc b,dc c',dc e'⟩) (bytes:=64) rfl rfl rfl (by simp;omega) (by simp;omega);have c:=Aw a3 a5;have hg1:=c.2 r _ hg (fun n e=>by cases e) (fun cs e=>by cases e);have q:mg N G1 { d with sp:=d.sp++[⟨dc a,dc b,dc c',dc e'⟩] } tv cv ev v' kv:=⟨p1.chg c (by decide),p2.chg c (by decide) (by decide),p3.chg c (by decide) (by decide),by simpa using a2,p5.chg c (by decide)⟩
 refine ⟨G1.set r (lxC d.Z3 tv cv ev v' kv), ?_,Ds q hg1,AB a3 a4 _⟩;have hst:stO 1 G1 r 4 [v'] (some (lxC d.Z3 tv cv ev sv kv))=some (G1.set r (lxC d.Z3 tv cv ev v' kv)):=jW a2.cell.1 (by simp);have a1:rap false G di 4 64 false sv (.slice .full 4 [[.str (dc a),.str (dc b),.str (dc c'),.str (dc e')]])=some (v',G1):=a1;have hac:=a2.cell.2;rw [au M hS.Zp rfl (c:=ao) rfl,ao];simp (config:=apy) only [Zh M,↓Zi,Nat.reduceBEq,Nat.reduceAdd,env,ae,bw,Zx,AV.cell,Nat.reduceMul,Nat.reduceLeDiff,rnc,q1,q2,q3,q4,q5,q6,q7,q8,hg,hg1,qLx,oz h0,xj h1,GV h2,Xl h3,Y1 h4,h0,h1,h2,h3,h4,hba,a1,hac,hst,Zl,dh,ama,d1,d2,AV.strip]
theorem Jn(hS:gB E){w:Zc}(hw:w=K.link.key)(h0:ws[0]?=some w)(hb:ws.length<3):M.run aP [.ptr r 0,.slice .any 1 (ws.map ak)] G=some (.ret (.bool false),G):=by
 have q:=uX .link;rw [← hw] at q;simp only [K.is] at q;obtain ⟨q1,q2,q3,q4,q5,q6,q7,q8⟩:=q;have d1:decide ((ws.length:Int)<3)=true:=amu (by omega);have d2:decide (ws.length<3)=true:=amu hb;rw [au M hS.Zp rfl (c:=ao) rfl,ao];simp (config:=apy) only [Zh M,↓Zi,Nat.reduceBEq,Nat.reduceAdd,env,ae,bw,Zx,AV.cell,Nat.reduceMul,Nat.reduceLeDiff,rnc,q1,q2,q3,q4,q5,q6,q7,q8,oz h0,h0,dh,ama,d1,d2]
theorem XG(hS:gB E)(hN:N≤G.length)(h:LxV N r G d){w a b:Zc}(hw:w=K.link.key)(h0:ws[0]?=some w)(h1:ws[1]?=some a)(h2:ws[2]?=some b)(hl:d.li.length≤1000000)(hwl:ws.length≤1000000)(hsl:∀ s∈ws,s.length≤1000000) :
  ∃ G',M.run aP [.ptr r 0,.slice .any 1 (ws.map ak)] G=some (.ret (.bool (dq (ws.drop 3)).isSome),G')∧LxV N r G' { d with li:=d.li++[⟨a,dc b,⟨.any,(dq (ws.drop 3)).getD []⟩⟩] }∧LoX N r G G':=by
 obtain ⟨tv,cv,ev,sv,kv,hg,p1,p2,p3,p4,p5⟩:=h;have hlen0:3≤ws.length:=(al3.1 h2).1;have q:=uX .link;rw [← hw] at q;simp only [K.is] at q;obtain ⟨q1,q2,q3,q4,q5,q6,q7,q8⟩:=q;have d1:decide ((ws.length:Int)<3)=false:=amq (by omega);have d2:decide (ws.length<3)=false:=amq (by omega);have hfr:=vZ (ws:=ws) (i:=3) (by omega) hlen0;have e2:((3:Nat):Int)=3:=rfl
 rw [e2] at hfr;have hf:=fun H=>AA M hS (tg:=.any) (ws:=ws.drop 3) (by rw [anJ];omega) (fun s hs=>hsl s (anu hs)) H
 generalize dq (ws.drop 3)=fo at *
 obtain ⟨fs,hfs⟩:∃ fs,fs=fo.getD []:=⟨_,rfl⟩
 obtain ⟨fb,hfb⟩:∃ fb,fb=fo.isSome:=⟨_,rfl⟩
 rw [← hfs,← hfb] at hf ⊢;have hba:=fun s H=>zk M hS s H
 obtain ⟨v',G1,a1,a2,a3,a4,a5⟩:=B3 p5 hN (r:=dn.row ⟨a,dc b,⟨.any,fs⟩⟩) (bytes:=56) rfl rfl rfl (by simp;omega) (by simp;omega);have c:=Aw a3 a5;have hg1:=c.2 r _ hg (fun n e=>by cases e) (fun cs e=>by cases e);have q:mg N G1 { d with li:=d.li++[⟨a,dc b,⟨.any,fs⟩⟩] } tv cv ev sv v':=⟨p1.chg c (by decide),p2.chg c (by decide) (by decide),p3.chg c (by decide) (by decide),p4.chg c (by decide),by simpa using a2⟩
 refine ⟨G1.set r (lxC d.Z3 tv cv ev sv v'), ?_,Ds q hg1,AB a3 a4 _⟩;have hst:stO 1 G1 r 5 [v'] (some (lxC d.Z3 tv cv ev sv kv))=some (G1.set r (lxC d.Z3 tv cv ev sv v')):=jW a2.cell.1 (by simp);have a1:rap false G eo 3 56 false kv (.slice .full 3 [[.str a,.str (dc b),.slice .any 2 (fs.map aw.row)]])=some (v',G1):=a1;have hac:=a2.cell.2;rw [au M hS.Zp rfl (c:=ao) rfl,ao];simp (config:=apy) only [Zh M,↓Zi,Nat.reduceBEq,Nat.reduceAdd,env,ae,bw,Zx,AV.cell,Nat.reduceMul,Nat.reduceLeDiff,rnc,q1,q2,q3,q4,q5,q6,q7,q8,hg,hg1,qLx,oz h0,xj h1,GV h2,h0,h1,h2,hfr,hf,hba,a1,hac,hst,Zl,dh,ama,d1,d2,AV.strip]
theorem Dt(hS:gB E){w:Zc}(hw:w=K.slot.key)(h0:ws[0]?=some w)(hb:ws.length<4):M.run aP [.ptr r 0,.slice .any 1 (ws.map ak)] G=some (.ret (.bool false),G):=by
 have q:=uX .slot;rw [← hw] at q;simp only [K.is] at q;obtain ⟨q1,q2,q3,q4,q5,q6,q7,q8⟩:=q;have d1:decide ((ws.length:Int)<4)=true:=amu (by omega);have d2:decide (ws.length<4)=true:=amu hb;rw [au M hS.Zp rfl (c:=ao) rfl,ao];simp (config:=apy) only [Zh M,↓Zi,Nat.reduceBEq,Nat.reduceAdd,env,ae,bw,Zx,AV.cell,Nat.reduceMul,Nat.reduceLeDiff,rnc,q1,q2,q3,q4,q5,q6,q7,q8,oz h0,h0,dh,ama,d1,d2]
theorem NR(hS:gB E)(h:LxV N r G d){w:Zc}(hw:w=K.slot.key)(h0:ws[0]?=some w)(hlen:4≤ws.length)(he:d.cl=[]):M.run aP [.ptr r 0,.slice .any 1 (ws.map ak)] G=some (.ret (.bool false),G):=by
 obtain ⟨tv,cv,ev,sv,kv,hg,p1,p2,p3,p4,p5⟩:=h;have q:=uX .slot;rw [← hw] at q;simp only [K.is] at q;obtain ⟨q1,q2,q3,q4,q5,q6,q7,q8⟩:=q;have d1:decide ((ws.length:Int)<4)=false:=amq (by omega);have d2:decide (ws.length<4)=false:=amq (by omega);rw [he] at p2;have hln:=fun H=>(p2.len H).1
 simp only [amw] at hln;have e0:(((0:Nat):Int) == 0)=true:=rfl;have e1:((0:Nat) == 0)=true:=rfl;rw [au M hS.Zp rfl (c:=ao) rfl,ao];simp (config:=apy) only [Zh M,↓Zi,Nat.reduceBEq,Nat.reduceAdd,env,ae,bw,Zx,AV.cell,Nat.reduceMul,Nat.reduceLeDiff,rnc,q1,q2,q3,q4,q5,q6,q7,q8,oz h0,h0,hg,qLx,hln,dh,ama,d1,d2,e0,e1]
theorem Du(hS:gB E){w:Zc}(hw:w=K.form.key)(h0:ws[0]?=some w)(hb:ws.length≠3):M.run aP [.ptr r 0,.slice .any 1 (ws.map ak)] G=some (.ret (.bool false),G):=by
 have q:=uX .form;rw [← hw] at q;simp only [K.is] at q;obtain ⟨q1,q2,q3,q4,q5,q6,q7,q8⟩:=q;have d1:((ws.length:Int) == 3)=false:=amg.2 (by omega);have d2:(ws.length == 3)=false:=amg.2 hb;rw [au M hS.Zp rfl (c:=ao) rfl,ao];simp (config:=apy) only [Zh M,↓Zi,Nat.reduceBEq,Nat.reduceAdd,env,ae,bw,Zx,AV.cell,Nat.reduceMul,Nat.reduceLeDiff,rnc,q1,q2,q3,q4,q5,q6,q7,q8,oz h0,h0,dh,ama,d1,d2]
theorem NS(hS:gB E)(h:LxV N r G d){w:Zc}(hw:w=K.form.key)(h0:ws[0]?=some w)(hlen:ws.length=3)(he:d.en=[]):M.run aP [.ptr r 0,.slice .any 1 (ws.map ak)] G=some (.ret (.bool false),G):=by
 obtain ⟨tv,cv,ev,sv,kv,hg,p1,p2,p3,p4,p5⟩:=h;have q:=uX .form;rw [← hw] at q;simp only [K.is] at q;obtain ⟨q1,q2,q3,q4,q5,q6,q7,q8⟩:=q;have d1:((ws.length:Int) == 3)=true:=amU.2 (by omega);have d2:(ws.length == 3)=true:=amU.2 hlen;rw [he] at p3;have hln:=fun H=>(p3.len H).1
 simp only [amw] at hln;have e0:(((0:Nat):Int) == 0)=true:=rfl;have e1:((0:Nat) == 0)=true:=rfl;rw [au M hS.Zp rfl (c:=ao) rfl,ao];simp (config:=apy) only [Zh M,↓Zi,Nat.reduceBEq,Nat.reduceAdd,env,ae,bw,Zx,AV.cell,Nat.reduceMul,Nat.reduceLeDiff,rnc,q1,q2,q3,q4,q5,q6,q7,q8,oz h0,h0,hg,qLx,hln,dh,ama,d1,d2,e0,e1]
theorem XH(hS:gB E)(hN:N≤G.length)(h:LxV N r G d){w a b c1:Zc}(hw:w=K.slot.key)(h0:ws[0]?=some w)(h1:ws[1]?=some a)(h2:ws[2]?=some b)(h3:ws[3]?=some c1)(hlen0:4≤ws.length){i:List aV}{c:aV}(hcl:d.cl=i++[c])(hl:i.length≤1000000)(hl2:c.Zd.l.length≤1000000)(hwl:ws.length≤1000000)(hsl:∀ s∈ws,s.length≤1000000) :
  ∃ G',M.run aP [.ptr r 0,.slice .any 1 (ws.map ak)] G=some (.ret (.bool (GY (wW a)&&(dq (ws.drop 4)).isSome)),G')∧LxV N r G' { d with cl:=i++[⟨c.name,⟨.any,c.Zd.l++[⟨GX (wW a),dc b,dc c1,⟨.any,(dq (ws.drop 4)).getD []⟩⟩]⟩⟩] }∧LoX N r G G':=by
 obtain ⟨tv,cv,ev,sv,kv,hg,p1,p2,p3,p4,p5⟩:=h;have d1:decide ((ws.length:Int)<4)=false:=amq (by omega);have d2:decide (ws.length<4)=false:=amq (by omega);have q:=uX .slot;rw [← hw] at q;simp only [K.is] at q;obtain ⟨q1,q2,q3,q4,q5,q6,q7,q8⟩:=q;have hba:=fun s H=>zk M hS s H
 have hn:=fun H=>Gn M hS (s:=a) H
 generalize GX (wW a)=n at *
 obtain ⟨nb,hnb⟩:∃ nb,nb=GY (wW a):=⟨_,rfl⟩
 rw [← hnb] at hn ⊢;have hfr:=vZ (ws:=ws) (i:=4) (by omega) hlen0;have e2:((4:Nat):Int)=4:=rfl;rw [e2] at hfr;have hf:=fun H=>AA M hS (tg:=.any) (ws:=ws.drop 4) (by rw [anJ];omega) (fun s hs=>hsl s (anu hs)) H
 generalize dq (ws.drop 4)=fo at *
 obtain ⟨fs,hfs⟩:∃ fs,fs=fo.getD []:=⟨_,rfl⟩
 obtain ⟨fb,hfb⟩:∃ fb,fb=fo.isSome:=⟨_,rfl⟩
 rw [← hfs,← hfb] at hf ⊢;rw [hcl] at p2;have hln:=fun H=>(p2.len H).1
 have hz:((((i++[c]).length:Nat):Int) == 0)=false:=by rw [al8,amP];exact amg.2 (by omega)
 have hz2:((i++[c]).length == 0)=false:=by rw [al8,amP];exact amg.2 (by omega)
 have hw1:IntKind.i64.wrap ((((i++[c]).length:Nat):Int)-1)=(i.length:Int):=by rw [al8,amP];exact yx (by omega)
 obtain ⟨id,off,cs,v,v',G1,a1,a2,a3,a4,a5,a6,a7,a8,a9,a10,a11,a12,a13,a14⟩:=p2.last hN (x':=⟨c.name,⟨.any,c.Zd.l++[⟨n,dc b,dc c1,⟨.any,fs⟩⟩]⟩⟩) (r:=bU.row ⟨n,dc b,dc c1,⟨.any,fs⟩⟩) (bytes:=64) rfl (by show (c.Zd.l++[_]).map bU.row=_;rw [anP];rfl) rfl rfl rfl (by show ((c.Zd.l.map bU.row).length+1)*64≤_;rw [ama];omega) (by show (c.Zd.l.map bU.row).length+1≤_;rw [ama];omega) (fun _ _=>by simp)
 have c0:Chg bX aJ G (G1.set id (.cells (cs.set (off+(2-1)) v') aJ)):=⟨a12,fun j x hx n1 n2=>(a14 j (dS hx) (fun cs e=>n2 cs (by rw [hx] at e;injection e)) (fun n e=>n1 n (by rw [hx] at e;injection e))).trans hx⟩
 have hg2:=c0.2 r _ hg (fun n e=>by cases e) (fun cs e=>by cases e);refine ⟨G1.set id (.cells (cs.set (off+(2-1)) v') aJ), ?_,⟨tv,cv,ev,sv,kv,hg2,p1.chg c0 (by decide),a8,p3.chg c0 (by decide) (by decide),p4.chg c0 (by decide),p5.chg c0 (by decide)⟩,a12,fun j hj _=>a13 j hj⟩;have a1:qV 2 cv (.int .i64 (i.length:Int))=some (.ptr id off):=a1 .i64;have a3:bO none cs (off+1)=some v:=a3;have a4:rap false G bX 4 64 false v (.slice .full 4 [[.int .i64 n,.str (dc b),.str (dc c1),.slice .any 2 (fs.map aw.row)]])=some (v',G1):=a4
 have a7:stO 1 G1 id (off+1) [v'] (some (.cells cs aJ))=some (G1.set id (.cells (cs.set (off+(2-1)) v') aJ)):=a7;have a2:G[id]?=some (.cells cs aJ):=a2;have a5:G1[id]?=some (.cells cs aJ):=a5;generalize (i++[c]).length=il at *
 cases nb <;>
 ·rw [au M hS.Zp rfl (c:=ao) rfl,ao]
  simp (config:=apy) only [Zh M,↓Zi,Nat.reduceBEq,Nat.reduceAdd,env,ae,bw,Zx,AV.cell,Nat.reduceMul,Nat.reduceLeDiff,rnc,q1,q2,q3,q4,q5,q6,q7,q8,hg,qLx,oz h0,h0,xj h1,h1,GV h2,h2,Xl h3,h3,hfr,hf,hba,hn,hln,hw1,hz,hz2,a1,a2,a3,a4,a5,a6,a7,Zl,dh,ama,d1,d2,AV.strip]
theorem XI(hS:gB E)(hN:N≤G.length)(h:LxV N r G d){w a b:Zc}(hw:w=K.form.key)(h0:ws[0]?=some w)(h1:ws[1]?=some a)(h2:ws[2]?=some b)(hlen:ws.length=3){i:List aT}{c:aT}(hcl:d.en=i++[c])(hl:i.length≤1000000)(hl2:c.Zg.l.length≤1000000)(hwl:ws.length≤1000000)(hsl:∀ s∈ws,s.length≤1000000) :
  ∃ G',M.run aP [.ptr r 0,.slice .any 1 (ws.map ak)] G=some (.ret (.bool (GY (wW a))),G')∧LxV N r G' { d with en:=i++[⟨c.lem,c.cls,c.Zf,⟨.any,c.Zg.l++[⟨GX (wW a),dc b⟩]⟩⟩] }∧LoX N r G G':=by
 obtain ⟨tv,cv,ev,sv,kv,hg,p1,p2,p3,p4,p5⟩:=h;have d1:((ws.length:Int) == 3)=true:=amU.2 (by omega);have d2:(ws.length == 3)=true:=amU.2 hlen;have q:=uX .form;rw [← hw] at q;simp only [K.is] at q;obtain ⟨q1,q2,q3,q4,q5,q6,q7,q8⟩:=q;have hba:=fun s H=>zk M hS s H
 have hn:=fun H=>Gn M hS (s:=a) H
 generalize GX (wW a)=n at *
 obtain ⟨nb,hnb⟩:∃ nb,nb=GY (wW a):=⟨_,rfl⟩
 rw [← hnb] at hn ⊢;rw [hcl] at p3;have hln:=fun H=>(p3.len H).1
 have hz:((((i++[c]).length:Nat):Int) == 0)=false:=by rw [al8,amP];exact amg.2 (by omega)
 have hz2:((i++[c]).length == 0)=false:=by rw [al8,amP];exact amg.2 (by omega)
 have hw1:IntKind.i64.wrap ((((i++[c]).length:Nat):Int)-1)=(i.length:Int):=by rw [al8,amP];exact yx (by omega)
 obtain ⟨id,off,cs,v,v',G1,a1,a2,a3,a4,a5,a6,a7,a8,a9,a10,a11,a12,a13,a14⟩:=p3.last hN (x':=⟨c.lem,c.cls,c.Zf,⟨.any,c.Zg.l++[⟨n,dc b⟩]⟩⟩) (r:=bE.row ⟨n,dc b⟩) (bytes:=24) rfl (by show (c.Zg.l++[_]).map bE.row=_;rw [anP];rfl) rfl rfl rfl (by show ((c.Zg.l.map bE.row).length+1)*24≤_;rw [ama];omega) (by show (c.Zg.l.map bE.row).length+1≤_;rw [ama];omega) (fun _ _=>by simp)
 have c0:Chg bk aD G (G1.set id (.cells (cs.set (off+(4-1)) v') aD)):=⟨a12,fun j x hx n1 n2=>(a14 j (dS hx) (fun cs e=>n2 cs (by rw [hx] at e;injection e)) (fun n e=>n1 n (by rw [hx] at e;injection e))).trans hx⟩
 have hg2:=c0.2 r _ hg (fun n e=>by cases e) (fun cs e=>by cases e);refine ⟨G1.set id (.cells (cs.set (off+(4-1)) v') aD), ?_,⟨tv,cv,ev,sv,kv,hg2,p1.chg c0 (by decide),p2.chg c0 (by decide) (by decide),a8,p4.chg c0 (by decide),p5.chg c0 (by decide)⟩,a12,fun j hj _=>a13 j hj⟩;have a1:qV 4 ev (.int .i64 (i.length:Int))=some (.ptr id off):=a1 .i64;have a3:bO none cs (off+3)=some v:=a3;have a4:rap false G bk 2 24 false v (.slice .full 2 [[.int .i64 n,.str (dc b)]])=some (v',G1):=a4
 have a7:stO 1 G1 id (off+3) [v'] (some (.cells cs aD))=some (G1.set id (.cells (cs.set (off+(4-1)) v') aD)):=a7;have a2:G[id]?=some (.cells cs aD):=a2;have a5:G1[id]?=some (.cells cs aD):=a5;generalize (i++[c]).length=il at *
 cases nb <;>
 ·rw [au M hS.Zp rfl (c:=ao) rfl,ao]
  simp (config:=apy) only [Zh M,↓Zi,Nat.reduceBEq,Nat.reduceAdd,env,ae,bw,Zx,AV.cell,Nat.reduceMul,Nat.reduceLeDiff,rnc,q1,q2,q3,q4,q5,q6,q7,q8,hg,qLx,oz h0,h0,xj h1,h1,GV h2,h2,hba,hn,hln,hw1,hz,hz2,a1,a2,a3,a4,a5,a6,a7,Zl,dh,ama,d1,d2,AV.strip]
end
end
section
attribute [local congr] aF aS cC bn aG aX aL aH az aA aM aN
variable{E:br}(M:cH bM E)
def FT(s:Zc):Option Nat:=match wW s with
 |some n=>if n≤999 then some n else none
 |none=>none
theorem KU:∀ (s:Zc) (a n:Nat),rh a s=some n→a*10 ^ s.length≤n
 |[],a,n,h=>by
  rw [rh] at h;cases h;simp
 |c::r,a,n,h=>by
  rw [rh] at h;split at h
  ·have ih:=KU r _ n h
   have e:a*10 ^ (c::r:Zc).length=10*a*10 ^ r.length:=by
    rw [amk,Nat.pow_succ,aob (10 ^ r.length) 10,← Nat.mul_assoc,aob a 10]
   rw [e];exact ams (amR _ (aoV _ _)) ih
  ·cases h
theorem kC{a n:Nat}{c:UInt8}{r:Zc}(h:rh a (c::r)=some n):(48≤c.toNat∧c.toNat≤57)∧rh (10*a+(c.toNat-48)) r=some n:=by
 rw [rh] at h;split at h
 ·rename_i hc;exact ⟨hc,h⟩
 ·cases h
theorem FU{c:UInt8}{m:Nat}(h:c.toNat=m):UInt8.ofNat m=c:=by rw [← h];exact UInt8.ofNat_toNat
theorem TZ{s:Zc}{n:Nat}(h:FT s=some n):s=fJ n∧n<1000:=by
 unfold FT at h;cases hr:wW s with
 |none=>rw [hr] at h;cases h
 |some m=>
  rw [hr] at h;simp only at h;split at h
  ·rename_i hm
   cases h;unfold wW at hr;split at hr
   ·cases hr
   ·rename_i hq
    refine ⟨?_,by omega⟩
    match s,hr,hq with
    |[],hr,hq=>exact absurd rfl hq
    |[c],hr,hq=>
     obtain ⟨h1,h2⟩:=kC hr;rw [rh] at h2;cases h2;unfold fJ;rw [if_pos (by omega),FU (c:=c) (by omega)]
    |[c,e],hr,hq=>
     have hc:c.toNat≠48:=fun e1=>hq (by
      have:c=48:=aor.1 e1
      subst this;rfl)
     obtain ⟨h1,h2⟩:=kC hr;obtain ⟨h3,h4⟩:=kC h2;rw [rh] at h4;cases h4;unfold fJ;rw [if_neg (by omega),if_pos (by omega),FU (c:=c) (by omega),FU (c:=e) (by omega)]
    |[c,e,f],hr,hq=>
     have hc:c.toNat≠48:=fun e1=>hq (by
      have:c=48:=aor.1 e1
      subst this;rfl)
     obtain ⟨h1,h2⟩:=kC hr;obtain ⟨h3,h4⟩:=kC h2;obtain ⟨h5,h6⟩:=kC h4;rw [rh] at h6;cases h6;unfold fJ;rw [if_neg (by omega),if_neg (by omega),FU (c:=c) (by omega),FU (c:=e) (by omega),FU (c:=f) (by omega)]
    |c::e::f::g::r,hr,hq=>
     exfalso
     have hc:c.toNat≠48:=fun e1=>hq (by
      have:c=48:=aor.1 e1
      subst this;unfold Pb;simp)
     obtain ⟨h1,h2⟩:=kC hr;obtain ⟨h3,h4⟩:=kC h2;obtain ⟨h5,h6⟩:=kC h4;obtain ⟨h7,h8⟩:=kC h6;have h9:=KU r _ _ h8;have hp:1≤10 ^ r.length:=Nat.one_le_pow _ _ (by decide);have h10:=ams (Nat.mul_le_mul_left _ hp) h9;omega
  ·cases h
theorem T1:(List.range 1000).all (fun n=>match FT (fJ n) with | some m=>m == n | none=>false)=true:=by decide +kernel
theorem T4(s:Zc):FT s=wR s:=by
 cases hO:wR s with
 |some n=>
  have h9:=O8 hO
  have hs:fJ n=s:=by
   unfold wR at hO;cases hv:Lib.atoiAll s with
   |ok v=>
    rw [hv] at hO;simp only at hO;split at hO
    ·rename_i hc
     cases hO;exact hc.2.2
    ·cases hO
   |_=>rw [hv] at hO;cases hO
  have:=amI.1 T1 n (anV.2 (by omega));rw [hs] at this;cases hF:FT s with
  |none=>rw [hF] at this;cases this
  |some m=>rw [hF] at this;rw [eq_of_beq this]
 |none=>
  cases hF:FT s with
  |none=>rfl
  |some n=>
   obtain ⟨h1,h2⟩:=TZ hF;have:=(Xx h2).2.2;rw [← h1,hO] at this;cases this
def trT(t:bf):bf:=⟨t.name,⟨tgL t.values.l,t.values.l⟩⟩
def Dv(d:Rd):Rd := { d with tr:=d.tr.map trT }
theorem Vz(d:Rd):baR (Dv d)=baR d:=by
 unfold baR Dv;simp only [aoJ];rfl
def wY(k:K)(d:Rd)(W:List Zc):Option Rd:=
 match k,W with
 |.Z3,[_,a]=>some { d with Z3:=dc a }
 |.trait,_::a::r=>some { d with tr:=d.tr++[⟨a,⟨tgL r,r⟩⟩] }
 |.cla,[_,a]=>some { d with cl:=d.cl++[⟨a,⟨.any,[]⟩⟩] }
 |.slot,_::a::b::c::r=>if d.cl=[] then none else (match FT a,dq r with
  |some n,some fs=>some { d with cl:=EA d.cl ⟨n,dc b,dc c,⟨.any,fs⟩⟩ }
  |_,_=>none)
 |.entry,_::a::b::r=>match dq r with
  |some fs=>some { d with en:=d.en++[⟨a,b,⟨.any,fs⟩,⟨.any,[]⟩⟩] }
  |none=>none
 |.form,[_,a,b]=>if d.en=[] then none else (match FT a with
  |some n=>some { d with en:=EB d.en ⟨n,dc b⟩ }
  |none=>none)
 |.spell,[_,a,b,c,e]=>some { d with sp:=d.sp++[⟨dc a,dc b,dc c,dc e⟩] }
 |.link,_::a::b::r=>match dq r with
  |some fs=>some { d with li:=d.li++[⟨a,dc b,⟨.any,fs⟩⟩] }
  |none=>none
 |_,_=>none
def T5(d:Rd)(last:Zc)(Zb:Nat):Prop:=(d.cl≠[]→2≤Zb)∧(Zb=2→last=kx∨last=qQ)∧(d.en≠[]→3≤Zb)∧(Zb=3→last=ky∨last=qR)∧(last=[]→Zb=0)
theorem VA(k:K)(last:Zc)(Zb:Nat)(ws:List Zc):JT k last Zb ws=(decide (k.least≤ws.length)&&(k.more||(ws.length == k.least))):=by
 unfold JT;have e1:decide ((k.least:Int)≤(ws.length:Int))=decide (k.least≤ws.length):=anp.2 (by omega)
 have e2:((ws.length:Int) == (k.least:Int))=(ws.length == k.least):=by
  cases hq:(ws.length == k.least) with
  |true=>have:=eq_of_beq hq;exact amU.2 (by omega)
  |false=>have:=amg.1 hq;exact amg.2 (by omega)
 rw [e1,e2]
theorem Rw{k:K}{d:Rd}{last w:Zc}{Zb:Nat}{ws:List Zc}(hI:T5 d last Zb)(hJ:CO d last)(hrk:EC k last Zb=true):wY k (Dv d) (w::ws)=(if JT k last Zb ws=true then qS k d last ws else none).map Dv:=by
 rw [VA];unfold EC at hrk;rw [amb,ana] at hrk;obtain ⟨hr1,hr2⟩:=hrk;obtain ⟨i1,i2,i3,i4,i5⟩:=hI;cases k with
 |Z3=>
  match ws with
  |[]=>rfl
  |[a]=>rfl
  |a::b::t=>simp [wY,K.least,K.more]
 |trait=>
  match ws with
  |[]=>rfl
  |a::r=>simp [wY,K.least,K.more,qS,Dv,trT]
 |cla=>
  match ws with
  |[]=>rfl
  |[a]=>rfl
  |a::b::t=>simp [wY,K.least,K.more]
 |slot=>
  match ws with
  |[]=>rfl
  |[a]=>rfl
  |[a,b]=>rfl
  |a::b::c::r=>
   have hok:(decide (K.slot.least≤(a::b::c::r:List Zc).length)&&(K.slot.more||((a::b::c::r:List Zc).length == K.slot.least)))=true:=by simp [K.least,K.more]
   rw [hok,if_pos rfl];simp only [wY,qS,Dv,T4]
   by_cases hc:d.cl=[]
   ·rw [if_pos hc,if_neg (fun h=>hJ.1 h hc)];rfl
   ·have h2:=i1 hc
    have hr2:Zb≤2:=by have:(Zb:Int)≤2:=hr2;omega
    rw [if_neg hc,if_pos (i2 (by omega))];cases wR a with
    |none=>rfl
    |some n=>cases dq r<;>rfl
 |entry=>
  match ws with
  |[]=>rfl
  |[a]=>rfl
  |a::b::r=>
   have hok:(decide (K.entry.least≤(a::b::r:List Zc).length)&&(K.entry.more||((a::b::r:List Zc).length == K.entry.least)))=true:=by simp [K.least,K.more]
   rw [hok,if_pos rfl];simp only [wY,qS,Dv];cases dq r<;>rfl
 |form=>
  match ws with
  |[]=>rfl
  |[a]=>rfl
  |[a,b]=>
   have hok:(decide (K.form.least≤([a,b]:List Zc).length)&&(K.form.more||(([a,b]:List Zc).length == K.form.least)))=true:=by simp [K.least,K.more]
   rw [hok,if_pos rfl];simp only [wY,qS,Dv,T4]
   by_cases hc:d.en=[]
   ·rw [if_pos hc,if_neg (fun h=>hJ.2 h hc)];rfl
   ·have h2:=i3 hc
    have hr2:Zb≤3:=by have:(Zb:Int)≤3:=hr2;omega
    rw [if_neg hc,if_pos (i4 (by omega))];cases wR a<;>rfl
  |a::b::c::t=>simp [wY,K.least,K.more]
 |spell=>
  match ws with
  |[]=>rfl
  |[a]=>rfl
  |[a,b]=>rfl
  |[a,b,c]=>rfl
  |[a,b,c,e]=>rfl
  |a::b::c::e::f::t=>simp [wY,K.least,K.more]
 |link=>
  match ws with
  |[]=>rfl
  |[a]=>rfl
  |a::b::r=>
   have hok:(decide (K.link.least≤(a::b::r:List Zc).length)&&(K.link.more||((a::b::r:List Zc).length == K.link.least)))=true:=by simp [K.least,K.more]
   rw [hok,if_pos rfl];simp only [wY,qS,Dv];cases dq r<;>rfl
def lr(last:Zc)(Zb:Nat):Int:=if last=[] then 0 else (Zb:Int)+1
def XJ(k:K)(l:Int):Bool:=decide ((k.Zb:Int)+1<l) || !(((k.Zb:Int)+1 == 1) == (l == 0))
theorem XK{k:K}{last:Zc}{Zb:Nat}(h:last=[]→Zb=0):XJ k (lr last Zb) = !EC k last Zb:=by
 unfold XJ EC lr
 by_cases hl:last=[]
 ·subst hl
  rw [h rfl,if_pos rfl];have e1:decide ((k.Zb:Int)+1<0)=false:=amq (by omega)
  have e2:(((k.Zb:Int)+1) == 1)=((k.Zb:Int) == 0):=by
   cases hq:((k.Zb:Int) == 0) with
   |true=>have:=eq_of_beq hq;exact amU.2 (by omega)
   |false=>have:=amg.1 hq;exact amg.2 (by omega)
  have e3:decide (((0:Nat):Int)≤(k.Zb:Int))=true:=amu (by omega);rw [e1,e2,e3];cases ((k.Zb:Int) == 0)<;>rfl
 ·rw [if_neg hl]
  have e0:(last == ([]:Zc))=false:=amg.2 hl;have e1:((Zb:Int)+1 == 0)=false:=amg.2 (by omega)
  have e2:(((k.Zb:Int)+1) == 1)=((k.Zb:Int) == 0):=by
   cases hq:((k.Zb:Int) == 0) with
   |true=>have:=eq_of_beq hq;exact amU.2 (by omega)
   |false=>have:=amg.1 hq;exact amg.2 (by omega)
  have e3:decide ((k.Zb:Int)+1<(Zb:Int)+1) = !decide ((Zb:Int)≤(k.Zb:Int)):=by
   by_cases h:(Zb:Int)≤(k.Zb:Int)
   ·rw [amu h,amq (by omega)];rfl
   ·rw [amq h,amu (by omega)];rfl
  rw [e0,e1,e2,e3];cases ((k.Zb:Int) == 0)<;>cases decide ((Zb:Int)≤(k.Zb:Int))<;>rfl
theorem T6{k:K}{d d':Rd}{last:Zc}{Zb:Nat}{ws:List Zc}(hI:T5 d last Zb)(hrk:EC k last Zb=true)(h:qS k d last ws=some d'):T5 d' k.key k.Zb:=by
 obtain ⟨i1,i2,i3,i4,i5⟩:=hI;unfold EC at hrk;rw [amb,ana] at hrk;have hr2:Zb≤k.Zb:=by have:=hrk.2;omega
 have kn:k.key≠[]:=TN k
 have Zn:d'.cl=d.cl→d'.en=d.en→(k.Zb=2→k.key=kx∨k.key=qQ)→(k.Zb=3→k.key=ky∨k.key=qR)→T5 d' k.key k.Zb:=fun e1 e2 c1 c2=>
  ⟨fun h=>ams (i1 (e1 ▸ h)) hr2,c1,fun h=>ams (i3 (e2 ▸ h)) hr2,c2,fun h=>absurd h kn⟩
 have k2:k.Zb=2→k.key=kx∨k.key=qQ:=by cases k<;>intro h<;>first | (cases h;done) | exact .inl rfl | exact .inr rfl
 have k3:k.Zb=3→k.key=ky∨k.key=qR:=by cases k<;>intro h<;>first | (cases h;done) | exact .inl rfl | exact .inr rfl
 unfold qS at h;split at h
 ·cases h;exact Zn rfl rfl k2 k3
 ·cases h;exact Zn rfl rfl k2 k3
 ·cases h;exact ⟨fun _=>amp _,k2,fun h=>ams (i3 h) hr2,k3,fun h=>absurd h kn⟩
 ·split at h
  ·split at h
   ·cases h;exact ⟨fun _=>amp _,k2,fun h=>ams (i3 h) hr2,k3,fun h=>absurd h kn⟩
   ·cases h
  ·cases h
 ·split at h
  ·cases h;exact ⟨fun h=>ams (i1 h) hr2,k2,fun _=>amp _,k3,fun h=>absurd h kn⟩
  ·cases h
 ·split at h
  ·split at h
   ·cases h;exact ⟨fun h=>ams (i1 h) hr2,k2,fun _=>amp _,k3,fun h=>absurd h kn⟩
   ·cases h
  ·cases h
 ·cases h;exact Zn rfl rfl k2 k3
 ·split at h
  ·cases h;exact Zn rfl rfl k2 k3
  ·cases h
 ·cases h
end
section
attribute [local congr] aF aS cC bn aG aX aL aH az aA aM aN
variable{E:br}(M:cH bM E)
theorem NT{m:Nat}{d:Rd}(h:Cb m d):Cb m (Dv d):=by
 obtain ⟨z1,z2,z3,z4,z5,z6,z7⟩:=h;exact ⟨by simpa [Dv] using z1,z2,z3,z4,z5,z6,z7⟩
theorem VB{d:Rd}(h:DOk d):DOk (Dv d):=by
 obtain ⟨d1,d2,d3,d4,d5,d6⟩:=h;refine ⟨d1,fun t ht => ?_,d3,d4,d5,d6⟩;obtain ⟨u,hu,rfl⟩:=anD.1 ht;obtain ⟨a1,a2,a3,a4⟩:=d2 u hu;refine ⟨a1, ?_,a3,a4⟩;show tgL u.values.l = .any∨tgL u.values.l = .nil;cases u.values.l with
 |nil=>exact .inr rfl
 |cons x l=>exact .inl rfl
theorem T7(s:Zc):GY (wW s)=(FT s).isSome∧∀ n,FT s=some n→GX (wW s)=(n:Int):=by
 unfold FT;cases wW s with
 |none=>exact ⟨rfl,fun n h=>by cases h⟩
 |some m=>
  simp only [GY,GX]
  by_cases h:m≤999
  ·rw [if_pos h,amu (by omega)]
   exact ⟨rfl,fun n h=>by cases h;rfl⟩
  ·rw [if_neg h,amq (by omega)]
   exact ⟨rfl,fun n h=>by cases h⟩
theorem Rx(hS:gB E){N r:Nat}{G:List Y4}{d:Rd}(hN:N≤G.length)(h:LxV N r G d){m:Nat}(hZ:Cb m d)(hm:m≤1000000){k:K}{w:Zc}{ws:List Zc}(hw:w=k.key)(hwl:(w::ws).length≤1000000)(hsl:∀ s∈w::ws,s.length≤1000000) :
  match wY k d (w::ws) with
  |some d' => ∃ G',M.run aP [.ptr r 0,.slice .any 1 ((w::ws).map ak)] G=some (.ret (.bool true),G')∧LxV N r G' d'∧LoX N r G G'
  |none => ∃ G',M.run aP [.ptr r 0,.slice .any 1 ((w::ws).map ak)] G=some (.ret (.bool false),G')∧LoX N r G G':=by
 obtain ⟨z1,z2,z3,z4,z5,z6,z7⟩:=hZ;have bad:M.run aP [.ptr r 0,.slice .any 1 ((w::ws).map ak)] G=some (.ret (.bool false),G)→∃ G',M.run aP [.ptr r 0,.slice .any 1 ((w::ws).map ak)] G=some (.ret (.bool false),G')∧LoX N r G G':=fun h=>⟨G,h,.refl _ _ _⟩
 have h0:(w::ws)[0]?=some w:=rfl;cases k with
 |Z3=>
  match ws,hwl,hsl with
  |[],hwl,hsl=>
   obtain ⟨G',a,b,c⟩:=Pc M hS h (ws:=[w]) hw rfl rfl hwl;exact ⟨G',a,c⟩
  |[x],hwl,hsl=>
   obtain ⟨G',a,b,c⟩:=Pc M hS h (ws:=[w,x]) hw rfl rfl hwl;exact ⟨G',a,b,c⟩
  |x::y::t,hwl,hsl=>
   have hlt:(w::x::y::t).length-1<(w::x::y::t).length:=by simp
   obtain ⟨G',a,b,c⟩:=Pc M hS h (ws:=w::x::y::t) hw rfl (al4 hlt) hwl;have e:((w::x::y::t).length == 2)=false:=amg.2 (by simp);rw [e] at a;exact ⟨G',a,c⟩
 |trait=>
  match ws,hwl,hsl with
  |[],hwl,hsl=>exact bad (Pd M hS (ws:=[w]) hw rfl (by simp))
  |x::t,hwl,hsl=>exact XD M hS hN h (ws:=w::x::t) hw rfl rfl (by omega) hwl
 |cla=>
  match ws,hwl,hsl with
  |[],hwl,hsl=>
   obtain ⟨G',a,b,c⟩:=Pe M hS hN h (ws:=[w]) hw rfl rfl (by omega) hwl;exact ⟨G',a,c⟩
  |[x],hwl,hsl=>
   obtain ⟨G',a,b,c⟩:=Pe M hS hN h (ws:=[w,x]) hw rfl rfl (by omega) hwl;exact ⟨G',a,b,c⟩
  |x::y::t,hwl,hsl=>
   have hlt:(w::x::y::t).length-1<(w::x::y::t).length:=by simp
   obtain ⟨G',a,b,c⟩:=Pe M hS hN h (ws:=w::x::y::t) hw rfl (al4 hlt) (by omega) hwl;have e:((w::x::y::t).length == 2)=false:=amg.2 (by simp);rw [e] at a;exact ⟨G',a,c⟩
 |slot=>
  match ws,hwl,hsl with
  |[],hwl,hsl=>exact bad (Dt M hS (ws:=[w]) hw rfl (by simp))
  |[x],hwl,hsl=>exact bad (Dt M hS (ws:=[w,x]) hw rfl (by simp))
  |[x,y],hwl,hsl=>exact bad (Dt M hS (ws:=[w,x,y]) hw rfl (by simp))
  |x::y::z::t,hwl,hsl=>
   simp only [wY]
   by_cases hc:d.cl=[]
   ·rw [if_pos hc]
    exact bad (NR M hS h (ws:=w::x::y::z::t) hw rfl (by simp) hc)
   ·rw [if_neg hc]
    obtain ⟨i,c,hic⟩:=Ax hc;have hil:i.length≤1000000:=by rw [hic,al8] at z2;omega
    obtain ⟨G',a,b,e⟩:=XH M hS hN h (ws:=w::x::y::z::t) hw rfl rfl rfl rfl (by simp) hic hil (ams (z6 c (by rw [hic];simp)) hm) hwl hsl;obtain ⟨q1,q2⟩:=T7 x;rw [q1] at a;rw [hic];simp only [xG];have e4:(w::x::y::z::t).drop 4=t:=rfl;rw [e4] at a b;cases hn:FT x with
    |none=>rw [hn] at a;exact ⟨G',a,e⟩
    |some n=>
     rw [q2 n hn] at b;rw [hn] at a;cases hf:dq t with
     |none=>rw [hf] at a;exact ⟨G',a,e⟩
     |some fs=>rw [hf] at a b;exact ⟨G',a,b,e⟩
 |entry=>
  match ws,hwl,hsl with
  |[],hwl,hsl=>exact bad (Jm M hS (ws:=[w]) hw rfl (by simp))
  |[x],hwl,hsl=>exact bad (Jm M hS (ws:=[w,x]) hw rfl (by simp))
  |x::y::t,hwl,hsl=>
   obtain ⟨G',a,b,e⟩:=XE M hS hN h (ws:=w::x::y::t) hw rfl rfl rfl (by omega) hwl hsl;have e4:(w::x::y::t).drop 3=t:=rfl;rw [e4] at a b;simp only [wY];cases hf:dq t with
   |none=>rw [hf] at a;exact ⟨G',a,e⟩
   |some fs=>rw [hf] at a b;exact ⟨G',a,b,e⟩
 |form=>
  match ws,hwl,hsl with
  |[],hwl,hsl=>exact bad (Du M hS (ws:=[w]) hw rfl (by simp))
  |[x],hwl,hsl=>exact bad (Du M hS (ws:=[w,x]) hw rfl (by simp))
  |[x,y],hwl,hsl=>
   simp only [wY]
   by_cases hc:d.en=[]
   ·rw [if_pos hc]
    exact bad (NS M hS h (ws:=[w,x,y]) hw rfl rfl hc)
   ·rw [if_neg hc]
    obtain ⟨i,c,hic⟩:=Ax hc;have hil:i.length≤1000000:=by rw [hic,al8] at z3;omega
    obtain ⟨G',a,b,e⟩:=XI M hS hN h (ws:=[w,x,y]) hw rfl rfl rfl rfl hic hil (ams (z7 c (by rw [hic];simp)) hm) hwl hsl;obtain ⟨q1,q2⟩:=T7 x;rw [q1] at a;rw [hic];simp only [xH];cases hn:FT x with
    |none=>rw [hn] at a;exact ⟨G',a,e⟩
    |some n=>
     rw [q2 n hn] at b;rw [hn] at a;exact ⟨G',a,b,e⟩
  |x::y::z::t,hwl,hsl=>exact bad (Du M hS (ws:=w::x::y::z::t) hw rfl (by simp))
 |spell=>
  match ws,hwl,hsl with
  |[],hwl,hsl=>exact bad (wX M hS (ws:=[w]) hw rfl (by simp))
  |[x],hwl,hsl=>exact bad (wX M hS (ws:=[w,x]) hw rfl (by simp))
  |[x,y],hwl,hsl=>exact bad (wX M hS (ws:=[w,x,y]) hw rfl (by simp))
  |[x,y,z],hwl,hsl=>exact bad (wX M hS (ws:=[w,x,y,z]) hw rfl (by simp))
  |[x,y,z,u],hwl,hsl=>exact XF M hS hN h (ws:=[w,x,y,z,u]) hw rfl rfl rfl rfl rfl rfl (by omega)
  |x::y::z::u::v::t,hwl,hsl=>exact bad (wX M hS (ws:=w::x::y::z::u::v::t) hw rfl (by simp))
 |link=>
  match ws,hwl,hsl with
  |[],hwl,hsl=>exact bad (Jn M hS (ws:=[w]) hw rfl (by simp))
  |[x],hwl,hsl=>exact bad (Jn M hS (ws:=[w,x]) hw rfl (by simp))
  |x::y::t,hwl,hsl=>
   obtain ⟨G',a,b,e⟩:=XG M hS hN h (ws:=w::x::y::t) hw rfl rfl rfl (by omega) hwl hsl;have e4:(w::x::y::t).drop 3=t:=rfl;rw [e4] at a b;simp only [wY];cases hf:dq t with
   |none=>rw [hf] at a;exact ⟨G',a,e⟩
   |some fs=>rw [hf] at a b;exact ⟨G',a,b,e⟩
def oA:List Zc→StR→Nat
 |[],_=>0
 |s::l,st=>match xI st s with
  |some st'=>oA l st'+1
  |none=>0
abbrev fH:List AV:=[.str [],.slice .nil 2 [],.slice .nil 2 [],.slice .nil 4 [],.slice .nil 4 [],.slice .nil 3 []]
abbrev tO(n:Int)(e:Int):AV:=.tuple [.agg fH,.int .i64 n,.int .u8 e]
theorem zl{H0 G:List Y4}(hl:H0.length≤G.length)(hlow:∀ i,i<H0.length→G[i]?=H0[i]?)(n e:Int):iZ bM .deep H0 G (tO n e)=some (tO n e,H0):=by
 have hz:dX (Z8 8 H0.length G) fH=some fH:=rfl;have h1:=wt (Hf hl hlow) (v:=tO n e) (v':=tO n e) ⟨10,D9 (aK (SH hz) (aK (BC _ _ _ _ _) (aK (BC _ _ _ _ _) (fO _))))⟩;rw [Er hl hlow] at h1;exact h1
end
section
attribute [local congr] aF aS cC bn aG aX aL aH az aA aM aN
variable{E:br}(M:cH bM E)
theorem YI{N r:Nat}{G:List Y4}{d:Rd}(h:LxV N r G d)(hr:r≤N){m:Nat}(hZ:Cb m d)(hm:m≤1000000)(hD:DOk d) :
  ∃ l:Lex,PlL l∧l.ba=baR d∧Z8 8 r G (.ptr r 0)=some (.Zu 6 [l.row] 0 0):=by
 obtain ⟨tv,cv,ev,sv,kv,hg,p1,p2,p3,p4,p5⟩:=h;obtain ⟨d1,d2,d3,d4,d5,d6⟩:=hD;obtain ⟨z1,z2,z3,z4,z5,z6,z7⟩:=hZ;obtain ⟨t1,q1,f1⟩:=FR (k:=6) (n:=r) (H:=G) p1 (gn fun t ht=>TP (d2 t ht).2.1);obtain ⟨t4,q4,f4⟩:=FR (k:=6) (n:=r) (H:=G) p4 (gn fun t ht=>TS t);obtain ⟨t5,q5,f5⟩:=FR (k:=6) (n:=r) (H:=G) p5 (gn fun t ht=>TT (d6 t ht).2.2.1)
 obtain ⟨t2,cs,q2,f2,e2,g2⟩:=Qa (k:=5) (n:=r) (H:=G) (g:=clG) (row:=aV.row) (er:=clB) (P:=fun c=>c.name.length≤BB∧pT c.Zd.tag∧c.Zd.l.length≤1000000∧∀ s∈c.Zd.l,SlK s)
  (fun x t hx ht=>⟨⟨x.name,⟨t,x.Zd.l⟩⟩,rfl,rfl,hx.1,ht,hx.2.2⟩) (fun x hx=>aK (jn _ _ _ _) (fO _)) (fun x hx=>gn fun s hs=>TQ (hx.2.2.2 s hs).2.2.2.1) hr p2
  (fun c hc=>⟨(d3 c hc).1,by rw [(d3 c hc).2.1];exact .inl rfl,by have:=z6 c hc;omega,(d3 c hc).2.2⟩)
 obtain ⟨t3,es,q3,f3,e3,g3⟩:=Qa (k:=5) (n:=r) (H:=G) (g:=enG) (row:=aT.row) (er:=enB) (P:=fun x=>x.lem.length≤BB∧x.cls.length≤BB∧FsK x.Zf∧pT x.Zg.tag∧x.Zg.l.length≤1000000∧∀ f∈x.Zg.l,IrK f)
  (fun x t hx ht=>⟨⟨x.lem,x.cls,x.Zf,⟨t,x.Zg.l⟩⟩,rfl,rfl,hx.1,hx.2.1,hx.2.2.1,ht,hx.2.2.2.2⟩) (fun x hx=>aK (jn _ _ _ _) (aK (jn _ _ _ _) (aK (Jk hx.2.2.1.1) (fO _)))) (fun x hx=>gn fun f _=>TR f) hr p3
  (fun c hc=>⟨(d4 c hc).1,(d4 c hc).2.1,(d4 c hc).2.2.1,by rw [(d4 c hc).2.2.2.1];exact .inl rfl,by have:=z7 c hc;omega,(d4 c hc).2.2.2.2⟩)
 have lc:cs.length=d.cl.length:=by have:=congrArg List.length e2;simpa using this
 have le:es.length=d.en.length:=by have:=congrArg List.length e3;simpa using this
 refine ⟨⟨d.Z3,⟨t1,d.tr⟩,⟨t2,cs⟩,⟨t3,es⟩,⟨t4,d.sp⟩,⟨t5,d.li⟩⟩,⟨⟨q1,q2,q3,q4,q5⟩,d2,g2,g3,d5,d6,d1,by show d.tr.length≤_;omega,by show cs.length≤_;omega,by show es.length≤_;omega,by show d.sp.length≤_;omega,by show d.li.length≤_;omega⟩, ?_, ?_⟩
 ·simp only [Lex.ba,baR,e2,e3]
 ·exact SI (amp _) hg (aK (jn _ _ _ _) (aK f1 (aK f2 (aK f3 (aK f4 (aK f5 (fO _)))))))
theorem VC{d:Rd}{last s w:Zc}{Zb:Nat}{ws:List Zc}{k:K}(hsp:gh 32 s=w::ws)(hk:kOf w=some k)(hall:Dr (w::ws)=true):uV d last Zb s=if EC k last Zb=true then ((if JT k last Zb ws=true then qS k d last ws else none).map fun d'=>(d',w,k.Zb)) else none:=by
 unfold uV;rw [hsp];simp only [hk];unfold Dr at hall;rw [hall,if_pos rfl];cases JT k last Zb ws<;>cases EC k last Zb<;>rfl
theorem Ma{G:List Y4}{p:Nat}(h:G[p]?=some (.cells fH ab)):stO 6 G p 0 fH (some (.cells fH ab))=some (G.set p (.cells fH ab)):=by
 simp only [stO];rw [if_pos ⟨rfl,by decide,rfl⟩];rfl
theorem qr0(hS:gB E){N r p:Nat}(hr:r<N)(hp:p<N)(hpr:p≠r){tg:Tag}{ls:List Zc}(hls:ls.length≤99999)(hsl:∀ x∈ls,x.length≤99999){H0:List Y4}(hp0:p=H0.length)(hrH:H0.length≤r):∀ (n i:Nat) (d:Rd) (last:Zc) (Zb:Nat) (G:List Y4),i+n=ls.length→LxV N r G (Dv d)→N≤G.length→CO d last→T5 d last Zb→Cb i d→DOk d →
  G[p]?=some (.cells fH ab)→(∀ i,i<H0.length→G[i]?=H0[i]?) →
  match uW (ls.drop i) (d,last,Zb) with
  |some st' => ∃ G',LxV N r G' (Dv st'.1)∧LoX N r G G'∧Cb ls.length st'.1∧DOk st'.1∧∀ (k:List ZA) (He:List Y4),M.go gj H0 (.c aY :: .lp ⟨(some [2,5,6,7,8]),[],false⟩ aY He :: .ZU 0 :: .c (.lv [2,5,6])::k) (kv [(2,.ptr p 0),(5,.ptr r 0),(6,.int .i64 (lr last Zb)),(7,.slice tg 1 (ls.map ak)),(8,.int .i64 i)]) G=M.go gj H0 k (kv [(2,.ptr p 0),(5,.ptr r 0),(6,.int .i64 (lr st'.2.1 st'.2.2))]) G'
  |none => ∀ (k:List ZA) (He:List Y4),M.go gj H0 (.c aY :: .lp ⟨(some [2,5,6,7,8]),[],false⟩ aY He :: .ZU 0 :: .c (.lv [2,5,6])::k) (kv [(2,.ptr p 0),(5,.ptr r 0),(6,.int .i64 (lr last Zb)),(7,.slice tg 1 (ls.map ak)),(8,.int .i64 i)]) G=some (.ret (tO ((i+oA (ls.drop i) (d,last,Zb)+1:Nat):Int) 4),H0)
 |0,i,d,last,Zb,G,h,hv,hN,hJ,hI,hZ,hK,hgp,hlow=>by
  have e:i=ls.length:=by omega
  subst e;rw [al9,uW];refine ⟨G,hv,.refl _ _ _,hZ,hK,fun k He => ?_⟩;have d0:decide ((ls.length:Int)<(ls.length:Int))=false:=amq (by omega);rw [ah M aY.eq_1];simp (config:=apy) only [Zh M,↓Zi,Nat.reduceBEq,Nat.reduceAdd,env,ae,bp,ame,d0,ama]
 |n+1,i,d,last,Zb,G,h,hv,hN,hJ,hI,hZ,hK,hgp,hlow=>by
  have hi:i<ls.length:=by omega
  have hx:=al4 hi;have hd:=al6 hi;have hxl:=hsl _ (amc hi);have hil:=aE (row:=ak) (tag:=tg) (sz:=1) (k:=.i64) hi;have hwr:=bt hi (show ls.length≤aZ by simp only [aZ];omega);have d0:decide ((i:Int)<(ls.length:Int))=true:=amu (by omega);have hlen0:H0.length≤G.length:=by omega
  have hbad:∀ G',LoX N r G G'→iZ bM .deep H0 (G'.set p (.cells fH ab)) (tO ((i+1:Nat):Int) 4)=some (tO ((i+1:Nat):Int) 4,H0)∧G'[p]?=some (.cells fH ab)∧(G'.set p (.cells fH ab))[p]?=some (.cells fH ab):=fun G' hG'=>by
   have h1:G'[p]?=some (.cells fH ab):=by rw [hG'.2 p hp hpr];exact hgp
   refine ⟨zl (by rw [aoY];have:=hG'.1;omega) (fun j hj => ?_) _ _,h1,amy (dS h1)⟩
   by_cases hjr:j=r
   ·rw [ami (by omega)]
    subst hjr;omega
   ·rw [ami (by omega),hG'.2 j (by omega) hjr,hlow j hj]
  have hldz:bO (some 6) fH 0=some (.agg fH):=rfl;have hacz:dM (.agg fH)=some fH:=rfl;rw [hd,uW]
  by_cases hsk:CP ls[i]=true
  ·have hst:xI (d,last,Zb) ls[i]=some (d,last,Zb):=by unfold xI;rw [if_pos hsk]
   have hbn:oA (ls[i]::ls.drop (i+1)) (d,last,Zb)=oA (ls.drop (i+1)) (d,last,Zb)+1:=by rw [oA,hst]
   rw [hst,hbn];have ih:=qr0 hS hr hp hpr (tg:=tg) hls hsl hp0 hrH n (i+1) d last Zb G (by omega) hv hN hJ hI (EE hZ (by omega)) hK hgp hlow;have e9:i+(oA (ls.drop (i+1)) (d,last,Zb)+1)+1=i+1+oA (ls.drop (i+1)) (d,last,Zb)+1:=by omega
   rw [e9]
   have hsk2:ls[i]=[]∨∃ c t,ls[i]=c::t∧((c.toNat:Int) == 59)=true:=by
    cases hxe:ls[i] with
    |nil=>exact .inl rfl
    |cons c t=>
     refine .inr ⟨c,t,rfl, ?_⟩;rw [FS];unfold CP at hsk;rw [hxe] at hsk;simpa using hsk
   simp only at ih ⊢;generalize lr last Zb=L at *
   cases hf:uW (ls.drop (i+1)) (d,last,Zb) with
   |some st'=>
    rw [hf] at ih;obtain ⟨G',a1,a2,a3,a4,a5⟩:=ih;refine ⟨G',a1,a2,a3,a4,fun k He => ?_⟩;have a5:=a5 k;simp only [Y6,Y8] at a5;rcases hsk2 with hxe | ⟨c,t,hxe,e2⟩
    ·have e0:(([]:Zc) == [])=true:=rfl
     rw [hxe] at hx;rw [ah M aY.eq_1];simp (config:=apy) only [Zh M,↓Zi,Nat.reduceBEq,Nat.reduceAdd,env,ae,bp,hi,d0,hx,hil,e0,a5,hwr,dh,ama]
    ·have e0:((c::t:Zc) == [])=false:=rfl
     have e1:vH (c::t:Zc)[0]?=some (.int .u8 (c.toNat:Int)):=rfl;rw [hxe] at hx;rw [ah M aY.eq_1];simp (config:=apy) only [Zh M,↓Zi,Nat.reduceBEq,Nat.reduceAdd,env,ae,bp,hi,d0,hx,hil,e0,e1,e2,a5,hwr,dh,ama]
   |none=>
    rw [hf] at ih;intro k He;have ih:=ih k;simp only [Y6,Y8] at ih;rcases hsk2 with hxe | ⟨c,t,hxe,e2⟩
    ·have e0:(([]:Zc) == [])=true:=rfl
     rw [hxe] at hx;rw [ah M aY.eq_1];simp (config:=apy) only [Zh M,↓Zi,Nat.reduceBEq,Nat.reduceAdd,env,ae,bp,hi,d0,hx,hil,e0,ih,hwr,dh,ama]
    ·have e0:((c::t:Zc) == [])=false:=rfl
     have e1:vH (c::t:Zc)[0]?=some (.int .u8 (c.toNat:Int)):=rfl;rw [hxe] at hx;rw [ah M aY.eq_1];simp (config:=apy) only [Zh M,↓Zi,Nat.reduceBEq,Nat.reduceAdd,env,ae,bp,hi,d0,hx,hil,e0,e1,e2,ih,hwr,dh,ama]
  ·have hst:xI (d,last,Zb) ls[i]=uV d last Zb ls[i]:=by unfold xI;rw [if_neg hsk]
   obtain ⟨c,t,hxe,e2⟩:∃ c t,ls[i]=c::t∧((c.toNat:Int) == 59)=false:=by
    cases hxe:ls[i] with
    |nil=>exact absurd (by rw [hxe];rfl) hsk
    |cons c t=>
     refine ⟨c,t,rfl, ?_⟩;rw [FS];unfold CP at hsk;rw [hxe] at hsk;simpa using hsk
   have hsp0:=fun H=>Pa M hS (s:=ls[i]) (by omega) H
   obtain ⟨sb1,sb2⟩:=wU 32 ls[i]
   obtain ⟨w,ws,hsp⟩:∃ w ws,gh 32 ls[i]=w::ws:=by
    cases hq:gh 32 ls[i] with
    |nil=>exact absurd hq (Ew 32 _)
    |cons w ws=>exact ⟨w,ws,rfl⟩
   have e0:((c::t:Zc) == [])=false:=rfl;have e1:vH (c::t:Zc)[0]?=some (.int .u8 (c.toNat:Int)):=rfl;have hb0:=hbad G (.refl _ _ _);have hLr:∀ L,L=lr last Zb→True:=fun _ _=>trivial
   cases hall:Dr (gh 32 ls[i]) with
   |false=>
    have hno:uV d last Zb ls[i]=none:=by
     unfold uV;rw [hsp] at hall ⊢;simp only;cases kOf w with
     |none=>rfl
     |some k=>
      simp only;unfold Dr at hall;rw [hall,if_neg (by decide)]
    have hbn:oA (ls[i]::ls.drop (i+1)) (d,last,Zb)=0:=by rw [oA,hst,hno]
    rw [hst,hno,hbn];simp only [ann];intro k He;rw [hall] at hsp0;simp only [amQ,if_false,anm] at hsp0;obtain ⟨b1,b2,b3⟩:=hb0;have hst6:=Ma hgp;generalize lr last Zb=L at *
    rw [hxe] at hx hsp0;rw [ah M aY.eq_1];simp (config:=apy) only [Zh M,↓Zi,Nat.reduceBEq,Nat.reduceAdd,env,ae,bp,Zx,AV.cell,Nat.reduceMul,Nat.reduceLeDiff,hi,d0,hx,hil,e0,e1,e2,hsp0,hgp,hst6,hacz,b1,b3,hldz,hwr,Zl,dh,ama]
   |true=>
    rw [hall,hsp] at hsp0;simp only [if_true] at hsp0;rw [hsp] at hall sb1 sb2;have hrk0:=fun H=>Ru M hS w H
    have hw0:(w::ws:List Zc)[0]?=some w:=rfl;have hwi:=oz (tg:=.any) hw0;cases hk:kOf w with
    |none=>
     have hno:uV d last Zb ls[i]=none:=by
      unfold uV;rw [hsp];simp only [hk]
     have hbn:oA (ls[i]::ls.drop (i+1)) (d,last,Zb)=0:=by rw [oA,hst,hno]
     rw [hst,hno,hbn];simp only [ann];intro k He;have er:KS w=0:=by unfold KS;rw [hk]
     rw [er] at hrk0;have f0:((0:Int) == 0)=true:=rfl;obtain ⟨b1,b2,b3⟩:=hb0;have hst6:=Ma hgp;generalize lr last Zb=L at *
     generalize (w::ws:List Zc)=W at *
     rw [hxe] at hx hsp0;rw [ah M aY.eq_1];simp (config:=apy) only [Zh M,↓Zi,Nat.reduceBEq,Nat.reduceAdd,env,ae,bp,Zx,AV.cell,Nat.reduceMul,Nat.reduceLeDiff,hi,d0,hx,hil,e0,e1,e2,hsp0,hwi,hw0,hrk0,f0,hgp,hst6,hacz,b1,b3,hldz,hwr,Zl,dh,ama]
    |some k=>
     have er:KS w=(k.Zb:Int)+1:=by unfold KS;rw [hk]
     have hwk:w=k.key:=by
      have:=aoq hk;exact eq_of_beq this
     have hso:=VC (d:=d) (last:=last) (Zb:=Zb) hsp hk hall;have hbo:=XK (k:=k) (last:=last) (Zb:=Zb) hI.2.2.2.2
     have hnx:lr w k.Zb=(k.Zb:Int)+1:=by
      unfold lr;rw [if_neg (by rw [hwk];exact TN k)]
     rw [er] at hrk0;have f0:(((k.Zb:Int)+1) == 0)=false:=amg.2 (by omega);obtain ⟨x1,hx1⟩:∃ x1,decide ((k.Zb:Int)+1<lr last Zb)=x1:=⟨_,rfl⟩
     obtain ⟨x2,hx2⟩:∃ x2,((k.Zb:Int)+1 == 1)=x2:=⟨_,rfl⟩
     obtain ⟨x3,hx3⟩:∃ x3,(lr last Zb == 0)=x3:=⟨_,rfl⟩
     unfold XJ at hbo;rw [hx1,hx2,hx3] at hbo;have rq:∀ a b:Bool,req EK.bool (.bool a) (.bool b)=some (a == b):=fun _ _=>rfl
     cases hrk:EC k last Zb with
     |false=>
      rw [hrk] at hso hbo;have hno:uV d last Zb ls[i]=none:=by rw [hso];rfl
      have hbn:oA (ls[i]::ls.drop (i+1)) (d,last,Zb)=0:=by rw [oA,hst,hno]
      rw [hst,hno,hbn];simp only [ann];intro kk He;obtain ⟨b1,b2,b3⟩:=hb0;have hst6:=Ma hgp;generalize (k.Zb:Int)+1=R at *
      generalize lr last Zb=L at *
      generalize (w::ws:List Zc)=W at *
      rw [hxe] at hx hsp0;cases x1 with
      |true=>
       rw [ah M aY.eq_1];simp (config:=apy) only [Zh M,↓Zi,Nat.reduceBEq,Nat.reduceAdd,env,ae,bp,Zx,AV.cell,Nat.reduceMul,Nat.reduceLeDiff,hi,d0,hx,hil,e0,e1,e2,hsp0,hwi,hw0,hrk0,f0,hx1,hgp,hst6,hacz,b1,b3,hldz,hwr,Zl,dh,ama]
      |false=>
       have g1:(true == false)=false:=rfl;have g2:(false == true)=false:=rfl
       cases x2<;>cases x3<;>first
        |(exfalso;revert hbo;decide)
        |rw [ah M aY.eq_1]
         simp (config:=apy) only [Zh M,↓Zi,Nat.reduceBEq,Nat.reduceAdd,env,ae,bp,Zx,AV.cell,Nat.reduceMul,Nat.reduceLeDiff,hi,d0,hx,hil,e0,e1,e2,hsp0,hwi,hw0,hrk0,f0,hx1,hx2,hx3,rq,g1,g2,hgp,hst6,hacz,b1,b3,hldz,hwr,Zl,dh,ama]
     |true=>
      rw [hrk] at hso hbo;rw [if_pos rfl] at hso;have hx1f:x1=false:=by cases x1<;>simp_all
      subst hx1f;have hx23:x2=x3:=by cases x2<;>cases x3<;>simp_all
      subst hx23;have hlr:=Rw (w:=w) (ws:=ws) hI hJ hrk;have hrl:=Rx M hS hN hv (NT hZ) (show i≤1000000 by omega) hwk (ws:=ws) (by omega) (fun x hx=>by have:=sb2 x hx;omega);rw [hlr] at hrl;have g3:(x2 == x2)=true:=amV _;have g4:(!true)=false:=rfl;have g5:(!false)=true:=rfl;rw [hst,hso];cases hq:(if JT k last Zb ws=true then qS k d last ws else none) with
      |none=>
       rw [hq] at hrl;have hbn:oA (ls[i]::ls.drop (i+1)) (d,last,Zb)=0:=by rw [oA,hst,hso,hq];rfl
       rw [hbn];simp only [aon,ann] at hrl ⊢;intro kk He;obtain ⟨G1,r1,l1⟩:=hrl;obtain ⟨b1,b2,b3⟩:=hbad G1 l1;have hst6:=Ma b2;generalize (k.Zb:Int)+1=R at *
       generalize lr last Zb=L at *
       generalize (w::ws:List Zc)=W at *
       rw [hxe] at hx hsp0;rw [ah M aY.eq_1];simp (config:=apy) only [Zh M,↓Zi,Nat.reduceBEq,Nat.reduceAdd,env,ae,bp,Zx,AV.cell,Nat.reduceMul,Nat.reduceLeDiff,hi,d0,hx,hil,e0,e1,e2,hsp0,hwi,hw0,hrk0,f0,hx1,hx2,hx3,rq,g3,g4,g5,r1,b2,hst6,hacz,b1,b3,hldz,hwr,Zl,dh,ama]
      |some d1=>
       rw [hq] at hrl;simp only [amO] at hrl ⊢;obtain ⟨G1,r1,v1,l1⟩:=hrl
       have hrd:qS k d last ws=some d1:=by
        revert hq;split
        ·exact id
        ·intro h;cases h
       obtain ⟨z1,k1,j1⟩:=L9 hrd hJ hZ hK (by simp at sb1;show ws.length≤100000;omega) (fun w hw=>by have:=sb2 w (.tail _ hw);show w.length≤100000;omega);have hbn:oA (ls[i]::ls.drop (i+1)) (d,last,Zb)=oA (ls.drop (i+1)) (d1,w,k.Zb)+1:=by rw [oA,hst,hso,hq];rfl
       rw [hbn];have ih:=qr0 hS hr hp hpr (tg:=tg) hls hsl hp0 hrH n (i+1) d1 w k.Zb G1 (by omega) v1 (ams hN l1.1) (by rw [hwk];exact j1) (by rw [hwk];exact T6 hI hrk hrd) z1 k1 (by rw [l1.2 p hp hpr];exact hgp) (fun j hj=>by rw [l1.2 j (by omega) (by omega)];exact hlow j hj);have e9:i+(oA (ls.drop (i+1)) (d1,w,k.Zb)+1)+1=i+1+oA (ls.drop (i+1)) (d1,w,k.Zb)+1:=by omega
       rw [e9];rw [hnx] at ih;generalize (k.Zb:Int)+1=R at *
       generalize lr last Zb=L at *
       cases hf:uW (ls.drop (i+1)) (d1,w,k.Zb) with
       |some st'=>
        rw [hf] at ih;obtain ⟨G',a1,a2,a3,a4,a5⟩:=ih;refine ⟨G',a1,l1.trans a2,a3,a4,fun kk He => ?_⟩;have a5:=a5 kk;simp only [Y6,Y8] at a5;generalize (w::ws:List Zc)=W at *
        rw [hxe] at hx hsp0;rw [ah M aY.eq_1];simp (config:=apy) only [Zh M,↓Zi,Nat.reduceBEq,Nat.reduceAdd,env,ae,bp,Zx,AV.cell,Nat.reduceMul,Nat.reduceLeDiff,hi,d0,hx,hil,e0,e1,e2,hsp0,hwi,hw0,hrk0,f0,hx1,hx2,hx3,rq,g3,g4,g5,r1,a5,hwr,Zl,dh,ama]
       |none=>
        rw [hf] at ih;intro kk He;have ih:=ih kk;simp only [Y6,Y8] at ih;generalize (w::ws:List Zc)=W at *
        rw [hxe] at hx hsp0;rw [ah M aY.eq_1];simp (config:=apy) only [Zh M,↓Zi,Nat.reduceBEq,Nat.reduceAdd,env,ae,bp,Zx,AV.cell,Nat.reduceMul,Nat.reduceLeDiff,hi,d0,hx,hil,e0,e1,e2,hsp0,hwi,hw0,hrk0,f0,hx1,hx2,hx3,rq,g3,g4,g5,r1,ih,hwr,Zl,dh,ama]
end
section
attribute [local congr] aF aS cC bn aG aX aL aH az aA aM aN
variable{E:br}(M:cH bM E)
def NU(s:Zc):Option StR:=uW (Jl s) (rd0,[],0)
def Cc(s:Zc):Int:=if 65536<s.length then 0 else match NU s with
 |none=>((0+oA (Jl s) (rd0,[],0)+1:Nat):Int)
 |some _=>0
def xk(s:Zc):Int:=if 65536<s.length then 3 else match NU s with
 |none=>4
 |some st=>if st.2.1=[] then 4 else iV (baR st.1)
def Ry(s:Zc):Rd:=match NU s with
 |some st=>st.1
 |none=>rd0
def zL:Lex:=⟨[],⟨.nil,[]⟩,⟨.nil,[]⟩,⟨.nil,[]⟩,⟨.nil,[]⟩,⟨.nil,[]⟩⟩
def Jo(s:Zc)(l:Lex):Prop:=PlL l∧(xk s=0→l.ba=baR (Ry s))∧(xk s≠0→l=zL)
theorem Mb:PlL zL:=⟨⟨.inr rfl,.inr rfl,.inr rfl,.inr rfl,.inr rfl⟩,by simp [zL],by simp [zL],by simp [zL],by simp [zL],by simp [zL],by simp [zL],by simp [zL],by simp [zL],by simp [zL],by simp [zL],by simp [zL]⟩
theorem Mc{H0 G:List Y4}(hl:H0.length≤G.length)(hlow:∀ i,i<H0.length→G[i]?=H0[i]?){l:Lex}(hp:PlL l)(n e:Int):iZ bM .deep H0 G (.tuple [.agg l.row,.int .i64 n,.int .u8 e])=some (.tuple [.agg l.row,.int .i64 n,.int .u8 e],H0):=by
 have h1:=wt (Hf hl hlow) (v:=.tuple [.agg l.row,.int .i64 n,.int .u8 e]) (v':=.tuple [.agg l.row,.int .i64 n,.int .u8 e]) ⟨9,D9 (aK (SH (hp.fz _ _)) (aK (BC _ _ _ _ _) (aK (BC _ _ _ _ _) (fO _))))⟩;rw [Er hl hlow] at h1;exact h1
theorem NV(s:Zc):(Jl s).length≤s.length+1∧∀ w∈Jl s,w.length≤s.length:=by
 obtain ⟨h1,h2⟩:=wU 10 s;unfold Jl;split
 ·exact ⟨by rw [List.length_dropLast];omega,fun w hw=>h2 w (List.dropLast_subset _ hw)⟩
 ·exact ⟨h1,h2⟩
theorem Pg(hN:dx E)(hR:yh E)(hS:gB E)(s:Zc)(H:List Y4):∃ l:Lex,Jo s l∧M.run eQ [.str s] H=some (.ret (.tuple [.agg l.row,.int .i64 (Cc s),.int .u8 (xk s)]),H):=by
 obtain ⟨zc,hzc⟩:∃ zc:Y4,zc = .cells fH ab:=⟨_,rfl⟩
 have hldz:bO (some 6) fH 0=some (.agg fH):=rfl;have hacz:dM (.agg fH)=some fH:=rfl;have hg1:∀ L:List Y4,(H++(Y4.cells fH ab::L))[H.length]?=some (.cells fH ab):=fun L=>by rw [cY];rfl
 by_cases h9:65536<s.length
 ·have d1:decide ((65536:Int)<((s.length:Nat):Int))=true:=amu (by omega)
  have d1n:decide (65536<s.length)=true:=amu h9;have eN:Cc s=0:=by unfold Cc;rw [if_pos h9]
  have eE:xk s=3:=by unfold xk;rw [if_pos h9]
  rw [eN,eE];refine ⟨zL,⟨Mb,fun h=>by rw [eE] at h;exact absurd h (by decide),fun _=>rfl⟩, ?_⟩;have hst:=Ma (hg1 []);have hh:iZ bM .deep H ((H++[Y4.cells fH ab]).set H.length (.cells fH ab)) (.tuple [.agg zL.row,.int .i64 0,.int .u8 3])=some (.tuple [.agg zL.row,.int .i64 0,.int .u8 3],H):=Mc (by simp) (fun i hi=>by rw [ami (by omega),al7 hi]) Mb 0 3;have hg2:((H++[Y4.cells fH ab]).set H.length (.cells fH ab))[H.length]?=some (.cells fH ab):=amy (by simp)
  have hh:iZ bM .deep H ((H++[Y4.cells fH ab]).set H.length (.cells fH ab)) (tO 0 3)=some (tO 0 3,H):=hh;have hg0:=hg1 [];have hh0:iZ bM .deep H (H++[Y4.cells fH ab]) (tO 0 3)=some (tO 0 3,H):=zl (by simp) (fun i hi=>al7 hi) 0 3;show M.run eQ [.str s] H=some (.ret (tO 0 3),H);rw [au M hS.ZT rfl (c:=cD) rfl,cD];simp (config:=apy) only [Zh M,↓Zi,Nat.reduceBEq,Nat.reduceAdd,env,ae,bp,Zx,AV.cell,Nat.reduceMul,Nat.reduceLeDiff,d1,d1n,h9,hg0,hst,hacz,hg2,hldz,hh,hh0,Zl]
 ·have hs:s.length≤65536:=by omega
  have d1:decide ((65536:Int)<((s.length:Nat):Int))=false:=amq (by omega);have d1n:decide (65536<s.length)=false:=amq h9;have hlin:=fun H=>O9 M hS (s:=s) (by omega) H
  obtain ⟨sb1,sb2⟩:=NV s;obtain ⟨ls,hls⟩:∃ ls,ls=Jl s:=⟨_,rfl⟩
  rw [← hls] at hlin sb1 sb2;have hsl:∀ x∈ls,x.length≤99999:=fun x hx=>by have:=sb2 x hx;omega
  obtain ⟨G0,hG0⟩:∃ G0,G0=H++[Y4.cells fH ab,Y4.cells fH ab]:=⟨_,rfl⟩
  have hlG:G0.length=H.length+2:=by rw [hG0];simp
  have hgp0:G0[H.length]?=some (.cells fH ab):=by rw [hG0];exact hg1 _
  have hlow0:∀ i,i<H.length→G0[i]?=H[i]? := fun i hi=>by rw [hG0];exact al7 hi
  have hv0:LxV (H.length+2) (H.length+1) G0 (Dv rd0):=⟨.slice .nil 2 [],.slice .nil 2 [],.slice .nil 4 [],.slice .nil 4 [],.slice .nil 3 [],by rw [hG0,ZV];rfl,.inl ⟨rfl,rfl⟩,.inl ⟨rfl,rfl⟩,.inl ⟨rfl,rfl⟩,.inl ⟨rfl,rfl⟩,.inl ⟨rfl,rfl⟩⟩
  have lp:=qr0 M hS (N:=H.length+2) (r:=H.length+1) (p:=H.length) (by omega) (by omega) (by omega) (tg:=.any) (ls:=ls) (by omega) hsl (H0:=H) rfl (by omega) ls.length 0 rd0 [] 0 G0 (by omega) hv0 (by omega)
   ⟨fun h=>by rcases h with h | h<;>exact absurd h (by decide),fun h=>by rcases h with h | h<;>exact absurd h (by decide)⟩ ⟨fun h=>absurd rfl h,fun h=>(by cases h),fun h=>absurd rfl h,fun h=>(by cases h),fun _=>rfl⟩ ⟨by simp [rd0],by simp [rd0],by simp [rd0],by simp [rd0],by simp [rd0],by simp [rd0],by simp [rd0]⟩
   ⟨by simp [rd0],by simp [rd0],by simp [rd0],by simp [rd0],by simp [rd0],by simp [rd0]⟩ hgp0 hlow0
  rw [amf] at lp;simp only [Y6,Y8,amj] at lp;have hl00:lr [] 0=0:=rfl;rw [hl00] at lp;have eR:NU s=uW ls (rd0,[],0):=by unfold NU;rw [hls]
  have hGe:H++[Y4.cells fH ab,Y4.cells fH ab]=G0:=hG0.symm;cases hf:uW ls (rd0,[],0) with
  |none=>
   rw [hf] at lp eR;simp only at lp;have eN:Cc s=((0+oA ls (rd0,[],0)+1:Nat):Int):=by unfold Cc;rw [if_neg h9,eR,hls]
   have eE:xk s=4:=by unfold xk;rw [if_neg h9,eR]
   rw [eN,eE];refine ⟨zL,⟨Mb,fun h=>by rw [eE] at h;exact absurd h (by decide),fun _=>rfl⟩, ?_⟩;generalize ((0+oA ls (rd0,[],0)+1:Nat):Int)=nn at *
   show M.run eQ [.str s] H=some (.ret (tO nn 4),H);clear hG0;rw [au M hS.ZT rfl (c:=cD) rfl,cD];simp (config:=apy) only [Zh M,↓Zi,Nat.reduceBEq,Nat.reduceAdd,env,ae,bp,Zx,AV.cell,Nat.reduceMul,Nat.reduceLeDiff,d1,d1n,h9,hlin,hGe,lp]
  |some st=>
   rw [hf] at lp eR;obtain ⟨d,last,Zb⟩:=st;simp only at lp;obtain ⟨G1,v1,l1,z1,k1,r1⟩:=lp;have hG1l:H.length+2≤G1.length:=by have:=l1.1;omega
   obtain ⟨l,hpl,hba,hfz⟩:=YI v1 (by omega) (NT z1) (by omega) (VB k1);rw [Vz] at hba;have eN:Cc s=0:=by unfold Cc;rw [if_neg h9,eR]
   have eD:Ry s=d:=by unfold Ry;rw [eR]
   have eE:xk s=if last=[] then 4 else iV l:=by
    unfold xk;rw [if_neg h9,eR];simp only;rw [← hba,Jj]
   obtain ⟨D1,D2⟩:=NQ (n:=H.length+1) (G:=G1) (by omega)
   have hgp:(qO (H.length+1) G1)[H.length]?=some (.cells fH ab):=by
    rw [D2 _ (by omega),l1.2 _ (by omega) (by omega)];exact hgp0
   have hlowD:∀ i,i<H.length→(qO (H.length+1) G1)[i]?=H[i]? := fun i hi=>by
    rw [D2 _ (by omega),l1.2 _ (by omega) (by omega)];exact hlow0 i hi
   obtain ⟨L,hL⟩:∃ L,lr last Zb=L:=⟨_,rfl⟩
   rw [hL] at r1
   have hfr:∀ a:Env,fh a 5 = .ptr (H.length+1) 0→fh a 2 = .ptr H.length 0→fh a 6 = .int .i64 L→fzR bM 5 [2,5,6] a G1=some (wm .leaf [2,5,6] [.ptr H.length 0,.Zu 6 [l.row] 0 0,.int .i64 L],qO (H.length+1) G1):=fun a h5 h2 h6=>by
    refine SG h5 rfl ⟨9, ?_⟩;simp only [amN,anm,h5,h2,h6];exact D9 (aK (PK (by omega)) (aK hfz (aK (BC _ _ _ _ _) (fO _))))
   generalize qO (H.length+1) G1=GD at *
   have hck:=fun (G:List Y4)=>I7 M hN hR hpl.ok (H:=G) (anC _)
   have hck:=hck GD;have hldL:bO (some 6) l.row 0=some (.agg l.row):=rfl;have hacL:dM (.agg l.row)=some l.row:=rfl;have htl:rp 6 l.row=some l.row:=rfl;have hstz:=Ma hgp;have hgz:(GD.set H.length (.cells fH ab))[H.length]?=some (.cells fH ab):=amy (by omega);have hhz:∀ e:Int,iZ bM .deep H (GD.set H.length (.cells fH ab)) (tO 0 e)=some (tO 0 e,H):=fun e=>zl (by simp;omega) (fun i hi=>by rw [ami (by omega)];exact hlowD i hi) 0 e
   rw [eN]
   by_cases hla:last=[]
   ·have hL0:(L == 0)=true:=by rw [← hL];unfold lr;rw [if_pos hla];rfl
    rw [if_pos hla] at eE;rw [eE];refine ⟨zL,⟨Mb,fun h=>by rw [eE] at h;exact absurd h (by decide),fun _=>rfl⟩, ?_⟩;have hhz:=hhz 4;show M.run eQ [.str s] H=some (.ret (tO 0 4),H);clear hG0 hL;rw [au M hS.ZT rfl (c:=cD) rfl,cD];simp (config:=apy) only [Zh M,↓Zi,Nat.reduceBEq,Nat.reduceAdd,env,ae,bp,Zx,AV.cell,Nat.reduceMul,Nat.reduceLeDiff,d1,d1n,h9,hlin,hGe,r1,hfr,wm,hL0,hgp,hstz,hacz,hgz,hldz,hhz,Zl]
   ·have hL0:(L == 0)=false:=by rw [← hL];unfold lr;rw [if_neg hla];exact amg.2 (by omega)
    rw [if_neg hla] at eE;cases hc0:(iV l == 0) with
    |false=>
     rw [eE];refine ⟨zL,⟨Mb,fun h=>by rw [eE] at h;rw [h] at hc0;exact absurd hc0 (by decide),fun _=>rfl⟩, ?_⟩;have hhz:=hhz (iV l);show M.run eQ [.str s] H=some (.ret (tO 0 (iV l)),H);generalize iV l=ce at *
     clear hG0 hL;rw [au M hS.ZT rfl (c:=cD) rfl,cD];simp (config:=apy) only [Zh M,↓Zi,Nat.reduceBEq,Nat.reduceAdd,env,ae,bp,Zx,AV.cell,Nat.reduceMul,Nat.reduceLeDiff,d1,d1n,h9,hlin,hGe,r1,hfr,wm,hL0,hldL,amx,htl,hck,hc0,hgp,hstz,hacz,hgz,hldz,hhz,Zl]
    |true=>
     have hc00:iV l=0:=eq_of_beq hc0;rw [hc00] at hck eE hc0;rw [eE];refine ⟨l,⟨hpl,fun _=>by rw [hba,eD],fun h=>absurd eE h⟩, ?_⟩
     have hstl:stO 6 GD H.length 0 l.row (some (.cells fH ab))=some (GD.set H.length (.cells l.row ab)):=by
      simp only [stO];rw [if_pos ⟨rfl,by decide,rfl⟩];rfl
     have hgl:(GD.set H.length (.cells l.row ab))[H.length]?=some (.cells l.row ab):=amy (by omega);have hhl:iZ bM .deep H (GD.set H.length (.cells l.row ab)) (.tuple [.agg l.row,.int .i64 0,.int .u8 0])=some (.tuple [.agg l.row,.int .i64 0,.int .u8 0],H):=Mc (by simp;omega) (fun i hi=>by rw [ami (by omega)];exact hlowD i hi) hpl 0 0;clear hG0 hL;rw [au M hS.ZT rfl (c:=cD) rfl,cD]
     simp (config:=apy) only [Zh M,↓Zi,Nat.reduceBEq,Nat.reduceAdd,env,ae,bp,Zx,AV.cell,Nat.reduceMul,Nat.reduceLeDiff,d1,d1n,h9,hlin,hGe,r1,hfr,wm,hL0,hldL,amx,hck,hc0,hgp,hstl,hacL,hgl,htl,hhl,Zl]
end
section
attribute [local congr] aF aS cC bn aG aX aL aH az aA aM aN
variable{E:br}(M:cH bM E)
theorem VD{ls:List Zc}{z:Zc}{t:Tag}(ht:t≠.nil):AN 1 (.slice t 1 ((ls++[z]).map ak)) none (some (.int .i64 (ls.length:Int))) none=some (.slice .any 1 (ls.map ak)):=Vy ht
theorem pe0(hS:gB E)(hX:nk M)(hP:qN E)(hD:FN E)(hW:WdE M){N r p:Nat}(hr:r<N)(hp:p<N)(hpr:p≠r){tg:Tag}{ls:List Zc}(hls:ls.length≤99999)(hsl:∀ x∈ls,x.length≤99999){H0:List Y4}(hp0:p=H0.length)(hrH:H0.length≤r):∀ (n i:Nat) (d:Rd) (last:Zc) (Zb:Nat) (G:List Y4),i+n=ls.length→RdV N r G d last Zb→N≤G.length→CO d last→Cb i d→DOk d →
  G[p]?=some (.cells fH ab)→(∀ i,i<H0.length→G[i]?=H0[i]?)→uW (ls.drop i) (d,last,Zb)=none →
  ∀ (k:List ZA) (He:List Y4),M.go oF H0 (.c dH :: .lp ⟨(some [2,6,28,29,30]),[],false⟩ dH He :: .ZU 0 :: .c (.lv [2,6])::k) (kv [(2,.ptr p 0),(6,.ptr r 0),(28,.slice tg 1 (ls.map ak)),(29,.int .i64 ls.length),(30,.int .i64 i)]) G=some (.ret (tO ((i+oA (ls.drop i) (d,last,Zb)+1:Nat):Int) 4),H0)
 |0,i,d,last,Zb,G,h,hv,hN,hJ,hZ,hK,hgp,hlow,hf=>by
  have e:i=ls.length:=by omega
  subst e;rw [al9,uW] at hf;cases hf
 |n+1,i,d,last,Zb,G,h,hv,hN,hJ,hZ,hK,hgp,hlow,hf=>by
  have hi:i<ls.length:=by omega
  have hx:=al4 hi;have hd:=al6 hi;have hxl:=hsl _ (amc hi);have hil:=aE (row:=ak) (tag:=tg) (sz:=1) (k:=.i64) hi;have hwr:=bt hi (show ls.length≤aZ by simp only [aZ];omega);have hldz:bO (some 6) fH 0=some (.agg fH):=rfl;have hacz:dM (.agg fH)=some fH:=rfl;rw [hd,uW] at hf;rw [hd];intro kk He
  by_cases hsk:CP ls[i]=true
  ·have hst:xI (d,last,Zb) ls[i]=some (d,last,Zb):=by unfold xI;rw [if_pos hsk]
   rw [hst] at hf;have hbn:oA (ls[i]::ls.drop (i+1)) (d,last,Zb)=oA (ls.drop (i+1)) (d,last,Zb)+1:=by rw [oA,hst]
   rw [hbn];have ih:=pe0 hS hX hP hD hW hr hp hpr (tg:=tg) hls hsl hp0 hrH n (i+1) d last Zb G (by omega) hv hN hJ (EE hZ (by omega)) hK hgp hlow hf kk;have e9:i+(oA (ls.drop (i+1)) (d,last,Zb)+1)+1=i+1+oA (ls.drop (i+1)) (d,last,Zb)+1:=by omega
   rw [e9];simp only [Y6,Y8] at ih;cases hxe:ls[i] with
   |nil=>
    have e0:(([]:Zc) == [])=true:=rfl;rw [hxe] at hx;rw [ah M dH.eq_1];simp (config:=apy) only [Zh M,↓Zi,Nat.reduceBEq,Nat.reduceAdd,env,ae,dj,hi,hx,hil,e0,ih,hwr,dh]
   |cons c t=>
    have e0:((c::t:Zc) == [])=false:=rfl;have e1:vH (c::t:Zc)[0]?=some (.int .u8 (c.toNat:Int)):=rfl
    have e2:((c.toNat:Int) == 59)=true:=by
     rw [FS];unfold CP at hsk;rw [hxe] at hsk;simpa using hsk
    rw [hxe] at hx;rw [ah M dH.eq_1];simp (config:=apy) only [Zh M,↓Zi,Nat.reduceBEq,Nat.reduceAdd,env,ae,dj,hi,hx,hil,e0,e1,e2,ih,hwr,dh]
  ·have hst:xI (d,last,Zb) ls[i]=uV d last Zb ls[i]:=by unfold xI;rw [if_neg hsk]
   rw [hst] at hf;have hne:ls[i]≠[]:=fun e=>hsk (by rw [e];rfl)
   have hrr:=NK M hS hX hP hD hW hN hr hv hJ hZ (by omega) (s:=ls[i]) (by omega) hne
   obtain ⟨c,t,hxe,e2⟩:∃ c t,ls[i]=c::t∧((c.toNat:Int) == 59)=false:=by
    cases hxe:ls[i] with
    |nil=>exact absurd hxe hne
    |cons c t=>
     refine ⟨c,t,rfl, ?_⟩;rw [FS];unfold CP at hsk;rw [hxe] at hsk;simpa using hsk
   have e0:((c::t:Zc) == [])=false:=rfl;have e1:vH (c::t:Zc)[0]?=some (.int .u8 (c.toNat:Int)):=rfl;cases hq:uV d last Zb ls[i] with
   |none=>
    rw [hq] at hrr;have hbn:oA (ls[i]::ls.drop (i+1)) (d,last,Zb)=0:=by rw [oA,hst,hq]
    rw [hbn];simp only [ann];obtain ⟨G1,r1,l1⟩:=hrr;have b2:G1[p]?=some (.cells fH ab):=by rw [l1.2.1 p hp hpr];exact hgp
    have b1:iZ bM .deep H0 (G1.set p (.cells fH ab)) (tO ((i+1:Nat):Int) 4)=some (tO ((i+1:Nat):Int) 4,H0):=zl (by rw [aoY];have:=l1.1;omega) (fun j hj=>by rw [ami (by omega),l1.2.1 j (by omega) (by omega)];exact hlow j hj) _ _;have b3:(G1.set p (.cells fH ab))[p]?=some (.cells fH ab):=amy (dS b2);have hst6:=Ma b2;rw [hxe] at hx r1;rw [ah M dH.eq_1];simp (config:=apy) only [Zh M,↓Zi,Nat.reduceBEq,Nat.reduceAdd,env,ae,dj,Zx,AV.cell,Nat.reduceMul,Nat.reduceLeDiff,hi,hx,hil,e0,e1,e2,r1,b2,hst6,hacz,b1,b3,hldz,hwr,Zl,dh]
   |some x=>
    rw [hq] at hf hrr;obtain ⟨hrk,kk2,ws,hsp,hrd,hl1,hl2⟩:=NP hq;obtain ⟨G1,r1,v1,l1⟩:=hrr;obtain ⟨sb1,sb2⟩:=wU 32 ls[i];rw [hsp] at sb1 sb2;obtain ⟨z1,k1,j1⟩:=L9 hrd hJ hZ hK (by simp at sb1;show ws.length≤100000;omega) (fun w hw=>by have:=sb2 w (.tail _ hw);show w.length≤100000;omega);obtain ⟨d1,last1,rank1⟩:=x;simp only at r1 v1 l1 z1 k1 hl1 hl2 hf;have hbn:oA (ls[i]::ls.drop (i+1)) (d,last,Zb)=oA (ls.drop (i+1)) (d1,last1,rank1)+1:=by rw [oA,hst,hq]
    rw [hbn];have e9:i+(oA (ls.drop (i+1)) (d1,last1,rank1)+1)+1=i+1+oA (ls.drop (i+1)) (d1,last1,rank1)+1:=by omega
    rw [e9];have ih:=pe0 hS hX hP hD hW hr hp hpr (tg:=tg) hls hsl hp0 hrH n (i+1) d1 last1 rank1 G1 (by omega) v1 (ams hN l1.1) (by rw [hl1];exact j1) z1 k1 (by rw [l1.2.1 p hp hpr];exact hgp) (fun j hj=>by rw [l1.2.1 j (by omega) (by omega)];exact hlow j hj) hf kk;simp only [Y6,Y8] at ih;rw [hxe] at hx r1;rw [ah M dH.eq_1];simp (config:=apy) only [Zh M,↓Zi,Nat.reduceBEq,Nat.reduceAdd,env,ae,dj,hi,hx,hil,e0,e1,e2,r1,ih,hwr,dh]
theorem Ph(hN:dx E)(hE:ov E)(hS:gB E)(hX:nk M)(hP:qN E)(hD:FN E)(hW:WdE M)(s:Zc)(H:List Y4):∃ l:Lex,Jo s l∧M.run js [.str s] H=some (.ret (.tuple [.agg l.row,.int .i64 (Cc s),.int .u8 (xk s)]),H):=by
 have hldz:bO (some 6) fH 0=some (.agg fH):=rfl;have hacz:dM (.agg fH)=some fH:=rfl;have hg1:∀ L:List Y4,(H++(Y4.cells fH ab::L))[H.length]?=some (.cells fH ab):=fun L=>by rw [cY];rfl
 by_cases h9:65536<s.length
 ·have d1:decide ((65536:Int)<((s.length:Nat):Int))=true:=amu (by omega)
  have d1n:decide (65536<s.length)=true:=amu h9;have eN:Cc s=0:=by unfold Cc;rw [if_pos h9]
  have eE:xk s=3:=by unfold xk;rw [if_pos h9]
  rw [eN,eE];refine ⟨zL,⟨Mb,fun h=>by rw [eE] at h;exact absurd h (by decide),fun _=>rfl⟩, ?_⟩;have hst:=Ma (hg1 []);have hg2:((H++[Y4.cells fH ab]).set H.length (.cells fH ab))[H.length]?=some (.cells fH ab):=amy (by simp);have hg0:=hg1 [];have hh0:iZ bM .deep H (H++[Y4.cells fH ab]) (tO 0 3)=some (tO 0 3,H):=zl (by simp) (fun i hi=>al7 hi) 0 3;show M.run js [.str s] H=some (.ret (tO 0 3),H)
  rw [au M hS.Z4 rfl (c:=cM) rfl,cM];simp (config:=apy) only [Zh M,↓Zi,Nat.reduceBEq,Nat.reduceAdd,env,ae,dj,Zx,AV.cell,Nat.reduceMul,Nat.reduceLeDiff,d1,d1n,h9,hg0,hst,hacz,hg2,hldz,hh0,Zl]
 ·have hs:s.length≤65536:=by omega
  have d1:decide ((65536:Int)<((s.length:Nat):Int))=false:=amq (by omega);have d1n:decide (65536<s.length)=false:=amq h9;have hspl:=fun H=>KO M hS hX (c:=10) (s:=s) (by omega) H
  obtain ⟨o,z,hoz⟩:∃ o z,gh 10 s=o++[z]:=Ax (Ew 10 s);rw [hoz] at hspl;obtain ⟨sb1,sb2⟩:=NV s
  have hlo:o.length≤65536:=by
   obtain ⟨q1,_⟩:=wU 10 s;rw [hoz,al8,amP] at q1;omega
  have cut:∃ zb,(z == ([]:Zc))=zb∧Jl s=(if zb=true then o else o++[z]):=by
   refine ⟨_,rfl, ?_⟩;rw [Qd hoz]
   by_cases hz:z=[]
   ·rw [if_pos hz,if_pos (by rw [hz];rfl)]
   ·rw [if_neg hz,if_neg (by simpa using hz)]
  obtain ⟨zb,hzb,hlz⟩:=cut;obtain ⟨ls,hls⟩:∃ ls,ls=Jl s:=⟨_,rfl⟩
  rw [← hls] at sb1 sb2 hlz;have hsl:∀ x∈ls,x.length≤99999:=fun x hx=>by have:=sb2 x hx;omega
  have hsl2:=VD (ls:=o) (z:=z) (t:=.any) (by decide);have hln:IntKind.i64.wrap ((((o++[z]).length:Nat):Int)-1)=(o.length:Int):=by rw [al8,amP];exact yx (by omega)
  have hwi:qV 1 (.slice .any 1 ((o++[z]).map ak)) (.int .i64 (o.length:Int))=some (.Zu 1 ((o++[z]).map ak) o.length 0):=Jh (w:=z) (by simp);have hxi:(o++[z])[o.length]?=some z:=by simp
  obtain ⟨G0,hG0⟩:∃ G0,G0=H++[Y4.cells fH ab,rdC [] (.slice .nil 2 []) (.slice .nil 2 []) (.slice .nil 4 []) (.slice .nil 4 []) (.slice .nil 3 []) [] 0]:=⟨_,rfl⟩
  have hlG:G0.length=H.length+2:=by rw [hG0];simp
  have hgp0:G0[H.length]?=some (.cells fH ab):=by rw [hG0];exact hg1 _
  have hlow0:∀ i,i<H.length→G0[i]?=H[i]? := fun i hi=>by rw [hG0];exact al7 hi
  have hv0:RdV (H.length+2) (H.length+1) G0 rd0 [] ((0:Nat):Int):=⟨.slice .nil 2 [],.slice .nil 2 [],.slice .nil 4 [],.slice .nil 4 [],.slice .nil 3 [],by rw [hG0,ZV];rfl,.inl ⟨rfl,rfl⟩,.inl ⟨rfl,rfl⟩,.inl ⟨rfl,rfl⟩,.inl ⟨rfl,rfl⟩,.inl ⟨rfl,rfl⟩⟩
  have hJ0:CO rd0 []:=⟨fun h=>by rcases h with h | h<;>exact absurd h (by decide),fun h=>by rcases h with h | h<;>exact absurd h (by decide)⟩
  have hZ0:Cb 0 rd0:=⟨by simp [rd0],by simp [rd0],by simp [rd0],by simp [rd0],by simp [rd0],by simp [rd0],by simp [rd0]⟩
  have hK0:DOk rd0:=⟨by simp [rd0],by simp [rd0],by simp [rd0],by simp [rd0],by simp [rd0],by simp [rd0]⟩
  have eR:NU s=uW ls (rd0,[],0):=by unfold NU;rw [hls]
  have hGe:H++[Y4.cells fH ab,.cells [.str [],.slice .nil 2 [],.slice .nil 2 [],.slice .nil 4 [],.slice .nil 4 [],.slice .nil 3 [],.str [],.int .i64 0] da]=G0:=hG0.symm;cases hf:uW ls (rd0,[],0) with
  |none=>
   have lp:=fun k He=>pe0 M hS hX hP hD hW (N:=H.length+2) (r:=H.length+1) (p:=H.length) (by omega) (by omega) (by omega) (tg:=.any) (ls:=ls) (by omega) hsl (H0:=H) rfl (by omega) ls.length 0 rd0 [] 0 G0 (by omega) hv0 (by omega) hJ0 hZ0 hK0 hgp0 hlow0 (by rw [amf];exact hf) k He
   simp only [Y6,Y8,amj,amf] at lp;rw [hf] at eR;have eN:Cc s=((0+oA ls (rd0,[],0)+1:Nat):Int):=by unfold Cc;rw [if_neg h9,eR,hls]
   have eE:xk s=4:=by unfold xk;rw [if_neg h9,eR]
   rw [eN,eE];refine ⟨zL,⟨Mb,fun h=>by rw [eE] at h;exact absurd h (by decide),fun _=>rfl⟩, ?_⟩;generalize ((0+oA ls (rd0,[],0)+1:Nat):Int)=nn at *
   show M.run js [.str s] H=some (.ret (tO nn 4),H);clear hG0 hls;cases zb with
   |true=>
    rw [if_pos rfl] at hlz;subst hlz;generalize ls++[z]=W at *
    rw [au M hS.Z4 rfl (c:=cM) rfl,cM];simp (config:=apy) only [Zh M,↓Zi,Nat.reduceBEq,Nat.reduceAdd,env,ae,dj,Zx,AV.cell,Nat.reduceMul,Nat.reduceLeDiff,d1,d1n,h9,hspl,hln,hwi,hxi,hzb,hsl2,hGe,lp,dh,ama,amx]
   |false=>
    rw [if_neg (by decide)] at hlz;rw [← hlz] at hspl hln hwi hxi hsl2;rw [au M hS.Z4 rfl (c:=cM) rfl,cM];simp (config:=apy) only [Zh M,↓Zi,Nat.reduceBEq,Nat.reduceAdd,env,ae,dj,Zx,AV.cell,Nat.reduceMul,Nat.reduceLeDiff,d1,d1n,h9,hspl,hln,hwi,hxi,hzb,hGe,lp,dh,ama,amx]
  |some st=>
   rw [hf] at eR;obtain ⟨d,last,Zb⟩:=st;obtain ⟨G1,v1,l1,z1,k1,r1⟩:=pl0 M hS hX hP hD hW (N:=H.length+2) (r:=H.length+1) (p:=H.length) (by omega) (tg:=.any) (ls:=ls) (by omega) hsl H ls.length 0 rd0 [] 0 G0 (d,last,Zb) (by omega) hv0 (by omega) hJ0 hZ0 hK0 (by rw [amf];exact hf);simp only [Y6,Y8,amj] at r1;simp only at v1 z1 k1;obtain ⟨l,hpl,hba,hfz⟩:=YH v1 (by omega) z1 (by omega) k1
   have hG1l:H.length+2≤G1.length:=by have:=l1.1;omega
   have eN:Cc s=0:=by unfold Cc;rw [if_neg h9,eR]
   have eD:Ry s=d:=by unfold Ry;rw [eR]
   have eE:xk s=if last=[] then 4 else iV l:=by
    unfold xk;rw [if_neg h9,eR];simp only;rw [← hba,Jj]
   obtain ⟨D1,D2⟩:=NQ (n:=H.length+1) (G:=G1) (by omega)
   have hgp:(qO (H.length+1) G1)[H.length]?=some (.cells fH ab):=by
    rw [D2 _ (by omega),l1.2.1 _ (by omega) (by omega)];exact hgp0
   have hlowD:∀ i,i<H.length→(qO (H.length+1) G1)[i]?=H[i]? := fun i hi=>by
    rw [D2 _ (by omega),l1.2.1 _ (by omega) (by omega)];exact hlow0 i hi
   have hfr:∀ a:Env,fh a 6 = .ptr (H.length+1) 0→fh a 2 = .ptr H.length 0→fzR bM 6 [2,6] a G1=some (wm .leaf [2,6] [.ptr H.length 0,.Zu 8 [l.row++[.str last,.int .i64 (Zb:Int)]] 0 0],qO (H.length+1) G1):=fun a h6 h2=>by
    refine SG h6 rfl ⟨9, ?_⟩;simp only [amN,anm,h6,h2];exact D9 (aK (PK (by omega)) (aK hfz (fO _)))
   generalize qO (H.length+1) G1=GD at *
   have hck:=fun (G:List Y4)=>KE M hN hE hpl.ok (H:=G) (anC _)
   have hck:=hck GD;have hld6:bO none (l.row++[.str last,.int .i64 (Zb:Int)]) 6=some (.str last):=rfl;have hldL:bO (some 6) (l.row++[.str last,.int .i64 (Zb:Int)]) 0=some (.agg l.row):=rfl;have htk:rp 6 (l.row++[.str last,.int .i64 (Zb:Int)])=some l.row:=rfl;have hldE:bO (some 6) l.row 0=some (.agg l.row):=rfl;have htl:rp 6 l.row=some l.row:=rfl;have hacL:dM (.agg l.row)=some l.row:=rfl;have hstz:=Ma hgp
   have hgz:(GD.set H.length (.cells fH ab))[H.length]?=some (.cells fH ab):=amy (by omega);have hhz:∀ e:Int,iZ bM .deep H (GD.set H.length (.cells fH ab)) (tO 0 e)=some (tO 0 e,H):=fun e=>zl (by simp;omega) (fun i hi=>by rw [ami (by omega)];exact hlowD i hi) 0 e
   rw [eN]
   by_cases hla:last=[]
   ·have hL0:(last == ([]:Zc))=true:=by rw [hla];rfl
    rw [if_pos hla] at eE;rw [eE];refine ⟨zL,⟨Mb,fun h=>by rw [eE] at h;exact absurd h (by decide),fun _=>rfl⟩, ?_⟩;have hhz:=hhz 4;show M.run js [.str s] H=some (.ret (tO 0 4),H);clear hG0 hls hla;cases zb with
    |true=>
     rw [if_pos rfl] at hlz;subst hlz;generalize ls++[z]=W at *
     rw [au M hS.Z4 rfl (c:=cM) rfl,cM];simp (config:=apy) only [Zh M,↓Zi,Nat.reduceBEq,Nat.reduceAdd,env,ae,dj,Zx,AV.cell,Nat.reduceMul,Nat.reduceLeDiff,d1,d1n,h9,hspl,hln,hwi,hxi,hzb,hsl2,hGe,r1,hfr,wm,hld6,hL0,hgp,hstz,hacz,hgz,hldz,hhz,Zl,dh,ama,amx]
    |false=>
     rw [if_neg (by decide)] at hlz;rw [← hlz] at hspl hln hwi hxi hsl2;rw [au M hS.Z4 rfl (c:=cM) rfl,cM];simp (config:=apy) only [Zh M,↓Zi,Nat.reduceBEq,Nat.reduceAdd,env,ae,dj,Zx,AV.cell,Nat.reduceMul,Nat.reduceLeDiff,d1,d1n,h9,hspl,hln,hwi,hxi,hzb,hGe,r1,hfr,wm,hld6,hL0,hgp,hstz,hacz,hgz,hldz,hhz,Zl,dh,ama,amx]
   ·have hL0:(last == ([]:Zc))=false:=amg.2 hla
    rw [if_neg hla] at eE;cases hc0:(iV l == 0) with
    |false=>
     rw [eE];refine ⟨zL,⟨Mb,fun h=>by rw [eE] at h;rw [h] at hc0;exact absurd hc0 (by decide),fun _=>rfl⟩, ?_⟩;have hhz:=hhz (iV l);show M.run js [.str s] H=some (.ret (tO 0 (iV l)),H);generalize iV l=ce at *
     clear hG0 hls hla;cases zb with
     |true=>
      rw [if_pos rfl] at hlz;subst hlz;generalize ls++[z]=W at *
      rw [au M hS.Z4 rfl (c:=cM) rfl,cM];simp (config:=apy) only [Zh M,↓Zi,Nat.reduceBEq,Nat.reduceAdd,env,ae,dj,Zx,AV.cell,Nat.reduceMul,Nat.reduceLeDiff,d1,d1n,h9,hspl,hln,hwi,hxi,hzb,hsl2,hGe,r1,hfr,wm,hld6,hL0,hldL,htk,hck,hc0,hgp,hstz,hacz,hgz,hldz,hhz,Zl,dh,ama,amx]
     |false=>
      rw [if_neg (by decide)] at hlz;rw [← hlz] at hspl hln hwi hxi hsl2;rw [au M hS.Z4 rfl (c:=cM) rfl,cM];simp (config:=apy) only [Zh M,↓Zi,Nat.reduceBEq,Nat.reduceAdd,env,ae,dj,Zx,AV.cell,Nat.reduceMul,Nat.reduceLeDiff,d1,d1n,h9,hspl,hln,hwi,hxi,hzb,hGe,r1,hfr,wm,hld6,hL0,hldL,htk,hck,hc0,hgp,hstz,hacz,hgz,hldz,hhz,Zl,dh,ama,amx]
    |true=>
     have hc00:iV l=0:=eq_of_beq hc0;rw [hc00] at hck eE hc0;rw [eE];refine ⟨l,⟨hpl,fun _=>by rw [hba,eD],fun h=>absurd eE h⟩, ?_⟩
     have hstl:stO 6 GD H.length 0 l.row (some (.cells fH ab))=some (GD.set H.length (.cells l.row ab)):=by
      simp only [stO];rw [if_pos ⟨rfl,by decide,rfl⟩];rfl
     have hgl:(GD.set H.length (.cells l.row ab))[H.length]?=some (.cells l.row ab):=amy (by omega);have hhl:iZ bM .deep H (GD.set H.length (.cells l.row ab)) (.tuple [.agg l.row,.int .i64 0,.int .u8 0])=some (.tuple [.agg l.row,.int .i64 0,.int .u8 0],H):=Mc (by simp;omega) (fun i hi=>by rw [ami (by omega)];exact hlowD i hi) hpl 0 0;clear hG0 hls hla;cases zb with
     |true=>
      rw [if_pos rfl] at hlz;subst hlz;generalize ls++[z]=W at *
      rw [au M hS.Z4 rfl (c:=cM) rfl,cM];simp (config:=apy) only [Zh M,↓Zi,Nat.reduceBEq,Nat.reduceAdd,env,ae,dj,Zx,AV.cell,Nat.reduceMul,Nat.reduceLeDiff,d1,d1n,h9,hspl,hln,hwi,hxi,hzb,hsl2,hGe,r1,hfr,wm,hld6,hL0,hldL,htk,hck,hc0,hgp,hstl,hacL,hgl,hldE,htl,hhl,Zl,dh,ama,amx]
     |false=>
      rw [if_neg (by decide)] at hlz;rw [← hlz] at hspl hln hwi hxi hsl2;rw [au M hS.Z4 rfl (c:=cM) rfl,cM];simp (config:=apy) only [Zh M,↓Zi,Nat.reduceBEq,Nat.reduceAdd,env,ae,dj,Zx,AV.cell,Nat.reduceMul,Nat.reduceLeDiff,d1,d1n,h9,hspl,hln,hwi,hxi,hzb,hGe,r1,hfr,wm,hld6,hL0,hldL,htk,hck,hc0,hgp,hstl,hacL,hgl,hldE,htl,hhl,Zl,dh,ama,amx]
end
section
attribute [local congr] aF aS cC bn aG aX aL aH az aA aM aN
variable{E:br}(M:cH bM E)
theorem Y2:TxB zL:=by
 constructor<;>simp [zL]
theorem Jo.tx{s:Zc}{l:Lex}(h:Jo s l):TxB l:=by
 by_cases h0:xk s=0
 ·have hba:=h.2.1 h0
  refine I9 ?_;rw [← Jj,hba];unfold xk at h0;unfold Ry;split at h0
  ·exact absurd h0 (by decide)
  ·cases hp:NU s with
   |none=>rw [hp] at h0;exact absurd h0 (by decide)
   |some st=>
    rw [hp] at h0;simp only at h0 ⊢;split at h0
    ·exact absurd h0 (by decide)
    ·exact h0
 ·rw [h.2.2 h0];exact Y2
theorem Jo.txt{s:Zc}{l m:Lex}(h:Jo s l)(h':Jo s m):qt l=qt m:=by
 by_cases h0:xk s=0
 ·rw [← P9 l,← P9 m,h.2.1 h0,h'.2.1 h0]
 ·rw [h.2.2 h0,h'.2.2 h0]
theorem Jp(hN:dx E)(hE:ov E)(hR:yh E)(hg:Dp E)(hC:yg E)(hS:gB E)(hX:nk M)(hP:qN E)(hD:FN E)(hW:WdE M)(h:E.fn kK=some kO)
  {s:Zc} (hs:s.length≤aZ) {l:Lex} (hl:l.ok 0) (hlv:∀ H,M.run cU [] H=some (.ret (.bool true),H)) (H:List Y4) :
  M.run kK [.str s,.agg l.row] H=some (.ret (.bool true),H):=by
 have hgr:=fun H=>Ro M hg hl H
 have hpr:=fun H=>OS M hN hE hC hX hP hl (H:=H) (anC _)
 have hrp:=fun H=>O0 M hN hR hP hl (H:=H) (anC _)
 rw [au M h rfl (c:=kN) rfl,kN];cases hgg:OZ l with
 |true=>
  rw [hgg] at hgr;simp (config:=apy) only [Zh M,↓Zi,Nat.reduceBEq,Nat.reduceAdd,env,ae,iw,Zx,AV.cell,Nat.reduceMul,Nat.reduceLeDiff,hlv,hgr,dD]
 |false=>
  rw [hgg] at hgr;obtain ⟨x1,hx1⟩:∃ x1,decide ((6000:Int)<((s.length:Nat):Int))=x1:=⟨_,rfl⟩
  obtain ⟨x2,hx2⟩:∃ x2,decide (((s.length:Nat):Int)≤65536)=x2:=⟨_,rfl⟩
  have hx1n:decide (6000<s.length)=x1:=by rw [← hx1];exact anp.2 (by omega)
  have hx2n:decide (s.length≤65536)=x2:=by rw [← hx2];exact anp.2 (by omega)
  by_cases hb:x1=true∧x2=true
  ·obtain ⟨rfl,rfl⟩:=hb
   have y1:6000<s.length:=of_decide_eq_true hx1n;have y2:s.length≤65536:=of_decide_eq_true hx2n;simp (config:=apy) only [Zh M,↓Zi,Nat.reduceBEq,Nat.reduceAdd,env,ae,iw,Zx,AV.cell,Nat.reduceMul,Nat.reduceLeDiff,hlv,hgr,hx1,hx2,hx1n,hx2n,y1,y2,dD]
  ·obtain ⟨la,pa,ra⟩:=Ph M hN hE hS hX hP hD hW s (H++[Y4.cells l.row ab])
   obtain ⟨lb,pb,rb⟩:=Pg M hN hR hS s (H++[Y4.cells l.row ab,Y4.cells la.row ab]);have ta:=fun H=>FK M hP pa.tx H
   have tb:=fun H=>FK M hP pb.tx H
   rw [pb.txt pa] at tb;have q1:(Cc s == Cc s)=true:=amV _;have q2:(xk s == xk s)=true:=amV _;have q3:(qt la == qt la)=true:=amV _;have q4:(FH l == FH l)=true:=amV _;have q5:(FI l == FI l)=true:=amV _
   have sz:∀ (L:List Y4) (m:Lex),stO 6 (L++[Y4.cells fH ab]) L.length 0 m.row (some (.cells fH ab))=some (L++[Y4.cells m.row ab]):=fun L m=>by
    simp only [stO];rw [if_pos ⟨rfl,by decide,rfl⟩,abQ];rfl
   have hac:∀ m:Lex,dM (.agg m.row)=some m.row:=fun _=>rfl
   have hldE:∀ m:Lex,bO (some 6) m.row 0=some (.agg m.row):=fun _=>rfl
   generalize Cc s=pn at *
   generalize xk s=pe at *
   rcases aol x1 with e1 | e1
   ·have e2:x2=false:=by
     cases x2 with
     |false=>rfl
     |true=>exact absurd ⟨e1,rfl⟩ hb
    subst e1 e2;have y1:6000<s.length:=of_decide_eq_true hx1n;simp (config:=apy) only [Zh M,↓Zi,Nat.reduceBEq,Nat.reduceAdd,env,ae,iw,Zx,AV.cell,Nat.reduceMul,Nat.reduceLeDiff,hlv,hgr,hx1,hx2,hx1n,hx2n,y1,ra,rb,sz,hac,hldE,hpr,hrp,ta,tb,q1,q2,q3,q4,q5,dD,Zl,amZ]
   ·subst e1
    simp (config:=apy) only [Zh M,↓Zi,Nat.reduceBEq,Nat.reduceAdd,env,ae,iw,Zx,AV.cell,Nat.reduceMul,Nat.reduceLeDiff,hlv,hgr,hx1,hx1n,ra,rb,sz,hac,hldE,hpr,hrp,ta,tb,q1,q2,q3,q4,q5,dD,Zl,amZ]
end
section
open Go.ChangeShapes Go.WideShapes
structure kz (P:Program):Prop where
 ZM:P.underlying aI=some .string
 ZP:P.cellsOf aI=1
 ajr:fieldsOf P aR=some [(0,aI),(1,aI)]
 agu:P.cellsOf aR=2
 adS:P.underlying xx=some (.slice aI)
 adT:P.cellsOf xx=1
 agP:Nat.blt 0 (P.bytesOf aI)=true
 aiA:fieldsOf P bW=some [(0,aI),(1,xx)]
 aeX:P.cellsOf bW=2
 afl:P.underlying fI=some (.slice aR)
 acC:P.cellsOf fI=1
 akb:Nat.blt 0 (P.bytesOf aR)=true
 ai2:P.underlying Kq=some (.int .i64)
 aiV:P.cellsOf Kq=1
 aj3:fieldsOf P bX=some [(0,Kq),(1,aI),(2,aI),(3,fI)]
 af7:P.cellsOf bX=4
 ae8:P.underlying uj=some (.slice bX)
 afE:P.cellsOf uj=1
 ajs:Nat.blt 0 (P.bytesOf bX)=true
 ait:fieldsOf P aJ=some [(0,aI),(1,uj)]
 aeV:P.cellsOf aJ=2
 ahr:fieldsOf P bk=some [(0,Kq),(1,aI)]
 ae3:P.cellsOf bk=2
 aeC:P.underlying nB=some (.slice bk)
 aex:P.cellsOf nB=1
 aiv:Nat.blt 0 (P.bytesOf bk)=true
 ahy:fieldsOf P aD=some [(0,aI),(1,aI),(2,fI),(3,nB)]
 aeQ:P.cellsOf aD=4
 ahg:fieldsOf P di=some [(0,aI),(1,aI),(2,aI),(3,aI)]
 aeY:P.cellsOf di=4
 ajn:fieldsOf P eo=some [(0,aI),(1,aI),(2,fI)]
 agV:P.cellsOf eo=3
 aep:P.underlying sZ=some (.slice bW)
 aek:P.cellsOf sZ=1
 aix:Nat.blt 0 (P.bytesOf bW)=true
 aed:P.underlying s3=some (.slice aJ)
 aei:P.cellsOf s3=1
 ahE:Nat.blt 0 (P.bytesOf aJ)=true
 ael:P.underlying s4=some (.slice aD)
 aeB:P.cellsOf s4=1
 ahQ:Nat.blt 0 (P.bytesOf aD)=true
 aej:P.underlying s5=some (.slice di)
 aeO:P.cellsOf s5=1
 aia:Nat.blt 0 (P.bytesOf di)=true
 afr:P.underlying ui=some (.slice eo)
 afy:P.cellsOf ui=1
 aj8:Nat.blt 0 (P.bytesOf eo)=true
 aiY:fieldsOf P ab=some [(0,aI),(1,sZ),(2,s3),(3,s4),(4,s5),(5,ui)]
 akV:P.cellsOf ab=6
section
variable{P:Program}{W:World}{G:Nat→Option (List AV)}
theorem Rz(h:kz P):lT P W G aR aw.row (aw.ok 0):=
 kd h.ajr h.agu (bS (gi h.ZM) h.ZP (bS (gi h.ZM) h.ZP (nv _))) (fun a=>⟨a.1,a.2.1⟩) (fun a=>rfl) (fun a ha=>⟨ha.1,ha.2.1⟩)
theorem Jq(h:kz P):lT P W G xx (fun s:Sl Zc=>[.slice s.tag 1 (s.l.map ak)]) (fun s=>s.ok 0 fun s=>s.length≤aZ):=
 lU h.adS h.ZP (by decide) (vN h.agP) (fun _=>rfl) (gi h.ZM)
theorem Pj(h:kz P):lT P W G bW bf.row (bf.ok 0):=
 kd h.aiA h.aeX (bS (gi h.ZM) h.ZP (bS (Jq h) h.adT (nv _))) (fun a=>⟨a.1,a.2.1⟩) (fun a=>rfl) (fun a ha=>⟨ha.1,ha.2.1⟩)
theorem AD(h:kz P):lT P W G fI (fun s:Sl aw=>[.slice s.tag 2 (s.l.map aw.row)]) (fun s=>s.ok 0 (aw.ok 0)):=
 lU h.afl h.agu (by decide) (vN h.akb) (fun _=>by simp only [pX]) (Rz h)
theorem RA(h:kz P):lT P W G bX bU.row (bU.ok 0):=
 kd h.aj3 h.af7 (bS (Ko h.ai2) h.aiV (bS (gi h.ZM) h.ZP (bS (gi h.ZM) h.ZP (bS (AD h) h.acC (nv _))))) (fun a=>⟨a.1,a.2.1,a.2.2.1,a.2.2.2.1⟩) (fun a=>rfl) (fun a ha=>⟨ha.1,ha.2.1,ha.2.2.1,ha.2.2.2.1⟩)
theorem Md(h:kz P):lT P W G uj (fun s:Sl bU=>[.slice s.tag 4 (s.l.map bU.row)]) (fun s=>s.ok 0 (bU.ok 0)):=
 lU h.ae8 h.af7 (by decide) (vN h.ajs) (fun _=>by simp only [CJ]) (RA h)
theorem Pk(h:kz P):lT P W G aJ aV.row (aV.ok 0):=
 kd h.ait h.aeV (bS (gi h.ZM) h.ZP (bS (Md h) h.afE (nv _))) (fun a=>⟨a.1,a.2.1⟩) (fun a=>rfl) (fun a ha=>⟨ha.1,ha.2.1⟩)
theorem Pn(h:kz P):lT P W G bk bE.row (bE.ok 0):=
 kd h.ahr h.ae3 (bS (Ko h.ai2) h.aiV (bS (gi h.ZM) h.ZP (nv _))) (fun a=>⟨a.1,a.2.1⟩) (fun a=>rfl) (fun a ha=>⟨ha.1,ha.2.1⟩)
theorem JU(h:kz P):lT P W G nB (fun s:Sl bE=>[.slice s.tag 2 (s.l.map bE.row)]) (fun s=>s.ok 0 (bE.ok 0)):=
 lU h.aeC h.ae3 (by decide) (vN h.aiv) (fun _=>by simp only [zF]) (Pn h)
theorem Po(h:kz P):lT P W G aD aT.row (aT.ok 0):=
 kd h.ahy h.aeQ (bS (gi h.ZM) h.ZP (bS (gi h.ZM) h.ZP (bS (AD h) h.acC (bS (JU h) h.aex (nv _))))) (fun a=>⟨a.1,a.2.1,a.2.2.1,a.2.2.2.1⟩) (fun a=>rfl) (fun a ha=>⟨ha.1,ha.2.1,ha.2.2.1,ha.2.2.2.1⟩)
theorem Pp(h:kz P):lT P W G di bL.row (bL.ok 0):=
 kd h.ahg h.aeY (bS (gi h.ZM) h.ZP (bS (gi h.ZM) h.ZP (bS (gi h.ZM) h.ZP (bS (gi h.ZM) h.ZP (nv _))))) (fun a=>⟨a.1,a.2.1,a.2.2.1,a.2.2.2.1⟩) (fun a=>rfl) (fun a ha=>⟨ha.1,ha.2.1,ha.2.2.1,ha.2.2.2.1⟩)
theorem RB(h:kz P):lT P W G eo dn.row (dn.ok 0):=
 kd h.ajn h.agV (bS (gi h.ZM) h.ZP (bS (gi h.ZM) h.ZP (bS (AD h) h.acC (nv _)))) (fun a=>⟨a.1,a.2.1,a.2.2.1⟩) (fun a=>rfl) (fun a ha=>⟨ha.1,ha.2.1,ha.2.2.1⟩)
theorem JV(h:kz P):lT P W G sZ (fun s:Sl bf=>[.slice s.tag 2 (s.l.map bf.row)]) (fun s=>s.ok 0 (bf.ok 0)):=
 lU h.aep h.aeX (by decide) (vN h.aix) (fun _=>by simp only [kI]) (Pj h)
theorem JW(h:kz P):lT P W G s3 (fun s:Sl aV=>[.slice s.tag 2 (s.l.map aV.row)]) (fun s=>s.ok 0 (aV.ok 0)):=
 lU h.aed h.aeV (by decide) (vN h.ahE) (fun _=>by simp only [jy]) (Pk h)
theorem JX(h:kz P):lT P W G s4 (fun s:Sl aT=>[.slice s.tag 4 (s.l.map aT.row)]) (fun s=>s.ok 0 (aT.ok 0)):=
 lU h.ael h.aeQ (by decide) (vN h.ahQ) (fun _=>by simp only [kJ]) (Po h)
theorem JY(h:kz P):lT P W G s5 (fun s:Sl bL=>[.slice s.tag 4 (s.l.map bL.row)]) (fun s=>s.ok 0 (bL.ok 0)):=
 lU h.aej h.aeY (by decide) (vN h.aia) (fun _=>by simp only [C4]) (Pp h)
theorem Me(h:kz P):lT P W G ui (fun s:Sl dn=>[.slice s.tag 3 (s.l.map dn.row)]) (fun s=>s.ok 0 (dn.ok 0)):=
 lU h.afr h.agV (by decide) (vN h.aj8) (fun _=>by simp only [Gi]) (RB h)
theorem T8(h:kz P):lT P W G ab Lex.row (Lex.ok 0):=
 kd h.aiY h.akV (bS (gi h.ZM) h.ZP (bS (JV h) h.aek (bS (JW h) h.aei (bS (JX h) h.aeB (bS (JY h) h.aeO (bS (Me h) h.afy (nv _))))))) (fun a=>⟨a.1,a.2.1,a.2.2.1,a.2.2.2.1,a.2.2.2.2.1,a.2.2.2.2.2.1⟩) (fun a=>rfl) (fun a ha=>⟨ha.1,ha.2.1,ha.2.2.1,ha.2.2.2.1,ha.2.2.2.2.1,ha.2.2.2.2.2.1⟩)
end
end
end Go.Am
