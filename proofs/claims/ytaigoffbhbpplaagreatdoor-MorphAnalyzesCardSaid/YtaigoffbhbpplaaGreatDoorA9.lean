import Derived.Test.YtaigoffbhbpplaaGreatDoorA8
import Derived.Shelf.SlSortCmp.WholeK
import Derived.Lib.RowBridge
import Derived.Test.YtaigoffbhbpplaaGreatDoorChecked
import Derived.Shelf.SlSortCmp.NoneTotal
import Derived.Laws.Externs
import Derived.KernelRfl
/-
  Part 9 of the tool: an abstract machine over the model, proved sound, and what it says of the functions that the law reaches. Condition: none but those that each theorem names.
-/
set_option linter.unusedVariables false
set_option linter.unusedSimpArgs false
set_option maxRecDepth 100000
set_option maxHeartbeats 4000000
namespace Go.Am
open Go.RowKit
section
attribute [local congr] aF bU be aG aS aL aH aC aD aM aN
variable{E:bz}(M:cG cB E)
structure AL (E:bz):Prop where
 slices_Clone_string_string:E.fn mj=some eU
 slices_Clone_api_Feat_api_Feat:E.fn dy=some dD
 slices_Clone_api_Irregular_api_Irregular:E.fn dQ=some bV
 slices_Clone_api_Spell_api_Spell:E.fn jt=some db
 slices_Clone_api_Trait_api_Trait:E.fn jq=some c8
 slices_Clone_api_Class_api_Class:E.fn jr=some c9
 slices_Clone_api_Entry_api_Entry:E.fn js=some da
 slices_Clone_api_Slot_api_Slot:E.fn kj=some dC
 slices_Clone_api_Link_api_Link:E.fn ki=some dB
 morph_owned:E.fn hZ=some bR
structure VE (E:bz):Prop where
 morph_New:E.fn BX=some nd
 morph_Analyzer_made:E.fn rV=some iT
 morph_Analyzer_Analyze:E.fn lw=some gd
 truchmanlaw02_SameAnalyses:E.fn fZ=some cQ
def Sl.kn{α:Type}(s:Sl α):Prop:=s.tag = .nil∧s.l=[]∨s.tag = .some
theorem lj(sz:Nat)(r:List (List AV)):req .sl (.slice .some sz r) (.slice .nil 0 [])=some false:=by cases r<;>rfl
theorem xb(sz:Nat):req .sl (.slice .nil sz []) (.slice .nil 0 [])=some true:=rfl
theorem M4(m:Bool)(H:List AObj)(e:TypeId)(sz bytes:Nat)(hb:bytes≤100000):rap false H e sz bytes false (.slice .full sz []) (.slice .some sz [])=some (.slice .full sz [],H):=by
 simp [rap,Ee,A7,pd]
theorem GR(H:List AObj)(e:TypeId)(sz bytes:Nat):rap true H e sz bytes false (.slice .full sz []) (.slice .some sz [])=some (.slice .full sz [],H):=by
 simp [rap,F0,A7,pd]
theorem GS{α:Type}{row:α→List AV}{m:List α}{tg:Tag}{sz bytes:Nat}{e:TypeId}(H:List AObj)(h0:m≠[])(hm:∀ x∈m,(row x).length=sz∧(row x).all AV.cell=true)
  (hl:m.length*bytes≤140737488355328) (hl2:m.length≤4611686018427387904) :
  rap true H e sz bytes false (.slice .full sz []) (.slice tg sz (m.map row))=some (.rslice H.length 0 m.length sz true,H++[.cells (m.map row).flatten e]):=by
 have hr:=Ke m hm
 have h1:m.map row≠[]:=by simpa using h0
 simp only [rap,F0,A7,if_true,List.length_map,List.length_nil,Nat.zero_add,true_or,or_true,hl,hl2,hr,and_true,true_and,h1,ne_eq,not_false_eq_true,List.nil_append]
def ic{α:Type}(n sz:Nat):Sl α→AV
 |⟨.nil,_⟩=>.slice .nil sz []
 |⟨_,[]⟩=>.slice .full sz []
 |⟨_,x::l⟩=>.rslice n 0 (x::l).length sz true
def CD{α:Type}(s:Sl α)(row:α→List AV)(e:TypeId):List AObj:=
 match s with
 |⟨.nil,_⟩=>[]
 |⟨_,[]⟩=>[]
 |⟨_,x::l⟩=>[.cells ((x::l).map row).flatten e]
theorem Z0(n:Nat)(x:Str):WkL n (eH x) (eH x):=⟨wk_str _ _,trivial⟩
theorem PV(hO:AL E){s:Sl Str}(hs:s.kn)(hn:s.l.length≤1000000)(H:List AObj):M.run mj [.slice s.tag 1 (s.l.map eH)] H=some (.ret (.slice .any 1 (s.l.map eH)),H):=by
 rw [aP M hO.slices_Clone_string_string rfl (c:=mC) rfl,mC]
 obtain ⟨tg,l⟩:=s
 simp only [Sl.kn] at hs hn ⊢
 rcases hs with ⟨rfl,rfl⟩ | rfl
 ·simp (maxSteps:=3000000) (maxDischargeDepth:=6) +contextual -implicitDefEqProofs only [amA M,amB,↓ab,↓aa,↓ah,↓ae,Nat.reduceBEq,Nat.reduceAdd,env,al,mD,xb,Option.map_some,dm]
 ·cases l with
  |nil=>
   have ap0:=fun H=>M4 false H bv 1 16 (by decide)
   simp (maxSteps:=3000000) (maxDischargeDepth:=6) +contextual -implicitDefEqProofs only [amA M,amB,↓ab,↓aa,↓ah,↓ae,Nat.reduceBEq,Nat.reduceAdd,env,al,mD,amG,AV.cell,Nat.reduceMul,Nat.reduceLeDiff,lj,Option.map_some,ap0,dm]
  |cons x l=>
   have hw:=fun n=>mg Z0 n (x::l)
   have ap:=Kg (row:=eH) (m:=x::l) (tg:=.some) (sz:=1) (bytes:=16) (e:=bv) H (by simp) (fun _ _=>⟨rfl,rfl⟩) (fun _ _=>rfl) (by omega) (by omega)
   generalize x::l=m at hw ap
   simp only [rowsWk_map] at hw
   simp (maxSteps:=3000000) (maxDischargeDepth:=6) +contextual -implicitDefEqProofs only [amA M,amB,↓ab,↓aa,↓ah,↓ae,Nat.reduceBEq,Nat.reduceAdd,env,al,mD,amG,AV.cell,Nat.reduceMul,Nat.reduceLeDiff,lj,Option.map_some,ap,hw,implies_true,cut_app]
theorem Z1(n:Nat)(x:au):WkL n (au.row x) (au.row x):=⟨wk_str _ _,wk_str _ _,trivial⟩
theorem AM(hO:AL E){s:Sl au}(hs:s.kn)(hn:s.l.length≤1000000)(H:List AObj):M.run dy [.slice s.tag 2 (s.l.map au.row)] H=some (.ret (.slice .any 2 (s.l.map au.row)),H):=by
 rw [aP M hO.slices_Clone_api_Feat_api_Feat rfl (c:=kB) rfl,kB]
 obtain ⟨tg,l⟩:=s
 simp only [Sl.kn] at hs hn ⊢
 rcases hs with ⟨rfl,rfl⟩ | rfl
 ·simp (maxSteps:=3000000) (maxDischargeDepth:=6) +contextual -implicitDefEqProofs only [amA M,amB,↓ab,↓aa,↓ah,↓ae,Nat.reduceBEq,Nat.reduceAdd,env,al,kC,xb,Option.map_some,dm]
 ·cases l with
  |nil=>
   have ap0:=fun H=>M4 false H bf 2 32 (by decide)
   simp (maxSteps:=3000000) (maxDischargeDepth:=6) +contextual -implicitDefEqProofs only [amA M,amB,↓ab,↓aa,↓ah,↓ae,Nat.reduceBEq,Nat.reduceAdd,env,al,kC,amG,AV.cell,Nat.reduceMul,Nat.reduceLeDiff,lj,Option.map_some,ap0,dm]
  |cons x l=>
   have hw:=fun n=>mg Z1 n (x::l)
   have ap:=Kg (row:=au.row) (m:=x::l) (tg:=.some) (sz:=2) (bytes:=32) (e:=bf) H (by simp) (fun _ _=>⟨rfl,rfl⟩) (fun _ _=>rfl) (by omega) (by omega)
   generalize x::l=m at hw ap
   simp only [rowsWk_map] at hw
   simp (maxSteps:=3000000) (maxDischargeDepth:=6) +contextual -implicitDefEqProofs only [amA M,amB,↓ab,↓aa,↓ah,↓ae,Nat.reduceBEq,Nat.reduceAdd,env,al,kC,amG,AV.cell,Nat.reduceMul,Nat.reduceLeDiff,lj,Option.map_some,ap,hw,implies_true,cut_app]
theorem abr(n:Nat)(x:bL):WkL n (bL.row x) (bL.row x):=⟨wk_int _ _ _,wk_str _ _,trivial⟩
theorem ML(hO:AL E){s:Sl bL}(hs:s.kn)(hn:s.l.length≤1000000)(H:List AObj):M.run dQ [.slice s.tag 2 (s.l.map bL.row)] H=some (.ret (.slice .any 2 (s.l.map bL.row)),H):=by
 rw [aP M hO.slices_Clone_api_Irregular_api_Irregular rfl (c:=fR) rfl,fR]
 obtain ⟨tg,l⟩:=s
 simp only [Sl.kn] at hs hn ⊢
 rcases hs with ⟨rfl,rfl⟩ | rfl
 ·simp (maxSteps:=3000000) (maxDischargeDepth:=6) +contextual -implicitDefEqProofs only [amA M,amB,↓ab,↓aa,↓ah,↓ae,Nat.reduceBEq,Nat.reduceAdd,env,al,fT,xb,Option.map_some,dm]
 ·cases l with
  |nil=>
   have ap0:=fun H=>M4 false H de 2 24 (by decide)
   simp (maxSteps:=3000000) (maxDischargeDepth:=6) +contextual -implicitDefEqProofs only [amA M,amB,↓ab,↓aa,↓ah,↓ae,Nat.reduceBEq,Nat.reduceAdd,env,al,fT,amG,AV.cell,Nat.reduceMul,Nat.reduceLeDiff,lj,Option.map_some,ap0,dm]
  |cons x l=>
   have hw:=fun n=>mg abr n (x::l)
   have ap:=Kg (row:=bL.row) (m:=x::l) (tg:=.some) (sz:=2) (bytes:=24) (e:=de) H (by simp) (fun _ _=>⟨rfl,rfl⟩) (fun _ _=>rfl) (by omega) (by omega)
   generalize x::l=m at hw ap
   simp only [rowsWk_map] at hw
   simp (maxSteps:=3000000) (maxDischargeDepth:=6) +contextual -implicitDefEqProofs only [amA M,amB,↓ab,↓aa,↓ah,↓ae,Nat.reduceBEq,Nat.reduceAdd,env,al,fT,amG,AV.cell,Nat.reduceMul,Nat.reduceLeDiff,lj,Option.map_some,ap,hw,implies_true,cut_app]
theorem X4(n:Nat)(x:bu):WkL n (bu.row x) (bu.row x):=⟨wk_str _ _,wk_str _ _,wk_str _ _,wk_str _ _,trivial⟩
theorem MM(hO:AL E){s:Sl bu}(hs:s.kn)(hn:s.l.length≤1000000)(H:List AObj):M.run jt [.slice s.tag 4 (s.l.map bu.row)] H=some (.ret (.slice .any 4 (s.l.map bu.row)),H):=by
 rw [aP M hO.slices_Clone_api_Spell_api_Spell rfl (c:=jA) rfl,jA]
 obtain ⟨tg,l⟩:=s
 simp only [Sl.kn] at hs hn ⊢
 rcases hs with ⟨rfl,rfl⟩ | rfl
 ·simp (maxSteps:=3000000) (maxDischargeDepth:=6) +contextual -implicitDefEqProofs only [amA M,amB,↓ab,↓aa,↓ah,↓ae,Nat.reduceBEq,Nat.reduceAdd,env,al,jB,xb,Option.map_some,dm]
 ·cases l with
  |nil=>
   have ap0:=fun H=>M4 false H cP 4 64 (by decide)
   simp (maxSteps:=3000000) (maxDischargeDepth:=6) +contextual -implicitDefEqProofs only [amA M,amB,↓ab,↓aa,↓ah,↓ae,Nat.reduceBEq,Nat.reduceAdd,env,al,jB,amG,AV.cell,Nat.reduceMul,Nat.reduceLeDiff,lj,Option.map_some,ap0,dm]
  |cons x l=>
   have hw:=fun n=>mg X4 n (x::l)
   have ap:=Kg (row:=bu.row) (m:=x::l) (tg:=.some) (sz:=4) (bytes:=64) (e:=cP) H (by simp) (fun _ _=>⟨rfl,rfl⟩) (fun _ _=>rfl) (by omega) (by omega)
   generalize x::l=m at hw ap
   simp only [rowsWk_map] at hw
   simp (maxSteps:=3000000) (maxDischargeDepth:=6) +contextual -implicitDefEqProofs only [amA M,amB,↓ab,↓aa,↓ah,↓ae,Nat.reduceBEq,Nat.reduceAdd,env,al,jB,amG,AV.cell,Nat.reduceMul,Nat.reduceLeDiff,lj,Option.map_some,ap,hw,implies_true,cut_app]
theorem MN(hO:AL E){s:Sl aV}(hs:s.kn)(hn:s.l.length≤1000000)(H:List AObj):M.run jq [.slice s.tag 2 (s.l.map aV.row)] H=some (.ret (ic H.length 2 s),H++CD s aV.row ce):=by
 rw [aP M hO.slices_Clone_api_Trait_api_Trait rfl (c:=ju) rfl,ju]
 obtain ⟨tg,l⟩:=s
 simp only [Sl.kn] at hs hn ⊢
 rcases hs with ⟨rfl,rfl⟩ | rfl
 ·simp (maxSteps:=3000000) (maxDischargeDepth:=6) +contextual -implicitDefEqProofs only [amA M,amB,↓ab,↓aa,↓ah,↓ae,Nat.reduceBEq,Nat.reduceAdd,env,al,jv,xb,Option.map_some,ic,CD]
 ·cases l with
  |nil=>
   have ap0:=fun H=>GR H ce 2 40
   simp (maxSteps:=3000000) (maxDischargeDepth:=6) +contextual -implicitDefEqProofs only [amA M,amB,↓ab,↓aa,↓ah,↓ae,Nat.reduceBEq,Nat.reduceAdd,env,al,jv,amG,AV.cell,Nat.reduceMul,Nat.reduceLeDiff,lj,Option.map_some,ap0,ic,CD]
  |cons x l=>
   have ap:=GS (row:=aV.row) (m:=x::l) (tg:=.some) (sz:=2) (bytes:=40) (e:=ce) H (by simp) (fun _ _=>⟨rfl,rfl⟩) (by omega) (by omega)
   simp only [ic,CD]
   generalize x::l=m at ap
   simp (maxSteps:=3000000) (maxDischargeDepth:=6) +contextual -implicitDefEqProofs only [amA M,amB,↓ab,↓aa,↓ah,↓ae,Nat.reduceBEq,Nat.reduceAdd,env,al,jv,amG,AV.cell,Nat.reduceMul,Nat.reduceLeDiff,lj,Option.map_some,ap]
theorem MO(hO:AL E){s:Sl aK}(hs:s.kn)(hn:s.l.length≤1000000)(H:List AObj):M.run jr [.slice s.tag 2 (s.l.map aK.row)] H=some (.ret (ic H.length 2 s),H++CD s aK.row bo):=by
 rw [aP M hO.slices_Clone_api_Class_api_Class rfl (c:=jw) rfl,jw]
 obtain ⟨tg,l⟩:=s
 simp only [Sl.kn] at hs hn ⊢
 rcases hs with ⟨rfl,rfl⟩ | rfl
 ·simp (maxSteps:=3000000) (maxDischargeDepth:=6) +contextual -implicitDefEqProofs only [amA M,amB,↓ab,↓aa,↓ah,↓ae,Nat.reduceBEq,Nat.reduceAdd,env,al,jx,xb,Option.map_some,ic,CD]
 ·cases l with
  |nil=>
   have ap0:=fun H=>GR H bo 2 40
   simp (maxSteps:=3000000) (maxDischargeDepth:=6) +contextual -implicitDefEqProofs only [amA M,amB,↓ab,↓aa,↓ah,↓ae,Nat.reduceBEq,Nat.reduceAdd,env,al,jx,amG,AV.cell,Nat.reduceMul,Nat.reduceLeDiff,lj,Option.map_some,ap0,ic,CD]
  |cons x l=>
   have ap:=GS (row:=aK.row) (m:=x::l) (tg:=.some) (sz:=2) (bytes:=40) (e:=bo) H (by simp) (fun _ _=>⟨rfl,rfl⟩) (by omega) (by omega)
   simp only [ic,CD]
   generalize x::l=m at ap
   simp (maxSteps:=3000000) (maxDischargeDepth:=6) +contextual -implicitDefEqProofs only [amA M,amB,↓ab,↓aa,↓ah,↓ae,Nat.reduceBEq,Nat.reduceAdd,env,al,jx,amG,AV.cell,Nat.reduceMul,Nat.reduceLeDiff,lj,Option.map_some,ap]
theorem MP(hO:AL E){s:Sl aw}(hs:s.kn)(hn:s.l.length≤1000000)(H:List AObj):M.run js [.slice s.tag 4 (s.l.map aw.row)] H=some (.ret (ic H.length 4 s),H++CD s aw.row bq):=by
 rw [aP M hO.slices_Clone_api_Entry_api_Entry rfl (c:=jy) rfl,jy]
 obtain ⟨tg,l⟩:=s
 simp only [Sl.kn] at hs hn ⊢
 rcases hs with ⟨rfl,rfl⟩ | rfl
 ·simp (maxSteps:=3000000) (maxDischargeDepth:=6) +contextual -implicitDefEqProofs only [amA M,amB,↓ab,↓aa,↓ah,↓ae,Nat.reduceBEq,Nat.reduceAdd,env,al,jz,xb,Option.map_some,ic,CD]
 ·cases l with
  |nil=>
   have ap0:=fun H=>GR H bq 4 80
   simp (maxSteps:=3000000) (maxDischargeDepth:=6) +contextual -implicitDefEqProofs only [amA M,amB,↓ab,↓aa,↓ah,↓ae,Nat.reduceBEq,Nat.reduceAdd,env,al,jz,amG,AV.cell,Nat.reduceMul,Nat.reduceLeDiff,lj,Option.map_some,ap0,ic,CD]
  |cons x l=>
   have ap:=GS (row:=aw.row) (m:=x::l) (tg:=.some) (sz:=4) (bytes:=80) (e:=bq) H (by simp) (fun _ _=>⟨rfl,rfl⟩) (by omega) (by omega)
   simp only [ic,CD]
   generalize x::l=m at ap
   simp (maxSteps:=3000000) (maxDischargeDepth:=6) +contextual -implicitDefEqProofs only [amA M,amB,↓ab,↓aa,↓ah,↓ae,Nat.reduceBEq,Nat.reduceAdd,env,al,jz,amG,AV.cell,Nat.reduceMul,Nat.reduceLeDiff,lj,Option.map_some,ap]
theorem O1(hO:AL E){s:Sl aR}(hs:s.kn)(hn:s.l.length≤1000000)(H:List AObj):M.run kj [.slice s.tag 4 (s.l.map aR.row)] H=some (.ret (ic H.length 4 s),H++CD s aR.row aY):=by
 rw [aP M hO.slices_Clone_api_Slot_api_Slot rfl (c:=kz) rfl,kz]
 obtain ⟨tg,l⟩:=s
 simp only [Sl.kn] at hs hn ⊢
 rcases hs with ⟨rfl,rfl⟩ | rfl
 ·simp (maxSteps:=3000000) (maxDischargeDepth:=6) +contextual -implicitDefEqProofs only [amA M,amB,↓ab,↓aa,↓ah,↓ae,Nat.reduceBEq,Nat.reduceAdd,env,al,kA,xb,Option.map_some,ic,CD]
 ·cases l with
  |nil=>
   have ap0:=fun H=>GR H aY 4 64
   simp (maxSteps:=3000000) (maxDischargeDepth:=6) +contextual -implicitDefEqProofs only [amA M,amB,↓ab,↓aa,↓ah,↓ae,Nat.reduceBEq,Nat.reduceAdd,env,al,kA,amG,AV.cell,Nat.reduceMul,Nat.reduceLeDiff,lj,Option.map_some,ap0,ic,CD]
  |cons x l=>
   have ap:=GS (row:=aR.row) (m:=x::l) (tg:=.some) (sz:=4) (bytes:=64) (e:=aY) H (by simp) (fun _ _=>⟨rfl,rfl⟩) (by omega) (by omega)
   simp only [ic,CD]
   generalize x::l=m at ap
   simp (maxSteps:=3000000) (maxDischargeDepth:=6) +contextual -implicitDefEqProofs only [amA M,amB,↓ab,↓aa,↓ah,↓ae,Nat.reduceBEq,Nat.reduceAdd,env,al,kA,amG,AV.cell,Nat.reduceMul,Nat.reduceLeDiff,lj,Option.map_some,ap]
theorem O2(hO:AL E){s:Sl bN}(hs:s.kn)(hn:s.l.length≤1000000)(H:List AObj):M.run ki [.slice s.tag 3 (s.l.map bN.row)] H=some (.ret (ic H.length 3 s),H++CD s bN.row dK):=by
 rw [aP M hO.slices_Clone_api_Link_api_Link rfl (c:=kx) rfl,kx]
 obtain ⟨tg,l⟩:=s
 simp only [Sl.kn] at hs hn ⊢
 rcases hs with ⟨rfl,rfl⟩ | rfl
 ·simp (maxSteps:=3000000) (maxDischargeDepth:=6) +contextual -implicitDefEqProofs only [amA M,amB,↓ab,↓aa,↓ah,↓ae,Nat.reduceBEq,Nat.reduceAdd,env,al,ky,xb,Option.map_some,ic,CD]
 ·cases l with
  |nil=>
   have ap0:=fun H=>GR H dK 3 56
   simp (maxSteps:=3000000) (maxDischargeDepth:=6) +contextual -implicitDefEqProofs only [amA M,amB,↓ab,↓aa,↓ah,↓ae,Nat.reduceBEq,Nat.reduceAdd,env,al,ky,amG,AV.cell,Nat.reduceMul,Nat.reduceLeDiff,lj,Option.map_some,ap0,ic,CD]
  |cons x l=>
   have ap:=GS (row:=bN.row) (m:=x::l) (tg:=.some) (sz:=3) (bytes:=56) (e:=dK) H (by simp) (fun _ _=>⟨rfl,rfl⟩) (by omega) (by omega)
   simp only [ic,CD]
   generalize x::l=m at ap
   simp (maxSteps:=3000000) (maxDischargeDepth:=6) +contextual -implicitDefEqProofs only [amA M,amB,↓ab,↓aa,↓ah,↓ae,Nat.reduceBEq,Nat.reduceAdd,env,al,ky,amG,AV.cell,Nat.reduceMul,Nat.reduceLeDiff,lj,Option.map_some,ap]
end
section
attribute [local congr] aF bU be aG aS aL aH aC aD aM aN
variable{E:bz}(M:cG cB E)
def tV:List AV:=[.nilp,.nilp,.nilp,.nilp,.nilp,.nilp,.nilp,.nilp,.nilp,.nilp,.nilp,.nilp,.nilp,.nilp,.nilp,.nilp,.nilp,.nilp,.nilp,.nilp,.nilp,.nilp,.nilp,.nilp,.nilp,.nilp,.int .i64 0]
structure QT (b:Nat) (G:List AObj) (cs:List AV):Prop where
 len:cs.length=27
 next:∀ j,j<26→cs[j]?=some .nilp∨∃ q cs',cs[j]?=some (.ptr q 0)∧b≤q∧G[q]?=some (.cells cs' aW)
 many:∃ m,cs[26]?=some (.int .i64 m)
def FD(b:Nat)(G:List AObj):Prop:=∀ i cs,b≤i→G[i]?=some (.cells cs aW)→QT b G cs
def Lz(b:Nat)(G:List AObj)(q:Nat):Prop:=b≤q∧∃ cs,G[q]?=some (.cells cs aW)
def LA(b:Nat)(G G':List AObj):Prop:=G.length≤G'.length∧(∀ i x,G[i]?=some x→(∀ cs,x = .cells cs aW→i<b)→G'[i]?=some x)∧∀ p,Lz b G p→Lz b G' p
theorem LA.refl(b:Nat)(G:List AObj):LA b G G:=⟨Nat.le_refl _,fun _ _ h _=>h,fun _ h=>h⟩
theorem LA.trans{b:Nat}{G1 G2 G3:List AObj}(h:LA b G1 G2)(h':LA b G2 G3):LA b G1 G3:=⟨Nat.le_trans h.1 h'.1,fun i x hi hx=>h'.2.1 i x (h.2.1 i x hi hx) hx,fun p hp=>h'.2.2 p (h.2.2 p hp)⟩
theorem X5(j:Nat)(hj:j<26):tV[j]?=some .nilp:=by
 have h:tV=List.replicate 26 .nilp++[.int .i64 0]:=rfl
 rw [h,List.getElem?_append_left (by simpa using hj),List.getElem?_replicate,if_pos hj]
theorem O3{b:Nat}{G G':List AObj}{cs:List AV}(h:QT b G cs)(hg:∀ q cs',b≤q→G[q]?=some (.cells cs' aW)→∃ cs2,G'[q]?=some (.cells cs2 aW)):QT b G' cs:=
 ⟨h.len,fun j hj=>(h.next j hj).imp id fun ⟨q,cs',h1,h2,h3⟩=>let ⟨c2,h4⟩:=hg q cs' h2 h3;⟨q,c2,h1,h2,h4⟩,h.many⟩
theorem TX{b:Nat}{G:List AObj}{q:Nat}{cs cs':List AV}(h:FD b G)(hq:G[q]?=some (.cells cs aW))(hc:QT b (G.set q (.cells cs' aW)) cs'):FD b (G.set q (.cells cs' aW)):=fun i c hi hx=>by
 have hlt:q<G.length:=(List.getElem?_eq_some_iff.1 hq).1
 by_cases e:i=q
 ·subst e
  rw [List.getElem?_set_self hlt] at hx
  cases hx;exact hc
 ·rw [List.getElem?_set_ne (Ne.symm e)] at hx
  refine O3 (h i c hi hx) fun p c2 hp hpc => ?_
  by_cases e2:p=q
  ·subst e2;exact ⟨cs',List.getElem?_set_self hlt⟩
  ·exact ⟨c2,by rw [List.getElem?_set_ne (Ne.symm e2)];exact hpc⟩
theorem GT{b:Nat}{G:List AObj}{x:AObj}(h:FD b G)(hx:∀ cs,x = .cells cs aW→QT b (G++[x]) cs):FD b (G++[x]):=fun i c hi hg=>by
 by_cases hlt:i<G.length
 ·rw [List.getElem?_append_left hlt] at hg
  exact O3 (h i c hi hg) fun p c2 _ hpc=>⟨c2,by rw [List.getElem?_append_left (List.getElem?_eq_some_iff.1 hpc).1];exact hpc⟩
 ·rw [List.getElem?_append_right (by omega)] at hg
  have:i-G.length=0:=by
   cases hk:i-G.length with
   |zero=>rfl
   |succ k=>rw [hk] at hg;simp at hg
  rw [this] at hg
  simp at hg
  exact hx c hg
theorem O4(b:Nat)(G:List AObj):QT b G tV:=⟨rfl,fun j hj=>.inl (X5 j hj),0,rfl⟩
theorem acW{b:Nat}{G:List AObj}{q:Nat}{cs:List AV}{j:Nat}(h:FD b G)(hb:b≤G.length)(hbq:b≤q)(hq:G[q]?=some (.cells cs aW))(hj:j<26) :
  FD b ((G++[AObj.cells tV aW]).set q (.cells (cs.set j (.ptr G.length 0)) aW))∧LA b G ((G++[AObj.cells tV aW]).set q (.cells (cs.set j (.ptr G.length 0)) aW)) ∧
  Lz b ((G++[AObj.cells tV aW]).set q (.cells (cs.set j (.ptr G.length 0)) aW)) G.length:=by
 have hlt:q<G.length:=(List.getElem?_eq_some_iff.1 hq).1
 have h1:FD b (G++[AObj.cells tV aW]):=GT h fun c e=>by cases e;exact O4 _ _
 have hq1:(G++[AObj.cells tV aW])[q]?=some (.cells cs aW):=by rw [List.getElem?_append_left hlt];exact hq
 have hn:((G++[AObj.cells tV aW]).set q (.cells (cs.set j (.ptr G.length 0)) aW))[G.length]?=some (.cells tV aW):=by
  rw [List.getElem?_set_ne (by omega)];simp
 have hC:=h1 q cs hbq hq1
 refine ⟨TX h1 hq1 ⟨by simpa using hC.len,fun i hi => ?_, ?_⟩,⟨by simp,fun i x hi hx => ?_,fun p ⟨g1,c,g2⟩=>⟨g1, ?_⟩⟩,hb,_,hn⟩
 ·by_cases e:i=j
  ·subst e
   refine .inr ⟨G.length,tV, ?_,hb,hn⟩
   rw [List.getElem?_set_self (by rw [hC.len];omega)]
  ·rw [List.getElem?_set_ne (Ne.symm e)]
   refine (hC.next i hi).imp id fun ⟨p,c2,g1,g2,g3⟩ => ?_
   by_cases e2:p=q
   ·subst e2;exact ⟨p,_,g1,g2,List.getElem?_set_self (by simp;omega)⟩
   ·exact ⟨p,c2,g1,g2,by rw [List.getElem?_set_ne (Ne.symm e2)];exact g3⟩
 ·obtain ⟨m,hm⟩:=hC.many
  exact ⟨m,by rw [List.getElem?_set_ne (by omega)];exact hm⟩
 ·have hil:i<G.length:=(List.getElem?_eq_some_iff.1 hi).1
  have hne:i≠q:=fun e=>by
   subst e
   rw [hq] at hi
   have:=hx cs (Option.some.inj hi).symm
   omega
  rw [List.getElem?_set_ne (Ne.symm hne),List.getElem?_append_left hil];exact hi
 ·have hpl:p<G.length:=(List.getElem?_eq_some_iff.1 g2).1
  by_cases e2:p=q
  ·subst e2;exact ⟨_,List.getElem?_set_self (by simp;omega)⟩
  ·exact ⟨c,by rw [List.getElem?_set_ne (Ne.symm e2),List.getElem?_append_left hpl];exact g2⟩
theorem acX{b:Nat}{G:List AObj}{q:Nat}{cs:List AV}{m:Int}(h:FD b G)(hbq:b≤q)(hq:G[q]?=some (.cells cs aW)) :
  FD b (G.set q (.cells (cs.set 26 (.int .i64 m)) aW))∧LA b G (G.set q (.cells (cs.set 26 (.int .i64 m)) aW)):=by
 have hlt:q<G.length:=(List.getElem?_eq_some_iff.1 hq).1
 have hC:=h q cs hbq hq
 refine ⟨TX h hq ⟨by simpa using hC.len,fun i hi => ?_,m, ?_⟩,⟨by simp,fun i x hi hx => ?_,fun p ⟨g1,c,g2⟩=>⟨g1, ?_⟩⟩⟩
 ·rw [List.getElem?_set_ne (by omega)]
  refine (hC.next i hi).imp id fun ⟨p,c2,g1,g2,g3⟩ => ?_
  by_cases e2:p=q
  ·subst e2;exact ⟨p,_,g1,g2,List.getElem?_set_self hlt⟩
  ·exact ⟨p,c2,g1,g2,by rw [List.getElem?_set_ne (Ne.symm e2)];exact g3⟩
 ·rw [List.getElem?_set_self (by rw [hC.len];omega)]
 ·have hne:i≠q:=fun e=>by
   subst e
   rw [hq] at hi
   have:=hx cs (Option.some.inj hi).symm
   omega
  rw [List.getElem?_set_ne (Ne.symm hne)];exact hi
 ·by_cases e2:p=q
  ·subst e2;exact ⟨_,List.getElem?_set_self hlt⟩
  ·exact ⟨c,by rw [List.getElem?_set_ne (Ne.symm e2)];exact g2⟩
end
section
attribute [local congr] aF bU be aG aS aL aH aC aD aM aN
variable{E:bz}(M:cG cB E)
theorem mR{cs:List AV}{j:Nat}{v:AV}(h:cs[j]?=some v):b8 none cs j=some v:=h
theorem LB(H:List AObj)(i o:Nat):rnc H (.ptr i o)=some (.ptr i o,H):=rfl
theorem Z2(i o:Nat):req .ptr (.ptr i o) .nilp=some false:=rfl
theorem Z3:req .ptr .nilp .nilp=some true:=rfl
theorem Z4{q j:Nat}(hj:j<26)(k:IntKind):Yr 26 1 (.ptr q 0) (.int k (j:Int))=some (.ptr q j):=by
 simp only [Yr]
 rw [if_pos ⟨by omega,by omega⟩]
 simp
theorem abt(cs:List AV)(o:Nat)(v:AV):aU cs o [v]=cs.set o v:=by
 show aU (cs.set o v) (o+1) []=_
 cases (cs.set o v)<;>rfl
theorem ER{H:List AObj}{q o:Nat}{v:AV}{cs:List AV}{T:TypeId}(h:H[q]?=some (.cells cs T))(ho:o<cs.length)(hc:v.cell=true):stO 1 H q o [v] H[q]?=some (H.set q (.cells (cs.set o v) T)):=by
 rw [h,stO_cells (sz:=1) (cs:=[v]) rfl (by omega) (by simp [hc]),abt]
theorem acY{c:UInt8}(h:iH c=true):∃ j:Nat,j<26∧IntKind.u8.wrap ((c.toNat:Int)-97)=(j:Int):=by
 simp only [iH,Bool.and_eq_true,decide_eq_true_eq] at h
 refine ⟨c.toNat-97,by omega, ?_⟩
 have e:((c.toNat:Int)-97)=((c.toNat-97:Nat):Int):=by omega
 rw [e]
 exact IntWalk.u8_in _ ⟨by omega,by omega⟩
theorem acZ{w:Str}(hw:w.all iH=true)(hwl:w.length≤1000){b s:Nat}{row:List AV}{a5 a27 a28 a29:AV}(hrow:row[2]?=some (.str w)){H0:List AObj}:∀ (n i:Nat) (G:List AObj) (cur:Nat),i+n=w.length→FD b G→b≤G.length→Lz b G cur→G[s]?=some (.cells row ct) →
  ∃ G' cur',FD b G'∧LA b G G'∧b≤G'.length∧Lz b G' cur'∧∀ (k:List Fra) (He:List AObj),
  M.go nd H0 (.c rP :: .lp ⟨(some [5,7,8,27,28,29,39,40]),[],false⟩ rP He :: .blk 2 :: .c (.lv [5,8,27,28,29])::k) (kv [(5,a5),(7,.ptr s 0),(8,.ptr cur 0),(27,a27),(28,a28),(29,a29),(39,.int .i64 w.length),(40,.int .i64 i)]) G =
   M.go nd H0 k (kv [(5,a5),(8,.ptr cur' 0),(27,a27),(28,a28),(29,a29)]) G'
 |0,i,G,cur,h,hG,hb,hc,hs=>by
  have e1:i=w.length:=by omega
  subst e1
  refine ⟨G,cur,hG,LA.refl _ _,hb,hc,fun k He => ?_⟩
  rw [ao M rP.eq_1]
  simp (maxSteps:=3000000) (maxDischargeDepth:=6) +contextual -implicitDefEqProofs only [amA M,amB,↓ab,↓aa,↓ah,↓ae,Nat.reduceBEq,Nat.reduceAdd,env,al,ti,Nat.lt_irrefl]
 |n+1,i,G,cur,h,hG,hb,hc,hs=>by
  have hi:i<w.length:=by omega
  have hx:w[i]?=some w[i]:=List.getElem?_eq_getElem hi
  have hlo:iH w[i]=true:=List.all_eq_true.1 hw _ (List.getElem_mem hi)
  generalize w[i]=c at hx hlo
  obtain ⟨j,hj,hjw⟩:=acY hlo
  have hws:=bp hi (show w.length≤aX by simp only [aX];omega)
  obtain ⟨hbc,cs,hcs⟩:=hc
  have hC:=hG cur cs hbc hcs
  have hcl:cur<G.length:=(List.getElem?_eq_some_iff.1 hcs).1
  have hr2:=mR hrow
  rcases hC.next j hj with hnil | ⟨q,cs',hq,hbq,hqc⟩
  ·obtain ⟨g1,g2,g3⟩:=acW hG hb hbc hcs hj
   have hset:stO 1 (G++[AObj.cells tV aW]) cur j [.ptr G.length 0] (G++[AObj.cells tV aW])[cur]?=some ((G++[AObj.cells tV aW]).set cur (.cells (cs.set j (.ptr G.length 0)) aW)):=
    ER (by rw [List.getElem?_append_left hcl];exact hcs) (by rw [hC.len];omega) rfl
   have hget:((G++[AObj.cells tV aW]).set cur (.cells (cs.set j (.ptr G.length 0)) aW))[cur]?=some (.cells (cs.set j (.ptr G.length 0)) aW):=List.getElem?_set_self (by simp;omega)
   have hld:b8 none (cs.set j (.ptr G.length 0)) j=some (.ptr G.length 0):=mR (List.getElem?_set_self (by rw [hC.len];omega))
   have hld0:=mR hnil
   have hs2:=g2.2.1 s _ hs (fun c e=>by simp at e;exact absurd e.2 (by decide))
   generalize (G++[AObj.cells tV aW]).set cur (.cells (cs.set j (.ptr G.length 0)) aW)=G1 at g1 g2 g3 hset hget hs2
   obtain ⟨G',cur',k1,k2,k3,k4,ih⟩:=acZ hw hwl hrow (a5:=a5) (a27:=a27) (a28:=a28) (a29:=a29) (H0:=H0) n (i+1) G1 G.length (by omega) g1 (by have:=g2.1;omega) g3 hs2
   refine ⟨G',cur',k1,g2.trans k2,k3,k4,fun k He => ?_⟩
   have ih:=ih k
   simp only [tV] at hset
   simp only [kv_cons,kv_nil] at ih ⊢
   rw [ao M rP.eq_1]
   simp (maxSteps:=3000000) (maxDischargeDepth:=6) +contextual -implicitDefEqProofs only [amA M,amB,↓ab,↓aa,↓ah,↓ae,Nat.reduceBEq,Nat.reduceAdd,env,al,ti,amG,AV.cell,Nat.reduceMul,Nat.reduceLeDiff,hi,hx,hs,hr2,SN,LB,Z2,Z3,hjw,hcs,Z4 hj,hld0,hset,hget,hld,ih,hws]
  ·have hld0:=mR hq
   obtain ⟨G',cur',k1,k2,k3,k4,ih⟩:=acZ hw hwl hrow (a5:=a5) (a27:=a27) (a28:=a28) (a29:=a29) (H0:=H0) n (i+1) G q (by omega) hG hb ⟨hbq,_,hqc⟩ hs
   refine ⟨G',cur',k1,k2,k3,k4,fun k He => ?_⟩
   have ih:=ih k
   simp only [kv_cons,kv_nil] at ih ⊢
   rw [ao M rP.eq_1]
   simp (maxSteps:=3000000) (maxDischargeDepth:=6) +contextual -implicitDefEqProofs only [amA M,amB,↓ab,↓aa,↓ah,↓ae,Nat.reduceBEq,Nat.reduceAdd,env,al,ti,amG,AV.cell,Nat.reduceMul,Nat.reduceLeDiff,hi,hx,hs,hr2,SN,LB,Z2,Z3,hjw,hcs,Z4 hj,hld0,ih,hws]
theorem nwl1{fs:List cq}(hfs:∀ h∈fs,h.w.all iH=true∧h.w.length≤24)(hfl:fs.length≤10000){tf:Tag}{b a r:Nat}{arow:List AV}(harow:arow[6]?=some (.ptr r 0)){H0:List AObj}:∀ (n i:Nat) (G:List AObj),i+n=fs.length→FD b G→b≤G.length→Lz b G r→G[a]?=some (.cells arow ll) →
  ∃ G',FD b G'∧LA b G G'∧b≤G'.length∧∀ (k:List Fra) (He:List AObj),
  M.go nd H0 (.c ut :: .lp ⟨(some [5,27,28,29]),[],false⟩ ut He :: .blk 0 :: .c (.lv [5])::k) (kv [(5,.ptr a 0),(27,.slice tf 3 (fs.map cq.row)),(28,.int .i64 fs.length),(29,.int .i64 i)]) G =
   M.go nd H0 k (kv [(5,.ptr a 0)]) G'
 |0,i,G,h,hG,hb,hr,ha=>by
  have e1:i=fs.length:=by omega
  subst e1
  refine ⟨G,hG,LA.refl _ _,hb,fun k He => ?_⟩
  rw [ao M ut.eq_1]
  simp (maxSteps:=3000000) (maxDischargeDepth:=6) +contextual -implicitDefEqProofs only [amA M,amB,↓ab,↓aa,↓ah,↓ae,Nat.reduceBEq,Nat.reduceAdd,env,al,ti,Nat.lt_irrefl]
 |n+1,i,G,h,hG,hb,hr,ha=>by
  have hi:i<fs.length:=by omega
  have hx:fs[i]?=some fs[i]:=List.getElem?_eq_getElem hi
  obtain ⟨hlo,hyl⟩:=hfs fs[i] (List.getElem_mem hi)
  generalize fs[i]=y at hx hlo hyl
  have hws:=bp hi (show fs.length≤aX by simp only [aX];omega)
  have hal:a<G.length:=(List.getElem?_eq_some_iff.1 ha).1
  have hG1:FD b (G++[AObj.cells (cq.row y) ct]):=GT hG fun c e=>by simp at e;exact absurd e.2 (by decide)
  have hK1:LA b G (G++[AObj.cells (cq.row y) ct]):=⟨by simp,fun i x hi _=>by rw [List.getElem?_append_left (List.getElem?_eq_some_iff.1 hi).1];exact hi,fun p ⟨g1,c,g2⟩=>⟨g1,c,by rw [List.getElem?_append_left (List.getElem?_eq_some_iff.1 g2).1];exact g2⟩⟩
  have ha1:(G++[AObj.cells (cq.row y) ct])[a]?=some (.cells arow ll):=hK1.2.1 a _ ha fun c e=>by simp at e;exact absurd e.2 (by decide)
  have hlda:=mR harow
  obtain ⟨G2,cur,g1,g2,g3,⟨hbc,cs,hcs⟩,hin⟩:=acZ M hlo (by omega) (s:=G.length) (row:=cq.row y) (a5:=.ptr a 0) (a27:=.slice tf 3 (fs.map cq.row)) (a28:=.int .i64 fs.length) (a29:=.int .i64 i) rfl (H0:=H0) y.w.length 0 (G++[AObj.cells (cq.row y) ct]) r (by omega) hG1 (by simp;omega) (hK1.2.2 r hr) (by simp)
  have hC:=g1 cur cs hbc hcs
  obtain ⟨m,hm⟩:=hC.many
  have hldm:=mR hm
  obtain ⟨i1,i2⟩:=acX (m:=IntKind.i64.wrap (m+1)) g1 hbc hcs
  have hset:stO 1 G2 cur 26 [.int .i64 (IntKind.i64.wrap (m+1))] (some (.cells cs aW))=some (G2.set cur (.cells (cs.set 26 (.int .i64 (IntKind.i64.wrap (m+1)))) aW)):=by
   have:=ER (o:=26) (v:=.int .i64 (IntKind.i64.wrap (m+1))) hcs (by rw [hC.len];omega) rfl
   rwa [hcs] at this
  have ha2:=i2.2.1 a _ (g2.2.1 a _ ha1 fun c e=>by simp at e;exact absurd e.2 (by decide)) fun c e=>by simp at e;exact absurd e.2 (by decide)
  have hr2:=i2.2.2 r (g2.2.2 r (hK1.2.2 r hr))
  have hb2:b≤(G2.set cur (.cells (cs.set 26 (.int .i64 (IntKind.i64.wrap (m+1)))) aW)).length:=by simpa using g3
  have hkk:=(hK1.trans g2).trans i2
  generalize G2.set cur (.cells (cs.set 26 (.int .i64 (IntKind.i64.wrap (m+1)))) aW)=G3 at i1 hset ha2 hr2 hb2 hkk
  obtain ⟨G',k1,k2,k3,ih⟩:=nwl1 hfs hfl (tf:=tf) harow (H0:=H0) n (i+1) G3 (by omega) i1 hb2 hr2 ha2
  refine ⟨G',k1,hkk.trans k2,k3,fun k He => ?_⟩
  have ih:=ih k
  simp only [kv_cons,kv_nil,Int.ofNat_zero] at hin ih ⊢
  rw [ao M ut.eq_1]
  simp (maxSteps:=3000000) (maxDischargeDepth:=6) +contextual -implicitDefEqProofs only [amA M,amB,↓ab,↓aa,↓ah,↓ae,Nat.reduceBEq,Nat.reduceAdd,env,al,ti,amG,AV.cell,Nat.reduceMul,Nat.reduceLeDiff,hi,hx,ha1,hlda,LB,hin,hcs,hldm,hset,ih,hws,aE hi,ON]
end
section
attribute [local congr] aF bU be aG aS aL aH aC aD aM aN
variable{E:bz}(M:cG cB E)
theorem VF(a:aq):TM a a=true:=(X3 a a).2 ⟨rfl,rfl,rfl⟩
theorem Z5(H:List AObj):FD H.length H:=fun i cs hi h=>by
 have:=(List.getElem?_eq_some_iff.1 h).1
 omega
theorem RZ{l:Lex}(hk:bO l=0){x:aw}{c:aK}(hc:w8 l x c){e:Nat}:∀ (t:List aR) (i:Nat),(∀ s∈t,s∈c.slots.l)→∀ h∈Br l x e i t,h.w.all iH=true
 |[],_,_,h,hh=>by cases hh
 |s::t,i,hs,h,hh=>by
  have hcm:c∈l.classes.l:=List.mem_of_find?_eq_some hc.cls
  have hso:=Wp (M0 hk hcm (hs s (by simp)))
  rw [Br] at hh
  cases hw:uP l x s i == [] with
  |true=>rw [hw] at hh;exact RZ hk hc t (i+1) (fun s hs'=>hs s (List.mem_cons_of_mem _ hs')) h hh
  |false=>
   rw [hw] at hh
   rcases List.mem_cons.1 hh with rfl | hh
   ·exact acU hk hc hso i
   ·exact RZ hk hc t (i+1) (fun s hs'=>hs s (List.mem_cons_of_mem _ hs')) h hh
theorem WH{l:Lex}(hk:bO l=0):∀ (t:List aw) (e:Nat),(∀ x∈t,∃ c,w8 l x c)→∀ h∈Bs l e t,h.w.all iH=true
 |[],_,_,h,hh=>by cases hh
 |x::t,e,ht,h,hh=>by
  obtain ⟨c,hc⟩:=ht x (by simp)
  rw [Bs,hc.cls] at hh
  rcases List.mem_append.1 hh with hh | hh
  ·exact RZ hk hc c.slots.l 0 (fun _ h=>h) h hh
  ·exact WH hk t (e+1) (fun y hy=>ht y (List.mem_cons_of_mem _ hy)) h hh
theorem Z6(hN:bK E)(hE:lV E)(hO:VE E){l:Lex}(hl:l.ok 0)(hk:(bO l == 0)=false)(H:List AObj):M.run BX [.agg l.row] H=some (.ret (.tuple [.nilp,.int .u8 (bO l)]),H++[.cells l.row am]):=by
 rw [aP M hO.morph_New rfl (c:=ya) rfl,ya]
 simp (maxSteps:=3000000) (maxDischargeDepth:=6) +contextual -implicitDefEqProofs only [amA M,amB,↓ab,↓aa,↓ah,↓ae,Nat.reduceBEq,Nat.reduceAdd,env,al,ti,amG,AV.cell,Nat.reduceMul,Nat.reduceLeDiff,DL M hN hE hl,Nat.zero_le,hk,bJ,wk_tuple]
theorem Z7(hN:bK E)(hW:WdE M)(hE:lV E)(hS:SpE E)(hX:tI M)(hY:IW M)(hB:uh E)(hF:o6 E)(hA:IX E)(hO:VE E){l l':Lex}(hl:l.ok 0)(hl':l'.ok 0)(hk:bO l=0)(hk':bO l'=0)
  (hown:∀ H,M.run hZ [.agg l.row] H=some (.ret (.agg l'.row),H)) (H:List AObj) :
  ∃ L r,M.run BX [.agg l.row] H=some (.ret (.tuple [.ptr (H.length+2) 0,.int .u8 0]),H++L)∧(H++L)[H.length+2]?=some (.cells (l'.row++[.ptr r 0]) ll):=by
 have hk0:(bO l == 0)=true:=by simpa using hk
 have g1:FD H.length (H++[AObj.cells l.row am]):=GT (Z5 H) fun c e=>by simp at e;exact absurd e.2 (by decide)
 have g2:FD H.length (H++[AObj.cells l.row am]++[AObj.cells tV aW]):=GT g1 fun c e=>by simp at e;rw [← e];exact O4 _ _
 have g3:FD H.length (H++[AObj.cells l.row am]++[AObj.cells tV aW]++[AObj.cells (l'.row++[.ptr (H.length+1) 0]) ll]):=GT g2 fun c e=>by simp at e;exact absurd e.2 (by decide)
 have hss:=fun H=>OS M hN hW hE hS hX hY hB hF hA hl' hk' H
 have hsl:=DS hk'
 have hlo:∀ h∈jp l',h.w.all iH=true∧h.w.length≤24:=fun h hh=>⟨WH hk' l'.entries.l 0 (Wv hk') h hh,(Wy hk' h hh).2⟩
 have har:(l'.row++[AV.ptr (H.length+1) 0])[6]?=some (.ptr (H.length+1) 0):=rfl
 obtain ⟨G',h1,h2,h3,h4⟩:=nwl1 M hlo (by omega) (tf:=.any) (a:=H.length+2) har (H0:=H) (jp l').length 0 _ (by omega) g3 (by simp) ⟨by omega,tV,by simp⟩ (by simp)
 have hpre:H <+: G':=by
  have:∀ i (h:i<H.length),G'[i]?=H[i]? := fun i h=>by
   rw [List.getElem?_eq_getElem h]
   refine h2.2.1 i H[i] ?_ fun _ _=>h
   rw [List.getElem?_append_left (by simp;omega),List.getElem?_append_left (by simp;omega),List.getElem?_append_left h,List.getElem?_eq_getElem h]
  refine ⟨G'.drop H.length, ?_⟩
  have ht:G'.take H.length=H:=by
   apply List.ext_getElem?
   intro i
   by_cases hi:i<H.length
   ·rw [List.getElem?_take_of_lt hi,this i hi]
   ·rw [List.getElem?_eq_none (by simp;omega),List.getElem?_eq_none (by omega)]
  conv=>rhs;rw [← List.take_append_drop H.length G',ht]
 obtain ⟨L,rfl⟩:=hpre
 have hfin:=h2.2.1 (H.length+2) _ (by simp:(H++[AObj.cells l.row am]++[AObj.cells tV aW]++[AObj.cells (l'.row++[.ptr (H.length+1) 0]) ll])[H.length+2]?=some (.cells (l'.row++[.ptr (H.length+1) 0]) ll)) fun c e=>by simp at e;exact absurd e.2 (by decide)
 refine ⟨L,H.length+1, ?_,hfin⟩
 rw [aP M hO.morph_New rfl (c:=ya) rfl,ya]
 simp only [kv_cons,kv_nil,Int.ofNat_zero,tV,List.append_assoc,List.cons_append,List.nil_append] at h4
 have e1:aU [.str [],.slice .nil 2 [],.slice .nil 2 [],.slice .nil 4 [],.slice .nil 4 [],.slice .nil 3 [],.nilp] 0 l'.row=l'.row++[.nilp]:=rfl
 have e2:∀ v:AV,(l'.row++[AV.nilp]).set 6 v=l'.row++[v]:=fun _=>rfl
 have e3:∀ v:AV,pY 6 (l'.row++[v])=some l'.row:=fun _=>rfl
 have e4:∀ v:AV,(l'.row++[v]).length=7:=fun _=>rfl
 simp (maxSteps:=3000000) (maxDischargeDepth:=6) +contextual -implicitDefEqProofs only [amA M,amB,↓ab,↓aa,↓ah,↓ae,Nat.reduceBEq,Nat.reduceAdd,env,al,ti,amG,AV.cell,Nat.reduceMul,Nat.reduceLeDiff,DL M hN hE hl,Nat.zero_le,hk0,hown,LB,hss,h4,e1,e2,e3,e4,bJ,wk_tuple]
theorem Z8(hO:VE E){l:Lex}{H:List AObj}{a:Nat}{v:AV}{T:TypeId}{r:Nat}(ha:H[a]?=some (.cells (l.row++[.ptr r 0]) T)):M.run rV [.ptr a 0] H=some (.ret (.bool true),H):=by
 have e5:b8 none (l.row++[AV.ptr r 0]) 6=some (.ptr r 0):=rfl
 rw [aP M hO.morph_Analyzer_made rfl (c:=sm) rfl,sm]
 simp (maxSteps:=3000000) (maxDischargeDepth:=6) +contextual -implicitDefEqProofs only [amA M,amB,↓ab,↓aa,↓ah,↓ae,Nat.reduceBEq,Nat.reduceAdd,env,al,Fs,amG,AV.cell,Nat.reduceMul,Nat.reduceLeDiff,ha,LB,e5,Z2,bne,Bool.not_false]
def X6(l:Lex)(w:Str):AV:=sel (!(Fg w)) (.tuple [.slice .any 3 [],.int .u8 1]) (.tuple [.slice .any 3 ((AK l w).map aq.row),.int .u8 0])
theorem PW(hN:bK E)(hW:WdE M)(hE:lV E)(hS:SpE E)(hX:tI M)(hY:IW M)(hB:uh E)(hF:o6 E)(hU:vO E){srt:List au→List au}(hSo:GJ M srt)(hP:Srt srt)(hV:GM E)(hA:IX E)(hO:VE E){l:Lex}(hl:l.ok 0)(hk:bO l=0){w:Str}(hw:w.length≤aX)
  {H:List AObj}{a:Nat}{T:TypeId}{r:Nat} (ha:H[a]?=some (.cells (l.row++[.ptr r 0]) T)):M.run lw [.ptr a 0,.str w] H=some (.ret (X6 l w),H):=by
 have hm:=Z8 M hO (v:=.unk) ha
 have hwd:=fun H=>N9 M hN hw H
 have ha':=fun H=>Mg M hN hW hE hS hX hY hB hF hU hSo hP hV hA hl hk w H
 have e3:∀ v:AV,pY 6 (l.row++[v])=some l.row:=fun _=>rfl
 have hwk:=RW l w
 unfold X6
 generalize AK l w=rs at ha' hwk
 rw [aP M hO.morph_Analyzer_Analyze rfl (c:=oI) rfl,oI]
 cases hww:Fg w with
 |false=>
  rw [hww] at hwd
  simp (maxSteps:=3000000) (maxDischargeDepth:=6) +contextual -implicitDefEqProofs only [amA M,amB,↓ab,↓aa,↓ah,↓ae,Nat.reduceBEq,Nat.reduceAdd,env,al,uu,amG,AV.cell,Nat.reduceMul,Nat.reduceLeDiff,hm,hwd,dm,wk_tuple,sel]
 |true=>
  rw [hww] at hwd
  simp (maxSteps:=3000000) (maxDischargeDepth:=6) +contextual -implicitDefEqProofs only [amA M,amB,↓ab,↓aa,↓ah,↓ae,Nat.reduceBEq,Nat.reduceAdd,env,al,uu,amG,AV.cell,Nat.reduceMul,Nat.reduceLeDiff,hm,hwd,ha,ha',LB,e3,hwk,implies_true,wk_tuple,sel]
theorem sans{H H0:List AObj}(hSA:E.fn eS=some bM){l:List aq}{ta tb:Tag}(hl:l.length≤3000000000000)(hal:∀ x∈l,x.firsts.l.length≤aX)(k:List Fra):∀ (n i:Nat) (He:List AObj),i+n=l.length →
  M.go cQ H0 (.c fB :: .lp ⟨(some [0,1,5]),[],false⟩ fB He :: .blk 0 :: .c (.lv [])::k) (kv [(0,.slice ta 3 (l.map aq.row)),(1,.slice tb 3 (l.map aq.row)),(5,.int .i64 i)]) H =
   (M.go cQ H0 k .leaf H)
 |0,i,He,h=>by
  have e:i=l.length:=by omega
  subst e
  rw [ao M fB.eq_1]
  simp (maxSteps:=3000000) (maxDischargeDepth:=6) +contextual -implicitDefEqProofs only [amA M,amB,↓ab,↓aa,↓ah,↓ae,Nat.reduceBEq,Nat.reduceAdd,env,al,mq,Nat.lt_irrefl,List.drop_length]
 |n+1,i,He,h=>by
  have hi:i<l.length:=by omega
  have hx:l[i]?=some l[i]:=List.getElem?_eq_getElem hi
  have hd:(l.drop i)=l[i]::l.drop (i+1):=List.drop_eq_getElem_cons hi
  have hm:l[i]∈l:=List.getElem_mem hi
  have ih:=fun He=>sans (H:=H) (H0:=H0) (hSA:=hSA) (l:=l) (ta:=ta) (tb:=tb) (hl:=hl) (hal:=hal) k n (i+1)  He (by omega)
  simp only [kv_cons,kv_nil] at ih
  rw [ao M fB.eq_1]
  simp (maxSteps:=3000000) (maxDischargeDepth:=6) +contextual -implicitDefEqProofs only [amA M,amB,↓ab,↓aa,↓ah,↓ae,Nat.reduceBEq,Nat.reduceAdd,env,al,mq,hx,hd,hi,ih,aE hi,tB,Lw M hSA (hal _ hm),VF,bp hi (Nat.le_trans hl (by simp only [aX];omega))]
theorem xS(hO:VE E)(hSA:E.fn eS=some bM){l:List aq}{ta tb:Tag}(hl:l.length≤3000000000000)(hal:∀ x∈l,x.firsts.l.length≤aX)(H:List AObj):M.run fZ [.slice ta 3 (l.map aq.row),.slice tb 3 (l.map aq.row)] H=some (.ret (.bool true),H):=by
 rw [aP M hO.truchmanlaw02_SameAnalyses rfl (c:=mo) rfl,mo]
 have h1:=fun k He=>sans M hSA (ta:=ta) (tb:=tb) hl hal (H:=H) (H0:=H) k l.length 0 He (by omega)
 simp only [kv_cons,kv_nil,Int.ofNat_zero] at h1
 simp (maxSteps:=3000000) (maxDischargeDepth:=6) +contextual -implicitDefEqProofs only [amA M,amB,↓ab,↓aa,↓ah,↓ae,Nat.reduceBEq,Nat.reduceAdd,env,al,mq,h1,bne_self_eq_false,beq_self_eq_true]
end
section
attribute [local congr] aF bU be aG aS aL aH aC aD aM aN
variable{E:bz}(M:cG cB E)
theorem Kn(hN:bK E)(hW:WdE M)(hE:lV E)(hg:IT E)(hS:SpE E)(hX:tI M)(hY:IW M)(hB:uh E)(hF:o6 E)(hU:vO E){srt:List au→List au}(hSo:GJ M srt)(hP:Srt srt)(hV:GM E)(hA:IX E)(hSA:E.fn eS=some bM)
  (hR:Lx E) (hE2:tH E) (hQ:HP E) (hO:VE E) (h:E.fn lI=some eA)
  {l l':Lex} (hl:l.ok 0) (hl':l'.ok 0) (hkk:bO l=0→bO l'=0) {w:Str} (hw:w.length≤aX) (haa:AK l' w=AK l w) (hown:RJ l=false→bO l=0→∀ H,M.run hZ [.agg l.row] H=some (.ret (.agg l'.row),H)) {H:List AObj} (hlv:∀ H,M.run fq [] H=some (.ret (.bool true),H)) :
  M.run lI [.agg l.row,.str w] H=some (.ret (.bool true),H):=by
 rw [aP M h rfl (c:=lN) rfl,lN]
 have a1:=fun H=>TK M hN hW hE hS hX hY hB hF hU hSo hP hV hA hl hw H
 have b1:=fun H=>RY M hN hR hE2 hQ hF hU hV hl hw H
 have c1:=fun H=>EL M hN hE2 hl (Nat.zero_le (List.length (α:=AObj) H))
 cases hgr:RJ l with
 |true=>
  simp (maxSteps:=3000000) (maxDischargeDepth:=6) +contextual -implicitDefEqProofs only [amA M,amB,↓ab,↓aa,↓ah,↓ae,Nat.reduceBEq,Nat.reduceAdd,env,al,iQ,amG,AV.cell,Nat.reduceMul,Nat.reduceLeDiff,hlv,Hd M hg hl,hgr,Bool.true_or,Nat.zero_le,bJ,cut_app]
 |false=>
 cases hk:bO l == 0 with
 |false=>
  have e1:PR l w = .tuple [.slice .any 3 [],.int .u8 (bO l)]:=by simp [PR,hk,sel]
  rw [e1] at a1 b1
  have d1:=fun H=>Z6 M hN hE hO hl hk H
  have s1:=fun H=>xS M hO hSA (l:=[]) (ta:=.any) (tb:=.any) (by simp) (by simp) H
  simp only [List.map_nil] at s1
  simp (maxSteps:=3000000) (maxDischargeDepth:=6) +contextual -implicitDefEqProofs only [amA M,amB,↓ab,↓aa,↓ah,↓ae,Nat.reduceBEq,Nat.reduceAdd,env,al,iQ,amG,AV.cell,Nat.reduceMul,Nat.reduceLeDiff,hlv,Hd M hg hl,hgr,Bool.false_or,Nat.zero_le,a1,b1,c1,d1,s1,hk,Z3,bJ,bne,beq_self_eq_true,Bool.not_true,Bool.not_false,cut_app]
 |true=>
  have hk0:=eq_of_beq hk
  have hk2:=hkk hk0
  have hown:=hown hgr hk0
  obtain ⟨L,r,d1,hget⟩:=Z7 M hN hW hE hS hX hY hB hF hA hO hl hl' hk0 hk2 hown (H++[.cells l.row am])
  have g1:=PW M hN hW hE hS hX hY hB hF hU hSo hP hV hA hO hl' hk2 hw hget
  simp only [List.length_append,List.length_cons,List.length_nil,Nat.zero_add,Nat.add_assoc,Nat.reduceAdd,List.append_assoc,List.cons_append,List.nil_append] at d1 g1
  have hal:=ZV hk0 w
  cases hww:Fg w with
  |false=>
   have e1:PR l w = .tuple [.slice .any 3 [],.int .u8 1]:=by simp [PR,hk,hww,sel]
   have e2:X6 l' w = .tuple [.slice .any 3 [],.int .u8 1]:=by simp [X6,hww,sel]
   rw [e1] at a1 b1
   rw [e2] at g1
   have s1:=fun H=>xS M hO hSA (l:=[]) (ta:=.any) (tb:=.any) (by simp) (by simp) H
   simp only [List.map_nil] at s1
   rw [hk0] at c1
   simp (maxSteps:=3000000) (maxDischargeDepth:=6) +contextual -implicitDefEqProofs only [amA M,amB,↓ab,↓aa,↓ah,↓ae,Nat.reduceBEq,Nat.reduceAdd,env,al,iQ,amG,AV.cell,Nat.reduceMul,Nat.reduceLeDiff,hlv,Hd M hg hl,hgr,Bool.false_or,Nat.zero_le,a1,b1,c1,d1,g1,s1,bJ,bne,beq_self_eq_true,Bool.not_true,Bool.not_false,cut_app]
  |true=>
   have e1:PR l w = .tuple [.slice .any 3 ((AK l w).map aq.row),.int .u8 0]:=by simp [PR,hk,hww,sel]
   have e2:X6 l' w = .tuple [.slice .any 3 ((AK l w).map aq.row),.int .u8 0]:=by simp [X6,hww,sel,haa]
   rw [e1] at a1 b1
   rw [e2] at g1
   have s1:=fun H=>xS M hO hSA (l:=AK l w) (ta:=.any) (tb:=.any) (by omega) (fun a ha=>by have:=abo ha;simp only [aX];omega) H
   rw [hk0] at c1
   generalize AK l w=as at a1 b1 g1 s1
   simp (maxSteps:=3000000) (maxDischargeDepth:=6) +contextual -implicitDefEqProofs only [amA M,amB,↓ab,↓aa,↓ah,↓ae,Nat.reduceBEq,Nat.reduceAdd,env,al,iQ,amG,AV.cell,Nat.reduceMul,Nat.reduceLeDiff,hlv,Hd M hg hl,hgr,Bool.false_or,Nat.zero_le,a1,b1,c1,d1,g1,s1,bJ,bne,beq_self_eq_true,Bool.not_true,Bool.not_false,cut_app]
end
section
attribute [local congr] aF bU be aG aS aL aH aC aD aM aN
variable{E:bz}(M:cG cB E)
def Tag.cl:Tag→Tag
 |.nil=>.nil
 |_=>.any
def Sl.an{α:Type}(s:Sl α):Sl α:=⟨.any,s.l⟩
def Sl.mp{α β:Type}(f:α→β)(s:Sl α):Sl β:=⟨s.tag.cl,s.l.map f⟩
def aV.cl(x:aV):aV:=⟨x.name,x.values.an⟩
def aR.cl(x:aR):aR:=⟨x.cut,x.pre,x.add,x.feats.an⟩
def aK.cl(x:aK):aK:=⟨x.name,x.slots.mp aR.cl⟩
def aw.cl(x:aw):aw:=⟨x.lem,x.cls,x.feats.an,x.forms.an⟩
def bN.cl(x:bN):bN:=⟨x.cls,x.glue,x.feats.an⟩
def Lex.cl(l:Lex):Lex:=⟨l.vowels,l.traits.mp aV.cl,l.classes.mp aK.cl,l.entries.mp aw.cl,l.spells.an,l.links.mp bN.cl⟩
theorem Z9{n:Nat}(t:Tag):ln n t.cl:=by cases t<;>trivial
theorem QU{α:Type}{s:Sl α}{n:Nat}{p:α→Prop}(h:s.ok n p):s.an.ok n p:=⟨trivial,h.len,h.all⟩
theorem TY{α β:Type}{f:α→β}{s:Sl α}{n:Nat}{p:α→Prop}{q:β→Prop}(h:s.ok n p)(hf:∀ x,p x→q (f x)):(s.mp f).ok n q:=⟨Z9 _,by simpa [Sl.mp] using h.len,fun y hy=>by
 obtain ⟨x,hx,rfl⟩:=List.mem_map.1 hy
 exact hf x (h.all x hx)⟩
theorem ad5{l:Lex}{n:Nat}(h:l.ok n):l.cl.ok n:=
 ⟨h.vowels,TY h.traits fun _ h=>⟨h.name,QU h.values⟩,TY h.classes fun _ h=>⟨h.name,TY h.slots fun _ h=>⟨h.cut,h.pre,h.add,QU h.feats⟩⟩,
  TY h.entries fun _ h=>⟨h.lem,h.cls,QU h.feats,QU h.forms⟩,QU h.spells,TY h.links fun _ h=>⟨h.cls,h.glue,QU h.feats⟩⟩
theorem TZ{α β:Type}(f:α→β)(F:Nat→β→Int):∀ (l:List α) (i:Nat),vm F i (l.map f)=vm (fun i x=>F i (f x)) i l
 |[],_=>rfl
 |x::l,i=>by rw [List.map_cons,vm,vm,TZ f F l (i+1)]
theorem DT{α β:Type}(m:Int)(f:α→β)(F:Nat→β→Int)(l:List α):nf m F (l.map f)=nf m (fun i x=>F i (f x)) l:=by
 rw [nf,nf,TZ,List.length_map]
theorem O5{α β:Type}(f:α→β)(p:β→Bool)(q:α→Bool)(h:∀ x,p (f x)=q x):∀ l:List α,(l.map f).find? p=(l.find? q).map f
 |[]=>rfl
 |x::l=>by
  rw [List.map_cons,List.find?_cons,List.find?_cons,h x]
  cases q x with
  |true=>rfl
  |false=>exact O5 f p q h l
theorem R0(l:Lex)(s:Str):tu l.cl s=(tu l s).map aK.cl:=O5 _ _ _ (fun _=>rfl) l.classes.l
theorem any_map{α β:Type}(f:α→β)(p:β→Bool)(q:α→Bool)(h:∀ x,p (f x)=q x)(l:List α):(l.map f).any p=l.any q:=by
 rw [List.any_map];congr 1;funext x;exact h x
theorem ac0(l:Lex)(b:List au)(i:Nat)(f:au):HO l.cl b i f=HO l b i f:=by
 unfold HO
 rw [show l.cl.traits.l.find? (fun t=>t.name == f.name)=(l.traits.l.find? fun t=>t.name == f.name).map aV.cl from O5 _ _ _ (fun _=>rfl) l.traits.l]
 cases l.traits.l.find? fun t=>t.name == f.name<;>rfl
theorem LC(l:Lex)(b:List au):oz l.cl b=oz l b:=by
 unfold oz
 rw [show HO l.cl b=HO l b from funext fun i=>funext fun f=>ac0 l b i f]
theorem O6{α β:Type}(f:α→β)(p:β→Bool)(q:α→Bool)(h:∀ x,p (f x)=q x)(l:List α)(i:Nat):((l.map f).take i).any p=(l.take i).any q:=by
 rw [← List.map_take];exact any_map f p q h _
theorem aaa(l:Lex):bO l.cl=bO l:=by
 have h1:vo l.cl=vo l:=by
  unfold vo
  rw [show l.cl.traits.l=l.traits.l.map aV.cl from rfl,DT]
  congr 1;funext i t
  unfold GA
  rw [show l.cl.traits.l=l.traits.l.map aV.cl from rfl,O6 aV.cl _ (fun o=>o.name == t.name) (fun _=>rfl)]
  rfl
 have h2:ug l.cl=ug l:=by
  unfold ug
  rw [show l.cl.classes.l=l.classes.l.map aK.cl from rfl,DT]
  congr 1;funext i c
  unfold AG
  rw [show l.cl.classes.l=l.classes.l.map aK.cl from rfl,O6 aK.cl _ (fun o=>o.name == c.name) (fun _=>rfl)]
  rw [show c.cl.slots.l=c.slots.l.map aR.cl from rfl,DT,List.length_map]
  have:(fun (i:Nat) (s:aR)=>B2 l.cl s.cl)=fun i s=>B2 l s:=by
   funext i s
   unfold B2
   rw [LC]
   rfl
  rw [this]
  rfl
 have h3:wX l.cl=wX l:=by
  unfold wX
  rw [show l.cl.entries.l=l.entries.l.map aw.cl from rfl,DT]
  congr 1;funext i x
  unfold AH
  rw [show x.cl.cls=x.cls from rfl,R0]
  cases tu l x.cls with
  |none=>rfl
  |some c=>
   simp only [Option.map_some]
   rw [show l.cl.entries.l=l.entries.l.map aw.cl from rfl,O6 aw.cl _ (fun o=>o.lem == x.lem&&o.cls == x.cls) (fun _=>rfl),LC]
   rw [show c.cl.slots.l=c.slots.l.map aR.cl from rfl,any_map aR.cl _ (fun s=>nv x.feats.l s.feats.l) (fun _=>rfl),List.length_map]
   rfl
 have h4:yS l.cl=yS l:=rfl
 have h5:yT l.cl=yT l:=by
  unfold yT
  rw [show l.cl.links.l=l.links.l.map bN.cl from rfl,DT]
  congr 1;funext i x
  unfold Fh
  rw [show x.cl.cls=x.cls from rfl,R0]
  cases tu l x.cls with
  |none=>rfl
  |some c=>
   simp only [Option.map_some]
   rw [LC]
   rfl
 unfold bO
 rw [h1,h2,h3,h4,h5]
 rfl
theorem ac1(l:Lex)(x:aw)(s:aR)(q:Int):uP l.cl x.cl s.cl q=uP l x s q:=rfl
theorem WI(l:Lex)(x:aw)(e:Nat):∀ (t:List aR) (i:Nat),Br l.cl x.cl e i (t.map aR.cl)=Br l x e i t
 |[],_=>rfl
 |s::t,i=>by rw [List.map_cons,Br,Br,ac1,WI l x e t (i+1)]
theorem WJ(l:Lex):∀ (t:List aw) (e:Nat),Bs l.cl e (t.map aw.cl)=Bs l e t
 |[],_=>rfl
 |x::t,e=>by
  rw [List.map_cons,Bs,Bs,WJ l t (e+1),show x.cl.cls=x.cls from rfl,R0]
  congr 1
  cases tu l x.cls with
  |none=>rfl
  |some c=>exact WI l x e c.slots.l 0
theorem abu(l:Lex):jp l.cl=jp l:=WJ l l.entries.l 0
theorem aab(l:Lex)(e:Int):Bp l.cl e=(Bp l e).map aw.cl:=by
 unfold Bp
 split
 ·rfl
 ·exact List.getElem?_map ..
theorem ad6(l:Lex)(e q:Int):slF l.cl e q=(slF l e q).map aR.cl:=by
 unfold slF
 rw [aab]
 cases Bp l e with
 |none=>rfl
 |some x=>
  simp only [Option.map_some]
  rw [show x.cl.cls=x.cls from rfl,R0]
  cases tu l x.cls with
  |none=>rfl
  |some c=>
   simp only [Option.map_some,slC]
   split
   ·rfl
   ·exact List.getElem?_map ..
theorem WK(x:aw)(s:aR)(h:cq):∀ (t:List bN) (i:Nat),EQ x.cl s.cl h i (t.map bN.cl)=EQ x s h i t
 |[],_=>rfl
 |k::t,i=>by
  rw [List.map_cons,EQ,EQ,WK x s h t (i+1)]
  rfl
theorem abv(l:Lex)(h:cq):RU l.cl h=RU l h:=by
 unfold RU
 rw [ad6,aab]
 cases slF l h.e h.q with
 |none=>rfl
 |some s=>
  cases Bp l h.e with
  |none=>rfl
  |some x=>exact WK x s h l.links.l 0
theorem WL(l:Lex):∀ t:List cq,nN l.cl t=nN l t
 |[]=>rfl
 |h::t=>by rw [nN,nN,abv,WL l t]
theorem abw(l:Lex)(w:Str):AK l.cl w=AK l w:=by
 unfold AK
 rw [abu,WL]
end
section
attribute [local congr] aF bU be aG aS aL aH aC aD aM aN
variable{E:bz}(M:cG cB E)
theorem DU{α:Type}{row:α→List AV}{sz:Nat}(hr:∀ x,(row x).length=sz):∀ (l:List α) (i j:Nat) (x:α),l[i]?=some x→j<sz→((l.map row).flatten)[i*sz+j]?=(row x)[j]?
 |[],i,j,x,h,_=>by simp at h
 |y::l,0,j,x,h,hj=>by
  simp at h;subst h
  rw [List.map_cons,List.flatten_cons,Nat.zero_mul,Nat.zero_add,List.getElem?_append_left (by rw [hr];exact hj)]
 |y::l,i+1,j,x,h,hj=>by
  rw [List.map_cons,List.flatten_cons,List.getElem?_append_right (by rw [hr,Nat.add_mul];omega),hr,show (i+1)*sz+j-sz=i*sz+j by rw [Nat.add_mul];omega]
  exact DU hr l i j x (by simpa using h) hj
theorem DV{α:Type}{row:α→List AV}{sz:Nat}(hr:∀ x,(row x).length=sz){v:AV}{x x':α}{j:Nat}(hj:j<sz)(he:row x'=(row x).set j v):∀ (l:List α) (i:Nat),l[i]?=some x→((l.map row).flatten).set (i*sz+j) v=((l.set i x').map row).flatten
 |[],i,h=>by simp at h
 |y::l,0,h=>by
  simp at h;subst h
  rw [List.map_cons,List.flatten_cons,Nat.zero_mul,Nat.zero_add,List.set_append_left _ _ (by rw [hr];exact hj),List.set_cons_zero,List.map_cons,List.flatten_cons,he]
 |y::l,i+1,h=>by
  rw [List.map_cons,List.flatten_cons,List.set_append_right _ _ (by rw [hr,Nat.add_mul];omega),hr,show (i+1)*sz+j-sz=i*sz+j by rw [Nat.add_mul];omega,DV hr hj he l i (by simpa using h),List.set_cons_succ,List.map_cons,List.flatten_cons]
theorem DW{α:Type}{row:α→List AV}{sz:Nat}(hr:∀ x,(row x).length=sz):∀ l:List α,((l.map row).flatten).length=l.length*sz
 |[]=>by simp
 |y::l=>by rw [List.map_cons,List.flatten_cons,List.length_append,hr,DW hr l,List.length_cons,Nat.add_mul];omega
def o7{α:Type}(f:α→α)(i:Nat)(l:List α):List α:=(l.take i).map f++l.drop i
theorem R1{α:Type}(f:α→α)(l:List α):o7 f 0 l=l:=by simp [o7]
theorem Ko{α:Type}(f:α→α)(l:List α):o7 f l.length l=l.map f:=by simp [o7]
theorem DX{α:Type}(f:α→α)(i:Nat)(l:List α)(h:i≤l.length):(o7 f i l).length=l.length:=by simp [o7];omega
theorem Kq{α:Type}(f:α→α){i:Nat}{l:List α}{x:α}(h:l[i]?=some x):(o7 f i l)[i]?=some x:=by
 have hi:i<l.length:=(List.getElem?_eq_some_iff.1 h).1
 rw [o7,List.getElem?_append_right (by simp;omega),List.length_map,List.length_take,List.getElem?_drop,Nat.min_eq_left (by omega),Nat.sub_self,Nat.add_zero]
 exact h
theorem Kr{α:Type}(f:α→α){i:Nat}{l:List α}{x:α}(h:l[i]?=some x):(o7 f i l).set i (f x)=o7 f (i+1) l:=by
 have hi:i<l.length:=(List.getElem?_eq_some_iff.1 h).1
 have hx:l[i]=x:=by rw [List.getElem?_eq_getElem hi] at h;exact Option.some.inj h
 rw [o7,o7,List.set_append_right _ _ (by simp;omega),List.length_map,List.length_take,Nat.min_eq_left (by omega),Nat.sub_self,List.drop_eq_getElem_cons hi,List.set_cons_zero,List.take_add_one,h]
 simp
theorem O7{sz q n i:Nat}{room:Bool}(h:i<n)(k:IntKind):A6 sz (.rslice q 0 n sz room) (.int k (i:Int))=some (.ptr q (i*sz)):=by
 simp only [A6]
 simp [h]
theorem owl0(hO:AL E){L:List aV}(hL:∀ x∈L,x.values.kn∧x.values.l.length≤1000000)(hLn:L.length≤1000000){G H0:List AObj}{q:Nat}{row6:List AV}{T T2:TypeId}(h0:G[0]?=some (.cells row6 T))(h1:row6[1]?=some (.rslice q 0 L.length 2 true))(hq0:q≠0)(hq:q<G.length)(k:List Fra) :
  ∀ (n i:Nat) (He:List AObj),i+n=L.length →
  M.go bR H0 (.c kS :: .lp ⟨(some [1,2,31,32]),[],false⟩ kS He :: .blk 0 :: .c (.lv [1,2])::k) (kv [(1,.ptr 0 0),(2,.ptr 1 0),(31,.int .i64 L.length),(32,.int .i64 i)]) (G.set q (.cells ((o7 aV.cl i L).map aV.row).flatten T2)) =
   M.go bR H0 k (kv [(1,.ptr 0 0),(2,.ptr 1 0)]) (G.set q (.cells ((L.map aV.cl).map aV.row).flatten T2))
 |0,i,He,h=>by
  have e1:i=L.length:=by omega
  subst e1
  rw [Ko]
  rw [ao M kS.eq_1]
  simp (maxSteps:=3000000) (maxDischargeDepth:=6) +contextual -implicitDefEqProofs only [amA M,amB,↓ab,↓aa,↓ah,↓ae,Nat.reduceBEq,Nat.reduceAdd,env,al,d5,Nat.lt_irrefl]
 |n+1,i,He,h=>by
  have hi:i<L.length:=by omega
  have hx:L[i]?=some L[i]:=List.getElem?_eq_getElem hi
  obtain ⟨hkn,hvn⟩:=hL L[i] (List.getElem_mem hi)
  generalize L[i]=x at hx hkn hvn
  have hws:=bp hi (show L.length≤aX by simp only [aX];omega)
  have hg0:∀ c,(G.set q c)[0]?=some (.cells row6 T):=fun c=>by rw [List.getElem?_set_ne hq0];exact h0
  have hgq:∀ c,(G.set q c)[q]?=some c:=fun c=>List.getElem?_set_self hq
  have hr1:=mR h1
  have hug:=Kq aV.cl hx
  have hld:b8 none ((o7 aV.cl i L).map aV.row).flatten (i*2+1)=some (.slice x.values.tag 1 (x.values.l.map eH)):=mR (by rw [DU (row:=aV.row) (sz:=2) (fun _=>rfl) _ i 1 x hug (by decide)];rfl)
  have hcl:=fun H=>PV M hO hkn hvn H
  have hset:stO 1 (G.set q (.cells ((o7 aV.cl i L).map aV.row).flatten T2)) q (i*2+1) [.slice .any 1 (x.values.l.map eH)] (some (.cells ((o7 aV.cl i L).map aV.row).flatten T2))=some (G.set q (.cells ((o7 aV.cl (i+1) L).map aV.row).flatten T2)):=by
   have e:=ER (o:=i*2+1) (v:=.slice .any 1 (x.values.l.map eH)) (hgq (.cells ((o7 aV.cl i L).map aV.row).flatten T2)) (by rw [DW (sz:=2) (fun _=>rfl),DX _ _ _ (by omega)];omega) rfl
   rw [hgq] at e
   rw [e,List.set_set,DV (row:=aV.row) (sz:=2) (x:=x) (x':=x.cl) (fun _=>rfl) (by decide) rfl _ i hug,Kr _ hx]
  have ih:=fun He=>owl0 hO hL hLn (T2:=T2) (H0:=H0) h0 h1 hq0 hq k n (i+1) He (by omega)
  simp only [kv_cons,kv_nil] at ih ⊢
  rw [ao M kS.eq_1]
  simp (maxSteps:=3000000) (maxDischargeDepth:=6) +contextual -implicitDefEqProofs only [amA M,amB,↓ab,↓aa,↓ah,↓ae,Nat.reduceBEq,Nat.reduceAdd,env,al,d5,amG,AV.cell,Nat.reduceMul,Nat.reduceLeDiff,hi,hx,hg0,hgq,hr1,O7 hi,hld,hcl,hset,ih,hws]
theorem owl4(hO:AL E){L:List bN}(hL:∀ x∈L,x.feats.kn∧x.feats.l.length≤1000000)(hLn:L.length≤1000000){G H0:List AObj}{q:Nat}{row6:List AV}{T T2:TypeId}(h0:G[0]?=some (.cells row6 T))(h1:row6[5]?=some (.rslice q 0 L.length 3 true))(hq0:q≠0)(hq:q<G.length)(k:List Fra) :
  ∀ (n i:Nat) (He:List AObj),i+n=L.length →
  M.go bR H0 (.c kW :: .lp ⟨(some [1,2,117,118]),[],false⟩ kW He :: .blk 8 :: .c (.lv [1,2])::k) (kv [(1,.ptr 0 0),(2,.ptr 1 0),(117,.int .i64 L.length),(118,.int .i64 i)]) (G.set q (.cells ((o7 bN.cl i L).map bN.row).flatten T2)) =
   M.go bR H0 k (kv [(1,.ptr 0 0),(2,.ptr 1 0)]) (G.set q (.cells ((L.map bN.cl).map bN.row).flatten T2))
 |0,i,He,h=>by
  have e1:i=L.length:=by omega
  subst e1
  rw [Ko]
  rw [ao M kW.eq_1]
  simp (maxSteps:=3000000) (maxDischargeDepth:=6) +contextual -implicitDefEqProofs only [amA M,amB,↓ab,↓aa,↓ah,↓ae,Nat.reduceBEq,Nat.reduceAdd,env,al,d5,Nat.lt_irrefl]
 |n+1,i,He,h=>by
  have hi:i<L.length:=by omega
  have hx:L[i]?=some L[i]:=List.getElem?_eq_getElem hi
  obtain ⟨hkn,hvn⟩:=hL L[i] (List.getElem_mem hi)
  generalize L[i]=x at hx hkn hvn
  have hws:=bp hi (show L.length≤aX by simp only [aX];omega)
  have hg0:∀ c,(G.set q c)[0]?=some (.cells row6 T):=fun c=>by rw [List.getElem?_set_ne hq0];exact h0
  have hgq:∀ c,(G.set q c)[q]?=some c:=fun c=>List.getElem?_set_self hq
  have hr1:=mR h1
  have hug:=Kq bN.cl hx
  have hld:b8 none ((o7 bN.cl i L).map bN.row).flatten (i*3+2)=some (.slice x.feats.tag 2 (x.feats.l.map au.row)):=mR (by rw [DU (row:=bN.row) (sz:=3) (fun _=>rfl) _ i 2 x hug (by decide)];rfl)
  have hcl:=fun H=>AM M hO hkn hvn H
  have hset:stO 1 (G.set q (.cells ((o7 bN.cl i L).map bN.row).flatten T2)) q (i*3+2) [.slice .any 2 (x.feats.l.map au.row)] (some (.cells ((o7 bN.cl i L).map bN.row).flatten T2))=some (G.set q (.cells ((o7 bN.cl (i+1) L).map bN.row).flatten T2)):=by
   have e:=ER (o:=i*3+2) (v:=.slice .any 2 (x.feats.l.map au.row)) (hgq (.cells ((o7 bN.cl i L).map bN.row).flatten T2)) (by rw [DW (sz:=3) (fun _=>rfl),DX _ _ _ (by omega)];omega) rfl
   rw [hgq] at e
   rw [e,List.set_set,DV (row:=bN.row) (sz:=3) (x:=x) (x':=x.cl) (fun _=>rfl) (by decide) rfl _ i hug,Kr _ hx]
  have ih:=fun He=>owl4 hO hL hLn (T2:=T2) (H0:=H0) h0 h1 hq0 hq k n (i+1) He (by omega)
  simp only [kv_cons,kv_nil] at ih ⊢
  rw [ao M kW.eq_1]
  simp (maxSteps:=3000000) (maxDischargeDepth:=6) +contextual -implicitDefEqProofs only [amA M,amB,↓ab,↓aa,↓ah,↓ae,Nat.reduceBEq,Nat.reduceAdd,env,al,d5,amG,AV.cell,Nat.reduceMul,Nat.reduceLeDiff,hi,hx,hg0,hgq,hr1,O7 hi,hld,hcl,hset,ih,hws]
def aw.c1(x:aw):aw:=⟨x.lem,x.cls,x.feats.an,x.forms⟩
theorem owl3(hW:WdE M)(hO:AL E){L:List aw}(hL:∀ x∈L,(x.feats.kn∧x.feats.l.length≤1000000)∧x.forms.kn∧x.forms.l.length≤1000000)(hLn:L.length≤1000000){G H0:List AObj}{q:Nat}{row6:List AV}{T T2:TypeId}(h0:G[0]?=some (.cells row6 T))(h1:row6[3]?=some (.rslice q 0 L.length 4 true))(hq0:q≠0)(hq:q<G.length)(k:List Fra) :
  ∀ (n i:Nat) (He:List AObj),i+n=L.length →
  M.go bR H0 (.c kV :: .lp ⟨(some [1,2,86,87]),[],false⟩ kV He :: .blk 6 :: .c (.lv [1,2])::k) (kv [(1,.ptr 0 0),(2,.ptr 1 0),(86,.int .i64 L.length),(87,.int .i64 i)]) (G.set q (.cells ((o7 aw.cl i L).map aw.row).flatten T2)) =
   M.go bR H0 k (kv [(1,.ptr 0 0),(2,.ptr 1 0)]) (G.set q (.cells ((L.map aw.cl).map aw.row).flatten T2))
 |0,i,He,h=>by
  have e1:i=L.length:=by omega
  subst e1
  rw [Ko]
  rw [ao M kV.eq_1]
  simp (maxSteps:=3000000) (maxDischargeDepth:=6) +contextual -implicitDefEqProofs only [amA M,amB,↓ab,↓aa,↓ah,↓ae,Nat.reduceBEq,Nat.reduceAdd,env,al,d5,Nat.lt_irrefl]
 |n+1,i,He,h=>by
  have hi:i<L.length:=by omega
  have hx:L[i]?=some L[i]:=List.getElem?_eq_getElem hi
  obtain ⟨⟨hkn,hvn⟩,hkn2,hvn2⟩:=hL L[i] (List.getElem_mem hi)
  generalize L[i]=x at hx hkn hvn hkn2 hvn2
  have hws:=bp hi (show L.length≤aX by simp only [aX];omega)
  have hg0:∀ c,(G.set q c)[0]?=some (.cells row6 T):=fun c=>by rw [List.getElem?_set_ne hq0];exact h0
  have hgq:∀ c,(G.set q c)[q]?=some c:=fun c=>List.getElem?_set_self hq
  have hr1:=mR h1
  have hug:=Kq aw.cl hx
  have hld:b8 none ((o7 aw.cl i L).map aw.row).flatten (i*4+2)=some (.slice x.feats.tag 2 (x.feats.l.map au.row)):=mR (by rw [DU (row:=aw.row) (sz:=4) (fun _=>rfl) _ i 2 x hug (by decide)];rfl)
  have hld2:b8 none ((o7 aw.cl i L).map aw.row).flatten (i*4+3)=some (.slice x.forms.tag 2 (x.forms.l.map bL.row)):=mR (by rw [DU (row:=aw.row) (sz:=4) (fun _=>rfl) _ i 3 x hug (by decide)];rfl)
  have hcl:=fun H=>AM M hO hkn hvn H
  have hcl2:=fun H=>ML M hO hkn2 hvn2 H
  have hset:stO 1 (G.set q (.cells ((o7 aw.cl i L).map aw.row).flatten T2)) q (i*4+2) [.slice .any 2 (x.feats.l.map au.row)] (some (.cells ((o7 aw.cl i L).map aw.row).flatten T2))=some (G.set q (.cells (((o7 aw.cl i L).set i x.c1).map aw.row).flatten T2)):=by
   have e:=ER (o:=i*4+2) (v:=.slice .any 2 (x.feats.l.map au.row)) (hgq (.cells ((o7 aw.cl i L).map aw.row).flatten T2)) (by rw [DW (sz:=4) (fun _=>rfl),DX _ _ _ (by omega)];omega) rfl
   rw [hgq] at e
   rw [e,List.set_set,DV (row:=aw.row) (sz:=4) (x:=x) (x':=x.c1) (fun _=>rfl) (by decide) rfl _ i hug]
  have hul:i<(o7 aw.cl i L).length:=by rw [DX _ _ _ (by omega)];exact hi
  have hset2:stO 1 (G.set q (.cells (((o7 aw.cl i L).set i x.c1).map aw.row).flatten T2)) q (i*4+3) [.slice .any 2 (x.forms.l.map bL.row)] (some (.cells (((o7 aw.cl i L).set i x.c1).map aw.row).flatten T2))=some (G.set q (.cells ((o7 aw.cl (i+1) L).map aw.row).flatten T2)):=by
   have e:=ER (o:=i*4+3) (v:=.slice .any 2 (x.forms.l.map bL.row)) (hgq (.cells (((o7 aw.cl i L).set i x.c1).map aw.row).flatten T2)) (by rw [DW (sz:=4) (fun _=>rfl),List.length_set,DX _ _ _ (by omega)];omega) rfl
   rw [hgq] at e
   rw [e,List.set_set,DV (row:=aw.row) (sz:=4) (x:=x.c1) (x':=x.cl) (fun _=>rfl) (by decide) rfl _ i (List.getElem?_set_self hul),List.set_set,Kr _ hx]
  have hw1:=fun H T L=>JE hW (g:=dy) (first:=[]) (cap:=[]) (args:=[.slice x.feats.tag 2 (x.feats.l.map au.row)]) (v:=.slice .any 2 (x.feats.l.map au.row)) hcl H T L
  have hw2:=fun H T L=>JE hW (g:=dQ) (first:=[]) (cap:=[]) (args:=[.slice x.forms.tag 2 (x.forms.l.map bL.row)]) (v:=.slice .any 2 (x.forms.l.map bL.row)) hcl2 H T L
  have hap:∀ r,ve cB [q,q] [0] r=r:=fun r=>Ls (by intro x h1 h2;simp at h1 h2;omega)
  have ih:=fun He=>owl3 hW hO hL hLn (T2:=T2) (H0:=H0) h0 h1 hq0 hq k n (i+1) He (by omega)
  simp only [kv_cons,kv_nil] at ih ⊢
  rw [ao M kV.eq_1]
  simp (maxSteps:=3000000) (maxDischargeDepth:=6) +contextual -implicitDefEqProofs only [amA M,amB,↓ab,↓aa,↓ah,↓ae,Nat.reduceBEq,Nat.reduceAdd,env,al,d5,amG,AV.cell,Nat.reduceMul,Nat.reduceLeDiff,hi,hx,hg0,hgq,hr1,O7 hi,hld,hld2,hcl,hcl2,zT hW,hw1,hw2,amW,hap,hset,hset2,ih,hws]
end
section
attribute [local congr] aF bU be aG aS aL aH aC aD aM aN
variable{E:bz}(M:cG cB E)
def mL(rows:List (List AV))(e:TypeId):List AObj:=
 match rows with
 |[]=>[]
 |_::_=>[.cells rows.flatten e]
theorem DY{α:Type}{s:Sl α}(row:α→List AV)(e:TypeId)(hs:s.kn):CD s row e=mL (s.l.map row) e:=by
 obtain ⟨tg,l⟩:=s
 simp only [Sl.kn] at hs
 rcases hs with ⟨rfl,rfl⟩ | rfl
 ·rfl
 ·cases l<;>rfl
theorem Ks{α:Type}{s:Sl α}(hs:s.kn)(H:List AObj)(n sz:Nat):C7 H .sl (ic n sz s)=some (.int .i64 s.l.length):=by
 obtain ⟨tg,l⟩:=s
 simp only [Sl.kn] at hs
 rcases hs with ⟨rfl,rfl⟩ | rfl
 ·rfl
 ·cases l<;>rfl
theorem AN{α:Type}(s:Sl α)(n sz:Nat):(ic n sz s).cell=true:=by
 obtain ⟨tg,l⟩:=s
 cases tg<;>cases l<;>rfl
theorem O8{α:Type}(s:Sl α)(n sz:Nat):iI (ic n sz s)=some [ic n sz s]:=by
 obtain ⟨tg,l⟩:=s
 cases tg<;>cases l<;>rfl
theorem zr{α:Type}(A B:List α)(x y:α):(A++(x::B)).set A.length y=A++(y::B):=by
 rw [List.set_append_right _ _ (Nat.le_refl _),Nat.sub_self,List.set_cons_zero]
theorem R3{α:Type}(A B:List α)(x:α):(A++(x::B))[A.length]?=some x:=by
 rw [List.getElem?_append_right (Nat.le_refl _),Nat.sub_self];rfl
theorem GU{α:Type}{s:Sl α}(hs:s.kn):(s.l=[]∧∀ n sz,ic n sz s = .slice (if s.tag = .nil then .nil else .full) sz [])∨∃ x l,s.l=x::l∧∀ n sz,ic n sz s = .rslice n 0 s.l.length sz true:=by
 obtain ⟨tg,l⟩:=s
 simp only [Sl.kn] at hs
 rcases hs with ⟨rfl,rfl⟩ | rfl
 ·exact .inl ⟨rfl,fun _ _=>rfl⟩
 ·cases l with
  |nil=>exact .inl ⟨rfl,fun _ _=>rfl⟩
  |cons x l=>exact .inr ⟨x,l,rfl,fun _ _=>rfl⟩
theorem owW0(hO:AL E){s:Sl aV}(hs:s.kn)(hL:∀ x∈s.l,x.values.kn∧x.values.l.length≤1000000)(hLn:s.l.length≤1000000){A B H0:List AObj}{row6:List AV}{T:TypeId}(h0:A[0]?=some (.cells row6 T))(h1:row6[1]?=some (ic A.length 2 s))(k:List Fra)(He:List AObj) :
  M.go bR H0 (.c kS :: .lp ⟨(some [1,2,31,32]),[],false⟩ kS He :: .blk 0 :: .c (.lv [1,2])::k) (kv [(1,.ptr 0 0),(2,.ptr 1 0),(31,.int .i64 s.l.length),(32,.int .i64 0)]) (A++(mL (s.l.map aV.row) ce++B)) =
   M.go bR H0 k (kv [(1,.ptr 0 0),(2,.ptr 1 0)]) (A++(mL ((s.l.map aV.cl).map aV.row) ce++B)):=by
 have hA:0<A.length:=(List.getElem?_eq_some_iff.1 h0).1
 rcases GU hs with ⟨e, -⟩ | ⟨x,l,e,hv⟩
 ·rw [e]
  simp only [List.map_nil,mL,List.nil_append,List.length_nil]
  rw [ao M kS.eq_1]
  simp (maxSteps:=3000000) (maxDischargeDepth:=6) +contextual -implicitDefEqProofs only [amA M,amB,↓ab,↓aa,↓ah,↓ae,Nat.reduceBEq,Nat.reduceAdd,env,al,d5,Nat.lt_irrefl,Int.lt_irrefl,Int.ofNat_zero]
 ·rw [hv] at h1
  have h:=owl0 M hO hL hLn (G:=A++(AObj.cells (s.l.map aV.row).flatten ce::B)) (H0:=H0) (T2:=ce) (q:=A.length) (row6:=row6) (T:=T) (by rw [List.getElem?_append_left hA];exact h0) h1 (by omega) (by simp) k s.l.length 0 He (by omega)
  rw [zr,zr,R1] at h
  have o1:mL (s.l.map aV.row) ce=[AObj.cells (s.l.map aV.row).flatten ce]:=by rw [e];rfl
  have o2:mL ((s.l.map aV.cl).map aV.row) ce=[AObj.cells ((s.l.map aV.cl).map aV.row).flatten ce]:=by rw [e];rfl
  rw [o1,o2]
  exact h
theorem owW4(hO:AL E){s:Sl bN}(hs:s.kn)(hL:∀ x∈s.l,x.feats.kn∧x.feats.l.length≤1000000)(hLn:s.l.length≤1000000){A B H0:List AObj}{row6:List AV}{T:TypeId}(h0:A[0]?=some (.cells row6 T))(h1:row6[5]?=some (ic A.length 3 s))(k:List Fra)(He:List AObj) :
  M.go bR H0 (.c kW :: .lp ⟨(some [1,2,117,118]),[],false⟩ kW He :: .blk 8 :: .c (.lv [1,2])::k) (kv [(1,.ptr 0 0),(2,.ptr 1 0),(117,.int .i64 s.l.length),(118,.int .i64 0)]) (A++(mL (s.l.map bN.row) dK++B)) =
   M.go bR H0 k (kv [(1,.ptr 0 0),(2,.ptr 1 0)]) (A++(mL ((s.l.map bN.cl).map bN.row) dK++B)):=by
 have hA:0<A.length:=(List.getElem?_eq_some_iff.1 h0).1
 rcases GU hs with ⟨e, -⟩ | ⟨x,l,e,hv⟩
 ·rw [e]
  simp only [List.map_nil,mL,List.nil_append,List.length_nil]
  rw [ao M kW.eq_1]
  simp (maxSteps:=3000000) (maxDischargeDepth:=6) +contextual -implicitDefEqProofs only [amA M,amB,↓ab,↓aa,↓ah,↓ae,Nat.reduceBEq,Nat.reduceAdd,env,al,d5,Nat.lt_irrefl,Int.lt_irrefl,Int.ofNat_zero]
 ·rw [hv] at h1
  have h:=owl4 M hO hL hLn (G:=A++(AObj.cells (s.l.map bN.row).flatten dK::B)) (H0:=H0) (T2:=dK) (q:=A.length) (row6:=row6) (T:=T) (by rw [List.getElem?_append_left hA];exact h0) h1 (by omega) (by simp) k s.l.length 0 He (by omega)
  rw [zr,zr,R1] at h
  have o1:mL (s.l.map bN.row) dK=[AObj.cells (s.l.map bN.row).flatten dK]:=by rw [e];rfl
  have o2:mL ((s.l.map bN.cl).map bN.row) dK=[AObj.cells ((s.l.map bN.cl).map bN.row).flatten dK]:=by rw [e];rfl
  rw [o1,o2]
  exact h
theorem owW3(hW:WdE M)(hO:AL E){s:Sl aw}(hs:s.kn)(hL:∀ x∈s.l,(x.feats.kn∧x.feats.l.length≤1000000)∧x.forms.kn∧x.forms.l.length≤1000000)(hLn:s.l.length≤1000000){A B H0:List AObj}{row6:List AV}{T:TypeId}(h0:A[0]?=some (.cells row6 T))(h1:row6[3]?=some (ic A.length 4 s))(k:List Fra)(He:List AObj) :
  M.go bR H0 (.c kV :: .lp ⟨(some [1,2,86,87]),[],false⟩ kV He :: .blk 6 :: .c (.lv [1,2])::k) (kv [(1,.ptr 0 0),(2,.ptr 1 0),(86,.int .i64 s.l.length),(87,.int .i64 0)]) (A++(mL (s.l.map aw.row) bq++B)) =
   M.go bR H0 k (kv [(1,.ptr 0 0),(2,.ptr 1 0)]) (A++(mL ((s.l.map aw.cl).map aw.row) bq++B)):=by
 have hA:0<A.length:=(List.getElem?_eq_some_iff.1 h0).1
 rcases GU hs with ⟨e, -⟩ | ⟨x,l,e,hv⟩
 ·rw [e]
  simp only [List.map_nil,mL,List.nil_append,List.length_nil]
  rw [ao M kV.eq_1]
  simp (maxSteps:=3000000) (maxDischargeDepth:=6) +contextual -implicitDefEqProofs only [amA M,amB,↓ab,↓aa,↓ah,↓ae,Nat.reduceBEq,Nat.reduceAdd,env,al,d5,Nat.lt_irrefl,Int.lt_irrefl,Int.ofNat_zero]
 ·rw [hv] at h1
  have h:=owl3 M hW hO hL hLn (G:=A++(AObj.cells (s.l.map aw.row).flatten bq::B)) (H0:=H0) (T2:=bq) (q:=A.length) (row6:=row6) (T:=T) (by rw [List.getElem?_append_left hA];exact h0) h1 (by omega) (by simp) k s.l.length 0 He (by omega)
  rw [zr,zr,R1] at h
  have o1:mL (s.l.map aw.row) bq=[AObj.cells (s.l.map aw.row).flatten bq]:=by rw [e];rfl
  have o2:mL ((s.l.map aw.cl).map aw.row) bq=[AObj.cells ((s.l.map aw.cl).map aw.row).flatten bq]:=by rw [e];rfl
  rw [o1,o2]
  exact h
theorem owl1(hO:AL E){L:List aR}(hL:∀ x∈L,x.feats.kn∧x.feats.l.length≤1000000)(hLn:L.length≤1000000){G H0:List AObj}{q:Nat}{a4 a50 a51:AV}{T2:TypeId}(hq:q<G.length)(k:List Fra) :
  ∀ (n i:Nat) (He:List AObj),i+n=L.length →
  M.go bR H0 (.c kT :: .lp ⟨(some [1,2,4,5,50,51,62,63]),[],false⟩ kT He :: .blk 4 :: .c (.lv [1,2,4,5,50,51])::k) (kv [(1,.ptr 0 0),(2,.ptr 1 0),(4,a4),(5,.rslice q 0 L.length 4 true),(50,a50),(51,a51),(62,.int .i64 L.length),(63,.int .i64 i)]) (G.set q (.cells ((o7 aR.cl i L).map aR.row).flatten T2)) =
   M.go bR H0 k (kv [(1,.ptr 0 0),(2,.ptr 1 0),(4,a4),(5,.rslice q 0 L.length 4 true),(50,a50),(51,a51)]) (G.set q (.cells ((L.map aR.cl).map aR.row).flatten T2))
 |0,i,He,h=>by
  have e1:i=L.length:=by omega
  subst e1
  rw [Ko]
  rw [ao M kT.eq_1]
  simp (maxSteps:=3000000) (maxDischargeDepth:=6) +contextual -implicitDefEqProofs only [amA M,amB,↓ab,↓aa,↓ah,↓ae,Nat.reduceBEq,Nat.reduceAdd,env,al,d5,Nat.lt_irrefl]
 |n+1,i,He,h=>by
  have hi:i<L.length:=by omega
  have hx:L[i]?=some L[i]:=List.getElem?_eq_getElem hi
  obtain ⟨hkn,hvn⟩:=hL L[i] (List.getElem_mem hi)
  generalize L[i]=x at hx hkn hvn
  have hws:=bp hi (show L.length≤aX by simp only [aX];omega)
  have hgq:∀ c,(G.set q c)[q]?=some c:=fun c=>List.getElem?_set_self hq
  have hug:=Kq aR.cl hx
  have hld:b8 none ((o7 aR.cl i L).map aR.row).flatten (i*4+3)=some (.slice x.feats.tag 2 (x.feats.l.map au.row)):=mR (by rw [DU (row:=aR.row) (sz:=4) (fun _=>rfl) _ i 3 x hug (by decide)];rfl)
  have hcl:=fun H=>AM M hO hkn hvn H
  have hset:stO 1 (G.set q (.cells ((o7 aR.cl i L).map aR.row).flatten T2)) q (i*4+3) [.slice .any 2 (x.feats.l.map au.row)] (some (.cells ((o7 aR.cl i L).map aR.row).flatten T2))=some (G.set q (.cells ((o7 aR.cl (i+1) L).map aR.row).flatten T2)):=by
   have e:=ER (o:=i*4+3) (v:=.slice .any 2 (x.feats.l.map au.row)) (hgq (.cells ((o7 aR.cl i L).map aR.row).flatten T2)) (by rw [DW (sz:=4) (fun _=>rfl),DX _ _ _ (by omega)];omega) rfl
   rw [hgq] at e
   rw [e,List.set_set,DV (row:=aR.row) (sz:=4) (x:=x) (x':=x.cl) (fun _=>rfl) (by decide) rfl _ i hug,Kr _ hx]
  have ih:=fun He=>owl1 hO hL hLn (T2:=T2) (H0:=H0) (a4:=a4) (a50:=a50) (a51:=a51) hq k n (i+1) He (by omega)
  simp only [kv_cons,kv_nil] at ih ⊢
  rw [ao M kT.eq_1]
  simp (maxSteps:=3000000) (maxDischargeDepth:=6) +contextual -implicitDefEqProofs only [amA M,amB,↓ab,↓aa,↓ah,↓ae,Nat.reduceBEq,Nat.reduceAdd,env,al,d5,amG,AV.cell,Nat.reduceMul,Nat.reduceLeDiff,hi,hx,hgq,O7 hi,hld,hcl,hset,ih,hws]
theorem owW1(hO:AL E){s:Sl aR}(hs:s.kn)(hL:∀ x∈s.l,x.feats.kn∧x.feats.l.length≤1000000)(hLn:s.l.length≤1000000){A H0:List AObj}{a4 a50 a51:AV}{c:AV}(hc:c=ic A.length 4 s)(k:List Fra)(He:List AObj) :
  M.go bR H0 (.c kT :: .lp ⟨(some [1,2,4,5,50,51,62,63]),[],false⟩ kT He :: .blk 4 :: .c (.lv [1,2,4,5,50,51])::k) (kv [(1,.ptr 0 0),(2,.ptr 1 0),(4,a4),(5,c),(50,a50),(51,a51),(62,.int .i64 s.l.length),(63,.int .i64 0)]) (A++mL (s.l.map aR.row) aY) =
   M.go bR H0 k (kv [(1,.ptr 0 0),(2,.ptr 1 0),(4,a4),(5,c),(50,a50),(51,a51)]) (A++mL ((s.l.map aR.cl).map aR.row) aY):=by
 rcases GU hs with ⟨e, -⟩ | ⟨x,l,e,hv⟩
 ·rw [e]
  simp only [List.map_nil,mL,List.nil_append,List.length_nil]
  rw [ao M kT.eq_1]
  simp (maxSteps:=3000000) (maxDischargeDepth:=6) +contextual -implicitDefEqProofs only [amA M,amB,↓ab,↓aa,↓ah,↓ae,Nat.reduceBEq,Nat.reduceAdd,env,al,d5,Nat.lt_irrefl,Int.lt_irrefl,Int.ofNat_zero]
 ·rw [hv] at hc
  subst hc
  have h:=owl1 M hO hL hLn (G:=A++(AObj.cells (s.l.map aR.row).flatten aY::[])) (H0:=H0) (T2:=aY) (q:=A.length) (a4:=a4) (a50:=a50) (a51:=a51) (by simp) k s.l.length 0 He (by omega)
  rw [zr,zr,R1] at h
  have o1:mL (s.l.map aR.row) aY=[AObj.cells (s.l.map aR.row).flatten aY]:=by rw [e];rfl
  have o2:mL ((s.l.map aR.cl).map aR.row) aY=[AObj.cells ((s.l.map aR.cl).map aR.row).flatten aY]:=by rw [e];rfl
  rw [o1,o2]
  exact h
def owR(n:Nat):List aK→List (List AV)
 |[]=>[]
 |c::l=>[.str c.name,ic n 4 c.slots]::owR (n+(mL (c.slots.l.map aR.row) aY).length) l
def owO:List aK→List AObj
 |[]=>[]
 |c::l=>mL ((c.slots.l.map aR.cl).map aR.row) aY++owO l
theorem WM:∀ (l:List aK) (n:Nat),(owR n l).length=l.length
 |[],_=>rfl
 |c::l,n=>by rw [owR,List.length_cons,List.length_cons,WM l]
theorem zH:∀ (D:List (List AV)),(∀ r∈D,r.length=2)→D.flatten.length=D.length*2
 |[],_=>rfl
 |r::D,h=>by
  rw [List.flatten_cons,List.length_append,h r (by simp),zH D (fun r hr=>h r (by simp [hr])),List.length_cons,Nat.add_mul];omega
theorem AO{α β:Type}(f:α→β)(r1:α→List AV)(r2:β→List AV)(e:TypeId)(l:List α):(mL ((l.map f).map r2) e).length=(mL (l.map r1) e).length:=by cases l<;>rfl
theorem owl2(hO:AL E){m:Nat}(hm:m≤1000000){A H0:List AObj}{row6:List AV}{T T2:TypeId}(h0:A[0]?=some (.cells row6 T))(h1:row6[2]?=some (.rslice A.length 0 m 2 true))(k:List Fra) :
  ∀ (L:List aK) (hL:∀ c∈L,c.slots.kn∧c.slots.l.length≤1000000∧∀ x∈c.slots.l,x.feats.kn∧x.feats.l.length≤1000000) (D:List (List AV)) (hD:∀ r∈D,r.length=2) (hDm:D.length+L.length=m) (O He:List AObj),
  M.go bR H0 (.c kU :: .lp ⟨(some [1,2,50,51]),[],false⟩ kU He :: .blk 2 :: .c (.lv [1,2])::k) (kv [(1,.ptr 0 0),(2,.ptr 1 0),(50,.int .i64 m),(51,.int .i64 D.length)]) (A++(.cells (D.flatten++(L.map aK.row).flatten) T2::O)) =
   M.go bR H0 k (kv [(1,.ptr 0 0),(2,.ptr 1 0)]) (A++(.cells (D.flatten++(owR (A.length+1+O.length) L).flatten) T2::(O++owO L)))
 |[],hL,D,hD,hDm,O,He=>by
  have e1:D.length=m:=by simpa using hDm
  subst e1
  simp only [owR,owO,List.map_nil,List.append_nil]
  rw [ao M kU.eq_1]
  simp (maxSteps:=3000000) (maxDischargeDepth:=6) +contextual -implicitDefEqProofs only [amA M,amB,↓ab,↓aa,↓ah,↓ae,Nat.reduceBEq,Nat.reduceAdd,env,al,d5,Nat.lt_irrefl]
 |c::L,hL,D,hD,hDm,O,He=>by
  have hi:D.length<m:=by simp at hDm;omega
  have hA:0<A.length:=(List.getElem?_eq_some_iff.1 h0).1
  obtain ⟨hk,hn,hf⟩:=hL c (by simp)
  have hws:=bp hi (show m≤aX by simp only [aX];omega)
  have h0':∀ B,(A++B)[0]?=some (.cells row6 T):=fun B=>by rw [List.getElem?_append_left hA];exact h0
  have hr1:=mR h1
  have hl2:b8 none (D.flatten++((c::L).map aK.row).flatten) (D.length*2+1)=some (.slice c.slots.tag 4 (c.slots.l.map aR.row)):=mR (by
   rw [List.getElem?_append_right (by rw [zH D hD];omega),zH D hD,Nat.add_sub_cancel_left];rfl)
  have hcl:=O1 M hO hk hn (A++(AObj.cells (D.flatten++((c::L).map aK.row).flatten) T2::O))
  rw [DY _ _ hk,show (A++(AObj.cells (D.flatten++((c::L).map aK.row).flatten) T2::O)).length=A.length+1+O.length by simp;omega] at hcl
  have hin:=fun k He=>owW1 M hO hk hf hn (A:=A++(AObj.cells (D.flatten++((c::L).map aK.row).flatten) T2::O)) (H0:=H0) (a4:=.int .i64 D.length) (a50:=.int .i64 m) (a51:=.int .i64 D.length) (c:=ic (A.length+1+O.length) 4 c.slots) (by congr 1;simp;omega) k He
  have hlen:=fun H=>Ks hk H (A.length+1+O.length) 4
  have hcell:=AN c.slots (A.length+1+O.length) 4
  have hac:=O8 c.slots (A.length+1+O.length) 4
  have hset:∀ B,stO 1 (A++(AObj.cells (D.flatten++((c::L).map aK.row).flatten) T2::B)) A.length (D.length*2+1) [ic (A.length+1+O.length) 4 c.slots] (A++(AObj.cells (D.flatten++((c::L).map aK.row).flatten) T2::B))[A.length]? =
    some (A++(AObj.cells ((D++[[.str c.name,ic (A.length+1+O.length) 4 c.slots]]).flatten++(L.map aK.row).flatten) T2::B)):=fun B=>by
   rw [ER (R3 _ _ _) (by rw [List.length_append,zH D hD,List.map_cons,List.flatten_cons,List.length_append,show (aK.row c).length=2 from rfl];omega) hcell,zr]
   congr 3
   rw [List.set_append_right _ _ (by rw [zH D hD];omega),zH D hD,Nat.add_sub_cancel_left,List.flatten_append,List.append_assoc]
   rfl
  have hgm:=fun B=>R3 A B (AObj.cells (D.flatten++((c::L).map aK.row).flatten) T2)
  simp only [hgm] at hset
  have ih:=fun He=>owl2 hO hm (T2:=T2) (H0:=H0) h0 h1 k L (fun c hc=>hL c (by simp [hc])) (D++[[.str c.name,ic (A.length+1+O.length) 4 c.slots]]) (fun r hr=>by
   rcases List.mem_append.1 hr with h | h
   ·exact hD r h
   ·simp at h;subst h;rfl) (by simp at hDm ⊢;omega) (O++mL ((c.slots.l.map aR.cl).map aR.row) aY) He
  rw [show (D++[[AV.str c.name,ic (A.length+1+O.length) 4 c.slots]]).length=D.length+1 by simp] at ih
  have eR:owR (A.length+1+O.length) (c::L)=[.str c.name,ic (A.length+1+O.length) 4 c.slots]::owR (A.length+1+(O++mL ((c.slots.l.map aR.cl).map aR.row) aY).length) L:=by
   rw [owR,List.length_append,AO (r1:=aR.row)];rw [Nat.add_assoc (A.length+1)]
  have eF:∀ R:List (List AV),D.flatten++([AV.str c.name,ic (A.length+1+O.length) 4 c.slots]::R).flatten=(D++[[AV.str c.name,ic (A.length+1+O.length) 4 c.slots]]).flatten++R.flatten:=fun R=>by
   rw [List.flatten_append,List.append_assoc,List.flatten_cons,List.flatten_cons,List.flatten_nil,List.append_nil]
  rw [eR,owO,eF]
  clear eR eF hL hDm hD
  generalize (D++[[AV.str c.name,ic (A.length+1+O.length) 4 c.slots]]).flatten++(owR (A.length+1+(O++mL ((c.slots.l.map aR.cl).map aR.row) aY).length) L).flatten=Z at *
  generalize (D++[[AV.str c.name,ic (A.length+1+O.length) 4 c.slots]]).flatten++(L.map aK.row).flatten=Y at *
  generalize D.flatten++((c::L).map aK.row).flatten=X at *
  generalize ic (A.length+1+O.length) 4 c.slots=cv at *
  generalize mL ((c.slots.l.map aR.cl).map aR.row) aY=o2 at *
  generalize mL (c.slots.l.map aR.row) aY=o1 at *
  simp only [kv_cons,kv_nil,Int.ofNat_zero,List.append_assoc,List.cons_append,List.nil_append] at ih hin hset hcl ⊢
  rw [ao M kU.eq_1]
  simp (maxSteps:=3000000) (maxDischargeDepth:=6) +contextual -implicitDefEqProofs only [amA M,amB,↓ab,↓aa,↓ah,↓ae,Nat.reduceBEq,Nat.reduceAdd,env,al,d5,amG,AV.cell,Nat.reduceMul,Nat.reduceLeDiff,hi,h0',hgm,hr1,O7 hi,hl2,hcl,hlen,hin,hset,ih,hws,hcell,hac]
end
section
attribute [local congr] aF bU be aG aS aL aH aC aD aM aN
variable{E:bz}(M:cG cB E)
theorem owW2(hO:AL E){s:Sl aK}(hs:s.kn)(hL:∀ c∈s.l,c.slots.kn∧c.slots.l.length≤1000000∧∀ x∈c.slots.l,x.feats.kn∧x.feats.l.length≤1000000)(hLn:s.l.length≤1000000){A B H0:List AObj}{row6:List AV}{T:TypeId}(h0:A[0]?=some (.cells row6 T))(h1:row6[2]?=some (ic A.length 2 s))(k:List Fra)(He:List AObj) :
  M.go bR H0 (.c kU :: .lp ⟨(some [1,2,50,51]),[],false⟩ kU He :: .blk 2 :: .c (.lv [1,2])::k) (kv [(1,.ptr 0 0),(2,.ptr 1 0),(50,.int .i64 s.l.length),(51,.int .i64 0)]) (A++(mL (s.l.map aK.row) bo++B)) =
   M.go bR H0 k (kv [(1,.ptr 0 0),(2,.ptr 1 0)]) (A++(mL (owR (A.length+(mL (s.l.map aK.row) bo).length+B.length) s.l) bo++(B++owO s.l))):=by
 rcases GU hs with ⟨e, -⟩ | ⟨x,l,e,hv⟩
 ·rw [e]
  simp only [List.map_nil,mL,owR,owO,List.append_nil,List.nil_append,List.length_nil]
  rw [ao M kU.eq_1]
  simp (maxSteps:=3000000) (maxDischargeDepth:=6) +contextual -implicitDefEqProofs only [amA M,amB,↓ab,↓aa,↓ah,↓ae,Nat.reduceBEq,Nat.reduceAdd,env,al,d5,Nat.lt_irrefl,Int.lt_irrefl,Int.ofNat_zero]
 ·rw [hv] at h1
  have h:=owl2 M hO hLn (H0:=H0) (T2:=bo) h0 h1 k s.l hL [] (fun r h=>by simp at h) (by simp) B He
  simp only [List.flatten_nil,List.nil_append,List.length_nil,Int.ofNat_zero] at h
  have o1:mL (s.l.map aK.row) bo=[AObj.cells (s.l.map aK.row).flatten bo]:=by rw [e];rfl
  have o2:∀ n,mL (owR n s.l) bo=[AObj.cells (owR n s.l).flatten bo]:=fun n=>by rw [e];rfl
  rw [o1,o2]
  exact h
structure Lex.kn (l:Lex):Prop where
 traits:l.traits.kn∧l.traits.l.length≤1000000∧∀ x∈l.traits.l,x.values.kn∧x.values.l.length≤1000000
 classes:l.classes.kn∧l.classes.l.length≤1000000∧∀ c∈l.classes.l,c.slots.kn∧c.slots.l.length≤1000000∧∀ x∈c.slots.l,x.feats.kn∧x.feats.l.length≤1000000
 entries:l.entries.kn∧l.entries.l.length≤1000000∧∀ x∈l.entries.l,(x.feats.kn∧x.feats.l.length≤1000000)∧x.forms.kn∧x.forms.l.length≤1000000
 spells:l.spells.kn∧l.spells.l.length≤1000000
 links:l.links.kn∧l.links.l.length≤1000000∧∀ x∈l.links.l,x.feats.kn∧x.feats.l.length≤1000000
def R6(v:Str)(t c e s k:AV):List AV:=[.str v,t,c,e,s,k]
theorem ac2(l:Lex):l.row=R6 l.vowels (.slice l.traits.tag 2 (l.traits.l.map aV.row)) (.slice l.classes.tag 2 (l.classes.l.map aK.row)) (.slice l.entries.tag 4 (l.entries.l.map aw.row)) (.slice l.spells.tag 4 (l.spells.l.map bu.row)) (.slice l.links.tag 3 (l.links.l.map bN.row)):=rfl
theorem T4{v:Str}{t c e s k x:AV}{T:TypeId}{X:List AObj}{j:Nat}(hj:j<6)(hx:x.cell=true):stO 1 (.cells (R6 v t c e s k) T::X) 0 j [x] (some (.cells (R6 v t c e s k) T))=some (.cells ((R6 v t c e s k).set j x) T::X):=by
 have h:=ER (H:=.cells (R6 v t c e s k) T::X) (q:=0) (o:=j) (v:=x) (cs:=R6 v t c e s k) (T:=T) rfl hj hx
 exact h
theorem ac3:(∀ (v:Str) (t c e s k:AV),b8 none (R6 v t c e s k) 1=some t∧b8 none (R6 v t c e s k) 2=some c∧b8 none (R6 v t c e s k) 3=some e∧b8 none (R6 v t c e s k) 4=some s∧b8 none (R6 v t c e s k) 5=some k∧b8 (some 6) (R6 v t c e s k) 0=some (.agg (R6 v t c e s k))) ∧
 (∀ (v:Str) (t c e s k x:AV),(R6 v t c e s k).set 1 x=R6 v x c e s k∧(R6 v t c e s k).set 2 x=R6 v t x e s k∧(R6 v t c e s k).set 3 x=R6 v t c x s k∧(R6 v t c e s k).set 4 x=R6 v t c e x k∧(R6 v t c e s k).set 5 x=R6 v t c e s x) ∧
 (∀ (v:Str) (t c e s k:AV) (T:TypeId) (X:List AObj),(AObj.cells (R6 v t c e s k) T::X)[0]?=some (AObj.cells (R6 v t c e s k) T)):=⟨fun _ _ _ _ _ _=>⟨rfl,rfl,rfl,rfl,rfl,rfl⟩,fun _ _ _ _ _ _ _=>⟨rfl,rfl,rfl,rfl,rfl⟩,fun _ _ _ _ _ _ _ _=>rfl⟩
theorem Ku{g:FuncId}{first cap args:List AV}{v:AV}{H H':List AObj}(h:H'.take H.length=H)(T L:List Nat) :
  Dc cB E .keep (.fn (.func g) first cap) args H T L (some (.ret v,H'))=some (v,H',T,L):=by
 have:v6 cB E .keep g (first++args++cap) H v H'=true:=by
  unfold v6
  simp only [Ha h]
  rfl
 unfold Dc
 simp only [this,if_true]
abbrev oT(l:Lex):=mL (l.traits.l.map aV.row) ce
abbrev oC(l:Lex):=mL (l.classes.l.map aK.row) bo
abbrev oE(l:Lex):=mL (l.entries.l.map aw.row) bq
abbrev oL(l:Lex):=mL (l.links.l.map bN.row) dK
abbrev oT2(l:Lex):=mL ((l.traits.l.map aV.cl).map aV.row) ce
abbrev oC2(l:Lex):=mL (owR ((oT l).length+1+1+(oC l).length+((oE l).length+(oL l).length)) l.classes.l) bo
abbrev oE2(l:Lex):=mL ((l.entries.l.map aw.cl).map aw.row) bq
abbrev oL2(l:Lex):=mL ((l.links.l.map bN.cl).map bN.row) dK
def vp(l:Lex):List AV:=R6 l.vowels (ic 2 2 l.traits) (ic ((oT l).length+1+1) 2 l.classes) (ic ((oT l).length+(oC l).length+1+1) 4 l.entries) (.slice .any 4 (l.spells.l.map bu.row)) (ic ((oT l).length+((oC l).length+(oE l).length)+1+1) 3 l.links)
def O9(l:Lex):List AObj:=.cells (vp l) am :: .cells (vp l) am::(oT2 l++(oC2 l++(oE2 l++(oL2 l++owO l.classes.l))))
theorem WN(l:Lex)(n:Nat):(mL (owR n l.classes.l) bo).length=(oC l).length:=by
 rw [oC];cases l.classes.l<;>rfl
theorem ac4(v:Str)(t c e s k:AV)(T2:TypeId)(X:List AObj)(y:AObj)(old:List AV)(ho:old.length=6)(hc:(R6 v t c e s k).all AV.cell=true) :
  stO 6 (y :: .cells old T2::X) 1 0 (R6 v t c e s k) (some (.cells old T2))=some (y :: .cells (R6 v t c e s k) T2::X):=by
 match old,ho with
 |[a1,a2,a3,a4,a5,a6],_=>exact stO_cells (sz:=6) (H:=y :: .cells _ T2::X) (id:=1) (off:=0) rfl (by simp) hc
theorem T5(hW:WdE M)(hO:AL E){l:Lex}(hk:l.kn) :
  M.run hZ [.agg l.row] []=some (.ret (.agg (vp l)),O9 l):=by
 rw [aP M hO.morph_owned rfl (c:=Cp) rfl,Cp]
 obtain ⟨kt,nt,ht⟩:=hk.traits
 obtain ⟨kc,nc,hc⟩:=hk.classes
 obtain ⟨ke,ne,he⟩:=hk.entries
 obtain ⟨ks,ns⟩:=hk.spells
 obtain ⟨kl,nl,hl⟩:=hk.links
 have c1:=fun H=>MN M hO kt nt H
 have c2:=fun H=>MO M hO kc nc H
 have c3:=fun H=>MP M hO ke ne H
 have c4:=fun H=>MM M hO ks ns H
 have c5:=fun H=>O2 M hO kl nl H
 rw [DY _ _ kt] at c1
 rw [DY _ _ kc] at c2
 rw [DY _ _ ke] at c3
 rw [DY _ _ kl] at c5
 have k1:=fun (x y:AObj) g first cap args v=>Ku (E:=E) (g:=g) (first:=first) (cap:=cap) (args:=args) (v:=v) (H:=[x,y]) (H':=x::y::oT l) rfl
 have k2:=fun (x y:AObj) g first cap args v=>Ku (E:=E) (g:=g) (first:=first) (cap:=cap) (args:=args) (v:=v) (H:=x::y::oT l) (H':=x::y::(oT l++oC l)) (by simp)
 have k3:=fun (x y:AObj) g first cap args v=>Ku (E:=E) (g:=g) (first:=first) (cap:=cap) (args:=args) (v:=v) (H:=x::y::(oT l++oC l)) (H':=x::y::(oT l++(oC l++oE l))) (by simp [← List.append_assoc])
 have k4:=fun (x y:AObj) g first cap args v=>Ku (E:=E) (g:=g) (first:=first) (cap:=cap) (args:=args) (v:=v) (H:=x::y::(oT l++(oC l++oE l))) (H':=x::y::(oT l++(oC l++oE l))) (by rw [List.take_of_length_le (Nat.le_refl _)])
 have k5:=fun (x y:AObj) g first cap args v=>Ku (E:=E) (g:=g) (first:=first) (cap:=cap) (args:=args) (v:=v) (H:=x::y::(oT l++(oC l++oE l))) (H':=x::y::(oT l++(oC l++(oE l++oL l)))) (by simp [← List.append_assoc])
 have h6:∀ j,j=1∨j=2∨j=3∨j=4∨j=5→j<6:=fun j h=>by omega
 have s1:=fun n v t c e s k T X=>T4 (v:=v) (t:=t) (c:=c) (e:=e) (s:=s) (k:=k) (x:=ic n 2 l.traits) (T:=T) (X:=X) (j:=1) (by decide) (AN l.traits n 2)
 have s2:=fun n v t c e s k T X=>T4 (v:=v) (t:=t) (c:=c) (e:=e) (s:=s) (k:=k) (x:=ic n 2 l.classes) (T:=T) (X:=X) (j:=2) (by decide) (AN l.classes n 2)
 have s3:=fun n v t c e s k T X=>T4 (v:=v) (t:=t) (c:=c) (e:=e) (s:=s) (k:=k) (x:=ic n 4 l.entries) (T:=T) (X:=X) (j:=3) (by decide) (AN l.entries n 4)
 have s4:=fun v t c e s k T X=>T4 (v:=v) (t:=t) (c:=c) (e:=e) (s:=s) (k:=k) (x:=.slice .any 4 (l.spells.l.map bu.row)) (T:=T) (X:=X) (j:=4) (by decide) rfl
 have s5:=fun n v t c e s k T X=>T4 (v:=v) (t:=t) (c:=c) (e:=e) (s:=s) (k:=k) (x:=ic n 3 l.links) (T:=T) (X:=X) (j:=5) (by decide) (AN l.links n 3)
 rw [ac2]
 simp only [ac3] at s1 s2 s3 s4 s5
 simp (maxSteps:=3000000) (maxDischargeDepth:=6) +contextual -implicitDefEqProofs only [amA M,amB,↓ab,↓aa,↓ah,↓ae,Nat.reduceBEq,Nat.reduceAdd,env,al,d5,amG,AV.cell,Nat.reduceMul,Nat.reduceLeDiff,c1,c2,c3,c4,c5,k1,k2,k3,k4,k5,s1,s2,s3,s4,s5,ac3,AN,O8]
 rw [show R6 l.vowels (ic 2 2 l.traits) (ic ((oT l).length+1+1) 2 l.classes) (ic ((oT l).length+(oC l).length+1+1) 4 l.entries) (.slice .any 4 (l.spells.l.map bu.row)) (ic ((oT l).length+((oC l).length+(oE l).length)+1+1) 3 l.links)=vp l from rfl]
 clear c1 c2 c3 c4 c5 k1 k2 k3 k4 k5 s1 s2 s3 s4 s5
 have w0:=fun (R:List AV) (y:AObj) hR k He=>owW0 M hO kt ht nt (A:=[.cells R am,y]) (B:=oC l++(oE l++oL l)) (H0:=[]) (row6:=R) (T:=am) rfl hR k He
 have w2:=fun (R:List AV) (y:AObj) hR k He=>owW2 M hO kc hc nc (A:=.cells R am::y::oT2 l) (B:=oE l++oL l) (H0:=[]) (row6:=R) (T:=am) rfl hR k He
 have w3:=fun (R:List AV) (y:AObj) hR k He=>owW3 M hW hO ke he ne (A:=.cells R am::y::(oT2 l++oC2 l)) (B:=oL l++owO l.classes.l) (H0:=[]) (row6:=R) (T:=am) rfl hR k He
 have w4:=fun (R:List AV) (y:AObj) hR k He=>owW4 M hO kl hl nl (A:=.cells R am::y::(oT2 l++(oC2 l++oE2 l))) (B:=owO l.classes.l) (H0:=[]) (row6:=R) (T:=am) rfl hR k He
 have eT:(oT2 l).length=(oT l).length:=AO _ _ _ _ _
 have eE:(oE2 l).length=(oE l).length:=AO _ _ _ _ _
 have eC:(oC2 l).length=(oC l).length:=WN l _
 have w0:=fun y k He=>w0 (vp l) y rfl k He
 have w2:=fun y k He=>w2 (vp l) y (by rw [List.length_cons,List.length_cons,eT];rfl) k He
 have w3:=fun y k He=>w3 (vp l) y (by rw [List.length_cons,List.length_cons,List.length_append,eT,eC];rfl) k He
 have w4:=fun y k He=>w4 (vp l) y (by rw [List.length_cons,List.length_cons,List.length_append,List.length_append,eT,eC,eE];rfl) k He
 have l0:=fun H=>Ks kt H 2 2
 have l2:=fun H n=>Ks kc H n 2
 have l3:=fun H n=>Ks ke H n 4
 have l4:=fun H n=>Ks kl H n 3
 simp only [List.length_cons,List.length_append,eT] at w2
 simp only [kv_cons,kv_nil,Int.ofNat_zero,List.append_assoc,List.cons_append,List.nil_append] at w0 w2 w3 w4
 have hr:=ac3.1 l.vowels (ic 2 2 l.traits) (ic ((oT l).length+1+1) 2 l.classes) (ic ((oT l).length+(oC l).length+1+1) 4 l.entries) (.slice .any 4 (l.spells.l.map bu.row)) (ic ((oT l).length+((oC l).length+(oE l).length)+1+1) 3 l.links)
 have ha:(vp l).all AV.cell=true:=by
  unfold vp R6
  simp only [List.all_cons,List.all_nil,AN,Bool.and_true]
  rfl
 have hfin:=fun X y (old:List AV) ho=>ac4 l.vowels (ic 2 2 l.traits) (ic ((oT l).length+1+1) 2 l.classes) (ic ((oT l).length+(oC l).length+1+1) 4 l.entries) (.slice .any 4 (l.spells.l.map bu.row)) (ic ((oT l).length+((oC l).length+(oE l).length)+1+1) 3 l.links) am X y old ho ha
 have hfin:=fun X y=>hfin X y [.str [],.slice .nil 2 [],.slice .nil 2 [],.slice .nil 4 [],.slice .nil 4 [],.slice .nil 3 []] rfl
 have hld:=hr.2.2.2.2.2
 rw [← vp] at hr hfin hld
 obtain ⟨r1,r2,r3,r4,r5,r6⟩:=hr
 have hg0:∀ X:List AObj,(AObj.cells (vp l) am::X)[0]?=some (AObj.cells (vp l) am):=fun _=>rfl
 have hg1:∀ (X:List AObj) (x y:AObj),(x::y::X)[1]?=some y:=fun _ _ _=>rfl
 have hgr:sN (some 6) (O9 l) (.ptr 1 0)=some (.agg (vp l)):=hld
 have hag:iI (.agg (vp l))=some (vp l):=rfl
 have htk:pY 6 (vp l)=some (vp l):=rfl
 have hlen6:(vp l).length=6:=rfl
 simp (maxSteps:=3000000) (maxDischargeDepth:=6) +contextual -implicitDefEqProofs only [amA M,amB,↓ab,↓aa,↓ah,↓ae,Nat.reduceBEq,Nat.reduceAdd,env,al,d5,amG,AV.cell,Nat.reduceMul,Nat.reduceLeDiff,w0,w2,w3,w4,l0,l2,l3,l4,r1,r2,r3,r5,r6,hfin,hg0,hg1,hag,htk]
 rfl
end
section
attribute [local congr] aF bU be aG aS aL aH aC aD aM aN
variable{E:bz}(M:cG cB E)
theorem DZ{α β γ:Type}{f:β→Option γ}{g:α→β}{g2:α→γ}:∀ (l:List α),(∀ x∈l,f (g x)=some (g2 x))→vI f (l.map g)=some (l.map g2)
 |[],_=>rfl
 |x::l,h=>by rw [List.map_cons,vI,h x (by simp),DZ l fun y hy=>h y (by simp [hy])];rfl
theorem LD(k n:Nat)(H:List AObj)(s:Str):fzD (k+1) n H (.str s)=some (.str s):=rfl
theorem ac5(k n:Nat)(H:List AObj)(i:IntKind)(m:Int):fzD (k+1) n H (.int i m)=some (.int i m):=rfl
theorem R4{α:Type}{row:α→List AV}{k n sz:Nat}{H:List AObj}(l:List α)(h:∀ x∈l,vI (fzD k n H) (row x)=some (row x)):fzD (k+1) n H (.slice .any sz (l.map row))=some (.slice .any sz (l.map row)):=by
 simp only [fzD,DZ l h]
 rfl
theorem Mh{sz:Nat}:∀ (R:List (List AV)),(∀ r∈R,r.length=sz)→ni sz R.length R.flatten=R
 |[],_=>rfl
 |r::R,h=>by
  have hr:=h r (by simp)
  rw [List.length_cons,ni,List.flatten_cons,List.take_left' hr,List.drop_left' hr,Mh R fun x hx=>h x (by simp [hx])]
theorem QV{sz:Nat}:∀ (R:List (List AV)),(∀ r∈R,r.length=sz)→R.flatten.length=R.length*sz
 |[],_=>by simp
 |r::R,h=>by rw [List.flatten_cons,List.length_append,h r (by simp),QV R fun x hx=>h x (by simp [hx]),List.length_cons,Nat.add_mul];omega
theorem Pa{α:Type}{s:Sl α}(hs:s.kn){R R':List (List AV)}{k sz:Nat}{e:TypeId}{A B:List AObj}(hl:R.length=s.l.length)(hR:∀ r∈R,r.length=sz)(hf:vI (vI (fzD k 0 (A++(mL R e++B)))) R=some R'){q:Nat}(hq:A.length=q) :
  fzD (k+1) 0 (A++(mL R e++B)) (ic q sz s)=some (.slice s.tag.cl sz R'):=by
 subst hq
 obtain ⟨tg,l⟩:=s
 simp only [Sl.kn] at hs hl ⊢
 have hnil:R=[]→R'=[]:=fun h=>by subst h;cases hf;rfl
 rcases hs with ⟨rfl,rfl⟩ | rfl
 ·have:R=[]:=by simpa using hl
  rw [hnil this]
  rfl
 ·cases l with
  |nil=>
   have:R=[]:=by simpa using hl
   rw [hnil this]
   rfl
  |cons x l=>
   obtain ⟨r,R2,rfl⟩:∃ r R2,R=r::R2:=by cases R with
    |nil=>simp at hl
    |cons r R2=>exact ⟨r,R2,rfl⟩
   have hg:(A++(mL (r::R2) e++B))[A.length]?=some (.cells (r::R2).flatten e):=R3 _ _ _
   have hlt:Nat.blt A.length 0=false:=rfl
   have hle:Nat.ble (0+(x::l).length*sz) (r::R2).flatten.length=true:=by
    rw [QV _ hR,hl,Nat.zero_add];exact Nat.ble_eq_true_of_le (Nat.le_refl _)
   simp only [ic,fzD,hlt,cond_false,hg,hle,cond_true,List.drop_zero]
   rw [← hl,Mh _ hR,hf]
   rfl
theorem R5{α:Type}{f:α→α}{row:α→List AV}(l:List α):(l.map f).map row=l.map (fun x=>row (f x)):=List.map_map ..
theorem Pb(k n:Nat)(H:List AObj)(l:List au):fzD (k+2) n H (.slice .any 2 (l.map au.row))=some (.slice .any 2 (l.map au.row)):=R4 l fun _ _=>rfl
theorem abx(k n:Nat)(H:List AObj)(l:List Str):fzD (k+2) n H (.slice .any 1 (l.map eH))=some (.slice .any 1 (l.map eH)):=R4 l fun _ _=>rfl
theorem ac6(k n:Nat)(H:List AObj)(l:List bL):fzD (k+2) n H (.slice .any 2 (l.map bL.row))=some (.slice .any 2 (l.map bL.row)):=R4 l fun _ _=>rfl
theorem ac7(k n:Nat)(H:List AObj)(l:List bu):fzD (k+2) n H (.slice .any 4 (l.map bu.row))=some (.slice .any 4 (l.map bu.row)):=R4 l fun _ _=>rfl
theorem aac(k n:Nat)(H:List AObj)(x:aV):vI (fzD (k+2) n H) x.cl.row=some x.cl.row:=by
 simp only [aV.row,aV.cl,Sl.an,vI,abx,LD]
theorem aby(k n:Nat)(H:List AObj)(x:aR):vI (fzD (k+2) n H) x.cl.row=some x.cl.row:=by
 simp only [aR.row,aR.cl,Sl.an,vI,Pb,LD,ac5]
theorem aad(k n:Nat)(H:List AObj)(x:aw):vI (fzD (k+2) n H) x.cl.row=some x.cl.row:=by
 simp only [aw.row,aw.cl,Sl.an,vI,Pb,ac6,LD]
theorem abz(k n:Nat)(H:List AObj)(x:bN):vI (fzD (k+2) n H) x.cl.row=some x.cl.row:=by
 simp only [bN.row,bN.cl,Sl.an,vI,Pb,LD]
theorem aae(k:Nat):∀ (L:List aK) (A B:List AObj),(∀ c∈L,c.slots.kn)→∀ n,A.length=n→vI (vI (fzD (k+4) 0 (A++(owO L++B)))) (owR n L)=some ((L.map aK.cl).map aK.row)
 |[],_,_,_,_,_=>rfl
 |c::L,A,B,h,n,hn=>by
  rw [owR,owO,List.append_assoc]
  have h1:fzD (k+3+1) 0 (A++(mL ((c.slots.l.map aR.cl).map aR.row) aY++(owO L++B))) (ic n 4 c.slots)=some (.slice c.slots.tag.cl 4 ((c.slots.l.map aR.cl).map aR.row)):=
   Pa (h c (by simp)) (by simp) (fun r hr=>by
    obtain ⟨x,_,rfl⟩:=List.mem_map.1 hr
    rfl) (by
    rw [R5]
    exact DZ _ fun x _=>aby (k+1) 0 _ x) hn
  have h2:=aae k L (A++mL ((c.slots.l.map aR.cl).map aR.row) aY) B (fun c hc=>h c (by simp [hc])) (n+(mL (c.slots.l.map aR.row) aY).length) (by rw [List.length_append,hn,AO (r1:=aR.row)])
  rw [List.append_assoc] at h2
  simp only [vI,h1,h2,LD]
  rfl
theorem ac8{l:Lex}(hk:l.kn):fzV 0 (O9 l) (.agg (vp l))=some (.agg l.cl.row):=by
 have eT:(oT2 l).length=(oT l).length:=AO _ _ _ _ _
 have eE:(oE2 l).length=(oE l).length:=AO _ _ _ _ _
 have eL:(oL2 l).length=(oL l).length:=AO _ _ _ _ _
 have eC:(oC2 l).length=(oC l).length:=WN l _
 have f1:fzD (10+1) 0 (O9 l) (ic 2 2 l.traits)=some (.slice l.traits.tag.cl 2 ((l.traits.l.map aV.cl).map aV.row)):=
  Pa (A:=[_,_]) hk.traits.1 (by simp) (fun r hr=>by
   obtain ⟨x,_,rfl⟩:=List.mem_map.1 hr
   rfl) (by
   rw [R5]
   exact DZ _ fun x _=>aac 8 0 _ x) rfl
 have f2:fzD (10+1) 0 (O9 l) (ic ((oT l).length+1+1) 2 l.classes)=some (.slice l.classes.tag.cl 2 ((l.classes.l.map aK.cl).map aK.row)):=by
  have:=Pa (A:=.cells (vp l) am :: .cells (vp l) am::oT2 l) (B:=oE2 l++(oL2 l++owO l.classes.l)) (R:=owR ((oT l).length+1+1+(oC l).length+((oE l).length+(oL l).length)) l.classes.l) (e:=bo) (k:=10) (sz:=2) hk.classes.1 (WM _ _) (fun r hr=>by
   have:∀ (L:List aK) n,∀ r∈owR n L,r.length=2:=by
    intro L
    induction L with
    |nil=>intro n r h;cases h
    |cons c L ih=>
     intro n r h
     rw [owR] at h
     rcases List.mem_cons.1 h with rfl | h
     ·rfl
     ·exact ih _ r h
   exact this _ _ r hr) (R':=(l.classes.l.map aK.cl).map aK.row) (by
   have:=aae 6 l.classes.l (.cells (vp l) am :: .cells (vp l) am::(oT2 l++(oC2 l++(oE2 l++oL2 l)))) [] (fun c hc=>(hk.classes.2.2 c hc).1) ((oT l).length+1+1+(oC l).length+((oE l).length+(oL l).length)) (by
    simp only [List.length_cons,List.length_append,eT,eC,eE,eL];omega)
   simp only [List.append_assoc,List.cons_append,List.append_nil] at this ⊢
   exact this) (q:=(oT l).length+1+1) (by simp only [List.length_cons,eT])
  simp only [List.cons_append] at this
  exact this
 have f3:fzD (10+1) 0 (O9 l) (ic ((oT l).length+(oC l).length+1+1) 4 l.entries)=some (.slice l.entries.tag.cl 4 ((l.entries.l.map aw.cl).map aw.row)):=by
  have:=Pa (A:=.cells (vp l) am :: .cells (vp l) am::(oT2 l++oC2 l)) (B:=oL2 l++owO l.classes.l) (R:=(l.entries.l.map aw.cl).map aw.row) (R':=(l.entries.l.map aw.cl).map aw.row) (e:=bq) (k:=10) (sz:=4) hk.entries.1 (by simp) (fun r hr=>by
   obtain ⟨x,_,rfl⟩:=List.mem_map.1 hr
   rfl) (by
   rw [R5]
   exact DZ _ fun x _=>aad 8 0 _ x) (q:=(oT l).length+(oC l).length+1+1) (by simp only [List.length_cons,List.length_append,eT,eC])
  simp only [List.cons_append,List.append_assoc] at this
  exact this
 have f5:fzD (10+1) 0 (O9 l) (ic ((oT l).length+((oC l).length+(oE l).length)+1+1) 3 l.links)=some (.slice l.links.tag.cl 3 ((l.links.l.map bN.cl).map bN.row)):=by
  have:=Pa (A:=.cells (vp l) am :: .cells (vp l) am::(oT2 l++(oC2 l++oE2 l))) (B:=owO l.classes.l) (R:=(l.links.l.map bN.cl).map bN.row) (R':=(l.links.l.map bN.cl).map bN.row) (e:=dK) (k:=10) (sz:=3) hk.links.1 (by simp) (fun r hr=>by
   obtain ⟨x,_,rfl⟩:=List.mem_map.1 hr
   rfl) (by
   rw [R5]
   exact DZ _ fun x _=>abz 8 0 _ x) (q:=(oT l).length+((oC l).length+(oE l).length)+1+1) (by simp only [List.length_cons,List.length_append,eT,eC,eE])
  simp only [List.cons_append,List.append_assoc] at this
  exact this
 have f4:=ac7 9 0 (O9 l) l.spells.l
 have f0:=LD 10 0 (O9 l) l.vowels
 show (match vI (fzD 11 0 (O9 l)) (vp l) with
       |some cs=>some (AV.agg cs)
       |none=>none)=_
 have:vI (fzD 11 0 (O9 l)) (vp l)=some l.cl.row:=by
  unfold vp R6
  simp only [vI,f0,f1,f2,f3,f4,f5]
  rfl
 rw [this]
end
section
attribute [local congr] aF bU be aG aS aL aH aC aD aM aN
variable{E:bz}(M:cG cB E)
theorem WO{α:Type}{row:α→List AV}(h:∀ x y,row x=row y→x=y):∀ (l m:List α),l.map row=m.map row→l=m
 |[],[],_=>rfl
 |[],_::_,e=>by simp at e
 |_::_,[],e=>by simp at e
 |x::l,y::m,e=>by
  simp only [List.map_cons,List.cons.injEq] at e
  rw [h x y e.1,WO h l m e.2]
theorem AP{α:Type}{row:α→List AV}(h:∀ x y,row x=row y→x=y){s t:Sl α}{n:Nat}(e:AV.slice s.tag n (s.l.map row) = .slice t.tag n (t.l.map row)):s=t:=by
 injection e with e1 e2 e3
 have:=WO h _ _ e3
 cases s;cases t
 simp_all
theorem abA(x y:Str)(e:eH x=eH y):x=y:=by simpa [eH] using e
theorem Pc(x y:au)(e:x.row=y.row):x=y:=by
 cases x;cases y;simp_all [au.row]
theorem abB(x y:bL)(e:x.row=y.row):x=y:=by
 cases x;cases y;simp_all [bL.row]
theorem X7(x y:bu)(e:x.row=y.row):x=y:=by
 cases x;cases y;simp_all [bu.row]
theorem X8(x y:aV)(e:x.row=y.row):x=y:=by
 simp only [aV.row,List.cons.injEq,AV.str.injEq,and_true] at e
 have h:=AP abA e.2
 cases x;cases y;simp_all
theorem aaf(x y:aR)(e:x.row=y.row):x=y:=by
 simp only [aR.row,List.cons.injEq,AV.str.injEq,AV.int.injEq,true_and,and_true] at e
 have h:=AP Pc e.2.2.2
 cases x;cases y;simp_all
theorem X9(x y:aK)(e:x.row=y.row):x=y:=by
 simp only [aK.row,List.cons.injEq,AV.str.injEq,and_true] at e
 have h:=AP aaf e.2
 cases x;cases y;simp_all
theorem Ya(x y:aw)(e:x.row=y.row):x=y:=by
 simp only [aw.row,List.cons.injEq,AV.str.injEq,and_true] at e
 have h:=AP Pc e.2.2.1
 have h2:=AP abB e.2.2.2
 cases x;cases y;simp_all
theorem aag(x y:bN)(e:x.row=y.row):x=y:=by
 simp only [bN.row,List.cons.injEq,AV.str.injEq,and_true] at e
 have h:=AP Pc e.2.2
 cases x;cases y;simp_all
theorem abC(x y:Lex)(e:x.row=y.row):x=y:=by
 simp only [Lex.row,List.cons.injEq,AV.str.injEq,and_true] at e
 obtain ⟨e0,e1,e2,e3,e4,e5⟩:=e
 have h1:=AP X8 e1
 have h2:=AP X9 e2
 have h3:=AP Ya e3
 have h4:=AP X7 e4
 have h5:=AP aag e5
 cases x;cases y;simp_all
theorem T6{α:Type}{row:α→List AV}{n:Nat}:∀ (l:List α),(∀ x∈l,wkbL n (row x)=true)→wkbR n (l.map row)=true
 |[],_=>rfl
 |x::l,h=>by
  rw [List.map_cons,wkbR,h x (by simp),T6 l fun y hy=>h y (by simp [hy])];rfl
theorem ES{α:Type}{row:α→List AV}{n sz:Nat}{s:Sl α}(hs:s.kn)(h:∀ x∈s.l,wkbL n (row x)=true):wkb n (.slice s.tag sz (s.l.map row))=true:=by
 have hr:=T6 s.l h
 obtain ⟨tg,l⟩:=s
 simp only [Sl.kn] at hs
 rcases hs with ⟨rfl,rfl⟩ | rfl<;>exact hr
theorem abD{l:Lex}(hk:l.kn)(n:Nat):wkb n (.agg l.row)=true:=by
 have ft:∀ {s:Sl au},s.kn→wkb n (.slice s.tag 2 (s.l.map au.row))=true:=fun h=>ES h fun _ _=>rfl
 have h1:wkb n (.slice l.traits.tag 2 (l.traits.l.map aV.row))=true:=ES hk.traits.1 fun x hx=>by
  have:=ES (row:=eH) (n:=n) (sz:=1) (hk.traits.2.2 x hx).1 fun _ _=>rfl
  simp only [aV.row,wkbL,wkb,this,Bool.and_true]
 have h2:wkb n (.slice l.classes.tag 2 (l.classes.l.map aK.row))=true:=ES hk.classes.1 fun c hc=>by
  have:=ES (row:=aR.row) (n:=n) (sz:=4) (hk.classes.2.2 c hc).1 fun x hx=>by
   have:=ft ((hk.classes.2.2 c hc).2.2 x hx).1
   simp only [aR.row,wkbL,wkb,this,Bool.and_true]
  simp only [aK.row,wkbL,wkb,this,Bool.and_true]
 have h3:wkb n (.slice l.entries.tag 4 (l.entries.l.map aw.row))=true:=ES hk.entries.1 fun x hx=>by
  have a:=ft (hk.entries.2.2 x hx).1.1
  have b:=ES (row:=bL.row) (n:=n) (sz:=2) (hk.entries.2.2 x hx).2.1 fun _ _=>rfl
  simp only [aw.row,wkbL,wkb,a,b,Bool.and_true]
 have h4:wkb n (.slice l.spells.tag 4 (l.spells.l.map bu.row))=true:=ES hk.spells.1 fun _ _=>rfl
 have h5:wkb n (.slice l.links.tag 3 (l.links.l.map bN.row))=true:=ES hk.links.1 fun x hx=>by
  have:=ft (hk.links.2.2 x hx).1
  simp only [bN.row,wkbL,wkb,this,Bool.and_true]
 simp only [Lex.row,wkb,wkbL,h1,h2,h3,h4,h5,Bool.and_true]
theorem T7(hE:E.Ok)(hW:WdE M)(hO:AL E)(hG:∀ n g cs,E.G g=some cs→wkbL n cs=true){l:Lex}(hk:l.kn)(H2:List AObj) :
  eV E.P E.G hZ [.agg l.row] H2 fun r H'=>r = .ret (.agg l.cl.row)∧H'=H2:=
 eV.frame (He:=[]) (M.sound hE (T5 M hW hO hk)) (by simp) hG (fun a ha=>by
  simp only [List.mem_singleton] at ha
  subst ha;exact abD hk _) (fun x hx=>by simp at hx) (ac8 hk) H2 (by simp) (fun i x hx=>by simp at hx) (fun t fr T ht=>by simp at ht)
open Classical in
noncomputable def aah(args:List AV)(H:List AObj):Option Out:=
 if h:∃ l:Lex,args=[.agg l.row]∧l.kn then some (.ret (.agg (Classical.choose h).cl.row),H) else none
theorem abE{l:Lex}(hk:l.kn)(H:List AObj):aah [.agg l.row] H=some (.ret (.agg l.cl.row),H):=by
 have h:∃ l2:Lex,[AV.agg l.row]=[.agg l2.row]∧l2.kn:=⟨l,rfl,hk⟩
 unfold aah
 rw [dif_pos h]
 have e:=(Classical.choose_spec h).1
 injection e with e _
 injection e with e
 rw [← abC _ _ e]
theorem abF(hE:E.Ok)(hW:WdE M)(hO:AL E)(hG:∀ n g cs,E.G g=some cs→wkbL n cs=true){args:List AV}{H H':List AObj}{r:vH}(h:aah args H=some (r,H')) :
  eV E.P E.G hZ args H fun r2 H2=>r2=r∧H2=H':=by
 unfold aah at h
 split at h
 ·rename_i hx
  obtain ⟨e,hk⟩:=Classical.choose_spec hx
  cases h
  have:=T7 M hE hW hO hG hk H
  rw [← e] at this
  exact this
 ·cases h
theorem T8:∀ (n:Nat) (l:List Nat),l.Nodup→(∀ x∈l,x<n)→l.length≤n
 |0,l,_,h=>by
  cases l with
  |nil=>simp
  |cons x l=>exact absurd (h x (by simp)) (by omega)
 |n+1,l,hd,h=>by
  have h1:=T8 n (l.erase n) (hd.erase n) fun x hx=>by
   have h2:=(List.Nodup.mem_erase_iff hd).1 hx
   have:=h x h2.2
   have:=h2.1
   omega
  by_cases hm:n∈l
  ·have:=List.length_erase_of_mem hm
   omega
  ·rw [List.erase_of_not_mem hm] at h1
   omega
def aV.kt(x:aV):Prop:=x.values.kn
def aR.kt(x:aR):Prop:=x.feats.kn
def aK.kt(x:aK):Prop:=x.slots.kn∧∀ s∈x.slots.l,s.kt
def aw.kt(x:aw):Prop:=x.feats.kn∧x.forms.kn
def bN.kt(x:bN):Prop:=x.feats.kn
structure Lex.kt (l:Lex):Prop where
 traits:l.traits.kn∧∀ x∈l.traits.l,x.kt
 classes:l.classes.kn∧∀ x∈l.classes.l,x.kt
 entries:l.entries.kn∧∀ x∈l.entries.l,x.kt
 spells:l.spells.kn
 links:l.links.kn∧∀ x∈l.links.l,x.kt
theorem Yb{n:Nat}{l:List bL}(h:vm (Ij n l) 0 l=0):l.length≤n:=by
 have hz:=fun k x hx=>by
  have:=rR h k x hx
  rw [Nat.zero_add] at this
  exact this
 have hf:∀ (k:Nat) (x:bL),l[k]?=some x→0≤x.slot∧x.slot<n∧((l.take k).any fun o=>o.slot == x.slot)=false:=fun k x hx=>by
  have h1:=hz k x hx
  unfold Ij at h1
  obtain ⟨a1,h1⟩:=d9 (by decide) h1
  obtain ⟨a2,_⟩:=d9 (by decide) h1
  simp only [Bool.or_eq_false_iff,decide_eq_false_iff_not] at a1
  exact ⟨by omega,by omega,a2⟩
 have:=T8 n (l.map fun x=>x.slot.toNat) (by
  rw [List.nodup_iff_pairwise_ne,List.pairwise_map,List.pairwise_iff_getElem]
  intro i j hi hj hij e
  obtain ⟨b1,b2,b3⟩:=hf j l[j] (List.getElem?_eq_getElem hj)
  obtain ⟨c1,c2,c3⟩:=hf i l[i] (List.getElem?_eq_getElem hi)
  rw [List.any_eq_false] at b3
  have hm:l[i]∈l.take j:=by
   rw [List.mem_take_iff_getElem]
   exact ⟨i,by omega,rfl⟩
  have:=b3 _ hm
  simp at this
  omega) (fun x hx=>by
  obtain ⟨y,hy,rfl⟩:=List.mem_map.1 hx
  obtain ⟨k,hk⟩:=List.getElem?_of_mem hy
  have:=hf k y hk
  omega)
 simpa using this
theorem aec{l:Lex}(ht:l.kt)(hk:bO l=0):l.kn:=by
 have h1:vo l=0:=rR hk 1 (vo l) rfl
 obtain ⟨h2,h3,h4,h5⟩:=tK hk
 obtain ⟨n1,f1⟩:=iX h1
 obtain ⟨n2,f2⟩:=iX h2
 obtain ⟨n3,f3⟩:=iX h3
 obtain ⟨n4,f4⟩:=iX h4
 obtain ⟨n5,f5⟩:=iX h5
 refine ⟨⟨ht.traits.1,by omega,fun x hx=>⟨ht.traits.2 x hx, ?_⟩⟩,⟨ht.classes.1,by omega,fun c hc=>⟨(ht.classes.2 c hc).1, ?_,fun s hs=>⟨(ht.classes.2 c hc).2 s hs, ?_⟩⟩⟩,⟨ht.entries.1,by omega,fun x hx => ?_⟩,⟨ht.spells,by omega⟩,⟨ht.links.1,by omega,fun x hx=>⟨ht.links.2 x hx, ?_⟩⟩⟩
 ·obtain ⟨k,hk2⟩:=List.getElem?_of_mem hx
  have h:=f1 k x hk2
  unfold GA at h
  have:=(d9 (by decide) (d9 (by decide) (d9 (by decide) h).2).2).1
  simp only [decide_eq_false_iff_not] at this
  omega
 ·obtain ⟨k,hk2⟩:=List.getElem?_of_mem hc
  have h:=f2 k c hk2
  unfold AG at h
  have:=(d9 (by decide) (d9 (by decide) (d9 (by decide) h).2).2).1
  simp only [decide_eq_false_iff_not] at this
  omega
 ·have:=(Wp (M0 hk hc hs)).feats.1
  omega
 ·obtain ⟨k,hk2⟩:=List.getElem?_of_mem hx
  obtain ⟨c,hc⟩:=CA hk hk2
  have a1:=hc.short.1
  have a2:=Yb hc.forms
  have a3:=zG hk hc
  exact ⟨⟨(ht.entries.2 x hx).1,by omega⟩,(ht.entries.2 x hx).2,by omega⟩
 ·obtain ⟨k,hk2⟩:=List.getElem?_of_mem hx
  have h:=f5 k x hk2
  unfold Fh at h
  split at h
  ·exact absurd h (by decide)
  ·have:=(bundle_ok (d9 (by decide) h).2).1
   omega
end
section
open Go.Sort Go.Proofs Go.Lib
abbrev Pr:=List UInt8×List UInt8
def Kw(x:Pr):List AV:=[.str x.1,.str x.2]
def FE(x:Pr):List Value:=[.string ⟨x.1.toArray⟩,.string ⟨x.2.toArray⟩]
def Pd(x y:Pr):Int:=Lib.compareBytes x.1 y.1
def xC(d:Array Pr):Array Pr:=pdq (ltOf Pd) d 0 d.size (Lib.bitLen d.size) true true
def Im(l:List Pr):List Pr:=(xC l.toArray).toList
section
variable{P:Program}{G:Nat→Option (List AV)}{K:aI}{H:List AObj}{w:World}
theorem Inv.drewN(hi:Inv K H w):∀ n,Inv K H (w.drewN n)
 |0=>by rw [World.drewN_zero];exact hi
 |n+1=>(Inv.drewN hi n).drew
theorem Inv.grow(hi:Inv K H w)(os:Array Obj):Inv K H (Go.Sort.grow w os):=by
 obtain ⟨l,rfl⟩:∃ l:List Obj,os=l.toArray:=⟨os.toList,by simp⟩
 induction l generalizing w with
 |nil=>simpa using hi
 |cons o l ih=>
  have:=ih (hi.junk o)
  rw [alloc_eq_grow,grow_grow] at this
  simpa using this
theorem VG:∀ (x y rest:List AV),x.length=y.length→aU (x++rest) 0 y=y++rest:=by
 have key:∀ (y x pre rest:List AV),x.length=y.length→aU (pre++x++rest) pre.length y=pre++y++rest:=by
  intro y
  induction y with
  |nil=>intro x pre rest h;have:x=[]:=List.length_eq_zero_iff.1 h;subst this;simp [aU]
  |cons a y ih=>
   intro x pre rest h
   cases x with
   |nil=>cases h
   |cons b x=>
    rw [aU]
    have:=ih x (pre++[a]) rest (by simpa using h)
    simp only [List.length_append,List.length_cons,List.length_nil,List.append_assoc,List.cons_append,List.nil_append] at this ⊢
    rw [← this]
    congr 1
    simp
 intro x y rest h
 simpa using key y x [] rest h
theorem QW(l:List Pr):∀ (j:Nat),j<l.length*2→∃ s,(l.flatMap Kw)[j]?=some (.str s)∧(FE (l.toArray[j / 2]!))[j % 2]! = .string ⟨s.toArray⟩:=by
 induction l with
 |nil=>intro j h;simp at h
 |cons x l ih=>
  intro j h
  match j with
  |0=>exact ⟨x.1,rfl,rfl⟩
  |1=>exact ⟨x.2,rfl,rfl⟩
  |j+2=>
   obtain ⟨s,h1,h2⟩:=ih j (by simp at h;omega)
   refine ⟨s,by simpa [Kw] using h1, ?_⟩
   have e1:(j+2) / 2=j / 2+1:=by omega
   have e2:(j+2) % 2=j % 2:=by omega
   rw [e1,e2,← h2]
   simp
theorem oB(l:List Pr):(l.flatMap Kw).length=l.length*2:=by
 induction l with
 |nil=>rfl
 |cons x l ih=>simp [Kw,ih];omega
theorem T9{f g:FuncId}(ef:∀ args w,(callFunc f args).run P w = .ok (.enter f args) w)
  (hs:∀ (blk cap:Nat) (d:Array Pr) (w:World),HoldsK FE 2 w blk 0 d→blk<w.heap.size→d.size<4611686018427387904 →
   Calls P f #[.slice (some ⟨blk,0,none⟩) d.size cap,.func (.func g) #[] #[]] w fun e w'=>e = .returned (.tuple #[])∧∃ n os,w'=sortWorldK FE 2 w blk 0 n (xC d) os)
  (hz:∀ d:Array Pr,(xC d).size=d.size)
  {l:List Pr} (hl:l.length<4611686018427387904) {rest:List AV}{id:Nat}{room:Bool}{T:TypeId} (hid:H[id]?=some (.cells (l.flatMap Kw++rest) T)) :
  eV P G f [.rslice id 0 l.length 2 room,.fn (.func g) [] []] H fun r H'=>r = .ret (.tuple [])∧H'=H.set id (.cells ((Im l).flatMap Kw++rest) T):=by
 intro K w cargs hg hi hv
 obtain ⟨c,d,rfl,hc,hd⟩:=x5 hv
 cases hc with
 |rslice _ _ _ _ _ b cap hb hcap hro=>
 cases hd with
 |fn _ _ _ vs us h1 h2 hv1 hu1=>
 obtain rfl:vs = #[]:=Array.eq_empty_of_size_eq_zero h1.symm
 obtain rfl:us = #[]:=Array.eq_empty_of_size_eq_zero h2.symm
 obtain ⟨b',vs,T',g1,g2,g3,g4,g5,g6,g7,g8,g9⟩:=hi.obj id _ hid
 rw [hb] at g1;cases g1
 have hlen:l.length*2≤vs.size:=by
  rw [List.length_append,oB] at g4;omega
 have hH:HoldsK FE 2 w b 0 l.toArray:=by
  intro j hj
  rw [size_flatK] at hj
  simp only [List.size_toArray] at hj
  obtain ⟨s,e1,e2⟩:=QW l j hj
  have hav:=g5 j (.str s) (by rw [List.getElem?_append_left (by rw [oB];exact hj)];exact e1)
  have hlt:j<vs.size:=by omega
  refine ⟨?_,by simp [World.frozen?,g3]⟩
  rw [Nat.zero_add,cell_of_heap g3,Array.getElem?_eq_getElem hlt]
  rw [get_flatK _ _ _ _ (by simpa using hj),e2]
  have hgd:vs.getD j undef=vs[j]:=by simp [Array.getD,hlt]
  rw [hgd] at hav
  generalize vs[j]=v at hav
  cases hav
  rfl
 have hblk:b<w.heap.size:=(Array.getElem?_eq_some_iff.1 g3).1
 have hc:=hs b cap l.toArray w hH hblk (by simpa using hl)
 simp only [List.size_toArray] at hc
 refine .inl ⟨ef _ _,hc.mono ?_⟩
 rintro e w' ⟨rfl,n,os,rfl⟩
 have hz':(xC l.toArray).size=l.length:=by simpa using hz l.toArray
 have hsl:(Im l).length=l.length:=by simpa [Im] using hz'
 refine ⟨K,.ret (.tuple []),_,.refl K,(.tuple [] #[] rfl (by simp):V K _ _), ?_,rfl,rfl⟩
 have e1:putRowK FE 2 (Sort.ahead w n) b 0 (xC l.toArray)=(w.drewN n).setCells b 0 (flatK FE 2 (xC l.toArray)).toList:=by
  have:=putRow_eq_setCells (fun v:Value=>v) w b 0 (flatK FE 2 l.toArray) (flatK FE 2 (xC l.toArray)).toList n hH (by simp [hz'])
  simp only [Array.toArray_toList,List.map_id_fun,List.map_id] at this
  refine Eq.trans ?_ (this.trans ?_)
  ·rfl
  ·congr 1;exact List.map_id _
 unfold sortWorldK
 rw [e1]
 refine Inv.grow ?_ os
 have hi2:=hi.drewN n
 have:=Inv.stores hb ((Im l).flatMap Kw) (flatK FE 2 (xC l.toArray)).toList 0 H (w.drewN n) (l.flatMap Kw++rest) T hi2 hid (by rw [oB,hsl];simp [hz']) (by rw [oB,hsl,List.length_append,oB];omega) (fun j av hj=>by
  have hj2:j<(Im l).length*2:=by rw [← oB];exact (List.getElem?_eq_some_iff.1 hj).1
  obtain ⟨s,k1,k2⟩:=QW (Im l) j hj2
  rw [hj] at k1;cases k1
  refine ⟨.string ⟨s.toArray⟩, ?_,.str s⟩
  have hj3:j<(xC l.toArray).size*2:=by rw [hz',← hsl];exact hj2
  have:(flatK FE 2 (xC l.toArray))[j]! = .string ⟨s.toArray⟩:=by
   rw [get_flatK _ _ _ _ hj3,← k2];simp [Im]
  rw [Array.getElem?_toList,← this,getElem!_def]
  have hj4:j<(flatK FE 2 (xC l.toArray)).size:=by rw [size_flatK];exact hj3
  rw [Array.getElem?_eq_getElem hj4])
 rwa [VG _ _ _ (by rw [oB,oB,hsl])] at this
end
end
section
open Go.Sort Go.Proofs Go.Lib
def toP(x:au):Pr:=(x.name,x.value)
def ofP(p:Pr):au:=⟨p.1,p.2⟩
def aai(l:List au):List au:=(Im (l.map toP)).map ofP
theorem WP(l:List au):cH l=(l.map toP).flatMap Kw:=by
 unfold cH
 induction l with
 |nil=>rfl
 |cons x l ih=>rw [List.map_cons,List.flatten_cons,ih];rfl
theorem abG(l:List Pr):cH (l.map ofP)=l.flatMap Kw:=by
 rw [WP,List.map_map]
 congr 1
 exact List.map_id l
theorem aaj:∀ x y:List UInt8,decide (Lib.compareBytes x y<0)=Op.bytesLess x y
 |[],[]=>rfl
 |[],_::_=>rfl
 |_::_,[]=>rfl
 |a::x,b::y=>by
  rw [Lib.compareBytes,Op.bytesLess]
  by_cases h1:a<b
  ·simp [h1]
  ·by_cases h2:b<a
   ·have:¬ a=b:=fun e=>by subst e;exact h1 h2
    simp [h1,h2,this]
   ·have:a=b:=UInt8.le_antisymm (UInt8.not_lt.1 h2) (UInt8.not_lt.1 h1)
    subst this
    simp [h1,aaj x y]
theorem WQ(x y:Pr):ltOf Pd x y=Op.bytesLess x.1 y.1:=aaj x.1 y.1
theorem swoP:SWO (ltOf Pd) where
 irrefl x:=by rw [WQ];exact GC _
 trans x y z h1 h2:=by rw [WQ] at *;exact uM h1 h2
 ntrans x y z h1 h2:=by
  rw [WQ] at *
  cases h3:Op.bytesLess x.1 z.1 with
  |false=>rfl
  |true=>
   cases h4:Op.bytesLess y.1 x.1 with
   |true=>rw [uM h4 h3] at h2;cases h2
   |false=>rw [Ot h1 h4] at h3;rw [h3] at h2;cases h2
theorem I0(d:Array Pr):PermIn 0 d.size d (xC d)∧SortedIn (ltOf Pd) 0 d.size (xC d):=
 pdq_sorts (ltOf Pd) swoP d 0 d.size (Lib.bitLen d.size) true true (Nat.zero_le _) (Nat.le_refl _) (Or.inl rfl)
theorem LE(d:Array Pr):(xC d).size=d.size:=(I0 d).1.1
theorem aak:Srt aai:=by
 constructor
 ·intro l
  have h:=(I0 (l.map toP).toArray).1.2.2
  have hs:=LE (l.map toP).toArray
  have e1:(xC (l.map toP).toArray).extract 0 (l.map toP).toArray.size=xC (l.map toP).toArray:=by rw [← hs];exact Array.extract_size
  have e2:(l.map toP).toArray.extract 0 (l.map toP).toArray.size=(l.map toP).toArray:=Array.extract_size
  rw [e1,e2] at h
  have h2:=h.map ofP
  have e3:(l.map toP).map ofP=l:=by rw [List.map_map];exact List.map_id l
  rwa [e3] at h2
 ·intro l
  have h:=(I0 (l.map toP).toArray).2
  have hs:=LE (l.map toP).toArray
  unfold Wek aai Im
  rw [List.pairwise_iff_getElem]
  intro i j hi hj hij
  simp only [List.length_map,Array.length_toList] at hi hj
  have:=h i j (Nat.zero_le _) hij (by rw [← hs];exact hj)
  rw [WQ] at this
  simp only [List.getElem_map,Array.getElem_toList]
  rw [getElem!_pos _ i hi,getElem!_pos _ j hj] at this
  exact this
def Ua:List AV→Option (List Pr)
 |[]=>some []
 |.str a :: .str b::r=>match Ua r with
  |some l=>some ((a,b)::l)
  |none=>none
 |_=>none
theorem QX:∀ l:List Pr,Ua (l.flatMap Kw)=some l
 |[]=>rfl
 |x::l=>by
  show Ua (.str x.1 :: .str x.2::l.flatMap Kw)=_
  rw [Ua,QX l]
theorem WR:∀ {cs:List AV}{l:List Pr},Ua cs=some l→cs=l.flatMap Kw
 |[],l,h=>by cases h;rfl
 |.str a :: .str b::r,l,h=>by
  rw [Ua] at h
  split at h
  ·rename_i l' h'
   cases h
   rw [WR h'];rfl
  ·cases h
def Yc(fS gU:FuncId)(f:FuncId)(args:List AV)(H:List AObj):Option Out:=
 match args with
 |[.rslice id 0 n 2 true,.fn (.func g) [] []]=>bif Nat.beq f fS&&Nat.beq g gU then (match H[id]? with
   |some (.cells cs T)=>match Ua cs with
    |some l=>bif Nat.beq l.length n&&Nat.ble n 4000000000 then some (.ret (.tuple []),H.set id (.cells ((Im l).flatMap Kw) T)) else none
    |none=>none
   |_=>none) else none
 |[.slice .full 2 [],.fn (.func g) [] []]=>bif Nat.beq f fS&&Nat.beq g gU then some (.ret (.tuple []),H) else none
 |_=>none
theorem abH{P:Program}{G:Nat→Option (List AV)}{fS gU:FuncId}(ef:∀ args w,(callFunc fS args).run P w = .ok (.enter fS args) w)
  (hs:∀ (blk cap:Nat) (d:Array Pr) (w:World),HoldsK FE 2 w blk 0 d→blk<w.heap.size→d.size<4611686018427387904 →
   Calls P fS #[.slice (some ⟨blk,0,none⟩) d.size cap,.func (.func gU) #[] #[]] w fun e w'=>e = .returned (.tuple #[])∧∃ n os,w'=sortWorldK FE 2 w blk 0 n (xC d) os)
  (h0:∀ (p:Option Addr) (cap:Nat) (fv:Value) (w:World),Calls P fS #[.slice p 0 cap,fv] w fun e w'=>e = .returned (.tuple #[])∧w'=w)
  {f:FuncId}{args:List AV}{H H':List AObj}{r:vH} (h:Yc fS gU f args H=some (r,H')):eV P G f args H fun r2 H2=>r2=r∧H2=H':=by
 unfold Yc at h
 split at h
 ·rename_i id n g
  cases hb:(Nat.beq f fS&&Nat.beq g gU) with
  |false=>rw [hb] at h;cases h
  |true=>
   rw [hb,cond_true] at h
   simp only [Bool.and_eq_true] at hb
   obtain rfl:=Nat.eq_of_beq_eq_true hb.1
   obtain rfl:=Nat.eq_of_beq_eq_true hb.2
   split at h<;>try (cases h;done)
   rename_i cs T hx
   split at h<;>try (cases h;done)
   rename_i l hl
   cases hc:(Nat.beq l.length n&&Nat.ble n 4000000000) with
   |false=>rw [hc] at h;cases h
   |true=>
    rw [hc,cond_true] at h
    simp only [Bool.and_eq_true] at hc
    obtain rfl:=Nat.eq_of_beq_eq_true hc.1
    have hle:=Nat.le_of_ble_eq_true hc.2
    cases h
    obtain rfl:=WR hl
    have:=T9 (P:=P) (G:=G) ef hs LE (l:=l) (by omega) (rest:=[]) (H:=H) (id:=id) (room:=true) (T:=T) (by rw [List.append_nil];exact hx)
    simpa using this
 ·rename_i g
  cases hb:(Nat.beq f fS&&Nat.beq g gU) with
  |false=>rw [hb] at h;cases h
  |true=>
   rw [hb,cond_true] at h
   simp only [Bool.and_eq_true] at hb
   obtain rfl:=Nat.eq_of_beq_eq_true hb.1
   cases h
   intro K w cargs hg hi hv
   obtain ⟨c,d,rfl,hc,hd⟩:=x5 hv
   obtain ⟨p,rfl⟩:∃ p,c = .slice p 0 0:=by
    cases hc with
    |sliceAny _ _ _ _ e=>simp at e
    |slice0 _ _ a _=>exact ⟨a,rfl⟩
    |slice _ _ _ b o cap vs hl him hvv hcap ht=>exact ⟨_,by have:cap=0:=ht;rw [this];rfl⟩
   refine .inl ⟨ef _ _,(h0 p 0 d w).mono ?_⟩
   rintro e w' ⟨rfl,rfl⟩
   exact ⟨K,.ret (.tuple []),H,.refl K,(.tuple [] #[] rfl (by simp):V K _ _),hi,rfl,rfl⟩
 ·cases h
end
section
open Go.ChangeShapes Go.WideShapes
structure sV (P:Program):Prop where
 u_string:P.underlying bv=some .string
 c_string:P.cellsOf bv=1
 f_Feat:fieldsOf P bf=some [(0,bv),(1,bv)]
 c_Feat:P.cellsOf bf=2
 u_sl_string:P.underlying lM=some (.slice bv)
 c_sl_string:P.cellsOf lM=1
 f_Trait:fieldsOf P ce=some [(0,bv),(1,lM)]
 c_Trait:P.cellsOf ce=2
 u_sl_Feat:P.underlying fc=some (.slice bf)
 c_sl_Feat:P.cellsOf fc=1
 u_int:P.underlying Qo=some (.int .i64)
 c_int:P.cellsOf Qo=1
 f_Slot:fieldsOf P aY=some [(0,Qo),(1,bv),(2,bv),(3,fc)]
 c_Slot:P.cellsOf aY=4
 u_sl_Slot:P.underlying Cj=some (.slice aY)
 c_sl_Slot:P.cellsOf Cj=1
 f_Class:fieldsOf P bo=some [(0,bv),(1,Cj)]
 c_Class:P.cellsOf bo=2
 f_Irreg:fieldsOf P de=some [(0,Qo),(1,bv)]
 c_Irreg:P.cellsOf de=2
 u_sl_Irreg:P.underlying qu=some (.slice de)
 c_sl_Irreg:P.cellsOf qu=1
 f_Entry:fieldsOf P bq=some [(0,bv),(1,bv),(2,fc),(3,qu)]
 c_Entry:P.cellsOf bq=4
 f_Spell:fieldsOf P cP=some [(0,bv),(1,bv),(2,bv),(3,bv)]
 c_Spell:P.cellsOf cP=4
 f_Link:fieldsOf P dK=some [(0,bv),(1,bv),(2,fc)]
 c_Link:P.cellsOf dK=3
 u_sl_Trait:P.underlying z6=some (.slice ce)
 c_sl_Trait:P.cellsOf z6=1
 u_sl_Class:P.underlying z7=some (.slice bo)
 c_sl_Class:P.cellsOf z7=1
 u_sl_Entry:P.underlying z8=some (.slice bq)
 c_sl_Entry:P.cellsOf z8=1
 u_sl_Spell:P.underlying wl=some (.slice cP)
 c_sl_Spell:P.cellsOf wl=1
 u_sl_Link:P.underlying Ci=some (.slice dK)
 c_sl_Link:P.cellsOf Ci=1
 f_Lex:fieldsOf P am=some [(0,bv),(1,z6),(2,z7),(3,z8),(4,wl),(5,Ci)]
 c_Lex:P.cellsOf am=6
section
variable{P:Program}{W:World}{G:Nat→Option (List AV)}
theorem Yd(h:sV P):pZ P W G bf au.row (au.ok 0):=
 mV h.f_Feat h.c_Feat (bY (iS h.u_string) h.c_string (bY (iS h.u_string) h.c_string (qg _))) (fun a=>⟨a.1,a.2.1⟩) (fun a=>rfl) (fun a ha=>⟨ha.1,ha.2.1⟩)
theorem VH(h:sV P):pZ P W G de bL.row (bL.ok 0):=
 mV h.f_Irreg h.c_Irreg (bY (Qm h.u_int) h.c_int (bY (iS h.u_string) h.c_string (qg _))) (fun a=>⟨a.1,a.2.1⟩) (fun a=>rfl) (fun a ha=>⟨ha.1,ha.2.1⟩)
theorem VI(h:sV P):pZ P W G cP bu.row (bu.ok 0):=
 mV h.f_Spell h.c_Spell (bY (iS h.u_string) h.c_string (bY (iS h.u_string) h.c_string (bY (iS h.u_string) h.c_string (bY (iS h.u_string) h.c_string (qg _))))) (fun a=>⟨a.1,a.2.1,a.2.2.1,a.2.2.2.1⟩) (fun a=>rfl) (fun a ha=>⟨ha.1,ha.2.1,ha.2.2.1,ha.2.2.2.1⟩)
end
end
section
open Go.ChangeShapes Go.WideShapes
section
variable{P:Program}{W:World}{G:Nat→Option (List AV)}
theorem xc{t e:TypeId}{α:Type}{row:α→List AV}{ok kt:α→Prop}{sz:Nat}(ht:P.underlying t=some (.slice e))(hsz:P.cellsOf e=sz)(hpos:0<sz)(hrow:∀ a,(row a).length=sz)(he:pZ P W G e row (fun a=>ok a∧kt a)) :
  pZ P W G t (fun s:Sl α=>[.slice s.tag sz (s.l.map row)]) (fun s=>s.ok 0 ok∧s.kn∧∀ x∈s.l,kt x):=
 NZ (RA ht hsz hpos hrow he) fun s h=>⟨⟨h.1.tag,h.1.len,fun x hx=>(h.1.all x hx).1⟩,h.2,fun x hx=>(h.1.all x hx).2⟩
theorem M5{t:TypeId}{α:Type}{row:α→List AV}{ok:α→Prop}(h:pZ P W G t row ok):pZ P W G t row (fun a=>ok a∧True):=NZ h fun a h=>⟨h,trivial⟩
theorem R7(h:sV P):pZ P W G lM (fun s:Sl Str=>[.slice s.tag 1 (s.l.map eH)]) (fun s=>s.ok 0 (fun s=>s.length≤aX)∧s.kn∧∀ x∈s.l,True):=xc h.u_sl_string h.c_string (by decide) (fun _=>rfl) (M5 (iS h.u_string))
theorem CE(h:sV P):pZ P W G fc (fun s:Sl au=>[.slice s.tag 2 (s.l.map au.row)]) (fun s=>s.ok 0 (au.ok 0)∧s.kn∧∀ x∈s.l,True):=xc h.u_sl_Feat h.c_Feat (by decide) (fun _=>rfl) (M5 (Yd h))
theorem Pe(h:sV P):pZ P W G qu (fun s:Sl bL=>[.slice s.tag 2 (s.l.map bL.row)]) (fun s=>s.ok 0 (bL.ok 0)∧s.kn∧∀ x∈s.l,True):=xc h.u_sl_Irreg h.c_Irreg (by decide) (fun _=>rfl) (M5 (VH h))
theorem Pf(h:sV P):pZ P W G wl (fun s:Sl bu=>[.slice s.tag 4 (s.l.map bu.row)]) (fun s=>s.ok 0 (bu.ok 0)∧s.kn∧∀ x∈s.l,True):=xc h.u_sl_Spell h.c_Spell (by decide) (fun _=>rfl) (M5 (VI h))
theorem Ub(h:sV P):pZ P W G ce aV.row (fun a=>aV.ok 0 a∧aV.kt a):=
 mV h.f_Trait h.c_Trait (bY (iS h.u_string) h.c_string (bY (R7 h) h.c_sl_string (qg _))) (fun a=>⟨a.1,a.2.1⟩) (fun a=>rfl) (fun a ha=>⟨⟨ha.1,ha.2.1.1⟩,ha.2.1.2.1⟩)
theorem VJ(h:sV P):pZ P W G aY aR.row (fun a=>aR.ok 0 a∧aR.kt a):=
 mV h.f_Slot h.c_Slot (bY (Qm h.u_int) h.c_int (bY (iS h.u_string) h.c_string (bY (iS h.u_string) h.c_string (bY (CE h) h.c_sl_Feat (qg _))))) (fun a=>⟨a.1,a.2.1,a.2.2.1,a.2.2.2.1⟩) (fun a=>rfl) (fun a ha=>⟨⟨ha.1,ha.2.1,ha.2.2.1,ha.2.2.2.1.1⟩,ha.2.2.2.1.2.1⟩)
theorem Uc(h:sV P):pZ P W G bo aK.row (fun a=>aK.ok 0 a∧aK.kt a):=
 mV h.f_Class h.c_Class (bY (iS h.u_string) h.c_string (bY (xc h.u_sl_Slot h.c_Slot (by decide) (fun _=>rfl) (VJ h)) h.c_sl_Slot (qg _))) (fun a=>⟨a.1,a.2.1⟩) (fun a=>rfl) (fun a ha=>⟨⟨ha.1,ha.2.1.1⟩,ha.2.1.2⟩)
theorem Ud(h:sV P):pZ P W G bq aw.row (fun a=>aw.ok 0 a∧aw.kt a):=
 mV h.f_Entry h.c_Entry (bY (iS h.u_string) h.c_string (bY (iS h.u_string) h.c_string (bY (CE h) h.c_sl_Feat (bY (Pe h) h.c_sl_Irreg (qg _))))) (fun a=>⟨a.1,a.2.1,a.2.2.1,a.2.2.2.1⟩) (fun a=>rfl) (fun a ha=>⟨⟨ha.1,ha.2.1,ha.2.2.1.1,ha.2.2.2.1.1⟩,ha.2.2.1.2.1,ha.2.2.2.1.2.1⟩)
theorem VK(h:sV P):pZ P W G dK bN.row (fun a=>bN.ok 0 a∧bN.kt a):=
 mV h.f_Link h.c_Link (bY (iS h.u_string) h.c_string (bY (iS h.u_string) h.c_string (bY (CE h) h.c_sl_Feat (qg _)))) (fun a=>⟨a.1,a.2.1,a.2.2.1⟩) (fun a=>rfl) (fun a ha=>⟨⟨ha.1,ha.2.1,ha.2.2.1.1⟩,ha.2.2.1.2.1⟩)
theorem Ye(h:sV P):pZ P W G am Lex.row (fun a=>Lex.ok 0 a∧Lex.kt a):=
 mV h.f_Lex h.c_Lex (bY (iS h.u_string) h.c_string (bY (xc h.u_sl_Trait h.c_Trait (by decide) (fun _=>rfl) (Ub h)) h.c_sl_Trait (bY (xc h.u_sl_Class h.c_Class (by decide) (fun _=>rfl) (Uc h)) h.c_sl_Class
  (bY (xc h.u_sl_Entry h.c_Entry (by decide) (fun _=>rfl) (Ud h)) h.c_sl_Entry (bY (Pf h) h.c_sl_Spell (bY (xc h.u_sl_Link h.c_Link (by decide) (fun _=>rfl) (VK h)) h.c_sl_Link (qg _)))))))
  (fun a=>⟨a.1,a.2.1,a.2.2.1,a.2.2.2.1,a.2.2.2.2.1,a.2.2.2.2.2.1⟩) (fun a=>rfl) (fun a ha=>⟨⟨ha.1,ha.2.1.1,ha.2.2.1.1,ha.2.2.2.1.1,ha.2.2.2.2.1.1,ha.2.2.2.2.2.1.1⟩,⟨ha.2.1.2,ha.2.2.1.2,ha.2.2.2.1.2,ha.2.2.2.2.1.2.1,ha.2.2.2.2.2.1.2⟩⟩)
end
end
section
open Go.Shelf Go.RowKit Go.Lib Go.Sort Go.Proofs
def abI:Go.Shelf.Ren:=⟨fun | 6=>236 | 15=>246 | 14=>245 | 28=>258 | 29=>214 | 20=>250 | 21=>251 | 22=>252 | 23=>253 | 24=>254 | 25=>255 | 26=>256 | 27=>257 | 46=>260 | 47=>261 | 48=>262 | 49=>263 | 50=>264 | 57=>265 | n=>n,fun | 22=>62 | 24=>64 | 25=>287 | 3=>3 | 39=>257 | 0=>0 | 53=>262 | 55=>169 | 4=>4 | 46=>304 | 45=>303 | 50=>154 | 5=>5 | 9=>9 | 66=>309 | 70=>313 | 76=>315 | 77=>316 | n=>n,fun | n=>n⟩
theorem R8:Go.Proofs.SlLaysF0.n6 Tryz.prog abI where
 mixed:=by kernel_rfl
 f6:=⟨Tryz.f236.name,by kernel_rfl,Tryz.func236.trans (congrArg some (by kernel_rfl))⟩
 f14:=⟨Tryz.f245.name,by kernel_rfl,Tryz.func245.trans (congrArg some (by kernel_rfl))⟩
 f15:=Tryz.func246.trans (congrArg some (by kernel_rfl))
 f20:=⟨Tryz.f250.name,by kernel_rfl,Tryz.func250.trans (congrArg some (by kernel_rfl))⟩
 f21:=⟨Tryz.f251.name,by kernel_rfl,Tryz.func251.trans (congrArg some (by kernel_rfl))⟩
 f22:=⟨Tryz.f252.name,by kernel_rfl,Tryz.func252.trans (congrArg some (by kernel_rfl))⟩
 f23:=⟨Tryz.f253.name,by kernel_rfl,Tryz.func253.trans (congrArg some (by kernel_rfl))⟩
 f24:=⟨Tryz.f254.name,by kernel_rfl,Tryz.func254.trans (congrArg some (by kernel_rfl))⟩
 f25:=⟨Tryz.f255.name,by kernel_rfl,Tryz.func255.trans (congrArg some (by kernel_rfl))⟩
 f26:=⟨Tryz.f256.name,by kernel_rfl,Tryz.func256.trans (congrArg some (by kernel_rfl))⟩
 f27:=⟨Tryz.f257.name,by kernel_rfl,Tryz.func257.trans (congrArg some (by kernel_rfl))⟩
 f28:=Tryz.func258.trans (congrArg some (by kernel_rfl))
 f29:=Tryz.func214.trans (congrArg some (by kernel_rfl))
 f46:=⟨Tryz.f260.name,by kernel_rfl,Tryz.func260.trans (congrArg some (by kernel_rfl))⟩
 f47:=Tryz.func261.trans (congrArg some (by kernel_rfl))
 f48:=Tryz.func262.trans (congrArg some (by kernel_rfl))
 f49:=⟨Tryz.f263.name,by kernel_rfl,Tryz.func263.trans (congrArg some (by kernel_rfl))⟩
 f50:=⟨Tryz.f264.name,by kernel_rfl,Tryz.func264.trans (congrArg some (by kernel_rfl))⟩
 f57:=⟨Tryz.f265.name,by kernel_rfl,Tryz.func265.trans (congrArg some (by kernel_rfl))⟩
 t0:=Tryz.underlying0
 a0:=Tryz.isAgg0
 z0:=Tryz.sizeOf0
 v0:=Tryz.zeroValue0
 t3:=Tryz.underlying3
 a3:=Tryz.isAgg3
 z3:=Tryz.sizeOf3
 v3:=Tryz.zeroValue3
 t4:=Tryz.underlying4
 a4:=Tryz.isAgg4
 z4:=Tryz.sizeOf4
 v4:=Tryz.zeroValue4
 t5:=Tryz.underlying5
 a5:=Tryz.isAgg5
 z5:=Tryz.sizeOf5
 v5:=Tryz.zeroValue5
 t9:=Tryz.underlying9
 a9:=Tryz.isAgg9
 z9:=Tryz.sizeOf9
 v9:=Tryz.zeroValue9
 t22:=Tryz.underlying62
 a22:=Tryz.isAgg62
 z22:=Tryz.sizeOf62
 v22:=Tryz.zeroValue62
 t25:=Tryz.underlying287
 a25:=Tryz.isAgg287
 z25:=Tryz.sizeOf287
 v25:=Tryz.zeroValue287
 t39:=Tryz.underlying257
 a39:=Tryz.isAgg257
 z39:=Tryz.sizeOf257
 v39:=Tryz.zeroValue257
 t45:=Tryz.underlying303
 a45:=Tryz.isAgg303
 z45:=Tryz.sizeOf303
 v45:=Tryz.zeroValue303
 t46:=Tryz.underlying304
 a46:=Tryz.isAgg304
 z46:=Tryz.sizeOf304
 v46:=Tryz.zeroValue304
 t50:=Tryz.underlying154
 a50:=Tryz.isAgg154
 z50:=Tryz.sizeOf154
 v50:=Tryz.zeroValue154
 t53:=Tryz.underlying262
 a53:=Tryz.isAgg262
 z53:=Tryz.sizeOf262
 v53:=Tryz.zeroValue262
 t55:=Tryz.underlying169
 a55:=Tryz.isAgg169
 z55:=Tryz.sizeOf169
 v55:=Tryz.zeroValue169
 t66:=Tryz.underlying309
 a66:=Tryz.isAgg309
 z66:=Tryz.sizeOf309
 v66:=Tryz.zeroValue309
 t70:=Tryz.underlying313
 a70:=Tryz.isAgg313
 z70:=Tryz.sizeOf313
 v70:=Tryz.zeroValue313
 t76:=Tryz.underlying315
 a76:=Tryz.isAgg315
 z76:=Tryz.sizeOf315
 v76:=Tryz.zeroValue315
 t77:=Tryz.underlying316
 a77:=Tryz.isAgg316
 z77:=Tryz.sizeOf316
 v77:=Tryz.zeroValue316
set_option maxHeartbeats 2000000 in
theorem abJ(a b:ByteArray)(w:World):Calls Tryz.prog 247 #[.string a,.string b] w fun e w'=>e = .returned (.int .i64 (Lib.compareBytes a.data.toList b.data.toList))∧w'=w:=by
 go_enter Tryz.func247,Tryz.ntmps247
 go_wp2
 rw [run_callFunc_extern Tryz.func259 (by kernel_rfl) (by kernel_rfl) (by kernel_rfl) (e:=Extern.BytealgCompare.compare) (by kernel_rfl),Lib.run_compareString]
 simp only [Result.andThen]
 rw [Oper.upon_value]
 go_wp2
 go_ret
 exact ⟨rfl,rfl⟩
set_option maxHeartbeats 2000000 in
theorem abK(a b:ByteArray)(w:World):Calls Tryz.prog 238 #[.string a,.string b] w fun e w'=>e = .returned (.int .i64 (Lib.compareBytes a.data.toList b.data.toList))∧w'=w:=by
 have hcon:=fun W'=>abJ a b W'
 generalize Lib.compareBytes a.data.toList b.data.toList=r at hcon ⊢
 go_enter Tryz.func238,Tryz.ntmps238
 go_wp2_with (go_at_call 247;refine (hcon _).mono ?_;rintro e w' ⟨rfl,rfl⟩)
 go_ret
 exact ⟨rfl,rfl⟩
set_option maxHeartbeats 2000000 in
theorem Yf(x y:Pr)(W:World):Calls Tryz.prog 237 #[.agg #[.string ⟨x.1.toArray⟩,.string ⟨x.2.toArray⟩],.agg #[.string ⟨y.1.toArray⟩,.string ⟨y.2.toArray⟩]] W fun e w'=>e = .returned (.int .i64 (Pd x y))∧∃ q os',w'=Go.Sort.grow (W.drewN q) os':=by
 have hcon:∀ W',Calls Tryz.prog 238 #[.string ⟨x.1.toArray⟩,.string ⟨y.1.toArray⟩] W' fun e w'=>e = .returned (.int .i64 (Pd x y))∧w'=W':=fun W'=>by
  have:=abK ⟨x.1.toArray⟩ ⟨y.1.toArray⟩ W'
  simpa [Pd] using this
 generalize Pd x y=r at hcon ⊢
 go_enter Tryz.func237,Tryz.ntmps237
 go_wp2_with (go_at_call 238;refine (hcon _).mono ?_;rintro e w' ⟨rfl,rfl⟩)
 go_ret
 exact ⟨rfl,0,_,by rw [alloc_eq_grow,alloc_eq_grow,grow_grow];rfl⟩
theorem aal(blk off size:Nat)(w:World):CmpLays Tryz.prog 237 #[] FE 2 Pd blk off size w:=fun _ _ _ _ x y=>Yf x y _
theorem Ue:∀ args w,(callFunc 236 args).run Tryz.prog w = .ok (.enter 236 args) w:=R8.f6.enters rfl
theorem VM(blk cap:Nat)(d:Array Pr)(w:World)(hH:HoldsK FE 2 w blk 0 d)(hb:blk<w.heap.size)(hd:d.size<4611686018427387904) :
  Calls Tryz.prog 236 #[.slice (some ⟨blk,0,none⟩) d.size cap,.func (.func 237) #[] #[]] w fun e w'=>e = .returned (.tuple #[])∧∃ n os,w'=sortWorldK FE 2 w blk 0 n (xC d) os:=
 AnyQ.slices_SortFunc_eq R8 2 Tryz.isAgg64 Tryz.sizeOf64 FE (fun _=>rfl) (fun x v hv=>by simp [FE] at hv;rcases hv with rfl | rfl<;>rfl) Pd swoP 237 #[] blk 0 cap d w (enters_of Tryz.func237 (by kernel_rfl) rfl) (aal blk 0 d.size w) hH hb hd
theorem Yg(p:Option Addr)(cap:Nat)(fv:Value)(w:World):Calls Tryz.prog 236 #[.slice p 0 cap,fv] w fun e w'=>e = .returned (.tuple #[])∧w'=w:=AnyF.slices_SortFunc_none R8 p cap fv w
end
section
open Go.Proofs
def aam(f:FuncId):Option AFn:=(bif Nat.blt f 122 then (bif Nat.blt f 71 then (bif Nat.blt f 50 then (bif Nat.blt f 27 then (bif Nat.blt f 17 then (bif Nat.blt f 15 then (bif Nat.blt f 8 then (bif Nat.beq f 7 then some eA else none) else (bif Nat.beq f 8 then some aZ else none)) else (bif Nat.blt f 16 then (bif Nat.beq f 15 then some oH else none) else (bif Nat.beq f 16 then some cE else none))) else (bif Nat.blt f 24 then (bif Nat.blt f 23 then (bif Nat.beq f 17 then some nd else none) else (bif Nat.beq f 23 then some gd else none)) else (bif Nat.blt f 25 then (bif Nat.beq f 24 then some n7 else none) else (bif Nat.blt f 26 then (bif Nat.beq f 25 then some gE else none) else (bif Nat.beq f 26 then some cQ else none))))) else (bif Nat.blt f 45 then (bif Nat.blt f 39 then (bif Nat.blt f 38 then (bif Nat.beq f 27 then some dA else none) else (bif Nat.beq f 38 then some gm else none)) else (bif Nat.blt f 43 then (bif Nat.beq f 39 then some fe else none) else (bif Nat.blt f 44 then (bif Nat.beq f 43 then some lD else none) else (bif Nat.beq f 44 then some dR else none)))) else (bif Nat.blt f 47 then (bif Nat.blt f 46 then (bif Nat.beq f 45 then some mr else none) else (bif Nat.beq f 46 then some dg else none)) else (bif Nat.blt f 48 then (bif Nat.beq f 47 then some en else none) else (bif Nat.blt f 49 then (bif Nat.beq f 48 then some mt else none) else (bif Nat.beq f 49 then some dh else none)))))) else (bif Nat.blt f 60 then (bif Nat.blt f 55 then (bif Nat.blt f 52 then (bif Nat.blt f 51 then (bif Nat.beq f 50 then some gn else none) else (bif Nat.beq f 51 then some mw else none)) else (bif Nat.blt f 53 then (bif Nat.beq f 52 then some di else none) else (bif Nat.blt f 54 then (bif Nat.beq f 53 then some eo else none) else (bif Nat.beq f 54 then some my else none)))) else (bif Nat.blt f 57 then (bif Nat.blt f 56 then (bif Nat.beq f 55 then some dj else none) else (bif Nat.beq f 56 then some gp else none)) else (bif Nat.blt f 58 then (bif Nat.beq f 57 then some mz else none) else (bif Nat.blt f 59 then (bif Nat.beq f 58 then some dF else none) else (bif Nat.beq f 59 then some gJ else none))))) else (bif Nat.blt f 65 then (bif Nat.blt f 62 then (bif Nat.blt f 61 then (bif Nat.beq f 60 then some bt else none) else (bif Nat.beq f 61 then some dk else none)) else (bif Nat.blt f 63 then (bif Nat.beq f 62 then some cT else none) else (bif Nat.blt f 64 then (bif Nat.beq f 63 then some bw else none) else (bif Nat.beq f 64 then some fx else none)))) else (bif Nat.blt f 67 then (bif Nat.blt f 66 then (bif Nat.beq f 65 then some eX else none) else (bif Nat.beq f 66 then some bR else none)) else (bif Nat.blt f 68 then (bif Nat.beq f 67 then some cU else none) else (bif Nat.blt f 70 then (bif Nat.beq f 68 then some eJ else none) else (bif Nat.beq f 70 then some iT else none))))))) else (bif Nat.blt f 102 then (bif Nat.blt f 92 then (bif Nat.blt f 75 then (bif Nat.blt f 73 then (bif Nat.blt f 72 then (bif Nat.beq f 71 then some qI else none) else (bif Nat.beq f 72 then some d6 else none)) else (bif Nat.blt f 74 then (bif Nat.beq f 73 then some bZ else none) else (bif Nat.beq f 74 then some d7 else none))) else (bif Nat.blt f 86 then (bif Nat.blt f 77 then (bif Nat.beq f 75 then some bM else none) else (bif Nat.beq f 77 then some ep else none)) else (bif Nat.blt f 88 then (bif Nat.beq f 86 then some du else none) else (bif Nat.blt f 91 then (bif Nat.beq f 88 then some dS else none) else (bif Nat.beq f 91 then some jd else none))))) else (bif Nat.blt f 97 then (bif Nat.blt f 94 then (bif Nat.blt f 93 then (bif Nat.beq f 92 then some lE else none) else (bif Nat.beq f 93 then some bB else none)) else (bif Nat.blt f 95 then (bif Nat.beq f 94 then some fC else none) else (bif Nat.blt f 96 then (bif Nat.beq f 95 then some cS else none) else (bif Nat.beq f 96 then some bC else none)))) else (bif Nat.blt f 99 then (bif Nat.blt f 98 then (bif Nat.beq f 97 then some fD else none) else (bif Nat.beq f 98 then some dG else none)) else (bif Nat.blt f 100 then (bif Nat.beq f 99 then some fE else none) else (bif Nat.blt f 101 then (bif Nat.beq f 100 then some oP else none) else (bif Nat.beq f 101 then some fP else none)))))) else (bif Nat.blt f 112 then (bif Nat.blt f 107 then (bif Nat.blt f 104 then (bif Nat.blt f 103 then (bif Nat.beq f 102 then some mB else none) else (bif Nat.beq f 103 then some oQ else none)) else (bif Nat.blt f 105 then (bif Nat.beq f 104 then some bD else none) else (bif Nat.blt f 106 then (bif Nat.beq f 105 then some fF else none) else (bif Nat.beq f 106 then some bG else none)))) else (bif Nat.blt f 109 then (bif Nat.blt f 108 then (bif Nat.beq f 107 then some fG else none) else (bif Nat.beq f 108 then some oR else none)) else (bif Nat.blt f 110 then (bif Nat.beq f 109 then some bg else none) else (bif Nat.blt f 111 then (bif Nat.beq f 110 then some fH else none) else (bif Nat.beq f 111 then some nj else none))))) else (bif Nat.blt f 117 then (bif Nat.blt f 114 then (bif Nat.blt f 113 then (bif Nat.beq f 112 then some nk else none) else (bif Nat.beq f 113 then some fQ else none)) else (bif Nat.blt f 115 then (bif Nat.beq f 114 then some b4 else none) else (bif Nat.blt f 116 then (bif Nat.beq f 115 then some fy else none) else (bif Nat.beq f 116 then some gM else none)))) else (bif Nat.blt f 119 then (bif Nat.blt f 118 then (bif Nat.beq f 117 then some iV else none) else (bif Nat.beq f 118 then some cF else none)) else (bif Nat.blt f 120 then (bif Nat.beq f 119 then some c8 else none) else (bif Nat.blt f 121 then (bif Nat.beq f 120 then some c9 else none) else (bif Nat.beq f 121 then some da else none)))))))) else (bif Nat.blt f 176 then (bif Nat.blt f 155 then (bif Nat.blt f 133 then (bif Nat.blt f 126 then (bif Nat.blt f 124 then (bif Nat.blt f 123 then (bif Nat.beq f 122 then some db else none) else (bif Nat.beq f 123 then some dB else none)) else (bif Nat.blt f 125 then (bif Nat.beq f 124 then some eU else none) else (bif Nat.beq f 125 then some dC else none))) else (bif Nat.blt f 128 then (bif Nat.blt f 127 then (bif Nat.beq f 126 then some dD else none) else (bif Nat.beq f 127 then some bV else none)) else (bif Nat.blt f 129 then (bif Nat.beq f 128 then some ij else none) else (bif Nat.blt f 130 then (bif Nat.beq f 129 then some iW else none) else (bif Nat.beq f 130 then some d8 else none))))) else (bif Nat.blt f 138 then (bif Nat.blt f 135 then (bif Nat.blt f 134 then (bif Nat.beq f 133 then some gk else none) else (bif Nat.beq f 134 then some lR else none)) else (bif Nat.blt f 136 then (bif Nat.beq f 135 then some cu else none) else (bif Nat.blt f 137 then (bif Nat.beq f 136 then some gh else none) else (bif Nat.beq f 137 then some br else none)))) else (bif Nat.blt f 140 then (bif Nat.blt f 139 then (bif Nat.beq f 138 then some gq else none) else (bif Nat.beq f 139 then some dU else none)) else (bif Nat.blt f 142 then (bif Nat.beq f 140 then some gQ else none) else (bif Nat.blt f 143 then (bif Nat.beq f 142 then some mE else none) else (bif Nat.beq f 143 then some mF else none)))))) else (bif Nat.blt f 166 then (bif Nat.blt f 161 then (bif Nat.blt f 158 then (bif Nat.blt f 156 then (bif Nat.beq f 155 then some dV else none) else (bif Nat.beq f 156 then some fU else none)) else (bif Nat.blt f 159 then (bif Nat.beq f 158 then some kF else none) else (bif Nat.blt f 160 then (bif Nat.beq f 159 then some lS else none) else (bif Nat.beq f 160 then some a8 else none)))) else (bif Nat.blt f 163 then (bif Nat.blt f 162 then (bif Nat.beq f 161 then some cg else none) else (bif Nat.beq f 162 then some bb else none)) else (bif Nat.blt f 164 then (bif Nat.beq f 163 then some dH else none) else (bif Nat.blt f 165 then (bif Nat.beq f 164 then some fg else none) else (bif Nat.beq f 165 then some ej else none))))) else (bif Nat.blt f 171 then (bif Nat.blt f 168 then (bif Nat.blt f 167 then (bif Nat.beq f 166 then some kG else none) else (bif Nat.beq f 167 then some bc else none)) else (bif Nat.blt f 169 then (bif Nat.beq f 168 then some bk else none) else (bif Nat.blt f 170 then (bif Nat.beq f 169 then some bH else none) else (bif Nat.beq f 170 then some mI else none)))) else (bif Nat.blt f 173 then (bif Nat.blt f 172 then (bif Nat.beq f 171 then some kH else none) else (bif Nat.beq f 172 then some aO else none)) else (bif Nat.blt f 174 then (bif Nat.beq f 173 then some j4 else none) else (bif Nat.blt f 175 then (bif Nat.beq f 174 then some er else none) else (bif Nat.beq f 175 then some im else none))))))) else (bif Nat.blt f 204 then (bif Nat.blt f 190 then (bif Nat.blt f 181 then (bif Nat.blt f 178 then (bif Nat.blt f 177 then (bif Nat.beq f 176 then some dc else none) else (bif Nat.beq f 177 then some kR else none)) else (bif Nat.blt f 179 then (bif Nat.beq f 178 then some io else none) else (bif Nat.blt f 180 then (bif Nat.beq f 179 then some ip else none) else (bif Nat.beq f 180 then some dW else none)))) else (bif Nat.blt f 183 then (bif Nat.blt f 182 then (bif Nat.beq f 181 then some dX else none) else (bif Nat.beq f 182 then some fJ else none)) else (bif Nat.blt f 184 then (bif Nat.beq f 183 then some kJ else none) else (bif Nat.blt f 186 then (bif Nat.beq f 184 then some kb else none) else (bif Nat.beq f 186 then some dL else none))))) else (bif Nat.blt f 199 then (bif Nat.blt f 196 then (bif Nat.blt f 195 then (bif Nat.beq f 190 then some fW else none) else (bif Nat.beq f 195 then some bn else none)) else (bif Nat.blt f 197 then (bif Nat.beq f 196 then some eD else none) else (bif Nat.blt f 198 then (bif Nat.beq f 197 then some nh else none) else (bif Nat.beq f 198 then some iq else none)))) else (bif Nat.blt f 201 then (bif Nat.blt f 200 then (bif Nat.beq f 199 then some dE else none) else (bif Nat.beq f 200 then some cI else none)) else (bif Nat.blt f 202 then (bif Nat.beq f 201 then some iN else none) else (bif Nat.blt f 203 then (bif Nat.beq f 202 then some ew else none) else (bif Nat.beq f 203 then some dY else none)))))) else (bif Nat.blt f 225 then (bif Nat.blt f 219 then (bif Nat.blt f 207 then (bif Nat.blt f 205 then (bif Nat.beq f 204 then some ir else none) else (bif Nat.beq f 205 then some cJ else none)) else (bif Nat.blt f 208 then (bif Nat.beq f 207 then some np else none) else (bif Nat.blt f 218 then (bif Nat.beq f 208 then some gu else none) else (bif Nat.beq f 218 then some cW else none)))) else (bif Nat.blt f 221 then (bif Nat.blt f 220 then (bif Nat.beq f 219 then some lm else none) else (bif Nat.beq f 220 then some cX else none)) else (bif Nat.blt f 222 then (bif Nat.beq f 221 then some rQ else none) else (bif Nat.blt f 223 then (bif Nat.beq f 222 then some cK else none) else (bif Nat.beq f 223 then some fX else none))))) else (bif Nat.blt f 238 then (bif Nat.blt f 234 then (bif Nat.blt f 233 then (bif Nat.beq f 225 then some kd else none) else (bif Nat.beq f 233 then some eG else none)) else (bif Nat.blt f 235 then (bif Nat.beq f 234 then some b5 else none) else (bif Nat.blt f 237 then (bif Nat.beq f 235 then some dl else none) else (bif Nat.beq f 237 then some E5 else none)))) else (bif Nat.blt f 240 then (bif Nat.blt f 239 then (bif Nat.beq f 238 then some BY else none) else (bif Nat.beq f 239 then some bh else none)) else (bif Nat.blt f 244 then (bif Nat.beq f 240 then some iO else none) else (bif Nat.blt f 247 then (bif Nat.beq f 244 then some dP else none) else (bif Nat.beq f 247 then some oo else none)))))))))
theorem xd:ag Tryz.prog G0 7 eA:=by unfold ag;kernel_rfl
theorem CF:ag Tryz.prog G0 8 aZ:=by unfold ag;kernel_rfl
theorem LF:ag Tryz.prog G0 15 oH:=by unfold ag;kernel_rfl
theorem CG:ag Tryz.prog G0 16 cE:=by unfold ag;kernel_rfl
theorem Pg:ag Tryz.prog G0 17 nd:=by unfold ag;kernel_rfl
theorem zt:ag Tryz.prog G0 23 gd:=by unfold ag;kernel_rfl
theorem I1:ag Tryz.prog G0 24 n7:=by unfold ag;kernel_rfl
theorem AQ:ag Tryz.prog G0 25 gE:=by unfold ag;kernel_rfl
theorem xr:ag Tryz.prog G0 26 cQ:=by unfold ag;kernel_rfl
theorem AR:ag Tryz.prog G0 27 dA:=by unfold ag;kernel_rfl
theorem CH:ag Tryz.prog G0 38 gm:=by unfold ag;kernel_rfl
theorem zu:ag Tryz.prog G0 39 fe:=by unfold ag;kernel_rfl
theorem LG:ag Tryz.prog G0 43 lD:=by unfold ag;kernel_rfl
theorem Bt:ag Tryz.prog G0 44 dR:=by unfold ag;kernel_rfl
theorem I2:ag Tryz.prog G0 45 mr:=by unfold ag;kernel_rfl
theorem Bu:ag Tryz.prog G0 46 dg:=by unfold ag;kernel_rfl
theorem CI:ag Tryz.prog G0 47 en:=by unfold ag;kernel_rfl
theorem I3:ag Tryz.prog G0 48 mt:=by unfold ag;kernel_rfl
theorem Bv:ag Tryz.prog G0 49 dh:=by unfold ag;kernel_rfl
theorem CJ:ag Tryz.prog G0 50 gn:=by unfold ag;kernel_rfl
theorem I4:ag Tryz.prog G0 51 mw:=by unfold ag;kernel_rfl
theorem Bw:ag Tryz.prog G0 52 di:=by unfold ag;kernel_rfl
theorem CL:ag Tryz.prog G0 53 eo:=by unfold ag;kernel_rfl
theorem I5:ag Tryz.prog G0 54 my:=by unfold ag;kernel_rfl
theorem Bx:ag Tryz.prog G0 55 dj:=by unfold ag;kernel_rfl
theorem CM:ag Tryz.prog G0 56 gp:=by unfold ag;kernel_rfl
theorem I6:ag Tryz.prog G0 57 mz:=by unfold ag;kernel_rfl
theorem CN:ag Tryz.prog G0 58 dF:=by unfold ag;kernel_rfl
theorem D0:ag Tryz.prog G0 59 gJ:=by unfold ag;kernel_rfl
theorem FF:ag Tryz.prog G0 60 bt:=by unfold ag;kernel_rfl
theorem By:ag Tryz.prog G0 61 dk:=by unfold ag;kernel_rfl
theorem AS:ag Tryz.prog G0 62 cT:=by unfold ag;kernel_rfl
theorem AT:ag Tryz.prog G0 63 bw:=by unfold ag;kernel_rfl
theorem CO:ag Tryz.prog G0 64 fx:=by unfold ag;kernel_rfl
theorem Bz:ag Tryz.prog G0 65 eX:=by unfold ag;kernel_rfl
theorem LI:ag Tryz.prog G0 66 bR:=by unfold ag;kernel_rfl
theorem AU:ag Tryz.prog G0 67 cU:=by unfold ag;kernel_rfl
theorem ET:ag Tryz.prog G0 68 eJ:=by unfold ag;kernel_rfl
theorem CP:ag Tryz.prog G0 70 iT:=by unfold ag;kernel_rfl
theorem MQ:ag Tryz.prog G0 71 qI:=by unfold ag;kernel_rfl
theorem zw:ag Tryz.prog G0 72 d6:=by unfold ag;kernel_rfl
theorem D1:ag Tryz.prog G0 73 bZ:=by unfold ag;kernel_rfl
theorem zx:ag Tryz.prog G0 74 d7:=by unfold ag;kernel_rfl
theorem xt:ag Tryz.prog G0 75 bM:=by unfold ag;kernel_rfl
theorem CQ:ag Tryz.prog G0 77 ep:=by unfold ag;kernel_rfl
theorem xf:ag Tryz.prog G0 86 du:=by unfold ag;kernel_rfl
theorem xU:ag Tryz.prog G0 88 dS:=by unfold ag;kernel_rfl
theorem Kx:ag Tryz.prog G0 91 jd:=by unfold ag;kernel_rfl
theorem MR:ag Tryz.prog G0 92 lE:=by unfold ag;kernel_rfl
theorem pR:ag Tryz.prog G0 93 bB:=by unfold ag;kernel_rfl
theorem AW:ag Tryz.prog G0 94 fC:=by unfold ag;kernel_rfl
theorem vq:ag Tryz.prog G0 95 cS:=by unfold ag;kernel_rfl
theorem pS:ag Tryz.prog G0 96 bC:=by unfold ag;kernel_rfl
theorem AX:ag Tryz.prog G0 97 fD:=by unfold ag;kernel_rfl
theorem CR:ag Tryz.prog G0 98 dG:=by unfold ag;kernel_rfl
theorem AY:ag Tryz.prog G0 99 fE:=by unfold ag;kernel_rfl
theorem LJ:ag Tryz.prog G0 100 oP:=by unfold ag;kernel_rfl
theorem BA:ag Tryz.prog G0 101 fP:=by unfold ag;kernel_rfl
theorem I7:ag Tryz.prog G0 102 mB:=by unfold ag;kernel_rfl
theorem LL:ag Tryz.prog G0 103 oQ:=by unfold ag;kernel_rfl
theorem pT:ag Tryz.prog G0 104 bD:=by unfold ag;kernel_rfl
theorem AZ:ag Tryz.prog G0 105 fF:=by unfold ag;kernel_rfl
theorem rl:ag Tryz.prog G0 106 bG:=by unfold ag;kernel_rfl
theorem A1:ag Tryz.prog G0 107 fG:=by unfold ag;kernel_rfl
theorem LM:ag Tryz.prog G0 108 oR:=by unfold ag;kernel_rfl
theorem nb:ag Tryz.prog G0 109 bg:=by unfold ag;kernel_rfl
theorem A2:ag Tryz.prog G0 110 fH:=by unfold ag;kernel_rfl
theorem Ky:ag Tryz.prog G0 111 nj:=by unfold ag;kernel_rfl
theorem Kz:ag Tryz.prog G0 112 nk:=by unfold ag;kernel_rfl
theorem BB:ag Tryz.prog G0 113 fQ:=by unfold ag;kernel_rfl
theorem D2:ag Tryz.prog G0 114 b4:=by unfold ag;kernel_rfl
theorem CS:ag Tryz.prog G0 115 fy:=by unfold ag;kernel_rfl
theorem FG:ag Tryz.prog G0 116 gM:=by unfold ag;kernel_rfl
theorem CT:ag Tryz.prog G0 117 iV:=by unfold ag;kernel_rfl
theorem CU:ag Tryz.prog G0 118 cF:=by unfold ag;kernel_rfl
theorem tL:ag Tryz.prog G0 119 c8:=by unfold ag;kernel_rfl
theorem tM:ag Tryz.prog G0 120 c9:=by unfold ag;kernel_rfl
theorem tN:ag Tryz.prog G0 121 da:=by unfold ag;kernel_rfl
theorem tO:ag Tryz.prog G0 122 db:=by unfold ag;kernel_rfl
theorem uQ:ag Tryz.prog G0 123 dB:=by unfold ag;kernel_rfl
theorem xu:ag Tryz.prog G0 124 eU:=by unfold ag;kernel_rfl
theorem uR:ag Tryz.prog G0 125 dC:=by unfold ag;kernel_rfl
theorem uS:ag Tryz.prog G0 126 dD:=by unfold ag;kernel_rfl
theorem o8:ag Tryz.prog G0 127 bV:=by unfold ag;kernel_rfl
theorem BC:ag Tryz.prog G0 128 ij:=by unfold ag;kernel_rfl
theorem CV:ag Tryz.prog G0 129 iW:=by unfold ag;kernel_rfl
theorem D3:ag Tryz.prog G0 130 d8:=by unfold ag;kernel_rfl
theorem Ph:ag Tryz.prog G0 133 gk:=by unfold ag;kernel_rfl
theorem KA:ag Tryz.prog G0 134 lR:=by unfold ag;kernel_rfl
theorem yW:ag Tryz.prog G0 135 cu:=by unfold ag;kernel_rfl
theorem HS:ag Tryz.prog G0 136 gh:=by unfold ag;kernel_rfl
theorem zy:ag Tryz.prog G0 137 br:=by unfold ag;kernel_rfl
theorem CW:ag Tryz.prog G0 138 gq:=by unfold ag;kernel_rfl
theorem BD:ag Tryz.prog G0 139 dU:=by unfold ag;kernel_rfl
theorem D4:ag Tryz.prog G0 140 gQ:=by unfold ag;kernel_rfl
theorem I8:ag Tryz.prog G0 142 mE:=by unfold ag;kernel_rfl
theorem I9:ag Tryz.prog G0 143 mF:=by unfold ag;kernel_rfl
theorem xV:ag Tryz.prog G0 155 dV:=by unfold ag;kernel_rfl
theorem BE:ag Tryz.prog G0 156 fU:=by unfold ag;kernel_rfl
theorem KB:ag Tryz.prog G0 158 kF:=by unfold ag;kernel_rfl
theorem KC:ag Tryz.prog G0 159 lS:=by unfold ag;kernel_rfl
theorem rI:ag Tryz.prog G0 160 a8:=by unfold ag;kernel_rfl
theorem xv:ag Tryz.prog G0 161 cg:=by unfold ag;kernel_rfl
theorem rJ:ag Tryz.prog G0 162 bb:=by unfold ag;kernel_rfl
theorem CX:ag Tryz.prog G0 163 dH:=by unfold ag;kernel_rfl
theorem zA:ag Tryz.prog G0 164 fg:=by unfold ag;kernel_rfl
theorem yr:ag Tryz.prog G0 165 ej:=by unfold ag;kernel_rfl
theorem GV:ag Tryz.prog G0 166 kG:=by unfold ag;kernel_rfl
theorem rK:ag Tryz.prog G0 167 bc:=by unfold ag;kernel_rfl
theorem sY:ag Tryz.prog G0 168 bk:=by unfold ag;kernel_rfl
theorem rm:ag Tryz.prog G0 169 bH:=by unfold ag;kernel_rfl
theorem Ja:ag Tryz.prog G0 170 mI:=by unfold ag;kernel_rfl
theorem GW:ag Tryz.prog G0 171 kH:=by unfold ag;kernel_rfl
theorem nO:ag Tryz.prog G0 172 aO:=by unfold ag;kernel_rfl
theorem D5:ag Tryz.prog G0 173 j4:=by unfold ag;kernel_rfl
theorem CY:ag Tryz.prog G0 174 er:=by unfold ag;kernel_rfl
theorem BF:ag Tryz.prog G0 175 im:=by unfold ag;kernel_rfl
theorem tP:ag Tryz.prog G0 176 dc:=by unfold ag;kernel_rfl
theorem EU:ag Tryz.prog G0 177 kR:=by unfold ag;kernel_rfl
theorem BG:ag Tryz.prog G0 178 io:=by unfold ag;kernel_rfl
theorem BH:ag Tryz.prog G0 179 ip:=by unfold ag;kernel_rfl
theorem xW:ag Tryz.prog G0 180 dW:=by unfold ag;kernel_rfl
theorem BI:ag Tryz.prog G0 181 dX:=by unfold ag;kernel_rfl
theorem GX:ag Tryz.prog G0 182 fJ:=by unfold ag;kernel_rfl
theorem uT:ag Tryz.prog G0 183 kJ:=by unfold ag;kernel_rfl
theorem uj:ag Tryz.prog G0 184 kb:=by unfold ag;kernel_rfl
theorem xw:ag Tryz.prog G0 186 dL:=by unfold ag;kernel_rfl
theorem BJ:ag Tryz.prog G0 190 fW:=by unfold ag;kernel_rfl
theorem sZ:ag Tryz.prog G0 195 bn:=by unfold ag;kernel_rfl
theorem A3:ag Tryz.prog G0 196 eD:=by unfold ag;kernel_rfl
theorem HT:ag Tryz.prog G0 197 nh:=by unfold ag;kernel_rfl
theorem BK:ag Tryz.prog G0 198 iq:=by unfold ag;kernel_rfl
theorem uU:ag Tryz.prog G0 199 dE:=by unfold ag;kernel_rfl
theorem zB:ag Tryz.prog G0 200 cI:=by unfold ag;kernel_rfl
theorem EV:ag Tryz.prog G0 201 iN:=by unfold ag;kernel_rfl
theorem CZ:ag Tryz.prog G0 202 ew:=by unfold ag;kernel_rfl
theorem BM:ag Tryz.prog G0 203 dY:=by unfold ag;kernel_rfl
theorem sL:ag Tryz.prog G0 204 ir:=by unfold ag;kernel_rfl
theorem uV:ag Tryz.prog G0 205 cJ:=by unfold ag;kernel_rfl
theorem yt:ag Tryz.prog G0 207 np:=by unfold ag;kernel_rfl
theorem pX:ag Tryz.prog G0 208 gu:=by unfold ag;kernel_rfl
theorem A4:ag Tryz.prog G0 218 cW:=by unfold ag;kernel_rfl
theorem FH:ag Tryz.prog G0 219 lm:=by unfold ag;kernel_rfl
theorem tv:ag Tryz.prog G0 220 cX:=by unfold ag;kernel_rfl
theorem LN:ag Tryz.prog G0 221 rQ:=by unfold ag;kernel_rfl
theorem uW:ag Tryz.prog G0 222 cK:=by unfold ag;kernel_rfl
theorem BN:ag Tryz.prog G0 223 fX:=by unfold ag;kernel_rfl
theorem uk:ag Tryz.prog G0 225 kd:=by unfold ag;kernel_rfl
theorem A5:ag Tryz.prog G0 233 eG:=by unfold ag;kernel_rfl
theorem uX:ag Tryz.prog G0 234 b5:=by unfold ag;kernel_rfl
theorem ul:ag Tryz.prog G0 235 dl:=by unfold ag;kernel_rfl
theorem Jb:ag Tryz.prog G0 237 E5:=by unfold ag;kernel_rfl
theorem GY:ag Tryz.prog G0 238 BY:=by unfold ag;kernel_rfl
theorem tQ:ag Tryz.prog G0 239 bh:=by unfold ag;kernel_rfl
theorem EW:ag Tryz.prog G0 240 iO:=by unfold ag;kernel_rfl
theorem vr:ag Tryz.prog G0 244 dP:=by unfold ag;kernel_rfl
theorem uY:ag Tryz.prog G0 247 oo:=by unfold ag;kernel_rfl
theorem WS:∀ f af,aam f=some af→ag Tryz.prog G0 f af:=fun f af h=>by
 unfold aam at h
 revert h
 exact (ak (ak (ak (ak (ak (ak (ak (aj (C:=_) xd) (aj (C:=_) CF)) (ak (aj (C:=_) LF) (aj (C:=_) CG))) (ak (ak (aj (C:=_) Pg) (aj (C:=_) zt)) (ak (aj (C:=_) I1) (ak (aj (C:=_) AQ) (aj (C:=_) xr))))) (ak (ak (ak (aj (C:=_) AR) (aj (C:=_) CH)) (ak (aj (C:=_) zu) (ak (aj (C:=_) LG) (aj (C:=_) Bt)))) (ak (ak (aj (C:=_) I2) (aj (C:=_) Bu)) (ak (aj (C:=_) CI) (ak (aj (C:=_) I3) (aj (C:=_) Bv)))))) (ak (ak (ak (ak (aj (C:=_) CJ) (aj (C:=_) I4)) (ak (aj (C:=_) Bw) (ak (aj (C:=_) CL) (aj (C:=_) I5)))) (ak (ak (aj (C:=_) Bx) (aj (C:=_) CM)) (ak (aj (C:=_) I6) (ak (aj (C:=_) CN) (aj (C:=_) D0))))) (ak (ak (ak (aj (C:=_) FF) (aj (C:=_) By)) (ak (aj (C:=_) AS) (ak (aj (C:=_) AT) (aj (C:=_) CO)))) (ak (ak (aj (C:=_) Bz) (aj (C:=_) LI)) (ak (aj (C:=_) AU) (ak (aj (C:=_) ET) (aj (C:=_) CP))))))) (ak (ak (ak (ak (ak (aj (C:=_) MQ) (aj (C:=_) zw)) (ak (aj (C:=_) D1) (aj (C:=_) zx))) (ak (ak (aj (C:=_) xt) (aj (C:=_) CQ)) (ak (aj (C:=_) xf) (ak (aj (C:=_) xU) (aj (C:=_) Kx))))) (ak (ak (ak (aj (C:=_) MR) (aj (C:=_) pR)) (ak (aj (C:=_) AW) (ak (aj (C:=_) vq) (aj (C:=_) pS)))) (ak (ak (aj (C:=_) AX) (aj (C:=_) CR)) (ak (aj (C:=_) AY) (ak (aj (C:=_) LJ) (aj (C:=_) BA)))))) (ak (ak (ak (ak (aj (C:=_) I7) (aj (C:=_) LL)) (ak (aj (C:=_) pT) (ak (aj (C:=_) AZ) (aj (C:=_) rl)))) (ak (ak (aj (C:=_) A1) (aj (C:=_) LM)) (ak (aj (C:=_) nb) (ak (aj (C:=_) A2) (aj (C:=_) Ky))))) (ak (ak (ak (aj (C:=_) Kz) (aj (C:=_) BB)) (ak (aj (C:=_) D2) (ak (aj (C:=_) CS) (aj (C:=_) FG)))) (ak (ak (aj (C:=_) CT) (aj (C:=_) CU)) (ak (aj (C:=_) tL) (ak (aj (C:=_) tM) (aj (C:=_) tN)))))))) (ak (ak (ak (ak (ak (ak (aj (C:=_) tO) (aj (C:=_) uQ)) (ak (aj (C:=_) xu) (aj (C:=_) uR))) (ak (ak (aj (C:=_) uS) (aj (C:=_) o8)) (ak (aj (C:=_) BC) (ak (aj (C:=_) CV) (aj (C:=_) D3))))) (ak (ak (ak (aj (C:=_) Ph) (aj (C:=_) KA)) (ak (aj (C:=_) yW) (ak (aj (C:=_) HS) (aj (C:=_) zy)))) (ak (ak (aj (C:=_) CW) (aj (C:=_) BD)) (ak (aj (C:=_) D4) (ak (aj (C:=_) I8) (aj (C:=_) I9)))))) (ak (ak (ak (ak (aj (C:=_) xV) (aj (C:=_) BE)) (ak (aj (C:=_) KB) (ak (aj (C:=_) KC) (aj (C:=_) rI)))) (ak (ak (aj (C:=_) xv) (aj (C:=_) rJ)) (ak (aj (C:=_) CX) (ak (aj (C:=_) zA) (aj (C:=_) yr))))) (ak (ak (ak (aj (C:=_) GV) (aj (C:=_) rK)) (ak (aj (C:=_) sY) (ak (aj (C:=_) rm) (aj (C:=_) Ja)))) (ak (ak (aj (C:=_) GW) (aj (C:=_) nO)) (ak (aj (C:=_) D5) (ak (aj (C:=_) CY) (aj (C:=_) BF))))))) (ak (ak (ak (ak (ak (aj (C:=_) tP) (aj (C:=_) EU)) (ak (aj (C:=_) BG) (ak (aj (C:=_) BH) (aj (C:=_) xW)))) (ak (ak (aj (C:=_) BI) (aj (C:=_) GX)) (ak (aj (C:=_) uT) (ak (aj (C:=_) uj) (aj (C:=_) xw))))) (ak (ak (ak (aj (C:=_) BJ) (aj (C:=_) sZ)) (ak (aj (C:=_) A3) (ak (aj (C:=_) HT) (aj (C:=_) BK)))) (ak (ak (aj (C:=_) uU) (aj (C:=_) zB)) (ak (aj (C:=_) EV) (ak (aj (C:=_) CZ) (aj (C:=_) BM)))))) (ak (ak (ak (ak (aj (C:=_) sL) (aj (C:=_) uV)) (ak (aj (C:=_) yt) (ak (aj (C:=_) pX) (aj (C:=_) A4)))) (ak (ak (aj (C:=_) FH) (aj (C:=_) tv)) (ak (aj (C:=_) LN) (ak (aj (C:=_) uW) (aj (C:=_) BN))))) (ak (ak (ak (aj (C:=_) uk) (aj (C:=_) A5)) (ak (aj (C:=_) uX) (ak (aj (C:=_) ul) (aj (C:=_) Jb)))) (ak (ak (aj (C:=_) GY) (aj (C:=_) tQ)) (ak (aj (C:=_) EW) (ak (aj (C:=_) vr) (aj (C:=_) uY)))))))))
def WT(f:FuncId)(args:List AV)(H:List AObj):Option Out:=
 match args with
 |[]=>bif Nat.beq f fq then some (.ret (.bool true),H) else none
 |args=>match Yc bI jn f args H with
  |some r=>some r
  |none=>Zd f args H
theorem Uf{f:FuncId}{args:List AV}{H H':List AObj}{r:vH}(h:WT f args H=some (r,H')):eV Tryz.prog G0 f args H fun r2 H2=>r2=r∧H2=H':=by
 unfold WT at h
 split at h
 ·cases h1:Nat.beq f fq with
  |true=>rw [h1] at h;cases h;rw [Nat.eq_of_beq_eq_true h1];exact Zf H
  |false=>rw [h1] at h;cases h
 ·split at h
  ·rename_i r' hr
   cases h
   exact abH Ue VM Yg hr
  ·exact Wb h
noncomputable def EN0:bz := { P:=Tryz.prog,G:=G0,fn:=aam,orc:=WT,dfn:=fun _=>none }
theorem aan:EN0.Ok:=bz.ok5 RD (fun f af h=>WS f af h) (fun _ _ _ h=>by cases h) (fun _ _ _ _ _ h=>by cases h) (fun _ _ _ _ _ h=>Uf h)
theorem clo0:AL EN0:=by constructor<;>rfl
noncomputable def ac9(f:FuncId)(args:List AV)(H:List AObj):Option Out:=bif Nat.beq f hZ then aah args H else WT f args H
theorem abL{f:FuncId}{args:List AV}{H H':List AObj}{r:vH}(h:ac9 f args H=some (r,H')):eV Tryz.prog G0 f args H fun r2 H2=>r2=r∧H2=H':=by
 unfold ac9 at h
 cases h1:Nat.beq f hZ with
 |true=>
  rw [h1] at h
  rw [Nat.eq_of_beq_eq_true h1]
  obtain ⟨M⟩:=L6 cB EN0
  exact abF M aan (WdE.of M aan (fun _ _ _=>rfl)) clo0 g0 h
 |false=>rw [h1] at h;exact Uf h
def aao(f:FuncId):Option AFn:=bif Nat.beq f hZ then none else aam f
theorem aap{f:FuncId}{af:AFn}(h:aao f=some af):aam f=some af:=by
 unfold aao at h
 cases h1:Nat.beq f hZ with
 |true=>rw [h1] at h;cases h
 |false=>rw [h1] at h;exact h
noncomputable def EN:bz := { P:=Tryz.prog,G:=G0,fn:=aao,orc:=ac9,dfn:=fun _=>none }
theorem acb:EN.Ok:=bz.ok5 RD (fun f af h=>WS f af (aap h)) (fun _ _ _ h=>by cases h) (fun _ _ _ _ _ h=>by cases h) (fun _ _ _ _ _ h=>abL h)
theorem ada(M:cG cB EN){l:Lex}(hk:l.kn)(H:List AObj):M.run hZ [.agg l.row] H=some (.ret (.agg l.cl.row),H):=by
 rw [El M rfl]
 exact abE hk H
theorem abM(M:cG cB EN):GJ M aai:=by
 refine ⟨fun H => ?_,fun {l H id T} h0 hl hx => ?_,fun l => ?_⟩
 ·rw [El M rfl];rfl
 ·rw [El M rfl]
  have hd:Ua (cH l)=some (l.map toP):=by rw [WP];exact QX _
  have hs:Yc bI jn bI [.rslice id 0 l.length 2 true,.fn (.func jn) [] []] H=some (.ret (.tuple []),H.set id (.cells (cH (aai l)) T)):=by
   have hb:∀ n:Nat,Nat.beq n n=true:=fun n=>by simp
   have hle:Nat.ble l.length 4000000000=true:=Nat.ble_eq_true_of_le hl
   unfold Yc
   simp only [hb,Bool.and_self,cond_true,hx,hd,List.length_map,hle]
   rw [aai,abG]
  show (match Yc bI jn bI [.rslice id 0 l.length 2 true,.fn (.func jn) [] []] H with
   |some r=>some r
   |none=>Zd bI [.rslice id 0 l.length 2 true,.fn (.func jn) [] []] H)=_
  rw [hs]
 ·simpa using (aak.perm l).length_eq
end
end Go.Am
