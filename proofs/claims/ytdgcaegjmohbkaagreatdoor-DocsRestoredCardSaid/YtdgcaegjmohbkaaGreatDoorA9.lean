import Derived.Test.YtdgcaegjmohbkaaGreatDoorA8
import Derived.Test.YtdgcaegjmohbkaaGreatDoorRows
import Derived.WalkKit
import Derived.ProofKit
import Derived.Handy
import Derived.Lay
import Derived.SevenTiedAt
import Derived.OpenShut
import Derived.ChangeMaps5
import Derived.Deep.DeepHandedRow
/-
  Part 9 of the tool: an abstract machine over the model, proved sound, and what it says of the functions that the law reaches. Condition: none but those that each theorem names.
-/
set_option linter.unusedVariables false
set_option linter.unusedSimpArgs false
section
namespace Go.Proofs.YtdgcaegjmohbkaaGreatDoor
open Go.ChangeShapes Go.WideShapes Go.ChangeAt Go.RowKit Go.Am
set_option maxRecDepth 100000 in
theorem N5(H:Type)(enc:TypeId×Value→H)(W:World)(base:Nat)(args:Array Value)(ds gs:List (DataW H))(before:List MemPlace)
  (hval:∀ (j:Nat) t v,Tryz.f5.params[j]?=some t→args[j]?=some v→Value.okWide Tryz.prog W .any base t v)
  (hW:DataW.Whole enc Tryz.prog Tryz.f5.params.toList Rows.docsRestoredSpec.vars false W args.toList ds gs before) (hsz:(DataW.weightsEach Tryz.prog (Tryz.f5.params.toList++(OpenSpec.ofChange Rows.docsRestoredSpec).bare.plain.varTypes Tryz.prog) (ds++gs)).all (·≤reachBytes)=true) (hT:Lib.Utf8Tabs 0 1 W) :
  Calls Tryz.prog 5 args W fun e W' => ∃ v,e = .returned v∧Rows.docsRestoredSpec.post enc Tryz.prog Tryz.f5 false true false false W args v W':=by
 have hW':=hW;obtain ⟨p,q,hA0,hV,rfl,_,_⟩:=hW;have hA:DataW.TrodAll enc Tryz.prog W 0 (fun _=>true) true Tryz.f5.params.toList args.toList ds p:=hA0;have hlt:∀ x∈p,x.block<W.heap.size:=fun x hx=>by simpa using hW'.lt x (by simp [hx])
 have hstay:∀ W':World,Below W.heap.size W W'→DataW.TrodAll enc Tryz.prog W' 0 (fun b=>decide (b<W.heap.size)) true Tryz.f5.params.toList args.toList ds p:=fun W' hb=>vl P7 hb _ _ _ _ N4 hA hlt
 rw [params] at hA hval hsz;obtain ⟨v0,vs0,d0,ds0,p0,q0,e0,rfl,rfl,h0,hA0⟩:=trodAll_cons hA;obtain ⟨v1,vs1,d1,ds1,p1,q1,e1,rfl,rfl,h1,hA1⟩:=trodAll_cons hA0;obtain ⟨v2,vs2,d2,ds2,p2,q2,e2,rfl,rfl,h2,hA2⟩:=trodAll_cons hA1;obtain ⟨e9,rfl,rfl⟩:=trodAll_nil hA2
 obtain rfl:args = #[v0,v1,v2]:=by
  cases args;simp_all
 obtain ⟨rfl,rfl⟩:=trodVars_none hV;obtain ⟨cs0,rfl⟩:=OS rm.f_Docu (hval 0 ag v0 rfl rfl);obtain ⟨a1,l1,c1,rfl⟩:=KR rm.u_sl_Brk (hval 1 jz v1 rfl rfl);obtain ⟨n2,rfl⟩:=OT rm.u_int (hval 2 mh v2 rfl rfl);obtain ⟨d,hd,g0⟩:=Ba (G:=G0) (I2 rm) h0 (fun n hn=>of_decide_eq_true (List.all_eq_true.1 hsz n (DataW.weights_mem_each (j:=0) rfl rfl n hn)));obtain ⟨rs,hrs,g1⟩:=Ba (G:=G0) (HE rm) h1 (fun n hn=>of_decide_eq_true (List.all_eq_true.1 hsz n (DataW.weights_mem_each (j:=1) rfl rfl n hn)))
 obtain ⟨w,hw,g2⟩:=Ba (G:=G0) (KQ rm.u_int) h2 (fun n hn=>of_decide_eq_true (List.all_eq_true.1 hsz n (DataW.weights_mem_each (j:=2) rfl rfl n hn)));have hargs:Vs (ao.start W G0) [.agg d.row,.slice rs.tag 3 (rs.l.map Brk.row),.int .i64 w] #[.agg cs0,.slice a1 l1 c1,.int .i64 n2]:=VL.vs ((VL.one (VL.agg g0)).append (g1.append g2));refine (KN (N3 hd hrs hw) (Il hT) (jr Tryz.func5 (by kernel_rfl) (by kernel_rfl) _ _) hargs).mono fun e W' ⟨he,hb⟩ => ?_
 subst he;exact ⟨_,rfl,_,_,_,[],_,[],hW',trodAll_mk1 (shut_bool u_bool _),hstay W' hb,rfl,hb.frame _,fun h=>by cases h⟩
def rn:Array Value := #[.agg #[.slice none 0 0],.slice none 0 0,.int .i64 0]
set_option maxRecDepth 100000 in
theorem reads(os:Os){H:Type}(enc:TypeId×Value→H):∃ places,DataW.whole enc Tryz.prog ((World.laidAll Tryz.prog os Rows.docsRestoredRow.laid).forCall (fun _ _=>0) ⟨#[],rn,[]⟩).memory Tryz.f5.params.toList Rows.docsRestoredSpec.vars false rn.toList 8=some ([.agg [.nil],.nil,.lit (.int .i64 0)],[],places):=
 ⟨[],by kernel_rfl⟩
set_option maxRecDepth 100000 in
theorem N6(os:Os):laidMetH Tryz.prog Rows.docsRestoredRow.laid ((World.laidAll Tryz.prog os Rows.docsRestoredRow.laid).forCall (fun _ _=>0) ⟨#[],rn,[]⟩).memory:=by
 rw [MakeChecks.laidMetH_plain _ _ _ (by kernel_rfl)];exact laidMet_laidAll _ (by kernel_rfl) (by kernel_rfl)
set_option maxRecDepth 100000 in
theorem lifted(os:Os)(started:os.Started)(H:Type)(enc:TypeId×Value→H)(F:Stop.Interp) :
  ReturnsInHanded {} Tryz.checked os 5 .any ((OpenSpec.ofChange Rows.docsRestoredSpec).preRow enc Tryz.prog Tryz.f5 Rows.docsRestoredRow.domain false Rows.docsRestoredRow.laid) (((OpenSpec.ofChange Rows.docsRestoredSpec).at F).post enc Tryz.prog Tryz.f5 false true false false):=by
 obtain ⟨places,hx⟩:=reads os enc;have hok:Input.okWideB Tryz.prog ((World.laidAll Tryz.prog os Rows.docsRestoredRow.laid).forCall (fun _ _=>0) ⟨#[],rn,[]⟩) 5 ⟨#[],rn,[]⟩=true:=by kernel_rfl
 refine returnsInHanded_of_row (C:=Tryz.checked) (s:=OpenSpec.ofChange Rows.docsRestoredSpec) own started (by kernel_rfl) Tryz.func5
  ⟨World.laidAll Tryz.prog os Rows.docsRestoredRow.laid,fun _ _=>0,⟨#[],rn,[]⟩,World.laidAll_os _ _ _,World.shaped_of_ZipB (by kernel_rfl) (by kernel_rfl),
   (Input.okWide_of_okWideB (base:=0) hok).1,(Input.okWide_of_okWideB hok).2,OpenSpec.preRow_of_cond 8 hx (by kernel_rfl) (fun k hk=>by cases hk) (by kernel_rfl) (N6 os),by
    simp only [Assume.holds];exact ⟨by simp,by simp,fun _=>Modest.zero,by simp,by simp⟩⟩ ?_
 intro W base args ds gs before hval hW _ _ hsz hL _ _;rw [MakeChecks.laidMetH_plain _ _ _ (by kernel_rfl)] at hL;have h3:Lib.VarReads Tryz.prog W "unicode/utf8.first" Lib.firstData:=Lib.laidMet.reads hL (List.mem_of_getElem? (i:=1) (by kernel_rfl));have h4:Lib.VarReads Tryz.prog W "unicode/utf8.acceptRanges" Lib.acceptData:=Lib.laidMet.reads hL (List.mem_of_getElem? (i:=0) (by kernel_rfl));exact N5 H enc W base args ds gs before hval hW hsz (Lz h3 h4)
end Go.Proofs.YtdgcaegjmohbkaaGreatDoor
end
