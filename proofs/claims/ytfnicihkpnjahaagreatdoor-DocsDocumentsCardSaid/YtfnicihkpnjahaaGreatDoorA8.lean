import Derived.Test.YtfnicihkpnjahaaGreatDoorA7
import Derived.Test.YtfnicihkpnjahaaGreatDoorRows
import Derived.WalkKit
import Derived.ProofKit
import Derived.Handy
import Derived.Lay
import Derived.SevenTiedAt
import Derived.OpenShut
import Derived.ChangeMaps5
import Derived.Deep.DeepHandedRow
/-
  Part 8 of the tool: an abstract machine over the model, proved sound, and what it says of the functions that the law reaches. Condition: none but those that each theorem names.
-/
set_option linter.unusedVariables false
set_option linter.unusedSimpArgs false
section
namespace Go.Proofs.YtfnicihkpnjahaaGreatDoor
open Go.ChangeShapes Go.WideShapes Go.ChangeAt Go.RowKit Go.Am
set_option maxRecDepth 100000 in
theorem IC(H:Type)(enc:TypeId×Value→H)(W:World)(base:Nat)(args:Array Value)(ds gs:List (DataW H))(before:List MemPlace)
  (hval:∀ (j:Nat) t v,Tryz.f5.params[j]?=some t→args[j]?=some v→Value.okWide Tryz.prog W .any base t v)
  (hW:DataW.Whole enc Tryz.prog Tryz.f5.params.toList Rows.docsDocumentsSpec.vars false W args.toList ds gs before) (hsz:(DataW.weightsEach Tryz.prog (Tryz.f5.params.toList++(OpenSpec.ofChange Rows.docsDocumentsSpec).bare.plain.varTypes Tryz.prog) (ds++gs)).all (·≤reachBytes)=true) (hT:Lib.Utf8Tabs 0 1 W) :
  Calls Tryz.prog 5 args W fun e W' => ∃ v,e = .returned v∧Rows.docsDocumentsSpec.post enc Tryz.prog Tryz.f5 false true false false W args v W':=by
 have hW':=hW;obtain ⟨p,q,hA0,hV,rfl,_,_⟩:=hW;have hA:DataW.TrodAll enc Tryz.prog W 0 (fun _=>true) true Tryz.f5.params.toList args.toList ds p:=hA0;have hlt:∀ x∈p,x.block<W.heap.size:=fun x hx=>by simpa using hW'.lt x (by simp [hx])
 have hstay:∀ W':World,Below W.heap.size W W'→DataW.TrodAll enc Tryz.prog W' 0 (fun b=>decide (b<W.heap.size)) true Tryz.f5.params.toList args.toList ds p:=fun W' hb=>r8 J2 hb _ _ _ _ IB hA hlt
 rw [params] at hA hval hsz;obtain ⟨v0,vs0,d0,ds0,p0,q0,e0,rfl,rfl,h0,hA0⟩:=trodAll_cons hA;obtain ⟨v1,vs1,d1,ds1,p1,q1,e1,rfl,rfl,h1,hA1⟩:=trodAll_cons hA0;obtain ⟨e9,rfl,rfl⟩:=trodAll_nil hA1
 obtain rfl:args = #[v0,v1]:=by
  cases args;simp_all
 obtain ⟨rfl,rfl⟩:=trodVars_none hV;obtain ⟨cs0,rfl⟩:=EB tY.f_Docu (hval 0 ah v0 rfl rfl);obtain ⟨cs1,rfl⟩:=EB tY.f_Docu (hval 1 ah v1 rfl rfl);obtain ⟨d,hd,g0⟩:=Cn (G:=G0) (Ao tY) h0 (fun n hn=>of_decide_eq_true (List.all_eq_true.1 hsz n (DataW.weights_mem_each (j:=0) rfl rfl n hn)));obtain ⟨o,ho,g1⟩:=Cn (G:=G0) (Ao tY) h1 (fun n hn=>of_decide_eq_true (List.all_eq_true.1 hsz n (DataW.weights_mem_each (j:=1) rfl rfl n hn)))
 have hargs:Vs (aj.start W G0) [.agg d.row,.agg o.row] #[.agg cs0,.agg cs1]:=VL.vs ((VL.one (VL.agg g0)).append (VL.one (VL.agg g1)));refine (FF (IA hd ho) (DA hT) (eW Tryz.func5 (by kernel_rfl) (by kernel_rfl) _ _) hargs).mono fun e W' ⟨he,hb⟩ => ?_
 subst he;exact ⟨_,rfl,_,_,_,[],_,[],hW',trodAll_mk1 (shut_bool u_bool _),hstay W' hb,rfl,hb.frame _,fun h=>by cases h⟩
def oz:Array Value := #[.agg #[.slice none 0 0],.agg #[.slice none 0 0]]
set_option maxRecDepth 100000 in
theorem reads(os:Os){H:Type}(enc:TypeId×Value→H):∃ places,DataW.whole enc Tryz.prog ((World.laidAll Tryz.prog os Rows.docsDocumentsRow.laid).forCall (fun _ _=>0) ⟨#[],oz,[]⟩).memory Tryz.f5.params.toList Rows.docsDocumentsSpec.vars false oz.toList 8=some ([.agg [.nil],.agg [.nil]],[],places):=
 ⟨[],by kernel_rfl⟩
set_option maxRecDepth 100000 in
theorem ID(os:Os):laidMetH Tryz.prog Rows.docsDocumentsRow.laid ((World.laidAll Tryz.prog os Rows.docsDocumentsRow.laid).forCall (fun _ _=>0) ⟨#[],oz,[]⟩).memory:=by
 rw [MakeChecks.laidMetH_plain _ _ _ (by kernel_rfl)];exact laidMet_laidAll _ (by kernel_rfl) (by kernel_rfl)
set_option maxRecDepth 100000 in
theorem lifted(os:Os)(started:os.Started)(H:Type)(enc:TypeId×Value→H)(F:Stop.Interp) :
  ReturnsInHanded {} Tryz.checked os 5 .any ((OpenSpec.ofChange Rows.docsDocumentsSpec).preRow enc Tryz.prog Tryz.f5 Rows.docsDocumentsRow.domain false Rows.docsDocumentsRow.laid) (((OpenSpec.ofChange Rows.docsDocumentsSpec).at F).post enc Tryz.prog Tryz.f5 false true false false):=by
 obtain ⟨places,hx⟩:=reads os enc;have hok:Input.okWideB Tryz.prog ((World.laidAll Tryz.prog os Rows.docsDocumentsRow.laid).forCall (fun _ _=>0) ⟨#[],oz,[]⟩) 5 ⟨#[],oz,[]⟩=true:=by kernel_rfl
 refine returnsInHanded_of_row (C:=Tryz.checked) (s:=OpenSpec.ofChange Rows.docsDocumentsSpec) own started (by kernel_rfl) Tryz.func5
  ⟨World.laidAll Tryz.prog os Rows.docsDocumentsRow.laid,fun _ _=>0,⟨#[],oz,[]⟩,World.laidAll_os _ _ _,World.shaped_of_ZipB (by kernel_rfl) (by kernel_rfl),
   (Input.okWide_of_okWideB (base:=0) hok).1,(Input.okWide_of_okWideB hok).2,OpenSpec.preRow_of_cond 8 hx (by kernel_rfl) (fun k hk=>by cases hk) (by kernel_rfl) (ID os),by
    simp only [Assume.holds];exact ⟨by simp,by simp,fun _=>Modest.zero,by simp,by simp⟩⟩ ?_
 intro W base args ds gs before hval hW _ _ hsz hL _ _;rw [MakeChecks.laidMetH_plain _ _ _ (by kernel_rfl)] at hL;have h3:Lib.VarReads Tryz.prog W "unicode/utf8.first" Lib.firstData:=Lib.laidMet.reads hL (List.mem_of_getElem? (i:=1) (by kernel_rfl));have h4:Lib.VarReads Tryz.prog W "unicode/utf8.acceptRanges" Lib.acceptData:=Lib.laidMet.reads hL (List.mem_of_getElem? (i:=0) (by kernel_rfl));exact IC H enc W base args ds gs before hval hW hsz (Gd h3 h4)
end Go.Proofs.YtfnicihkpnjahaaGreatDoor
end
