import Derived.Test.YtnknpmlcimogcaaGreatDoorA9
import Derived.Test.YtnknpmlcimogcaaGreatDoorRows
import Derived.WalkKit
import Derived.ProofKit
import Derived.Handy
import Derived.Lay
import Derived.SevenTiedAt
import Derived.OpenShut
import Derived.ChangeMaps5
import Derived.Deep.DeepHandedRow
/-
  Part 10 of the tool: an abstract machine over the model, proved sound, and what it says of the functions that the law reaches. Condition: none but those that each theorem names.
-/
set_option linter.unusedVariables false
set_option linter.unusedSimpArgs false
section
namespace Go.Proofs.YtnknpmlcimogcaaGreatDoor
open Go.ChangeShapes Go.WideShapes Go.ChangeAt Go.RowKit Go.Am
set_option maxRecDepth 100000 in
theorem Sc(H:Type)(enc:TypeId×Value→H)(W:World)(base:Nat)(args:Array Value)(ds gs:List (DataW H))(before:List MemPlace)
  (hval:∀ (j:Nat) t v,Tryz.f4.params[j]?=some t→args[j]?=some v→Value.okWide Tryz.prog W .any base t v)
  (hW:DataW.Whole enc Tryz.prog Tryz.f4.params.toList Rows.morphBackSpec.vars false W args.toList ds gs before) (hsz:(DataW.weightsEach Tryz.prog (Tryz.f4.params.toList++(OpenSpec.ofChange Rows.morphBackSpec).bare.plain.varTypes Tryz.prog) (ds++gs)).all (·≤reachBytes)=true) (hT:QJ 4 5 1 222 W) :
  Calls Tryz.prog 4 args W fun e W' => ∃ v,e = .returned v∧Rows.morphBackSpec.post enc Tryz.prog Tryz.f4 false true false false W args v W':=by
 have hW':=hW;obtain ⟨p,q,hA0,hV,rfl,_,_⟩:=hW;have hA:DataW.TrodAll enc Tryz.prog W 0 (fun _=>true) true Tryz.f4.params.toList args.toList ds p:=hA0;have hlt:∀ x∈p,x.block<W.heap.size:=fun x hx=>by simpa using hW'.lt x (by simp [hx])
 have hstay:∀ W':World,Below W.heap.size W W'→DataW.TrodAll enc Tryz.prog W' 0 (fun b=>decide (b<W.heap.size)) true Tryz.f4.params.toList args.toList ds p:=fun W' hb=>Bi TG hb _ _ _ _ Sb hA hlt
 rw [params] at hA hval hsz;obtain ⟨v0,vs0,d0,ds0,p0,q0,e0,rfl,rfl,h0,hA0⟩:=trodAll_cons hA;obtain ⟨e9,rfl,rfl⟩:=trodAll_nil hA0
 obtain rfl:args = #[v0]:=by
  cases args;simp_all
 obtain ⟨rfl,rfl⟩:=trodVars_none hV;obtain ⟨cs0,rfl⟩:=SS Mc.f_Lex (hval 0 ah v0 rfl rfl);obtain ⟨l,hl,g0⟩:=QO (G:=G0) (RN Mc) h0 (fun n hn=>of_decide_eq_true (List.all_eq_true.1 hsz n (DataW.weights_mem_each (j:=0) rfl rfl n hn)));have hargs:Vs (ak.start W G0) [.agg l.row] #[.agg cs0]:=VL.vs (VL.one (VL.agg g0));refine (OY (Sa hl) hT.start (pw Tryz.func4 (by kernel_rfl) (by kernel_rfl) _ _) hargs).mono fun e W' ⟨he,hb⟩ => ?_
 subst he;exact ⟨_,rfl,_,_,_,[],_,[],hW',trodAll_mk1 (shut_bool VN _),hstay W' hb,rfl,hb.frame _,fun h=>by cases h⟩
def xd:Array Value := #[.agg #[.string ⟨#[]⟩,.slice none 0 0,.slice none 0 0,.slice none 0 0,.slice none 0 0,.slice none 0 0]]
set_option maxRecDepth 100000 in
theorem Wo(os:Os){H:Type}(enc:TypeId×Value→H):∃ places,DataW.whole enc Tryz.prog ((World.laidAll Tryz.prog os Rows.morphBackRow.laid).forCall (fun _ _=>0) ⟨#[],xd,[]⟩).memory Tryz.f4.params.toList Rows.morphBackSpec.vars false xd.toList 8=some ([.agg [.lit (.string []),.nil,.nil,.nil,.nil,.nil]],[],places):=
 ⟨[],by kernel_rfl⟩
set_option maxRecDepth 100000 in
theorem Sd(os:Os):laidMetH Tryz.prog Rows.morphBackRow.laid ((World.laidAll Tryz.prog os Rows.morphBackRow.laid).forCall (fun _ _=>0) ⟨#[],xd,[]⟩).memory:=by
 rw [MakeChecks.laidMetH_plain _ _ _ (by kernel_rfl)];exact laidMet_laidAll _ (by kernel_rfl) (by kernel_rfl)
set_option maxRecDepth 100000 in
theorem lifted(os:Os)(started:os.Started)(H:Type)(enc:TypeId×Value→H)(F:Stop.Interp) :
  ReturnsInHanded {} Tryz.checked os 4 .any ((OpenSpec.ofChange Rows.morphBackSpec).preRow enc Tryz.prog Tryz.f4 Rows.morphBackRow.domain false Rows.morphBackRow.laid) (((OpenSpec.ofChange Rows.morphBackSpec).at F).post enc Tryz.prog Tryz.f4 false true false false):=by
 obtain ⟨places,hx⟩:=Wo os enc;have hok:Input.okWideB Tryz.prog ((World.laidAll Tryz.prog os Rows.morphBackRow.laid).forCall (fun _ _=>0) ⟨#[],xd,[]⟩) 4 ⟨#[],xd,[]⟩=true:=by kernel_rfl
 refine returnsInHanded_of_row (C:=Tryz.checked) (s:=OpenSpec.ofChange Rows.morphBackSpec) own started (by kernel_rfl) Tryz.func4
  ⟨World.laidAll Tryz.prog os Rows.morphBackRow.laid,fun _ _=>0,⟨#[],xd,[]⟩,World.laidAll_os _ _ _,World.shaped_of_ZipB (by kernel_rfl) (by kernel_rfl),
   (Input.okWide_of_okWideB (base:=0) hok).1,(Input.okWide_of_okWideB hok).2,OpenSpec.preRow_of_cond 8 hx (by kernel_rfl) (fun k hk=>by cases hk) (by kernel_rfl) (Sd os),by
    simp only [Assume.holds];exact ⟨by simp,by simp,fun _=>Modest.zero,by simp,by simp⟩⟩ ?_
 intro W base args ds gs before hval hW _ _ hsz hL _ _;rw [MakeChecks.laidMetH_plain _ _ _ (by kernel_rfl)] at hL;exact Sc H enc W base args ds gs before hval hW hsz ⟨IA (ti:=124) (laidMet.tail (laidMet.tail (laidMet.tail (laidMet.tail (laidMet.tail (hL)))))) gES (by kernel_rfl) (by kernel_rfl) RP (by kernel_rfl),IA (ti:=124) (laidMet.tail (laidMet.tail (laidMet.tail (laidMet.tail (hL))))) gER (by kernel_rfl) (by kernel_rfl) RP (by kernel_rfl),OZ (t:=195) (laidMet.tail (laidMet.tail (hL))) gPT (by kernel_rfl) (by kernel_rfl)⟩
end Go.Proofs.YtnknpmlcimogcaaGreatDoor
end
