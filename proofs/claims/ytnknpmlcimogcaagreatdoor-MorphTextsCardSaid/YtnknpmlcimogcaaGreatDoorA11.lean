import Derived.Test.YtnknpmlcimogcaaGreatDoorA10
import Derived.Test.YtnknpmlcimogcaaGreatDoorRows
import Derived.WalkKit
import Derived.ProofKit
import Derived.Handy
import Derived.Lay
import Derived.SevenTiedAt
import Derived.OpenShut
import Derived.ChangeMaps5
import Derived.Deep.DeepHandedRow
/-
  Part 11 of the tool: an abstract machine over the model, proved sound, and what it says of the functions that the law reaches. Condition: none but those that each theorem names.
-/
set_option linter.unusedVariables false
set_option linter.unusedSimpArgs false
section
namespace Go.Proofs.YtnknpmlcimogcaaGreatDoor
open Go.ChangeShapes Go.WideShapes Go.ChangeAt Go.RowKit Go.Am
set_option maxRecDepth 100000 in
theorem Ut(H:Type)(enc:TypeId×Value→H)(W:World)(base:Nat)(args:Array Value)(ds gs:List (DataW H))(before:List MemPlace)
  (hval:∀ (j:Nat) t v,Tryz.f3.params[j]?=some t→args[j]?=some v→Value.okWide Tryz.prog W .any base t v)
  (hW:DataW.Whole enc Tryz.prog Tryz.f3.params.toList Rows.morphTextsSpec.vars false W args.toList ds gs before) (hsz:(DataW.weightsEach Tryz.prog (Tryz.f3.params.toList++(OpenSpec.ofChange Rows.morphTextsSpec).bare.plain.varTypes Tryz.prog) (ds++gs)).all (·≤reachBytes)=true) (hT:SR 4 5 1 222 W) :
  Calls Tryz.prog 3 args W fun e W' => ∃ v,e = .returned v∧Rows.morphTextsSpec.post enc Tryz.prog Tryz.f3 false true false false W args v W':=by
 have hW':=hW;obtain ⟨p,q,hA0,hV,rfl,_,_⟩:=hW;have hA:DataW.TrodAll enc Tryz.prog W 0 (fun _=>true) true Tryz.f3.params.toList args.toList ds p:=hA0;have hlt:∀ x∈p,x.block<W.heap.size:=fun x hx=>by simpa using hW'.lt x (by simp [hx])
 have hstay:∀ W':World,Below W.heap.size W W'→DataW.TrodAll enc Tryz.prog W' 0 (fun b=>decide (b<W.heap.size)) true Tryz.f3.params.toList args.toList ds p:=fun W' hb=>CI V1 hb _ _ _ _ Us hA hlt
 rw [params] at hA hval hsz;obtain ⟨v0,vs0,d0,ds0,p0,q0,e0,rfl,rfl,h0,hA0⟩:=trodAll_cons hA;obtain ⟨v1,vs1,d1,ds1,p1,q1,e1,rfl,rfl,h1,hA1⟩:=trodAll_cons hA0;obtain ⟨e9,rfl,rfl⟩:=trodAll_nil hA1
 obtain rfl:args = #[v0,v1]:=by
  cases args;simp_all
 obtain ⟨rfl,rfl⟩:=trodVars_none hV;obtain ⟨s0,rfl⟩:=U3 EF.ZM (hval 0 aI v0 rfl rfl);obtain ⟨cs1,rfl⟩:=U2 EF.aiY (hval 1 ab v1 rfl rfl);obtain ⟨s,hs,g0⟩:=Na (G:=G0) (gi EF.ZM) h0 (fun n hn=>of_decide_eq_true (amI.1 hsz n (DataW.weights_mem_each (j:=0) rfl rfl n hn)));obtain ⟨l,hl,g1⟩:=Na (G:=G0) (T8 EF) h1 (fun n hn=>of_decide_eq_true (amI.1 hsz n (DataW.weights_mem_each (j:=1) rfl rfl n hn)))
 have hargs:Vs (aC.start W G0) [.str s,.agg l.row] #[.string s0,.agg cs1]:=VL.vs (g0.append (VL.one (VL.agg g1)));refine (QZ (Ur hs hl) hT.start (sS Tryz.func3 (by kernel_rfl) (by kernel_rfl) _ _) hargs).mono fun e W' ⟨he,hb⟩ => ?_
 subst he;exact ⟨_,rfl,_,_,_,[],_,[],hW',trodAll_mk1 (shut_bool X4 _),hstay W' hb,rfl,hb.frame _,fun h=>by cases h⟩
def zm:Array Value := #[.string ⟨#[]⟩,.agg #[.string ⟨#[]⟩,.slice none 0 0,.slice none 0 0,.slice none 0 0,.slice none 0 0,.slice none 0 0]]
set_option maxRecDepth 100000 in
theorem YM(os:Os){H:Type}(enc:TypeId×Value→H):∃ places,DataW.whole enc Tryz.prog ((World.laidAll Tryz.prog os Rows.morphTextsRow.laid).forCall (fun _ _=>0) ⟨#[],zm,[]⟩).memory Tryz.f3.params.toList Rows.morphTextsSpec.vars false zm.toList 8=some ([.lit (.string []),.agg [.lit (.string []),.nil,.nil,.nil,.nil,.nil]],[],places):=
 ⟨[],by kernel_rfl⟩
set_option maxRecDepth 100000 in
theorem Uu(os:Os):laidMetH Tryz.prog Rows.morphTextsRow.laid ((World.laidAll Tryz.prog os Rows.morphTextsRow.laid).forCall (fun _ _=>0) ⟨#[],zm,[]⟩).memory:=by
 rw [MakeChecks.laidMetH_plain _ _ _ (by kernel_rfl)];exact laidMet_laidAll _ (by kernel_rfl) (by kernel_rfl)
set_option maxRecDepth 100000 in
theorem lifted(os:Os)(started:os.Started)(H:Type)(enc:TypeId×Value→H)(F:Stop.Interp) :
  ReturnsInHanded {} Tryz.checked os 3 .any ((OpenSpec.ofChange Rows.morphTextsSpec).preRow enc Tryz.prog Tryz.f3 Rows.morphTextsRow.domain false Rows.morphTextsRow.laid) (((OpenSpec.ofChange Rows.morphTextsSpec).at F).post enc Tryz.prog Tryz.f3 false true false false):=by
 obtain ⟨places,hx⟩:=YM os enc;have hok:Input.okWideB Tryz.prog ((World.laidAll Tryz.prog os Rows.morphTextsRow.laid).forCall (fun _ _=>0) ⟨#[],zm,[]⟩) 3 ⟨#[],zm,[]⟩=true:=by kernel_rfl
 refine returnsInHanded_of_row (C:=Tryz.checked) (s:=OpenSpec.ofChange Rows.morphTextsSpec) own started (by kernel_rfl) Tryz.func3
  ⟨World.laidAll Tryz.prog os Rows.morphTextsRow.laid,fun _ _=>0,⟨#[],zm,[]⟩,World.laidAll_os _ _ _,World.shaped_of_ZipB (by kernel_rfl) (by kernel_rfl),
   (Input.okWide_of_okWideB (base:=0) hok).1,(Input.okWide_of_okWideB hok).2,OpenSpec.preRow_of_cond 8 hx (by kernel_rfl) (fun k hk=>by cases hk) (by kernel_rfl) (Uu os),by
    simp only [Assume.holds];exact ⟨by simp,by simp,fun _=>Modest.zero,by simp,by simp⟩⟩ ?_
 intro W base args ds gs before hval hW _ _ hsz hL _ _;rw [MakeChecks.laidMetH_plain _ _ _ (by kernel_rfl)] at hL;exact Ut H enc W base args ds gs before hval hW hsz ⟨Kn (ti:=124) (laidMet.tail (laidMet.tail (laidMet.tail (laidMet.tail (laidMet.tail (hL)))))) gES (by kernel_rfl) (by kernel_rfl) T9 (by kernel_rfl),Kn (ti:=124) (laidMet.tail (laidMet.tail (laidMet.tail (laidMet.tail (hL))))) gER (by kernel_rfl) (by kernel_rfl) T9 (by kernel_rfl),Q0 (t:=195) (laidMet.tail (laidMet.tail (hL))) gPT (by kernel_rfl) (by kernel_rfl)⟩
end Go.Proofs.YtnknpmlcimogcaaGreatDoor
end
