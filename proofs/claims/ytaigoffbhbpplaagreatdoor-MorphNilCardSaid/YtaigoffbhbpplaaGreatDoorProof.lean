import Derived.Test.YtaigoffbhbpplaaGreatDoorA4
import Derived.Test.YtaigoffbhbpplaaGreatDoorCards
import Derived.Test.YtaigoffbhbpplaaGreatDoorTie
import Derived.WalkKit
import Derived.ProofKit
import Derived.Handy
import Derived.Lay
import Derived.SevenTiedAt
import Derived.OpenShut
import Derived.ChangeMaps5
import Derived.Deep.DeepHandedRow
/-
  The law returns true for every input, and its input reads as it did: the tied card. No condition.
-/
set_option linter.unusedVariables false
set_option linter.unusedSimpArgs false
section
namespace Go.Proofs.YtaigoffbhbpplaaGreatDoor
open Go.ChangeShapes Go.WideShapes Go.ChangeAt Go.RowKit Go.Am
theorem Al:aC Tryz.prog G0 bH [] [] fun r H'=>r = .ret (.bool true)∧H'=[]:=by
 exact Ak []
theorem own:ownKnob Tryz.prog.godebug=none:=by kernel_rfl
theorem A6:laidOutB Tryz.prog=true:=by kernel_rfl
theorem params:Tryz.f6.params = #[]:=by kernel_rfl
theorem An:∀ t∈Tryz.f6.params.toList,Tryz.prog.readableRec t=true∧t<Tryz.prog.types.size:=fun t ht=>by
 have h:(Tryz.f6.params.toList.all fun t=>Tryz.prog.readableRec t&&decide (t<Tryz.prog.types.size))=true:=by kernel_rfl
 simpa using List.all_eq_true.1 h t ht
theorem BL:Tryz.prog.underlying x8=some .bool:=by kernel_rfl
set_option maxRecDepth 100000 in
theorem Ao(H:Type)(enc:TypeId×Value→H)(W:World)(base:Nat)(args:Array Value)(ds gs:List (DataW H))(before:List MemPlace)
  (hval:∀ (j:Nat) t v,Tryz.f6.params[j]?=some t→args[j]?=some v→Value.okWide Tryz.prog W .any base t v)
  (hW:DataW.Whole enc Tryz.prog Tryz.f6.params.toList Rows.morphNilSpec.vars false W args.toList ds gs before) :
  Calls Tryz.prog 6 args W fun e W' => ∃ v,e = .returned v∧Rows.morphNilSpec.post enc Tryz.prog Tryz.f6 false true false false W args v W':=by
 have hW':=hW;obtain ⟨p,q,hA0,hV,rfl,_,_⟩:=hW;have hA:DataW.TrodAll enc Tryz.prog W 0 (fun _=>true) true Tryz.f6.params.toList args.toList ds p:=hA0;have hlt:∀ x∈p,x.block<W.heap.size:=fun x hx=>by simpa using hW'.lt x (by simp [hx])
 have hstay:∀ W':World,Below W.heap.size W W'→DataW.TrodAll enc Tryz.prog W' 0 (fun b=>decide (b<W.heap.size)) true Tryz.f6.params.toList args.toList ds p:=fun W' hb=>pW A6 hb _ _ _ _ An hA hlt
 rw [params] at hA hval;obtain ⟨e9,rfl,rfl⟩:=trodAll_nil hA;obtain rfl:args = #[]:=by cases args;simp_all
 obtain ⟨rfl,rfl⟩:=trodVars_none hV;have hargs:Vs (aa.start W G0) [] #[]:=⟨rfl,fun i av h=>by simp at h⟩
 refine (za (Al) (fun _ _ h=>by cases h) (db Tryz.func6 (by kernel_rfl) (by kernel_rfl) _ _) hargs).mono fun e W' ⟨he,hb⟩ => ?_
 subst he;exact ⟨_,rfl,_,_,_,[],_,[],hW',trodAll_mk1 (shut_bool BL _),hstay W' hb,rfl,hb.frame _,fun h=>by cases h⟩
def mj:Array Value := #[]
set_option maxRecDepth 100000 in
theorem Cf(os:Os){H:Type}(enc:TypeId×Value→H):∃ places,DataW.whole enc Tryz.prog ((World.laidAll Tryz.prog os Rows.morphNilRow.laid).forCall (fun _ _=>0) ⟨#[],mj,[]⟩).memory Tryz.f6.params.toList Rows.morphNilSpec.vars false mj.toList 8=some ([],[],places):=
 ⟨[],by kernel_rfl⟩
set_option maxRecDepth 100000 in
theorem Ap(os:Os):laidMetH Tryz.prog Rows.morphNilRow.laid ((World.laidAll Tryz.prog os Rows.morphNilRow.laid).forCall (fun _ _=>0) ⟨#[],mj,[]⟩).memory:=by
 rw [MakeChecks.laidMetH_plain _ _ _ (by kernel_rfl)];exact laidMet_laidAll _ (by kernel_rfl) (by kernel_rfl)
set_option maxRecDepth 100000 in
theorem BM(os:Os)(started:os.Started)(H:Type)(enc:TypeId×Value→H)(F:Stop.Interp) :
  ReturnsInHanded {} Tryz.checked os 6 .any ((OpenSpec.ofChange Rows.morphNilSpec).preRow enc Tryz.prog Tryz.f6 Rows.morphNilRow.domain false Rows.morphNilRow.laid) (((OpenSpec.ofChange Rows.morphNilSpec).at F).post enc Tryz.prog Tryz.f6 false true false false):=by
 obtain ⟨places,hx⟩:=Cf os enc;have hok:Input.okWideB Tryz.prog ((World.laidAll Tryz.prog os Rows.morphNilRow.laid).forCall (fun _ _=>0) ⟨#[],mj,[]⟩) 6 ⟨#[],mj,[]⟩=true:=by kernel_rfl
 refine returnsInHanded_of_row (C:=Tryz.checked) (s:=OpenSpec.ofChange Rows.morphNilSpec) own started (by kernel_rfl) Tryz.func6
  ⟨World.laidAll Tryz.prog os Rows.morphNilRow.laid,fun _ _=>0,⟨#[],mj,[]⟩,World.laidAll_os _ _ _,World.shaped_of_ZipB (by kernel_rfl) (by kernel_rfl),
   (Input.okWide_of_okWideB (base:=0) hok).1,(Input.okWide_of_okWideB hok).2,OpenSpec.preRow_of_cond 8 hx (by kernel_rfl) (fun k hk=>by cases hk) (by kernel_rfl) (Ap os),by
    simp only [Assume.holds];exact ⟨by simp,by simp,fun _=>Modest.zero,by simp,by simp⟩⟩ ?_
 intro W base args ds gs before hval hW _ _ _ _ _ _;exact Ao H enc W base args ds gs before hval hW
theorem Cr:Rows.MorphNilSaid:=
 OpenClaim.holds_of_cond 6 Tryz.f6 rfl rfl rfl rfl rfl rfl rfl ⟨rfl,rfl,rfl,rfl,rfl⟩ rfl rfl rfl rfl rfl (by kernel_rfl) Tryz.func6 (by kernel_rfl)
  (of_decide_eq_true (by kernel_rfl)) (by unfold Func.isWrapper;first | (rw [if_pos (by decide +kernel)];kernel_rfl) | (rw [if_neg (by decide +kernel)];exact ⟨rfl,rfl⟩))
  (fun os started H enc _ F=>by rw [OpenClaim.pre_eq_preRow];exact BM os started H enc F)
theorem plain(f:FuncId)(fn:Func)(hf:Tryz.pinned.checked.prog.funcNamed Rows.morphNilRow.func=some f)(hfn:Tryz.pinned.checked.prog.funcs[f]?=some fn) :
  true=Tryz.pinned.checked.prog.looks []∧∀ (j:Nat) t,fn.params[j]?=some t→Tryz.pinned.checked.prog.wantsStandIn t=false:=by
 obtain rfl:f=6:=Option.some.inj ((show Tryz.prog.funcNamed Rows.morphNilRow.func=some 6 by kernel_rfl).symm.trans hf) |>.symm
 obtain rfl:fn=Tryz.f6:=(Option.some.inj (Tryz.func6.symm.trans hfn)).symm;refine ⟨by kernel_rfl,fun j t ht => ?_⟩;have h:(Tryz.f6.params.toList.all fun t => !Tryz.prog.wantsStandIn t)=true:=by kernel_rfl
 have:=List.all_eq_true.1 h t (by simpa using Array.mem_of_getElem? ht);exact (show Tryz.prog.wantsStandIn t=false by simpa using this)
theorem card:Rows.MorphNilCardSaid:=
 Claim7.holds_tied_plain_at .later [] _ _ _ _ Cr (fun _ h=>by cases h) (by kernel_rfl) (fun _ h=>by cases h) morphNil_row_tie rfl ⟨rfl,rfl⟩ (by kernel_rfl) rfl plain (by kernel_rfl)
#print axioms card
end Go.Proofs.YtaigoffbhbpplaaGreatDoor
end
