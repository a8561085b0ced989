import Derived.Test.YtaigoffbhbpplaaGreatDoorA9
import Derived.Test.YtaigoffbhbpplaaGreatDoorRows
import Derived.WalkKit
import Derived.ProofKit
import Derived.Handy
import Derived.Lay
import Derived.SevenTiedAt
import Derived.OpenShut
import Derived.ChangeMaps5
import Derived.Deep.DeepHandedRow
/-
  Part 10 of the tool: an abstract machine over the model, proved sound, and what it says of the functions that the law reaches. Condition: none but those that each theorem names.
-/
set_option linter.unusedVariables false
set_option linter.unusedSimpArgs false
section
namespace Go.Proofs.YtaigoffbhbpplaaGreatDoor
open Go.ChangeShapes Go.WideShapes Go.ChangeAt Go.RowKit Go.Am
set_option maxRecDepth 100000 in
theorem UW(H:Type)(enc:TypeId×Value→H)(W:World)(base:Nat)(args:Array Value)(ds gs:List (DataW H))(before:List MemPlace)
  (hval:∀ (j:Nat) t v,Tryz.f5.params[j]?=some t→args[j]?=some v→Value.okWide Tryz.prog W .any base t v)
  (hW:DataW.Whole enc Tryz.prog Tryz.f5.params.toList Rows.morphWordsSpec.vars false W args.toList ds gs before) :
  Calls Tryz.prog 5 args W fun e W' => ∃ v,e = .returned v∧Rows.morphWordsSpec.post enc Tryz.prog Tryz.f5 false true false false W args v W':=by
 have hW':=hW;obtain ⟨p,q,hA0,hV,rfl,_,_⟩:=hW;have hA:DataW.TrodAll enc Tryz.prog W 0 (fun _=>true) true Tryz.f5.params.toList args.toList ds p:=hA0;have hlt:∀ x∈p,x.block<W.heap.size:=fun x hx=>by simpa using hW'.lt x (by simp [hx])
 have hstay:∀ W':World,Below W.heap.size W W'→DataW.TrodAll enc Tryz.prog W' 0 (fun b=>decide (b<W.heap.size)) true Tryz.f5.params.toList args.toList ds p:=fun W' hb=>Cz Wz hb _ _ _ _ UV hA hlt
 rw [params] at hA hval;obtain ⟨v0,vs0,d0,ds0,p0,q0,e0,rfl,rfl,h0,hA0⟩:=trodAll_cons hA;obtain ⟨v1,vs1,d1,ds1,p1,q1,e1,rfl,rfl,h1,hA1⟩:=trodAll_cons hA0;obtain ⟨e9,rfl,rfl⟩:=trodAll_nil hA1
 obtain rfl:args = #[v0,v1]:=by
  cases args;simp_all
 obtain ⟨rfl,rfl⟩:=trodVars_none hV;obtain ⟨cs0,rfl⟩:=Vz Ej.f_Lex (hval 0 ae v0 rfl rfl);obtain ⟨s1,rfl⟩:=VA Ej.u_string (hval 1 aE v1 rfl rfl);obtain ⟨l,hl,g0⟩:=Nf (G:=G0) (Si Ej) h0;obtain ⟨w,hw,g1⟩:=Nf (G:=G0) (ga Ej.u_string) h1;have hargs:Vs (au.start W G0) [.agg l.row,.str w] #[.agg cs0,.string s1]:=VL.vs ((VL.one (VL.agg g0)).append g1);refine (Rt (UU hl hw) (fun _ _ h=>by cases h) (qz Tryz.func5 (by kernel_rfl) (by kernel_rfl) _ _) hargs).mono fun e W' ⟨he,hb⟩ => ?_
 subst he;exact ⟨_,rfl,_,_,_,[],_,[],hW',trodAll_mk1 (shut_bool Yx _),hstay W' hb,rfl,hb.frame _,fun h=>by cases h⟩
def zm:Array Value := #[.agg #[.string ⟨#[]⟩,.slice none 0 0,.slice none 0 0,.slice none 0 0,.slice none 0 0,.slice none 0 0],.string ⟨#[]⟩]
set_option maxRecDepth 100000 in
theorem Zd(os:Os){H:Type}(enc:TypeId×Value→H):∃ places,DataW.whole enc Tryz.prog ((World.laidAll Tryz.prog os Rows.morphWordsRow.laid).forCall (fun _ _=>0) ⟨#[],zm,[]⟩).memory Tryz.f5.params.toList Rows.morphWordsSpec.vars false zm.toList 8=some ([.agg [.lit (.string []),.nil,.nil,.nil,.nil,.nil],.lit (.string [])],[],places):=
 ⟨[],by kernel_rfl⟩
set_option maxRecDepth 100000 in
theorem UX(os:Os):laidMetH Tryz.prog Rows.morphWordsRow.laid ((World.laidAll Tryz.prog os Rows.morphWordsRow.laid).forCall (fun _ _=>0) ⟨#[],zm,[]⟩).memory:=by
 rw [MakeChecks.laidMetH_plain _ _ _ (by kernel_rfl)];exact laidMet_laidAll _ (by kernel_rfl) (by kernel_rfl)
set_option maxRecDepth 100000 in
theorem lifted(os:Os)(started:os.Started)(H:Type)(enc:TypeId×Value→H)(F:Stop.Interp) :
  ReturnsInHanded {} Tryz.checked os 5 .any ((OpenSpec.ofChange Rows.morphWordsSpec).preRow enc Tryz.prog Tryz.f5 Rows.morphWordsRow.domain false Rows.morphWordsRow.laid) (((OpenSpec.ofChange Rows.morphWordsSpec).at F).post enc Tryz.prog Tryz.f5 false true false false):=by
 obtain ⟨places,hx⟩:=Zd os enc;have hok:Input.okWideB Tryz.prog ((World.laidAll Tryz.prog os Rows.morphWordsRow.laid).forCall (fun _ _=>0) ⟨#[],zm,[]⟩) 5 ⟨#[],zm,[]⟩=true:=by kernel_rfl
 refine returnsInHanded_of_row (C:=Tryz.checked) (s:=OpenSpec.ofChange Rows.morphWordsSpec) own started (by kernel_rfl) Tryz.func5
  ⟨World.laidAll Tryz.prog os Rows.morphWordsRow.laid,fun _ _=>0,⟨#[],zm,[]⟩,World.laidAll_os _ _ _,World.shaped_of_ZipB (by kernel_rfl) (by kernel_rfl),
   (Input.okWide_of_okWideB (base:=0) hok).1,(Input.okWide_of_okWideB hok).2,OpenSpec.preRow_of_cond 8 hx (by kernel_rfl) (fun k hk=>by cases hk) (by kernel_rfl) (UX os),by
    simp only [Assume.holds];exact ⟨by simp,by simp,fun _=>Modest.zero,by simp,by simp⟩⟩ ?_
 intro W base args ds gs before hval hW _ _ _ _ _ _;exact UW H enc W base args ds gs before hval hW
end Go.Proofs.YtaigoffbhbpplaaGreatDoor
end
