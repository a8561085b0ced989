import Derived.Test.YtjmdmfmkldhcfaaGreatDoorA7
import Derived.Test.YtjmdmfmkldhcfaaGreatDoorCards
import Derived.Test.YtjmdmfmkldhcfaaGreatDoorTie
import Derived.WalkKit
import Derived.ProofKit
import Derived.Handy
import Derived.Lay
import Derived.SevenTiedAt
import Derived.OpenShut
import Derived.ChangeMaps5
import Derived.Deep.DeepHandedRow
/-
  The law returns true for every input, and its input reads as it did: the tied card. No condition.
-/
set_option linter.unusedVariables false
set_option linter.unusedSimpArgs false
section
namespace Go.Proofs.YtjmdmfmkldhcfaaGreatDoor
open Go.ChangeShapes Go.WideShapes Go.ChangeAt Go.RowKit Go.Am
theorem Sj:bz EN:=by constructor<;>rfl
theorem Ua:lG EN:=by constructor<;>rfl
theorem Ub:tE EN:=by constructor<;>rfl
theorem Sk:Ea EN:=by constructor<;>rfl
theorem UO:SpE EN:=by constructor<;>rfl
theorem Uc:sQ EN:=by constructor<;>rfl
theorem Ud:Eb EN:=by constructor<;>rfl
theorem Ue:tG EN:=by constructor<;>rfl
theorem Uf:wt EN:=by constructor<;>rfl
theorem Ug:JU EN:=by constructor<;>rfl
theorem Uh(M:dO d8 EN):rN M:=⟨fun s c H=>by
  rw [CB M rfl]
  show some (uW.ret (.int .i64 (Lib.indexByte s ((c.toNat:Int).toNat.toUInt8))),H)=_
  simp,fun i o H=>by
  rw [CB M rfl]
  rfl⟩
theorem Tg(M:dO d8 EN):Jl M:=⟨fun s c H=>by
  rw [CB M rfl]
  show some (uW.ret (.int .i64 (Lib.countByte s ((c.toNat:Int).toNat.toUInt8):Nat)),H)=_
  simp,fun n H hn=>by
  rw [CB M rfl]
  show (bif true&&Nat.ble n 281474976710656 then some (uW.ret (.rslice H.length 0 n 1 true),H++[.cells (List.replicate n .unk) dN]) else none)=_
  rw [Nat.ble_eq_true_of_le hn]
  rfl⟩
theorem Sm{l:Lex}(hl:l.ok 0){a:aV}(ha:a.ok 0):eS Tryz.prog G0 j0 [.agg l.row,.agg a.row] [] fun r H'=>r = .ret (.bool true)∧H'=[]:=by
 obtain ⟨M⟩:=Mw d8 EN
 have hX:=Uh M
 have hY:=Tg M
 exact M.sound Tu (Hw M Sj (WdE.of M Tu (fun _ _ _=>rfl)) Ua Ub Sk UO hX hY Uc Ud Ue Uf (Te M) R5 Ug rfl hl ha (H:=[]) (fun _=>rfl))
theorem FK:iY Tryz.prog:=by constructor<;>kernel_rfl
theorem own:ownKnob Tryz.prog.godebug=none:=by kernel_rfl
theorem Th:laidOutB Tryz.prog=true:=by kernel_rfl
theorem params:Tryz.f5.params = #[aq,dS]:=by kernel_rfl
theorem Sn:∀ t∈Tryz.f5.params.toList,Tryz.prog.readableRec t=true∧t<Tryz.prog.types.size:=fun t ht=>by
 have h:(Tryz.f5.params.toList.all fun t=>Tryz.prog.readableRec t&&decide (t<Tryz.prog.types.size))=true:=by kernel_rfl
 simpa using List.all_eq_true.1 h t ht
theorem Ui:Tryz.prog.underlying Rr=some .bool:=by kernel_rfl
set_option maxRecDepth 100000 in
theorem So(H:Type)(enc:TypeId×Value→H)(W:World)(base:Nat)(args:Array Value)(ds gs:List (DataW H))(before:List MemPlace)
  (hval:∀ (j:Nat) t v,Tryz.f5.params[j]?=some t→args[j]?=some v→Value.okWide Tryz.prog W .any base t v)
  (hW:DataW.Whole enc Tryz.prog Tryz.f5.params.toList Rows.morphBuildsSpec.vars false W args.toList ds gs before) :
  Calls Tryz.prog 5 args W fun e W' => ∃ v,e = .returned v∧Rows.morphBuildsSpec.post enc Tryz.prog Tryz.f5 false true false false W args v W':=by
 have hW':=hW
 obtain ⟨p,q,hA0,hV,rfl,_,_⟩:=hW
 have hA:DataW.TrodAll enc Tryz.prog W 0 (fun _=>true) true Tryz.f5.params.toList args.toList ds p:=hA0
 have hlt:∀ x∈p,x.block<W.heap.size:=fun x hx=>by simpa using hW'.lt x (by simp [hx])
 have hstay:∀ W':World,Below W.heap.size W W'→DataW.TrodAll enc Tryz.prog W' 0 (fun b=>decide (b<W.heap.size)) true Tryz.f5.params.toList args.toList ds p:=fun W' hb=>Dq Th hb _ _ _ _ Sn hA hlt
 rw [params] at hA hval
 obtain ⟨v0,vs0,d0,ds0,p0,q0,e0,rfl,rfl,h0,hA0⟩:=trodAll_cons hA
 obtain ⟨v1,vs1,d1,ds1,p1,q1,e1,rfl,rfl,h1,hA1⟩:=trodAll_cons hA0
 obtain ⟨e9,rfl,rfl⟩:=trodAll_nil hA1
 obtain rfl:args = #[v0,v1]:=by
  cases args;simp_all
 obtain ⟨rfl,rfl⟩:=trodVars_none hV
 obtain ⟨cs0,rfl⟩:=O9 FK.f_Lex (hval 0 aq v0 rfl rfl)
 obtain ⟨cs1,rfl⟩:=O9 FK.f_Analysis (hval 1 dS v1 rfl rfl)
 obtain ⟨l,hl,g0⟩:=MF (G:=G0) (Sg FK) h0
 obtain ⟨a,ha,g1⟩:=MF (G:=G0) (J1 FK) h1
 have hargs:Vs (aA.start W G0) [.agg l.row,.agg a.row] #[.agg cs0,.agg cs1]:=VL.vs ((VL.one (VL.agg g0)).append (VL.one (VL.agg g1)))
 refine (P5 (Sm hl ha) (fun _ _ h=>by cases h) (rY Tryz.func5 (by kernel_rfl) (by kernel_rfl) _ _) hargs).mono fun e W' ⟨he,hb⟩ => ?_
 subst he
 exact ⟨_,rfl,_,_,_,[],_,[],hW',trodAll_mk1 (shut_bool Ui _),hstay W' hb,rfl,hb.frame _,fun h=>by cases h⟩
def zN:Array Value := #[.agg #[.string ⟨#[]⟩,.slice none 0 0,.slice none 0 0,.slice none 0 0,.slice none 0 0,.slice none 0 0],.agg #[.slice none 0 0,.int .i64 0,.int .i64 0]]
set_option maxRecDepth 100000 in
theorem UP(os:Os){H:Type}(enc:TypeId×Value→H):∃ places,DataW.whole enc Tryz.prog ((World.laidAll Tryz.prog os Rows.morphBuildsRow.laid).forCall (fun _ _=>0) ⟨#[],zN,[]⟩).memory Tryz.f5.params.toList Rows.morphBuildsSpec.vars false zN.toList 8=some ([.agg [.lit (.string []),.nil,.nil,.nil,.nil,.nil],.agg [.nil,.lit (.int .i64 0),.lit (.int .i64 0)]],[],places):=
 ⟨[],by kernel_rfl⟩
set_option maxRecDepth 100000 in
theorem Sp(os:Os):laidMetH Tryz.prog Rows.morphBuildsRow.laid ((World.laidAll Tryz.prog os Rows.morphBuildsRow.laid).forCall (fun _ _=>0) ⟨#[],zN,[]⟩).memory:=by
 rw [MakeChecks.laidMetH_plain _ _ _ (by kernel_rfl)]
 exact laidMet_laidAll _ (by kernel_rfl) (by kernel_rfl)
set_option maxRecDepth 100000 in
theorem Uj(os:Os)(started:os.Started)(H:Type)(enc:TypeId×Value→H)(F:Stop.Interp) :
  ReturnsInHanded {} Tryz.checked os 5 .any ((OpenSpec.ofChange Rows.morphBuildsSpec).preRow enc Tryz.prog Tryz.f5 Rows.morphBuildsRow.domain false Rows.morphBuildsRow.laid) (((OpenSpec.ofChange Rows.morphBuildsSpec).at F).post enc Tryz.prog Tryz.f5 false true false false):=by
 obtain ⟨places,hx⟩:=UP os enc
 have hok:Input.okWideB Tryz.prog ((World.laidAll Tryz.prog os Rows.morphBuildsRow.laid).forCall (fun _ _=>0) ⟨#[],zN,[]⟩) 5 ⟨#[],zN,[]⟩=true:=by kernel_rfl
 refine returnsInHanded_of_row (C:=Tryz.checked) (s:=OpenSpec.ofChange Rows.morphBuildsSpec) own started (by kernel_rfl) Tryz.func5
  ⟨World.laidAll Tryz.prog os Rows.morphBuildsRow.laid,fun _ _=>0,⟨#[],zN,[]⟩,World.laidAll_os _ _ _,World.shaped_of_ZipB (by kernel_rfl) (by kernel_rfl),
   (Input.okWide_of_okWideB (base:=0) hok).1,(Input.okWide_of_okWideB hok).2,OpenSpec.preRow_of_cond 8 hx (by kernel_rfl) (fun k hk=>by cases hk) (by kernel_rfl) (Sp os),by
    simp only [Assume.holds]
    exact ⟨by simp,by simp,fun _=>Modest.zero,by simp,by simp⟩⟩ ?_
 intro W base args ds gs before hval hW _ _ _ _ _ _
 exact So H enc W base args ds gs before hval hW
theorem U1:Rows.MorphBuildsSaid:=
 OpenClaim.holds_of_cond 5 Tryz.f5 rfl rfl rfl rfl rfl rfl rfl ⟨rfl,rfl,rfl,rfl,rfl⟩ rfl rfl rfl rfl rfl (by kernel_rfl) Tryz.func5 (by kernel_rfl)
  (of_decide_eq_true (by kernel_rfl)) (by unfold Func.isWrapper;first | (rw [if_pos (by decide +kernel)];kernel_rfl) | (rw [if_neg (by decide +kernel)];exact ⟨rfl,rfl⟩))
  (fun os started H enc _ F=>by rw [OpenClaim.pre_eq_preRow];exact Uj os started H enc F)
theorem plain(f:FuncId)(fn:Func)(hf:Tryz.pinned.checked.prog.funcNamed Rows.morphBuildsRow.func=some f)(hfn:Tryz.pinned.checked.prog.funcs[f]?=some fn) :
  true=Tryz.pinned.checked.prog.looks []∧∀ (j:Nat) t,fn.params[j]?=some t→Tryz.pinned.checked.prog.wantsStandIn t=false:=by
 obtain rfl:f=5:=Option.some.inj ((show Tryz.prog.funcNamed Rows.morphBuildsRow.func=some 5 by kernel_rfl).symm.trans hf) |>.symm
 obtain rfl:fn=Tryz.f5:=(Option.some.inj (Tryz.func5.symm.trans hfn)).symm
 refine ⟨by kernel_rfl,fun j t ht => ?_⟩
 have h:(Tryz.f5.params.toList.all fun t => !Tryz.prog.wantsStandIn t)=true:=by kernel_rfl
 have:=List.all_eq_true.1 h t (by simpa using Array.mem_of_getElem? ht)
 exact (show Tryz.prog.wantsStandIn t=false by simpa using this)
theorem card:Rows.MorphBuildsCardSaid:=
 Claim7.holds_tied_plain_at .later [] _ _ _ _ U1 (fun _ h=>by cases h) (by kernel_rfl) (fun _ h=>by cases h) morphBuilds_row_tie rfl ⟨rfl,rfl⟩ (by kernel_rfl) rfl plain (by kernel_rfl)
#print axioms card
end Go.Proofs.YtjmdmfmkldhcfaaGreatDoor
end
