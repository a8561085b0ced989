import Derived.Test.YtcjafjephggobaaGreatDoorA7
import Derived.Test.YtcjafjephggobaaGreatDoorCards
import Derived.Test.YtcjafjephggobaaGreatDoorTie
import Derived.WalkKit
import Derived.ProofKit
import Derived.Handy
import Derived.Lay
import Derived.SevenTiedAt
import Derived.OpenShut
import Derived.ChangeMaps5
import Derived.Deep.DeepHandedRow
/-
  The law returns true for every input, and its input reads as it did: the tied card. No condition.
-/
set_option linter.unusedVariables false
set_option linter.unusedSimpArgs false
section
namespace Go.Proofs.YtcjafjephggobaaGreatDoor
open Go.ChangeShapes Go.WideShapes Go.ChangeAt Go.RowKit Go.Am
theorem Uz:dW EN:=by constructor<;>rfl
theorem WM:jH EN:=by constructor<;>rfl
theorem UA:FY EN:=by constructor<;>rfl
theorem Xi:SpE EN:=by constructor<;>rfl
theorem WN:ra EN:=by constructor<;>rfl
theorem WO:u4 EN:=by constructor<;>rfl
theorem WQ:AS EN:=by constructor<;>rfl
theorem WR:Pq EN:=by constructor<;>rfl
theorem WS:Ic EN:=by constructor<;>rfl
theorem WT(M:cK cU EN):qy M:=⟨fun s c H=>by
  rw [Eb M rfl]
  show some (vN.ret (.int .i64 (Lib.indexByte s ((c.toNat:Int).toNat.toUInt8))),H)=_
  simp,fun i o H=>by
  rw [Eb M rfl]
  rfl⟩
theorem VM(M:cK cU EN):Ib M:=⟨fun s c H=>by
  rw [Eb M rfl]
  show some (vN.ret (.int .i64 (Lib.countByte s ((c.toNat:Int).toNat.toUInt8):Nat)),H)=_
  simp,fun n H hn=>by
  rw [Eb M rfl]
  show (bif true&&Nat.ble n 281474976710656 then some (vN.ret (.rslice H.length 0 n 1 true),H++[.cells (List.replicate n .unk) dG]) else none)=_
  rw [Nat.ble_eq_true_of_le hn]
  rfl⟩
theorem UB{l:Go.Am.Lex}(hl:l.ok 0){w:Str}(hw:w.length≤bE):eS Tryz.prog G0 jS [.agg l.row,.str w] [] fun r H'=>r = .ret (.bool true)∧H'=[]:=by
 obtain ⟨M⟩:=Ox cU EN
 have hX:=WT M
 have hY:=VM M
 exact M.sound VZ (Lo M Uz (WdE.of M VZ (fun _ _ _=>rfl)) WM UA Xi hX hY WN WO WQ (VK M) Uw WR WS rfl rfl hl hw (H:=[]) (fun _=>rfl))
theorem Hu:jL Tryz.prog:=by constructor<;>kernel_rfl
theorem own:ownKnob Tryz.prog.godebug=none:=by kernel_rfl
theorem VN:laidOutB Tryz.prog=true:=by kernel_rfl
theorem params:Tryz.f3.params = #[az,bu]:=by kernel_rfl
theorem UC:∀ t∈Tryz.f3.params.toList,Tryz.prog.readableRec t=true∧t<Tryz.prog.types.size:=fun t ht=>by
 have h:(Tryz.f3.params.toList.all fun t=>Tryz.prog.readableRec t&&decide (t<Tryz.prog.types.size))=true:=by kernel_rfl
 simpa using List.all_eq_true.1 h t ht
theorem WU:Tryz.prog.underlying TA=some .bool:=by kernel_rfl
set_option maxRecDepth 100000 in
theorem UD(H:Type)(enc:TypeId×Value→H)(W:World)(base:Nat)(args:Array Value)(ds gs:List (DataW H))(before:List MemPlace)
  (hval:∀ (j:Nat) t v,Tryz.f3.params[j]?=some t→args[j]?=some v→Value.okWide Tryz.prog W .any base t v)
  (hW:DataW.Whole enc Tryz.prog Tryz.f3.params.toList Rows.morphGrowsSpec.vars false W args.toList ds gs before) :
  Calls Tryz.prog 3 args W fun e W' => ∃ v,e = .returned v∧Rows.morphGrowsSpec.post enc Tryz.prog Tryz.f3 false true false false W args v W':=by
 have hW':=hW
 obtain ⟨p,q,hA0,hV,rfl,_,_⟩:=hW
 have hA:DataW.TrodAll enc Tryz.prog W 0 (fun _=>true) true Tryz.f3.params.toList args.toList ds p:=hA0
 have hlt:∀ x∈p,x.block<W.heap.size:=fun x hx=>by simpa using hW'.lt x (by simp [hx])
 have hstay:∀ W':World,Below W.heap.size W W'→DataW.TrodAll enc Tryz.prog W' 0 (fun b=>decide (b<W.heap.size)) true Tryz.f3.params.toList args.toList ds p:=fun W' hb=>Fa VN hb _ _ _ _ UC hA hlt
 rw [params] at hA hval
 obtain ⟨v0,vs0,d0,ds0,p0,q0,e0,rfl,rfl,h0,hA0⟩:=trodAll_cons hA
 obtain ⟨v1,vs1,d1,ds1,p1,q1,e1,rfl,rfl,h1,hA1⟩:=trodAll_cons hA0
 obtain ⟨e9,rfl,rfl⟩:=trodAll_nil hA1
 obtain rfl:args = #[v0,v1]:=by
  cases args;simp_all
 obtain ⟨rfl,rfl⟩:=trodVars_none hV
 obtain ⟨cs0,rfl⟩:=U7 Hu.f_Lex (hval 0 az v0 rfl rfl)
 obtain ⟨s1,rfl⟩:=U8 Hu.u_string (hval 1 bu v1 rfl rfl)
 obtain ⟨l,hl,g0⟩:=OH (G:=G0) (Ux Hu) h0
 obtain ⟨w,hw,g1⟩:=OH (G:=G0) (fU Hu.u_string) h1
 have hargs:Vs (aJ.start W G0) [.agg l.row,.str w] #[.agg cs0,.string s1]:=VL.vs ((VL.one (VL.agg g0)).append g1)
 refine (Sa (UB hl hw) (fun _ _ h=>by cases h) (rW Tryz.func3 (by kernel_rfl) (by kernel_rfl) _ _) hargs).mono fun e W' ⟨he,hb⟩ => ?_
 subst he
 exact ⟨_,rfl,_,_,_,[],_,[],hW',trodAll_mk1 (shut_bool WU _),hstay W' hb,rfl,hb.frame _,fun h=>by cases h⟩
def A3:Array Value := #[.agg #[.string ⟨#[]⟩,.slice none 0 0,.slice none 0 0,.slice none 0 0,.slice none 0 0,.slice none 0 0],.string ⟨#[]⟩]
set_option maxRecDepth 100000 in
theorem Xj(os:Os){H:Type}(enc:TypeId×Value→H):∃ places,DataW.whole enc Tryz.prog ((World.laidAll Tryz.prog os Rows.morphGrowsRow.laid).forCall (fun _ _=>0) ⟨#[],A3,[]⟩).memory Tryz.f3.params.toList Rows.morphGrowsSpec.vars false A3.toList 8=some ([.agg [.lit (.string []),.nil,.nil,.nil,.nil,.nil],.lit (.string [])],[],places):=
 ⟨[],by kernel_rfl⟩
set_option maxRecDepth 100000 in
theorem UE(os:Os):laidMetH Tryz.prog Rows.morphGrowsRow.laid ((World.laidAll Tryz.prog os Rows.morphGrowsRow.laid).forCall (fun _ _=>0) ⟨#[],A3,[]⟩).memory:=by
 rw [MakeChecks.laidMetH_plain _ _ _ (by kernel_rfl)]
 exact laidMet_laidAll _ (by kernel_rfl) (by kernel_rfl)
set_option maxRecDepth 100000 in
theorem WV(os:Os)(started:os.Started)(H:Type)(enc:TypeId×Value→H)(F:Stop.Interp) :
  ReturnsInHanded {} Tryz.checked os 3 .any ((OpenSpec.ofChange Rows.morphGrowsSpec).preRow enc Tryz.prog Tryz.f3 Rows.morphGrowsRow.domain false Rows.morphGrowsRow.laid) (((OpenSpec.ofChange Rows.morphGrowsSpec).at F).post enc Tryz.prog Tryz.f3 false true false false):=by
 obtain ⟨places,hx⟩:=Xj os enc
 have hok:Input.okWideB Tryz.prog ((World.laidAll Tryz.prog os Rows.morphGrowsRow.laid).forCall (fun _ _=>0) ⟨#[],A3,[]⟩) 3 ⟨#[],A3,[]⟩=true:=by kernel_rfl
 refine returnsInHanded_of_row (C:=Tryz.checked) (s:=OpenSpec.ofChange Rows.morphGrowsSpec) own started (by kernel_rfl) Tryz.func3
  ⟨World.laidAll Tryz.prog os Rows.morphGrowsRow.laid,fun _ _=>0,⟨#[],A3,[]⟩,World.laidAll_os _ _ _,World.shaped_of_ZipB (by kernel_rfl) (by kernel_rfl),
   (Input.okWide_of_okWideB (base:=0) hok).1,(Input.okWide_of_okWideB hok).2,OpenSpec.preRow_of_cond 8 hx (by kernel_rfl) (fun k hk=>by cases hk) (by kernel_rfl) (UE os),by
    simp only [Assume.holds]
    exact ⟨by simp,by simp,fun _=>Modest.zero,by simp,by simp⟩⟩ ?_
 intro W base args ds gs before hval hW _ _ _ _ _ _
 exact UD H enc W base args ds gs before hval hW
theorem Xx:Rows.MorphGrowsSaid:=
 OpenClaim.holds_of_cond 3 Tryz.f3 rfl rfl rfl rfl rfl rfl rfl ⟨rfl,rfl,rfl,rfl,rfl⟩ rfl rfl rfl rfl rfl (by kernel_rfl) Tryz.func3 (by kernel_rfl)
  (of_decide_eq_true (by kernel_rfl)) (by unfold Func.isWrapper;first | (rw [if_pos (by decide +kernel)];kernel_rfl) | (rw [if_neg (by decide +kernel)];exact ⟨rfl,rfl⟩))
  (fun os started H enc _ F=>by rw [OpenClaim.pre_eq_preRow];exact WV os started H enc F)
theorem plain(f:FuncId)(fn:Func)(hf:Tryz.pinned.checked.prog.funcNamed Rows.morphGrowsRow.func=some f)(hfn:Tryz.pinned.checked.prog.funcs[f]?=some fn) :
  true=Tryz.pinned.checked.prog.looks []∧∀ (j:Nat) t,fn.params[j]?=some t→Tryz.pinned.checked.prog.wantsStandIn t=false:=by
 obtain rfl:f=3:=Option.some.inj ((show Tryz.prog.funcNamed Rows.morphGrowsRow.func=some 3 by kernel_rfl).symm.trans hf) |>.symm
 obtain rfl:fn=Tryz.f3:=(Option.some.inj (Tryz.func3.symm.trans hfn)).symm
 refine ⟨by kernel_rfl,fun j t ht => ?_⟩
 have h:(Tryz.f3.params.toList.all fun t => !Tryz.prog.wantsStandIn t)=true:=by kernel_rfl
 have:=List.all_eq_true.1 h t (by simpa using Array.mem_of_getElem? ht)
 exact (show Tryz.prog.wantsStandIn t=false by simpa using this)
theorem card:Rows.MorphGrowsCardSaid:=
 Claim7.holds_tied_plain_at .later [] _ _ _ _ Xx (fun _ h=>by cases h) (by kernel_rfl) (fun _ h=>by cases h) morphGrows_row_tie rfl ⟨rfl,rfl⟩ (by kernel_rfl) rfl plain (by kernel_rfl)
#print axioms card
end Go.Proofs.YtcjafjephggobaaGreatDoor
end
