import Derived.Test.YtcjafjephggobaaGreatDoorA7
import Derived.Test.YtcjafjephggobaaGreatDoorCards
import Derived.Test.YtcjafjephggobaaGreatDoorTie
import Derived.WalkKit
import Derived.ProofKit
import Derived.Handy
import Derived.Lay
import Derived.SevenTiedAt
import Derived.OpenShut
import Derived.ChangeMaps5
import Derived.Deep.DeepHandedRow
/-
  The law returns true for every input, and its input reads as it did: the tied card. No condition.
-/
set_option linter.unusedVariables false
set_option linter.unusedSimpArgs false
section
namespace Go.Proofs.YtcjafjephggobaaGreatDoor
open Go.ChangeShapes Go.WideShapes Go.ChangeAt Go.RowKit Go.Am
theorem UZ:cS EN:=by constructor<;>rfl
theorem W8:iz EN:=by constructor<;>rfl
theorem U0:Gd EN:=by constructor<;>rfl
theorem XF:SpE EN:=by constructor<;>rfl
theorem W9:pb EN:=by constructor<;>rfl
theorem Xa:qg EN:=by constructor<;>rfl
theorem Xb:uN EN:=by constructor<;>rfl
theorem Xc:VM EN:=by constructor<;>rfl
theorem Xd:N1 EN:=by constructor<;>rfl
theorem Xe:HC EN:=by constructor<;>rfl
theorem Xf(M:cT cU EN):oZ M:=⟨fun s c H=>by
  rw [Ev M rfl]
  show some (wi.ret (.int .i64 (Lib.indexByte s ((c.toNat:Int).toNat.toUInt8))),H)=_
  simp,fun i o H=>by
  rw [Ev M rfl]
  rfl⟩
theorem V5(M:cT cU EN):C9 M:=⟨fun s c H=>by
  rw [Ev M rfl]
  show some (wi.ret (.int .i64 (Lib.countByte s ((c.toNat:Int).toNat.toUInt8):Nat)),H)=_
  simp,fun n H hn=>by
  rw [Ev M rfl]
  show (bif true&&Nat.ble n 281474976710656 then some (wi.ret (.rslice H.length 0 n 1 true),H++[.cells (List.replicate n .unk) dF]) else none)=_
  rw [Nat.ble_eq_true_of_le hn]
  rfl⟩
theorem U1{l:Go.Am.Lex}(hl:l.ok 0){x:Go.Am.Ask}(hx:x.ok 0):eT Tryz.prog G0 jX [.agg l.row,.agg x.row] [] fun r H'=>r = .ret (.bool true)∧H'=[]:=by
 obtain ⟨M⟩:=OO cU EN
 have hX:=Xf M
 have hY:=V5 M
 exact M.sound Wi (LP M UZ (WdE.of M Wi (fun _ _ _=>rfl)) W8 U0 XF hX hY W9 Xa Xb (V4 M) UV Xc Xd Xe rfl hl hx (H:=[]) (fun _=>rfl))
theorem HT:jg Tryz.prog:=by constructor<;>kernel_rfl
theorem own:ownKnob Tryz.prog.godebug=none:=by kernel_rfl
theorem V6:laidOutB Tryz.prog=true:=by kernel_rfl
theorem params:Tryz.f5.params = #[az,eQ]:=by kernel_rfl
theorem U2:∀ t∈Tryz.f5.params.toList,Tryz.prog.readableRec t=true∧t<Tryz.prog.types.size:=fun t ht=>by
 have h:(Tryz.f5.params.toList.all fun t=>Tryz.prog.readableRec t&&decide (t<Tryz.prog.types.size))=true:=by kernel_rfl
 simpa using List.all_eq_true.1 h t ht
theorem Xg:Tryz.prog.underlying TT=some .bool:=by kernel_rfl
set_option maxRecDepth 100000 in
theorem U3(H:Type)(enc:TypeId×Value→H)(W:World)(base:Nat)(args:Array Value)(ds gs:List (DataW H))(before:List MemPlace)
  (hval:∀ (j:Nat) t v,Tryz.f5.params[j]?=some t→args[j]?=some v→Value.okWide Tryz.prog W .any base t v)
  (hW:DataW.Whole enc Tryz.prog Tryz.f5.params.toList Rows.morphGivenSpec.vars false W args.toList ds gs before) :
  Calls Tryz.prog 5 args W fun e W' => ∃ v,e = .returned v∧Rows.morphGivenSpec.post enc Tryz.prog Tryz.f5 false true false false W args v W':=by
 have hW':=hW
 obtain ⟨p,q,hA0,hV,rfl,_,_⟩:=hW
 have hA:DataW.TrodAll enc Tryz.prog W 0 (fun _=>true) true Tryz.f5.params.toList args.toList ds p:=hA0
 have hlt:∀ x∈p,x.block<W.heap.size:=fun x hx=>by simpa using hW'.lt x (by simp [hx])
 have hstay:∀ W':World,Below W.heap.size W W'→DataW.TrodAll enc Tryz.prog W' 0 (fun b=>decide (b<W.heap.size)) true Tryz.f5.params.toList args.toList ds p:=fun W' hb=>Fz V6 hb _ _ _ _ U2 hA hlt
 rw [params] at hA hval
 obtain ⟨v0,vs0,d0,ds0,p0,q0,e0,rfl,rfl,h0,hA0⟩:=trodAll_cons hA
 obtain ⟨v1,vs1,d1,ds1,p1,q1,e1,rfl,rfl,h1,hA1⟩:=trodAll_cons hA0
 obtain ⟨e9,rfl,rfl⟩:=trodAll_nil hA1
 obtain rfl:args = #[v0,v1]:=by
  cases args;simp_all
 obtain ⟨rfl,rfl⟩:=trodVars_none hV
 obtain ⟨cs0,rfl⟩:=Rz HT.f_Lex (hval 0 az v0 rfl rfl)
 obtain ⟨cs1,rfl⟩:=Rz HT.f_Ask (hval 1 eQ v1 rfl rfl)
 obtain ⟨l,hl,g0⟩:=O1 (G:=G0) (UW HT) h0
 obtain ⟨x,hx,g1⟩:=O1 (G:=G0) (UX HT) h1
 have hargs:Vs (aK.start W G0) [.agg l.row,.agg x.row] #[.agg cs0,.agg cs1]:=VL.vs ((VL.one (VL.agg g0)).append (VL.one (VL.agg g1)))
 refine (SC (U1 hl hx) (fun _ _ h=>by cases h) (sb Tryz.func5 (by kernel_rfl) (by kernel_rfl) _ _) hargs).mono fun e W' ⟨he,hb⟩ => ?_
 subst he
 exact ⟨_,rfl,_,_,_,[],_,[],hW',trodAll_mk1 (shut_bool Xg _),hstay W' hb,rfl,hb.frame _,fun h=>by cases h⟩
def Bs:Array Value := #[.agg #[.string ⟨#[]⟩,.slice none 0 0,.slice none 0 0,.slice none 0 0,.slice none 0 0,.slice none 0 0],.agg #[.string ⟨#[]⟩,.string ⟨#[]⟩,.slice none 0 0,.int .i64 0,.int .i64 0]]
set_option maxRecDepth 100000 in
theorem XG(os:Os){H:Type}(enc:TypeId×Value→H):∃ places,DataW.whole enc Tryz.prog ((World.laidAll Tryz.prog os Rows.morphGivenRow.laid).forCall (fun _ _=>0) ⟨#[],Bs,[]⟩).memory Tryz.f5.params.toList Rows.morphGivenSpec.vars false Bs.toList 8=some ([.agg [.lit (.string []),.nil,.nil,.nil,.nil,.nil],.agg [.lit (.string []),.lit (.string []),.nil,.lit (.int .i64 0),.lit (.int .i64 0)]],[],places):=
 ⟨[],by kernel_rfl⟩
set_option maxRecDepth 100000 in
theorem U4(os:Os):laidMetH Tryz.prog Rows.morphGivenRow.laid ((World.laidAll Tryz.prog os Rows.morphGivenRow.laid).forCall (fun _ _=>0) ⟨#[],Bs,[]⟩).memory:=by
 rw [MakeChecks.laidMetH_plain _ _ _ (by kernel_rfl)]
 exact laidMet_laidAll _ (by kernel_rfl) (by kernel_rfl)
set_option maxRecDepth 100000 in
theorem Xh(os:Os)(started:os.Started)(H:Type)(enc:TypeId×Value→H)(F:Stop.Interp) :
  ReturnsInHanded {} Tryz.checked os 5 .any ((OpenSpec.ofChange Rows.morphGivenSpec).preRow enc Tryz.prog Tryz.f5 Rows.morphGivenRow.domain false Rows.morphGivenRow.laid) (((OpenSpec.ofChange Rows.morphGivenSpec).at F).post enc Tryz.prog Tryz.f5 false true false false):=by
 obtain ⟨places,hx⟩:=XG os enc
 have hok:Input.okWideB Tryz.prog ((World.laidAll Tryz.prog os Rows.morphGivenRow.laid).forCall (fun _ _=>0) ⟨#[],Bs,[]⟩) 5 ⟨#[],Bs,[]⟩=true:=by kernel_rfl
 refine returnsInHanded_of_row (C:=Tryz.checked) (s:=OpenSpec.ofChange Rows.morphGivenSpec) own started (by kernel_rfl) Tryz.func5
  ⟨World.laidAll Tryz.prog os Rows.morphGivenRow.laid,fun _ _=>0,⟨#[],Bs,[]⟩,World.laidAll_os _ _ _,World.shaped_of_ZipB (by kernel_rfl) (by kernel_rfl),
   (Input.okWide_of_okWideB (base:=0) hok).1,(Input.okWide_of_okWideB hok).2,OpenSpec.preRow_of_cond 8 hx (by kernel_rfl) (fun k hk=>by cases hk) (by kernel_rfl) (U4 os),by
    simp only [Assume.holds]
    exact ⟨by simp,by simp,fun _=>Modest.zero,by simp,by simp⟩⟩ ?_
 intro W base args ds gs before hval hW _ _ _ _ _ _
 exact U3 H enc W base args ds gs before hval hW
theorem XU:Rows.MorphGivenSaid:=
 OpenClaim.holds_of_cond 5 Tryz.f5 rfl rfl rfl rfl rfl rfl rfl ⟨rfl,rfl,rfl,rfl,rfl⟩ rfl rfl rfl rfl rfl (by kernel_rfl) Tryz.func5 (by kernel_rfl)
  (of_decide_eq_true (by kernel_rfl)) (by unfold Func.isWrapper;first | (rw [if_pos (by decide +kernel)];kernel_rfl) | (rw [if_neg (by decide +kernel)];exact ⟨rfl,rfl⟩))
  (fun os started H enc _ F=>by rw [OpenClaim.pre_eq_preRow];exact Xh os started H enc F)
theorem plain(f:FuncId)(fn:Func)(hf:Tryz.pinned.checked.prog.funcNamed Rows.morphGivenRow.func=some f)(hfn:Tryz.pinned.checked.prog.funcs[f]?=some fn) :
  true=Tryz.pinned.checked.prog.looks []∧∀ (j:Nat) t,fn.params[j]?=some t→Tryz.pinned.checked.prog.wantsStandIn t=false:=by
 obtain rfl:f=5:=Option.some.inj ((show Tryz.prog.funcNamed Rows.morphGivenRow.func=some 5 by kernel_rfl).symm.trans hf) |>.symm
 obtain rfl:fn=Tryz.f5:=(Option.some.inj (Tryz.func5.symm.trans hfn)).symm
 refine ⟨by kernel_rfl,fun j t ht => ?_⟩
 have h:(Tryz.f5.params.toList.all fun t => !Tryz.prog.wantsStandIn t)=true:=by kernel_rfl
 have:=List.all_eq_true.1 h t (by simpa using Array.mem_of_getElem? ht)
 exact (show Tryz.prog.wantsStandIn t=false by simpa using this)
theorem card:Rows.MorphGivenCardSaid:=
 Claim7.holds_tied_plain_at .later [] _ _ _ _ XU (fun _ h=>by cases h) (by kernel_rfl) (fun _ h=>by cases h) morphGiven_row_tie rfl ⟨rfl,rfl⟩ (by kernel_rfl) rfl plain (by kernel_rfl)
#print axioms card
end Go.Proofs.YtcjafjephggobaaGreatDoor
end
