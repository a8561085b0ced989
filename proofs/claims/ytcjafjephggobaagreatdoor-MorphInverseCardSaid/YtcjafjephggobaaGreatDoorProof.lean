import Derived.Test.YtcjafjephggobaaGreatDoorA7
import Derived.Test.YtcjafjephggobaaGreatDoorCards
import Derived.Test.YtcjafjephggobaaGreatDoorTie
import Derived.WalkKit
import Derived.ProofKit
import Derived.Handy
import Derived.Lay
import Derived.SevenTiedAt
import Derived.OpenShut
import Derived.ChangeMaps5
import Derived.Deep.DeepHandedRow
/-
  The law returns true for every input, and its input reads as it did: the tied card. No condition.
-/
set_option linter.unusedVariables false
set_option linter.unusedSimpArgs false
section
namespace Go.Proofs.YtcjafjephggobaaGreatDoor
open Go.ChangeShapes Go.WideShapes Go.ChangeAt Go.RowKit Go.Am
theorem U0:dG EN:=by constructor<;>rfl
theorem Xe:iV EN:=by constructor<;>rfl
theorem U1:F9 EN:=by constructor<;>rfl
theorem XK:SpE EN:=by constructor<;>rfl
theorem Xf:pA EN:=by constructor<;>rfl
theorem Xg:sZ EN:=by constructor<;>rfl
theorem Xh:vL EN:=by constructor<;>rfl
theorem Xi:Jv EN:=by constructor<;>rfl
theorem Xj:Iu EN:=by constructor<;>rfl
theorem Xk(M:cT cY EN):o4 M:=⟨fun s c H=>by
  rw [Em M rfl]
  show some (vX.ret (.int .i64 (Lib.indexByte s ((c.toNat:Int).toNat.toUInt8))),H)=_
  simp,fun i o H=>by
  rw [Em M rfl]
  rfl⟩
theorem Wd(M:cT cY EN):D7 M:=⟨fun s c H=>by
  rw [Em M rfl]
  show some (vX.ret (.int .i64 (Lib.countByte s ((c.toNat:Int).toNat.toUInt8):Nat)),H)=_
  simp,fun n H hn=>by
  rw [Em M rfl]
  show (bif true&&Nat.ble n 281474976710656 then some (vX.ret (.rslice H.length 0 n 1 true),H++[.cells (List.replicate n .unk) dL]) else none)=_
  rw [Nat.ble_eq_true_of_le hn]
  rfl⟩
theorem U2{l:Go.Am.Lex}(hl:l.ok 0){w:Str}(hw:w.length≤bD){x:Go.Am.Analysis}(hx:x.ok 0):eX Tryz.prog G0 jg [.agg l.row,.str w,.agg x.row] [] fun r H'=>r = .ret (.bool true)∧H'=[]:=by
 obtain ⟨M⟩:=OR cY EN
 have hX:=Xk M
 have hY:=Wd M
 exact M.sound Ws (Iw M U0 (WdE.of M Ws (fun _ _ _=>rfl)) Xe U1 XK hX hY Xf Xg Xh (Wc M) UX Xi Xj rfl rfl hl hw hx (H:=[]) (fun _=>rfl))
theorem Be:iE Tryz.prog:=by constructor<;>kernel_rfl
theorem own:ownKnob Tryz.prog.godebug=none:=by kernel_rfl
theorem We:laidOutB Tryz.prog=true:=by kernel_rfl
theorem params:Tryz.f4.params = #[az,bB,au]:=by kernel_rfl
theorem U3:∀ t∈Tryz.f4.params.toList,Tryz.prog.readableRec t=true∧t<Tryz.prog.types.size:=fun t ht=>by
 have h:(Tryz.f4.params.toList.all fun t=>Tryz.prog.readableRec t&&decide (t<Tryz.prog.types.size))=true:=by kernel_rfl
 simpa using List.all_eq_true.1 h t ht
theorem Xl:Tryz.prog.underlying T3=some .bool:=by kernel_rfl
set_option maxRecDepth 100000 in
theorem U4(H:Type)(enc:TypeId×Value→H)(W:World)(base:Nat)(args:Array Value)(ds gs:List (DataW H))(before:List MemPlace)
  (hval:∀ (j:Nat) t v,Tryz.f4.params[j]?=some t→args[j]?=some v→Value.okWide Tryz.prog W .any base t v)
  (hW:DataW.Whole enc Tryz.prog Tryz.f4.params.toList Rows.morphInverseSpec.vars false W args.toList ds gs before) :
  Calls Tryz.prog 4 args W fun e W' => ∃ v,e = .returned v∧Rows.morphInverseSpec.post enc Tryz.prog Tryz.f4 false true false false W args v W':=by
 have hW':=hW
 obtain ⟨p,q,hA0,hV,rfl,_,_⟩:=hW
 have hA:DataW.TrodAll enc Tryz.prog W 0 (fun _=>true) true Tryz.f4.params.toList args.toList ds p:=hA0
 have hlt:∀ x∈p,x.block<W.heap.size:=fun x hx=>by simpa using hW'.lt x (by simp [hx])
 have hstay:∀ W':World,Below W.heap.size W W'→DataW.TrodAll enc Tryz.prog W' 0 (fun b=>decide (b<W.heap.size)) true Tryz.f4.params.toList args.toList ds p:=fun W' hb=>Fs We hb _ _ _ _ U3 hA hlt
 rw [params] at hA hval
 obtain ⟨v0,vs0,d0,ds0,p0,q0,e0,rfl,rfl,h0,hA0⟩:=trodAll_cons hA
 obtain ⟨v1,vs1,d1,ds1,p1,q1,e1,rfl,rfl,h1,hA1⟩:=trodAll_cons hA0
 obtain ⟨v2,vs2,d2,ds2,p2,q2,e2,rfl,rfl,h2,hA2⟩:=trodAll_cons hA1
 obtain ⟨e9,rfl,rfl⟩:=trodAll_nil hA2
 obtain rfl:args = #[v0,v1,v2]:=by
  cases args;simp_all
 obtain ⟨rfl,rfl⟩:=trodVars_none hV
 obtain ⟨cs0,rfl⟩:=Rv Be.f_Lex (hval 0 az v0 rfl rfl)
 obtain ⟨s1,rfl⟩:=Vz Be.u_string (hval 1 bB v1 rfl rfl)
 obtain ⟨cs2,rfl⟩:=Rv Be.f_Analysis (hval 2 au v2 rfl rfl)
 obtain ⟨l,hl,g0⟩:=KC (G:=G0) (UY Be) h0
 obtain ⟨w,hw,g1⟩:=KC (G:=G0) (ga Be.u_string) h1
 obtain ⟨x,hx,g2⟩:=KC (G:=G0) (Mu Be) h2
 have hargs:Vs (aI.start W G0) [.agg l.row,.str w,.agg x.row] #[.agg cs0,.string s1,.agg cs2]:=VL.vs ((VL.one (VL.agg g0)).append (g1.append (VL.one (VL.agg g2))))
 refine (SF (U2 hl hw hx) (fun _ _ h=>by cases h) (r7 Tryz.func4 (by kernel_rfl) (by kernel_rfl) _ _) hargs).mono fun e W' ⟨he,hb⟩ => ?_
 subst he
 exact ⟨_,rfl,_,_,_,[],_,[],hW',trodAll_mk1 (shut_bool Xl _),hstay W' hb,rfl,hb.frame _,fun h=>by cases h⟩
def Bf:Array Value := #[.agg #[.string ⟨#[]⟩,.slice none 0 0,.slice none 0 0,.slice none 0 0,.slice none 0 0,.slice none 0 0],.string ⟨#[]⟩,.agg #[.slice none 0 0,.int .i64 0,.int .i64 0]]
set_option maxRecDepth 100000 in
theorem XL(os:Os){H:Type}(enc:TypeId×Value→H):∃ places,DataW.whole enc Tryz.prog ((World.laidAll Tryz.prog os Rows.morphInverseRow.laid).forCall (fun _ _=>0) ⟨#[],Bf,[]⟩).memory Tryz.f4.params.toList Rows.morphInverseSpec.vars false Bf.toList 8=some ([.agg [.lit (.string []),.nil,.nil,.nil,.nil,.nil],.lit (.string []),.agg [.nil,.lit (.int .i64 0),.lit (.int .i64 0)]],[],places):=
 ⟨[],by kernel_rfl⟩
set_option maxRecDepth 100000 in
theorem U5(os:Os):laidMetH Tryz.prog Rows.morphInverseRow.laid ((World.laidAll Tryz.prog os Rows.morphInverseRow.laid).forCall (fun _ _=>0) ⟨#[],Bf,[]⟩).memory:=by
 rw [MakeChecks.laidMetH_plain _ _ _ (by kernel_rfl)]
 exact laidMet_laidAll _ (by kernel_rfl) (by kernel_rfl)
set_option maxRecDepth 100000 in
theorem Xm(os:Os)(started:os.Started)(H:Type)(enc:TypeId×Value→H)(F:Stop.Interp) :
  ReturnsInHanded {} Tryz.checked os 4 .any ((OpenSpec.ofChange Rows.morphInverseSpec).preRow enc Tryz.prog Tryz.f4 Rows.morphInverseRow.domain false Rows.morphInverseRow.laid) (((OpenSpec.ofChange Rows.morphInverseSpec).at F).post enc Tryz.prog Tryz.f4 false true false false):=by
 obtain ⟨places,hx⟩:=XL os enc
 have hok:Input.okWideB Tryz.prog ((World.laidAll Tryz.prog os Rows.morphInverseRow.laid).forCall (fun _ _=>0) ⟨#[],Bf,[]⟩) 4 ⟨#[],Bf,[]⟩=true:=by kernel_rfl
 refine returnsInHanded_of_row (C:=Tryz.checked) (s:=OpenSpec.ofChange Rows.morphInverseSpec) own started (by kernel_rfl) Tryz.func4
  ⟨World.laidAll Tryz.prog os Rows.morphInverseRow.laid,fun _ _=>0,⟨#[],Bf,[]⟩,World.laidAll_os _ _ _,World.shaped_of_ZipB (by kernel_rfl) (by kernel_rfl),
   (Input.okWide_of_okWideB (base:=0) hok).1,(Input.okWide_of_okWideB hok).2,OpenSpec.preRow_of_cond 8 hx (by kernel_rfl) (fun k hk=>by cases hk) (by kernel_rfl) (U5 os),by
    simp only [Assume.holds]
    exact ⟨by simp,by simp,fun _=>Modest.zero,by simp,by simp⟩⟩ ?_
 intro W base args ds gs before hval hW _ _ _ _ _ _
 exact U4 H enc W base args ds gs before hval hW
theorem XZ:Rows.MorphInverseSaid:=
 OpenClaim.holds_of_cond 4 Tryz.f4 rfl rfl rfl rfl rfl rfl rfl ⟨rfl,rfl,rfl,rfl,rfl⟩ rfl rfl rfl rfl rfl (by kernel_rfl) Tryz.func4 (by kernel_rfl)
  (of_decide_eq_true (by kernel_rfl)) (by unfold Func.isWrapper;first | (rw [if_pos (by decide +kernel)];kernel_rfl) | (rw [if_neg (by decide +kernel)];exact ⟨rfl,rfl⟩))
  (fun os started H enc _ F=>by rw [OpenClaim.pre_eq_preRow];exact Xm os started H enc F)
theorem plain(f:FuncId)(fn:Func)(hf:Tryz.pinned.checked.prog.funcNamed Rows.morphInverseRow.func=some f)(hfn:Tryz.pinned.checked.prog.funcs[f]?=some fn) :
  true=Tryz.pinned.checked.prog.looks []∧∀ (j:Nat) t,fn.params[j]?=some t→Tryz.pinned.checked.prog.wantsStandIn t=false:=by
 obtain rfl:f=4:=Option.some.inj ((show Tryz.prog.funcNamed Rows.morphInverseRow.func=some 4 by kernel_rfl).symm.trans hf) |>.symm
 obtain rfl:fn=Tryz.f4:=(Option.some.inj (Tryz.func4.symm.trans hfn)).symm
 refine ⟨by kernel_rfl,fun j t ht => ?_⟩
 have h:(Tryz.f4.params.toList.all fun t => !Tryz.prog.wantsStandIn t)=true:=by kernel_rfl
 have:=List.all_eq_true.1 h t (by simpa using Array.mem_of_getElem? ht)
 exact (show Tryz.prog.wantsStandIn t=false by simpa using this)
theorem card:Rows.MorphInverseCardSaid:=
 Claim7.holds_tied_plain_at .later [] _ _ _ _ XZ (fun _ h=>by cases h) (by kernel_rfl) (fun _ h=>by cases h) morphInverse_row_tie rfl ⟨rfl,rfl⟩ (by kernel_rfl) rfl plain (by kernel_rfl)
#print axioms card
end Go.Proofs.YtcjafjephggobaaGreatDoor
end
