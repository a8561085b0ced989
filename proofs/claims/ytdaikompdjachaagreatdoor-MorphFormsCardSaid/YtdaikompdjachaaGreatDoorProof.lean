import Derived.Test.YtdaikompdjachaaGreatDoorA7
import Derived.Test.YtdaikompdjachaaGreatDoorCards
import Derived.Test.YtdaikompdjachaaGreatDoorTie
import Derived.WalkKit
import Derived.ProofKit
import Derived.Handy
import Derived.Lay
import Derived.SevenTiedAt
import Derived.OpenShut
import Derived.ChangeMaps5
import Derived.Deep.DeepHandedRow
/-
  The law returns true for every input, and its input reads as it did: the tied card. No condition.
-/
set_option linter.unusedVariables false
set_option linter.unusedSimpArgs false
section
namespace Go.Proofs.YtdaikompdjachaaGreatDoor
open Go.ChangeShapes Go.WideShapes Go.ChangeAt Go.RowKit Go.Am
theorem Tz:bq EN:=by constructor<;>rfl
theorem Vr:lH EN:=by constructor<;>rfl
theorem Vt:sZ EN:=by constructor<;>rfl
theorem TA:Fw EN:=by constructor<;>rfl
theorem V4:SpE EN:=by constructor<;>rfl
theorem Vu:s4 EN:=by constructor<;>rfl
theorem Vv:Er EN:=by constructor<;>rfl
theorem Vw:qV EN:=by constructor<;>rfl
theorem Vx:Hy EN:=by constructor<;>rfl
theorem Vy(M:dV ei EN):sy M:=⟨fun s c H=>by
  rw [DM M rfl]
  show some (wg.ret (.int .i64 (Lib.indexByte s ((c.toNat:Int).toNat.toUInt8))),H)=_
  simp,fun i o H=>by
  rw [DM M rfl]
  rfl⟩
theorem Uz(M:dV ei EN):Kx M:=⟨fun s c H=>by
  rw [DM M rfl]
  show some (wg.ret (.int .i64 (Lib.countByte s ((c.toNat:Int).toNat.toUInt8):Nat)),H)=_
  simp,fun n H hn=>by
  rw [DM M rfl]
  show (bif true&&Nat.ble n 281474976710656 then some (wg.ret (.rslice H.length 0 n 1 true),H++[.cells (List.replicate n .unk) dN]) else none)=_
  rw [Nat.ble_eq_true_of_le hn]
  rfl⟩
theorem TB{l:Lex}(hl:l.ok 0){e:Int}(he:I64 e){q:Int}(hq:I64 q):ff Tryz.prog G0 kK [.agg l.row,.int .i64 e,.int .i64 q] [] fun r H'=>r = .ret (.bool true)∧H'=[]:=by
 obtain ⟨M⟩:=NH ei EN
 have hX:=Vy M
 have hY:=Uz M
 exact M.sound UP (KB M Tz (WdE.of M UP (fun _ _ _=>rfl)) Vr Vt TA V4 hX hY Vu Vv Vw Vx (Uy M) Tm rfl hl e q (H:=[]) (fun _=>rfl))
theorem Bf:kF Tryz.prog:=by constructor<;>kernel_rfl
theorem own:ownKnob Tryz.prog.godebug=none:=by kernel_rfl
theorem UA:laidOutB Tryz.prog=true:=by kernel_rfl
theorem params:Tryz.f5.params = #[au,EF,EF]:=by kernel_rfl
theorem TC:∀ t∈Tryz.f5.params.toList,Tryz.prog.readableRec t=true∧t<Tryz.prog.types.size:=fun t ht=>by
 have h:(Tryz.f5.params.toList.all fun t=>Tryz.prog.readableRec t&&decide (t<Tryz.prog.types.size))=true:=by kernel_rfl
 simpa using List.all_eq_true.1 h t ht
theorem Vz:Tryz.prog.underlying SJ=some .bool:=by kernel_rfl
set_option maxRecDepth 100000 in
theorem TD(H:Type)(enc:TypeId×Value→H)(W:World)(base:Nat)(args:Array Value)(ds gs:List (DataW H))(before:List MemPlace)
  (hval:∀ (j:Nat) t v,Tryz.f5.params[j]?=some t→args[j]?=some v→Value.okWide Tryz.prog W .any base t v)
  (hW:DataW.Whole enc Tryz.prog Tryz.f5.params.toList Rows.morphFormsSpec.vars false W args.toList ds gs before) :
  Calls Tryz.prog 5 args W fun e W' => ∃ v,e = .returned v∧Rows.morphFormsSpec.post enc Tryz.prog Tryz.f5 false true false false W args v W':=by
 have hW':=hW
 obtain ⟨p,q,hA0,hV,rfl,_,_⟩:=hW
 have hA:DataW.TrodAll enc Tryz.prog W 0 (fun _=>true) true Tryz.f5.params.toList args.toList ds p:=hA0
 have hlt:∀ x∈p,x.block<W.heap.size:=fun x hx=>by simpa using hW'.lt x (by simp [hx])
 have hstay:∀ W':World,Below W.heap.size W W'→DataW.TrodAll enc Tryz.prog W' 0 (fun b=>decide (b<W.heap.size)) true Tryz.f5.params.toList args.toList ds p:=fun W' hb=>EE UA hb _ _ _ _ TC hA hlt
 rw [params] at hA hval
 obtain ⟨v0,vs0,d0,ds0,p0,q0,e0,rfl,rfl,h0,hA0⟩:=trodAll_cons hA
 obtain ⟨v1,vs1,d1,ds1,p1,q1,e1,rfl,rfl,h1,hA1⟩:=trodAll_cons hA0
 obtain ⟨v2,vs2,d2,ds2,p2,q2,e2,rfl,rfl,h2,hA2⟩:=trodAll_cons hA1
 obtain ⟨e9,rfl,rfl⟩:=trodAll_nil hA2
 obtain rfl:args = #[v0,v1,v2]:=by
  cases args;simp_all
 obtain ⟨rfl,rfl⟩:=trodVars_none hV
 obtain ⟨cs0,rfl⟩:=Uc Bf.f_Lex (hval 0 au v0 rfl rfl)
 obtain ⟨n1,rfl⟩:=Qm Bf.u_int (hval 1 EF v1 rfl rfl)
 obtain ⟨n2,rfl⟩:=Qm Bf.u_int (hval 2 EF v2 rfl rfl)
 obtain ⟨l,hl,g0⟩:=JK (G:=G0) (Tx Bf) h0
 obtain ⟨e,he,g1⟩:=JK (G:=G0) (DO Bf.u_int) h1
 obtain ⟨q,hq,g2⟩:=JK (G:=G0) (DO Bf.u_int) h2
 have hargs:Vs (aA.start W G0) [.agg l.row,.int .i64 e,.int .i64 q] #[.agg cs0,.int .i64 n1,.int .i64 n2]:=VL.vs ((VL.one (VL.agg g0)).append (g1.append g2))
 refine (Rg (TB hl he hq) (fun _ _ h=>by cases h) (th Tryz.func5 (by kernel_rfl) (by kernel_rfl) _ _) hargs).mono fun e W' ⟨he,hb⟩ => ?_
 subst he
 exact ⟨_,rfl,_,_,_,[],_,[],hW',trodAll_mk1 (shut_bool Vz _),hstay W' hb,rfl,hb.frame _,fun h=>by cases h⟩
def Bg:Array Value := #[.agg #[.string ⟨#[]⟩,.slice none 0 0,.slice none 0 0,.slice none 0 0,.slice none 0 0,.slice none 0 0],.int .i64 0,.int .i64 0]
set_option maxRecDepth 100000 in
theorem V5(os:Os){H:Type}(enc:TypeId×Value→H):∃ places,DataW.whole enc Tryz.prog ((World.laidAll Tryz.prog os Rows.morphFormsRow.laid).forCall (fun _ _=>0) ⟨#[],Bg,[]⟩).memory Tryz.f5.params.toList Rows.morphFormsSpec.vars false Bg.toList 8=some ([.agg [.lit (.string []),.nil,.nil,.nil,.nil,.nil],.lit (.int .i64 0),.lit (.int .i64 0)],[],places):=
 ⟨[],by kernel_rfl⟩
set_option maxRecDepth 100000 in
theorem TE(os:Os):laidMetH Tryz.prog Rows.morphFormsRow.laid ((World.laidAll Tryz.prog os Rows.morphFormsRow.laid).forCall (fun _ _=>0) ⟨#[],Bg,[]⟩).memory:=by
 rw [MakeChecks.laidMetH_plain _ _ _ (by kernel_rfl)]
 exact laidMet_laidAll _ (by kernel_rfl) (by kernel_rfl)
set_option maxRecDepth 100000 in
theorem VA(os:Os)(started:os.Started)(H:Type)(enc:TypeId×Value→H)(F:Stop.Interp) :
  ReturnsInHanded {} Tryz.checked os 5 .any ((OpenSpec.ofChange Rows.morphFormsSpec).preRow enc Tryz.prog Tryz.f5 Rows.morphFormsRow.domain false Rows.morphFormsRow.laid) (((OpenSpec.ofChange Rows.morphFormsSpec).at F).post enc Tryz.prog Tryz.f5 false true false false):=by
 obtain ⟨places,hx⟩:=V5 os enc
 have hok:Input.okWideB Tryz.prog ((World.laidAll Tryz.prog os Rows.morphFormsRow.laid).forCall (fun _ _=>0) ⟨#[],Bg,[]⟩) 5 ⟨#[],Bg,[]⟩=true:=by kernel_rfl
 refine returnsInHanded_of_row (C:=Tryz.checked) (s:=OpenSpec.ofChange Rows.morphFormsSpec) own started (by kernel_rfl) Tryz.func5
  ⟨World.laidAll Tryz.prog os Rows.morphFormsRow.laid,fun _ _=>0,⟨#[],Bg,[]⟩,World.laidAll_os _ _ _,World.shaped_of_ZipB (by kernel_rfl) (by kernel_rfl),
   (Input.okWide_of_okWideB (base:=0) hok).1,(Input.okWide_of_okWideB hok).2,OpenSpec.preRow_of_cond 8 hx (by kernel_rfl) (fun k hk=>by cases hk) (by kernel_rfl) (TE os),by
    simp only [Assume.holds]
    exact ⟨by simp,by simp,fun _=>Modest.zero,by simp,by simp⟩⟩ ?_
 intro W base args ds gs before hval hW _ _ _ _ _ _
 exact TD H enc W base args ds gs before hval hW
theorem Wh:Rows.MorphFormsSaid:=
 OpenClaim.holds_of_cond 5 Tryz.f5 rfl rfl rfl rfl rfl rfl rfl ⟨rfl,rfl,rfl,rfl,rfl⟩ rfl rfl rfl rfl rfl (by kernel_rfl) Tryz.func5 (by kernel_rfl)
  (of_decide_eq_true (by kernel_rfl)) (by unfold Func.isWrapper;first | (rw [if_pos (by decide +kernel)];kernel_rfl) | (rw [if_neg (by decide +kernel)];exact ⟨rfl,rfl⟩))
  (fun os started H enc _ F=>by rw [OpenClaim.pre_eq_preRow];exact VA os started H enc F)
theorem plain(f:FuncId)(fn:Func)(hf:Tryz.pinned.checked.prog.funcNamed Rows.morphFormsRow.func=some f)(hfn:Tryz.pinned.checked.prog.funcs[f]?=some fn) :
  true=Tryz.pinned.checked.prog.looks []∧∀ (j:Nat) t,fn.params[j]?=some t→Tryz.pinned.checked.prog.wantsStandIn t=false:=by
 obtain rfl:f=5:=Option.some.inj ((show Tryz.prog.funcNamed Rows.morphFormsRow.func=some 5 by kernel_rfl).symm.trans hf) |>.symm
 obtain rfl:fn=Tryz.f5:=(Option.some.inj (Tryz.func5.symm.trans hfn)).symm
 refine ⟨by kernel_rfl,fun j t ht => ?_⟩
 have h:(Tryz.f5.params.toList.all fun t => !Tryz.prog.wantsStandIn t)=true:=by kernel_rfl
 have:=List.all_eq_true.1 h t (by simpa using Array.mem_of_getElem? ht)
 exact (show Tryz.prog.wantsStandIn t=false by simpa using this)
theorem card:Rows.MorphFormsCardSaid:=
 Claim7.holds_tied_plain_at .later [] _ _ _ _ Wh (fun _ h=>by cases h) (by kernel_rfl) (fun _ h=>by cases h) morphForms_row_tie rfl ⟨rfl,rfl⟩ (by kernel_rfl) rfl plain (by kernel_rfl)
#print axioms card
end Go.Proofs.YtdaikompdjachaaGreatDoor
end
