import Derived.Test.YtjmdmfmkldhcfaaGreatDoorA7
import Derived.Test.YtjmdmfmkldhcfaaGreatDoorCards
import Derived.Test.YtjmdmfmkldhcfaaGreatDoorTie
import Derived.WalkKit
import Derived.ProofKit
import Derived.Handy
import Derived.Lay
import Derived.SevenTiedAt
import Derived.OpenShut
import Derived.ChangeMaps5
import Derived.Deep.DeepHandedRow
/-
  The law returns true for every input, and its input reads as it did: the tied card. No condition.
-/
set_option linter.unusedVariables false
set_option linter.unusedSimpArgs false
section
namespace Go.Proofs.YtjmdmfmkldhcfaaGreatDoor
open Go.ChangeShapes Go.WideShapes Go.ChangeAt Go.RowKit Go.Am
theorem Sw:bp EN:=by constructor<;>rfl
theorem Uq:kW EN:=by constructor<;>rfl
theorem Ur:tm EN:=by constructor<;>rfl
theorem Sx:Ei EN:=by constructor<;>rfl
theorem U5:SpE EN:=by constructor<;>rfl
theorem Us:s5 EN:=by constructor<;>rfl
theorem Ut:Ej EN:=by constructor<;>rfl
theorem Uu:tn EN:=by constructor<;>rfl
theorem Uv:yn EN:=by constructor<;>rfl
theorem Uw:NC EN:=by constructor<;>rfl
theorem Ux(M:dK dW EN):rU M:=⟨fun s c H=>by
  rw [CM M rfl]
  show some (u4.ret (.int .i64 (Lib.indexByte s ((c.toNat:Int).toNat.toUInt8))),H)=_
  simp,fun i o H=>by
  rw [CM M rfl]
  rfl⟩
theorem Tu(M:dK dW EN):Jt M:=⟨fun s c H=>by
  rw [CM M rfl]
  show some (u4.ret (.int .i64 (Lib.countByte s ((c.toNat:Int).toNat.toUInt8):Nat)),H)=_
  simp,fun n H hn=>by
  rw [CM M rfl]
  show (bif true&&Nat.ble n 281474976710656 then some (u4.ret (.rslice H.length 0 n 1 true),H++[.cells (List.replicate n .unk) dN]) else none)=_
  rw [Nat.ble_eq_true_of_le hn]
  rfl⟩
theorem Sy{l:Lex}(hl:l.ok 0){x:Go.Am.Ask}(hx:x.ok 0):eU Tryz.prog G0 i9 [.agg l.row,.agg x.row] [] fun r H'=>r = .ret (.bool true)∧H'=[]:=by
 obtain ⟨M⟩:=MI dW EN
 have hX:=Ux M
 have hY:=Tu M
 exact M.sound TK (Ep M Sw (WdE.of M TK (fun _ _ _=>rfl)) Uq Ur Sx U5 hX hY Us Ut Uu Uv (Tt M) Se Uw rfl hl hx (H:=[]) (fun _=>rfl))
theorem FT:jJ Tryz.prog:=by constructor<;>kernel_rfl
theorem own:ownKnob Tryz.prog.godebug=none:=by kernel_rfl
theorem Tv:laidOutB Tryz.prog=true:=by kernel_rfl
theorem params:Tryz.f6.params = #[aq,iU]:=by kernel_rfl
theorem Sz:∀ t∈Tryz.f6.params.toList,Tryz.prog.readableRec t=true∧t<Tryz.prog.types.size:=fun t ht=>by
 have h:(Tryz.f6.params.toList.all fun t=>Tryz.prog.readableRec t&&decide (t<Tryz.prog.types.size))=true:=by kernel_rfl
 simpa using List.all_eq_true.1 h t ht
theorem Uy:Tryz.prog.underlying RA=some .bool:=by kernel_rfl
set_option maxRecDepth 100000 in
theorem SA(H:Type)(enc:TypeId×Value→H)(W:World)(base:Nat)(args:Array Value)(ds gs:List (DataW H))(before:List MemPlace)
  (hval:∀ (j:Nat) t v,Tryz.f6.params[j]?=some t→args[j]?=some v→Value.okWide Tryz.prog W .any base t v)
  (hW:DataW.Whole enc Tryz.prog Tryz.f6.params.toList Rows.morphGeneratesSpec.vars false W args.toList ds gs before) :
  Calls Tryz.prog 6 args W fun e W' => ∃ v,e = .returned v∧Rows.morphGeneratesSpec.post enc Tryz.prog Tryz.f6 false true false false W args v W':=by
 have hW':=hW
 obtain ⟨p,q,hA0,hV,rfl,_,_⟩:=hW
 have hA:DataW.TrodAll enc Tryz.prog W 0 (fun _=>true) true Tryz.f6.params.toList args.toList ds p:=hA0
 have hlt:∀ x∈p,x.block<W.heap.size:=fun x hx=>by simpa using hW'.lt x (by simp [hx])
 have hstay:∀ W':World,Below W.heap.size W W'→DataW.TrodAll enc Tryz.prog W' 0 (fun b=>decide (b<W.heap.size)) true Tryz.f6.params.toList args.toList ds p:=fun W' hb=>DA Tv hb _ _ _ _ Sz hA hlt
 rw [params] at hA hval
 obtain ⟨v0,vs0,d0,ds0,p0,q0,e0,rfl,rfl,h0,hA0⟩:=trodAll_cons hA
 obtain ⟨v1,vs1,d1,ds1,p1,q1,e1,rfl,rfl,h1,hA1⟩:=trodAll_cons hA0
 obtain ⟨e9,rfl,rfl⟩:=trodAll_nil hA1
 obtain rfl:args = #[v0,v1]:=by
  cases args;simp_all
 obtain ⟨rfl,rfl⟩:=trodVars_none hV
 obtain ⟨cs0,rfl⟩:=Pk FT.f_Lex (hval 0 aq v0 rfl rfl)
 obtain ⟨cs1,rfl⟩:=Pk FT.f_Ask (hval 1 iU v1 rfl rfl)
 obtain ⟨l,hl,g0⟩:=MR (G:=G0) (St FT) h0
 obtain ⟨x,hx,g1⟩:=MR (G:=G0) (Su FT) h1
 have hargs:Vs (aC.start W G0) [.agg l.row,.agg x.row] #[.agg cs0,.agg cs1]:=VL.vs ((VL.one (VL.agg g0)).append (VL.one (VL.agg g1)))
 refine (Qe (Sy hl hx) (fun _ _ h=>by cases h) (r8 Tryz.func6 (by kernel_rfl) (by kernel_rfl) _ _) hargs).mono fun e W' ⟨he,hb⟩ => ?_
 subst he
 exact ⟨_,rfl,_,_,_,[],_,[],hW',trodAll_mk1 (shut_bool Uy _),hstay W' hb,rfl,hb.frame _,fun h=>by cases h⟩
def zY:Array Value := #[.agg #[.string ⟨#[]⟩,.slice none 0 0,.slice none 0 0,.slice none 0 0,.slice none 0 0,.slice none 0 0],.agg #[.string ⟨#[]⟩,.string ⟨#[]⟩,.slice none 0 0,.int .i64 0,.int .i64 0]]
set_option maxRecDepth 100000 in
theorem U6(os:Os){H:Type}(enc:TypeId×Value→H):∃ places,DataW.whole enc Tryz.prog ((World.laidAll Tryz.prog os Rows.morphGeneratesRow.laid).forCall (fun _ _=>0) ⟨#[],zY,[]⟩).memory Tryz.f6.params.toList Rows.morphGeneratesSpec.vars false zY.toList 8=some ([.agg [.lit (.string []),.nil,.nil,.nil,.nil,.nil],.agg [.lit (.string []),.lit (.string []),.nil,.lit (.int .i64 0),.lit (.int .i64 0)]],[],places):=
 ⟨[],by kernel_rfl⟩
set_option maxRecDepth 100000 in
theorem SB(os:Os):laidMetH Tryz.prog Rows.morphGeneratesRow.laid ((World.laidAll Tryz.prog os Rows.morphGeneratesRow.laid).forCall (fun _ _=>0) ⟨#[],zY,[]⟩).memory:=by
 rw [MakeChecks.laidMetH_plain _ _ _ (by kernel_rfl)]
 exact laidMet_laidAll _ (by kernel_rfl) (by kernel_rfl)
set_option maxRecDepth 100000 in
theorem Uz(os:Os)(started:os.Started)(H:Type)(enc:TypeId×Value→H)(F:Stop.Interp) :
  ReturnsInHanded {} Tryz.checked os 6 .any ((OpenSpec.ofChange Rows.morphGeneratesSpec).preRow enc Tryz.prog Tryz.f6 Rows.morphGeneratesRow.domain false Rows.morphGeneratesRow.laid) (((OpenSpec.ofChange Rows.morphGeneratesSpec).at F).post enc Tryz.prog Tryz.f6 false true false false):=by
 obtain ⟨places,hx⟩:=U6 os enc
 have hok:Input.okWideB Tryz.prog ((World.laidAll Tryz.prog os Rows.morphGeneratesRow.laid).forCall (fun _ _=>0) ⟨#[],zY,[]⟩) 6 ⟨#[],zY,[]⟩=true:=by kernel_rfl
 refine returnsInHanded_of_row (C:=Tryz.checked) (s:=OpenSpec.ofChange Rows.morphGeneratesSpec) own started (by kernel_rfl) Tryz.func6
  ⟨World.laidAll Tryz.prog os Rows.morphGeneratesRow.laid,fun _ _=>0,⟨#[],zY,[]⟩,World.laidAll_os _ _ _,World.shaped_of_ZipB (by kernel_rfl) (by kernel_rfl),
   (Input.okWide_of_okWideB (base:=0) hok).1,(Input.okWide_of_okWideB hok).2,OpenSpec.preRow_of_cond 8 hx (by kernel_rfl) (fun k hk=>by cases hk) (by kernel_rfl) (SB os),by
    simp only [Assume.holds]
    exact ⟨by simp,by simp,fun _=>Modest.zero,by simp,by simp⟩⟩ ?_
 intro W base args ds gs before hval hW _ _ _ _ _ _
 exact SA H enc W base args ds gs before hval hW
theorem Vj:Rows.MorphGeneratesSaid:=
 OpenClaim.holds_of_cond 6 Tryz.f6 rfl rfl rfl rfl rfl rfl rfl ⟨rfl,rfl,rfl,rfl,rfl⟩ rfl rfl rfl rfl rfl (by kernel_rfl) Tryz.func6 (by kernel_rfl)
  (of_decide_eq_true (by kernel_rfl)) (by unfold Func.isWrapper;first | (rw [if_pos (by decide +kernel)];kernel_rfl) | (rw [if_neg (by decide +kernel)];exact ⟨rfl,rfl⟩))
  (fun os started H enc _ F=>by rw [OpenClaim.pre_eq_preRow];exact Uz os started H enc F)
theorem plain(f:FuncId)(fn:Func)(hf:Tryz.pinned.checked.prog.funcNamed Rows.morphGeneratesRow.func=some f)(hfn:Tryz.pinned.checked.prog.funcs[f]?=some fn) :
  true=Tryz.pinned.checked.prog.looks []∧∀ (j:Nat) t,fn.params[j]?=some t→Tryz.pinned.checked.prog.wantsStandIn t=false:=by
 obtain rfl:f=6:=Option.some.inj ((show Tryz.prog.funcNamed Rows.morphGeneratesRow.func=some 6 by kernel_rfl).symm.trans hf) |>.symm
 obtain rfl:fn=Tryz.f6:=(Option.some.inj (Tryz.func6.symm.trans hfn)).symm
 refine ⟨by kernel_rfl,fun j t ht => ?_⟩
 have h:(Tryz.f6.params.toList.all fun t => !Tryz.prog.wantsStandIn t)=true:=by kernel_rfl
 have:=List.all_eq_true.1 h t (by simpa using Array.mem_of_getElem? ht)
 exact (show Tryz.prog.wantsStandIn t=false by simpa using this)
theorem card:Rows.MorphGeneratesCardSaid:=
 Claim7.holds_tied_plain_at .later [] _ _ _ _ Vj (fun _ h=>by cases h) (by kernel_rfl) (fun _ h=>by cases h) morphGenerates_row_tie rfl ⟨rfl,rfl⟩ (by kernel_rfl) rfl plain (by kernel_rfl)
#print axioms card
end Go.Proofs.YtjmdmfmkldhcfaaGreatDoor
end
