import Derived.Test.YtnknpmlcimogcaaGreatDoorA7
/-
  Part 8 of the tool: an abstract machine over the model, proved sound, and what it says of the functions that the law reaches. Condition: none but those that each theorem names.
-/
set_option linter.unusedVariables false
set_option linter.unusedSimpArgs false
set_option maxRecDepth 100000
set_option maxHeartbeats 4000000
namespace Go.Am
open Go.RowKit
section
open Go.Proofs
def RQ:List (Nat×AFn):=[(3,tQ),(4,jl),(5,aK),(7,nS),(8,qx),(9,cC),(10,qy),(11,rC),(12,q9),(13,dQ),(15,oo),(16,ab)]
theorem Vw:jY (cg Tryz.prog G0) RQ:=by repeat' first | (unfold cg;kernel_rfl) | exact trivial | refine ⟨?_, ?_⟩
def RR:List (Nat×AFn):=[(17,qz),(18,qA),(19,rD),(20,rE),(21,qB),(22,gR),(23,xL),(24,pH),(25,iZ),(26,fX),(27,rF),(28,oT)]
theorem Vx:jY (cg Tryz.prog G0) RR:=by repeat' first | (unfold cg;kernel_rfl) | exact trivial | refine ⟨?_, ?_⟩
def RT:List (Nat×AFn):=[(29,qC),(30,lI),(31,el),(32,oq),(33,dj),(34,eD),(35,ot),(36,dk),(37,i6),(38,ou),(39,dm),(40,eE)]
theorem Vy:jY (cg Tryz.prog G0) RT:=by repeat' first | (unfold cg;kernel_rfl) | exact trivial | refine ⟨?_, ?_⟩
def RU:List (Nat×AFn):=[(41,ov),(42,dn),(43,ja),(44,ow),(45,dF),(46,jF),(49,eR),(51,re),(52,pI),(53,nq),(54,rH),(55,pJ)]
theorem Vz:jY (cg Tryz.prog G0) RU:=by repeat' first | (unfold cg;kernel_rfl) | exact trivial | refine ⟨?_, ?_⟩
def RV:List (Nat×AFn):=[(56,oU),(57,tT),(58,pK),(59,oV),(60,oW),(61,qD),(62,pL),(63,eB),(64,gh),(65,ft),(66,gy),(67,pM)]
theorem VA:jY (cg Tryz.prog G0) RV:=by repeat' first | (unfold cg;kernel_rfl) | exact trivial | refine ⟨?_, ?_⟩
def RW:List (Nat×AFn):=[(68,fC),(69,ik),(70,bN),(71,gz),(72,dU),(73,bO),(74,gA),(75,dG),(76,gB),(77,rh),(78,il),(79,oz)]
theorem VB:jY (cg Tryz.prog G0) RW:=by repeat' first | (unfold cg;kernel_rfl) | exact trivial | refine ⟨?_, ?_⟩
def RY:List (Nat×AFn):=[(80,lJ),(81,bP),(82,gC),(83,bW),(84,gD),(85,ri),(86,bu),(87,gE),(88,pN),(89,pO),(93,u3),(94,oA)]
theorem VC:jY (cg Tryz.prog G0) RY:=by repeat' first | (unfold cg;kernel_rfl) | exact trivial | refine ⟨?_, ?_⟩
def RZ:List (Nat×AFn):=[(95,oB),(96,oC),(97,tp),(98,oD),(99,oE),(100,sE),(101,pP),(102,lK),(103,sF),(104,sG),(105,oF),(106,sI)]
theorem VD:jY (cg Tryz.prog G0) RZ:=by repeat' first | (unfold cg;kernel_rfl) | exact trivial | refine ⟨?_, ?_⟩
def R0:List (Nat×AFn):=[(107,pQ),(108,rJ),(109,qF),(110,tY),(111,qG),(112,qH),(113,fv),(114,im),(116,gi),(117,dX),(118,iH),(119,aX)]
theorem VE:jY (cg Tryz.prog G0) R0:=by repeat' first | (unfold cg;kernel_rfl) | exact trivial | refine ⟨?_, ?_⟩
def R1:List (Nat×AFn):=[(120,cR),(121,aY),(122,dH),(123,fY),(124,fD),(125,mq),(126,nr),(127,aZ),(128,bh),(129,bX),(130,oG),(131,mr)]
theorem VF:jY (cg Tryz.prog G0) R1:=by repeat' first | (unfold cg;kernel_rfl) | exact trivial | refine ⟨?_, ?_⟩
def Oc:List (Nat×AFn):=[(132,aH),(136,jG),(137,jf),(139,eM),(141,rj),(142,rK),(144,iq),(149,iJ),(150,bj),(154,gF),(155,dL),(157,mT)]
theorem TD:jY (cg Tryz.prog G0) Oc:=by repeat' first | (unfold cg;kernel_rfl) | exact trivial | refine ⟨?_, ?_⟩
def Od:List (Nat×AFn):=[(158,fQ),(161,fF),(171,jg)]
theorem TE:jY (cg Tryz.prog G0) Od:=by repeat' first | (unfold cg;kernel_rfl) | exact trivial | refine ⟨?_, ?_⟩
def R3:List (Nat×List (Nat×AFn)):=[(16,RQ),(28,RR),(40,RT),(55,RU),(67,RV),(79,RW),(94,RY),(106,RZ),(119,R0),(131,R1),(157,Oc),(171,Od)]
def Wn(f:FuncId):Option AFn:=Li R3 f
theorem TF:∀ f af,Wn f=some af→cg Tryz.prog G0 f af:=fun f af h=>Gf (show JH _ R3 from ⟨Vw,Vx,Vy,Vz,VA,VB,VC,VD,VE,VF,TD,TE,trivial⟩) h
def R4(f:FuncId)(args:List AV)(H:List AObj):Option Out:=
 match args with
 |[]=>bif Nat.beq f cb then some (.ret (.bool true),H) else none
 |[.str s]=>bif Nat.beq f j8&&Nat.ble s.length 1000000 then some (.ret (.tuple [.int .i64 (atV s),atE s]),H) else O2 f args H
 |[.int .i64 (.ofNat n),.int .i64 (.ofNat m)]=>bif Nat.beq f ae&&Nat.beq m 10&&Nat.blt n 1000 then some (.ret (.str (fq n)),H) else none
 |_=>O2 f args H
theorem R5{f:FuncId}{args:List AV}{H H':List AObj}{r:qh}(h:R4 f args H=some (r,H')):cT Tryz.prog G0 f args H fun r2 H2=>r2=r∧H2=H':=by
 unfold R4 at h;split at h
 ·cases h1:Nat.beq f cb with
  |true=>rw [h1] at h;cases h;rw [Nat.eq_of_beq_eq_true h1];exact Q3 H
  |false=>rw [h1] at h;cases h
 ·rename_i s
  cases h1:(Nat.beq f j8&&Nat.ble s.length 1000000) with
  |true=>
   rw [h1] at h;cases h;rw [Bool.and_eq_true] at h1;rw [Nat.eq_of_beq_eq_true h1.1];exact Wj s (Nat.le_of_ble_eq_true h1.2) H
  |false=>rw [h1] at h;exact JS h
 ·rename_i n m
  cases h1:(Nat.beq f ae&&Nat.beq m 10&&Nat.blt n 1000) with
  |true=>
   rw [h1] at h;cases h;rw [Bool.and_eq_true,Bool.and_eq_true] at h1;rw [Nat.eq_of_beq_eq_true h1.1.1,Nat.eq_of_beq_eq_true h1.1.2];exact Vv (Nat.le_of_ble_eq_true h1.2) H
  |false=>rw [h1] at h;cases h
 ·exact JS h
def R6(f:FuncId):Option (Nat×AFn):=bif Nat.beq f al then some (4,bk) else none
theorem R7:∀ f d af,R6 f=some (d,af)→JG Tryz.prog G0 f (d,af):=fun f d af h=>by
 unfold R6 at h;cases h1:Nat.beq f al with
 |true=>rw [h1] at h;cases h;rw [Nat.eq_of_beq_eq_true h1];exact ⟨by kernel_rfl,rfl⟩
 |false=>rw [h1] at h;cases h
noncomputable def EN:bc := { P:=Tryz.prog,G:=G0,fn:=Wn,orc:=R4,dfn:=R6 }
theorem Ue:EN.Ok:=bc.ok5 NX (fun f af h=>TF f af h) (fun f d af h=>R7 f d af h) (fun _ _ _ _ _ h=>by cases h) (fun _ _ _ _ _ h=>R5 h)
end
end Go.Am
