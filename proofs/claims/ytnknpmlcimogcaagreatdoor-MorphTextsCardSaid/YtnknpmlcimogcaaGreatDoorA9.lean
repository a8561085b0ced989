import Derived.Test.YtnknpmlcimogcaaGreatDoorA8
import Derived.Test.YtnknpmlcimogcaaGreatDoorChecked
import Derived.Shelf.Strconv.AtoiAll
import Derived.Lib.LaidTab
import Derived.Stop.LaidErr
import Derived.KernelRfl
/-
  Part 9 of the tool: an abstract machine over the model, proved sound, and what it says of the functions that the law reaches. Condition: none but those that each theorem names.
-/
set_option linter.unusedVariables false
set_option linter.unusedSimpArgs false
set_option maxRecDepth 100000
set_option maxHeartbeats 4000000
namespace Go.Am
open Go.RowKit
section
open Go.Shelf Go.RowKit Go.Lib Go.Proofs
def Pq:Go.Shelf.Ren:=⟨fun | 172=>140 | 244=>159 | 245=>160 | 247=>172 | 279=>173 | 280=>174 | 281=>175 | 282=>176 | 287=>180 | 316=>181 | 171=>24 | 205=>182 | 321=>183 | 322=>184 | 243=>66 | 246=>115 | 283=>145 | 284=>146 | 285=>147 | 286=>148 | 129=>164 | 317=>163 | 318=>165 | 319=>166 | 320=>167 | 337=>177 | 338=>178 | n=>n,fun | 9=>9 | 3=>3 | 75=>124 | 76=>125 | 4=>4 | 5=>5 | 167=>207 | 37=>72 | 0=>0 | 85=>208 | 2=>2 | 168=>210 | 53=>131 | 175=>214 | 46=>191 | 210=>217 | 127=>129 | 145=>224 | 143=>222 | 21=>21 | 171=>183 | 173=>186 | 212=>195 | 51=>196 | 20=>20 | 213=>197 | 232=>219 | 233=>220 | 80=>81 | n=>n,fun | 15=>4 | 16=>5 | 17=>1 | 18=>6 | 19=>7 | n=>n⟩
theorem Pr:Go.Proofs.LaysC.n172 Tryz.prog Pq where
 mixed:=by kernel_rfl
 f129:=Tryz.func164.trans (congrArg some (by kernel_rfl))
 f171:=Tryz.func24.trans (congrArg some (by kernel_rfl))
 f172:=Tryz.func140.trans (congrArg some (by kernel_rfl))
 f205:=Tryz.func182.trans (congrArg some (by kernel_rfl))
 f243:=Tryz.func66.trans (congrArg some (by kernel_rfl))
 f244:=Tryz.func159.trans (congrArg some (by kernel_rfl))
 f245:=Tryz.func160.trans (congrArg some (by kernel_rfl))
 f246:=Tryz.func115.trans (congrArg some (by kernel_rfl))
 f247:=Tryz.func172.trans (congrArg some (by kernel_rfl))
 f279:=Tryz.func173.trans (congrArg some (by kernel_rfl))
 f280:=Tryz.func174.trans (congrArg some (by kernel_rfl))
 f281:=Tryz.func175.trans (congrArg some (by kernel_rfl))
 f282:=Tryz.func176.trans (congrArg some (by kernel_rfl))
 f283:=Tryz.func145.trans (congrArg some (by kernel_rfl))
 f284:=Tryz.func146.trans (congrArg some (by kernel_rfl))
 f285:=Tryz.func147.trans (congrArg some (by kernel_rfl))
 f286:=Tryz.func148.trans (congrArg some (by kernel_rfl))
 f287:=Tryz.func180.trans (congrArg some (by kernel_rfl))
 f316:=Tryz.func181.trans (congrArg some (by kernel_rfl))
 f317:=Tryz.func163.trans (congrArg some (by kernel_rfl))
 f318:=Tryz.func165.trans (congrArg some (by kernel_rfl))
 f319:=Tryz.func166.trans (congrArg some (by kernel_rfl))
 f320:=Tryz.func167.trans (congrArg some (by kernel_rfl))
 f321:=Tryz.func183.trans (congrArg some (by kernel_rfl))
 f322:=Tryz.func184.trans (congrArg some (by kernel_rfl))
 f337:=Tryz.func177.trans (congrArg some (by kernel_rfl))
 f338:=Tryz.func178.trans (congrArg some (by kernel_rfl))
 t0:=Tryz.underlying0
 a0:=Tryz.isAgg0
 z0:=Tryz.sizeOf0
 v0:=Tryz.zeroValue0
 t2:=Tryz.underlying2
 a2:=Tryz.isAgg2
 z2:=Tryz.sizeOf2
 v2:=Tryz.zeroValue2
 t3:=Tryz.underlying3
 a3:=Tryz.isAgg3
 z3:=Tryz.sizeOf3
 v3:=Tryz.zeroValue3
 t4:=Tryz.underlying4
 a4:=Tryz.isAgg4
 z4:=Tryz.sizeOf4
 v4:=Tryz.zeroValue4
 t5:=Tryz.underlying5
 a5:=Tryz.isAgg5
 z5:=Tryz.sizeOf5
 v5:=Tryz.zeroValue5
 t9:=Tryz.underlying9
 a9:=Tryz.isAgg9
 z9:=Tryz.sizeOf9
 v9:=Tryz.zeroValue9
 t20:=Tryz.underlying20
 a20:=Tryz.isAgg20
 z20:=Tryz.sizeOf20
 v20:=Tryz.zeroValue20
 t21:=Tryz.underlying21
 a21:=Tryz.isAgg21
 z21:=Tryz.sizeOf21
 v21:=Tryz.zeroValue21
 t37:=Tryz.underlying72
 a37:=Tryz.isAgg72
 z37:=Tryz.sizeOf72
 v37:=Tryz.zeroValue72
 t46:=Tryz.underlying191
 a46:=Tryz.isAgg191
 z46:=Tryz.sizeOf191
 v46:=Tryz.zeroValue191
 t51:=Tryz.underlying196
 a51:=Tryz.isAgg196
 z51:=Tryz.sizeOf196
 v51:=Tryz.zeroValue196
 t53:=Tryz.underlying131
 a53:=Tryz.isAgg131
 z53:=Tryz.sizeOf131
 v53:=Tryz.zeroValue131
 t75:=Tryz.underlying124
 a75:=Tryz.isAgg124
 z75:=Tryz.sizeOf124
 v75:=Tryz.zeroValue124
 t76:=Tryz.underlying125
 a76:=Tryz.isAgg125
 z76:=Tryz.sizeOf125
 v76:=Tryz.zeroValue125
 t85:=Tryz.underlying208
 a85:=Tryz.isAgg208
 z85:=Tryz.sizeOf208
 v85:=Tryz.zeroValue208
 t127:=Tryz.underlying129
 a127:=Tryz.isAgg129
 z127:=Tryz.sizeOf129
 v127:=Tryz.zeroValue129
 t143:=Tryz.underlying222
 a143:=Tryz.isAgg222
 z143:=Tryz.sizeOf222
 v143:=Tryz.zeroValue222
 t145:=Tryz.underlying224
 a145:=Tryz.isAgg224
 z145:=Tryz.sizeOf224
 v145:=Tryz.zeroValue224
 t167:=Tryz.underlying207
 a167:=Tryz.isAgg207
 z167:=Tryz.sizeOf207
 v167:=Tryz.zeroValue207
 t168:=Tryz.underlying210
 a168:=Tryz.isAgg210
 z168:=Tryz.sizeOf210
 v168:=Tryz.zeroValue210
 t171:=Tryz.underlying183
 a171:=Tryz.isAgg183
 z171:=Tryz.sizeOf183
 v171:=Tryz.zeroValue183
 t173:=Tryz.underlying186
 a173:=Tryz.isAgg186
 z173:=Tryz.sizeOf186
 v173:=Tryz.zeroValue186
 t175:=Tryz.underlying214
 a175:=Tryz.isAgg214
 z175:=Tryz.sizeOf214
 v175:=Tryz.zeroValue214
 t210:=Tryz.underlying217
 a210:=Tryz.isAgg217
 z210:=Tryz.sizeOf217
 v210:=Tryz.zeroValue217
 t212:=Tryz.underlying195
 a212:=Tryz.isAgg195
 z212:=Tryz.sizeOf195
 v212:=Tryz.zeroValue195
 t213:=Tryz.underlying197
 a213:=Tryz.isAgg197
 z213:=Tryz.sizeOf197
 t232:=Tryz.underlying219
 a232:=Tryz.isAgg219
 z232:=Tryz.sizeOf219
 v232:=Tryz.zeroValue219
 t233:=Tryz.underlying220
 a233:=Tryz.isAgg220
 z233:=Tryz.sizeOf220
 v233:=Tryz.zeroValue220
 g15:=by kernel_rfl
 g16:=by kernel_rfl
 g17:=by kernel_rfl
 g18:=by kernel_rfl
 g19:=by kernel_rfl
 t80:=Tryz.underlying81
 a80:=Tryz.isAgg81
 z80:=Tryz.sizeOf81
 v80:=Tryz.zeroValue81
 i0:=by kernel_rfl
 i2:=by kernel_rfl
 i3:=by kernel_rfl
 i4:=by kernel_rfl
 i5:=by kernel_rfl
 i9:=by kernel_rfl
 i20:=by kernel_rfl
 i21:=by kernel_rfl
 i37:=by kernel_rfl
 i46:=by kernel_rfl
 i51:=by kernel_rfl
 i53:=by kernel_rfl
 i75:=by kernel_rfl
 i76:=by kernel_rfl
 i80:=by kernel_rfl
 i85:=by kernel_rfl
 i127:=by kernel_rfl
 i143:=by kernel_rfl
 i145:=by kernel_rfl
 i167:=by kernel_rfl
 i168:=by kernel_rfl
 i171:=by kernel_rfl
 i173:=by kernel_rfl
 i175:=by kernel_rfl
 i210:=by kernel_rfl
 i212:=by kernel_rfl
 i232:=by kernel_rfl
 i233:=by kernel_rfl
 m15:=by kernel_rfl
 m16:=by kernel_rfl
 m17:=by kernel_rfl
 m18:=by kernel_rfl
 m19:=by kernel_rfl
 c0:=by kernel_rfl
 c2:=by kernel_rfl
 c3:=by kernel_rfl
 c4:=by kernel_rfl
 c5:=by kernel_rfl
 c9:=by kernel_rfl
 c20:=by kernel_rfl
 c21:=by kernel_rfl
 c37:=by kernel_rfl
 c46:=by kernel_rfl
 c51:=by kernel_rfl
 c53:=by kernel_rfl
 c75:=by kernel_rfl
 c76:=by kernel_rfl
 c80:=by kernel_rfl
 c85:=by kernel_rfl
 c127:=by kernel_rfl
 c143:=by kernel_rfl
 c145:=by kernel_rfl
 c167:=by kernel_rfl
 c168:=by kernel_rfl
 c171:=by kernel_rfl
 c173:=by kernel_rfl
 c175:=by kernel_rfl
 c210:=by kernel_rfl
 c212:=by kernel_rfl
 c213:=by kernel_rfl
 c232:=by kernel_rfl
 c233:=by kernel_rfl
theorem RC:∀ args w,(callFunc 140 args).run Tryz.prog w = .ok (.enter 140 args) w:=enters_of Tryz.func140 (by kernel_rfl) rfl
theorem YJ(s:List UInt8)(hs:s.length≤1000000)(H:List Y4):dL Tryz.prog G0 mM [.str s] H fun r H'=>r = .ret (.tuple [.int .i64 (atV s),atE s])∧H'=H:=by
 have e1:atV s=LJ s:=by unfold atV LJ;cases Lib.atoiAll s<;>rfl
 have e2:atE s=LL 210 s:=by unfold atE LL;cases Lib.atoiAll s<;>rfl
 rw [e1,e2]
 exact SP (P:=Tryz.prog) (f:=140) (a:=4) (b:=5) (c:=1) (te:=222) (tn:=210) (tb:=5) rfl RC (fun s v h1 h2 w=>Any.strconv_Atoi_ok Pr s h1 v h2 w)
  (fun s h1 h2 h5 ev w h3 h4=>(Any.strconv_Atoi_syntax Pr s h1 (by
   rcases e:Lib.atoiAll s.data.toList with v | _ | _
   ·exact absurd e (h2 v)
   ·rfl
   ·exact absurd e h5) ev w h3 h4).mono fun e w' ⟨N,a,_,_,d⟩=>⟨N,a,d⟩)
  (fun s h1 h2 ev w h3 h4=>(Any.strconv_Atoi_range Pr s h1 h2 ev w h3 h4).mono fun e w' ⟨N,a,_,_,d⟩=>⟨N,a,d⟩) s hs H
theorem YK:(List.range 50).all (fun j=>u5 E0 aj fJ (0+j))=true:=by kernel_rfl
theorem XL:(List.range 50).all (fun j=>u5 E0 aj fJ (50+j))=true:=by kernel_rfl
theorem VE:(List.range 50).all (fun j=>u5 E0 aj fJ (100+j))=true:=by kernel_rfl
theorem VF:(List.range 50).all (fun j=>u5 E0 aj fJ (150+j))=true:=by kernel_rfl
theorem VG:(List.range 50).all (fun j=>u5 E0 aj fJ (200+j))=true:=by kernel_rfl
theorem VH:(List.range 50).all (fun j=>u5 E0 aj fJ (250+j))=true:=by kernel_rfl
theorem VI:(List.range 50).all (fun j=>u5 E0 aj fJ (300+j))=true:=by kernel_rfl
theorem VJ:(List.range 50).all (fun j=>u5 E0 aj fJ (350+j))=true:=by kernel_rfl
theorem VK:(List.range 50).all (fun j=>u5 E0 aj fJ (400+j))=true:=by kernel_rfl
theorem VM:(List.range 50).all (fun j=>u5 E0 aj fJ (450+j))=true:=by kernel_rfl
theorem VN:(List.range 50).all (fun j=>u5 E0 aj fJ (500+j))=true:=by kernel_rfl
theorem VO:(List.range 50).all (fun j=>u5 E0 aj fJ (550+j))=true:=by kernel_rfl
theorem VP:(List.range 50).all (fun j=>u5 E0 aj fJ (600+j))=true:=by kernel_rfl
theorem VQ:(List.range 50).all (fun j=>u5 E0 aj fJ (650+j))=true:=by kernel_rfl
theorem VR:(List.range 50).all (fun j=>u5 E0 aj fJ (700+j))=true:=by kernel_rfl
theorem VS:(List.range 50).all (fun j=>u5 E0 aj fJ (750+j))=true:=by kernel_rfl
theorem VT:(List.range 50).all (fun j=>u5 E0 aj fJ (800+j))=true:=by kernel_rfl
theorem VU:(List.range 50).all (fun j=>u5 E0 aj fJ (850+j))=true:=by kernel_rfl
theorem VV:(List.range 50).all (fun j=>u5 E0 aj fJ (900+j))=true:=by kernel_rfl
theorem VW:(List.range 50).all (fun j=>u5 E0 aj fJ (950+j))=true:=by kernel_rfl
theorem VX{n:Nat}(hn:n<1000):u5 E0 aj fJ n=true:=by
 have at1:∀ k,(List.range 50).all (fun j=>u5 E0 aj fJ (k+j))=true→k≤n→n<k+50→u5 E0 aj fJ n=true:=fun k h h1 h2=>by
  have:=amI.1 h (n-k) (anV.2 (by omega));rwa [show k+(n-k)=n from by omega] at this
 by_cases h0:n<50
 ·exact at1 0 YK (by omega) (by omega)
 by_cases h50:n<100
 ·exact at1 50 XL (by omega) (by omega)
 by_cases h100:n<150
 ·exact at1 100 VE (by omega) (by omega)
 by_cases h150:n<200
 ·exact at1 150 VF (by omega) (by omega)
 by_cases h200:n<250
 ·exact at1 200 VG (by omega) (by omega)
 by_cases h250:n<300
 ·exact at1 250 VH (by omega) (by omega)
 by_cases h300:n<350
 ·exact at1 300 VI (by omega) (by omega)
 by_cases h350:n<400
 ·exact at1 350 VJ (by omega) (by omega)
 by_cases h400:n<450
 ·exact at1 400 VK (by omega) (by omega)
 by_cases h450:n<500
 ·exact at1 450 VM (by omega) (by omega)
 by_cases h500:n<550
 ·exact at1 500 VN (by omega) (by omega)
 by_cases h550:n<600
 ·exact at1 550 VO (by omega) (by omega)
 by_cases h600:n<650
 ·exact at1 600 VP (by omega) (by omega)
 by_cases h650:n<700
 ·exact at1 650 VQ (by omega) (by omega)
 by_cases h700:n<750
 ·exact at1 700 VR (by omega) (by omega)
 by_cases h750:n<800
 ·exact at1 750 VS (by omega) (by omega)
 by_cases h800:n<850
 ·exact at1 800 VT (by omega) (by omega)
 by_cases h850:n<900
 ·exact at1 850 VU (by omega) (by omega)
 by_cases h900:n<950
 ·exact at1 900 VV (by omega) (by omega)
 by_cases h950:n<1000
 ·exact at1 950 VW (by omega) (by omega)
 exact absurd hn (by omega)
theorem XM{n:Nat}(hn:n<1000)(H:List Y4):dL Tryz.prog G0 aj [.int .i64 (n:Int),.int .i64 10] H fun r H'=>r = .ret (.str (fJ n))∧H'=H:=WY Nb g0 (VX hn) H
theorem gES:Tryz.prog.globalNamed "strconv.ErrSyntax" = some 4:=by kernel_rfl
theorem gER:Tryz.prog.globalNamed "strconv.ErrRange" = some 5:=by kernel_rfl
theorem gPT:Tryz.prog.globalNamed "internal/strconv.uint64pow10" = some 1:=by kernel_rfl
theorem T9 (u:TypeId) (h:Tryz.prog.typeName? 3 u=some "*errors.errorString"):u=222:=
 typeName_ptr_named (nm := "errors.errorString") (by rw [(by decide : "*" ++ "errors.errorString" = "*errors.errorString")];kernel_rfl) (by kernel_rfl) (by decide) u (by rw [(by decide : "*" ++ "errors.errorString" = "*errors.errorString")];exact h)
end
section
open Go.Proofs
def Ua:List (Nat×Zj):=[(3,kO),(4,w7),(5,aW),(7,oF),(8,gj),(9,dk),(10,oR),(11,bb),(12,uk),(13,fp),(15,rS),(16,ag)]
theorem XN:mF (cZ Tryz.prog G0) Ua:=by repeat' first | (unfold cZ;kernel_rfl) | exact trivial | refine ⟨?_, ?_⟩
def Ub:List (Nat×Zj):=[(17,jc),(18,eU),(19,qb),(20,qc),(21,dy),(22,j8),(23,zP),(24,s6),(25,ln),(26,jw),(27,qe),(28,mR)]
theorem XO:mF (cZ Tryz.prog G0) Ub:=by repeat' first | (unfold cZ;kernel_rfl) | exact trivial | refine ⟨?_, ?_⟩
def Uc:List (Nat×Zj):=[(29,jg),(30,oG),(31,fL),(32,rT),(33,eu),(34,gl),(35,rU),(36,ew),(37,lq),(38,rV),(39,ey),(40,gm)]
theorem XP:mF (cZ Tryz.prog G0) Uc:=by repeat' first | (unfold cZ;kernel_rfl) | exact trivial | refine ⟨?_, ?_⟩
def Ud:List (Nat×Zj):=[(41,rW),(42,ez),(43,lA),(44,rX),(45,eV),(46,lY),(49,gD),(51,um),(52,s7),(53,qH),(54,qi),(55,iG)]
theorem XQ:mF (cZ Tryz.prog G0) Ud:=by repeat' first | (unfold cZ;kernel_rfl) | exact trivial | refine ⟨?_, ?_⟩
def Ue:List (Nat×Zj):=[(56,eb),(57,bh),(58,eB),(59,ed),(60,bJ),(61,jh),(62,iI),(63,gg),(64,jE),(65,ij),(66,jO),(67,nN)]
theorem XR:mF (cZ Tryz.prog G0) Ue:=by repeat' first | (unfold cZ;kernel_rfl) | exact trivial | refine ⟨?_, ?_⟩
def Uf:List (Nat×Zj):=[(68,iL),(69,kq),(70,cr),(71,jP),(72,fv),(73,ct),(74,jQ),(75,eW),(76,jR),(77,uo),(78,kr),(79,rY)]
theorem XS:mF (cZ Tryz.prog G0) Uf:=by repeat' first | (unfold cZ;kernel_rfl) | exact trivial | refine ⟨?_, ?_⟩
def Ug:List (Nat×Zj):=[(80,oH),(81,cu),(82,jS),(83,cJ),(84,jT),(85,uq),(86,bP),(87,jU),(88,s9),(89,tc),(93,xy),(94,rZ)]
theorem XT:mF (cZ Tryz.prog G0) Ug:=by repeat' first | (unfold cZ;kernel_rfl) | exact trivial | refine ⟨?_, ?_⟩
def Uh:List (Nat×Zj):=[(95,r7),(96,r8),(97,vT),(98,r9),(99,sa),(100,vo),(101,td),(102,oI),(103,vp),(104,vq),(105,sb),(106,vt)]
theorem XU:mF (cZ Tryz.prog G0) Uh:=by repeat' first | (unfold cZ;kernel_rfl) | exact trivial | refine ⟨?_, ?_⟩
def Ui:List (Nat×Zj):=[(107,fM),(108,b9),(109,ji),(110,kQ),(111,jj),(112,dz),(113,ik),(114,ks),(116,jG),(117,fA),(118,kR),(119,bz)]
theorem XV:mF (cZ Tryz.prog G0) Ui:=by repeat' first | (unfold cZ;kernel_rfl) | exact trivial | refine ⟨?_, ?_⟩
def Uj:List (Nat×Zj):=[(120,dI),(121,bA),(122,eX),(123,jx),(124,iN),(125,pI),(126,qI),(127,bB),(128,bF),(129,cK),(130,sd),(131,pJ)]
theorem XW:mF (cZ Tryz.prog G0) Uj:=by repeat' first | (unfold cZ;kernel_rfl) | exact trivial | refine ⟨?_, ?_⟩
def Qi:List (Nat×Zj):=[(132,aU),(136,lZ),(137,lE),(139,gz),(141,ur),(142,ca),(144,ku),(149,kT),(150,bG),(154,jV),(155,fg),(157,qm)]
theorem VY:mF (cZ Tryz.prog G0) Qi:=by repeat' first | (unfold cZ;kernel_rfl) | exact trivial | refine ⟨?_, ?_⟩
def Qj:List (Nat×Zj):=[(158,jk),(161,iQ),(171,lF)]
theorem VZ:mF (cZ Tryz.prog G0) Qj:=by repeat' first | (unfold cZ;kernel_rfl) | exact trivial | refine ⟨?_, ?_⟩
def Uk:List (Nat×List (Nat×Zj)):=[(16,Ua),(28,Ub),(40,Uc),(55,Ud),(67,Ue),(79,Uf),(94,Ug),(106,Uh),(119,Ui),(131,Uj),(157,Qi),(171,Qj)]
def YL(f:FuncId):Option Zj:=M3 Uk f
theorem V0:∀ f af,YL f=some af→cZ Tryz.prog G0 f af:=fun f af h=>It (show LI _ Uk from ⟨XN,XO,XP,XQ,XR,XS,XT,XU,XV,XW,VY,VZ,trivial⟩) h
def Ul(f:FuncId)(args:List AV)(H:List Y4):Option Out:=
 match args with
 |[]=>bif Nat.beq f cU then some (.ret (.bool true),H) else none
 |[.str s]=>bif Nat.beq f mM&&Nat.ble s.length 1000000 then some (.ret (.tuple [.int .i64 (atV s),atE s]),H) else Q3 f args H
 |[.int .i64 (.ofNat n),.int .i64 (.ofNat m)]=>bif Nat.beq f aj&&Nat.beq m 10&&Nat.blt n 1000 then some (.ret (.str (fJ n)),H) else none
 |_=>Q3 f args H
theorem Um{f:FuncId}{args:List AV}{H H':List Y4}{r:uY}(h:Ul f args H=some (r,H')):dL Tryz.prog G0 f args H fun r2 H2=>r2=r∧H2=H':=by
 unfold Ul at h;split at h
 ·cases h1:Nat.beq f cU with
  |true=>rw [h1] at h;cases h;rw [amv h1];exact Ta H
  |false=>rw [h1] at h;cases h
 ·rename_i s
  cases h1:(Nat.beq f mM&&Nat.ble s.length 1000000) with
  |true=>
   rw [h1] at h;cases h;rw [amb] at h1;rw [amv h1.1];exact YJ s (anO h1.2) H
  |false=>rw [h1] at h;exact LS h
 ·rename_i n m
  cases h1:(Nat.beq f aj&&Nat.beq m 10&&Nat.blt n 1000) with
  |true=>
   rw [h1] at h;cases h;rw [amb,amb] at h1;rw [amv h1.1.1,amv h1.1.2];exact XM (anO h1.2) H
  |false=>rw [h1] at h;cases h
 ·exact LS h
def Un(f:FuncId):Option (Nat×Zj):=bif Nat.beq f aq then some (4,bH) else none
theorem Uo:∀ f d af,Un f=some (d,af)→LG Tryz.prog G0 f (d,af):=fun f d af h=>by
 unfold Un at h;cases h1:Nat.beq f aq with
 |true=>rw [h1] at h;cases h;rw [amv h1];exact ⟨by kernel_rfl,rfl⟩
 |false=>rw [h1] at h;cases h
noncomputable def EN:br := { P:=Tryz.prog,G:=G0,fn:=YL,orc:=Ul,dfn:=Un }
theorem Wu:EN.Ok:=br.ok5 PS (fun f af h=>V0 f af h) (fun f d af h=>Uo f d af h) (fun _ _ _ _ _ h=>by cases h) (fun _ _ _ _ _ h=>Um h)
end
end Go.Am
