import Derived.Test.YtdaikompdjachaaGreatDoorA4
import Derived.Test.YtdaikompdjachaaGreatDoorChecked
import Derived.KernelRfl
/-
  Part 5 of the tool: an abstract machine over the model, proved sound, and what it says of the functions that the law reaches. Condition: none but those that each theorem names.
-/
set_option linter.unusedVariables false
set_option linter.unusedSimpArgs false
set_option maxRecDepth 100000
set_option maxHeartbeats 4000000
namespace Go.Am
open Go.RowKit
section
open Go.Proofs
def G0:Nat→Option (List AV):=fun _=>none
theorem ya:ab Tryz.prog G0 7 tB:=by unfold ab;kernel_rfl
theorem Hk:ab Tryz.prog G0 19 EH:=by unfold ab;kernel_rfl
theorem Gp:ab Tryz.prog G0 23 De:=by unfold ab;kernel_rfl
theorem Hl:ab Tryz.prog G0 28 EI:=by unfold ab;kernel_rfl
theorem Hm:ab Tryz.prog G0 29 EJ:=by unfold ab;kernel_rfl
theorem Gq:ab Tryz.prog G0 30 Df:=by unfold ab;kernel_rfl
theorem Gr:ab Tryz.prog G0 32 Dg:=by unfold ab;kernel_rfl
theorem nn:ab Tryz.prog G0 34 jr:=by unfold ab;kernel_rfl
theorem Gs:ab Tryz.prog G0 38 Dh:=by unfold ab;kernel_rfl
theorem xy:ab Tryz.prog G0 42 sF:=by unfold ab;kernel_rfl
theorem yb:ab Tryz.prog G0 44 tC:=by unfold ab;kernel_rfl
theorem Gt:ab Tryz.prog G0 46 Di:=by unfold ab;kernel_rfl
theorem D6:ab Tryz.prog G0 49 AD:=by unfold ab;kernel_rfl
theorem AY:ab Tryz.prog G0 50 vi:=by unfold ab;kernel_rfl
theorem yc:ab Tryz.prog G0 53 tD:=by unfold ab;kernel_rfl
theorem rS:ab Tryz.prog G0 54 lX:=by unfold ab;kernel_rfl
theorem IM:ab Tryz.prog G0 55 Gm:=by unfold ab;kernel_rfl
theorem Ff:ab Tryz.prog G0 56 B6:=by unfold ab;kernel_rfl
theorem xz:ab Tryz.prog G0 57 sG:=by unfold ab;kernel_rfl
theorem Fg:ab Tryz.prog G0 58 B7:=by unfold ab;kernel_rfl
theorem Fh:ab Tryz.prog G0 59 B8:=by unfold ab;kernel_rfl
theorem Fi:ab Tryz.prog G0 60 B9:=by unfold ab;kernel_rfl
theorem Fj:ab Tryz.prog G0 61 Ca:=by unfold ab;kernel_rfl
theorem D7:ab Tryz.prog G0 62 AE:=by unfold ab;kernel_rfl
theorem Cs:ab Tryz.prog G0 63 xp:=by unfold ab;kernel_rfl
theorem pX:ab Tryz.prog G0 69 jX:=by unfold ab;kernel_rfl
theorem uj:ab Tryz.prog G0 77 oQ:=by unfold ab;kernel_rfl
theorem zy:ab Tryz.prog G0 79 uy:=by unfold ab;kernel_rfl
theorem Gu:ab Tryz.prog G0 80 Dl:=by unfold ab;kernel_rfl
theorem xA:ab Tryz.prog G0 81 sH:=by unfold ab;kernel_rfl
theorem D8:ab Tryz.prog G0 82 AF:=by unfold ab;kernel_rfl
theorem xB:ab Tryz.prog G0 83 sI:=by unfold ab;kernel_rfl
theorem yd:ab Tryz.prog G0 84 tE:=by unfold ab;kernel_rfl
theorem D9:ab Tryz.prog G0 85 AG:=by unfold ab;kernel_rfl
theorem xC:ab Tryz.prog G0 86 sJ:=by unfold ab;kernel_rfl
theorem ye:ab Tryz.prog G0 87 tF:=by unfold ab;kernel_rfl
theorem Ea:ab Tryz.prog G0 88 AH:=by unfold ab;kernel_rfl
theorem xD:ab Tryz.prog G0 89 sK:=by unfold ab;kernel_rfl
theorem yf:ab Tryz.prog G0 90 tG:=by unfold ab;kernel_rfl
theorem Eb:ab Tryz.prog G0 91 AI:=by unfold ab;kernel_rfl
theorem xE:ab Tryz.prog G0 92 sL:=by unfold ab;kernel_rfl
theorem yg:ab Tryz.prog G0 93 tH:=by unfold ab;kernel_rfl
theorem Ec:ab Tryz.prog G0 94 AJ:=by unfold ab;kernel_rfl
theorem yh:ab Tryz.prog G0 95 tI:=by unfold ab;kernel_rfl
theorem zA:ab Tryz.prog G0 96 uz:=by unfold ab;kernel_rfl
theorem Ed:ab Tryz.prog G0 97 AK:=by unfold ab;kernel_rfl
theorem BH:ab Tryz.prog G0 98 wa:=by unfold ab;kernel_rfl
theorem Gv:ab Tryz.prog G0 100 Dm:=by unfold ab;kernel_rfl
theorem Fk:ab Tryz.prog G0 101 Cb:=by unfold ab;kernel_rfl
theorem Ds:ab Tryz.prog G0 102 yR:=by unfold ab;kernel_rfl
theorem xF:ab Tryz.prog G0 106 sN:=by unfold ab;kernel_rfl
theorem tT:ab Tryz.prog G0 107 nu:=by unfold ab;kernel_rfl
theorem AZ:ab Tryz.prog G0 108 vj:=by unfold ab;kernel_rfl
theorem yi:ab Tryz.prog G0 109 tJ:=by unfold ab;kernel_rfl
theorem xG:ab Tryz.prog G0 110 sO:=by unfold ab;kernel_rfl
theorem sX:ab Tryz.prog G0 111 na:=by unfold ab;kernel_rfl
theorem uk:ab Tryz.prog G0 112 oR:=by unfold ab;kernel_rfl
theorem vR:ab Tryz.prog G0 113 qY:=by unfold ab;kernel_rfl
theorem yj:ab Tryz.prog G0 114 tK:=by unfold ab;kernel_rfl
theorem Ct:ab Tryz.prog G0 125 xq:=by unfold ab;kernel_rfl
theorem mB:ab Tryz.prog G0 126 jf:=by unfold ab;kernel_rfl
theorem wy:ab Tryz.prog G0 127 rK:=by unfold ab;kernel_rfl
theorem mC:ab Tryz.prog G0 128 jg:=by unfold ab;kernel_rfl
theorem wz:ab Tryz.prog G0 129 rL:=by unfold ab;kernel_rfl
theorem yk:ab Tryz.prog G0 130 tL:=by unfold ab;kernel_rfl
theorem wA:ab Tryz.prog G0 131 rM:=by unfold ab;kernel_rfl
theorem Gw:ab Tryz.prog G0 132 Dn:=by unfold ab;kernel_rfl
theorem mD:ab Tryz.prog G0 133 jh:=by unfold ab;kernel_rfl
theorem wB:ab Tryz.prog G0 134 rN:=by unfold ab;kernel_rfl
theorem np:ab Tryz.prog G0 135 js:=by unfold ab;kernel_rfl
theorem wC:ab Tryz.prog G0 136 rO:=by unfold ab;kernel_rfl
theorem kh:ab Tryz.prog G0 137 fN:=by unfold ab;kernel_rfl
theorem wD:ab Tryz.prog G0 138 rP:=by unfold ab;kernel_rfl
theorem Fl:ab Tryz.prog G0 139 Cc:=by unfold ab;kernel_rfl
theorem oz:ab Tryz.prog G0 140 ju:=by unfold ab;kernel_rfl
theorem Cu:ab Tryz.prog G0 141 xr:=by unfold ab;kernel_rfl
theorem Cv:ab Tryz.prog G0 142 xt:=by unfold ab;kernel_rfl
theorem Ee:ab Tryz.prog G0 143 AM:=by unfold ab;kernel_rfl
theorem Ef:ab Tryz.prog G0 144 AN:=by unfold ab;kernel_rfl
theorem Eg:ab Tryz.prog G0 145 AO:=by unfold ab;kernel_rfl
theorem Hn:ab Tryz.prog G0 146 EL:=by unfold ab;kernel_rfl
theorem Eh:ab Tryz.prog G0 147 AP:=by unfold ab;kernel_rfl
theorem Ei:ab Tryz.prog G0 148 AQ:=by unfold ab;kernel_rfl
theorem Ej:ab Tryz.prog G0 149 AR:=by unfold ab;kernel_rfl
theorem Fm:ab Tryz.prog G0 150 Cd:=by unfold ab;kernel_rfl
theorem Gx:ab Tryz.prog G0 151 Dp:=by unfold ab;kernel_rfl
theorem Ek:ab Tryz.prog G0 152 AS:=by unfold ab;kernel_rfl
theorem El:ab Tryz.prog G0 153 AT:=by unfold ab;kernel_rfl
theorem Em:ab Tryz.prog G0 154 AU:=by unfold ab;kernel_rfl
theorem En:ab Tryz.prog G0 155 AW:=by unfold ab;kernel_rfl
theorem yl:ab Tryz.prog G0 159 tM:=by unfold ab;kernel_rfl
theorem vS:ab Tryz.prog G0 160 qZ:=by unfold ab;kernel_rfl
theorem oA:ab Tryz.prog G0 161 jv:=by unfold ab;kernel_rfl
theorem uL:ab Tryz.prog G0 162 p9:=by unfold ab;kernel_rfl
theorem rm:ab Tryz.prog G0 163 lA:=by unfold ab;kernel_rfl
theorem xH:ab Tryz.prog G0 164 sP:=by unfold ab;kernel_rfl
theorem um:ab Tryz.prog G0 165 oS:=by unfold ab;kernel_rfl
theorem Cw:ab Tryz.prog G0 175 xu:=by unfold ab;kernel_rfl
theorem xI:ab Tryz.prog G0 179 sQ:=by unfold ab;kernel_rfl
theorem qP:ab Tryz.prog G0 180 kQ:=by unfold ab;kernel_rfl
theorem oB:ab Tryz.prog G0 181 jw:=by unfold ab;kernel_rfl
theorem pY:ab Tryz.prog G0 182 jY:=by unfold ab;kernel_rfl
theorem kS:ab Tryz.prog G0 183 gu:=by unfold ab;kernel_rfl
theorem rn:ab Tryz.prog G0 184 lB:=by unfold ab;kernel_rfl
theorem tU:ab Tryz.prog G0 186 nv:=by unfold ab;kernel_rfl
theorem Fo:ab Tryz.prog G0 187 Ce:=by unfold ab;kernel_rfl
theorem Fp:ab Tryz.prog G0 188 Cf:=by unfold ab;kernel_rfl
theorem Gy:ab Tryz.prog G0 189 Dq:=by unfold ab;kernel_rfl
theorem A1:ab Tryz.prog G0 191 vk:=by unfold ab;kernel_rfl
theorem xJ:ab Tryz.prog G0 198 sR:=by unfold ab;kernel_rfl
theorem oW:ab Tryz.prog G0 199 jN:=by unfold ab;kernel_rfl
theorem rp:ab Tryz.prog G0 200 lC:=by unfold ab;kernel_rfl
theorem uM:ab Tryz.prog G0 202 qa:=by unfold ab;kernel_rfl
theorem nd:ab Tryz.prog G0 203 jj:=by unfold ab;kernel_rfl
theorem wE:ab Tryz.prog G0 204 rQ:=by unfold ab;kernel_rfl
theorem Cx:ab Tryz.prog G0 205 xw:=by unfold ab;kernel_rfl
theorem wF:ab Tryz.prog G0 206 rR:=by unfold ab;kernel_rfl
theorem uN:ab Tryz.prog G0 207 qb:=by unfold ab;kernel_rfl
theorem qQ:ab Tryz.prog G0 211 kR:=by unfold ab;kernel_rfl
theorem uo:ab Tryz.prog G0 212 oT:=by unfold ab;kernel_rfl
theorem ym:ab Tryz.prog G0 213 tN:=by unfold ab;kernel_rfl
theorem zB:ab Tryz.prog G0 214 uA:=by unfold ab;kernel_rfl
theorem A2:ab Tryz.prog G0 215 vl:=by unfold ab;kernel_rfl
theorem xK:ab Tryz.prog G0 216 sS:=by unfold ab;kernel_rfl
theorem tV:ab Tryz.prog G0 217 ny:=by unfold ab;kernel_rfl
theorem tW:ab Tryz.prog G0 218 nz:=by unfold ab;kernel_rfl
theorem tX:ab Tryz.prog G0 219 nA:=by unfold ab;kernel_rfl
theorem Ho:ab Tryz.prog G0 220 EM:=by unfold ab;kernel_rfl
theorem vT:ab Tryz.prog G0 221 re:=by unfold ab;kernel_rfl
theorem tY:ab Tryz.prog G0 222 nB:=by unfold ab;kernel_rfl
theorem rT:ab Tryz.prog G0 223 lY:=by unfold ab;kernel_rfl
theorem sY:ab Tryz.prog G0 224 nb:=by unfold ab;kernel_rfl
theorem vU:ab Tryz.prog G0 225 rf:=by unfold ab;kernel_rfl
theorem rU:ab Tryz.prog G0 226 lZ:=by unfold ab;kernel_rfl
theorem tZ:ab Tryz.prog G0 227 nC:=by unfold ab;kernel_rfl
theorem ua:ab Tryz.prog G0 228 nD:=by unfold ab;kernel_rfl
theorem rV:ab Tryz.prog G0 229 l3:=by unfold ab;kernel_rfl
theorem vt:ab Tryz.prog G0 230 qD:=by unfold ab;kernel_rfl
theorem uq:ab Tryz.prog G0 231 oU:=by unfold ab;kernel_rfl
theorem ur:ab Tryz.prog G0 232 oV:=by unfold ab;kernel_rfl
theorem wG:Qi Tryz.prog G0 99 (4,sM):=⟨by kernel_rfl,rfl⟩
theorem Ud:∀ f af,Vi f=some af→ab Tryz.prog G0 f af:=fun f af h=>by
 unfold Vi at h
 revert h
 exact (al (al (al (al (al (al (al (ak (C:=_) ya) (ak (C:=_) Hk)) (al (ak (C:=_) Gp) (ak (C:=_) Hl))) (al (al (ak (C:=_) Hm) (ak (C:=_) Gq)) (al (ak (C:=_) Gr) (ak (C:=_) nn)))) (al (al (al (ak (C:=_) Gs) (ak (C:=_) xy)) (al (ak (C:=_) yb) (ak (C:=_) Gt))) (al (al (ak (C:=_) D6) (ak (C:=_) AY)) (al (ak (C:=_) yc) (al (ak (C:=_) rS) (ak (C:=_) IM)))))) (al (al (al (al (ak (C:=_) Ff) (ak (C:=_) xz)) (al (ak (C:=_) Fg) (ak (C:=_) Fh))) (al (al (ak (C:=_) Fi) (ak (C:=_) Fj)) (al (ak (C:=_) D7) (al (ak (C:=_) Cs) (ak (C:=_) pX))))) (al (al (al (ak (C:=_) uj) (ak (C:=_) zy)) (al (ak (C:=_) Gu) (ak (C:=_) xA))) (al (al (ak (C:=_) D8) (ak (C:=_) xB)) (al (ak (C:=_) yd) (al (ak (C:=_) D9) (ak (C:=_) xC))))))) (al (al (al (al (al (ak (C:=_) ye) (ak (C:=_) Ea)) (al (ak (C:=_) xD) (ak (C:=_) yf))) (al (al (ak (C:=_) Eb) (ak (C:=_) xE)) (al (ak (C:=_) yg) (ak (C:=_) Ec)))) (al (al (al (ak (C:=_) yh) (ak (C:=_) zA)) (al (ak (C:=_) Ed) (ak (C:=_) BH))) (al (al (ak (C:=_) Gv) (ak (C:=_) Fk)) (al (ak (C:=_) Ds) (al (ak (C:=_) xF) (ak (C:=_) tT)))))) (al (al (al (al (ak (C:=_) AZ) (ak (C:=_) yi)) (al (ak (C:=_) xG) (ak (C:=_) sX))) (al (al (ak (C:=_) uk) (ak (C:=_) vR)) (al (ak (C:=_) yj) (al (ak (C:=_) Ct) (ak (C:=_) mB))))) (al (al (al (ak (C:=_) wy) (ak (C:=_) mC)) (al (ak (C:=_) wz) (ak (C:=_) yk))) (al (al (ak (C:=_) wA) (ak (C:=_) Gw)) (al (ak (C:=_) mD) (al (ak (C:=_) wB) (ak (C:=_) np)))))))) (al (al (al (al (al (al (ak (C:=_) wC) (ak (C:=_) kh)) (al (ak (C:=_) wD) (ak (C:=_) Fl))) (al (al (ak (C:=_) oz) (ak (C:=_) Cu)) (al (ak (C:=_) Cv) (ak (C:=_) Ee)))) (al (al (al (ak (C:=_) Ef) (ak (C:=_) Eg)) (al (ak (C:=_) Hn) (ak (C:=_) Eh))) (al (al (ak (C:=_) Ei) (ak (C:=_) Ej)) (al (ak (C:=_) Fm) (al (ak (C:=_) Gx) (ak (C:=_) Ek)))))) (al (al (al (al (ak (C:=_) El) (ak (C:=_) Em)) (al (ak (C:=_) En) (ak (C:=_) yl))) (al (al (ak (C:=_) vS) (ak (C:=_) oA)) (al (ak (C:=_) uL) (al (ak (C:=_) rm) (ak (C:=_) xH))))) (al (al (al (ak (C:=_) um) (ak (C:=_) Cw)) (al (ak (C:=_) xI) (ak (C:=_) qP))) (al (al (ak (C:=_) oB) (ak (C:=_) pY)) (al (ak (C:=_) kS) (al (ak (C:=_) rn) (ak (C:=_) tU))))))) (al (al (al (al (al (ak (C:=_) Fo) (ak (C:=_) Fp)) (al (ak (C:=_) Gy) (ak (C:=_) A1))) (al (al (ak (C:=_) xJ) (ak (C:=_) oW)) (al (ak (C:=_) rp) (ak (C:=_) uM)))) (al (al (al (ak (C:=_) nd) (ak (C:=_) wE)) (al (ak (C:=_) Cx) (ak (C:=_) wF))) (al (al (ak (C:=_) uN) (ak (C:=_) qQ)) (al (ak (C:=_) uo) (al (ak (C:=_) ym) (ak (C:=_) zB)))))) (al (al (al (al (ak (C:=_) A2) (ak (C:=_) xK)) (al (ak (C:=_) tV) (ak (C:=_) tW))) (al (al (ak (C:=_) tX) (ak (C:=_) Ho)) (al (ak (C:=_) vT) (al (ak (C:=_) tY) (ak (C:=_) rT))))) (al (al (al (ak (C:=_) sY) (ak (C:=_) vU)) (al (ak (C:=_) rU) (ak (C:=_) tZ))) (al (al (ak (C:=_) ua) (ak (C:=_) rV)) (al (ak (C:=_) vt) (al (ak (C:=_) uq) (ak (C:=_) ur)))))))))
theorem SL:∀ f d af,SK f=some (d,af)→Qi Tryz.prog G0 f (d,af):=fun f d af h=>by
 unfold SK at h
 revert h
 exact (ak (C:=_) wG)
end
section
open Go.Proofs
def SM(g:FuncId)(xs:List AV)(H:List ag):Option Out:=
 match xs with
 |[.str s,.int .u8 c]=>bif Nat.beq g ep then some (.ret (.int .i64 (Lib.countByte s c.toNat.toUInt8:Nat)),H)
  else bif Nat.beq g dy then some (.ret (.int .i64 (Lib.indexByte s c.toNat.toUInt8)),H)
  else none
 |[.int .i64 (.ofNat n)]=>bif Nat.beq g dF&&Nat.ble n 281474976710656 then some (.ret (.rslice H.length 0 n 1 true),H++[.cells (List.replicate n .unk) 5]) else none
 |[.fn _ _ _]=>none
 |[x]=>bif Nat.beq g hZ then some (.ret x,H) else none
 |_=>none
theorem Ue:B2 Tryz.prog ep Extern.BytealgCount.count:=.of Tryz.func185 (by kernel_rfl) (by kernel_rfl) (by kernel_rfl) (by kernel_rfl)
theorem Uf:B2 Tryz.prog dy Extern.BytealgIndexByte.indexByte:=.of Tryz.func210 (by kernel_rfl) (by kernel_rfl) (by kernel_rfl) (by kernel_rfl)
theorem Vj:B2 Tryz.prog hZ Extern.AbiNoEscape.same:=.of Tryz.func192 (by kernel_rfl) (by kernel_rfl) (by kernel_rfl) (by kernel_rfl)
theorem SN:B2 Tryz.prog dF (Extern.BytealgMakeNoZero.makeNoZero #[3] #[158]):=.of Tryz.func209 (by kernel_rfl) (by kernel_rfl) (by kernel_rfl) (by kernel_rfl)
theorem Ri:Tryz.prog.underlying 158=some (.slice 5):=by kernel_rfl
theorem Qn{g:FuncId}{xs:List AV}{H H':List ag}{r:wg}(h:SM g xs H=some (r,H')):ff Tryz.prog G0 g xs H fun r2 H2=>r2=r∧H2=H':=by
 unfold SM at h
 split at h
 ·rename_i s c
  cases h1:Nat.beq g ep with
  |true=>rw [h1] at h;cases h;rw [Nat.eq_of_beq_eq_true h1];exact Rc Ue s c H
  |false=>
   rw [h1,cond_false] at h
   cases h2:Nat.beq g dy with
   |true=>rw [h2] at h;cases h;rw [Nat.eq_of_beq_eq_true h2];exact Re Uf s c H
   |false=>rw [h2] at h;cases h
 ·rename_i n
  cases h1:(Nat.beq g dF&&Nat.ble n 281474976710656) with
  |true=>
   rw [h1] at h;cases h
   simp only [Bool.and_eq_true] at h1
   rw [Nat.eq_of_beq_eq_true h1.1];exact Pc SN Ri n (Nat.le_of_ble_eq_true h1.2) H
  |false=>rw [h1] at h;cases h
 ·cases h
 ·rename_i x _ _
  cases h1:Nat.beq g hZ with
  |true=>rw [h1] at h;cases h;rw [Nat.eq_of_beq_eq_true h1];exact SE Vj x H
  |false=>rw [h1] at h;cases h
 ·cases h
theorem Qo:Tryz.prog.follows .mixedOrders=true:=by kernel_rfl
theorem g0:∀ (n g:Nat) (cs:List AV),G0 g=some cs→wkbL n cs=true:=fun _ _ _ h=>by cases h
noncomputable def E0:bP := { P:=Tryz.prog,G:=G0,fn:=Vi,orc:=SM,dfn:=SK }
theorem Qp:E0.Ok:=⟨Qo,fun f af h=>Ud f af h,fun f d af h=>SL f d af h,(fun _ _ _ _ _ h=>by cases h),fun _ _ _ _ _ h=>Qn h⟩
noncomputable def E1:bP := { E0 with wo:=woK E0 100000 }
theorem t1:LF E1 100000 w8 [.str [48]] []=some (.int .i64 0):=by kernel_rfl
theorem t2:LF E1 100000 lJ [.str [48,50,48],.str [48]] []=some (.int .i64 2):=by kernel_rfl
end
section
open Go.Proofs
theorem Ug:∀ f args H,E0.wo f args H=none:=fun _ _ _=>rfl
def ps0:List ti:=[]
theorem ok0:∀ p∈ps0,p.Ok E0.P E0.G:=fun p h=>by cases h
def p1:ti:=⟨46,[(.agg [(.str [97,101,105,111,117]),(.slice (.own 9) 2 [[(.str [110,117,109]),(.rslice 7 2 2 1 true)]]),(.rslice 26 0 2 2 true),(.rslice 53 0 4 4 true),(.slice (.own 57) 4 [[(.str [121,43]),(.str [105,43,101]),(.str [67]),(.str [115])],[(.str [110,43]),(.str [110,110,43]),(.str [86]),(.str [101,100])]]),(.slice (.own 65) 3 [[(.str [110,111,117,110]),(.str []),(.slice .any 2 [[(.str [110,117,109]),(.str [115,103])]])]])])],(dd 7 ([.cells [(.str [116,114,97,105,116]),(.str [110,117,109]),(.str [115,103]),(.str [112,108])] 9]++(dd 1 ([.tok 2 72]++(dd 7 ([.tok 2 60,.tok 8 77]++(dd 3 ([.tok 2 60]++(dd 3 ([.cells [(.str [110,111,117,110]),(.slice (.own 18) 4 [[(.int .i64 0),(.str []),(.str []),(.slice .any 2 [[(.str [110,117,109]),(.str [115,103])]])],[(.int .i64 0),(.str []),(.str [115]),(.slice .any 2 [[(.str [110,117,109]),(.str [112,108])]])]]),(.str [118,101,114,98]),(.slice (.own 30) 4 [[(.int .i64 0),(.str []),(.str []),(.slice .nil 2 [])],[(.int .i64 0),(.str []),(.str [101,100]),(.slice .nil 2 [])]])] 75]++(dd 3 ([.tok 8 77]++(dd 18 ([.tok 2 82]++(dd 3 ([.cells [(.str [99,105,116,121]),(.str [110,111,117,110]),(.slice .nil 2 []),(.slice .nil 2 []),(.str [99,97,114]),(.str [110,111,117,110]),(.slice .nil 2 []),(.slice .nil 2 []),(.str [98,117,115]),(.str [110,111,117,110]),(.slice .nil 2 []),(.slice (.own 49) 2 [[(.int .i64 1),(.str [98,117,115,101,115])]]),(.str [112,108,97,110]),(.str [118,101,114,98]),(.slice .nil 2 []),(.slice .nil 2 [])] 80]++(dd 3 ([.tok 8 62]++(dd 6 [.tok 2 60,.tok 3 84]))))))))))))))))))),(.int .u8 0)⟩
def ps1:List ti:=p1::ps0
theorem ok1:∀ p∈ps1,p.Ok E0.P E0.G:=C6 Qp g0 ok0 Ug (by kernel_rfl)
def p2:ti:=⟨23,[(.str [118,111,119,101,108,115,32,97,101,105,111,117,10,116,114,97,105,116,32,110,117,109,32,115,103,32,112,108,10,99,108,97,115,115,32,110,111,117,110,10,115,108,111,116,32,48,32,45,32,45,32,110,117,109,61,115,103,10,115,108,111,116,32,48,32,45,32,115,32,110,117,109,61,112,108,10,99,108,97,115,115,32,118,101,114,98,10,115,108,111,116,32,48,32,45,32,45,10,115,108,111,116,32,48,32,45,32,101,100,10,101,110,116,114,121,32,99,105,116,121,32,110,111,117,110,10,101,110,116,114,121,32,99,97,114,32,110,111,117,110,10,101,110,116,114,121,32,98,117,115,32,110,111,117,110,10,102,111,114,109,32,49,32,98,117,115,101,115,10,101,110,116,114,121,32,112,108,97,110,32,118,101,114,98,10,115,112,101,108,108,32,121,43,32,105,43,101,32,67,32,115,10,115,112,101,108,108,32,110,43,32,110,110,43,32,86,32,101,100,10,108,105,110,107,32,110,111,117,110,32,45,32,110,117,109,61,115,103,10])],[],(.tuple [(.agg [(.str [97,101,105,111,117]),(.slice .any 2 [[(.str [110,117,109]),(.slice .any 1 [[(.str [115,103])],[(.str [112,108])]])]]),(.slice .any 2 [[(.str [110,111,117,110]),(.slice .any 4 [[(.int .i64 0),(.str []),(.str []),(.slice .any 2 [[(.str [110,117,109]),(.str [115,103])]])],[(.int .i64 0),(.str []),(.str [115]),(.slice .any 2 [[(.str [110,117,109]),(.str [112,108])]])]])],[(.str [118,101,114,98]),(.slice .any 4 [[(.int .i64 0),(.str []),(.str []),(.slice .nil 2 [])],[(.int .i64 0),(.str []),(.str [101,100]),(.slice .nil 2 [])]])]]),(.slice .any 4 [[(.str [99,105,116,121]),(.str [110,111,117,110]),(.slice .nil 2 []),(.slice .nil 2 [])],[(.str [99,97,114]),(.str [110,111,117,110]),(.slice .nil 2 []),(.slice .nil 2 [])],[(.str [98,117,115]),(.str [110,111,117,110]),(.slice .nil 2 []),(.slice .any 2 [[(.int .i64 1),(.str [98,117,115,101,115])]])],[(.str [112,108,97,110]),(.str [118,101,114,98]),(.slice .nil 2 []),(.slice .nil 2 [])]]),(.slice .any 4 [[(.str [121,43]),(.str [105,43,101]),(.str [67]),(.str [115])],[(.str [110,43]),(.str [110,110,43]),(.str [86]),(.str [101,100])]]),(.slice .any 3 [[(.str [110,111,117,110]),(.str []),(.slice .any 2 [[(.str [110,117,109]),(.str [115,103])]])]])]),(.int .i64 0),(.int .u8 0)])⟩
def ps2:List ti:=p2::ps1
theorem ok2:∀ p∈ps2,p.Ok E0.P E0.G:=C6 Qp g0 ok1 Ug (by kernel_rfl)
def p3:ti:=⟨46,[(.agg [(.str [97,101,105,111,117]),(.slice .any 2 [[(.str [110,117,109]),(.slice .any 1 [[(.str [115,103])],[(.str [112,108])]])]]),(.slice .any 2 [[(.str [110,111,117,110]),(.slice .any 4 [[(.int .i64 0),(.str []),(.str []),(.slice .any 2 [[(.str [110,117,109]),(.str [115,103])]])],[(.int .i64 0),(.str []),(.str [115]),(.slice .any 2 [[(.str [110,117,109]),(.str [112,108])]])]])],[(.str [118,101,114,98]),(.slice .any 4 [[(.int .i64 0),(.str []),(.str []),(.slice .nil 2 [])],[(.int .i64 0),(.str []),(.str [101,100]),(.slice .nil 2 [])]])]]),(.slice .any 4 [[(.str [99,105,116,121]),(.str [110,111,117,110]),(.slice .nil 2 []),(.slice .nil 2 [])],[(.str [99,97,114]),(.str [110,111,117,110]),(.slice .nil 2 []),(.slice .nil 2 [])],[(.str [98,117,115]),(.str [110,111,117,110]),(.slice .nil 2 []),(.slice .any 2 [[(.int .i64 1),(.str [98,117,115,101,115])]])],[(.str [112,108,97,110]),(.str [118,101,114,98]),(.slice .nil 2 []),(.slice .nil 2 [])]]),(.slice .any 4 [[(.str [121,43]),(.str [105,43,101]),(.str [67]),(.str [115])],[(.str [110,43]),(.str [110,110,43]),(.str [86]),(.str [101,100])]]),(.slice .any 3 [[(.str [110,111,117,110]),(.str []),(.slice .any 2 [[(.str [110,117,109]),(.str [115,103])]])]])])],[],(.int .u8 0)⟩
def ps3:List ti:=p3::ps2
theorem ok3:∀ p∈ps3,p.Ok E0.P E0.G:=C6 Qp g0 ok2 Ug (by kernel_rfl)
theorem Rj:LF (EP E0 ps3) 1000000 fg [] []=some (.bool true):=by kernel_rfl
theorem SO(H:List ag):ff Tryz.prog G0 fg [] H fun r H'=>r = .ret (.bool true)∧H'=H:=NO (UH Qp g0 ok3 Ug) g0 Rj rfl
end
section
attribute [local congr] aS wO aT bC bk aU aI aJ bm bn
variable{E:bP}(M:dV ei E)
def jt(c:UInt8):Bool:=decide (97≤(c.toNat:Int))&&decide ((c.toNat:Int)≤122)
theorem oC(h:E.fn cM=some gF)(c:UInt8)(H:List ag):M.run cM [.int .u8 c.toNat] H=some (.ret (.bool (jt c)),H):=by
 rw [aK M h rfl (c:=xj) rfl,xj]
 simp +contextual -implicitDefEqProofs only [am1 M,am2,am3,am4,↓ah,Nat.reduceBEq,Nat.reduceAdd,env,ao,(show gF.res=[.t 2] from rfl),(show gF.mode = .drop from rfl),(show gF.dfr=none from rfl),beq_true,beq_false,Bool.and_true,Bool.true_and,Bool.and_false,Bool.false_and,jt]
theorem Fq(h:E.fn fQ=some eP)(c:UInt8)(H:List ag):M.run fQ [.int .u8 c.toNat] H=some (.ret (.bool (jt c)),H):=by
 rw [aK M h rfl (c:=oo) rfl,oo]
 simp +contextual -implicitDefEqProofs only [am1 M,am2,am3,am4,↓ah,Nat.reduceBEq,Nat.reduceAdd,env,ao,(show eP.res=[.t 2] from rfl),(show eP.mode = .drop from rfl),(show eP.dfr=none from rfl),beq_true,beq_false,Bool.and_true,Bool.true_and,Bool.and_false,Bool.false_and,jt]
def NS(c:UInt8):Bool:=decide (33≤(c.toNat:Int))&&decide ((c.toNat:Int)≤126)
theorem Rk(h:E.fn qs=some jJ)(c:UInt8)(H:List ag):M.run qs [.int .u8 c.toNat] H=some (.ret (.bool (NS c)),H):=by
 rw [aK M h rfl (c:=xl) rfl,xl]
 simp +contextual -implicitDefEqProofs only [am1 M,am2,am3,am4,↓ah,Nat.reduceBEq,Nat.reduceAdd,env,ao,(show jJ.res=[.t 2] from rfl),(show jJ.mode = .drop from rfl),(show jJ.dfr=none from rfl),beq_true,beq_false,Bool.and_true,Bool.true_and,Bool.and_false,Bool.false_and,NS]
def IN(c:UInt8):Bool:=decide (65≤(c.toNat:Int))&&decide ((c.toNat:Int)≤90)
def SP(c:UInt8):Bool:=decide (48≤(c.toNat:Int))&&decide ((c.toNat:Int)≤57)
theorem Hp(hl:E.fn cM=some gF)(h:E.fn gD=some iW)(c:UInt8)(H:List ag):M.run gD [.int .u8 c.toNat] H=some (.ret (.bool (jt c||IN c)),H):=by
 rw [aK M h rfl (c:=xi) rfl,xi]
 simp +contextual -implicitDefEqProofs only [am1 M,am2,am3,am4,↓ah,Nat.reduceBEq,Nat.reduceAdd,env,ao,(show iW.res=[.t 2] from rfl),(show iW.mode = .drop from rfl),(show iW.dfr=none from rfl),beq_true,beq_false,Bool.and_true,Bool.true_and,Bool.and_false,Bool.false_and,oC M hl]
 cases jt c<;>simp [sel,IN]
end
section
attribute [local congr] aS wO aT bC bk aU aI aJ bm bn
variable{E:bP}(M:dV ei E)
theorem Rl(hl:E.fn cM=some gF)(h1:E.fn gD=some iW)(h:E.fn mH=some jI)(c:UInt8){H:List ag}{T:TypeId} :
  M.run mH [.int .u8 c.toNat,.ptr H.length 0] (H++[.cells [.fn (.func gD) [] []] T])=some (.ret (.bool (jt c||IN c||SP c||((c.toNat:Int) == 95))),H++[.cells [.fn (.func gD) [] []] T]):=by
 rw [aK M h rfl (c:=xk) rfl,xk]
 simp +contextual -implicitDefEqProofs only [am1 M,am2,am3,am4,↓ah,Nat.reduceBEq,Nat.reduceAdd,env,ao,(show jI.res=[.t 3] from rfl),(show jI.mode = .drop from rfl),(show jI.dfr=none from rfl),beq_true,beq_false,Bool.and_true,Bool.true_and,Bool.and_false,Bool.false_and,Hp M hl h1,List.nil_append,List.append_nil]
 rw [show H.length+1=(H++[ag.cells [AV.fn (Fn.func gD) [] []] T]).length by simp,List.take_length]
 rfl
theorem NT{g:Nat}{fr cap:List AV}{p:UInt8→Bool}{s:List UInt8}(hs:s.length≤aZ){H:List ag}(hp:∀ c:UInt8,M.run g (fr ++ .int .u8 c.toNat::cap) H=some (.ret (.bool (p c)),H))
  {H0:List ag} (hc:bU H0 H) (k:List Fra):∀ (n i:Nat) (He:List ag),i+n=s.length →
  M.go fe H0 (.c rH :: .lp ⟨some [0,1,7,8],[],false⟩ rH He :: .blk 0 :: .c (.lv [])::k) (kv [(0,.str s),(1,.fn (.func g) fr cap),(7,.int .i64 s.length),(8,.int .i64 i)]) H =
   sel ((s.drop i).all p) (M.go fe H0 k .leaf H) (some (.ret (.bool false),H.take H0.length))
 |0,i,He,h=>by
  have e:i=s.length:=by omega
  subst e
  rw [aq M rH.eq_1]
  simp +contextual -implicitDefEqProofs only [am1 M,am2,am3,am4,↓ah,Nat.reduceBEq,Nat.reduceAdd,(show fe.res=[.t 4] from rfl),(show fe.mode = .drop from rfl),(show fe.dfr=none from rfl),beq_true,beq_false,decide_true,decide_false,Nat.lt_irrefl,List.drop_length,List.all_nil]
 |n+1,i,He,h=>by
  have hi:i<s.length:=by omega
  have hx:s[i]?=some s[i]:=List.getElem?_eq_getElem hi
  have hd:(s.drop i)=s[i]::s.drop (i+1):=List.drop_eq_getElem_cons hi
  have ih:=NT hs hp hc k n (i+1) H (by omega)
  simp only [kv_cons,kv_nil] at ih
  rw [aq M rH.eq_1]
  simp +contextual -implicitDefEqProofs only [am1 M,am2,am3,am4,↓ah,Nat.reduceBEq,Nat.reduceAdd,(show fe.res=[.t 4] from rfl),(show fe.mode = .drop from rfl),(show fe.dfr=none from rfl),beq_true,beq_false,decide_true,decide_false,hx,hp,bt hi hs,hi,hc,ih,hd,List.all_cons]
theorem IY(hf:E.fn qq=some fe){g:Nat}{fr cap:List AV}{p:UInt8→Bool}{s:List UInt8}(hs:s.length≤aZ){H:List ag}(hp:∀ c:UInt8,M.run g (fr ++ .int .u8 c.toNat::cap) H=some (.ret (.bool (p c)),H)) :
  M.run qq [.str s,.fn (.func g) fr cap] H=some (.ret (.bool (s.all p)),H):=by
 rw [aK M hf rfl (c:=Dc) rfl,Dc]
 have hl:=fun k He=>NT M hs hp (cut_refl H) k s.length 0 He (by omega)
 simp only [kv_cons,kv_nil,Int.ofNat_zero,List.drop_zero] at hl
 simp +contextual -implicitDefEqProofs only [am1 M,am2,am3,am4,↓ah,Nat.reduceBEq,Nat.reduceAdd,env,ao,(show fe.res=[.t 4] from rfl),(show fe.mode = .drop from rfl),(show fe.dfr=none from rfl),hl]
 rw [Bool.and_true]
structure bq (E:bP):Prop where
 letter:E.fn cM=some gF
 Letter:E.fn fQ=some eP
 name1:E.fn gD=some iW
 name2:E.fn mH=some jI
 word1:E.fn qs=some jJ
 all:E.fn qq=some fe
 name:E.fn tk=some jz
 word:E.fn Bu=some nR
 plain:E.fn uZ=some mb
 rname:E.fn jE=some bG
 rword:E.fn qv=some bH
 rplain:E.fn jo=some gC
 rof:E.fn cZ=some aW
def LI(s:List UInt8):Bool:=decide (1≤(s.length:Int))&&decide ((s.length:Int)≤24)&&s.all NS
theorem SQ(hE:bq E){s:List UInt8}(hs:s.length≤aZ)(H:List ag):M.run Bu [.str s] H=some (.ret (.bool (LI s)),H):=by
 rw [aK M hE.word rfl (c:=Bz) rfl,Bz]
 have ha:=IY M hE.all (g:=qs) (fr:=[]) (cap:=[]) hs (H:=H) (fun c=>Rk M hE.word1 c H)
 simp +contextual -implicitDefEqProofs only [am1 M,am2,am3,am4,↓ah,Nat.reduceBEq,Nat.reduceAdd,env,ao,beq_true,beq_false,decide_true,decide_false,Bool.and_true,Bool.true_and,Bool.and_false,Bool.false_and,List.nil_append,List.append_nil,(show nR.res=[.t 2] from rfl),(show nR.mode = .drop from rfl),(show nR.dfr=none from rfl),ha,LI]
def xL(s:List UInt8):Bool:=LI s&&s.all jt
theorem Hq(hE:bq E){s:List UInt8}(hs:s.length≤aZ)(H:List ag):M.run uZ [.str s] H=some (.ret (.bool (xL s)),H):=by
 rw [aK M hE.plain rfl (c:=zl) rfl,zl]
 have ha:=IY M hE.all (g:=cM) (fr:=[]) (cap:=[]) hs (H:=H) (fun c=>oC M hE.letter c H)
 simp +contextual -implicitDefEqProofs only [am1 M,am2,am3,am4,↓ah,Nat.reduceBEq,Nat.reduceAdd,env,ao,beq_true,beq_false,decide_true,decide_false,Bool.and_true,Bool.true_and,Bool.and_false,Bool.false_and,List.nil_append,List.append_nil,(show mb.res=[.t 2] from rfl),(show mb.mode = .drop from rfl),(show mb.dfr=none from rfl),ha,SQ M hE hs,xL]
end
section
attribute [local congr] aS wO aT bC bk aU aI aJ bm bn
variable{E:bP}(M:dV ei E)
def Pj(c:UInt8):Bool:=jt c||IN c||SP c||((c.toNat:Int) == 95)
def EO(s:List UInt8):Bool:=match s with
 |[]=>false
 |c::t=>decide ((((c::t).length:Nat):Int)≤12)&&(jt c||IN c)&&(c::t).all Pj
theorem JT(hE:bq E){s:List UInt8}(hs:s.length≤aZ)(H:List ag):M.run tk [.str s] H=some (.ret (.bool (EO s)),H):=by
 rw [aK M hE.name rfl (c:=By) rfl,By]
 have h2:∀ (T:TypeId) (c:UInt8),M.run mH ([] ++ .int .u8 c.toNat::[.ptr H.length 0]) (H++[.cells [.fn (.func gD) [] []] T])=some (.ret (.bool (Pj c)),H++[.cells [.fn (.func gD) [] []] T]):=fun T c=>Rl M hE.letter hE.name1 hE.name2 c
 have ha:=fun T=>IY M hE.all (g:=mH) (fr:=[]) (cap:=[.ptr H.length 0]) hs (h2 T)
 cases s with
 |nil=>
  simp +contextual -implicitDefEqProofs only [am1 M,am2,am3,am4,am5,setRow_nil,setRow_cons,List.set_cons_zero,List.length_cons,List.length_nil,Nat.zero_add,Nat.le_refl,List.all_cons,List.all_nil,AV.cell,List.cons_append,↓ah,Nat.reduceBEq,Nat.reduceAdd,env,ao,beq_true,beq_false,decide_true,decide_false,Bool.and_true,Bool.true_and,Bool.and_false,Bool.false_and,List.nil_append,List.append_nil,(show jz.res=[.t 2] from rfl),(show jz.mode = .drop from rfl),(show jz.dfr=none from rfl),ha,Hp M hE.letter hE.name1,EO,List.length_nil,List.getElem?_nil,(show decide ((1:Int)≤((0:Nat):Int))=false from rfl)]
 |cons c t=>
  have hlen:decide ((1:Int)≤((t.length+1:Nat):Int))=true:=decide_eq_true (by omega)
  simp +contextual -implicitDefEqProofs only [am1 M,am2,am3,am4,am5,setRow_nil,setRow_cons,List.set_cons_zero,List.length_cons,List.length_nil,Nat.zero_add,Nat.le_refl,List.all_cons,List.all_nil,AV.cell,List.cons_append,↓ah,Nat.reduceBEq,Nat.reduceAdd,env,ao,beq_true,beq_false,decide_true,decide_false,Bool.and_true,Bool.true_and,Bool.and_false,Bool.false_and,List.nil_append,List.append_nil,(show jz.res=[.t 2] from rfl),(show jz.mode = .drop from rfl),(show jz.dfr=none from rfl),ha,Hp M hE.letter hE.name1,EO,List.getElem?_cons_zero,hlen]
end
section
attribute [local congr] aS wO aT bC bk aU aI aJ bm bn
variable{E:bP}(M:dV ei E)
def IZ(c:UInt8):Bool:=decide ((c.toNat:Int)<33)||decide (126<(c.toNat:Int))
theorem Rm:(fun c => !IZ c)=NS:=by
 funext c
 rw [Bool.eq_iff_iff]
 simp [IZ,NS]
theorem JU{s:List UInt8}(hs:s.length≤aZ){H H0:List ag}(hc:bU H0 H)(k:List Fra):∀ (n i:Nat) (He:List ag),i+n=s.length →
  M.go bH H0 (.c jc :: .lp ⟨some [0,3],[],false⟩ jc He :: .blk 0 :: .c (.lv [])::k) (kv [(0,.str s),(3,.int .i64 i)]) H =
   sel ((s.drop i).all fun c => !IZ c) (M.go bH H0 k .leaf H) (some (.ret (.bool false),H.take H0.length))
 |0,i,He,h=>by
  have e:i=s.length:=by omega
  subst e
  rw [aq M jc.eq_1]
  simp +contextual -implicitDefEqProofs only [am1 M,am2,am3,am4,↓ah,Nat.reduceBEq,Nat.reduceAdd,(show bH.res=[.t 2] from rfl),(show bH.mode = .drop from rfl),(show bH.dfr=none from rfl),beq_true,beq_false,decide_true,decide_false,Nat.lt_irrefl,List.drop_length,List.all_nil]
 |n+1,i,He,h=>by
  have hi:i<s.length:=by omega
  have hx:s[i]?=some s[i]:=List.getElem?_eq_getElem hi
  have hd:(s.drop i)=s[i]::s.drop (i+1):=List.drop_eq_getElem_cons hi
  have ih:=JU hs hc k n (i+1) H (by omega)
  simp only [kv_cons,kv_nil] at ih
  rw [aq M jc.eq_1]
  simp +contextual -implicitDefEqProofs only [am1 M,am2,am3,am4,↓ah,Nat.reduceBEq,Nat.reduceAdd,(show bH.res=[.t 2] from rfl),(show bH.mode = .drop from rfl),(show bH.dfr=none from rfl),beq_true,beq_false,decide_true,decide_false,hx,bt hi hs,hi,hc,ih,hd,List.all_cons,IZ]
  generalize (decide ((s[i].toNat:Int)<33)||decide ((126:Int)<(s[i].toNat:Int)))=b
  cases b<;>simp only [sel,Bool.not_false,Bool.not_true,Bool.true_and,Bool.false_and]
theorem Rn(hE:bq E){s:List UInt8}(hs:s.length≤aZ)(H:List ag):M.run qv [.str s] H=some (.ret (.bool (LI s)),H):=by
 rw [aK M hE.rword rfl (c:=qC) rfl,qC]
 have hl:=fun k He=>JU M hs (cut_refl H) k s.length 0 He (by omega)
 simp only [kv_cons,kv_nil,Int.ofNat_zero,List.drop_zero] at hl
 simp +contextual -implicitDefEqProofs only [am1 M,am2,am3,am4,↓ah,Nat.reduceBEq,Nat.reduceAdd,env,ao,(show bH.res=[.t 2] from rfl),(show bH.mode = .drop from rfl),(show bH.dfr=none from rfl),beq_true,beq_false,decide_true,decide_false,hl]
 rw [Bool.and_true,Rm,LI]
 have e:(!(decide ((s.length:Int)<1)||decide ((24:Int)<(s.length:Int))))=(decide ((1:Int)≤(s.length:Int))&&decide ((s.length:Int)≤24)):=by
  rw [Bool.eq_iff_iff];simp
 rw [e]
theorem Pk(hE:bq E){s:List UInt8}(hs:s.length≤aZ)(H:List ag)(hof:M.run cZ [.str s,.str []] H=some (.ret (.bool (s.all jt)),H)):M.run jo [.str s] H=some (.ret (.bool (xL s)),H):=by
 rw [aK M hE.rplain rfl (c:=pR) rfl,pR]
 simp +contextual -implicitDefEqProofs only [am1 M,am2,am3,am4,↓ah,Nat.reduceBEq,Nat.reduceAdd,env,ao,(show gC.res=[.t 2] from rfl),(show gC.mode = .drop from rfl),(show gC.dfr=none from rfl),beq_true,beq_false,decide_true,decide_false,Bool.and_true,Bool.true_and,Bool.and_false,Bool.false_and,List.nil_append,List.append_nil,Rn M hE hs,hof,xL]
end
section
attribute [local congr] aS wO aT bC bk aU aI aJ bm bn
variable{E:bP}(M:dV ei E)
theorem UI{s more:List UInt8}(hs:s.length≤aZ)(hm:more.length≤aZ){j:Nat}(hj:j<s.length){H H0:List ag}(k:List Fra):∀ (n i:Nat) (b:Bool) (He:List ag),i+n=more.length →
  M.go aW H0 (.c jK :: .lp ⟨some [0,1,5,6,7],[],false⟩ jK He :: .blk 2 :: .c (.lv [0,1,5,6])::k) (kv [(0,.str s),(1,.str more),(5,.int .i64 j),(6,.bool b),(7,.int .i64 i)]) H =
   M.go aW H0 k (kv [(0,.str s),(1,.str more),(5,.int .i64 j),(6,.bool (b||(more.drop i).any fun c=>((s[j].toNat:Int) == (c.toNat:Int))))]) H
 |0,i,b,He,h=>by
  have e:i=more.length:=by omega
  subst e
  rw [aq M jK.eq_1]
  simp +contextual -implicitDefEqProofs only [am1 M,am2,am3,am4,am5,↓ah,Nat.reduceBEq,Nat.reduceAdd,(show aW.res=[.t 4] from rfl),(show aW.mode = .drop from rfl),(show aW.dfr=none from rfl),beq_true,beq_false,decide_true,decide_false,Nat.lt_irrefl,List.drop_length,List.any_nil,Bool.or_false]
 |n+1,i,b,He,h=>by
  have hi:i<more.length:=by omega
  have hx:more[i]?=some more[i]:=List.getElem?_eq_getElem hi
  have hxj:s[j]?=some s[j]:=List.getElem?_eq_getElem hj
  have hd:(more.drop i)=more[i]::more.drop (i+1):=List.drop_eq_getElem_cons hi
  have ih:=fun b=>UI hs hm hj (H:=H) (H0:=H0) k n (i+1) b H (by omega)
  simp only [kv_cons,kv_nil] at ih
  rw [aq M jK.eq_1]
  simp +contextual -implicitDefEqProofs only [am1 M,am2,am3,am4,am5,↓ah,Nat.reduceBEq,Nat.reduceAdd,(show aW.res=[.t 4] from rfl),(show aW.mode = .drop from rfl),(show aW.dfr=none from rfl),beq_true,beq_false,decide_true,decide_false,hx,hxj,bt hi hm,hi,ih,hd,List.any_cons,Bool.or_assoc]
def ofF(more:List UInt8)(s:List UInt8):Bool:=s.all fun c=>jt c||more.any fun d=>c.toNat == d.toNat
theorem SR(more:List UInt8)(c:UInt8)(l:List UInt8):ofF more (c::l)=((jt c||more.any fun d=>c.toNat == d.toNat)&&ofF more l):=by
 simp only [ofF,List.all_cons]
theorem SS(hE:bq E){s more:List UInt8}(hs:s.length≤aZ)(hm:more.length≤aZ){H H0:List ag}(hc:bU H0 H)(k:List Fra):∀ (n i:Nat) (He:List ag),i+n=s.length →
  M.go aW H0 (.c jL :: .lp ⟨some [0,1,5],[],false⟩ jL He :: .blk 0 :: .c (.lv [])::k) (kv [(0,.str s),(1,.str more),(5,.int .i64 i)]) H =
   sel (ofF more (s.drop i)) (M.go aW H0 k .leaf H) (some (.ret (.bool false),H.take H0.length))
 |0,i,He,h=>by
  have e:i=s.length:=by omega
  subst e
  rw [aq M jL.eq_1]
  simp +contextual -implicitDefEqProofs only [am1 M,am2,am3,am4,am5,↓ah,Nat.reduceBEq,Nat.reduceAdd,(show aW.res=[.t 4] from rfl),(show aW.mode = .drop from rfl),(show aW.dfr=none from rfl),beq_true,beq_false,decide_true,decide_false,Nat.lt_irrefl,List.drop_length,ofF,List.all_nil]
 |n+1,i,He,h=>by
  have hi:i<s.length:=by omega
  have hx:s[i]?=some s[i]:=List.getElem?_eq_getElem hi
  have hd:(s.drop i)=s[i]::s.drop (i+1):=List.drop_eq_getElem_cons hi
  have ih:=SS hE hs hm hc k n (i+1) H (by omega)
  have hin:=fun k b He=>UI M hs hm hi (H:=H) (H0:=H0) k more.length 0 b He (by omega)
  simp only [kv_cons,kv_nil,Int.ofNat_zero,List.drop_zero] at ih hin
  rw [aq M jL.eq_1]
  simp +contextual -implicitDefEqProofs only [am1 M,am2,am3,am4,am5,↓ah,Nat.reduceBEq,Nat.reduceAdd,(show aW.res=[.t 4] from rfl),(show aW.mode = .drop from rfl),(show aW.dfr=none from rfl),beq_true,beq_false,decide_true,decide_false,hx,bt hi hs,hi,hin,ih,hd,hc,List.nil_append,List.append_nil,Fq M hE.Letter]
  rw [SR]
theorem BI(hE:bq E){s more:List UInt8}(hs:s.length≤aZ)(hm:more.length≤aZ)(H:List ag):M.run cZ [.str s,.str more] H=some (.ret (.bool (ofF more s)),H):=by
 rw [aK M hE.rof rfl (c:=sn) rfl,sn]
 have hl:=fun k He=>SS M hE hs hm (cut_refl H) k s.length 0 He (by omega)
 simp only [kv_cons,kv_nil,Int.ofNat_zero,List.drop_zero] at hl
 simp +contextual -implicitDefEqProofs only [am1 M,am2,am3,am4,↓ah,Nat.reduceBEq,Nat.reduceAdd,env,ao,(show aW.res=[.t 4] from rfl),(show aW.mode = .drop from rfl),(show aW.dfr=none from rfl),beq_true,beq_false,decide_true,decide_false,hl,Bool.and_true]
theorem I0(s:List UInt8):ofF [] s=s.all jt:=by
 simp only [ofF,List.any_nil,Bool.or_false]
theorem yS(hE:bq E){s:List UInt8}(hs:s.length≤aZ)(H:List ag):M.run jo [.str s] H=some (.ret (.bool (xL s)),H):=
 Pk M hE hs H (by rw [BI M hE hs (by simp) H,I0])
end
section
attribute [local congr] aS wO aT bC bk aU aI aJ bm bn
variable{E:bP}(M:dV ei E)
def Pm(i:Nat)(c:UInt8):Bool := !jt c && !IN c&&(((i:Int) == 0)||(!SP c && !((c.toNat:Int) == 95)))
def okR:Nat→List UInt8→Bool
 |_,[]=>true
 |i,c::l => !Pm i c&&okR (i+1) l
theorem JV(hE:bq E){s:List UInt8}(hs:s.length≤aZ){H H0:List ag}(hc:bU H0 H)(k:List Fra):∀ (n i:Nat) (He:List ag),i+n=s.length →
  M.go bG H0 (.c i7 :: .lp ⟨some [0,3],[],false⟩ i7 He :: .blk 0 :: .c (.lv [])::k) (kv [(0,.str s),(3,.int .i64 i)]) H =
   sel (okR i (s.drop i)) (M.go bG H0 k .leaf H) (some (.ret (.bool false),H.take H0.length))
 |0,i,He,h=>by
  have e:i=s.length:=by omega
  subst e
  rw [aq M i7.eq_1]
  simp +contextual -implicitDefEqProofs only [am1 M,am2,am3,am4,↓ah,Nat.reduceBEq,Nat.reduceAdd,(show bG.res=[.t 2] from rfl),(show bG.mode = .drop from rfl),(show bG.dfr=none from rfl),beq_true,beq_false,decide_true,decide_false,Nat.lt_irrefl,List.drop_length,okR]
 |n+1,i,He,h=>by
  have hi:i<s.length:=by omega
  have hx:s[i]?=some s[i]:=List.getElem?_eq_getElem hi
  have hd:(s.drop i)=s[i]::s.drop (i+1):=List.drop_eq_getElem_cons hi
  have ih:=JV hE hs hc k n (i+1) H (by omega)
  simp only [kv_cons,kv_nil] at ih
  rw [aq M i7.eq_1]
  simp (maxSteps:=3000000) +contextual -implicitDefEqProofs only [am1 M,am2,am3,am4,↓ah,Nat.reduceBEq,Nat.reduceAdd,(show bG.res=[.t 2] from rfl),(show bG.mode = .drop from rfl),(show bG.dfr=none from rfl),beq_true,beq_false,decide_true,decide_false,hx,bt hi hs,hi,hc,ih,hd,okR,List.nil_append,List.append_nil,Fq M hE.Letter]
  change sel (Pm i s[i]) _ _=_
  generalize Pm i s[i]=b
  cases b<;>simp only [sel,Bool.not_false,Bool.not_true,Bool.true_and,Bool.false_and]
theorem Ro(i:Nat)(c:UInt8):Pm (i+1) c = !Pj c:=by
 have h:(((i+1:Nat):Int) == 0)=false:=by simp;omega
 unfold Pm Pj
 rw [h]
 cases jt c<;>cases IN c<;>cases SP c<;>cases ((c.toNat:Int) == 95)<;>rfl
theorem NU:∀ (l:List UInt8) (i:Nat),okR (i+1) l=l.all Pj
 |[],_=>rfl
 |c::l,i=>by rw [okR,NU l,Ro,Bool.not_not,List.all_cons]
theorem SU(c:UInt8)(l:List UInt8):okR 0 (c::l)=((jt c||IN c)&&(c::l).all Pj):=by
 rw [okR,NU,List.all_cons]
 have h:Pm 0 c = !(jt c||IN c):=by
  unfold Pm
  cases jt c<;>cases IN c<;>rfl
 have h2:∀ b:Bool,Pj c=(jt c||IN c||SP c||((c.toNat:Int) == 95)):=fun _=>rfl
 rw [h,h2 true]
 cases jt c<;>cases IN c<;>simp
theorem Hr(hE:bq E){s:List UInt8}(hs:s.length≤aZ)(H:List ag):M.run jE [.str s] H=some (.ret (.bool (EO s)),H):=by
 rw [aK M hE.rname rfl (c:=qB) rfl,qB]
 have hl:=fun k He=>JV M hE hs (cut_refl H) k s.length 0 He (by omega)
 simp only [kv_cons,kv_nil,Int.ofNat_zero,List.drop_zero] at hl
 simp +contextual -implicitDefEqProofs only [am1 M,am2,am3,am4,↓ah,Nat.reduceBEq,Nat.reduceAdd,env,ao,(show bG.res=[.t 2] from rfl),(show bG.mode = .drop from rfl),(show bG.dfr=none from rfl),beq_true,beq_false,decide_true,decide_false,hl,Bool.and_true]
 have e:(!(decide ((s.length:Int)<1)||decide ((12:Int)<(s.length:Int)))&&okR 0 s)=EO s:=by
  cases s with
  |nil=>rfl
  |cons c t=>
   rw [SU,EO]
   have h1:decide (((c::t).length:Int)<1)=false:=decide_eq_false (by simp only [List.length_cons];omega)
   have h2:(!decide ((12:Int)<((c::t).length:Int)))=decide (((c::t).length:Int)≤12):=by
    rw [Bool.eq_iff_iff];simp
   rw [h1,Bool.false_or,h2,Bool.and_assoc]
 rw [e]
end
section
attribute [local congr] aS eF bZ aT bC bk aU aI aJ bm bn
variable{E:bP}(M:dV ei E)
def A3{α:Type}(p:α→Bool):Nat→α→Option AV:=fun i x=>sel (p x) (some (.int .i64 (i:Int))) none
def wH{α:Type}(p:α→Bool):Nat→List α→Int
 |_,[] => -1
 |i,x::l=>sel (p x) (i:Int) (wH p (i+1) l)
theorem o7{α:Type}(p:α→Bool):∀ (l:List α) (i:Nat) (H:List ag),orE (bN (A3 p) i l) H (some (.ret (.int .i64 (-1)),H))=some (.ret (.int .i64 (wH p i l)),H)
 |[],i,H=>rfl
 |x::l,i,H=>by
  rw [kH,A3,wH,Gb,DN,C8,C9,Ar,o7 p l]
  cases p x<;>rfl
theorem yT{α:Type}(p:α→Bool):∀ (l:List α) (i:Nat),decide ((0:Int)≤wH p i l)=l.any p
 |[],i=>rfl
 |x::l,i=>by
  rw [wH,List.any_cons,← yT p l (i+1)]
  cases p x with
  |true=>simp only [sel,Bool.true_or];exact decide_eq_true (by omega)
  |false=>simp only [sel,Bool.false_or];rfl
theorem LJ{H H0:List ag}{g:Nat}{fr cap:List AV}{p:bA→Bool}{tg:Tag}{l:List bA}(hs:l.length≤aZ)(hp:∀ x∈l,M.run g (fr ++ .agg (bA.row x)::cap) H=some (.ret (.bool (p x)),H))(hc:bU H0 H)(k:List Fra):∀ (n i:Nat) (He:List ag),i+n=l.length →
  M.go aG H0 (.c cA :: .lp ⟨(some [0,1,7,8]),[],false⟩ cA He :: .blk 0 :: .c (.lv [])::k) (kv [(0,.slice tg 2 (l.map bA.row)),(1,.fn (.func g) fr cap),(7,.int .i64 l.length),(8,.int .i64 i)]) H =
   orE (bN (A3 p) i (l.drop i)) (H.take H0.length) (M.go aG H0 k .leaf H)
 |0,i,He,h=>by
  have e:i=l.length:=by omega
  subst e
  rw [aq M cA.eq_1]
  simp (maxSteps:=3000000) (maxDischargeDepth:=6) +contextual -implicitDefEqProofs only [amA M,amB,↓ae,↓aa,↓aj,↓ah,Nat.reduceBEq,Nat.reduceAdd,env,ao,fK,Nat.lt_irrefl,List.drop_length]
 |n+1,i,He,h=>by
  have hi:i<l.length:=by omega
  have hx:l[i]?=some l[i]:=List.getElem?_eq_getElem hi
  have hd:(l.drop i)=l[i]::l.drop (i+1):=List.drop_eq_getElem_cons hi
  have hm:l[i]∈l:=List.getElem_mem hi
  have ih:=fun He=>LJ (H:=H) (H0:=H0) (g:=g) (fr:=fr) (cap:=cap) (p:=p) (tg:=tg) (l:=l) (hs:=hs) (hp:=hp) hc k n (i+1)  He (by omega)
  simp only [kv_cons,kv_nil] at ih
  rw [aq M cA.eq_1]
  simp (maxSteps:=3000000) (maxDischargeDepth:=6) +contextual -implicitDefEqProofs only [amA M,amB,↓ae,↓aa,↓aj,↓ah,Nat.reduceBEq,Nat.reduceAdd,env,ao,fK,hx,hd,hi,ih,hp,hm,bt hi hs,aC hi,pa,A3,hc]
theorem wb(hf:E.fn bS=some aG){g:Nat}{fr cap:List AV}{p:bA→Bool}{tg:Tag}{l:List bA}(hs:l.length≤aZ){H:List ag}
  (hp:∀ x∈l,M.run g (fr ++ .agg (bA.row x)::cap) H=some (.ret (.bool (p x)),H)) :
  M.run bS [.slice tg 2 (l.map bA.row),.fn (.func g) fr cap] H=some (.ret (.int .i64 (wH p 0 l)),H):=by
 rw [aK M hf rfl (c:=fJ) rfl,fJ]
 have hl:=fun k He=>LJ M (tg:=tg) hs hp (cut_refl H) k l.length 0 He (by omega)
 simp only [kv_cons,kv_nil,Int.ofNat_zero,List.drop_zero] at hl
 simp (maxSteps:=3000000) (maxDischargeDepth:=6) +contextual -implicitDefEqProofs only [amA M,amB,↓ae,↓aa,↓aj,↓ah,Nat.reduceBEq,Nat.reduceAdd,env,ao,fK,hl]
 exact o7 p l 0 H
theorem BJ(hf:E.fn bS=some aG)(hg:E.fn du=some a7){g:Nat}{fr cap:List AV}{p:bA→Bool}{tg:Tag}{l:List bA}(hs:l.length≤aZ){H:List ag}
  (hp:∀ x∈l,M.run g (fr ++ .agg (bA.row x)::cap) H=some (.ret (.bool (p x)),H)) :
  M.run du [.slice tg 2 (l.map bA.row),.fn (.func g) fr cap] H=some (.ret (.bool (l.any p)),H):=by
 rw [aK M hg rfl (c:=eV) rfl,eV]
 simp (maxSteps:=3000000) (maxDischargeDepth:=6) +contextual -implicitDefEqProofs only [amA M,amB,↓ae,↓aa,↓aj,↓ah,Nat.reduceBEq,Nat.reduceAdd,env,ao,oM,wb M hf hs hp,yT]
theorem LL{H H0:List ag}{g:Nat}{fr cap:List AV}{p:aV→Bool}{tg:Tag}{l:List aV}(hs:l.length≤aZ)(hp:∀ x∈l,M.run g (fr ++ .agg (aV.row x)::cap) H=some (.ret (.bool (p x)),H))(hc:bU H0 H)(k:List Fra):∀ (n i:Nat) (He:List ag),i+n=l.length →
  M.go aF H0 (.c cw :: .lp ⟨(some [0,1,7,8]),[],false⟩ cw He :: .blk 0 :: .c (.lv [])::k) (kv [(0,.slice tg 2 (l.map aV.row)),(1,.fn (.func g) fr cap),(7,.int .i64 l.length),(8,.int .i64 i)]) H =
   orE (bN (A3 p) i (l.drop i)) (H.take H0.length) (M.go aF H0 k .leaf H)
 |0,i,He,h=>by
  have e:i=l.length:=by omega
  subst e
  rw [aq M cw.eq_1]
  simp (maxSteps:=3000000) (maxDischargeDepth:=6) +contextual -implicitDefEqProofs only [amA M,amB,↓ae,↓aa,↓aj,↓ah,Nat.reduceBEq,Nat.reduceAdd,env,ao,fI,Nat.lt_irrefl,List.drop_length]
 |n+1,i,He,h=>by
  have hi:i<l.length:=by omega
  have hx:l[i]?=some l[i]:=List.getElem?_eq_getElem hi
  have hd:(l.drop i)=l[i]::l.drop (i+1):=List.drop_eq_getElem_cons hi
  have hm:l[i]∈l:=List.getElem_mem hi
  have ih:=fun He=>LL (H:=H) (H0:=H0) (g:=g) (fr:=fr) (cap:=cap) (p:=p) (tg:=tg) (l:=l) (hs:=hs) (hp:=hp) hc k n (i+1)  He (by omega)
  simp only [kv_cons,kv_nil] at ih
  rw [aq M cw.eq_1]
  simp (maxSteps:=3000000) (maxDischargeDepth:=6) +contextual -implicitDefEqProofs only [amA M,amB,↓ae,↓aa,↓aj,↓ah,Nat.reduceBEq,Nat.reduceAdd,env,ao,fI,hx,hd,hi,ih,hp,hm,bt hi hs,aC hi,gW,A3,hc]
theorem rq(hf:E.fn bR=some aF){g:Nat}{fr cap:List AV}{p:aV→Bool}{tg:Tag}{l:List aV}(hs:l.length≤aZ){H:List ag}
  (hp:∀ x∈l,M.run g (fr ++ .agg (aV.row x)::cap) H=some (.ret (.bool (p x)),H)) :
  M.run bR [.slice tg 2 (l.map aV.row),.fn (.func g) fr cap] H=some (.ret (.int .i64 (wH p 0 l)),H):=by
 rw [aK M hf rfl (c:=fH) rfl,fH]
 have hl:=fun k He=>LL M (tg:=tg) hs hp (cut_refl H) k l.length 0 He (by omega)
 simp only [kv_cons,kv_nil,Int.ofNat_zero,List.drop_zero] at hl
 simp (maxSteps:=3000000) (maxDischargeDepth:=6) +contextual -implicitDefEqProofs only [amA M,amB,↓ae,↓aa,↓aj,↓ah,Nat.reduceBEq,Nat.reduceAdd,env,ao,fI,hl]
 exact o7 p l 0 H
theorem BK(hf:E.fn bR=some aF)(hg:E.fn dv=some a8){g:Nat}{fr cap:List AV}{p:aV→Bool}{tg:Tag}{l:List aV}(hs:l.length≤aZ){H:List ag}
  (hp:∀ x∈l,M.run g (fr ++ .agg (aV.row x)::cap) H=some (.ret (.bool (p x)),H)) :
  M.run dv [.slice tg 2 (l.map aV.row),.fn (.func g) fr cap] H=some (.ret (.bool (l.any p)),H):=by
 rw [aK M hg rfl (c:=eW) rfl,eW]
 simp (maxSteps:=3000000) (maxDischargeDepth:=6) +contextual -implicitDefEqProofs only [amA M,amB,↓ae,↓aa,↓aj,↓ah,Nat.reduceBEq,Nat.reduceAdd,env,ao,oN,rq M hf hs hp,yT]
theorem LM{H H0:List ag}{g:Nat}{fr cap:List AV}{p:bQ→Bool}{tg:Tag}{l:List bQ}(hs:l.length≤aZ)(hp:∀ x∈l,M.run g (fr ++ .agg (bQ.row x)::cap) H=some (.ret (.bool (p x)),H))(hc:bU H0 H)(k:List Fra):∀ (n i:Nat) (He:List ag),i+n=l.length →
  M.go az H0 (.c bE :: .lp ⟨(some [0,1,7,8]),[],false⟩ bE He :: .blk 0 :: .c (.lv [])::k) (kv [(0,.slice tg 2 (l.map bQ.row)),(1,.fn (.func g) fr cap),(7,.int .i64 l.length),(8,.int .i64 i)]) H =
   orE (bN (A3 p) i (l.drop i)) (H.take H0.length) (M.go az H0 k .leaf H)
 |0,i,He,h=>by
  have e:i=l.length:=by omega
  subst e
  rw [aq M bE.eq_1]
  simp (maxSteps:=3000000) (maxDischargeDepth:=6) +contextual -implicitDefEqProofs only [amA M,amB,↓ae,↓aa,↓aj,↓ah,Nat.reduceBEq,Nat.reduceAdd,env,ao,eg,Nat.lt_irrefl,List.drop_length]
 |n+1,i,He,h=>by
  have hi:i<l.length:=by omega
  have hx:l[i]?=some l[i]:=List.getElem?_eq_getElem hi
  have hd:(l.drop i)=l[i]::l.drop (i+1):=List.drop_eq_getElem_cons hi
  have hm:l[i]∈l:=List.getElem_mem hi
  have ih:=fun He=>LM (H:=H) (H0:=H0) (g:=g) (fr:=fr) (cap:=cap) (p:=p) (tg:=tg) (l:=l) (hs:=hs) (hp:=hp) hc k n (i+1)  He (by omega)
  simp only [kv_cons,kv_nil] at ih
  rw [aq M bE.eq_1]
  simp (maxSteps:=3000000) (maxDischargeDepth:=6) +contextual -implicitDefEqProofs only [amA M,amB,↓ae,↓aa,↓aj,↓ah,Nat.reduceBEq,Nat.reduceAdd,env,ao,eg,hx,hd,hi,ih,hp,hm,bt hi hs,aC hi,Bt,A3,hc]
theorem Eo(hf:E.fn bJ=some az){g:Nat}{fr cap:List AV}{p:bQ→Bool}{tg:Tag}{l:List bQ}(hs:l.length≤aZ){H:List ag}
  (hp:∀ x∈l,M.run g (fr ++ .agg (bQ.row x)::cap) H=some (.ret (.bool (p x)),H)) :
  M.run bJ [.slice tg 2 (l.map bQ.row),.fn (.func g) fr cap] H=some (.ret (.int .i64 (wH p 0 l)),H):=by
 rw [aK M hf rfl (c:=ee) rfl,ee]
 have hl:=fun k He=>LM M (tg:=tg) hs hp (cut_refl H) k l.length 0 He (by omega)
 simp only [kv_cons,kv_nil,Int.ofNat_zero,List.drop_zero] at hl
 simp (maxSteps:=3000000) (maxDischargeDepth:=6) +contextual -implicitDefEqProofs only [amA M,amB,↓ae,↓aa,↓aj,↓ah,Nat.reduceBEq,Nat.reduceAdd,env,ao,eg,hl]
 exact o7 p l 0 H
theorem BM(hf:E.fn bJ=some az)(hg:E.fn cg=some aL){g:Nat}{fr cap:List AV}{p:bQ→Bool}{tg:Tag}{l:List bQ}(hs:l.length≤aZ){H:List ag}
  (hp:∀ x∈l,M.run g (fr ++ .agg (bQ.row x)::cap) H=some (.ret (.bool (p x)),H)) :
  M.run cg [.slice tg 2 (l.map bQ.row),.fn (.func g) fr cap] H=some (.ret (.bool (l.any p)),H):=by
 rw [aK M hg rfl (c:=dJ) rfl,dJ]
 simp (maxSteps:=3000000) (maxDischargeDepth:=6) +contextual -implicitDefEqProofs only [amA M,amB,↓ae,↓aa,↓aj,↓ah,Nat.reduceBEq,Nat.reduceAdd,env,ao,ln,Eo M hf hs hp,yT]
theorem LN{H H0:List ag}{g:Nat}{fr cap:List AV}{p:aQ→Bool}{tg:Tag}{l:List aQ}(hs:l.length≤aZ)(hp:∀ x∈l,M.run g (fr ++ .agg (aQ.row x)::cap) H=some (.ret (.bool (p x)),H))(hc:bU H0 H)(k:List Fra):∀ (n i:Nat) (He:List ag),i+n=l.length →
  M.go aH H0 (.c cB :: .lp ⟨(some [0,1,7,8]),[],false⟩ cB He :: .blk 0 :: .c (.lv [])::k) (kv [(0,.slice tg 4 (l.map aQ.row)),(1,.fn (.func g) fr cap),(7,.int .i64 l.length),(8,.int .i64 i)]) H =
   orE (bN (A3 p) i (l.drop i)) (H.take H0.length) (M.go aH H0 k .leaf H)
 |0,i,He,h=>by
  have e:i=l.length:=by omega
  subst e
  rw [aq M cB.eq_1]
  simp (maxSteps:=3000000) (maxDischargeDepth:=6) +contextual -implicitDefEqProofs only [amA M,amB,↓ae,↓aa,↓aj,↓ah,Nat.reduceBEq,Nat.reduceAdd,env,ao,fM,Nat.lt_irrefl,List.drop_length]
 |n+1,i,He,h=>by
  have hi:i<l.length:=by omega
  have hx:l[i]?=some l[i]:=List.getElem?_eq_getElem hi
  have hd:(l.drop i)=l[i]::l.drop (i+1):=List.drop_eq_getElem_cons hi
  have hm:l[i]∈l:=List.getElem_mem hi
  have ih:=fun He=>LN (H:=H) (H0:=H0) (g:=g) (fr:=fr) (cap:=cap) (p:=p) (tg:=tg) (l:=l) (hs:=hs) (hp:=hp) hc k n (i+1)  He (by omega)
  simp only [kv_cons,kv_nil] at ih
  rw [aq M cB.eq_1]
  simp (maxSteps:=3000000) (maxDischargeDepth:=6) +contextual -implicitDefEqProofs only [amA M,amB,↓ae,↓aa,↓aj,↓ah,Nat.reduceBEq,Nat.reduceAdd,env,ao,fM,hx,hd,hi,ih,hp,hm,bt hi hs,aC hi,dc,A3,hc]
theorem Ep(hf:E.fn cN=some aH){g:Nat}{fr cap:List AV}{p:aQ→Bool}{tg:Tag}{l:List aQ}(hs:l.length≤aZ){H:List ag}
  (hp:∀ x∈l,M.run g (fr ++ .agg (aQ.row x)::cap) H=some (.ret (.bool (p x)),H)) :
  M.run cN [.slice tg 4 (l.map aQ.row),.fn (.func g) fr cap] H=some (.ret (.int .i64 (wH p 0 l)),H):=by
 rw [aK M hf rfl (c:=fL) rfl,fL]
 have hl:=fun k He=>LN M (tg:=tg) hs hp (cut_refl H) k l.length 0 He (by omega)
 simp only [kv_cons,kv_nil,Int.ofNat_zero,List.drop_zero] at hl
 simp (maxSteps:=3000000) (maxDischargeDepth:=6) +contextual -implicitDefEqProofs only [amA M,amB,↓ae,↓aa,↓aj,↓ah,Nat.reduceBEq,Nat.reduceAdd,env,ao,fM,hl]
 exact o7 p l 0 H
theorem BN(hf:E.fn cN=some aH)(hg:E.fn dw=some ba){g:Nat}{fr cap:List AV}{p:aQ→Bool}{tg:Tag}{l:List aQ}(hs:l.length≤aZ){H:List ag}
  (hp:∀ x∈l,M.run g (fr ++ .agg (aQ.row x)::cap) H=some (.ret (.bool (p x)),H)) :
  M.run dw [.slice tg 4 (l.map aQ.row),.fn (.func g) fr cap] H=some (.ret (.bool (l.any p)),H):=by
 rw [aK M hg rfl (c:=eX) rfl,eX]
 simp (maxSteps:=3000000) (maxDischargeDepth:=6) +contextual -implicitDefEqProofs only [amA M,amB,↓ae,↓aa,↓aj,↓ah,Nat.reduceBEq,Nat.reduceAdd,env,ao,oO,Ep M hf hs hp,yT]
theorem NV{H H0:List ag}{g:Nat}{fr cap:List AV}{p:aw→Bool}{tg:Tag}{l:List aw}(hs:l.length≤aZ)(hp:∀ x∈l,M.run g (fr ++ .agg (aw.row x)::cap) H=some (.ret (.bool (p x)),H))(hc:bU H0 H)(k:List Fra):∀ (n i:Nat) (He:List ag),i+n=l.length →
  M.go aO H0 (.c cO :: .lp ⟨(some [0,1,7,8]),[],false⟩ cO He :: .blk 0 :: .c (.lv [])::k) (kv [(0,.slice tg 2 (l.map aw.row)),(1,.fn (.func g) fr cap),(7,.int .i64 l.length),(8,.int .i64 i)]) H =
   orE (bN (A3 p) i (l.drop i)) (H.take H0.length) (M.go aO H0 k .leaf H)
 |0,i,He,h=>by
  have e:i=l.length:=by omega
  subst e
  rw [aq M cO.eq_1]
  simp (maxSteps:=3000000) (maxDischargeDepth:=6) +contextual -implicitDefEqProofs only [amA M,amB,↓ae,↓aa,↓aj,↓ah,Nat.reduceBEq,Nat.reduceAdd,env,ao,gk,Nat.lt_irrefl,List.drop_length]
 |n+1,i,He,h=>by
  have hi:i<l.length:=by omega
  have hx:l[i]?=some l[i]:=List.getElem?_eq_getElem hi
  have hd:(l.drop i)=l[i]::l.drop (i+1):=List.drop_eq_getElem_cons hi
  have hm:l[i]∈l:=List.getElem_mem hi
  have ih:=fun He=>NV (H:=H) (H0:=H0) (g:=g) (fr:=fr) (cap:=cap) (p:=p) (tg:=tg) (l:=l) (hs:=hs) (hp:=hp) hc k n (i+1)  He (by omega)
  simp only [kv_cons,kv_nil] at ih
  rw [aq M cO.eq_1]
  simp (maxSteps:=3000000) (maxDischargeDepth:=6) +contextual -implicitDefEqProofs only [amA M,amB,↓ae,↓aa,↓aj,↓ah,Nat.reduceBEq,Nat.reduceAdd,env,ao,gk,hx,hd,hi,ih,hp,hm,bt hi hs,aC hi,qn,A3,hc]
theorem Fs(hf:E.fn c9=some aO){g:Nat}{fr cap:List AV}{p:aw→Bool}{tg:Tag}{l:List aw}(hs:l.length≤aZ){H:List ag}
  (hp:∀ x∈l,M.run g (fr ++ .agg (aw.row x)::cap) H=some (.ret (.bool (p x)),H)) :
  M.run c9 [.slice tg 2 (l.map aw.row),.fn (.func g) fr cap] H=some (.ret (.int .i64 (wH p 0 l)),H):=by
 rw [aK M hf rfl (c:=gj) rfl,gj]
 have hl:=fun k He=>NV M (tg:=tg) hs hp (cut_refl H) k l.length 0 He (by omega)
 simp only [kv_cons,kv_nil,Int.ofNat_zero,List.drop_zero] at hl
 simp (maxSteps:=3000000) (maxDischargeDepth:=6) +contextual -implicitDefEqProofs only [amA M,amB,↓ae,↓aa,↓aj,↓ah,Nat.reduceBEq,Nat.reduceAdd,env,ao,gk,hl]
 exact o7 p l 0 H
theorem uB(hf:E.fn c9=some aO)(hg:E.fn bM=some bf){g:Nat}{fr cap:List AV}{p:aw→Bool}{tg:Tag}{l:List aw}(hs:l.length≤aZ){H:List ag}
  (hp:∀ x∈l,M.run g (fr ++ .agg (aw.row x)::cap) H=some (.ret (.bool (p x)),H)) :
  M.run bM [.slice tg 2 (l.map aw.row),.fn (.func g) fr cap] H=some (.ret (.bool (l.any p)),H):=by
 rw [aK M hg rfl (c:=fx) rfl,fx]
 simp (maxSteps:=3000000) (maxDischargeDepth:=6) +contextual -implicitDefEqProofs only [amA M,amB,↓ae,↓aa,↓aj,↓ah,Nat.reduceBEq,Nat.reduceAdd,env,ao,qe,Fs M hf hs hp,yT]
theorem NW{H H0:List ag}{g:Nat}{fr cap:List AV}{p:bD→Bool}{tg:Tag}{l:List bD}(hs:l.length≤aZ)(hp:∀ x∈l,M.run g (fr ++ .agg (bD.row x)::cap) H=some (.ret (.bool (p x)),H))(hc:bU H0 H)(k:List Fra):∀ (n i:Nat) (He:List ag),i+n=l.length →
  M.go aP H0 (.c cR :: .lp ⟨(some [0,1,7,8]),[],false⟩ cR He :: .blk 0 :: .c (.lv [])::k) (kv [(0,.slice tg 4 (l.map bD.row)),(1,.fn (.func g) fr cap),(7,.int .i64 l.length),(8,.int .i64 i)]) H =
   orE (bN (A3 p) i (l.drop i)) (H.take H0.length) (M.go aP H0 k .leaf H)
 |0,i,He,h=>by
  have e:i=l.length:=by omega
  subst e
  rw [aq M cR.eq_1]
  simp (maxSteps:=3000000) (maxDischargeDepth:=6) +contextual -implicitDefEqProofs only [amA M,amB,↓ae,↓aa,↓aj,↓ah,Nat.reduceBEq,Nat.reduceAdd,env,ao,gn,Nat.lt_irrefl,List.drop_length]
 |n+1,i,He,h=>by
  have hi:i<l.length:=by omega
  have hx:l[i]?=some l[i]:=List.getElem?_eq_getElem hi
  have hd:(l.drop i)=l[i]::l.drop (i+1):=List.drop_eq_getElem_cons hi
  have hm:l[i]∈l:=List.getElem_mem hi
  have ih:=fun He=>NW (H:=H) (H0:=H0) (g:=g) (fr:=fr) (cap:=cap) (p:=p) (tg:=tg) (l:=l) (hs:=hs) (hp:=hp) hc k n (i+1)  He (by omega)
  simp only [kv_cons,kv_nil] at ih
  rw [aq M cR.eq_1]
  simp (maxSteps:=3000000) (maxDischargeDepth:=6) +contextual -implicitDefEqProofs only [amA M,amB,↓ae,↓aa,↓aj,↓ah,Nat.reduceBEq,Nat.reduceAdd,env,ao,gn,hx,hd,hi,ih,hp,hm,bt hi hs,aC hi,eU,A3,hc]
theorem Ft(hf:E.fn da=some aP){g:Nat}{fr cap:List AV}{p:bD→Bool}{tg:Tag}{l:List bD}(hs:l.length≤aZ){H:List ag}
  (hp:∀ x∈l,M.run g (fr ++ .agg (bD.row x)::cap) H=some (.ret (.bool (p x)),H)) :
  M.run da [.slice tg 4 (l.map bD.row),.fn (.func g) fr cap] H=some (.ret (.int .i64 (wH p 0 l)),H):=by
 rw [aK M hf rfl (c:=gm) rfl,gm]
 have hl:=fun k He=>NW M (tg:=tg) hs hp (cut_refl H) k l.length 0 He (by omega)
 simp only [kv_cons,kv_nil,Int.ofNat_zero,List.drop_zero] at hl
 simp (maxSteps:=3000000) (maxDischargeDepth:=6) +contextual -implicitDefEqProofs only [amA M,amB,↓ae,↓aa,↓aj,↓ah,Nat.reduceBEq,Nat.reduceAdd,env,ao,gn,hl]
 exact o7 p l 0 H
theorem Cy(hf:E.fn da=some aP)(hg:E.fn dM=some bg){g:Nat}{fr cap:List AV}{p:bD→Bool}{tg:Tag}{l:List bD}(hs:l.length≤aZ){H:List ag}
  (hp:∀ x∈l,M.run g (fr ++ .agg (bD.row x)::cap) H=some (.ret (.bool (p x)),H)) :
  M.run dM [.slice tg 4 (l.map bD.row),.fn (.func g) fr cap] H=some (.ret (.bool (l.any p)),H):=by
 rw [aK M hg rfl (c:=fy) rfl,fy]
 simp (maxSteps:=3000000) (maxDischargeDepth:=6) +contextual -implicitDefEqProofs only [amA M,amB,↓ae,↓aa,↓aj,↓ah,Nat.reduceBEq,Nat.reduceAdd,env,ao,qf,Ft M hf hs hp,yT]
end
section
attribute [local congr] aS eF bZ aT bC bk aU aI aJ bm bn
variable{E:bP}(M:dV ei E)
def qF{α:Type}(F:Nat→α→Int):Nat→α→Option AV:=fun i x=>sel (!(F i x == 0)) (some (.int .u8 (F i x))) none
def vu{α:Type}(F:Nat→α→Int):Nat→List α→Int
 |_,[]=>0
 |i,x::l=>sel (!(F i x == 0)) (F i x) (vu F (i+1) l)
theorem nf{α:Type}(F:Nat→α→Int):∀ (l:List α) (i:Nat) (H:List ag),orE (bN (qF F) i l) H (some (.ret (.int .u8 0),H))=some (.ret (.int .u8 (vu F i l)),H)
 |[],i,H=>rfl
 |x::l,i,H=>by
  rw [kH,qF,vu,Gb,DN,C8,C9,Ar,nf F l]
  cases (!(F i x == 0))<;>rfl
def mA{α:Type}(most:Int)(F:Nat→α→Int)(l:List α):Int:=sel (decide (most<(l.length:Int))) 3 (vu F 0 l)
theorem JW{H H0:List ag}{g:Nat}{fr cap:List AV}{F:Nat→bA→Int}{tg:Tag}{l:List bA}(hs:l.length≤aZ)(hfw:Wk H.length (.fn (.func g) fr cap) (.fn (.func g) fr cap))(hlw:Wk H.length (.slice tg 2 (l.map bA.row)) (.slice tg 2 (l.map bA.row)))(hp:∀ (L:List ag) (i:Nat) (x:bA),l[i]?=some x→M.run g (fr ++ .int .i64 i :: .agg (bA.row x)::cap) (H++L)=some (.ret (.int .u8 (F i x)),H++L))(hc:bU H0 H)(k:List Fra):∀ (n i:Nat),i+n=l.length →
  M.go cG H0 (.c gK :: .lp ⟨(some [2,14,15,16]),[],true⟩ gK H :: .blk 0 :: .c (.lv [])::k) (kv [(2,.fn (.func g) fr cap),(14,.slice tg 2 (l.map bA.row)),(15,.int .i64 l.length),(16,.int .i64 i)]) H =
   orE (bN (qF F) i (l.drop i)) (H.take H0.length) (M.go cG H0 k .leaf H)
 |0,i,h=>by
  have e:i=l.length:=by omega
  subst e
  rw [aq M gK.eq_1]
  simp (maxSteps:=3000000) (maxDischargeDepth:=6) +contextual -implicitDefEqProofs only [amA M,amB,↓ae,↓aa,↓aj,↓ah,Nat.reduceBEq,Nat.reduceAdd,env,ao,n4,Nat.lt_irrefl,List.drop_length]
 |n+1,i,h=>by
  have hi:i<l.length:=by omega
  have hx:l[i]?=some l[i]:=List.getElem?_eq_getElem hi
  have hd:(l.drop i)=l[i]::l.drop (i+1):=List.drop_eq_getElem_cons hi
  have hm:l[i]∈l:=List.getElem_mem hi
  have ih:=JW (H:=H) (H0:=H0) (g:=g) (fr:=fr) (cap:=cap) (F:=F) (tg:=tg) (l:=l) (hs:=hs) (hfw:=hfw) (hlw:=hlw) (hp:=hp) hc k n (i+1)  (by omega)
  simp only [kv_cons,kv_nil] at ih
  have hp:=fun L=>hp L i l[i] hx
  rw [aq M gK.eq_1]
  simp (maxSteps:=3000000) (maxDischargeDepth:=6) +contextual -implicitDefEqProofs only [amA M,amB,↓ae,↓aa,↓aj,↓ah,Nat.reduceBEq,Nat.reduceAdd,env,ao,n4,hx,hd,hi,ih,amG,AV.cell,hp,hfw,hlw,bt hi hs,aC hi,pa,qF,hc]
theorem JX(hf:E.fn kp=some cG){g:Nat}{fr cap:List AV}{F:Nat→bA→Int}{tg:Tag}{l:List bA}{H:List ag}(hs:l.length≤aZ)(hfw:Wk H.length (.fn (.func g) fr cap) (.fn (.func g) fr cap))(hlw:Wk H.length (.slice tg 2 (l.map bA.row)) (.slice tg 2 (l.map bA.row)))
  (hp:∀ (L:List ag) (i:Nat) (x:bA),l[i]?=some x→M.run g (fr ++ .int .i64 i :: .agg (bA.row x)::cap) (H++L)=some (.ret (.int .u8 (F i x)),H++L)) (most:Int) :
  M.run kp [.slice tg 2 (l.map bA.row),.int .i64 most,.fn (.func g) fr cap] H=some (.ret (.int .u8 (mA most F l)),H):=by
 rw [aK M hf rfl (c:=nZ) rfl,nZ]
 have hl:=fun k=>JW M (tg:=tg) hs hfw hlw hp (cut_refl H) k l.length 0 (by omega)
 simp only [kv_cons,kv_nil,Int.ofNat_zero,List.drop_zero] at hl
 simp (maxSteps:=3000000) (maxDischargeDepth:=6) +contextual -implicitDefEqProofs only [amA M,amB,↓ae,↓aa,↓aj,↓ah,Nat.reduceBEq,Nat.reduceAdd,env,ao,n4,hl]
 rw [nf,mA]
 cases decide (most<(l.length:Int))<;>rfl
theorem LO{H H0:List ag}{g:Nat}{fr cap:List AV}{F:Nat→aw→Int}{tg:Tag}{l:List aw}(hs:l.length≤aZ)(hfw:Wk H.length (.fn (.func g) fr cap) (.fn (.func g) fr cap))(hlw:Wk H.length (.slice tg 2 (l.map aw.row)) (.slice tg 2 (l.map aw.row)))(hp:∀ (L:List ag) (i:Nat) (x:aw),l[i]?=some x→M.run g (fr ++ .int .i64 i :: .agg (aw.row x)::cap) (H++L)=some (.ret (.int .u8 (F i x)),H++L))(hc:bU H0 H)(k:List Fra):∀ (n i:Nat),i+n=l.length →
  M.go cY H0 (.c iL :: .lp ⟨(some [2,14,15,16]),[],true⟩ iL H :: .blk 0 :: .c (.lv [])::k) (kv [(2,.fn (.func g) fr cap),(14,.slice tg 2 (l.map aw.row)),(15,.int .i64 l.length),(16,.int .i64 i)]) H =
   orE (bN (qF F) i (l.drop i)) (H.take H0.length) (M.go cY H0 k .leaf H)
 |0,i,h=>by
  have e:i=l.length:=by omega
  subst e
  rw [aq M iL.eq_1]
  simp (maxSteps:=3000000) (maxDischargeDepth:=6) +contextual -implicitDefEqProofs only [amA M,amB,↓ae,↓aa,↓aj,↓ah,Nat.reduceBEq,Nat.reduceAdd,env,ao,pV,Nat.lt_irrefl,List.drop_length]
 |n+1,i,h=>by
  have hi:i<l.length:=by omega
  have hx:l[i]?=some l[i]:=List.getElem?_eq_getElem hi
  have hd:(l.drop i)=l[i]::l.drop (i+1):=List.drop_eq_getElem_cons hi
  have hm:l[i]∈l:=List.getElem_mem hi
  have ih:=LO (H:=H) (H0:=H0) (g:=g) (fr:=fr) (cap:=cap) (F:=F) (tg:=tg) (l:=l) (hs:=hs) (hfw:=hfw) (hlw:=hlw) (hp:=hp) hc k n (i+1)  (by omega)
  simp only [kv_cons,kv_nil] at ih
  have hp:=fun L=>hp L i l[i] hx
  rw [aq M iL.eq_1]
  simp (maxSteps:=3000000) (maxDischargeDepth:=6) +contextual -implicitDefEqProofs only [amA M,amB,↓ae,↓aa,↓aj,↓ah,Nat.reduceBEq,Nat.reduceAdd,env,ao,pV,hx,hd,hi,ih,amG,AV.cell,hp,hfw,hlw,bt hi hs,aC hi,qn,qF,hc]
theorem KX(hf:E.fn lg=some cY){g:Nat}{fr cap:List AV}{F:Nat→aw→Int}{tg:Tag}{l:List aw}{H:List ag}(hs:l.length≤aZ)(hfw:Wk H.length (.fn (.func g) fr cap) (.fn (.func g) fr cap))(hlw:Wk H.length (.slice tg 2 (l.map aw.row)) (.slice tg 2 (l.map aw.row)))
  (hp:∀ (L:List ag) (i:Nat) (x:aw),l[i]?=some x→M.run g (fr ++ .int .i64 i :: .agg (aw.row x)::cap) (H++L)=some (.ret (.int .u8 (F i x)),H++L)) (most:Int) :
  M.run lg [.slice tg 2 (l.map aw.row),.int .i64 most,.fn (.func g) fr cap] H=some (.ret (.int .u8 (mA most F l)),H):=by
 rw [aK M hf rfl (c:=pU) rfl,pU]
 have hl:=fun k=>LO M (tg:=tg) hs hfw hlw hp (cut_refl H) k l.length 0 (by omega)
 simp only [kv_cons,kv_nil,Int.ofNat_zero,List.drop_zero] at hl
 simp (maxSteps:=3000000) (maxDischargeDepth:=6) +contextual -implicitDefEqProofs only [amA M,amB,↓ae,↓aa,↓aj,↓ah,Nat.reduceBEq,Nat.reduceAdd,env,ao,pV,hl]
 rw [nf,mA]
 cases decide (most<(l.length:Int))<;>rfl
theorem LP{H H0:List ag}{g:Nat}{fr cap:List AV}{F:Nat→bD→Int}{tg:Tag}{l:List bD}(hs:l.length≤aZ)(hfw:Wk H.length (.fn (.func g) fr cap) (.fn (.func g) fr cap))(hlw:Wk H.length (.slice tg 4 (l.map bD.row)) (.slice tg 4 (l.map bD.row)))(hp:∀ (L:List ag) (i:Nat) (x:bD),l[i]?=some x→M.run g (fr ++ .int .i64 i :: .agg (bD.row x)::cap) (H++L)=some (.ret (.int .u8 (F i x)),H++L))(hc:bU H0 H)(k:List Fra):∀ (n i:Nat),i+n=l.length →
  M.go cX H0 (.c iK :: .lp ⟨(some [2,14,15,16]),[],true⟩ iK H :: .blk 0 :: .c (.lv [])::k) (kv [(2,.fn (.func g) fr cap),(14,.slice tg 4 (l.map bD.row)),(15,.int .i64 l.length),(16,.int .i64 i)]) H =
   orE (bN (qF F) i (l.drop i)) (H.take H0.length) (M.go cX H0 k .leaf H)
 |0,i,h=>by
  have e:i=l.length:=by omega
  subst e
  rw [aq M iK.eq_1]
  simp (maxSteps:=3000000) (maxDischargeDepth:=6) +contextual -implicitDefEqProofs only [amA M,amB,↓ae,↓aa,↓aj,↓ah,Nat.reduceBEq,Nat.reduceAdd,env,ao,pT,Nat.lt_irrefl,List.drop_length]
 |n+1,i,h=>by
  have hi:i<l.length:=by omega
  have hx:l[i]?=some l[i]:=List.getElem?_eq_getElem hi
  have hd:(l.drop i)=l[i]::l.drop (i+1):=List.drop_eq_getElem_cons hi
  have hm:l[i]∈l:=List.getElem_mem hi
  have ih:=LP (H:=H) (H0:=H0) (g:=g) (fr:=fr) (cap:=cap) (F:=F) (tg:=tg) (l:=l) (hs:=hs) (hfw:=hfw) (hlw:=hlw) (hp:=hp) hc k n (i+1)  (by omega)
  simp only [kv_cons,kv_nil] at ih
  have hp:=fun L=>hp L i l[i] hx
  rw [aq M iK.eq_1]
  simp (maxSteps:=3000000) (maxDischargeDepth:=6) +contextual -implicitDefEqProofs only [amA M,amB,↓ae,↓aa,↓aj,↓ah,Nat.reduceBEq,Nat.reduceAdd,env,ao,pT,hx,hd,hi,ih,amG,AV.cell,hp,hfw,hlw,bt hi hs,aC hi,eU,qF,hc]
theorem KY(hf:E.fn lf=some cX){g:Nat}{fr cap:List AV}{F:Nat→bD→Int}{tg:Tag}{l:List bD}{H:List ag}(hs:l.length≤aZ)(hfw:Wk H.length (.fn (.func g) fr cap) (.fn (.func g) fr cap))(hlw:Wk H.length (.slice tg 4 (l.map bD.row)) (.slice tg 4 (l.map bD.row)))
  (hp:∀ (L:List ag) (i:Nat) (x:bD),l[i]?=some x→M.run g (fr ++ .int .i64 i :: .agg (bD.row x)::cap) (H++L)=some (.ret (.int .u8 (F i x)),H++L)) (most:Int) :
  M.run lf [.slice tg 4 (l.map bD.row),.int .i64 most,.fn (.func g) fr cap] H=some (.ret (.int .u8 (mA most F l)),H):=by
 rw [aK M hf rfl (c:=pS) rfl,pS]
 have hl:=fun k=>LP M (tg:=tg) hs hfw hlw hp (cut_refl H) k l.length 0 (by omega)
 simp only [kv_cons,kv_nil,Int.ofNat_zero,List.drop_zero] at hl
 simp (maxSteps:=3000000) (maxDischargeDepth:=6) +contextual -implicitDefEqProofs only [amA M,amB,↓ae,↓aa,↓aj,↓ah,Nat.reduceBEq,Nat.reduceAdd,env,ao,pT,hl]
 rw [nf,mA]
 cases decide (most<(l.length:Int))<;>rfl
theorem JY{H H0:List ag}{g:Nat}{fr cap:List AV}{F:Nat→aV→Int}{tg:Tag}{l:List aV}(hs:l.length≤aZ)(hfw:Wk H.length (.fn (.func g) fr cap) (.fn (.func g) fr cap))(hlw:Wk H.length (.slice tg 2 (l.map aV.row)) (.slice tg 2 (l.map aV.row)))(hp:∀ (L:List ag) (i:Nat) (x:aV),l[i]?=some x→M.run g (fr ++ .int .i64 i :: .agg (aV.row x)::cap) (H++L)=some (.ret (.int .u8 (F i x)),H++L))(hc:bU H0 H)(k:List Fra):∀ (n i:Nat),i+n=l.length →
  M.go cH H0 (.c gL :: .lp ⟨(some [2,14,15,16]),[],true⟩ gL H :: .blk 0 :: .c (.lv [])::k) (kv [(2,.fn (.func g) fr cap),(14,.slice tg 2 (l.map aV.row)),(15,.int .i64 l.length),(16,.int .i64 i)]) H =
   orE (bN (qF F) i (l.drop i)) (H.take H0.length) (M.go cH H0 k .leaf H)
 |0,i,h=>by
  have e:i=l.length:=by omega
  subst e
  rw [aq M gL.eq_1]
  simp (maxSteps:=3000000) (maxDischargeDepth:=6) +contextual -implicitDefEqProofs only [amA M,amB,↓ae,↓aa,↓aj,↓ah,Nat.reduceBEq,Nat.reduceAdd,env,ao,n9,Nat.lt_irrefl,List.drop_length]
 |n+1,i,h=>by
  have hi:i<l.length:=by omega
  have hx:l[i]?=some l[i]:=List.getElem?_eq_getElem hi
  have hd:(l.drop i)=l[i]::l.drop (i+1):=List.drop_eq_getElem_cons hi
  have hm:l[i]∈l:=List.getElem_mem hi
  have ih:=JY (H:=H) (H0:=H0) (g:=g) (fr:=fr) (cap:=cap) (F:=F) (tg:=tg) (l:=l) (hs:=hs) (hfw:=hfw) (hlw:=hlw) (hp:=hp) hc k n (i+1)  (by omega)
  simp only [kv_cons,kv_nil] at ih
  have hp:=fun L=>hp L i l[i] hx
  rw [aq M gL.eq_1]
  simp (maxSteps:=3000000) (maxDischargeDepth:=6) +contextual -implicitDefEqProofs only [amA M,amB,↓ae,↓aa,↓aj,↓ah,Nat.reduceBEq,Nat.reduceAdd,env,ao,n9,hx,hd,hi,ih,amG,AV.cell,hp,hfw,hlw,bt hi hs,aC hi,gW,qF,hc]
theorem JZ(hf:E.fn kq=some cH){g:Nat}{fr cap:List AV}{F:Nat→aV→Int}{tg:Tag}{l:List aV}{H:List ag}(hs:l.length≤aZ)(hfw:Wk H.length (.fn (.func g) fr cap) (.fn (.func g) fr cap))(hlw:Wk H.length (.slice tg 2 (l.map aV.row)) (.slice tg 2 (l.map aV.row)))
  (hp:∀ (L:List ag) (i:Nat) (x:aV),l[i]?=some x→M.run g (fr ++ .int .i64 i :: .agg (aV.row x)::cap) (H++L)=some (.ret (.int .u8 (F i x)),H++L)) (most:Int) :
  M.run kq [.slice tg 2 (l.map aV.row),.int .i64 most,.fn (.func g) fr cap] H=some (.ret (.int .u8 (mA most F l)),H):=by
 rw [aK M hf rfl (c:=n5) rfl,n5]
 have hl:=fun k=>JY M (tg:=tg) hs hfw hlw hp (cut_refl H) k l.length 0 (by omega)
 simp only [kv_cons,kv_nil,Int.ofNat_zero,List.drop_zero] at hl
 simp (maxSteps:=3000000) (maxDischargeDepth:=6) +contextual -implicitDefEqProofs only [amA M,amB,↓ae,↓aa,↓aj,↓ah,Nat.reduceBEq,Nat.reduceAdd,env,ao,n9,hl]
 rw [nf,mA]
 cases decide (most<(l.length:Int))<;>rfl
theorem J0{H H0:List ag}{g:Nat}{fr cap:List AV}{F:Nat→aQ→Int}{tg:Tag}{l:List aQ}(hs:l.length≤aZ)(hfw:Wk H.length (.fn (.func g) fr cap) (.fn (.func g) fr cap))(hlw:Wk H.length (.slice tg 4 (l.map aQ.row)) (.slice tg 4 (l.map aQ.row)))(hp:∀ (L:List ag) (i:Nat) (x:aQ),l[i]?=some x→M.run g (fr ++ .int .i64 i :: .agg (aQ.row x)::cap) (H++L)=some (.ret (.int .u8 (F i x)),H++L))(hc:bU H0 H)(k:List Fra):∀ (n i:Nat),i+n=l.length →
  M.go cI H0 (.c gM :: .lp ⟨(some [2,14,15,16]),[],true⟩ gM H :: .blk 0 :: .c (.lv [])::k) (kv [(2,.fn (.func g) fr cap),(14,.slice tg 4 (l.map aQ.row)),(15,.int .i64 l.length),(16,.int .i64 i)]) H =
   orE (bN (qF F) i (l.drop i)) (H.take H0.length) (M.go cI H0 k .leaf H)
 |0,i,h=>by
  have e:i=l.length:=by omega
  subst e
  rw [aq M gM.eq_1]
  simp (maxSteps:=3000000) (maxDischargeDepth:=6) +contextual -implicitDefEqProofs only [amA M,amB,↓ae,↓aa,↓aj,↓ah,Nat.reduceBEq,Nat.reduceAdd,env,ao,oc,Nat.lt_irrefl,List.drop_length]
 |n+1,i,h=>by
  have hi:i<l.length:=by omega
  have hx:l[i]?=some l[i]:=List.getElem?_eq_getElem hi
  have hd:(l.drop i)=l[i]::l.drop (i+1):=List.drop_eq_getElem_cons hi
  have hm:l[i]∈l:=List.getElem_mem hi
  have ih:=J0 (H:=H) (H0:=H0) (g:=g) (fr:=fr) (cap:=cap) (F:=F) (tg:=tg) (l:=l) (hs:=hs) (hfw:=hfw) (hlw:=hlw) (hp:=hp) hc k n (i+1)  (by omega)
  simp only [kv_cons,kv_nil] at ih
  have hp:=fun L=>hp L i l[i] hx
  rw [aq M gM.eq_1]
  simp (maxSteps:=3000000) (maxDischargeDepth:=6) +contextual -implicitDefEqProofs only [amA M,amB,↓ae,↓aa,↓aj,↓ah,Nat.reduceBEq,Nat.reduceAdd,env,ao,oc,hx,hd,hi,ih,amG,AV.cell,hp,hfw,hlw,bt hi hs,aC hi,dc,qF,hc]
theorem J1(hf:E.fn kr=some cI){g:Nat}{fr cap:List AV}{F:Nat→aQ→Int}{tg:Tag}{l:List aQ}{H:List ag}(hs:l.length≤aZ)(hfw:Wk H.length (.fn (.func g) fr cap) (.fn (.func g) fr cap))(hlw:Wk H.length (.slice tg 4 (l.map aQ.row)) (.slice tg 4 (l.map aQ.row)))
  (hp:∀ (L:List ag) (i:Nat) (x:aQ),l[i]?=some x→M.run g (fr ++ .int .i64 i :: .agg (aQ.row x)::cap) (H++L)=some (.ret (.int .u8 (F i x)),H++L)) (most:Int) :
  M.run kr [.slice tg 4 (l.map aQ.row),.int .i64 most,.fn (.func g) fr cap] H=some (.ret (.int .u8 (mA most F l)),H):=by
 rw [aK M hf rfl (c:=oa) rfl,oa]
 have hl:=fun k=>J0 M (tg:=tg) hs hfw hlw hp (cut_refl H) k l.length 0 (by omega)
 simp only [kv_cons,kv_nil,Int.ofNat_zero,List.drop_zero] at hl
 simp (maxSteps:=3000000) (maxDischargeDepth:=6) +contextual -implicitDefEqProofs only [amA M,amB,↓ae,↓aa,↓aj,↓ah,Nat.reduceBEq,Nat.reduceAdd,env,ao,oc,hl]
 rw [nf,mA]
 cases decide (most<(l.length:Int))<;>rfl
theorem J2{H H0:List ag}{g:Nat}{fr cap:List AV}{F:Nat→br→Int}{tg:Tag}{l:List br}(hs:l.length≤aZ)(hfw:Wk H.length (.fn (.func g) fr cap) (.fn (.func g) fr cap))(hlw:Wk H.length (.slice tg 4 (l.map br.row)) (.slice tg 4 (l.map br.row)))(hp:∀ (L:List ag) (i:Nat) (x:br),l[i]?=some x→M.run g (fr ++ .int .i64 i :: .agg (br.row x)::cap) (H++L)=some (.ret (.int .u8 (F i x)),H++L))(hc:bU H0 H)(k:List Fra):∀ (n i:Nat),i+n=l.length →
  M.go cJ H0 (.c gN :: .lp ⟨(some [2,14,15,16]),[],true⟩ gN H :: .blk 0 :: .c (.lv [])::k) (kv [(2,.fn (.func g) fr cap),(14,.slice tg 4 (l.map br.row)),(15,.int .i64 l.length),(16,.int .i64 i)]) H =
   orE (bN (qF F) i (l.drop i)) (H.take H0.length) (M.go cJ H0 k .leaf H)
 |0,i,h=>by
  have e:i=l.length:=by omega
  subst e
  rw [aq M gN.eq_1]
  simp (maxSteps:=3000000) (maxDischargeDepth:=6) +contextual -implicitDefEqProofs only [amA M,amB,↓ae,↓aa,↓aj,↓ah,Nat.reduceBEq,Nat.reduceAdd,env,ao,oe,Nat.lt_irrefl,List.drop_length]
 |n+1,i,h=>by
  have hi:i<l.length:=by omega
  have hx:l[i]?=some l[i]:=List.getElem?_eq_getElem hi
  have hd:(l.drop i)=l[i]::l.drop (i+1):=List.drop_eq_getElem_cons hi
  have hm:l[i]∈l:=List.getElem_mem hi
  have ih:=J2 (H:=H) (H0:=H0) (g:=g) (fr:=fr) (cap:=cap) (F:=F) (tg:=tg) (l:=l) (hs:=hs) (hfw:=hfw) (hlw:=hlw) (hp:=hp) hc k n (i+1)  (by omega)
  simp only [kv_cons,kv_nil] at ih
  have hp:=fun L=>hp L i l[i] hx
  rw [aq M gN.eq_1]
  simp (maxSteps:=3000000) (maxDischargeDepth:=6) +contextual -implicitDefEqProofs only [amA M,amB,↓ae,↓aa,↓aj,↓ah,Nat.reduceBEq,Nat.reduceAdd,env,ao,oe,hx,hd,hi,ih,amG,AV.cell,hp,hfw,hlw,bt hi hs,aC hi,l9,qF,hc]
theorem J3(hf:E.fn ks=some cJ){g:Nat}{fr cap:List AV}{F:Nat→br→Int}{tg:Tag}{l:List br}{H:List ag}(hs:l.length≤aZ)(hfw:Wk H.length (.fn (.func g) fr cap) (.fn (.func g) fr cap))(hlw:Wk H.length (.slice tg 4 (l.map br.row)) (.slice tg 4 (l.map br.row)))
  (hp:∀ (L:List ag) (i:Nat) (x:br),l[i]?=some x→M.run g (fr ++ .int .i64 i :: .agg (br.row x)::cap) (H++L)=some (.ret (.int .u8 (F i x)),H++L)) (most:Int) :
  M.run ks [.slice tg 4 (l.map br.row),.int .i64 most,.fn (.func g) fr cap] H=some (.ret (.int .u8 (mA most F l)),H):=by
 rw [aK M hf rfl (c:=od) rfl,od]
 have hl:=fun k=>J2 M (tg:=tg) hs hfw hlw hp (cut_refl H) k l.length 0 (by omega)
 simp only [kv_cons,kv_nil,Int.ofNat_zero,List.drop_zero] at hl
 simp (maxSteps:=3000000) (maxDischargeDepth:=6) +contextual -implicitDefEqProofs only [amA M,amB,↓ae,↓aa,↓aj,↓ah,Nat.reduceBEq,Nat.reduceAdd,env,ao,oe,hl]
 rw [nf,mA]
 cases decide (most<(l.length:Int))<;>rfl
theorem LQ{H H0:List ag}{g:Nat}{fr cap:List AV}{F:Nat→eI→Int}{tg:Tag}{l:List eI}(hs:l.length≤aZ)(hfw:Wk H.length (.fn (.func g) fr cap) (.fn (.func g) fr cap))(hlw:Wk H.length (.slice tg 3 (l.map eI.row)) (.slice tg 3 (l.map eI.row)))(hp:∀ (L:List ag) (i:Nat) (x:eI),l[i]?=some x→M.run g (fr ++ .int .i64 i :: .agg (eI.row x)::cap) (H++L)=some (.ret (.int .u8 (F i x)),H++L))(hc:bU H0 H)(k:List Fra):∀ (n i:Nat),i+n=l.length →
  M.go cW H0 (.c iH :: .lp ⟨(some [2,14,15,16]),[],true⟩ iH H :: .blk 0 :: .c (.lv [])::k) (kv [(2,.fn (.func g) fr cap),(14,.slice tg 3 (l.map eI.row)),(15,.int .i64 l.length),(16,.int .i64 i)]) H =
   orE (bN (qF F) i (l.drop i)) (H.take H0.length) (M.go cW H0 k .leaf H)
 |0,i,h=>by
  have e:i=l.length:=by omega
  subst e
  rw [aq M iH.eq_1]
  simp (maxSteps:=3000000) (maxDischargeDepth:=6) +contextual -implicitDefEqProofs only [amA M,amB,↓ae,↓aa,↓aj,↓ah,Nat.reduceBEq,Nat.reduceAdd,env,ao,pL,Nat.lt_irrefl,List.drop_length]
 |n+1,i,h=>by
  have hi:i<l.length:=by omega
  have hx:l[i]?=some l[i]:=List.getElem?_eq_getElem hi
  have hd:(l.drop i)=l[i]::l.drop (i+1):=List.drop_eq_getElem_cons hi
  have hm:l[i]∈l:=List.getElem_mem hi
  have ih:=LQ (H:=H) (H0:=H0) (g:=g) (fr:=fr) (cap:=cap) (F:=F) (tg:=tg) (l:=l) (hs:=hs) (hfw:=hfw) (hlw:=hlw) (hp:=hp) hc k n (i+1)  (by omega)
  simp only [kv_cons,kv_nil] at ih
  have hp:=fun L=>hp L i l[i] hx
  rw [aq M iH.eq_1]
  simp (maxSteps:=3000000) (maxDischargeDepth:=6) +contextual -implicitDefEqProofs only [amA M,amB,↓ae,↓aa,↓aj,↓ah,Nat.reduceBEq,Nat.reduceAdd,env,ao,pL,hx,hd,hi,ih,amG,AV.cell,hp,hfw,hlw,bt hi hs,aC hi,LG,qF,hc]
theorem KZ(hf:E.fn k8=some cW){g:Nat}{fr cap:List AV}{F:Nat→eI→Int}{tg:Tag}{l:List eI}{H:List ag}(hs:l.length≤aZ)(hfw:Wk H.length (.fn (.func g) fr cap) (.fn (.func g) fr cap))(hlw:Wk H.length (.slice tg 3 (l.map eI.row)) (.slice tg 3 (l.map eI.row)))
  (hp:∀ (L:List ag) (i:Nat) (x:eI),l[i]?=some x→M.run g (fr ++ .int .i64 i :: .agg (eI.row x)::cap) (H++L)=some (.ret (.int .u8 (F i x)),H++L)) (most:Int) :
  M.run k8 [.slice tg 3 (l.map eI.row),.int .i64 most,.fn (.func g) fr cap] H=some (.ret (.int .u8 (mA most F l)),H):=by
 rw [aK M hf rfl (c:=pK) rfl,pK]
 have hl:=fun k=>LQ M (tg:=tg) hs hfw hlw hp (cut_refl H) k l.length 0 (by omega)
 simp only [kv_cons,kv_nil,Int.ofNat_zero,List.drop_zero] at hl
 simp (maxSteps:=3000000) (maxDischargeDepth:=6) +contextual -implicitDefEqProofs only [amA M,amB,↓ae,↓aa,↓aj,↓ah,Nat.reduceBEq,Nat.reduceAdd,env,ao,pL,hl]
 rw [nf,mA]
 cases decide (most<(l.length:Int))<;>rfl
end
section
attribute [local congr] aS eF bZ aT bC bk aU aI aJ bm bn
variable{E:bP}(M:dV ei E)
structure lH (E:bP):Prop where
 morph_checker_vowels:E.fn ko=some di
 slices_Index_string_string:E.fn j0=some bL
 slices_Contains_string_string:E.fn fB=some cq
 morph_checker_trait_1:E.fn jP=some ew
 slices_IndexFunc_api_Trait_api_Trait:E.fn bS=some aG
 slices_ContainsFunc_api_Trait_api_Trait:E.fn du=some a7
 morph_checker_trait:E.fn kY=some dC
 morph_each_api_Trait:E.fn kp=some cG
 morph_Check_1:E.fn sb=some j3
 morph_checker_class_1:E.fn jQ=some ey
 slices_IndexFunc_api_Class_api_Class:E.fn bR=some aF
 slices_ContainsFunc_api_Class_api_Class:E.fn dv=some a8
 morph_short:E.fn jx=some mo
 morph_checker_bundle_1_1:E.fn iT=some dz
 morph_checker_bundle_1:E.fn jy=some dZ
 morph_each_api_Feat:E.fn lg=some cY
 morph_checker_bundle:E.fn iS=some eN
 morph_checker_class_2:E.fn jR=some ez
 morph_each_api_Slot:E.fn lf=some cX
 morph_checker_class:E.fn kZ=some fk
 morph_each_api_Class:E.fn kq=some cH
 morph_Check_2:E.fn sc=some j4
 morph_checker_entry_3:E.fn jU=some eC
 slices_IndexFunc_api_Irregular_api_Irregular:E.fn bJ=some az
 slices_ContainsFunc_api_Irregular_api_Irregular:E.fn cg=some aL
 morph_classOf_1:E.fn lQ=some ja
 morph_classOf:E.fn fO=some j8
 morph_checker_entry_1:E.fn jS=some eA
 slices_IndexFunc_api_Entry_api_Entry:E.fn cN=some aH
 slices_ContainsFunc_api_Entry_api_Entry:E.fn dw=some ba
 morph_clash_1_1:E.fn p7=some iX
 slices_IndexFunc_api_Feat_api_Feat:E.fn c9=some aO
 slices_ContainsFunc_api_Feat_api_Feat:E.fn bM=some bf
 morph_clash_1:E.fn sa=some j1
 morph_clash:E.fn u0=some mg
 morph_checker_entry_2:E.fn jT=some eB
 slices_IndexFunc_api_Slot_api_Slot:E.fn da=some aP
 slices_ContainsFunc_api_Slot_api_Slot:E.fn dM=some bg
 morph_checker_entry:E.fn k6=some dD
 morph_each_api_Entry:E.fn kr=some cI
 morph_Check_3:E.fn sd=some j5
 morph_symbol:E.fn mG=some kM
 morph_around:E.fn qu=some kN
 morph_checker_spell:E.fn k7=some fm
 morph_each_api_Spell:E.fn ks=some cJ
 morph_Check_4:E.fn se=some j6
 morph_checker_link:E.fn lP=some fF
 morph_each_api_Link:E.fn k8=some cW
 morph_Check_5:E.fn sf=some j7
 morph_first:E.fn za=some jA
 morph_Check:E.fn rF=some mj
def eO(e:Int):Option AV:=sel (!(e == 0)) (some (.int .u8 e)) none
theorem l4{α:Type}(F:Nat→α→Int)(i:Nat)(x:α):qF F i x=eO (F i x):=rfl
theorem SV(b:Bool)(e e':Int):eO (sel b e e')=sel b (eO e) (eO e'):=by cases b<;>rfl
theorem Gz{α:Type}(F:Nat→α→Int):∀ (l:List α) (i:Nat),eO (vu F i l)=bN (qF F) i l
 |[],_=>rfl
 |x::l,i=>by
  rw [vu,kH,← Gz F l,SV]
  unfold qF eO
  cases h:(F i x == 0)<;>simp [sel,orO,h]
theorem MQ(e:Int)(H:List ag)(x:Option Out):orE (eO e) H x=sel (e == 0) x (some (.ret (.int .u8 e),H)):=by
 unfold eO;cases e == 0<;>rfl
theorem qE:(∀ (b:Bool) (e e':Int),eO (slc b e e')=slc b (eO e) (eO e'))∧eO 0=none∧eO 1=some (.int .u8 1)∧eO 3=some (.int .u8 3)∧eO 5=some (.int .u8 5)∧eO 6=some (.int .u8 6)∧eO 7=some (.int .u8 7)∧eO 10=some (.int .u8 10):=
 ⟨SV,rfl,rfl,rfl,rfl,rfl,rfl,rfl⟩
theorem oD{α:Type}(p:α→Bool):∀ (l:List α) (i:Nat),(wH p i l = -1∧l.find? p=none)∨∃ (j:Nat) (x:α),wH p i l=((i+j:Nat):Int)∧l[j]?=some x∧l.find? p=some x
 |[],_=>.inl ⟨rfl,rfl⟩
 |x::l,i=>by
  cases h:p x with
  |true=>exact .inr ⟨0,x,by simp [wH,h,sel],rfl,by simp [h]⟩
  |false=>
   rcases oD p l (i+1) with ⟨h1,h2⟩ | ⟨j,y,h1,h2,h3⟩
   ·exact .inl ⟨by simp [wH,h,sel,h1],by simp [h,h2]⟩
   ·exact .inr ⟨j+1,y,by simp [wH,h,sel,h1];omega,by simpa using h2,by simp [h,h3]⟩
theorem ixs{H H0:List ag}{v:Str}{tg:Tag}{l:List Str}(hs:l.length≤aZ)(hc:bU H0 H)(k:List Fra):∀ (n i:Nat) (He:List ag),i+n=l.length →
  M.go bL H0 (.c eu :: .lp ⟨(some [0,1,7,8]),[],false⟩ eu He :: .blk 0 :: .c (.lv [])::k) (kv [(0,.slice tg 1 (l.map dR)),(1,.str v),(7,.int .i64 l.length),(8,.int .i64 i)]) H =
   orE (bN (A3 fun s=>v == s) i (l.drop i)) (H.take H0.length) (M.go bL H0 k .leaf H)
 |0,i,He,h=>by
  have e:i=l.length:=by omega
  subst e
  rw [aq M eu.eq_1]
  simp (maxSteps:=3000000) (maxDischargeDepth:=6) +contextual -implicitDefEqProofs only [amA M,amB,↓ae,↓aa,↓aj,↓ah,Nat.reduceBEq,Nat.reduceAdd,env,ao,ka,Nat.lt_irrefl,List.drop_length]
 |n+1,i,He,h=>by
  have hi:i<l.length:=by omega
  have hx:l[i]?=some l[i]:=List.getElem?_eq_getElem hi
  have hd:(l.drop i)=l[i]::l.drop (i+1):=List.drop_eq_getElem_cons hi
  have hm:l[i]∈l:=List.getElem_mem hi
  have ih:=fun He=>ixs (H:=H) (H0:=H0) (v:=v) (tg:=tg) (l:=l) (hs:=hs) hc k n (i+1)  He (by omega)
  simp only [kv_cons,kv_nil] at ih
  rw [aq M eu.eq_1]
  simp (maxSteps:=3000000) (maxDischargeDepth:=6) +contextual -implicitDefEqProofs only [amA M,amB,↓ae,↓aa,↓aj,↓ah,Nat.reduceBEq,Nat.reduceAdd,env,ao,ka,hx,hd,hi,ih,bt hi hs,aC hi,KM,A3,hc]
theorem BO(hE:lH E){v:Str}{tg:Tag}{l:List Str}(hs:l.length≤aZ)(H:List ag):M.run fB [.slice tg 1 (l.map dR),.str v] H=some (.ret (.bool (l.any fun s=>v == s)),H):=by
 have h1:M.run j0 [.slice tg 1 (l.map dR),.str v] H=some (.ret (.int .i64 (wH (fun s=>v == s) 0 l)),H):=by
  rw [aK M hE.slices_Index_string_string rfl (c:=j9) rfl,j9]
  have hl:=fun k He=>ixs M (tg:=tg) (v:=v) hs (cut_refl H) k l.length 0 He (by omega)
  simp only [kv_cons,kv_nil,Int.ofNat_zero,List.drop_zero] at hl
  simp (maxSteps:=3000000) (maxDischargeDepth:=6) +contextual -implicitDefEqProofs only [amA M,amB,↓ae,↓aa,↓aj,↓ah,Nat.reduceBEq,Nat.reduceAdd,env,ao,ka,hl]
  exact o7 _ l 0 H
 rw [aK M hE.slices_Contains_string_string rfl (c:=jl) rfl,jl]
 simp (maxSteps:=3000000) (maxDischargeDepth:=6) +contextual -implicitDefEqProofs only [amA M,amB,↓ae,↓aa,↓aj,↓ah,Nat.reduceBEq,Nat.reduceAdd,env,ao,uh,h1,yT]
def ER(c:UInt8):Bool:=jt c||((c.toNat:Int) == 43)
def Ic(c:UInt8):Bool:=ER c||((c.toNat:Int) == 35)||((c.toNat:Int) == 86)||((c.toNat:Int) == 67)
theorem J4(hN:bq E)(hE:lH E)(c:UInt8)(H:List ag):M.run mG [.int .u8 c.toNat] H=some (.ret (.bool (ER c)),H):=by
 rw [aK M hE.morph_symbol rfl (c:=xh) rfl,xh]
 simp (maxSteps:=3000000) (maxDischargeDepth:=6) +contextual -implicitDefEqProofs only [amA M,amB,↓ae,↓aa,↓aj,↓ah,Nat.reduceBEq,Nat.reduceAdd,env,ao,JN,oC M hN.letter,ER]
theorem Pn(hN:bq E)(hE:lH E)(c:UInt8)(H:List ag):M.run qu [.int .u8 c.toNat] H=some (.ret (.bool (Ic c)),H):=by
 rw [aK M hE.morph_around rfl (c:=xm) rfl,xm]
 simp (maxSteps:=3000000) (maxDischargeDepth:=6) +contextual -implicitDefEqProofs only [amA M,amB,↓ae,↓aa,↓aj,↓ah,Nat.reduceBEq,Nat.reduceAdd,env,ao,JO,J4 M hN hE,Ic,Bool.or_assoc]
def rr(p:UInt8→Bool)(s:Str):Bool:=decide ((s.length:Int)≤6)&&s.all p
theorem A4(hN:bq E)(hE:lH E){g:Nat}{fr cap:List AV}{p:UInt8→Bool}{s:Str}(hs:s.length≤aZ){H:List ag}(hp:∀ c:UInt8,M.run g (fr ++ .int .u8 c.toNat::cap) H=some (.ret (.bool (p c)),H)) :
  M.run jx [.str s,.fn (.func g) fr cap] H=some (.ret (.bool (rr p s)),H):=by
 rw [aK M hE.morph_short rfl (c:=zu) rfl,zu]
 simp (maxSteps:=3000000) (maxDischargeDepth:=6) +contextual -implicitDefEqProofs only [amA M,amB,↓ae,↓aa,↓aj,↓ah,Nat.reduceBEq,Nat.reduceAdd,env,ao,KU,IY M hN.all hs hp,rr]
def Rp(v:Str):Nat→UInt8→Bool
 |0,c => !jt c
 |i+1,c => !jt c||(match v[i]? with
  |some d=>decide ((c.toNat:Int)≤(d.toNat:Int))
  |none=>false)
theorem LR(v:Str)(c:UInt8):Rp v 0 c = !jt c:=rfl
theorem LS{v:Str}{i:Nat}{d:UInt8}(h:v[i]?=some d)(c:UInt8):Rp v (i+1) c=(!jt c||decide ((c.toNat:Int)≤(d.toNat:Int))):=by simp only [Rp,h]
theorem vow{H H0:List ag}(hN:bq E){v:Str}(hs:v.length≤aZ)(hc:bU H0 H)(k:List Fra):∀ (n i:Nat) (He:List ag),i+n=v.length →
  M.go di H0 (.c fc :: .lp ⟨(some [3,9,10]),[],false⟩ fc He :: .blk 0 :: .c (.lv [])::k) (kv [(3,.str v),(9,.int .i64 v.length),(10,.int .i64 i)]) H =
   orE (bN (qF fun i c=>sel (Rp v i c) 1 0) i (v.drop i)) (H.take H0.length) (M.go di H0 k .leaf H)
 |0,i,He,h=>by
  have e:i=v.length:=by omega
  subst e
  rw [aq M fc.eq_1]
  simp (maxSteps:=3000000) (maxDischargeDepth:=6) +contextual -implicitDefEqProofs only [amA M,amB,↓ae,↓aa,↓aj,↓ah,Nat.reduceBEq,Nat.reduceAdd,env,ao,kC,Nat.lt_irrefl,List.drop_length]
 |n+1,i,He,h=>by
  have hi:i<v.length:=by omega
  have hx:v[i]?=some v[i]:=List.getElem?_eq_getElem hi
  have hd:(v.drop i)=v[i]::v.drop (i+1):=List.drop_eq_getElem_cons hi
  have hm:v[i]∈v:=List.getElem_mem hi
  have ih:=fun He=>vow (H:=H) (H0:=H0) (hN:=hN) (v:=v) (hs:=hs) hc k n (i+1)  He (by omega)
  simp only [kv_cons,kv_nil] at ih
  cases i with
  |zero=>
   rw [aq M fc.eq_1]
   simp (maxSteps:=3000000) (maxDischargeDepth:=6) +contextual -implicitDefEqProofs only [amA M,amB,↓ae,↓aa,↓aj,↓ah,Nat.reduceBEq,Nat.reduceAdd,env,ao,kC,hx,hd,hi,ih,bt hi hs,oC M hN.letter,hc,l4,qE,LR,(show decide ((0:Int)<((0:Nat):Int))=false from rfl)]
  |succ j=>
   have hj:j<v.length:=by omega
   have hxj:v[j]?=some v[j]:=List.getElem?_eq_getElem hj
   rw [aq M fc.eq_1]
   simp (maxSteps:=3000000) (maxDischargeDepth:=6) +contextual -implicitDefEqProofs only [amA M,amB,↓ae,↓aa,↓aj,↓ah,Nat.reduceBEq,Nat.reduceAdd,env,ao,kC,hx,hd,hi,ih,bt hi hs,E7 (show j+1≤aZ by omega),hxj,oC M hN.letter,hc,l4,qE,LS hxj,(show decide ((0:Int)<((j+1:Nat):Int))=true from decide_eq_true (by omega))]
def Rq(l:Lex):Int:=vu (fun i c=>sel (Rp l.vowels i c) 1 0) 0 l.vowels
theorem Po(hN:bq E)(hE:lH E){l:Lex}{n:Nat}(hl:l.ok n)(H:List ag):M.run ko [.agg l.row] H=some (.ret (.int .u8 (Rq l)),H):=by
 rw [aK M hE.morph_checker_vowels rfl (c:=nY) rfl,nY]
 have hl:=fun k L He=>vow M hN hl.vowels (cut_app H L) k l.vowels.length 0 He (by omega)
 simp only [kv_cons,kv_nil,Int.ofNat_zero,List.drop_zero] at hl
 simp (maxSteps:=3000000) (maxDischargeDepth:=6) +contextual -implicitDefEqProofs only [amA M,amB,↓ae,↓aa,↓aj,↓ah,Nat.reduceBEq,Nat.reduceAdd,env,ao,kC,hl,bp,cut_app]
 exact nf _ _ 0 H
end
section
attribute [local congr] aS eF bZ aT bC bk aU aI aJ bm bn
variable{E:bP}(M:dV ei E)
theorem NX(hE:lH E)(o t:bA){H:List ag}{q:Nat}{T:TypeId}(hq:H[q]?=some (.cells t.row T)):M.run jP [.agg o.row,.ptr q 0] H=some (.ret (.bool (o.name == t.name)),H):=by
 rw [aK M hE.morph_checker_trait_1 rfl (c:=mT) rfl,mT]
 simp (maxSteps:=3000000) (maxDischargeDepth:=6) +contextual -implicitDefEqProofs only [amA M,amB,↓ae,↓aa,↓aj,↓ah,Nat.reduceBEq,Nat.reduceAdd,env,ao,Aw,pa,hq,cC hq]
def SX(t:bA)(k:Nat)(v:Str):Int:=sel (!EO v) 5 (sel ((t.values.l.take k).any fun s=>v == s) 6 0)
theorem trl{H H0:List ag}(hN:bq E)(hE:lH E){t:bA}{n0:Nat}(ht:t.ok n0){p:Nat}{T:TypeId}(hp:H[p]?=some (.cells t.row T))(hc:bU H0 H)(k:List Fra):∀ (n i:Nat) (He:List ag),i+n=(t.values.l).length →
  M.go dC H0 (.c iF :: .lp ⟨(some [5,33,34,35]),[],false⟩ iF He :: .blk 1 :: .c (.lv [])::k) (kv [(5,.ptr p 0),(33,.slice t.values.tag 1 (t.values.l.map dR)),(34,.int .i64 t.values.l.length),(35,.int .i64 i)]) H =
   orE (bN (qF (SX t)) i (t.values.l.drop i)) (H.take H0.length) (M.go dC H0 k .leaf H)
 |0,i,He,h=>by
  have e:i=(t.values.l).length:=by omega
  subst e
  rw [aq M iF.eq_1]
  simp (maxSteps:=3000000) (maxDischargeDepth:=6) +contextual -implicitDefEqProofs only [amA M,amB,↓ae,↓aa,↓aj,↓ah,Nat.reduceBEq,Nat.reduceAdd,env,ao,pG,Nat.lt_irrefl,List.drop_length]
 |n+1,i,He,h=>by
  have hi:i<(t.values.l).length:=by omega
  have hx:(t.values.l)[i]?=some (t.values.l)[i]:=List.getElem?_eq_getElem hi
  have hd:((t.values.l).drop i)=(t.values.l)[i]::(t.values.l).drop (i+1):=List.drop_eq_getElem_cons hi
  have hm:(t.values.l)[i]∈(t.values.l):=List.getElem_mem hi
  have ih:=fun He=>trl (H:=H) (H0:=H0) (hN:=hN) (hE:=hE) (t:=t) (n0:=n0) (ht:=ht) (p:=p) (T:=T) (hp:=hp) hc k n (i+1)  He (by omega)
  simp only [kv_cons,kv_nil] at ih
  rw [aq M iF.eq_1]
  simp (maxSteps:=3000000) (maxDischargeDepth:=6) +contextual -implicitDefEqProofs only [amA M,amB,↓ae,↓aa,↓aj,↓ah,Nat.reduceBEq,Nat.reduceAdd,env,ao,pG,hx,hd,hi,ih,bt hi ht.values.len,aC hi,KM,pa,hp,JT M hN (ht.values.all _ hm),G2 hi,BO M hE (As ht.values.len i),hc,l4,SX,qE]
def Hs(l:Lex)(i:Nat)(t:bA):Int:=
 sel (!EO t.name) 5 (sel ((l.traits.l.take i).any fun o=>o.name == t.name) 6 (sel (decide ((8:Int)<(t.values.l.length:Int))) 3 (sel ((t.values.l.length:Int) == 0) 1 (vu (SX t) 0 t.values.l))))
theorem sw{α:Type}(F:Nat→α→Int)(l:List α)(H:List ag):orE (bN (qF F) 0 l) H (some (.ret (.int .u8 0),H))=some (.ret (.int .u8 (vu F 0 l)),H):=nf F l 0 H
theorem qc(b:Bool)(x y:Int):sel b (AV.int .u8 x) (AV.int .u8 y) = .int .u8 (sel b x y):=by cases b<;>rfl
theorem Rr(hN:bq E)(hE:lH E){l:Lex}{t:bA}{n:Nat}(hl:l.ok n)(ht:t.ok n){i:Nat}(hi:i<l.traits.l.length)(H:List ag) :
  M.run kY [.agg l.row,.int .i64 i,.agg t.row] H=some (.ret (.int .u8 (Hs l i t)),H):=by
 rw [aK M hE.morph_checker_trait rfl (c:=pF) rfl,pF]
 have hq:(H++[ag.cells l.row bw,.cells t.row gr])[H.length+1]?=some (.cells t.row gr):=by rw [hp_getk];rfl
 have hcf:=BJ M hE.slices_IndexFunc_api_Trait_api_Trait hE.slices_ContainsFunc_api_Trait_api_Trait (g:=jP) (fr:=[]) (cap:=[.ptr (H.length+1) 0]) (p:=fun o=>o.name == t.name) (tg:=.any) (As hl.traits.len i) (fun x _=>NX M hE x t hq)
 have hlp:=fun k He=>trl M hN hE ht hq (cut_app H _) k t.values.l.length 0 He (by omega)
 simp only [kv_cons,kv_nil,Int.ofNat_zero,List.drop_zero] at hlp
 simp (maxSteps:=3000000) (maxDischargeDepth:=6) +contextual -implicitDefEqProofs only [amA M,amB,↓ae,↓aa,↓aj,↓ah,Nat.reduceBEq,Nat.reduceAdd,env,ao,pG,hlp,hcf,bp,pa,G2 hi,JT M hN ht.name,cut_app,sw,qc,Hs]
theorem J5(hE:lH E)(t:bA)(f:aw){H:List ag}{q:Nat}{T:TypeId}(hq:H[q]?=some (.cells f.row T)):M.run iT [.agg t.row,.ptr q 0] H=some (.ret (.bool (t.name == f.name)),H):=by
 rw [aK M hE.morph_checker_bundle_1_1 rfl (c:=kO) rfl,kO]
 simp (maxSteps:=3000000) (maxDischargeDepth:=6) +contextual -implicitDefEqProofs only [amA M,amB,↓ae,↓aa,↓aj,↓ah,Nat.reduceBEq,Nat.reduceAdd,env,ao,xn,pa,qn,hq,cC hq]
end
section
attribute [local congr] aS eF bZ aT bC bk aU aI aJ bm bn
variable{E:bP}(M:dV ei E)
def Dt{α:Type}(l:List α)(q:α→Bool):Nat→Bool
 |0=>false
 |i+1=>match l[i]? with
  |some g=>q g
  |none=>false
theorem nE{α:Type}{l:List α}{i:Nat}{g:α}(h:l[i]?=some g)(q:α→Bool):Dt l q (i+1)=q g:=by simp only [Dt,h]
theorem VM:decide ((0:Int)<((0:Nat):Int))=false:=rfl
theorem VN(j:Nat):decide ((0:Int)<((j+1:Nat):Int))=true:=decide_eq_true (by omega)
theorem IP(j:Nat):decide (((j:Nat):Int)<0)=false:=decide_eq_false (by omega)
theorem Uh:decide ((-1:Int)<0)=true:=rfl
def J6(l:Lex)(b:List aw)(i:Nat)(f:aw):Int:=
 match l.traits.l.find? fun t=>t.name == f.name with
 |none=>5
 |some t=>sel (!(t.values.l.any fun s=>f.value == s)) 1 (sel (Dt b (fun g=>g.name == f.name) i) 6 (sel (Dt b (fun g => !(Op.bytesLess g.name f.name||g.name == f.name)) i) 1 0))
theorem MR(hE:lH E){l:Lex}{b:List aw}{tg:Tag}{n:Nat}(hl:l.ok n)(hb:b.length≤aZ){i:Nat}{f:aw}(hf:b[i]?=some f){H:List ag}{p q:Nat}{T T2:TypeId}
  (hp:H[p]?=some (.cells l.row T)) (hq:H[q]?=some (.cells [.slice tg 2 (b.map aw.row)] T2)) :
  M.run jy [.int .i64 i,.agg f.row,.ptr p 0,.ptr q 0] H=some (.ret (.int .u8 (J6 l b i f)),H):=by
 rw [aK M hE.morph_checker_bundle_1 rfl (c:=mq) rfl,mq]
 have hi:i<b.length:=(List.getElem?_eq_some_iff.1 hf).1
 have hr:(H++[ag.cells f.row aR])[H.length]?=some (.cells f.row aR):=by rw [cS];rfl
 have hp':=fun L=>cC (L:=L) hp
 have hq':=fun L=>cC (L:=L) hq
 have hcf:=wb M hE.slices_IndexFunc_api_Trait_api_Trait (g:=iT) (fr:=[]) (cap:=[.ptr H.length 0]) (p:=fun t=>t.name == f.name) (tg:=l.traits.tag) hl.traits.len (fun x _=>J5 M hE x f hr)
 rcases oD (fun t:bA=>t.name == f.name) l.traits.l 0 with ⟨h1,h2⟩ | ⟨j,t,h1,h2,h3⟩
 ·rw [h1] at hcf
  simp (maxSteps:=3000000) (maxDischargeDepth:=6) +contextual -implicitDefEqProofs only [amA M,amB,↓ae,↓aa,↓aj,↓ah,Nat.reduceBEq,Nat.reduceAdd,env,ao,mr,hcf,bp,qn,hp',hq',J6,h2,Uh]
 ·rw [h1,Nat.zero_add] at hcf
  have hj:j<l.traits.l.length:=(List.getElem?_eq_some_iff.1 h2).1
  have hm:t∈l.traits.l:=List.mem_of_getElem? h2
  cases i with
  |zero=>
   simp (maxSteps:=3000000) (maxDischargeDepth:=6) +contextual -implicitDefEqProofs only [amA M,amB,↓ae,↓aa,↓aj,↓ah,Nat.reduceBEq,Nat.reduceAdd,env,ao,mr,hcf,bp,qn,pa,hp',hq',J6,h2,h3,IP,VM,Dt,aC hj,BO M hE (hl.traits.all t hm).values.len,qc]
  |succ i=>
   have hx:b[i]?=some b[i]:=List.getElem?_eq_getElem (by omega)
   simp (maxSteps:=3000000) (maxDischargeDepth:=6) +contextual -implicitDefEqProofs only [amA M,amB,↓ae,↓aa,↓aj,↓ah,Nat.reduceBEq,Nat.reduceAdd,env,ao,mr,hcf,bp,qn,pa,hp',hq',J6,h2,h3,IP,VN,nE hx,hx,hf,aC hj,aC (show i<b.length by omega),E7 (show i+1≤aZ by omega),BO M hE (hl.traits.all t hm).values.len,qc]
end
section
attribute [local congr] aS eF bZ aT bC bk aU aI aJ bm bn
variable{E:bP}(M:dV ei E)
theorem Ui{b:Sl aw}{n m:Nat}(h:b.ok n (aw.ok n))(hm:n≤m):Wk m (.slice b.tag 2 (b.l.map aw.row)) (.slice b.tag 2 (b.l.map aw.row)):=
 (h.mono hm (fun _ h=>h)).wk (fun _ h=>(h.mono hm).wk)
def qd(l:Lex)(b:List aw):Int:=mA 8 (J6 l b) b
theorem Fu(hE:lH E){l:Lex}{b:Sl aw}{n:Nat}(hl:l.ok n)(hb:b.ok n (aw.ok n)){H:List ag}(hn:n≤H.length) :
  M.run iS [.agg l.row,.slice b.tag 2 (b.l.map aw.row)] H=some (.ret (.int .u8 (qd l b.l)),H):=by
 rw [aK M hE.morph_checker_bundle rfl (c:=og) rfl,og]
 have he:=KX M hE.morph_each_api_Feat (g:=jy) (fr:=[]) (cap:=[.ptr H.length 0,.ptr (H.length+1) 0]) (F:=J6 l b.l) (tg:=b.tag) (l:=b.l) (H:=H++[.cells l.row bw,.cells [.slice b.tag 2 (b.l.map aw.row)] eZ]) hb.len
  (wk_fn trivial ⟨wk_ptr (by simp),wk_ptr (by simp),trivial⟩) (Ui hb (by simp;omega))
  (fun L i x hx=>MR M hE hl hb.len hx (T:=bw) (T2:=eZ) (by rw [List.append_assoc,cS];rfl) (by rw [List.append_assoc,hp_getk];rfl))
 simp (maxSteps:=3000000) (maxDischargeDepth:=6) +contextual -implicitDefEqProofs only [amA M,amB,↓ae,↓aa,↓aj,↓ah,Nat.reduceBEq,Nat.reduceAdd,env,ao,BC,he 8,bp,qd]
theorem NY(hE:lH E)(o t:aV){H:List ag}{q:Nat}{T:TypeId}(hq:H[q]?=some (.cells t.row T)):M.run jQ [.agg o.row,.ptr q 0] H=some (.ret (.bool (o.name == t.name)),H):=by
 rw [aK M hE.morph_checker_class_1 rfl (c:=mU) rfl,mU]
 simp (maxSteps:=3000000) (maxDischargeDepth:=6) +contextual -implicitDefEqProofs only [amA M,amB,↓ae,↓aa,↓aj,↓ah,Nat.reduceBEq,Nat.reduceAdd,env,ao,Ax,gW,hq,cC hq]
def Du(l:Lex)(s:bD):Int:=
 sel (decide (s.cut<0)||decide (24<s.cut) || !rr jt s.pre || !rr jt s.add) 1 (qd l s.feats.l)
theorem NZ(hN:bq E)(hE:lH E){l:Lex}{s:bD}{n:Nat}(hl:l.ok n)(hs:s.ok n){H:List ag}(hn:n≤H.length){p:Nat}{T:TypeId}(hp:H[p]?=some (.cells l.row T))(i:Int) :
  M.run jR [.int .i64 i,.agg s.row,.ptr p 0] H=some (.ret (.int .u8 (Du l s)),H):=by
 rw [aK M hE.morph_checker_class_2 rfl (c:=mV) rfl,mV]
 have hp':=fun L=>cC (L:=L) hp
 have h1:=fun (H:List ag)=>A4 M hN hE (g:=cM) (fr:=[]) (cap:=[]) hs.pre (fun c=>oC M hN.letter c H)
 have h2:=fun (H:List ag)=>A4 M hN hE (g:=cM) (fr:=[]) (cap:=[]) hs.add (fun c=>oC M hN.letter c H)
 simp (maxSteps:=3000000) (maxDischargeDepth:=6) +contextual -implicitDefEqProofs only [amA M,amB,↓ae,↓aa,↓aj,↓ah,Nat.reduceBEq,Nat.reduceAdd,env,ao,Ay,h1,h2,hp',eU,bp,hn,Fu M hE hl hs.feats,Du,qc,Bool.or_assoc]
def BP(l:Lex)(i:Nat)(c:aV):Int:=
 sel (!EO c.name) 5 (sel ((l.classes.l.take i).any fun o=>o.name == c.name) 6 (sel (decide ((24:Int)<(c.slots.l.length:Int))) 3 (sel ((c.slots.l.length:Int) == 0) 1 (mA 24 (fun _ s=>Du l s) c.slots.l))))
theorem Rs(hN:bq E)(hE:lH E){l:Lex}{c:aV}{n:Nat}(hl:l.ok n)(hc:c.ok n){i:Nat}(hi:i<l.classes.l.length){H:List ag}(hn:n≤H.length) :
  M.run kZ [.agg l.row,.int .i64 i,.agg c.row] H=some (.ret (.int .u8 (BP l i c)),H):=by
 rw [aK M hE.morph_checker_class rfl (c:=pH) rfl,pH]
 have hq:(H++[ag.cells l.row bw,.cells c.row b5])[H.length+1]?=some (.cells c.row b5):=by rw [hp_getk];rfl
 have hcf:=BK M hE.slices_IndexFunc_api_Class_api_Class hE.slices_ContainsFunc_api_Class_api_Class (g:=jQ) (fr:=[]) (cap:=[.ptr (H.length+1) 0]) (p:=fun o=>o.name == c.name) (tg:=.any) (As hl.classes.len i) (fun x _=>NY M hE x c hq)
 have he:=KY M hE.morph_each_api_Slot (g:=jR) (fr:=[]) (cap:=[.ptr H.length 0]) (F:=fun _ s=>Du l s) (tg:=c.slots.tag) (l:=c.slots.l) (H:=H++[.cells l.row bw,.cells c.row b5]) hc.slots.len
  (wk_fn trivial ⟨wk_ptr (by simp),trivial⟩) ((hc.slots.mono (by simp;omega) (fun _ h=>h)).wk (fun _ h=>(h.mono (by simp;omega)).wk))
  (fun L i x hx=>NZ M hN hE hl (hc.slots.all x (List.mem_of_getElem? hx)) (by simp;omega) (T:=bw) (by rw [List.append_assoc,cS];rfl) i)
 simp (maxSteps:=3000000) (maxDischargeDepth:=6) +contextual -implicitDefEqProofs only [amA M,amB,↓ae,↓aa,↓aj,↓ah,Nat.reduceBEq,Nat.reduceAdd,env,ao,Cn,hcf,he 24,bp,gW,G2 hi,JT M hN hc.name,cut_app,qc,BP]
end
section
attribute [local congr] aS eF bZ aT bC bk aU aI aJ bm bn
variable{E:bP}(M:dV ei E)
theorem ES(hE:lH E)(o:aV)(s:Str){H:List ag}{q:Nat}{T:TypeId}(hq:H[q]?=some (.cells [.str s] T)):M.run lQ [.agg o.row,.ptr q 0] H=some (.ret (.bool (o.name == s)),H):=by
 rw [aK M hE.morph_classOf_1 rfl (c:=tx) rfl,tx]
 simp (maxSteps:=3000000) (maxDischargeDepth:=6) +contextual -implicitDefEqProofs only [amA M,amB,↓ae,↓aa,↓aj,↓ah,Nat.reduceBEq,Nat.reduceAdd,env,ao,Gk,gW,hq,cC hq]
def yU(l:Lex)(s:Str):Option aV:=l.classes.l.find? fun c=>c.name == s
def yV:aV:=⟨[],⟨.nil,[]⟩⟩
theorem l5:[AV.str [],.slice .nil 4 []]=yV.row:=rfl
theorem uO(hE:lH E){l:Lex}{s:Str}{n:Nat}(hl:l.ok n)(hf:yU l s=none)(H:List ag) :
  M.run fO [.agg l.row,.str s] H=some (.ret (.tuple [.agg yV.row,.bool false]),H):=by
 rw [aK M hE.morph_classOf rfl (c:=oL) rfl,oL]
 have hcf:=rq M hE.slices_IndexFunc_api_Class_api_Class (g:=lQ) (fr:=[]) (cap:=[.ptr (H.length+1) 0]) (p:=fun c=>c.name == s) (tg:=l.classes.tag) hl.classes.len
  (H:=H++[.cells l.row au,.cells [.str s] bb,.cells yV.row b5]) (fun x _=>ES M hE x s (T:=bb) (by rw [hp_getk];rfl))
 rcases oD (fun c:aV=>c.name == s) l.classes.l 0 with ⟨h1,h2⟩ | ⟨j,t,h1,h2,h3⟩
 ·rw [h1] at hcf
  simp (maxSteps:=3000000) (maxDischargeDepth:=6) +contextual -implicitDefEqProofs only [amA M,amB,↓ae,↓aa,↓aj,↓ah,Nat.reduceBEq,Nat.reduceAdd,env,ao,B5,amG,AV.cell,Nat.reduceMul,Nat.reduceLeDiff,l5,hcf,bp,gW,Uh,qX,(show WkL H.length yV.row yV.row from ⟨wk_str _ _,wk_slice trivial (bV _),trivial⟩)]
 ·exact absurd (hf.symm.trans h3) (by simp)
theorem qR(hE:lH E){l:Lex}{s:Str}{n:Nat}(hl:l.ok n){c:aV}(hf:yU l s=some c){H:List ag}(hn:n≤H.length) :
  M.run fO [.agg l.row,.str s] H=some (.ret (.tuple [.agg c.row,.bool true]),H):=by
 rw [aK M hE.morph_classOf rfl (c:=oL) rfl,oL]
 have hcf:=rq M hE.slices_IndexFunc_api_Class_api_Class (g:=lQ) (fr:=[]) (cap:=[.ptr (H.length+1) 0]) (p:=fun c=>c.name == s) (tg:=l.classes.tag) hl.classes.len
  (H:=H++[.cells l.row au,.cells [.str s] bb,.cells yV.row b5]) (fun x _=>ES M hE x s (T:=bb) (by rw [hp_getk];rfl))
 rcases oD (fun c:aV=>c.name == s) l.classes.l 0 with ⟨h1,h2⟩ | ⟨j,t,h1,h2,h3⟩
 ·exact absurd (hf.symm.trans h2) (by simp)
 ·obtain rfl:c=t:=by have:=hf.symm.trans h3;simpa using this
  rw [h1,Nat.zero_add] at hcf
  have hj:j<l.classes.l.length:=(List.getElem?_eq_some_iff.1 h2).1
  have hw:WkL H.length c.row c.row:=((hl.classes.all c (List.mem_of_getElem? h2)).mono hn).wk
  simp (maxSteps:=3000000) (maxDischargeDepth:=6) +contextual -implicitDefEqProofs only [amA M,amB,↓ae,↓aa,↓aj,↓ah,Nat.reduceBEq,Nat.reduceAdd,env,ao,B5,amG,AV.cell,Nat.reduceMul,Nat.reduceLeDiff,l5,hcf,bp,gW,IP,aC hj,h2,hw]
end
section
attribute [local congr] aS eF bZ aT bC bk aU aI aJ bm bn
variable{E:bP}(M:dV ei E)
def kD(f g:aw):Bool:=f.name == g.name && !(f.value == g.value)
def lI(a b:List aw):Bool:=a.any fun f=>b.any fun g=>kD f g
theorem K5(hE:lH E)(g f:aw){H:List ag}{q:Nat}{T:TypeId}(hq:H[q]?=some (.cells f.row T)):M.run p7 [.agg g.row,.ptr q 0] H=some (.ret (.bool (kD f g)),H):=by
 rw [aK M hE.morph_clash_1_1 rfl (c:=tt) rfl,tt]
 simp (maxSteps:=3000000) (maxDischargeDepth:=6) +contextual -implicitDefEqProofs only [amA M,amB,↓ae,↓aa,↓aj,↓ah,Nat.reduceBEq,Nat.reduceAdd,env,ao,Gi,qn,hq,cC hq,kD]
theorem N0(hE:lH E)(f:aw){b:Sl aw}{n:Nat}(hb:b.l.length≤aZ){H:List ag}{q:Nat}{T:TypeId}(hq:H[q]?=some (.cells [.slice b.tag 2 (b.l.map aw.row)] T)) :
  M.run sa [.agg f.row,.ptr q 0] H=some (.ret (.bool (b.l.any fun g=>kD f g)),H):=by
 rw [aK M hE.morph_clash_1 rfl (c:=vG) rfl,vG]
 have hcf:=uB M hE.slices_IndexFunc_api_Feat_api_Feat hE.slices_ContainsFunc_api_Feat_api_Feat (g:=p7) (fr:=[]) (cap:=[.ptr H.length 0]) (p:=fun g=>kD f g) (tg:=b.tag) hb (H:=H++[.cells f.row aR]) (fun x _=>K5 M hE x f (T:=aR) (by rw [cS];rfl))
 simp (maxSteps:=3000000) (maxDischargeDepth:=6) +contextual -implicitDefEqProofs only [amA M,amB,↓ae,↓aa,↓aj,↓ah,Nat.reduceBEq,Nat.reduceAdd,env,ao,Iy,hcf,qn,cC hq]
theorem Rt(hE:lH E){a b:Sl aw}(ha:a.l.length≤aZ)(hb:b.l.length≤aZ)(H:List ag) :
  M.run u0 [.slice a.tag 2 (a.l.map aw.row),.slice b.tag 2 (b.l.map aw.row)] H=some (.ret (.bool (lI a.l b.l)),H):=by
 rw [aK M hE.morph_clash rfl (c:=zm) rfl,zm]
 have hcf:=uB M hE.slices_IndexFunc_api_Feat_api_Feat hE.slices_ContainsFunc_api_Feat_api_Feat (g:=sa) (fr:=[]) (cap:=[.ptr H.length 0]) (p:=fun f=>b.l.any fun g=>kD f g) (tg:=a.tag) ha (H:=H++[.cells [.slice b.tag 2 (b.l.map aw.row)] eZ]) (fun x _=>N0 M hE x (n:=0) hb (T:=eZ) (by rw [cS];rfl))
 simp (maxSteps:=3000000) (maxDischargeDepth:=6) +contextual -implicitDefEqProofs only [amA M,amB,↓ae,↓aa,↓aj,↓ah,Nat.reduceBEq,Nat.reduceAdd,env,ao,KS,hcf,lI]
theorem N1(hE:lH E)(o x:aQ){H:List ag}{q:Nat}{T:TypeId}(hq:H[q]?=some (.cells x.row T)):M.run jS [.agg o.row,.ptr q 0] H=some (.ret (.bool (o.lem == x.lem&&o.cls == x.cls)),H):=by
 rw [aK M hE.morph_checker_entry_1 rfl (c:=mW) rfl,mW]
 simp (maxSteps:=3000000) (maxDischargeDepth:=6) +contextual -implicitDefEqProofs only [amA M,amB,↓ae,↓aa,↓aj,↓ah,Nat.reduceBEq,Nat.reduceAdd,env,ao,Az,dc,hq,cC hq]
theorem N2(hE:lH E){s:bD}{x:aQ}{n m:Nat}(hs:s.ok n)(hx:x.ok m){H:List ag}{q:Nat}{T:TypeId}(hq:H[q]?=some (.cells x.row T)):M.run jT [.agg s.row,.ptr q 0] H=some (.ret (.bool (lI x.feats.l s.feats.l)),H):=by
 rw [aK M hE.morph_checker_entry_2 rfl (c:=mX) rfl,mX]
 simp (maxSteps:=3000000) (maxDischargeDepth:=6) +contextual -implicitDefEqProofs only [amA M,amB,↓ae,↓aa,↓aj,↓ah,Nat.reduceBEq,Nat.reduceAdd,env,ao,AA,dc,eU,hq,cC hq,Rt M hE hx.feats.len hs.feats.len]
theorem N3(hE:lH E)(o x:bQ){H:List ag}{q:Nat}{T:TypeId}(hq:H[q]?=some (.cells x.row T)):M.run jU [.agg o.row,.ptr q 0] H=some (.ret (.bool (o.slot == x.slot)),H):=by
 rw [aK M hE.morph_checker_entry_3 rfl (c:=mY) rfl,mY]
 simp (maxSteps:=3000000) (maxDischargeDepth:=6) +contextual -implicitDefEqProofs only [amA M,amB,↓ae,↓aa,↓aj,↓ah,Nat.reduceBEq,Nat.reduceAdd,env,ao,AB,Bt,hq,cC hq]
def LU(n:Nat)(l:List bQ)(k:Nat)(f:bQ):Int:=
 sel (decide (f.slot<0)||decide ((n:Int)≤f.slot)) 7 (sel ((l.take k).any fun o=>o.slot == f.slot) 6 (sel (!(f.word == []) && !xL f.word) 1 0))
theorem enl{H H0:List ag}(hN:bq E)(hE:lH E){x:aQ}{c:aV}{n0:Nat}(hx0:x.ok n0)(hn:n0≤H.length){p q:Nat}{T T2:TypeId}(hp:H[p]?=some (.cells x.row T))(hq:H[q]?=some (.cells c.row T2))(hc:bU H0 H)(k:List Fra):∀ (n i:Nat),i+n=(x.forms.l).length →
  M.go dD H0 (.c iG :: .lp ⟨(some [5,7,48,49,50]),[],true⟩ iG H :: .blk 1 :: .c (.lv [])::k) (kv [(5,.ptr p 0),(7,.ptr q 0),(48,.slice x.forms.tag 2 (x.forms.l.map bQ.row)),(49,.int .i64 x.forms.l.length),(50,.int .i64 i)]) H =
   orE (bN (qF (LU c.slots.l.length x.forms.l)) i (x.forms.l.drop i)) (H.take H0.length) (M.go dD H0 k .leaf H)
 |0,i,h=>by
  have e:i=(x.forms.l).length:=by omega
  subst e
  rw [aq M iG.eq_1]
  simp (maxSteps:=3000000) (maxDischargeDepth:=6) +contextual -implicitDefEqProofs only [amA M,amB,↓ae,↓aa,↓aj,↓ah,Nat.reduceBEq,Nat.reduceAdd,env,ao,ll,Nat.lt_irrefl,List.drop_length]
 |n+1,i,h=>by
  have hi:i<(x.forms.l).length:=by omega
  have hx:(x.forms.l)[i]?=some (x.forms.l)[i]:=List.getElem?_eq_getElem hi
  have hd:((x.forms.l).drop i)=(x.forms.l)[i]::(x.forms.l).drop (i+1):=List.drop_eq_getElem_cons hi
  have hm:(x.forms.l)[i]∈(x.forms.l):=List.getElem_mem hi
  have ih:=enl (H:=H) (H0:=H0) (hN:=hN) (hE:=hE) (x:=x) (c:=c) (n0:=n0) (hx0:=hx0) (hn:=hn) (p:=p) (q:=q) (T:=T) (T2:=T2) (hp:=hp) (hq:=hq) hc k n (i+1)  (by omega)
  simp only [kv_cons,kv_nil] at ih
  have hp':=fun L=>cC (L:=L) hp
  have hq':=fun L=>cC (L:=L) hq
  have w1:Wk H.length (.ptr p 0) (.ptr p 0):=wk_ptr (List.getElem?_eq_some_iff.1 hp).1
  have w2:Wk H.length (.ptr q 0) (.ptr q 0):=wk_ptr (List.getElem?_eq_some_iff.1 hq).1
  have w3:Wk H.length (.slice x.forms.tag 2 (x.forms.l.map bQ.row)) (.slice x.forms.tag 2 (x.forms.l.map bQ.row)):=(hx0.forms.mono hn (fun _ h=>h.mono hn)).wk (fun _ h=>h.wk)
  have hcf:=BM M hE.slices_IndexFunc_api_Irregular_api_Irregular hE.slices_ContainsFunc_api_Irregular_api_Irregular (g:=jU) (fr:=[]) (cap:=[.ptr H.length 0]) (p:=fun o=>o.slot == x.forms.l[i].slot) (tg:=.any) (As hx0.forms.len i) (H:=H++[.cells x.forms.l[i].row dQ]) (fun o _=>N3 M hE o _ (T:=dQ) (by rw [cS];rfl))
  rw [aq M iG.eq_1]
  simp (maxSteps:=3000000) (maxDischargeDepth:=6) +contextual -implicitDefEqProofs only [amA M,amB,↓ae,↓aa,↓aj,↓ah,Nat.reduceBEq,Nat.reduceAdd,env,ao,ll,hx,hd,hi,ih,amG,AV.cell,hp',hq',w1,w2,w3,hcf,bt hi hx0.forms.len,aC hi,Bt,dc,gW,Hq M hN (hx0.forms.all _ hm).word,G2 hi,hc,l4,LU,qE]
end
section
attribute [local congr] aS eF bZ aT bC bk aU aI aJ bm bn
variable{E:bP}(M:dV ei E)
def zC(l:Lex)(i:Nat)(x:aQ):Int:=
 match yU l x.cls with
 |none=>sel (!xL x.lem) 1 5
 |some c=>sel (!xL x.lem) 1 (sel ((l.entries.l.take i).any fun o=>o.lem == x.lem&&o.cls == x.cls) 6 (sel (!(qd l x.feats.l == 0)) (qd l x.feats.l)
   (sel (c.slots.l.any fun s=>lI x.feats.l s.feats.l) 10 (vu (LU c.slots.l.length x.forms.l) 0 x.forms.l))))
theorem Ru(hN:bq E)(hE:lH E){l:Lex}{x:aQ}{n:Nat}(hl:l.ok n)(hx:x.ok n){i:Nat}(hi:i<l.entries.l.length){H:List ag}(hn:n≤H.length) :
  M.run k6 [.agg l.row,.int .i64 i,.agg x.row] H=some (.ret (.int .u8 (zC l i x)),H):=by
 rw [aK M hE.morph_checker_entry rfl (c:=pI) rfl,pI]
 cases hc:yU l x.cls with
 |none=>
  have h1:=fun H=>uO M hE hl hc H
  simp (maxSteps:=3000000) (maxDischargeDepth:=6) +contextual -implicitDefEqProofs only [amA M,amB,↓ae,↓aa,↓aj,↓ah,Nat.reduceBEq,Nat.reduceAdd,env,ao,ll,amG,AV.cell,Nat.reduceMul,Nat.reduceLeDiff,h1,bp,dc,gW,l5,Hq M hN hx.lem,zC,hc,qc]
 |some c=>
  have hcm:c∈l.classes.l:=List.mem_of_find?_eq_some hc
  have hco:=hl.classes.all c hcm
  have h2:=BN M hE.slices_IndexFunc_api_Entry_api_Entry hE.slices_ContainsFunc_api_Entry_api_Entry (g:=jS) (fr:=[]) (cap:=[.ptr (H.length+1) 0]) (p:=fun o=>o.lem == x.lem&&o.cls == x.cls) (tg:=.any) (As hl.entries.len i) (H:=H++[.cells l.row bw,.cells x.row b6,.cells c.row b5]) (fun o _=>N1 M hE o x (T:=b6) (by rw [hp_getk];rfl))
  have h3:=Cy M hE.slices_IndexFunc_api_Slot_api_Slot hE.slices_ContainsFunc_api_Slot_api_Slot (g:=jT) (fr:=[]) (cap:=[.ptr (H.length+1) 0]) (p:=fun s=>lI x.feats.l s.feats.l) (tg:=c.slots.tag) hco.slots.len (H:=H++[.cells l.row bw,.cells x.row b6,.cells c.row b5]) (fun s hs=>N2 M hE (hco.slots.all s hs) hx (T:=b6) (by rw [hp_getk];rfl))
  have h4:=fun k=>enl M hN hE (H:=H++[.cells l.row bw,.cells x.row b6,.cells c.row b5]) (H0:=H) hx (by simp;omega) (c:=c) (p:=H.length+1) (q:=H.length+2) (T:=b6) (T2:=b5) (by rw [hp_getk];rfl) (by rw [hp_getk];rfl) (cut_app H _) k x.forms.l.length 0 (by omega)
  simp only [kv_cons,kv_nil,Int.ofNat_zero,List.drop_zero] at h4
  simp (maxSteps:=3000000) (maxDischargeDepth:=6) +contextual -implicitDefEqProofs only [amA M,amB,↓ae,↓aa,↓aj,↓ah,Nat.reduceBEq,Nat.reduceAdd,env,ao,ll,amG,AV.cell,Nat.reduceMul,Nat.reduceLeDiff,qR M hE hl hc,hn,h2,h3,h4,bp,dc,gW,Hq M hN hx.lem,Fu M hE hl hx.feats,G2 hi,zC,hc,qc,sw]
def uP(x:br):Int:=
 sel (x.frm == [] || !rr ER x.frm || !rr ER x.to || !rr Ic x.left || !rr Ic x.right) 1 0
theorem N4(hN:bq E)(hE:lH E){l:Lex}{x:br}{n:Nat}(hx:x.ok n)(i:Int)(H:List ag) :
  M.run k7 [.agg l.row,.int .i64 i,.agg x.row] H=some (.ret (.int .u8 (uP x)),H):=by
 rw [aK M hE.morph_checker_spell rfl (c:=pJ) rfl,pJ]
 have h1:=fun (H:List ag) (s:Str) hs=>A4 M hN hE (g:=mG) (fr:=[]) (cap:=[]) (s:=s) hs (fun c=>J4 M hN hE c H)
 have h2:=fun (H:List ag) (s:Str) hs=>A4 M hN hE (g:=qu) (fr:=[]) (cap:=[]) (s:=s) hs (fun c=>Pn M hN hE c H)
 simp (maxSteps:=3000000) (maxDischargeDepth:=6) +contextual -implicitDefEqProofs only [amA M,amB,↓ae,↓aa,↓aj,↓ah,Nat.reduceBEq,Nat.reduceAdd,env,ao,Co,h1,h2,hx.frm,hx.to,hx.left,hx.right,bp,l9,uP,qc,Bool.or_assoc]
def GA(l:Lex)(x:eI):Int:=
 match yU l x.cls with
 |none=>5
 |some _=>sel (!rr jt x.glue) 1 (qd l x.feats.l)
theorem Pp(hN:bq E)(hE:lH E){l:Lex}{x:eI}{n:Nat}(hl:l.ok n)(hx:x.ok n)(i:Int){H:List ag}(hn:n≤H.length) :
  M.run lP [.agg l.row,.int .i64 i,.agg x.row] H=some (.ret (.int .u8 (GA l x)),H):=by
 rw [aK M hE.morph_checker_link rfl (c:=qA) rfl,qA]
 have h1:=fun (H:List ag)=>A4 M hN hE (g:=cM) (fr:=[]) (cap:=[]) hx.glue (fun c=>oC M hN.letter c H)
 cases hc:yU l x.cls with
 |none=>
  have h2:=fun H=>uO M hE hl hc H
  simp (maxSteps:=3000000) (maxDischargeDepth:=6) +contextual -implicitDefEqProofs only [amA M,amB,↓ae,↓aa,↓aj,↓ah,Nat.reduceBEq,Nat.reduceAdd,env,ao,vh,amG,AV.cell,Nat.reduceMul,Nat.reduceLeDiff,h2,bp,LG,gW,l5,GA,hc,qc]
 |some c=>
  simp (maxSteps:=3000000) (maxDischargeDepth:=6) +contextual -implicitDefEqProofs only [amA M,amB,↓ae,↓aa,↓aj,↓ah,Nat.reduceBEq,Nat.reduceAdd,env,ao,vh,amG,AV.cell,Nat.reduceMul,Nat.reduceLeDiff,qR M hE hl hc,hn,h1,bp,LG,gW,Fu M hE hl hx.feats,GA,hc,qc]
end
section
attribute [local congr] aS eF bZ aT bC bk aU aI aJ bm bn
variable{E:bP}(M:dV ei E)
def zD(l:Lex):Int:=mA 8 (Hs l) l.traits.l
theorem N5(hN:bq E)(hE:lH E){l:Lex}{n:Nat}(hl:l.ok n){H:List ag}(hn:n≤H.length){p q:Nat}{T T2:TypeId}(hp:H[p]?=some (.cells l.row T))(hq:H[q]?=some (.cells l.row T2)) :
  M.run sb [.ptr p 0,.ptr q 0] H=some (.ret (.int .u8 (zD l)),H):=by
 rw [aK M hE.morph_Check_1 rfl (c:=vH) rfl,vH]
 have he:=JX M hE.morph_each_api_Trait (g:=kY) (fr:=[.agg l.row]) (cap:=[]) (F:=Hs l) (tg:=l.traits.tag) (l:=l.traits.l) (H:=H) hl.traits.len
  (wk_fn ⟨wk_agg (hl.mono hn).wk,trivial⟩ trivial) ((hl.traits.mono hn (fun _ h=>h.mono hn)).wk (fun _ h=>h.wk))
  (fun L i x hx=>Rr M hN hE hl (hl.traits.all x (List.mem_of_getElem? hx)) (List.getElem?_eq_some_iff.1 hx).1 _)
 simp (maxSteps:=3000000) (maxDischargeDepth:=6) +contextual -implicitDefEqProofs only [amA M,amB,↓ae,↓aa,↓aj,↓ah,Nat.reduceBEq,Nat.reduceAdd,env,ao,IA,he 8,bp,hp,hq,zD]
def uQ(l:Lex):Int:=mA 16 (BP l) l.classes.l
theorem N6(hN:bq E)(hE:lH E){l:Lex}{n:Nat}(hl:l.ok n){H:List ag}(hn:n≤H.length){p q:Nat}{T T2:TypeId}(hp:H[p]?=some (.cells l.row T))(hq:H[q]?=some (.cells l.row T2)) :
  M.run sc [.ptr p 0,.ptr q 0] H=some (.ret (.int .u8 (uQ l)),H):=by
 rw [aK M hE.morph_Check_2 rfl (c:=vI) rfl,vI]
 have he:=JZ M hE.morph_each_api_Class (g:=kZ) (fr:=[.agg l.row]) (cap:=[]) (F:=BP l) (tg:=l.classes.tag) (l:=l.classes.l) (H:=H) hl.classes.len
  (wk_fn ⟨wk_agg (hl.mono hn).wk,trivial⟩ trivial) ((hl.classes.mono hn (fun _ h=>h.mono hn)).wk (fun _ h=>h.wk))
  (fun L i x hx=>Rs M hN hE hl (hl.classes.all x (List.mem_of_getElem? hx)) (List.getElem?_eq_some_iff.1 hx).1 (by simp;omega))
 simp (maxSteps:=3000000) (maxDischargeDepth:=6) +contextual -implicitDefEqProofs only [amA M,amB,↓ae,↓aa,↓aj,↓ah,Nat.reduceBEq,Nat.reduceAdd,env,ao,IB,he 16,bp,hp,hq,uQ]
def xM(l:Lex):Int:=mA 128 (zC l) l.entries.l
theorem N7(hN:bq E)(hE:lH E){l:Lex}{n:Nat}(hl:l.ok n){H:List ag}(hn:n≤H.length){p q:Nat}{T T2:TypeId}(hp:H[p]?=some (.cells l.row T))(hq:H[q]?=some (.cells l.row T2)) :
  M.run sd [.ptr p 0,.ptr q 0] H=some (.ret (.int .u8 (xM l)),H):=by
 rw [aK M hE.morph_Check_3 rfl (c:=vJ) rfl,vJ]
 have he:=J1 M hE.morph_each_api_Entry (g:=k6) (fr:=[.agg l.row]) (cap:=[]) (F:=zC l) (tg:=l.entries.tag) (l:=l.entries.l) (H:=H) hl.entries.len
  (wk_fn ⟨wk_agg (hl.mono hn).wk,trivial⟩ trivial) ((hl.entries.mono hn (fun _ h=>h.mono hn)).wk (fun _ h=>h.wk))
  (fun L i x hx=>Ru M hN hE hl (hl.entries.all x (List.mem_of_getElem? hx)) (List.getElem?_eq_some_iff.1 hx).1 (by simp;omega))
 simp (maxSteps:=3000000) (maxDischargeDepth:=6) +contextual -implicitDefEqProofs only [amA M,amB,↓ae,↓aa,↓aj,↓ah,Nat.reduceBEq,Nat.reduceAdd,env,ao,IC,he 128,bp,hp,hq,xM]
def zE(l:Lex):Int:=mA 16 (fun _ x=>uP x) l.spells.l
theorem N8(hN:bq E)(hE:lH E){l:Lex}{n:Nat}(hl:l.ok n){H:List ag}(hn:n≤H.length){p q:Nat}{T T2:TypeId}(hp:H[p]?=some (.cells l.row T))(hq:H[q]?=some (.cells l.row T2)) :
  M.run se [.ptr p 0,.ptr q 0] H=some (.ret (.int .u8 (zE l)),H):=by
 rw [aK M hE.morph_Check_4 rfl (c:=vK) rfl,vK]
 have he:=J3 M hE.morph_each_api_Spell (g:=k7) (fr:=[.agg l.row]) (cap:=[]) (F:=fun _ x=>uP x) (tg:=l.spells.tag) (l:=l.spells.l) (H:=H) hl.spells.len
  (wk_fn ⟨wk_agg (hl.mono hn).wk,trivial⟩ trivial) ((hl.spells.mono hn (fun _ h=>h.mono hn)).wk (fun _ h=>h.wk))
  (fun L i x hx=>N4 M hN hE (hl.spells.all x (List.mem_of_getElem? hx)) i _)
 simp (maxSteps:=3000000) (maxDischargeDepth:=6) +contextual -implicitDefEqProofs only [amA M,amB,↓ae,↓aa,↓aj,↓ah,Nat.reduceBEq,Nat.reduceAdd,env,ao,ID,he 16,bp,hp,hq,zE]
def BQ(l:Lex):Int:=mA 8 (fun _ x=>GA l x) l.links.l
theorem N9(hN:bq E)(hE:lH E){l:Lex}{n:Nat}(hl:l.ok n){H:List ag}(hn:n≤H.length){p q:Nat}{T T2:TypeId}(hp:H[p]?=some (.cells l.row T))(hq:H[q]?=some (.cells l.row T2)) :
  M.run sf [.ptr p 0,.ptr q 0] H=some (.ret (.int .u8 (BQ l)),H):=by
 rw [aK M hE.morph_Check_5 rfl (c:=vL) rfl,vL]
 have he:=KZ M hE.morph_each_api_Link (g:=lP) (fr:=[.agg l.row]) (cap:=[]) (F:=fun _ x=>GA l x) (tg:=l.links.tag) (l:=l.links.l) (H:=H) hl.links.len
  (wk_fn ⟨wk_agg (hl.mono hn).wk,trivial⟩ trivial) ((hl.links.mono hn (fun _ h=>h.mono hn)).wk (fun _ h=>h.wk))
  (fun L i x hx=>Pp M hN hE hl (hl.links.all x (List.mem_of_getElem? hx)) i (by simp;omega))
 simp (maxSteps:=3000000) (maxDischargeDepth:=6) +contextual -implicitDefEqProofs only [amA M,amB,↓ae,↓aa,↓aj,↓ah,Nat.reduceBEq,Nat.reduceAdd,env,ao,IE,he 8,bp,hp,hq,BQ]
structure Clo where
 g:Nat
 fr:List AV
 cap:List AV
 e:Int
def Clo.row(x:Clo):List AV:=[.fn (.func x.g) x.fr x.cap]
theorem Wg:(∀ x:Clo,dK none x.row 0=some (.fn (.func x.g) x.fr x.cap)):=fun _=>rfl
theorem fst{H H0:List ag}{tg:Tag}{l:List Clo}(hs:l.length≤aZ)(hp:∀ x∈l,M.run x.g (x.fr++x.cap) H=some (.ret (.int .u8 x.e),H))(hc:bU H0 H)(k:List Fra):∀ (n i:Nat) (He:List ag),i+n=l.length →
  M.go jA H0 (.c oK :: .lp ⟨(some [6,7,8]),[],false⟩ oK He :: .blk 0 :: .c (.lv [])::k) (kv [(6,.slice tg 1 (l.map Clo.row)),(7,.int .i64 l.length),(8,.int .i64 i)]) H =
   orE (bN (qF fun _ x=>x.e) i (l.drop i)) (H.take H0.length) (M.go jA H0 k .leaf H)
 |0,i,He,h=>by
  have e:i=l.length:=by omega
  subst e
  rw [aq M oK.eq_1]
  simp (maxSteps:=3000000) (maxDischargeDepth:=6) +contextual -implicitDefEqProofs only [amA M,amB,↓ae,↓aa,↓aj,↓ah,Nat.reduceBEq,Nat.reduceAdd,env,ao,zt,Nat.lt_irrefl,List.drop_length]
 |n+1,i,He,h=>by
  have hi:i<l.length:=by omega
  have hx:l[i]?=some l[i]:=List.getElem?_eq_getElem hi
  have hd:(l.drop i)=l[i]::l.drop (i+1):=List.drop_eq_getElem_cons hi
  have hm:l[i]∈l:=List.getElem_mem hi
  have ih:=fun He=>fst (H:=H) (H0:=H0) (tg:=tg) (l:=l) (hs:=hs) (hp:=hp) hc k n (i+1)  He (by omega)
  simp only [kv_cons,kv_nil] at ih
  rw [aq M oK.eq_1]
  simp (maxSteps:=3000000) (maxDischargeDepth:=6) +contextual -implicitDefEqProofs only [amA M,amB,↓ae,↓aa,↓aj,↓ah,Nat.reduceBEq,Nat.reduceAdd,env,ao,zt,hx,hd,hi,ih,hp _ hm,bt hi hs,aC hi,Wg,hc,qF]
theorem Rv(hE:lH E){tg:Tag}{l:List Clo}(hs:l.length≤aZ){H:List ag}(hp:∀ x∈l,M.run x.g (x.fr++x.cap) H=some (.ret (.int .u8 x.e),H)) :
  M.run za [.slice tg 1 (l.map Clo.row)] H=some (.ret (.int .u8 (vu (fun _ x=>x.e) 0 l)),H):=by
 rw [aK M hE.morph_first rfl (c:=zr) rfl,zr]
 have hl:=fun k He=>fst M (tg:=tg) hs hp (cut_refl H) k l.length 0 He (by omega)
 simp only [kv_cons,kv_nil,Int.ofNat_zero,List.drop_zero] at hl
 simp (maxSteps:=3000000) (maxDischargeDepth:=6) +contextual -implicitDefEqProofs only [amA M,amB,↓ae,↓aa,↓aj,↓ah,Nat.reduceBEq,Nat.reduceAdd,env,ao,zt,hl]
 exact nf _ l 0 H
def bK(l:Lex):Int:=
 vu (fun _ e=>e) 0 [Rq l,zD l,uQ l,xM l,zE l,BQ l]
theorem uR(hN:bq E)(hE:lH E){l:Lex}{n:Nat}(hl:l.ok n){H:List ag}(hn:n≤H.length) :
  M.run rF [.agg l.row] H=some (.ret (.int .u8 (bK l)),H):=by
 rw [aK M hE.morph_Check rfl (c:=zq) rfl,zq]
 have hf:=Rv M hE (tg:=.full) (H:=H++[.cells l.row au,.cells l.row bw])
  (l:=[⟨ko,[.agg l.row],[],Rq l⟩,⟨sb,[],[.ptr H.length 0,.ptr (H.length+1) 0],zD l⟩,⟨sc,[],[.ptr H.length 0,.ptr (H.length+1) 0],uQ l⟩,
   ⟨sd,[],[.ptr H.length 0,.ptr (H.length+1) 0],xM l⟩,⟨se,[],[.ptr H.length 0,.ptr (H.length+1) 0],zE l⟩,⟨sf,[],[.ptr H.length 0,.ptr (H.length+1) 0],BQ l⟩]) (by simp [aZ]) (by
  have h0:(H++[ag.cells l.row au,.cells l.row bw])[H.length]?=some (.cells l.row au):=by rw [cS];rfl
  have h1:(H++[ag.cells l.row au,.cells l.row bw])[H.length+1]?=some (.cells l.row bw):=by rw [hp_getk];rfl
  have h2:n≤(H++[ag.cells l.row au,.cells l.row bw]).length:=by simp;omega
  intro x hx
  simp only [List.mem_cons,List.not_mem_nil,or_false] at hx
  rcases hx with rfl | rfl | rfl | rfl | rfl | rfl
  ·exact Po M hN hE hl _
  ·exact N5 M hN hE hl h2 h0 h1
  ·exact N6 M hN hE hl h2 h0 h1
  ·exact N7 M hN hE hl h2 h0 h1
  ·exact N8 M hN hE hl h2 h0 h1
  ·exact N9 M hN hE hl h2 h0 h1)
 simp only [List.map_cons,List.map_nil,Clo.row] at hf
 simp (maxSteps:=3000000) (maxDischargeDepth:=6) +contextual -implicitDefEqProofs only [amA M,amB,↓ae,↓aa,↓aj,↓ah,Nat.reduceBEq,Nat.reduceAdd,env,ao,KT,amG,AV.cell,Nat.reduceMul,Nat.reduceLeDiff,hf,bp]
 rfl
end
section
attribute [local congr] aS eF bZ aT bC bk aU aI aJ bm bn
variable{E:bP}(M:dV ei E)
structure sZ (E:bP):Prop where
 truchmanref02_trait:E.fn k9=some eo
 truchmanref02_Class:E.fn fh=some en
 truchmanref02_in:E.fn nM=some fG
 truchmanref02_bundle:E.fn iR=some dS
 truchmanref02_traits:E.fn nK=some cF
 truchmanref02_classes:E.fn mI=some ct
 truchmanref02_Unify:E.fn kV=some bX
 truchmanref02_entries:E.fn mJ=some aY
 truchmanref02_Check:E.fn gv=some bY
theorem Qq{H H0:List ag}{l:Lex}{n0:Nat}(hl:l.ok n0){v:Str}{p:Nat}{T:TypeId}(hp:H[p]?=some (.cells l.row T))(hc:bU H0 H)(k:List Fra):∀ (n i:Nat) (He:List ag),i+n=(l.traits.l).length →
  M.go eo H0 (.c iJ :: .lp ⟨(some [1,2,5]),[],false⟩ iJ He :: .blk 0 :: .c (.lv [])::k) (kv [(1,.str v),(2,.ptr p 0),(5,.int .i64 i)]) H =
   orE (bN (A3 fun t=>t.name == v) i (l.traits.l.drop i)) (H.take H0.length) (M.go eo H0 k .leaf H)
 |0,i,He,h=>by
  have e:i=(l.traits.l).length:=by omega
  subst e
  rw [aq M iJ.eq_1]
  simp (maxSteps:=3000000) (maxDischargeDepth:=6) +contextual -implicitDefEqProofs only [amA M,amB,↓ae,↓aa,↓aj,↓ah,Nat.reduceBEq,Nat.reduceAdd,env,ao,pQ,Nat.lt_irrefl,List.drop_length,bp,hp]
 |n+1,i,He,h=>by
  have hi:i<(l.traits.l).length:=by omega
  have hx:(l.traits.l)[i]?=some (l.traits.l)[i]:=List.getElem?_eq_getElem hi
  have hd:((l.traits.l).drop i)=(l.traits.l)[i]::(l.traits.l).drop (i+1):=List.drop_eq_getElem_cons hi
  have hm:(l.traits.l)[i]∈(l.traits.l):=List.getElem_mem hi
  have ih:=fun He=>Qq (H:=H) (H0:=H0) (l:=l) (n0:=n0) (hl:=hl) (v:=v) (p:=p) (T:=T) (hp:=hp) hc k n (i+1)  He (by omega)
  simp only [kv_cons,kv_nil] at ih
  rw [aq M iJ.eq_1]
  simp (maxSteps:=3000000) (maxDischargeDepth:=6) +contextual -implicitDefEqProofs only [amA M,amB,↓ae,↓aa,↓aj,↓ah,Nat.reduceBEq,Nat.reduceAdd,env,ao,pQ,hx,hd,hi,ih,bt hi hl.traits.len,aC hi,bp,pa,hp,A3,hc]
theorem J7(hR:sZ E){l:Lex}{n:Nat}(hl:l.ok n)(v:Str)(H:List ag):M.run k9 [.agg l.row,.str v] H=some (.ret (.int .i64 (wH (fun t=>t.name == v) 0 l.traits.l)),H):=by
 rw [aK M hR.truchmanref02_trait rfl (c:=pP) rfl,pP]
 have h1:=fun k He=>Qq M (H:=H++[.cells l.row au]) hl (v:=v) (p:=H.length) (T:=au) (by rw [cS];rfl) (cut_app H _) k l.traits.l.length 0 He (by omega)
 simp only [kv_cons,kv_nil,Int.ofNat_zero,List.drop_zero] at h1
 simp (maxSteps:=3000000) (maxDischargeDepth:=6) +contextual -implicitDefEqProofs only [amA M,amB,↓ae,↓aa,↓aj,↓ah,Nat.reduceBEq,Nat.reduceAdd,env,ao,pQ,h1,cut_app]
 exact o7 _ _ 0 H
theorem Qr{H H0:List ag}{l:Lex}{n0:Nat}(hl:l.ok n0){v:Str}{p:Nat}{T:TypeId}(hp:H[p]?=some (.cells l.row T))(hc:bU H0 H)(k:List Fra):∀ (n i:Nat) (He:List ag),i+n=(l.classes.l).length →
  M.go en H0 (.c iD :: .lp ⟨(some [1,2,5]),[],false⟩ iD He :: .blk 0 :: .c (.lv [])::k) (kv [(1,.str v),(2,.ptr p 0),(5,.int .i64 i)]) H =
   orE (bN (A3 fun t=>t.name == v) i (l.classes.l.drop i)) (H.take H0.length) (M.go en H0 k .leaf H)
 |0,i,He,h=>by
  have e:i=(l.classes.l).length:=by omega
  subst e
  rw [aq M iD.eq_1]
  simp (maxSteps:=3000000) (maxDischargeDepth:=6) +contextual -implicitDefEqProofs only [amA M,amB,↓ae,↓aa,↓aj,↓ah,Nat.reduceBEq,Nat.reduceAdd,env,ao,pE,Nat.lt_irrefl,List.drop_length,bp,hp]
 |n+1,i,He,h=>by
  have hi:i<(l.classes.l).length:=by omega
  have hx:(l.classes.l)[i]?=some (l.classes.l)[i]:=List.getElem?_eq_getElem hi
  have hd:((l.classes.l).drop i)=(l.classes.l)[i]::(l.classes.l).drop (i+1):=List.drop_eq_getElem_cons hi
  have hm:(l.classes.l)[i]∈(l.classes.l):=List.getElem_mem hi
  have ih:=fun He=>Qr (H:=H) (H0:=H0) (l:=l) (n0:=n0) (hl:=hl) (v:=v) (p:=p) (T:=T) (hp:=hp) hc k n (i+1)  He (by omega)
  simp only [kv_cons,kv_nil] at ih
  rw [aq M iD.eq_1]
  simp (maxSteps:=3000000) (maxDischargeDepth:=6) +contextual -implicitDefEqProofs only [amA M,amB,↓ae,↓aa,↓aj,↓ah,Nat.reduceBEq,Nat.reduceAdd,env,ao,pE,hx,hd,hi,ih,bt hi hl.classes.len,aC hi,bp,gW,hp,A3,hc]
theorem xN(hR:sZ E){l:Lex}{n:Nat}(hl:l.ok n)(v:Str)(H:List ag):M.run fh [.agg l.row,.str v] H=some (.ret (.int .i64 (wH (fun t=>t.name == v) 0 l.classes.l)),H):=by
 rw [aK M hR.truchmanref02_Class rfl (c:=pD) rfl,pD]
 have h1:=fun k He=>Qr M (H:=H++[.cells l.row au]) hl (v:=v) (p:=H.length) (T:=au) (by rw [cS];rfl) (cut_app H _) k l.classes.l.length 0 He (by omega)
 simp only [kv_cons,kv_nil,Int.ofNat_zero,List.drop_zero] at h1
 simp (maxSteps:=3000000) (maxDischargeDepth:=6) +contextual -implicitDefEqProofs only [amA M,amB,↓ae,↓aa,↓aj,↓ah,Nat.reduceBEq,Nat.reduceAdd,env,ao,pE,h1,cut_app]
 exact o7 _ _ 0 H
def inF(v:Str):Nat→Str→Option AV:=fun _ s=>sel (v == s) (some (.bool true)) none
theorem Oa(v:Str):∀ (l:List Str) (i:Nat) (H:List ag),orE (bN (inF v) i l) H (some (.ret (.bool false),H))=some (.ret (.bool (l.any fun s=>v == s)),H)
 |[],_,_=>rfl
 |s::l,i,H=>by
  rw [kH,inF,List.any_cons,Gb,DN,C8,C9,Ar,Oa v l]
  cases v == s<;>rfl
theorem BR(a b:Str):(a == b)=(b == a):=BEq.comm
theorem VO{H H0:List ag}{v:Str}{tg:Tag}{l:List Str}(hs:l.length≤aZ)(hc:bU H0 H)(k:List Fra):∀ (n i:Nat) (He:List ag),i+n=l.length →
  M.go fG H0 (.c jM :: .lp ⟨(some [0,1,5]),[],false⟩ jM He :: .blk 0 :: .c (.lv [])::k) (kv [(0,.slice tg 1 (l.map dR)),(1,.str v),(5,.int .i64 i)]) H =
   orE (bN (inF v) i (l.drop i)) (H.take H0.length) (M.go fG H0 k .leaf H)
 |0,i,He,h=>by
  have e:i=l.length:=by omega
  subst e
  rw [aq M jM.eq_1]
  simp (maxSteps:=3000000) (maxDischargeDepth:=6) +contextual -implicitDefEqProofs only [amA M,amB,↓ae,↓aa,↓aj,↓ah,Nat.reduceBEq,Nat.reduceAdd,env,ao,sq,Nat.lt_irrefl,List.drop_length]
 |n+1,i,He,h=>by
  have hi:i<l.length:=by omega
  have hx:l[i]?=some l[i]:=List.getElem?_eq_getElem hi
  have hd:(l.drop i)=l[i]::l.drop (i+1):=List.drop_eq_getElem_cons hi
  have hm:l[i]∈l:=List.getElem_mem hi
  have ih:=fun He=>VO (H:=H) (H0:=H0) (v:=v) (tg:=tg) (l:=l) (hs:=hs) hc k n (i+1)  He (by omega)
  simp only [kv_cons,kv_nil] at ih
  rw [aq M jM.eq_1]
  simp (maxSteps:=3000000) (maxDischargeDepth:=6) +contextual -implicitDefEqProofs only [amA M,amB,↓ae,↓aa,↓aj,↓ah,Nat.reduceBEq,Nat.reduceAdd,env,ao,sq,hx,hd,hi,ih,bt hi hs,aC hi,KM,inF,hc,BR v]
theorem MS(hR:sZ E){v:Str}{tg:Tag}{l:List Str}(hs:l.length≤aZ)(H:List ag):M.run nM [.slice tg 1 (l.map dR),.str v] H=some (.ret (.bool (l.any fun s=>v == s)),H):=by
 rw [aK M hR.truchmanref02_in rfl (c:=so) rfl,so]
 have h1:=fun k He=>VO M (tg:=tg) (v:=v) hs (cut_refl H) k l.length 0 He (by omega)
 simp only [kv_cons,kv_nil,Int.ofNat_zero,List.drop_zero] at h1
 simp (maxSteps:=3000000) (maxDischargeDepth:=6) +contextual -implicitDefEqProofs only [amA M,amB,↓ae,↓aa,↓aj,↓ah,Nat.reduceBEq,Nat.reduceAdd,env,ao,sq,h1]
 exact Oa _ _ 0 H
theorem rbl{H H0:List ag}(hR:sZ E){l:Lex}{n0:Nat}(hl:l.ok n0){b:List aw}{tg:Tag}(hb:b.length≤aZ){p:Nat}{T:TypeId}(hp:H[p]?=some (.cells l.row T))(hc:bU H0 H)(k:List Fra):∀ (n i:Nat) (He:List ag),i+n=b.length →
  M.go dS H0 (.c dX :: .lp ⟨(some [1,2,5]),[],false⟩ dX He :: .blk 0 :: .c (.lv [])::k) (kv [(1,.slice tg 2 (b.map aw.row)),(2,.ptr p 0),(5,.int .i64 i)]) H =
   orE (bN (qF (J6 l b)) i (b.drop i)) (H.take H0.length) (M.go dS H0 k .leaf H)
 |0,i,He,h=>by
  have e:i=b.length:=by omega
  subst e
  rw [aq M dX.eq_1]
  simp (maxSteps:=3000000) (maxDischargeDepth:=6) +contextual -implicitDefEqProofs only [amA M,amB,↓ae,↓aa,↓aj,↓ah,Nat.reduceBEq,Nat.reduceAdd,env,ao,i6,Nat.lt_irrefl,List.drop_length]
 |n+1,i,He,h=>by
  have hi:i<b.length:=by omega
  have hx:b[i]?=some b[i]:=List.getElem?_eq_getElem hi
  have hd:(b.drop i)=b[i]::b.drop (i+1):=List.drop_eq_getElem_cons hi
  have hm:b[i]∈b:=List.getElem_mem hi
  have ih:=fun He=>rbl (H:=H) (H0:=H0) (hR:=hR) (l:=l) (n0:=n0) (hl:=hl) (b:=b) (tg:=tg) (hb:=hb) (p:=p) (T:=T) (hp:=hp) hc k n (i+1)  He (by omega)
  simp only [kv_cons,kv_nil] at ih
  have hcf:=fun H=>J7 M hR hl b[i].name H
  rcases oD (fun t:bA=>t.name == b[i].name) l.traits.l 0 with ⟨h1,h2⟩ | ⟨j,t,h1,h2,h3⟩
  ·rw [h1] at hcf
   rw [aq M dX.eq_1]
   simp (maxSteps:=3000000) (maxDischargeDepth:=6) +contextual -implicitDefEqProofs only [amA M,amB,↓ae,↓aa,↓aj,↓ah,Nat.reduceBEq,Nat.reduceAdd,env,ao,i6,hx,hd,hi,ih,hcf,bp,qn,hp,aC hi,l4,J6,h2,Uh,qE,hc]
  ·rw [h1,Nat.zero_add] at hcf
   have hj:j<l.traits.l.length:=(List.getElem?_eq_some_iff.1 h2).1
   have htm:t∈l.traits.l:=List.mem_of_getElem? h2
   cases i with
   |zero=>
    rw [aq M dX.eq_1]
    simp (maxSteps:=3000000) (maxDischargeDepth:=6) +contextual -implicitDefEqProofs only [amA M,amB,↓ae,↓aa,↓aj,↓ah,Nat.reduceBEq,Nat.reduceAdd,env,ao,i6,hx,hd,hi,ih,hcf,bp,qn,pa,hp,aC hi,SH hi,l4,J6,h2,h3,IP,VM,Dt,qE,hc,aC hj,MS M hR (hl.traits.all t htm).values.len,bt hi hb]
   |succ i=>
    have hx1:b[i]?=some b[i]:=List.getElem?_eq_getElem (by omega)
    rw [aq M dX.eq_1]
    simp (maxSteps:=3000000) (maxDischargeDepth:=6) +contextual -implicitDefEqProofs only [amA M,amB,↓ae,↓aa,↓aj,↓ah,Nat.reduceBEq,Nat.reduceAdd,env,ao,i6,hx,hd,hi,ih,hcf,bp,qn,pa,hp,aC hi,l4,J6,h2,h3,IP,VN,nE hx1,hx1,aC (show i<b.length by omega),E7 (show i+1≤aZ by omega),qE,hc,aC hj,MS M hR (hl.traits.all t htm).values.len,bt hi hb]
theorem yW(hR:sZ E){l:Lex}{b:List aw}{tg:Tag}{n:Nat}(hl:l.ok n)(hb:b.length≤aZ)(H:List ag) :
  M.run iR [.agg l.row,.slice tg 2 (b.map aw.row)] H=some (.ret (.int .u8 (qd l b)),H):=by
 rw [aK M hR.truchmanref02_bundle rfl (c:=nX) rfl,nX]
 have h1:=fun k He=>rbl M hR (H:=H++[.cells l.row au]) hl (tg:=tg) hb (p:=H.length) (T:=au) (by rw [cS];rfl) (cut_app H _) k b.length 0 He (by omega)
 simp only [kv_cons,kv_nil,Int.ofNat_zero,List.drop_zero] at h1
 simp (maxSteps:=3000000) (maxDischargeDepth:=6) +contextual -implicitDefEqProofs only [amA M,amB,↓ae,↓aa,↓aj,↓ah,Nat.reduceBEq,Nat.reduceAdd,env,ao,i6,h1,cut_app,sw,qc,qd,mA]
end
section
attribute [local congr] aS eF bZ aT bC bk aU aI aJ bm bn
variable{E:bP}(M:dV ei E)
theorem SY{α:Type}{p:α→Bool}:∀ {l:List α}{i:Nat}{x:α},l[i]?=some x→p x=true→∀ s:Nat,decide (wH p s l<((s+i:Nat):Int))=(l.take i).any p
 |[],_,_,h,_,_=>by simp at h
 |y::l,0,x,h,hp,s=>by
  obtain rfl:y=x:=by simpa using h
  simp only [wH,hp,sel,List.take_zero,List.any_nil,Nat.add_zero]
  exact decide_eq_false (by omega)
 |y::l,i+1,x,h,hp,s=>by
  rw [List.take_succ_cons,List.any_cons,wH]
  cases hy:p y with
  |true=>simp only [sel,Bool.true_or];exact decide_eq_true (by omega)
  |false=>
   have:=SY (l:=l) (i:=i) (x:=x) (by simpa using h) hp (s+1)
   rw [Bool.false_or,← this]
   simp only [sel]
   congr 2
   omega
theorem Qs{α:Type}{p:α→Bool}{l:List α}{i:Nat}{x:α}(h:l[i]?=some x)(hp:p x=true):decide (wH p 0 l<(i:Int))=(l.take i).any p:=by
 have:=SY h hp 0
 rwa [Nat.zero_add] at this
theorem rtv{H H0:List ag}(hN:bq E)(hR:sZ E){t:bA}{n0:Nat}(ht:t.ok n0){p q:Nat}{T:TypeId}(hq:H[q]?=some (.cells t.row T)){i0:Nat}(hc:bU H0 H)(k:List Fra):∀ (n i:Nat) (He:List ag),i+n=(t.values.l).length →
  M.go cF H0 (.c gI :: .lp ⟨(some [1,3,4,5]),[],false⟩ gI He :: .blk 3 :: .c (.lv [1,3])::k) (kv [(1,.ptr p 0),(3,.int .i64 i0),(4,.ptr q 0),(5,.int .i64 i)]) H =
   orE (bN (qF (SX t)) i (t.values.l.drop i)) (H.take H0.length) (M.go cF H0 k (kv [(1,.ptr p 0),(3,.int .i64 i0)]) H)
 |0,i,He,h=>by
  have e:i=(t.values.l).length:=by omega
  subst e
  rw [aq M gI.eq_1]
  simp (maxSteps:=3000000) (maxDischargeDepth:=6) +contextual -implicitDefEqProofs only [amA M,amB,↓ae,↓aa,↓aj,↓ah,Nat.reduceBEq,Nat.reduceAdd,env,ao,iZ,Nat.lt_irrefl,List.drop_length,pa,hq]
 |n+1,i,He,h=>by
  have hi:i<(t.values.l).length:=by omega
  have hx:(t.values.l)[i]?=some (t.values.l)[i]:=List.getElem?_eq_getElem hi
  have hd:((t.values.l).drop i)=(t.values.l)[i]::(t.values.l).drop (i+1):=List.drop_eq_getElem_cons hi
  have hm:(t.values.l)[i]∈(t.values.l):=List.getElem_mem hi
  have ih:=fun He=>rtv (H:=H) (H0:=H0) (hN:=hN) (hR:=hR) (t:=t) (n0:=n0) (ht:=ht) (p:=p) (q:=q) (T:=T) (hq:=hq) (i0:=i0) hc k n (i+1)  He (by omega)
  simp only [kv_cons,kv_nil] at ih
  rw [aq M gI.eq_1]
  simp (maxSteps:=3000000) (maxDischargeDepth:=6) +contextual -implicitDefEqProofs only [amA M,amB,↓ae,↓aa,↓aj,↓ah,Nat.reduceBEq,Nat.reduceAdd,env,ao,iZ,hx,hd,hi,ih,bt hi ht.values.len,aC hi,pa,KM,hq,Hr M hN (ht.values.all _ hm),G2 hi,MS M hR (As ht.values.len i),l4,SX,qE,hc]
theorem rtr{H H0:List ag}(hN:bq E)(hR:sZ E){l:Lex}{n0:Nat}(hl:l.ok n0){p:Nat}{T:TypeId}(hp:H[p]?=some (.cells l.row T))(hc:bU H0 H)(k:List Fra):∀ (n i:Nat),i+n=(l.traits.l).length →
  M.go cF H0 (.c gJ :: .lp ⟨(some [1,3]),[],true⟩ gJ H :: .blk 0 :: .c (.lv [])::k) (kv [(1,.ptr p 0),(3,.int .i64 i)]) H =
   orE (bN (qF (Hs l)) i (l.traits.l.drop i)) (H.take H0.length) (M.go cF H0 k .leaf H)
 |0,i,h=>by
  have e:i=(l.traits.l).length:=by omega
  subst e
  rw [aq M gJ.eq_1]
  simp (maxSteps:=3000000) (maxDischargeDepth:=6) +contextual -implicitDefEqProofs only [amA M,amB,↓ae,↓aa,↓aj,↓ah,Nat.reduceBEq,Nat.reduceAdd,env,ao,iZ,Nat.lt_irrefl,List.drop_length,bp,hp]
 |n+1,i,h=>by
  have hi:i<(l.traits.l).length:=by omega
  have hx:(l.traits.l)[i]?=some (l.traits.l)[i]:=List.getElem?_eq_getElem hi
  have hd:((l.traits.l).drop i)=(l.traits.l)[i]::(l.traits.l).drop (i+1):=List.drop_eq_getElem_cons hi
  have hm:(l.traits.l)[i]∈(l.traits.l):=List.getElem_mem hi
  have ih:=rtr (H:=H) (H0:=H0) (hN:=hN) (hR:=hR) (l:=l) (n0:=n0) (hl:=hl) (p:=p) (T:=T) (hp:=hp) hc k n (i+1)  (by omega)
  simp only [kv_cons,kv_nil] at ih
  have hp':=fun L=>cC (L:=L) hp
  have w1:Wk H.length (.ptr p 0) (.ptr p 0):=wk_ptr (List.getElem?_eq_some_iff.1 hp).1
  have ht:=hl.traits.all _ hm
  have h0:=fun k He=>rtv M (H:=H++[.cells l.traits.l[i].row gr]) (H0:=H0) hN hR ht (p:=p) (q:=H.length) (T:=gr) (by rw [cS];rfl) (i0:=i) (tj hc _) k l.traits.l[i].values.l.length 0 He (by omega)
  simp only [kv_cons,kv_nil,Int.ofNat_zero,List.drop_zero] at h0
  rw [aq M gJ.eq_1]
  simp (maxSteps:=3000000) (maxDischargeDepth:=6) +contextual -implicitDefEqProofs only [amA M,amB,↓ae,↓aa,↓aj,↓ah,Nat.reduceBEq,Nat.reduceAdd,env,ao,iZ,hx,hd,hi,ih,amG,AV.cell,hp,hp',w1,h0,bt hi hl.traits.len,aC hi,bp,pa,Hr M hN ht.name,J7 M hR hl,Qs (p:=fun t:bA=>t.name == l.traits.l[i].name) hx (by simp),l4,Hs,qE,Gz,hc]
theorem Ie(hN:bq E)(hR:sZ E){l:Lex}{n:Nat}(hl:l.ok n)(H:List ag):M.run nK [.agg l.row] H=some (.ret (.int .u8 (zD l)),H):=by
 rw [aK M hR.truchmanref02_traits rfl (c:=nW) rfl,nW]
 have h1:=fun k=>rtr M hN hR (H:=H++[.cells l.row au]) hl (p:=H.length) (T:=au) (by rw [cS];rfl) (cut_app H _) k l.traits.l.length 0 (by omega)
 simp only [kv_cons,kv_nil,Int.ofNat_zero,List.drop_zero] at h1
 simp (maxSteps:=3000000) (maxDischargeDepth:=6) +contextual -implicitDefEqProofs only [amA M,amB,↓ae,↓aa,↓aj,↓ah,Nat.reduceBEq,Nat.reduceAdd,env,ao,iZ,h1,bp,cut_app,sw,qc,zD,mA]
theorem Ht(s:Str):(!rr jt s)=(!ofF [] s||decide (6<(s.length:Int))):=by
 rw [I0,rr]
 cases s.all jt with
 |false=>simp
 |true=>simp only [Bool.and_true,Bool.not_true,Bool.false_or];rw [Bool.eq_iff_iff];simp
theorem rcs{H H0:List ag}(hN:bq E)(hR:sZ E){l:Lex}{c:aV}{n0:Nat}(hl:l.ok n0)(hco:c.ok n0){p q:Nat}{T T2:TypeId}(hp:H[p]?=some (.cells l.row T))(hq:H[q]?=some (.cells c.row T2)){i0:Nat}(hc:bU H0 H)(k:List Fra):∀ (n i:Nat),i+n=(c.slots.l).length →
  M.go ct H0 (.c fY :: .lp ⟨(some [1,3,4,5]),[],true⟩ fY H :: .blk 3 :: .c (.lv [1,3])::k) (kv [(1,.ptr p 0),(3,.int .i64 i0),(4,.ptr q 0),(5,.int .i64 i)]) H =
   orE (bN (qF fun _ s=>Du l s) i (c.slots.l.drop i)) (H.take H0.length) (M.go ct H0 k (kv [(1,.ptr p 0),(3,.int .i64 i0)]) H)
 |0,i,h=>by
  have e:i=(c.slots.l).length:=by omega
  subst e
  rw [aq M fY.eq_1]
  simp (maxSteps:=3000000) (maxDischargeDepth:=6) +contextual -implicitDefEqProofs only [amA M,amB,↓ae,↓aa,↓aj,↓ah,Nat.reduceBEq,Nat.reduceAdd,env,ao,iC,Nat.lt_irrefl,List.drop_length,gW,hq]
 |n+1,i,h=>by
  have hi:i<(c.slots.l).length:=by omega
  have hx:(c.slots.l)[i]?=some (c.slots.l)[i]:=List.getElem?_eq_getElem hi
  have hd:((c.slots.l).drop i)=(c.slots.l)[i]::(c.slots.l).drop (i+1):=List.drop_eq_getElem_cons hi
  have hm:(c.slots.l)[i]∈(c.slots.l):=List.getElem_mem hi
  have ih:=rcs (H:=H) (H0:=H0) (hN:=hN) (hR:=hR) (l:=l) (c:=c) (n0:=n0) (hl:=hl) (hco:=hco) (p:=p) (q:=q) (T:=T) (T2:=T2) (hp:=hp) (hq:=hq) (i0:=i0) hc k n (i+1)  (by omega)
  simp only [kv_cons,kv_nil] at ih
  have hp':=fun L=>cC (L:=L) hp
  have hq':=fun L=>cC (L:=L) hq
  have w1:Wk H.length (.ptr p 0) (.ptr p 0):=wk_ptr (List.getElem?_eq_some_iff.1 hp).1
  have w2:Wk H.length (.ptr q 0) (.ptr q 0):=wk_ptr (List.getElem?_eq_some_iff.1 hq).1
  have hs:=hco.slots.all _ hm
  have e1:Du l c.slots.l[i]=sel (decide (c.slots.l[i].cut<0)||(decide (24<c.slots.l[i].cut)||(!ofF [] c.slots.l[i].pre||(decide (6<(c.slots.l[i].pre.length:Int))||(!ofF [] c.slots.l[i].add||decide (6<(c.slots.l[i].add.length:Int))))))) 1 (qd l c.slots.l[i].feats.l):=by
   rw [Du,Ht,Ht];simp only [Bool.or_assoc]
  rw [aq M fY.eq_1]
  simp (maxSteps:=3000000) (maxDischargeDepth:=6) +contextual -implicitDefEqProofs only [amA M,amB,↓ae,↓aa,↓aj,↓ah,Nat.reduceBEq,Nat.reduceAdd,env,ao,iC,hx,hd,hi,ih,amG,AV.cell,hp,hq,hp',hq',w1,w2,bt hi hco.slots.len,aC hi,bp,gW,eU,BI M hN hs.pre (more:=[]) (by simp),BI M hN hs.add (more:=[]) (by simp),yW M hR hl hs.feats.len,l4,e1,Bool.or_assoc,qE,MQ,hc]
theorem VP{H H0:List ag}(hN:bq E)(hR:sZ E){l:Lex}{n0:Nat}(hl:l.ok n0){p:Nat}{T:TypeId}(hp:H[p]?=some (.cells l.row T))(hc:bU H0 H)(k:List Fra):∀ (n i:Nat),i+n=(l.classes.l).length →
  M.go ct H0 (.c fZ :: .lp ⟨(some [1,3]),[],true⟩ fZ H :: .blk 0 :: .c (.lv [])::k) (kv [(1,.ptr p 0),(3,.int .i64 i)]) H =
   orE (bN (qF (BP l)) i (l.classes.l.drop i)) (H.take H0.length) (M.go ct H0 k .leaf H)
 |0,i,h=>by
  have e:i=(l.classes.l).length:=by omega
  subst e
  rw [aq M fZ.eq_1]
  simp (maxSteps:=3000000) (maxDischargeDepth:=6) +contextual -implicitDefEqProofs only [amA M,amB,↓ae,↓aa,↓aj,↓ah,Nat.reduceBEq,Nat.reduceAdd,env,ao,iC,Nat.lt_irrefl,List.drop_length,bp,hp]
 |n+1,i,h=>by
  have hi:i<(l.classes.l).length:=by omega
  have hx:(l.classes.l)[i]?=some (l.classes.l)[i]:=List.getElem?_eq_getElem hi
  have hd:((l.classes.l).drop i)=(l.classes.l)[i]::(l.classes.l).drop (i+1):=List.drop_eq_getElem_cons hi
  have hm:(l.classes.l)[i]∈(l.classes.l):=List.getElem_mem hi
  have ih:=VP (H:=H) (H0:=H0) (hN:=hN) (hR:=hR) (l:=l) (n0:=n0) (hl:=hl) (p:=p) (T:=T) (hp:=hp) hc k n (i+1)  (by omega)
  simp only [kv_cons,kv_nil] at ih
  have hp':=fun L=>cC (L:=L) hp
  have w1:Wk H.length (.ptr p 0) (.ptr p 0):=wk_ptr (List.getElem?_eq_some_iff.1 hp).1
  have ht:=hl.classes.all _ hm
  have h0:=fun k=>rcs M (H:=H++[.cells l.classes.l[i].row b5]) (H0:=H0) hN hR hl ht (p:=p) (q:=H.length) (T:=T) (T2:=b5) (hp' _) (by rw [cS];rfl) (i0:=i) (tj hc _) k l.classes.l[i].slots.l.length 0 (by omega)
  simp only [kv_cons,kv_nil,Int.ofNat_zero,List.drop_zero] at h0
  rw [aq M fZ.eq_1]
  simp (maxSteps:=3000000) (maxDischargeDepth:=6) +contextual -implicitDefEqProofs only [amA M,amB,↓ae,↓aa,↓aj,↓ah,Nat.reduceBEq,Nat.reduceAdd,env,ao,iC,hx,hd,hi,ih,amG,AV.cell,hp,hp',w1,h0,bt hi hl.classes.len,aC hi,bp,gW,Hr M hN ht.name,xN M hR hl,Qs (p:=fun t:aV=>t.name == l.classes.l[i].name) hx (by simp),l4,BP,qE,Gz,mA,hc]
theorem GB(hN:bq E)(hR:sZ E){l:Lex}{n:Nat}(hl:l.ok n)(H:List ag):M.run mI [.agg l.row] H=some (.ret (.int .u8 (uQ l)),H):=by
 rw [aK M hR.truchmanref02_classes rfl (c:=mP) rfl,mP]
 have h1:=fun k=>VP M hN hR (H:=H++[.cells l.row au]) hl (p:=H.length) (T:=au) (by rw [cS];rfl) (cut_app H _) k l.classes.l.length 0 (by omega)
 simp only [kv_cons,kv_nil,Int.ofNat_zero,List.drop_zero] at h1
 simp (maxSteps:=3000000) (maxDischargeDepth:=6) +contextual -implicitDefEqProofs only [amA M,amB,↓ae,↓aa,↓aj,↓ah,Nat.reduceBEq,Nat.reduceAdd,env,ao,iC,h1,bp,cut_app,sw,qc,uQ,mA]
end
section
attribute [local congr] aS eF bZ aT bC bk aU aI aJ bm bn
variable{E:bP}(M:dV ei E)
def rW(p:aw):List aw→Bool
 |[]=>true
 |x::l=>Op.bytesLess p.name x.name&&rW x l
def vV:List aw→Bool
 |[]=>true
 |x::l=>rW x l
def noU:AV:=.tuple [.slice .any 2 [],.bool false]
def Pq(b:List aw):Nat→aw→Option AV:=fun i x=>sel (Dt b (fun g => !Op.bytesLess g.name x.name) i) (some noU) none
theorem LV(b:List aw):∀ (l:List aw) (i:Nat) (f:aw),b[i]?=some f→b.drop (i+1)=l→bN (Pq b) (i+1) l=sel (rW f l) none (some noU)
 |[],i,f,_,_=>rfl
 |x::l,i,f,h,hd=>by
  have h2:b[i+1]?=some x:=by
   have:=List.getElem?_drop (xs:=b) (i:=i+1) (j:=0)
   rw [hd] at this;simpa using this.symm
  have hd2:b.drop (i+1+1)=l:=by
   have:(b.drop (i+1)).drop 1=l:=by rw [hd];rfl
   rwa [List.drop_drop] at this
  rw [kH,LV b l (i+1) x h2 hd2,Pq,nE h,rW]
  cases Op.bytesLess f.name x.name<;>cases rW x l<;>rfl
theorem Ps(b:List aw)(H:List ag)(x:Option Out):orE (bN (Pq b) 1 (b.drop 1)) H x=sel (vV b) x (some (.ret noU,H)):=by
 cases b with
 |nil=>rfl
 |cons f l=>
  rw [show List.drop 1 (f::l)=l from rfl,LV (f::l) l 0 f rfl rfl,vV]
  cases rW f l<;>rfl
theorem VQ{H H0:List ag}{a b:Sl aw}(ha:a.l.length≤aZ)(hb:b.l.length≤aZ)(hc:bU H0 H)(k:List Fra):∀ (n i:Nat) (h1:1≤i) (He:List ag),(a.l).length-i=n →
  M.go bX H0 (.c ib :: .lp ⟨(some [0,1,6]),[],false⟩ ib He :: .blk 0 :: .c (.lv [0,1])::k) (kv [(0,.slice a.tag 2 (a.l.map aw.row)),(1,.slice b.tag 2 (b.l.map aw.row)),(6,.int .i64 i)]) H =
   orE (bN (Pq a.l) i (a.l.drop i)) (H.take H0.length) (M.go bX H0 k (kv [(0,.slice a.tag 2 (a.l.map aw.row)),(1,.slice b.tag 2 (b.l.map aw.row))]) H)
 |0,i,h1,He,h=>by
  have e:¬ i<(a.l).length:=by omega
  have e2:(a.l).drop i=[]:=List.drop_of_length_le (by omega)
  rw [aq M ib.eq_1]
  simp (maxSteps:=3000000) (maxDischargeDepth:=6) +contextual -implicitDefEqProofs only [amA M,amB,↓ae,↓aa,↓aj,↓ah,Nat.reduceBEq,Nat.reduceAdd,env,ao,bI,e,e2]
 |n+1,i,h1,He,h=>by
  have hi:i<(a.l).length:=by omega
  have hx:(a.l)[i]?=some (a.l)[i]:=List.getElem?_eq_getElem hi
  have hd:((a.l).drop i)=(a.l)[i]::(a.l).drop (i+1):=List.drop_eq_getElem_cons hi
  have hm:(a.l)[i]∈(a.l):=List.getElem_mem hi
  have ih:=fun h1 He=>VQ (H:=H) (H0:=H0) (a:=a) (b:=b) (ha:=ha) (hb:=hb) hc k n (i+1) h1 He (by omega)
  simp only [kv_cons,kv_nil] at ih
  have ih:=ih (by omega)
  cases i with
  |zero=>omega
  |succ i=>
   have hx1:a.l[i]?=some a.l[i]:=List.getElem?_eq_getElem (by omega)
   rw [aq M ib.eq_1]
   simp (maxSteps:=3000000) (maxDischargeDepth:=6) +contextual -implicitDefEqProofs only [amA M,amB,↓ae,↓aa,↓aj,↓ah,Nat.reduceBEq,Nat.reduceAdd,env,ao,bI,hx,hd,hi,ih,qn,hx1,aC hi,aC (show i<a.l.length by omega),E7 (show i+1≤aZ by omega),bt hi ha,Pq,nE hx1,hc,noU,bV]
theorem VR{H H0:List ag}{a b:Sl aw}(ha:a.l.length≤aZ)(hb:b.l.length≤aZ)(hc:bU H0 H)(k:List Fra):∀ (n i:Nat) (h1:1≤i) (He:List ag),(b.l).length-i=n →
  M.go bX H0 (.c ic :: .lp ⟨(some [0,1,7]),[],false⟩ ic He :: .blk 2 :: .c (.lv [0,1])::k) (kv [(0,.slice a.tag 2 (a.l.map aw.row)),(1,.slice b.tag 2 (b.l.map aw.row)),(7,.int .i64 i)]) H =
   orE (bN (Pq b.l) i (b.l.drop i)) (H.take H0.length) (M.go bX H0 k (kv [(0,.slice a.tag 2 (a.l.map aw.row)),(1,.slice b.tag 2 (b.l.map aw.row))]) H)
 |0,i,h1,He,h=>by
  have e:¬ i<(b.l).length:=by omega
  have e2:(b.l).drop i=[]:=List.drop_of_length_le (by omega)
  rw [aq M ic.eq_1]
  simp (maxSteps:=3000000) (maxDischargeDepth:=6) +contextual -implicitDefEqProofs only [amA M,amB,↓ae,↓aa,↓aj,↓ah,Nat.reduceBEq,Nat.reduceAdd,env,ao,bI,e,e2]
 |n+1,i,h1,He,h=>by
  have hi:i<(b.l).length:=by omega
  have hx:(b.l)[i]?=some (b.l)[i]:=List.getElem?_eq_getElem hi
  have hd:((b.l).drop i)=(b.l)[i]::(b.l).drop (i+1):=List.drop_eq_getElem_cons hi
  have hm:(b.l)[i]∈(b.l):=List.getElem_mem hi
  have ih:=fun h1 He=>VR (H:=H) (H0:=H0) (a:=a) (b:=b) (ha:=ha) (hb:=hb) hc k n (i+1) h1 He (by omega)
  simp only [kv_cons,kv_nil] at ih
  have ih:=ih (by omega)
  cases i with
  |zero=>omega
  |succ i=>
   have hx1:b.l[i]?=some b.l[i]:=List.getElem?_eq_getElem (by omega)
   rw [aq M ic.eq_1]
   simp (maxSteps:=3000000) (maxDischargeDepth:=6) +contextual -implicitDefEqProofs only [amA M,amB,↓ae,↓aa,↓aj,↓ah,Nat.reduceBEq,Nat.reduceAdd,env,ao,bI,hx,hd,hi,ih,qn,hx1,aC hi,aC (show i<b.l.length by omega),E7 (show i+1≤aZ by omega),bt hi hb,Pq,nE hx1,hc,noU,bV]
end
section
attribute [local congr] aS eF bZ aT bC bk aU aI aJ bm bn
variable{E:bP}(M:dV ei E)
def gq:List aw→List aw→Option (List aw)
 |[],b=>some b
 |x::a,[]=>some (x::a)
 |x::a,y::b=>
  match Op.bytesLess x.name y.name with
  |true=>(gq a (y::b)).map (x :: ·)
  |false=>match Op.bytesLess y.name x.name with
   |true=>(gq (x::a) b).map (y :: ·)
   |false=>match x.name == y.name&&x.value == y.value with
    |true=>(gq a b).map (x :: ·)
    |false=>none
termination_by a b=>a.length+b.length
theorem Uj(y:aw)(b:List aw):gq [] (y::b)=(gq [] b).map (y :: ·):=by simp [gq]
theorem Uk(x:aw)(a:List aw):gq (x::a) []=(gq a []).map (x :: ·):=by
 cases a<;>simp [gq]
theorem Rw:gq [] []=some []:=by simp [gq]
def mgO(M:dV ei E)(H0:List ag)(k:List Fra)(o:List aw)(r:Option (List aw))(H:List ag):Option Out:=
 match r with
 |none=>some (.ret noU,H.take H0.length)
 |some r=>M.go bX H0 k (kv [(8,.slice (.own H.length) 2 ((o++r).map aw.row))]) (H++[.tok ((o++r).length*2) aR])
theorem Dv(H0:List ag)(k:List Fra)(o:List aw)(x:aw)(r:Option (List aw))(H:List ag):mgO M H0 k o (r.map (x :: ·)) H=mgO M H0 k (o++[x]) r H:=by
 cases r with
 |none=>rfl
 |some r=>simp only [Option.map_some,mgO,List.append_assoc,List.cons_append,List.nil_append]
theorem xO(x y:aw):req (.st [(0,.str),(1,.str)]) (.agg x.row) (.agg y.row)=some (x.name == y.name&&x.value == y.value):=by
 simp only [req,Ai,aw.row,List.getElem?_cons_zero,List.getElem?_cons_succ,FY]
 cases x.name == y.name<;>simp
 cases x.value == y.value<;>rfl
theorem I1(n:Nat)(x:aw):WkL n (aw.row x) (aw.row x):=⟨wk_str _ _,wk_str _ _,trivial⟩
theorem rum{a b:Sl aw}{H H0:List ag}(hc:bU H0 H)(k:List Fra):∀ (n i j:Nat) (o:List aw) (He:List ag),i≤a.l.length→j≤b.l.length→(a.l.length-i)+(b.l.length-j)=n→o.length+n≤4000000000000→a.l.length+b.l.length≤4000000000000 →
  M.go bX H0 (.c cr :: .lp ⟨(some [0,1,8,9,10]),[(8,2,aR)],false⟩ cr He :: .blk 4 :: .c (.lv [8])::k) (kv [(0,.slice a.tag 2 (a.l.map aw.row)),(1,.slice b.tag 2 (b.l.map aw.row)),(8,.slice (.own H.length) 2 (o.map aw.row)),(9,.int .i64 i),(10,.int .i64 j)]) (H++[.tok (o.length*2) aR]) =
   mgO M H0 k o (gq (a.l.drop i) (b.l.drop j)) H
 |n,i,j,o,He,hi,hj,hn,ho,hab=>by
  have bi:i<a.l.length→IntKind.i64.wrap ((i:Int)+1)=((i+1:Nat):Int):=fun h=>bt h (by simp only [aZ];omega)
  have bj:j<b.l.length→IntKind.i64.wrap ((j:Int)+1)=((j+1:Nat):Int):=fun h=>bt h (by simp only [aZ];omega)
  have ap:=fun (x:aw) (h:o.length+1≤4000000000000)=>Pe (row:=aw.row) (l:=o) (x:=x) (r:=x.row) (sz:=2) (bytes:=32) (e:=aR) H rfl rfl rfl (by omega) (by omega)
  by_cases h1:i<a.l.length
  ·have hx:a.l[i]?=some a.l[i]:=List.getElem?_eq_getElem h1
   have hd:a.l.drop i=a.l[i]::a.l.drop (i+1):=List.drop_eq_getElem_cons h1
   have hol:o.length+1≤4000000000000:=by omega
   have i1:=fun He=>rum hc k (n-1) (i+1) j (o++[a.l[i]]) He (by omega) hj (by omega) (by simp;omega) hab
   have hne:(i == a.l.length)=false:=by simp;omega
   by_cases h2:j<b.l.length
   ·have hy:b.l[j]?=some b.l[j]:=List.getElem?_eq_getElem h2
    have hdy:b.l.drop j=b.l[j]::b.l.drop (j+1):=List.drop_eq_getElem_cons h2
    have i2:=fun He=>rum hc k (n-1) i (j+1) (o++[b.l[j]]) He hi (by omega) (by omega) (by simp;omega) hab
    have i3:=fun He=>rum hc k (n-2) (i+1) (j+1) (o++[a.l[i]]) He (by omega) (by omega) (by omega) (by simp;omega) hab
    have hne2:(j == b.l.length)=false:=by simp;omega
    simp only [kv_cons,kv_nil] at i1 i2 i3
    rw [hd,hdy,gq,← hd,← hdy]
    cases c1:Op.bytesLess a.l[i].name b.l[j].name with
    |true=>
     simp only [Dv]
     rw [aq M cr.eq_1]
     simp (maxSteps:=3000000) (maxDischargeDepth:=6) +contextual -implicitDefEqProofs only [amA M,amB,↓ae,↓aa,↓aj,↓ah,Nat.reduceBEq,Nat.reduceAdd,env,ao,bI,amG,AV.cell,Nat.reduceMul,Nat.reduceLeDiff,hx,hy,h1,h2,bi h1,bj h2,qn,aC h1,aC h2,hne,hne2,c1,ap a.l[i] hol,i1]
    |false=>
     simp only
     cases c2:Op.bytesLess b.l[j].name a.l[i].name with
     |true=>
      simp only [Dv]
      rw [aq M cr.eq_1]
      simp (maxSteps:=3000000) (maxDischargeDepth:=6) +contextual -implicitDefEqProofs only [amA M,amB,↓ae,↓aa,↓aj,↓ah,Nat.reduceBEq,Nat.reduceAdd,env,ao,bI,amG,AV.cell,Nat.reduceMul,Nat.reduceLeDiff,hx,hy,h1,h2,bi h1,bj h2,qn,aC h1,aC h2,hne,hne2,c1,c2,ap b.l[j] hol,i2]
     |false=>
      simp only
      cases c3:(a.l[i].name == b.l[j].name&&a.l[i].value == b.l[j].value) with
      |true=>
       simp only [Dv]
       rw [aq M cr.eq_1]
       simp (maxSteps:=3000000) (maxDischargeDepth:=6) +contextual -implicitDefEqProofs only [amA M,amB,↓ae,↓aa,↓aj,↓ah,Nat.reduceBEq,Nat.reduceAdd,env,ao,bI,amG,AV.cell,Nat.reduceMul,Nat.reduceLeDiff,hx,hy,h1,h2,bi h1,bj h2,qn,aC h1,aC h2,hne,hne2,c1,c2,c3,xO,ap a.l[i] hol,i3]
      |false=>
       simp only [mgO]
       rw [aq M cr.eq_1]
       simp (maxSteps:=3000000) (maxDischargeDepth:=6) +contextual -implicitDefEqProofs only [amA M,amB,↓ae,↓aa,↓aj,↓ah,Nat.reduceBEq,Nat.reduceAdd,env,ao,bI,amG,AV.cell,Nat.reduceMul,Nat.reduceLeDiff,hx,hy,h1,h2,bi h1,bj h2,qn,aC h1,aC h2,hne,hne2,c1,c2,c3,xO,hc,noU,bV]
   ·obtain rfl:j=b.l.length:=by omega
    have hdy:b.l.drop b.l.length=[]:=List.drop_length
    simp only [kv_cons,kv_nil] at i1
    rw [hd,hdy,Uk,Dv]
    rw [hdy] at i1
    rw [aq M cr.eq_1]
    simp (maxSteps:=3000000) (maxDischargeDepth:=6) +contextual -implicitDefEqProofs only [amA M,amB,↓ae,↓aa,↓aj,↓ah,Nat.reduceBEq,Nat.reduceAdd,env,ao,bI,amG,AV.cell,Nat.reduceMul,Nat.reduceLeDiff,hx,h1,Nat.lt_irrefl,bi h1,qn,aC h1,hne,beq_self_eq_true,ap a.l[i] hol,i1]
  ·obtain rfl:i=a.l.length:=by omega
   have hdx:a.l.drop a.l.length=[]:=List.drop_length
   by_cases h2:j<b.l.length
   ·have hy:b.l[j]?=some b.l[j]:=List.getElem?_eq_getElem h2
    have hdy:b.l.drop j=b.l[j]::b.l.drop (j+1):=List.drop_eq_getElem_cons h2
    have hol:o.length+1≤4000000000000:=by omega
    have i2:=fun He=>rum hc k (n-1) a.l.length (j+1) (o++[b.l[j]]) He hi (by omega) (by omega) (by simp;omega) hab
    have hne2:(j == b.l.length)=false:=by simp;omega
    simp only [kv_cons,kv_nil] at i2
    rw [hdx,hdy,Uj,Dv]
    rw [hdx] at i2
    rw [aq M cr.eq_1]
    simp (maxSteps:=3000000) (maxDischargeDepth:=6) +contextual -implicitDefEqProofs only [amA M,amB,↓ae,↓aa,↓aj,↓ah,Nat.reduceBEq,Nat.reduceAdd,env,ao,bI,amG,AV.cell,Nat.reduceMul,Nat.reduceLeDiff,hy,h2,Nat.lt_irrefl,bj h2,qn,aC h2,hne2,beq_self_eq_true,ap b.l[j] hol,i2]
   ·obtain rfl:j=b.l.length:=by omega
    rw [hdx,List.drop_length,Rw,mgO,List.append_nil]
    rw [aq M cr.eq_1]
    simp (maxSteps:=3000000) (maxDischargeDepth:=6) +contextual -implicitDefEqProofs only [amA M,amB,↓ae,↓aa,↓aj,↓ah,Nat.reduceBEq,Nat.reduceAdd,env,ao,bI,Nat.lt_irrefl]
termination_by n=>n
decreasing_by all_goals omega
def vW(a b:List aw):Option (List aw):=sel (vV a) (sel (vV b) (gq a b) none) none
def SZ(r:Option (List aw)):AV:=
 match r with
 |none=>noU
 |some r=>.tuple [.slice .any 2 (r.map aw.row),.bool true]
theorem J8(hR:sZ E){a b:Sl aw}(hab:a.l.length+b.l.length≤4000000000000)(H:List ag) :
  M.run kV [.slice a.tag 2 (a.l.map aw.row),.slice b.tag 2 (b.l.map aw.row)] H=some (.ret (SZ (vW a.l b.l)),H):=by
 rw [aK M hR.truchmanref02_Unify rfl (c:=po) rfl,po]
 have ha:a.l.length≤aZ:=by simp only [aZ];omega
 have hb:b.l.length≤aZ:=by simp only [aZ];omega
 have h1:=fun k He=>VQ M ha hb (cut_refl H) k (a.l.length-1) 1 (by omega) He rfl
 have h2:=fun k He=>VR M ha hb (cut_refl H) k (b.l.length-1) 1 (by omega) He rfl
 have h3:=fun k He=>rum M (a:=a) (b:=b) (cut_refl H) k (a.l.length+b.l.length) 0 0 [] He (by omega) (by omega) (by omega) (by simp;omega) hab
 simp only [kv_cons,kv_nil,Int.ofNat_zero,(show ((1:Nat):Int)=1 from rfl),List.drop_zero,Ps,List.length_nil,Nat.zero_mul,List.map_nil] at h1 h2 h3
 simp (maxSteps:=3000000) (maxDischargeDepth:=6) +contextual -implicitDefEqProofs only [amA M,amB,↓ae,↓aa,↓aj,↓ah,Nat.reduceBEq,Nat.reduceAdd,env,ao,bI,h1,h2,h3]
 unfold vW
 cases vV a.l with
 |false=>rfl
 |true=>
  cases vV b.l with
  |false=>rfl
  |true=>
   simp only [Bool.and_true,ae,sel]
   cases gq a.l b.l with
   |none=>simp only [mgO,hp_self,SZ]
   |some r=>
    simp only [mgO,List.nil_append,SZ]
    simp (maxSteps:=3000000) (maxDischargeDepth:=6) +contextual -implicitDefEqProofs only [amA M,amB,↓ae,↓aa,↓aj,↓ah,Nat.reduceBEq,Nat.reduceAdd,env,ao,bI,I1,implies_true]
end
theorem Dw:∀ x:Str,Op.bytesLess x x=false
 |[]=>rfl
 |a::x=>by
  have h:¬ a<a:=by simp
  simp only [Op.bytesLess,Dw x,Bool.and_false,Bool.or_false,decide_eq_false h]
theorem J9:∀ {x y:Str},Op.bytesLess x y=false→Op.bytesLess y x=false→x=y
 |[],[],_,_=>rfl
 |[],_::_,h,_=>by simp [Op.bytesLess] at h
 |_::_,[],_,h=>by simp [Op.bytesLess] at h
 |a::x,b::y,h1,h2=>by
  simp only [Op.bytesLess,Bool.or_eq_false_iff,decide_eq_false_iff_not] at h1 h2
  have hab:a=b:=UInt8.le_antisymm (UInt8.not_lt.1 h2.1) (UInt8.not_lt.1 h1.1)
  subst hab
  simp only [beq_self_eq_true,Bool.true_and] at h1 h2
  rw [J9 h1.2 h2.2]
theorem rX:∀ {x y z:Str},Op.bytesLess x y=true→Op.bytesLess y z=true→Op.bytesLess x z=true
 |_,[],_,h,_=>by cases ‹List UInt8› <;> simp [Op.bytesLess] at h
 |_,_::_,[],_,h=>by simp [Op.bytesLess] at h
 |[],_::_,_::_,_,_=>rfl
 |a::x,b::y,c::z,h1,h2=>by
  simp only [Op.bytesLess,Bool.or_eq_true,decide_eq_true_eq,Bool.and_eq_true,beq_iff_eq] at h1 h2 ⊢
  rcases h1 with h1 | ⟨rfl,h1⟩
  ·rcases h2 with h2 | ⟨rfl,h2⟩
   ·exact .inl (UInt8.lt_trans h1 h2)
   ·exact .inl h1
  ·rcases h2 with h2 | ⟨rfl,h2⟩
   ·exact .inl h2
   ·exact .inr ⟨rfl,rX h1 h2⟩
theorem S0{x y:Str}(h:Op.bytesLess x y=true):Op.bytesLess y x=false:=by
 cases h2:Op.bytesLess y x with
 |false=>rfl
 |true=>have:=rX h h2;rw [Dw] at this;cases this
theorem LW{x y:Str}(h:Op.bytesLess x y=true):(x == y)=false:=by
 cases h2:x == y with
 |false=>rfl
 |true=>rw [eq_of_beq h2,Dw] at h;cases h
theorem wI:∀ {l:List aw}{p:aw},rW p l=true→∀ x∈l,Op.bytesLess p.name x.name=true
 |[],_,_,_,h=>by cases h
 |y::l,p,h,x,hx=>by
  simp only [rW,Bool.and_eq_true] at h
  rcases List.mem_cons.1 hx with rfl | hx
  ·exact h.1
  ·exact rX h.1 (wI h.2 x hx)
theorem A5{x:aw}{l:List aw}(h:vV (x::l)=true):vV l=true:=by
 cases l with
 |nil=>rfl
 |cons y l=>simp only [vV,rW,Bool.and_eq_true] at h ⊢;exact h.2
theorem Ka{x:aw}{b:List aw}(h:∀ y∈b,(x.name == y.name)=false):(b.any fun g=>kD x g)=false:=by
 rw [List.any_eq_false]
 intro y hy
 simp [kD,h y hy]
theorem xP(x:aw)(a b:List aw):lI (x::a) b=((b.any fun g=>kD x g)||lI a b):=rfl
theorem Dx(y:aw):∀ (a b:List aw),lI a (y::b)=((a.any fun f=>kD f y)||lI a b)
 |[],_=>rfl
 |x::a,b=>by
  rw [xP,xP,Dx y a b,List.any_cons,List.any_cons]
  cases kD x y<;>cases (b.any fun g=>kD x g)<;>cases (a.any fun f=>kD f y)<;>simp
theorem If{y:aw}{a:List aw}(h:∀ x∈a,(x.name == y.name)=false):(a.any fun f=>kD f y)=false:=by
 rw [List.any_eq_false]
 intro x hx
 simp [kD,h x hx]
theorem vv:∀ (n:Nat) (a b:List aw),a.length+b.length≤n→vV a=true→vV b=true→(gq a b).isSome = !lI a b
 |_,[],b,_,_,_=>by cases b<;>simp [gq,lI]
 |_,x::a,[],_,_,_=>by
  have:lI (x::a) []=false:=by simp [lI]
  rw [this];simp [gq]
 |0,x::a,y::b,h,_,_=>by simp at h
 |n+1,x::a,y::b,h,ha,hb=>by
  have hxa:∀ z∈a,Op.bytesLess x.name z.name=true:=wI ha
  have hyb:∀ z∈b,Op.bytesLess y.name z.name=true:=wI hb
  simp only [List.length_cons] at h
  rw [gq]
  cases c1:Op.bytesLess x.name y.name with
  |true=>
   simp only [Option.isSome_map]
   rw [vv n a (y::b) (by simp only [List.length_cons];omega) (A5 ha) hb,xP,Ka (x:=x) (b:=y::b) (fun z hz=>by
    rcases List.mem_cons.1 hz with rfl | hz
    ·exact LW c1
    ·exact LW (rX c1 (hyb z hz))),Bool.false_or]
  |false=>
   simp only
   cases c2:Op.bytesLess y.name x.name with
   |true=>
    simp only [Option.isSome_map]
    rw [vv n (x::a) b (by simp only [List.length_cons];omega) ha (A5 hb),Dx,If (y:=y) (a:=x::a) (fun z hz=>by
     rw [BR]
     rcases List.mem_cons.1 hz with rfl | hz
     ·exact LW c2
     ·exact LW (rX c2 (hxa z hz))),Bool.false_or]
   |false=>
    have hn:=J9 c1 c2
    simp only [hn,beq_self_eq_true,Bool.true_and]
    cases c3:x.value == y.value with
    |true=>
     simp only [Option.isSome_map]
     rw [vv n a b (by omega) (A5 ha) (A5 hb),xP,Dx,List.any_cons,Ka (x:=x) (b:=b) (fun z hz=>by rw [hn];exact LW (hyb z hz)),
      If (y:=y) (a:=a) (fun z hz=>by rw [BR,← hn];exact LW (hxa z hz))]
     simp [kD,c3]
    |false=>
     simp only [Option.isSome_none]
     rw [xP,List.any_cons]
     simp [kD,hn,c3]
theorem Ig{a b:List aw}(ha:vV a=true)(hb:vV b=true):(vW a b).isSome = !lI a b:=by
 rw [vW,ha,hb]
 exact vv _ a b (Nat.le_refl _) ha hb
theorem wP{α:Type}{F:Nat→α→Int}:∀ {l:List α}{s:Nat},vu F s l=0→∀ (k:Nat) (x:α),l[k]?=some x→F (s+k) x=0
 |[],_,_,k,x,h=>by simp at h
 |y::l,s,h,k,x,hx=>by
  rw [vu] at h
  cases hy:F s y == 0 with
  |false=>
   rw [hy] at h
   simp only [Bool.not_false,sel] at h
   rw [h] at hy;simp at hy
  |true=>
   rw [hy] at h
   simp only [Bool.not_true,sel] at h
   cases k with
   |zero=>obtain rfl:y=x:=by simpa using hx
          exact eq_of_beq hy
   |succ k=>
    have:=wP h k x (by simpa using hx)
    rwa [show s+1+k=s+(k+1) by omega] at this
theorem qS{α:Type}{F:Nat→α→Int}{most:Int}{l:List α}(h:mA most F l=0):(l.length:Int)≤most∧∀ (k:Nat) (x:α),l[k]?=some x→F k x=0:=by
 unfold mA at h
 cases hd:decide (most<(l.length:Int)) with
 |true=>rw [hd] at h;simp [sel] at h
 |false=>
  rw [hd] at h
  simp only [sel] at h
  refine ⟨by simpa using hd,fun k x hx => ?_⟩
  have:=wP h k x hx
  rwa [Nat.zero_add] at this
theorem Qt:∀ {l:List aw},(∀ (i:Nat) (g f:aw),l[i]?=some g→l[i+1]?=some f→Op.bytesLess g.name f.name=true)→vV l=true
 |[],_=>rfl
 |[x],_=>rfl
 |x::y::l,h=>by
  have h0:=h 0 x y rfl rfl
  have h1:vV (y::l)=true:=Qt (fun i g f hg hf=>h (i+1) g f (by simpa using hg) (by simpa using hf))
  simp only [vV,rW,Bool.and_eq_true] at h1 ⊢
  exact ⟨h0,h1⟩
theorem bundle_ok{l:Lex}{b:List aw}(h:qd l b=0):b.length≤8∧vV b=true:=by
 obtain ⟨h1,h2⟩:=qS h
 refine ⟨by omega,Qt fun i g f hg hf => ?_⟩
 have:=h2 (i+1) f hf
 unfold J6 at this
 split at this
 ·exact absurd this (by decide)
 ·rw [nE hg,nE hg] at this
  revert this
  cases (!List.any _ _) with
  |true=>intro h;simp [sel] at h
  |false=>
   cases c:g.name == f.name with
   |true=>intro h;simp [sel] at h
   |false=>
    cases c2:Op.bytesLess g.name f.name with
    |true=>intro _;rfl
    |false=>intro h;simp [sel] at h
section
attribute [local congr] aS eF bZ aT bC bk aU aI aJ bm bn
variable{E:bP}(M:dV ei E)
theorem DP{α:Type}(p:α→Bool)(v:AV)(H:List ag)(x:Option Out):∀ (l:List α) (i:Nat),orE (bN (fun _ o=>sel (p o) (some v) none) i l) H x=sel (l.any p) (some (.ret v,H)) x
 |[],_=>rfl
 |o::l,i=>by
  rw [kH,MN,DN,Ar,NQ,DP p v H x l,List.any_cons]
  cases p o<;>rfl
theorem Ul(r:Option (List aw)):SZ r = .tuple [.slice .any 2 ((r.getD []).map aw.row),.bool r.isSome]:=by cases r<;>rfl
theorem re0{H H0:List ag}{l:Lex}{x:aQ}{n0:Nat}(hl:l.ok n0){p q:Nat}{T T2:TypeId}(hp:H[p]?=some (.cells l.row T))(hq:H[q]?=some (.cells x.row T2)){c:Int}{L:List aQ}(hL:∀ k,k<L.length→l.entries.l[k]?=L[k]?)(hLl:L.length≤l.entries.l.length)(hc:bU H0 H)(k:List Fra):∀ (n i:Nat) (He:List ag),i+n=L.length →
  M.go aY H0 (.c ga :: .lp ⟨(some [1,3,4,5,6]),[],false⟩ ga He :: .blk 2 :: .c (.lv [1,3,4,5])::k) (kv [(1,.ptr p 0),(3,.int .i64 L.length),(4,.ptr q 0),(5,.int .i64 c),(6,.int .i64 i)]) H =
   orE (bN (fun _ o=>sel (o.lem == x.lem&&o.cls == x.cls) (some (.int .u8 6)) none) i (L.drop i)) (H.take H0.length) (M.go aY H0 k (kv [(1,.ptr p 0),(3,.int .i64 L.length),(4,.ptr q 0),(5,.int .i64 c)]) H)
 |0,i,He,h=>by
  have e:i=L.length:=by omega
  subst e
  rw [aq M ga.eq_1]
  simp (maxSteps:=3000000) (maxDischargeDepth:=6) +contextual -implicitDefEqProofs only [amA M,amB,↓ae,↓aa,↓aj,↓ah,Nat.reduceBEq,Nat.reduceAdd,env,ao,bz,Nat.lt_irrefl,List.drop_length]
 |n+1,i,He,h=>by
  have hi:i<L.length:=by omega
  have hx:L[i]?=some L[i]:=List.getElem?_eq_getElem hi
  have hd:(L.drop i)=L[i]::L.drop (i+1):=List.drop_eq_getElem_cons hi
  have hm:L[i]∈L:=List.getElem_mem hi
  have ih:=fun He=>re0 (H:=H) (H0:=H0) (l:=l) (x:=x) (n0:=n0) (hl:=hl) (p:=p) (q:=q) (T:=T) (T2:=T2) (hp:=hp) (hq:=hq) (c:=c) (L:=L) (hL:=hL) (hLl:=hLl) hc k n (i+1)  He (by omega)
  simp only [kv_cons,kv_nil] at ih
  have hx2:l.entries.l[i]?=some L[i]:=(hL i hi).trans hx
  rw [aq M ga.eq_1]
  simp (maxSteps:=3000000) (maxDischargeDepth:=6) +contextual -implicitDefEqProofs only [amA M,amB,↓ae,↓aa,↓aj,↓ah,Nat.reduceBEq,Nat.reduceAdd,env,ao,bz,hx,hd,hi,ih,bt hi (Nat.le_trans hLl hl.entries.len),aC (show i<l.entries.l.length by omega),hx2,bp,dc,hp,hq,hc]
theorem re1{H H0:List ag}(hR:sZ E){x:aQ}{p q:Nat}{T2:TypeId}(hq:H[q]?=some (.cells x.row T2)){i0:Nat}{sl:Sl bD}(hs:sl.l.length≤aZ)(hab:∀ s∈sl.l,x.feats.l.length+s.feats.l.length≤4000000000000)(hc:bU H0 H)(k:List Fra):∀ (n i:Nat) (He:List ag),i+n=(sl.l).length →
  M.go aY H0 (.c gb :: .lp ⟨(some [1,3,4,8,9]),[],false⟩ gb He :: .blk 4 :: .c (.lv [1,3,4,8])::k) (kv [(1,.ptr p 0),(3,.int .i64 i0),(4,.ptr q 0),(8,.slice sl.tag 4 (sl.l.map bD.row)),(9,.int .i64 i)]) H =
   orE (bN (fun _ s=>sel (!(vW x.feats.l s.feats.l).isSome) (some (.int .u8 10)) none) i (sl.l.drop i)) (H.take H0.length) (M.go aY H0 k (kv [(1,.ptr p 0),(3,.int .i64 i0),(4,.ptr q 0),(8,.slice sl.tag 4 (sl.l.map bD.row))]) H)
 |0,i,He,h=>by
  have e:i=(sl.l).length:=by omega
  subst e
  rw [aq M gb.eq_1]
  simp (maxSteps:=3000000) (maxDischargeDepth:=6) +contextual -implicitDefEqProofs only [amA M,amB,↓ae,↓aa,↓aj,↓ah,Nat.reduceBEq,Nat.reduceAdd,env,ao,bz,Nat.lt_irrefl,List.drop_length]
 |n+1,i,He,h=>by
  have hi:i<(sl.l).length:=by omega
  have hx:(sl.l)[i]?=some (sl.l)[i]:=List.getElem?_eq_getElem hi
  have hd:((sl.l).drop i)=(sl.l)[i]::(sl.l).drop (i+1):=List.drop_eq_getElem_cons hi
  have hm:(sl.l)[i]∈(sl.l):=List.getElem_mem hi
  have ih:=fun He=>re1 (H:=H) (H0:=H0) (hR:=hR) (x:=x) (p:=p) (q:=q) (T2:=T2) (hq:=hq) (i0:=i0) (sl:=sl) (hs:=hs) (hab:=hab) hc k n (i+1)  He (by omega)
  simp only [kv_cons,kv_nil] at ih
  rw [aq M gb.eq_1]
  simp (maxSteps:=3000000) (maxDischargeDepth:=6) +contextual -implicitDefEqProofs only [amA M,amB,↓ae,↓aa,↓aj,↓ah,Nat.reduceBEq,Nat.reduceAdd,env,ao,bz,hx,hd,hi,ih,bt hi hs,aC hi,eU,dc,hq,hc,J8 M hR (hab _ hm),Ul]
theorem re2{H H0:List ag}{x:aQ}{f:bQ}{p q r:Nat}{T2 T3:TypeId}(hq:H[q]?=some (.cells x.row T2))(hr:H[r]?=some (.cells f.row T3)){i0:Nat}{sv:AV}{L:List bQ}(hL:∀ k,k<L.length→x.forms.l[k]?=L[k]?)(hLl:L.length≤x.forms.l.length)(hxl:x.forms.l.length≤aZ)(hc:bU H0 H)(k:List Fra):∀ (n i:Nat) (He:List ag),i+n=L.length →
  M.go aY H0 (.c gd :: .lp ⟨(some [1,3,4,8,12,13,14]),[],false⟩ gd He :: .blk 8 :: .c (.lv [1,3,4,8,12,13])::k) (kv [(1,.ptr p 0),(3,.int .i64 i0),(4,.ptr q 0),(8,sv),(12,.int .i64 L.length),(13,.ptr r 0),(14,.int .i64 i)]) H =
   orE (bN (fun _ o=>sel (o.slot == f.slot) (some (.int .u8 6)) none) i (L.drop i)) (H.take H0.length) (M.go aY H0 k (kv [(1,.ptr p 0),(3,.int .i64 i0),(4,.ptr q 0),(8,sv),(12,.int .i64 L.length),(13,.ptr r 0)]) H)
 |0,i,He,h=>by
  have e:i=L.length:=by omega
  subst e
  rw [aq M gd.eq_1]
  simp (maxSteps:=3000000) (maxDischargeDepth:=6) +contextual -implicitDefEqProofs only [amA M,amB,↓ae,↓aa,↓aj,↓ah,Nat.reduceBEq,Nat.reduceAdd,env,ao,bz,Nat.lt_irrefl,List.drop_length]
 |n+1,i,He,h=>by
  have hi:i<L.length:=by omega
  have hx:L[i]?=some L[i]:=List.getElem?_eq_getElem hi
  have hd:(L.drop i)=L[i]::L.drop (i+1):=List.drop_eq_getElem_cons hi
  have hm:L[i]∈L:=List.getElem_mem hi
  have ih:=fun He=>re2 (H:=H) (H0:=H0) (x:=x) (f:=f) (p:=p) (q:=q) (r:=r) (T2:=T2) (T3:=T3) (hq:=hq) (hr:=hr) (i0:=i0) (sv:=sv) (L:=L) (hL:=hL) (hLl:=hLl) (hxl:=hxl) hc k n (i+1)  He (by omega)
  simp only [kv_cons,kv_nil] at ih
  have hx2:x.forms.l[i]?=some L[i]:=(hL i hi).trans hx
  rw [aq M gd.eq_1]
  simp (maxSteps:=3000000) (maxDischargeDepth:=6) +contextual -implicitDefEqProofs only [amA M,amB,↓ae,↓aa,↓aj,↓ah,Nat.reduceBEq,Nat.reduceAdd,env,ao,bz,hx,hd,hi,ih,bt hi (Nat.le_trans hLl hxl),aC (show i<x.forms.l.length by omega),hx2,dc,Bt,hq,hr,hc]
theorem Dy{α:Type}(l:List α)(i:Nat):∀ k,k<(l.take i).length→l[k]?=(l.take i)[k]? := fun k hk=>by
 rw [List.getElem?_take_of_lt];simp at hk;omega
theorem LX{α:Type}{l:List α}{i:Nat}(h:i≤l.length):(l.take i).length=i:=by simp;omega
theorem re3{H H0:List ag}(hN:bq E){x:aQ}{n0:Nat}(hx0:x.ok n0)(hn:n0≤H.length){p q:Nat}(hpl:p<H.length){T2:TypeId}(hq:H[q]?=some (.cells x.row T2)){i0:Nat}{sl:Sl bD}(hsw:Wk H.length (.slice sl.tag 4 (sl.l.map bD.row)) (.slice sl.tag 4 (sl.l.map bD.row)))(hc:bU H0 H)(k:List Fra):∀ (n i:Nat),i+n=(x.forms.l).length →
  M.go aY H0 (.c gf :: .lp ⟨(some [1,3,4,8,12]),[],true⟩ gf H :: .blk 6 :: .c (.lv [1,3])::k) (kv [(1,.ptr p 0),(3,.int .i64 i0),(4,.ptr q 0),(8,.slice sl.tag 4 (sl.l.map bD.row)),(12,.int .i64 i)]) H =
   orE (bN (qF (LU sl.l.length x.forms.l)) i (x.forms.l.drop i)) (H.take H0.length) (M.go aY H0 k (kv [(1,.ptr p 0),(3,.int .i64 i0)]) H)
 |0,i,h=>by
  have e:i=(x.forms.l).length:=by omega
  subst e
  rw [aq M gf.eq_1]
  simp (maxSteps:=3000000) (maxDischargeDepth:=6) +contextual -implicitDefEqProofs only [amA M,amB,↓ae,↓aa,↓aj,↓ah,Nat.reduceBEq,Nat.reduceAdd,env,ao,bz,Nat.lt_irrefl,List.drop_length,dc,hq]
 |n+1,i,h=>by
  have hi:i<(x.forms.l).length:=by omega
  have hx:(x.forms.l)[i]?=some (x.forms.l)[i]:=List.getElem?_eq_getElem hi
  have hd:((x.forms.l).drop i)=(x.forms.l)[i]::(x.forms.l).drop (i+1):=List.drop_eq_getElem_cons hi
  have hm:(x.forms.l)[i]∈(x.forms.l):=List.getElem_mem hi
  have ih:=re3 (H:=H) (H0:=H0) (hN:=hN) (x:=x) (n0:=n0) (hx0:=hx0) (hn:=hn) (p:=p) (q:=q) (hpl:=hpl) (T2:=T2) (hq:=hq) (i0:=i0) (sl:=sl) (hsw:=hsw) hc k n (i+1)  (by omega)
  simp only [kv_cons,kv_nil] at ih
  have hq':=fun L=>cC (L:=L) hq
  have w1:Wk H.length (.ptr p 0) (.ptr p 0):=wk_ptr hpl
  have w2:Wk H.length (.ptr q 0) (.ptr q 0):=wk_ptr (List.getElem?_eq_some_iff.1 hq).1
  have h0:=fun k He=>re2 M (H:=H++[.cells x.forms.l[i].row dQ]) (H0:=H0) (x:=x) (f:=x.forms.l[i]) (p:=p) (q:=q) (r:=H.length) (T2:=T2) (T3:=dQ) (hq' _) (by rw [cS];rfl) (i0:=i0) (sv:=.slice sl.tag 4 (sl.l.map bD.row)) (L:=x.forms.l.take i) (Dy _ _) (by simp;omega) hx0.forms.len (tj hc _) k (x.forms.l.take i).length 0 He (by omega)
  simp only [kv_cons,kv_nil,Int.ofNat_zero,List.drop_zero,LX (Nat.le_of_lt hi),DP] at h0
  rw [aq M gf.eq_1]
  simp (maxSteps:=3000000) (maxDischargeDepth:=6) +contextual -implicitDefEqProofs only [amA M,amB,↓ae,↓aa,↓aj,↓ah,Nat.reduceBEq,Nat.reduceAdd,env,ao,bz,hx,hd,hi,ih,amG,AV.cell,hq,hq',w1,w2,hsw,h0,bt hi hx0.forms.len,aC hi,Bt,dc,yS M hN (hx0.forms.all _ hm).word,hc,l4,LU,qE]
end
section
attribute [local congr] aS eF bZ aT bC bk aU aI aJ bm bn
variable{E:bP}(M:dV ei E)
def Qu(l:Lex):Prop:=∀ c∈l.classes.l,∀ s∈c.slots.l,s.feats.l.length≤8∧vV s.feats.l=true
theorem Ob{l:Lex}(h:uQ l=0):Qu l:=fun c hc s hs=>by
 obtain ⟨k,hk⟩:=List.getElem?_of_mem hc
 have h1:=(qS h).2 k c hk
 unfold BP at h1
 revert h1
 cases (!EO c.name) with
 |true=>intro h;simp [sel] at h
 |false=>
  cases (List.any _ _) with
  |true=>intro h;simp [sel] at h
  |false=>
   cases (decide ((24:Int)<(c.slots.l.length:Int))) with
   |true=>intro h;simp [sel] at h
   |false=>
    cases ((c.slots.l.length:Int) == 0) with
    |true=>intro h;simp [sel] at h
    |false=>
     intro h1
     obtain ⟨j,hj⟩:=List.getElem?_of_mem hs
     have h2:=(qS h1).2 j s hj
     unfold Du at h2
     revert h2
     cases (decide (s.cut<0)||decide (24<s.cut) || !rr jt s.pre || !rr jt s.add) with
     |true=>intro h;simp [sel] at h
     |false=>intro h;exact bundle_ok h
theorem LY{α:Type}{p q:α→Bool}:∀ {l:List α},(∀ x∈l,p x=q x)→l.any p=l.any q
 |[],_=>rfl
 |x::l,h=>by rw [List.any_cons,List.any_cons,h x (by simp),LY (fun y hy=>h y (by simp [hy]))]
theorem re4{H H0:List ag}(hN:bq E)(hR:sZ E){l:Lex}{n0:Nat}(hl:l.ok n0)(hn:n0≤H.length)(hsh:Qu l){p:Nat}{T:TypeId}(hp:H[p]?=some (.cells l.row T))(hc:bU H0 H)(k:List Fra):∀ (n i:Nat),i+n=(l.entries.l).length →
  M.go aY H0 (.c dO :: .lp ⟨(some [1,3]),[],true⟩ dO H :: .blk 0 :: .c (.lv [])::k) (kv [(1,.ptr p 0),(3,.int .i64 i)]) H =
   orE (bN (qF (zC l)) i (l.entries.l.drop i)) (H.take H0.length) (M.go aY H0 k .leaf H)
 |0,i,h=>by
  have e:i=(l.entries.l).length:=by omega
  subst e
  rw [aq M dO.eq_1]
  simp (maxSteps:=3000000) (maxDischargeDepth:=6) +contextual -implicitDefEqProofs only [amA M,amB,↓ae,↓aa,↓aj,↓ah,Nat.reduceBEq,Nat.reduceAdd,env,ao,bz,Nat.lt_irrefl,List.drop_length,bp,hp]
 |n+1,i,h=>by
  have hi:i<(l.entries.l).length:=by omega
  have hx:(l.entries.l)[i]?=some (l.entries.l)[i]:=List.getElem?_eq_getElem hi
  have hd:((l.entries.l).drop i)=(l.entries.l)[i]::(l.entries.l).drop (i+1):=List.drop_eq_getElem_cons hi
  have hm:(l.entries.l)[i]∈(l.entries.l):=List.getElem_mem hi
  have ih:=re4 (H:=H) (H0:=H0) (hN:=hN) (hR:=hR) (l:=l) (n0:=n0) (hl:=hl) (hn:=hn) (hsh:=hsh) (p:=p) (T:=T) (hp:=hp) hc k n (i+1)  (by omega)
  simp only [kv_cons,kv_nil] at ih
  have hp':=fun L=>cC (L:=L) hp
  have w1:Wk H.length (.ptr p 0) (.ptr p 0):=wk_ptr (List.getElem?_eq_some_iff.1 hp).1
  have hx0:=hl.entries.all _ hm
  have hcf:=fun H=>xN M hR hl l.entries.l[i].cls H
  rcases oD (fun c:aV=>c.name == l.entries.l[i].cls) l.classes.l 0 with ⟨h1,h2⟩ | ⟨j,c,h1,h2,h3⟩
  ·rw [h1] at hcf
   have hc2:yU l l.entries.l[i].cls=none:=h2
   rw [aq M dO.eq_1]
   simp (maxSteps:=3000000) (maxDischargeDepth:=6) +contextual -implicitDefEqProofs only [amA M,amB,↓ae,↓aa,↓aj,↓ah,Nat.reduceBEq,Nat.reduceAdd,env,ao,bz,amG,AV.cell,Nat.reduceMul,Nat.reduceLeDiff,hx,hd,hi,ih,hp,hp',w1,hcf,Uh,bp,dc,aC hi,yS M hN hx0.lem,l4,zC,hc2,qE,hc]
  ·rw [h1,Nat.zero_add] at hcf
   have hc2:yU l l.entries.l[i].cls=some c:=h3
   have hj:j<l.classes.l.length:=(List.getElem?_eq_some_iff.1 h2).1
   have hcm:c∈l.classes.l:=List.mem_of_getElem? h2
   have hco:=hl.classes.all c hcm
   have hq:∀ L,(H++(.cells l.entries.l[i].row b6::L))[H.length]?=some (.cells l.entries.l[i].row b6):=fun L=>by rw [cS];rfl
   have h4:=fun k He=>re0 M (H:=H++[.cells l.entries.l[i].row b6]) (H0:=H0) hl (p:=p) (q:=H.length) (T:=T) (T2:=b6) (hp' _) (hq []) (c:=(j:Int)) (L:=l.entries.l.take i) (Dy _ _) (by simp;omega) (tj hc _) k (l.entries.l.take i).length 0 He (by omega)
   simp only [kv_cons,kv_nil,Int.ofNat_zero,List.drop_zero,LX (Nat.le_of_lt hi),DP] at h4
   cases hb:(qd l l.entries.l[i].feats.l == 0) with
   |false=>
    rw [aq M dO.eq_1]
    simp (maxSteps:=3000000) (maxDischargeDepth:=6) +contextual -implicitDefEqProofs only [amA M,amB,↓ae,↓aa,↓aj,↓ah,Nat.reduceBEq,Nat.reduceAdd,env,ao,bz,amG,AV.cell,Nat.reduceMul,Nat.reduceLeDiff,hx,hd,hi,ih,hp,hp',w1,hcf,IP,h4,hb,bp,dc,aC hi,yS M hN hx0.lem,yW M hR hl hx0.feats.len,l4,zC,hc2,qE,MQ,hc]
   |true=>
    obtain ⟨hb1,hb2⟩:=bundle_ok (eq_of_beq hb)
    have h5:=fun k He=>re1 M (H:=H++[.cells l.entries.l[i].row b6]) (H0:=H0) hR (x:=l.entries.l[i]) (p:=p) (q:=H.length) (T2:=b6) (hq []) (i0:=i) (sl:=c.slots) hco.slots.len (fun s hs=>by have:=(hsh c hcm s hs).1;omega) (tj hc _) k c.slots.l.length 0 He (by omega)
    have h6:=fun k=>re3 M (H:=H++[.cells l.entries.l[i].row b6]) (H0:=H0) hN hx0 (by simp;omega) (p:=p) (q:=H.length) (by have:=(List.getElem?_eq_some_iff.1 hp).1;simp;omega) (T2:=b6) (hq []) (i0:=i) (sl:=c.slots) ((hco.slots.mono (show n0≤_ by simp;omega) (fun _ h=>h.mono (show n0≤(H++[ag.cells l.entries.l[i].row b6]).length by simp;omega))).wk (fun _ h=>h.wk)) (tj hc _) k l.entries.l[i].forms.l.length 0 (by omega)
    have e5:(c.slots.l.any fun s => !(vW l.entries.l[i].feats.l s.feats.l).isSome)=c.slots.l.any fun s=>lI l.entries.l[i].feats.l s.feats.l:=LY fun s hs=>by rw [Ig hb2 (hsh c hcm s hs).2,Bool.not_not]
    simp only [kv_cons,kv_nil,Int.ofNat_zero,List.drop_zero,DP,e5] at h5 h6
    rw [aq M dO.eq_1]
    simp (maxSteps:=3000000) (maxDischargeDepth:=6) +contextual -implicitDefEqProofs only [amA M,amB,↓ae,↓aa,↓aj,↓ah,Nat.reduceBEq,Nat.reduceAdd,env,ao,bz,amG,AV.cell,Nat.reduceMul,Nat.reduceLeDiff,hx,hd,hi,ih,hp,hp',w1,hcf,IP,h4,h5,h6,hb,h2,aC hj,bp,dc,gW,aC hi,bt hi hl.entries.len,yS M hN hx0.lem,yW M hR hl hx0.feats.len,l4,zC,hc2,qE,Gz,hc]
end
section
attribute [local congr] aS eF bZ aT bC bk aU aI aJ bm bn
variable{E:bP}(M:dV ei E)
theorem MT(hN:bq E)(hR:sZ E){l:Lex}{n:Nat}(hl:l.ok n)(hsh:Qu l){H:List ag}(hn:n≤H.length):M.run mJ [.agg l.row] H=some (.ret (.int .u8 (xM l)),H):=by
 rw [aK M hR.truchmanref02_entries rfl (c:=mQ) rfl,mQ]
 have h1:=fun k=>re4 M hN hR (H:=H++[.cells l.row au]) hl (by simp;omega) hsh (p:=H.length) (T:=au) (by rw [cS];rfl) (cut_app H _) k l.entries.l.length 0 (by omega)
 simp only [kv_cons,kv_nil,Int.ofNat_zero,List.drop_zero] at h1
 simp (maxSteps:=3000000) (maxDischargeDepth:=6) +contextual -implicitDefEqProofs only [amA M,amB,↓ae,↓aa,↓aj,↓ah,Nat.reduceBEq,Nat.reduceAdd,env,ao,bz,h1,bp,cut_app,sw,qc,xM,mA]
def ET(p:UInt8):Str→Bool
 |[]=>true
 |c::t => !decide ((c.toNat:Int)≤(p.toNat:Int))&&ET c t
def Pt:Str→Bool
 |[]=>true
 |c::t=>ET c t
def geV(v:Str):Nat→UInt8→Option AV
 |0,_=>none
 |i+1,c=>match v[i]? with
  |some d=>sel (decide ((c.toNat:Int)≤(d.toNat:Int))) (some (.int .u8 1)) none
  |none=>none
theorem Oc{v:Str}{i:Nat}{d:UInt8}(h:v[i]?=some d)(c:UInt8):geV v (i+1) c=sel (decide ((c.toNat:Int)≤(d.toNat:Int))) (some (.int .u8 1)) none:=by simp only [geV,h]
theorem LZ{α:Type}{b l:List α}{i:Nat}{x:α}(hd:b.drop (i+1)=x::l):b[i+1]?=some x∧b.drop (i+1+1)=l:=by
 constructor
 ·have:=List.getElem?_drop (xs:=b) (i:=i+1) (j:=0)
  rw [hd] at this;simpa using this.symm
 ·have:(b.drop (i+1)).drop 1=l:=by rw [hd];rfl
  rwa [List.drop_drop] at this
theorem L0(v:Str):∀ (t:Str) (i:Nat) (p:UInt8),v[i]?=some p→v.drop (i+1)=t→bN (geV v) (i+1) t=sel (ET p t) none (some (.int .u8 1))
 |[],_,_,_,_=>rfl
 |c::t,i,p,h,hd=>by
  obtain ⟨h2,hd2⟩:=LZ hd
  rw [kH,Oc h,L0 v t (i+1) c h2 hd2,ET]
  cases decide ((c.toNat:Int)≤(p.toNat:Int))<;>cases ET c t<;>rfl
theorem Pu(v:Str)(H:List ag)(x:Option Out):orE (bN (geV v) 1 (v.drop 1)) H x=sel (Pt v) x (some (.ret (.int .u8 1),H)):=by
 cases v with
 |nil=>rfl
 |cons c t=>
  rw [show List.drop 1 (c::t)=t from rfl,L0 (c::t) t 0 c rfl rfl,Pt]
  cases ET c t<;>rfl
theorem Od(v:Str):∀ (t:Str) (i:Nat) (p:UInt8),v[i]?=some p→v.drop (i+1)=t→vu (fun i c=>sel (Rp v i c) 1 0) (i+1) t=sel (t.all jt&&ET p t) 0 1
 |[],_,_,_,_=>rfl
 |c::t,i,p,h,hd=>by
  obtain ⟨h2,hd2⟩:=LZ hd
  rw [vu,Od v t (i+1) c h2 hd2,LS h,List.all_cons,ET]
  cases jt c<;>cases decide ((c.toNat:Int)≤(p.toNat:Int))<;>cases t.all jt<;>cases ET c t<;>rfl
theorem Qv(l:Lex):Rq l=sel (ofF [] l.vowels) (sel (Pt l.vowels) 0 1) 1:=by
 rw [Rq,I0]
 cases hv:l.vowels with
 |nil=>rfl
 |cons c t=>
  rw [vu,Od (c::t) t 0 c rfl rfl,LR,List.all_cons,Pt]
  cases jt c<;>cases t.all jt<;>cases ET c t<;>rfl
theorem VS{H H0:List ag}{l:Lex}{n0:Nat}(hl:l.ok n0){p:Nat}{T:TypeId}(hp:H[p]?=some (.cells l.row T))(hc:bU H0 H)(k:List Fra):∀ (n i:Nat) (h1:1≤i) (He:List ag),(l.vowels).length-i=n →
  M.go bY H0 (.c iw :: .lp ⟨(some [1,3]),[],false⟩ iw He :: .blk 0 :: .c (.lv [1])::k) (kv [(1,.ptr p 0),(3,.int .i64 i)]) H =
   orE (bN (geV l.vowels) i (l.vowels.drop i)) (H.take H0.length) (M.go bY H0 k (kv [(1,.ptr p 0)]) H)
 |0,i,h1,He,h=>by
  have e:¬ i<(l.vowels).length:=by omega
  have e2:(l.vowels).drop i=[]:=List.drop_of_length_le (by omega)
  rw [aq M iw.eq_1]
  simp (maxSteps:=3000000) (maxDischargeDepth:=6) +contextual -implicitDefEqProofs only [amA M,amB,↓ae,↓aa,↓aj,↓ah,Nat.reduceBEq,Nat.reduceAdd,env,ao,ek,e,e2,bp,hp]
 |n+1,i,h1,He,h=>by
  have hi:i<(l.vowels).length:=by omega
  have hx:(l.vowels)[i]?=some (l.vowels)[i]:=List.getElem?_eq_getElem hi
  have hd:((l.vowels).drop i)=(l.vowels)[i]::(l.vowels).drop (i+1):=List.drop_eq_getElem_cons hi
  have hm:(l.vowels)[i]∈(l.vowels):=List.getElem_mem hi
  have ih:=fun h1 He=>VS (H:=H) (H0:=H0) (l:=l) (n0:=n0) (hl:=hl) (p:=p) (T:=T) (hp:=hp) hc k n (i+1) h1 He (by omega)
  simp only [kv_cons,kv_nil] at ih
  have ih:=ih (by omega)
  cases i with
  |zero=>omega
  |succ i=>
   have hx1:l.vowels[i]?=some l.vowels[i]:=List.getElem?_eq_getElem (by omega)
   have hlv:=hl.vowels
   rw [aq M iw.eq_1]
   simp (maxSteps:=3000000) (maxDischargeDepth:=6) +contextual -implicitDefEqProofs only [amA M,amB,↓ae,↓aa,↓aj,↓ah,Nat.reduceBEq,Nat.reduceAdd,env,ao,ek,hx,hd,hi,ih,hp,bp,hx1,E7 (show i+1≤aZ by omega),bt hi hlv,Oc hx1,hc]
theorem S1(s:Str):ofF [43] s=s.all ER:=by
 unfold ofF
 congr 1;funext c
 simp only [List.any_cons,List.any_nil,Bool.or_false,ER]
 congr 1
 rw [Bool.eq_iff_iff];simp;omega
theorem S2(s:Str):ofF [43,35,86,67] s=s.all Ic:=by
 unfold ofF
 congr 1;funext c
 simp only [List.any_cons,List.any_nil,Bool.or_false,Ic,ER,Bool.or_assoc]
 congr 1
 rw [Bool.eq_iff_iff];simp;omega
theorem DQ(p:UInt8→Bool)(s:Str):rr p s=(!decide ((6:Int)<(s.length:Int))&&s.all p):=by
 unfold rr;congr 1;rw [Bool.eq_iff_iff];simp
theorem Oe(x:br):uP x=sel (x.frm == []||(!ofF [43] x.frm||(!ofF [43] x.to||(!ofF [43,35,86,67] x.left || !ofF [43,35,86,67] x.right)))) 1
  (sel (decide ((6:Int)<(x.frm.length:Int))||(decide ((6:Int)<(x.to.length:Int))||(decide ((6:Int)<(x.left.length:Int))||decide ((6:Int)<(x.right.length:Int))))) 1 0):=by
 rw [uP,S1,S1,S2,S2,DQ,DQ,DQ,DQ]
 cases x.frm == []<;>cases x.frm.all ER<;>cases x.to.all ER<;>cases x.left.all Ic<;>cases x.right.all Ic<;>cases decide ((6:Int)<(x.frm.length:Int))<;>cases decide ((6:Int)<(x.to.length:Int))<;>cases decide ((6:Int)<(x.left.length:Int))<;>cases decide ((6:Int)<(x.right.length:Int))<;>rfl
theorem VT{H H0:List ag}(hN:bq E){l:Lex}{n0:Nat}(hl:l.ok n0){p:Nat}{T:TypeId}(hp:H[p]?=some (.cells l.row T))(hc:bU H0 H)(k:List Fra):∀ (n i:Nat),i+n=(l.spells.l).length →
  M.go bY H0 (.c iy :: .lp ⟨(some [1,7]),[],true⟩ iy H :: .blk 2 :: .c (.lv [1])::k) (kv [(1,.ptr p 0),(7,.int .i64 i)]) H =
   orE (bN (qF fun _ x=>uP x) i (l.spells.l.drop i)) (H.take H0.length) (M.go bY H0 k (kv [(1,.ptr p 0)]) H)
 |0,i,h=>by
  have e:i=(l.spells.l).length:=by omega
  subst e
  rw [aq M iy.eq_1]
  simp (maxSteps:=3000000) (maxDischargeDepth:=6) +contextual -implicitDefEqProofs only [amA M,amB,↓ae,↓aa,↓aj,↓ah,Nat.reduceBEq,Nat.reduceAdd,env,ao,ek,Nat.lt_irrefl,List.drop_length,bp,hp]
 |n+1,i,h=>by
  have hi:i<(l.spells.l).length:=by omega
  have hx:(l.spells.l)[i]?=some (l.spells.l)[i]:=List.getElem?_eq_getElem hi
  have hd:((l.spells.l).drop i)=(l.spells.l)[i]::(l.spells.l).drop (i+1):=List.drop_eq_getElem_cons hi
  have hm:(l.spells.l)[i]∈(l.spells.l):=List.getElem_mem hi
  have ih:=VT (H:=H) (H0:=H0) (hN:=hN) (l:=l) (n0:=n0) (hl:=hl) (p:=p) (T:=T) (hp:=hp) hc k n (i+1)  (by omega)
  simp only [kv_cons,kv_nil] at ih
  have hp':=fun L=>cC (L:=L) hp
  have w1:Wk H.length (.ptr p 0) (.ptr p 0):=wk_ptr (List.getElem?_eq_some_iff.1 hp).1
  have hx0:=hl.spells.all _ hm
  have e1:=Oe l.spells.l[i]
  rw [aq M iy.eq_1]
  simp (maxSteps:=3000000) (maxDischargeDepth:=6) +contextual -implicitDefEqProofs only [amA M,amB,↓ae,↓aa,↓aj,↓ah,Nat.reduceBEq,Nat.reduceAdd,env,ao,ek,hx,hd,hi,ih,amG,AV.cell,hp,hp',w1,bt hi hl.spells.len,aC hi,bp,l9,BI M hN hx0.frm (more:=[43]) (by simp [aZ]),BI M hN hx0.to (more:=[43]) (by simp [aZ]),BI M hN hx0.left (more:=[43,35,86,67]) (by simp [aZ]),BI M hN hx0.right (more:=[43,35,86,67]) (by simp [aZ]),l4,e1,Bool.or_assoc,qE,hc]
theorem Um(l:Lex)(x:eI):GA l x=sel (decide (wH (fun t=>t.name == x.cls) 0 l.classes.l<0)) 5 (sel (!ofF [] x.glue||decide ((6:Int)<(x.glue.length:Int))) 1 (qd l x.feats.l)):=by
 rw [← Ht]
 unfold GA yU
 rcases oD (fun t:aV=>t.name == x.cls) l.classes.l 0 with ⟨h1,h2⟩ | ⟨j,c,h1,h2,h3⟩
 ·rw [h1,h2];rfl
 ·rw [h1,h3,IP];rfl
theorem VU{H H0:List ag}(hN:bq E)(hR:sZ E){l:Lex}{n0:Nat}(hl:l.ok n0){p:Nat}{T:TypeId}(hp:H[p]?=some (.cells l.row T))(hc:bU H0 H)(k:List Fra):∀ (n i:Nat),i+n=(l.links.l).length →
  M.go bY H0 (.c iz :: .lp ⟨(some [1,9]),[],true⟩ iz H :: .blk 4 :: .c (.lv [])::k) (kv [(1,.ptr p 0),(9,.int .i64 i)]) H =
   orE (bN (qF fun _ x=>GA l x) i (l.links.l.drop i)) (H.take H0.length) (M.go bY H0 k .leaf H)
 |0,i,h=>by
  have e:i=(l.links.l).length:=by omega
  subst e
  rw [aq M iz.eq_1]
  simp (maxSteps:=3000000) (maxDischargeDepth:=6) +contextual -implicitDefEqProofs only [amA M,amB,↓ae,↓aa,↓aj,↓ah,Nat.reduceBEq,Nat.reduceAdd,env,ao,ek,Nat.lt_irrefl,List.drop_length,bp,hp]
 |n+1,i,h=>by
  have hi:i<(l.links.l).length:=by omega
  have hx:(l.links.l)[i]?=some (l.links.l)[i]:=List.getElem?_eq_getElem hi
  have hd:((l.links.l).drop i)=(l.links.l)[i]::(l.links.l).drop (i+1):=List.drop_eq_getElem_cons hi
  have hm:(l.links.l)[i]∈(l.links.l):=List.getElem_mem hi
  have ih:=VU (H:=H) (H0:=H0) (hN:=hN) (hR:=hR) (l:=l) (n0:=n0) (hl:=hl) (p:=p) (T:=T) (hp:=hp) hc k n (i+1)  (by omega)
  simp only [kv_cons,kv_nil] at ih
  have hp':=fun L=>cC (L:=L) hp
  have w1:Wk H.length (.ptr p 0) (.ptr p 0):=wk_ptr (List.getElem?_eq_some_iff.1 hp).1
  have hx0:=hl.links.all _ hm
  have e1:=Um l l.links.l[i]
  rw [aq M iz.eq_1]
  simp (maxSteps:=3000000) (maxDischargeDepth:=6) +contextual -implicitDefEqProofs only [amA M,amB,↓ae,↓aa,↓aj,↓ah,Nat.reduceBEq,Nat.reduceAdd,env,ao,ek,hx,hd,hi,ih,amG,AV.cell,hp,hp',w1,bt hi hl.links.len,aC hi,bp,LG,xN M hR hl,BI M hN hx0.glue (more:=[]) (by simp),yW M hR hl hx0.feats.len,l4,e1,qE,MQ,hc]
end
end Go.Am
