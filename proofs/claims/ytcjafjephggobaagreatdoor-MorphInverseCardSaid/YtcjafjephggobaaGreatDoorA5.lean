import Derived.Test.YtcjafjephggobaaGreatDoorA4
import Derived.Test.YtcjafjephggobaaGreatDoorChecked
import Derived.KernelRfl
/-
  Part 5 of the tool: an abstract machine over the model, proved sound, and what it says of the functions that the law reaches. Condition: none but those that each theorem names.
-/
set_option linter.unusedVariables false
set_option linter.unusedSimpArgs false
set_option maxRecDepth 100000
set_option maxHeartbeats 4000000
namespace Go.Am
open Go.RowKit
section
open Sh
def BO:AC:=
 (Q (O [mc 0 F]) (Q (O [k 7 (f L5) [(s [118,111,119,101,108,115,32,97,101,105,111,117,10,116,114,97,105,116,32,110,117,109,32,115,103,32,112,
 108,10,99,108,97,115,115,32,110,111,117,110,10,115,108,111,116,32,48,32,45,32,45,32,110,117,109,61,115,103,10,115,108,111,116,32,48,32,45,32,
 115,32,110,117,109,61,112,108,10,99,108,97,115,115,32,118,101,114,98,10,115,108,111,116,32,48,32,45,32,45,10,115,108,111,116,32,48,32,45,32,
 101,100,10,101,110,116,114,121,32,99,105,116,121,32,110,111,117,110,10,101,110,116,114,121,32,99,97,114,32,110,111,117,110,10,101,110,116,114,
 121,32,98,117,115,32,110,111,117,110,10,102,111,114,109,32,49,32,98,117,115,101,115,10,101,110,116,114,121,32,112,108,97,110,32,118,101,114,98,
 10,115,112,101,108,108,32,121,43,32,105,43,101,32,67,32,115,10,115,112,101,108,108,32,110,43,32,110,110,43,32,86,32,101,100,10,108,105,110,
 107,32,110,111,117,110,32,45,32,110,117,109,61,115,103,10])],m 6 7,ex 8 6 0,ex 9 6 1,ex 10 6 2,o 1 (.nw [(.str []),(.slice .nil 2 []),(.slice .nil 2 []),
 (.slice .nil 4 []),(.slice .nil 4 []),(.slice .nil 3 [])] az),n (.st 6 (t 1) (t 8)),m 2 9,m 3 10]) (Q (O [la 12 6 1,k 13 (f Bu) [(t 12),(i 0),(i 1)],m
 11 13,ex 14 11 0,ex 15 11 1,m 4 14,m 5 15]) (Q (O [m 16 3,o 17 (.ar .eql (t 16) (u 0)),m 18 17,g 19 18 (.mv (t 5)),g 20 18 (.ar .eql (t 19) (u 0)),o 21 (.pk (t 18) (t 20)
 F),m 22 21,g 23 22 (.mv (t 4)),g 24 22 (.ar .eql (t 23) (s [99,105,116,105,101,115])),o 25 (.pk (t 22) (t 24) F),m 0 25]) R))))
def sv:AFn:=⟨BO,26,[.t 0],.keep,[],none⟩
def Fu:AFn:=vx.k
def HW:AC:=
 (Q (O [bl 31 30 29]) (Q (C 31 X (.exit 0)) (Q (.block 1 (Q (O [m 32 30,ia 33 1 28 30,ld 34 33,m 7 32,m 8 34]) (Q (Q (O [m 35 8,o 36 (.ar .eql (t 35) (s [])),m 37 36,h 38 37
 (.mv (t 8)),h 39 37 (.ixs (t 38) (i 0)),h 40 37 (.ar .eql (t 39) (u 59)),o 41 (.pk (t 37) T (t 40))]) (C 41 (.exit 1) X)) (Q (O [m 42 8,k 43 (f EC) [(t 6),(t
 42)],no 44 43]) (C 44 (Q (O [o 45 (.bd [(.str []),(.slice .nil 2 []),(.slice .nil 2 []),(.slice .nil 4 []),(.slice .nil 4 []),(.slice .nil 3 [])] [(0,1),(1,1),(2,1),(3,
 1),(4,1),(5,1)] []),m 46 7,ad 47 46,n (.st 6 (t 2) (t 45)),m 3 47,mc 4 (u 4)]) R) X))))) (O [ad 48 30,m 30 48]))))
def KI:AC:=
 (Q (O [o 2 (.nw [(.str []),(.slice .nil 2 []),(.slice .nil 2 []),(.slice .nil 4 []),(.slice .nil 4 []),(.slice .nil 3 [])] az),mc 3 (i 0),mc 4 (u 0)]) (Q (Q (O [m
 10 0,lt 11 10,o 12 (.ar .gtr (t 11) (i 65536))]) (C 12 (Q (O [o 13 (.bd [(.str []),(.slice .nil 2 []),(.slice .nil 2 []),(.slice .nil 4 []),(.slice .nil 4 []),(.slice .nil 3
 [])] [(0,1),(1,1),(2,1),(3,1),(4,1),(5,1)] []),n (.st 6 (t 2) (t 13)),mc 3 (i 0),mc 4 (u 3)]) R) X)) (Q (O [m 14 0,k 15 (f Cb) [(t 14),(s [10])],m 5
 15]) (Q (Q (O [m 16 5,m 17 5,ls 18 17,o 19 (.ar .sub (t 18) (i 1)),ia 20 1 16 19,ld 21 20,o 22 (.ar .eql (t 21) (s []))]) (C 22 (O [m 23 5,m 24 5,ls 25 24,o 26 (.ar .sub (t
 25) (i 1)),o 27 (.sll 1 (t 23) none (some (t 26)) none),m 5 27]) X)) (Q (O [o 6 (.nw [(.str []),(.slice .nil 2 []),(.slice .nil 2 []),(.slice .nil 4 []),(.slice .nil 4 []),
 (.slice .nil 3 []),(.str []),(.int .i64 0)] KE)]) (Q (Q (O [m 28 5,ls 29 28,mc 30 (i 0)]) (.block 0 (.loop ⟨none,[],false⟩ HW))) (Q (Q (O [fa 49 6 6,
 ld 50 49,o 51 (.ar .eql (t 50) (s []))]) (C 51 (Q (O [o 52 (.bd [(.str []),(.slice .nil 2 []),(.slice .nil 2 []),(.slice .nil 4 []),(.slice .nil 4 []),(.slice .nil 3 [])] [(0,
 1),(1,1),(2,1),(3,1),(4,1),(5,1)] []),n (.st 6 (t 2) (t 52)),mc 3 (i 0),mc 4 (u 4)]) R) X)) (Q (Q (O [fa 53 0 6,la 54 6 53,k 55 (f k8) [(t 54)],m 9 55])
 (Q (O [m 56 9,o 57 (.ar .neq (t 56) (u 0))]) (C 57 (Q (O [o 58 (.bd [(.str []),(.slice .nil 2 []),(.slice .nil 2 []),(.slice .nil 4 []),(.slice .nil 4 []),(.slice .nil 3 [])]
 [(0,1),(1,1),(2,1),(3,1),(4,1),(5,1)] []),m 59 9,n (.st 6 (t 2) (t 58)),mc 3 (i 0),m 4 59]) R) X))) (Q (O [fa 60 0 6,la 61 6 60,n (.st 6 (t 2) (t 61)),mc 3 (i 0),
 mc 4 (u 0)]) R)))))))))
def DH:AFn:=⟨KI,62,[.cell 2 (some 6),.t 3,.t 4],.keep,[],none⟩
def DI:AFn:=lf.k
def Fv:AFn:=mR.k
def sw:AFn:=eZ.k
def sy:AFn:=dz.k
def kS:AFn:=b9.k
def DJ:AFn:=tX.k
def iH:AFn:=bj.k
def HX:AC:=
 (Q (O [mc 4 (.c (.slice .nil 1 []))]) (Q (O [m 5 0,m 6 1,k 7 (f wi) [(t 5),(t 6),(i 0),(i (-1))],m 4 7]) R))
def AB:AFn:=⟨HX,8,[.t 4],.keep,[],none⟩
def BP:AC:=
 (Q (O [bl 26 25 24]) (Q (C 26 X (.exit 0)) (Q (.block 1 (Q (O [ia 27 1 23 25,ld 28 27,m 9 28]) (O [m 29 9,o 30 (.ar .neq (t 29) (s [])),k 31 (f iR) [(t 30)]]))) (O
 [ad 32 25,m 25 32]))))
def DK:AC:=
 (Q (O [m 11 1,k 12 (f Cb) [(t 11),(s [32])],m 5 12]) (Q (D [W (k 14 (f L6) []),P (m 15 5),P (o 16 (.ias 1 (t 15) (i 0))),W (ld 17 16),W (o 18 (.lk
 .str (some (.agg [(.int .i64 0),(.int .i64 0),(.bool false),.nilfn])) true (t 14) (t 17))),P (m 13 18),P (ex 19 13 0),P (ex 20 13 1),K (o 6 (.nw [(.int .i64 0),(.int .i64
 0),(.bool false),.nilfn] NX)),E (n (.st 4 (t 6) (t 19))),P (m 7 20)]) (Q (O [m 21 7,k 22 (f iR) [(t 21)]]) (Q (Q (O [m 23 5,ls 24 23,mc 25 (i 0)])
 (.block 0 (.loop ⟨none,[],false⟩ BP))) (Q (O [m 33 5,o 34 (.sll 1 (t 33) (some (i 1)) none none),m 5 34]) (Q (O [m 35 5,ls 36 35,fa 37 1 6,ld 38 37,o 39
 (.ar .geq (t 36) (t 38)),m 40 39,g 41 40 (.fa 2 (t 6)),g 42 40 (.ld none (t 41)),g 43 40 (.mv (t 42)),h 44 43 (.mv (t 5)),h 45 43 (.len .sl (t 44)),h 46 43 (.fa 1 (t 6)),h
 47 43 (.ld none (t 46)),h 48 43 (.ar .eql (t 45) (t 47)),g 49 40 (.pk (t 43) T (t 48)),o 50 (.pk (t 40) (t 49) F),k 51 (f iR) [(t 50)]]) (Q (D [P (m 52 0),P (o 53
 (.nc (t 52))),P (fa 54 6 53),W (ld 55 54),P (o 56 (.ar .eql (t 55) (s []))),P (fa 57 0 6),W (ld 58 57),P (o 59 (.ar .eql (t 58) (i 0))),P (o 60 (.eq false .bool (t 56) (t
 59))),P (m 61 60),P (g 62 61 (.fa 0 (t 6))),W (g 63 61 (.ld none (t 62))),P (g 64 61 (.mv (t 0))),P (g 65 61 (.nc (t 64))),P (g 66 61 (.fa 7 (t 65))),W (g 67 61 (.ld none (t
 66))),P (g 68 61 (.ar .geq (t 63) (t 67))),P (o 69 (.pk (t 61) (t 68) F)),E (k 70 (f iR) [(t 69)])]) (Q (O [fa 71 3 6,ld 72 71,m 73 0,m 74 5,k 75 (t 72) [(t 73),
 (t 74)]]) (Q (.dops true [] [] [P (m 76 0),P (m 77 0),P (m 78 1),W (k 79 (f HT) [(t 78),(s [32]),(i 2)]),P (o 80 (.ias 1 (t 79) (i 0))),W (ld 81 80),P (fa 82 0
 6),W (ld 83 82),P (o 84 (.nc (t 76))),P (fa 85 6 84),K (n (.st 1 (t 85) (t 81))),P (o 86 (.nc (t 77))),P (fa 87 7 86),K (n (.st 1 (t 87) (t 83)))]) (Q (O [n (.st 1 (t 4) T)])
 R))))))))))
def DL:AC:=
 (O [o 4 (.nw [(.bool false)] T3)])
def uo:AFn:=⟨DL,88,[.cell 4 none],.keep,[],(some ([⟨(some 10),none,(.op (.mf (.func Cy) [] [(.t 4)]))⟩],(.t 10),DK))⟩
def DM:AFn:=iP.k
def rC:AFn:=c7.k
def AD:AFn:=jl.k
def rD:AFn:=cw.k
def sA:AFn:=dA.k
def AE:AFn:=jm.k
def rE:AFn:=cA.k
def sB:AFn:=fc.k
def AF:AFn:=jn.k
def rF:AFn:=cB.k
def sC:AFn:=dB.k
def AG:AFn:=jo.k
def rG:AFn:=cC.k
def sD:AFn:=fe.k
def AH:AFn:=jq.k
def sE:AFn:=cQ.k
def tv:AFn:=fx.k
def G7:AFn:=eW.k
def Ce:AFn:=iS.k
def rH:AFn:=eE.k
def AI:AFn:=jr.k
def rI:AFn:=c8.k
def tw:AFn:=fy.k
def mz:AFn:=bN.k
def jc:AFn:=aW.k
def CN:AC:=
 (Q (Q (O [m 34 10,m 35 3,bl 36 34 35]) (C 36 X (.exit 0))) (.block 1 (Q (O [m 37 0,m 38 1,k 39 (f nH) [(t 37),(t 38)],m 11 39]) (Q (Q (O [m 40 11,o 41 (.ar .lss
 (t 40) (i 0))]) (C 41 (.exit 0) X)) (Q (O [m 42 9,m 43 10,m 44 0,m 45 11,m 46 2,o 47 (.ar .add (t 45) (t 46)),o 48 (.sls (t 44) none (some (t 47))),ia 49 1 42 43,n (.st 1 (t
 49) (t 48))]) (Q (O [m 50 0,m 51 11,m 52 1,lt 53 52,o 54 (.ar .add (t 51) (t 53)),o 55 (.sls (t 50) (some (t 54)) none),m 0 55]) (O [m 56 10,ad 57 56,m 10 57])))))))
def EJ:AC:=
 (Q (O [mc 8 (.c (.slice .nil 1 []))]) (Q (Q (O [m 12 3,o 13 (.ar .eql (t 12) (i 0))]) (C 13 (Q (O [mc 8 (.c (.slice .nil 1 []))]) R) X)) (Q (Q (O [m 14 1,o 15 (.ar .eql (t 14) (s
 []))]) (C 15 (Q (O [m 16 0,m 17 3,k 18 (f GX) [(t 16),(t 17)],m 8 18]) R) X)) (Q (Q (O [m 19 3,o 20 (.ar .lss (t 19) (i 0))]) (C 20 (O [m 21 0,m 22 1,k 23 (f
 kD) [(t 21),(t 22)],ad 24 23,m 3 24]) X)) (Q (O [m 25 3,m 26 0,lt 27 26,ad 28 27,o 29 (.mn (t 25) (t 28)),m 3 29]) (Q (O [m 30 3,o 31 (.ms bB 16 [(.str
 [])] (t 30) (t 30)),m 9 31]) (Q (O [m 32 3,o 33 (.ar .sub (t 32) (i 1)),m 3 33]) (Q (O [mc 10 (i 0)]) (Q (.block 0 (.loop ⟨none,[],false⟩ CN)) (Q (O [m 58 9,
 m 59 10,m 60 0,ia 61 1 58 59,n (.st 1 (t 61) (t 60))]) (Q (O [m 62 9,m 63 10,ad 64 63,o 65 (.sll 1 (t 62) none (some (t 64)) none),m 8 65]) R)))))))))))
def vm:AFn:=⟨EJ,66,[.t 8],.keep,[],none⟩
def AJ:AC:=
 (.block 0 (Q (O [o 6 (.eq false (.ifc true) (t 4) (.c .nilif))]) (C 6 (O [m 1 4]) (Q (O [o 7 (.ta yY (some (.agg [])) true (t 4)),ex 8 7 1,ex 9 7 0]) (C 8 (Q (O [o 2
 (.nw [] yY),n (.st 0 (t 2) (t 9))]) (O [n (.st 1 (t 0) F)])) (Q (O [m 3 4]) (O [m 5 3,⟨none,none,(.panic (.t 5))⟩])))))))
def rJ:AFn:=⟨AJ,10,[],.keep,[],none⟩
def KJ:AC:=
 (Q (O [mc 0 (.c .nilmap)]) (Q (O [o 1 .mm,o 2 (.bd [(.int .i64 0),(.int .i64 0),(.bool false),.nilfn] [(0,1),(1,1),(2,1),(3,1)] [(0,(i 0)),(1,(i 1)),(2,F),(3,(f
 I9))]),n (.mu .str (t 1) (s [118,111,119,101,108,115]) (t 2)),o 3 (.bd [(.int .i64 0),(.int .i64 0),(.bool false),.nilfn] [(0,1),(1,1),(2,1),(3,1)]
 [(0,(i 1)),(1,(i 1)),(2,T),(3,(f Ja))]),n (.mu .str (t 1) (s [116,114,97,105,116]) (t 3)),o 4 (.bd [(.int .i64 0),(.int .i64 0),(.bool false),.nilfn]
 [(0,1),(1,1),(2,1),(3,1)] [(0,(i 2)),(1,(i 1)),(2,F),(3,(f Jb))]),n (.mu .str (t 1) (s [99,108,97,115,115]) (t 4)),o 5 (.bd [(.int .i64 0),(.int
 .i64 0),(.bool false),.nilfn] [(0,1),(1,1),(2,1),(3,1)] [(0,(i 2)),(1,(i 3)),(2,T),(3,(f Jc))]),n (.mu .str (t 1) (s [115,108,111,116]) (t 5)),o 6
 (.bd [(.int .i64 0),(.int .i64 0),(.bool false),.nilfn] [(0,1),(1,1),(2,1),(3,1)] [(0,(i 3)),(1,(i 2)),(2,T),(3,(f Jd))]),n (.mu .str (t 1) (s [101,
 110,116,114,121]) (t 6)),o 7 (.bd [(.int .i64 0),(.int .i64 0),(.bool false),.nilfn] [(0,1),(1,1),(2,1),(3,1)] [(0,(i 3)),(1,(i 2)),(2,F),(3,(f
 Je))]),n (.mu .str (t 1) (s [102,111,114,109]) (t 7)),o 8 (.bd [(.int .i64 0),(.int .i64 0),(.bool false),.nilfn] [(0,1),(1,1),(2,1),(3,1)] [(0,(i 4)),
 (1,(i 4)),(2,F),(3,(f Jf))]),n (.mu .str (t 1) (s [115,112,101,108,108]) (t 8)),o 9 (.bd [(.int .i64 0),(.int .i64 0),(.bool false),.nilfn] [(0,1),(1,
 1),(2,1),(3,1)] [(0,(i 5)),(1,(i 2)),(2,T),(3,(f Jg))]),n (.mu .str (t 1) (s [108,105,110,107]) (t 9)),m 10 1,m 0 10]) R))
def DN:AFn:=⟨KJ,11,[.t 0],.keep,[],none⟩
def Jq:AC:=
 (Q (O [m 2 0,no 3 2]) (C 3 (O [o 4 (.bd [] [] []),o 5 (.mi yY (t 4)),⟨none,none,(.panic (.t 5))⟩]) X))
def Cf:AFn:=⟨Jq,6,[],.keep,[],none⟩
def G8:AC:=
 (Q (O [mc 6 (.c (.slice .nil 1 []))]) (Q (O [m 7 0,m 8 1,m 9 2,k 10 (f wi) [(t 7),(t 8),(i 0),(t 9)],m 6 10]) R))
def yG:AFn:=⟨G8,11,[.t 6],.keep,[],none⟩
def Cg:AFn:=gm.k
def Fw:AFn:=iQ.k
def iu:AFn:=ba.k
def qv:AFn:=ej.k
def iv:AFn:=bb.k
def qw:AFn:=ek.k
def sF:AFn:=cR.k
def qx:AFn:=en.k
def DO:AFn:=ll.k
def DP:AFn:=ln.k
def iw:AFn:=bc.k
def qy:AFn:=eo.k
def iI:AFn:=bk.k
def qz:AFn:=ep.k
def DQ:AFn:=lq.k
def fG:AFn:=aU.k
def qA:AFn:=eu.k
def Ch:AFn:=j0.k
def Ci:AFn:=j1.k
def sG:AFn:=cS.k
def pR:AFn:=dR.k
def iK:AFn:=aO.k
def oY:AFn:=dy.k
def iL:AFn:=aP.k
def wO:AFn:=ig.k
def nO:AFn:=c9.k
def rK:AFn:=da.k
def wP:AFn:=ew.k
def DS:AC:=
 (Q (Q (O [m 22 7,m 23 1,o 24 (.ar .sub (t 23) (i 1)),bl 25 22 24]) (C 25 X (.exit 0))) (Q (.block 1 (Q (O [m 29 0,k 30 (f ko) [(t 29)],m 28 30,
 ex 31 28 0,ex 32 28 1,m 8 31,m 9 32]) (Q (O [m 33 6,m 34 7,m 35 0,m 36 9,o 37 (.sls (t 35) none (some (t 36))),ia 38 1 33 34,n (.st 1 (t 38) (t 37))]) (O [m 39 0,m 40 9,o
 41 (.sls (t 39) (some (t 40)) none),m 0 41])))) (O [m 26 7,ad 27 26,m 7 27])))
def FQ:AC:=
 (Q (O [mc 4 (.c (.slice .nil 1 []))]) (Q (O [m 10 0,k 11 (f kM) [(t 10)],m 5 11]) (Q (Q (O [m 12 1,o 13 (.ar .lss (t 12) (i 0)),m 14 13,h 15 14
 (.mv (t 1)),h 16 14 (.mv (t 5)),h 17 14 (.ar .gtr (t 15) (t 16)),o 18 (.pk (t 14) T (t 17))]) (C 18 (O [m 19 5,m 1 19]) X)) (Q (O [m 20 1,o 21 (.ms bB 16 [(.str [])] (t
 20) (t 20)),m 6 21]) (Q (Q (O [mc 7 (i 0)]) (.block 0 (.loop ⟨none,[],false⟩ DS))) (Q (Q (O [m 42 1,o 43 (.ar .gtr (t 42) (i 0))]) (C 43 (O [m 44 6,m 45 1,o
 46 (.ar .sub (t 45) (i 1)),m 47 0,ia 48 1 44 46,n (.st 1 (t 48) (t 47))]) X)) (Q (O [m 49 6,m 4 49]) R)))))))
def wQ:AFn:=⟨FQ,50,[.t 4],.keep,[],none⟩
def AK:AFn:=ju.k
def AL:AFn:=jv.k
def HY:AC:=
 (O [m 4 0,m 5 1,o 6 (.ias 1 (t 5) (i 0)),ld 7 6,k 8 (f jN) [(t 7)],o 9 (.nc (t 4)),fa 10 0 9,fa 11 0 10,n (.st 1 (t 11) (t 8))])
def AM:AFn:=⟨HY,12,[],.keep,[],none⟩
def Md:AC:=
 (Q (O [mc 2 (s [])]) (Q (Q (O [m 3 0,o 4 (.ar .eql (t 3) (s [45]))]) (C 4 (Q (O [mc 2 (s [])]) R) X)) (Q (O [m 5 0,m 2 5]) R)))
def Fx:AFn:=⟨Md,6,[.t 2],.keep,[],none⟩
def HZ:AC:=
 (D [P (m 4 0),P (m 5 0),P (o 6 (.nc (t 5))),P (fa 7 0 6),P (fa 8 1 7),W (ld 9 8),P (m 10 1),P (o 11 (.ias 1 (t 10) (i 0))),W (ld 12 11),P (m 13 1),P (o 14 (.sll 1 (t 13)
 (some (i 1)) none none)),P (o 15 (.bd [(.str []),(.slice .nil 1 [])] [(0,1),(1,1)] [(0,(t 12)),(1,(t 14))])),P (o 16 (.bs 2 [(.str []),(.slice .nil 0 [])] 1 [(0,(t
 15))])),E (o 17 (.ap false iz 2 40 false (t 9) (t 16))),P (o 18 (.nc (t 4))),P (fa 19 0 18),P (fa 20 1 19),E (n (.st 1 (t 20) (t 17)))])
def AN:AFn:=⟨HZ,21,[],.keep,[],none⟩
def H5:AC:=
 (D [P (m 4 0),P (m 5 0),P (o 6 (.nc (t 5))),P (fa 7 0 6),P (fa 8 2 7),W (ld 9 8),P (m 10 1),P (o 11 (.ias 1 (t 10) (i 0))),W (ld 12 11),P (o 13 (.bd [(.str []),(.slice
 .nil 4 [])] [(0,1),(1,1)] [(0,(t 12))])),P (o 14 (.bs 2 [(.str []),(.slice .nil 0 [])] 1 [(0,(t 13))])),E (o 15 (.ap true cr 2 40 false (t 9) (t 14))),P (o 16 (.nc
 (t 4))),P (fa 17 0 16),P (fa 18 2 17),E (n (.st 1 (t 18) (t 15)))])
def AO:AFn:=⟨H5,19,[],.keep,[0],none⟩
def H6:AC:=
 (Q (O [m 5 0,o 6 (.nc (t 5)),fa 7 6 6,ld 8 7,o 9 (.ar .eql (t 8) (s [99,108,97,115,115])),m 10 9,h 11 10 (.mv (t 0)),h 12 10 (.nc (t 11)),h 13 10 (.fa 6 (t 12)),h 14 10
 (.ld none (t 13)),h 15 10 (.ar .eql (t 14) (s [115,108,111,116])),o 16 (.pk (t 10) T (t 15)),k 17 (f iR) [(t 16)]]) (Q (D [P (m 18 0),P (o 19 (.nc (t 18))),P (fa
 20 0 19),P (fa 21 2 20),W (ld 22 21),P (m 23 0),P (o 24 (.nc (t 23))),P (fa 25 0 24),P (fa 26 2 25),W (ld 27 26),W (ls 28 27),P (o 29 (.ar .sub (t 28) (i 1))),P (ia 30 2
 22 29),P (m 4 30)]) (D [P (m 31 4),P (m 32 4),P (o 33 (.nc (t 32))),P (fa 34 1 33),W (ld 35 34),P (m 36 1),P (o 37 (.ias 1 (t 36) (i 0))),W (ld 38 37),P (m 40 1),P (o 41
 (.ias 1 (t 40) (i 1))),W (ld 42 41),P (m 44 1),P (o 45 (.ias 1 (t 44) (i 2))),W (ld 46 45),P (m 48 1),P (o 49 (.sll 1 (t 48) (some (i 3)) none none)),K (k 39 (f
 wj) [(t 38)]),K (k 43 (f jN) [(t 42)]),K (k 47 (f jN) [(t 46)]),K (k 50 (f yW) [(t 49)]),P (o 51 (.bd [(.int .i64 0),(.str []),(.str
 []),(.slice .nil 2 [])] [(0,1),(1,1),(2,1),(3,1)] [(0,(t 39)),(1,(t 43)),(2,(t 47)),(3,(t 50))])),P (o 52 (.bs 4 [(.int .i64 0),(.str []),(.str []),(.slice .nil 0
 [])] 1 [(0,(t 51))])),E (o 53 (.ap false bI 4 64 false (t 35) (t 52))),P (o 54 (.nc (t 31))),P (fa 55 1 54),E (n (.st 1 (t 55) (t 53)))])))
def AP:AFn:=⟨H6,56,[],.keep,[],none⟩
def Jr:AC:=
 (Q (O [mc 2 (i 0)]) (Q (O [m 6 0,k 7 (f KD) [(t 6)],m 5 7,ex 8 5 0,ex 9 5 1,m 3 8,m 4 9]) (Q (O [m 10 4,o 11 (.eq false (.ifc true) (t 10) (.c .nilif)),m 12 11,
 g 13 12 (.mv (t 3)),g 14 12 (.ar .geq (t 13) (i 0)),o 15 (.pk (t 12) (t 14) F),m 16 15,g 17 16 (.mv (t 3)),g 18 16 (.ar .leq (t 17) (i 999)),o 19 (.pk (t 16) (t 18) F),m 20
 19,g 21 20 (.mv (t 3)),⟨(some 22),(some (20,true)),(.call (.c (.fn (.func wm) [] [])) [(.t 21)])⟩,g 23 20 (.mv (t 0)),g 24 20 (.ar .eql (t 22) (t 23)),o 25 (.pk
 (t 20) (t 24) F),k 26 (f iR) [(t 25)]]) (Q (O [m 27 3,m 2 27]) R))))
def Cj:AFn:=⟨Jr,28,[.t 2],.keep,[],none⟩
def H7:AC:=
 (Q (O [bl 12 11 10]) (Q (C 12 X (.exit 0)) (Q (.block 1 (Q (O [ia 13 1 9 11,ld 14 13,m 5 14]) (Q (O [m 15 5,k 16 (f kD) [(t 15),(s [61])],o 17 (.ar .eql (t 16) (i
 1)),k 18 (f iR) [(t 17)]]) (Q (O [m 20 5,k 21 (f L7) [(t 20),(s [61])],m 19 21,ex 22 19 0,ex 23 19 1,ex 24 19 2,m 6 22,m 7 23,m 8 24]) (O [m 25 3,m
 26 6,m 27 7,o 28 (.bd [(.str []),(.str [])] [(0,1),(1,1)] [(0,(t 26)),(1,(t 27))]),o 29 (.bs 2 [(.str []),(.str [])] 1 [(0,(t 28))]),o 30 (.ap false a6 2 32
 false (t 25) (t 29)),m 3 30]))))) (O [ad 31 11,m 11 31]))))
def KK:AC:=
 (Q (O [mc 2 (.c (.slice .nil 2 []))]) (Q (O [mc 3 (.c (.slice .nil 2 []))]) (Q (Q (O [m 9 0,ls 10 9,mc 11 (i 0)]) (.block 0 (.loop ⟨none,[],false⟩ H7))) (Q (O [m
 32 3,m 2 32]) R))))
def DT:AFn:=⟨KK,33,[.t 2],.keep,[],none⟩
def H8:AC:=
 (D [P (m 4 0),P (m 5 0),P (o 6 (.nc (t 5))),P (fa 7 0 6),P (fa 8 3 7),W (ld 9 8),P (m 10 1),P (o 11 (.ias 1 (t 10) (i 0))),W (ld 12 11),P (m 13 1),P (o 14 (.ias 1 (t 13)
 (i 1))),W (ld 15 14),P (m 16 1),P (o 17 (.sll 1 (t 16) (some (i 2)) none none)),K (k 18 (f yW) [(t 17)]),P (o 19 (.bd [(.str []),(.str []),(.slice .nil 2 []),
 (.slice .nil 2 [])] [(0,1),(1,1),(2,1),(3,1)] [(0,(t 12)),(1,(t 15)),(2,(t 18))])),P (o 20 (.bs 4 [(.str []),(.str []),(.slice .nil 0 []),(.slice .nil 0 [])] 1 [(0,
 (t 19))])),E (o 21 (.ap true ec 4 80 false (t 9) (t 20))),P (o 22 (.nc (t 4))),P (fa 23 0 22),P (fa 24 3 23),E (n (.st 1 (t 24) (t 21)))])
def AQ:AFn:=⟨H8,25,[],.keep,[0],none⟩
def H9:AC:=
 (Q (O [m 5 0,o 6 (.nc (t 5)),fa 7 6 6,ld 8 7,o 9 (.ar .eql (t 8) (s [101,110,116,114,121])),m 10 9,h 11 10 (.mv (t 0)),h 12 10 (.nc (t 11)),h 13 10 (.fa 6 (t 12)),h 14
 10 (.ld none (t 13)),h 15 10 (.ar .eql (t 14) (s [102,111,114,109])),o 16 (.pk (t 10) T (t 15)),k 17 (f iR) [(t 16)]]) (Q (D [P (m 18 0),P (o 19 (.nc (t 18))),P
 (fa 20 0 19),P (fa 21 3 20),W (ld 22 21),P (m 23 0),P (o 24 (.nc (t 23))),P (fa 25 0 24),P (fa 26 3 25),W (ld 27 26),W (ls 28 27),P (o 29 (.ar .sub (t 28) (i 1))),P (ia 30
 4 22 29),P (m 4 30)]) (D [P (m 31 4),P (m 32 4),P (o 33 (.nc (t 32))),P (fa 34 3 33),W (ld 35 34),P (m 36 1),P (o 37 (.ias 1 (t 36) (i 0))),W (ld 38 37),P (m 40 1),P (o 41
 (.ias 1 (t 40) (i 1))),W (ld 42 41),K (k 39 (f wj) [(t 38)]),K (k 43 (f jN) [(t 42)]),P (o 44 (.bd [(.int .i64 0),(.str [])] [(0,1),(1,1)] [(0,(t
 39)),(1,(t 43))])),P (o 45 (.bs 2 [(.int .i64 0),(.str [])] 1 [(0,(t 44))])),E (o 46 (.ap false eL 2 24 false (t 35) (t 45))),P (o 47 (.nc (t 31))),P (fa 48 3
 47),E (n (.st 1 (t 48) (t 46)))])))
def AR:AFn:=⟨H9,49,[],.keep,[],none⟩
def Ia:AC:=
 (D [P (m 4 0),P (m 5 0),P (o 6 (.nc (t 5))),P (fa 7 0 6),P (fa 8 4 7),W (ld 9 8),P (m 10 1),P (o 11 (.ias 1 (t 10) (i 0))),W (ld 12 11),P (m 14 1),P (o 15 (.ias 1 (t 14)
 (i 1))),W (ld 16 15),P (m 18 1),P (o 19 (.ias 1 (t 18) (i 2))),W (ld 20 19),P (m 22 1),P (o 23 (.ias 1 (t 22) (i 3))),W (ld 24 23),K (k 13 (f jN) [(t 12)]),K (k
 17 (f jN) [(t 16)]),K (k 21 (f jN) [(t 20)]),K (k 25 (f jN) [(t 24)]),P (o 26 (.bd [(.str []),(.str []),(.str []),(.str [])] [(0,1),(1,1),(2,
 1),(3,1)] [(0,(t 13)),(1,(t 17)),(2,(t 21)),(3,(t 25))])),P (o 27 (.bs 4 [(.str []),(.str []),(.str []),(.str [])] 1 [(0,(t 26))])),E (o 28 (.ap false eV 4
 64 false (t 9) (t 27))),P (o 29 (.nc (t 4))),P (fa 30 0 29),P (fa 31 4 30),E (n (.st 1 (t 31) (t 28)))])
def AS:AFn:=⟨Ia,32,[],.keep,[],none⟩
def Ib:AC:=
 (D [P (m 4 0),P (m 5 0),P (o 6 (.nc (t 5))),P (fa 7 0 6),P (fa 8 5 7),W (ld 9 8),P (m 10 1),P (o 11 (.ias 1 (t 10) (i 0))),W (ld 12 11),P (m 13 1),P (o 14 (.ias 1 (t 13)
 (i 1))),W (ld 15 14),K (k 16 (f jN) [(t 15)]),P (m 17 1),P (o 18 (.sll 1 (t 17) (some (i 2)) none none)),K (k 19 (f yW) [(t 18)]),P (o 20 (.bd [(.str []),
 (.str []),(.slice .nil 2 [])] [(0,1),(1,1),(2,1)] [(0,(t 12)),(1,(t 16)),(2,(t 19))])),P (o 21 (.bs 3 [(.str []),(.str []),(.slice .nil 0 [])] 1 [(0,(t 20))])),E (o
 22 (.ap false lb 3 56 false (t 9) (t 21))),P (o 23 (.nc (t 4))),P (fa 24 0 23),P (fa 25 5 24),E (n (.st 1 (t 25) (t 22)))])
def AT:AFn:=⟨Ib,26,[],.keep,[],none⟩
def Ck:AFn:=ij.k
def Cm:AFn:=iT.k
def iM:AFn:=aQ.k
def jd:AFn:=aX.k
def AU:AFn:=jw.k
def wR:AFn:=ik.k
def fZ:AFn:=aE.k
def uq:AFn:=fX.k
def sH:AFn:=dC.k
def rL:AFn:=db.k
def ma:AFn:=cM.k
def nP:AFn:=dc.k
def pS:AFn:=dW.k
def sI:AFn:=ff.k
def rM:AFn:=eG.k
def j6:AFn:=gX.k
def kq:AFn:=iq.k
def mA:AFn:=cU.k
def Js:AC:=
 (Q (O [mc 2 (i 0),mc 3 (.c .nilif)]) (Q (O [m 7 0,k 8 (f Ab) [(t 7)],m 6 8,ex 9 6 0,ex 10 6 1,m 4 9,m 5 10]) (Q (Q (O [m 11 5,o 12 (.eq true (.ifc true)
 (t 11) (.c .nilif))]) (C 12 (Q (O [m 13 4,m 14 0,m 15 5,k 16 (f GZ) [(s [65,116,111,105]),(t 14),(i 0),(i 0),(t 15)],m 2 13,m 3 16]) R) X)) (Q (O [m 17 4,
 m 2 17,mc 3 (.c .nilif)]) R))))
def Cn:AFn:=⟨Js,18,[.t 2,.t 3],.keep,[],none⟩
def Jt:AC:=
 (Q (O [mc 2 (s [])]) (Q (O [m 3 0,k 4 (f Ac) [(t 3)],m 2 4]) R))
def Co:AFn:=⟨Jt,5,[.t 2],.keep,[],none⟩
def KL:AC:=
 (Q (O [mc 4 (s []),mc 5 (s []),mc 6 F]) (Q (O [m 7 0,m 8 1,k 9 (f wt) [(t 7),(t 8)],ex 10 9 0,ex 11 9 1,ex 12 9 2,m 4 10,m 5 11,m 6 12]) R))
def DU:AFn:=⟨KL,13,[.t 4,.t 5,.t 6],.keep,[],none⟩
def kr:AFn:=bZ.k
def rN:AFn:=eH.k
def nQ:AFn:=de.k
def rO:AFn:=eI.k
def iU:AFn:=fP.k
def FR:AC:=
 (Q (O [mc 2 (i 0)]) (Q (Q (O [m 3 0,o 4 (.ar .geq (t 3) (.c (.int .u64 4294967296)))]) (C 4 (Q (O [m 5 0,o 6 (.sh .shr (t 5) (.c (.int .u64 32))),m 0 6]) (O [mc 2 (i 32)])) X))
 (Q (Q (O [m 7 0,o 8 (.ar .geq (t 7) (.c (.int .u64 65536)))]) (C 8 (Q (O [m 9 0,o 10 (.sh .shr (t 9) (.c (.int .u64 16))),m 0 10]) (O [m 11 2,o 12 (.ar .add (t 11) (i 16)),m 2
 12])) X)) (Q (Q (O [m 13 0,o 14 (.ar .geq (t 13) (.c (.int .u64 256)))]) (C 14 (Q (O [m 15 0,o 16 (.sh .shr (t 15) (.c (.int .u64 8))),m 0 16]) (O [m 17 2,o 18 (.ar .add (t 17)
 (i 8)),m 2 18])) X)) (Q (O [m 19 2,m 20 0,o 21 (.cvi .u8 (t 20)),o 22 (.ixs (s [0,1,2,2,3,3,3,3,4,4,4,4,4,4,4,4,5,5,5,5,5,5,5,5,5,5,5,5,5,5,5,5,
 6,6,6,6,6,6,6,6,6,6,6,6,6,6,6,6,6,6,6,6,6,6,6,6,6,6,6,6,6,6,6,6,7,7,7,7,7,7,7,7,7,7,7,7,7,7,7,7,7,7,7,7,7,7,7,7,7,7,7,7,
 7,7,7,7,7,7,7,7,7,7,7,7,7,7,7,7,7,7,7,7,7,7,7,7,7,7,7,7,7,7,7,7,7,7,7,7,8,8,8,8,8,8,8,8,8,8,8,8,8,8,8,8,8,8,8,8,8,8,8,8,
 8,8,8,8,8,8,8,8,8,8,8,8,8,8,8,8,8,8,8,8,8,8,8,8,8,8,8,8,8,8,8,8,8,8,8,8,8,8,8,8,8,8,8,8,8,8,8,8,8,8,8,8,8,8,8,8,8,8,8,8,
 8,8,8,8,8,8,8,8,8,8,8,8,8,8,8,8,8,8,8,8,8,8,8,8,8,8,8,8,8,8,8,8,8,8,8,8,8,8,8,8,8,8,8,8]) (t 21)),o 23 (.cvi .i64 (t 22)),o 24 (.ar .add
 (t 19) (t 23)),m 2 24]) R)))))
def wS:AFn:=⟨FR,25,[.t 2],.keep,[],none⟩
def ks:AFn:=b4.k
def oZ:AFn:=j5.k
def iA:AFn:=fg.k
def wT:AC:=
 (Q (O [bl 50 49 48]) (Q (C 50 X (.exit 0)) (Q (.block 1 (Q (O [ia 51 1 47 49,ld 52 51,m 8 52]) (Q (O [m 53 8,o 54 (.ar .sub (t 53) (u 48)),m 8 54]) (Q (Q (O [m 55 8,o 56 (.ar
 .gtr (t 55) (u 9))]) (C 56 (Q (O [o 57 (.mi bV (i 2)),mc 2 (i 0),m 3 57]) R) X)) (O [m 58 6,o 59 (.ar .mul (t 58) (i 10)),m 60 8,o 61 (.cvi .i64 (t 60)),o 62 (.ar
 .add (t 59) (t 61)),m 6 62]))))) (O [ad 63 49,m 49 63]))))
def zk:AC:=
 (Q (O [mc 2 (i 0),mc 3 (.c .nilif)]) (Q (O [m 11 0,lt 12 11,m 4 12]) (Q (Q (O [mc 13 F,g 14 13 (.mv (t 4)),g 15 13 (.ar .lss (i 0) (t 14)),g 16 13 (.mv (t 15)),g 17 16 (.mv
 (t 4)),g 18 16 (.ar .lss (t 17) (i 10)),g 19 13 (.pk (t 16) (t 18) F),o 20 (.pk (t 13) (t 19) F),m 21 20,h 22 21 (.mv T),g 23 22 (.mv (t 4)),g 24 22 (.ar .lss (i 0) (t 23)),
 g 25 22 (.mv (t 24)),g 26 25 (.mv (t 4)),g 27 25 (.ar .lss (t 26) (i 19)),g 28 22 (.pk (t 25) (t 27) F),h 29 21 (.pk (t 22) (t 28) F),o 30 (.pk (t 21) T (t 29))]) (C 30 (Q (O
 [m 31 0,m 5 31]) (Q (Q (O [m 32 0,o 33 (.ixs (t 32) (i 0)),o 34 (.ar .eql (t 33) (u 45)),m 35 34,h 36 35 (.mv (t 0)),h 37 35 (.ixs (t 36) (i 0)),h 38 35 (.ar .eql (t 37) (u
 43)),o 39 (.pk (t 35) T (t 38))]) (C 39 (Q (O [m 40 0,o 41 (.sls (t 40) (some (i 1)) none),m 0 41]) (Q (O [m 42 0,lt 43 42,o 44 (.ar .lss (t 43) (i 1))]) (C 44 (Q (O [o 45 (.mi
 bV (i 2)),mc 2 (i 0),m 3 45]) R) X))) X)) (Q (O [mc 6 (i 0)]) (Q (Q (O [m 46 0,o 47 (.cvsb (t 46)),ls 48 47,mc 49 (i 0)]) (.block 0 (.loop ⟨none,[],false⟩
 wT))) (Q (Q (O [m 64 5,o 65 (.ixs (t 64) (i 0)),o 66 (.ar .eql (t 65) (u 45))]) (C 66 (O [m 67 6,o 68 (.un .neg (t 67)),m 6 68]) X)) (Q (O [m 69 6,m 2
 69,mc 3 (.c .nilif)]) R)))))) X)) (Q (O [m 71 0,k 72 (f vu) [(t 71),(i 10),(i 0)],m 70 72,ex 73 70 0,ex 74 70 1,m 9 73,m 10 74]) (Q (O [m 75 9,m
 76 10,m 2 75,m 3 76]) R)))))
def qB:AFn:=⟨zk,77,[.t 2,.t 3],.keep,[],none⟩
def FS:AC:=
 (Q (O [mc 10 (.c .nilif)]) (Q (Q (O [m 11 4]) (.block 0 (Q (O [o 13 (.mi bV (i 2)),o 14 (.eq false (.ifc false) (t 11) (t 13)),m 12 14]) (C 12 (Q (O [m 15 0,m 16 1,
 k 17 (f Cz) [(t 15),(t 16)],o 18 (.mi kN (t 17)),m 10 18]) R) (Q (O [o 20 (.mi bV (i 1)),o 21 (.eq false (.ifc false) (t 11) (t
 20)),m 19 21]) (C 19 (Q (O [m 22 0,m 23 1,k 24 (f Dw) [(t 22),(t 23)],o 25 (.mi kN (t 24)),m 10 25]) R) (Q (O [o 27 (.mi bV (i
 3)),o 28 (.eq false (.ifc false) (t 11) (t 27)),m 26 28]) (C 26 (Q (O [m 29 0,m 30 1,m 31 2,k 32 (f ED) [(t 29),(t 30),(t 31)],o 33 (.mi
 kN (t 32)),m 10 33]) R) (Q (O [o 35 (.mi bV (i 4)),o 36 (.eq false (.ifc false) (t 11) (t 35)),m 34 36]) (C 34 (Q (O [m 37 0,m 38 1,m 39 3,k 40
 (f Bw) [(t 37),(t 38),(t 39)],o 41 (.mi kN (t 40)),m 10 41]) R) X)))))))))) (Q (O [m 42 4,m 10 42]) R)))
def wU:AFn:=⟨FS,43,[.t 10],.keep,[],none⟩
def zl:AC:=
 (Q (O [mc 2 (s [])]) (Q (O [m 3 0,k 4 (f uN) [(t 3),(i 10)],m 2 4]) R))
def qC:AFn:=⟨zl,5,[.t 2],.keep,[],none⟩
def vy:AC:=
 (Q (O [mc 4 (s []),mc 5 (s []),mc 6 F]) (Q (Q (O [m 8 0,m 9 1,k 10 (f gx) [(t 8),(t 9)],m 7 10]) (Q (O [m 11 7,o 12 (.ar .geq (t 11) (i 0))]) (C 12
 (Q (D [P (m 13 0),P (m 14 7),P (o 15 (.sls (t 13) none (some (t 14)))),P (m 16 0),P (m 17 7),P (m 18 1),W (lt 19 18),P (o 20 (.ar .add (t 17) (t 19))),P (o 21 (.sls (t 16)
 (some (t 20)) none)),P (m 4 15),P (m 5 21),P (mc 6 T)]) R) X))) (Q (O [m 22 0,m 4 22,mc 5 (s []),mc 6 F]) R)))
def o1:AFn:=⟨vy,23,[.t 4,.t 5,.t 6],.keep,[],none⟩
def ur:AFn:=fY.k
def j7:AFn:=gY.k
def u9:AC:=
 (Q (O [mc 6 (i 0),mc 7 (.c .nilif)]) (Q (Q (O [m 12 0,o 13 (.ar .eql (t 12) (s []))]) (C 13 (Q (O [o 14 (.mi bV (i 2)),mc 6 (i 0),m 7 14]) R) X)) (Q (O [mc 8 F]) (Q
 (Q (O [m 15 0,o 16 (.ixs (t 15) (i 0))]) (.block 0 (Q (O [o 18 (.ar .eql (t 16) (u 43)),m 17 18]) (C 17 (O [m 19 0,o 20 (.sls (t 19) (some (i 1)) none),m 0 20]) (Q (O [o 22 (.ar
 .eql (t 16) (u 45)),m 21 22]) (C 21 (Q (O [m 23 0,o 24 (.sls (t 23) (some (i 1)) none),m 0 24]) (O [mc 8 T])) X)))))) (Q (O [mc 9 (.c (.int .u64 0))]) (Q (O [m 26 0,m 27 1,m 28
 2,k 29 (f uO) [(t 26),(t 27),(t 28)],m 25 29,ex 30 25 0,ex 31 25 1,m 9 30,m 7 31]) (Q (Q (O [m 32 7,o 33 (.eq true (.ifc true) (t 32) (.c
 .nilif)),m 34 33,g 35 34 (.mv (t 7)),g 36 34 (.mi bV (i 1)),g 37 34 (.eq true (.ifc false) (t 35) (t 36)),o 38 (.pk (t 34) (t 37) F)]) (C 38 (Q (O [m 39 7,mc 6 (i
 0),m 7 39]) R) X)) (Q (Q (O [m 40 2,o 41 (.ar .eql (t 40) (i 0))]) (C 41 (O [mc 2 (i 64)]) X)) (Q (O [m 42 2,o 43 (.ar .sub (t 42) (i 1)),o 44 (.cvi .u64 (t 43)),o 45 (.sh .shl
 (.c (.int .u64 1)) (t 44)),m 10 45]) (Q (Q (O [m 46 8,no 47 46,m 48 47,g 49 48 (.mv (t 9)),g 50 48 (.mv (t 10)),g 51 48 (.ar .geq (t 49) (t 50)),o 52 (.pk (t 48) (t 51) F)])
 (C 52 (Q (O [m 53 10,o 54 (.ar .sub (t 53) (.c (.int .u64 1))),o 55 (.cvi .i64 (t 54)),o 56 (.mi bV (i 1)),m 6 55,m 7 56]) R) X)) (Q (Q (O [m 57 8,m 58 57,g 59
 58 (.mv (t 9)),g 60 58 (.mv (t 10)),g 61 58 (.ar .gtr (t 59) (t 60)),o 62 (.pk (t 58) (t 61) F)]) (C 62 (Q (O [m 63 10,o 64 (.cvi .i64 (t 63)),o 65 (.un .neg (t 64)),o 66 (.mi
 bV (i 1)),m 6 65,m 7 66]) R) X)) (Q (O [m 67 9,o 68 (.cvi .i64 (t 67)),m 11 68]) (Q (Q (O [m 69 8]) (C 69 (O [m 70 11,o 71 (.un .neg (t 70)),m 11 71]) X)) (Q (O
 [m 72 11,m 6 72,mc 7 (.c .nilif)]) R))))))))))))))
def nR:AFn:=⟨u9,73,[.t 6,.t 7],.keep,[],none⟩
def BQ:AC:=
 (Q (O [mc 4 (.c .nilp)]) (Q (D [P (m 5 0),P (m 6 1),W (o 8 (.ld none (.c .unk))),K (k 7 (f gy) [(t 6)]),P (o 9 (.bd [(.str []),(.str []),.nilif] [(0,
 1),(1,1),(2,1)] [(0,(t 5)),(1,(t 7)),(2,(t 8))])),K (o 10 (.bx mQ (t 9))),P (m 4 10)]) R))
def sJ:AFn:=⟨BQ,11,[.t 4],.keep,[],none⟩
def CO:AC:=
 (Q (O [mc 4 (.c .nilp)]) (Q (D [P (m 5 0),P (m 6 1),W (o 8 (.ld none (.c .unk))),K (k 7 (f gy) [(t 6)]),P (o 9 (.bd [(.str []),(.str []),.nilif] [(0,
 1),(1,1),(2,1)] [(0,(t 5)),(1,(t 7)),(2,(t 8))])),K (o 10 (.bx mQ (t 9))),P (m 4 10)]) R))
def tx:AFn:=⟨CO,11,[.t 4],.keep,[],none⟩
def DV:AC:=
 (Q (O [mc 6 (.c .nilp)]) (Q (O [m 7 0,m 8 1,k 9 (f gy) [(t 8)],m 10 2,k 11 (f wm) [(t 10)],o 12 (.ar .add (s [105,110,118,97,108,105,
 100,32,98,97,115,101,32]) (t 11)),k 13 (f G1) [(t 12)],o 14 (.bd [(.str []),(.str []),.nilif] [(0,1),(1,1),(2,1)] [(0,(t 7)),(1,(t 9)),(2,(t 13))]),o
 15 (.bx mQ (t 14)),m 6 15]) R))
def uu:AFn:=⟨DV,16,[.t 6],.keep,[],none⟩
def AW:AC:=
 (Q (O [mc 6 (.c .nilp)]) (Q (O [m 7 0,m 8 1,k 9 (f gy) [(t 8)],m 10 2,k 11 (f wm) [(t 10)],o 12 (.ar .add (s [105,110,118,97,108,105,
 100,32,98,105,116,32,115,105,122,101,32]) (t 11)),k 13 (f G1) [(t 12)],o 14 (.bd [(.str []),(.str []),.nilif] [(0,1),(1,1),(2,1)] [(0,(t 7)),(1,(t
 9)),(2,(t 13))]),o 15 (.bx mQ (t 14)),m 6 15]) R))
def rP:AFn:=⟨AW,16,[.t 6],.keep,[],none⟩
def uv:AC:=
 (Q (O [mc 4 (s [])]) (Q (Q (O [m 10 1,o 11 (.ar .eql (t 10) (i 10))]) (C 11 (Q (Q (O [m 12 0,o 13 (.ar .leq (i 0) (t 12)),m 14 13,g 15 14 (.mv (t 0)),g 16 14 (.ar .lss (t 15)
 (i 100)),o 17 (.pk (t 14) (t 16) F)]) (C 17 (Q (O [m 18 0,k 19 (f yX) [(t 18)],m 4 19]) R) X)) (Q (O [o 5 (.nw [(.int .u8 0),(.int .u8 0),(.int .u8 0),
 (.int .u8 0),(.int .u8 0),(.int .u8 0),(.int .u8 0),(.int .u8 0),(.int .u8 0),(.int .u8 0),(.int .u8 0),(.int .u8 0),(.int .u8 0),(.int .u8 0),(.int .u8 0),(.int .u8 0),
 (.int .u8 0),(.int .u8 0),(.int .u8 0),(.int .u8 0),(.int .u8 0),(.int .u8 0),(.int .u8 0),(.int .u8 0)] Qz)]) (Q (O [m 20 0,o 21 (.cvi .u64 (t 20)),m 6 21]) (Q (Q
 (O [m 22 0,o 23 (.ar .lss (t 22) (i 0))]) (C 23 (O [m 24 6,o 25 (.un .neg (t 24)),m 6 25]) X)) (Q (O [m 26 6,k 27 (f uP) [(t 26)],m 7 27]) (Q (O [m 28
 7,o 29 (.ar .add (i 1) (t 28)),o 30 (.sla 24 1 (t 5) (some (i 1)) (some (t 29))),m 31 6,k 32 (f s6) [(t 30),(t 31)]]) (Q (Q (O [m 33 0,o 34 (.ar
 .lss (t 33) (i 0))]) (C 34 (Q (O [o 35 (.iaa 24 1 (t 5) (i 0)),n (.st 1 (t 35) (u 45))]) (Q (O [m 36 7,o 37 (.ar .add (i 1) (t 36)),o 38 (.sla 24 1 (t 5) none (some (t 37))),o
 39 (.cvbs (t 38)),m 4 39]) R)) X)) (Q (O [m 40 7,o 41 (.ar .add (i 1) (t 40)),o 42 (.sla 24 1 (t 5) (some (i 1)) (some (t 41))),o 43 (.cvbs (t 42)),m 4 43]) R)))))))) X)) (Q (O
 [m 45 0,o 46 (.cvi .u64 (t 45)),m 47 1,m 48 0,o 49 (.ar .lss (t 48) (i 0)),k 50 (f uk) [(.c (.slice .nil 1 [])),(t 46),(t 47),(t 49),F],m 44 50,
 ex 51 44 0,ex 52 44 1,m 8 51,m 9 52]) (Q (O [m 53 9,m 4 53]) R))))
def mB:AFn:=⟨uv,54,[.t 4],.keep,[],none⟩
def tc:AC:=
 (Q (O [bl 102 101 100]) (Q (C 102 X (.exit 3)) (Q (.block 4 (Q (O [ia 103 1 99 101,ld 104 103,m 15 104]) (Q (O [mc 16 (u 0)]) (Q (.block 5 (Q (O [m 107 15,o 108 (.ar .eql (t 107)
 (u 95)),m 109 108,g 110 109 (.mv (t 8)),o 111 (.pk (t 109) (t 110) F),m 106 111]) (C 106 (Q (O [mc 12 T]) (.exit 4)) (Q (O [m 113 15,o 114 (.ar .leq (u 48) (t 113)),m 115 114,
 g 116 115 (.mv (t 15)),g 117 115 (.ar .leq (t 116) (u 57)),o 118 (.pk (t 115) (t 117) F),m 112 118]) (C 112 (O [m 119 15,o 120 (.ar .sub (t 119) (u 48)),m 16 120]) (Q (O [m 122
 15,k 123 (f bE) [(t 122)],o 124 (.ar .leq (u 97) (t 123)),m 125 124,g 126 125 (.mv (t 15)),⟨(some 127),(some (125,true)),(.call (.c (.fn (.func
 bE) [] [])) [(.t 126)])⟩,g 128 125 (.ar .leq (t 127) (u 122)),o 129 (.pk (t 125) (t 128) F),m 121 129]) (C 121 (O [m 130 15,k 131 (f
 bE) [(t 130)],o 132 (.ar .sub (t 131) (u 97)),o 133 (.ar .add (t 132) (u 10)),m 16 133]) (Q (O [o 105 (.mi bV (i 2)),mc 6 (.c (.int .u64 0)),
 m 7 105]) R)))))))) (Q (Q (O [m 134 16,m 135 1,o 136 (.cvi .u8 (t 135)),o 137 (.ar .geq (t 134) (t 136))]) (C 137 (Q (O [o 138 (.mi bV (i 2)),mc 6 (.c (.int .u64
 0)),m 7 138]) R) X)) (Q (Q (O [m 139 13,m 140 10,o 141 (.ar .geq (t 139) (t 140))]) (C 141 (Q (O [m 142 11,o 143 (.mi bV (i 1)),m 6 142,m 7 143]) R) X)) (Q (O [m
 144 13,m 145 1,o 146 (.cvi .u64 (t 145)),o 147 (.ar .mul (t 144) (t 146)),m 13 147]) (Q (O [m 148 13,m 149 16,o 150 (.cvi .u64 (t 149)),o 151 (.ar .add (t 148) (t 150)),m 17
 151]) (Q (Q (O [m 152 17,m 153 13,bl 154 152 153,m 155 154,h 156 155 (.mv (t 17)),h 157 155 (.mv (t 11)),h 158 155 (.ar .gtr (t 156) (t 157)),o 159 (.pk (t 155) T (t 158))])
 (C 159 (Q (O [m 160 11,o 161 (.mi bV (i 1)),m 6 160,m 7 161]) R) X)) (O [m 162 17,m 13 162])))))))))) (O [ad 163 101,m 101 163]))))
def uw:AC:=
 (Q (O [mc 6 (.c (.int .u64 0)),mc 7 (.c .nilif)]) (Q (Q (O [m 18 0,o 19 (.ar .eql (t 18) (s []))]) (C 19 (Q (O [o 20 (.mi bV (i 2)),mc 6 (.c (.int .u64 0)),m 7 20])
 R) X)) (Q (O [m 21 1,o 22 (.ar .eql (t 21) (i 0)),m 8 22]) (Q (O [m 23 0,m 9 23]) (Q (.block 0 (Q (O [m 26 1,o 27 (.ar .leq (i 2) (t 26)),m 28 27,g 29 28 (.mv (t 1)),g 30 28
 (.ar .leq (t 29) (i 36)),o 31 (.pk (t 28) (t 30) F),m 25 31]) (C 25 X (Q (O [m 33 1,o 34 (.ar .eql (t 33) (i 0)),m 32 34]) (C 32 (Q (O [mc 1 (i 10)]) (Q (O [m 35 0,o 36 (.ixs
 (t 35) (i 0)),o 37 (.ar .eql (t 36) (u 48))]) (C 37 (.block 1 (Q (O [m 41 0,lt 42 41,o 43 (.ar .geq (t 42) (i 3)),m 44 43,g 45 44 (.mv (t 0)),g 46 44 (.ixs (t 45) (i 1)),
 ⟨(some 47),(some (44,true)),(.call (.c (.fn (.func bE) [] [])) [(.t 46)])⟩,g 48 44 (.ar .eql (t 47) (u 98)),o 49 (.pk (t 44) (t 48) F),m 40 49]) (C 40 (Q
 (O [mc 1 (i 2)]) (O [m 50 0,o 51 (.sls (t 50) (some (i 2)) none),m 0 51])) (Q (O [m 53 0,lt 54 53,o 55 (.ar .geq (t 54) (i 3)),m 56 55,g 57 56 (.mv (t 0)),g 58 56 (.ixs (t
 57) (i 1)),⟨(some 59),(some (56,true)),(.call (.c (.fn (.func bE) [] [])) [(.t 58)])⟩,g 60 56 (.ar .eql (t 59) (u 111)),o 61 (.pk (t 56) (t 60) F),m 52
 61]) (C 52 (Q (O [mc 1 (i 8)]) (O [m 62 0,o 63 (.sls (t 62) (some (i 2)) none),m 0 63])) (Q (O [m 65 0,lt 66 65,o 67 (.ar .geq (t 66) (i 3)),m 68 67,g 69 68 (.mv (t 0)),g 70
 68 (.ixs (t 69) (i 1)),⟨(some 71),(some (68,true)),(.call (.c (.fn (.func bE) [] [])) [(.t 70)])⟩,g 72 68 (.ar .eql (t 71) (u 120)),o 73 (.pk (t 68) (t
 72) F),m 64 73]) (C 64 (Q (O [mc 1 (i 16)]) (O [m 74 0,o 75 (.sls (t 74) (some (i 2)) none),m 0 75])) (Q (O [mc 1 (i 8)]) (O [m 38 0,o 39 (.sls (t 38) (some (i 1)) none),m 0
 39]))))))))) X))) (Q (O [o 24 (.mi bV (i 3)),mc 6 (.c (.int .u64 0)),m 7 24]) R)))))) (Q (Q (O [m 76 2,o 77 (.ar .eql (t 76) (i 0))]) (C 77 (O [mc 2 (i 64)]) (Q (O
 [m 78 2,o 79 (.ar .lss (t 78) (i 0)),m 80 79,h 81 80 (.mv (t 2)),h 82 80 (.ar .gtr (t 81) (i 64)),o 83 (.pk (t 80) T (t 82))]) (C 83 (Q (O [o 84 (.mi bV (i 4)),mc
 6 (.c (.int .u64 0)),m 7 84]) R) X)))) (Q (O [mc 10 (.c (.int .u64 0))]) (Q (Q (O [m 85 1]) (.block 2 (Q (O [o 91 (.ar .eql (t 85) (i 10)),m 90 91]) (C 90 (O [mc 10 (.c (.int .u64
 1844674407370955162))]) (Q (O [o 93 (.ar .eql (t 85) (i 16)),m 92 93]) (C 92 (O [mc 10 (.c (.int .u64 1152921504606846976))]) (O [m 86 1,o 87 (.cvi .u64 (t 86)),o 88 (.ar .quo
 (.c (.int .u64 18446744073709551615)) (t 87)),o 89 (.ar .add (t 88) (.c (.int .u64 1))),m 10 89]))))))) (Q (O [m 94 2,o 95 (.cvi .u64 (t 94)),o 96 (.sh .shl (.c (.int .u64 1))
 (t 95)),o 97 (.ar .sub (t 96) (.c (.int .u64 1))),m 11 97]) (Q (O [mc 12 F]) (Q (O [mc 13 (.c (.int .u64 0))]) (Q (Q (O [m 98 0,o 99 (.cvsb (t 98)),ls 100 99,mc 101 (i 0)])
 (.block 3 (.loop ⟨none,[],false⟩ tc))) (Q (Q (O [m 164 12,m 165 164,g 166 165 (.mv (t 9)),⟨(some 167),(some (165,true)),(.call (.c (.fn (.func
 s7) [] [])) [(.t 166)])⟩,g 168 165 (.un .not (t 167)),o 169 (.pk (t 165) (t 168) F)]) (C 169 (Q (O [o 170 (.mi bV (i 2)),mc 6 (.c (.int
 .u64 0)),m 7 170]) R) X)) (Q (O [m 171 13,m 6 171,mc 7 (.c .nilif)]) R))))))))))))))
def mC:AFn:=⟨uw,172,[.t 6,.t 7],.keep,[],none⟩
def ux:AC:=
 (Q (O [mc 2 (s [])]) (Q (Q (O [m 4 0,lt 5 4,o 6 (.ar .eql (t 5) (i 0))]) (C 6 (Q (O [mc 2 (s [])]) R) X)) (Q (O [m 7 0,lt 8 7,o 9 (.ms dL 1 [(.int .u8 0)] (t 8) (t 8)),m 3
 9]) (Q (O [m 10 3,m 11 0,o 12 (.cp 1 true (t 10) (t 11))]) (Q (O [m 13 3,o 14 (.ias 1 (t 13) (i 0)),m 15 3,ls 16 15,o 17 (.ust dL (t 14) (t 16)),m 2 17]) R)))))
def mD:AFn:=⟨ux,18,[.t 2],.keep,[],none⟩
def Me:AC:=
 (Q (O [mc 2 (.c .nilif)]) (Q (O [m 3 0,o 4 (.bd [(.str [])] [(0,1)] [(0,(t 3))]),o 5 (.bx Dx (t 4)),o 6 (.mi Bx (t 5)),m 2 6]) R))
def Fy:AFn:=⟨Me,7,[.t 2],.keep,[],none⟩
def xO:AC:=
 (Q (O [mc 2 (s [])]) (Q (Q (O [m 3 0,o 4 (.ar .lss (t 3) (i 10))]) (C 4 (Q (O [m 5 0,m 6 0,ad 7 6,o 8 (.sls (s [48,49,50,51,52,53,54,55,56,57,97,98,99,100,101,
 102,103,104,105,106,107,108,109,110,111,112,113,114,115,116,117,118,119,120,121,122]) (some (t 5)) (some (t 7))),m 2 8]) R) X)) (Q (O [m 9 0,o 10 (.ar .mul (t
 9) (i 2)),m 11 0,o 12 (.ar .mul (t 11) (i 2)),o 13 (.ar .add (t 12) (i 2)),o 14 (.sls (s [48,48,48,49,48,50,48,51,48,52,48,53,48,54,48,55,48,56,48,57,49,48,
 49,49,49,50,49,51,49,52,49,53,49,54,49,55,49,56,49,57,50,48,50,49,50,50,50,51,50,52,50,53,50,54,50,55,50,56,50,57,51,48,51,49,51,50,51,
 51,51,52,51,53,51,54,51,55,51,56,51,57,52,48,52,49,52,50,52,51,52,52,52,53,52,54,52,55,52,56,52,57,53,48,53,49,53,50,53,51,53,52,53,53,
 53,54,53,55,53,56,53,57,54,48,54,49,54,50,54,51,54,52,54,53,54,54,54,55,54,56,54,57,55,48,55,49,55,50,55,51,55,52,55,53,55,54,55,55,55,
 56,55,57,56,48,56,49,56,50,56,51,56,52,56,53,56,54,56,55,56,56,56,57,57,48,57,49,57,50,57,51,57,52,57,53,57,54,57,55,57,56,57,57]) (some (t
 10)) (some (t 13))),m 2 14]) R)))
def pT:AFn:=⟨xO,15,[.t 2],.keep,[],none⟩
def uy:AC:=
 (Q (O [mc 2 (i 0)]) (Q (O [m 4 0,k 5 (f GY) [(t 4)],k 6 (f uQ) [(t 5)],m 3 6]) (Q (O [m 7 3,m 8 0,m 9 3,o 10 (.iaa 20 1 (.c .unk) (t
 9)),ld 11 10,o 12 (.ar .geq (t 8) (t 11)),k 13 (f uR) [(t 12)],o 14 (.ar .add (t 7) (t 13)),m 2 14]) R)))
def mE:AFn:=⟨uy,15,[.t 2],.keep,[],none⟩
def rj:AC:=
 (Q (Q (O [m 19 4,o 20 (.ar .geq (t 19) (i 8))]) (C 20 X (.exit 0))) (.block 1 (Q (O [m 21 1,o 22 (.ar .rem (t 21) (.c (.int .u64 100000000))),o 23 (.cvi .u32 (t 22)),m 5 23]) (Q
 (O [m 24 1,o 25 (.ar .quo (t 24) (.c (.int .u64 100000000))),m 1 25]) (Q (O [m 26 5,o 27 (.ar .quo (t 26) (.c (.int .u32 10000))),m 28 5,o 29 (.ar .rem (t 28) (.c (.int .u32
 10000))),m 6 27,m 7 29]) (Q (O [m 30 7,o 31 (.ar .quo (t 30) (.c (.int .u32 100))),o 32 (.ar .mul (t 31) (.c (.int .u32 2))),m 33 7,o 34 (.ar .rem (t 33) (.c (.int .u32
 100))),o 35 (.ar .mul (t 34) (.c (.int .u32 2))),m 8 32,m 9 35]) (Q (O [m 36 6,o 37 (.ar .quo (t 36) (.c (.int .u32 100))),o 38 (.ar .mul (t 37) (.c (.int .u32 2))),m 39 6,o
 40 (.ar .rem (t 39) (.c (.int .u32 100))),o 41 (.ar .mul (t 40) (.c (.int .u32 2))),m 10 38,m 11 41]) (Q (D [P (m 42 0),P (m 43 4),P (o 44 (.ar .sub (t 43) (i 1))),P (m 45 0),
 P (m 46 4),P (o 47 (.ar .sub (t 46) (i 2))),P (m 48 9),P (o 49 (.ar .add (t 48) (.c (.int .u32 1)))),P (o 50 (.ixs (s [48,48,48,49,48,50,48,51,48,52,48,53,48,54,
 48,55,48,56,48,57,49,48,49,49,49,50,49,51,49,52,49,53,49,54,49,55,49,56,49,57,50,48,50,49,50,50,50,51,50,52,50,53,50,54,50,55,50,56,50,
 57,51,48,51,49,51,50,51,51,51,52,51,53,51,54,51,55,51,56,51,57,52,48,52,49,52,50,52,51,52,52,52,53,52,54,52,55,52,56,52,57,53,48,53,49,
 53,50,53,51,53,52,53,53,53,54,53,55,53,56,53,57,54,48,54,49,54,50,54,51,54,52,54,53,54,54,54,55,54,56,54,57,55,48,55,49,55,50,55,51,55,
 52,55,53,55,54,55,55,55,56,55,57,56,48,56,49,56,50,56,51,56,52,56,53,56,54,56,55,56,56,56,57,57,48,57,49,57,50,57,51,57,52,57,53,57,54,
 57,55,57,56,57,57]) (t 49))),P (m 51 9),P (o 52 (.ixs (s [48,48,48,49,48,50,48,51,48,52,48,53,48,54,48,55,48,56,48,57,49,48,49,49,49,50,49,51,49,
 52,49,53,49,54,49,55,49,56,49,57,50,48,50,49,50,50,50,51,50,52,50,53,50,54,50,55,50,56,50,57,51,48,51,49,51,50,51,51,51,52,51,53,51,54,
 51,55,51,56,51,57,52,48,52,49,52,50,52,51,52,52,52,53,52,54,52,55,52,56,52,57,53,48,53,49,53,50,53,51,53,52,53,53,53,54,53,55,53,56,53,
 57,54,48,54,49,54,50,54,51,54,52,54,53,54,54,54,55,54,56,54,57,55,48,55,49,55,50,55,51,55,52,55,53,55,54,55,55,55,56,55,57,56,48,56,49,
 56,50,56,51,56,52,56,53,56,54,56,55,56,56,56,57,57,48,57,49,57,50,57,51,57,52,57,53,57,54,57,55,57,56,57,57]) (t 51))),P (ia 53 1 42 44),E (n
 (.st 1 (t 53) (t 50))),P (ia 54 1 45 47),E (n (.st 1 (t 54) (t 52)))]) (Q (D [P (m 55 0),P (m 56 4),P (o 57 (.ar .sub (t 56) (i 3))),P (m 58 0),P (m 59 4),P (o 60 (.ar .sub
 (t 59) (i 4))),P (m 61 8),P (o 62 (.ar .add (t 61) (.c (.int .u32 1)))),P (o 63 (.ixs (s [48,48,48,49,48,50,48,51,48,52,48,53,48,54,48,55,48,56,48,57,49,48,
 49,49,49,50,49,51,49,52,49,53,49,54,49,55,49,56,49,57,50,48,50,49,50,50,50,51,50,52,50,53,50,54,50,55,50,56,50,57,51,48,51,49,51,50,51,
 51,51,52,51,53,51,54,51,55,51,56,51,57,52,48,52,49,52,50,52,51,52,52,52,53,52,54,52,55,52,56,52,57,53,48,53,49,53,50,53,51,53,52,53,53,
 53,54,53,55,53,56,53,57,54,48,54,49,54,50,54,51,54,52,54,53,54,54,54,55,54,56,54,57,55,48,55,49,55,50,55,51,55,52,55,53,55,54,55,55,55,
 56,55,57,56,48,56,49,56,50,56,51,56,52,56,53,56,54,56,55,56,56,56,57,57,48,57,49,57,50,57,51,57,52,57,53,57,54,57,55,57,56,57,57]) (t
 62))),P (m 64 8),P (o 65 (.ixs (s [48,48,48,49,48,50,48,51,48,52,48,53,48,54,48,55,48,56,48,57,49,48,49,49,49,50,49,51,49,52,49,53,49,54,49,55,
 49,56,49,57,50,48,50,49,50,50,50,51,50,52,50,53,50,54,50,55,50,56,50,57,51,48,51,49,51,50,51,51,51,52,51,53,51,54,51,55,51,56,51,57,52,
 48,52,49,52,50,52,51,52,52,52,53,52,54,52,55,52,56,52,57,53,48,53,49,53,50,53,51,53,52,53,53,53,54,53,55,53,56,53,57,54,48,54,49,54,50,
 54,51,54,52,54,53,54,54,54,55,54,56,54,57,55,48,55,49,55,50,55,51,55,52,55,53,55,54,55,55,55,56,55,57,56,48,56,49,56,50,56,51,56,52,56,
 53,56,54,56,55,56,56,56,57,57,48,57,49,57,50,57,51,57,52,57,53,57,54,57,55,57,56,57,57]) (t 64))),P (ia 66 1 55 57),E (n (.st 1 (t 66) (t 63))),P (ia
 67 1 58 60),E (n (.st 1 (t 67) (t 65)))]) (Q (D [P (m 68 0),P (m 69 4),P (o 70 (.ar .sub (t 69) (i 5))),P (m 71 0),P (m 72 4),P (o 73 (.ar .sub (t 72) (i 6))),P (m 74 11),P
 (o 75 (.ar .add (t 74) (.c (.int .u32 1)))),P (o 76 (.ixs (s [48,48,48,49,48,50,48,51,48,52,48,53,48,54,48,55,48,56,48,57,49,48,49,49,49,50,49,51,49,
 52,49,53,49,54,49,55,49,56,49,57,50,48,50,49,50,50,50,51,50,52,50,53,50,54,50,55,50,56,50,57,51,48,51,49,51,50,51,51,51,52,51,53,51,54,
 51,55,51,56,51,57,52,48,52,49,52,50,52,51,52,52,52,53,52,54,52,55,52,56,52,57,53,48,53,49,53,50,53,51,53,52,53,53,53,54,53,55,53,56,53,
 57,54,48,54,49,54,50,54,51,54,52,54,53,54,54,54,55,54,56,54,57,55,48,55,49,55,50,55,51,55,52,55,53,55,54,55,55,55,56,55,57,56,48,56,49,
 56,50,56,51,56,52,56,53,56,54,56,55,56,56,56,57,57,48,57,49,57,50,57,51,57,52,57,53,57,54,57,55,57,56,57,57]) (t 75))),P (m 77 11),P (o 78 (.ixs
 (s [48,48,48,49,48,50,48,51,48,52,48,53,48,54,48,55,48,56,48,57,49,48,49,49,49,50,49,51,49,52,49,53,49,54,49,55,49,56,49,57,50,48,50,49,
 50,50,50,51,50,52,50,53,50,54,50,55,50,56,50,57,51,48,51,49,51,50,51,51,51,52,51,53,51,54,51,55,51,56,51,57,52,48,52,49,52,50,52,51,52,
 52,52,53,52,54,52,55,52,56,52,57,53,48,53,49,53,50,53,51,53,52,53,53,53,54,53,55,53,56,53,57,54,48,54,49,54,50,54,51,54,52,54,53,54,54,
 54,55,54,56,54,57,55,48,55,49,55,50,55,51,55,52,55,53,55,54,55,55,55,56,55,57,56,48,56,49,56,50,56,51,56,52,56,53,56,54,56,55,56,56,56,
 57,57,48,57,49,57,50,57,51,57,52,57,53,57,54,57,55,57,56,57,57]) (t 77))),P (ia 79 1 68 70),E (n (.st 1 (t 79) (t 76))),P (ia 80 1 71 73),E (n (.st 1 (t 80)
 (t 78)))]) (Q (D [P (m 81 0),P (m 82 4),P (o 83 (.ar .sub (t 82) (i 7))),P (m 84 0),P (m 85 4),P (o 86 (.ar .sub (t 85) (i 8))),P (m 87 10),P (o 88 (.ar .add (t 87) (.c (.int
 .u32 1)))),P (o 89 (.ixs (s [48,48,48,49,48,50,48,51,48,52,48,53,48,54,48,55,48,56,48,57,49,48,49,49,49,50,49,51,49,52,49,53,49,54,49,55,49,56,
 49,57,50,48,50,49,50,50,50,51,50,52,50,53,50,54,50,55,50,56,50,57,51,48,51,49,51,50,51,51,51,52,51,53,51,54,51,55,51,56,51,57,52,48,52,
 49,52,50,52,51,52,52,52,53,52,54,52,55,52,56,52,57,53,48,53,49,53,50,53,51,53,52,53,53,53,54,53,55,53,56,53,57,54,48,54,49,54,50,54,51,
 54,52,54,53,54,54,54,55,54,56,54,57,55,48,55,49,55,50,55,51,55,52,55,53,55,54,55,55,55,56,55,57,56,48,56,49,56,50,56,51,56,52,56,53,56,
 54,56,55,56,56,56,57,57,48,57,49,57,50,57,51,57,52,57,53,57,54,57,55,57,56,57,57]) (t 88))),P (m 90 10),P (o 91 (.ixs (s [48,48,48,49,48,50,48,51,
 48,52,48,53,48,54,48,55,48,56,48,57,49,48,49,49,49,50,49,51,49,52,49,53,49,54,49,55,49,56,49,57,50,48,50,49,50,50,50,51,50,52,50,53,50,
 54,50,55,50,56,50,57,51,48,51,49,51,50,51,51,51,52,51,53,51,54,51,55,51,56,51,57,52,48,52,49,52,50,52,51,52,52,52,53,52,54,52,55,52,56,
 52,57,53,48,53,49,53,50,53,51,53,52,53,53,53,54,53,55,53,56,53,57,54,48,54,49,54,50,54,51,54,52,54,53,54,54,54,55,54,56,54,57,55,48,55,
 49,55,50,55,51,55,52,55,53,55,54,55,55,55,56,55,57,56,48,56,49,56,50,56,51,56,52,56,53,56,54,56,55,56,56,56,57,57,48,57,49,57,50,57,51,
 57,52,57,53,57,54,57,55,57,56,57,57]) (t 90))),P (ia 92 1 81 83),E (n (.st 1 (t 92) (t 89))),P (ia 93 1 84 86),E (n (.st 1 (t 93) (t 91)))]) (O [m 94 4,o 95 (.ar
 .sub (t 94) (i 8)),m 4 95]))))))))))))
def sK:AC:=
 (Q (O [m 17 0,ls 18 17,m 4 18]) (Q (.block 0 (.loop ⟨none,[],false⟩ rj)) (Q (O [m 96 1,o 97 (.cvi .u32 (t 96)),m 12 97]) (Q (Q (O [m 98 4,o 99
 (.ar .geq (t 98) (i 4))]) (C 99 (Q (O [m 100 12,o 101 (.ar .rem (t 100) (.c (.int .u32 10000))),m 13 101]) (Q (O [m 102 12,o 103 (.ar .quo (t 102) (.c (.int .u32 10000))),m 12
 103]) (Q (O [m 104 13,o 105 (.ar .quo (t 104) (.c (.int .u32 100))),o 106 (.ar .mul (t 105) (.c (.int .u32 2))),m 107 13,o 108 (.ar .rem (t 107) (.c (.int .u32 100))),o 109
 (.ar .mul (t 108) (.c (.int .u32 2))),m 14 106,m 15 109]) (Q (D [P (m 110 0),P (m 111 4),P (o 112 (.ar .sub (t 111) (i 1))),P (m 113 0),P (m 114 4),P (o 115 (.ar .sub (t 114)
 (i 2))),P (m 116 15),P (o 117 (.ar .add (t 116) (.c (.int .u32 1)))),P (o 118 (.ixs (s [48,48,48,49,48,50,48,51,48,52,48,53,48,54,48,55,48,56,48,57,49,48,
 49,49,49,50,49,51,49,52,49,53,49,54,49,55,49,56,49,57,50,48,50,49,50,50,50,51,50,52,50,53,50,54,50,55,50,56,50,57,51,48,51,49,51,50,51,
 51,51,52,51,53,51,54,51,55,51,56,51,57,52,48,52,49,52,50,52,51,52,52,52,53,52,54,52,55,52,56,52,57,53,48,53,49,53,50,53,51,53,52,53,53,
 53,54,53,55,53,56,53,57,54,48,54,49,54,50,54,51,54,52,54,53,54,54,54,55,54,56,54,57,55,48,55,49,55,50,55,51,55,52,55,53,55,54,55,55,55,
 56,55,57,56,48,56,49,56,50,56,51,56,52,56,53,56,54,56,55,56,56,56,57,57,48,57,49,57,50,57,51,57,52,57,53,57,54,57,55,57,56,57,57]) (t
 117))),P (m 119 15),P (o 120 (.ixs (s [48,48,48,49,48,50,48,51,48,52,48,53,48,54,48,55,48,56,48,57,49,48,49,49,49,50,49,51,49,52,49,53,49,54,49,
 55,49,56,49,57,50,48,50,49,50,50,50,51,50,52,50,53,50,54,50,55,50,56,50,57,51,48,51,49,51,50,51,51,51,52,51,53,51,54,51,55,51,56,51,57,
 52,48,52,49,52,50,52,51,52,52,52,53,52,54,52,55,52,56,52,57,53,48,53,49,53,50,53,51,53,52,53,53,53,54,53,55,53,56,53,57,54,48,54,49,54,
 50,54,51,54,52,54,53,54,54,54,55,54,56,54,57,55,48,55,49,55,50,55,51,55,52,55,53,55,54,55,55,55,56,55,57,56,48,56,49,56,50,56,51,56,52,
 56,53,56,54,56,55,56,56,56,57,57,48,57,49,57,50,57,51,57,52,57,53,57,54,57,55,57,56,57,57]) (t 119))),P (ia 121 1 110 112),E (n (.st 1 (t 121) (t
 118))),P (ia 122 1 113 115),E (n (.st 1 (t 122) (t 120)))]) (Q (D [P (m 123 0),P (m 124 4),P (o 125 (.ar .sub (t 124) (i 3))),P (m 126 0),P (m 127 4),P (o 128 (.ar .sub (t
 127) (i 4))),P (m 129 14),P (o 130 (.ar .add (t 129) (.c (.int .u32 1)))),P (o 131 (.ixs (s [48,48,48,49,48,50,48,51,48,52,48,53,48,54,48,55,48,56,48,57,49,
 48,49,49,49,50,49,51,49,52,49,53,49,54,49,55,49,56,49,57,50,48,50,49,50,50,50,51,50,52,50,53,50,54,50,55,50,56,50,57,51,48,51,49,51,50,
 51,51,51,52,51,53,51,54,51,55,51,56,51,57,52,48,52,49,52,50,52,51,52,52,52,53,52,54,52,55,52,56,52,57,53,48,53,49,53,50,53,51,53,52,53,
 53,53,54,53,55,53,56,53,57,54,48,54,49,54,50,54,51,54,52,54,53,54,54,54,55,54,56,54,57,55,48,55,49,55,50,55,51,55,52,55,53,55,54,55,55,
 55,56,55,57,56,48,56,49,56,50,56,51,56,52,56,53,56,54,56,55,56,56,56,57,57,48,57,49,57,50,57,51,57,52,57,53,57,54,57,55,57,56,57,57]) (t
 130))),P (m 132 14),P (o 133 (.ixs (s [48,48,48,49,48,50,48,51,48,52,48,53,48,54,48,55,48,56,48,57,49,48,49,49,49,50,49,51,49,52,49,53,49,54,49,
 55,49,56,49,57,50,48,50,49,50,50,50,51,50,52,50,53,50,54,50,55,50,56,50,57,51,48,51,49,51,50,51,51,51,52,51,53,51,54,51,55,51,56,51,57,
 52,48,52,49,52,50,52,51,52,52,52,53,52,54,52,55,52,56,52,57,53,48,53,49,53,50,53,51,53,52,53,53,53,54,53,55,53,56,53,57,54,48,54,49,54,
 50,54,51,54,52,54,53,54,54,54,55,54,56,54,57,55,48,55,49,55,50,55,51,55,52,55,53,55,54,55,55,55,56,55,57,56,48,56,49,56,50,56,51,56,52,
 56,53,56,54,56,55,56,56,56,57,57,48,57,49,57,50,57,51,57,52,57,53,57,54,57,55,57,56,57,57]) (t 132))),P (ia 134 1 123 125),E (n (.st 1 (t 134) (t
 131))),P (ia 135 1 126 128),E (n (.st 1 (t 135) (t 133)))]) (O [m 136 4,o 137 (.ar .sub (t 136) (i 4)),m 4 137])))))) X)) (Q (Q (O [m 138 4,o 139 (.ar .geq (t 138) (i 2))]) (C
 139 (Q (O [m 140 12,o 141 (.ar .rem (t 140) (.c (.int .u32 100))),o 142 (.ar .mul (t 141) (.c (.int .u32 2))),m 16 142]) (Q (O [m 143 12,o 144 (.ar .quo (t 143) (.c (.int .u32
 100))),m 12 144]) (Q (D [P (m 145 0),P (m 146 4),P (o 147 (.ar .sub (t 146) (i 1))),P (m 148 0),P (m 149 4),P (o 150 (.ar .sub (t 149) (i 2))),P (m 151 16),P (o 152 (.ar
 .add (t 151) (.c (.int .u32 1)))),P (o 153 (.ixs (s [48,48,48,49,48,50,48,51,48,52,48,53,48,54,48,55,48,56,48,57,49,48,49,49,49,50,49,51,49,52,49,53,
 49,54,49,55,49,56,49,57,50,48,50,49,50,50,50,51,50,52,50,53,50,54,50,55,50,56,50,57,51,48,51,49,51,50,51,51,51,52,51,53,51,54,51,55,51,
 56,51,57,52,48,52,49,52,50,52,51,52,52,52,53,52,54,52,55,52,56,52,57,53,48,53,49,53,50,53,51,53,52,53,53,53,54,53,55,53,56,53,57,54,48,
 54,49,54,50,54,51,54,52,54,53,54,54,54,55,54,56,54,57,55,48,55,49,55,50,55,51,55,52,55,53,55,54,55,55,55,56,55,57,56,48,56,49,56,50,56,
 51,56,52,56,53,56,54,56,55,56,56,56,57,57,48,57,49,57,50,57,51,57,52,57,53,57,54,57,55,57,56,57,57]) (t 152))),P (m 154 16),P (o 155 (.ixs (s [48,
 48,48,49,48,50,48,51,48,52,48,53,48,54,48,55,48,56,48,57,49,48,49,49,49,50,49,51,49,52,49,53,49,54,49,55,49,56,49,57,50,48,50,49,50,50,
 50,51,50,52,50,53,50,54,50,55,50,56,50,57,51,48,51,49,51,50,51,51,51,52,51,53,51,54,51,55,51,56,51,57,52,48,52,49,52,50,52,51,52,52,52,
 53,52,54,52,55,52,56,52,57,53,48,53,49,53,50,53,51,53,52,53,53,53,54,53,55,53,56,53,57,54,48,54,49,54,50,54,51,54,52,54,53,54,54,54,55,
 54,56,54,57,55,48,55,49,55,50,55,51,55,52,55,53,55,54,55,55,55,56,55,57,56,48,56,49,56,50,56,51,56,52,56,53,56,54,56,55,56,56,56,57,57,
 48,57,49,57,50,57,51,57,52,57,53,57,54,57,55,57,56,57,57]) (t 154))),P (ia 156 1 145 147),E (n (.st 1 (t 156) (t 153))),P (ia 157 1 148 150),E (n (.st 1 (t
 157) (t 155)))]) (O [m 158 4,o 159 (.ar .sub (t 158) (i 2)),m 4 159])))) X)) (Q (O [m 160 4,o 161 (.ar .gtr (t 160) (i 0))]) (C 161 (O [m 162 0,m 163 12,o 164 (.ar .add (.c
 (.int .u32 48)) (t 163)),o 165 (.cvi .u8 (t 164)),o 166 (.ias 1 (t 162) (i 0)),n (.st 1 (t 166) (t 165))]) X)))))))
def kT:AFn:=⟨sK,167,[],.keep,[],none⟩
def sL:AC:=
 (Q (Q (O [m 44 1,m 45 15,o 46 (.ar .geq (t 44) (t 45))]) (C 46 X (.exit 0))) (.block 1 (Q (O [m 47 13,o 48 (.ar .sub (t 47) (i 1)),m 13 48]) (Q (O [m 49 13,m 50 1,m 51 16,o
 52 (.ar .and (t 50) (t 51)),o 53 (.ixs (s [48,49,50,51,52,53,54,55,56,57,97,98,99,100,101,102,103,104,105,106,107,108,109,110,111,112,113,114,115,116,
 117,118,119,120,121,122]) (t 52)),o 54 (.iaa 65 1 (t 12) (t 49)),n (.st 1 (t 54) (t 53))]) (O [m 55 1,m 56 14,o 57 (.sh .shr (t 55) (t 56)),m 1 57])))))
def sM:AC:=
 (Q (Q (O [m 66 1,m 67 17,o 68 (.ar .geq (t 66) (t 67))]) (C 68 X (.exit 2))) (.block 3 (Q (O [m 69 13,o 70 (.ar .sub (t 69) (i 1)),m 13 70]) (Q (O [m 71 1,m 72 17,o 73 (.ar
 .quo (t 71) (t 72)),m 18 73]) (Q (O [m 74 13,m 75 1,m 76 18,m 77 17,o 78 (.ar .mul (t 76) (t 77)),o 79 (.ar .sub (t 75) (t 78)),o 80 (.ixs (s [48,49,50,51,52,53,54,55,
 56,57,97,98,99,100,101,102,103,104,105,106,107,108,109,110,111,112,113,114,115,116,117,118,119,120,121,122]) (t 79)),o 81 (.iaa 65 1 (t 12) (t 74)),n
 (.st 1 (t 81) (t 80))]) (O [m 82 18,m 1 82]))))))
def tI:AC:=
 (Q (O [mc 10 (.c (.slice .nil 1 [])),mc 11 (s [])]) (Q (Q (O [m 19 2,o 20 (.ar .lss (t 19) (i 2)),m 21 20,h 22 21 (.mv (t 2)),h 23 21 (.ar .eql (t 22) (i 10)),o 24 (.pk (t 21)
 T (t 23)),m 25 24,h 26 25 (.mv (t 2)),h 27 25 (.ar .gtr (t 26) (i 36)),o 28 (.pk (t 25) T (t 27))]) (C 28 (O [o 29 (.mi bB (s [115,116,114,99,111,110,118,58,32,
 105,108,108,101,103,97,108,32,65,112,112,101,110,100,73,110,116,47,70,111,114,109,97,116,73,110,116,32,98,97,115,101])),⟨none,none,(.panic (.t
 29))⟩]) X)) (Q (O [o 12 (.nw [(.int .u8 0),(.int .u8 0),(.int .u8 0),(.int .u8 0),(.int .u8 0),(.int .u8 0),(.int .u8 0),(.int .u8 0),(.int .u8 0),(.int .u8 0),(.int .u8
 0),(.int .u8 0),(.int .u8 0),(.int .u8 0),(.int .u8 0),(.int .u8 0),(.int .u8 0),(.int .u8 0),(.int .u8 0),(.int .u8 0),(.int .u8 0),(.int .u8 0),(.int .u8 0),(.int .u8
 0),(.int .u8 0),(.int .u8 0),(.int .u8 0),(.int .u8 0),(.int .u8 0),(.int .u8 0),(.int .u8 0),(.int .u8 0),(.int .u8 0),(.int .u8 0),(.int .u8 0),(.int .u8 0),(.int .u8
 0),(.int .u8 0),(.int .u8 0),(.int .u8 0),(.int .u8 0),(.int .u8 0),(.int .u8 0),(.int .u8 0),(.int .u8 0),(.int .u8 0),(.int .u8 0),(.int .u8 0),(.int .u8 0),(.int .u8
 0),(.int .u8 0),(.int .u8 0),(.int .u8 0),(.int .u8 0),(.int .u8 0),(.int .u8 0),(.int .u8 0),(.int .u8 0),(.int .u8 0),(.int .u8 0),(.int .u8 0),(.int .u8 0),(.int .u8
 0),(.int .u8 0),(.int .u8 0)] QA)]) (Q (O [mc 13 (i 65)]) (Q (Q (O [m 30 3]) (C 30 (O [m 31 1,o 32 (.un .neg (t 31)),m 1 32]) X)) (Q (Q (O [m 33 2,k 34 (f
 s8) [(t 33)]]) (C 34 (Q (O [m 35 2,o 36 (.cvi .u64 (t 35)),k 37 (f xC) [(t 36)],o 38 (.cvi .u64 (t 37)),m 14 38]) (Q (O [m 39
 2,o 40 (.cvi .u64 (t 39)),m 15 40]) (Q (O [m 41 2,o 42 (.cvi .u64 (t 41)),o 43 (.ar .sub (t 42) (.c (.int .u64 1))),m 16 43]) (Q (.block 0 (.loop ⟨none,[],false⟩
 sL)) (Q (O [m 58 13,o 59 (.ar .sub (t 58) (i 1)),m 13 59]) (O [m 60 13,m 61 1,o 62 (.ixs (s [48,49,50,51,52,53,54,55,56,57,97,98,99,
 100,101,102,103,104,105,106,107,108,109,110,111,112,113,114,115,116,117,118,119,120,121,122]) (t 61)),o 63 (.iaa 65 1 (t 12) (t 60)),n (.st 1 (t 63) (t
 62))])))))) (Q (O [m 64 2,o 65 (.cvi .u64 (t 64)),m 17 65]) (Q (.block 2 (.loop ⟨none,[],false⟩ sM)) (Q (O [m 83 13,o 84 (.ar .sub (t 83) (i 1)),
 m 13 84]) (O [m 85 13,m 86 1,o 87 (.ixs (s [48,49,50,51,52,53,54,55,56,57,97,98,99,100,101,102,103,104,105,106,107,108,109,110,111,112,113,114,115,
 116,117,118,119,120,121,122]) (t 86)),o 88 (.iaa 65 1 (t 12) (t 85)),n (.st 1 (t 88) (t 87))])))))) (Q (Q (O [m 89 3]) (C 89 (Q (O [m 90 13,o 91 (.ar .sub (t 90) (i 1)),m
 13 91]) (O [m 92 13,o 93 (.iaa 65 1 (t 12) (t 92)),n (.st 1 (t 93) (u 45))])) X)) (Q (Q (O [m 94 4]) (C 94 (Q (O [m 95 0,m 96 13,o 97 (.sla 65 1 (t 12) (some (t 96)) none),o 98
 (.ap false dL 1 1 false (t 95) (t 97)),m 10 98]) R) X)) (Q (O [m 99 13,o 100 (.sla 65 1 (t 12) (some (t 99)) none),o 101 (.cvbs (t 100)),m 11 101]) R)))))))))
def mb:AFn:=⟨tI,102,[.t 10,.t 11],.keep,[],none⟩
def xP:AC:=
 (Q (O [mc 2 (u 0)]) (Q (O [m 3 0,o 4 (.ar .or (t 3) (u 32)),m 2 4]) R))
def pU:AFn:=⟨xP,5,[.t 2],.keep,[],none⟩
def rk:AC:=
 (Q (Q (O [m 51 4,m 52 0,lt 53 52,bl 54 51 53]) (C 54 X (.exit 0))) (Q (.block 1 (Q (Q (O [m 57 0,m 58 4,o 59 (.ixs (t 57) (t 58)),o 60 (.ar .leq (u 48) (t 59)),m 61 60,g 62
 61 (.mv (t 0)),g 63 61 (.mv (t 4)),g 64 61 (.ixs (t 62) (t 63)),g 65 61 (.ar .leq (t 64) (u 57)),o 66 (.pk (t 61) (t 65) F),m 67 66,h 68 67 (.mv (t 5)),h 69 67 (.mv (t 68)),
 g 70 69 (.mv (t 0)),g 71 69 (.mv (t 4)),g 72 69 (.ixs (t 70) (t 71)),⟨(some 73),(some (69,true)),(.call (.c (.fn (.func bE) [] [])) [(.t 72)])⟩,g 74 69
 (.ar .leq (u 97) (t 73)),h 75 67 (.pk (t 69) (t 74) F),h 76 67 (.mv (t 75)),g 77 76 (.mv (t 0)),g 78 76 (.mv (t 4)),g 79 76 (.ixs (t 77) (t 78)),⟨(some 80),(some (76,true)),
 (.call (.c (.fn (.func bE) [] [])) [(.t 79)])⟩,g 81 76 (.ar .leq (t 80) (u 102)),h 82 67 (.pk (t 76) (t 81) F),o 83 (.pk (t 67) T (t 82))]) (C 83 (Q (O [mc
 3 (.c (.int .i32 48))]) (.exit 1)) X)) (Q (Q (O [m 84 0,m 85 4,o 86 (.ixs (t 84) (t 85)),o 87 (.ar .eql (t 86) (u 95))]) (C 87 (Q (Q (O [m 88 3,o 89 (.ar .neq (t 88) (.c (.int
 .i32 48)))]) (C 89 (Q (O [mc 2 F]) R) X)) (Q (O [mc 3 (.c (.int .i32 95))]) (.exit 1))) X)) (Q (Q (O [m 90 3,o 91 (.ar .eql (t 90) (.c (.int .i32 95)))]) (C 91 (Q (O [mc 2 F]) R)
 X)) (O [mc 3 (.c (.int .i32 33))]))))) (O [m 55 4,ad 56 55,m 4 56])))
def sN:AC:=
 (Q (O [mc 2 F]) (Q (O [mc 3 (.c (.int .i32 94))]) (Q (O [mc 4 (i 0)]) (Q (Q (O [m 6 0,lt 7 6,o 8 (.ar .geq (t 7) (i 1)),m 9 8,g 10 9 (.mv (t 0)),g 11 9 (.ixs (t 10) (i 0)),g
 12 9 (.ar .eql (t 11) (u 45)),g 13 9 (.mv (t 12)),h 14 13 (.mv (t 0)),h 15 13 (.ixs (t 14) (i 0)),h 16 13 (.ar .eql (t 15) (u 43)),g 17 9 (.pk (t 13) T (t 16)),o 18 (.pk (t 9)
 (t 17) F)]) (C 18 (O [m 19 0,o 20 (.sls (t 19) (some (i 1)) none),m 0 20]) X)) (Q (O [mc 5 F]) (Q (Q (O [m 21 0,lt 22 21,o 23 (.ar .geq (t 22) (i 2)),m 24 23,g 25 24 (.mv (t
 0)),g 26 24 (.ixs (t 25) (i 0)),g 27 24 (.ar .eql (t 26) (u 48)),o 28 (.pk (t 24) (t 27) F),m 29 28,g 30 29 (.mv (t 0)),g 31 29 (.ixs (t 30) (i 1)),⟨(some 32),(some (29,
 true)),(.call (.c (.fn (.func bE) [] [])) [(.t 31)])⟩,g 33 29 (.ar .eql (t 32) (u 98)),g 34 29 (.mv (t 33)),h 35 34 (.mv (t 0)),h 36 34 (.ixs (t 35) (i
 1)),⟨(some 37),(some (34,false)),(.call (.c (.fn (.func bE) [] [])) [(.t 36)])⟩,h 38 34 (.ar .eql (t 37) (u 111)),g 39 29 (.pk (t 34) T (t 38)),g 40 29
 (.mv (t 39)),h 41 40 (.mv (t 0)),h 42 40 (.ixs (t 41) (i 1)),⟨(some 43),(some (40,false)),(.call (.c (.fn (.func bE) [] [])) [(.t 42)])⟩,h 44 40 (.ar
 .eql (t 43) (u 120)),g 45 29 (.pk (t 40) T (t 44)),o 46 (.pk (t 29) (t 45) F)]) (C 46 (Q (O [mc 4 (i 2)]) (Q (O [mc 3 (.c (.int .i32 48))]) (O [m 47 0,o 48 (.ixs (t 47) (i 1)),k
 49 (f bE) [(t 48)],o 50 (.ar .eql (t 49) (u 120)),m 5 50]))) X)) (Q (.block 0 (.loop ⟨none,[],false⟩ rk)) (Q (O [m 92 3,o
 93 (.ar .neq (t 92) (.c (.int .i32 95))),m 2 93]) R))))))))
def kU:AFn:=⟨sN,94,[.t 2],.keep,[],none⟩
def uz:AC:=
 (Q (O [mc 2 (i 0)]) (Q (O [m 3 0,o 4 (.ar .mul (t 3) (i 78913)),o 5 (.sh .shr (t 4) (.c (.int .u64 18))),m 2 5]) R))
def mF:AFn:=⟨uz,6,[.t 2],.keep,[],none⟩
def uA:AC:=
 (Q (O [mc 2 (i 0)]) (Q (Q (O [m 3 0]) (C 3 (Q (O [mc 2 (i 1)]) R) X)) (Q (O [mc 2 (i 0)]) R)))
def mG:AFn:=⟨uA,4,[.t 2],.keep,[],none⟩
def sO:AC:=
 (Q (O [mc 2 F]) (Q (O [m 3 0,m 4 0,o 5 (.ar .sub (t 4) (i 1)),o 6 (.ar .and (t 3) (t 5)),o 7 (.ar .eql (t 6) (i 0)),m 2 7]) R))
def kV:AFn:=⟨sO,8,[.t 2],.keep,[],none⟩
def wV:AC:=
 (Q (O [mc 2 (i 0)]) (Q (.cond (.c (.bool false)) (Q (O [m 3 0,o 4 (.cvi .u32 (t 3)),k 5 (f vv) [(t 4)],m 2 5]) R) X) (Q (O [m 6 0,k 7 (f
 vw) [(t 6)],m 2 7]) R)))
def px:AFn:=⟨wV,8,[.t 2],.keep,[],none⟩
def vc:AC:=
 (Q (O [mc 2 (i 0)]) (Q (Q (O [m 3 0,o 4 (.ar .eql (t 3) (.c (.int .u32 0)))]) (C 4 (Q (O [mc 2 (i 32)]) R) X)) (Q (O [m 5 0,m 6 0,o 7 (.un .neg (t 6)),o 8 (.ar .and (t 5) (t
 7)),o 9 (.ar .mul (t 8) (.c (.int .u32 125613361))),o 10 (.sh .shr (t 9) (.c (.int .u64 27))),o 11 (.iaa 32 1 (.c .unk) (t 10)),ld 12 11,o 13 (.cvi .i64 (t 12)),m 2 13]) R)))
def nS:AFn:=⟨vc,14,[.t 2],.keep,[],none⟩
def vd:AC:=
 (Q (O [mc 2 (i 0)]) (Q (Q (O [m 3 0,o 4 (.ar .eql (t 3) (.c (.int .u64 0)))]) (C 4 (Q (O [mc 2 (i 64)]) R) X)) (Q (O [m 5 0,m 6 0,o 7 (.un .neg (t 6)),o 8 (.ar .and (t 5) (t
 7)),o 9 (.ar .mul (t 8) (.c (.int .u64 285870213051353865))),o 10 (.sh .shr (t 9) (.c (.int .u64 58))),o 11 (.iaa 64 1 (.c .unk) (t 10)),ld 12 11,o 13 (.cvi .i64 (t 12)),m 2
 13]) R)))
def nT:AFn:=⟨vd,14,[.t 2],.keep,[],none⟩
def WV(f:FuncId):Option AFn:=(bif Nat.blt f 144 then (bif Nat.blt f 78 then (bif Nat.blt f 56 then (bif Nat.blt f 33 then (bif Nat.blt f 24 then (bif Nat.blt f 22 then (bif Nat.blt f 15 then (bif Nat.beq f 8 then some sv else none) else (bif Nat.beq f 15 then some Fu else none)) else (bif Nat.blt f 23 then (bif Nat.beq f 22 then some DH else none) else (bif Nat.beq f 23 then some DI else none))) else (bif Nat.blt f 30 then (bif Nat.blt f 29 then (bif Nat.beq f 24 then some Fv else none) else (bif Nat.beq f 29 then some sw else none)) else (bif Nat.blt f 32 then (bif Nat.beq f 30 then some sy else none) else (bif Nat.beq f 32 then some kS else none)))) else (bif Nat.blt f 51 then (bif Nat.blt f 49 then (bif Nat.blt f 34 then (bif Nat.beq f 33 then some DJ else none) else (bif Nat.beq f 34 then some iH else none)) else (bif Nat.blt f 50 then (bif Nat.beq f 49 then some AB else none) else (bif Nat.beq f 50 then some uo else none))) else (bif Nat.blt f 53 then (bif Nat.blt f 52 then (bif Nat.beq f 51 then some DM else none) else (bif Nat.beq f 52 then some rC else none)) else (bif Nat.blt f 54 then (bif Nat.beq f 53 then some AD else none) else (bif Nat.blt f 55 then (bif Nat.beq f 54 then some rD else none) else (bif Nat.beq f 55 then some sA else none)))))) else (bif Nat.blt f 65 then (bif Nat.blt f 60 then (bif Nat.blt f 58 then (bif Nat.blt f 57 then (bif Nat.beq f 56 then some AE else none) else (bif Nat.beq f 57 then some rE else none)) else (bif Nat.blt f 59 then (bif Nat.beq f 58 then some sB else none) else (bif Nat.beq f 59 then some AF else none))) else (bif Nat.blt f 62 then (bif Nat.blt f 61 then (bif Nat.beq f 60 then some rF else none) else (bif Nat.beq f 61 then some sC else none)) else (bif Nat.blt f 63 then (bif Nat.beq f 62 then some AG else none) else (bif Nat.blt f 64 then (bif Nat.beq f 63 then some rG else none) else (bif Nat.beq f 64 then some sD else none))))) else (bif Nat.blt f 69 then (bif Nat.blt f 67 then (bif Nat.blt f 66 then (bif Nat.beq f 65 then some AH else none) else (bif Nat.beq f 66 then some sE else none)) else (bif Nat.blt f 68 then (bif Nat.beq f 67 then some tv else none) else (bif Nat.beq f 68 then some G7 else none))) else (bif Nat.blt f 74 then (bif Nat.blt f 73 then (bif Nat.beq f 69 then some Ce else none) else (bif Nat.beq f 73 then some rH else none)) else (bif Nat.blt f 75 then (bif Nat.beq f 74 then some AI else none) else (bif Nat.blt f 76 then (bif Nat.beq f 75 then some rI else none) else (bif Nat.beq f 76 then some tw else none))))))) else (bif Nat.blt f 115 then (bif Nat.blt f 106 then (bif Nat.blt f 102 then (bif Nat.blt f 99 then (bif Nat.blt f 79 then (bif Nat.beq f 78 then some mz else none) else (bif Nat.beq f 79 then some jc else none)) else (bif Nat.blt f 101 then (bif Nat.beq f 99 then some vm else none) else (bif Nat.beq f 101 then some DN else none))) else (bif Nat.blt f 104 then (bif Nat.blt f 103 then (bif Nat.beq f 102 then some Cf else none) else (bif Nat.beq f 103 then some yG else none)) else (bif Nat.blt f 105 then (bif Nat.beq f 104 then some Cg else none) else (bif Nat.beq f 105 then some Fw else none)))) else (bif Nat.blt f 110 then (bif Nat.blt f 108 then (bif Nat.blt f 107 then (bif Nat.beq f 106 then some iu else none) else (bif Nat.beq f 107 then some qv else none)) else (bif Nat.blt f 109 then (bif Nat.beq f 108 then some iv else none) else (bif Nat.beq f 109 then some qw else none))) else (bif Nat.blt f 112 then (bif Nat.blt f 111 then (bif Nat.beq f 110 then some sF else none) else (bif Nat.beq f 111 then some qx else none)) else (bif Nat.blt f 113 then (bif Nat.beq f 112 then some DO else none) else (bif Nat.blt f 114 then (bif Nat.beq f 113 then some DP else none) else (bif Nat.beq f 114 then some iw else none)))))) else (bif Nat.blt f 126 then (bif Nat.blt f 119 then (bif Nat.blt f 117 then (bif Nat.blt f 116 then (bif Nat.beq f 115 then some qy else none) else (bif Nat.beq f 116 then some iI else none)) else (bif Nat.blt f 118 then (bif Nat.beq f 117 then some qz else none) else (bif Nat.beq f 118 then some DQ else none))) else (bif Nat.blt f 121 then (bif Nat.blt f 120 then (bif Nat.beq f 119 then some fG else none) else (bif Nat.beq f 120 then some qA else none)) else (bif Nat.blt f 122 then (bif Nat.beq f 121 then some Ch else none) else (bif Nat.blt f 125 then (bif Nat.beq f 122 then some Ci else none) else (bif Nat.beq f 125 then some sG else none))))) else (bif Nat.blt f 130 then (bif Nat.blt f 128 then (bif Nat.blt f 127 then (bif Nat.beq f 126 then some pR else none) else (bif Nat.beq f 127 then some iK else none)) else (bif Nat.blt f 129 then (bif Nat.beq f 128 then some oY else none) else (bif Nat.beq f 129 then some iL else none))) else (bif Nat.blt f 132 then (bif Nat.blt f 131 then (bif Nat.beq f 130 then some wO else none) else (bif Nat.beq f 131 then some nO else none)) else (bif Nat.blt f 133 then (bif Nat.beq f 132 then some rK else none) else (bif Nat.blt f 143 then (bif Nat.beq f 133 then some wP else none) else (bif Nat.beq f 143 then some wQ else none)))))))) else (bif Nat.blt f 187 then (bif Nat.blt f 161 then (bif Nat.blt f 152 then (bif Nat.blt f 148 then (bif Nat.blt f 146 then (bif Nat.blt f 145 then (bif Nat.beq f 144 then some AK else none) else (bif Nat.beq f 145 then some AL else none)) else (bif Nat.blt f 147 then (bif Nat.beq f 146 then some AM else none) else (bif Nat.beq f 147 then some Fx else none))) else (bif Nat.blt f 150 then (bif Nat.blt f 149 then (bif Nat.beq f 148 then some AN else none) else (bif Nat.beq f 149 then some AO else none)) else (bif Nat.blt f 151 then (bif Nat.beq f 150 then some AP else none) else (bif Nat.beq f 151 then some Cj else none)))) else (bif Nat.blt f 156 then (bif Nat.blt f 154 then (bif Nat.blt f 153 then (bif Nat.beq f 152 then some DT else none) else (bif Nat.beq f 153 then some AQ else none)) else (bif Nat.blt f 155 then (bif Nat.beq f 154 then some AR else none) else (bif Nat.beq f 155 then some AS else none))) else (bif Nat.blt f 158 then (bif Nat.blt f 157 then (bif Nat.beq f 156 then some AT else none) else (bif Nat.beq f 157 then some Ck else none)) else (bif Nat.blt f 159 then (bif Nat.beq f 158 then some Cm else none) else (bif Nat.blt f 160 then (bif Nat.beq f 159 then some iM else none) else (bif Nat.beq f 160 then some jd else none)))))) else (bif Nat.blt f 171 then (bif Nat.blt f 166 then (bif Nat.blt f 163 then (bif Nat.blt f 162 then (bif Nat.beq f 161 then some AU else none) else (bif Nat.beq f 162 then some wR else none)) else (bif Nat.blt f 165 then (bif Nat.beq f 163 then some fZ else none) else (bif Nat.beq f 165 then some uq else none))) else (bif Nat.blt f 168 then (bif Nat.blt f 167 then (bif Nat.beq f 166 then some sH else none) else (bif Nat.beq f 167 then some rL else none)) else (bif Nat.blt f 169 then (bif Nat.beq f 168 then some ma else none) else (bif Nat.blt f 170 then (bif Nat.beq f 169 then some nP else none) else (bif Nat.beq f 170 then some pS else none))))) else (bif Nat.blt f 182 then (bif Nat.blt f 173 then (bif Nat.blt f 172 then (bif Nat.beq f 171 then some sI else none) else (bif Nat.beq f 172 then some rM else none)) else (bif Nat.blt f 180 then (bif Nat.beq f 173 then some j6 else none) else (bif Nat.beq f 180 then some kq else none))) else (bif Nat.blt f 184 then (bif Nat.blt f 183 then (bif Nat.beq f 182 then some mA else none) else (bif Nat.beq f 183 then some Cn else none)) else (bif Nat.blt f 185 then (bif Nat.beq f 184 then some Co else none) else (bif Nat.blt f 186 then (bif Nat.beq f 185 then some DU else none) else (bif Nat.beq f 186 then some kr else none))))))) else (bif Nat.blt f 225 then (bif Nat.blt f 207 then (bif Nat.blt f 200 then (bif Nat.blt f 189 then (bif Nat.blt f 188 then (bif Nat.beq f 187 then some rN else none) else (bif Nat.beq f 188 then some nQ else none)) else (bif Nat.blt f 190 then (bif Nat.beq f 189 then some rO else none) else (bif Nat.beq f 190 then some iU else none))) else (bif Nat.blt f 205 then (bif Nat.blt f 203 then (bif Nat.beq f 200 then some wS else none) else (bif Nat.beq f 203 then some ks else none)) else (bif Nat.blt f 206 then (bif Nat.beq f 205 then some oZ else none) else (bif Nat.beq f 206 then some iA else none)))) else (bif Nat.blt f 211 then (bif Nat.blt f 209 then (bif Nat.blt f 208 then (bif Nat.beq f 207 then some qB else none) else (bif Nat.beq f 208 then some wU else none)) else (bif Nat.blt f 210 then (bif Nat.beq f 209 then some qC else none) else (bif Nat.beq f 210 then some o1 else none))) else (bif Nat.blt f 222 then (bif Nat.blt f 221 then (bif Nat.beq f 211 then some ur else none) else (bif Nat.beq f 221 then some j7 else none)) else (bif Nat.blt f 223 then (bif Nat.beq f 222 then some nR else none) else (bif Nat.blt f 224 then (bif Nat.beq f 223 then some sJ else none) else (bif Nat.beq f 224 then some tx else none)))))) else (bif Nat.blt f 235 then (bif Nat.blt f 230 then (bif Nat.blt f 227 then (bif Nat.blt f 226 then (bif Nat.beq f 225 then some uu else none) else (bif Nat.beq f 226 then some rP else none)) else (bif Nat.blt f 229 then (bif Nat.beq f 227 then some mB else none) else (bif Nat.beq f 229 then some mC else none))) else (bif Nat.blt f 232 then (bif Nat.blt f 231 then (bif Nat.beq f 230 then some mD else none) else (bif Nat.beq f 231 then some Fy else none)) else (bif Nat.blt f 233 then (bif Nat.beq f 232 then some pT else none) else (bif Nat.blt f 234 then (bif Nat.beq f 233 then some mE else none) else (bif Nat.beq f 234 then some kT else none))))) else (bif Nat.blt f 239 then (bif Nat.blt f 237 then (bif Nat.blt f 236 then (bif Nat.beq f 235 then some mb else none) else (bif Nat.beq f 236 then some pU else none)) else (bif Nat.blt f 238 then (bif Nat.beq f 237 then some kU else none) else (bif Nat.beq f 238 then some mF else none))) else (bif Nat.blt f 241 then (bif Nat.blt f 240 then (bif Nat.beq f 239 then some mG else none) else (bif Nat.beq f 240 then some kV else none)) else (bif Nat.blt f 242 then (bif Nat.beq f 241 then some px else none) else (bif Nat.blt f 243 then (bif Nat.beq f 242 then some nS else none) else (bif Nat.beq f 243 then some nT else none)))))))))
def T4(f:FuncId):Option (Nat×AFn):=(bif Nat.beq f 100 then some (4,rJ) else none)
end
section
open Go.Proofs
def G0:Nat→Option (List AV):=fun _=>none
theorem xQ:aa Tryz.prog G0 8 sv:=by unfold aa;kernel_rfl
theorem Ic:aa Tryz.prog G0 15 Fu:=by unfold aa;kernel_rfl
theorem G9:aa Tryz.prog G0 22 DH:=by unfold aa;kernel_rfl
theorem Ha:aa Tryz.prog G0 23 DI:=by unfold aa;kernel_rfl
theorem Ie:aa Tryz.prog G0 24 Fv:=by unfold aa;kernel_rfl
theorem xR:aa Tryz.prog G0 29 sw:=by unfold aa;kernel_rfl
theorem xS:aa Tryz.prog G0 30 sy:=by unfold aa;kernel_rfl
theorem qD:aa Tryz.prog G0 32 kS:=by unfold aa;kernel_rfl
theorem Hb:aa Tryz.prog G0 33 DJ:=by unfold aa;kernel_rfl
theorem mr:aa Tryz.prog G0 34 iH:=by unfold aa;kernel_rfl
theorem EL:aa Tryz.prog G0 49 AB:=by unfold aa;kernel_rfl
theorem AX:aa Tryz.prog G0 50 uo:=by unfold aa;kernel_rfl
theorem Hc:aa Tryz.prog G0 51 DM:=by unfold aa;kernel_rfl
theorem wW:aa Tryz.prog G0 52 rC:=by unfold aa;kernel_rfl
theorem EM:aa Tryz.prog G0 53 AD:=by unfold aa;kernel_rfl
theorem wX:aa Tryz.prog G0 54 rD:=by unfold aa;kernel_rfl
theorem xU:aa Tryz.prog G0 55 sA:=by unfold aa;kernel_rfl
theorem EO:aa Tryz.prog G0 56 AE:=by unfold aa;kernel_rfl
theorem wY:aa Tryz.prog G0 57 rE:=by unfold aa;kernel_rfl
theorem xV:aa Tryz.prog G0 58 sB:=by unfold aa;kernel_rfl
theorem ER:aa Tryz.prog G0 59 AF:=by unfold aa;kernel_rfl
theorem wZ:aa Tryz.prog G0 60 rF:=by unfold aa;kernel_rfl
theorem xW:aa Tryz.prog G0 61 sC:=by unfold aa;kernel_rfl
theorem ES:aa Tryz.prog G0 62 AG:=by unfold aa;kernel_rfl
theorem w7:aa Tryz.prog G0 63 rG:=by unfold aa;kernel_rfl
theorem xX:aa Tryz.prog G0 64 sD:=by unfold aa;kernel_rfl
theorem ET:aa Tryz.prog G0 65 AH:=by unfold aa;kernel_rfl
theorem xY:aa Tryz.prog G0 66 sE:=by unfold aa;kernel_rfl
theorem zm:aa Tryz.prog G0 67 tv:=by unfold aa;kernel_rfl
theorem Ju:aa Tryz.prog G0 68 G7:=by unfold aa;kernel_rfl
theorem FT:aa Tryz.prog G0 69 Ce:=by unfold aa;kernel_rfl
theorem w8:aa Tryz.prog G0 73 rH:=by unfold aa;kernel_rfl
theorem EU:aa Tryz.prog G0 74 AI:=by unfold aa;kernel_rfl
theorem w9:aa Tryz.prog G0 75 rI:=by unfold aa;kernel_rfl
theorem zn:aa Tryz.prog G0 76 tw:=by unfold aa;kernel_rfl
theorem sP:aa Tryz.prog G0 78 mz:=by unfold aa;kernel_rfl
theorem oR:aa Tryz.prog G0 79 jc:=by unfold aa;kernel_rfl
theorem BR:aa Tryz.prog G0 99 vm:=by unfold aa;kernel_rfl
theorem Hd:aa Tryz.prog G0 101 DN:=by unfold aa;kernel_rfl
theorem FU:aa Tryz.prog G0 102 Cf:=by unfold aa;kernel_rfl
theorem DW:aa Tryz.prog G0 103 yG:=by unfold aa;kernel_rfl
theorem FV:aa Tryz.prog G0 104 Cg:=by unfold aa;kernel_rfl
theorem If:aa Tryz.prog G0 105 Fw:=by unfold aa;kernel_rfl
theorem lH:aa Tryz.prog G0 106 iu:=by unfold aa;kernel_rfl
theorem vz:aa Tryz.prog G0 107 qv:=by unfold aa;kernel_rfl
theorem lI:aa Tryz.prog G0 108 iv:=by unfold aa;kernel_rfl
theorem vA:aa Tryz.prog G0 109 qw:=by unfold aa;kernel_rfl
theorem xZ:aa Tryz.prog G0 110 sF:=by unfold aa;kernel_rfl
theorem vB:aa Tryz.prog G0 111 qx:=by unfold aa;kernel_rfl
theorem Hf:aa Tryz.prog G0 112 DO:=by unfold aa;kernel_rfl
theorem Hg:aa Tryz.prog G0 113 DP:=by unfold aa;kernel_rfl
theorem lJ:aa Tryz.prog G0 114 iw:=by unfold aa;kernel_rfl
theorem vC:aa Tryz.prog G0 115 qy:=by unfold aa;kernel_rfl
theorem mw:aa Tryz.prog G0 116 iI:=by unfold aa;kernel_rfl
theorem vD:aa Tryz.prog G0 117 qz:=by unfold aa;kernel_rfl
theorem Hh:aa Tryz.prog G0 118 DQ:=by unfold aa;kernel_rfl
theorem jB:aa Tryz.prog G0 119 fG:=by unfold aa;kernel_rfl
theorem vE:aa Tryz.prog G0 120 qA:=by unfold aa;kernel_rfl
theorem FW:aa Tryz.prog G0 121 Ch:=by unfold aa;kernel_rfl
theorem FX:aa Tryz.prog G0 122 Ci:=by unfold aa;kernel_rfl
theorem x3:aa Tryz.prog G0 125 sG:=by unfold aa;kernel_rfl
theorem ve:aa Tryz.prog G0 126 pR:=by unfold aa;kernel_rfl
theorem nA:aa Tryz.prog G0 127 iK:=by unfold aa;kernel_rfl
theorem tJ:aa Tryz.prog G0 128 oY:=by unfold aa;kernel_rfl
theorem nB:aa Tryz.prog G0 129 iL:=by unfold aa;kernel_rfl
theorem CP:aa Tryz.prog G0 130 wO:=by unfold aa;kernel_rfl
theorem td:aa Tryz.prog G0 131 nO:=by unfold aa;kernel_rfl
theorem xa:aa Tryz.prog G0 132 rK:=by unfold aa;kernel_rfl
theorem CQ:aa Tryz.prog G0 133 wP:=by unfold aa;kernel_rfl
theorem CR:aa Tryz.prog G0 143 wQ:=by unfold aa;kernel_rfl
theorem EV:aa Tryz.prog G0 144 AK:=by unfold aa;kernel_rfl
theorem EW:aa Tryz.prog G0 145 AL:=by unfold aa;kernel_rfl
theorem EX:aa Tryz.prog G0 146 AM:=by unfold aa;kernel_rfl
theorem Ig:aa Tryz.prog G0 147 Fx:=by unfold aa;kernel_rfl
theorem EY:aa Tryz.prog G0 148 AN:=by unfold aa;kernel_rfl
theorem EZ:aa Tryz.prog G0 149 AO:=by unfold aa;kernel_rfl
theorem E2:aa Tryz.prog G0 150 AP:=by unfold aa;kernel_rfl
theorem FY:aa Tryz.prog G0 151 Cj:=by unfold aa;kernel_rfl
theorem Hi:aa Tryz.prog G0 152 DT:=by unfold aa;kernel_rfl
theorem E3:aa Tryz.prog G0 153 AQ:=by unfold aa;kernel_rfl
theorem E4:aa Tryz.prog G0 154 AR:=by unfold aa;kernel_rfl
theorem E5:aa Tryz.prog G0 155 AS:=by unfold aa;kernel_rfl
theorem E6:aa Tryz.prog G0 156 AT:=by unfold aa;kernel_rfl
theorem FZ:aa Tryz.prog G0 157 Ck:=by unfold aa;kernel_rfl
theorem F0:aa Tryz.prog G0 158 Cm:=by unfold aa;kernel_rfl
theorem nC:aa Tryz.prog G0 159 iM:=by unfold aa;kernel_rfl
theorem oS:aa Tryz.prog G0 160 jd:=by unfold aa;kernel_rfl
theorem E7:aa Tryz.prog G0 161 AU:=by unfold aa;kernel_rfl
theorem CS:aa Tryz.prog G0 162 wR:=by unfold aa;kernel_rfl
theorem j8:aa Tryz.prog G0 163 fZ:=by unfold aa;kernel_rfl
theorem AY:aa Tryz.prog G0 165 uq:=by unfold aa;kernel_rfl
theorem x4:aa Tryz.prog G0 166 sH:=by unfold aa;kernel_rfl
theorem xb:aa Tryz.prog G0 167 rL:=by unfold aa;kernel_rfl
theorem rU:aa Tryz.prog G0 168 ma:=by unfold aa;kernel_rfl
theorem te:aa Tryz.prog G0 169 nP:=by unfold aa;kernel_rfl
theorem vf:aa Tryz.prog G0 170 pS:=by unfold aa;kernel_rfl
theorem x5:aa Tryz.prog G0 171 sI:=by unfold aa;kernel_rfl
theorem xc:aa Tryz.prog G0 172 rM:=by unfold aa;kernel_rfl
theorem pI:aa Tryz.prog G0 173 j6:=by unfold aa;kernel_rfl
theorem p9:aa Tryz.prog G0 180 kq:=by unfold aa;kernel_rfl
theorem sQ:aa Tryz.prog G0 182 mA:=by unfold aa;kernel_rfl
theorem F1:aa Tryz.prog G0 183 Cn:=by unfold aa;kernel_rfl
theorem F2:aa Tryz.prog G0 184 Co:=by unfold aa;kernel_rfl
theorem Hk:aa Tryz.prog G0 185 DU:=by unfold aa;kernel_rfl
theorem qa:aa Tryz.prog G0 186 kr:=by unfold aa;kernel_rfl
theorem xd:aa Tryz.prog G0 187 rN:=by unfold aa;kernel_rfl
theorem th:aa Tryz.prog G0 188 nQ:=by unfold aa;kernel_rfl
theorem xf:aa Tryz.prog G0 189 rO:=by unfold aa;kernel_rfl
theorem nU:aa Tryz.prog G0 190 iU:=by unfold aa;kernel_rfl
theorem CT:aa Tryz.prog G0 200 wS:=by unfold aa;kernel_rfl
theorem qb:aa Tryz.prog G0 203 ks:=by unfold aa;kernel_rfl
theorem tK:aa Tryz.prog G0 205 oZ:=by unfold aa;kernel_rfl
theorem mg:aa Tryz.prog G0 206 iA:=by unfold aa;kernel_rfl
theorem vF:aa Tryz.prog G0 207 qB:=by unfold aa;kernel_rfl
theorem CU:aa Tryz.prog G0 208 wU:=by unfold aa;kernel_rfl
theorem vG:aa Tryz.prog G0 209 qC:=by unfold aa;kernel_rfl
theorem tL:aa Tryz.prog G0 210 o1:=by unfold aa;kernel_rfl
theorem AZ:aa Tryz.prog G0 211 ur:=by unfold aa;kernel_rfl
theorem pJ:aa Tryz.prog G0 221 j7:=by unfold aa;kernel_rfl
theorem ti:aa Tryz.prog G0 222 nR:=by unfold aa;kernel_rfl
theorem x6:aa Tryz.prog G0 223 sJ:=by unfold aa;kernel_rfl
theorem zo:aa Tryz.prog G0 224 tx:=by unfold aa;kernel_rfl
theorem A1:aa Tryz.prog G0 225 uu:=by unfold aa;kernel_rfl
theorem xg:aa Tryz.prog G0 226 rP:=by unfold aa;kernel_rfl
theorem sR:aa Tryz.prog G0 227 mB:=by unfold aa;kernel_rfl
theorem sS:aa Tryz.prog G0 229 mC:=by unfold aa;kernel_rfl
theorem sU:aa Tryz.prog G0 230 mD:=by unfold aa;kernel_rfl
theorem Ih:aa Tryz.prog G0 231 Fy:=by unfold aa;kernel_rfl
theorem vg:aa Tryz.prog G0 232 pT:=by unfold aa;kernel_rfl
theorem sV:aa Tryz.prog G0 233 mE:=by unfold aa;kernel_rfl
theorem qF:aa Tryz.prog G0 234 kT:=by unfold aa;kernel_rfl
theorem rV:aa Tryz.prog G0 235 mb:=by unfold aa;kernel_rfl
theorem vh:aa Tryz.prog G0 236 pU:=by unfold aa;kernel_rfl
theorem qG:aa Tryz.prog G0 237 kU:=by unfold aa;kernel_rfl
theorem sW:aa Tryz.prog G0 238 mF:=by unfold aa;kernel_rfl
theorem sX:aa Tryz.prog G0 239 mG:=by unfold aa;kernel_rfl
theorem qH:aa Tryz.prog G0 240 kV:=by unfold aa;kernel_rfl
theorem uB:aa Tryz.prog G0 241 px:=by unfold aa;kernel_rfl
theorem tj:aa Tryz.prog G0 242 nS:=by unfold aa;kernel_rfl
theorem tk:aa Tryz.prog G0 243 nT:=by unfold aa;kernel_rfl
theorem vH:Rr Tryz.prog G0 100 (4,rJ):=⟨by kernel_rfl,rfl⟩
theorem VA:∀ f af,WV f=some af→aa Tryz.prog G0 f af:=fun f af h=>by
 unfold WV at h
 revert h
 exact (ah (ah (ah (ah (ah (ah (ah (ag (C:=_) xQ) (ag (C:=_) Ic)) (ah (ag (C:=_) G9) (ag (C:=_) Ha))) (ah (ah (ag (C:=_) Ie) (ag (C:=_) xR)) (ah (ag (C:=_) xS) (ag (C:=_) qD)))) (ah (ah (ah (ag (C:=_) Hb) (ag (C:=_) mr)) (ah (ag (C:=_) EL) (ag (C:=_) AX))) (ah (ah (ag (C:=_) Hc) (ag (C:=_) wW)) (ah (ag (C:=_) EM) (ah (ag (C:=_) wX) (ag (C:=_) xU)))))) (ah (ah (ah (ah (ag (C:=_) EO) (ag (C:=_) wY)) (ah (ag (C:=_) xV) (ag (C:=_) ER))) (ah (ah (ag (C:=_) wZ) (ag (C:=_) xW)) (ah (ag (C:=_) ES) (ah (ag (C:=_) w7) (ag (C:=_) xX))))) (ah (ah (ah (ag (C:=_) ET) (ag (C:=_) xY)) (ah (ag (C:=_) zm) (ag (C:=_) Ju))) (ah (ah (ag (C:=_) FT) (ag (C:=_) w8)) (ah (ag (C:=_) EU) (ah (ag (C:=_) w9) (ag (C:=_) zn))))))) (ah (ah (ah (ah (ah (ag (C:=_) sP) (ag (C:=_) oR)) (ah (ag (C:=_) BR) (ag (C:=_) Hd))) (ah (ah (ag (C:=_) FU) (ag (C:=_) DW)) (ah (ag (C:=_) FV) (ag (C:=_) If)))) (ah (ah (ah (ag (C:=_) lH) (ag (C:=_) vz)) (ah (ag (C:=_) lI) (ag (C:=_) vA))) (ah (ah (ag (C:=_) xZ) (ag (C:=_) vB)) (ah (ag (C:=_) Hf) (ah (ag (C:=_) Hg) (ag (C:=_) lJ)))))) (ah (ah (ah (ah (ag (C:=_) vC) (ag (C:=_) mw)) (ah (ag (C:=_) vD) (ag (C:=_) Hh))) (ah (ah (ag (C:=_) jB) (ag (C:=_) vE)) (ah (ag (C:=_) FW) (ah (ag (C:=_) FX) (ag (C:=_) x3))))) (ah (ah (ah (ag (C:=_) ve) (ag (C:=_) nA)) (ah (ag (C:=_) tJ) (ag (C:=_) nB))) (ah (ah (ag (C:=_) CP) (ag (C:=_) td)) (ah (ag (C:=_) xa) (ah (ag (C:=_) CQ) (ag (C:=_) CR)))))))) (ah (ah (ah (ah (ah (ah (ag (C:=_) EV) (ag (C:=_) EW)) (ah (ag (C:=_) EX) (ag (C:=_) Ig))) (ah (ah (ag (C:=_) EY) (ag (C:=_) EZ)) (ah (ag (C:=_) E2) (ag (C:=_) FY)))) (ah (ah (ah (ag (C:=_) Hi) (ag (C:=_) E3)) (ah (ag (C:=_) E4) (ag (C:=_) E5))) (ah (ah (ag (C:=_) E6) (ag (C:=_) FZ)) (ah (ag (C:=_) F0) (ah (ag (C:=_) nC) (ag (C:=_) oS)))))) (ah (ah (ah (ah (ag (C:=_) E7) (ag (C:=_) CS)) (ah (ag (C:=_) j8) (ag (C:=_) AY))) (ah (ah (ag (C:=_) x4) (ag (C:=_) xb)) (ah (ag (C:=_) rU) (ah (ag (C:=_) te) (ag (C:=_) vf))))) (ah (ah (ah (ag (C:=_) x5) (ag (C:=_) xc)) (ah (ag (C:=_) pI) (ag (C:=_) p9))) (ah (ah (ag (C:=_) sQ) (ag (C:=_) F1)) (ah (ag (C:=_) F2) (ah (ag (C:=_) Hk) (ag (C:=_) qa))))))) (ah (ah (ah (ah (ah (ag (C:=_) xd) (ag (C:=_) th)) (ah (ag (C:=_) xf) (ag (C:=_) nU))) (ah (ah (ag (C:=_) CT) (ag (C:=_) qb)) (ah (ag (C:=_) tK) (ag (C:=_) mg)))) (ah (ah (ah (ag (C:=_) vF) (ag (C:=_) CU)) (ah (ag (C:=_) vG) (ag (C:=_) tL))) (ah (ah (ag (C:=_) AZ) (ag (C:=_) pJ)) (ah (ag (C:=_) ti) (ah (ag (C:=_) x6) (ag (C:=_) zo)))))) (ah (ah (ah (ah (ag (C:=_) A1) (ag (C:=_) xg)) (ah (ag (C:=_) sR) (ag (C:=_) sS))) (ah (ah (ag (C:=_) sU) (ag (C:=_) Ih)) (ah (ag (C:=_) vg) (ah (ag (C:=_) sV) (ag (C:=_) qF))))) (ah (ah (ah (ag (C:=_) rV) (ag (C:=_) vh)) (ah (ag (C:=_) qG) (ag (C:=_) sW))) (ah (ah (ag (C:=_) sX) (ag (C:=_) qH)) (ah (ag (C:=_) uB) (ah (ag (C:=_) tj) (ag (C:=_) tk)))))))))
theorem T5:∀ f d af,T4 f=some (d,af)→Rr Tryz.prog G0 f (d,af):=fun f d af h=>by
 unfold T4 at h
 revert h
 exact (ag (C:=_) vH)
end
section
open Go.Proofs
def T6(g:FuncId)(xs:List AV)(H:List ae):Option Out:=
 match xs with
 |[.str s,.int .u8 c]=>bif Nat.beq g ed then some (.ret (.int .i64 (Lib.countByte s c.toNat.toUInt8:Nat)),H)
  else bif Nat.beq g dv then some (.ret (.int .i64 (Lib.indexByte s c.toNat.toUInt8)),H)
  else none
 |[.int .i64 (.ofNat n)]=>bif Nat.beq g dD&&Nat.ble n 281474976710656 then some (.ret (.rslice H.length 0 n 1 true),H++[.cells (List.replicate n .unk) 5]) else none
 |[.fn _ _ _]=>none
 |[x]=>bif Nat.beq g gF then some (.ret x,H) else none
 |_=>none
theorem VB:Ca Tryz.prog ed Extern.BytealgCount.count:=.of Tryz.func181 (by kernel_rfl) (by kernel_rfl) (by kernel_rfl) (by kernel_rfl)
theorem VC:Ca Tryz.prog dv Extern.BytealgIndexByte.indexByte:=.of Tryz.func220 (by kernel_rfl) (by kernel_rfl) (by kernel_rfl) (by kernel_rfl)
theorem WW:Ca Tryz.prog gF Extern.AbiNoEscape.same:=.of Tryz.func212 (by kernel_rfl) (by kernel_rfl) (by kernel_rfl) (by kernel_rfl)
theorem T7:Ca Tryz.prog dD (Extern.BytealgMakeNoZero.makeNoZero #[3] #[216]):=.of Tryz.func213 (by kernel_rfl) (by kernel_rfl) (by kernel_rfl) (by kernel_rfl)
theorem SH:Tryz.prog.underlying 216=some (.slice 5):=by kernel_rfl
theorem Rw{g:FuncId}{xs:List AV}{H H':List ae}{r:vX}(h:T6 g xs H=some (r,H')):eX Tryz.prog G0 g xs H fun r2 H2=>r2=r∧H2=H':=by
 unfold T6 at h
 split at h
 ·rename_i s c
  cases h1:Nat.beq g ed with
  |true=>rw [h1] at h;cases h;rw [Nat.eq_of_beq_eq_true h1];exact SC VB s c H
  |false=>
   rw [h1,cond_false] at h
   cases h2:Nat.beq g dv with
   |true=>rw [h2] at h;cases h;rw [Nat.eq_of_beq_eq_true h2];exact SD VC s c H
   |false=>rw [h2] at h;cases h
 ·rename_i n
  cases h1:(Nat.beq g dD&&Nat.ble n 281474976710656) with
  |true=>
   rw [h1] at h;cases h
   simp only [Bool.and_eq_true] at h1
   rw [Nat.eq_of_beq_eq_true h1.1];exact Qw T7 SH n (Nat.le_of_ble_eq_true h1.2) H
  |false=>rw [h1] at h;cases h
 ·cases h
 ·rename_i x _ _
  cases h1:Nat.beq g gF with
  |true=>rw [h1] at h;cases h;rw [Nat.eq_of_beq_eq_true h1];exact TS WW x H
  |false=>rw [h1] at h;cases h
 ·cases h
theorem Rx:Tryz.prog.follows .mixedOrders=true:=by kernel_rfl
theorem g0:∀ (n g:Nat) (cs:List AV),G0 g=some cs→wkbL n cs=true:=fun _ _ _ h=>by cases h
noncomputable def E0:bC := { P:=Tryz.prog,G:=G0,fn:=WV,orc:=T6,dfn:=T4 }
theorem Ry:E0.Ok:=⟨Rx,fun f af h=>VA f af h,fun f d af h=>T5 f d af h,(fun _ _ _ _ _ h=>by cases h),fun _ _ _ _ _ h=>Rw h⟩
noncomputable def E1:bC := { E0 with wo:=woK E0 100000 }
theorem t1:MO E1 100000 wj [.str [48]] []=some (.int .i64 0):=by kernel_rfl
theorem t2:MO E1 100000 kD [.str [48,50,48],.str [48]] []=some (.int .i64 2):=by kernel_rfl
end
section
open Go.Proofs
theorem VD:∀ f args H,E0.wo f args H=none:=fun _ _ _=>rfl
def ps0:List r8:=[]
theorem ok0:∀ p∈ps0,p.Ok E0.P E0.G:=fun p h=>by cases h
def p1:r8:=⟨23,[(.agg [(.str [97,101,105,111,117]),(.slice (.own 9) 2 [[(.str [110,117,109]),(.rslice 7 2 2 1 true)]]),(.rslice 26 0 2 2 true),(.rslice 53 0 4 4 true),(.slice (.own 57) 4 [[(.str [121,43]),(.str [105,43,101]),(.str [67]),(.str [115])],[(.str [110,43]),(.str [110,110,43]),(.str [86]),(.str [101,100])]]),(.slice (.own 65) 3 [[(.str [110,111,117,110]),(.str []),(.slice .any 2 [[(.str [110,117,109]),(.str [115,103])]])]])])],(dd 7 ([.cells [(.str [116,114,97,105,116]),(.str [110,117,109]),(.str [115,103]),(.str [112,108])] 9]++(dd 1 ([.tok 2 69]++(dd 7 ([.tok 2 66,.tok 8 74]++(dd 3 ([.tok 2 66]++(dd 3 ([.cells [(.str [110,111,117,110]),(.slice (.own 18) 4 [[(.int .i64 0),(.str []),(.str []),(.slice .any 2 [[(.str [110,117,109]),(.str [115,103])]])],[(.int .i64 0),(.str []),(.str [115]),(.slice .any 2 [[(.str [110,117,109]),(.str [112,108])]])]]),(.str [118,101,114,98]),(.slice (.own 30) 4 [[(.int .i64 0),(.str []),(.str []),(.slice .nil 2 [])],[(.int .i64 0),(.str []),(.str [101,100]),(.slice .nil 2 [])]])] 72]++(dd 3 ([.tok 8 74]++(dd 18 ([.tok 2 76]++(dd 3 ([.cells [(.str [99,105,116,121]),(.str [110,111,117,110]),(.slice .nil 2 []),(.slice .nil 2 []),(.str [99,97,114]),(.str [110,111,117,110]),(.slice .nil 2 []),(.slice .nil 2 []),(.str [98,117,115]),(.str [110,111,117,110]),(.slice .nil 2 []),(.slice (.own 49) 2 [[(.int .i64 1),(.str [98,117,115,101,115])]]),(.str [112,108,97,110]),(.str [118,101,114,98]),(.slice .nil 2 []),(.slice .nil 2 [])] 53]++(dd 3 ([.tok 8 78]++(dd 6 [.tok 2 66,.tok 3 80]))))))))))))))))))),(.int .u8 0)⟩
def ps1:List r8:=p1::ps0
theorem ok1:∀ p∈ps1,p.Ok E0.P E0.G:=Dt Ry g0 ok0 VD (by kernel_rfl)
def p2:r8:=⟨22,[(.str [118,111,119,101,108,115,32,97,101,105,111,117,10,116,114,97,105,116,32,110,117,109,32,115,103,32,112,108,10,99,108,97,115,115,32,110,111,117,110,10,115,108,111,116,32,48,32,45,32,45,32,110,117,109,61,115,103,10,115,108,111,116,32,48,32,45,32,115,32,110,117,109,61,112,108,10,99,108,97,115,115,32,118,101,114,98,10,115,108,111,116,32,48,32,45,32,45,10,115,108,111,116,32,48,32,45,32,101,100,10,101,110,116,114,121,32,99,105,116,121,32,110,111,117,110,10,101,110,116,114,121,32,99,97,114,32,110,111,117,110,10,101,110,116,114,121,32,98,117,115,32,110,111,117,110,10,102,111,114,109,32,49,32,98,117,115,101,115,10,101,110,116,114,121,32,112,108,97,110,32,118,101,114,98,10,115,112,101,108,108,32,121,43,32,105,43,101,32,67,32,115,10,115,112,101,108,108,32,110,43,32,110,110,43,32,86,32,101,100,10,108,105,110,107,32,110,111,117,110,32,45,32,110,117,109,61,115,103,10])],[],(.tuple [(.agg [(.str [97,101,105,111,117]),(.slice .any 2 [[(.str [110,117,109]),(.slice .any 1 [[(.str [115,103])],[(.str [112,108])]])]]),(.slice .any 2 [[(.str [110,111,117,110]),(.slice .any 4 [[(.int .i64 0),(.str []),(.str []),(.slice .any 2 [[(.str [110,117,109]),(.str [115,103])]])],[(.int .i64 0),(.str []),(.str [115]),(.slice .any 2 [[(.str [110,117,109]),(.str [112,108])]])]])],[(.str [118,101,114,98]),(.slice .any 4 [[(.int .i64 0),(.str []),(.str []),(.slice .nil 2 [])],[(.int .i64 0),(.str []),(.str [101,100]),(.slice .nil 2 [])]])]]),(.slice .any 4 [[(.str [99,105,116,121]),(.str [110,111,117,110]),(.slice .nil 2 []),(.slice .nil 2 [])],[(.str [99,97,114]),(.str [110,111,117,110]),(.slice .nil 2 []),(.slice .nil 2 [])],[(.str [98,117,115]),(.str [110,111,117,110]),(.slice .nil 2 []),(.slice .any 2 [[(.int .i64 1),(.str [98,117,115,101,115])]])],[(.str [112,108,97,110]),(.str [118,101,114,98]),(.slice .nil 2 []),(.slice .nil 2 [])]]),(.slice .any 4 [[(.str [121,43]),(.str [105,43,101]),(.str [67]),(.str [115])],[(.str [110,43]),(.str [110,110,43]),(.str [86]),(.str [101,100])]]),(.slice .any 3 [[(.str [110,111,117,110]),(.str []),(.slice .any 2 [[(.str [110,117,109]),(.str [115,103])]])]])]),(.int .i64 0),(.int .u8 0)])⟩
def ps2:List r8:=p2::ps1
theorem ok2:∀ p∈ps2,p.Ok E0.P E0.G:=Dt Ry g0 ok1 VD (by kernel_rfl)
def p3:r8:=⟨23,[(.agg [(.str [97,101,105,111,117]),(.slice .any 2 [[(.str [110,117,109]),(.slice .any 1 [[(.str [115,103])],[(.str [112,108])]])]]),(.slice .any 2 [[(.str [110,111,117,110]),(.slice .any 4 [[(.int .i64 0),(.str []),(.str []),(.slice .any 2 [[(.str [110,117,109]),(.str [115,103])]])],[(.int .i64 0),(.str []),(.str [115]),(.slice .any 2 [[(.str [110,117,109]),(.str [112,108])]])]])],[(.str [118,101,114,98]),(.slice .any 4 [[(.int .i64 0),(.str []),(.str []),(.slice .nil 2 [])],[(.int .i64 0),(.str []),(.str [101,100]),(.slice .nil 2 [])]])]]),(.slice .any 4 [[(.str [99,105,116,121]),(.str [110,111,117,110]),(.slice .nil 2 []),(.slice .nil 2 [])],[(.str [99,97,114]),(.str [110,111,117,110]),(.slice .nil 2 []),(.slice .nil 2 [])],[(.str [98,117,115]),(.str [110,111,117,110]),(.slice .nil 2 []),(.slice .any 2 [[(.int .i64 1),(.str [98,117,115,101,115])]])],[(.str [112,108,97,110]),(.str [118,101,114,98]),(.slice .nil 2 []),(.slice .nil 2 [])]]),(.slice .any 4 [[(.str [121,43]),(.str [105,43,101]),(.str [67]),(.str [115])],[(.str [110,43]),(.str [110,110,43]),(.str [86]),(.str [101,100])]]),(.slice .any 3 [[(.str [110,111,117,110]),(.str []),(.slice .any 2 [[(.str [110,117,109]),(.str [115,103])]])]])])],[],(.int .u8 0)⟩
def ps3:List r8:=p3::ps2
theorem ok3:∀ p∈ps3,p.Ok E0.P E0.G:=Dt Ry g0 ok2 VD (by kernel_rfl)
theorem SI:MO (EP E0 ps3) 1000000 bf [] []=some (.bool true):=by kernel_rfl
theorem T8(H:List ae):eX Tryz.prog G0 bf [] H fun r H'=>r = .ret (.bool true)∧H'=H:=OY (Wm Ry g0 ok3 VD) g0 SI rfl
end
section
attribute [local congr] aF vV aG a7 aR aH aA aC aS aT
variable{E:bC}(M:cT cY E)
def lC(c:UInt8):Bool:=decide (97≤(c.toNat:Int))&&decide ((c.toNat:Int)≤122)
theorem nD(h:E.fn cH=some gm)(c:UInt8)(H:List ae):M.run cH [.int .u8 c.toNat] H=some (.ret (.bool (lC c)),H):=by
 rw [aY M h rfl (c:=wF) rfl,wF]
 simp +contextual -implicitDefEqProofs only [am1 M,am2,am3,am4,↓ak,Nat.reduceBEq,Nat.reduceAdd,env,ao,(show gm.res=[.t 2] from rfl),(show gm.mode = .drop from rfl),(show gm.dfr=none from rfl),beq_true,beq_false,Bool.and_true,Bool.true_and,Bool.and_false,Bool.false_and,lC]
def O1(c:UInt8):Bool:=decide (33≤(c.toNat:Int))&&decide ((c.toNat:Int)≤126)
theorem SJ(h:E.fn pd=some iS)(c:UInt8)(H:List ae):M.run pd [.int .u8 c.toNat] H=some (.ret (.bool (O1 c)),H):=by
 rw [aY M h rfl (c:=wz) rfl,wz]
 simp +contextual -implicitDefEqProofs only [am1 M,am2,am3,am4,↓ak,Nat.reduceBEq,Nat.reduceAdd,env,ao,(show iS.res=[.t 2] from rfl),(show iS.mode = .drop from rfl),(show iS.dfr=none from rfl),beq_true,beq_false,Bool.and_true,Bool.true_and,Bool.and_false,Bool.false_and,O1]
def T9(c:UInt8):Bool:=decide (65≤(c.toNat:Int))&&decide ((c.toNat:Int)≤90)
def Xx(c:UInt8):Bool:=decide (48≤(c.toNat:Int))&&decide ((c.toNat:Int)≤57)
theorem Ii(hl:E.fn cH=some gm)(h:E.fn gg=some ij)(c:UInt8)(H:List ae):M.run gg [.int .u8 c.toNat] H=some (.ret (.bool (lC c||T9 c)),H):=by
 rw [aY M h rfl (c:=wJ) rfl,wJ]
 simp +contextual -implicitDefEqProofs only [am1 M,am2,am3,am4,↓ak,Nat.reduceBEq,Nat.reduceAdd,env,ao,(show ij.res=[.t 2] from rfl),(show ij.mode = .drop from rfl),(show ij.dfr=none from rfl),beq_true,beq_false,Bool.and_true,Bool.true_and,Bool.and_false,Bool.false_and,nD M hl]
 cases lC c<;>simp [sel,T9]
end
section
attribute [local congr] aF vV aG a7 aR aH aA aC aS aT
variable{E:bC}(M:cT cY E)
theorem SK(hl:E.fn cH=some gm)(h1:E.fn gg=some ij)(h:E.fn lP=some iT)(c:UInt8){H:List ae}{T:TypeId} :
  M.run lP [.int .u8 c.toNat,.ptr H.length 0] (H++[.cells [.fn (.func gg) [] []] T])=some (.ret (.bool (lC c||T9 c||Xx c||((c.toNat:Int) == 95))),H++[.cells [.fn (.func gg) [] []] T]):=by
 rw [aY M h rfl (c:=wK) rfl,wK]
 simp +contextual -implicitDefEqProofs only [am1 M,am2,am3,am4,↓ak,Nat.reduceBEq,Nat.reduceAdd,env,ao,(show iT.res=[.t 3] from rfl),(show iT.mode = .drop from rfl),(show iT.dfr=none from rfl),beq_true,beq_false,Bool.and_true,Bool.true_and,Bool.and_false,Bool.false_and,Ii M hl h1,List.nil_append,List.append_nil]
 rw [show H.length+1=(H++[ae.cells [AV.fn (Fn.func gg) [] []] T]).length by simp,List.take_length]
 rfl
theorem O2{g:Nat}{fr cap:List AV}{p:UInt8→Bool}{s:List UInt8}(hs:s.length≤bD){H:List ae}(hp:∀ c:UInt8,M.run g (fr ++ .int .u8 c.toNat::cap) H=some (.ret (.bool (p c)),H))
  {H0:List ae} (hc:dM H0 H) (k:List Fra):∀ (n i:Nat) (He:List ae),i+n=s.length →
  M.go eW H0 (.c qq :: .lp ⟨some [0,1,7,8],[],false⟩ qq He :: .blk 0 :: .c (.lv [])::k) (kv [(0,.str s),(1,.fn (.func g) fr cap),(7,.int .i64 s.length),(8,.int .i64 i)]) H =
   sel ((s.drop i).all p) (M.go eW H0 k .leaf H) (some (.ret (.bool false),H.take H0.length))
 |0,i,He,h=>by
  have e:i=s.length:=by omega
  subst e
  rw [aw M qq.eq_1]
  simp +contextual -implicitDefEqProofs only [am1 M,am2,am3,am4,↓ak,Nat.reduceBEq,Nat.reduceAdd,(show eW.res=[.t 4] from rfl),(show eW.mode = .drop from rfl),(show eW.dfr=none from rfl),beq_true,beq_false,decide_true,decide_false,Nat.lt_irrefl,List.drop_length,List.all_nil]
 |n+1,i,He,h=>by
  have hi:i<s.length:=by omega
  have hx:s[i]?=some s[i]:=List.getElem?_eq_getElem hi
  have hd:(s.drop i)=s[i]::s.drop (i+1):=List.drop_eq_getElem_cons hi
  have ih:=O2 hs hp hc k n (i+1) H (by omega)
  simp only [kv_cons,kv_nil] at ih
  rw [aw M qq.eq_1]
  simp +contextual -implicitDefEqProofs only [am1 M,am2,am3,am4,↓ak,Nat.reduceBEq,Nat.reduceAdd,(show eW.res=[.t 4] from rfl),(show eW.mode = .drop from rfl),(show eW.dfr=none from rfl),beq_true,beq_false,decide_true,decide_false,hx,hp,c6 hi hs,hi,hc,ih,hd,List.all_cons]
theorem JH(hf:E.fn pc=some eW){g:Nat}{fr cap:List AV}{p:UInt8→Bool}{s:List UInt8}(hs:s.length≤bD){H:List ae}(hp:∀ c:UInt8,M.run g (fr ++ .int .u8 c.toNat::cap) H=some (.ret (.bool (p c)),H)) :
  M.run pc [.str s,.fn (.func g) fr cap] H=some (.ret (.bool (s.all p)),H):=by
 rw [aY M hf rfl (c:=DB) rfl,DB]
 have hl:=fun k He=>O2 M hs hp (cut_refl H) k s.length 0 He (by omega)
 simp only [kv_cons,kv_nil,Int.ofNat_zero,List.drop_zero] at hl
 simp +contextual -implicitDefEqProofs only [am1 M,am2,am3,am4,↓ak,Nat.reduceBEq,Nat.reduceAdd,env,ao,(show eW.res=[.t 4] from rfl),(show eW.mode = .drop from rfl),(show eW.dfr=none from rfl),hl]
 rw [Bool.and_true]
structure dG (E:bC):Prop where
 letter:E.fn cH=some gm
 Letter:E.fn jL=some nm
 name1:E.fn gg=some ij
 name2:E.fn lP=some iT
 word1:E.fn pd=some iS
 all:E.fn pc=some eW
 name:E.fn sa=some iQ
 word:E.fn vt=some mR
 plain:E.fn tT=some ln
 rname:E.fn kJ=some pr
 rword:E.fn pb=some pj
 rplain:E.fn oc=some oG
 rof:E.fn dQ=some rf
def Cp(s:List UInt8):Bool:=decide (1≤(s.length:Int))&&decide ((s.length:Int)≤24)&&s.all O1
theorem O3(hE:dG E){s:List UInt8}(hs:s.length≤bD)(H:List ae):M.run vt [.str s] H=some (.ret (.bool (Cp s)),H):=by
 rw [aY M hE.word rfl (c:=By) rfl,By]
 have ha:=JH M hE.all (g:=pd) (fr:=[]) (cap:=[]) hs (H:=H) (fun c=>SJ M hE.word1 c H)
 simp +contextual -implicitDefEqProofs only [am1 M,am2,am3,am4,↓ak,Nat.reduceBEq,Nat.reduceAdd,env,ao,beq_true,beq_false,decide_true,decide_false,Bool.and_true,Bool.true_and,Bool.and_false,Bool.false_and,List.nil_append,List.append_nil,(show mR.res=[.t 2] from rfl),(show mR.mode = .drop from rfl),(show mR.dfr=none from rfl),ha,Cp]
def zp(s:List UInt8):Bool:=Cp s&&s.all lC
theorem Ij(hE:dG E){s:List UInt8}(hs:s.length≤bD)(H:List ae):M.run tT [.str s] H=some (.ret (.bool (zp s)),H):=by
 rw [aY M hE.plain rfl (c:=zh) rfl,zh]
 have ha:=JH M hE.all (g:=cH) (fr:=[]) (cap:=[]) hs (H:=H) (fun c=>nD M hE.letter c H)
 simp +contextual -implicitDefEqProofs only [am1 M,am2,am3,am4,↓ak,Nat.reduceBEq,Nat.reduceAdd,env,ao,beq_true,beq_false,decide_true,decide_false,Bool.and_true,Bool.true_and,Bool.and_false,Bool.false_and,List.nil_append,List.append_nil,(show ln.res=[.t 2] from rfl),(show ln.mode = .drop from rfl),(show ln.dfr=none from rfl),ha,O3 M hE hs,zp]
end
section
attribute [local congr] aF vV aG a7 aR aH aA aC aS aT
variable{E:bC}(M:cT cY E)
def Xy(c:UInt8):Bool:=lC c||T9 c||Xx c||((c.toNat:Int) == 95)
def KM(s:List UInt8):Bool:=match s with
 |[]=>false
 |c::t=>decide ((((c::t).length:Nat):Int)≤12)&&(lC c||T9 c)&&(c::t).all Xy
theorem KN(hE:dG E){s:List UInt8}(hs:s.length≤bD)(H:List ae):M.run sa [.str s] H=some (.ret (.bool (KM s)),H):=by
 rw [aY M hE.name rfl (c:=BJ) rfl,BJ]
 have h2:∀ (T:TypeId) (c:UInt8),M.run lP ([] ++ .int .u8 c.toNat::[.ptr H.length 0]) (H++[.cells [.fn (.func gg) [] []] T])=some (.ret (.bool (Xy c)),H++[.cells [.fn (.func gg) [] []] T]):=fun T c=>SK M hE.letter hE.name1 hE.name2 c
 have ha:=fun T=>JH M hE.all (g:=lP) (fr:=[]) (cap:=[.ptr H.length 0]) hs (h2 T)
 cases s with
 |nil=>
  simp +contextual -implicitDefEqProofs only [am1 M,am2,am3,am4,am5,setRow_nil,setRow_cons,List.set_cons_zero,List.length_cons,List.length_nil,Nat.zero_add,Nat.le_refl,List.all_cons,List.all_nil,AV.cell,List.cons_append,↓ak,Nat.reduceBEq,Nat.reduceAdd,env,ao,beq_true,beq_false,decide_true,decide_false,Bool.and_true,Bool.true_and,Bool.and_false,Bool.false_and,List.nil_append,List.append_nil,(show iQ.res=[.t 2] from rfl),(show iQ.mode = .drop from rfl),(show iQ.dfr=none from rfl),ha,Ii M hE.letter hE.name1,KM,List.length_nil,List.getElem?_nil,(show decide ((1:Int)≤((0:Nat):Int))=false from rfl)]
 |cons c t=>
  have hlen:decide ((1:Int)≤((t.length+1:Nat):Int))=true:=decide_eq_true (by omega)
  simp +contextual -implicitDefEqProofs only [am1 M,am2,am3,am4,am5,setRow_nil,setRow_cons,List.set_cons_zero,List.length_cons,List.length_nil,Nat.zero_add,Nat.le_refl,List.all_cons,List.all_nil,AV.cell,List.cons_append,↓ak,Nat.reduceBEq,Nat.reduceAdd,env,ao,beq_true,beq_false,decide_true,decide_false,Bool.and_true,Bool.true_and,Bool.and_false,Bool.false_and,List.nil_append,List.append_nil,(show iQ.res=[.t 2] from rfl),(show iQ.mode = .drop from rfl),(show iQ.dfr=none from rfl),ha,Ii M hE.letter hE.name1,KM,List.getElem?_cons_zero,hlen]
end
section
attribute [local congr] aF vV aG a7 aR aH aA aC aS aT
variable{E:bC}(M:cT cY E)
end
section
attribute [local congr] aF vV aG a7 aR aH aA aC aS aT
variable{E:bC}(M:cT cY E)
def ofF(more:List UInt8)(s:List UInt8):Bool:=s.all fun c=>lC c||more.any fun d=>c.toNat == d.toNat
theorem Rz(s:List UInt8):ofF [] s=s.all lC:=by
 simp only [ofF,List.any_nil,Bool.or_false]
end
section
attribute [local congr] aF vV aG a7 aR aH aA aC aS aT
variable{E:bC}(M:cT cY E)
end
section
attribute [local congr] aF cu bm aG a7 aR aH aA aC aS aT
variable{E:bC}(M:cT cY E)
def CV{α:Type}(p:α→Bool):Nat→α→Option AV:=fun i x=>sel (p x) (some (.int .i64 (i:Int))) none
def CW{α:Type}(p:α→Bool):Nat→List α→Int
 |_,[] => -1
 |i,x::l=>sel (p x) (i:Int) (CW p (i+1) l)
theorem pK{α:Type}(p:α→Bool):∀ (l:List α) (i:Nat) (H:List ae),orE (fJ (CV p) i l) H (some (.ret (.int .i64 (-1)),H))=some (.ret (.int .i64 (CW p i l)),H)
 |[],i,H=>rfl
 |x::l,i,H=>by
  rw [ui,CV,CW,JG,JF,GU,GV,GT,pK p l]
  cases p x<;>rfl
theorem vI{α:Type}(p:α→Bool):∀ (l:List α) (i:Nat),decide ((0:Int)≤CW p i l)=l.any p
 |[],i=>rfl
 |x::l,i=>by
  rw [CW,List.any_cons,← vI p l (i+1)]
  cases p x with
  |true=>simp only [sel,Bool.true_or];exact decide_eq_true (by omega)
  |false=>simp only [sel,Bool.false_or];rfl
theorem MP{H H0:List ae}{g:Nat}{fr cap:List AV}{p:bG→Bool}{tg:Tag}{l:List bG}(hs:l.length≤bD)(hp:∀ x∈l,M.run g (fr ++ .agg (bG.row x)::cap) H=some (.ret (.bool (p x)),H))(hc:dM H0 H)(k:List Fra):∀ (n i:Nat) (He:List ae),i+n=l.length →
  M.go aO H0 (.c cf :: .lp ⟨(some [0,1,7,8]),[],false⟩ cf He :: .blk 0 :: .c (.lv [])::k) (kv [(0,.slice tg 2 (l.map bG.row)),(1,.fn (.func g) fr cap),(7,.int .i64 l.length),(8,.int .i64 i)]) H =
   orE (fJ (CV p) i (l.drop i)) (H.take H0.length) (M.go aO H0 k .leaf H)
 |0,i,He,h=>by
  have e:i=l.length:=by omega
  subst e
  rw [aw M cf.eq_1]
  simp (maxSteps:=3000000) (maxDischargeDepth:=6) +contextual -implicitDefEqProofs only [amA M,amB,↓aj,↓ab,↓al,↓ak,Nat.reduceBEq,Nat.reduceAdd,env,ao,fB,Nat.lt_irrefl,List.drop_length]
 |n+1,i,He,h=>by
  have hi:i<l.length:=by omega
  have hx:l[i]?=some l[i]:=List.getElem?_eq_getElem hi
  have hd:(l.drop i)=l[i]::l.drop (i+1):=List.drop_eq_getElem_cons hi
  have hm:l[i]∈l:=List.getElem_mem hi
  have ih:=fun He=>MP (H:=H) (H0:=H0) (g:=g) (fr:=fr) (cap:=cap) (p:=p) (tg:=tg) (l:=l) (hs:=hs) (hp:=hp) hc k n (i+1)  He (by omega)
  simp only [kv_cons,kv_nil] at ih
  rw [aw M cf.eq_1]
  simp (maxSteps:=3000000) (maxDischargeDepth:=6) +contextual -implicitDefEqProofs only [amA M,amB,↓aj,↓ab,↓al,↓ak,Nat.reduceBEq,Nat.reduceAdd,env,ao,fB,hx,hd,hi,ih,hp,hm,c6 hi hs,bo hi,uL,CV,hc]
theorem vn(hf:E.fn bS=some aO){g:Nat}{fr cap:List AV}{p:bG→Bool}{tg:Tag}{l:List bG}(hs:l.length≤bD){H:List ae}
  (hp:∀ x∈l,M.run g (fr ++ .agg (bG.row x)::cap) H=some (.ret (.bool (p x)),H)) :
  M.run bS [.slice tg 2 (l.map bG.row),.fn (.func g) fr cap] H=some (.ret (.int .i64 (CW p 0 l)),H):=by
 rw [aY M hf rfl (c:=fA) rfl,fA]
 have hl:=fun k He=>MP M (tg:=tg) hs hp (cut_refl H) k l.length 0 He (by omega)
 simp only [kv_cons,kv_nil,Int.ofNat_zero,List.drop_zero] at hl
 simp (maxSteps:=3000000) (maxDischargeDepth:=6) +contextual -implicitDefEqProofs only [amA M,amB,↓aj,↓ab,↓al,↓ak,Nat.reduceBEq,Nat.reduceAdd,env,ao,fB,hl]
 exact pK p l 0 H
theorem BS(hf:E.fn bS=some aO)(hg:E.fn dk=some ba){g:Nat}{fr cap:List AV}{p:bG→Bool}{tg:Tag}{l:List bG}(hs:l.length≤bD){H:List ae}
  (hp:∀ x∈l,M.run g (fr ++ .agg (bG.row x)::cap) H=some (.ret (.bool (p x)),H)) :
  M.run dk [.slice tg 2 (l.map bG.row),.fn (.func g) fr cap] H=some (.ret (.bool (l.any p)),H):=by
 rw [aY M hg rfl (c:=eM) rfl,eM]
 simp (maxSteps:=3000000) (maxDischargeDepth:=6) +contextual -implicitDefEqProofs only [amA M,amB,↓aj,↓ab,↓al,↓ak,Nat.reduceBEq,Nat.reduceAdd,env,ao,nK,vn M hf hs hp,vI]
theorem MQ{H H0:List ae}{g:Nat}{fr cap:List AV}{p:aZ→Bool}{tg:Tag}{l:List aZ}(hs:l.length≤bD)(hp:∀ x∈l,M.run g (fr ++ .agg (aZ.row x)::cap) H=some (.ret (.bool (p x)),H))(hc:dM H0 H)(k:List Fra):∀ (n i:Nat) (He:List ae),i+n=l.length →
  M.go aP H0 (.c cg :: .lp ⟨(some [0,1,7,8]),[],false⟩ cg He :: .blk 0 :: .c (.lv [])::k) (kv [(0,.slice tg 2 (l.map aZ.row)),(1,.fn (.func g) fr cap),(7,.int .i64 l.length),(8,.int .i64 i)]) H =
   orE (fJ (CV p) i (l.drop i)) (H.take H0.length) (M.go aP H0 k .leaf H)
 |0,i,He,h=>by
  have e:i=l.length:=by omega
  subst e
  rw [aw M cg.eq_1]
  simp (maxSteps:=3000000) (maxDischargeDepth:=6) +contextual -implicitDefEqProofs only [amA M,amB,↓aj,↓ab,↓al,↓ak,Nat.reduceBEq,Nat.reduceAdd,env,ao,fD,Nat.lt_irrefl,List.drop_length]
 |n+1,i,He,h=>by
  have hi:i<l.length:=by omega
  have hx:l[i]?=some l[i]:=List.getElem?_eq_getElem hi
  have hd:(l.drop i)=l[i]::l.drop (i+1):=List.drop_eq_getElem_cons hi
  have hm:l[i]∈l:=List.getElem_mem hi
  have ih:=fun He=>MQ (H:=H) (H0:=H0) (g:=g) (fr:=fr) (cap:=cap) (p:=p) (tg:=tg) (l:=l) (hs:=hs) (hp:=hp) hc k n (i+1)  He (by omega)
  simp only [kv_cons,kv_nil] at ih
  rw [aw M cg.eq_1]
  simp (maxSteps:=3000000) (maxDischargeDepth:=6) +contextual -implicitDefEqProofs only [amA M,amB,↓aj,↓ab,↓al,↓ak,Nat.reduceBEq,Nat.reduceAdd,env,ao,fD,hx,hd,hi,ih,hp,hm,c6 hi hs,bo hi,ky,CV,hc]
theorem qc(hf:E.fn bT=some aP){g:Nat}{fr cap:List AV}{p:aZ→Bool}{tg:Tag}{l:List aZ}(hs:l.length≤bD){H:List ae}
  (hp:∀ x∈l,M.run g (fr ++ .agg (aZ.row x)::cap) H=some (.ret (.bool (p x)),H)) :
  M.run bT [.slice tg 2 (l.map aZ.row),.fn (.func g) fr cap] H=some (.ret (.int .i64 (CW p 0 l)),H):=by
 rw [aY M hf rfl (c:=fC) rfl,fC]
 have hl:=fun k He=>MQ M (tg:=tg) hs hp (cut_refl H) k l.length 0 He (by omega)
 simp only [kv_cons,kv_nil,Int.ofNat_zero,List.drop_zero] at hl
 simp (maxSteps:=3000000) (maxDischargeDepth:=6) +contextual -implicitDefEqProofs only [amA M,amB,↓aj,↓ab,↓al,↓ak,Nat.reduceBEq,Nat.reduceAdd,env,ao,fD,hl]
 exact pK p l 0 H
theorem BU(hf:E.fn bT=some aP)(hg:E.fn dm=some bb){g:Nat}{fr cap:List AV}{p:aZ→Bool}{tg:Tag}{l:List aZ}(hs:l.length≤bD){H:List ae}
  (hp:∀ x∈l,M.run g (fr ++ .agg (aZ.row x)::cap) H=some (.ret (.bool (p x)),H)) :
  M.run dm [.slice tg 2 (l.map aZ.row),.fn (.func g) fr cap] H=some (.ret (.bool (l.any p)),H):=by
 rw [aY M hg rfl (c:=eN) rfl,eN]
 simp (maxSteps:=3000000) (maxDischargeDepth:=6) +contextual -implicitDefEqProofs only [amA M,amB,↓aj,↓ab,↓al,↓ak,Nat.reduceBEq,Nat.reduceAdd,env,ao,nL,qc M hf hs hp,vI]
theorem MR{H H0:List ae}{g:Nat}{fr cap:List AV}{p:bX→Bool}{tg:Tag}{l:List bX}(hs:l.length≤bD)(hp:∀ x∈l,M.run g (fr ++ .agg (bX.row x)::cap) H=some (.ret (.bool (p x)),H))(hc:dM H0 H)(k:List Fra):∀ (n i:Nat) (He:List ae),i+n=l.length →
  M.go aE H0 (.c bH :: .lp ⟨(some [0,1,7,8]),[],false⟩ bH He :: .blk 0 :: .c (.lv [])::k) (kv [(0,.slice tg 2 (l.map bX.row)),(1,.fn (.func g) fr cap),(7,.int .i64 l.length),(8,.int .i64 i)]) H =
   orE (fJ (CV p) i (l.drop i)) (H.take H0.length) (M.go aE H0 k .leaf H)
 |0,i,He,h=>by
  have e:i=l.length:=by omega
  subst e
  rw [aw M bH.eq_1]
  simp (maxSteps:=3000000) (maxDischargeDepth:=6) +contextual -implicitDefEqProofs only [amA M,amB,↓aj,↓ab,↓al,↓ak,Nat.reduceBEq,Nat.reduceAdd,env,ao,dV,Nat.lt_irrefl,List.drop_length]
 |n+1,i,He,h=>by
  have hi:i<l.length:=by omega
  have hx:l[i]?=some l[i]:=List.getElem?_eq_getElem hi
  have hd:(l.drop i)=l[i]::l.drop (i+1):=List.drop_eq_getElem_cons hi
  have hm:l[i]∈l:=List.getElem_mem hi
  have ih:=fun He=>MR (H:=H) (H0:=H0) (g:=g) (fr:=fr) (cap:=cap) (p:=p) (tg:=tg) (l:=l) (hs:=hs) (hp:=hp) hc k n (i+1)  He (by omega)
  simp only [kv_cons,kv_nil] at ih
  rw [aw M bH.eq_1]
  simp (maxSteps:=3000000) (maxDischargeDepth:=6) +contextual -implicitDefEqProofs only [amA M,amB,↓aj,↓ab,↓al,↓ak,Nat.reduceBEq,Nat.reduceAdd,env,ao,dV,hx,hd,hi,ih,hp,hm,c6 hi hs,bo hi,HR,CV,hc]
theorem E8(hf:E.fn bK=some aE){g:Nat}{fr cap:List AV}{p:bX→Bool}{tg:Tag}{l:List bX}(hs:l.length≤bD){H:List ae}
  (hp:∀ x∈l,M.run g (fr ++ .agg (bX.row x)::cap) H=some (.ret (.bool (p x)),H)) :
  M.run bK [.slice tg 2 (l.map bX.row),.fn (.func g) fr cap] H=some (.ret (.int .i64 (CW p 0 l)),H):=by
 rw [aY M hf rfl (c:=dU) rfl,dU]
 have hl:=fun k He=>MR M (tg:=tg) hs hp (cut_refl H) k l.length 0 He (by omega)
 simp only [kv_cons,kv_nil,Int.ofNat_zero,List.drop_zero] at hl
 simp (maxSteps:=3000000) (maxDischargeDepth:=6) +contextual -implicitDefEqProofs only [amA M,amB,↓aj,↓ab,↓al,↓ak,Nat.reduceBEq,Nat.reduceAdd,env,ao,dV,hl]
 exact pK p l 0 H
theorem BV(hf:E.fn bK=some aE)(hg:E.fn b7=some aU){g:Nat}{fr cap:List AV}{p:bX→Bool}{tg:Tag}{l:List bX}(hs:l.length≤bD){H:List ae}
  (hp:∀ x∈l,M.run g (fr ++ .agg (bX.row x)::cap) H=some (.ret (.bool (p x)),H)) :
  M.run b7 [.slice tg 2 (l.map bX.row),.fn (.func g) fr cap] H=some (.ret (.bool (l.any p)),H):=by
 rw [aY M hg rfl (c:=dF) rfl,dF]
 simp (maxSteps:=3000000) (maxDischargeDepth:=6) +contextual -implicitDefEqProofs only [amA M,amB,↓aj,↓ab,↓al,↓ak,Nat.reduceBEq,Nat.reduceAdd,env,ao,km,E8 M hf hs hp,vI]
theorem MS{H H0:List ae}{g:Nat}{fr cap:List AV}{p:aK→Bool}{tg:Tag}{l:List aK}(hs:l.length≤bD)(hp:∀ x∈l,M.run g (fr ++ .agg (aK.row x)::cap) H=some (.ret (.bool (p x)),H))(hc:dM H0 H)(k:List Fra):∀ (n i:Nat) (He:List ae),i+n=l.length →
  M.go aQ H0 (.c cj :: .lp ⟨(some [0,1,7,8]),[],false⟩ cj He :: .blk 0 :: .c (.lv [])::k) (kv [(0,.slice tg 4 (l.map aK.row)),(1,.fn (.func g) fr cap),(7,.int .i64 l.length),(8,.int .i64 i)]) H =
   orE (fJ (CV p) i (l.drop i)) (H.take H0.length) (M.go aQ H0 k .leaf H)
 |0,i,He,h=>by
  have e:i=l.length:=by omega
  subst e
  rw [aw M cj.eq_1]
  simp (maxSteps:=3000000) (maxDischargeDepth:=6) +contextual -implicitDefEqProofs only [amA M,amB,↓aj,↓ab,↓al,↓ak,Nat.reduceBEq,Nat.reduceAdd,env,ao,fF,Nat.lt_irrefl,List.drop_length]
 |n+1,i,He,h=>by
  have hi:i<l.length:=by omega
  have hx:l[i]?=some l[i]:=List.getElem?_eq_getElem hi
  have hd:(l.drop i)=l[i]::l.drop (i+1):=List.drop_eq_getElem_cons hi
  have hm:l[i]∈l:=List.getElem_mem hi
  have ih:=fun He=>MS (H:=H) (H0:=H0) (g:=g) (fr:=fr) (cap:=cap) (p:=p) (tg:=tg) (l:=l) (hs:=hs) (hp:=hp) hc k n (i+1)  He (by omega)
  simp only [kv_cons,kv_nil] at ih
  rw [aw M cj.eq_1]
  simp (maxSteps:=3000000) (maxDischargeDepth:=6) +contextual -implicitDefEqProofs only [amA M,amB,↓aj,↓ab,↓al,↓ak,Nat.reduceBEq,Nat.reduceAdd,env,ao,fF,hx,hd,hi,ih,hp,hm,c6 hi hs,bo hi,gZ,CV,hc]
theorem E9(hf:E.fn cI=some aQ){g:Nat}{fr cap:List AV}{p:aK→Bool}{tg:Tag}{l:List aK}(hs:l.length≤bD){H:List ae}
  (hp:∀ x∈l,M.run g (fr ++ .agg (aK.row x)::cap) H=some (.ret (.bool (p x)),H)) :
  M.run cI [.slice tg 4 (l.map aK.row),.fn (.func g) fr cap] H=some (.ret (.int .i64 (CW p 0 l)),H):=by
 rw [aY M hf rfl (c:=fE) rfl,fE]
 have hl:=fun k He=>MS M (tg:=tg) hs hp (cut_refl H) k l.length 0 He (by omega)
 simp only [kv_cons,kv_nil,Int.ofNat_zero,List.drop_zero] at hl
 simp (maxSteps:=3000000) (maxDischargeDepth:=6) +contextual -implicitDefEqProofs only [amA M,amB,↓aj,↓ab,↓al,↓ak,Nat.reduceBEq,Nat.reduceAdd,env,ao,fF,hl]
 exact pK p l 0 H
theorem BW(hf:E.fn cI=some aQ)(hg:E.fn dn=some bc){g:Nat}{fr cap:List AV}{p:aK→Bool}{tg:Tag}{l:List aK}(hs:l.length≤bD){H:List ae}
  (hp:∀ x∈l,M.run g (fr ++ .agg (aK.row x)::cap) H=some (.ret (.bool (p x)),H)) :
  M.run dn [.slice tg 4 (l.map aK.row),.fn (.func g) fr cap] H=some (.ret (.bool (l.any p)),H):=by
 rw [aY M hg rfl (c:=eP) rfl,eP]
 simp (maxSteps:=3000000) (maxDischargeDepth:=6) +contextual -implicitDefEqProofs only [amA M,amB,↓aj,↓ab,↓al,↓ak,Nat.reduceBEq,Nat.reduceAdd,env,ao,nM,E9 M hf hs hp,vI]
theorem O4{H H0:List ae}{g:Nat}{fr cap:List AV}{p:aq→Bool}{tg:Tag}{l:List aq}(hs:l.length≤bD)(hp:∀ x∈l,M.run g (fr ++ .agg (aq.row x)::cap) H=some (.ret (.bool (p x)),H))(hc:dM H0 H)(k:List Fra):∀ (n i:Nat) (He:List ae),i+n=l.length →
  M.go aW H0 (.c cJ :: .lp ⟨(some [0,1,7,8]),[],false⟩ cJ He :: .blk 0 :: .c (.lv [])::k) (kv [(0,.slice tg 2 (l.map aq.row)),(1,.fn (.func g) fr cap),(7,.int .i64 l.length),(8,.int .i64 i)]) H =
   orE (fJ (CV p) i (l.drop i)) (H.take H0.length) (M.go aW H0 k .leaf H)
 |0,i,He,h=>by
  have e:i=l.length:=by omega
  subst e
  rw [aw M cJ.eq_1]
  simp (maxSteps:=3000000) (maxDischargeDepth:=6) +contextual -implicitDefEqProofs only [amA M,amB,↓aj,↓ab,↓al,↓ak,Nat.reduceBEq,Nat.reduceAdd,env,ao,fU,Nat.lt_irrefl,List.drop_length]
 |n+1,i,He,h=>by
  have hi:i<l.length:=by omega
  have hx:l[i]?=some l[i]:=List.getElem?_eq_getElem hi
  have hd:(l.drop i)=l[i]::l.drop (i+1):=List.drop_eq_getElem_cons hi
  have hm:l[i]∈l:=List.getElem_mem hi
  have ih:=fun He=>O4 (H:=H) (H0:=H0) (g:=g) (fr:=fr) (cap:=cap) (p:=p) (tg:=tg) (l:=l) (hs:=hs) (hp:=hp) hc k n (i+1)  He (by omega)
  simp only [kv_cons,kv_nil] at ih
  rw [aw M cJ.eq_1]
  simp (maxSteps:=3000000) (maxDischargeDepth:=6) +contextual -implicitDefEqProofs only [amA M,amB,↓aj,↓ab,↓al,↓ak,Nat.reduceBEq,Nat.reduceAdd,env,ao,fU,hx,hd,hi,ih,hp,hm,c6 hi hs,bo hi,yE,CV,hc]
theorem F3(hf:E.fn cV=some aW){g:Nat}{fr cap:List AV}{p:aq→Bool}{tg:Tag}{l:List aq}(hs:l.length≤bD){H:List ae}
  (hp:∀ x∈l,M.run g (fr ++ .agg (aq.row x)::cap) H=some (.ret (.bool (p x)),H)) :
  M.run cV [.slice tg 2 (l.map aq.row),.fn (.func g) fr cap] H=some (.ret (.int .i64 (CW p 0 l)),H):=by
 rw [aY M hf rfl (c:=fT) rfl,fT]
 have hl:=fun k He=>O4 M (tg:=tg) hs hp (cut_refl H) k l.length 0 He (by omega)
 simp only [kv_cons,kv_nil,Int.ofNat_zero,List.drop_zero] at hl
 simp (maxSteps:=3000000) (maxDischargeDepth:=6) +contextual -implicitDefEqProofs only [amA M,amB,↓aj,↓ab,↓al,↓ak,Nat.reduceBEq,Nat.reduceAdd,env,ao,fU,hl]
 exact pK p l 0 H
theorem oT(hf:E.fn cV=some aW)(hg:E.fn bO=some bj){g:Nat}{fr cap:List AV}{p:aq→Bool}{tg:Tag}{l:List aq}(hs:l.length≤bD){H:List ae}
  (hp:∀ x∈l,M.run g (fr ++ .agg (aq.row x)::cap) H=some (.ret (.bool (p x)),H)) :
  M.run bO [.slice tg 2 (l.map aq.row),.fn (.func g) fr cap] H=some (.ret (.bool (l.any p)),H):=by
 rw [aY M hg rfl (c:=fp) rfl,fp]
 simp (maxSteps:=3000000) (maxDischargeDepth:=6) +contextual -implicitDefEqProofs only [amA M,amB,↓aj,↓ab,↓al,↓ak,Nat.reduceBEq,Nat.reduceAdd,env,ao,o2,F3 M hf hs hp,vI]
theorem O5{H H0:List ae}{g:Nat}{fr cap:List AV}{p:bt→Bool}{tg:Tag}{l:List bt}(hs:l.length≤bD)(hp:∀ x∈l,M.run g (fr ++ .agg (bt.row x)::cap) H=some (.ret (.bool (p x)),H))(hc:dM H0 H)(k:List Fra):∀ (n i:Nat) (He:List ae),i+n=l.length →
  M.go aX H0 (.c cK :: .lp ⟨(some [0,1,7,8]),[],false⟩ cK He :: .blk 0 :: .c (.lv [])::k) (kv [(0,.slice tg 4 (l.map bt.row)),(1,.fn (.func g) fr cap),(7,.int .i64 l.length),(8,.int .i64 i)]) H =
   orE (fJ (CV p) i (l.drop i)) (H.take H0.length) (M.go aX H0 k .leaf H)
 |0,i,He,h=>by
  have e:i=l.length:=by omega
  subst e
  rw [aw M cK.eq_1]
  simp (maxSteps:=3000000) (maxDischargeDepth:=6) +contextual -implicitDefEqProofs only [amA M,amB,↓aj,↓ab,↓al,↓ak,Nat.reduceBEq,Nat.reduceAdd,env,ao,fW,Nat.lt_irrefl,List.drop_length]
 |n+1,i,He,h=>by
  have hi:i<l.length:=by omega
  have hx:l[i]?=some l[i]:=List.getElem?_eq_getElem hi
  have hd:(l.drop i)=l[i]::l.drop (i+1):=List.drop_eq_getElem_cons hi
  have hm:l[i]∈l:=List.getElem_mem hi
  have ih:=fun He=>O5 (H:=H) (H0:=H0) (g:=g) (fr:=fr) (cap:=cap) (p:=p) (tg:=tg) (l:=l) (hs:=hs) (hp:=hp) hc k n (i+1)  He (by omega)
  simp only [kv_cons,kv_nil] at ih
  rw [aw M cK.eq_1]
  simp (maxSteps:=3000000) (maxDischargeDepth:=6) +contextual -implicitDefEqProofs only [amA M,amB,↓aj,↓ab,↓al,↓ak,Nat.reduceBEq,Nat.reduceAdd,env,ao,fW,hx,hd,hi,ih,hp,hm,c6 hi hs,bo hi,jz,CV,hc]
theorem F4(hf:E.fn cW=some aX){g:Nat}{fr cap:List AV}{p:bt→Bool}{tg:Tag}{l:List bt}(hs:l.length≤bD){H:List ae}
  (hp:∀ x∈l,M.run g (fr ++ .agg (bt.row x)::cap) H=some (.ret (.bool (p x)),H)) :
  M.run cW [.slice tg 4 (l.map bt.row),.fn (.func g) fr cap] H=some (.ret (.int .i64 (CW p 0 l)),H):=by
 rw [aY M hf rfl (c:=fV) rfl,fV]
 have hl:=fun k He=>O5 M (tg:=tg) hs hp (cut_refl H) k l.length 0 He (by omega)
 simp only [kv_cons,kv_nil,Int.ofNat_zero,List.drop_zero] at hl
 simp (maxSteps:=3000000) (maxDischargeDepth:=6) +contextual -implicitDefEqProofs only [amA M,amB,↓aj,↓ab,↓al,↓ak,Nat.reduceBEq,Nat.reduceAdd,env,ao,fW,hl]
 exact pK p l 0 H
theorem CX(hf:E.fn cW=some aX)(hg:E.fn dK=some bk){g:Nat}{fr cap:List AV}{p:bt→Bool}{tg:Tag}{l:List bt}(hs:l.length≤bD){H:List ae}
  (hp:∀ x∈l,M.run g (fr ++ .agg (bt.row x)::cap) H=some (.ret (.bool (p x)),H)) :
  M.run dK [.slice tg 4 (l.map bt.row),.fn (.func g) fr cap] H=some (.ret (.bool (l.any p)),H):=by
 rw [aY M hg rfl (c:=fq) rfl,fq]
 simp (maxSteps:=3000000) (maxDischargeDepth:=6) +contextual -implicitDefEqProofs only [amA M,amB,↓aj,↓ab,↓al,↓ak,Nat.reduceBEq,Nat.reduceAdd,env,ao,o3,F4 M hf hs hp,vI]
end
section
attribute [local congr] aF cu bm aG a7 aR aH aA aC aS aT
variable{E:bC}(M:cT cY E)
def xh{α:Type}(F:Nat→α→Int):Nat→α→Option AV:=fun i x=>sel (!(F i x == 0)) (some (.int .u8 (F i x))) none
def BX{α:Type}(F:Nat→α→Int):Nat→List α→Int
 |_,[]=>0
 |i,x::l=>sel (!(F i x == 0)) (F i x) (BX F (i+1) l)
theorem mh{α:Type}(F:Nat→α→Int):∀ (l:List α) (i:Nat) (H:List ae),orE (fJ (xh F) i l) H (some (.ret (.int .u8 0),H))=some (.ret (.int .u8 (BX F i l)),H)
 |[],i,H=>rfl
 |x::l,i,H=>by
  rw [ui,xh,BX,JG,JF,GU,GV,GT,mh F l]
  cases (!(F i x == 0))<;>rfl
def py{α:Type}(most:Int)(F:Nat→α→Int)(l:List α):Int:=sel (decide (most<(l.length:Int))) 3 (BX F 0 l)
theorem KO{H H0:List ae}{g:Nat}{fr cap:List AV}{F:Nat→bG→Int}{tg:Tag}{l:List bG}(hs:l.length≤bD)(hfw:Wk H.length (.fn (.func g) fr cap) (.fn (.func g) fr cap))(hlw:Wk H.length (.slice tg 2 (l.map bG.row)) (.slice tg 2 (l.map bG.row)))(hp:∀ (L:List ae) (i:Nat) (x:bG),l[i]?=some x→M.run g (fr ++ .int .i64 i :: .agg (bG.row x)::cap) (H++L)=some (.ret (.int .u8 (F i x)),H++L))(hc:dM H0 H)(k:List Fra):∀ (n i:Nat),i+n=l.length →
  M.go cw H0 (.c gi :: .lp ⟨(some [2,14,15,16]),[],true⟩ gi H :: .blk 0 :: .c (.lv [])::k) (kv [(2,.fn (.func g) fr cap),(14,.slice tg 2 (l.map bG.row)),(15,.int .i64 l.length),(16,.int .i64 i)]) H =
   orE (fJ (xh F) i (l.drop i)) (H.take H0.length) (M.go cw H0 k .leaf H)
 |0,i,h=>by
  have e:i=l.length:=by omega
  subst e
  rw [aw M gi.eq_1]
  simp (maxSteps:=3000000) (maxDischargeDepth:=6) +contextual -implicitDefEqProofs only [amA M,amB,↓aj,↓ab,↓al,↓ak,Nat.reduceBEq,Nat.reduceAdd,env,ao,mZ,Nat.lt_irrefl,List.drop_length]
 |n+1,i,h=>by
  have hi:i<l.length:=by omega
  have hx:l[i]?=some l[i]:=List.getElem?_eq_getElem hi
  have hd:(l.drop i)=l[i]::l.drop (i+1):=List.drop_eq_getElem_cons hi
  have hm:l[i]∈l:=List.getElem_mem hi
  have ih:=KO (H:=H) (H0:=H0) (g:=g) (fr:=fr) (cap:=cap) (F:=F) (tg:=tg) (l:=l) (hs:=hs) (hfw:=hfw) (hlw:=hlw) (hp:=hp) hc k n (i+1)  (by omega)
  simp only [kv_cons,kv_nil] at ih
  have hp:=fun L=>hp L i l[i] hx
  rw [aw M gi.eq_1]
  simp (maxSteps:=3000000) (maxDischargeDepth:=6) +contextual -implicitDefEqProofs only [amA M,amB,↓aj,↓ab,↓al,↓ak,Nat.reduceBEq,Nat.reduceAdd,env,ao,mZ,hx,hd,hi,ih,amG,AV.cell,hp,hfw,hlw,c6 hi hs,bo hi,uL,xh,hc]
theorem KP(hf:E.fn jG=some cw){g:Nat}{fr cap:List AV}{F:Nat→bG→Int}{tg:Tag}{l:List bG}{H:List ae}(hs:l.length≤bD)(hfw:Wk H.length (.fn (.func g) fr cap) (.fn (.func g) fr cap))(hlw:Wk H.length (.slice tg 2 (l.map bG.row)) (.slice tg 2 (l.map bG.row)))
  (hp:∀ (L:List ae) (i:Nat) (x:bG),l[i]?=some x→M.run g (fr ++ .int .i64 i :: .agg (bG.row x)::cap) (H++L)=some (.ret (.int .u8 (F i x)),H++L)) (most:Int) :
  M.run jG [.slice tg 2 (l.map bG.row),.int .i64 most,.fn (.func g) fr cap] H=some (.ret (.int .u8 (py most F l)),H):=by
 rw [aY M hf rfl (c:=mY) rfl,mY]
 have hl:=fun k=>KO M (tg:=tg) hs hfw hlw hp (cut_refl H) k l.length 0 (by omega)
 simp only [kv_cons,kv_nil,Int.ofNat_zero,List.drop_zero] at hl
 simp (maxSteps:=3000000) (maxDischargeDepth:=6) +contextual -implicitDefEqProofs only [amA M,amB,↓aj,↓ab,↓al,↓ak,Nat.reduceBEq,Nat.reduceAdd,env,ao,mZ,hl]
 rw [mh,py]
 cases decide (most<(l.length:Int))<;>rfl
theorem MT{H H0:List ae}{g:Nat}{fr cap:List AV}{F:Nat→aq→Int}{tg:Tag}{l:List aq}(hs:l.length≤bD)(hfw:Wk H.length (.fn (.func g) fr cap) (.fn (.func g) fr cap))(hlw:Wk H.length (.slice tg 2 (l.map aq.row)) (.slice tg 2 (l.map aq.row)))(hp:∀ (L:List ae) (i:Nat) (x:aq),l[i]?=some x→M.run g (fr ++ .int .i64 i :: .agg (aq.row x)::cap) (H++L)=some (.ret (.int .u8 (F i x)),H++L))(hc:dM H0 H)(k:List Fra):∀ (n i:Nat),i+n=l.length →
  M.go cS H0 (.c gT :: .lp ⟨(some [2,14,15,16]),[],true⟩ gT H :: .blk 0 :: .c (.lv [])::k) (kv [(2,.fn (.func g) fr cap),(14,.slice tg 2 (l.map aq.row)),(15,.int .i64 l.length),(16,.int .i64 i)]) H =
   orE (fJ (xh F) i (l.drop i)) (H.take H0.length) (M.go cS H0 k .leaf H)
 |0,i,h=>by
  have e:i=l.length:=by omega
  subst e
  rw [aw M gT.eq_1]
  simp (maxSteps:=3000000) (maxDischargeDepth:=6) +contextual -implicitDefEqProofs only [amA M,amB,↓aj,↓ab,↓al,↓ak,Nat.reduceBEq,Nat.reduceAdd,env,ao,oL,Nat.lt_irrefl,List.drop_length]
 |n+1,i,h=>by
  have hi:i<l.length:=by omega
  have hx:l[i]?=some l[i]:=List.getElem?_eq_getElem hi
  have hd:(l.drop i)=l[i]::l.drop (i+1):=List.drop_eq_getElem_cons hi
  have hm:l[i]∈l:=List.getElem_mem hi
  have ih:=MT (H:=H) (H0:=H0) (g:=g) (fr:=fr) (cap:=cap) (F:=F) (tg:=tg) (l:=l) (hs:=hs) (hfw:=hfw) (hlw:=hlw) (hp:=hp) hc k n (i+1)  (by omega)
  simp only [kv_cons,kv_nil] at ih
  have hp:=fun L=>hp L i l[i] hx
  rw [aw M gT.eq_1]
  simp (maxSteps:=3000000) (maxDischargeDepth:=6) +contextual -implicitDefEqProofs only [amA M,amB,↓aj,↓ab,↓al,↓ak,Nat.reduceBEq,Nat.reduceAdd,env,ao,oL,hx,hd,hi,ih,amG,AV.cell,hp,hfw,hlw,c6 hi hs,bo hi,yE,xh,hc]
theorem Mf(hf:E.fn ki=some cS){g:Nat}{fr cap:List AV}{F:Nat→aq→Int}{tg:Tag}{l:List aq}{H:List ae}(hs:l.length≤bD)(hfw:Wk H.length (.fn (.func g) fr cap) (.fn (.func g) fr cap))(hlw:Wk H.length (.slice tg 2 (l.map aq.row)) (.slice tg 2 (l.map aq.row)))
  (hp:∀ (L:List ae) (i:Nat) (x:aq),l[i]?=some x→M.run g (fr ++ .int .i64 i :: .agg (aq.row x)::cap) (H++L)=some (.ret (.int .u8 (F i x)),H++L)) (most:Int) :
  M.run ki [.slice tg 2 (l.map aq.row),.int .i64 most,.fn (.func g) fr cap] H=some (.ret (.int .u8 (py most F l)),H):=by
 rw [aY M hf rfl (c:=oK) rfl,oK]
 have hl:=fun k=>MT M (tg:=tg) hs hfw hlw hp (cut_refl H) k l.length 0 (by omega)
 simp only [kv_cons,kv_nil,Int.ofNat_zero,List.drop_zero] at hl
 simp (maxSteps:=3000000) (maxDischargeDepth:=6) +contextual -implicitDefEqProofs only [amA M,amB,↓aj,↓ab,↓al,↓ak,Nat.reduceBEq,Nat.reduceAdd,env,ao,oL,hl]
 rw [mh,py]
 cases decide (most<(l.length:Int))<;>rfl
theorem MU{H H0:List ae}{g:Nat}{fr cap:List AV}{F:Nat→bt→Int}{tg:Tag}{l:List bt}(hs:l.length≤bD)(hfw:Wk H.length (.fn (.func g) fr cap) (.fn (.func g) fr cap))(hlw:Wk H.length (.slice tg 4 (l.map bt.row)) (.slice tg 4 (l.map bt.row)))(hp:∀ (L:List ae) (i:Nat) (x:bt),l[i]?=some x→M.run g (fr ++ .int .i64 i :: .agg (bt.row x)::cap) (H++L)=some (.ret (.int .u8 (F i x)),H++L))(hc:dM H0 H)(k:List Fra):∀ (n i:Nat),i+n=l.length →
  M.go cR H0 (.c gS :: .lp ⟨(some [2,14,15,16]),[],true⟩ gS H :: .blk 0 :: .c (.lv [])::k) (kv [(2,.fn (.func g) fr cap),(14,.slice tg 4 (l.map bt.row)),(15,.int .i64 l.length),(16,.int .i64 i)]) H =
   orE (fJ (xh F) i (l.drop i)) (H.take H0.length) (M.go cR H0 k .leaf H)
 |0,i,h=>by
  have e:i=l.length:=by omega
  subst e
  rw [aw M gS.eq_1]
  simp (maxSteps:=3000000) (maxDischargeDepth:=6) +contextual -implicitDefEqProofs only [amA M,amB,↓aj,↓ab,↓al,↓ak,Nat.reduceBEq,Nat.reduceAdd,env,ao,oJ,Nat.lt_irrefl,List.drop_length]
 |n+1,i,h=>by
  have hi:i<l.length:=by omega
  have hx:l[i]?=some l[i]:=List.getElem?_eq_getElem hi
  have hd:(l.drop i)=l[i]::l.drop (i+1):=List.drop_eq_getElem_cons hi
  have hm:l[i]∈l:=List.getElem_mem hi
  have ih:=MU (H:=H) (H0:=H0) (g:=g) (fr:=fr) (cap:=cap) (F:=F) (tg:=tg) (l:=l) (hs:=hs) (hfw:=hfw) (hlw:=hlw) (hp:=hp) hc k n (i+1)  (by omega)
  simp only [kv_cons,kv_nil] at ih
  have hp:=fun L=>hp L i l[i] hx
  rw [aw M gS.eq_1]
  simp (maxSteps:=3000000) (maxDischargeDepth:=6) +contextual -implicitDefEqProofs only [amA M,amB,↓aj,↓ab,↓al,↓ak,Nat.reduceBEq,Nat.reduceAdd,env,ao,oJ,hx,hd,hi,ih,amG,AV.cell,hp,hfw,hlw,c6 hi hs,bo hi,jz,xh,hc]
theorem Mg(hf:E.fn kh=some cR){g:Nat}{fr cap:List AV}{F:Nat→bt→Int}{tg:Tag}{l:List bt}{H:List ae}(hs:l.length≤bD)(hfw:Wk H.length (.fn (.func g) fr cap) (.fn (.func g) fr cap))(hlw:Wk H.length (.slice tg 4 (l.map bt.row)) (.slice tg 4 (l.map bt.row)))
  (hp:∀ (L:List ae) (i:Nat) (x:bt),l[i]?=some x→M.run g (fr ++ .int .i64 i :: .agg (bt.row x)::cap) (H++L)=some (.ret (.int .u8 (F i x)),H++L)) (most:Int) :
  M.run kh [.slice tg 4 (l.map bt.row),.int .i64 most,.fn (.func g) fr cap] H=some (.ret (.int .u8 (py most F l)),H):=by
 rw [aY M hf rfl (c:=oI) rfl,oI]
 have hl:=fun k=>MU M (tg:=tg) hs hfw hlw hp (cut_refl H) k l.length 0 (by omega)
 simp only [kv_cons,kv_nil,Int.ofNat_zero,List.drop_zero] at hl
 simp (maxSteps:=3000000) (maxDischargeDepth:=6) +contextual -implicitDefEqProofs only [amA M,amB,↓aj,↓ab,↓al,↓ak,Nat.reduceBEq,Nat.reduceAdd,env,ao,oJ,hl]
 rw [mh,py]
 cases decide (most<(l.length:Int))<;>rfl
theorem KQ{H H0:List ae}{g:Nat}{fr cap:List AV}{F:Nat→aZ→Int}{tg:Tag}{l:List aZ}(hs:l.length≤bD)(hfw:Wk H.length (.fn (.func g) fr cap) (.fn (.func g) fr cap))(hlw:Wk H.length (.slice tg 2 (l.map aZ.row)) (.slice tg 2 (l.map aZ.row)))(hp:∀ (L:List ae) (i:Nat) (x:aZ),l[i]?=some x→M.run g (fr ++ .int .i64 i :: .agg (aZ.row x)::cap) (H++L)=some (.ret (.int .u8 (F i x)),H++L))(hc:dM H0 H)(k:List Fra):∀ (n i:Nat),i+n=l.length →
  M.go cA H0 (.c gj :: .lp ⟨(some [2,14,15,16]),[],true⟩ gj H :: .blk 0 :: .c (.lv [])::k) (kv [(2,.fn (.func g) fr cap),(14,.slice tg 2 (l.map aZ.row)),(15,.int .i64 l.length),(16,.int .i64 i)]) H =
   orE (fJ (xh F) i (l.drop i)) (H.take H0.length) (M.go cA H0 k .leaf H)
 |0,i,h=>by
  have e:i=l.length:=by omega
  subst e
  rw [aw M gj.eq_1]
  simp (maxSteps:=3000000) (maxDischargeDepth:=6) +contextual -implicitDefEqProofs only [amA M,amB,↓aj,↓ab,↓al,↓ak,Nat.reduceBEq,Nat.reduceAdd,env,ao,nb,Nat.lt_irrefl,List.drop_length]
 |n+1,i,h=>by
  have hi:i<l.length:=by omega
  have hx:l[i]?=some l[i]:=List.getElem?_eq_getElem hi
  have hd:(l.drop i)=l[i]::l.drop (i+1):=List.drop_eq_getElem_cons hi
  have hm:l[i]∈l:=List.getElem_mem hi
  have ih:=KQ (H:=H) (H0:=H0) (g:=g) (fr:=fr) (cap:=cap) (F:=F) (tg:=tg) (l:=l) (hs:=hs) (hfw:=hfw) (hlw:=hlw) (hp:=hp) hc k n (i+1)  (by omega)
  simp only [kv_cons,kv_nil] at ih
  have hp:=fun L=>hp L i l[i] hx
  rw [aw M gj.eq_1]
  simp (maxSteps:=3000000) (maxDischargeDepth:=6) +contextual -implicitDefEqProofs only [amA M,amB,↓aj,↓ab,↓al,↓ak,Nat.reduceBEq,Nat.reduceAdd,env,ao,nb,hx,hd,hi,ih,amG,AV.cell,hp,hfw,hlw,c6 hi hs,bo hi,ky,xh,hc]
theorem KR(hf:E.fn jH=some cA){g:Nat}{fr cap:List AV}{F:Nat→aZ→Int}{tg:Tag}{l:List aZ}{H:List ae}(hs:l.length≤bD)(hfw:Wk H.length (.fn (.func g) fr cap) (.fn (.func g) fr cap))(hlw:Wk H.length (.slice tg 2 (l.map aZ.row)) (.slice tg 2 (l.map aZ.row)))
  (hp:∀ (L:List ae) (i:Nat) (x:aZ),l[i]?=some x→M.run g (fr ++ .int .i64 i :: .agg (aZ.row x)::cap) (H++L)=some (.ret (.int .u8 (F i x)),H++L)) (most:Int) :
  M.run jH [.slice tg 2 (l.map aZ.row),.int .i64 most,.fn (.func g) fr cap] H=some (.ret (.int .u8 (py most F l)),H):=by
 rw [aY M hf rfl (c:=na) rfl,na]
 have hl:=fun k=>KQ M (tg:=tg) hs hfw hlw hp (cut_refl H) k l.length 0 (by omega)
 simp only [kv_cons,kv_nil,Int.ofNat_zero,List.drop_zero] at hl
 simp (maxSteps:=3000000) (maxDischargeDepth:=6) +contextual -implicitDefEqProofs only [amA M,amB,↓aj,↓ab,↓al,↓ak,Nat.reduceBEq,Nat.reduceAdd,env,ao,nb,hl]
 rw [mh,py]
 cases decide (most<(l.length:Int))<;>rfl
theorem KS{H H0:List ae}{g:Nat}{fr cap:List AV}{F:Nat→aK→Int}{tg:Tag}{l:List aK}(hs:l.length≤bD)(hfw:Wk H.length (.fn (.func g) fr cap) (.fn (.func g) fr cap))(hlw:Wk H.length (.slice tg 4 (l.map aK.row)) (.slice tg 4 (l.map aK.row)))(hp:∀ (L:List ae) (i:Nat) (x:aK),l[i]?=some x→M.run g (fr ++ .int .i64 i :: .agg (aK.row x)::cap) (H++L)=some (.ret (.int .u8 (F i x)),H++L))(hc:dM H0 H)(k:List Fra):∀ (n i:Nat),i+n=l.length →
  M.go cB H0 (.c gk :: .lp ⟨(some [2,14,15,16]),[],true⟩ gk H :: .blk 0 :: .c (.lv [])::k) (kv [(2,.fn (.func g) fr cap),(14,.slice tg 4 (l.map aK.row)),(15,.int .i64 l.length),(16,.int .i64 i)]) H =
   orE (fJ (xh F) i (l.drop i)) (H.take H0.length) (M.go cB H0 k .leaf H)
 |0,i,h=>by
  have e:i=l.length:=by omega
  subst e
  rw [aw M gk.eq_1]
  simp (maxSteps:=3000000) (maxDischargeDepth:=6) +contextual -implicitDefEqProofs only [amA M,amB,↓aj,↓ab,↓al,↓ak,Nat.reduceBEq,Nat.reduceAdd,env,ao,nf,Nat.lt_irrefl,List.drop_length]
 |n+1,i,h=>by
  have hi:i<l.length:=by omega
  have hx:l[i]?=some l[i]:=List.getElem?_eq_getElem hi
  have hd:(l.drop i)=l[i]::l.drop (i+1):=List.drop_eq_getElem_cons hi
  have hm:l[i]∈l:=List.getElem_mem hi
  have ih:=KS (H:=H) (H0:=H0) (g:=g) (fr:=fr) (cap:=cap) (F:=F) (tg:=tg) (l:=l) (hs:=hs) (hfw:=hfw) (hlw:=hlw) (hp:=hp) hc k n (i+1)  (by omega)
  simp only [kv_cons,kv_nil] at ih
  have hp:=fun L=>hp L i l[i] hx
  rw [aw M gk.eq_1]
  simp (maxSteps:=3000000) (maxDischargeDepth:=6) +contextual -implicitDefEqProofs only [amA M,amB,↓aj,↓ab,↓al,↓ak,Nat.reduceBEq,Nat.reduceAdd,env,ao,nf,hx,hd,hi,ih,amG,AV.cell,hp,hfw,hlw,c6 hi hs,bo hi,gZ,xh,hc]
theorem KT(hf:E.fn jI=some cB){g:Nat}{fr cap:List AV}{F:Nat→aK→Int}{tg:Tag}{l:List aK}{H:List ae}(hs:l.length≤bD)(hfw:Wk H.length (.fn (.func g) fr cap) (.fn (.func g) fr cap))(hlw:Wk H.length (.slice tg 4 (l.map aK.row)) (.slice tg 4 (l.map aK.row)))
  (hp:∀ (L:List ae) (i:Nat) (x:aK),l[i]?=some x→M.run g (fr ++ .int .i64 i :: .agg (aK.row x)::cap) (H++L)=some (.ret (.int .u8 (F i x)),H++L)) (most:Int) :
  M.run jI [.slice tg 4 (l.map aK.row),.int .i64 most,.fn (.func g) fr cap] H=some (.ret (.int .u8 (py most F l)),H):=by
 rw [aY M hf rfl (c:=nd) rfl,nd]
 have hl:=fun k=>KS M (tg:=tg) hs hfw hlw hp (cut_refl H) k l.length 0 (by omega)
 simp only [kv_cons,kv_nil,Int.ofNat_zero,List.drop_zero] at hl
 simp (maxSteps:=3000000) (maxDischargeDepth:=6) +contextual -implicitDefEqProofs only [amA M,amB,↓aj,↓ab,↓al,↓ak,Nat.reduceBEq,Nat.reduceAdd,env,ao,nf,hl]
 rw [mh,py]
 cases decide (most<(l.length:Int))<;>rfl
theorem KU{H H0:List ae}{g:Nat}{fr cap:List AV}{F:Nat→bA→Int}{tg:Tag}{l:List bA}(hs:l.length≤bD)(hfw:Wk H.length (.fn (.func g) fr cap) (.fn (.func g) fr cap))(hlw:Wk H.length (.slice tg 4 (l.map bA.row)) (.slice tg 4 (l.map bA.row)))(hp:∀ (L:List ae) (i:Nat) (x:bA),l[i]?=some x→M.run g (fr ++ .int .i64 i :: .agg (bA.row x)::cap) (H++L)=some (.ret (.int .u8 (F i x)),H++L))(hc:dM H0 H)(k:List Fra):∀ (n i:Nat),i+n=l.length →
  M.go cC H0 (.c gl :: .lp ⟨(some [2,14,15,16]),[],true⟩ gl H :: .blk 0 :: .c (.lv [])::k) (kv [(2,.fn (.func g) fr cap),(14,.slice tg 4 (l.map bA.row)),(15,.int .i64 l.length),(16,.int .i64 i)]) H =
   orE (fJ (xh F) i (l.drop i)) (H.take H0.length) (M.go cC H0 k .leaf H)
 |0,i,h=>by
  have e:i=l.length:=by omega
  subst e
  rw [aw M gl.eq_1]
  simp (maxSteps:=3000000) (maxDischargeDepth:=6) +contextual -implicitDefEqProofs only [amA M,amB,↓aj,↓ab,↓al,↓ak,Nat.reduceBEq,Nat.reduceAdd,env,ao,nh,Nat.lt_irrefl,List.drop_length]
 |n+1,i,h=>by
  have hi:i<l.length:=by omega
  have hx:l[i]?=some l[i]:=List.getElem?_eq_getElem hi
  have hd:(l.drop i)=l[i]::l.drop (i+1):=List.drop_eq_getElem_cons hi
  have hm:l[i]∈l:=List.getElem_mem hi
  have ih:=KU (H:=H) (H0:=H0) (g:=g) (fr:=fr) (cap:=cap) (F:=F) (tg:=tg) (l:=l) (hs:=hs) (hfw:=hfw) (hlw:=hlw) (hp:=hp) hc k n (i+1)  (by omega)
  simp only [kv_cons,kv_nil] at ih
  have hp:=fun L=>hp L i l[i] hx
  rw [aw M gl.eq_1]
  simp (maxSteps:=3000000) (maxDischargeDepth:=6) +contextual -implicitDefEqProofs only [amA M,amB,↓aj,↓ab,↓al,↓ak,Nat.reduceBEq,Nat.reduceAdd,env,ao,nh,hx,hd,hi,ih,amG,AV.cell,hp,hfw,hlw,c6 hi hs,bo hi,yP,xh,hc]
theorem KV(hf:E.fn jJ=some cC){g:Nat}{fr cap:List AV}{F:Nat→bA→Int}{tg:Tag}{l:List bA}{H:List ae}(hs:l.length≤bD)(hfw:Wk H.length (.fn (.func g) fr cap) (.fn (.func g) fr cap))(hlw:Wk H.length (.slice tg 4 (l.map bA.row)) (.slice tg 4 (l.map bA.row)))
  (hp:∀ (L:List ae) (i:Nat) (x:bA),l[i]?=some x→M.run g (fr ++ .int .i64 i :: .agg (bA.row x)::cap) (H++L)=some (.ret (.int .u8 (F i x)),H++L)) (most:Int) :
  M.run jJ [.slice tg 4 (l.map bA.row),.int .i64 most,.fn (.func g) fr cap] H=some (.ret (.int .u8 (py most F l)),H):=by
 rw [aY M hf rfl (c:=ng) rfl,ng]
 have hl:=fun k=>KU M (tg:=tg) hs hfw hlw hp (cut_refl H) k l.length 0 (by omega)
 simp only [kv_cons,kv_nil,Int.ofNat_zero,List.drop_zero] at hl
 simp (maxSteps:=3000000) (maxDischargeDepth:=6) +contextual -implicitDefEqProofs only [amA M,amB,↓aj,↓ab,↓al,↓ak,Nat.reduceBEq,Nat.reduceAdd,env,ao,nh,hl]
 rw [mh,py]
 cases decide (most<(l.length:Int))<;>rfl
theorem MV{H H0:List ae}{g:Nat}{fr cap:List AV}{F:Nat→dt→Int}{tg:Tag}{l:List dt}(hs:l.length≤bD)(hfw:Wk H.length (.fn (.func g) fr cap) (.fn (.func g) fr cap))(hlw:Wk H.length (.slice tg 3 (l.map dt.row)) (.slice tg 3 (l.map dt.row)))(hp:∀ (L:List ae) (i:Nat) (x:dt),l[i]?=some x→M.run g (fr ++ .int .i64 i :: .agg (dt.row x)::cap) (H++L)=some (.ret (.int .u8 (F i x)),H++L))(hc:dM H0 H)(k:List Fra):∀ (n i:Nat),i+n=l.length →
  M.go cQ H0 (.c gR :: .lp ⟨(some [2,14,15,16]),[],true⟩ gR H :: .blk 0 :: .c (.lv [])::k) (kv [(2,.fn (.func g) fr cap),(14,.slice tg 3 (l.map dt.row)),(15,.int .i64 l.length),(16,.int .i64 i)]) H =
   orE (fJ (xh F) i (l.drop i)) (H.take H0.length) (M.go cQ H0 k .leaf H)
 |0,i,h=>by
  have e:i=l.length:=by omega
  subst e
  rw [aw M gR.eq_1]
  simp (maxSteps:=3000000) (maxDischargeDepth:=6) +contextual -implicitDefEqProofs only [amA M,amB,↓aj,↓ab,↓al,↓ak,Nat.reduceBEq,Nat.reduceAdd,env,ao,oD,Nat.lt_irrefl,List.drop_length]
 |n+1,i,h=>by
  have hi:i<l.length:=by omega
  have hx:l[i]?=some l[i]:=List.getElem?_eq_getElem hi
  have hd:(l.drop i)=l[i]::l.drop (i+1):=List.drop_eq_getElem_cons hi
  have hm:l[i]∈l:=List.getElem_mem hi
  have ih:=MV (H:=H) (H0:=H0) (g:=g) (fr:=fr) (cap:=cap) (F:=F) (tg:=tg) (l:=l) (hs:=hs) (hfw:=hfw) (hlw:=hlw) (hp:=hp) hc k n (i+1)  (by omega)
  simp only [kv_cons,kv_nil] at ih
  have hp:=fun L=>hp L i l[i] hx
  rw [aw M gR.eq_1]
  simp (maxSteps:=3000000) (maxDischargeDepth:=6) +contextual -implicitDefEqProofs only [amA M,amB,↓aj,↓ab,↓al,↓ak,Nat.reduceBEq,Nat.reduceAdd,env,ao,oD,hx,hd,hi,ih,amG,AV.cell,hp,hfw,hlw,c6 hi hs,bo hi,z8,xh,hc]
theorem Mh(hf:E.fn kg=some cQ){g:Nat}{fr cap:List AV}{F:Nat→dt→Int}{tg:Tag}{l:List dt}{H:List ae}(hs:l.length≤bD)(hfw:Wk H.length (.fn (.func g) fr cap) (.fn (.func g) fr cap))(hlw:Wk H.length (.slice tg 3 (l.map dt.row)) (.slice tg 3 (l.map dt.row)))
  (hp:∀ (L:List ae) (i:Nat) (x:dt),l[i]?=some x→M.run g (fr ++ .int .i64 i :: .agg (dt.row x)::cap) (H++L)=some (.ret (.int .u8 (F i x)),H++L)) (most:Int) :
  M.run kg [.slice tg 3 (l.map dt.row),.int .i64 most,.fn (.func g) fr cap] H=some (.ret (.int .u8 (py most F l)),H):=by
 rw [aY M hf rfl (c:=oC) rfl,oC]
 have hl:=fun k=>MV M (tg:=tg) hs hfw hlw hp (cut_refl H) k l.length 0 (by omega)
 simp only [kv_cons,kv_nil,Int.ofNat_zero,List.drop_zero] at hl
 simp (maxSteps:=3000000) (maxDischargeDepth:=6) +contextual -implicitDefEqProofs only [amA M,amB,↓aj,↓ab,↓al,↓ak,Nat.reduceBEq,Nat.reduceAdd,env,ao,oD,hl]
 rw [mh,py]
 cases decide (most<(l.length:Int))<;>rfl
end
section
attribute [local congr] aF cu bm aG a7 aR aH aA aC aS aT
variable{E:bC}(M:cT cY E)
structure iV (E:bC):Prop where
 morph_checker_vowels:E.fn jF=some c7
 slices_Index_string_string:E.fn ji=some bN
 slices_Contains_string_string:E.fn dZ=some b9
 morph_checker_trait_1:E.fn iX=some ej
 slices_IndexFunc_api_Trait_api_Trait:E.fn bS=some aO
 slices_ContainsFunc_api_Trait_api_Trait:E.fn dk=some ba
 morph_checker_trait:E.fn kb=some dA
 morph_each_api_Trait:E.fn jG=some cw
 morph_Check_1:E.fn qS=some jl
 morph_checker_class_1:E.fn iY=some ek
 slices_IndexFunc_api_Class_api_Class:E.fn bT=some aP
 slices_ContainsFunc_api_Class_api_Class:E.fn dm=some bb
 morph_short:E.fn iN=some ll
 morph_checker_bundle_1_1:E.fn hZ=some dy
 morph_checker_bundle_1:E.fn iO=some dR
 morph_each_api_Feat:E.fn ki=some cS
 morph_checker_bundle:E.fn fK=some eE
 morph_checker_class_2:E.fn iZ=some en
 morph_each_api_Slot:E.fn kh=some cR
 morph_checker_class:E.fn kd=some fc
 morph_each_api_Class:E.fn jH=some cA
 morph_Check_2:E.fn qT=some jm
 morph_checker_entry_3:E.fn ja=some eu
 slices_IndexFunc_api_Irregular_api_Irregular:E.fn bK=some aE
 slices_ContainsFunc_api_Irregular_api_Irregular:E.fn b7=some aU
 morph_classOf_1:E.fn kK=some ig
 morph_classOf:E.fn fH=some jr
 morph_checker_entry_1:E.fn i6=some eo
 slices_IndexFunc_api_Entry_api_Entry:E.fn cI=some aQ
 slices_ContainsFunc_api_Entry_api_Entry:E.fn dn=some bc
 morph_clash_1_1:E.fn oW=some ik
 slices_IndexFunc_api_Feat_api_Feat:E.fn cV=some aW
 slices_ContainsFunc_api_Feat_api_Feat:E.fn bO=some bj
 morph_clash_1:E.fn qY=some jw
 morph_clash:E.fn yV=some lq
 morph_checker_entry_2:E.fn i7=some ep
 slices_IndexFunc_api_Slot_api_Slot:E.fn cW=some aX
 slices_ContainsFunc_api_Slot_api_Slot:E.fn dK=some bk
 morph_checker_entry:E.fn ke=some dB
 morph_each_api_Entry:E.fn jI=some cB
 morph_Check_3:E.fn qV=some jn
 morph_symbol:E.fn lO=some j0
 morph_around:E.fn pf=some j1
 morph_checker_spell:E.fn kf=some fe
 morph_each_api_Spell:E.fn jJ=some cC
 morph_Check_4:E.fn qW=some jo
 morph_checker_link:E.fn kI=some fx
 morph_each_api_Link:E.fn kg=some cQ
 morph_Check_5:E.fn qX=some jq
 morph_first:E.fn yT=some iP
 morph_Check:E.fn k8=some lf
def eO(e:Int):Option AV:=sel (!(e == 0)) (some (.int .u8 e)) none
theorem JI{α:Type}(F:Nat→α→Int)(i:Nat)(x:α):xh F i x=eO (F i x):=rfl
theorem WX(b:Bool)(e e':Int):eO (sel b e e')=sel b (eO e) (eO e'):=by cases b<;>rfl
theorem qE:(∀ (b:Bool) (e e':Int),eO (slc b e e')=slc b (eO e) (eO e'))∧eO 0=none∧eO 1=some (.int .u8 1)∧eO 3=some (.int .u8 3)∧eO 5=some (.int .u8 5)∧eO 6=some (.int .u8 6)∧eO 7=some (.int .u8 7)∧eO 10=some (.int .u8 10):=
 ⟨WX,rfl,rfl,rfl,rfl,rfl,rfl,rfl⟩
theorem BY{α:Type}(p:α→Bool):∀ (l:List α) (i:Nat),(CW p i l = -1∧l.find? p=none)∨∃ (j:Nat) (x:α),CW p i l=((i+j:Nat):Int)∧l[j]?=some x∧l.find? p=some x
 |[],_=>.inl ⟨rfl,rfl⟩
 |x::l,i=>by
  cases h:p x with
  |true=>exact .inr ⟨0,x,by simp [CW,h,sel],rfl,by simp [h]⟩
  |false=>
   rcases BY p l (i+1) with ⟨h1,h2⟩ | ⟨j,y,h1,h2,h3⟩
   ·exact .inl ⟨by simp [CW,h,sel,h1],by simp [h,h2]⟩
   ·exact .inr ⟨j+1,y,by simp [CW,h,sel,h1];omega,by simpa using h2,by simp [h,h3]⟩
theorem ixs{H H0:List ae}{v:Str}{tg:Tag}{l:List Str}(hs:l.length≤bD)(hc:dM H0 H)(k:List Fra):∀ (n i:Nat) (He:List ae),i+n=l.length →
  M.go bN H0 (.c ei :: .lp ⟨(some [0,1,7,8]),[],false⟩ ei He :: .blk 0 :: .c (.lv [])::k) (kv [(0,.slice tg 1 (l.map k7)),(1,.str v),(7,.int .i64 l.length),(8,.int .i64 i)]) H =
   orE (fJ (CV fun s=>v == s) i (l.drop i)) (H.take H0.length) (M.go bN H0 k .leaf H)
 |0,i,He,h=>by
  have e:i=l.length:=by omega
  subst e
  rw [aw M ei.eq_1]
  simp (maxSteps:=3000000) (maxDischargeDepth:=6) +contextual -implicitDefEqProofs only [amA M,amB,↓aj,↓ab,↓al,↓ak,Nat.reduceBEq,Nat.reduceAdd,env,ao,jt,Nat.lt_irrefl,List.drop_length]
 |n+1,i,He,h=>by
  have hi:i<l.length:=by omega
  have hx:l[i]?=some l[i]:=List.getElem?_eq_getElem hi
  have hd:(l.drop i)=l[i]::l.drop (i+1):=List.drop_eq_getElem_cons hi
  have hm:l[i]∈l:=List.getElem_mem hi
  have ih:=fun He=>ixs (H:=H) (H0:=H0) (v:=v) (tg:=tg) (l:=l) (hs:=hs) hc k n (i+1)  He (by omega)
  simp only [kv_cons,kv_nil] at ih
  rw [aw M ei.eq_1]
  simp (maxSteps:=3000000) (maxDischargeDepth:=6) +contextual -implicitDefEqProofs only [amA M,amB,↓aj,↓ab,↓al,↓ak,Nat.reduceBEq,Nat.reduceAdd,env,ao,jt,hx,hd,hi,ih,c6 hi hs,bo hi,TV,CV,hc]
theorem BZ(hE:iV E){v:Str}{tg:Tag}{l:List Str}(hs:l.length≤bD)(H:List ae):M.run dZ [.slice tg 1 (l.map k7),.str v] H=some (.ret (.bool (l.any fun s=>v == s)),H):=by
 have h1:M.run ji [.slice tg 1 (l.map k7),.str v] H=some (.ret (.int .i64 (CW (fun s=>v == s) 0 l)),H):=by
  rw [aY M hE.slices_Index_string_string rfl (c:=js) rfl,js]
  have hl:=fun k He=>ixs M (tg:=tg) (v:=v) hs (cut_refl H) k l.length 0 He (by omega)
  simp only [kv_cons,kv_nil,Int.ofNat_zero,List.drop_zero] at hl
  simp (maxSteps:=3000000) (maxDischargeDepth:=6) +contextual -implicitDefEqProofs only [amA M,amB,↓aj,↓ab,↓al,↓ak,Nat.reduceBEq,Nat.reduceAdd,env,ao,jt,hl]
  exact pK _ l 0 H
 rw [aY M hE.slices_Contains_string_string rfl (c:=iC) rfl,iC]
 simp (maxSteps:=3000000) (maxDischargeDepth:=6) +contextual -implicitDefEqProofs only [amA M,amB,↓aj,↓ab,↓al,↓ak,Nat.reduceBEq,Nat.reduceAdd,env,ao,s9,h1,vI]
def ku(c:UInt8):Bool:=lC c||((c.toNat:Int) == 43)
def IZ(c:UInt8):Bool:=ku c||((c.toNat:Int) == 35)||((c.toNat:Int) == 86)||((c.toNat:Int) == 67)
theorem KW(hN:dG E)(hE:iV E)(c:UInt8)(H:List ae):M.run lO [.int .u8 c.toNat] H=some (.ret (.bool (ku c)),H):=by
 rw [aY M hE.morph_symbol rfl (c:=wG) rfl,wG]
 simp (maxSteps:=3000000) (maxDischargeDepth:=6) +contextual -implicitDefEqProofs only [amA M,amB,↓aj,↓ab,↓al,↓ak,Nat.reduceBEq,Nat.reduceAdd,env,ao,KG,nD M hN.letter,ku]
theorem QB(hN:dG E)(hE:iV E)(c:UInt8)(H:List ae):M.run pf [.int .u8 c.toNat] H=some (.ret (.bool (IZ c)),H):=by
 rw [aY M hE.morph_around rfl (c:=wH) rfl,wH]
 simp (maxSteps:=3000000) (maxDischargeDepth:=6) +contextual -implicitDefEqProofs only [amA M,amB,↓aj,↓ab,↓al,↓ak,Nat.reduceBEq,Nat.reduceAdd,env,ao,KH,KW M hN hE,IZ,Bool.or_assoc]
def pz(p:UInt8→Bool)(s:Str):Bool:=decide ((s.length:Int)≤6)&&s.all p
theorem A2(hN:dG E)(hE:iV E){g:Nat}{fr cap:List AV}{p:UInt8→Bool}{s:Str}(hs:s.length≤bD){H:List ae}(hp:∀ c:UInt8,M.run g (fr ++ .int .u8 c.toNat::cap) H=some (.ret (.bool (p c)),H)) :
  M.run iN [.str s,.fn (.func g) fr cap] H=some (.ret (.bool (pz p s)),H):=by
 rw [aY M hE.morph_short rfl (c:=zg) rfl,zg]
 simp (maxSteps:=3000000) (maxDischargeDepth:=6) +contextual -implicitDefEqProofs only [amA M,amB,↓aj,↓ab,↓al,↓ak,Nat.reduceBEq,Nat.reduceAdd,env,ao,Mb,JH M hN.all hs hp,pz]
def SL(v:Str):Nat→UInt8→Bool
 |0,c => !lC c
 |i+1,c => !lC c||(match v[i]? with
  |some d=>decide ((c.toNat:Int)≤(d.toNat:Int))
  |none=>false)
theorem MW(v:Str)(c:UInt8):SL v 0 c = !lC c:=rfl
theorem MX{v:Str}{i:Nat}{d:UInt8}(h:v[i]?=some d)(c:UInt8):SL v (i+1) c=(!lC c||decide ((c.toNat:Int)≤(d.toNat:Int))):=by simp only [SL,h]
theorem vow{H H0:List ae}(hN:dG E){v:Str}(hs:v.length≤bD)(hc:dM H0 H)(k:List Fra):∀ (n i:Nat) (He:List ae),i+n=v.length →
  M.go c7 H0 (.c eR :: .lp ⟨(some [3,9,10]),[],false⟩ eR He :: .blk 0 :: .c (.lv [])::k) (kv [(3,.str v),(9,.int .i64 v.length),(10,.int .i64 i)]) H =
   orE (fJ (xh fun i c=>sel (SL v i c) 1 0) i (v.drop i)) (H.take H0.length) (M.go c7 H0 k .leaf H)
 |0,i,He,h=>by
  have e:i=v.length:=by omega
  subst e
  rw [aw M eR.eq_1]
  simp (maxSteps:=3000000) (maxDischargeDepth:=6) +contextual -implicitDefEqProofs only [amA M,amB,↓aj,↓ab,↓al,↓ak,Nat.reduceBEq,Nat.reduceAdd,env,ao,jQ,Nat.lt_irrefl,List.drop_length]
 |n+1,i,He,h=>by
  have hi:i<v.length:=by omega
  have hx:v[i]?=some v[i]:=List.getElem?_eq_getElem hi
  have hd:(v.drop i)=v[i]::v.drop (i+1):=List.drop_eq_getElem_cons hi
  have hm:v[i]∈v:=List.getElem_mem hi
  have ih:=fun He=>vow (H:=H) (H0:=H0) (hN:=hN) (v:=v) (hs:=hs) hc k n (i+1)  He (by omega)
  simp only [kv_cons,kv_nil] at ih
  cases i with
  |zero=>
   rw [aw M eR.eq_1]
   simp (maxSteps:=3000000) (maxDischargeDepth:=6) +contextual -implicitDefEqProofs only [amA M,amB,↓aj,↓ab,↓al,↓ak,Nat.reduceBEq,Nat.reduceAdd,env,ao,jQ,hx,hd,hi,ih,c6 hi hs,nD M hN.letter,hc,JI,qE,MW,(show decide ((0:Int)<((0:Nat):Int))=false from rfl)]
  |succ j=>
   have hj:j<v.length:=by omega
   have hxj:v[j]?=some v[j]:=List.getElem?_eq_getElem hj
   rw [aw M eR.eq_1]
   simp (maxSteps:=3000000) (maxDischargeDepth:=6) +contextual -implicitDefEqProofs only [amA M,amB,↓aj,↓ab,↓al,↓ak,Nat.reduceBEq,Nat.reduceAdd,env,ao,jQ,hx,hd,hi,ih,c6 hi hs,TW (show j+1≤bD by omega),hxj,nD M hN.letter,hc,JI,qE,MX hxj,(show decide ((0:Int)<((j+1:Nat):Int))=true from decide_eq_true (by omega))]
def Ua(l:Lex):Int:=BX (fun i c=>sel (SL l.vowels i c) 1 0) 0 l.vowels
theorem QC(hN:dG E)(hE:iV E){l:Lex}{n:Nat}(hl:l.ok n)(H:List ae):M.run jF [.agg l.row] H=some (.ret (.int .u8 (Ua l)),H):=by
 rw [aY M hE.morph_checker_vowels rfl (c:=mX) rfl,mX]
 have hl:=fun k L He=>vow M hN hl.vowels (cut_app H L) k l.vowels.length 0 He (by omega)
 simp only [kv_cons,kv_nil,Int.ofNat_zero,List.drop_zero] at hl
 simp (maxSteps:=3000000) (maxDischargeDepth:=6) +contextual -implicitDefEqProofs only [amA M,amB,↓aj,↓ab,↓al,↓ak,Nat.reduceBEq,Nat.reduceAdd,env,ao,jQ,hl,cZ,cut_app]
 exact mh _ _ 0 H
end
section
attribute [local congr] aF cu bm aG a7 aR aH aA aC aS aT
variable{E:bC}(M:cT cY E)
theorem O6(hE:iV E)(o t:bG){H:List ae}{q:Nat}{T:TypeId}(hq:H[q]?=some (.cells t.row T)):M.run iX [.agg o.row,.ptr q 0] H=some (.ret (.bool (o.name == t.name)),H):=by
 rw [aY M hE.morph_checker_trait_1 rfl (c:=lY) rfl,lY]
 simp (maxSteps:=3000000) (maxDischargeDepth:=6) +contextual -implicitDefEqProofs only [amA M,amB,↓aj,↓ab,↓al,↓ak,Nat.reduceBEq,Nat.reduceAdd,env,ao,Aq,uL,hq,dj hq]
def WY(t:bG)(k:Nat)(v:Str):Int:=sel (!KM v) 5 (sel ((t.values.l.take k).any fun s=>v == s) 6 0)
theorem trl{H H0:List ae}(hN:dG E)(hE:iV E){t:bG}{n0:Nat}(ht:t.ok n0){p:Nat}{T:TypeId}(hp:H[p]?=some (.cells t.row T))(hc:dM H0 H)(k:List Fra):∀ (n i:Nat) (He:List ae),i+n=(t.values.l).length →
  M.go dA H0 (.c gP :: .lp ⟨(some [5,33,34,35]),[],false⟩ gP He :: .blk 1 :: .c (.lv [])::k) (kv [(5,.ptr p 0),(33,.slice t.values.tag 1 (t.values.l.map k7)),(34,.int .i64 t.values.l.length),(35,.int .i64 i)]) H =
   orE (fJ (xh (WY t)) i (t.values.l.drop i)) (H.take H0.length) (M.go dA H0 k .leaf H)
 |0,i,He,h=>by
  have e:i=(t.values.l).length:=by omega
  subst e
  rw [aw M gP.eq_1]
  simp (maxSteps:=3000000) (maxDischargeDepth:=6) +contextual -implicitDefEqProofs only [amA M,amB,↓aj,↓ab,↓al,↓ak,Nat.reduceBEq,Nat.reduceAdd,env,ao,ow,Nat.lt_irrefl,List.drop_length]
 |n+1,i,He,h=>by
  have hi:i<(t.values.l).length:=by omega
  have hx:(t.values.l)[i]?=some (t.values.l)[i]:=List.getElem?_eq_getElem hi
  have hd:((t.values.l).drop i)=(t.values.l)[i]::(t.values.l).drop (i+1):=List.drop_eq_getElem_cons hi
  have hm:(t.values.l)[i]∈(t.values.l):=List.getElem_mem hi
  have ih:=fun He=>trl (H:=H) (H0:=H0) (hN:=hN) (hE:=hE) (t:=t) (n0:=n0) (ht:=ht) (p:=p) (T:=T) (hp:=hp) hc k n (i+1)  He (by omega)
  simp only [kv_cons,kv_nil] at ih
  rw [aw M gP.eq_1]
  simp (maxSteps:=3000000) (maxDischargeDepth:=6) +contextual -implicitDefEqProofs only [amA M,amB,↓aj,↓ab,↓al,↓ak,Nat.reduceBEq,Nat.reduceAdd,env,ao,ow,hx,hd,hi,ih,c6 hi ht.values.len,bo hi,TV,uL,hp,KN M hN (ht.values.all _ hm),Ky hi,BZ M hE (Du ht.values.len i),hc,JI,WY,qE]
def NZ(l:Lex)(i:Nat)(t:bG):Int:=
 sel (!KM t.name) 5 (sel ((l.traits.l.take i).any fun o=>o.name == t.name) 6 (sel (decide ((8:Int)<(t.values.l.length:Int))) 3 (sel ((t.values.l.length:Int) == 0) 1 (BX (WY t) 0 t.values.l))))
theorem KX{α:Type}(F:Nat→α→Int)(l:List α)(H:List ae):orE (fJ (xh F) 0 l) H (some (.ret (.int .u8 0),H))=some (.ret (.int .u8 (BX F 0 l)),H):=mh F l 0 H
theorem tY(b:Bool)(x y:Int):sel b (AV.int .u8 x) (AV.int .u8 y) = .int .u8 (sel b x y):=by cases b<;>rfl
theorem SM(hN:dG E)(hE:iV E){l:Lex}{t:bG}{n:Nat}(hl:l.ok n)(ht:t.ok n){i:Nat}(hi:i<l.traits.l.length)(H:List ae) :
  M.run kb [.agg l.row,.int .i64 i,.agg t.row] H=some (.ret (.int .u8 (NZ l i t)),H):=by
 rw [aY M hE.morph_checker_trait rfl (c:=ov) rfl,ov]
 have hq:(H++[ae.cells l.row bz,.cells t.row iz])[H.length+1]?=some (.cells t.row iz):=by rw [hp_getk];rfl
 have hcf:=BS M hE.slices_IndexFunc_api_Trait_api_Trait hE.slices_ContainsFunc_api_Trait_api_Trait (g:=iX) (fr:=[]) (cap:=[.ptr (H.length+1) 0]) (p:=fun o=>o.name == t.name) (tg:=.any) (Du hl.traits.len i) (fun x _=>O6 M hE x t hq)
 have hlp:=fun k He=>trl M hN hE ht hq (cut_app H _) k t.values.l.length 0 He (by omega)
 simp only [kv_cons,kv_nil,Int.ofNat_zero,List.drop_zero] at hlp
 simp (maxSteps:=3000000) (maxDischargeDepth:=6) +contextual -implicitDefEqProofs only [amA M,amB,↓aj,↓ab,↓al,↓ak,Nat.reduceBEq,Nat.reduceAdd,env,ao,ow,hlp,hcf,cZ,uL,Ky hi,KN M hN ht.name,cut_app,KX,tY,NZ]
theorem KY(hE:iV E)(t:bG)(f:aq){H:List ae}{q:Nat}{T:TypeId}(hq:H[q]?=some (.cells f.row T)):M.run hZ [.agg t.row,.ptr q 0] H=some (.ret (.bool (t.name == f.name)),H):=by
 rw [aY M hE.morph_checker_bundle_1_1 rfl (c:=j4) rfl,j4]
 simp (maxSteps:=3000000) (maxDischargeDepth:=6) +contextual -implicitDefEqProofs only [amA M,amB,↓aj,↓ab,↓al,↓ak,Nat.reduceBEq,Nat.reduceAdd,env,ao,wI,uL,yE,hq,dj hq]
end
section
attribute [local congr] aF cu bm aG a7 aR aH aA aC aS aT
variable{E:bC}(M:cT cY E)
def KZ{α:Type}(l:List α)(q:α→Bool):Nat→Bool
 |0=>false
 |i+1=>match l[i]? with
  |some g=>q g
  |none=>false
theorem DX{α:Type}{l:List α}{i:Nat}{g:α}(h:l[i]?=some g)(q:α→Bool):KZ l q (i+1)=q g:=by simp only [KZ,h]
theorem XW:decide ((0:Int)<((0:Nat):Int))=false:=rfl
theorem XX(j:Nat):decide ((0:Int)<((j+1:Nat):Int))=true:=decide_eq_true (by omega)
theorem Ub(j:Nat):decide (((j:Nat):Int)<0)=false:=decide_eq_false (by omega)
theorem Xz:decide ((-1:Int)<0)=true:=rfl
def QD(l:Lex)(b:List aq)(i:Nat)(f:aq):Int:=
 match l.traits.l.find? fun t=>t.name == f.name with
 |none=>5
 |some t=>sel (!(t.values.l.any fun s=>f.value == s)) 1 (sel (KZ b (fun g=>g.name == f.name) i) 6 (sel (KZ b (fun g => !(Op.bytesLess g.name f.name||g.name == f.name)) i) 1 0))
theorem N0(hE:iV E){l:Lex}{b:List aq}{tg:Tag}{n:Nat}(hl:l.ok n)(hb:b.length≤bD){i:Nat}{f:aq}(hf:b[i]?=some f){H:List ae}{p q:Nat}{T T2:TypeId}
  (hp:H[p]?=some (.cells l.row T)) (hq:H[q]?=some (.cells [.slice tg 2 (b.map aq.row)] T2)) :
  M.run iO [.int .i64 i,.agg f.row,.ptr p 0,.ptr q 0] H=some (.ret (.int .u8 (QD l b i f)),H):=by
 rw [aY M hE.morph_checker_bundle_1 rfl (c:=lr) rfl,lr]
 have hi:i<b.length:=(List.getElem?_eq_some_iff.1 hf).1
 have hr:(H++[ae.cells f.row a6])[H.length]?=some (.cells f.row a6):=by rw [dX];rfl
 have hp':=fun L=>dj (L:=L) hp
 have hq':=fun L=>dj (L:=L) hq
 have hcf:=vn M hE.slices_IndexFunc_api_Trait_api_Trait (g:=hZ) (fr:=[]) (cap:=[.ptr H.length 0]) (p:=fun t=>t.name == f.name) (tg:=l.traits.tag) hl.traits.len (fun x _=>KY M hE x f hr)
 rcases BY (fun t:bG=>t.name == f.name) l.traits.l 0 with ⟨h1,h2⟩ | ⟨j,t,h1,h2,h3⟩
 ·rw [h1] at hcf
  simp (maxSteps:=3000000) (maxDischargeDepth:=6) +contextual -implicitDefEqProofs only [amA M,amB,↓aj,↓ab,↓al,↓ak,Nat.reduceBEq,Nat.reduceAdd,env,ao,lu,hcf,cZ,yE,hp',hq',QD,h2,Xz]
 ·rw [h1,Nat.zero_add] at hcf
  have hj:j<l.traits.l.length:=(List.getElem?_eq_some_iff.1 h2).1
  have hm:t∈l.traits.l:=List.mem_of_getElem? h2
  cases i with
  |zero=>
   simp (maxSteps:=3000000) (maxDischargeDepth:=6) +contextual -implicitDefEqProofs only [amA M,amB,↓aj,↓ab,↓al,↓ak,Nat.reduceBEq,Nat.reduceAdd,env,ao,lu,hcf,cZ,yE,uL,hp',hq',QD,h2,h3,Ub,XW,KZ,bo hj,BZ M hE (hl.traits.all t hm).values.len,tY]
  |succ i=>
   have hx:b[i]?=some b[i]:=List.getElem?_eq_getElem (by omega)
   simp (maxSteps:=3000000) (maxDischargeDepth:=6) +contextual -implicitDefEqProofs only [amA M,amB,↓aj,↓ab,↓al,↓ak,Nat.reduceBEq,Nat.reduceAdd,env,ao,lu,hcf,cZ,yE,uL,hp',hq',QD,h2,h3,Ub,XX,DX hx,hx,hf,bo hj,bo (show i<b.length by omega),TW (show i+1≤bD by omega),BZ M hE (hl.traits.all t hm).values.len,tY]
end
section
attribute [local congr] aF cu bm aG a7 aR aH aA aC aS aT
variable{E:bC}(M:cT cY E)
theorem VE{b:Sl aq}{n m:Nat}(h:b.ok n (aq.ok n))(hm:n≤m):Wk m (.slice b.tag 2 (b.l.map aq.row)) (.slice b.tag 2 (b.l.map aq.row)):=
 (h.mono hm (fun _ h=>h)).wk (fun _ h=>(h.mono hm).wk)
def vJ(l:Lex)(b:List aq):Int:=py 8 (QD l b) b
theorem F5(hE:iV E){l:Lex}{b:Sl aq}{n:Nat}(hl:l.ok n)(hb:b.ok n (aq.ok n)){H:List ae}(hn:n≤H.length) :
  M.run fK [.agg l.row,.slice b.tag 2 (b.l.map aq.row)] H=some (.ret (.int .u8 (vJ l b.l)),H):=by
 rw [aY M hE.morph_checker_bundle rfl (c:=nj) rfl,nj]
 have he:=Mf M hE.morph_each_api_Feat (g:=iO) (fr:=[]) (cap:=[.ptr H.length 0,.ptr (H.length+1) 0]) (F:=QD l b.l) (tg:=b.tag) (l:=b.l) (H:=H++[.cells l.row bz,.cells [.slice b.tag 2 (b.l.map aq.row)] dH]) hb.len
  (wk_fn trivial ⟨wk_ptr (by simp),wk_ptr (by simp),trivial⟩) (VE hb (by simp;omega))
  (fun L i x hx=>N0 M hE hl hb.len hx (T:=bz) (T2:=dH) (by rw [List.append_assoc,dX];rfl) (by rw [List.append_assoc,hp_getk];rfl))
 simp (maxSteps:=3000000) (maxDischargeDepth:=6) +contextual -implicitDefEqProofs only [amA M,amB,↓aj,↓ab,↓al,↓ak,Nat.reduceBEq,Nat.reduceAdd,env,ao,BE,he 8,cZ,vJ]
theorem O7(hE:iV E)(o t:aZ){H:List ae}{q:Nat}{T:TypeId}(hq:H[q]?=some (.cells t.row T)):M.run iY [.agg o.row,.ptr q 0] H=some (.ret (.bool (o.name == t.name)),H):=by
 rw [aY M hE.morph_checker_class_1 rfl (c:=lZ) rfl,lZ]
 simp (maxSteps:=3000000) (maxDischargeDepth:=6) +contextual -implicitDefEqProofs only [amA M,amB,↓aj,↓ab,↓al,↓ak,Nat.reduceBEq,Nat.reduceAdd,env,ao,Ar,ky,hq,dj hq]
def I0(l:Lex)(s:bt):Int:=
 sel (decide (s.cut<0)||decide (24<s.cut) || !pz lC s.pre || !pz lC s.add) 1 (vJ l s.feats.l)
theorem O8(hN:dG E)(hE:iV E){l:Lex}{s:bt}{n:Nat}(hl:l.ok n)(hs:s.ok n){H:List ae}(hn:n≤H.length){p:Nat}{T:TypeId}(hp:H[p]?=some (.cells l.row T))(i:Int) :
  M.run iZ [.int .i64 i,.agg s.row,.ptr p 0] H=some (.ret (.int .u8 (I0 l s)),H):=by
 rw [aY M hE.morph_checker_class_2 rfl (c:=l3) rfl,l3]
 have hp':=fun L=>dj (L:=L) hp
 have h1:=fun (H:List ae)=>A2 M hN hE (g:=cH) (fr:=[]) (cap:=[]) hs.pre (fun c=>nD M hN.letter c H)
 have h2:=fun (H:List ae)=>A2 M hN hE (g:=cH) (fr:=[]) (cap:=[]) hs.add (fun c=>nD M hN.letter c H)
 simp (maxSteps:=3000000) (maxDischargeDepth:=6) +contextual -implicitDefEqProofs only [amA M,amB,↓aj,↓ab,↓al,↓ak,Nat.reduceBEq,Nat.reduceAdd,env,ao,As,h1,h2,hp',jz,cZ,hn,F5 M hE hl hs.feats,I0,tY,Bool.or_assoc]
def F6(l:Lex)(i:Nat)(c:aZ):Int:=
 sel (!KM c.name) 5 (sel ((l.classes.l.take i).any fun o=>o.name == c.name) 6 (sel (decide ((24:Int)<(c.slots.l.length:Int))) 3 (sel ((c.slots.l.length:Int) == 0) 1 (py 24 (fun _ s=>I0 l s) c.slots.l))))
theorem SN(hN:dG E)(hE:iV E){l:Lex}{c:aZ}{n:Nat}(hl:l.ok n)(hc:c.ok n){i:Nat}(hi:i<l.classes.l.length){H:List ae}(hn:n≤H.length) :
  M.run kd [.agg l.row,.int .i64 i,.agg c.row] H=some (.ret (.int .u8 (F6 l i c)),H):=by
 rw [aY M hE.morph_checker_class rfl (c:=oz) rfl,oz]
 have hq:(H++[ae.cells l.row bz,.cells c.row cr])[H.length+1]?=some (.cells c.row cr):=by rw [hp_getk];rfl
 have hcf:=BU M hE.slices_IndexFunc_api_Class_api_Class hE.slices_ContainsFunc_api_Class_api_Class (g:=iY) (fr:=[]) (cap:=[.ptr (H.length+1) 0]) (p:=fun o=>o.name == c.name) (tg:=.any) (Du hl.classes.len i) (fun x _=>O7 M hE x c hq)
 have he:=Mg M hE.morph_each_api_Slot (g:=iZ) (fr:=[]) (cap:=[.ptr H.length 0]) (F:=fun _ s=>I0 l s) (tg:=c.slots.tag) (l:=c.slots.l) (H:=H++[.cells l.row bz,.cells c.row cr]) hc.slots.len
  (wk_fn trivial ⟨wk_ptr (by simp),trivial⟩) ((hc.slots.mono (by simp;omega) (fun _ h=>h)).wk (fun _ h=>(h.mono (by simp;omega)).wk))
  (fun L i x hx=>O8 M hN hE hl (hc.slots.all x (List.mem_of_getElem? hx)) (by simp;omega) (T:=bz) (by rw [List.append_assoc,dX];rfl) i)
 simp (maxSteps:=3000000) (maxDischargeDepth:=6) +contextual -implicitDefEqProofs only [amA M,amB,↓aj,↓ab,↓al,↓ak,Nat.reduceBEq,Nat.reduceAdd,env,ao,CE,hcf,he 24,cZ,ky,Ky hi,KN M hN hc.name,cut_app,tY,F6]
end
section
attribute [local congr] aF cu bm aG a7 aR aH aA aC aS aT
variable{E:bC}(M:cT cY E)
theorem Fz(hE:iV E)(o:aZ)(s:Str){H:List ae}{q:Nat}{T:TypeId}(hq:H[q]?=some (.cells [.str s] T)):M.run kK [.agg o.row,.ptr q 0] H=some (.ret (.bool (o.name == s)),H):=by
 rw [aY M hE.morph_classOf_1 rfl (c:=sm) rfl,sm]
 simp (maxSteps:=3000000) (maxDischargeDepth:=6) +contextual -implicitDefEqProofs only [amA M,amB,↓aj,↓ab,↓al,↓ak,Nat.reduceBEq,Nat.reduceAdd,env,ao,G3,ky,hq,dj hq]
def Cq(l:Lex)(s:Str):Option aZ:=l.classes.l.find? fun c=>c.name == s
def yH:aZ:=⟨[],⟨.nil,[]⟩⟩
theorem kW:[AV.str [],.slice .nil 4 []]=yH.row:=rfl
theorem tM(hE:iV E){l:Lex}{s:Str}{n:Nat}(hl:l.ok n)(hf:Cq l s=none)(H:List ae) :
  M.run fH [.agg l.row,.str s] H=some (.ret (.tuple [.agg yH.row,.bool false]),H):=by
 rw [aY M hE.morph_classOf rfl (c:=nJ) rfl,nJ]
 have hcf:=qc M hE.slices_IndexFunc_api_Class_api_Class (g:=kK) (fr:=[]) (cap:=[.ptr (H.length+1) 0]) (p:=fun c=>c.name == s) (tg:=l.classes.tag) hl.classes.len
  (H:=H++[.cells l.row az,.cells [.str s] bB,.cells yH.row cr]) (fun x _=>Fz M hE x s (T:=bB) (by rw [hp_getk];rfl))
 rcases BY (fun c:aZ=>c.name == s) l.classes.l 0 with ⟨h1,h2⟩ | ⟨j,t,h1,h2,h3⟩
 ·rw [h1] at hcf
  simp (maxSteps:=3000000) (maxDischargeDepth:=6) +contextual -implicitDefEqProofs only [amA M,amB,↓aj,↓ab,↓al,↓ak,Nat.reduceBEq,Nat.reduceAdd,env,ao,Cc,amG,AV.cell,Nat.reduceMul,Nat.reduceLeDiff,kW,hcf,cZ,ky,Xz,pQ,(show WkL H.length yH.row yH.row from ⟨wk_str _ _,wk_slice trivial (k6 _),trivial⟩)]
 ·exact absurd (hf.symm.trans h3) (by simp)
theorem pL(hE:iV E){l:Lex}{s:Str}{n:Nat}(hl:l.ok n){c:aZ}(hf:Cq l s=some c){H:List ae}(hn:n≤H.length) :
  M.run fH [.agg l.row,.str s] H=some (.ret (.tuple [.agg c.row,.bool true]),H):=by
 rw [aY M hE.morph_classOf rfl (c:=nJ) rfl,nJ]
 have hcf:=qc M hE.slices_IndexFunc_api_Class_api_Class (g:=kK) (fr:=[]) (cap:=[.ptr (H.length+1) 0]) (p:=fun c=>c.name == s) (tg:=l.classes.tag) hl.classes.len
  (H:=H++[.cells l.row az,.cells [.str s] bB,.cells yH.row cr]) (fun x _=>Fz M hE x s (T:=bB) (by rw [hp_getk];rfl))
 rcases BY (fun c:aZ=>c.name == s) l.classes.l 0 with ⟨h1,h2⟩ | ⟨j,t,h1,h2,h3⟩
 ·exact absurd (hf.symm.trans h2) (by simp)
 ·obtain rfl:c=t:=by have:=hf.symm.trans h3;simpa using this
  rw [h1,Nat.zero_add] at hcf
  have hj:j<l.classes.l.length:=(List.getElem?_eq_some_iff.1 h2).1
  have hw:WkL H.length c.row c.row:=((hl.classes.all c (List.mem_of_getElem? h2)).mono hn).wk
  simp (maxSteps:=3000000) (maxDischargeDepth:=6) +contextual -implicitDefEqProofs only [amA M,amB,↓aj,↓ab,↓al,↓ak,Nat.reduceBEq,Nat.reduceAdd,env,ao,Cc,amG,AV.cell,Nat.reduceMul,Nat.reduceLeDiff,kW,hcf,cZ,ky,Ub,bo hj,h2,hw]
end
section
attribute [local congr] aF cu bm aG a7 aR aH aA aC aS aT
variable{E:bC}(M:cT cY E)
def jS(f g:aq):Bool:=f.name == g.name && !(f.value == g.value)
def lD(a b:List aq):Bool:=a.any fun f=>b.any fun g=>jS f g
theorem Mi(hE:iV E)(g f:aq){H:List ae}{q:Nat}{T:TypeId}(hq:H[q]?=some (.cells f.row T)):M.run oW [.agg g.row,.ptr q 0] H=some (.ret (.bool (jS f g)),H):=by
 rw [aY M hE.morph_clash_1_1 rfl (c:=sq) rfl,sq]
 simp (maxSteps:=3000000) (maxDischargeDepth:=6) +contextual -implicitDefEqProofs only [amA M,amB,↓aj,↓ab,↓al,↓ak,Nat.reduceBEq,Nat.reduceAdd,env,ao,G6,yE,hq,dj hq,jS]
theorem O9(hE:iV E)(f:aq){b:Sl aq}{n:Nat}(hb:b.l.length≤bD){H:List ae}{q:Nat}{T:TypeId}(hq:H[q]?=some (.cells [.slice b.tag 2 (b.l.map aq.row)] T)) :
  M.run qY [.agg f.row,.ptr q 0] H=some (.ret (.bool (b.l.any fun g=>jS f g)),H):=by
 rw [aY M hE.morph_clash_1 rfl (c:=u7) rfl,u7]
 have hcf:=oT M hE.slices_IndexFunc_api_Feat_api_Feat hE.slices_ContainsFunc_api_Feat_api_Feat (g:=oW) (fr:=[]) (cap:=[.ptr H.length 0]) (p:=fun g=>jS f g) (tg:=b.tag) hb (H:=H++[.cells f.row a6]) (fun x _=>Mi M hE x f (T:=a6) (by rw [dX];rfl))
 simp (maxSteps:=3000000) (maxDischargeDepth:=6) +contextual -implicitDefEqProofs only [amA M,amB,↓aj,↓ab,↓al,↓ak,Nat.reduceBEq,Nat.reduceAdd,env,ao,Jp,hcf,yE,dj hq]
theorem SO(hE:iV E){a b:Sl aq}(ha:a.l.length≤bD)(hb:b.l.length≤bD)(H:List ae) :
  M.run yV [.slice a.tag 2 (a.l.map aq.row),.slice b.tag 2 (b.l.map aq.row)] H=some (.ret (.bool (lD a.l b.l)),H):=by
 rw [aY M hE.morph_clash rfl (c:=zi) rfl,zi]
 have hcf:=oT M hE.slices_IndexFunc_api_Feat_api_Feat hE.slices_ContainsFunc_api_Feat_api_Feat (g:=qY) (fr:=[]) (cap:=[.ptr H.length 0]) (p:=fun f=>b.l.any fun g=>jS f g) (tg:=a.tag) ha (H:=H++[.cells [.slice b.tag 2 (b.l.map aq.row)] dH]) (fun x _=>O9 M hE x (n:=0) hb (T:=dH) (by rw [dX];rfl))
 simp (maxSteps:=3000000) (maxDischargeDepth:=6) +contextual -implicitDefEqProofs only [amA M,amB,↓aj,↓ab,↓al,↓ak,Nat.reduceBEq,Nat.reduceAdd,env,ao,Mc,hcf,lD]
theorem Pa(hE:iV E)(o x:aK){H:List ae}{q:Nat}{T:TypeId}(hq:H[q]?=some (.cells x.row T)):M.run i6 [.agg o.row,.ptr q 0] H=some (.ret (.bool (o.lem == x.lem&&o.cls == x.cls)),H):=by
 rw [aY M hE.morph_checker_entry_1 rfl (c:=l4) rfl,l4]
 simp (maxSteps:=3000000) (maxDischargeDepth:=6) +contextual -implicitDefEqProofs only [amA M,amB,↓aj,↓ab,↓al,↓ak,Nat.reduceBEq,Nat.reduceAdd,env,ao,Au,gZ,hq,dj hq]
theorem Pb(hE:iV E){s:bt}{x:aK}{n m:Nat}(hs:s.ok n)(hx:x.ok m){H:List ae}{q:Nat}{T:TypeId}(hq:H[q]?=some (.cells x.row T)):M.run i7 [.agg s.row,.ptr q 0] H=some (.ret (.bool (lD x.feats.l s.feats.l)),H):=by
 rw [aY M hE.morph_checker_entry_2 rfl (c:=l5) rfl,l5]
 simp (maxSteps:=3000000) (maxDischargeDepth:=6) +contextual -implicitDefEqProofs only [amA M,amB,↓aj,↓ab,↓al,↓ak,Nat.reduceBEq,Nat.reduceAdd,env,ao,Av,gZ,jz,hq,dj hq,SO M hE hx.feats.len hs.feats.len]
theorem Pc(hE:iV E)(o x:bX){H:List ae}{q:Nat}{T:TypeId}(hq:H[q]?=some (.cells x.row T)):M.run ja [.agg o.row,.ptr q 0] H=some (.ret (.bool (o.slot == x.slot)),H):=by
 rw [aY M hE.morph_checker_entry_3 rfl (c:=l6) rfl,l6]
 simp (maxSteps:=3000000) (maxDischargeDepth:=6) +contextual -implicitDefEqProofs only [amA M,amB,↓aj,↓ab,↓al,↓ak,Nat.reduceBEq,Nat.reduceAdd,env,ao,Aw,HR,hq,dj hq]
def MY(n:Nat)(l:List bX)(k:Nat)(f:bX):Int:=
 sel (decide (f.slot<0)||decide ((n:Int)≤f.slot)) 7 (sel ((l.take k).any fun o=>o.slot == f.slot) 6 (sel (!(f.word == []) && !zp f.word) 1 0))
theorem enl{H H0:List ae}(hN:dG E)(hE:iV E){x:aK}{c:aZ}{n0:Nat}(hx0:x.ok n0)(hn:n0≤H.length){p q:Nat}{T T2:TypeId}(hp:H[p]?=some (.cells x.row T))(hq:H[q]?=some (.cells c.row T2))(hc:dM H0 H)(k:List Fra):∀ (n i:Nat),i+n=(x.forms.l).length →
  M.go dB H0 (.c gQ :: .lp ⟨(some [5,7,48,49,50]),[],true⟩ gQ H :: .blk 1 :: .c (.lv [])::k) (kv [(5,.ptr p 0),(7,.ptr q 0),(48,.slice x.forms.tag 2 (x.forms.l.map bX.row)),(49,.int .i64 x.forms.l.length),(50,.int .i64 i)]) H =
   orE (fJ (xh (MY c.slots.l.length x.forms.l)) i (x.forms.l.drop i)) (H.take H0.length) (M.go dB H0 k .leaf H)
 |0,i,h=>by
  have e:i=(x.forms.l).length:=by omega
  subst e
  rw [aw M gQ.eq_1]
  simp (maxSteps:=3000000) (maxDischargeDepth:=6) +contextual -implicitDefEqProofs only [amA M,amB,↓aj,↓ab,↓al,↓ak,Nat.reduceBEq,Nat.reduceAdd,env,ao,kj,Nat.lt_irrefl,List.drop_length]
 |n+1,i,h=>by
  have hi:i<(x.forms.l).length:=by omega
  have hx:(x.forms.l)[i]?=some (x.forms.l)[i]:=List.getElem?_eq_getElem hi
  have hd:((x.forms.l).drop i)=(x.forms.l)[i]::(x.forms.l).drop (i+1):=List.drop_eq_getElem_cons hi
  have hm:(x.forms.l)[i]∈(x.forms.l):=List.getElem_mem hi
  have ih:=enl (H:=H) (H0:=H0) (hN:=hN) (hE:=hE) (x:=x) (c:=c) (n0:=n0) (hx0:=hx0) (hn:=hn) (p:=p) (q:=q) (T:=T) (T2:=T2) (hp:=hp) (hq:=hq) hc k n (i+1)  (by omega)
  simp only [kv_cons,kv_nil] at ih
  have hp':=fun L=>dj (L:=L) hp
  have hq':=fun L=>dj (L:=L) hq
  have w1:Wk H.length (.ptr p 0) (.ptr p 0):=wk_ptr (List.getElem?_eq_some_iff.1 hp).1
  have w2:Wk H.length (.ptr q 0) (.ptr q 0):=wk_ptr (List.getElem?_eq_some_iff.1 hq).1
  have w3:Wk H.length (.slice x.forms.tag 2 (x.forms.l.map bX.row)) (.slice x.forms.tag 2 (x.forms.l.map bX.row)):=(hx0.forms.mono hn (fun _ h=>h.mono hn)).wk (fun _ h=>h.wk)
  have hcf:=BV M hE.slices_IndexFunc_api_Irregular_api_Irregular hE.slices_ContainsFunc_api_Irregular_api_Irregular (g:=ja) (fr:=[]) (cap:=[.ptr H.length 0]) (p:=fun o=>o.slot == x.forms.l[i].slot) (tg:=.any) (Du hx0.forms.len i) (H:=H++[.cells x.forms.l[i].row eL]) (fun o _=>Pc M hE o _ (T:=eL) (by rw [dX];rfl))
  rw [aw M gQ.eq_1]
  simp (maxSteps:=3000000) (maxDischargeDepth:=6) +contextual -implicitDefEqProofs only [amA M,amB,↓aj,↓ab,↓al,↓ak,Nat.reduceBEq,Nat.reduceAdd,env,ao,kj,hx,hd,hi,ih,amG,AV.cell,hp',hq',w1,w2,w3,hcf,c6 hi hx0.forms.len,bo hi,HR,gZ,ky,Ij M hN (hx0.forms.all _ hm).word,Ky hi,hc,JI,MY,qE]
end
section
attribute [local congr] aF cu bm aG a7 aR aH aA aC aS aT
variable{E:bC}(M:cT cY E)
def Ik(l:Lex)(i:Nat)(x:aK):Int:=
 match Cq l x.cls with
 |none=>sel (!zp x.lem) 1 5
 |some c=>sel (!zp x.lem) 1 (sel ((l.entries.l.take i).any fun o=>o.lem == x.lem&&o.cls == x.cls) 6 (sel (!(vJ l x.feats.l == 0)) (vJ l x.feats.l)
   (sel (c.slots.l.any fun s=>lD x.feats.l s.feats.l) 10 (BX (MY c.slots.l.length x.forms.l) 0 x.forms.l))))
theorem SP(hN:dG E)(hE:iV E){l:Lex}{x:aK}{n:Nat}(hl:l.ok n)(hx:x.ok n){i:Nat}(hi:i<l.entries.l.length){H:List ae}(hn:n≤H.length) :
  M.run ke [.agg l.row,.int .i64 i,.agg x.row] H=some (.ret (.int .u8 (Ik l i x)),H):=by
 rw [aY M hE.morph_checker_entry rfl (c:=oA) rfl,oA]
 cases hc:Cq l x.cls with
 |none=>
  have h1:=fun H=>tM M hE hl hc H
  simp (maxSteps:=3000000) (maxDischargeDepth:=6) +contextual -implicitDefEqProofs only [amA M,amB,↓aj,↓ab,↓al,↓ak,Nat.reduceBEq,Nat.reduceAdd,env,ao,kj,amG,AV.cell,Nat.reduceMul,Nat.reduceLeDiff,h1,cZ,gZ,ky,kW,Ij M hN hx.lem,Ik,hc,tY]
 |some c=>
  have hcm:c∈l.classes.l:=List.mem_of_find?_eq_some hc
  have hco:=hl.classes.all c hcm
  have h2:=BW M hE.slices_IndexFunc_api_Entry_api_Entry hE.slices_ContainsFunc_api_Entry_api_Entry (g:=i6) (fr:=[]) (cap:=[.ptr (H.length+1) 0]) (p:=fun o=>o.lem == x.lem&&o.cls == x.cls) (tg:=.any) (Du hl.entries.len i) (H:=H++[.cells l.row bz,.cells x.row ec,.cells c.row cr]) (fun o _=>Pa M hE o x (T:=ec) (by rw [hp_getk];rfl))
  have h3:=CX M hE.slices_IndexFunc_api_Slot_api_Slot hE.slices_ContainsFunc_api_Slot_api_Slot (g:=i7) (fr:=[]) (cap:=[.ptr (H.length+1) 0]) (p:=fun s=>lD x.feats.l s.feats.l) (tg:=c.slots.tag) hco.slots.len (H:=H++[.cells l.row bz,.cells x.row ec,.cells c.row cr]) (fun s hs=>Pb M hE (hco.slots.all s hs) hx (T:=ec) (by rw [hp_getk];rfl))
  have h4:=fun k=>enl M hN hE (H:=H++[.cells l.row bz,.cells x.row ec,.cells c.row cr]) (H0:=H) hx (by simp;omega) (c:=c) (p:=H.length+1) (q:=H.length+2) (T:=ec) (T2:=cr) (by rw [hp_getk];rfl) (by rw [hp_getk];rfl) (cut_app H _) k x.forms.l.length 0 (by omega)
  simp only [kv_cons,kv_nil,Int.ofNat_zero,List.drop_zero] at h4
  simp (maxSteps:=3000000) (maxDischargeDepth:=6) +contextual -implicitDefEqProofs only [amA M,amB,↓aj,↓ab,↓al,↓ak,Nat.reduceBEq,Nat.reduceAdd,env,ao,kj,amG,AV.cell,Nat.reduceMul,Nat.reduceLeDiff,pL M hE hl hc,hn,h2,h3,h4,cZ,gZ,ky,Ij M hN hx.lem,F5 M hE hl hx.feats,Ky hi,Ik,hc,tY,KX]
def B1(x:bA):Int:=
 sel (x.frm == [] || !pz ku x.frm || !pz ku x.to || !pz IZ x.left || !pz IZ x.right) 1 0
theorem Pd(hN:dG E)(hE:iV E){l:Lex}{x:bA}{n:Nat}(hx:x.ok n)(i:Int)(H:List ae) :
  M.run kf [.agg l.row,.int .i64 i,.agg x.row] H=some (.ret (.int .u8 (B1 x)),H):=by
 rw [aY M hE.morph_checker_spell rfl (c:=oB) rfl,oB]
 have h1:=fun (H:List ae) (s:Str) hs=>A2 M hN hE (g:=lO) (fr:=[]) (cap:=[]) (s:=s) hs (fun c=>KW M hN hE c H)
 have h2:=fun (H:List ae) (s:Str) hs=>A2 M hN hE (g:=pf) (fr:=[]) (cap:=[]) (s:=s) hs (fun c=>QB M hN hE c H)
 simp (maxSteps:=3000000) (maxDischargeDepth:=6) +contextual -implicitDefEqProofs only [amA M,amB,↓aj,↓ab,↓al,↓ak,Nat.reduceBEq,Nat.reduceAdd,env,ao,CF,h1,h2,hx.frm,hx.to,hx.left,hx.right,cZ,yP,B1,tY,Bool.or_assoc]
def K5(l:Lex)(x:dt):Int:=
 match Cq l x.cls with
 |none=>5
 |some _=>sel (!pz lC x.glue) 1 (vJ l x.feats.l)
theorem QE(hN:dG E)(hE:iV E){l:Lex}{x:dt}{n:Nat}(hl:l.ok n)(hx:x.ok n)(i:Int){H:List ae}(hn:n≤H.length) :
  M.run kI [.agg l.row,.int .i64 i,.agg x.row] H=some (.ret (.int .u8 (K5 l x)),H):=by
 rw [aY M hE.morph_checker_link rfl (c:=pn) rfl,pn]
 have h1:=fun (H:List ae)=>A2 M hN hE (g:=cH) (fr:=[]) (cap:=[]) hx.glue (fun c=>nD M hN.letter c H)
 cases hc:Cq l x.cls with
 |none=>
  have h2:=fun H=>tM M hE hl hc H
  simp (maxSteps:=3000000) (maxDischargeDepth:=6) +contextual -implicitDefEqProofs only [amA M,amB,↓aj,↓ab,↓al,↓ak,Nat.reduceBEq,Nat.reduceAdd,env,ao,um,amG,AV.cell,Nat.reduceMul,Nat.reduceLeDiff,h2,cZ,z8,ky,kW,K5,hc,tY]
 |some c=>
  simp (maxSteps:=3000000) (maxDischargeDepth:=6) +contextual -implicitDefEqProofs only [amA M,amB,↓aj,↓ab,↓al,↓ak,Nat.reduceBEq,Nat.reduceAdd,env,ao,um,amG,AV.cell,Nat.reduceMul,Nat.reduceLeDiff,pL M hE hl hc,hn,h1,cZ,z8,ky,F5 M hE hl hx.feats,K5,hc,tY]
end
section
attribute [local congr] aF cu bm aG a7 aR aH aA aC aS aT
variable{E:bC}(M:cT cY E)
def K6(l:Lex):Int:=py 8 (NZ l) l.traits.l
theorem Pe(hN:dG E)(hE:iV E){l:Lex}{n:Nat}(hl:l.ok n){H:List ae}(hn:n≤H.length){p q:Nat}{T T2:TypeId}(hp:H[p]?=some (.cells l.row T))(hq:H[q]?=some (.cells l.row T2)) :
  M.run qS [.ptr p 0,.ptr q 0] H=some (.ret (.int .u8 (K6 l)),H):=by
 rw [aY M hE.morph_Check_1 rfl (c:=uZ) rfl,uZ]
 have he:=KP M hE.morph_each_api_Trait (g:=kb) (fr:=[.agg l.row]) (cap:=[]) (F:=NZ l) (tg:=l.traits.tag) (l:=l.traits.l) (H:=H) hl.traits.len
  (wk_fn ⟨wk_agg (hl.mono hn).wk,trivial⟩ trivial) ((hl.traits.mono hn (fun _ h=>h.mono hn)).wk (fun _ h=>h.wk))
  (fun L i x hx=>SM M hN hE hl (hl.traits.all x (List.mem_of_getElem? hx)) (List.getElem?_eq_some_iff.1 hx).1 _)
 simp (maxSteps:=3000000) (maxDischargeDepth:=6) +contextual -implicitDefEqProofs only [amA M,amB,↓aj,↓ab,↓al,↓ak,Nat.reduceBEq,Nat.reduceAdd,env,ao,Jh,he 8,cZ,hp,hq,K6]
def F7(l:Lex):Int:=py 16 (F6 l) l.classes.l
theorem Pf(hN:dG E)(hE:iV E){l:Lex}{n:Nat}(hl:l.ok n){H:List ae}(hn:n≤H.length){p q:Nat}{T T2:TypeId}(hp:H[p]?=some (.cells l.row T))(hq:H[q]?=some (.cells l.row T2)) :
  M.run qT [.ptr p 0,.ptr q 0] H=some (.ret (.int .u8 (F7 l)),H):=by
 rw [aY M hE.morph_Check_2 rfl (c:=u0) rfl,u0]
 have he:=KR M hE.morph_each_api_Class (g:=kd) (fr:=[.agg l.row]) (cap:=[]) (F:=F6 l) (tg:=l.classes.tag) (l:=l.classes.l) (H:=H) hl.classes.len
  (wk_fn ⟨wk_agg (hl.mono hn).wk,trivial⟩ trivial) ((hl.classes.mono hn (fun _ h=>h.mono hn)).wk (fun _ h=>h.wk))
  (fun L i x hx=>SN M hN hE hl (hl.classes.all x (List.mem_of_getElem? hx)) (List.getElem?_eq_some_iff.1 hx).1 (by simp;omega))
 simp (maxSteps:=3000000) (maxDischargeDepth:=6) +contextual -implicitDefEqProofs only [amA M,amB,↓aj,↓ab,↓al,↓ak,Nat.reduceBEq,Nat.reduceAdd,env,ao,Ji,he 16,cZ,hp,hq,F7]
def Il(l:Lex):Int:=py 128 (Ik l) l.entries.l
theorem Pg(hN:dG E)(hE:iV E){l:Lex}{n:Nat}(hl:l.ok n){H:List ae}(hn:n≤H.length){p q:Nat}{T T2:TypeId}(hp:H[p]?=some (.cells l.row T))(hq:H[q]?=some (.cells l.row T2)) :
  M.run qV [.ptr p 0,.ptr q 0] H=some (.ret (.int .u8 (Il l)),H):=by
 rw [aY M hE.morph_Check_3 rfl (c:=u1) rfl,u1]
 have he:=KT M hE.morph_each_api_Entry (g:=ke) (fr:=[.agg l.row]) (cap:=[]) (F:=Ik l) (tg:=l.entries.tag) (l:=l.entries.l) (H:=H) hl.entries.len
  (wk_fn ⟨wk_agg (hl.mono hn).wk,trivial⟩ trivial) ((hl.entries.mono hn (fun _ h=>h.mono hn)).wk (fun _ h=>h.wk))
  (fun L i x hx=>SP M hN hE hl (hl.entries.all x (List.mem_of_getElem? hx)) (List.getElem?_eq_some_iff.1 hx).1 (by simp;omega))
 simp (maxSteps:=3000000) (maxDischargeDepth:=6) +contextual -implicitDefEqProofs only [amA M,amB,↓aj,↓ab,↓al,↓ak,Nat.reduceBEq,Nat.reduceAdd,env,ao,Jj,he 128,cZ,hp,hq,Il]
def Im(l:Lex):Int:=py 16 (fun _ x=>B1 x) l.spells.l
theorem Ph(hN:dG E)(hE:iV E){l:Lex}{n:Nat}(hl:l.ok n){H:List ae}(hn:n≤H.length){p q:Nat}{T T2:TypeId}(hp:H[p]?=some (.cells l.row T))(hq:H[q]?=some (.cells l.row T2)) :
  M.run qW [.ptr p 0,.ptr q 0] H=some (.ret (.int .u8 (Im l)),H):=by
 rw [aY M hE.morph_Check_4 rfl (c:=u3) rfl,u3]
 have he:=KV M hE.morph_each_api_Spell (g:=kf) (fr:=[.agg l.row]) (cap:=[]) (F:=fun _ x=>B1 x) (tg:=l.spells.tag) (l:=l.spells.l) (H:=H) hl.spells.len
  (wk_fn ⟨wk_agg (hl.mono hn).wk,trivial⟩ trivial) ((hl.spells.mono hn (fun _ h=>h.mono hn)).wk (fun _ h=>h.wk))
  (fun L i x hx=>Pd M hN hE (hl.spells.all x (List.mem_of_getElem? hx)) i _)
 simp (maxSteps:=3000000) (maxDischargeDepth:=6) +contextual -implicitDefEqProofs only [amA M,amB,↓aj,↓ab,↓al,↓ak,Nat.reduceBEq,Nat.reduceAdd,env,ao,Jk,he 16,cZ,hp,hq,Im]
def K7(l:Lex):Int:=py 8 (fun _ x=>K5 l x) l.links.l
theorem Pj(hN:dG E)(hE:iV E){l:Lex}{n:Nat}(hl:l.ok n){H:List ae}(hn:n≤H.length){p q:Nat}{T T2:TypeId}(hp:H[p]?=some (.cells l.row T))(hq:H[q]?=some (.cells l.row T2)) :
  M.run qX [.ptr p 0,.ptr q 0] H=some (.ret (.int .u8 (K7 l)),H):=by
 rw [aY M hE.morph_Check_5 rfl (c:=u4) rfl,u4]
 have he:=Mh M hE.morph_each_api_Link (g:=kI) (fr:=[.agg l.row]) (cap:=[]) (F:=fun _ x=>K5 l x) (tg:=l.links.tag) (l:=l.links.l) (H:=H) hl.links.len
  (wk_fn ⟨wk_agg (hl.mono hn).wk,trivial⟩ trivial) ((hl.links.mono hn (fun _ h=>h.mono hn)).wk (fun _ h=>h.wk))
  (fun L i x hx=>QE M hN hE hl (hl.links.all x (List.mem_of_getElem? hx)) i (by simp;omega))
 simp (maxSteps:=3000000) (maxDischargeDepth:=6) +contextual -implicitDefEqProofs only [amA M,amB,↓aj,↓ab,↓al,↓ak,Nat.reduceBEq,Nat.reduceAdd,env,ao,Jl,he 8,cZ,hp,hq,K7]
structure Clo where
 g:Nat
 fr:List AV
 cap:List AV
 e:Int
def Clo.row(x:Clo):List AV:=[.fn (.func x.g) x.fr x.cap]
theorem XY:(∀ x:Clo,cG none x.row 0=some (.fn (.func x.g) x.fr x.cap)):=fun _=>rfl
theorem fst{H H0:List ae}{tg:Tag}{l:List Clo}(hs:l.length≤bD)(hp:∀ x∈l,M.run x.g (x.fr++x.cap) H=some (.ret (.int .u8 x.e),H))(hc:dM H0 H)(k:List Fra):∀ (n i:Nat) (He:List ae),i+n=l.length →
  M.go iP H0 (.c nI :: .lp ⟨(some [6,7,8]),[],false⟩ nI He :: .blk 0 :: .c (.lv [])::k) (kv [(6,.slice tg 1 (l.map Clo.row)),(7,.int .i64 l.length),(8,.int .i64 i)]) H =
   orE (fJ (xh fun _ x=>x.e) i (l.drop i)) (H.take H0.length) (M.go iP H0 k .leaf H)
 |0,i,He,h=>by
  have e:i=l.length:=by omega
  subst e
  rw [aw M nI.eq_1]
  simp (maxSteps:=3000000) (maxDischargeDepth:=6) +contextual -implicitDefEqProofs only [amA M,amB,↓aj,↓ab,↓al,↓ak,Nat.reduceBEq,Nat.reduceAdd,env,ao,zd,Nat.lt_irrefl,List.drop_length]
 |n+1,i,He,h=>by
  have hi:i<l.length:=by omega
  have hx:l[i]?=some l[i]:=List.getElem?_eq_getElem hi
  have hd:(l.drop i)=l[i]::l.drop (i+1):=List.drop_eq_getElem_cons hi
  have hm:l[i]∈l:=List.getElem_mem hi
  have ih:=fun He=>fst (H:=H) (H0:=H0) (tg:=tg) (l:=l) (hs:=hs) (hp:=hp) hc k n (i+1)  He (by omega)
  simp only [kv_cons,kv_nil] at ih
  rw [aw M nI.eq_1]
  simp (maxSteps:=3000000) (maxDischargeDepth:=6) +contextual -implicitDefEqProofs only [amA M,amB,↓aj,↓ab,↓al,↓ak,Nat.reduceBEq,Nat.reduceAdd,env,ao,zd,hx,hd,hi,ih,hp _ hm,c6 hi hs,bo hi,XY,hc,xh]
theorem SQ(hE:iV E){tg:Tag}{l:List Clo}(hs:l.length≤bD){H:List ae}(hp:∀ x∈l,M.run x.g (x.fr++x.cap) H=some (.ret (.int .u8 x.e),H)) :
  M.run yT [.slice tg 1 (l.map Clo.row)] H=some (.ret (.int .u8 (BX (fun _ x=>x.e) 0 l)),H):=by
 rw [aY M hE.morph_first rfl (c:=zb) rfl,zb]
 have hl:=fun k He=>fst M (tg:=tg) hs hp (cut_refl H) k l.length 0 He (by omega)
 simp only [kv_cons,kv_nil,Int.ofNat_zero,List.drop_zero] at hl
 simp (maxSteps:=3000000) (maxDischargeDepth:=6) +contextual -implicitDefEqProofs only [amA M,amB,↓aj,↓ab,↓al,↓ak,Nat.reduceBEq,Nat.reduceAdd,env,ao,zd,hl]
 exact mh _ l 0 H
def cD(l:Lex):Int:=
 BX (fun _ e=>e) 0 [Ua l,K6 l,F7 l,Il l,Im l,K7 l]
theorem tN(hN:dG E)(hE:iV E){l:Lex}{n:Nat}(hl:l.ok n){H:List ae}(hn:n≤H.length) :
  M.run k8 [.agg l.row] H=some (.ret (.int .u8 (cD l)),H):=by
 rw [aY M hE.morph_Check rfl (c:=y6) rfl,y6]
 have hf:=SQ M hE (tg:=.full) (H:=H++[.cells l.row az,.cells l.row bz])
  (l:=[⟨jF,[.agg l.row],[],Ua l⟩,⟨qS,[],[.ptr H.length 0,.ptr (H.length+1) 0],K6 l⟩,⟨qT,[],[.ptr H.length 0,.ptr (H.length+1) 0],F7 l⟩,
   ⟨qV,[],[.ptr H.length 0,.ptr (H.length+1) 0],Il l⟩,⟨qW,[],[.ptr H.length 0,.ptr (H.length+1) 0],Im l⟩,⟨qX,[],[.ptr H.length 0,.ptr (H.length+1) 0],K7 l⟩]) (by simp [bD]) (by
  have h0:(H++[ae.cells l.row az,.cells l.row bz])[H.length]?=some (.cells l.row az):=by rw [dX];rfl
  have h1:(H++[ae.cells l.row az,.cells l.row bz])[H.length+1]?=some (.cells l.row bz):=by rw [hp_getk];rfl
  have h2:n≤(H++[ae.cells l.row az,.cells l.row bz]).length:=by simp;omega
  intro x hx
  simp only [List.mem_cons,List.not_mem_nil,or_false] at hx
  rcases hx with rfl | rfl | rfl | rfl | rfl | rfl
  ·exact QC M hN hE hl _
  ·exact Pe M hN hE hl h2 h0 h1
  ·exact Pf M hN hE hl h2 h0 h1
  ·exact Pg M hN hE hl h2 h0 h1
  ·exact Ph M hN hE hl h2 h0 h1
  ·exact Pj M hN hE hl h2 h0 h1)
 simp only [List.map_cons,List.map_nil,Clo.row] at hf
 simp (maxSteps:=3000000) (maxDischargeDepth:=6) +contextual -implicitDefEqProofs only [amA M,amB,↓aj,↓ab,↓al,↓ak,Nat.reduceBEq,Nat.reduceAdd,env,ao,L9,amG,AV.cell,Nat.reduceMul,Nat.reduceLeDiff,hf,cZ]
 rfl
end
section
attribute [local congr] aF cu bm aG a7 aR aH aA aC aS aT
variable{E:bC}(M:cT cY E)
structure RefE (E:bC):Prop where
 truchmanref02_trait:E.fn oa=some oF
 truchmanref02_Class:E.fn gb=some ou
 truchmanref02_in:E.fn rb=some rh
 truchmanref02_bundle:E.fn jE=some mW
 truchmanref02_traits:E.fn r9=some mV
 truchmanref02_classes:E.fn rr=some lV
 truchmanref02_Unify:E.fn od=some oH
 truchmanref02_entries:E.fn ru=some lW
 truchmanref02_Check:E.fn tr=some oo
theorem Hl(a b:Str):(a == b)=(b == a):=BEq.comm
end
section
attribute [local congr] aF cu bm aG a7 aR aH aA aC aS aT
variable{E:bC}(M:cT cY E)
end
section
attribute [local congr] aF cu bm aG a7 aR aH aA aC aS aT
variable{E:bC}(M:cT cY E)
def A3(p:aq):List aq→Bool
 |[]=>true
 |x::l=>Op.bytesLess p.name x.name&&A3 x l
def zq:List aq→Bool
 |[]=>true
 |x::l=>A3 x l
end
section
attribute [local congr] aF cu bm aG a7 aR aH aA aC aS aT
variable{E:bC}(M:cT cY E)
def kB:List aq→List aq→Option (List aq)
 |[],b=>some b
 |x::a,[]=>some (x::a)
 |x::a,y::b=>
  match Op.bytesLess x.name y.name with
  |true=>(kB a (y::b)).map (x :: ·)
  |false=>match Op.bytesLess y.name x.name with
   |true=>(kB (x::a) b).map (y :: ·)
   |false=>match x.name == y.name&&x.value == y.value with
    |true=>(kB a b).map (x :: ·)
    |false=>none
termination_by a b=>a.length+b.length
theorem DY(x y:aq):req (.st [(0,.str),(1,.str)]) (.agg x.row) (.agg y.row)=some (x.name == y.name&&x.value == y.value):=by
 simp only [req,vU,aq.row,List.getElem?_cons_zero,List.getElem?_cons_succ,El]
 cases x.name == y.name<;>simp
 cases x.value == y.value<;>rfl
theorem VF(n:Nat)(x:aq):WkL n (aq.row x) (aq.row x):=⟨wk_str _ _,wk_str _ _,trivial⟩
def DZ(a b:List aq):Option (List aq):=sel (zq a) (sel (zq b) (kB a b) none) none
end
theorem D0:∀ x:Str,Op.bytesLess x x=false
 |[]=>rfl
 |a::x=>by
  have h:¬ a<a:=by simp
  simp only [Op.bytesLess,D0 x,Bool.and_false,Bool.or_false,decide_eq_false h]
theorem K8:∀ {x y:Str},Op.bytesLess x y=false→Op.bytesLess y x=false→x=y
 |[],[],_,_=>rfl
 |[],_::_,h,_=>by simp [Op.bytesLess] at h
 |_::_,[],_,h=>by simp [Op.bytesLess] at h
 |a::x,b::y,h1,h2=>by
  simp only [Op.bytesLess,Bool.or_eq_false_iff,decide_eq_false_iff_not] at h1 h2
  have hab:a=b:=UInt8.le_antisymm (UInt8.not_lt.1 h2.1) (UInt8.not_lt.1 h1.1)
  subst hab
  simp only [beq_self_eq_true,Bool.true_and] at h1 h2
  rw [K8 h1.2 h2.2]
theorem qI:∀ {x y z:Str},Op.bytesLess x y=true→Op.bytesLess y z=true→Op.bytesLess x z=true
 |_,[],_,h,_=>by cases ‹List UInt8› <;> simp [Op.bytesLess] at h
 |_,_::_,[],_,h=>by simp [Op.bytesLess] at h
 |[],_::_,_::_,_,_=>rfl
 |a::x,b::y,c::z,h1,h2=>by
  simp only [Op.bytesLess,Bool.or_eq_true,decide_eq_true_eq,Bool.and_eq_true,beq_iff_eq] at h1 h2 ⊢
  rcases h1 with h1 | ⟨rfl,h1⟩
  ·rcases h2 with h2 | ⟨rfl,h2⟩
   ·exact .inl (UInt8.lt_trans h1 h2)
   ·exact .inl h1
  ·rcases h2 with h2 | ⟨rfl,h2⟩
   ·exact .inl h2
   ·exact .inr ⟨rfl,qI h1 h2⟩
theorem Uc{x y:Str}(h:Op.bytesLess x y=true):Op.bytesLess y x=false:=by
 cases h2:Op.bytesLess y x with
 |false=>rfl
 |true=>have:=qI h h2;rw [D0] at this;cases this
theorem MZ{x y:Str}(h:Op.bytesLess x y=true):(x == y)=false:=by
 cases h2:x == y with
 |false=>rfl
 |true=>rw [eq_of_beq h2,D0] at h;cases h
theorem vK:∀ {l:List aq}{p:aq},A3 p l=true→∀ x∈l,Op.bytesLess p.name x.name=true
 |[],_,_,_,h=>by cases h
 |y::l,p,h,x,hx=>by
  simp only [A3,Bool.and_eq_true] at h
  rcases List.mem_cons.1 hx with rfl | hx
  ·exact h.1
  ·exact qI h.1 (vK h.2 x hx)
theorem A4{x:aq}{l:List aq}(h:zq (x::l)=true):zq l=true:=by
 cases l with
 |nil=>rfl
 |cons y l=>simp only [zq,A3,Bool.and_eq_true] at h ⊢;exact h.2
theorem K9{x:aq}{b:List aq}(h:∀ y∈b,(x.name == y.name)=false):(b.any fun g=>jS x g)=false:=by
 rw [List.any_eq_false]
 intro y hy
 simp [jS,h y hy]
theorem xi(x:aq)(a b:List aq):lD (x::a) b=((b.any fun g=>jS x g)||lD a b):=rfl
theorem D1(y:aq):∀ (a b:List aq),lD a (y::b)=((a.any fun f=>jS f y)||lD a b)
 |[],_=>rfl
 |x::a,b=>by
  rw [xi,xi,D1 y a b,List.any_cons,List.any_cons]
  cases jS x y<;>cases (b.any fun g=>jS x g)<;>cases (a.any fun f=>jS f y)<;>simp
theorem I1{y:aq}{a:List aq}(h:∀ x∈a,(x.name == y.name)=false):(a.any fun f=>jS f y)=false:=by
 rw [List.any_eq_false]
 intro x hx
 simp [jS,h x hx]
theorem uC:∀ (n:Nat) (a b:List aq),a.length+b.length≤n→zq a=true→zq b=true→(kB a b).isSome = !lD a b
 |_,[],b,_,_,_=>by cases b<;>simp [kB,lD]
 |_,x::a,[],_,_,_=>by
  have:lD (x::a) []=false:=by simp [lD]
  rw [this];simp [kB]
 |0,x::a,y::b,h,_,_=>by simp at h
 |n+1,x::a,y::b,h,ha,hb=>by
  have hxa:∀ z∈a,Op.bytesLess x.name z.name=true:=vK ha
  have hyb:∀ z∈b,Op.bytesLess y.name z.name=true:=vK hb
  simp only [List.length_cons] at h
  rw [kB]
  cases c1:Op.bytesLess x.name y.name with
  |true=>
   simp only [Option.isSome_map]
   rw [uC n a (y::b) (by simp only [List.length_cons];omega) (A4 ha) hb,xi,K9 (x:=x) (b:=y::b) (fun z hz=>by
    rcases List.mem_cons.1 hz with rfl | hz
    ·exact MZ c1
    ·exact MZ (qI c1 (hyb z hz))),Bool.false_or]
  |false=>
   simp only
   cases c2:Op.bytesLess y.name x.name with
   |true=>
    simp only [Option.isSome_map]
    rw [uC n (x::a) b (by simp only [List.length_cons];omega) ha (A4 hb),D1,I1 (y:=y) (a:=x::a) (fun z hz=>by
     rw [Hl]
     rcases List.mem_cons.1 hz with rfl | hz
     ·exact MZ c2
     ·exact MZ (qI c2 (hxa z hz))),Bool.false_or]
   |false=>
    have hn:=K8 c1 c2
    simp only [hn,beq_self_eq_true,Bool.true_and]
    cases c3:x.value == y.value with
    |true=>
     simp only [Option.isSome_map]
     rw [uC n a b (by omega) (A4 ha) (A4 hb),xi,D1,List.any_cons,K9 (x:=x) (b:=b) (fun z hz=>by rw [hn];exact MZ (hyb z hz)),
      I1 (y:=y) (a:=a) (fun z hz=>by rw [Hl,← hn];exact MZ (hxa z hz))]
     simp [jS,c3]
    |false=>
     simp only [Option.isSome_none]
     rw [xi,List.any_cons]
     simp [jS,hn,c3]
theorem Pk{a b:List aq}(ha:zq a=true)(hb:zq b=true):(DZ a b).isSome = !lD a b:=by
 rw [DZ,ha,hb]
 exact uC _ a b (Nat.le_refl _) ha hb
theorem rQ{α:Type}{F:Nat→α→Int}:∀ {l:List α}{s:Nat},BX F s l=0→∀ (k:Nat) (x:α),l[k]?=some x→F (s+k) x=0
 |[],_,_,k,x,h=>by simp at h
 |y::l,s,h,k,x,hx=>by
  rw [BX] at h
  cases hy:F s y == 0 with
  |false=>
   rw [hy] at h
   simp only [Bool.not_false,sel] at h
   rw [h] at hy;simp at hy
  |true=>
   rw [hy] at h
   simp only [Bool.not_true,sel] at h
   cases k with
   |zero=>obtain rfl:y=x:=by simpa using hx
          exact eq_of_beq hy
   |succ k=>
    have:=rQ h k x (by simpa using hx)
    rwa [show s+1+k=s+(k+1) by omega] at this
theorem je{α:Type}{F:Nat→α→Int}{most:Int}{l:List α}(h:py most F l=0):(l.length:Int)≤most∧∀ (k:Nat) (x:α),l[k]?=some x→F k x=0:=by
 unfold py at h
 cases hd:decide (most<(l.length:Int)) with
 |true=>rw [hd] at h;simp [sel] at h
 |false=>
  rw [hd] at h
  simp only [sel] at h
  refine ⟨by simpa using hd,fun k x hx => ?_⟩
  have:=rQ h k x hx
  rwa [Nat.zero_add] at this
theorem RA:∀ {l:List aq},(∀ (i:Nat) (g f:aq),l[i]?=some g→l[i+1]?=some f→Op.bytesLess g.name f.name=true)→zq l=true
 |[],_=>rfl
 |[x],_=>rfl
 |x::y::l,h=>by
  have h0:=h 0 x y rfl rfl
  have h1:zq (y::l)=true:=RA (fun i g f hg hf=>h (i+1) g f (by simpa using hg) (by simpa using hf))
  simp only [zq,A3,Bool.and_eq_true] at h1 ⊢
  exact ⟨h0,h1⟩
theorem bundle_ok{l:Lex}{b:List aq}(h:vJ l b=0):b.length≤8∧zq b=true:=by
 obtain ⟨h1,h2⟩:=je h
 refine ⟨by omega,RA fun i g f hg hf => ?_⟩
 have:=h2 (i+1) f hf
 unfold QD at this
 split at this
 ·exact absurd this (by decide)
 ·rw [DX hg,DX hg] at this
  revert this
  cases (!List.any _ _) with
  |true=>intro h;simp [sel] at h
  |false=>
   cases c:g.name == f.name with
   |true=>intro h;simp [sel] at h
   |false=>
    cases c2:Op.bytesLess g.name f.name with
    |true=>intro _;rfl
    |false=>intro h;simp [sel] at h
section
attribute [local congr] aF cu bm aG a7 aR aH aA aC aS aT
variable{E:bC}(M:cT cY E)
theorem La{α:Type}(l:List α)(i:Nat):∀ k,k<(l.take i).length→l[k]?=(l.take i)[k]? := fun k hk=>by
 rw [List.getElem?_take_of_lt];simp at hk;omega
end
end Go.Am
