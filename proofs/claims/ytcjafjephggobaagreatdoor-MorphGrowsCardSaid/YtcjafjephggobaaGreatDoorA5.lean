import Derived.Test.YtcjafjephggobaaGreatDoorA4
import Derived.Test.YtcjafjephggobaaGreatDoorChecked
import Derived.KernelRfl
/-
  Part 5 of the tool: an abstract machine over the model, proved sound, and what it says of the functions that the law reaches. Condition: none but those that each theorem names.
-/
set_option linter.unusedVariables false
set_option linter.unusedSimpArgs false
set_option maxRecDepth 100000
set_option maxHeartbeats 4000000
namespace Go.Am
open Go.RowKit
section
open Sh
def BC:AC:=
 (Q (O [mc 0 F]) (Q (O [k 7 (f LA) [(s [118,111,119,101,108,115,32,97,101,105,111,117,10,116,114,97,105,116,32,110,117,109,32,115,103,32,112,
 108,10,99,108,97,115,115,32,110,111,117,110,10,115,108,111,116,32,48,32,45,32,45,32,110,117,109,61,115,103,10,115,108,111,116,32,48,32,45,32,
 115,32,110,117,109,61,112,108,10,99,108,97,115,115,32,118,101,114,98,10,115,108,111,116,32,48,32,45,32,45,10,115,108,111,116,32,48,32,45,32,
 101,100,10,101,110,116,114,121,32,99,105,116,121,32,110,111,117,110,10,101,110,116,114,121,32,99,97,114,32,110,111,117,110,10,101,110,116,114,
 121,32,98,117,115,32,110,111,117,110,10,102,111,114,109,32,49,32,98,117,115,101,115,10,101,110,116,114,121,32,112,108,97,110,32,118,101,114,98,
 10,115,112,101,108,108,32,121,43,32,105,43,101,32,67,32,115,10,115,112,101,108,108,32,110,43,32,110,110,43,32,86,32,101,100,10,108,105,110,
 107,32,110,111,117,110,32,45,32,110,117,109,61,115,103,10])],m 6 7,ex 8 6 0,ex 9 6 1,ex 10 6 2,o 1 (.nw [(.str []),(.slice .nil 2 []),(.slice .nil 2 []),
 (.slice .nil 4 []),(.slice .nil 4 []),(.slice .nil 3 [])] az),n (.st 6 (t 1) (t 8)),m 2 9,m 3 10]) (Q (O [la 12 6 1,k 13 (f Bi) [(t 12),(i 0),(i 1)],m
 11 13,ex 14 11 0,ex 15 11 1,m 4 14,m 5 15]) (Q (O [m 16 3,o 17 (.ar .eql (t 16) (u 0)),m 18 17,g 19 18 (.mv (t 5)),g 20 18 (.ar .eql (t 19) (u 0)),o 21 (.pk (t 18) (t 20)
 F),m 22 21,g 23 22 (.mv (t 4)),g 24 22 (.ar .eql (t 23) (s [99,105,116,105,101,115])),o 25 (.pk (t 22) (t 24) F),m 0 25]) R))))
def sk:AFn:=⟨BC,26,[.t 0],.keep,[],none⟩
def Fe:AFn:=vm.k
def HJ:AC:=
 (Q (O [bl 31 30 29]) (Q (C 31 X (.exit 0)) (Q (.block 1 (Q (O [m 32 30,ia 33 1 28 30,ld 34 33,m 7 32,m 8 34]) (Q (Q (O [m 35 8,o 36 (.ar .eql (t 35) (s [])),m 37 36,h 38 37
 (.mv (t 8)),h 39 37 (.ixs (t 38) (i 0)),h 40 37 (.ar .eql (t 39) (u 59)),o 41 (.pk (t 37) T (t 40))]) (C 41 (.exit 1) X)) (Q (O [m 42 8,k 43 (f Em) [(t 6),(t
 42)],no 44 43]) (C 44 (Q (O [o 45 (.bd [(.str []),(.slice .nil 2 []),(.slice .nil 2 []),(.slice .nil 4 []),(.slice .nil 4 []),(.slice .nil 3 [])] [(0,1),(1,1),(2,1),(3,
 1),(4,1),(5,1)] []),m 46 7,ad 47 46,n (.st 6 (t 2) (t 45)),m 3 47,mc 4 (u 4)]) R) X))))) (O [ad 48 30,m 30 48]))))
def Kn:AC:=
 (Q (O [o 2 (.nw [(.str []),(.slice .nil 2 []),(.slice .nil 2 []),(.slice .nil 4 []),(.slice .nil 4 []),(.slice .nil 3 [])] az),mc 3 (i 0),mc 4 (u 0)]) (Q (Q (O [m
 10 0,lt 11 10,o 12 (.ar .gtr (t 11) (i 65536))]) (C 12 (Q (O [o 13 (.bd [(.str []),(.slice .nil 2 []),(.slice .nil 2 []),(.slice .nil 4 []),(.slice .nil 4 []),(.slice .nil 3
 [])] [(0,1),(1,1),(2,1),(3,1),(4,1),(5,1)] []),n (.st 6 (t 2) (t 13)),mc 3 (i 0),mc 4 (u 3)]) R) X)) (Q (O [m 14 0,k 15 (f B2) [(t 14),(s [10])],m 5
 15]) (Q (Q (O [m 16 5,m 17 5,ls 18 17,o 19 (.ar .sub (t 18) (i 1)),ia 20 1 16 19,ld 21 20,o 22 (.ar .eql (t 21) (s []))]) (C 22 (O [m 23 5,m 24 5,ls 25 24,o 26 (.ar .sub (t
 25) (i 1)),o 27 (.sll 1 (t 23) none (some (t 26)) none),m 5 27]) X)) (Q (O [o 6 (.nw [(.str []),(.slice .nil 2 []),(.slice .nil 2 []),(.slice .nil 4 []),(.slice .nil 4 []),
 (.slice .nil 3 []),(.str []),(.int .i64 0)] Kj)]) (Q (Q (O [m 28 5,ls 29 28,mc 30 (i 0)]) (.block 0 (.loop ⟨none,[],false⟩ HJ))) (Q (Q (O [fa 49 6 6,
 ld 50 49,o 51 (.ar .eql (t 50) (s []))]) (C 51 (Q (O [o 52 (.bd [(.str []),(.slice .nil 2 []),(.slice .nil 2 []),(.slice .nil 4 []),(.slice .nil 4 []),(.slice .nil 3 [])] [(0,
 1),(1,1),(2,1),(3,1),(4,1),(5,1)] []),n (.st 6 (t 2) (t 52)),mc 3 (i 0),mc 4 (u 4)]) R) X)) (Q (Q (O [fa 53 0 6,la 54 6 53,k 55 (f kW) [(t 54)],m 9 55])
 (Q (O [m 56 9,o 57 (.ar .neq (t 56) (u 0))]) (C 57 (Q (O [o 58 (.bd [(.str []),(.slice .nil 2 []),(.slice .nil 2 []),(.slice .nil 4 []),(.slice .nil 4 []),(.slice .nil 3 [])]
 [(0,1),(1,1),(2,1),(3,1),(4,1),(5,1)] []),m 59 9,n (.st 6 (t 2) (t 58)),mc 3 (i 0),m 4 59]) R) X))) (Q (O [fa 60 0 6,la 61 6 60,n (.st 6 (t 2) (t 61)),mc 3 (i 0),
 mc 4 (u 0)]) R)))))))))
def Dw:AFn:=⟨Kn,62,[.cell 2 (some 6),.t 3,.t 4],.keep,[],none⟩
def Dx:AFn:=kZ.k
def Ff:AFn:=mJ.k
def sm:AFn:=eU.k
def sn:AFn:=dv.k
def kM:AFn:=b7.k
def Dy:AFn:=tP.k
def iz:AFn:=bj.k
def HK:AC:=
 (Q (O [mc 4 (.c (.slice .nil 1 []))]) (Q (O [m 5 0,m 6 1,k 7 (f vY) [(t 5),(t 6),(i 0),(i (-1))],m 4 7]) R))
def An:AFn:=⟨HK,8,[.t 4],.keep,[],none⟩
def BD:AC:=
 (Q (O [bl 26 25 24]) (Q (C 26 X (.exit 0)) (Q (.block 1 (Q (O [ia 27 1 23 25,ld 28 27,m 9 28]) (O [m 29 9,o 30 (.ar .neq (t 29) (s [])),k 31 (f iJ) [(t 30)]]))) (O
 [ad 32 25,m 25 32]))))
def Dz:AC:=
 (Q (O [m 11 1,k 12 (f B2) [(t 11),(s [32])],m 5 12]) (Q (D [W (k 14 (f LB) []),P (m 15 5),P (o 16 (.ias 1 (t 15) (i 0))),W (ld 17 16),W (o 18 (.lk
 .str (some (.agg [(.int .i64 0),(.int .i64 0),(.bool false),.nilfn])) true (t 14) (t 17))),P (m 13 18),P (ex 19 13 0),P (ex 20 13 1),K (o 6 (.nw [(.int .i64 0),(.int .i64
 0),(.bool false),.nilfn] NC)),E (n (.st 4 (t 6) (t 19))),P (m 7 20)]) (Q (O [m 21 7,k 22 (f iJ) [(t 21)]]) (Q (Q (O [m 23 5,ls 24 23,mc 25 (i 0)])
 (.block 0 (.loop ⟨none,[],false⟩ BD))) (Q (O [m 33 5,o 34 (.sll 1 (t 33) (some (i 1)) none none),m 5 34]) (Q (O [m 35 5,ls 36 35,fa 37 1 6,ld 38 37,o 39
 (.ar .geq (t 36) (t 38)),m 40 39,g 41 40 (.fa 2 (t 6)),g 42 40 (.ld none (t 41)),g 43 40 (.mv (t 42)),h 44 43 (.mv (t 5)),h 45 43 (.len .sl (t 44)),h 46 43 (.fa 1 (t 6)),h
 47 43 (.ld none (t 46)),h 48 43 (.ar .eql (t 45) (t 47)),g 49 40 (.pk (t 43) T (t 48)),o 50 (.pk (t 40) (t 49) F),k 51 (f iJ) [(t 50)]]) (Q (D [P (m 52 0),P (o 53
 (.nc (t 52))),P (fa 54 6 53),W (ld 55 54),P (o 56 (.ar .eql (t 55) (s []))),P (fa 57 0 6),W (ld 58 57),P (o 59 (.ar .eql (t 58) (i 0))),P (o 60 (.eq false .bool (t 56) (t
 59))),P (m 61 60),P (g 62 61 (.fa 0 (t 6))),W (g 63 61 (.ld none (t 62))),P (g 64 61 (.mv (t 0))),P (g 65 61 (.nc (t 64))),P (g 66 61 (.fa 7 (t 65))),W (g 67 61 (.ld none (t
 66))),P (g 68 61 (.ar .geq (t 63) (t 67))),P (o 69 (.pk (t 61) (t 68) F)),E (k 70 (f iJ) [(t 69)])]) (Q (O [fa 71 3 6,ld 72 71,m 73 0,m 74 5,k 75 (t 72) [(t 73),
 (t 74)]]) (Q (.dops true [] [] [P (m 76 0),P (m 77 0),P (m 78 1),W (k 79 (f HG) [(t 78),(s [32]),(i 2)]),P (o 80 (.ias 1 (t 79) (i 0))),W (ld 81 80),P (fa 82 0
 6),W (ld 83 82),P (o 84 (.nc (t 76))),P (fa 85 6 84),K (n (.st 1 (t 85) (t 81))),P (o 86 (.nc (t 77))),P (fa 87 7 86),K (n (.st 1 (t 87) (t 83)))]) (Q (O [n (.st 1 (t 4) T)])
 R))))))))))
def DA:AC:=
 (O [o 4 (.nw [(.bool false)] TA)])
def ue:AFn:=⟨DA,88,[.cell 4 none],.keep,[],(some ([⟨(some 10),none,(.op (.mf (.func Cm) [] [(.t 4)]))⟩],(.t 10),Dz))⟩
def DB:AFn:=iH.k
def rq:AFn:=cY.k
def Ao:AFn:=ja.k
def rr:AFn:=ct.k
def so:AFn:=dw.k
def Ap:AFn:=jb.k
def ru:AFn:=cu.k
def sq:AFn:=eW.k
def Aq:AFn:=jc.k
def ry:AFn:=cw.k
def sr:AFn:=dx.k
def Ar:AFn:=jd.k
def rz:AFn:=cA.k
def ss:AFn:=eX.k
def As:AFn:=je.k
def su:AFn:=cO.k
def tm:AFn:=fp.k
def GT:AFn:=eR.k
def B5:AFn:=iK.k
def rA:AFn:=ez.k
def Au:AFn:=jf.k
def rB:AFn:=cZ.k
def tn:AFn:=fq.k
def mh:AFn:=bM.k
def iW:AFn:=aX.k
def CA:AC:=
 (Q (Q (O [m 34 10,m 35 3,bl 36 34 35]) (C 36 X (.exit 0))) (.block 1 (Q (O [m 37 0,m 38 1,k 39 (f nA) [(t 37),(t 38)],m 11 39]) (Q (Q (O [m 40 11,o 41 (.ar .lss
 (t 40) (i 0))]) (C 41 (.exit 0) X)) (Q (O [m 42 9,m 43 10,m 44 0,m 45 11,m 46 2,o 47 (.ar .add (t 45) (t 46)),o 48 (.sls (t 44) none (some (t 47))),ia 49 1 42 43,n (.st 1 (t
 49) (t 48))]) (Q (O [m 50 0,m 51 11,m 52 1,lt 53 52,o 54 (.ar .add (t 51) (t 53)),o 55 (.sls (t 50) (some (t 54)) none),m 0 55]) (O [m 56 10,ad 57 56,m 10 57])))))))
def Ev:AC:=
 (Q (O [mc 8 (.c (.slice .nil 1 []))]) (Q (Q (O [m 12 3,o 13 (.ar .eql (t 12) (i 0))]) (C 13 (Q (O [mc 8 (.c (.slice .nil 1 []))]) R) X)) (Q (Q (O [m 14 1,o 15 (.ar .eql (t 14) (s
 []))]) (C 15 (Q (O [m 16 0,m 17 3,k 18 (f GK) [(t 16),(t 17)],m 8 18]) R) X)) (Q (Q (O [m 19 3,o 20 (.ar .lss (t 19) (i 0))]) (C 20 (O [m 21 0,m 22 1,k 23 (f
 ku) [(t 21),(t 22)],ad 24 23,m 3 24]) X)) (Q (O [m 25 3,m 26 0,lt 27 26,ad 28 27,o 29 (.mn (t 25) (t 28)),m 3 29]) (Q (O [m 30 3,o 31 (.ms bu 16 [(.str
 [])] (t 30) (t 30)),m 9 31]) (Q (O [m 32 3,o 33 (.ar .sub (t 32) (i 1)),m 3 33]) (Q (O [mc 10 (i 0)]) (Q (.block 0 (.loop ⟨none,[],false⟩ CA)) (Q (O [m 58 9,
 m 59 10,m 60 0,ia 61 1 58 59,n (.st 1 (t 61) (t 60))]) (Q (O [m 62 9,m 63 10,ad 64 63,o 65 (.sll 1 (t 62) none (some (t 64)) none),m 8 65]) R)))))))))))
def vc:AFn:=⟨Ev,66,[.t 8],.keep,[],none⟩
def Av:AC:=
 (.block 0 (Q (O [o 6 (.eq false (.ifc true) (t 4) (.c .nilif))]) (C 6 (O [m 1 4]) (Q (O [o 7 (.ta yK (some (.agg [])) true (t 4)),ex 8 7 1,ex 9 7 0]) (C 8 (Q (O [o 2
 (.nw [] yK),n (.st 0 (t 2) (t 9))]) (O [n (.st 1 (t 0) F)])) (Q (O [m 3 4]) (O [m 5 3,⟨none,none,(.panic (.t 5))⟩])))))))
def rC:AFn:=⟨Av,10,[],.keep,[],none⟩
def Ko:AC:=
 (Q (O [mc 0 (.c .nilmap)]) (Q (O [o 1 .mm,o 2 (.bd [(.int .i64 0),(.int .i64 0),(.bool false),.nilfn] [(0,1),(1,1),(2,1),(3,1)] [(0,(i 0)),(1,(i 1)),(2,F),(3,(f
 IW))]),n (.mu .str (t 1) (s [118,111,119,101,108,115]) (t 2)),o 3 (.bd [(.int .i64 0),(.int .i64 0),(.bool false),.nilfn] [(0,1),(1,1),(2,1),(3,1)]
 [(0,(i 1)),(1,(i 1)),(2,T),(3,(f IX))]),n (.mu .str (t 1) (s [116,114,97,105,116]) (t 3)),o 4 (.bd [(.int .i64 0),(.int .i64 0),(.bool false),.nilfn]
 [(0,1),(1,1),(2,1),(3,1)] [(0,(i 2)),(1,(i 1)),(2,F),(3,(f IY))]),n (.mu .str (t 1) (s [99,108,97,115,115]) (t 4)),o 5 (.bd [(.int .i64 0),(.int
 .i64 0),(.bool false),.nilfn] [(0,1),(1,1),(2,1),(3,1)] [(0,(i 2)),(1,(i 3)),(2,T),(3,(f IZ))]),n (.mu .str (t 1) (s [115,108,111,116]) (t 5)),o 6
 (.bd [(.int .i64 0),(.int .i64 0),(.bool false),.nilfn] [(0,1),(1,1),(2,1),(3,1)] [(0,(i 3)),(1,(i 2)),(2,T),(3,(f I0))]),n (.mu .str (t 1) (s [101,
 110,116,114,121]) (t 6)),o 7 (.bd [(.int .i64 0),(.int .i64 0),(.bool false),.nilfn] [(0,1),(1,1),(2,1),(3,1)] [(0,(i 3)),(1,(i 2)),(2,F),(3,(f
 I1))]),n (.mu .str (t 1) (s [102,111,114,109]) (t 7)),o 8 (.bd [(.int .i64 0),(.int .i64 0),(.bool false),.nilfn] [(0,1),(1,1),(2,1),(3,1)] [(0,(i 4)),
 (1,(i 4)),(2,F),(3,(f I2))]),n (.mu .str (t 1) (s [115,112,101,108,108]) (t 8)),o 9 (.bd [(.int .i64 0),(.int .i64 0),(.bool false),.nilfn] [(0,1),(1,
 1),(2,1),(3,1)] [(0,(i 5)),(1,(i 2)),(2,T),(3,(f I3))]),n (.mu .str (t 1) (s [108,105,110,107]) (t 9)),m 10 1,m 0 10]) R))
def DC:AFn:=⟨Ko,11,[.t 0],.keep,[],none⟩
def Jd:AC:=
 (Q (O [m 2 0,no 3 2]) (C 3 (O [o 4 (.bd [] [] []),o 5 (.mi yK (t 4)),⟨none,none,(.panic (.t 5))⟩]) X))
def B6:AFn:=⟨Jd,6,[],.keep,[],none⟩
def GU:AC:=
 (Q (O [mc 6 (.c (.slice .nil 1 []))]) (Q (O [m 7 0,m 8 1,m 9 2,k 10 (f vY) [(t 7),(t 8),(i 0),(t 9)],m 6 10]) R))
def yr:AFn:=⟨GU,11,[.t 6],.keep,[],none⟩
def B7:AFn:=gg.k
def Fg:AFn:=iI.k
def ig:AFn:=bb.k
def qj:AFn:=ec.k
def ij:AFn:=bc.k
def qk:AFn:=ed.k
def sv:AFn:=cP.k
def qm:AFn:=ee.k
def DD:AFn:=k8.k
def DE:AFn:=k9.k
def ik:AFn:=bf.k
def qn:AFn:=eg.k
def iA:AFn:=bk.k
def qo:AFn:=eh.k
def DF:AFn:=lb.k
def fB:AFn:=aV.k
def qp:AFn:=ei.k
def B8:AFn:=jU.k
def B9:AFn:=jV.k
def sw:AFn:=cQ.k
def pH:AFn:=dN.k
def iC:AFn:=aS.k
def oR:AFn:=du.k
def iD:AFn:=aT.k
def wE:AFn:=hJ.k
def nI:AFn:=c6.k
def rD:AFn:=c7.k
def wF:AFn:=ek.k
def DG:AC:=
 (Q (Q (O [m 22 7,m 23 1,o 24 (.ar .sub (t 23) (i 1)),bl 25 22 24]) (C 25 X (.exit 0))) (Q (.block 1 (Q (O [m 29 0,k 30 (f kf) [(t 29)],m 28 30,
 ex 31 28 0,ex 32 28 1,m 8 31,m 9 32]) (Q (O [m 33 6,m 34 7,m 35 0,m 36 9,o 37 (.sls (t 35) none (some (t 36))),ia 38 1 33 34,n (.st 1 (t 38) (t 37))]) (O [m 39 0,m 40 9,o
 41 (.sls (t 39) (some (t 40)) none),m 0 41])))) (O [m 26 7,ad 27 26,m 7 27])))
def FE:AC:=
 (Q (O [mc 4 (.c (.slice .nil 1 []))]) (Q (O [m 10 0,k 11 (f kG) [(t 10)],m 5 11]) (Q (Q (O [m 12 1,o 13 (.ar .lss (t 12) (i 0)),m 14 13,h 15 14
 (.mv (t 1)),h 16 14 (.mv (t 5)),h 17 14 (.ar .gtr (t 15) (t 16)),o 18 (.pk (t 14) T (t 17))]) (C 18 (O [m 19 5,m 1 19]) X)) (Q (O [m 20 1,o 21 (.ms bu 16 [(.str [])] (t
 20) (t 20)),m 6 21]) (Q (Q (O [mc 7 (i 0)]) (.block 0 (.loop ⟨none,[],false⟩ DG))) (Q (Q (O [m 42 1,o 43 (.ar .gtr (t 42) (i 0))]) (C 43 (O [m 44 6,m 45 1,o
 46 (.ar .sub (t 45) (i 1)),m 47 0,ia 48 1 44 46,n (.st 1 (t 48) (t 47))]) X)) (Q (O [m 49 6,m 4 49]) R)))))))
def wG:AFn:=⟨FE,50,[.t 4],.keep,[],none⟩
def Aw:AFn:=ji.k
def Ax:AFn:=jj.k
def HL:AC:=
 (O [m 4 0,m 5 1,o 6 (.ias 1 (t 5) (i 0)),ld 7 6,k 8 (f jC) [(t 7)],o 9 (.nc (t 4)),fa 10 0 9,fa 11 0 10,n (.st 1 (t 11) (t 8))])
def Ay:AFn:=⟨HL,12,[],.keep,[],none⟩
def LM:AC:=
 (Q (O [mc 2 (s [])]) (Q (Q (O [m 3 0,o 4 (.ar .eql (t 3) (s [45]))]) (C 4 (Q (O [mc 2 (s [])]) R) X)) (Q (O [m 5 0,m 2 5]) R)))
def Fh:AFn:=⟨LM,6,[.t 2],.keep,[],none⟩
def HM:AC:=
 (D [P (m 4 0),P (m 5 0),P (o 6 (.nc (t 5))),P (fa 7 0 6),P (fa 8 1 7),W (ld 9 8),P (m 10 1),P (o 11 (.ias 1 (t 10) (i 0))),W (ld 12 11),P (m 13 1),P (o 14 (.sll 1 (t 13)
 (some (i 1)) none none)),P (o 15 (.bd [(.str []),(.slice .nil 1 [])] [(0,1),(1,1)] [(0,(t 12)),(1,(t 14))])),P (o 16 (.bs 2 [(.str []),(.slice .nil 0 [])] 1 [(0,(t
 15))])),E (o 17 (.ap false iq 2 40 false (t 9) (t 16))),P (o 18 (.nc (t 4))),P (fa 19 0 18),P (fa 20 1 19),E (n (.st 1 (t 20) (t 17)))])
def Az:AFn:=⟨HM,21,[],.keep,[],none⟩
def HN:AC:=
 (D [P (m 4 0),P (m 5 0),P (o 6 (.nc (t 5))),P (fa 7 0 6),P (fa 8 2 7),W (ld 9 8),P (m 10 1),P (o 11 (.ias 1 (t 10) (i 0))),W (ld 12 11),P (o 13 (.bd [(.str []),(.slice
 .nil 4 [])] [(0,1),(1,1)] [(0,(t 12))])),P (o 14 (.bs 2 [(.str []),(.slice .nil 0 [])] 1 [(0,(t 13))])),E (o 15 (.ap true cq 2 40 false (t 9) (t 14))),P (o 16 (.nc
 (t 4))),P (fa 17 0 16),P (fa 18 2 17),E (n (.st 1 (t 18) (t 15)))])
def AA:AFn:=⟨HN,19,[],.keep,[0],none⟩
def HO:AC:=
 (Q (O [m 5 0,o 6 (.nc (t 5)),fa 7 6 6,ld 8 7,o 9 (.ar .eql (t 8) (s [99,108,97,115,115])),m 10 9,h 11 10 (.mv (t 0)),h 12 10 (.nc (t 11)),h 13 10 (.fa 6 (t 12)),h 14 10
 (.ld none (t 13)),h 15 10 (.ar .eql (t 14) (s [115,108,111,116])),o 16 (.pk (t 10) T (t 15)),k 17 (f iJ) [(t 16)]]) (Q (D [P (m 18 0),P (o 19 (.nc (t 18))),P (fa
 20 0 19),P (fa 21 2 20),W (ld 22 21),P (m 23 0),P (o 24 (.nc (t 23))),P (fa 25 0 24),P (fa 26 2 25),W (ld 27 26),W (ls 28 27),P (o 29 (.ar .sub (t 28) (i 1))),P (ia 30 2
 22 29),P (m 4 30)]) (D [P (m 31 4),P (m 32 4),P (o 33 (.nc (t 32))),P (fa 34 1 33),W (ld 35 34),P (m 36 1),P (o 37 (.ias 1 (t 36) (i 0))),W (ld 38 37),P (m 40 1),P (o 41
 (.ias 1 (t 40) (i 1))),W (ld 42 41),P (m 44 1),P (o 45 (.ias 1 (t 44) (i 2))),W (ld 46 45),P (m 48 1),P (o 49 (.sll 1 (t 48) (some (i 3)) none none)),K (k 39 (f
 vZ) [(t 38)]),K (k 43 (f jC) [(t 42)]),K (k 47 (f jC) [(t 46)]),K (k 50 (f yI) [(t 49)]),P (o 51 (.bd [(.int .i64 0),(.str []),(.str
 []),(.slice .nil 2 [])] [(0,1),(1,1),(2,1),(3,1)] [(0,(t 39)),(1,(t 43)),(2,(t 47)),(3,(t 50))])),P (o 52 (.bs 4 [(.int .i64 0),(.str []),(.str []),(.slice .nil 0
 [])] 1 [(0,(t 51))])),E (o 53 (.ap false bH 4 64 false (t 35) (t 52))),P (o 54 (.nc (t 31))),P (fa 55 1 54),E (n (.st 1 (t 55) (t 53)))])))
def AB:AFn:=⟨HO,56,[],.keep,[],none⟩
def Je:AC:=
 (Q (O [mc 2 (i 0)]) (Q (O [m 6 0,k 7 (f Ki) [(t 6)],m 5 7,ex 8 5 0,ex 9 5 1,m 3 8,m 4 9]) (Q (O [m 10 4,o 11 (.eq false (.ifc true) (t 10) (.c .nilif)),m 12 11,
 g 13 12 (.mv (t 3)),g 14 12 (.ar .geq (t 13) (i 0)),o 15 (.pk (t 12) (t 14) F),m 16 15,g 17 16 (.mv (t 3)),g 18 16 (.ar .leq (t 17) (i 999)),o 19 (.pk (t 16) (t 18) F),m 20
 19,g 21 20 (.mv (t 3)),⟨(some 22),(some (20,true)),(.call (.c (.fn (.func v7) [] [])) [(.t 21)])⟩,g 23 20 (.mv (t 0)),g 24 20 (.ar .eql (t 22) (t 23)),o 25 (.pk
 (t 20) (t 24) F),k 26 (f iJ) [(t 25)]]) (Q (O [m 27 3,m 2 27]) R))))
def Ca:AFn:=⟨Je,28,[.t 2],.keep,[],none⟩
def HP:AC:=
 (Q (O [bl 12 11 10]) (Q (C 12 X (.exit 0)) (Q (.block 1 (Q (O [ia 13 1 9 11,ld 14 13,m 5 14]) (Q (O [m 15 5,k 16 (f ku) [(t 15),(s [61])],o 17 (.ar .eql (t 16) (i
 1)),k 18 (f iJ) [(t 17)]]) (Q (O [m 20 5,k 21 (f LC) [(t 20),(s [61])],m 19 21,ex 22 19 0,ex 23 19 1,ex 24 19 2,m 6 22,m 7 23,m 8 24]) (O [m 25 3,m
 26 6,m 27 7,o 28 (.bd [(.str []),(.str [])] [(0,1),(1,1)] [(0,(t 26)),(1,(t 27))]),o 29 (.bs 2 [(.str []),(.str [])] 1 [(0,(t 28))]),o 30 (.ap false a7 2 32
 false (t 25) (t 29)),m 3 30]))))) (O [ad 31 11,m 11 31]))))
def Kq:AC:=
 (Q (O [mc 2 (.c (.slice .nil 2 []))]) (Q (O [mc 3 (.c (.slice .nil 2 []))]) (Q (Q (O [m 9 0,ls 10 9,mc 11 (i 0)]) (.block 0 (.loop ⟨none,[],false⟩ HP))) (Q (O [m
 32 3,m 2 32]) R))))
def DH:AFn:=⟨Kq,33,[.t 2],.keep,[],none⟩
def HQ:AC:=
 (D [P (m 4 0),P (m 5 0),P (o 6 (.nc (t 5))),P (fa 7 0 6),P (fa 8 3 7),W (ld 9 8),P (m 10 1),P (o 11 (.ias 1 (t 10) (i 0))),W (ld 12 11),P (m 13 1),P (o 14 (.ias 1 (t 13)
 (i 1))),W (ld 15 14),P (m 16 1),P (o 17 (.sll 1 (t 16) (some (i 2)) none none)),K (k 18 (f yI) [(t 17)]),P (o 19 (.bd [(.str []),(.str []),(.slice .nil 2 []),
 (.slice .nil 2 [])] [(0,1),(1,1),(2,1),(3,1)] [(0,(t 12)),(1,(t 15)),(2,(t 18))])),P (o 20 (.bs 4 [(.str []),(.str []),(.slice .nil 0 []),(.slice .nil 0 [])] 1 [(0,
 (t 19))])),E (o 21 (.ap true dY 4 80 false (t 9) (t 20))),P (o 22 (.nc (t 4))),P (fa 23 0 22),P (fa 24 3 23),E (n (.st 1 (t 24) (t 21)))])
def AD:AFn:=⟨HQ,25,[],.keep,[0],none⟩
def HR:AC:=
 (Q (O [m 5 0,o 6 (.nc (t 5)),fa 7 6 6,ld 8 7,o 9 (.ar .eql (t 8) (s [101,110,116,114,121])),m 10 9,h 11 10 (.mv (t 0)),h 12 10 (.nc (t 11)),h 13 10 (.fa 6 (t 12)),h 14
 10 (.ld none (t 13)),h 15 10 (.ar .eql (t 14) (s [102,111,114,109])),o 16 (.pk (t 10) T (t 15)),k 17 (f iJ) [(t 16)]]) (Q (D [P (m 18 0),P (o 19 (.nc (t 18))),P
 (fa 20 0 19),P (fa 21 3 20),W (ld 22 21),P (m 23 0),P (o 24 (.nc (t 23))),P (fa 25 0 24),P (fa 26 3 25),W (ld 27 26),W (ls 28 27),P (o 29 (.ar .sub (t 28) (i 1))),P (ia 30
 4 22 29),P (m 4 30)]) (D [P (m 31 4),P (m 32 4),P (o 33 (.nc (t 32))),P (fa 34 3 33),W (ld 35 34),P (m 36 1),P (o 37 (.ias 1 (t 36) (i 0))),W (ld 38 37),P (m 40 1),P (o 41
 (.ias 1 (t 40) (i 1))),W (ld 42 41),K (k 39 (f vZ) [(t 38)]),K (k 43 (f jC) [(t 42)]),P (o 44 (.bd [(.int .i64 0),(.str [])] [(0,1),(1,1)] [(0,(t
 39)),(1,(t 43))])),P (o 45 (.bs 2 [(.int .i64 0),(.str [])] 1 [(0,(t 44))])),E (o 46 (.ap false eG 2 24 false (t 35) (t 45))),P (o 47 (.nc (t 31))),P (fa 48 3
 47),E (n (.st 1 (t 48) (t 46)))])))
def AE:AFn:=⟨HR,49,[],.keep,[],none⟩
def HS:AC:=
 (D [P (m 4 0),P (m 5 0),P (o 6 (.nc (t 5))),P (fa 7 0 6),P (fa 8 4 7),W (ld 9 8),P (m 10 1),P (o 11 (.ias 1 (t 10) (i 0))),W (ld 12 11),P (m 14 1),P (o 15 (.ias 1 (t 14)
 (i 1))),W (ld 16 15),P (m 18 1),P (o 19 (.ias 1 (t 18) (i 2))),W (ld 20 19),P (m 22 1),P (o 23 (.ias 1 (t 22) (i 3))),W (ld 24 23),K (k 13 (f jC) [(t 12)]),K (k
 17 (f jC) [(t 16)]),K (k 21 (f jC) [(t 20)]),K (k 25 (f jC) [(t 24)]),P (o 26 (.bd [(.str []),(.str []),(.str []),(.str [])] [(0,1),(1,1),(2,
 1),(3,1)] [(0,(t 13)),(1,(t 17)),(2,(t 21)),(3,(t 25))])),P (o 27 (.bs 4 [(.str []),(.str []),(.str []),(.str [])] 1 [(0,(t 26))])),E (o 28 (.ap false eQ 4
 64 false (t 9) (t 27))),P (o 29 (.nc (t 4))),P (fa 30 0 29),P (fa 31 4 30),E (n (.st 1 (t 31) (t 28)))])
def AF:AFn:=⟨HS,32,[],.keep,[],none⟩
def HT:AC:=
 (D [P (m 4 0),P (m 5 0),P (o 6 (.nc (t 5))),P (fa 7 0 6),P (fa 8 5 7),W (ld 9 8),P (m 10 1),P (o 11 (.ias 1 (t 10) (i 0))),W (ld 12 11),P (m 13 1),P (o 14 (.ias 1 (t 13)
 (i 1))),W (ld 15 14),K (k 16 (f jC) [(t 15)]),P (m 17 1),P (o 18 (.sll 1 (t 17) (some (i 2)) none none)),K (k 19 (f yI) [(t 18)]),P (o 20 (.bd [(.str []),
 (.str []),(.slice .nil 2 [])] [(0,1),(1,1),(2,1)] [(0,(t 12)),(1,(t 16)),(2,(t 19))])),P (o 21 (.bs 3 [(.str []),(.str []),(.slice .nil 0 [])] 1 [(0,(t 20))])),E (o
 22 (.ap false kY 3 56 false (t 9) (t 21))),P (o 23 (.nc (t 4))),P (fa 24 0 23),P (fa 25 5 24),E (n (.st 1 (t 25) (t 22)))])
def AG:AFn:=⟨HT,26,[],.keep,[],none⟩
def Cb:AFn:=hQ.k
def Cc:AFn:=iL.k
def iE:AFn:=aU.k
def iX:AFn:=aY.k
def AH:AFn:=jk.k
def wH:AFn:=hT.k
def fT:AFn:=aD.k
def uf:AFn:=fQ.k
def sy:AFn:=dy.k
def rE:AFn:=c8.k
def lY:AFn:=cJ.k
def nJ:AFn:=c9.k
def pI:AFn:=dR.k
def sA:AFn:=eY.k
def rF:AFn:=eB.k
def jZ:AFn:=gQ.k
def kh:AFn:=ic.k
def mj:AFn:=cT.k
def Jf:AC:=
 (Q (O [mc 2 (i 0),mc 3 (.c .nilif)]) (Q (O [m 7 0,k 8 (f zR) [(t 7)],m 6 8,ex 9 6 0,ex 10 6 1,m 4 9,m 5 10]) (Q (Q (O [m 11 5,o 12 (.eq true (.ifc true)
 (t 11) (.c .nilif))]) (C 12 (Q (O [m 13 4,m 14 0,m 15 5,k 16 (f GM) [(s [65,116,111,105]),(t 14),(i 0),(i 0),(t 15)],m 2 13,m 3 16]) R) X)) (Q (O [m 17 4,
 m 2 17,mc 3 (.c .nilif)]) R))))
def Cd:AFn:=⟨Jf,18,[.t 2,.t 3],.keep,[],none⟩
def Jg:AC:=
 (Q (O [mc 2 (s [])]) (Q (O [m 3 0,k 4 (f zS) [(t 3)],m 2 4]) R))
def Ce:AFn:=⟨Jg,5,[.t 2],.keep,[],none⟩
def Kr:AC:=
 (Q (O [mc 4 (s []),mc 5 (s []),mc 6 F]) (Q (O [m 7 0,m 8 1,k 9 (f wa) [(t 7),(t 8)],ex 10 9 0,ex 11 9 1,ex 12 9 2,m 4 10,m 5 11,m 6 12]) R))
def DI:AFn:=⟨Kr,13,[.t 4,.t 5,.t 6],.keep,[],none⟩
def ki:AFn:=bX.k
def rG:AFn:=eC.k
def nK:AFn:=da.k
def rH:AFn:=eD.k
def iM:AFn:=fJ.k
def FF:AC:=
 (Q (O [mc 2 (i 0)]) (Q (Q (O [m 3 0,o 4 (.ar .geq (t 3) (.c (.int .u64 4294967296)))]) (C 4 (Q (O [m 5 0,o 6 (.sh .shr (t 5) (.c (.int .u64 32))),m 0 6]) (O [mc 2 (i 32)])) X))
 (Q (Q (O [m 7 0,o 8 (.ar .geq (t 7) (.c (.int .u64 65536)))]) (C 8 (Q (O [m 9 0,o 10 (.sh .shr (t 9) (.c (.int .u64 16))),m 0 10]) (O [m 11 2,o 12 (.ar .add (t 11) (i 16)),m 2
 12])) X)) (Q (Q (O [m 13 0,o 14 (.ar .geq (t 13) (.c (.int .u64 256)))]) (C 14 (Q (O [m 15 0,o 16 (.sh .shr (t 15) (.c (.int .u64 8))),m 0 16]) (O [m 17 2,o 18 (.ar .add (t 17)
 (i 8)),m 2 18])) X)) (Q (O [m 19 2,m 20 0,o 21 (.cvi .u8 (t 20)),o 22 (.ixs (s [0,1,2,2,3,3,3,3,4,4,4,4,4,4,4,4,5,5,5,5,5,5,5,5,5,5,5,5,5,5,5,5,
 6,6,6,6,6,6,6,6,6,6,6,6,6,6,6,6,6,6,6,6,6,6,6,6,6,6,6,6,6,6,6,6,7,7,7,7,7,7,7,7,7,7,7,7,7,7,7,7,7,7,7,7,7,7,7,7,7,7,7,7,
 7,7,7,7,7,7,7,7,7,7,7,7,7,7,7,7,7,7,7,7,7,7,7,7,7,7,7,7,7,7,7,7,7,7,7,7,8,8,8,8,8,8,8,8,8,8,8,8,8,8,8,8,8,8,8,8,8,8,8,8,
 8,8,8,8,8,8,8,8,8,8,8,8,8,8,8,8,8,8,8,8,8,8,8,8,8,8,8,8,8,8,8,8,8,8,8,8,8,8,8,8,8,8,8,8,8,8,8,8,8,8,8,8,8,8,8,8,8,8,8,8,
 8,8,8,8,8,8,8,8,8,8,8,8,8,8,8,8,8,8,8,8,8,8,8,8,8,8,8,8,8,8,8,8,8,8,8,8,8,8,8,8,8,8,8,8]) (t 21)),o 23 (.cvi .i64 (t 22)),o 24 (.ar .add
 (t 19) (t 23)),m 2 24]) R)))))
def wI:AFn:=⟨FF,25,[.t 2],.keep,[],none⟩
def kj:AFn:=bY.k
def oS:AFn:=jY.k
def ir:AFn:=eZ.k
def wJ:AC:=
 (Q (O [bl 50 49 48]) (Q (C 50 X (.exit 0)) (Q (.block 1 (Q (O [ia 51 1 47 49,ld 52 51,m 8 52]) (Q (O [m 53 8,o 54 (.ar .sub (t 53) (u 48)),m 8 54]) (Q (Q (O [m 55 8,o 56 (.ar
 .gtr (t 55) (u 9))]) (C 56 (Q (O [o 57 (.mi bU (i 2)),mc 2 (i 0),m 3 57]) R) X)) (O [m 58 6,o 59 (.ar .mul (t 58) (i 10)),m 60 8,o 61 (.cvi .i64 (t 60)),o 62 (.ar
 .add (t 59) (t 61)),m 6 62]))))) (O [ad 63 49,m 49 63]))))
def y6:AC:=
 (Q (O [mc 2 (i 0),mc 3 (.c .nilif)]) (Q (O [m 11 0,lt 12 11,m 4 12]) (Q (Q (O [mc 13 F,g 14 13 (.mv (t 4)),g 15 13 (.ar .lss (i 0) (t 14)),g 16 13 (.mv (t 15)),g 17 16 (.mv
 (t 4)),g 18 16 (.ar .lss (t 17) (i 10)),g 19 13 (.pk (t 16) (t 18) F),o 20 (.pk (t 13) (t 19) F),m 21 20,h 22 21 (.mv T),g 23 22 (.mv (t 4)),g 24 22 (.ar .lss (i 0) (t 23)),
 g 25 22 (.mv (t 24)),g 26 25 (.mv (t 4)),g 27 25 (.ar .lss (t 26) (i 19)),g 28 22 (.pk (t 25) (t 27) F),h 29 21 (.pk (t 22) (t 28) F),o 30 (.pk (t 21) T (t 29))]) (C 30 (Q (O
 [m 31 0,m 5 31]) (Q (Q (O [m 32 0,o 33 (.ixs (t 32) (i 0)),o 34 (.ar .eql (t 33) (u 45)),m 35 34,h 36 35 (.mv (t 0)),h 37 35 (.ixs (t 36) (i 0)),h 38 35 (.ar .eql (t 37) (u
 43)),o 39 (.pk (t 35) T (t 38))]) (C 39 (Q (O [m 40 0,o 41 (.sls (t 40) (some (i 1)) none),m 0 41]) (Q (O [m 42 0,lt 43 42,o 44 (.ar .lss (t 43) (i 1))]) (C 44 (Q (O [o 45 (.mi
 bU (i 2)),mc 2 (i 0),m 3 45]) R) X))) X)) (Q (O [mc 6 (i 0)]) (Q (Q (O [m 46 0,o 47 (.cvsb (t 46)),ls 48 47,mc 49 (i 0)]) (.block 0 (.loop ⟨none,[],false⟩
 wJ))) (Q (Q (O [m 64 5,o 65 (.ixs (t 64) (i 0)),o 66 (.ar .eql (t 65) (u 45))]) (C 66 (O [m 67 6,o 68 (.un .neg (t 67)),m 6 68]) X)) (Q (O [m 69 6,m 2
 69,mc 3 (.c .nilif)]) R)))))) X)) (Q (O [m 71 0,k 72 (f vj) [(t 71),(i 10),(i 0)],m 70 72,ex 73 70 0,ex 74 70 1,m 9 73,m 10 74]) (Q (O [m 75 9,m
 76 10,m 2 75,m 3 76]) R)))))
def qq:AFn:=⟨y6,77,[.t 2,.t 3],.keep,[],none⟩
def FG:AC:=
 (Q (O [mc 10 (.c .nilif)]) (Q (Q (O [m 11 4]) (.block 0 (Q (O [o 13 (.mi bU (i 2)),o 14 (.eq false (.ifc false) (t 11) (t 13)),m 12 14]) (C 12 (Q (O [m 15 0,m 16 1,
 k 17 (f Cn) [(t 15),(t 16)],o 18 (.mi kH (t 17)),m 10 18]) R) (Q (O [o 20 (.mi bU (i 1)),o 21 (.eq false (.ifc false) (t 11) (t
 20)),m 19 21]) (C 19 (Q (O [m 22 0,m 23 1,k 24 (f Dl) [(t 22),(t 23)],o 25 (.mi kH (t 24)),m 10 25]) R) (Q (O [o 27 (.mi bU (i
 3)),o 28 (.eq false (.ifc false) (t 11) (t 27)),m 26 28]) (C 26 (Q (O [m 29 0,m 30 1,m 31 2,k 32 (f En) [(t 29),(t 30),(t 31)],o 33 (.mi
 kH (t 32)),m 10 33]) R) (Q (O [o 35 (.mi bU (i 4)),o 36 (.eq false (.ifc false) (t 11) (t 35)),m 34 36]) (C 34 (Q (O [m 37 0,m 38 1,m 39 3,k 40
 (f Bk) [(t 37),(t 38),(t 39)],o 41 (.mi kH (t 40)),m 10 41]) R) X)))))))))) (Q (O [m 42 4,m 10 42]) R)))
def wK:AFn:=⟨FG,43,[.t 10],.keep,[],none⟩
def y7:AC:=
 (Q (O [mc 2 (s [])]) (Q (O [m 3 0,k 4 (f uD) [(t 3),(i 10)],m 2 4]) R))
def qs:AFn:=⟨y7,5,[.t 2],.keep,[],none⟩
def vn:AC:=
 (Q (O [mc 4 (s []),mc 5 (s []),mc 6 F]) (Q (Q (O [m 8 0,m 9 1,k 10 (f gn) [(t 8),(t 9)],m 7 10]) (Q (O [m 11 7,o 12 (.ar .geq (t 11) (i 0))]) (C 12
 (Q (D [P (m 13 0),P (m 14 7),P (o 15 (.sls (t 13) none (some (t 14)))),P (m 16 0),P (m 17 7),P (m 18 1),W (lt 19 18),P (o 20 (.ar .add (t 17) (t 19))),P (o 21 (.sls (t 16)
 (some (t 20)) none)),P (m 4 15),P (m 5 21),P (mc 6 T)]) R) X))) (Q (O [m 22 0,m 4 22,mc 5 (s []),mc 6 F]) R)))
def oT:AFn:=⟨vn,23,[.t 4,.t 5,.t 6],.keep,[],none⟩
def ug:AFn:=fR.k
def j0:AFn:=gR.k
def uW:AC:=
 (Q (O [mc 6 (i 0),mc 7 (.c .nilif)]) (Q (Q (O [m 12 0,o 13 (.ar .eql (t 12) (s []))]) (C 13 (Q (O [o 14 (.mi bU (i 2)),mc 6 (i 0),m 7 14]) R) X)) (Q (O [mc 8 F]) (Q
 (Q (O [m 15 0,o 16 (.ixs (t 15) (i 0))]) (.block 0 (Q (O [o 18 (.ar .eql (t 16) (u 43)),m 17 18]) (C 17 (O [m 19 0,o 20 (.sls (t 19) (some (i 1)) none),m 0 20]) (Q (O [o 22 (.ar
 .eql (t 16) (u 45)),m 21 22]) (C 21 (Q (O [m 23 0,o 24 (.sls (t 23) (some (i 1)) none),m 0 24]) (O [mc 8 T])) X)))))) (Q (O [mc 9 (.c (.int .u64 0))]) (Q (O [m 26 0,m 27 1,m 28
 2,k 29 (f uE) [(t 26),(t 27),(t 28)],m 25 29,ex 30 25 0,ex 31 25 1,m 9 30,m 7 31]) (Q (Q (O [m 32 7,o 33 (.eq true (.ifc true) (t 32) (.c
 .nilif)),m 34 33,g 35 34 (.mv (t 7)),g 36 34 (.mi bU (i 1)),g 37 34 (.eq true (.ifc false) (t 35) (t 36)),o 38 (.pk (t 34) (t 37) F)]) (C 38 (Q (O [m 39 7,mc 6 (i
 0),m 7 39]) R) X)) (Q (Q (O [m 40 2,o 41 (.ar .eql (t 40) (i 0))]) (C 41 (O [mc 2 (i 64)]) X)) (Q (O [m 42 2,o 43 (.ar .sub (t 42) (i 1)),o 44 (.cvi .u64 (t 43)),o 45 (.sh .shl
 (.c (.int .u64 1)) (t 44)),m 10 45]) (Q (Q (O [m 46 8,no 47 46,m 48 47,g 49 48 (.mv (t 9)),g 50 48 (.mv (t 10)),g 51 48 (.ar .geq (t 49) (t 50)),o 52 (.pk (t 48) (t 51) F)])
 (C 52 (Q (O [m 53 10,o 54 (.ar .sub (t 53) (.c (.int .u64 1))),o 55 (.cvi .i64 (t 54)),o 56 (.mi bU (i 1)),m 6 55,m 7 56]) R) X)) (Q (Q (O [m 57 8,m 58 57,g 59
 58 (.mv (t 9)),g 60 58 (.mv (t 10)),g 61 58 (.ar .gtr (t 59) (t 60)),o 62 (.pk (t 58) (t 61) F)]) (C 62 (Q (O [m 63 10,o 64 (.cvi .i64 (t 63)),o 65 (.un .neg (t 64)),o 66 (.mi
 bU (i 1)),m 6 65,m 7 66]) R) X)) (Q (O [m 67 9,o 68 (.cvi .i64 (t 67)),m 11 68]) (Q (Q (O [m 69 8]) (C 69 (O [m 70 11,o 71 (.un .neg (t 70)),m 11 71]) X)) (Q (O
 [m 72 11,m 6 72,mc 7 (.c .nilif)]) R))))))))))))))
def nL:AFn:=⟨uW,73,[.t 6,.t 7],.keep,[],none⟩
def BE:AC:=
 (Q (O [mc 4 (.c .nilp)]) (Q (D [P (m 5 0),P (m 6 1),W (o 8 (.ld none (.c .unk))),K (k 7 (f gp) [(t 6)]),P (o 9 (.bd [(.str []),(.str []),.nilif] [(0,
 1),(1,1),(2,1)] [(0,(t 5)),(1,(t 7)),(2,(t 8))])),K (o 10 (.bx mI (t 9))),P (m 4 10)]) R))
def sB:AFn:=⟨BE,11,[.t 4],.keep,[],none⟩
def CB:AC:=
 (Q (O [mc 4 (.c .nilp)]) (Q (D [P (m 5 0),P (m 6 1),W (o 8 (.ld none (.c .unk))),K (k 7 (f gp) [(t 6)]),P (o 9 (.bd [(.str []),(.str []),.nilif] [(0,
 1),(1,1),(2,1)] [(0,(t 5)),(1,(t 7)),(2,(t 8))])),K (o 10 (.bx mI (t 9))),P (m 4 10)]) R))
def tp:AFn:=⟨CB,11,[.t 4],.keep,[],none⟩
def DJ:AC:=
 (Q (O [mc 6 (.c .nilp)]) (Q (O [m 7 0,m 8 1,k 9 (f gp) [(t 8)],m 10 2,k 11 (f v7) [(t 10)],o 12 (.ar .add (s [105,110,118,97,108,105,
 100,32,98,97,115,101,32]) (t 11)),k 13 (f GN) [(t 12)],o 14 (.bd [(.str []),(.str []),.nilif] [(0,1),(1,1),(2,1)] [(0,(t 7)),(1,(t 9)),(2,(t 13))]),o
 15 (.bx mI (t 14)),m 6 15]) R))
def uh:AFn:=⟨DJ,16,[.t 6],.keep,[],none⟩
def AI:AC:=
 (Q (O [mc 6 (.c .nilp)]) (Q (O [m 7 0,m 8 1,k 9 (f gp) [(t 8)],m 10 2,k 11 (f v7) [(t 10)],o 12 (.ar .add (s [105,110,118,97,108,105,
 100,32,98,105,116,32,115,105,122,101,32]) (t 11)),k 13 (f GN) [(t 12)],o 14 (.bd [(.str []),(.str []),.nilif] [(0,1),(1,1),(2,1)] [(0,(t 7)),(1,(t
 9)),(2,(t 13))]),o 15 (.bx mI (t 14)),m 6 15]) R))
def rI:AFn:=⟨AI,16,[.t 6],.keep,[],none⟩
def ui:AC:=
 (Q (O [mc 4 (s [])]) (Q (Q (O [m 10 1,o 11 (.ar .eql (t 10) (i 10))]) (C 11 (Q (Q (O [m 12 0,o 13 (.ar .leq (i 0) (t 12)),m 14 13,g 15 14 (.mv (t 0)),g 16 14 (.ar .lss (t 15)
 (i 100)),o 17 (.pk (t 14) (t 16) F)]) (C 17 (Q (O [m 18 0,k 19 (f yJ) [(t 18)],m 4 19]) R) X)) (Q (O [o 5 (.nw [(.int .u8 0),(.int .u8 0),(.int .u8 0),
 (.int .u8 0),(.int .u8 0),(.int .u8 0),(.int .u8 0),(.int .u8 0),(.int .u8 0),(.int .u8 0),(.int .u8 0),(.int .u8 0),(.int .u8 0),(.int .u8 0),(.int .u8 0),(.int .u8 0),
 (.int .u8 0),(.int .u8 0),(.int .u8 0),(.int .u8 0),(.int .u8 0),(.int .u8 0),(.int .u8 0),(.int .u8 0)] Qi)]) (Q (O [m 20 0,o 21 (.cvi .u64 (t 20)),m 6 21]) (Q (Q
 (O [m 22 0,o 23 (.ar .lss (t 22) (i 0))]) (C 23 (O [m 24 6,o 25 (.un .neg (t 24)),m 6 25]) X)) (Q (O [m 26 6,k 27 (f uF) [(t 26)],m 7 27]) (Q (O [m 28
 7,o 29 (.ar .add (i 1) (t 28)),o 30 (.sla 24 1 (t 5) (some (i 1)) (some (t 29))),m 31 6,k 32 (f sV) [(t 30),(t 31)]]) (Q (Q (O [m 33 0,o 34 (.ar
 .lss (t 33) (i 0))]) (C 34 (Q (O [o 35 (.iaa 24 1 (t 5) (i 0)),n (.st 1 (t 35) (u 45))]) (Q (O [m 36 7,o 37 (.ar .add (i 1) (t 36)),o 38 (.sla 24 1 (t 5) none (some (t 37))),o
 39 (.cvbs (t 38)),m 4 39]) R)) X)) (Q (O [m 40 7,o 41 (.ar .add (i 1) (t 40)),o 42 (.sla 24 1 (t 5) (some (i 1)) (some (t 41))),o 43 (.cvbs (t 42)),m 4 43]) R)))))))) X)) (Q (O
 [m 45 0,o 46 (.cvi .u64 (t 45)),m 47 1,m 48 0,o 49 (.ar .lss (t 48) (i 0)),k 50 (f uc) [(.c (.slice .nil 1 [])),(t 46),(t 47),(t 49),F],m 44 50,
 ex 51 44 0,ex 52 44 1,m 8 51,m 9 52]) (Q (O [m 53 9,m 4 53]) R))))
def ml:AFn:=⟨ui,54,[.t 4],.keep,[],none⟩
def sZ:AC:=
 (Q (O [bl 102 101 100]) (Q (C 102 X (.exit 3)) (Q (.block 4 (Q (O [ia 103 1 99 101,ld 104 103,m 15 104]) (Q (O [mc 16 (u 0)]) (Q (.block 5 (Q (O [m 107 15,o 108 (.ar .eql (t 107)
 (u 95)),m 109 108,g 110 109 (.mv (t 8)),o 111 (.pk (t 109) (t 110) F),m 106 111]) (C 106 (Q (O [mc 12 T]) (.exit 4)) (Q (O [m 113 15,o 114 (.ar .leq (u 48) (t 113)),m 115 114,
 g 116 115 (.mv (t 15)),g 117 115 (.ar .leq (t 116) (u 57)),o 118 (.pk (t 115) (t 117) F),m 112 118]) (C 112 (O [m 119 15,o 120 (.ar .sub (t 119) (u 48)),m 16 120]) (Q (O [m 122
 15,k 123 (f bC) [(t 122)],o 124 (.ar .leq (u 97) (t 123)),m 125 124,g 126 125 (.mv (t 15)),⟨(some 127),(some (125,true)),(.call (.c (.fn (.func
 bC) [] [])) [(.t 126)])⟩,g 128 125 (.ar .leq (t 127) (u 122)),o 129 (.pk (t 125) (t 128) F),m 121 129]) (C 121 (O [m 130 15,k 131 (f
 bC) [(t 130)],o 132 (.ar .sub (t 131) (u 97)),o 133 (.ar .add (t 132) (u 10)),m 16 133]) (Q (O [o 105 (.mi bU (i 2)),mc 6 (.c (.int .u64 0)),
 m 7 105]) R)))))))) (Q (Q (O [m 134 16,m 135 1,o 136 (.cvi .u8 (t 135)),o 137 (.ar .geq (t 134) (t 136))]) (C 137 (Q (O [o 138 (.mi bU (i 2)),mc 6 (.c (.int .u64
 0)),m 7 138]) R) X)) (Q (Q (O [m 139 13,m 140 10,o 141 (.ar .geq (t 139) (t 140))]) (C 141 (Q (O [m 142 11,o 143 (.mi bU (i 1)),m 6 142,m 7 143]) R) X)) (Q (O [m
 144 13,m 145 1,o 146 (.cvi .u64 (t 145)),o 147 (.ar .mul (t 144) (t 146)),m 13 147]) (Q (O [m 148 13,m 149 16,o 150 (.cvi .u64 (t 149)),o 151 (.ar .add (t 148) (t 150)),m 17
 151]) (Q (Q (O [m 152 17,m 153 13,bl 154 152 153,m 155 154,h 156 155 (.mv (t 17)),h 157 155 (.mv (t 11)),h 158 155 (.ar .gtr (t 156) (t 157)),o 159 (.pk (t 155) T (t 158))])
 (C 159 (Q (O [m 160 11,o 161 (.mi bU (i 1)),m 6 160,m 7 161]) R) X)) (O [m 162 17,m 13 162])))))))))) (O [ad 163 101,m 101 163]))))
def uj:AC:=
 (Q (O [mc 6 (.c (.int .u64 0)),mc 7 (.c .nilif)]) (Q (Q (O [m 18 0,o 19 (.ar .eql (t 18) (s []))]) (C 19 (Q (O [o 20 (.mi bU (i 2)),mc 6 (.c (.int .u64 0)),m 7 20])
 R) X)) (Q (O [m 21 1,o 22 (.ar .eql (t 21) (i 0)),m 8 22]) (Q (O [m 23 0,m 9 23]) (Q (.block 0 (Q (O [m 26 1,o 27 (.ar .leq (i 2) (t 26)),m 28 27,g 29 28 (.mv (t 1)),g 30 28
 (.ar .leq (t 29) (i 36)),o 31 (.pk (t 28) (t 30) F),m 25 31]) (C 25 X (Q (O [m 33 1,o 34 (.ar .eql (t 33) (i 0)),m 32 34]) (C 32 (Q (O [mc 1 (i 10)]) (Q (O [m 35 0,o 36 (.ixs
 (t 35) (i 0)),o 37 (.ar .eql (t 36) (u 48))]) (C 37 (.block 1 (Q (O [m 41 0,lt 42 41,o 43 (.ar .geq (t 42) (i 3)),m 44 43,g 45 44 (.mv (t 0)),g 46 44 (.ixs (t 45) (i 1)),
 ⟨(some 47),(some (44,true)),(.call (.c (.fn (.func bC) [] [])) [(.t 46)])⟩,g 48 44 (.ar .eql (t 47) (u 98)),o 49 (.pk (t 44) (t 48) F),m 40 49]) (C 40 (Q
 (O [mc 1 (i 2)]) (O [m 50 0,o 51 (.sls (t 50) (some (i 2)) none),m 0 51])) (Q (O [m 53 0,lt 54 53,o 55 (.ar .geq (t 54) (i 3)),m 56 55,g 57 56 (.mv (t 0)),g 58 56 (.ixs (t
 57) (i 1)),⟨(some 59),(some (56,true)),(.call (.c (.fn (.func bC) [] [])) [(.t 58)])⟩,g 60 56 (.ar .eql (t 59) (u 111)),o 61 (.pk (t 56) (t 60) F),m 52
 61]) (C 52 (Q (O [mc 1 (i 8)]) (O [m 62 0,o 63 (.sls (t 62) (some (i 2)) none),m 0 63])) (Q (O [m 65 0,lt 66 65,o 67 (.ar .geq (t 66) (i 3)),m 68 67,g 69 68 (.mv (t 0)),g 70
 68 (.ixs (t 69) (i 1)),⟨(some 71),(some (68,true)),(.call (.c (.fn (.func bC) [] [])) [(.t 70)])⟩,g 72 68 (.ar .eql (t 71) (u 120)),o 73 (.pk (t 68) (t
 72) F),m 64 73]) (C 64 (Q (O [mc 1 (i 16)]) (O [m 74 0,o 75 (.sls (t 74) (some (i 2)) none),m 0 75])) (Q (O [mc 1 (i 8)]) (O [m 38 0,o 39 (.sls (t 38) (some (i 1)) none),m 0
 39]))))))))) X))) (Q (O [o 24 (.mi bU (i 3)),mc 6 (.c (.int .u64 0)),m 7 24]) R)))))) (Q (Q (O [m 76 2,o 77 (.ar .eql (t 76) (i 0))]) (C 77 (O [mc 2 (i 64)]) (Q (O
 [m 78 2,o 79 (.ar .lss (t 78) (i 0)),m 80 79,h 81 80 (.mv (t 2)),h 82 80 (.ar .gtr (t 81) (i 64)),o 83 (.pk (t 80) T (t 82))]) (C 83 (Q (O [o 84 (.mi bU (i 4)),mc
 6 (.c (.int .u64 0)),m 7 84]) R) X)))) (Q (O [mc 10 (.c (.int .u64 0))]) (Q (Q (O [m 85 1]) (.block 2 (Q (O [o 91 (.ar .eql (t 85) (i 10)),m 90 91]) (C 90 (O [mc 10 (.c (.int .u64
 1844674407370955162))]) (Q (O [o 93 (.ar .eql (t 85) (i 16)),m 92 93]) (C 92 (O [mc 10 (.c (.int .u64 1152921504606846976))]) (O [m 86 1,o 87 (.cvi .u64 (t 86)),o 88 (.ar .quo
 (.c (.int .u64 18446744073709551615)) (t 87)),o 89 (.ar .add (t 88) (.c (.int .u64 1))),m 10 89]))))))) (Q (O [m 94 2,o 95 (.cvi .u64 (t 94)),o 96 (.sh .shl (.c (.int .u64 1))
 (t 95)),o 97 (.ar .sub (t 96) (.c (.int .u64 1))),m 11 97]) (Q (O [mc 12 F]) (Q (O [mc 13 (.c (.int .u64 0))]) (Q (Q (O [m 98 0,o 99 (.cvsb (t 98)),ls 100 99,mc 101 (i 0)])
 (.block 3 (.loop ⟨none,[],false⟩ sZ))) (Q (Q (O [m 164 12,m 165 164,g 166 165 (.mv (t 9)),⟨(some 167),(some (165,true)),(.call (.c (.fn (.func
 sW) [] [])) [(.t 166)])⟩,g 168 165 (.un .not (t 167)),o 169 (.pk (t 165) (t 168) F)]) (C 169 (Q (O [o 170 (.mi bU (i 2)),mc 6 (.c (.int
 .u64 0)),m 7 170]) R) X)) (Q (O [m 171 13,m 6 171,mc 7 (.c .nilif)]) R))))))))))))))
def mo:AFn:=⟨uj,172,[.t 6,.t 7],.keep,[],none⟩
def uk:AC:=
 (Q (O [mc 2 (s [])]) (Q (Q (O [m 4 0,lt 5 4,o 6 (.ar .eql (t 5) (i 0))]) (C 6 (Q (O [mc 2 (s [])]) R) X)) (Q (O [m 7 0,lt 8 7,o 9 (.ms dG 1 [(.int .u8 0)] (t 8) (t 8)),m 3
 9]) (Q (O [m 10 3,m 11 0,o 12 (.cp 1 true (t 10) (t 11))]) (Q (O [m 13 3,o 14 (.ias 1 (t 13) (i 0)),m 15 3,ls 16 15,o 17 (.ust dG (t 14) (t 16)),m 2 17]) R)))))
def mq:AFn:=⟨uk,18,[.t 2],.keep,[],none⟩
def LN:AC:=
 (Q (O [mc 2 (.c .nilif)]) (Q (O [m 3 0,o 4 (.bd [(.str [])] [(0,1)] [(0,(t 3))]),o 5 (.bx Dm (t 4)),o 6 (.mi Bl (t 5)),m 2 6]) R))
def Fi:AFn:=⟨LN,7,[.t 2],.keep,[],none⟩
def xC:AC:=
 (Q (O [mc 2 (s [])]) (Q (Q (O [m 3 0,o 4 (.ar .lss (t 3) (i 10))]) (C 4 (Q (O [m 5 0,m 6 0,ad 7 6,o 8 (.sls (s [48,49,50,51,52,53,54,55,56,57,97,98,99,100,101,
 102,103,104,105,106,107,108,109,110,111,112,113,114,115,116,117,118,119,120,121,122]) (some (t 5)) (some (t 7))),m 2 8]) R) X)) (Q (O [m 9 0,o 10 (.ar .mul (t
 9) (i 2)),m 11 0,o 12 (.ar .mul (t 11) (i 2)),o 13 (.ar .add (t 12) (i 2)),o 14 (.sls (s [48,48,48,49,48,50,48,51,48,52,48,53,48,54,48,55,48,56,48,57,49,48,
 49,49,49,50,49,51,49,52,49,53,49,54,49,55,49,56,49,57,50,48,50,49,50,50,50,51,50,52,50,53,50,54,50,55,50,56,50,57,51,48,51,49,51,50,51,
 51,51,52,51,53,51,54,51,55,51,56,51,57,52,48,52,49,52,50,52,51,52,52,52,53,52,54,52,55,52,56,52,57,53,48,53,49,53,50,53,51,53,52,53,53,
 53,54,53,55,53,56,53,57,54,48,54,49,54,50,54,51,54,52,54,53,54,54,54,55,54,56,54,57,55,48,55,49,55,50,55,51,55,52,55,53,55,54,55,55,55,
 56,55,57,56,48,56,49,56,50,56,51,56,52,56,53,56,54,56,55,56,56,56,57,57,48,57,49,57,50,57,51,57,52,57,53,57,54,57,55,57,56,57,57]) (some (t
 10)) (some (t 13))),m 2 14]) R)))
def pJ:AFn:=⟨xC,15,[.t 2],.keep,[],none⟩
def um:AC:=
 (Q (O [mc 2 (i 0)]) (Q (O [m 4 0,k 5 (f GL) [(t 4)],k 6 (f uG) [(t 5)],m 3 6]) (Q (O [m 7 3,m 8 0,m 9 3,o 10 (.iaa 20 1 (.c .unk) (t
 9)),ld 11 10,o 12 (.ar .geq (t 8) (t 11)),k 13 (f uH) [(t 12)],o 14 (.ar .add (t 7) (t 13)),m 2 14]) R)))
def mr:AFn:=⟨um,15,[.t 2],.keep,[],none⟩
def qW:AC:=
 (Q (Q (O [m 19 4,o 20 (.ar .geq (t 19) (i 8))]) (C 20 X (.exit 0))) (.block 1 (Q (O [m 21 1,o 22 (.ar .rem (t 21) (.c (.int .u64 100000000))),o 23 (.cvi .u32 (t 22)),m 5 23]) (Q
 (O [m 24 1,o 25 (.ar .quo (t 24) (.c (.int .u64 100000000))),m 1 25]) (Q (O [m 26 5,o 27 (.ar .quo (t 26) (.c (.int .u32 10000))),m 28 5,o 29 (.ar .rem (t 28) (.c (.int .u32
 10000))),m 6 27,m 7 29]) (Q (O [m 30 7,o 31 (.ar .quo (t 30) (.c (.int .u32 100))),o 32 (.ar .mul (t 31) (.c (.int .u32 2))),m 33 7,o 34 (.ar .rem (t 33) (.c (.int .u32
 100))),o 35 (.ar .mul (t 34) (.c (.int .u32 2))),m 8 32,m 9 35]) (Q (O [m 36 6,o 37 (.ar .quo (t 36) (.c (.int .u32 100))),o 38 (.ar .mul (t 37) (.c (.int .u32 2))),m 39 6,o
 40 (.ar .rem (t 39) (.c (.int .u32 100))),o 41 (.ar .mul (t 40) (.c (.int .u32 2))),m 10 38,m 11 41]) (Q (D [P (m 42 0),P (m 43 4),P (o 44 (.ar .sub (t 43) (i 1))),P (m 45 0),
 P (m 46 4),P (o 47 (.ar .sub (t 46) (i 2))),P (m 48 9),P (o 49 (.ar .add (t 48) (.c (.int .u32 1)))),P (o 50 (.ixs (s [48,48,48,49,48,50,48,51,48,52,48,53,48,54,
 48,55,48,56,48,57,49,48,49,49,49,50,49,51,49,52,49,53,49,54,49,55,49,56,49,57,50,48,50,49,50,50,50,51,50,52,50,53,50,54,50,55,50,56,50,
 57,51,48,51,49,51,50,51,51,51,52,51,53,51,54,51,55,51,56,51,57,52,48,52,49,52,50,52,51,52,52,52,53,52,54,52,55,52,56,52,57,53,48,53,49,
 53,50,53,51,53,52,53,53,53,54,53,55,53,56,53,57,54,48,54,49,54,50,54,51,54,52,54,53,54,54,54,55,54,56,54,57,55,48,55,49,55,50,55,51,55,
 52,55,53,55,54,55,55,55,56,55,57,56,48,56,49,56,50,56,51,56,52,56,53,56,54,56,55,56,56,56,57,57,48,57,49,57,50,57,51,57,52,57,53,57,54,
 57,55,57,56,57,57]) (t 49))),P (m 51 9),P (o 52 (.ixs (s [48,48,48,49,48,50,48,51,48,52,48,53,48,54,48,55,48,56,48,57,49,48,49,49,49,50,49,51,49,
 52,49,53,49,54,49,55,49,56,49,57,50,48,50,49,50,50,50,51,50,52,50,53,50,54,50,55,50,56,50,57,51,48,51,49,51,50,51,51,51,52,51,53,51,54,
 51,55,51,56,51,57,52,48,52,49,52,50,52,51,52,52,52,53,52,54,52,55,52,56,52,57,53,48,53,49,53,50,53,51,53,52,53,53,53,54,53,55,53,56,53,
 57,54,48,54,49,54,50,54,51,54,52,54,53,54,54,54,55,54,56,54,57,55,48,55,49,55,50,55,51,55,52,55,53,55,54,55,55,55,56,55,57,56,48,56,49,
 56,50,56,51,56,52,56,53,56,54,56,55,56,56,56,57,57,48,57,49,57,50,57,51,57,52,57,53,57,54,57,55,57,56,57,57]) (t 51))),P (ia 53 1 42 44),E (n
 (.st 1 (t 53) (t 50))),P (ia 54 1 45 47),E (n (.st 1 (t 54) (t 52)))]) (Q (D [P (m 55 0),P (m 56 4),P (o 57 (.ar .sub (t 56) (i 3))),P (m 58 0),P (m 59 4),P (o 60 (.ar .sub
 (t 59) (i 4))),P (m 61 8),P (o 62 (.ar .add (t 61) (.c (.int .u32 1)))),P (o 63 (.ixs (s [48,48,48,49,48,50,48,51,48,52,48,53,48,54,48,55,48,56,48,57,49,48,
 49,49,49,50,49,51,49,52,49,53,49,54,49,55,49,56,49,57,50,48,50,49,50,50,50,51,50,52,50,53,50,54,50,55,50,56,50,57,51,48,51,49,51,50,51,
 51,51,52,51,53,51,54,51,55,51,56,51,57,52,48,52,49,52,50,52,51,52,52,52,53,52,54,52,55,52,56,52,57,53,48,53,49,53,50,53,51,53,52,53,53,
 53,54,53,55,53,56,53,57,54,48,54,49,54,50,54,51,54,52,54,53,54,54,54,55,54,56,54,57,55,48,55,49,55,50,55,51,55,52,55,53,55,54,55,55,55,
 56,55,57,56,48,56,49,56,50,56,51,56,52,56,53,56,54,56,55,56,56,56,57,57,48,57,49,57,50,57,51,57,52,57,53,57,54,57,55,57,56,57,57]) (t
 62))),P (m 64 8),P (o 65 (.ixs (s [48,48,48,49,48,50,48,51,48,52,48,53,48,54,48,55,48,56,48,57,49,48,49,49,49,50,49,51,49,52,49,53,49,54,49,55,
 49,56,49,57,50,48,50,49,50,50,50,51,50,52,50,53,50,54,50,55,50,56,50,57,51,48,51,49,51,50,51,51,51,52,51,53,51,54,51,55,51,56,51,57,52,
 48,52,49,52,50,52,51,52,52,52,53,52,54,52,55,52,56,52,57,53,48,53,49,53,50,53,51,53,52,53,53,53,54,53,55,53,56,53,57,54,48,54,49,54,50,
 54,51,54,52,54,53,54,54,54,55,54,56,54,57,55,48,55,49,55,50,55,51,55,52,55,53,55,54,55,55,55,56,55,57,56,48,56,49,56,50,56,51,56,52,56,
 53,56,54,56,55,56,56,56,57,57,48,57,49,57,50,57,51,57,52,57,53,57,54,57,55,57,56,57,57]) (t 64))),P (ia 66 1 55 57),E (n (.st 1 (t 66) (t 63))),P (ia
 67 1 58 60),E (n (.st 1 (t 67) (t 65)))]) (Q (D [P (m 68 0),P (m 69 4),P (o 70 (.ar .sub (t 69) (i 5))),P (m 71 0),P (m 72 4),P (o 73 (.ar .sub (t 72) (i 6))),P (m 74 11),P
 (o 75 (.ar .add (t 74) (.c (.int .u32 1)))),P (o 76 (.ixs (s [48,48,48,49,48,50,48,51,48,52,48,53,48,54,48,55,48,56,48,57,49,48,49,49,49,50,49,51,49,
 52,49,53,49,54,49,55,49,56,49,57,50,48,50,49,50,50,50,51,50,52,50,53,50,54,50,55,50,56,50,57,51,48,51,49,51,50,51,51,51,52,51,53,51,54,
 51,55,51,56,51,57,52,48,52,49,52,50,52,51,52,52,52,53,52,54,52,55,52,56,52,57,53,48,53,49,53,50,53,51,53,52,53,53,53,54,53,55,53,56,53,
 57,54,48,54,49,54,50,54,51,54,52,54,53,54,54,54,55,54,56,54,57,55,48,55,49,55,50,55,51,55,52,55,53,55,54,55,55,55,56,55,57,56,48,56,49,
 56,50,56,51,56,52,56,53,56,54,56,55,56,56,56,57,57,48,57,49,57,50,57,51,57,52,57,53,57,54,57,55,57,56,57,57]) (t 75))),P (m 77 11),P (o 78 (.ixs
 (s [48,48,48,49,48,50,48,51,48,52,48,53,48,54,48,55,48,56,48,57,49,48,49,49,49,50,49,51,49,52,49,53,49,54,49,55,49,56,49,57,50,48,50,49,
 50,50,50,51,50,52,50,53,50,54,50,55,50,56,50,57,51,48,51,49,51,50,51,51,51,52,51,53,51,54,51,55,51,56,51,57,52,48,52,49,52,50,52,51,52,
 52,52,53,52,54,52,55,52,56,52,57,53,48,53,49,53,50,53,51,53,52,53,53,53,54,53,55,53,56,53,57,54,48,54,49,54,50,54,51,54,52,54,53,54,54,
 54,55,54,56,54,57,55,48,55,49,55,50,55,51,55,52,55,53,55,54,55,55,55,56,55,57,56,48,56,49,56,50,56,51,56,52,56,53,56,54,56,55,56,56,56,
 57,57,48,57,49,57,50,57,51,57,52,57,53,57,54,57,55,57,56,57,57]) (t 77))),P (ia 79 1 68 70),E (n (.st 1 (t 79) (t 76))),P (ia 80 1 71 73),E (n (.st 1 (t 80)
 (t 78)))]) (Q (D [P (m 81 0),P (m 82 4),P (o 83 (.ar .sub (t 82) (i 7))),P (m 84 0),P (m 85 4),P (o 86 (.ar .sub (t 85) (i 8))),P (m 87 10),P (o 88 (.ar .add (t 87) (.c (.int
 .u32 1)))),P (o 89 (.ixs (s [48,48,48,49,48,50,48,51,48,52,48,53,48,54,48,55,48,56,48,57,49,48,49,49,49,50,49,51,49,52,49,53,49,54,49,55,49,56,
 49,57,50,48,50,49,50,50,50,51,50,52,50,53,50,54,50,55,50,56,50,57,51,48,51,49,51,50,51,51,51,52,51,53,51,54,51,55,51,56,51,57,52,48,52,
 49,52,50,52,51,52,52,52,53,52,54,52,55,52,56,52,57,53,48,53,49,53,50,53,51,53,52,53,53,53,54,53,55,53,56,53,57,54,48,54,49,54,50,54,51,
 54,52,54,53,54,54,54,55,54,56,54,57,55,48,55,49,55,50,55,51,55,52,55,53,55,54,55,55,55,56,55,57,56,48,56,49,56,50,56,51,56,52,56,53,56,
 54,56,55,56,56,56,57,57,48,57,49,57,50,57,51,57,52,57,53,57,54,57,55,57,56,57,57]) (t 88))),P (m 90 10),P (o 91 (.ixs (s [48,48,48,49,48,50,48,51,
 48,52,48,53,48,54,48,55,48,56,48,57,49,48,49,49,49,50,49,51,49,52,49,53,49,54,49,55,49,56,49,57,50,48,50,49,50,50,50,51,50,52,50,53,50,
 54,50,55,50,56,50,57,51,48,51,49,51,50,51,51,51,52,51,53,51,54,51,55,51,56,51,57,52,48,52,49,52,50,52,51,52,52,52,53,52,54,52,55,52,56,
 52,57,53,48,53,49,53,50,53,51,53,52,53,53,53,54,53,55,53,56,53,57,54,48,54,49,54,50,54,51,54,52,54,53,54,54,54,55,54,56,54,57,55,48,55,
 49,55,50,55,51,55,52,55,53,55,54,55,55,55,56,55,57,56,48,56,49,56,50,56,51,56,52,56,53,56,54,56,55,56,56,56,57,57,48,57,49,57,50,57,51,
 57,52,57,53,57,54,57,55,57,56,57,57]) (t 90))),P (ia 92 1 81 83),E (n (.st 1 (t 92) (t 89))),P (ia 93 1 84 86),E (n (.st 1 (t 93) (t 91)))]) (O [m 94 4,o 95 (.ar
 .sub (t 94) (i 8)),m 4 95]))))))))))))
def sC:AC:=
 (Q (O [m 17 0,ls 18 17,m 4 18]) (Q (.block 0 (.loop ⟨none,[],false⟩ qW)) (Q (O [m 96 1,o 97 (.cvi .u32 (t 96)),m 12 97]) (Q (Q (O [m 98 4,o 99
 (.ar .geq (t 98) (i 4))]) (C 99 (Q (O [m 100 12,o 101 (.ar .rem (t 100) (.c (.int .u32 10000))),m 13 101]) (Q (O [m 102 12,o 103 (.ar .quo (t 102) (.c (.int .u32 10000))),m 12
 103]) (Q (O [m 104 13,o 105 (.ar .quo (t 104) (.c (.int .u32 100))),o 106 (.ar .mul (t 105) (.c (.int .u32 2))),m 107 13,o 108 (.ar .rem (t 107) (.c (.int .u32 100))),o 109
 (.ar .mul (t 108) (.c (.int .u32 2))),m 14 106,m 15 109]) (Q (D [P (m 110 0),P (m 111 4),P (o 112 (.ar .sub (t 111) (i 1))),P (m 113 0),P (m 114 4),P (o 115 (.ar .sub (t 114)
 (i 2))),P (m 116 15),P (o 117 (.ar .add (t 116) (.c (.int .u32 1)))),P (o 118 (.ixs (s [48,48,48,49,48,50,48,51,48,52,48,53,48,54,48,55,48,56,48,57,49,48,
 49,49,49,50,49,51,49,52,49,53,49,54,49,55,49,56,49,57,50,48,50,49,50,50,50,51,50,52,50,53,50,54,50,55,50,56,50,57,51,48,51,49,51,50,51,
 51,51,52,51,53,51,54,51,55,51,56,51,57,52,48,52,49,52,50,52,51,52,52,52,53,52,54,52,55,52,56,52,57,53,48,53,49,53,50,53,51,53,52,53,53,
 53,54,53,55,53,56,53,57,54,48,54,49,54,50,54,51,54,52,54,53,54,54,54,55,54,56,54,57,55,48,55,49,55,50,55,51,55,52,55,53,55,54,55,55,55,
 56,55,57,56,48,56,49,56,50,56,51,56,52,56,53,56,54,56,55,56,56,56,57,57,48,57,49,57,50,57,51,57,52,57,53,57,54,57,55,57,56,57,57]) (t
 117))),P (m 119 15),P (o 120 (.ixs (s [48,48,48,49,48,50,48,51,48,52,48,53,48,54,48,55,48,56,48,57,49,48,49,49,49,50,49,51,49,52,49,53,49,54,49,
 55,49,56,49,57,50,48,50,49,50,50,50,51,50,52,50,53,50,54,50,55,50,56,50,57,51,48,51,49,51,50,51,51,51,52,51,53,51,54,51,55,51,56,51,57,
 52,48,52,49,52,50,52,51,52,52,52,53,52,54,52,55,52,56,52,57,53,48,53,49,53,50,53,51,53,52,53,53,53,54,53,55,53,56,53,57,54,48,54,49,54,
 50,54,51,54,52,54,53,54,54,54,55,54,56,54,57,55,48,55,49,55,50,55,51,55,52,55,53,55,54,55,55,55,56,55,57,56,48,56,49,56,50,56,51,56,52,
 56,53,56,54,56,55,56,56,56,57,57,48,57,49,57,50,57,51,57,52,57,53,57,54,57,55,57,56,57,57]) (t 119))),P (ia 121 1 110 112),E (n (.st 1 (t 121) (t
 118))),P (ia 122 1 113 115),E (n (.st 1 (t 122) (t 120)))]) (Q (D [P (m 123 0),P (m 124 4),P (o 125 (.ar .sub (t 124) (i 3))),P (m 126 0),P (m 127 4),P (o 128 (.ar .sub (t
 127) (i 4))),P (m 129 14),P (o 130 (.ar .add (t 129) (.c (.int .u32 1)))),P (o 131 (.ixs (s [48,48,48,49,48,50,48,51,48,52,48,53,48,54,48,55,48,56,48,57,49,
 48,49,49,49,50,49,51,49,52,49,53,49,54,49,55,49,56,49,57,50,48,50,49,50,50,50,51,50,52,50,53,50,54,50,55,50,56,50,57,51,48,51,49,51,50,
 51,51,51,52,51,53,51,54,51,55,51,56,51,57,52,48,52,49,52,50,52,51,52,52,52,53,52,54,52,55,52,56,52,57,53,48,53,49,53,50,53,51,53,52,53,
 53,53,54,53,55,53,56,53,57,54,48,54,49,54,50,54,51,54,52,54,53,54,54,54,55,54,56,54,57,55,48,55,49,55,50,55,51,55,52,55,53,55,54,55,55,
 55,56,55,57,56,48,56,49,56,50,56,51,56,52,56,53,56,54,56,55,56,56,56,57,57,48,57,49,57,50,57,51,57,52,57,53,57,54,57,55,57,56,57,57]) (t
 130))),P (m 132 14),P (o 133 (.ixs (s [48,48,48,49,48,50,48,51,48,52,48,53,48,54,48,55,48,56,48,57,49,48,49,49,49,50,49,51,49,52,49,53,49,54,49,
 55,49,56,49,57,50,48,50,49,50,50,50,51,50,52,50,53,50,54,50,55,50,56,50,57,51,48,51,49,51,50,51,51,51,52,51,53,51,54,51,55,51,56,51,57,
 52,48,52,49,52,50,52,51,52,52,52,53,52,54,52,55,52,56,52,57,53,48,53,49,53,50,53,51,53,52,53,53,53,54,53,55,53,56,53,57,54,48,54,49,54,
 50,54,51,54,52,54,53,54,54,54,55,54,56,54,57,55,48,55,49,55,50,55,51,55,52,55,53,55,54,55,55,55,56,55,57,56,48,56,49,56,50,56,51,56,52,
 56,53,56,54,56,55,56,56,56,57,57,48,57,49,57,50,57,51,57,52,57,53,57,54,57,55,57,56,57,57]) (t 132))),P (ia 134 1 123 125),E (n (.st 1 (t 134) (t
 131))),P (ia 135 1 126 128),E (n (.st 1 (t 135) (t 133)))]) (O [m 136 4,o 137 (.ar .sub (t 136) (i 4)),m 4 137])))))) X)) (Q (Q (O [m 138 4,o 139 (.ar .geq (t 138) (i 2))]) (C
 139 (Q (O [m 140 12,o 141 (.ar .rem (t 140) (.c (.int .u32 100))),o 142 (.ar .mul (t 141) (.c (.int .u32 2))),m 16 142]) (Q (O [m 143 12,o 144 (.ar .quo (t 143) (.c (.int .u32
 100))),m 12 144]) (Q (D [P (m 145 0),P (m 146 4),P (o 147 (.ar .sub (t 146) (i 1))),P (m 148 0),P (m 149 4),P (o 150 (.ar .sub (t 149) (i 2))),P (m 151 16),P (o 152 (.ar
 .add (t 151) (.c (.int .u32 1)))),P (o 153 (.ixs (s [48,48,48,49,48,50,48,51,48,52,48,53,48,54,48,55,48,56,48,57,49,48,49,49,49,50,49,51,49,52,49,53,
 49,54,49,55,49,56,49,57,50,48,50,49,50,50,50,51,50,52,50,53,50,54,50,55,50,56,50,57,51,48,51,49,51,50,51,51,51,52,51,53,51,54,51,55,51,
 56,51,57,52,48,52,49,52,50,52,51,52,52,52,53,52,54,52,55,52,56,52,57,53,48,53,49,53,50,53,51,53,52,53,53,53,54,53,55,53,56,53,57,54,48,
 54,49,54,50,54,51,54,52,54,53,54,54,54,55,54,56,54,57,55,48,55,49,55,50,55,51,55,52,55,53,55,54,55,55,55,56,55,57,56,48,56,49,56,50,56,
 51,56,52,56,53,56,54,56,55,56,56,56,57,57,48,57,49,57,50,57,51,57,52,57,53,57,54,57,55,57,56,57,57]) (t 152))),P (m 154 16),P (o 155 (.ixs (s [48,
 48,48,49,48,50,48,51,48,52,48,53,48,54,48,55,48,56,48,57,49,48,49,49,49,50,49,51,49,52,49,53,49,54,49,55,49,56,49,57,50,48,50,49,50,50,
 50,51,50,52,50,53,50,54,50,55,50,56,50,57,51,48,51,49,51,50,51,51,51,52,51,53,51,54,51,55,51,56,51,57,52,48,52,49,52,50,52,51,52,52,52,
 53,52,54,52,55,52,56,52,57,53,48,53,49,53,50,53,51,53,52,53,53,53,54,53,55,53,56,53,57,54,48,54,49,54,50,54,51,54,52,54,53,54,54,54,55,
 54,56,54,57,55,48,55,49,55,50,55,51,55,52,55,53,55,54,55,55,55,56,55,57,56,48,56,49,56,50,56,51,56,52,56,53,56,54,56,55,56,56,56,57,57,
 48,57,49,57,50,57,51,57,52,57,53,57,54,57,55,57,56,57,57]) (t 154))),P (ia 156 1 145 147),E (n (.st 1 (t 156) (t 153))),P (ia 157 1 148 150),E (n (.st 1 (t
 157) (t 155)))]) (O [m 158 4,o 159 (.ar .sub (t 158) (i 2)),m 4 159])))) X)) (Q (O [m 160 4,o 161 (.ar .gtr (t 160) (i 0))]) (C 161 (O [m 162 0,m 163 12,o 164 (.ar .add (.c
 (.int .u32 48)) (t 163)),o 165 (.cvi .u8 (t 164)),o 166 (.ias 1 (t 162) (i 0)),n (.st 1 (t 166) (t 165))]) X)))))))
def kN:AFn:=⟨sC,167,[],.keep,[],none⟩
def sD:AC:=
 (Q (Q (O [m 44 1,m 45 15,o 46 (.ar .geq (t 44) (t 45))]) (C 46 X (.exit 0))) (.block 1 (Q (O [m 47 13,o 48 (.ar .sub (t 47) (i 1)),m 13 48]) (Q (O [m 49 13,m 50 1,m 51 16,o
 52 (.ar .and (t 50) (t 51)),o 53 (.ixs (s [48,49,50,51,52,53,54,55,56,57,97,98,99,100,101,102,103,104,105,106,107,108,109,110,111,112,113,114,115,116,
 117,118,119,120,121,122]) (t 52)),o 54 (.iaa 65 1 (t 12) (t 49)),n (.st 1 (t 54) (t 53))]) (O [m 55 1,m 56 14,o 57 (.sh .shr (t 55) (t 56)),m 1 57])))))
def sE:AC:=
 (Q (Q (O [m 66 1,m 67 17,o 68 (.ar .geq (t 66) (t 67))]) (C 68 X (.exit 2))) (.block 3 (Q (O [m 69 13,o 70 (.ar .sub (t 69) (i 1)),m 13 70]) (Q (O [m 71 1,m 72 17,o 73 (.ar
 .quo (t 71) (t 72)),m 18 73]) (Q (O [m 74 13,m 75 1,m 76 18,m 77 17,o 78 (.ar .mul (t 76) (t 77)),o 79 (.ar .sub (t 75) (t 78)),o 80 (.ixs (s [48,49,50,51,52,53,54,55,
 56,57,97,98,99,100,101,102,103,104,105,106,107,108,109,110,111,112,113,114,115,116,117,118,119,120,121,122]) (t 79)),o 81 (.iaa 65 1 (t 12) (t 74)),n
 (.st 1 (t 81) (t 80))]) (O [m 82 18,m 1 82]))))))
def tC:AC:=
 (Q (O [mc 10 (.c (.slice .nil 1 [])),mc 11 (s [])]) (Q (Q (O [m 19 2,o 20 (.ar .lss (t 19) (i 2)),m 21 20,h 22 21 (.mv (t 2)),h 23 21 (.ar .eql (t 22) (i 10)),o 24 (.pk (t 21)
 T (t 23)),m 25 24,h 26 25 (.mv (t 2)),h 27 25 (.ar .gtr (t 26) (i 36)),o 28 (.pk (t 25) T (t 27))]) (C 28 (O [o 29 (.mi bu (s [115,116,114,99,111,110,118,58,32,
 105,108,108,101,103,97,108,32,65,112,112,101,110,100,73,110,116,47,70,111,114,109,97,116,73,110,116,32,98,97,115,101])),⟨none,none,(.panic (.t
 29))⟩]) X)) (Q (O [o 12 (.nw [(.int .u8 0),(.int .u8 0),(.int .u8 0),(.int .u8 0),(.int .u8 0),(.int .u8 0),(.int .u8 0),(.int .u8 0),(.int .u8 0),(.int .u8 0),(.int .u8
 0),(.int .u8 0),(.int .u8 0),(.int .u8 0),(.int .u8 0),(.int .u8 0),(.int .u8 0),(.int .u8 0),(.int .u8 0),(.int .u8 0),(.int .u8 0),(.int .u8 0),(.int .u8 0),(.int .u8
 0),(.int .u8 0),(.int .u8 0),(.int .u8 0),(.int .u8 0),(.int .u8 0),(.int .u8 0),(.int .u8 0),(.int .u8 0),(.int .u8 0),(.int .u8 0),(.int .u8 0),(.int .u8 0),(.int .u8
 0),(.int .u8 0),(.int .u8 0),(.int .u8 0),(.int .u8 0),(.int .u8 0),(.int .u8 0),(.int .u8 0),(.int .u8 0),(.int .u8 0),(.int .u8 0),(.int .u8 0),(.int .u8 0),(.int .u8
 0),(.int .u8 0),(.int .u8 0),(.int .u8 0),(.int .u8 0),(.int .u8 0),(.int .u8 0),(.int .u8 0),(.int .u8 0),(.int .u8 0),(.int .u8 0),(.int .u8 0),(.int .u8 0),(.int .u8
 0),(.int .u8 0),(.int .u8 0)] Qj)]) (Q (O [mc 13 (i 65)]) (Q (Q (O [m 30 3]) (C 30 (O [m 31 1,o 32 (.un .neg (t 31)),m 1 32]) X)) (Q (Q (O [m 33 2,k 34 (f
 sX) [(t 33)]]) (C 34 (Q (O [m 35 2,o 36 (.cvi .u64 (t 35)),k 37 (f xp) [(t 36)],o 38 (.cvi .u64 (t 37)),m 14 38]) (Q (O [m 39
 2,o 40 (.cvi .u64 (t 39)),m 15 40]) (Q (O [m 41 2,o 42 (.cvi .u64 (t 41)),o 43 (.ar .sub (t 42) (.c (.int .u64 1))),m 16 43]) (Q (.block 0 (.loop ⟨none,[],false⟩
 sD)) (Q (O [m 58 13,o 59 (.ar .sub (t 58) (i 1)),m 13 59]) (O [m 60 13,m 61 1,o 62 (.ixs (s [48,49,50,51,52,53,54,55,56,57,97,98,99,
 100,101,102,103,104,105,106,107,108,109,110,111,112,113,114,115,116,117,118,119,120,121,122]) (t 61)),o 63 (.iaa 65 1 (t 12) (t 60)),n (.st 1 (t 63) (t
 62))])))))) (Q (O [m 64 2,o 65 (.cvi .u64 (t 64)),m 17 65]) (Q (.block 2 (.loop ⟨none,[],false⟩ sE)) (Q (O [m 83 13,o 84 (.ar .sub (t 83) (i 1)),
 m 13 84]) (O [m 85 13,m 86 1,o 87 (.ixs (s [48,49,50,51,52,53,54,55,56,57,97,98,99,100,101,102,103,104,105,106,107,108,109,110,111,112,113,114,115,
 116,117,118,119,120,121,122]) (t 86)),o 88 (.iaa 65 1 (t 12) (t 85)),n (.st 1 (t 88) (t 87))])))))) (Q (Q (O [m 89 3]) (C 89 (Q (O [m 90 13,o 91 (.ar .sub (t 90) (i 1)),m
 13 91]) (O [m 92 13,o 93 (.iaa 65 1 (t 12) (t 92)),n (.st 1 (t 93) (u 45))])) X)) (Q (Q (O [m 94 4]) (C 94 (Q (O [m 95 0,m 96 13,o 97 (.sla 65 1 (t 12) (some (t 96)) none),o 98
 (.ap false dG 1 1 false (t 95) (t 97)),m 10 98]) R) X)) (Q (O [m 99 13,o 100 (.sla 65 1 (t 12) (some (t 99)) none),o 101 (.cvbs (t 100)),m 11 101]) R)))))))))
def lZ:AFn:=⟨tC,102,[.t 10,.t 11],.keep,[],none⟩
def xD:AC:=
 (Q (O [mc 2 (u 0)]) (Q (O [m 3 0,o 4 (.ar .or (t 3) (u 32)),m 2 4]) R))
def pK:AFn:=⟨xD,5,[.t 2],.keep,[],none⟩
def qX:AC:=
 (Q (Q (O [m 51 4,m 52 0,lt 53 52,bl 54 51 53]) (C 54 X (.exit 0))) (Q (.block 1 (Q (Q (O [m 57 0,m 58 4,o 59 (.ixs (t 57) (t 58)),o 60 (.ar .leq (u 48) (t 59)),m 61 60,g 62
 61 (.mv (t 0)),g 63 61 (.mv (t 4)),g 64 61 (.ixs (t 62) (t 63)),g 65 61 (.ar .leq (t 64) (u 57)),o 66 (.pk (t 61) (t 65) F),m 67 66,h 68 67 (.mv (t 5)),h 69 67 (.mv (t 68)),
 g 70 69 (.mv (t 0)),g 71 69 (.mv (t 4)),g 72 69 (.ixs (t 70) (t 71)),⟨(some 73),(some (69,true)),(.call (.c (.fn (.func bC) [] [])) [(.t 72)])⟩,g 74 69
 (.ar .leq (u 97) (t 73)),h 75 67 (.pk (t 69) (t 74) F),h 76 67 (.mv (t 75)),g 77 76 (.mv (t 0)),g 78 76 (.mv (t 4)),g 79 76 (.ixs (t 77) (t 78)),⟨(some 80),(some (76,true)),
 (.call (.c (.fn (.func bC) [] [])) [(.t 79)])⟩,g 81 76 (.ar .leq (t 80) (u 102)),h 82 67 (.pk (t 76) (t 81) F),o 83 (.pk (t 67) T (t 82))]) (C 83 (Q (O [mc
 3 (.c (.int .i32 48))]) (.exit 1)) X)) (Q (Q (O [m 84 0,m 85 4,o 86 (.ixs (t 84) (t 85)),o 87 (.ar .eql (t 86) (u 95))]) (C 87 (Q (Q (O [m 88 3,o 89 (.ar .neq (t 88) (.c (.int
 .i32 48)))]) (C 89 (Q (O [mc 2 F]) R) X)) (Q (O [mc 3 (.c (.int .i32 95))]) (.exit 1))) X)) (Q (Q (O [m 90 3,o 91 (.ar .eql (t 90) (.c (.int .i32 95)))]) (C 91 (Q (O [mc 2 F]) R)
 X)) (O [mc 3 (.c (.int .i32 33))]))))) (O [m 55 4,ad 56 55,m 4 56])))
def sF:AC:=
 (Q (O [mc 2 F]) (Q (O [mc 3 (.c (.int .i32 94))]) (Q (O [mc 4 (i 0)]) (Q (Q (O [m 6 0,lt 7 6,o 8 (.ar .geq (t 7) (i 1)),m 9 8,g 10 9 (.mv (t 0)),g 11 9 (.ixs (t 10) (i 0)),g
 12 9 (.ar .eql (t 11) (u 45)),g 13 9 (.mv (t 12)),h 14 13 (.mv (t 0)),h 15 13 (.ixs (t 14) (i 0)),h 16 13 (.ar .eql (t 15) (u 43)),g 17 9 (.pk (t 13) T (t 16)),o 18 (.pk (t 9)
 (t 17) F)]) (C 18 (O [m 19 0,o 20 (.sls (t 19) (some (i 1)) none),m 0 20]) X)) (Q (O [mc 5 F]) (Q (Q (O [m 21 0,lt 22 21,o 23 (.ar .geq (t 22) (i 2)),m 24 23,g 25 24 (.mv (t
 0)),g 26 24 (.ixs (t 25) (i 0)),g 27 24 (.ar .eql (t 26) (u 48)),o 28 (.pk (t 24) (t 27) F),m 29 28,g 30 29 (.mv (t 0)),g 31 29 (.ixs (t 30) (i 1)),⟨(some 32),(some (29,
 true)),(.call (.c (.fn (.func bC) [] [])) [(.t 31)])⟩,g 33 29 (.ar .eql (t 32) (u 98)),g 34 29 (.mv (t 33)),h 35 34 (.mv (t 0)),h 36 34 (.ixs (t 35) (i
 1)),⟨(some 37),(some (34,false)),(.call (.c (.fn (.func bC) [] [])) [(.t 36)])⟩,h 38 34 (.ar .eql (t 37) (u 111)),g 39 29 (.pk (t 34) T (t 38)),g 40 29
 (.mv (t 39)),h 41 40 (.mv (t 0)),h 42 40 (.ixs (t 41) (i 1)),⟨(some 43),(some (40,false)),(.call (.c (.fn (.func bC) [] [])) [(.t 42)])⟩,h 44 40 (.ar
 .eql (t 43) (u 120)),g 45 29 (.pk (t 40) T (t 44)),o 46 (.pk (t 29) (t 45) F)]) (C 46 (Q (O [mc 4 (i 2)]) (Q (O [mc 3 (.c (.int .i32 48))]) (O [m 47 0,o 48 (.ixs (t 47) (i 1)),k
 49 (f bC) [(t 48)],o 50 (.ar .eql (t 49) (u 120)),m 5 50]))) X)) (Q (.block 0 (.loop ⟨none,[],false⟩ qX)) (Q (O [m 92 3,o
 93 (.ar .neq (t 92) (.c (.int .i32 95))),m 2 93]) R))))))))
def kO:AFn:=⟨sF,94,[.t 2],.keep,[],none⟩
def uo:AC:=
 (Q (O [mc 2 (i 0)]) (Q (O [m 3 0,o 4 (.ar .mul (t 3) (i 78913)),o 5 (.sh .shr (t 4) (.c (.int .u64 18))),m 2 5]) R))
def mw:AFn:=⟨uo,6,[.t 2],.keep,[],none⟩
def uq:AC:=
 (Q (O [mc 2 (i 0)]) (Q (Q (O [m 3 0]) (C 3 (Q (O [mc 2 (i 1)]) R) X)) (Q (O [mc 2 (i 0)]) R)))
def my:AFn:=⟨uq,4,[.t 2],.keep,[],none⟩
def sG:AC:=
 (Q (O [mc 2 F]) (Q (O [m 3 0,m 4 0,o 5 (.ar .sub (t 4) (i 1)),o 6 (.ar .and (t 3) (t 5)),o 7 (.ar .eql (t 6) (i 0)),m 2 7]) R))
def kP:AFn:=⟨sG,8,[.t 2],.keep,[],none⟩
def wL:AC:=
 (Q (O [mc 2 (i 0)]) (Q (.cond (.c (.bool false)) (Q (O [m 3 0,o 4 (.cvi .u32 (t 3)),k 5 (f vk) [(t 4)],m 2 5]) R) X) (Q (O [m 6 0,k 7 (f
 vl) [(t 6)],m 2 7]) R)))
def ph:AFn:=⟨wL,8,[.t 2],.keep,[],none⟩
def uX:AC:=
 (Q (O [mc 2 (i 0)]) (Q (Q (O [m 3 0,o 4 (.ar .eql (t 3) (.c (.int .u32 0)))]) (C 4 (Q (O [mc 2 (i 32)]) R) X)) (Q (O [m 5 0,m 6 0,o 7 (.un .neg (t 6)),o 8 (.ar .and (t 5) (t
 7)),o 9 (.ar .mul (t 8) (.c (.int .u32 125613361))),o 10 (.sh .shr (t 9) (.c (.int .u64 27))),o 11 (.iaa 32 1 (.c .unk) (t 10)),ld 12 11,o 13 (.cvi .i64 (t 12)),m 2 13]) R)))
def nM:AFn:=⟨uX,14,[.t 2],.keep,[],none⟩
def uY:AC:=
 (Q (O [mc 2 (i 0)]) (Q (Q (O [m 3 0,o 4 (.ar .eql (t 3) (.c (.int .u64 0)))]) (C 4 (Q (O [mc 2 (i 64)]) R) X)) (Q (O [m 5 0,m 6 0,o 7 (.un .neg (t 6)),o 8 (.ar .and (t 5) (t
 7)),o 9 (.ar .mul (t 8) (.c (.int .u64 285870213051353865))),o 10 (.sh .shr (t 9) (.c (.int .u64 58))),o 11 (.iaa 64 1 (.c .unk) (t 10)),ld 12 11,o 13 (.cvi .i64 (t 12)),m 2
 13]) R)))
def nN:AFn:=⟨uY,14,[.t 2],.keep,[],none⟩
def Wr(f:FuncId):Option AFn:=(bif Nat.blt f 144 then (bif Nat.blt f 78 then (bif Nat.blt f 56 then (bif Nat.blt f 33 then (bif Nat.blt f 24 then (bif Nat.blt f 22 then (bif Nat.blt f 15 then (bif Nat.beq f 8 then some sk else none) else (bif Nat.beq f 15 then some Fe else none)) else (bif Nat.blt f 23 then (bif Nat.beq f 22 then some Dw else none) else (bif Nat.beq f 23 then some Dx else none))) else (bif Nat.blt f 30 then (bif Nat.blt f 29 then (bif Nat.beq f 24 then some Ff else none) else (bif Nat.beq f 29 then some sm else none)) else (bif Nat.blt f 32 then (bif Nat.beq f 30 then some sn else none) else (bif Nat.beq f 32 then some kM else none)))) else (bif Nat.blt f 51 then (bif Nat.blt f 49 then (bif Nat.blt f 34 then (bif Nat.beq f 33 then some Dy else none) else (bif Nat.beq f 34 then some iz else none)) else (bif Nat.blt f 50 then (bif Nat.beq f 49 then some An else none) else (bif Nat.beq f 50 then some ue else none))) else (bif Nat.blt f 53 then (bif Nat.blt f 52 then (bif Nat.beq f 51 then some DB else none) else (bif Nat.beq f 52 then some rq else none)) else (bif Nat.blt f 54 then (bif Nat.beq f 53 then some Ao else none) else (bif Nat.blt f 55 then (bif Nat.beq f 54 then some rr else none) else (bif Nat.beq f 55 then some so else none)))))) else (bif Nat.blt f 65 then (bif Nat.blt f 60 then (bif Nat.blt f 58 then (bif Nat.blt f 57 then (bif Nat.beq f 56 then some Ap else none) else (bif Nat.beq f 57 then some ru else none)) else (bif Nat.blt f 59 then (bif Nat.beq f 58 then some sq else none) else (bif Nat.beq f 59 then some Aq else none))) else (bif Nat.blt f 62 then (bif Nat.blt f 61 then (bif Nat.beq f 60 then some ry else none) else (bif Nat.beq f 61 then some sr else none)) else (bif Nat.blt f 63 then (bif Nat.beq f 62 then some Ar else none) else (bif Nat.blt f 64 then (bif Nat.beq f 63 then some rz else none) else (bif Nat.beq f 64 then some ss else none))))) else (bif Nat.blt f 69 then (bif Nat.blt f 67 then (bif Nat.blt f 66 then (bif Nat.beq f 65 then some As else none) else (bif Nat.beq f 66 then some su else none)) else (bif Nat.blt f 68 then (bif Nat.beq f 67 then some tm else none) else (bif Nat.beq f 68 then some GT else none))) else (bif Nat.blt f 74 then (bif Nat.blt f 73 then (bif Nat.beq f 69 then some B5 else none) else (bif Nat.beq f 73 then some rA else none)) else (bif Nat.blt f 75 then (bif Nat.beq f 74 then some Au else none) else (bif Nat.blt f 76 then (bif Nat.beq f 75 then some rB else none) else (bif Nat.beq f 76 then some tn else none))))))) else (bif Nat.blt f 115 then (bif Nat.blt f 106 then (bif Nat.blt f 102 then (bif Nat.blt f 99 then (bif Nat.blt f 79 then (bif Nat.beq f 78 then some mh else none) else (bif Nat.beq f 79 then some iW else none)) else (bif Nat.blt f 101 then (bif Nat.beq f 99 then some vc else none) else (bif Nat.beq f 101 then some DC else none))) else (bif Nat.blt f 104 then (bif Nat.blt f 103 then (bif Nat.beq f 102 then some B6 else none) else (bif Nat.beq f 103 then some yr else none)) else (bif Nat.blt f 105 then (bif Nat.beq f 104 then some B7 else none) else (bif Nat.beq f 105 then some Fg else none)))) else (bif Nat.blt f 110 then (bif Nat.blt f 108 then (bif Nat.blt f 107 then (bif Nat.beq f 106 then some ig else none) else (bif Nat.beq f 107 then some qj else none)) else (bif Nat.blt f 109 then (bif Nat.beq f 108 then some ij else none) else (bif Nat.beq f 109 then some qk else none))) else (bif Nat.blt f 112 then (bif Nat.blt f 111 then (bif Nat.beq f 110 then some sv else none) else (bif Nat.beq f 111 then some qm else none)) else (bif Nat.blt f 113 then (bif Nat.beq f 112 then some DD else none) else (bif Nat.blt f 114 then (bif Nat.beq f 113 then some DE else none) else (bif Nat.beq f 114 then some ik else none)))))) else (bif Nat.blt f 126 then (bif Nat.blt f 119 then (bif Nat.blt f 117 then (bif Nat.blt f 116 then (bif Nat.beq f 115 then some qn else none) else (bif Nat.beq f 116 then some iA else none)) else (bif Nat.blt f 118 then (bif Nat.beq f 117 then some qo else none) else (bif Nat.beq f 118 then some DF else none))) else (bif Nat.blt f 121 then (bif Nat.blt f 120 then (bif Nat.beq f 119 then some fB else none) else (bif Nat.beq f 120 then some qp else none)) else (bif Nat.blt f 122 then (bif Nat.beq f 121 then some B8 else none) else (bif Nat.blt f 125 then (bif Nat.beq f 122 then some B9 else none) else (bif Nat.beq f 125 then some sw else none))))) else (bif Nat.blt f 130 then (bif Nat.blt f 128 then (bif Nat.blt f 127 then (bif Nat.beq f 126 then some pH else none) else (bif Nat.beq f 127 then some iC else none)) else (bif Nat.blt f 129 then (bif Nat.beq f 128 then some oR else none) else (bif Nat.beq f 129 then some iD else none))) else (bif Nat.blt f 132 then (bif Nat.blt f 131 then (bif Nat.beq f 130 then some wE else none) else (bif Nat.beq f 131 then some nI else none)) else (bif Nat.blt f 133 then (bif Nat.beq f 132 then some rD else none) else (bif Nat.blt f 143 then (bif Nat.beq f 133 then some wF else none) else (bif Nat.beq f 143 then some wG else none)))))))) else (bif Nat.blt f 187 then (bif Nat.blt f 161 then (bif Nat.blt f 152 then (bif Nat.blt f 148 then (bif Nat.blt f 146 then (bif Nat.blt f 145 then (bif Nat.beq f 144 then some Aw else none) else (bif Nat.beq f 145 then some Ax else none)) else (bif Nat.blt f 147 then (bif Nat.beq f 146 then some Ay else none) else (bif Nat.beq f 147 then some Fh else none))) else (bif Nat.blt f 150 then (bif Nat.blt f 149 then (bif Nat.beq f 148 then some Az else none) else (bif Nat.beq f 149 then some AA else none)) else (bif Nat.blt f 151 then (bif Nat.beq f 150 then some AB else none) else (bif Nat.beq f 151 then some Ca else none)))) else (bif Nat.blt f 156 then (bif Nat.blt f 154 then (bif Nat.blt f 153 then (bif Nat.beq f 152 then some DH else none) else (bif Nat.beq f 153 then some AD else none)) else (bif Nat.blt f 155 then (bif Nat.beq f 154 then some AE else none) else (bif Nat.beq f 155 then some AF else none))) else (bif Nat.blt f 158 then (bif Nat.blt f 157 then (bif Nat.beq f 156 then some AG else none) else (bif Nat.beq f 157 then some Cb else none)) else (bif Nat.blt f 159 then (bif Nat.beq f 158 then some Cc else none) else (bif Nat.blt f 160 then (bif Nat.beq f 159 then some iE else none) else (bif Nat.beq f 160 then some iX else none)))))) else (bif Nat.blt f 171 then (bif Nat.blt f 166 then (bif Nat.blt f 163 then (bif Nat.blt f 162 then (bif Nat.beq f 161 then some AH else none) else (bif Nat.beq f 162 then some wH else none)) else (bif Nat.blt f 165 then (bif Nat.beq f 163 then some fT else none) else (bif Nat.beq f 165 then some uf else none))) else (bif Nat.blt f 168 then (bif Nat.blt f 167 then (bif Nat.beq f 166 then some sy else none) else (bif Nat.beq f 167 then some rE else none)) else (bif Nat.blt f 169 then (bif Nat.beq f 168 then some lY else none) else (bif Nat.blt f 170 then (bif Nat.beq f 169 then some nJ else none) else (bif Nat.beq f 170 then some pI else none))))) else (bif Nat.blt f 182 then (bif Nat.blt f 173 then (bif Nat.blt f 172 then (bif Nat.beq f 171 then some sA else none) else (bif Nat.beq f 172 then some rF else none)) else (bif Nat.blt f 180 then (bif Nat.beq f 173 then some jZ else none) else (bif Nat.beq f 180 then some kh else none))) else (bif Nat.blt f 184 then (bif Nat.blt f 183 then (bif Nat.beq f 182 then some mj else none) else (bif Nat.beq f 183 then some Cd else none)) else (bif Nat.blt f 185 then (bif Nat.beq f 184 then some Ce else none) else (bif Nat.blt f 186 then (bif Nat.beq f 185 then some DI else none) else (bif Nat.beq f 186 then some ki else none))))))) else (bif Nat.blt f 225 then (bif Nat.blt f 207 then (bif Nat.blt f 200 then (bif Nat.blt f 189 then (bif Nat.blt f 188 then (bif Nat.beq f 187 then some rG else none) else (bif Nat.beq f 188 then some nK else none)) else (bif Nat.blt f 190 then (bif Nat.beq f 189 then some rH else none) else (bif Nat.beq f 190 then some iM else none))) else (bif Nat.blt f 205 then (bif Nat.blt f 203 then (bif Nat.beq f 200 then some wI else none) else (bif Nat.beq f 203 then some kj else none)) else (bif Nat.blt f 206 then (bif Nat.beq f 205 then some oS else none) else (bif Nat.beq f 206 then some ir else none)))) else (bif Nat.blt f 211 then (bif Nat.blt f 209 then (bif Nat.blt f 208 then (bif Nat.beq f 207 then some qq else none) else (bif Nat.beq f 208 then some wK else none)) else (bif Nat.blt f 210 then (bif Nat.beq f 209 then some qs else none) else (bif Nat.beq f 210 then some oT else none))) else (bif Nat.blt f 222 then (bif Nat.blt f 221 then (bif Nat.beq f 211 then some ug else none) else (bif Nat.beq f 221 then some j0 else none)) else (bif Nat.blt f 223 then (bif Nat.beq f 222 then some nL else none) else (bif Nat.blt f 224 then (bif Nat.beq f 223 then some sB else none) else (bif Nat.beq f 224 then some tp else none)))))) else (bif Nat.blt f 235 then (bif Nat.blt f 230 then (bif Nat.blt f 227 then (bif Nat.blt f 226 then (bif Nat.beq f 225 then some uh else none) else (bif Nat.beq f 226 then some rI else none)) else (bif Nat.blt f 229 then (bif Nat.beq f 227 then some ml else none) else (bif Nat.beq f 229 then some mo else none))) else (bif Nat.blt f 232 then (bif Nat.blt f 231 then (bif Nat.beq f 230 then some mq else none) else (bif Nat.beq f 231 then some Fi else none)) else (bif Nat.blt f 233 then (bif Nat.beq f 232 then some pJ else none) else (bif Nat.blt f 234 then (bif Nat.beq f 233 then some mr else none) else (bif Nat.beq f 234 then some kN else none))))) else (bif Nat.blt f 239 then (bif Nat.blt f 237 then (bif Nat.blt f 236 then (bif Nat.beq f 235 then some lZ else none) else (bif Nat.beq f 236 then some pK else none)) else (bif Nat.blt f 238 then (bif Nat.beq f 237 then some kO else none) else (bif Nat.beq f 238 then some mw else none))) else (bif Nat.blt f 241 then (bif Nat.blt f 240 then (bif Nat.beq f 239 then some my else none) else (bif Nat.beq f 240 then some kP else none)) else (bif Nat.blt f 242 then (bif Nat.beq f 241 then some ph else none) else (bif Nat.blt f 243 then (bif Nat.beq f 242 then some nM else none) else (bif Nat.beq f 243 then some nN else none)))))))))
def TB(f:FuncId):Option (Nat×AFn):=(bif Nat.beq f 100 then some (4,rC) else none)
end
section
open Go.Proofs
def G0:Nat→Option (List AV):=fun _=>none
theorem xE:aa Tryz.prog G0 8 sk:=by unfold aa;kernel_rfl
theorem HU:aa Tryz.prog G0 15 Fe:=by unfold aa;kernel_rfl
theorem GV:aa Tryz.prog G0 22 Dw:=by unfold aa;kernel_rfl
theorem GW:aa Tryz.prog G0 23 Dx:=by unfold aa;kernel_rfl
theorem HV:aa Tryz.prog G0 24 Ff:=by unfold aa;kernel_rfl
theorem xF:aa Tryz.prog G0 29 sm:=by unfold aa;kernel_rfl
theorem xG:aa Tryz.prog G0 30 sn:=by unfold aa;kernel_rfl
theorem qt:aa Tryz.prog G0 32 kM:=by unfold aa;kernel_rfl
theorem GX:aa Tryz.prog G0 33 Dy:=by unfold aa;kernel_rfl
theorem ma:aa Tryz.prog G0 34 iz:=by unfold aa;kernel_rfl
theorem Ew:aa Tryz.prog G0 49 An:=by unfold aa;kernel_rfl
theorem AJ:aa Tryz.prog G0 50 ue:=by unfold aa;kernel_rfl
theorem GY:aa Tryz.prog G0 51 DB:=by unfold aa;kernel_rfl
theorem wM:aa Tryz.prog G0 52 rq:=by unfold aa;kernel_rfl
theorem Ex:aa Tryz.prog G0 53 Ao:=by unfold aa;kernel_rfl
theorem wN:aa Tryz.prog G0 54 rr:=by unfold aa;kernel_rfl
theorem xH:aa Tryz.prog G0 55 so:=by unfold aa;kernel_rfl
theorem Ey:aa Tryz.prog G0 56 Ap:=by unfold aa;kernel_rfl
theorem wO:aa Tryz.prog G0 57 ru:=by unfold aa;kernel_rfl
theorem xI:aa Tryz.prog G0 58 sq:=by unfold aa;kernel_rfl
theorem Ez:aa Tryz.prog G0 59 Aq:=by unfold aa;kernel_rfl
theorem wP:aa Tryz.prog G0 60 ry:=by unfold aa;kernel_rfl
theorem xJ:aa Tryz.prog G0 61 sr:=by unfold aa;kernel_rfl
theorem EA:aa Tryz.prog G0 62 Ar:=by unfold aa;kernel_rfl
theorem wQ:aa Tryz.prog G0 63 rz:=by unfold aa;kernel_rfl
theorem xK:aa Tryz.prog G0 64 ss:=by unfold aa;kernel_rfl
theorem EB:aa Tryz.prog G0 65 As:=by unfold aa;kernel_rfl
theorem xL:aa Tryz.prog G0 66 su:=by unfold aa;kernel_rfl
theorem y8:aa Tryz.prog G0 67 tm:=by unfold aa;kernel_rfl
theorem Jh:aa Tryz.prog G0 68 GT:=by unfold aa;kernel_rfl
theorem FH:aa Tryz.prog G0 69 B5:=by unfold aa;kernel_rfl
theorem wR:aa Tryz.prog G0 73 rA:=by unfold aa;kernel_rfl
theorem EC:aa Tryz.prog G0 74 Au:=by unfold aa;kernel_rfl
theorem wS:aa Tryz.prog G0 75 rB:=by unfold aa;kernel_rfl
theorem y9:aa Tryz.prog G0 76 tn:=by unfold aa;kernel_rfl
theorem sH:aa Tryz.prog G0 78 mh:=by unfold aa;kernel_rfl
theorem oK:aa Tryz.prog G0 79 iW:=by unfold aa;kernel_rfl
theorem BF:aa Tryz.prog G0 99 vc:=by unfold aa;kernel_rfl
theorem GZ:aa Tryz.prog G0 101 DC:=by unfold aa;kernel_rfl
theorem FI:aa Tryz.prog G0 102 B6:=by unfold aa;kernel_rfl
theorem DK:aa Tryz.prog G0 103 yr:=by unfold aa;kernel_rfl
theorem FJ:aa Tryz.prog G0 104 B7:=by unfold aa;kernel_rfl
theorem HW:aa Tryz.prog G0 105 Fg:=by unfold aa;kernel_rfl
theorem lr:aa Tryz.prog G0 106 ig:=by unfold aa;kernel_rfl
theorem vo:aa Tryz.prog G0 107 qj:=by unfold aa;kernel_rfl
theorem lu:aa Tryz.prog G0 108 ij:=by unfold aa;kernel_rfl
theorem vp:aa Tryz.prog G0 109 qk:=by unfold aa;kernel_rfl
theorem xM:aa Tryz.prog G0 110 sv:=by unfold aa;kernel_rfl
theorem vq:aa Tryz.prog G0 111 qm:=by unfold aa;kernel_rfl
theorem G1:aa Tryz.prog G0 112 DD:=by unfold aa;kernel_rfl
theorem G2:aa Tryz.prog G0 113 DE:=by unfold aa;kernel_rfl
theorem lA:aa Tryz.prog G0 114 ik:=by unfold aa;kernel_rfl
theorem vr:aa Tryz.prog G0 115 qn:=by unfold aa;kernel_rfl
theorem mb:aa Tryz.prog G0 116 iA:=by unfold aa;kernel_rfl
theorem vt:aa Tryz.prog G0 117 qo:=by unfold aa;kernel_rfl
theorem G3:aa Tryz.prog G0 118 DF:=by unfold aa;kernel_rfl
theorem jo:aa Tryz.prog G0 119 fB:=by unfold aa;kernel_rfl
theorem vu:aa Tryz.prog G0 120 qp:=by unfold aa;kernel_rfl
theorem FK:aa Tryz.prog G0 121 B8:=by unfold aa;kernel_rfl
theorem FL:aa Tryz.prog G0 122 B9:=by unfold aa;kernel_rfl
theorem xN:aa Tryz.prog G0 125 sw:=by unfold aa;kernel_rfl
theorem uZ:aa Tryz.prog G0 126 pH:=by unfold aa;kernel_rfl
theorem np:aa Tryz.prog G0 127 iC:=by unfold aa;kernel_rfl
theorem tD:aa Tryz.prog G0 128 oR:=by unfold aa;kernel_rfl
theorem nq:aa Tryz.prog G0 129 iD:=by unfold aa;kernel_rfl
theorem CC:aa Tryz.prog G0 130 wE:=by unfold aa;kernel_rfl
theorem s4:aa Tryz.prog G0 131 nI:=by unfold aa;kernel_rfl
theorem wT:aa Tryz.prog G0 132 rD:=by unfold aa;kernel_rfl
theorem CD:aa Tryz.prog G0 133 wF:=by unfold aa;kernel_rfl
theorem CE:aa Tryz.prog G0 143 wG:=by unfold aa;kernel_rfl
theorem ED:aa Tryz.prog G0 144 Aw:=by unfold aa;kernel_rfl
theorem EE:aa Tryz.prog G0 145 Ax:=by unfold aa;kernel_rfl
theorem EF:aa Tryz.prog G0 146 Ay:=by unfold aa;kernel_rfl
theorem HX:aa Tryz.prog G0 147 Fh:=by unfold aa;kernel_rfl
theorem EG:aa Tryz.prog G0 148 Az:=by unfold aa;kernel_rfl
theorem EH:aa Tryz.prog G0 149 AA:=by unfold aa;kernel_rfl
theorem EI:aa Tryz.prog G0 150 AB:=by unfold aa;kernel_rfl
theorem FM:aa Tryz.prog G0 151 Ca:=by unfold aa;kernel_rfl
theorem G4:aa Tryz.prog G0 152 DH:=by unfold aa;kernel_rfl
theorem EJ:aa Tryz.prog G0 153 AD:=by unfold aa;kernel_rfl
theorem EL:aa Tryz.prog G0 154 AE:=by unfold aa;kernel_rfl
theorem EM:aa Tryz.prog G0 155 AF:=by unfold aa;kernel_rfl
theorem EO:aa Tryz.prog G0 156 AG:=by unfold aa;kernel_rfl
theorem FN:aa Tryz.prog G0 157 Cb:=by unfold aa;kernel_rfl
theorem FO:aa Tryz.prog G0 158 Cc:=by unfold aa;kernel_rfl
theorem nr:aa Tryz.prog G0 159 iE:=by unfold aa;kernel_rfl
theorem oL:aa Tryz.prog G0 160 iX:=by unfold aa;kernel_rfl
theorem ER:aa Tryz.prog G0 161 AH:=by unfold aa;kernel_rfl
theorem CF:aa Tryz.prog G0 162 wH:=by unfold aa;kernel_rfl
theorem j1:aa Tryz.prog G0 163 fT:=by unfold aa;kernel_rfl
theorem AK:aa Tryz.prog G0 165 uf:=by unfold aa;kernel_rfl
theorem xO:aa Tryz.prog G0 166 sy:=by unfold aa;kernel_rfl
theorem wU:aa Tryz.prog G0 167 rE:=by unfold aa;kernel_rfl
theorem rM:aa Tryz.prog G0 168 lY:=by unfold aa;kernel_rfl
theorem s5:aa Tryz.prog G0 169 nJ:=by unfold aa;kernel_rfl
theorem u0:aa Tryz.prog G0 170 pI:=by unfold aa;kernel_rfl
theorem xP:aa Tryz.prog G0 171 sA:=by unfold aa;kernel_rfl
theorem wV:aa Tryz.prog G0 172 rF:=by unfold aa;kernel_rfl
theorem pz:aa Tryz.prog G0 173 jZ:=by unfold aa;kernel_rfl
theorem pT:aa Tryz.prog G0 180 kh:=by unfold aa;kernel_rfl
theorem sI:aa Tryz.prog G0 182 mj:=by unfold aa;kernel_rfl
theorem FP:aa Tryz.prog G0 183 Cd:=by unfold aa;kernel_rfl
theorem FQ:aa Tryz.prog G0 184 Ce:=by unfold aa;kernel_rfl
theorem G5:aa Tryz.prog G0 185 DI:=by unfold aa;kernel_rfl
theorem pU:aa Tryz.prog G0 186 ki:=by unfold aa;kernel_rfl
theorem wW:aa Tryz.prog G0 187 rG:=by unfold aa;kernel_rfl
theorem s6:aa Tryz.prog G0 188 nK:=by unfold aa;kernel_rfl
theorem wX:aa Tryz.prog G0 189 rH:=by unfold aa;kernel_rfl
theorem nO:aa Tryz.prog G0 190 iM:=by unfold aa;kernel_rfl
theorem CG:aa Tryz.prog G0 200 wI:=by unfold aa;kernel_rfl
theorem pV:aa Tryz.prog G0 203 kj:=by unfold aa;kernel_rfl
theorem tE:aa Tryz.prog G0 205 oS:=by unfold aa;kernel_rfl
theorem l3:aa Tryz.prog G0 206 ir:=by unfold aa;kernel_rfl
theorem vv:aa Tryz.prog G0 207 qq:=by unfold aa;kernel_rfl
theorem CH:aa Tryz.prog G0 208 wK:=by unfold aa;kernel_rfl
theorem vw:aa Tryz.prog G0 209 qs:=by unfold aa;kernel_rfl
theorem tF:aa Tryz.prog G0 210 oT:=by unfold aa;kernel_rfl
theorem AL:aa Tryz.prog G0 211 ug:=by unfold aa;kernel_rfl
theorem pA:aa Tryz.prog G0 221 j0:=by unfold aa;kernel_rfl
theorem s7:aa Tryz.prog G0 222 nL:=by unfold aa;kernel_rfl
theorem xQ:aa Tryz.prog G0 223 sB:=by unfold aa;kernel_rfl
theorem za:aa Tryz.prog G0 224 tp:=by unfold aa;kernel_rfl
theorem AM:aa Tryz.prog G0 225 uh:=by unfold aa;kernel_rfl
theorem wY:aa Tryz.prog G0 226 rI:=by unfold aa;kernel_rfl
theorem sJ:aa Tryz.prog G0 227 ml:=by unfold aa;kernel_rfl
theorem sK:aa Tryz.prog G0 229 mo:=by unfold aa;kernel_rfl
theorem sL:aa Tryz.prog G0 230 mq:=by unfold aa;kernel_rfl
theorem HY:aa Tryz.prog G0 231 Fi:=by unfold aa;kernel_rfl
theorem u1:aa Tryz.prog G0 232 pJ:=by unfold aa;kernel_rfl
theorem sM:aa Tryz.prog G0 233 mr:=by unfold aa;kernel_rfl
theorem qu:aa Tryz.prog G0 234 kN:=by unfold aa;kernel_rfl
theorem rN:aa Tryz.prog G0 235 lZ:=by unfold aa;kernel_rfl
theorem u3:aa Tryz.prog G0 236 pK:=by unfold aa;kernel_rfl
theorem qv:aa Tryz.prog G0 237 kO:=by unfold aa;kernel_rfl
theorem sN:aa Tryz.prog G0 238 mw:=by unfold aa;kernel_rfl
theorem sO:aa Tryz.prog G0 239 my:=by unfold aa;kernel_rfl
theorem qw:aa Tryz.prog G0 240 kP:=by unfold aa;kernel_rfl
theorem ur:aa Tryz.prog G0 241 ph:=by unfold aa;kernel_rfl
theorem s8:aa Tryz.prog G0 242 nM:=by unfold aa;kernel_rfl
theorem s9:aa Tryz.prog G0 243 nN:=by unfold aa;kernel_rfl
theorem vx:Ra Tryz.prog G0 100 (4,rC):=⟨by kernel_rfl,rfl⟩
theorem U9:∀ f af,Wr f=some af→aa Tryz.prog G0 f af:=fun f af h=>by
 unfold Wr at h
 revert h
 exact (ah (ah (ah (ah (ah (ah (ah (ag (C:=_) xE) (ag (C:=_) HU)) (ah (ag (C:=_) GV) (ag (C:=_) GW))) (ah (ah (ag (C:=_) HV) (ag (C:=_) xF)) (ah (ag (C:=_) xG) (ag (C:=_) qt)))) (ah (ah (ah (ag (C:=_) GX) (ag (C:=_) ma)) (ah (ag (C:=_) Ew) (ag (C:=_) AJ))) (ah (ah (ag (C:=_) GY) (ag (C:=_) wM)) (ah (ag (C:=_) Ex) (ah (ag (C:=_) wN) (ag (C:=_) xH)))))) (ah (ah (ah (ah (ag (C:=_) Ey) (ag (C:=_) wO)) (ah (ag (C:=_) xI) (ag (C:=_) Ez))) (ah (ah (ag (C:=_) wP) (ag (C:=_) xJ)) (ah (ag (C:=_) EA) (ah (ag (C:=_) wQ) (ag (C:=_) xK))))) (ah (ah (ah (ag (C:=_) EB) (ag (C:=_) xL)) (ah (ag (C:=_) y8) (ag (C:=_) Jh))) (ah (ah (ag (C:=_) FH) (ag (C:=_) wR)) (ah (ag (C:=_) EC) (ah (ag (C:=_) wS) (ag (C:=_) y9))))))) (ah (ah (ah (ah (ah (ag (C:=_) sH) (ag (C:=_) oK)) (ah (ag (C:=_) BF) (ag (C:=_) GZ))) (ah (ah (ag (C:=_) FI) (ag (C:=_) DK)) (ah (ag (C:=_) FJ) (ag (C:=_) HW)))) (ah (ah (ah (ag (C:=_) lr) (ag (C:=_) vo)) (ah (ag (C:=_) lu) (ag (C:=_) vp))) (ah (ah (ag (C:=_) xM) (ag (C:=_) vq)) (ah (ag (C:=_) G1) (ah (ag (C:=_) G2) (ag (C:=_) lA)))))) (ah (ah (ah (ah (ag (C:=_) vr) (ag (C:=_) mb)) (ah (ag (C:=_) vt) (ag (C:=_) G3))) (ah (ah (ag (C:=_) jo) (ag (C:=_) vu)) (ah (ag (C:=_) FK) (ah (ag (C:=_) FL) (ag (C:=_) xN))))) (ah (ah (ah (ag (C:=_) uZ) (ag (C:=_) np)) (ah (ag (C:=_) tD) (ag (C:=_) nq))) (ah (ah (ag (C:=_) CC) (ag (C:=_) s4)) (ah (ag (C:=_) wT) (ah (ag (C:=_) CD) (ag (C:=_) CE)))))))) (ah (ah (ah (ah (ah (ah (ag (C:=_) ED) (ag (C:=_) EE)) (ah (ag (C:=_) EF) (ag (C:=_) HX))) (ah (ah (ag (C:=_) EG) (ag (C:=_) EH)) (ah (ag (C:=_) EI) (ag (C:=_) FM)))) (ah (ah (ah (ag (C:=_) G4) (ag (C:=_) EJ)) (ah (ag (C:=_) EL) (ag (C:=_) EM))) (ah (ah (ag (C:=_) EO) (ag (C:=_) FN)) (ah (ag (C:=_) FO) (ah (ag (C:=_) nr) (ag (C:=_) oL)))))) (ah (ah (ah (ah (ag (C:=_) ER) (ag (C:=_) CF)) (ah (ag (C:=_) j1) (ag (C:=_) AK))) (ah (ah (ag (C:=_) xO) (ag (C:=_) wU)) (ah (ag (C:=_) rM) (ah (ag (C:=_) s5) (ag (C:=_) u0))))) (ah (ah (ah (ag (C:=_) xP) (ag (C:=_) wV)) (ah (ag (C:=_) pz) (ag (C:=_) pT))) (ah (ah (ag (C:=_) sI) (ag (C:=_) FP)) (ah (ag (C:=_) FQ) (ah (ag (C:=_) G5) (ag (C:=_) pU))))))) (ah (ah (ah (ah (ah (ag (C:=_) wW) (ag (C:=_) s6)) (ah (ag (C:=_) wX) (ag (C:=_) nO))) (ah (ah (ag (C:=_) CG) (ag (C:=_) pV)) (ah (ag (C:=_) tE) (ag (C:=_) l3)))) (ah (ah (ah (ag (C:=_) vv) (ag (C:=_) CH)) (ah (ag (C:=_) vw) (ag (C:=_) tF))) (ah (ah (ag (C:=_) AL) (ag (C:=_) pA)) (ah (ag (C:=_) s7) (ah (ag (C:=_) xQ) (ag (C:=_) za)))))) (ah (ah (ah (ah (ag (C:=_) AM) (ag (C:=_) wY)) (ah (ag (C:=_) sJ) (ag (C:=_) sK))) (ah (ah (ag (C:=_) sL) (ag (C:=_) HY)) (ah (ag (C:=_) u1) (ah (ag (C:=_) sM) (ag (C:=_) qu))))) (ah (ah (ah (ag (C:=_) rN) (ag (C:=_) u3)) (ah (ag (C:=_) qv) (ag (C:=_) sN))) (ah (ah (ag (C:=_) sO) (ag (C:=_) qw)) (ah (ag (C:=_) ur) (ah (ag (C:=_) s8) (ag (C:=_) s9)))))))))
theorem TC:∀ f d af,TB f=some (d,af)→Ra Tryz.prog G0 f (d,af):=fun f d af h=>by
 unfold TB at h
 revert h
 exact (ag (C:=_) vx)
end
section
open Go.Proofs
def TD(g:FuncId)(xs:List AV)(H:List ab):Option Out:=
 match xs with
 |[.str s,.int .u8 c]=>bif Nat.beq g ea then some (.ret (.int .i64 (Lib.countByte s c.toNat.toUInt8:Nat)),H)
  else bif Nat.beq g dn then some (.ret (.int .i64 (Lib.indexByte s c.toNat.toUInt8)),H)
  else none
 |[.int .i64 (.ofNat n)]=>bif Nat.beq g dz&&Nat.ble n 281474976710656 then some (.ret (.rslice H.length 0 n 1 true),H++[.cells (List.replicate n .unk) 5]) else none
 |[.fn _ _ _]=>none
 |[x]=>bif Nat.beq g gz then some (.ret x,H) else none
 |_=>none
theorem Va:B1 Tryz.prog ea Extern.BytealgCount.count:=.of Tryz.func181 (by kernel_rfl) (by kernel_rfl) (by kernel_rfl) (by kernel_rfl)
theorem Vb:B1 Tryz.prog dn Extern.BytealgIndexByte.indexByte:=.of Tryz.func220 (by kernel_rfl) (by kernel_rfl) (by kernel_rfl) (by kernel_rfl)
theorem Ws:B1 Tryz.prog gz Extern.AbiNoEscape.same:=.of Tryz.func212 (by kernel_rfl) (by kernel_rfl) (by kernel_rfl) (by kernel_rfl)
theorem TE:B1 Tryz.prog dz (Extern.BytealgMakeNoZero.makeNoZero #[3] #[216]):=.of Tryz.func213 (by kernel_rfl) (by kernel_rfl) (by kernel_rfl) (by kernel_rfl)
theorem Sc:Tryz.prog.underlying 216=some (.slice 5):=by kernel_rfl
theorem Rf{g:FuncId}{xs:List AV}{H H':List ab}{r:vN}(h:TD g xs H=some (r,H')):eS Tryz.prog G0 g xs H fun r2 H2=>r2=r∧H2=H':=by
 unfold TD at h
 split at h
 ·rename_i s c
  cases h1:Nat.beq g ea with
  |true=>rw [h1] at h;cases h;rw [Nat.eq_of_beq_eq_true h1];exact R7 Va s c H
  |false=>
   rw [h1,cond_false] at h
   cases h2:Nat.beq g dn with
   |true=>rw [h2] at h;cases h;rw [Nat.eq_of_beq_eq_true h2];exact R8 Vb s c H
   |false=>rw [h2] at h;cases h
 ·rename_i n
  cases h1:(Nat.beq g dz&&Nat.ble n 281474976710656) with
  |true=>
   rw [h1] at h;cases h
   simp only [Bool.and_eq_true] at h1
   rw [Nat.eq_of_beq_eq_true h1.1];exact Qf TE Sc n (Nat.le_of_ble_eq_true h1.2) H
  |false=>rw [h1] at h;cases h
 ·cases h
 ·rename_i x _ _
  cases h1:Nat.beq g gz with
  |true=>rw [h1] at h;cases h;rw [Nat.eq_of_beq_eq_true h1];exact Ts Ws x H
  |false=>rw [h1] at h;cases h
 ·cases h
theorem Rg:Tryz.prog.follows .mixedOrders=true:=by kernel_rfl
theorem g0:∀ (n g:Nat) (cs:List AV),G0 g=some cs→wkbL n cs=true:=fun _ _ _ h=>by cases h
noncomputable def E0:bt := { P:=Tryz.prog,G:=G0,fn:=Wr,orc:=TD,dfn:=TB }
theorem Rh:E0.Ok:=⟨Rg,fun f af h=>U9 f af h,fun f d af h=>TC f d af h,(fun _ _ _ _ _ h=>by cases h),fun _ _ _ _ _ h=>Rf h⟩
noncomputable def E1:bt := { E0 with wo:=woK E0 100000 }
theorem t1:Mo E1 100000 vZ [.str [48]] []=some (.int .i64 0):=by kernel_rfl
theorem t2:Mo E1 100000 ku [.str [48,50,48],.str [48]] []=some (.int .i64 2):=by kernel_rfl
end
section
open Go.Proofs
theorem Vc:∀ f args H,E0.wo f args H=none:=fun _ _ _=>rfl
def ps0:List rX:=[]
theorem ok0:∀ p∈ps0,p.Ok E0.P E0.G:=fun p h=>by cases h
def p1:rX:=⟨23,[(.agg [(.str [97,101,105,111,117]),(.slice (.own 9) 2 [[(.str [110,117,109]),(.rslice 7 2 2 1 true)]]),(.rslice 26 0 2 2 true),(.rslice 53 0 4 4 true),(.slice (.own 57) 4 [[(.str [121,43]),(.str [105,43,101]),(.str [67]),(.str [115])],[(.str [110,43]),(.str [110,110,43]),(.str [86]),(.str [101,100])]]),(.slice (.own 65) 3 [[(.str [110,111,117,110]),(.str []),(.slice .any 2 [[(.str [110,117,109]),(.str [115,103])]])]])])],(dd 7 ([.cells [(.str [116,114,97,105,116]),(.str [110,117,109]),(.str [115,103]),(.str [112,108])] 9]++(dd 1 ([.tok 2 69]++(dd 7 ([.tok 2 66,.tok 8 74]++(dd 3 ([.tok 2 66]++(dd 3 ([.cells [(.str [110,111,117,110]),(.slice (.own 18) 4 [[(.int .i64 0),(.str []),(.str []),(.slice .any 2 [[(.str [110,117,109]),(.str [115,103])]])],[(.int .i64 0),(.str []),(.str [115]),(.slice .any 2 [[(.str [110,117,109]),(.str [112,108])]])]]),(.str [118,101,114,98]),(.slice (.own 30) 4 [[(.int .i64 0),(.str []),(.str []),(.slice .nil 2 [])],[(.int .i64 0),(.str []),(.str [101,100]),(.slice .nil 2 [])]])] 72]++(dd 3 ([.tok 8 74]++(dd 18 ([.tok 2 76]++(dd 3 ([.cells [(.str [99,105,116,121]),(.str [110,111,117,110]),(.slice .nil 2 []),(.slice .nil 2 []),(.str [99,97,114]),(.str [110,111,117,110]),(.slice .nil 2 []),(.slice .nil 2 []),(.str [98,117,115]),(.str [110,111,117,110]),(.slice .nil 2 []),(.slice (.own 49) 2 [[(.int .i64 1),(.str [98,117,115,101,115])]]),(.str [112,108,97,110]),(.str [118,101,114,98]),(.slice .nil 2 []),(.slice .nil 2 [])] 53]++(dd 3 ([.tok 8 78]++(dd 6 [.tok 2 66,.tok 3 80]))))))))))))))))))),(.int .u8 0)⟩
def ps1:List rX:=p1::ps0
theorem ok1:∀ p∈ps1,p.Ok E0.P E0.G:=Di Rh g0 ok0 Vc (by kernel_rfl)
def p2:rX:=⟨22,[(.str [118,111,119,101,108,115,32,97,101,105,111,117,10,116,114,97,105,116,32,110,117,109,32,115,103,32,112,108,10,99,108,97,115,115,32,110,111,117,110,10,115,108,111,116,32,48,32,45,32,45,32,110,117,109,61,115,103,10,115,108,111,116,32,48,32,45,32,115,32,110,117,109,61,112,108,10,99,108,97,115,115,32,118,101,114,98,10,115,108,111,116,32,48,32,45,32,45,10,115,108,111,116,32,48,32,45,32,101,100,10,101,110,116,114,121,32,99,105,116,121,32,110,111,117,110,10,101,110,116,114,121,32,99,97,114,32,110,111,117,110,10,101,110,116,114,121,32,98,117,115,32,110,111,117,110,10,102,111,114,109,32,49,32,98,117,115,101,115,10,101,110,116,114,121,32,112,108,97,110,32,118,101,114,98,10,115,112,101,108,108,32,121,43,32,105,43,101,32,67,32,115,10,115,112,101,108,108,32,110,43,32,110,110,43,32,86,32,101,100,10,108,105,110,107,32,110,111,117,110,32,45,32,110,117,109,61,115,103,10])],[],(.tuple [(.agg [(.str [97,101,105,111,117]),(.slice .any 2 [[(.str [110,117,109]),(.slice .any 1 [[(.str [115,103])],[(.str [112,108])]])]]),(.slice .any 2 [[(.str [110,111,117,110]),(.slice .any 4 [[(.int .i64 0),(.str []),(.str []),(.slice .any 2 [[(.str [110,117,109]),(.str [115,103])]])],[(.int .i64 0),(.str []),(.str [115]),(.slice .any 2 [[(.str [110,117,109]),(.str [112,108])]])]])],[(.str [118,101,114,98]),(.slice .any 4 [[(.int .i64 0),(.str []),(.str []),(.slice .nil 2 [])],[(.int .i64 0),(.str []),(.str [101,100]),(.slice .nil 2 [])]])]]),(.slice .any 4 [[(.str [99,105,116,121]),(.str [110,111,117,110]),(.slice .nil 2 []),(.slice .nil 2 [])],[(.str [99,97,114]),(.str [110,111,117,110]),(.slice .nil 2 []),(.slice .nil 2 [])],[(.str [98,117,115]),(.str [110,111,117,110]),(.slice .nil 2 []),(.slice .any 2 [[(.int .i64 1),(.str [98,117,115,101,115])]])],[(.str [112,108,97,110]),(.str [118,101,114,98]),(.slice .nil 2 []),(.slice .nil 2 [])]]),(.slice .any 4 [[(.str [121,43]),(.str [105,43,101]),(.str [67]),(.str [115])],[(.str [110,43]),(.str [110,110,43]),(.str [86]),(.str [101,100])]]),(.slice .any 3 [[(.str [110,111,117,110]),(.str []),(.slice .any 2 [[(.str [110,117,109]),(.str [115,103])]])]])]),(.int .i64 0),(.int .u8 0)])⟩
def ps2:List rX:=p2::ps1
theorem ok2:∀ p∈ps2,p.Ok E0.P E0.G:=Di Rh g0 ok1 Vc (by kernel_rfl)
def p3:rX:=⟨23,[(.agg [(.str [97,101,105,111,117]),(.slice .any 2 [[(.str [110,117,109]),(.slice .any 1 [[(.str [115,103])],[(.str [112,108])]])]]),(.slice .any 2 [[(.str [110,111,117,110]),(.slice .any 4 [[(.int .i64 0),(.str []),(.str []),(.slice .any 2 [[(.str [110,117,109]),(.str [115,103])]])],[(.int .i64 0),(.str []),(.str [115]),(.slice .any 2 [[(.str [110,117,109]),(.str [112,108])]])]])],[(.str [118,101,114,98]),(.slice .any 4 [[(.int .i64 0),(.str []),(.str []),(.slice .nil 2 [])],[(.int .i64 0),(.str []),(.str [101,100]),(.slice .nil 2 [])]])]]),(.slice .any 4 [[(.str [99,105,116,121]),(.str [110,111,117,110]),(.slice .nil 2 []),(.slice .nil 2 [])],[(.str [99,97,114]),(.str [110,111,117,110]),(.slice .nil 2 []),(.slice .nil 2 [])],[(.str [98,117,115]),(.str [110,111,117,110]),(.slice .nil 2 []),(.slice .any 2 [[(.int .i64 1),(.str [98,117,115,101,115])]])],[(.str [112,108,97,110]),(.str [118,101,114,98]),(.slice .nil 2 []),(.slice .nil 2 [])]]),(.slice .any 4 [[(.str [121,43]),(.str [105,43,101]),(.str [67]),(.str [115])],[(.str [110,43]),(.str [110,110,43]),(.str [86]),(.str [101,100])]]),(.slice .any 3 [[(.str [110,111,117,110]),(.str []),(.slice .any 2 [[(.str [110,117,109]),(.str [115,103])]])]])])],[],(.int .u8 0)⟩
def ps3:List rX:=p3::ps2
theorem ok3:∀ p∈ps3,p.Ok E0.P E0.G:=Di Rh g0 ok2 Vc (by kernel_rfl)
theorem Sd:Mo (EP E0 ps3) 1000000 bn [] []=some (.bool true):=by kernel_rfl
theorem TF(H:List ab):eS Tryz.prog G0 bn [] H fun r H'=>r = .ret (.bool true)∧H'=H:=OD (VU Rh g0 ok3 Vc) g0 Sd rfl
end
section
attribute [local congr] aF vL aG aZ aL aH aA aC aM aN
variable{E:bt}(M:cK cU E)
def qY(c:UInt8):Bool:=decide (97≤(c.toNat:Int))&&decide ((c.toNat:Int)≤122)
theorem ns(h:E.fn cE=some gg)(c:UInt8)(H:List ab):M.run cE [.int .u8 c.toNat] H=some (.ret (.bool (qY c)),H):=by
 rw [a6 M h rfl (c:=wu) rfl,wu]
 simp +contextual -implicitDefEqProofs only [am1 M,am2,am3,am4,↓ak,Nat.reduceBEq,Nat.reduceAdd,env,ao,(show gg.res=[.t 2] from rfl),(show gg.mode = .drop from rfl),(show gg.dfr=none from rfl),beq_true,beq_false,Bool.and_true,Bool.true_and,Bool.and_false,Bool.false_and,qY]
def TG(c:UInt8):Bool:=decide (33≤(c.toNat:Int))&&decide ((c.toNat:Int)≤126)
theorem Se(h:E.fn o7=some iK)(c:UInt8)(H:List ab):M.run o7 [.int .u8 c.toNat] H=some (.ret (.bool (TG c)),H):=by
 rw [a6 M h rfl (c:=wh) rfl,wh]
 simp +contextual -implicitDefEqProofs only [am1 M,am2,am3,am4,↓ak,Nat.reduceBEq,Nat.reduceAdd,env,ao,(show iK.res=[.t 2] from rfl),(show iK.mode = .drop from rfl),(show iK.dfr=none from rfl),beq_true,beq_false,Bool.and_true,Bool.true_and,Bool.and_false,Bool.false_and,TG]
def TH(c:UInt8):Bool:=decide (65≤(c.toNat:Int))&&decide ((c.toNat:Int)≤90)
def W6(c:UInt8):Bool:=decide (48≤(c.toNat:Int))&&decide ((c.toNat:Int)≤57)
theorem HZ(hl:E.fn cE=some gg)(h:E.fn fY=some hQ)(c:UInt8)(H:List ab):M.run fY [.int .u8 c.toNat] H=some (.ret (.bool (qY c||TH c)),H):=by
 rw [a6 M h rfl (c:=wz) rfl,wz]
 simp +contextual -implicitDefEqProofs only [am1 M,am2,am3,am4,↓ak,Nat.reduceBEq,Nat.reduceAdd,env,ao,(show hQ.res=[.t 2] from rfl),(show hQ.mode = .drop from rfl),(show hQ.dfr=none from rfl),beq_true,beq_false,Bool.and_true,Bool.true_and,Bool.and_false,Bool.false_and,ns M hl]
 cases qY c<;>simp [sel,TH]
end
section
attribute [local congr] aF vL aG aZ aL aH aA aC aM aN
variable{E:bt}(M:cK cU E)
theorem Sf(hl:E.fn cE=some gg)(h1:E.fn fY=some hQ)(h:E.fn lG=some iL)(c:UInt8){H:List ab}{T:TypeId} :
  M.run lG [.int .u8 c.toNat,.ptr H.length 0] (H++[.cells [.fn (.func fY) [] []] T])=some (.ret (.bool (qY c||TH c||W6 c||((c.toNat:Int) == 95))),H++[.cells [.fn (.func fY) [] []] T]):=by
 rw [a6 M h rfl (c:=wA) rfl,wA]
 simp +contextual -implicitDefEqProofs only [am1 M,am2,am3,am4,↓ak,Nat.reduceBEq,Nat.reduceAdd,env,ao,(show iL.res=[.t 3] from rfl),(show iL.mode = .drop from rfl),(show iL.dfr=none from rfl),beq_true,beq_false,Bool.and_true,Bool.true_and,Bool.and_false,Bool.false_and,HZ M hl h1,List.nil_append,List.append_nil]
 rw [show H.length+1=(H++[ab.cells [AV.fn (Fn.func fY) [] []] T]).length by simp,List.take_length]
 rfl
theorem OI{g:Nat}{fr cap:List AV}{p:UInt8→Bool}{s:List UInt8}(hs:s.length≤bE){H:List ab}(hp:∀ c:UInt8,M.run g (fr ++ .int .u8 c.toNat::cap) H=some (.ret (.bool (p c)),H))
  {H0:List ab} (hc:dL H0 H) (k:List Fra):∀ (n i:Nat) (He:List ab),i+n=s.length →
  M.go eR H0 (.c qf :: .lp ⟨some [0,1,7,8],[],false⟩ qf He :: .blk 0 :: .c (.lv [])::k) (kv [(0,.str s),(1,.fn (.func g) fr cap),(7,.int .i64 s.length),(8,.int .i64 i)]) H =
   sel ((s.drop i).all p) (M.go eR H0 k .leaf H) (some (.ret (.bool false),H.take H0.length))
 |0,i,He,h=>by
  have e:i=s.length:=by omega
  subst e
  rw [aw M qf.eq_1]
  simp +contextual -implicitDefEqProofs only [am1 M,am2,am3,am4,↓ak,Nat.reduceBEq,Nat.reduceAdd,(show eR.res=[.t 4] from rfl),(show eR.mode = .drop from rfl),(show eR.dfr=none from rfl),beq_true,beq_false,decide_true,decide_false,Nat.lt_irrefl,List.drop_length,List.all_nil]
 |n+1,i,He,h=>by
  have hi:i<s.length:=by omega
  have hx:s[i]?=some s[i]:=List.getElem?_eq_getElem hi
  have hd:(s.drop i)=s[i]::s.drop (i+1):=List.drop_eq_getElem_cons hi
  have ih:=OI hs hp hc k n (i+1) H (by omega)
  simp only [kv_cons,kv_nil] at ih
  rw [aw M qf.eq_1]
  simp +contextual -implicitDefEqProofs only [am1 M,am2,am3,am4,↓ak,Nat.reduceBEq,Nat.reduceAdd,(show eR.res=[.t 4] from rfl),(show eR.mode = .drop from rfl),(show eR.dfr=none from rfl),beq_true,beq_false,decide_true,decide_false,hx,hp,de hi hs,hi,hc,ih,hd,List.all_cons]
theorem Jt(hf:E.fn o6=some eR){g:Nat}{fr cap:List AV}{p:UInt8→Bool}{s:List UInt8}(hs:s.length≤bE){H:List ab}(hp:∀ c:UInt8,M.run g (fr ++ .int .u8 c.toNat::cap) H=some (.ret (.bool (p c)),H)) :
  M.run o6 [.str s,.fn (.func g) fr cap] H=some (.ret (.bool (s.all p)),H):=by
 rw [a6 M hf rfl (c:=Dq) rfl,Dq]
 have hl:=fun k He=>OI M hs hp (cut_refl H) k s.length 0 He (by omega)
 simp only [kv_cons,kv_nil,Int.ofNat_zero,List.drop_zero] at hl
 simp +contextual -implicitDefEqProofs only [am1 M,am2,am3,am4,↓ak,Nat.reduceBEq,Nat.reduceAdd,env,ao,(show eR.res=[.t 4] from rfl),(show eR.mode = .drop from rfl),(show eR.dfr=none from rfl),hl]
 rw [Bool.and_true]
structure dW (E:bt):Prop where
 letter:E.fn cE=some gg
 Letter:E.fn jA=some nb
 name1:E.fn fY=some hQ
 name2:E.fn lG=some iL
 word1:E.fn o7=some iK
 all:E.fn o6=some eR
 name:E.fn r3=some iI
 word:E.fn vi=some mJ
 plain:E.fn tM=some k9
 rname:E.fn kD=some pf
 rword:E.fn o5=some pb
 rplain:E.fn nX=some oz
 rof:E.fn dM=some qS
def IG(s:List UInt8):Bool:=decide (1≤(s.length:Int))&&decide ((s.length:Int)≤24)&&s.all TG
theorem OJ(hE:dW E){s:List UInt8}(hs:s.length≤bE)(H:List ab):M.run vi [.str s] H=some (.ret (.bool (IG s)),H):=by
 rw [a6 M hE.word rfl (c:=Bm) rfl,Bm]
 have ha:=Jt M hE.all (g:=o7) (fr:=[]) (cap:=[]) hs (H:=H) (fun c=>Se M hE.word1 c H)
 simp +contextual -implicitDefEqProofs only [am1 M,am2,am3,am4,↓ak,Nat.reduceBEq,Nat.reduceAdd,env,ao,beq_true,beq_false,decide_true,decide_false,Bool.and_true,Bool.true_and,Bool.and_false,Bool.false_and,List.nil_append,List.append_nil,(show mJ.res=[.t 2] from rfl),(show mJ.mode = .drop from rfl),(show mJ.dfr=none from rfl),ha,IG]
def zb(s:List UInt8):Bool:=IG s&&s.all qY
theorem H5(hE:dW E){s:List UInt8}(hs:s.length≤bE)(H:List ab):M.run tM [.str s] H=some (.ret (.bool (zb s)),H):=by
 rw [a6 M hE.plain rfl (c:=yY) rfl,yY]
 have ha:=Jt M hE.all (g:=cE) (fr:=[]) (cap:=[]) hs (H:=H) (fun c=>ns M hE.letter c H)
 simp +contextual -implicitDefEqProofs only [am1 M,am2,am3,am4,↓ak,Nat.reduceBEq,Nat.reduceAdd,env,ao,beq_true,beq_false,decide_true,decide_false,Bool.and_true,Bool.true_and,Bool.and_false,Bool.false_and,List.nil_append,List.append_nil,(show k9.res=[.t 2] from rfl),(show k9.mode = .drop from rfl),(show k9.dfr=none from rfl),ha,OJ M hE hs,zb]
end
section
attribute [local congr] aF vL aG aZ aL aH aA aC aM aN
variable{E:bt}(M:cK cU E)
def W7(c:UInt8):Bool:=qY c||TH c||W6 c||((c.toNat:Int) == 95)
def Ks(s:List UInt8):Bool:=match s with
 |[]=>false
 |c::t=>decide ((((c::t).length:Nat):Int)≤12)&&(qY c||TH c)&&(c::t).all W7
theorem Ku(hE:dW E){s:List UInt8}(hs:s.length≤bE)(H:List ab):M.run r3 [.str s] H=some (.ret (.bool (Ks s)),H):=by
 rw [a6 M hE.name rfl (c:=By) rfl,By]
 have h2:∀ (T:TypeId) (c:UInt8),M.run lG ([] ++ .int .u8 c.toNat::[.ptr H.length 0]) (H++[.cells [.fn (.func fY) [] []] T])=some (.ret (.bool (W7 c)),H++[.cells [.fn (.func fY) [] []] T]):=fun T c=>Sf M hE.letter hE.name1 hE.name2 c
 have ha:=fun T=>Jt M hE.all (g:=lG) (fr:=[]) (cap:=[.ptr H.length 0]) hs (h2 T)
 cases s with
 |nil=>
  simp +contextual -implicitDefEqProofs only [am1 M,am2,am3,am4,am5,setRow_nil,setRow_cons,List.set_cons_zero,List.length_cons,List.length_nil,Nat.zero_add,Nat.le_refl,List.all_cons,List.all_nil,AV.cell,List.cons_append,↓ak,Nat.reduceBEq,Nat.reduceAdd,env,ao,beq_true,beq_false,decide_true,decide_false,Bool.and_true,Bool.true_and,Bool.and_false,Bool.false_and,List.nil_append,List.append_nil,(show iI.res=[.t 2] from rfl),(show iI.mode = .drop from rfl),(show iI.dfr=none from rfl),ha,HZ M hE.letter hE.name1,Ks,List.length_nil,List.getElem?_nil,(show decide ((1:Int)≤((0:Nat):Int))=false from rfl)]
 |cons c t=>
  have hlen:decide ((1:Int)≤((t.length+1:Nat):Int))=true:=decide_eq_true (by omega)
  simp +contextual -implicitDefEqProofs only [am1 M,am2,am3,am4,am5,setRow_nil,setRow_cons,List.set_cons_zero,List.length_cons,List.length_nil,Nat.zero_add,Nat.le_refl,List.all_cons,List.all_nil,AV.cell,List.cons_append,↓ak,Nat.reduceBEq,Nat.reduceAdd,env,ao,beq_true,beq_false,decide_true,decide_false,Bool.and_true,Bool.true_and,Bool.and_false,Bool.false_and,List.nil_append,List.append_nil,(show iI.res=[.t 2] from rfl),(show iI.mode = .drop from rfl),(show iI.dfr=none from rfl),ha,HZ M hE.letter hE.name1,Ks,List.getElem?_cons_zero,hlen]
end
section
attribute [local congr] aF vL aG aZ aL aH aA aC aM aN
variable{E:bt}(M:cK cU E)
end
section
attribute [local congr] aF vL aG aZ aL aH aA aC aM aN
variable{E:bt}(M:cK cU E)
def ofF(more:List UInt8)(s:List UInt8):Bool:=s.all fun c=>qY c||more.any fun d=>c.toNat == d.toNat
theorem Ri(s:List UInt8):ofF [] s=s.all qY:=by
 simp only [ofF,List.any_nil,Bool.or_false]
end
section
attribute [local congr] aF vL aG aZ aL aH aA aC aM aN
variable{E:bt}(M:cK cU E)
end
section
attribute [local congr] aF ca bg aG aZ aL aH aA aC aM aN
variable{E:bt}(M:cK cU E)
def CI{α:Type}(p:α→Bool):Nat→α→Option AV:=fun i x=>sel (p x) (some (.int .i64 (i:Int))) none
def CJ{α:Type}(p:α→Bool):Nat→List α→Int
 |_,[] => -1
 |i,x::l=>sel (p x) (i:Int) (CJ p (i+1) l)
theorem pB{α:Type}(p:α→Bool):∀ (l:List α) (i:Nat) (H:List ab),orE (fD (CI p) i l) H (some (.ret (.int .i64 (-1)),H))=some (.ret (.int .i64 (CJ p i l)),H)
 |[],i,H=>rfl
 |x::l,i,H=>by
  rw [ua,CI,CJ,Js,Jr,GH,GI,GG,pB p l]
  cases p x<;>rfl
theorem vy{α:Type}(p:α→Bool):∀ (l:List α) (i:Nat),decide ((0:Int)≤CJ p i l)=l.any p
 |[],i=>rfl
 |x::l,i=>by
  rw [CJ,List.any_cons,← vy p l (i+1)]
  cases p x with
  |true=>simp only [sel,Bool.true_or];exact decide_eq_true (by omega)
  |false=>simp only [sel,Bool.false_or];rfl
theorem Mr{H H0:List ab}{g:Nat}{fr cap:List AV}{p:bF→Bool}{tg:Tag}{l:List bF}(hs:l.length≤bE)(hp:∀ x∈l,M.run g (fr ++ .agg (bF.row x)::cap) H=some (.ret (.bool (p x)),H))(hc:dL H0 H)(k:List Fra):∀ (n i:Nat) (He:List ab),i+n=l.length →
  M.go aS H0 (.c cb :: .lp ⟨(some [0,1,7,8]),[],false⟩ cb He :: .blk 0 :: .c (.lv [])::k) (kv [(0,.slice tg 2 (l.map bF.row)),(1,.fn (.func g) fr cap),(7,.int .i64 l.length),(8,.int .i64 i)]) H =
   orE (fD (CI p) i (l.drop i)) (H.take H0.length) (M.go aS H0 k .leaf H)
 |0,i,He,h=>by
  have e:i=l.length:=by omega
  subst e
  rw [aw M cb.eq_1]
  simp (maxSteps:=3000000) (maxDischargeDepth:=6) +contextual -implicitDefEqProofs only [amA M,amB,↓aj,↓ae,↓al,↓ak,Nat.reduceBEq,Nat.reduceAdd,env,ao,fu,Nat.lt_irrefl,List.drop_length]
 |n+1,i,He,h=>by
  have hi:i<l.length:=by omega
  have hx:l[i]?=some l[i]:=List.getElem?_eq_getElem hi
  have hd:(l.drop i)=l[i]::l.drop (i+1):=List.drop_eq_getElem_cons hi
  have hm:l[i]∈l:=List.getElem_mem hi
  have ih:=fun He=>Mr (H:=H) (H0:=H0) (g:=g) (fr:=fr) (cap:=cap) (p:=p) (tg:=tg) (l:=l) (hs:=hs) (hp:=hp) hc k n (i+1)  He (by omega)
  simp only [kv_cons,kv_nil] at ih
  rw [aw M cb.eq_1]
  simp (maxSteps:=3000000) (maxDischargeDepth:=6) +contextual -implicitDefEqProofs only [amA M,amB,↓aj,↓ae,↓al,↓ak,Nat.reduceBEq,Nat.reduceAdd,env,ao,fu,hx,hd,hi,ih,hp,hm,de hi hs,bp hi,uC,CI,hc]
theorem vd(hf:E.fn bQ=some aS){g:Nat}{fr cap:List AV}{p:bF→Bool}{tg:Tag}{l:List bF}(hs:l.length≤bE){H:List ab}
  (hp:∀ x∈l,M.run g (fr ++ .agg (bF.row x)::cap) H=some (.ret (.bool (p x)),H)) :
  M.run bQ [.slice tg 2 (l.map bF.row),.fn (.func g) fr cap] H=some (.ret (.int .i64 (CJ p 0 l)),H):=by
 rw [a6 M hf rfl (c:=ft) rfl,ft]
 have hl:=fun k He=>Mr M (tg:=tg) hs hp (cut_refl H) k l.length 0 He (by omega)
 simp only [kv_cons,kv_nil,Int.ofNat_zero,List.drop_zero] at hl
 simp (maxSteps:=3000000) (maxDischargeDepth:=6) +contextual -implicitDefEqProofs only [amA M,amB,↓aj,↓ae,↓al,↓ak,Nat.reduceBEq,Nat.reduceAdd,env,ao,fu,hl]
 exact pB p l 0 H
theorem BG(hf:E.fn bQ=some aS)(hg:E.fn dh=some bb){g:Nat}{fr cap:List AV}{p:bF→Bool}{tg:Tag}{l:List bF}(hs:l.length≤bE){H:List ab}
  (hp:∀ x∈l,M.run g (fr ++ .agg (bF.row x)::cap) H=some (.ret (.bool (p x)),H)) :
  M.run dh [.slice tg 2 (l.map bF.row),.fn (.func g) fr cap] H=some (.ret (.bool (l.any p)),H):=by
 rw [a6 M hg rfl (c:=eH) rfl,eH]
 simp (maxSteps:=3000000) (maxDischargeDepth:=6) +contextual -implicitDefEqProofs only [amA M,amB,↓aj,↓ae,↓al,↓ak,Nat.reduceBEq,Nat.reduceAdd,env,ao,nE,vd M hf hs hp,vy]
theorem Ms{H H0:List ab}{g:Nat}{fr cap:List AV}{p:a8→Bool}{tg:Tag}{l:List a8}(hs:l.length≤bE)(hp:∀ x∈l,M.run g (fr ++ .agg (a8.row x)::cap) H=some (.ret (.bool (p x)),H))(hc:dL H0 H)(k:List Fra):∀ (n i:Nat) (He:List ab),i+n=l.length →
  M.go aT H0 (.c cf :: .lp ⟨(some [0,1,7,8]),[],false⟩ cf He :: .blk 0 :: .c (.lv [])::k) (kv [(0,.slice tg 2 (l.map a8.row)),(1,.fn (.func g) fr cap),(7,.int .i64 l.length),(8,.int .i64 i)]) H =
   orE (fD (CI p) i (l.drop i)) (H.take H0.length) (M.go aT H0 k .leaf H)
 |0,i,He,h=>by
  have e:i=l.length:=by omega
  subst e
  rw [aw M cf.eq_1]
  simp (maxSteps:=3000000) (maxDischargeDepth:=6) +contextual -implicitDefEqProofs only [amA M,amB,↓aj,↓ae,↓al,↓ak,Nat.reduceBEq,Nat.reduceAdd,env,ao,fx,Nat.lt_irrefl,List.drop_length]
 |n+1,i,He,h=>by
  have hi:i<l.length:=by omega
  have hx:l[i]?=some l[i]:=List.getElem?_eq_getElem hi
  have hd:(l.drop i)=l[i]::l.drop (i+1):=List.drop_eq_getElem_cons hi
  have hm:l[i]∈l:=List.getElem_mem hi
  have ih:=fun He=>Ms (H:=H) (H0:=H0) (g:=g) (fr:=fr) (cap:=cap) (p:=p) (tg:=tg) (l:=l) (hs:=hs) (hp:=hp) hc k n (i+1)  He (by omega)
  simp only [kv_cons,kv_nil] at ih
  rw [aw M cf.eq_1]
  simp (maxSteps:=3000000) (maxDischargeDepth:=6) +contextual -implicitDefEqProofs only [amA M,amB,↓aj,↓ae,↓al,↓ak,Nat.reduceBEq,Nat.reduceAdd,env,ao,fx,hx,hd,hi,ih,hp,hm,de hi hs,bp hi,ko,CI,hc]
theorem pW(hf:E.fn bR=some aT){g:Nat}{fr cap:List AV}{p:a8→Bool}{tg:Tag}{l:List a8}(hs:l.length≤bE){H:List ab}
  (hp:∀ x∈l,M.run g (fr ++ .agg (a8.row x)::cap) H=some (.ret (.bool (p x)),H)) :
  M.run bR [.slice tg 2 (l.map a8.row),.fn (.func g) fr cap] H=some (.ret (.int .i64 (CJ p 0 l)),H):=by
 rw [a6 M hf rfl (c:=fw) rfl,fw]
 have hl:=fun k He=>Ms M (tg:=tg) hs hp (cut_refl H) k l.length 0 He (by omega)
 simp only [kv_cons,kv_nil,Int.ofNat_zero,List.drop_zero] at hl
 simp (maxSteps:=3000000) (maxDischargeDepth:=6) +contextual -implicitDefEqProofs only [amA M,amB,↓aj,↓ae,↓al,↓ak,Nat.reduceBEq,Nat.reduceAdd,env,ao,fx,hl]
 exact pB p l 0 H
theorem BH(hf:E.fn bR=some aT)(hg:E.fn di=some bc){g:Nat}{fr cap:List AV}{p:a8→Bool}{tg:Tag}{l:List a8}(hs:l.length≤bE){H:List ab}
  (hp:∀ x∈l,M.run g (fr ++ .agg (a8.row x)::cap) H=some (.ret (.bool (p x)),H)) :
  M.run di [.slice tg 2 (l.map a8.row),.fn (.func g) fr cap] H=some (.ret (.bool (l.any p)),H):=by
 rw [a6 M hg rfl (c:=eI) rfl,eI]
 simp (maxSteps:=3000000) (maxDischargeDepth:=6) +contextual -implicitDefEqProofs only [amA M,amB,↓aj,↓ae,↓al,↓ak,Nat.reduceBEq,Nat.reduceAdd,env,ao,nF,pW M hf hs hp,vy]
theorem Mt{H H0:List ab}{g:Nat}{fr cap:List AV}{p:bW→Bool}{tg:Tag}{l:List bW}(hs:l.length≤bE)(hp:∀ x∈l,M.run g (fr ++ .agg (bW.row x)::cap) H=some (.ret (.bool (p x)),H))(hc:dL H0 H)(k:List Fra):∀ (n i:Nat) (He:List ab),i+n=l.length →
  M.go aD H0 (.c bG :: .lp ⟨(some [0,1,7,8]),[],false⟩ bG He :: .blk 0 :: .c (.lv [])::k) (kv [(0,.slice tg 2 (l.map bW.row)),(1,.fn (.func g) fr cap),(7,.int .i64 l.length),(8,.int .i64 i)]) H =
   orE (fD (CI p) i (l.drop i)) (H.take H0.length) (M.go aD H0 k .leaf H)
 |0,i,He,h=>by
  have e:i=l.length:=by omega
  subst e
  rw [aw M bG.eq_1]
  simp (maxSteps:=3000000) (maxDischargeDepth:=6) +contextual -implicitDefEqProofs only [amA M,amB,↓aj,↓ae,↓al,↓ak,Nat.reduceBEq,Nat.reduceAdd,env,ao,dQ,Nat.lt_irrefl,List.drop_length]
 |n+1,i,He,h=>by
  have hi:i<l.length:=by omega
  have hx:l[i]?=some l[i]:=List.getElem?_eq_getElem hi
  have hd:(l.drop i)=l[i]::l.drop (i+1):=List.drop_eq_getElem_cons hi
  have hm:l[i]∈l:=List.getElem_mem hi
  have ih:=fun He=>Mt (H:=H) (H0:=H0) (g:=g) (fr:=fr) (cap:=cap) (p:=p) (tg:=tg) (l:=l) (hs:=hs) (hp:=hp) hc k n (i+1)  He (by omega)
  simp only [kv_cons,kv_nil] at ih
  rw [aw M bG.eq_1]
  simp (maxSteps:=3000000) (maxDischargeDepth:=6) +contextual -implicitDefEqProofs only [amA M,amB,↓aj,↓ae,↓al,↓ak,Nat.reduceBEq,Nat.reduceAdd,env,ao,dQ,hx,hd,hi,ih,hp,hm,de hi hs,bp hi,HF,CI,hc]
theorem ES(hf:E.fn bK=some aD){g:Nat}{fr cap:List AV}{p:bW→Bool}{tg:Tag}{l:List bW}(hs:l.length≤bE){H:List ab}
  (hp:∀ x∈l,M.run g (fr ++ .agg (bW.row x)::cap) H=some (.ret (.bool (p x)),H)) :
  M.run bK [.slice tg 2 (l.map bW.row),.fn (.func g) fr cap] H=some (.ret (.int .i64 (CJ p 0 l)),H):=by
 rw [a6 M hf rfl (c:=dP) rfl,dP]
 have hl:=fun k He=>Mt M (tg:=tg) hs hp (cut_refl H) k l.length 0 He (by omega)
 simp only [kv_cons,kv_nil,Int.ofNat_zero,List.drop_zero] at hl
 simp (maxSteps:=3000000) (maxDischargeDepth:=6) +contextual -implicitDefEqProofs only [amA M,amB,↓aj,↓ae,↓al,↓ak,Nat.reduceBEq,Nat.reduceAdd,env,ao,dQ,hl]
 exact pB p l 0 H
theorem BI(hf:E.fn bK=some aD)(hg:E.fn b5=some aV){g:Nat}{fr cap:List AV}{p:bW→Bool}{tg:Tag}{l:List bW}(hs:l.length≤bE){H:List ab}
  (hp:∀ x∈l,M.run g (fr ++ .agg (bW.row x)::cap) H=some (.ret (.bool (p x)),H)) :
  M.run b5 [.slice tg 2 (l.map bW.row),.fn (.func g) fr cap] H=some (.ret (.bool (l.any p)),H):=by
 rw [a6 M hg rfl (c:=dA) rfl,dA]
 simp (maxSteps:=3000000) (maxDischargeDepth:=6) +contextual -implicitDefEqProofs only [amA M,amB,↓aj,↓ae,↓al,↓ak,Nat.reduceBEq,Nat.reduceAdd,env,ao,kd,ES M hf hs hp,vy]
theorem Mu{H H0:List ab}{g:Nat}{fr cap:List AV}{p:aK→Bool}{tg:Tag}{l:List aK}(hs:l.length≤bE)(hp:∀ x∈l,M.run g (fr ++ .agg (aK.row x)::cap) H=some (.ret (.bool (p x)),H))(hc:dL H0 H)(k:List Fra):∀ (n i:Nat) (He:List ab),i+n=l.length →
  M.go aU H0 (.c cg :: .lp ⟨(some [0,1,7,8]),[],false⟩ cg He :: .blk 0 :: .c (.lv [])::k) (kv [(0,.slice tg 4 (l.map aK.row)),(1,.fn (.func g) fr cap),(7,.int .i64 l.length),(8,.int .i64 i)]) H =
   orE (fD (CI p) i (l.drop i)) (H.take H0.length) (M.go aU H0 k .leaf H)
 |0,i,He,h=>by
  have e:i=l.length:=by omega
  subst e
  rw [aw M cg.eq_1]
  simp (maxSteps:=3000000) (maxDischargeDepth:=6) +contextual -implicitDefEqProofs only [amA M,amB,↓aj,↓ae,↓al,↓ak,Nat.reduceBEq,Nat.reduceAdd,env,ao,fA,Nat.lt_irrefl,List.drop_length]
 |n+1,i,He,h=>by
  have hi:i<l.length:=by omega
  have hx:l[i]?=some l[i]:=List.getElem?_eq_getElem hi
  have hd:(l.drop i)=l[i]::l.drop (i+1):=List.drop_eq_getElem_cons hi
  have hm:l[i]∈l:=List.getElem_mem hi
  have ih:=fun He=>Mu (H:=H) (H0:=H0) (g:=g) (fr:=fr) (cap:=cap) (p:=p) (tg:=tg) (l:=l) (hs:=hs) (hp:=hp) hc k n (i+1)  He (by omega)
  simp only [kv_cons,kv_nil] at ih
  rw [aw M cg.eq_1]
  simp (maxSteps:=3000000) (maxDischargeDepth:=6) +contextual -implicitDefEqProofs only [amA M,amB,↓aj,↓ae,↓al,↓ak,Nat.reduceBEq,Nat.reduceAdd,env,ao,fA,hx,hd,hi,ih,hp,hm,de hi hs,bp hi,gS,CI,hc]
theorem ET(hf:E.fn cF=some aU){g:Nat}{fr cap:List AV}{p:aK→Bool}{tg:Tag}{l:List aK}(hs:l.length≤bE){H:List ab}
  (hp:∀ x∈l,M.run g (fr ++ .agg (aK.row x)::cap) H=some (.ret (.bool (p x)),H)) :
  M.run cF [.slice tg 4 (l.map aK.row),.fn (.func g) fr cap] H=some (.ret (.int .i64 (CJ p 0 l)),H):=by
 rw [a6 M hf rfl (c:=fy) rfl,fy]
 have hl:=fun k He=>Mu M (tg:=tg) hs hp (cut_refl H) k l.length 0 He (by omega)
 simp only [kv_cons,kv_nil,Int.ofNat_zero,List.drop_zero] at hl
 simp (maxSteps:=3000000) (maxDischargeDepth:=6) +contextual -implicitDefEqProofs only [amA M,amB,↓aj,↓ae,↓al,↓ak,Nat.reduceBEq,Nat.reduceAdd,env,ao,fA,hl]
 exact pB p l 0 H
theorem BJ(hf:E.fn cF=some aU)(hg:E.fn dj=some bf){g:Nat}{fr cap:List AV}{p:aK→Bool}{tg:Tag}{l:List aK}(hs:l.length≤bE){H:List ab}
  (hp:∀ x∈l,M.run g (fr ++ .agg (aK.row x)::cap) H=some (.ret (.bool (p x)),H)) :
  M.run dj [.slice tg 4 (l.map aK.row),.fn (.func g) fr cap] H=some (.ret (.bool (l.any p)),H):=by
 rw [a6 M hg rfl (c:=eJ) rfl,eJ]
 simp (maxSteps:=3000000) (maxDischargeDepth:=6) +contextual -implicitDefEqProofs only [amA M,amB,↓aj,↓ae,↓al,↓ak,Nat.reduceBEq,Nat.reduceAdd,env,ao,nG,ET M hf hs hp,vy]
theorem OK{H H0:List ab}{g:Nat}{fr cap:List AV}{p:au→Bool}{tg:Tag}{l:List au}(hs:l.length≤bE)(hp:∀ x∈l,M.run g (fr ++ .agg (au.row x)::cap) H=some (.ret (.bool (p x)),H))(hc:dL H0 H)(k:List Fra):∀ (n i:Nat) (He:List ab),i+n=l.length →
  M.go aX H0 (.c cG :: .lp ⟨(some [0,1,7,8]),[],false⟩ cG He :: .blk 0 :: .c (.lv [])::k) (kv [(0,.slice tg 2 (l.map au.row)),(1,.fn (.func g) fr cap),(7,.int .i64 l.length),(8,.int .i64 i)]) H =
   orE (fD (CI p) i (l.drop i)) (H.take H0.length) (M.go aX H0 k .leaf H)
 |0,i,He,h=>by
  have e:i=l.length:=by omega
  subst e
  rw [aw M cG.eq_1]
  simp (maxSteps:=3000000) (maxDischargeDepth:=6) +contextual -implicitDefEqProofs only [amA M,amB,↓aj,↓ae,↓al,↓ak,Nat.reduceBEq,Nat.reduceAdd,env,ao,fN,Nat.lt_irrefl,List.drop_length]
 |n+1,i,He,h=>by
  have hi:i<l.length:=by omega
  have hx:l[i]?=some l[i]:=List.getElem?_eq_getElem hi
  have hd:(l.drop i)=l[i]::l.drop (i+1):=List.drop_eq_getElem_cons hi
  have hm:l[i]∈l:=List.getElem_mem hi
  have ih:=fun He=>OK (H:=H) (H0:=H0) (g:=g) (fr:=fr) (cap:=cap) (p:=p) (tg:=tg) (l:=l) (hs:=hs) (hp:=hp) hc k n (i+1)  He (by omega)
  simp only [kv_cons,kv_nil] at ih
  rw [aw M cG.eq_1]
  simp (maxSteps:=3000000) (maxDischargeDepth:=6) +contextual -implicitDefEqProofs only [amA M,amB,↓aj,↓ae,↓al,↓ak,Nat.reduceBEq,Nat.reduceAdd,env,ao,fN,hx,hd,hi,ih,hp,hm,de hi hs,bp hi,yp,CI,hc]
theorem FR(hf:E.fn cV=some aX){g:Nat}{fr cap:List AV}{p:au→Bool}{tg:Tag}{l:List au}(hs:l.length≤bE){H:List ab}
  (hp:∀ x∈l,M.run g (fr ++ .agg (au.row x)::cap) H=some (.ret (.bool (p x)),H)) :
  M.run cV [.slice tg 2 (l.map au.row),.fn (.func g) fr cap] H=some (.ret (.int .i64 (CJ p 0 l)),H):=by
 rw [a6 M hf rfl (c:=fM) rfl,fM]
 have hl:=fun k He=>OK M (tg:=tg) hs hp (cut_refl H) k l.length 0 He (by omega)
 simp only [kv_cons,kv_nil,Int.ofNat_zero,List.drop_zero] at hl
 simp (maxSteps:=3000000) (maxDischargeDepth:=6) +contextual -implicitDefEqProofs only [amA M,amB,↓aj,↓ae,↓al,↓ak,Nat.reduceBEq,Nat.reduceAdd,env,ao,fN,hl]
 exact pB p l 0 H
theorem oM(hf:E.fn cV=some aX)(hg:E.fn bN=some bj){g:Nat}{fr cap:List AV}{p:au→Bool}{tg:Tag}{l:List au}(hs:l.length≤bE){H:List ab}
  (hp:∀ x∈l,M.run g (fr ++ .agg (au.row x)::cap) H=some (.ret (.bool (p x)),H)) :
  M.run bN [.slice tg 2 (l.map au.row),.fn (.func g) fr cap] H=some (.ret (.bool (l.any p)),H):=by
 rw [a6 M hg rfl (c:=fh) rfl,fh]
 simp (maxSteps:=3000000) (maxDischargeDepth:=6) +contextual -implicitDefEqProofs only [amA M,amB,↓aj,↓ae,↓al,↓ak,Nat.reduceBEq,Nat.reduceAdd,env,ao,oU,FR M hf hs hp,vy]
theorem OL{H H0:List ab}{g:Nat}{fr cap:List AV}{p:bB→Bool}{tg:Tag}{l:List bB}(hs:l.length≤bE)(hp:∀ x∈l,M.run g (fr ++ .agg (bB.row x)::cap) H=some (.ret (.bool (p x)),H))(hc:dL H0 H)(k:List Fra):∀ (n i:Nat) (He:List ab),i+n=l.length →
  M.go aY H0 (.c cH :: .lp ⟨(some [0,1,7,8]),[],false⟩ cH He :: .blk 0 :: .c (.lv [])::k) (kv [(0,.slice tg 4 (l.map bB.row)),(1,.fn (.func g) fr cap),(7,.int .i64 l.length),(8,.int .i64 i)]) H =
   orE (fD (CI p) i (l.drop i)) (H.take H0.length) (M.go aY H0 k .leaf H)
 |0,i,He,h=>by
  have e:i=l.length:=by omega
  subst e
  rw [aw M cH.eq_1]
  simp (maxSteps:=3000000) (maxDischargeDepth:=6) +contextual -implicitDefEqProofs only [amA M,amB,↓aj,↓ae,↓al,↓ak,Nat.reduceBEq,Nat.reduceAdd,env,ao,fP,Nat.lt_irrefl,List.drop_length]
 |n+1,i,He,h=>by
  have hi:i<l.length:=by omega
  have hx:l[i]?=some l[i]:=List.getElem?_eq_getElem hi
  have hd:(l.drop i)=l[i]::l.drop (i+1):=List.drop_eq_getElem_cons hi
  have hm:l[i]∈l:=List.getElem_mem hi
  have ih:=fun He=>OL (H:=H) (H0:=H0) (g:=g) (fr:=fr) (cap:=cap) (p:=p) (tg:=tg) (l:=l) (hs:=hs) (hp:=hp) hc k n (i+1)  He (by omega)
  simp only [kv_cons,kv_nil] at ih
  rw [aw M cH.eq_1]
  simp (maxSteps:=3000000) (maxDischargeDepth:=6) +contextual -implicitDefEqProofs only [amA M,amB,↓aj,↓ae,↓al,↓ak,Nat.reduceBEq,Nat.reduceAdd,env,ao,fP,hx,hd,hi,ih,hp,hm,de hi hs,bp hi,o4,CI,hc]
theorem FS(hf:E.fn cW=some aY){g:Nat}{fr cap:List AV}{p:bB→Bool}{tg:Tag}{l:List bB}(hs:l.length≤bE){H:List ab}
  (hp:∀ x∈l,M.run g (fr ++ .agg (bB.row x)::cap) H=some (.ret (.bool (p x)),H)) :
  M.run cW [.slice tg 4 (l.map bB.row),.fn (.func g) fr cap] H=some (.ret (.int .i64 (CJ p 0 l)),H):=by
 rw [a6 M hf rfl (c:=fO) rfl,fO]
 have hl:=fun k He=>OL M (tg:=tg) hs hp (cut_refl H) k l.length 0 He (by omega)
 simp only [kv_cons,kv_nil,Int.ofNat_zero,List.drop_zero] at hl
 simp (maxSteps:=3000000) (maxDischargeDepth:=6) +contextual -implicitDefEqProofs only [amA M,amB,↓aj,↓ae,↓al,↓ak,Nat.reduceBEq,Nat.reduceAdd,env,ao,fP,hl]
 exact pB p l 0 H
theorem CL(hf:E.fn cW=some aY)(hg:E.fn dF=some bk){g:Nat}{fr cap:List AV}{p:bB→Bool}{tg:Tag}{l:List bB}(hs:l.length≤bE){H:List ab}
  (hp:∀ x∈l,M.run g (fr ++ .agg (bB.row x)::cap) H=some (.ret (.bool (p x)),H)) :
  M.run dF [.slice tg 4 (l.map bB.row),.fn (.func g) fr cap] H=some (.ret (.bool (l.any p)),H):=by
 rw [a6 M hg rfl (c:=fi) rfl,fi]
 simp (maxSteps:=3000000) (maxDischargeDepth:=6) +contextual -implicitDefEqProofs only [amA M,amB,↓aj,↓ae,↓al,↓ak,Nat.reduceBEq,Nat.reduceAdd,env,ao,oV,FS M hf hs hp,vy]
end
section
attribute [local congr] aF ca bg aG aZ aL aH aA aC aM aN
variable{E:bt}(M:cK cU E)
def wZ{α:Type}(F:Nat→α→Int):Nat→α→Option AV:=fun i x=>sel (!(F i x == 0)) (some (.int .u8 (F i x))) none
def w7{α:Type}(F:Nat→α→Int):Nat→List α→Int
 |_,[]=>0
 |i,x::l=>sel (!(F i x == 0)) (F i x) (w7 F (i+1) l)
theorem l4{α:Type}(F:Nat→α→Int):∀ (l:List α) (i:Nat) (H:List ab),orE (fD (wZ F) i l) H (some (.ret (.int .u8 0),H))=some (.ret (.int .u8 (w7 F i l)),H)
 |[],i,H=>rfl
 |x::l,i,H=>by
  rw [ua,wZ,w7,Js,Jr,GH,GI,GG,l4 F l]
  cases (!(F i x == 0))<;>rfl
def pj{α:Type}(most:Int)(F:Nat→α→Int)(l:List α):Int:=sel (decide (most<(l.length:Int))) 3 (w7 F 0 l)
theorem Kw{H H0:List ab}{g:Nat}{fr cap:List AV}{F:Nat→bF→Int}{tg:Tag}{l:List bF}(hs:l.length≤bE)(hfw:Wk H.length (.fn (.func g) fr cap) (.fn (.func g) fr cap))(hlw:Wk H.length (.slice tg 2 (l.map bF.row)) (.slice tg 2 (l.map bF.row)))(hp:∀ (L:List ab) (i:Nat) (x:bF),l[i]?=some x→M.run g (fr ++ .int .i64 i :: .agg (bF.row x)::cap) (H++L)=some (.ret (.int .u8 (F i x)),H++L))(hc:dL H0 H)(k:List Fra):∀ (n i:Nat),i+n=l.length →
  M.go ct H0 (.c ga :: .lp ⟨(some [2,14,15,16]),[],true⟩ ga H :: .blk 0 :: .c (.lv [])::k) (kv [(2,.fn (.func g) fr cap),(14,.slice tg 2 (l.map bF.row)),(15,.int .i64 l.length),(16,.int .i64 i)]) H =
   orE (fD (wZ F) i (l.drop i)) (H.take H0.length) (M.go ct H0 k .leaf H)
 |0,i,h=>by
  have e:i=l.length:=by omega
  subst e
  rw [aw M ga.eq_1]
  simp (maxSteps:=3000000) (maxDischargeDepth:=6) +contextual -implicitDefEqProofs only [amA M,amB,↓aj,↓ae,↓al,↓ak,Nat.reduceBEq,Nat.reduceAdd,env,ao,mR,Nat.lt_irrefl,List.drop_length]
 |n+1,i,h=>by
  have hi:i<l.length:=by omega
  have hx:l[i]?=some l[i]:=List.getElem?_eq_getElem hi
  have hd:(l.drop i)=l[i]::l.drop (i+1):=List.drop_eq_getElem_cons hi
  have hm:l[i]∈l:=List.getElem_mem hi
  have ih:=Kw (H:=H) (H0:=H0) (g:=g) (fr:=fr) (cap:=cap) (F:=F) (tg:=tg) (l:=l) (hs:=hs) (hfw:=hfw) (hlw:=hlw) (hp:=hp) hc k n (i+1)  (by omega)
  simp only [kv_cons,kv_nil] at ih
  have hp:=fun L=>hp L i l[i] hx
  rw [aw M ga.eq_1]
  simp (maxSteps:=3000000) (maxDischargeDepth:=6) +contextual -implicitDefEqProofs only [amA M,amB,↓aj,↓ae,↓al,↓ak,Nat.reduceBEq,Nat.reduceAdd,env,ao,mR,hx,hd,hi,ih,amG,AV.cell,hp,hfw,hlw,de hi hs,bp hi,uC,wZ,hc]
theorem Kx(hf:E.fn jv=some ct){g:Nat}{fr cap:List AV}{F:Nat→bF→Int}{tg:Tag}{l:List bF}{H:List ab}(hs:l.length≤bE)(hfw:Wk H.length (.fn (.func g) fr cap) (.fn (.func g) fr cap))(hlw:Wk H.length (.slice tg 2 (l.map bF.row)) (.slice tg 2 (l.map bF.row)))
  (hp:∀ (L:List ab) (i:Nat) (x:bF),l[i]?=some x→M.run g (fr ++ .int .i64 i :: .agg (bF.row x)::cap) (H++L)=some (.ret (.int .u8 (F i x)),H++L)) (most:Int) :
  M.run jv [.slice tg 2 (l.map bF.row),.int .i64 most,.fn (.func g) fr cap] H=some (.ret (.int .u8 (pj most F l)),H):=by
 rw [a6 M hf rfl (c:=mQ) rfl,mQ]
 have hl:=fun k=>Kw M (tg:=tg) hs hfw hlw hp (cut_refl H) k l.length 0 (by omega)
 simp only [kv_cons,kv_nil,Int.ofNat_zero,List.drop_zero] at hl
 simp (maxSteps:=3000000) (maxDischargeDepth:=6) +contextual -implicitDefEqProofs only [amA M,amB,↓aj,↓ae,↓al,↓ak,Nat.reduceBEq,Nat.reduceAdd,env,ao,mR,hl]
 rw [l4,pj]
 cases decide (most<(l.length:Int))<;>rfl
theorem Mv{H H0:List ab}{g:Nat}{fr cap:List AV}{F:Nat→au→Int}{tg:Tag}{l:List au}(hs:l.length≤bE)(hfw:Wk H.length (.fn (.func g) fr cap) (.fn (.func g) fr cap))(hlw:Wk H.length (.slice tg 2 (l.map au.row)) (.slice tg 2 (l.map au.row)))(hp:∀ (L:List ab) (i:Nat) (x:au),l[i]?=some x→M.run g (fr ++ .int .i64 i :: .agg (au.row x)::cap) (H++L)=some (.ret (.int .u8 (F i x)),H++L))(hc:dL H0 H)(k:List Fra):∀ (n i:Nat),i+n=l.length →
  M.go cQ H0 (.c gN :: .lp ⟨(some [2,14,15,16]),[],true⟩ gN H :: .blk 0 :: .c (.lv [])::k) (kv [(2,.fn (.func g) fr cap),(14,.slice tg 2 (l.map au.row)),(15,.int .i64 l.length),(16,.int .i64 i)]) H =
   orE (fD (wZ F) i (l.drop i)) (H.take H0.length) (M.go cQ H0 k .leaf H)
 |0,i,h=>by
  have e:i=l.length:=by omega
  subst e
  rw [aw M gN.eq_1]
  simp (maxSteps:=3000000) (maxDischargeDepth:=6) +contextual -implicitDefEqProofs only [amA M,amB,↓aj,↓ae,↓al,↓ak,Nat.reduceBEq,Nat.reduceAdd,env,ao,oE,Nat.lt_irrefl,List.drop_length]
 |n+1,i,h=>by
  have hi:i<l.length:=by omega
  have hx:l[i]?=some l[i]:=List.getElem?_eq_getElem hi
  have hd:(l.drop i)=l[i]::l.drop (i+1):=List.drop_eq_getElem_cons hi
  have hm:l[i]∈l:=List.getElem_mem hi
  have ih:=Mv (H:=H) (H0:=H0) (g:=g) (fr:=fr) (cap:=cap) (F:=F) (tg:=tg) (l:=l) (hs:=hs) (hfw:=hfw) (hlw:=hlw) (hp:=hp) hc k n (i+1)  (by omega)
  simp only [kv_cons,kv_nil] at ih
  have hp:=fun L=>hp L i l[i] hx
  rw [aw M gN.eq_1]
  simp (maxSteps:=3000000) (maxDischargeDepth:=6) +contextual -implicitDefEqProofs only [amA M,amB,↓aj,↓ae,↓al,↓ak,Nat.reduceBEq,Nat.reduceAdd,env,ao,oE,hx,hd,hi,ih,amG,AV.cell,hp,hfw,hlw,de hi hs,bp hi,yp,wZ,hc]
theorem LO(hf:E.fn ka=some cQ){g:Nat}{fr cap:List AV}{F:Nat→au→Int}{tg:Tag}{l:List au}{H:List ab}(hs:l.length≤bE)(hfw:Wk H.length (.fn (.func g) fr cap) (.fn (.func g) fr cap))(hlw:Wk H.length (.slice tg 2 (l.map au.row)) (.slice tg 2 (l.map au.row)))
  (hp:∀ (L:List ab) (i:Nat) (x:au),l[i]?=some x→M.run g (fr ++ .int .i64 i :: .agg (au.row x)::cap) (H++L)=some (.ret (.int .u8 (F i x)),H++L)) (most:Int) :
  M.run ka [.slice tg 2 (l.map au.row),.int .i64 most,.fn (.func g) fr cap] H=some (.ret (.int .u8 (pj most F l)),H):=by
 rw [a6 M hf rfl (c:=oD) rfl,oD]
 have hl:=fun k=>Mv M (tg:=tg) hs hfw hlw hp (cut_refl H) k l.length 0 (by omega)
 simp only [kv_cons,kv_nil,Int.ofNat_zero,List.drop_zero] at hl
 simp (maxSteps:=3000000) (maxDischargeDepth:=6) +contextual -implicitDefEqProofs only [amA M,amB,↓aj,↓ae,↓al,↓ak,Nat.reduceBEq,Nat.reduceAdd,env,ao,oE,hl]
 rw [l4,pj]
 cases decide (most<(l.length:Int))<;>rfl
theorem Mw{H H0:List ab}{g:Nat}{fr cap:List AV}{F:Nat→bB→Int}{tg:Tag}{l:List bB}(hs:l.length≤bE)(hfw:Wk H.length (.fn (.func g) fr cap) (.fn (.func g) fr cap))(hlw:Wk H.length (.slice tg 4 (l.map bB.row)) (.slice tg 4 (l.map bB.row)))(hp:∀ (L:List ab) (i:Nat) (x:bB),l[i]?=some x→M.run g (fr ++ .int .i64 i :: .agg (bB.row x)::cap) (H++L)=some (.ret (.int .u8 (F i x)),H++L))(hc:dL H0 H)(k:List Fra):∀ (n i:Nat),i+n=l.length →
  M.go cP H0 (.c gM :: .lp ⟨(some [2,14,15,16]),[],true⟩ gM H :: .blk 0 :: .c (.lv [])::k) (kv [(2,.fn (.func g) fr cap),(14,.slice tg 4 (l.map bB.row)),(15,.int .i64 l.length),(16,.int .i64 i)]) H =
   orE (fD (wZ F) i (l.drop i)) (H.take H0.length) (M.go cP H0 k .leaf H)
 |0,i,h=>by
  have e:i=l.length:=by omega
  subst e
  rw [aw M gM.eq_1]
  simp (maxSteps:=3000000) (maxDischargeDepth:=6) +contextual -implicitDefEqProofs only [amA M,amB,↓aj,↓ae,↓al,↓ak,Nat.reduceBEq,Nat.reduceAdd,env,ao,oC,Nat.lt_irrefl,List.drop_length]
 |n+1,i,h=>by
  have hi:i<l.length:=by omega
  have hx:l[i]?=some l[i]:=List.getElem?_eq_getElem hi
  have hd:(l.drop i)=l[i]::l.drop (i+1):=List.drop_eq_getElem_cons hi
  have hm:l[i]∈l:=List.getElem_mem hi
  have ih:=Mw (H:=H) (H0:=H0) (g:=g) (fr:=fr) (cap:=cap) (F:=F) (tg:=tg) (l:=l) (hs:=hs) (hfw:=hfw) (hlw:=hlw) (hp:=hp) hc k n (i+1)  (by omega)
  simp only [kv_cons,kv_nil] at ih
  have hp:=fun L=>hp L i l[i] hx
  rw [aw M gM.eq_1]
  simp (maxSteps:=3000000) (maxDischargeDepth:=6) +contextual -implicitDefEqProofs only [amA M,amB,↓aj,↓ae,↓al,↓ak,Nat.reduceBEq,Nat.reduceAdd,env,ao,oC,hx,hd,hi,ih,amG,AV.cell,hp,hfw,hlw,de hi hs,bp hi,o4,wZ,hc]
theorem LP(hf:E.fn j9=some cP){g:Nat}{fr cap:List AV}{F:Nat→bB→Int}{tg:Tag}{l:List bB}{H:List ab}(hs:l.length≤bE)(hfw:Wk H.length (.fn (.func g) fr cap) (.fn (.func g) fr cap))(hlw:Wk H.length (.slice tg 4 (l.map bB.row)) (.slice tg 4 (l.map bB.row)))
  (hp:∀ (L:List ab) (i:Nat) (x:bB),l[i]?=some x→M.run g (fr ++ .int .i64 i :: .agg (bB.row x)::cap) (H++L)=some (.ret (.int .u8 (F i x)),H++L)) (most:Int) :
  M.run j9 [.slice tg 4 (l.map bB.row),.int .i64 most,.fn (.func g) fr cap] H=some (.ret (.int .u8 (pj most F l)),H):=by
 rw [a6 M hf rfl (c:=oB) rfl,oB]
 have hl:=fun k=>Mw M (tg:=tg) hs hfw hlw hp (cut_refl H) k l.length 0 (by omega)
 simp only [kv_cons,kv_nil,Int.ofNat_zero,List.drop_zero] at hl
 simp (maxSteps:=3000000) (maxDischargeDepth:=6) +contextual -implicitDefEqProofs only [amA M,amB,↓aj,↓ae,↓al,↓ak,Nat.reduceBEq,Nat.reduceAdd,env,ao,oC,hl]
 rw [l4,pj]
 cases decide (most<(l.length:Int))<;>rfl
theorem Ky{H H0:List ab}{g:Nat}{fr cap:List AV}{F:Nat→a8→Int}{tg:Tag}{l:List a8}(hs:l.length≤bE)(hfw:Wk H.length (.fn (.func g) fr cap) (.fn (.func g) fr cap))(hlw:Wk H.length (.slice tg 2 (l.map a8.row)) (.slice tg 2 (l.map a8.row)))(hp:∀ (L:List ab) (i:Nat) (x:a8),l[i]?=some x→M.run g (fr ++ .int .i64 i :: .agg (a8.row x)::cap) (H++L)=some (.ret (.int .u8 (F i x)),H++L))(hc:dL H0 H)(k:List Fra):∀ (n i:Nat),i+n=l.length →
  M.go cu H0 (.c gb :: .lp ⟨(some [2,14,15,16]),[],true⟩ gb H :: .blk 0 :: .c (.lv [])::k) (kv [(2,.fn (.func g) fr cap),(14,.slice tg 2 (l.map a8.row)),(15,.int .i64 l.length),(16,.int .i64 i)]) H =
   orE (fD (wZ F) i (l.drop i)) (H.take H0.length) (M.go cu H0 k .leaf H)
 |0,i,h=>by
  have e:i=l.length:=by omega
  subst e
  rw [aw M gb.eq_1]
  simp (maxSteps:=3000000) (maxDischargeDepth:=6) +contextual -implicitDefEqProofs only [amA M,amB,↓aj,↓ae,↓al,↓ak,Nat.reduceBEq,Nat.reduceAdd,env,ao,mT,Nat.lt_irrefl,List.drop_length]
 |n+1,i,h=>by
  have hi:i<l.length:=by omega
  have hx:l[i]?=some l[i]:=List.getElem?_eq_getElem hi
  have hd:(l.drop i)=l[i]::l.drop (i+1):=List.drop_eq_getElem_cons hi
  have hm:l[i]∈l:=List.getElem_mem hi
  have ih:=Ky (H:=H) (H0:=H0) (g:=g) (fr:=fr) (cap:=cap) (F:=F) (tg:=tg) (l:=l) (hs:=hs) (hfw:=hfw) (hlw:=hlw) (hp:=hp) hc k n (i+1)  (by omega)
  simp only [kv_cons,kv_nil] at ih
  have hp:=fun L=>hp L i l[i] hx
  rw [aw M gb.eq_1]
  simp (maxSteps:=3000000) (maxDischargeDepth:=6) +contextual -implicitDefEqProofs only [amA M,amB,↓aj,↓ae,↓al,↓ak,Nat.reduceBEq,Nat.reduceAdd,env,ao,mT,hx,hd,hi,ih,amG,AV.cell,hp,hfw,hlw,de hi hs,bp hi,ko,wZ,hc]
theorem Kz(hf:E.fn jw=some cu){g:Nat}{fr cap:List AV}{F:Nat→a8→Int}{tg:Tag}{l:List a8}{H:List ab}(hs:l.length≤bE)(hfw:Wk H.length (.fn (.func g) fr cap) (.fn (.func g) fr cap))(hlw:Wk H.length (.slice tg 2 (l.map a8.row)) (.slice tg 2 (l.map a8.row)))
  (hp:∀ (L:List ab) (i:Nat) (x:a8),l[i]?=some x→M.run g (fr ++ .int .i64 i :: .agg (a8.row x)::cap) (H++L)=some (.ret (.int .u8 (F i x)),H++L)) (most:Int) :
  M.run jw [.slice tg 2 (l.map a8.row),.int .i64 most,.fn (.func g) fr cap] H=some (.ret (.int .u8 (pj most F l)),H):=by
 rw [a6 M hf rfl (c:=mS) rfl,mS]
 have hl:=fun k=>Ky M (tg:=tg) hs hfw hlw hp (cut_refl H) k l.length 0 (by omega)
 simp only [kv_cons,kv_nil,Int.ofNat_zero,List.drop_zero] at hl
 simp (maxSteps:=3000000) (maxDischargeDepth:=6) +contextual -implicitDefEqProofs only [amA M,amB,↓aj,↓ae,↓al,↓ak,Nat.reduceBEq,Nat.reduceAdd,env,ao,mT,hl]
 rw [l4,pj]
 cases decide (most<(l.length:Int))<;>rfl
theorem KA{H H0:List ab}{g:Nat}{fr cap:List AV}{F:Nat→aK→Int}{tg:Tag}{l:List aK}(hs:l.length≤bE)(hfw:Wk H.length (.fn (.func g) fr cap) (.fn (.func g) fr cap))(hlw:Wk H.length (.slice tg 4 (l.map aK.row)) (.slice tg 4 (l.map aK.row)))(hp:∀ (L:List ab) (i:Nat) (x:aK),l[i]?=some x→M.run g (fr ++ .int .i64 i :: .agg (aK.row x)::cap) (H++L)=some (.ret (.int .u8 (F i x)),H++L))(hc:dL H0 H)(k:List Fra):∀ (n i:Nat),i+n=l.length →
  M.go cw H0 (.c gd :: .lp ⟨(some [2,14,15,16]),[],true⟩ gd H :: .blk 0 :: .c (.lv [])::k) (kv [(2,.fn (.func g) fr cap),(14,.slice tg 4 (l.map aK.row)),(15,.int .i64 l.length),(16,.int .i64 i)]) H =
   orE (fD (wZ F) i (l.drop i)) (H.take H0.length) (M.go cw H0 k .leaf H)
 |0,i,h=>by
  have e:i=l.length:=by omega
  subst e
  rw [aw M gd.eq_1]
  simp (maxSteps:=3000000) (maxDischargeDepth:=6) +contextual -implicitDefEqProofs only [amA M,amB,↓aj,↓ae,↓al,↓ak,Nat.reduceBEq,Nat.reduceAdd,env,ao,mV,Nat.lt_irrefl,List.drop_length]
 |n+1,i,h=>by
  have hi:i<l.length:=by omega
  have hx:l[i]?=some l[i]:=List.getElem?_eq_getElem hi
  have hd:(l.drop i)=l[i]::l.drop (i+1):=List.drop_eq_getElem_cons hi
  have hm:l[i]∈l:=List.getElem_mem hi
  have ih:=KA (H:=H) (H0:=H0) (g:=g) (fr:=fr) (cap:=cap) (F:=F) (tg:=tg) (l:=l) (hs:=hs) (hfw:=hfw) (hlw:=hlw) (hp:=hp) hc k n (i+1)  (by omega)
  simp only [kv_cons,kv_nil] at ih
  have hp:=fun L=>hp L i l[i] hx
  rw [aw M gd.eq_1]
  simp (maxSteps:=3000000) (maxDischargeDepth:=6) +contextual -implicitDefEqProofs only [amA M,amB,↓aj,↓ae,↓al,↓ak,Nat.reduceBEq,Nat.reduceAdd,env,ao,mV,hx,hd,hi,ih,amG,AV.cell,hp,hfw,hlw,de hi hs,bp hi,gS,wZ,hc]
theorem KB(hf:E.fn jx=some cw){g:Nat}{fr cap:List AV}{F:Nat→aK→Int}{tg:Tag}{l:List aK}{H:List ab}(hs:l.length≤bE)(hfw:Wk H.length (.fn (.func g) fr cap) (.fn (.func g) fr cap))(hlw:Wk H.length (.slice tg 4 (l.map aK.row)) (.slice tg 4 (l.map aK.row)))
  (hp:∀ (L:List ab) (i:Nat) (x:aK),l[i]?=some x→M.run g (fr ++ .int .i64 i :: .agg (aK.row x)::cap) (H++L)=some (.ret (.int .u8 (F i x)),H++L)) (most:Int) :
  M.run jx [.slice tg 4 (l.map aK.row),.int .i64 most,.fn (.func g) fr cap] H=some (.ret (.int .u8 (pj most F l)),H):=by
 rw [a6 M hf rfl (c:=mU) rfl,mU]
 have hl:=fun k=>KA M (tg:=tg) hs hfw hlw hp (cut_refl H) k l.length 0 (by omega)
 simp only [kv_cons,kv_nil,Int.ofNat_zero,List.drop_zero] at hl
 simp (maxSteps:=3000000) (maxDischargeDepth:=6) +contextual -implicitDefEqProofs only [amA M,amB,↓aj,↓ae,↓al,↓ak,Nat.reduceBEq,Nat.reduceAdd,env,ao,mV,hl]
 rw [l4,pj]
 cases decide (most<(l.length:Int))<;>rfl
theorem KC{H H0:List ab}{g:Nat}{fr cap:List AV}{F:Nat→bz→Int}{tg:Tag}{l:List bz}(hs:l.length≤bE)(hfw:Wk H.length (.fn (.func g) fr cap) (.fn (.func g) fr cap))(hlw:Wk H.length (.slice tg 4 (l.map bz.row)) (.slice tg 4 (l.map bz.row)))(hp:∀ (L:List ab) (i:Nat) (x:bz),l[i]?=some x→M.run g (fr ++ .int .i64 i :: .agg (bz.row x)::cap) (H++L)=some (.ret (.int .u8 (F i x)),H++L))(hc:dL H0 H)(k:List Fra):∀ (n i:Nat),i+n=l.length →
  M.go cA H0 (.c gf :: .lp ⟨(some [2,14,15,16]),[],true⟩ gf H :: .blk 0 :: .c (.lv [])::k) (kv [(2,.fn (.func g) fr cap),(14,.slice tg 4 (l.map bz.row)),(15,.int .i64 l.length),(16,.int .i64 i)]) H =
   orE (fD (wZ F) i (l.drop i)) (H.take H0.length) (M.go cA H0 k .leaf H)
 |0,i,h=>by
  have e:i=l.length:=by omega
  subst e
  rw [aw M gf.eq_1]
  simp (maxSteps:=3000000) (maxDischargeDepth:=6) +contextual -implicitDefEqProofs only [amA M,amB,↓aj,↓ae,↓al,↓ak,Nat.reduceBEq,Nat.reduceAdd,env,ao,mX,Nat.lt_irrefl,List.drop_length]
 |n+1,i,h=>by
  have hi:i<l.length:=by omega
  have hx:l[i]?=some l[i]:=List.getElem?_eq_getElem hi
  have hd:(l.drop i)=l[i]::l.drop (i+1):=List.drop_eq_getElem_cons hi
  have hm:l[i]∈l:=List.getElem_mem hi
  have ih:=KC (H:=H) (H0:=H0) (g:=g) (fr:=fr) (cap:=cap) (F:=F) (tg:=tg) (l:=l) (hs:=hs) (hfw:=hfw) (hlw:=hlw) (hp:=hp) hc k n (i+1)  (by omega)
  simp only [kv_cons,kv_nil] at ih
  have hp:=fun L=>hp L i l[i] hx
  rw [aw M gf.eq_1]
  simp (maxSteps:=3000000) (maxDischargeDepth:=6) +contextual -implicitDefEqProofs only [amA M,amB,↓aj,↓ae,↓al,↓ak,Nat.reduceBEq,Nat.reduceAdd,env,ao,mX,hx,hd,hi,ih,amG,AV.cell,hp,hfw,hlw,de hi hs,bp hi,yA,wZ,hc]
theorem KD(hf:E.fn jy=some cA){g:Nat}{fr cap:List AV}{F:Nat→bz→Int}{tg:Tag}{l:List bz}{H:List ab}(hs:l.length≤bE)(hfw:Wk H.length (.fn (.func g) fr cap) (.fn (.func g) fr cap))(hlw:Wk H.length (.slice tg 4 (l.map bz.row)) (.slice tg 4 (l.map bz.row)))
  (hp:∀ (L:List ab) (i:Nat) (x:bz),l[i]?=some x→M.run g (fr ++ .int .i64 i :: .agg (bz.row x)::cap) (H++L)=some (.ret (.int .u8 (F i x)),H++L)) (most:Int) :
  M.run jy [.slice tg 4 (l.map bz.row),.int .i64 most,.fn (.func g) fr cap] H=some (.ret (.int .u8 (pj most F l)),H):=by
 rw [a6 M hf rfl (c:=mW) rfl,mW]
 have hl:=fun k=>KC M (tg:=tg) hs hfw hlw hp (cut_refl H) k l.length 0 (by omega)
 simp only [kv_cons,kv_nil,Int.ofNat_zero,List.drop_zero] at hl
 simp (maxSteps:=3000000) (maxDischargeDepth:=6) +contextual -implicitDefEqProofs only [amA M,amB,↓aj,↓ae,↓al,↓ak,Nat.reduceBEq,Nat.reduceAdd,env,ao,mX,hl]
 rw [l4,pj]
 cases decide (most<(l.length:Int))<;>rfl
theorem Mx{H H0:List ab}{g:Nat}{fr cap:List AV}{F:Nat→dH→Int}{tg:Tag}{l:List dH}(hs:l.length≤bE)(hfw:Wk H.length (.fn (.func g) fr cap) (.fn (.func g) fr cap))(hlw:Wk H.length (.slice tg 3 (l.map dH.row)) (.slice tg 3 (l.map dH.row)))(hp:∀ (L:List ab) (i:Nat) (x:dH),l[i]?=some x→M.run g (fr ++ .int .i64 i :: .agg (dH.row x)::cap) (H++L)=some (.ret (.int .u8 (F i x)),H++L))(hc:dL H0 H)(k:List Fra):∀ (n i:Nat),i+n=l.length →
  M.go cO H0 (.c gL :: .lp ⟨(some [2,14,15,16]),[],true⟩ gL H :: .blk 0 :: .c (.lv [])::k) (kv [(2,.fn (.func g) fr cap),(14,.slice tg 3 (l.map dH.row)),(15,.int .i64 l.length),(16,.int .i64 i)]) H =
   orE (fD (wZ F) i (l.drop i)) (H.take H0.length) (M.go cO H0 k .leaf H)
 |0,i,h=>by
  have e:i=l.length:=by omega
  subst e
  rw [aw M gL.eq_1]
  simp (maxSteps:=3000000) (maxDischargeDepth:=6) +contextual -implicitDefEqProofs only [amA M,amB,↓aj,↓ae,↓al,↓ak,Nat.reduceBEq,Nat.reduceAdd,env,ao,ou,Nat.lt_irrefl,List.drop_length]
 |n+1,i,h=>by
  have hi:i<l.length:=by omega
  have hx:l[i]?=some l[i]:=List.getElem?_eq_getElem hi
  have hd:(l.drop i)=l[i]::l.drop (i+1):=List.drop_eq_getElem_cons hi
  have hm:l[i]∈l:=List.getElem_mem hi
  have ih:=Mx (H:=H) (H0:=H0) (g:=g) (fr:=fr) (cap:=cap) (F:=F) (tg:=tg) (l:=l) (hs:=hs) (hfw:=hfw) (hlw:=hlw) (hp:=hp) hc k n (i+1)  (by omega)
  simp only [kv_cons,kv_nil] at ih
  have hp:=fun L=>hp L i l[i] hx
  rw [aw M gL.eq_1]
  simp (maxSteps:=3000000) (maxDischargeDepth:=6) +contextual -implicitDefEqProofs only [amA M,amB,↓aj,↓ae,↓al,↓ak,Nat.reduceBEq,Nat.reduceAdd,env,ao,ou,hx,hd,hi,ih,amG,AV.cell,hp,hfw,hlw,de hi hs,bp hi,Fb,wZ,hc]
theorem LQ(hf:E.fn j8=some cO){g:Nat}{fr cap:List AV}{F:Nat→dH→Int}{tg:Tag}{l:List dH}{H:List ab}(hs:l.length≤bE)(hfw:Wk H.length (.fn (.func g) fr cap) (.fn (.func g) fr cap))(hlw:Wk H.length (.slice tg 3 (l.map dH.row)) (.slice tg 3 (l.map dH.row)))
  (hp:∀ (L:List ab) (i:Nat) (x:dH),l[i]?=some x→M.run g (fr ++ .int .i64 i :: .agg (dH.row x)::cap) (H++L)=some (.ret (.int .u8 (F i x)),H++L)) (most:Int) :
  M.run j8 [.slice tg 3 (l.map dH.row),.int .i64 most,.fn (.func g) fr cap] H=some (.ret (.int .u8 (pj most F l)),H):=by
 rw [a6 M hf rfl (c:=ot) rfl,ot]
 have hl:=fun k=>Mx M (tg:=tg) hs hfw hlw hp (cut_refl H) k l.length 0 (by omega)
 simp only [kv_cons,kv_nil,Int.ofNat_zero,List.drop_zero] at hl
 simp (maxSteps:=3000000) (maxDischargeDepth:=6) +contextual -implicitDefEqProofs only [amA M,amB,↓aj,↓ae,↓al,↓ak,Nat.reduceBEq,Nat.reduceAdd,env,ao,ou,hl]
 rw [l4,pj]
 cases decide (most<(l.length:Int))<;>rfl
end
section
attribute [local congr] aF ca bg aG aZ aL aH aA aC aM aN
variable{E:bt}(M:cK cU E)
structure jH (E:bt):Prop where
 morph_checker_vowels:E.fn ju=some cY
 slices_Index_string_string:E.fn i6=some bM
 slices_Contains_string_string:E.fn dU=some b7
 morph_checker_trait_1:E.fn iP=some ec
 slices_IndexFunc_api_Trait_api_Trait:E.fn bQ=some aS
 slices_ContainsFunc_api_Trait_api_Trait:E.fn dh=some bb
 morph_checker_trait:E.fn j4=some dw
 morph_each_api_Trait:E.fn jv=some ct
 morph_Check_1:E.fn qJ=some ja
 morph_checker_class_1:E.fn iQ=some ed
 slices_IndexFunc_api_Class_api_Class:E.fn bR=some aT
 slices_ContainsFunc_api_Class_api_Class:E.fn di=some bc
 morph_short:E.fn iF=some k8
 morph_checker_bundle_1_1:E.fn gW=some du
 morph_checker_bundle_1:E.fn iG=some dN
 morph_each_api_Feat:E.fn ka=some cQ
 morph_checker_bundle:E.fn fE=some ez
 morph_checker_class_2:E.fn iR=some ee
 morph_each_api_Slot:E.fn j9=some cP
 morph_checker_class:E.fn j5=some eW
 morph_each_api_Class:E.fn jw=some cu
 morph_Check_2:E.fn qK=some jb
 morph_checker_entry_3:E.fn iU=some ei
 slices_IndexFunc_api_Irregular_api_Irregular:E.fn bK=some aD
 slices_ContainsFunc_api_Irregular_api_Irregular:E.fn b5=some aV
 morph_classOf_1:E.fn kE=some hJ
 morph_classOf:E.fn fC=some jf
 morph_checker_entry_1:E.fn iS=some eg
 slices_IndexFunc_api_Entry_api_Entry:E.fn cF=some aU
 slices_ContainsFunc_api_Entry_api_Entry:E.fn dj=some bf
 morph_clash_1_1:E.fn oP=some hT
 slices_IndexFunc_api_Feat_api_Feat:E.fn cV=some aX
 slices_ContainsFunc_api_Feat_api_Feat:E.fn bN=some bj
 morph_clash_1:E.fn qO=some jk
 morph_clash:E.fn yH=some lb
 morph_checker_entry_2:E.fn iT=some eh
 slices_IndexFunc_api_Slot_api_Slot:E.fn cW=some aY
 slices_ContainsFunc_api_Slot_api_Slot:E.fn dF=some bk
 morph_checker_entry:E.fn j6=some dx
 morph_each_api_Entry:E.fn jx=some cw
 morph_Check_3:E.fn qL=some jc
 morph_symbol:E.fn lF=some jU
 morph_around:E.fn o9=some jV
 morph_checker_spell:E.fn j7=some eX
 morph_each_api_Spell:E.fn jy=some cA
 morph_Check_4:E.fn qM=some jd
 morph_checker_link:E.fn kC=some fp
 morph_each_api_Link:E.fn j8=some cO
 morph_Check_5:E.fn qN=some je
 morph_first:E.fn yF=some iH
 morph_Check:E.fn kW=some kZ
def eO(e:Int):Option AV:=sel (!(e == 0)) (some (.int .u8 e)) none
theorem Ju{α:Type}(F:Nat→α→Int)(i:Nat)(x:α):wZ F i x=eO (F i x):=rfl
theorem Wt(b:Bool)(e e':Int):eO (sel b e e')=sel b (eO e) (eO e'):=by cases b<;>rfl
theorem qE:(∀ (b:Bool) (e e':Int),eO (slc b e e')=slc b (eO e) (eO e'))∧eO 0=none∧eO 1=some (.int .u8 1)∧eO 3=some (.int .u8 3)∧eO 5=some (.int .u8 5)∧eO 6=some (.int .u8 6)∧eO 7=some (.int .u8 7)∧eO 10=some (.int .u8 10):=
 ⟨Wt,rfl,rfl,rfl,rfl,rfl,rfl,rfl⟩
theorem BK{α:Type}(p:α→Bool):∀ (l:List α) (i:Nat),(CJ p i l = -1∧l.find? p=none)∨∃ (j:Nat) (x:α),CJ p i l=((i+j:Nat):Int)∧l[j]?=some x∧l.find? p=some x
 |[],_=>.inl ⟨rfl,rfl⟩
 |x::l,i=>by
  cases h:p x with
  |true=>exact .inr ⟨0,x,by simp [CJ,h,sel],rfl,by simp [h]⟩
  |false=>
   rcases BK p l (i+1) with ⟨h1,h2⟩ | ⟨j,y,h1,h2,h3⟩
   ·exact .inl ⟨by simp [CJ,h,sel,h1],by simp [h,h2]⟩
   ·exact .inr ⟨j+1,y,by simp [CJ,h,sel,h1];omega,by simpa using h2,by simp [h,h3]⟩
theorem ixs{H H0:List ab}{v:Str}{tg:Tag}{l:List Str}(hs:l.length≤bE)(hc:dL H0 H)(k:List Fra):∀ (n i:Nat) (He:List ab),i+n=l.length →
  M.go bM H0 (.c eb :: .lp ⟨(some [0,1,7,8]),[],false⟩ eb He :: .blk 0 :: .c (.lv [])::k) (kv [(0,.slice tg 1 (l.map kV)),(1,.str v),(7,.int .i64 l.length),(8,.int .i64 i)]) H =
   orE (fD (CI fun s=>v == s) i (l.drop i)) (H.take H0.length) (M.go bM H0 k .leaf H)
 |0,i,He,h=>by
  have e:i=l.length:=by omega
  subst e
  rw [aw M eb.eq_1]
  simp (maxSteps:=3000000) (maxDischargeDepth:=6) +contextual -implicitDefEqProofs only [amA M,amB,↓aj,↓ae,↓al,↓ak,Nat.reduceBEq,Nat.reduceAdd,env,ao,jh,Nat.lt_irrefl,List.drop_length]
 |n+1,i,He,h=>by
  have hi:i<l.length:=by omega
  have hx:l[i]?=some l[i]:=List.getElem?_eq_getElem hi
  have hd:(l.drop i)=l[i]::l.drop (i+1):=List.drop_eq_getElem_cons hi
  have hm:l[i]∈l:=List.getElem_mem hi
  have ih:=fun He=>ixs (H:=H) (H0:=H0) (v:=v) (tg:=tg) (l:=l) (hs:=hs) hc k n (i+1)  He (by omega)
  simp only [kv_cons,kv_nil] at ih
  rw [aw M eb.eq_1]
  simp (maxSteps:=3000000) (maxDischargeDepth:=6) +contextual -implicitDefEqProofs only [amA M,amB,↓aj,↓ae,↓al,↓ak,Nat.reduceBEq,Nat.reduceAdd,env,ao,jh,hx,hd,hi,ih,de hi hs,bp hi,Tv,CI,hc]
theorem BM(hE:jH E){v:Str}{tg:Tag}{l:List Str}(hs:l.length≤bE)(H:List ab):M.run dU [.slice tg 1 (l.map kV),.str v] H=some (.ret (.bool (l.any fun s=>v == s)),H):=by
 have h1:M.run i6 [.slice tg 1 (l.map kV),.str v] H=some (.ret (.int .i64 (CJ (fun s=>v == s) 0 l)),H):=by
  rw [a6 M hE.slices_Index_string_string rfl (c:=jg) rfl,jg]
  have hl:=fun k He=>ixs M (tg:=tg) (v:=v) hs (cut_refl H) k l.length 0 He (by omega)
  simp only [kv_cons,kv_nil,Int.ofNat_zero,List.drop_zero] at hl
  simp (maxSteps:=3000000) (maxDischargeDepth:=6) +contextual -implicitDefEqProofs only [amA M,amB,↓aj,↓ae,↓al,↓ak,Nat.reduceBEq,Nat.reduceAdd,env,ao,jh,hl]
  exact pB _ l 0 H
 rw [a6 M hE.slices_Contains_string_string rfl (c:=iv) rfl,iv]
 simp (maxSteps:=3000000) (maxDischargeDepth:=6) +contextual -implicitDefEqProofs only [amA M,amB,↓aj,↓ae,↓al,↓ak,Nat.reduceBEq,Nat.reduceAdd,env,ao,sY,h1,vy]
def Fj(c:UInt8):Bool:=qY c||((c.toNat:Int) == 43)
def II(c:UInt8):Bool:=Fj c||((c.toNat:Int) == 35)||((c.toNat:Int) == 86)||((c.toNat:Int) == 67)
theorem KE(hN:dW E)(hE:jH E)(c:UInt8)(H:List ab):M.run lF [.int .u8 c.toNat] H=some (.ret (.bool (Fj c)),H):=by
 rw [a6 M hE.morph_symbol rfl (c:=wv) rfl,wv]
 simp (maxSteps:=3000000) (maxDischargeDepth:=6) +contextual -implicitDefEqProofs only [amA M,amB,↓aj,↓ae,↓al,↓ak,Nat.reduceBEq,Nat.reduceAdd,env,ao,Kl,ns M hN.letter,Fj]
theorem Qk(hN:dW E)(hE:jH E)(c:UInt8)(H:List ab):M.run o9 [.int .u8 c.toNat] H=some (.ret (.bool (II c)),H):=by
 rw [a6 M hE.morph_around rfl (c:=wx) rfl,wx]
 simp (maxSteps:=3000000) (maxDischargeDepth:=6) +contextual -implicitDefEqProofs only [amA M,amB,↓aj,↓ae,↓al,↓ak,Nat.reduceBEq,Nat.reduceAdd,env,ao,Km,KE M hN hE,II,Bool.or_assoc]
def qZ(p:UInt8→Bool)(s:Str):Bool:=decide ((s.length:Int)≤6)&&s.all p
theorem AN(hN:dW E)(hE:jH E){g:Nat}{fr cap:List AV}{p:UInt8→Bool}{s:Str}(hs:s.length≤bE){H:List ab}(hp:∀ c:UInt8,M.run g (fr ++ .int .u8 c.toNat::cap) H=some (.ret (.bool (p c)),H)) :
  M.run iF [.str s,.fn (.func g) fr cap] H=some (.ret (.bool (qZ p s)),H):=by
 rw [a6 M hE.morph_short rfl (c:=yX) rfl,yX]
 simp (maxSteps:=3000000) (maxDischargeDepth:=6) +contextual -implicitDefEqProofs only [amA M,amB,↓aj,↓ae,↓al,↓ak,Nat.reduceBEq,Nat.reduceAdd,env,ao,LJ,Jt M hN.all hs hp,qZ]
def Sg(v:Str):Nat→UInt8→Bool
 |0,c => !qY c
 |i+1,c => !qY c||(match v[i]? with
  |some d=>decide ((c.toNat:Int)≤(d.toNat:Int))
  |none=>false)
theorem My(v:Str)(c:UInt8):Sg v 0 c = !qY c:=rfl
theorem Mz{v:Str}{i:Nat}{d:UInt8}(h:v[i]?=some d)(c:UInt8):Sg v (i+1) c=(!qY c||decide ((c.toNat:Int)≤(d.toNat:Int))):=by simp only [Sg,h]
theorem vow{H H0:List ab}(hN:dW E){v:Str}(hs:v.length≤bE)(hc:dL H0 H)(k:List Fra):∀ (n i:Nat) (He:List ab),i+n=v.length →
  M.go cY H0 (.c eL :: .lp ⟨(some [3,9,10]),[],false⟩ eL He :: .blk 0 :: .c (.lv [])::k) (kv [(3,.str v),(9,.int .i64 v.length),(10,.int .i64 i)]) H =
   orE (fD (wZ fun i c=>sel (Sg v i c) 1 0) i (v.drop i)) (H.take H0.length) (M.go cY H0 k .leaf H)
 |0,i,He,h=>by
  have e:i=v.length:=by omega
  subst e
  rw [aw M eL.eq_1]
  simp (maxSteps:=3000000) (maxDischargeDepth:=6) +contextual -implicitDefEqProofs only [amA M,amB,↓aj,↓ae,↓al,↓ak,Nat.reduceBEq,Nat.reduceAdd,env,ao,jF,Nat.lt_irrefl,List.drop_length]
 |n+1,i,He,h=>by
  have hi:i<v.length:=by omega
  have hx:v[i]?=some v[i]:=List.getElem?_eq_getElem hi
  have hd:(v.drop i)=v[i]::v.drop (i+1):=List.drop_eq_getElem_cons hi
  have hm:v[i]∈v:=List.getElem_mem hi
  have ih:=fun He=>vow (H:=H) (H0:=H0) (hN:=hN) (v:=v) (hs:=hs) hc k n (i+1)  He (by omega)
  simp only [kv_cons,kv_nil] at ih
  cases i with
  |zero=>
   rw [aw M eL.eq_1]
   simp (maxSteps:=3000000) (maxDischargeDepth:=6) +contextual -implicitDefEqProofs only [amA M,amB,↓aj,↓ae,↓al,↓ak,Nat.reduceBEq,Nat.reduceAdd,env,ao,jF,hx,hd,hi,ih,de hi hs,ns M hN.letter,hc,Ju,qE,My,(show decide ((0:Int)<((0:Nat):Int))=false from rfl)]
  |succ j=>
   have hj:j<v.length:=by omega
   have hxj:v[j]?=some v[j]:=List.getElem?_eq_getElem hj
   rw [aw M eL.eq_1]
   simp (maxSteps:=3000000) (maxDischargeDepth:=6) +contextual -implicitDefEqProofs only [amA M,amB,↓aj,↓ae,↓al,↓ak,Nat.reduceBEq,Nat.reduceAdd,env,ao,jF,hx,hd,hi,ih,de hi hs,Tw (show j+1≤bE by omega),hxj,ns M hN.letter,hc,Ju,qE,Mz hxj,(show decide ((0:Int)<((j+1:Nat):Int))=true from decide_eq_true (by omega))]
def Ql(l:Lex):Int:=w7 (fun i c=>sel (Sg l.vowels i c) 1 0) 0 l.vowels
theorem Qm(hN:dW E)(hE:jH E){l:Lex}{n:Nat}(hl:l.ok n)(H:List ab):M.run ju [.agg l.row] H=some (.ret (.int .u8 (Ql l)),H):=by
 rw [a6 M hE.morph_checker_vowels rfl (c:=mP) rfl,mP]
 have hl:=fun k L He=>vow M hN hl.vowels (cut_app H L) k l.vowels.length 0 He (by omega)
 simp only [kv_cons,kv_nil,Int.ofNat_zero,List.drop_zero] at hl
 simp (maxSteps:=3000000) (maxDischargeDepth:=6) +contextual -implicitDefEqProofs only [amA M,amB,↓aj,↓ae,↓al,↓ak,Nat.reduceBEq,Nat.reduceAdd,env,ao,jF,hl,dZ,cut_app]
 exact l4 _ _ 0 H
end
section
attribute [local congr] aF ca bg aG aZ aL aH aA aC aM aN
variable{E:bt}(M:cK cU E)
theorem OM(hE:jH E)(o t:bF){H:List ab}{q:Nat}{T:TypeId}(hq:H[q]?=some (.cells t.row T)):M.run iP [.agg o.row,.ptr q 0] H=some (.ret (.bool (o.name == t.name)),H):=by
 rw [a6 M hE.morph_checker_trait_1 rfl (c:=lP) rfl,lP]
 simp (maxSteps:=3000000) (maxDischargeDepth:=6) +contextual -implicitDefEqProofs only [amA M,amB,↓aj,↓ae,↓al,↓ak,Nat.reduceBEq,Nat.reduceAdd,env,ao,Ac,uC,hq,dE hq]
def Wu(t:bF)(k:Nat)(v:Str):Int:=sel (!Ks v) 5 (sel ((t.values.l.take k).any fun s=>v == s) 6 0)
theorem trl{H H0:List ab}(hN:dW E)(hE:jH E){t:bF}{n0:Nat}(ht:t.ok n0){p:Nat}{T:TypeId}(hp:H[p]?=some (.cells t.row T))(hc:dL H0 H)(k:List Fra):∀ (n i:Nat) (He:List ab),i+n=(t.values.l).length →
  M.go dw H0 (.c gJ :: .lp ⟨(some [5,33,34,35]),[],false⟩ gJ He :: .blk 1 :: .c (.lv [])::k) (kv [(5,.ptr p 0),(33,.slice t.values.tag 1 (t.values.l.map kV)),(34,.int .i64 t.values.l.length),(35,.int .i64 i)]) H =
   orE (fD (wZ (Wu t)) i (t.values.l.drop i)) (H.take H0.length) (M.go dw H0 k .leaf H)
 |0,i,He,h=>by
  have e:i=(t.values.l).length:=by omega
  subst e
  rw [aw M gJ.eq_1]
  simp (maxSteps:=3000000) (maxDischargeDepth:=6) +contextual -implicitDefEqProofs only [amA M,amB,↓aj,↓ae,↓al,↓ak,Nat.reduceBEq,Nat.reduceAdd,env,ao,oh,Nat.lt_irrefl,List.drop_length]
 |n+1,i,He,h=>by
  have hi:i<(t.values.l).length:=by omega
  have hx:(t.values.l)[i]?=some (t.values.l)[i]:=List.getElem?_eq_getElem hi
  have hd:((t.values.l).drop i)=(t.values.l)[i]::(t.values.l).drop (i+1):=List.drop_eq_getElem_cons hi
  have hm:(t.values.l)[i]∈(t.values.l):=List.getElem_mem hi
  have ih:=fun He=>trl (H:=H) (H0:=H0) (hN:=hN) (hE:=hE) (t:=t) (n0:=n0) (ht:=ht) (p:=p) (T:=T) (hp:=hp) hc k n (i+1)  He (by omega)
  simp only [kv_cons,kv_nil] at ih
  rw [aw M gJ.eq_1]
  simp (maxSteps:=3000000) (maxDischargeDepth:=6) +contextual -implicitDefEqProofs only [amA M,amB,↓aj,↓ae,↓al,↓ak,Nat.reduceBEq,Nat.reduceAdd,env,ao,oh,hx,hd,hi,ih,de hi ht.values.len,bp hi,Tv,uC,hp,Ku M hN (ht.values.all _ hm),Kf hi,BM M hE (Dj ht.values.len i),hc,Ju,Wu,qE]
def NF(l:Lex)(i:Nat)(t:bF):Int:=
 sel (!Ks t.name) 5 (sel ((l.traits.l.take i).any fun o=>o.name == t.name) 6 (sel (decide ((8:Int)<(t.values.l.length:Int))) 3 (sel ((t.values.l.length:Int) == 0) 1 (w7 (Wu t) 0 t.values.l))))
theorem KF{α:Type}(F:Nat→α→Int)(l:List α)(H:List ab):orE (fD (wZ F) 0 l) H (some (.ret (.int .u8 0),H))=some (.ret (.int .u8 (w7 F 0 l)),H):=l4 F l 0 H
theorem tQ(b:Bool)(x y:Int):sel b (AV.int .u8 x) (AV.int .u8 y) = .int .u8 (sel b x y):=by cases b<;>rfl
theorem Si(hN:dW E)(hE:jH E){l:Lex}{t:bF}{n:Nat}(hl:l.ok n)(ht:t.ok n){i:Nat}(hi:i<l.traits.l.length)(H:List ab) :
  M.run j4 [.agg l.row,.int .i64 i,.agg t.row] H=some (.ret (.int .u8 (NF l i t)),H):=by
 rw [a6 M hE.morph_checker_trait rfl (c:=og) rfl,og]
 have hq:(H++[ab.cells l.row br,.cells t.row iq])[H.length+1]?=some (.cells t.row iq):=by rw [hp_getk];rfl
 have hcf:=BG M hE.slices_IndexFunc_api_Trait_api_Trait hE.slices_ContainsFunc_api_Trait_api_Trait (g:=iP) (fr:=[]) (cap:=[.ptr (H.length+1) 0]) (p:=fun o=>o.name == t.name) (tg:=.any) (Dj hl.traits.len i) (fun x _=>OM M hE x t hq)
 have hlp:=fun k He=>trl M hN hE ht hq (cut_app H _) k t.values.l.length 0 He (by omega)
 simp only [kv_cons,kv_nil,Int.ofNat_zero,List.drop_zero] at hlp
 simp (maxSteps:=3000000) (maxDischargeDepth:=6) +contextual -implicitDefEqProofs only [amA M,amB,↓aj,↓ae,↓al,↓ak,Nat.reduceBEq,Nat.reduceAdd,env,ao,oh,hlp,hcf,dZ,uC,Kf hi,Ku M hN ht.name,cut_app,KF,tQ,NF]
theorem KG(hE:jH E)(t:bF)(f:au){H:List ab}{q:Nat}{T:TypeId}(hq:H[q]?=some (.cells f.row T)):M.run gW [.agg t.row,.ptr q 0] H=some (.ret (.bool (t.name == f.name)),H):=by
 rw [a6 M hE.morph_checker_bundle_1_1 rfl (c:=jX) rfl,jX]
 simp (maxSteps:=3000000) (maxDischargeDepth:=6) +contextual -implicitDefEqProofs only [amA M,amB,↓aj,↓ae,↓al,↓ak,Nat.reduceBEq,Nat.reduceAdd,env,ao,wy,uC,yp,hq,dE hq]
end
section
attribute [local congr] aF ca bg aG aZ aL aH aA aC aM aN
variable{E:bt}(M:cK cU E)
def KH{α:Type}(l:List α)(q:α→Bool):Nat→Bool
 |0=>false
 |i+1=>match l[i]? with
  |some g=>q g
  |none=>false
theorem DL{α:Type}{l:List α}{i:Nat}{g:α}(h:l[i]?=some g)(q:α→Bool):KH l q (i+1)=q g:=by simp only [KH,h]
theorem Xu:decide ((0:Int)<((0:Nat):Int))=false:=rfl
theorem Xv(j:Nat):decide ((0:Int)<((j+1:Nat):Int))=true:=decide_eq_true (by omega)
theorem TI(j:Nat):decide (((j:Nat):Int)<0)=false:=decide_eq_false (by omega)
theorem W8:decide ((-1:Int)<0)=true:=rfl
def Qn(l:Lex)(b:List au)(i:Nat)(f:au):Int:=
 match l.traits.l.find? fun t=>t.name == f.name with
 |none=>5
 |some t=>sel (!(t.values.l.any fun s=>f.value == s)) 1 (sel (KH b (fun g=>g.name == f.name) i) 6 (sel (KH b (fun g => !(Op.bytesLess g.name f.name||g.name == f.name)) i) 1 0))
theorem NG(hE:jH E){l:Lex}{b:List au}{tg:Tag}{n:Nat}(hl:l.ok n)(hb:b.length≤bE){i:Nat}{f:au}(hf:b[i]?=some f){H:List ab}{p q:Nat}{T T2:TypeId}
  (hp:H[p]?=some (.cells l.row T)) (hq:H[q]?=some (.cells [.slice tg 2 (b.map au.row)] T2)) :
  M.run iG [.int .i64 i,.agg f.row,.ptr p 0,.ptr q 0] H=some (.ret (.int .u8 (Qn l b i f)),H):=by
 rw [a6 M hE.morph_checker_bundle_1 rfl (c:=lf) rfl,lf]
 have hi:i<b.length:=(List.getElem?_eq_some_iff.1 hf).1
 have hr:(H++[ab.cells f.row a7])[H.length]?=some (.cells f.row a7):=by rw [ej];rfl
 have hp':=fun L=>dE (L:=L) hp
 have hq':=fun L=>dE (L:=L) hq
 have hcf:=vd M hE.slices_IndexFunc_api_Trait_api_Trait (g:=gW) (fr:=[]) (cap:=[.ptr H.length 0]) (p:=fun t=>t.name == f.name) (tg:=l.traits.tag) hl.traits.len (fun x _=>KG M hE x f hr)
 rcases BK (fun t:bF=>t.name == f.name) l.traits.l 0 with ⟨h1,h2⟩ | ⟨j,t,h1,h2,h3⟩
 ·rw [h1] at hcf
  simp (maxSteps:=3000000) (maxDischargeDepth:=6) +contextual -implicitDefEqProofs only [amA M,amB,↓aj,↓ae,↓al,↓ak,Nat.reduceBEq,Nat.reduceAdd,env,ao,lg,hcf,dZ,yp,hp',hq',Qn,h2,W8]
 ·rw [h1,Nat.zero_add] at hcf
  have hj:j<l.traits.l.length:=(List.getElem?_eq_some_iff.1 h2).1
  have hm:t∈l.traits.l:=List.mem_of_getElem? h2
  cases i with
  |zero=>
   simp (maxSteps:=3000000) (maxDischargeDepth:=6) +contextual -implicitDefEqProofs only [amA M,amB,↓aj,↓ae,↓al,↓ak,Nat.reduceBEq,Nat.reduceAdd,env,ao,lg,hcf,dZ,yp,uC,hp',hq',Qn,h2,h3,TI,Xu,KH,bp hj,BM M hE (hl.traits.all t hm).values.len,tQ]
  |succ i=>
   have hx:b[i]?=some b[i]:=List.getElem?_eq_getElem (by omega)
   simp (maxSteps:=3000000) (maxDischargeDepth:=6) +contextual -implicitDefEqProofs only [amA M,amB,↓aj,↓ae,↓al,↓ak,Nat.reduceBEq,Nat.reduceAdd,env,ao,lg,hcf,dZ,yp,uC,hp',hq',Qn,h2,h3,TI,Xv,DL hx,hx,hf,bp hj,bp (show i<b.length by omega),Tw (show i+1≤bE by omega),BM M hE (hl.traits.all t hm).values.len,tQ]
end
section
attribute [local congr] aF ca bg aG aZ aL aH aA aC aM aN
variable{E:bt}(M:cK cU E)
theorem Vd{b:Sl au}{n m:Nat}(h:b.ok n (au.ok n))(hm:n≤m):Wk m (.slice b.tag 2 (b.l.map au.row)) (.slice b.tag 2 (b.l.map au.row)):=
 (h.mono hm (fun _ h=>h)).wk (fun _ h=>(h.mono hm).wk)
def sP(l:Lex)(b:List au):Int:=pj 8 (Qn l b) b
theorem FT(hE:jH E){l:Lex}{b:Sl au}{n:Nat}(hl:l.ok n)(hb:b.ok n (au.ok n)){H:List ab}(hn:n≤H.length) :
  M.run fE [.agg l.row,.slice b.tag 2 (b.l.map au.row)] H=some (.ret (.int .u8 (sP l b.l)),H):=by
 rw [a6 M hE.morph_checker_bundle rfl (c:=mZ) rfl,mZ]
 have he:=LO M hE.morph_each_api_Feat (g:=iG) (fr:=[]) (cap:=[.ptr H.length 0,.ptr (H.length+1) 0]) (F:=Qn l b.l) (tg:=b.tag) (l:=b.l) (H:=H++[.cells l.row br,.cells [.slice b.tag 2 (b.l.map au.row)] dB]) hb.len
  (wk_fn trivial ⟨wk_ptr (by simp),wk_ptr (by simp),trivial⟩) (Vd hb (by simp;omega))
  (fun L i x hx=>NG M hE hl hb.len hx (T:=br) (T2:=dB) (by rw [List.append_assoc,ej];rfl) (by rw [List.append_assoc,hp_getk];rfl))
 simp (maxSteps:=3000000) (maxDischargeDepth:=6) +contextual -implicitDefEqProofs only [amA M,amB,↓aj,↓ae,↓al,↓ak,Nat.reduceBEq,Nat.reduceAdd,env,ao,Bt,he 8,dZ,sP]
theorem ON(hE:jH E)(o t:a8){H:List ab}{q:Nat}{T:TypeId}(hq:H[q]?=some (.cells t.row T)):M.run iQ [.agg o.row,.ptr q 0] H=some (.ret (.bool (o.name == t.name)),H):=by
 rw [a6 M hE.morph_checker_class_1 rfl (c:=lQ) rfl,lQ]
 simp (maxSteps:=3000000) (maxDischargeDepth:=6) +contextual -implicitDefEqProofs only [amA M,amB,↓aj,↓ae,↓al,↓ak,Nat.reduceBEq,Nat.reduceAdd,env,ao,Ad,ko,hq,dE hq]
def IJ(l:Lex)(s:bB):Int:=
 sel (decide (s.cut<0)||decide (24<s.cut) || !qZ qY s.pre || !qZ qY s.add) 1 (sP l s.feats.l)
theorem OO(hN:dW E)(hE:jH E){l:Lex}{s:bB}{n:Nat}(hl:l.ok n)(hs:s.ok n){H:List ab}(hn:n≤H.length){p:Nat}{T:TypeId}(hp:H[p]?=some (.cells l.row T))(i:Int) :
  M.run iR [.int .i64 i,.agg s.row,.ptr p 0] H=some (.ret (.int .u8 (IJ l s)),H):=by
 rw [a6 M hE.morph_checker_class_2 rfl (c:=lR) rfl,lR]
 have hp':=fun L=>dE (L:=L) hp
 have h1:=fun (H:List ab)=>AN M hN hE (g:=cE) (fr:=[]) (cap:=[]) hs.pre (fun c=>ns M hN.letter c H)
 have h2:=fun (H:List ab)=>AN M hN hE (g:=cE) (fr:=[]) (cap:=[]) hs.add (fun c=>ns M hN.letter c H)
 simp (maxSteps:=3000000) (maxDischargeDepth:=6) +contextual -implicitDefEqProofs only [amA M,amB,↓aj,↓ae,↓al,↓ak,Nat.reduceBEq,Nat.reduceAdd,env,ao,Ae,h1,h2,hp',o4,dZ,hn,FT M hE hl hs.feats,IJ,tQ,Bool.or_assoc]
def FU(l:Lex)(i:Nat)(c:a8):Int:=
 sel (!Ks c.name) 5 (sel ((l.classes.l.take i).any fun o=>o.name == c.name) 6 (sel (decide ((24:Int)<(c.slots.l.length:Int))) 3 (sel ((c.slots.l.length:Int) == 0) 1 (pj 24 (fun _ s=>IJ l s) c.slots.l))))
theorem Sj(hN:dW E)(hE:jH E){l:Lex}{c:a8}{n:Nat}(hl:l.ok n)(hc:c.ok n){i:Nat}(hi:i<l.classes.l.length){H:List ab}(hn:n≤H.length) :
  M.run j5 [.agg l.row,.int .i64 i,.agg c.row] H=some (.ret (.int .u8 (FU l i c)),H):=by
 rw [a6 M hE.morph_checker_class rfl (c:=om) rfl,om]
 have hq:(H++[ab.cells l.row br,.cells c.row cq])[H.length+1]?=some (.cells c.row cq):=by rw [hp_getk];rfl
 have hcf:=BH M hE.slices_IndexFunc_api_Class_api_Class hE.slices_ContainsFunc_api_Class_api_Class (g:=iQ) (fr:=[]) (cap:=[.ptr (H.length+1) 0]) (p:=fun o=>o.name == c.name) (tg:=.any) (Dj hl.classes.len i) (fun x _=>ON M hE x c hq)
 have he:=LP M hE.morph_each_api_Slot (g:=iR) (fr:=[]) (cap:=[.ptr H.length 0]) (F:=fun _ s=>IJ l s) (tg:=c.slots.tag) (l:=c.slots.l) (H:=H++[.cells l.row br,.cells c.row cq]) hc.slots.len
  (wk_fn trivial ⟨wk_ptr (by simp),trivial⟩) ((hc.slots.mono (by simp;omega) (fun _ h=>h)).wk (fun _ h=>(h.mono (by simp;omega)).wk))
  (fun L i x hx=>OO M hN hE hl (hc.slots.all x (List.mem_of_getElem? hx)) (by simp;omega) (T:=br) (by rw [List.append_assoc,ej];rfl) i)
 simp (maxSteps:=3000000) (maxDischargeDepth:=6) +contextual -implicitDefEqProofs only [amA M,amB,↓aj,↓ae,↓al,↓ak,Nat.reduceBEq,Nat.reduceAdd,env,ao,Cs,hcf,he 24,dZ,ko,Kf hi,Ku M hN hc.name,cut_app,tQ,FU]
end
section
attribute [local congr] aF ca bg aG aZ aL aH aA aC aM aN
variable{E:bt}(M:cK cU E)
theorem Fk(hE:jH E)(o:a8)(s:Str){H:List ab}{q:Nat}{T:TypeId}(hq:H[q]?=some (.cells [.str s] T)):M.run kE [.agg o.row,.ptr q 0] H=some (.ret (.bool (o.name == s)),H):=by
 rw [a6 M hE.morph_classOf_1 rfl (c:=sc) rfl,sc]
 simp (maxSteps:=3000000) (maxDischargeDepth:=6) +contextual -implicitDefEqProofs only [amA M,amB,↓aj,↓ae,↓al,↓ak,Nat.reduceBEq,Nat.reduceAdd,env,ao,GP,ko,hq,dE hq]
def AO(l:Lex)(s:Str):Option a8:=l.classes.l.find? fun c=>c.name == s
def yt:a8:=⟨[],⟨.nil,[]⟩⟩
theorem kQ:[AV.str [],.slice .nil 4 []]=yt.row:=rfl
theorem tG(hE:jH E){l:Lex}{s:Str}{n:Nat}(hl:l.ok n)(hf:AO l s=none)(H:List ab) :
  M.run fC [.agg l.row,.str s] H=some (.ret (.tuple [.agg yt.row,.bool false]),H):=by
 rw [a6 M hE.morph_classOf rfl (c:=nD) rfl,nD]
 have hcf:=pW M hE.slices_IndexFunc_api_Class_api_Class (g:=kE) (fr:=[]) (cap:=[.ptr (H.length+1) 0]) (p:=fun c=>c.name == s) (tg:=l.classes.tag) hl.classes.len
  (H:=H++[.cells l.row az,.cells [.str s] bu,.cells yt.row cq]) (fun x _=>Fk M hE x s (T:=bu) (by rw [hp_getk];rfl))
 rcases BK (fun c:a8=>c.name == s) l.classes.l 0 with ⟨h1,h2⟩ | ⟨j,t,h1,h2,h3⟩
 ·rw [h1] at hcf
  simp (maxSteps:=3000000) (maxDischargeDepth:=6) +contextual -implicitDefEqProofs only [amA M,amB,↓aj,↓ae,↓al,↓ak,Nat.reduceBEq,Nat.reduceAdd,env,ao,B3,amG,AV.cell,Nat.reduceMul,Nat.reduceLeDiff,kQ,hcf,dZ,ko,W8,pG,(show WkL H.length yt.row yt.row from ⟨wk_str _ _,wk_slice trivial (kU _),trivial⟩)]
 ·exact absurd (hf.symm.trans h3) (by simp)
theorem pC(hE:jH E){l:Lex}{s:Str}{n:Nat}(hl:l.ok n){c:a8}(hf:AO l s=some c){H:List ab}(hn:n≤H.length) :
  M.run fC [.agg l.row,.str s] H=some (.ret (.tuple [.agg c.row,.bool true]),H):=by
 rw [a6 M hE.morph_classOf rfl (c:=nD) rfl,nD]
 have hcf:=pW M hE.slices_IndexFunc_api_Class_api_Class (g:=kE) (fr:=[]) (cap:=[.ptr (H.length+1) 0]) (p:=fun c=>c.name == s) (tg:=l.classes.tag) hl.classes.len
  (H:=H++[.cells l.row az,.cells [.str s] bu,.cells yt.row cq]) (fun x _=>Fk M hE x s (T:=bu) (by rw [hp_getk];rfl))
 rcases BK (fun c:a8=>c.name == s) l.classes.l 0 with ⟨h1,h2⟩ | ⟨j,t,h1,h2,h3⟩
 ·exact absurd (hf.symm.trans h2) (by simp)
 ·obtain rfl:c=t:=by have:=hf.symm.trans h3;simpa using this
  rw [h1,Nat.zero_add] at hcf
  have hj:j<l.classes.l.length:=(List.getElem?_eq_some_iff.1 h2).1
  have hw:WkL H.length c.row c.row:=((hl.classes.all c (List.mem_of_getElem? h2)).mono hn).wk
  simp (maxSteps:=3000000) (maxDischargeDepth:=6) +contextual -implicitDefEqProofs only [amA M,amB,↓aj,↓ae,↓al,↓ak,Nat.reduceBEq,Nat.reduceAdd,env,ao,B3,amG,AV.cell,Nat.reduceMul,Nat.reduceLeDiff,kQ,hcf,dZ,ko,TI,bp hj,h2,hw]
end
section
attribute [local congr] aF ca bg aG aZ aL aH aA aC aM aN
variable{E:bt}(M:cK cU E)
def jI(f g:au):Bool:=f.name == g.name && !(f.value == g.value)
def kr(a b:List au):Bool:=a.any fun f=>b.any fun g=>jI f g
theorem LR(hE:jH E)(g f:au){H:List ab}{q:Nat}{T:TypeId}(hq:H[q]?=some (.cells f.row T)):M.run oP [.agg g.row,.ptr q 0] H=some (.ret (.bool (jI f g)),H):=by
 rw [a6 M hE.morph_clash_1_1 rfl (c:=sf) rfl,sf]
 simp (maxSteps:=3000000) (maxDischargeDepth:=6) +contextual -implicitDefEqProofs only [amA M,amB,↓aj,↓ae,↓al,↓ak,Nat.reduceBEq,Nat.reduceAdd,env,ao,GS,yp,hq,dE hq,jI]
theorem OP(hE:jH E)(f:au){b:Sl au}{n:Nat}(hb:b.l.length≤bE){H:List ab}{q:Nat}{T:TypeId}(hq:H[q]?=some (.cells [.slice b.tag 2 (b.l.map au.row)] T)) :
  M.run qO [.agg f.row,.ptr q 0] H=some (.ret (.bool (b.l.any fun g=>jI f g)),H):=by
 rw [a6 M hE.morph_clash_1 rfl (c:=uV) rfl,uV]
 have hcf:=oM M hE.slices_IndexFunc_api_Feat_api_Feat hE.slices_ContainsFunc_api_Feat_api_Feat (g:=oP) (fr:=[]) (cap:=[.ptr H.length 0]) (p:=fun g=>jI f g) (tg:=b.tag) hb (H:=H++[.cells f.row a7]) (fun x _=>LR M hE x f (T:=a7) (by rw [ej];rfl))
 simp (maxSteps:=3000000) (maxDischargeDepth:=6) +contextual -implicitDefEqProofs only [amA M,amB,↓aj,↓ae,↓al,↓ak,Nat.reduceBEq,Nat.reduceAdd,env,ao,Jc,hcf,yp,dE hq]
theorem Sk(hE:jH E){a b:Sl au}(ha:a.l.length≤bE)(hb:b.l.length≤bE)(H:List ab) :
  M.run yH [.slice a.tag 2 (a.l.map au.row),.slice b.tag 2 (b.l.map au.row)] H=some (.ret (.bool (kr a.l b.l)),H):=by
 rw [a6 M hE.morph_clash rfl (c:=yZ) rfl,yZ]
 have hcf:=oM M hE.slices_IndexFunc_api_Feat_api_Feat hE.slices_ContainsFunc_api_Feat_api_Feat (g:=qO) (fr:=[]) (cap:=[.ptr H.length 0]) (p:=fun f=>b.l.any fun g=>jI f g) (tg:=a.tag) ha (H:=H++[.cells [.slice b.tag 2 (b.l.map au.row)] dB]) (fun x _=>OP M hE x (n:=0) hb (T:=dB) (by rw [ej];rfl))
 simp (maxSteps:=3000000) (maxDischargeDepth:=6) +contextual -implicitDefEqProofs only [amA M,amB,↓aj,↓ae,↓al,↓ak,Nat.reduceBEq,Nat.reduceAdd,env,ao,LL,hcf,kr]
theorem OQ(hE:jH E)(o x:aK){H:List ab}{q:Nat}{T:TypeId}(hq:H[q]?=some (.cells x.row T)):M.run iS [.agg o.row,.ptr q 0] H=some (.ret (.bool (o.lem == x.lem&&o.cls == x.cls)),H):=by
 rw [a6 M hE.morph_checker_entry_1 rfl (c:=lS) rfl,lS]
 simp (maxSteps:=3000000) (maxDischargeDepth:=6) +contextual -implicitDefEqProofs only [amA M,amB,↓aj,↓ae,↓al,↓ak,Nat.reduceBEq,Nat.reduceAdd,env,ao,Af,gS,hq,dE hq]
theorem OR(hE:jH E){s:bB}{x:aK}{n m:Nat}(hs:s.ok n)(hx:x.ok m){H:List ab}{q:Nat}{T:TypeId}(hq:H[q]?=some (.cells x.row T)):M.run iT [.agg s.row,.ptr q 0] H=some (.ret (.bool (kr x.feats.l s.feats.l)),H):=by
 rw [a6 M hE.morph_checker_entry_2 rfl (c:=lT) rfl,lT]
 simp (maxSteps:=3000000) (maxDischargeDepth:=6) +contextual -implicitDefEqProofs only [amA M,amB,↓aj,↓ae,↓al,↓ak,Nat.reduceBEq,Nat.reduceAdd,env,ao,Ag,gS,o4,hq,dE hq,Sk M hE hx.feats.len hs.feats.len]
theorem OS(hE:jH E)(o x:bW){H:List ab}{q:Nat}{T:TypeId}(hq:H[q]?=some (.cells x.row T)):M.run iU [.agg o.row,.ptr q 0] H=some (.ret (.bool (o.slot == x.slot)),H):=by
 rw [a6 M hE.morph_checker_entry_3 rfl (c:=lU) rfl,lU]
 simp (maxSteps:=3000000) (maxDischargeDepth:=6) +contextual -implicitDefEqProofs only [amA M,amB,↓aj,↓ae,↓al,↓ak,Nat.reduceBEq,Nat.reduceAdd,env,ao,Ah,HF,hq,dE hq]
def MA(n:Nat)(l:List bW)(k:Nat)(f:bW):Int:=
 sel (decide (f.slot<0)||decide ((n:Int)≤f.slot)) 7 (sel ((l.take k).any fun o=>o.slot == f.slot) 6 (sel (!(f.word == []) && !zb f.word) 1 0))
theorem enl{H H0:List ab}(hN:dW E)(hE:jH E){x:aK}{c:a8}{n0:Nat}(hx0:x.ok n0)(hn:n0≤H.length){p q:Nat}{T T2:TypeId}(hp:H[p]?=some (.cells x.row T))(hq:H[q]?=some (.cells c.row T2))(hc:dL H0 H)(k:List Fra):∀ (n i:Nat),i+n=(x.forms.l).length →
  M.go dx H0 (.c gK :: .lp ⟨(some [5,7,48,49,50]),[],true⟩ gK H :: .blk 1 :: .c (.lv [])::k) (kv [(5,.ptr p 0),(7,.ptr q 0),(48,.slice x.forms.tag 2 (x.forms.l.map bW.row)),(49,.int .i64 x.forms.l.length),(50,.int .i64 i)]) H =
   orE (fD (wZ (MA c.slots.l.length x.forms.l)) i (x.forms.l.drop i)) (H.take H0.length) (M.go dx H0 k .leaf H)
 |0,i,h=>by
  have e:i=(x.forms.l).length:=by omega
  subst e
  rw [aw M gK.eq_1]
  simp (maxSteps:=3000000) (maxDischargeDepth:=6) +contextual -implicitDefEqProofs only [amA M,amB,↓aj,↓ae,↓al,↓ak,Nat.reduceBEq,Nat.reduceAdd,env,ao,kb,Nat.lt_irrefl,List.drop_length]
 |n+1,i,h=>by
  have hi:i<(x.forms.l).length:=by omega
  have hx:(x.forms.l)[i]?=some (x.forms.l)[i]:=List.getElem?_eq_getElem hi
  have hd:((x.forms.l).drop i)=(x.forms.l)[i]::(x.forms.l).drop (i+1):=List.drop_eq_getElem_cons hi
  have hm:(x.forms.l)[i]∈(x.forms.l):=List.getElem_mem hi
  have ih:=enl (H:=H) (H0:=H0) (hN:=hN) (hE:=hE) (x:=x) (c:=c) (n0:=n0) (hx0:=hx0) (hn:=hn) (p:=p) (q:=q) (T:=T) (T2:=T2) (hp:=hp) (hq:=hq) hc k n (i+1)  (by omega)
  simp only [kv_cons,kv_nil] at ih
  have hp':=fun L=>dE (L:=L) hp
  have hq':=fun L=>dE (L:=L) hq
  have w1:Wk H.length (.ptr p 0) (.ptr p 0):=wk_ptr (List.getElem?_eq_some_iff.1 hp).1
  have w2:Wk H.length (.ptr q 0) (.ptr q 0):=wk_ptr (List.getElem?_eq_some_iff.1 hq).1
  have w3:Wk H.length (.slice x.forms.tag 2 (x.forms.l.map bW.row)) (.slice x.forms.tag 2 (x.forms.l.map bW.row)):=(hx0.forms.mono hn (fun _ h=>h.mono hn)).wk (fun _ h=>h.wk)
  have hcf:=BI M hE.slices_IndexFunc_api_Irregular_api_Irregular hE.slices_ContainsFunc_api_Irregular_api_Irregular (g:=iU) (fr:=[]) (cap:=[.ptr H.length 0]) (p:=fun o=>o.slot == x.forms.l[i].slot) (tg:=.any) (Dj hx0.forms.len i) (H:=H++[.cells x.forms.l[i].row eG]) (fun o _=>OS M hE o _ (T:=eG) (by rw [ej];rfl))
  rw [aw M gK.eq_1]
  simp (maxSteps:=3000000) (maxDischargeDepth:=6) +contextual -implicitDefEqProofs only [amA M,amB,↓aj,↓ae,↓al,↓ak,Nat.reduceBEq,Nat.reduceAdd,env,ao,kb,hx,hd,hi,ih,amG,AV.cell,hp',hq',w1,w2,w3,hcf,de hi hx0.forms.len,bp hi,HF,gS,ko,H5 M hN (hx0.forms.all _ hm).word,Kf hi,hc,Ju,MA,qE]
end
section
attribute [local congr] aF ca bg aG aZ aL aH aA aC aM aN
variable{E:bt}(M:cK cU E)
def zd(l:Lex)(i:Nat)(x:aK):Int:=
 match AO l x.cls with
 |none=>sel (!zb x.lem) 1 5
 |some c=>sel (!zb x.lem) 1 (sel ((l.entries.l.take i).any fun o=>o.lem == x.lem&&o.cls == x.cls) 6 (sel (!(sP l x.feats.l == 0)) (sP l x.feats.l)
   (sel (c.slots.l.any fun s=>kr x.feats.l s.feats.l) 10 (w7 (MA c.slots.l.length x.forms.l) 0 x.forms.l))))
theorem Sm(hN:dW E)(hE:jH E){l:Lex}{x:aK}{n:Nat}(hl:l.ok n)(hx:x.ok n){i:Nat}(hi:i<l.entries.l.length){H:List ab}(hn:n≤H.length) :
  M.run j6 [.agg l.row,.int .i64 i,.agg x.row] H=some (.ret (.int .u8 (zd l i x)),H):=by
 rw [a6 M hE.morph_checker_entry rfl (c:=oo) rfl,oo]
 cases hc:AO l x.cls with
 |none=>
  have h1:=fun H=>tG M hE hl hc H
  simp (maxSteps:=3000000) (maxDischargeDepth:=6) +contextual -implicitDefEqProofs only [amA M,amB,↓aj,↓ae,↓al,↓ak,Nat.reduceBEq,Nat.reduceAdd,env,ao,kb,amG,AV.cell,Nat.reduceMul,Nat.reduceLeDiff,h1,dZ,gS,ko,kQ,H5 M hN hx.lem,zd,hc,tQ]
 |some c=>
  have hcm:c∈l.classes.l:=List.mem_of_find?_eq_some hc
  have hco:=hl.classes.all c hcm
  have h2:=BJ M hE.slices_IndexFunc_api_Entry_api_Entry hE.slices_ContainsFunc_api_Entry_api_Entry (g:=iS) (fr:=[]) (cap:=[.ptr (H.length+1) 0]) (p:=fun o=>o.lem == x.lem&&o.cls == x.cls) (tg:=.any) (Dj hl.entries.len i) (H:=H++[.cells l.row br,.cells x.row dY,.cells c.row cq]) (fun o _=>OQ M hE o x (T:=dY) (by rw [hp_getk];rfl))
  have h3:=CL M hE.slices_IndexFunc_api_Slot_api_Slot hE.slices_ContainsFunc_api_Slot_api_Slot (g:=iT) (fr:=[]) (cap:=[.ptr (H.length+1) 0]) (p:=fun s=>kr x.feats.l s.feats.l) (tg:=c.slots.tag) hco.slots.len (H:=H++[.cells l.row br,.cells x.row dY,.cells c.row cq]) (fun s hs=>OR M hE (hco.slots.all s hs) hx (T:=dY) (by rw [hp_getk];rfl))
  have h4:=fun k=>enl M hN hE (H:=H++[.cells l.row br,.cells x.row dY,.cells c.row cq]) (H0:=H) hx (by simp;omega) (c:=c) (p:=H.length+1) (q:=H.length+2) (T:=dY) (T2:=cq) (by rw [hp_getk];rfl) (by rw [hp_getk];rfl) (cut_app H _) k x.forms.l.length 0 (by omega)
  simp only [kv_cons,kv_nil,Int.ofNat_zero,List.drop_zero] at h4
  simp (maxSteps:=3000000) (maxDischargeDepth:=6) +contextual -implicitDefEqProofs only [amA M,amB,↓aj,↓ae,↓al,↓ak,Nat.reduceBEq,Nat.reduceAdd,env,ao,kb,amG,AV.cell,Nat.reduceMul,Nat.reduceLeDiff,pC M hE hl hc,hn,h2,h3,h4,dZ,gS,ko,H5 M hN hx.lem,FT M hE hl hx.feats,Kf hi,zd,hc,tQ,KF]
def DM(x:bz):Int:=
 sel (x.frm == [] || !qZ Fj x.frm || !qZ Fj x.to || !qZ II x.left || !qZ II x.right) 1 0
theorem OT(hN:dW E)(hE:jH E){l:Lex}{x:bz}{n:Nat}(hx:x.ok n)(i:Int)(H:List ab) :
  M.run j7 [.agg l.row,.int .i64 i,.agg x.row] H=some (.ret (.int .u8 (DM x)),H):=by
 rw [a6 M hE.morph_checker_spell rfl (c:=oq) rfl,oq]
 have h1:=fun (H:List ab) (s:Str) hs=>AN M hN hE (g:=lF) (fr:=[]) (cap:=[]) (s:=s) hs (fun c=>KE M hN hE c H)
 have h2:=fun (H:List ab) (s:Str) hs=>AN M hN hE (g:=o9) (fr:=[]) (cap:=[]) (s:=s) hs (fun c=>Qk M hN hE c H)
 simp (maxSteps:=3000000) (maxDischargeDepth:=6) +contextual -implicitDefEqProofs only [amA M,amB,↓aj,↓ae,↓al,↓ak,Nat.reduceBEq,Nat.reduceAdd,env,ao,Ct,h1,h2,hx.frm,hx.to,hx.left,hx.right,dZ,yA,DM,tQ,Bool.or_assoc]
def MB(l:Lex)(x:dH):Int:=
 match AO l x.cls with
 |none=>5
 |some _=>sel (!qZ qY x.glue) 1 (sP l x.feats.l)
theorem Qo(hN:dW E)(hE:jH E){l:Lex}{x:dH}{n:Nat}(hl:l.ok n)(hx:x.ok n)(i:Int){H:List ab}(hn:n≤H.length) :
  M.run kC [.agg l.row,.int .i64 i,.agg x.row] H=some (.ret (.int .u8 (MB l x)),H):=by
 rw [a6 M hE.morph_checker_link rfl (c:=pc) rfl,pc]
 have h1:=fun (H:List ab)=>AN M hN hE (g:=cE) (fr:=[]) (cap:=[]) hx.glue (fun c=>ns M hN.letter c H)
 cases hc:AO l x.cls with
 |none=>
  have h2:=fun H=>tG M hE hl hc H
  simp (maxSteps:=3000000) (maxDischargeDepth:=6) +contextual -implicitDefEqProofs only [amA M,amB,↓aj,↓ae,↓al,↓ak,Nat.reduceBEq,Nat.reduceAdd,env,ao,ud,amG,AV.cell,Nat.reduceMul,Nat.reduceLeDiff,h2,dZ,Fb,ko,kQ,MB,hc,tQ]
 |some c=>
  simp (maxSteps:=3000000) (maxDischargeDepth:=6) +contextual -implicitDefEqProofs only [amA M,amB,↓aj,↓ae,↓al,↓ak,Nat.reduceBEq,Nat.reduceAdd,env,ao,ud,amG,AV.cell,Nat.reduceMul,Nat.reduceLeDiff,pC M hE hl hc,hn,h1,dZ,Fb,ko,FT M hE hl hx.feats,MB,hc,tQ]
end
section
attribute [local congr] aF ca bg aG aZ aL aH aA aC aM aN
variable{E:bt}(M:cK cU E)
def FV(l:Lex):Int:=pj 8 (NF l) l.traits.l
theorem OU(hN:dW E)(hE:jH E){l:Lex}{n:Nat}(hl:l.ok n){H:List ab}(hn:n≤H.length){p q:Nat}{T T2:TypeId}(hp:H[p]?=some (.cells l.row T))(hq:H[q]?=some (.cells l.row T2)) :
  M.run qJ [.ptr p 0,.ptr q 0] H=some (.ret (.int .u8 (FV l)),H):=by
 rw [a6 M hE.morph_Check_1 rfl (c:=uO) rfl,uO]
 have he:=Kx M hE.morph_each_api_Trait (g:=j4) (fr:=[.agg l.row]) (cap:=[]) (F:=NF l) (tg:=l.traits.tag) (l:=l.traits.l) (H:=H) hl.traits.len
  (wk_fn ⟨wk_agg (hl.mono hn).wk,trivial⟩ trivial) ((hl.traits.mono hn (fun _ h=>h.mono hn)).wk (fun _ h=>h.wk))
  (fun L i x hx=>Si M hN hE hl (hl.traits.all x (List.mem_of_getElem? hx)) (List.getElem?_eq_some_iff.1 hx).1 _)
 simp (maxSteps:=3000000) (maxDischargeDepth:=6) +contextual -implicitDefEqProofs only [amA M,amB,↓aj,↓ae,↓al,↓ak,Nat.reduceBEq,Nat.reduceAdd,env,ao,I4,he 8,dZ,hp,hq,FV]
def BN(l:Lex):Int:=pj 16 (FU l) l.classes.l
theorem OW(hN:dW E)(hE:jH E){l:Lex}{n:Nat}(hl:l.ok n){H:List ab}(hn:n≤H.length){p q:Nat}{T T2:TypeId}(hp:H[p]?=some (.cells l.row T))(hq:H[q]?=some (.cells l.row T2)) :
  M.run qK [.ptr p 0,.ptr q 0] H=some (.ret (.int .u8 (BN l)),H):=by
 rw [a6 M hE.morph_Check_2 rfl (c:=uP) rfl,uP]
 have he:=Kz M hE.morph_each_api_Class (g:=j5) (fr:=[.agg l.row]) (cap:=[]) (F:=FU l) (tg:=l.classes.tag) (l:=l.classes.l) (H:=H) hl.classes.len
  (wk_fn ⟨wk_agg (hl.mono hn).wk,trivial⟩ trivial) ((hl.classes.mono hn (fun _ h=>h.mono hn)).wk (fun _ h=>h.wk))
  (fun L i x hx=>Sj M hN hE hl (hl.classes.all x (List.mem_of_getElem? hx)) (List.getElem?_eq_some_iff.1 hx).1 (by simp;omega))
 simp (maxSteps:=3000000) (maxDischargeDepth:=6) +contextual -implicitDefEqProofs only [amA M,amB,↓aj,↓ae,↓al,↓ak,Nat.reduceBEq,Nat.reduceAdd,env,ao,I5,he 16,dZ,hp,hq,BN]
def DN(l:Lex):Int:=pj 128 (zd l) l.entries.l
theorem OX(hN:dW E)(hE:jH E){l:Lex}{n:Nat}(hl:l.ok n){H:List ab}(hn:n≤H.length){p q:Nat}{T T2:TypeId}(hp:H[p]?=some (.cells l.row T))(hq:H[q]?=some (.cells l.row T2)) :
  M.run qL [.ptr p 0,.ptr q 0] H=some (.ret (.int .u8 (DN l)),H):=by
 rw [a6 M hE.morph_Check_3 rfl (c:=uQ) rfl,uQ]
 have he:=KB M hE.morph_each_api_Entry (g:=j6) (fr:=[.agg l.row]) (cap:=[]) (F:=zd l) (tg:=l.entries.tag) (l:=l.entries.l) (H:=H) hl.entries.len
  (wk_fn ⟨wk_agg (hl.mono hn).wk,trivial⟩ trivial) ((hl.entries.mono hn (fun _ h=>h.mono hn)).wk (fun _ h=>h.wk))
  (fun L i x hx=>Sm M hN hE hl (hl.entries.all x (List.mem_of_getElem? hx)) (List.getElem?_eq_some_iff.1 hx).1 (by simp;omega))
 simp (maxSteps:=3000000) (maxDischargeDepth:=6) +contextual -implicitDefEqProofs only [amA M,amB,↓aj,↓ae,↓al,↓ak,Nat.reduceBEq,Nat.reduceAdd,env,ao,I6,he 128,dZ,hp,hq,DN]
def DO(l:Lex):Int:=pj 16 (fun _ x=>DM x) l.spells.l
theorem OY(hN:dW E)(hE:jH E){l:Lex}{n:Nat}(hl:l.ok n){H:List ab}(hn:n≤H.length){p q:Nat}{T T2:TypeId}(hp:H[p]?=some (.cells l.row T))(hq:H[q]?=some (.cells l.row T2)) :
  M.run qM [.ptr p 0,.ptr q 0] H=some (.ret (.int .u8 (DO l)),H):=by
 rw [a6 M hE.morph_Check_4 rfl (c:=uR) rfl,uR]
 have he:=KD M hE.morph_each_api_Spell (g:=j7) (fr:=[.agg l.row]) (cap:=[]) (F:=fun _ x=>DM x) (tg:=l.spells.tag) (l:=l.spells.l) (H:=H) hl.spells.len
  (wk_fn ⟨wk_agg (hl.mono hn).wk,trivial⟩ trivial) ((hl.spells.mono hn (fun _ h=>h.mono hn)).wk (fun _ h=>h.wk))
  (fun L i x hx=>OT M hN hE (hl.spells.all x (List.mem_of_getElem? hx)) i _)
 simp (maxSteps:=3000000) (maxDischargeDepth:=6) +contextual -implicitDefEqProofs only [amA M,amB,↓aj,↓ae,↓al,↓ak,Nat.reduceBEq,Nat.reduceAdd,env,ao,I7,he 16,dZ,hp,hq,DO]
def FW(l:Lex):Int:=pj 8 (fun _ x=>MB l x) l.links.l
theorem OZ(hN:dW E)(hE:jH E){l:Lex}{n:Nat}(hl:l.ok n){H:List ab}(hn:n≤H.length){p q:Nat}{T T2:TypeId}(hp:H[p]?=some (.cells l.row T))(hq:H[q]?=some (.cells l.row T2)) :
  M.run qN [.ptr p 0,.ptr q 0] H=some (.ret (.int .u8 (FW l)),H):=by
 rw [a6 M hE.morph_Check_5 rfl (c:=uS) rfl,uS]
 have he:=LQ M hE.morph_each_api_Link (g:=kC) (fr:=[.agg l.row]) (cap:=[]) (F:=fun _ x=>MB l x) (tg:=l.links.tag) (l:=l.links.l) (H:=H) hl.links.len
  (wk_fn ⟨wk_agg (hl.mono hn).wk,trivial⟩ trivial) ((hl.links.mono hn (fun _ h=>h.mono hn)).wk (fun _ h=>h.wk))
  (fun L i x hx=>Qo M hN hE hl (hl.links.all x (List.mem_of_getElem? hx)) i (by simp;omega))
 simp (maxSteps:=3000000) (maxDischargeDepth:=6) +contextual -implicitDefEqProofs only [amA M,amB,↓aj,↓ae,↓al,↓ak,Nat.reduceBEq,Nat.reduceAdd,env,ao,I8,he 8,dZ,hp,hq,FW]
structure Clo where
 g:Nat
 fr:List AV
 cap:List AV
 e:Int
def Clo.row(x:Clo):List AV:=[.fn (.func x.g) x.fr x.cap]
theorem Xw:(∀ x:Clo,cD none x.row 0=some (.fn (.func x.g) x.fr x.cap)):=fun _=>rfl
theorem fst{H H0:List ab}{tg:Tag}{l:List Clo}(hs:l.length≤bE)(hp:∀ x∈l,M.run x.g (x.fr++x.cap) H=some (.ret (.int .u8 x.e),H))(hc:dL H0 H)(k:List Fra):∀ (n i:Nat) (He:List ab),i+n=l.length →
  M.go iH H0 (.c nC :: .lp ⟨(some [6,7,8]),[],false⟩ nC He :: .blk 0 :: .c (.lv [])::k) (kv [(6,.slice tg 1 (l.map Clo.row)),(7,.int .i64 l.length),(8,.int .i64 i)]) H =
   orE (fD (wZ fun _ x=>x.e) i (l.drop i)) (H.take H0.length) (M.go iH H0 k .leaf H)
 |0,i,He,h=>by
  have e:i=l.length:=by omega
  subst e
  rw [aw M nC.eq_1]
  simp (maxSteps:=3000000) (maxDischargeDepth:=6) +contextual -implicitDefEqProofs only [amA M,amB,↓aj,↓ae,↓al,↓ak,Nat.reduceBEq,Nat.reduceAdd,env,ao,yU,Nat.lt_irrefl,List.drop_length]
 |n+1,i,He,h=>by
  have hi:i<l.length:=by omega
  have hx:l[i]?=some l[i]:=List.getElem?_eq_getElem hi
  have hd:(l.drop i)=l[i]::l.drop (i+1):=List.drop_eq_getElem_cons hi
  have hm:l[i]∈l:=List.getElem_mem hi
  have ih:=fun He=>fst (H:=H) (H0:=H0) (tg:=tg) (l:=l) (hs:=hs) (hp:=hp) hc k n (i+1)  He (by omega)
  simp only [kv_cons,kv_nil] at ih
  rw [aw M nC.eq_1]
  simp (maxSteps:=3000000) (maxDischargeDepth:=6) +contextual -implicitDefEqProofs only [amA M,amB,↓aj,↓ae,↓al,↓ak,Nat.reduceBEq,Nat.reduceAdd,env,ao,yU,hx,hd,hi,ih,hp _ hm,de hi hs,bp hi,Xw,hc,wZ]
theorem Sn(hE:jH E){tg:Tag}{l:List Clo}(hs:l.length≤bE){H:List ab}(hp:∀ x∈l,M.run x.g (x.fr++x.cap) H=some (.ret (.int .u8 x.e),H)) :
  M.run yF [.slice tg 1 (l.map Clo.row)] H=some (.ret (.int .u8 (w7 (fun _ x=>x.e) 0 l)),H):=by
 rw [a6 M hE.morph_first rfl (c:=yT) rfl,yT]
 have hl:=fun k He=>fst M (tg:=tg) hs hp (cut_refl H) k l.length 0 He (by omega)
 simp only [kv_cons,kv_nil,Int.ofNat_zero,List.drop_zero] at hl
 simp (maxSteps:=3000000) (maxDischargeDepth:=6) +contextual -implicitDefEqProofs only [amA M,amB,↓aj,↓ae,↓al,↓ak,Nat.reduceBEq,Nat.reduceAdd,env,ao,yU,hl]
 exact l4 _ l 0 H
def eE(l:Lex):Int:=
 w7 (fun _ e=>e) 0 [Ql l,FV l,BN l,DN l,DO l,FW l]
theorem H6(hN:dW E)(hE:jH E){l:Lex}{n:Nat}(hl:l.ok n){H:List ab}(hn:n≤H.length) :
  M.run kW [.agg l.row] H=some (.ret (.int .u8 (eE l)),H):=by
 rw [a6 M hE.morph_Check rfl (c:=yN) rfl,yN]
 have hf:=Sn M hE (tg:=.full) (H:=H++[.cells l.row az,.cells l.row br])
  (l:=[⟨ju,[.agg l.row],[],Ql l⟩,⟨qJ,[],[.ptr H.length 0,.ptr (H.length+1) 0],FV l⟩,⟨qK,[],[.ptr H.length 0,.ptr (H.length+1) 0],BN l⟩,
   ⟨qL,[],[.ptr H.length 0,.ptr (H.length+1) 0],DN l⟩,⟨qM,[],[.ptr H.length 0,.ptr (H.length+1) 0],DO l⟩,⟨qN,[],[.ptr H.length 0,.ptr (H.length+1) 0],FW l⟩]) (by simp [bE]) (by
  have h0:(H++[ab.cells l.row az,.cells l.row br])[H.length]?=some (.cells l.row az):=by rw [ej];rfl
  have h1:(H++[ab.cells l.row az,.cells l.row br])[H.length+1]?=some (.cells l.row br):=by rw [hp_getk];rfl
  have h2:n≤(H++[ab.cells l.row az,.cells l.row br]).length:=by simp;omega
  intro x hx
  simp only [List.mem_cons,List.not_mem_nil,or_false] at hx
  rcases hx with rfl | rfl | rfl | rfl | rfl | rfl
  ·exact Qm M hN hE hl _
  ·exact OU M hN hE hl h2 h0 h1
  ·exact OW M hN hE hl h2 h0 h1
  ·exact OX M hN hE hl h2 h0 h1
  ·exact OY M hN hE hl h2 h0 h1
  ·exact OZ M hN hE hl h2 h0 h1)
 simp only [List.map_cons,List.map_nil,Clo.row] at hf
 simp (maxSteps:=3000000) (maxDischargeDepth:=6) +contextual -implicitDefEqProofs only [amA M,amB,↓aj,↓ae,↓al,↓ak,Nat.reduceBEq,Nat.reduceAdd,env,ao,LG,amG,AV.cell,Nat.reduceMul,Nat.reduceLeDiff,hf,dZ]
 rfl
end
section
attribute [local congr] aF ca bg aG aZ aL aH aA aC aM aN
variable{E:bt}(M:cK cU E)
structure RefE (E:bt):Prop where
 truchmanref02_trait:E.fn nW=some ow
 truchmanref02_Class:E.fn fV=some oe
 truchmanref02_in:E.fn qQ=some qT
 truchmanref02_bundle:E.fn jt=some mO
 truchmanref02_traits:E.fn rZ=some mN
 truchmanref02_classes:E.fn rj=some lM
 truchmanref02_Unify:E.fn nY=some oA
 truchmanref02_entries:E.fn rk=some lN
 truchmanref02_Check:E.fn tj=some oa
theorem G6(a b:Str):(a == b)=(b == a):=BEq.comm
end
section
attribute [local congr] aF ca bg aG aZ aL aH aA aC aM aN
variable{E:bt}(M:cK cU E)
end
section
attribute [local congr] aF ca bg aG aZ aL aH aA aC aM aN
variable{E:bt}(M:cK cU E)
def AP(p:au):List au→Bool
 |[]=>true
 |x::l=>Op.bytesLess p.name x.name&&AP x l
def ze:List au→Bool
 |[]=>true
 |x::l=>AP x l
end
section
attribute [local congr] aF ca bg aG aZ aL aH aA aC aM aN
variable{E:bt}(M:cK cU E)
def ks:List au→List au→Option (List au)
 |[],b=>some b
 |x::a,[]=>some (x::a)
 |x::a,y::b=>
  match Op.bytesLess x.name y.name with
  |true=>(ks a (y::b)).map (x :: ·)
  |false=>match Op.bytesLess y.name x.name with
   |true=>(ks (x::a) b).map (y :: ·)
   |false=>match x.name == y.name&&x.value == y.value with
    |true=>(ks a b).map (x :: ·)
    |false=>none
termination_by a b=>a.length+b.length
theorem DP(x y:au):req (.st [(0,.str),(1,.str)]) (.agg x.row) (.agg y.row)=some (x.name == y.name&&x.value == y.value):=by
 simp only [req,vK,au.row,List.getElem?_cons_zero,List.getElem?_cons_succ,Ea]
 cases x.name == y.name<;>simp
 cases x.value == y.value<;>rfl
theorem Ve(n:Nat)(x:au):WkL n (au.row x) (au.row x):=⟨wk_str _ _,wk_str _ _,trivial⟩
def DQ(a b:List au):Option (List au):=sel (ze a) (sel (ze b) (ks a b) none) none
end
theorem DS:∀ x:Str,Op.bytesLess x x=false
 |[]=>rfl
 |a::x=>by
  have h:¬ a<a:=by simp
  simp only [Op.bytesLess,DS x,Bool.and_false,Bool.or_false,decide_eq_false h]
theorem KI:∀ {x y:Str},Op.bytesLess x y=false→Op.bytesLess y x=false→x=y
 |[],[],_,_=>rfl
 |[],_::_,h,_=>by simp [Op.bytesLess] at h
 |_::_,[],_,h=>by simp [Op.bytesLess] at h
 |a::x,b::y,h1,h2=>by
  simp only [Op.bytesLess,Bool.or_eq_false_iff,decide_eq_false_iff_not] at h1 h2
  have hab:a=b:=UInt8.le_antisymm (UInt8.not_lt.1 h2.1) (UInt8.not_lt.1 h1.1)
  subst hab
  simp only [beq_self_eq_true,Bool.true_and] at h1 h2
  rw [KI h1.2 h2.2]
theorem qx:∀ {x y z:Str},Op.bytesLess x y=true→Op.bytesLess y z=true→Op.bytesLess x z=true
 |_,[],_,h,_=>by cases ‹List UInt8› <;> simp [Op.bytesLess] at h
 |_,_::_,[],_,h=>by simp [Op.bytesLess] at h
 |[],_::_,_::_,_,_=>rfl
 |a::x,b::y,c::z,h1,h2=>by
  simp only [Op.bytesLess,Bool.or_eq_true,decide_eq_true_eq,Bool.and_eq_true,beq_iff_eq] at h1 h2 ⊢
  rcases h1 with h1 | ⟨rfl,h1⟩
  ·rcases h2 with h2 | ⟨rfl,h2⟩
   ·exact .inl (UInt8.lt_trans h1 h2)
   ·exact .inl h1
  ·rcases h2 with h2 | ⟨rfl,h2⟩
   ·exact .inl h2
   ·exact .inr ⟨rfl,qx h1 h2⟩
theorem TJ{x y:Str}(h:Op.bytesLess x y=true):Op.bytesLess y x=false:=by
 cases h2:Op.bytesLess y x with
 |false=>rfl
 |true=>have:=qx h h2;rw [DS] at this;cases this
theorem MC{x y:Str}(h:Op.bytesLess x y=true):(x == y)=false:=by
 cases h2:x == y with
 |false=>rfl
 |true=>rw [eq_of_beq h2,DS] at h;cases h
theorem vz:∀ {l:List au}{p:au},AP p l=true→∀ x∈l,Op.bytesLess p.name x.name=true
 |[],_,_,_,h=>by cases h
 |y::l,p,h,x,hx=>by
  simp only [AP,Bool.and_eq_true] at h
  rcases List.mem_cons.1 hx with rfl | hx
  ·exact h.1
  ·exact qx h.1 (vz h.2 x hx)
theorem AQ{x:au}{l:List au}(h:ze (x::l)=true):ze l=true:=by
 cases l with
 |nil=>rfl
 |cons y l=>simp only [ze,AP,Bool.and_eq_true] at h ⊢;exact h.2
theorem KJ{x:au}{b:List au}(h:∀ y∈b,(x.name == y.name)=false):(b.any fun g=>jI x g)=false:=by
 rw [List.any_eq_false]
 intro y hy
 simp [jI,h y hy]
theorem w8(x:au)(a b:List au):kr (x::a) b=((b.any fun g=>jI x g)||kr a b):=rfl
theorem DT(y:au):∀ (a b:List au),kr a (y::b)=((a.any fun f=>jI f y)||kr a b)
 |[],_=>rfl
 |x::a,b=>by
  rw [w8,w8,DT y a b,List.any_cons,List.any_cons]
  cases jI x y<;>cases (b.any fun g=>jI x g)<;>cases (a.any fun f=>jI f y)<;>simp
theorem IK{y:au}{a:List au}(h:∀ x∈a,(x.name == y.name)=false):(a.any fun f=>jI f y)=false:=by
 rw [List.any_eq_false]
 intro x hx
 simp [jI,h x hx]
theorem uu:∀ (n:Nat) (a b:List au),a.length+b.length≤n→ze a=true→ze b=true→(ks a b).isSome = !kr a b
 |_,[],b,_,_,_=>by cases b<;>simp [ks,kr]
 |_,x::a,[],_,_,_=>by
  have:kr (x::a) []=false:=by simp [kr]
  rw [this];simp [ks]
 |0,x::a,y::b,h,_,_=>by simp at h
 |n+1,x::a,y::b,h,ha,hb=>by
  have hxa:∀ z∈a,Op.bytesLess x.name z.name=true:=vz ha
  have hyb:∀ z∈b,Op.bytesLess y.name z.name=true:=vz hb
  simp only [List.length_cons] at h
  rw [ks]
  cases c1:Op.bytesLess x.name y.name with
  |true=>
   simp only [Option.isSome_map]
   rw [uu n a (y::b) (by simp only [List.length_cons];omega) (AQ ha) hb,w8,KJ (x:=x) (b:=y::b) (fun z hz=>by
    rcases List.mem_cons.1 hz with rfl | hz
    ·exact MC c1
    ·exact MC (qx c1 (hyb z hz))),Bool.false_or]
  |false=>
   simp only
   cases c2:Op.bytesLess y.name x.name with
   |true=>
    simp only [Option.isSome_map]
    rw [uu n (x::a) b (by simp only [List.length_cons];omega) ha (AQ hb),DT,IK (y:=y) (a:=x::a) (fun z hz=>by
     rw [G6]
     rcases List.mem_cons.1 hz with rfl | hz
     ·exact MC c2
     ·exact MC (qx c2 (hxa z hz))),Bool.false_or]
   |false=>
    have hn:=KI c1 c2
    simp only [hn,beq_self_eq_true,Bool.true_and]
    cases c3:x.value == y.value with
    |true=>
     simp only [Option.isSome_map]
     rw [uu n a b (by omega) (AQ ha) (AQ hb),w8,DT,List.any_cons,KJ (x:=x) (b:=b) (fun z hz=>by rw [hn];exact MC (hyb z hz)),
      IK (y:=y) (a:=a) (fun z hz=>by rw [G6,← hn];exact MC (hxa z hz))]
     simp [jI,c3]
    |false=>
     simp only [Option.isSome_none]
     rw [w8,List.any_cons]
     simp [jI,hn,c3]
theorem O0{a b:List au}(ha:ze a=true)(hb:ze b=true):(DQ a b).isSome = !kr a b:=by
 rw [DQ,ha,hb]
 exact uu _ a b (Nat.le_refl _) ha hb
theorem jQ{α:Type}{F:Nat→α→Int}:∀ {l:List α}{s:Nat},w7 F s l=0→∀ (k:Nat) (x:α),l[k]?=some x→F (s+k) x=0
 |[],_,_,k,x,h=>by simp at h
 |y::l,s,h,k,x,hx=>by
  rw [w7] at h
  cases hy:F s y == 0 with
  |false=>
   rw [hy] at h
   simp only [Bool.not_false,sel] at h
   rw [h] at hy;simp at hy
  |true=>
   rw [hy] at h
   simp only [Bool.not_true,sel] at h
   cases k with
   |zero=>obtain rfl:y=x:=by simpa using hx
          exact eq_of_beq hy
   |succ k=>
    have:=jQ h k x (by simpa using hx)
    rwa [show s+1+k=s+(k+1) by omega] at this
theorem jR{α:Type}{F:Nat→α→Int}{most:Int}{l:List α}(h:pj most F l=0):(l.length:Int)≤most∧∀ (k:Nat) (x:α),l[k]?=some x→F k x=0:=by
 unfold pj at h
 cases hd:decide (most<(l.length:Int)) with
 |true=>rw [hd] at h;simp [sel] at h
 |false=>
  rw [hd] at h
  simp only [sel] at h
  refine ⟨by simpa using hd,fun k x hx => ?_⟩
  have:=jQ h k x hx
  rwa [Nat.zero_add] at this
theorem Rj:∀ {l:List au},(∀ (i:Nat) (g f:au),l[i]?=some g→l[i+1]?=some f→Op.bytesLess g.name f.name=true)→ze l=true
 |[],_=>rfl
 |[x],_=>rfl
 |x::y::l,h=>by
  have h0:=h 0 x y rfl rfl
  have h1:ze (y::l)=true:=Rj (fun i g f hg hf=>h (i+1) g f (by simpa using hg) (by simpa using hf))
  simp only [ze,AP,Bool.and_eq_true] at h1 ⊢
  exact ⟨h0,h1⟩
theorem bundle_ok{l:Lex}{b:List au}(h:sP l b=0):b.length≤8∧ze b=true:=by
 obtain ⟨h1,h2⟩:=jR h
 refine ⟨by omega,Rj fun i g f hg hf => ?_⟩
 have:=h2 (i+1) f hf
 unfold Qn at this
 split at this
 ·exact absurd this (by decide)
 ·rw [DL hg,DL hg] at this
  revert this
  cases (!List.any _ _) with
  |true=>intro h;simp [sel] at h
  |false=>
   cases c:g.name == f.name with
   |true=>intro h;simp [sel] at h
   |false=>
    cases c2:Op.bytesLess g.name f.name with
    |true=>intro _;rfl
    |false=>intro h;simp [sel] at h
section
attribute [local congr] aF ca bg aG aZ aL aH aA aC aM aN
variable{E:bt}(M:cK cU E)
theorem KK{α:Type}(l:List α)(i:Nat):∀ k,k<(l.take i).length→l[k]?=(l.take i)[k]? := fun k hk=>by
 rw [List.getElem?_take_of_lt];simp at hk;omega
end
end Go.Am
