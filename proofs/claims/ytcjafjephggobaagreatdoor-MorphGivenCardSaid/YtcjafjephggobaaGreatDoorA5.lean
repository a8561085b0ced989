import Derived.Test.YtcjafjephggobaaGreatDoorA4
import Derived.Test.YtcjafjephggobaaGreatDoorChecked
import Derived.KernelRfl
/-
  Part 5 of the tool: an abstract machine over the model, proved sound, and what it says of the functions that the law reaches. Condition: none but those that each theorem names.
-/
set_option linter.unusedVariables false
set_option linter.unusedSimpArgs false
set_option maxRecDepth 100000
set_option maxHeartbeats 4000000
namespace Go.Am
open Go.RowKit
section
open Sh
def B3:AC:=
 (Q (O [mc 0 F]) (Q (O [k 7 (f L4) [(s [118,111,119,101,108,115,32,97,101,105,111,117,10,116,114,97,105,116,32,110,117,109,32,115,103,32,112,
 108,10,99,108,97,115,115,32,110,111,117,110,10,115,108,111,116,32,48,32,45,32,45,32,110,117,109,61,115,103,10,115,108,111,116,32,48,32,45,32,
 115,32,110,117,109,61,112,108,10,99,108,97,115,115,32,118,101,114,98,10,115,108,111,116,32,48,32,45,32,45,10,115,108,111,116,32,48,32,45,32,
 101,100,10,101,110,116,114,121,32,99,105,116,121,32,110,111,117,110,10,101,110,116,114,121,32,99,97,114,32,110,111,117,110,10,101,110,116,114,
 121,32,98,117,115,32,110,111,117,110,10,102,111,114,109,32,49,32,98,117,115,101,115,10,101,110,116,114,121,32,112,108,97,110,32,118,101,114,98,
 10,115,112,101,108,108,32,121,43,32,105,43,101,32,67,32,115,10,115,112,101,108,108,32,110,43,32,110,110,43,32,86,32,101,100,10,108,105,110,
 107,32,110,111,117,110,32,45,32,110,117,109,61,115,103,10])],m 6 7,ex 8 6 0,ex 9 6 1,ex 10 6 2,o 1 (.nw [(.str []),(.slice .nil 2 []),(.slice .nil 2 []),
 (.slice .nil 4 []),(.slice .nil 4 []),(.slice .nil 3 [])] az),n (.st 6 (t 1) (t 8)),m 2 9,m 3 10]) (Q (O [la 12 6 1,k 13 (f vC) [(t 12),(i 0),(i 1)],m
 11 13,ex 14 11 0,ex 15 11 1,m 4 14,m 5 15]) (Q (O [m 16 3,o 17 (.ar .eql (t 16) (u 0)),m 18 17,g 19 18 (.mv (t 5)),g 20 18 (.ar .eql (t 19) (u 0)),o 21 (.pk (t 18) (t 20)
 F),m 22 21,g 23 22 (.mv (t 4)),g 24 22 (.ar .eql (t 23) (s [99,105,116,105,101,115])),o 25 (.pk (t 22) (t 24) F),m 0 25]) R))))
def sB:AFn:=⟨B3,26,[.t 0],.keep,[],none⟩
def FC:AFn:=mQ.k
def Ic:AC:=
 (Q (O [bl 31 30 29]) (Q (C 31 X (.exit 0)) (Q (.block 1 (Q (O [m 32 30,ia 33 1 28 30,ld 34 33,m 7 32,m 8 34]) (Q (Q (O [m 35 8,o 36 (.ar .eql (t 35) (s [])),m 37 36,h 38 37
 (.mv (t 8)),h 39 37 (.ixs (t 38) (i 0)),h 40 37 (.ar .eql (t 39) (u 59)),o 41 (.pk (t 37) T (t 40))]) (C 41 (.exit 1) X)) (Q (O [m 42 8,k 43 (f EL) [(t 6),(t
 42)],no 44 43]) (C 44 (Q (O [o 45 (.bd [(.str []),(.slice .nil 2 []),(.slice .nil 2 []),(.slice .nil 4 []),(.slice .nil 4 []),(.slice .nil 3 [])] [(0,1),(1,1),(2,1),(3,
 1),(4,1),(5,1)] []),m 46 7,ad 47 46,n (.st 6 (t 2) (t 45)),m 3 47,mc 4 (u 4)]) R) X))))) (O [ad 48 30,m 30 48]))))
def KK:AC:=
 (Q (O [o 2 (.nw [(.str []),(.slice .nil 2 []),(.slice .nil 2 []),(.slice .nil 4 []),(.slice .nil 4 []),(.slice .nil 3 [])] az),mc 3 (i 0),mc 4 (u 0)]) (Q (Q (O [m
 10 0,lt 11 10,o 12 (.ar .gtr (t 11) (i 65536))]) (C 12 (Q (O [o 13 (.bd [(.str []),(.slice .nil 2 []),(.slice .nil 2 []),(.slice .nil 4 []),(.slice .nil 4 []),(.slice .nil 3
 [])] [(0,1),(1,1),(2,1),(3,1),(4,1),(5,1)] []),n (.st 6 (t 2) (t 13)),mc 3 (i 0),mc 4 (u 3)]) R) X)) (Q (O [m 14 0,k 15 (f Cq) [(t 14),(s [10])],m 5
 15]) (Q (Q (O [m 16 5,m 17 5,ls 18 17,o 19 (.ar .sub (t 18) (i 1)),ia 20 1 16 19,ld 21 20,o 22 (.ar .eql (t 21) (s []))]) (C 22 (O [m 23 5,m 24 5,ls 25 24,o 26 (.ar .sub (t
 25) (i 1)),o 27 (.sll 1 (t 23) none (some (t 26)) none),m 5 27]) X)) (Q (O [o 6 (.nw [(.str []),(.slice .nil 2 []),(.slice .nil 2 []),(.slice .nil 4 []),(.slice .nil 4 []),
 (.slice .nil 3 []),(.str []),(.int .i64 0)] KH)]) (Q (Q (O [m 28 5,ls 29 28,mc 30 (i 0)]) (.block 0 (.loop ⟨none,[],false⟩ Ic))) (Q (Q (O [fa 49 6 6,
 ld 50 49,o 51 (.ar .eql (t 50) (s []))]) (C 51 (Q (O [o 52 (.bd [(.str []),(.slice .nil 2 []),(.slice .nil 2 []),(.slice .nil 4 []),(.slice .nil 4 []),(.slice .nil 3 [])] [(0,
 1),(1,1),(2,1),(3,1),(4,1),(5,1)] []),n (.st 6 (t 2) (t 52)),mc 3 (i 0),mc 4 (u 4)]) R) X)) (Q (Q (O [fa 53 0 6,la 54 6 53,k 55 (f kZ) [(t 54)],m 9 55])
 (Q (O [m 56 9,o 57 (.ar .neq (t 56) (u 0))]) (C 57 (Q (O [o 58 (.bd [(.str []),(.slice .nil 2 []),(.slice .nil 2 []),(.slice .nil 4 []),(.slice .nil 4 []),(.slice .nil 3 [])]
 [(0,1),(1,1),(2,1),(3,1),(4,1),(5,1)] []),m 59 9,n (.st 6 (t 2) (t 58)),mc 3 (i 0),m 4 59]) R) X))) (Q (O [fa 60 0 6,la 61 6 60,n (.st 6 (t 2) (t 61)),mc 3 (i 0),
 mc 4 (u 0)]) R)))))))))
def DU:AFn:=⟨KK,62,[.cell 2 (some 6),.t 3,.t 4],.keep,[],none⟩
def DV:AFn:=k8.k
def FD:AFn:=mR.k
def sC:AFn:=eW.k
def sD:AFn:=dv.k
def kQ:AFn:=b7.k
def DW:AFn:=lf.k
def iG:AFn:=bn.k
def Ie:AC:=
 (Q (O [mc 4 (.c (.slice .nil 1 []))]) (Q (O [m 5 0,m 6 1,k 7 (f wD) [(t 5),(t 6),(i 0),(i (-1))],m 4 7]) R))
def AO:AFn:=⟨Ie,8,[.t 4],.keep,[],none⟩
def B4:AC:=
 (Q (O [bl 26 25 24]) (Q (C 26 X (.exit 0)) (Q (.block 1 (Q (O [ia 27 1 23 25,ld 28 27,m 9 28]) (O [m 29 9,o 30 (.ar .neq (t 29) (s [])),k 31 (f iT) [(t 30)]]))) (O
 [ad 32 25,m 25 32]))))
def DX:AC:=
 (Q (O [m 11 1,k 12 (f Cq) [(t 11),(s [32])],m 5 12]) (Q (D [W (k 14 (f L5) []),P (m 15 5),P (o 16 (.ias 1 (t 15) (i 0))),W (ld 17 16),W (o 18 (.lk
 .str (some (.agg [(.int .i64 0),(.int .i64 0),(.bool false),.nilfn])) true (t 14) (t 17))),P (m 13 18),P (ex 19 13 0),P (ex 20 13 1),K (o 6 (.nw [(.int .i64 0),(.int .i64
 0),(.bool false),.nilfn] NV)),E (n (.st 4 (t 6) (t 19))),P (m 7 20)]) (Q (O [m 21 7,k 22 (f iT) [(t 21)]]) (Q (Q (O [m 23 5,ls 24 23,mc 25 (i 0)])
 (.block 0 (.loop ⟨none,[],false⟩ B4))) (Q (O [m 33 5,o 34 (.sll 1 (t 33) (some (i 1)) none none),m 5 34]) (Q (O [m 35 5,ls 36 35,fa 37 1 6,ld 38 37,o 39
 (.ar .geq (t 36) (t 38)),m 40 39,g 41 40 (.fa 2 (t 6)),g 42 40 (.ld none (t 41)),g 43 40 (.mv (t 42)),h 44 43 (.mv (t 5)),h 45 43 (.len .sl (t 44)),h 46 43 (.fa 1 (t 6)),h
 47 43 (.ld none (t 46)),h 48 43 (.ar .eql (t 45) (t 47)),g 49 40 (.pk (t 43) T (t 48)),o 50 (.pk (t 40) (t 49) F),k 51 (f iT) [(t 50)]]) (Q (D [P (m 52 0),P (o 53
 (.nc (t 52))),P (fa 54 6 53),W (ld 55 54),P (o 56 (.ar .eql (t 55) (s []))),P (fa 57 0 6),W (ld 58 57),P (o 59 (.ar .eql (t 58) (i 0))),P (o 60 (.eq false .bool (t 56) (t
 59))),P (m 61 60),P (g 62 61 (.fa 0 (t 6))),W (g 63 61 (.ld none (t 62))),P (g 64 61 (.mv (t 0))),P (g 65 61 (.nc (t 64))),P (g 66 61 (.fa 7 (t 65))),W (g 67 61 (.ld none (t
 66))),P (g 68 61 (.ar .geq (t 63) (t 67))),P (o 69 (.pk (t 61) (t 68) F)),E (k 70 (f iT) [(t 69)])]) (Q (O [fa 71 3 6,ld 72 71,m 73 0,m 74 5,k 75 (t 72) [(t 73),
 (t 74)]]) (Q (.dops true [] [] [P (m 76 0),P (m 77 0),P (m 78 1),W (k 79 (f Ia) [(t 78),(s [32]),(i 2)]),P (o 80 (.ias 1 (t 79) (i 0))),W (ld 81 80),P (fa 82 0
 6),W (ld 83 82),P (o 84 (.nc (t 76))),P (fa 85 6 84),K (n (.st 1 (t 85) (t 81))),P (o 86 (.nc (t 77))),P (fa 87 7 86),K (n (.st 1 (t 87) (t 83)))]) (Q (O [n (.st 1 (t 4) T)])
 R))))))))))
def DY:AC:=
 (O [o 4 (.nw [(.bool false)] TT)])
def uz:AFn:=⟨DY,88,[.cell 4 none],.keep,[],(some ([⟨(some 10),none,(.op (.mf (.func CJ) [] [(.t 4)]))⟩],(.t 10),DX))⟩
def DZ:AFn:=iQ.k
def rE:AFn:=cZ.k
def AP:AFn:=jl.k
def rF:AFn:=cw.k
def sE:AFn:=dw.k
def AQ:AFn:=jm.k
def rG:AFn:=cA.k
def sF:AFn:=eY.k
def AR:AFn:=jn.k
def rH:AFn:=cB.k
def sG:AFn:=dx.k
def AS:AFn:=jo.k
def rI:AFn:=cC.k
def sH:AFn:=eZ.k
def AT:AFn:=jq.k
def sI:AFn:=cO.k
def tA:AFn:=fu.k
def Hh:AFn:=eS.k
def Ct:AFn:=iU.k
def rJ:AFn:=eu.k
def AU:AFn:=jr.k
def rK:AFn:=c6.k
def tB:AFn:=fw.k
def mz:AFn:=bM.k
def je:AFn:=aX.k
def CY:AC:=
 (Q (Q (O [m 34 10,m 35 3,bl 36 34 35]) (C 36 X (.exit 0))) (.block 1 (Q (O [m 37 0,m 38 1,k 39 (f nI) [(t 37),(t 38)],m 11 39]) (Q (Q (O [m 40 11,o 41 (.ar .lss
 (t 40) (i 0))]) (C 41 (.exit 0) X)) (Q (O [m 42 9,m 43 10,m 44 0,m 45 11,m 46 2,o 47 (.ar .add (t 45) (t 46)),o 48 (.sls (t 44) none (some (t 47))),ia 49 1 42 43,n (.st 1 (t
 49) (t 48))]) (Q (O [m 50 0,m 51 11,m 52 1,lt 53 52,o 54 (.ar .add (t 51) (t 53)),o 55 (.sls (t 50) (some (t 54)) none),m 0 55]) (O [m 56 10,ad 57 56,m 10 57])))))))
def EV:AC:=
 (Q (O [mc 8 (.c (.slice .nil 1 []))]) (Q (Q (O [m 12 3,o 13 (.ar .eql (t 12) (i 0))]) (C 13 (Q (O [mc 8 (.c (.slice .nil 1 []))]) R) X)) (Q (Q (O [m 14 1,o 15 (.ar .eql (t 14) (s
 []))]) (C 15 (Q (O [m 16 0,m 17 3,k 18 (f G7) [(t 16),(t 17)],m 8 18]) R) X)) (Q (Q (O [m 19 3,o 20 (.ar .lss (t 19) (i 0))]) (C 20 (O [m 21 0,m 22 1,k 23 (f
 kA) [(t 21),(t 22)],ad 24 23,m 3 24]) X)) (Q (O [m 25 3,m 26 0,lt 27 26,ad 28 27,o 29 (.mn (t 25) (t 28)),m 3 29]) (Q (O [m 30 3,o 31 (.ms bj 16 [(.str
 [])] (t 30) (t 30)),m 9 31]) (Q (O [m 32 3,o 33 (.ar .sub (t 32) (i 1)),m 3 33]) (Q (O [mc 10 (i 0)]) (Q (.block 0 (.loop ⟨none,[],false⟩ CY)) (Q (O [m 58 9,
 m 59 10,m 60 0,ia 61 1 58 59,n (.st 1 (t 61) (t 60))]) (Q (O [m 62 9,m 63 10,ad 64 63,o 65 (.sll 1 (t 62) none (some (t 64)) none),m 8 65]) R)))))))))))
def vu:AFn:=⟨EV,66,[.t 8],.keep,[],none⟩
def AW:AC:=
 (.block 0 (Q (O [o 6 (.eq false (.ifc true) (t 4) (.c .nilif))]) (C 6 (O [m 1 4]) (Q (O [o 7 (.ta zd (some (.agg [])) true (t 4)),ex 8 7 1,ex 9 7 0]) (C 8 (Q (O [o 2
 (.nw [] zd),n (.st 0 (t 2) (t 9))]) (O [n (.st 1 (t 0) F)])) (Q (O [m 3 4]) (O [m 5 3,⟨none,none,(.panic (.t 5))⟩])))))))
def rL:AFn:=⟨AW,10,[],.keep,[],none⟩
def KL:AC:=
 (Q (O [mc 0 (.c .nilmap)]) (Q (O [o 1 .mm,o 2 (.bd [(.int .i64 0),(.int .i64 0),(.bool false),.nilfn] [(0,1),(1,1),(2,1),(3,1)] [(0,(i 0)),(1,(i 1)),(2,F),(3,(f
 Ji))]),n (.mu .str (t 1) (s [118,111,119,101,108,115]) (t 2)),o 3 (.bd [(.int .i64 0),(.int .i64 0),(.bool false),.nilfn] [(0,1),(1,1),(2,1),(3,1)]
 [(0,(i 1)),(1,(i 1)),(2,T),(3,(f Jj))]),n (.mu .str (t 1) (s [116,114,97,105,116]) (t 3)),o 4 (.bd [(.int .i64 0),(.int .i64 0),(.bool false),.nilfn]
 [(0,1),(1,1),(2,1),(3,1)] [(0,(i 2)),(1,(i 1)),(2,F),(3,(f Jk))]),n (.mu .str (t 1) (s [99,108,97,115,115]) (t 4)),o 5 (.bd [(.int .i64 0),(.int
 .i64 0),(.bool false),.nilfn] [(0,1),(1,1),(2,1),(3,1)] [(0,(i 2)),(1,(i 3)),(2,T),(3,(f Jl))]),n (.mu .str (t 1) (s [115,108,111,116]) (t 5)),o 6
 (.bd [(.int .i64 0),(.int .i64 0),(.bool false),.nilfn] [(0,1),(1,1),(2,1),(3,1)] [(0,(i 3)),(1,(i 2)),(2,T),(3,(f Jm))]),n (.mu .str (t 1) (s [101,
 110,116,114,121]) (t 6)),o 7 (.bd [(.int .i64 0),(.int .i64 0),(.bool false),.nilfn] [(0,1),(1,1),(2,1),(3,1)] [(0,(i 3)),(1,(i 2)),(2,F),(3,(f
 Jn))]),n (.mu .str (t 1) (s [102,111,114,109]) (t 7)),o 8 (.bd [(.int .i64 0),(.int .i64 0),(.bool false),.nilfn] [(0,1),(1,1),(2,1),(3,1)] [(0,(i 4)),
 (1,(i 4)),(2,F),(3,(f Jo))]),n (.mu .str (t 1) (s [115,112,101,108,108]) (t 8)),o 9 (.bd [(.int .i64 0),(.int .i64 0),(.bool false),.nilfn] [(0,1),(1,
 1),(2,1),(3,1)] [(0,(i 5)),(1,(i 2)),(2,T),(3,(f Jp))]),n (.mu .str (t 1) (s [108,105,110,107]) (t 9)),m 10 1,m 0 10]) R))
def D0:AFn:=⟨KL,11,[.t 0],.keep,[],none⟩
def Jz:AC:=
 (Q (O [m 2 0,no 3 2]) (C 3 (O [o 4 (.bd [] [] []),o 5 (.mi zd (t 4)),⟨none,none,(.panic (.t 5))⟩]) X))
def Cu:AFn:=⟨Jz,6,[],.keep,[],none⟩
def Hi:AC:=
 (Q (O [mc 6 (.c (.slice .nil 1 []))]) (Q (O [m 7 0,m 8 1,m 9 2,k 10 (f wD) [(t 7),(t 8),(i 0),(t 9)],m 6 10]) R))
def yS:AFn:=⟨Hi,11,[.t 6],.keep,[],none⟩
def Cv:AFn:=gm.k
def FE:AFn:=iR.k
def iu:AFn:=bc.k
def qy:AFn:=ea.k
def iv:AFn:=bf.k
def qz:AFn:=eb.k
def sJ:AFn:=cP.k
def qA:AFn:=ec.k
def D1:AFn:=lg.k
def D2:AFn:=lj.k
def iw:AFn:=bg.k
def qB:AFn:=ed.k
def iH:AFn:=bo.k
def qC:AFn:=ee.k
def D3:AFn:=ll.k
def fE:AFn:=aU.k
def qD:AFn:=eg.k
def Cw:AFn:=jZ.k
def Cx:AFn:=j0.k
def sK:AFn:=cQ.k
def pU:AFn:=dM.k
def iK:AFn:=aR.k
def o6:AFn:=du.k
def iL:AFn:=aS.k
def w8:AFn:=ig.k
def nR:AFn:=c7.k
def rM:AFn:=c8.k
def w9:AFn:=eh.k
def D4:AC:=
 (Q (Q (O [m 22 7,m 23 1,o 24 (.ar .sub (t 23) (i 1)),bl 25 22 24]) (C 25 X (.exit 0))) (Q (.block 1 (Q (O [m 29 0,k 30 (f km) [(t 29)],m 28 30,
 ex 31 28 0,ex 32 28 1,m 8 31,m 9 32]) (Q (O [m 33 6,m 34 7,m 35 0,m 36 9,o 37 (.sls (t 35) none (some (t 36))),ia 38 1 33 34,n (.st 1 (t 38) (t 37))]) (O [m 39 0,m 40 9,o
 41 (.sls (t 39) (some (t 40)) none),m 0 41])))) (O [m 26 7,ad 27 26,m 7 27])))
def FV:AC:=
 (Q (O [mc 4 (.c (.slice .nil 1 []))]) (Q (O [m 10 0,k 11 (f kK) [(t 10)],m 5 11]) (Q (Q (O [m 12 1,o 13 (.ar .lss (t 12) (i 0)),m 14 13,h 15 14
 (.mv (t 1)),h 16 14 (.mv (t 5)),h 17 14 (.ar .gtr (t 15) (t 16)),o 18 (.pk (t 14) T (t 17))]) (C 18 (O [m 19 5,m 1 19]) X)) (Q (O [m 20 1,o 21 (.ms bj 16 [(.str [])] (t
 20) (t 20)),m 6 21]) (Q (Q (O [mc 7 (i 0)]) (.block 0 (.loop ⟨none,[],false⟩ D4))) (Q (Q (O [m 42 1,o 43 (.ar .gtr (t 42) (i 0))]) (C 43 (O [m 44 6,m 45 1,o
 46 (.ar .sub (t 45) (i 1)),m 47 0,ia 48 1 44 46,n (.st 1 (t 48) (t 47))]) X)) (Q (O [m 49 6,m 4 49]) R)))))))
def xa:AFn:=⟨FV,50,[.t 4],.keep,[],none⟩
def AX:AFn:=ju.k
def AY:AFn:=jv.k
def If:AC:=
 (O [m 4 0,m 5 1,o 6 (.ias 1 (t 5) (i 0)),ld 7 6,k 8 (f jN) [(t 7)],o 9 (.nc (t 4)),fa 10 0 9,fa 11 0 10,n (.st 1 (t 11) (t 8))])
def AZ:AFn:=⟨If,12,[],.keep,[],none⟩
def Mb:AC:=
 (Q (O [mc 2 (s [])]) (Q (Q (O [m 3 0,o 4 (.ar .eql (t 3) (s [45]))]) (C 4 (Q (O [mc 2 (s [])]) R) X)) (Q (O [m 5 0,m 2 5]) R)))
def FF:AFn:=⟨Mb,6,[.t 2],.keep,[],none⟩
def Ig:AC:=
 (D [P (m 4 0),P (m 5 0),P (o 6 (.nc (t 5))),P (fa 7 0 6),P (fa 8 1 7),W (ld 9 8),P (m 10 1),P (o 11 (.ias 1 (t 10) (i 0))),W (ld 12 11),P (m 13 1),P (o 14 (.sll 1 (t 13)
 (some (i 1)) none none)),P (o 15 (.bd [(.str []),(.slice .nil 1 [])] [(0,1),(1,1)] [(0,(t 12)),(1,(t 14))])),P (o 16 (.bs 2 [(.str []),(.slice .nil 0 [])] 1 [(0,(t
 15))])),E (o 17 (.ap false iA 2 40 false (t 9) (t 16))),P (o 18 (.nc (t 4))),P (fa 19 0 18),P (fa 20 1 19),E (n (.st 1 (t 20) (t 17)))])
def A1:AFn:=⟨Ig,21,[],.keep,[],none⟩
def Ih:AC:=
 (D [P (m 4 0),P (m 5 0),P (o 6 (.nc (t 5))),P (fa 7 0 6),P (fa 8 2 7),W (ld 9 8),P (m 10 1),P (o 11 (.ias 1 (t 10) (i 0))),W (ld 12 11),P (o 13 (.bd [(.str []),(.slice
 .nil 4 [])] [(0,1),(1,1)] [(0,(t 12))])),P (o 14 (.bs 2 [(.str []),(.slice .nil 0 [])] 1 [(0,(t 13))])),E (o 15 (.ap true cr 2 40 false (t 9) (t 14))),P (o 16 (.nc
 (t 4))),P (fa 17 0 16),P (fa 18 2 17),E (n (.st 1 (t 18) (t 15)))])
def A2:AFn:=⟨Ih,19,[],.keep,[0],none⟩
def Ii:AC:=
 (Q (O [m 5 0,o 6 (.nc (t 5)),fa 7 6 6,ld 8 7,o 9 (.ar .eql (t 8) (s [99,108,97,115,115])),m 10 9,h 11 10 (.mv (t 0)),h 12 10 (.nc (t 11)),h 13 10 (.fa 6 (t 12)),h 14 10
 (.ld none (t 13)),h 15 10 (.ar .eql (t 14) (s [115,108,111,116])),o 16 (.pk (t 10) T (t 15)),k 17 (f iT) [(t 16)]]) (Q (D [P (m 18 0),P (o 19 (.nc (t 18))),P (fa
 20 0 19),P (fa 21 2 20),W (ld 22 21),P (m 23 0),P (o 24 (.nc (t 23))),P (fa 25 0 24),P (fa 26 2 25),W (ld 27 26),W (ls 28 27),P (o 29 (.ar .sub (t 28) (i 1))),P (ia 30 2
 22 29),P (m 4 30)]) (D [P (m 31 4),P (m 32 4),P (o 33 (.nc (t 32))),P (fa 34 1 33),W (ld 35 34),P (m 36 1),P (o 37 (.ias 1 (t 36) (i 0))),W (ld 38 37),P (m 40 1),P (o 41
 (.ias 1 (t 40) (i 1))),W (ld 42 41),P (m 44 1),P (o 45 (.ias 1 (t 44) (i 2))),W (ld 46 45),P (m 48 1),P (o 49 (.sll 1 (t 48) (some (i 3)) none none)),K (k 39 (f
 wE) [(t 38)]),K (k 43 (f jN) [(t 42)]),K (k 47 (f jN) [(t 46)]),K (k 50 (f za) [(t 49)]),P (o 51 (.bd [(.int .i64 0),(.str []),(.str
 []),(.slice .nil 2 [])] [(0,1),(1,1),(2,1),(3,1)] [(0,(t 39)),(1,(t 43)),(2,(t 47)),(3,(t 50))])),P (o 52 (.bs 4 [(.int .i64 0),(.str []),(.str []),(.slice .nil 0
 [])] 1 [(0,(t 51))])),E (o 53 (.ap false bI 4 64 false (t 35) (t 52))),P (o 54 (.nc (t 31))),P (fa 55 1 54),E (n (.st 1 (t 55) (t 53)))])))
def A3:AFn:=⟨Ii,56,[],.keep,[],none⟩
def JA:AC:=
 (Q (O [mc 2 (i 0)]) (Q (O [m 6 0,k 7 (f KG) [(t 6)],m 5 7,ex 8 5 0,ex 9 5 1,m 3 8,m 4 9]) (Q (O [m 10 4,o 11 (.eq false (.ifc true) (t 10) (.c .nilif)),m 12 11,
 g 13 12 (.mv (t 3)),g 14 12 (.ar .geq (t 13) (i 0)),o 15 (.pk (t 12) (t 14) F),m 16 15,g 17 16 (.mv (t 3)),g 18 16 (.ar .leq (t 17) (i 999)),o 19 (.pk (t 16) (t 18) F),m 20
 19,g 21 20 (.mv (t 3)),⟨(some 22),(some (20,true)),(.call (.c (.fn (.func wF) [] [])) [(.t 21)])⟩,g 23 20 (.mv (t 0)),g 24 20 (.ar .eql (t 22) (t 23)),o 25 (.pk
 (t 20) (t 24) F),k 26 (f iT) [(t 25)]]) (Q (O [m 27 3,m 2 27]) R))))
def Cy:AFn:=⟨JA,28,[.t 2],.keep,[],none⟩
def Ij:AC:=
 (Q (O [bl 12 11 10]) (Q (C 12 X (.exit 0)) (Q (.block 1 (Q (O [ia 13 1 9 11,ld 14 13,m 5 14]) (Q (O [m 15 5,k 16 (f kA) [(t 15),(s [61])],o 17 (.ar .eql (t 16) (i
 1)),k 18 (f iT) [(t 17)]]) (Q (O [m 20 5,k 21 (f L6) [(t 20),(s [61])],m 19 21,ex 22 19 0,ex 23 19 1,ex 24 19 2,m 6 22,m 7 23,m 8 24]) (O [m 25 3,m
 26 6,m 27 7,o 28 (.bd [(.str []),(.str [])] [(0,1),(1,1)] [(0,(t 26)),(1,(t 27))]),o 29 (.bs 2 [(.str []),(.str [])] 1 [(0,(t 28))]),o 30 (.ap false ba 2 32
 false (t 25) (t 29)),m 3 30]))))) (O [ad 31 11,m 11 31]))))
def KM:AC:=
 (Q (O [mc 2 (.c (.slice .nil 2 []))]) (Q (O [mc 3 (.c (.slice .nil 2 []))]) (Q (Q (O [m 9 0,ls 10 9,mc 11 (i 0)]) (.block 0 (.loop ⟨none,[],false⟩ Ij))) (Q (O [m
 32 3,m 2 32]) R))))
def D5:AFn:=⟨KM,33,[.t 2],.keep,[],none⟩
def Ik:AC:=
 (D [P (m 4 0),P (m 5 0),P (o 6 (.nc (t 5))),P (fa 7 0 6),P (fa 8 3 7),W (ld 9 8),P (m 10 1),P (o 11 (.ias 1 (t 10) (i 0))),W (ld 12 11),P (m 13 1),P (o 14 (.ias 1 (t 13)
 (i 1))),W (ld 15 14),P (m 16 1),P (o 17 (.sll 1 (t 16) (some (i 2)) none none)),K (k 18 (f za) [(t 17)]),P (o 19 (.bd [(.str []),(.str []),(.slice .nil 2 []),
 (.slice .nil 2 [])] [(0,1),(1,1),(2,1),(3,1)] [(0,(t 12)),(1,(t 15)),(2,(t 18))])),P (o 20 (.bs 4 [(.str []),(.str []),(.slice .nil 0 []),(.slice .nil 0 [])] 1 [(0,
 (t 19))])),E (o 21 (.ap true dI 4 80 false (t 9) (t 20))),P (o 22 (.nc (t 4))),P (fa 23 0 22),P (fa 24 3 23),E (n (.st 1 (t 24) (t 21)))])
def A4:AFn:=⟨Ik,25,[],.keep,[0],none⟩
def Il:AC:=
 (Q (O [m 5 0,o 6 (.nc (t 5)),fa 7 6 6,ld 8 7,o 9 (.ar .eql (t 8) (s [101,110,116,114,121])),m 10 9,h 11 10 (.mv (t 0)),h 12 10 (.nc (t 11)),h 13 10 (.fa 6 (t 12)),h 14
 10 (.ld none (t 13)),h 15 10 (.ar .eql (t 14) (s [102,111,114,109])),o 16 (.pk (t 10) T (t 15)),k 17 (f iT) [(t 16)]]) (Q (D [P (m 18 0),P (o 19 (.nc (t 18))),P
 (fa 20 0 19),P (fa 21 3 20),W (ld 22 21),P (m 23 0),P (o 24 (.nc (t 23))),P (fa 25 0 24),P (fa 26 3 25),W (ld 27 26),W (ls 28 27),P (o 29 (.ar .sub (t 28) (i 1))),P (ia 30
 4 22 29),P (m 4 30)]) (D [P (m 31 4),P (m 32 4),P (o 33 (.nc (t 32))),P (fa 34 3 33),W (ld 35 34),P (m 36 1),P (o 37 (.ias 1 (t 36) (i 0))),W (ld 38 37),P (m 40 1),P (o 41
 (.ias 1 (t 40) (i 1))),W (ld 42 41),K (k 39 (f wE) [(t 38)]),K (k 43 (f jN) [(t 42)]),P (o 44 (.bd [(.int .i64 0),(.str [])] [(0,1),(1,1)] [(0,(t
 39)),(1,(t 43))])),P (o 45 (.bs 2 [(.int .i64 0),(.str [])] 1 [(0,(t 44))])),E (o 46 (.ap false eD 2 24 false (t 35) (t 45))),P (o 47 (.nc (t 31))),P (fa 48 3
 47),E (n (.st 1 (t 48) (t 46)))])))
def A5:AFn:=⟨Il,49,[],.keep,[],none⟩
def Im:AC:=
 (D [P (m 4 0),P (m 5 0),P (o 6 (.nc (t 5))),P (fa 7 0 6),P (fa 8 4 7),W (ld 9 8),P (m 10 1),P (o 11 (.ias 1 (t 10) (i 0))),W (ld 12 11),P (m 14 1),P (o 15 (.ias 1 (t 14)
 (i 1))),W (ld 16 15),P (m 18 1),P (o 19 (.ias 1 (t 18) (i 2))),W (ld 20 19),P (m 22 1),P (o 23 (.ias 1 (t 22) (i 3))),W (ld 24 23),K (k 13 (f jN) [(t 12)]),K (k
 17 (f jN) [(t 16)]),K (k 21 (f jN) [(t 20)]),K (k 25 (f jN) [(t 24)]),P (o 26 (.bd [(.str []),(.str []),(.str []),(.str [])] [(0,1),(1,1),(2,
 1),(3,1)] [(0,(t 13)),(1,(t 17)),(2,(t 21)),(3,(t 25))])),P (o 27 (.bs 4 [(.str []),(.str []),(.str []),(.str [])] 1 [(0,(t 26))])),E (o 28 (.ap false eR 4
 64 false (t 9) (t 27))),P (o 29 (.nc (t 4))),P (fa 30 0 29),P (fa 31 4 30),E (n (.st 1 (t 31) (t 28)))])
def A6:AFn:=⟨Im,32,[],.keep,[],none⟩
def Io:AC:=
 (D [P (m 4 0),P (m 5 0),P (o 6 (.nc (t 5))),P (fa 7 0 6),P (fa 8 5 7),W (ld 9 8),P (m 10 1),P (o 11 (.ias 1 (t 10) (i 0))),W (ld 12 11),P (m 13 1),P (o 14 (.ias 1 (t 13)
 (i 1))),W (ld 15 14),K (k 16 (f jN) [(t 15)]),P (m 17 1),P (o 18 (.sll 1 (t 17) (some (i 2)) none none)),K (k 19 (f za) [(t 18)]),P (o 20 (.bd [(.str []),
 (.str []),(.slice .nil 2 [])] [(0,1),(1,1),(2,1)] [(0,(t 12)),(1,(t 16)),(2,(t 19))])),P (o 21 (.bs 3 [(.str []),(.str []),(.slice .nil 0 [])] 1 [(0,(t 20))])),E (o
 22 (.ap false k7 3 56 false (t 9) (t 21))),P (o 23 (.nc (t 4))),P (fa 24 0 23),P (fa 25 5 24),E (n (.st 1 (t 25) (t 22)))])
def A7:AFn:=⟨Io,26,[],.keep,[],none⟩
def Cz:AFn:=ij.k
def CA:AFn:=iV.k
def iM:AFn:=aT.k
def jf:AFn:=aY.k
def A8:AFn:=jw.k
def xb:AFn:=ik.k
def fZ:AFn:=aE.k
def uA:AFn:=fX.k
def sL:AFn:=dy.k
def rN:AFn:=c9.k
def l8:AFn:=cK.k
def nS:AFn:=da.k
def pV:AFn:=dQ.k
def sM:AFn:=fb.k
def rO:AFn:=ey.k
def j5:AFn:=gY.k
def ko:AFn:=iq.k
def mA:AFn:=cR.k
def JB:AC:=
 (Q (O [mc 2 (i 0),mc 3 (.c .nilif)]) (Q (O [m 7 0,k 8 (f Ao) [(t 7)],m 6 8,ex 9 6 0,ex 10 6 1,m 4 9,m 5 10]) (Q (Q (O [m 11 5,o 12 (.eq true (.ifc true)
 (t 11) (.c .nilif))]) (C 12 (Q (O [m 13 4,m 14 0,m 15 5,k 16 (f G9) [(s [65,116,111,105]),(t 14),(i 0),(i 0),(t 15)],m 2 13,m 3 16]) R) X)) (Q (O [m 17 4,
 m 2 17,mc 3 (.c .nilif)]) R))))
def CB:AFn:=⟨JB,18,[.t 2,.t 3],.keep,[],none⟩
def JC:AC:=
 (Q (O [mc 2 (s [])]) (Q (O [m 3 0,k 4 (f Ap) [(t 3)],m 2 4]) R))
def CC:AFn:=⟨JC,5,[.t 2],.keep,[],none⟩
def KN:AC:=
 (Q (O [mc 4 (s []),mc 5 (s []),mc 6 F]) (Q (O [m 7 0,m 8 1,k 9 (f wH) [(t 7),(t 8)],ex 10 9 0,ex 11 9 1,ex 12 9 2,m 4 10,m 5 11,m 6 12]) R))
def D6:AFn:=⟨KN,13,[.t 4,.t 5,.t 6],.keep,[],none⟩
def kp:AFn:=bW.k
def rP:AFn:=ez.k
def nT:AFn:=db.k
def rQ:AFn:=eA.k
def iW:AFn:=fP.k
def FW:AC:=
 (Q (O [mc 2 (i 0)]) (Q (Q (O [m 3 0,o 4 (.ar .geq (t 3) (.c (.int .u64 4294967296)))]) (C 4 (Q (O [m 5 0,o 6 (.sh .shr (t 5) (.c (.int .u64 32))),m 0 6]) (O [mc 2 (i 32)])) X))
 (Q (Q (O [m 7 0,o 8 (.ar .geq (t 7) (.c (.int .u64 65536)))]) (C 8 (Q (O [m 9 0,o 10 (.sh .shr (t 9) (.c (.int .u64 16))),m 0 10]) (O [m 11 2,o 12 (.ar .add (t 11) (i 16)),m 2
 12])) X)) (Q (Q (O [m 13 0,o 14 (.ar .geq (t 13) (.c (.int .u64 256)))]) (C 14 (Q (O [m 15 0,o 16 (.sh .shr (t 15) (.c (.int .u64 8))),m 0 16]) (O [m 17 2,o 18 (.ar .add (t 17)
 (i 8)),m 2 18])) X)) (Q (O [m 19 2,m 20 0,o 21 (.cvi .u8 (t 20)),o 22 (.ixs (s [0,1,2,2,3,3,3,3,4,4,4,4,4,4,4,4,5,5,5,5,5,5,5,5,5,5,5,5,5,5,5,5,
 6,6,6,6,6,6,6,6,6,6,6,6,6,6,6,6,6,6,6,6,6,6,6,6,6,6,6,6,6,6,6,6,7,7,7,7,7,7,7,7,7,7,7,7,7,7,7,7,7,7,7,7,7,7,7,7,7,7,7,7,
 7,7,7,7,7,7,7,7,7,7,7,7,7,7,7,7,7,7,7,7,7,7,7,7,7,7,7,7,7,7,7,7,7,7,7,7,8,8,8,8,8,8,8,8,8,8,8,8,8,8,8,8,8,8,8,8,8,8,8,8,
 8,8,8,8,8,8,8,8,8,8,8,8,8,8,8,8,8,8,8,8,8,8,8,8,8,8,8,8,8,8,8,8,8,8,8,8,8,8,8,8,8,8,8,8,8,8,8,8,8,8,8,8,8,8,8,8,8,8,8,8,
 8,8,8,8,8,8,8,8,8,8,8,8,8,8,8,8,8,8,8,8,8,8,8,8,8,8,8,8,8,8,8,8,8,8,8,8,8,8,8,8,8,8,8,8]) (t 21)),o 23 (.cvi .i64 (t 22)),o 24 (.ar .add
 (t 19) (t 23)),m 2 24]) R)))))
def xc:AFn:=⟨FW,25,[.t 2],.keep,[],none⟩
def kq:AFn:=bX.k
def o7:AFn:=j4.k
def iB:AFn:=fc.k
def xd:AC:=
 (Q (O [bl 50 49 48]) (Q (C 50 X (.exit 0)) (Q (.block 1 (Q (O [ia 51 1 47 49,ld 52 51,m 8 52]) (Q (O [m 53 8,o 54 (.ar .sub (t 53) (u 48)),m 8 54]) (Q (Q (O [m 55 8,o 56 (.ar
 .gtr (t 55) (u 9))]) (C 56 (Q (O [o 57 (.mi bT (i 2)),mc 2 (i 0),m 3 57]) R) X)) (O [m 58 6,o 59 (.ar .mul (t 58) (i 10)),m 60 8,o 61 (.cvi .i64 (t 60)),o 62 (.ar
 .add (t 59) (t 61)),m 6 62]))))) (O [ad 63 49,m 49 63]))))
def zA:AC:=
 (Q (O [mc 2 (i 0),mc 3 (.c .nilif)]) (Q (O [m 11 0,lt 12 11,m 4 12]) (Q (Q (O [mc 13 F,g 14 13 (.mv (t 4)),g 15 13 (.ar .lss (i 0) (t 14)),g 16 13 (.mv (t 15)),g 17 16 (.mv
 (t 4)),g 18 16 (.ar .lss (t 17) (i 10)),g 19 13 (.pk (t 16) (t 18) F),o 20 (.pk (t 13) (t 19) F),m 21 20,h 22 21 (.mv T),g 23 22 (.mv (t 4)),g 24 22 (.ar .lss (i 0) (t 23)),
 g 25 22 (.mv (t 24)),g 26 25 (.mv (t 4)),g 27 25 (.ar .lss (t 26) (i 19)),g 28 22 (.pk (t 25) (t 27) F),h 29 21 (.pk (t 22) (t 28) F),o 30 (.pk (t 21) T (t 29))]) (C 30 (Q (O
 [m 31 0,m 5 31]) (Q (Q (O [m 32 0,o 33 (.ixs (t 32) (i 0)),o 34 (.ar .eql (t 33) (u 45)),m 35 34,h 36 35 (.mv (t 0)),h 37 35 (.ixs (t 36) (i 0)),h 38 35 (.ar .eql (t 37) (u
 43)),o 39 (.pk (t 35) T (t 38))]) (C 39 (Q (O [m 40 0,o 41 (.sls (t 40) (some (i 1)) none),m 0 41]) (Q (O [m 42 0,lt 43 42,o 44 (.ar .lss (t 43) (i 1))]) (C 44 (Q (O [o 45 (.mi
 bT (i 2)),mc 2 (i 0),m 3 45]) R) X))) X)) (Q (O [mc 6 (i 0)]) (Q (Q (O [m 46 0,o 47 (.cvsb (t 46)),ls 48 47,mc 49 (i 0)]) (.block 0 (.loop ⟨none,[],false⟩
 xd))) (Q (Q (O [m 64 5,o 65 (.ixs (t 64) (i 0)),o 66 (.ar .eql (t 65) (u 45))]) (C 66 (O [m 67 6,o 68 (.un .neg (t 67)),m 6 68]) X)) (Q (O [m 69 6,m 2
 69,mc 3 (.c .nilif)]) R)))))) X)) (Q (O [m 71 0,k 72 (f vE) [(t 71),(i 10),(i 0)],m 70 72,ex 73 70 0,ex 74 70 1,m 9 73,m 10 74]) (Q (O [m 75 9,m
 76 10,m 2 75,m 3 76]) R)))))
def qF:AFn:=⟨zA,77,[.t 2,.t 3],.keep,[],none⟩
def FX:AC:=
 (Q (O [mc 10 (.c .nilif)]) (Q (Q (O [m 11 4]) (.block 0 (Q (O [o 13 (.mi bT (i 2)),o 14 (.eq false (.ifc false) (t 11) (t 13)),m 12 14]) (C 12 (Q (O [m 15 0,m 16 1,
 k 17 (f CL) [(t 15),(t 16)],o 18 (.mi kL (t 17)),m 10 18]) R) (Q (O [o 20 (.mi bT (i 1)),o 21 (.eq false (.ifc false) (t 11) (t
 20)),m 19 21]) (C 19 (Q (O [m 22 0,m 23 1,k 24 (f DH) [(t 22),(t 23)],o 25 (.mi kL (t 24)),m 10 25]) R) (Q (O [o 27 (.mi bT (i
 3)),o 28 (.eq false (.ifc false) (t 11) (t 27)),m 26 28]) (C 26 (Q (O [m 29 0,m 30 1,m 31 2,k 32 (f EM) [(t 29),(t 30),(t 31)],o 33 (.mi
 kL (t 32)),m 10 33]) R) (Q (O [o 35 (.mi bT (i 4)),o 36 (.eq false (.ifc false) (t 11) (t 35)),m 34 36]) (C 34 (Q (O [m 37 0,m 38 1,m 39 3,k 40
 (f BH) [(t 37),(t 38),(t 39)],o 41 (.mi kL (t 40)),m 10 41]) R) X)))))))))) (Q (O [m 42 4,m 10 42]) R)))
def xf:AFn:=⟨FX,43,[.t 10],.keep,[],none⟩
def zB:AC:=
 (Q (O [mc 2 (s [])]) (Q (O [m 3 0,k 4 (f uU) [(t 3),(i 10)],m 2 4]) R))
def qG:AFn:=⟨zB,5,[.t 2],.keep,[],none⟩
def vI:AC:=
 (Q (O [mc 4 (s []),mc 5 (s []),mc 6 F]) (Q (Q (O [m 8 0,m 9 1,k 10 (f gx) [(t 8),(t 9)],m 7 10]) (Q (O [m 11 7,o 12 (.ar .geq (t 11) (i 0))]) (C 12
 (Q (D [P (m 13 0),P (m 14 7),P (o 15 (.sls (t 13) none (some (t 14)))),P (m 16 0),P (m 17 7),P (m 18 1),W (lt 19 18),P (o 20 (.ar .add (t 17) (t 19))),P (o 21 (.sls (t 16)
 (some (t 20)) none)),P (m 4 15),P (m 5 21),P (mc 6 T)]) R) X))) (Q (O [m 22 0,m 4 22,mc 5 (s []),mc 6 F]) R)))
def o8:AFn:=⟨vI,23,[.t 4,.t 5,.t 6],.keep,[],none⟩
def uB:AFn:=fY.k
def j6:AFn:=gZ.k
def vh:AC:=
 (Q (O [mc 6 (i 0),mc 7 (.c .nilif)]) (Q (Q (O [m 12 0,o 13 (.ar .eql (t 12) (s []))]) (C 13 (Q (O [o 14 (.mi bT (i 2)),mc 6 (i 0),m 7 14]) R) X)) (Q (O [mc 8 F]) (Q
 (Q (O [m 15 0,o 16 (.ixs (t 15) (i 0))]) (.block 0 (Q (O [o 18 (.ar .eql (t 16) (u 43)),m 17 18]) (C 17 (O [m 19 0,o 20 (.sls (t 19) (some (i 1)) none),m 0 20]) (Q (O [o 22 (.ar
 .eql (t 16) (u 45)),m 21 22]) (C 21 (Q (O [m 23 0,o 24 (.sls (t 23) (some (i 1)) none),m 0 24]) (O [mc 8 T])) X)))))) (Q (O [mc 9 (.c (.int .u64 0))]) (Q (O [m 26 0,m 27 1,m 28
 2,k 29 (f uV) [(t 26),(t 27),(t 28)],m 25 29,ex 30 25 0,ex 31 25 1,m 9 30,m 7 31]) (Q (Q (O [m 32 7,o 33 (.eq true (.ifc true) (t 32) (.c
 .nilif)),m 34 33,g 35 34 (.mv (t 7)),g 36 34 (.mi bT (i 1)),g 37 34 (.eq true (.ifc false) (t 35) (t 36)),o 38 (.pk (t 34) (t 37) F)]) (C 38 (Q (O [m 39 7,mc 6 (i
 0),m 7 39]) R) X)) (Q (Q (O [m 40 2,o 41 (.ar .eql (t 40) (i 0))]) (C 41 (O [mc 2 (i 64)]) X)) (Q (O [m 42 2,o 43 (.ar .sub (t 42) (i 1)),o 44 (.cvi .u64 (t 43)),o 45 (.sh .shl
 (.c (.int .u64 1)) (t 44)),m 10 45]) (Q (Q (O [m 46 8,no 47 46,m 48 47,g 49 48 (.mv (t 9)),g 50 48 (.mv (t 10)),g 51 48 (.ar .geq (t 49) (t 50)),o 52 (.pk (t 48) (t 51) F)])
 (C 52 (Q (O [m 53 10,o 54 (.ar .sub (t 53) (.c (.int .u64 1))),o 55 (.cvi .i64 (t 54)),o 56 (.mi bT (i 1)),m 6 55,m 7 56]) R) X)) (Q (Q (O [m 57 8,m 58 57,g 59
 58 (.mv (t 9)),g 60 58 (.mv (t 10)),g 61 58 (.ar .gtr (t 59) (t 60)),o 62 (.pk (t 58) (t 61) F)]) (C 62 (Q (O [m 63 10,o 64 (.cvi .i64 (t 63)),o 65 (.un .neg (t 64)),o 66 (.mi
 bT (i 1)),m 6 65,m 7 66]) R) X)) (Q (O [m 67 9,o 68 (.cvi .i64 (t 67)),m 11 68]) (Q (Q (O [m 69 8]) (C 69 (O [m 70 11,o 71 (.un .neg (t 70)),m 11 71]) X)) (Q (O
 [m 72 11,m 6 72,mc 7 (.c .nilif)]) R))))))))))))))
def nU:AFn:=⟨vh,73,[.t 6,.t 7],.keep,[],none⟩
def B5:AC:=
 (Q (O [mc 4 (.c .nilp)]) (Q (D [P (m 5 0),P (m 6 1),W (o 8 (.ld none (.c .unk))),K (k 7 (f gy) [(t 6)]),P (o 9 (.bd [(.str []),(.str []),.nilif] [(0,
 1),(1,1),(2,1)] [(0,(t 5)),(1,(t 7)),(2,(t 8))])),K (o 10 (.bx mP (t 9))),P (m 4 10)]) R))
def sN:AFn:=⟨B5,11,[.t 4],.keep,[],none⟩
def CZ:AC:=
 (Q (O [mc 4 (.c .nilp)]) (Q (D [P (m 5 0),P (m 6 1),W (o 8 (.ld none (.c .unk))),K (k 7 (f gy) [(t 6)]),P (o 9 (.bd [(.str []),(.str []),.nilif] [(0,
 1),(1,1),(2,1)] [(0,(t 5)),(1,(t 7)),(2,(t 8))])),K (o 10 (.bx mP (t 9))),P (m 4 10)]) R))
def tC:AFn:=⟨CZ,11,[.t 4],.keep,[],none⟩
def D7:AC:=
 (Q (O [mc 6 (.c .nilp)]) (Q (O [m 7 0,m 8 1,k 9 (f gy) [(t 8)],m 10 2,k 11 (f wF) [(t 10)],o 12 (.ar .add (s [105,110,118,97,108,105,
 100,32,98,97,115,101,32]) (t 11)),k 13 (f Ha) [(t 12)],o 14 (.bd [(.str []),(.str []),.nilif] [(0,1),(1,1),(2,1)] [(0,(t 7)),(1,(t 9)),(2,(t 13))]),o
 15 (.bx mP (t 14)),m 6 15]) R))
def uC:AFn:=⟨D7,16,[.t 6],.keep,[],none⟩
def A9:AC:=
 (Q (O [mc 6 (.c .nilp)]) (Q (O [m 7 0,m 8 1,k 9 (f gy) [(t 8)],m 10 2,k 11 (f wF) [(t 10)],o 12 (.ar .add (s [105,110,118,97,108,105,
 100,32,98,105,116,32,115,105,122,101,32]) (t 11)),k 13 (f Ha) [(t 12)],o 14 (.bd [(.str []),(.str []),.nilif] [(0,1),(1,1),(2,1)] [(0,(t 7)),(1,(t
 9)),(2,(t 13))]),o 15 (.bx mP (t 14)),m 6 15]) R))
def rR:AFn:=⟨A9,16,[.t 6],.keep,[],none⟩
def uD:AC:=
 (Q (O [mc 4 (s [])]) (Q (Q (O [m 10 1,o 11 (.ar .eql (t 10) (i 10))]) (C 11 (Q (Q (O [m 12 0,o 13 (.ar .leq (i 0) (t 12)),m 14 13,g 15 14 (.mv (t 0)),g 16 14 (.ar .lss (t 15)
 (i 100)),o 17 (.pk (t 14) (t 16) F)]) (C 17 (Q (O [m 18 0,k 19 (f zb) [(t 18)],m 4 19]) R) X)) (Q (O [o 5 (.nw [(.int .u8 0),(.int .u8 0),(.int .u8 0),
 (.int .u8 0),(.int .u8 0),(.int .u8 0),(.int .u8 0),(.int .u8 0),(.int .u8 0),(.int .u8 0),(.int .u8 0),(.int .u8 0),(.int .u8 0),(.int .u8 0),(.int .u8 0),(.int .u8 0),
 (.int .u8 0),(.int .u8 0),(.int .u8 0),(.int .u8 0),(.int .u8 0),(.int .u8 0),(.int .u8 0),(.int .u8 0)] QF)]) (Q (O [m 20 0,o 21 (.cvi .u64 (t 20)),m 6 21]) (Q (Q
 (O [m 22 0,o 23 (.ar .lss (t 22) (i 0))]) (C 23 (O [m 24 6,o 25 (.un .neg (t 24)),m 6 25]) X)) (Q (O [m 26 6,k 27 (f uW) [(t 26)],m 7 27]) (Q (O [m 28
 7,o 29 (.ar .add (i 1) (t 28)),o 30 (.sla 24 1 (t 5) (some (i 1)) (some (t 29))),m 31 6,k 32 (f s9) [(t 30),(t 31)]]) (Q (Q (O [m 33 0,o 34 (.ar
 .lss (t 33) (i 0))]) (C 34 (Q (O [o 35 (.iaa 24 1 (t 5) (i 0)),n (.st 1 (t 35) (u 45))]) (Q (O [m 36 7,o 37 (.ar .add (i 1) (t 36)),o 38 (.sla 24 1 (t 5) none (some (t 37))),o
 39 (.cvbs (t 38)),m 4 39]) R)) X)) (Q (O [m 40 7,o 41 (.ar .add (i 1) (t 40)),o 42 (.sla 24 1 (t 5) (some (i 1)) (some (t 41))),o 43 (.cvbs (t 42)),m 4 43]) R)))))))) X)) (Q (O
 [m 45 0,o 46 (.cvi .u64 (t 45)),m 47 1,m 48 0,o 49 (.ar .lss (t 48) (i 0)),k 50 (f ux) [(.c (.slice .nil 1 [])),(t 46),(t 47),(t 49),F],m 44 50,
 ex 51 44 0,ex 52 44 1,m 8 51,m 9 52]) (Q (O [m 53 9,m 4 53]) R))))
def mB:AFn:=⟨uD,54,[.t 4],.keep,[],none⟩
def th:AC:=
 (Q (O [bl 102 101 100]) (Q (C 102 X (.exit 3)) (Q (.block 4 (Q (O [ia 103 1 99 101,ld 104 103,m 15 104]) (Q (O [mc 16 (u 0)]) (Q (.block 5 (Q (O [m 107 15,o 108 (.ar .eql (t 107)
 (u 95)),m 109 108,g 110 109 (.mv (t 8)),o 111 (.pk (t 109) (t 110) F),m 106 111]) (C 106 (Q (O [mc 12 T]) (.exit 4)) (Q (O [m 113 15,o 114 (.ar .leq (u 48) (t 113)),m 115 114,
 g 116 115 (.mv (t 15)),g 117 115 (.ar .leq (t 116) (u 57)),o 118 (.pk (t 115) (t 117) F),m 112 118]) (C 112 (O [m 119 15,o 120 (.ar .sub (t 119) (u 48)),m 16 120]) (Q (O [m 122
 15,k 123 (f bD) [(t 122)],o 124 (.ar .leq (u 97) (t 123)),m 125 124,g 126 125 (.mv (t 15)),⟨(some 127),(some (125,true)),(.call (.c (.fn (.func
 bD) [] [])) [(.t 126)])⟩,g 128 125 (.ar .leq (t 127) (u 122)),o 129 (.pk (t 125) (t 128) F),m 121 129]) (C 121 (O [m 130 15,k 131 (f
 bD) [(t 130)],o 132 (.ar .sub (t 131) (u 97)),o 133 (.ar .add (t 132) (u 10)),m 16 133]) (Q (O [o 105 (.mi bT (i 2)),mc 6 (.c (.int .u64 0)),
 m 7 105]) R)))))))) (Q (Q (O [m 134 16,m 135 1,o 136 (.cvi .u8 (t 135)),o 137 (.ar .geq (t 134) (t 136))]) (C 137 (Q (O [o 138 (.mi bT (i 2)),mc 6 (.c (.int .u64
 0)),m 7 138]) R) X)) (Q (Q (O [m 139 13,m 140 10,o 141 (.ar .geq (t 139) (t 140))]) (C 141 (Q (O [m 142 11,o 143 (.mi bT (i 1)),m 6 142,m 7 143]) R) X)) (Q (O [m
 144 13,m 145 1,o 146 (.cvi .u64 (t 145)),o 147 (.ar .mul (t 144) (t 146)),m 13 147]) (Q (O [m 148 13,m 149 16,o 150 (.cvi .u64 (t 149)),o 151 (.ar .add (t 148) (t 150)),m 17
 151]) (Q (Q (O [m 152 17,m 153 13,bl 154 152 153,m 155 154,h 156 155 (.mv (t 17)),h 157 155 (.mv (t 11)),h 158 155 (.ar .gtr (t 156) (t 157)),o 159 (.pk (t 155) T (t 158))])
 (C 159 (Q (O [m 160 11,o 161 (.mi bT (i 1)),m 6 160,m 7 161]) R) X)) (O [m 162 17,m 13 162])))))))))) (O [ad 163 101,m 101 163]))))
def uE:AC:=
 (Q (O [mc 6 (.c (.int .u64 0)),mc 7 (.c .nilif)]) (Q (Q (O [m 18 0,o 19 (.ar .eql (t 18) (s []))]) (C 19 (Q (O [o 20 (.mi bT (i 2)),mc 6 (.c (.int .u64 0)),m 7 20])
 R) X)) (Q (O [m 21 1,o 22 (.ar .eql (t 21) (i 0)),m 8 22]) (Q (O [m 23 0,m 9 23]) (Q (.block 0 (Q (O [m 26 1,o 27 (.ar .leq (i 2) (t 26)),m 28 27,g 29 28 (.mv (t 1)),g 30 28
 (.ar .leq (t 29) (i 36)),o 31 (.pk (t 28) (t 30) F),m 25 31]) (C 25 X (Q (O [m 33 1,o 34 (.ar .eql (t 33) (i 0)),m 32 34]) (C 32 (Q (O [mc 1 (i 10)]) (Q (O [m 35 0,o 36 (.ixs
 (t 35) (i 0)),o 37 (.ar .eql (t 36) (u 48))]) (C 37 (.block 1 (Q (O [m 41 0,lt 42 41,o 43 (.ar .geq (t 42) (i 3)),m 44 43,g 45 44 (.mv (t 0)),g 46 44 (.ixs (t 45) (i 1)),
 ⟨(some 47),(some (44,true)),(.call (.c (.fn (.func bD) [] [])) [(.t 46)])⟩,g 48 44 (.ar .eql (t 47) (u 98)),o 49 (.pk (t 44) (t 48) F),m 40 49]) (C 40 (Q
 (O [mc 1 (i 2)]) (O [m 50 0,o 51 (.sls (t 50) (some (i 2)) none),m 0 51])) (Q (O [m 53 0,lt 54 53,o 55 (.ar .geq (t 54) (i 3)),m 56 55,g 57 56 (.mv (t 0)),g 58 56 (.ixs (t
 57) (i 1)),⟨(some 59),(some (56,true)),(.call (.c (.fn (.func bD) [] [])) [(.t 58)])⟩,g 60 56 (.ar .eql (t 59) (u 111)),o 61 (.pk (t 56) (t 60) F),m 52
 61]) (C 52 (Q (O [mc 1 (i 8)]) (O [m 62 0,o 63 (.sls (t 62) (some (i 2)) none),m 0 63])) (Q (O [m 65 0,lt 66 65,o 67 (.ar .geq (t 66) (i 3)),m 68 67,g 69 68 (.mv (t 0)),g 70
 68 (.ixs (t 69) (i 1)),⟨(some 71),(some (68,true)),(.call (.c (.fn (.func bD) [] [])) [(.t 70)])⟩,g 72 68 (.ar .eql (t 71) (u 120)),o 73 (.pk (t 68) (t
 72) F),m 64 73]) (C 64 (Q (O [mc 1 (i 16)]) (O [m 74 0,o 75 (.sls (t 74) (some (i 2)) none),m 0 75])) (Q (O [mc 1 (i 8)]) (O [m 38 0,o 39 (.sls (t 38) (some (i 1)) none),m 0
 39]))))))))) X))) (Q (O [o 24 (.mi bT (i 3)),mc 6 (.c (.int .u64 0)),m 7 24]) R)))))) (Q (Q (O [m 76 2,o 77 (.ar .eql (t 76) (i 0))]) (C 77 (O [mc 2 (i 64)]) (Q (O
 [m 78 2,o 79 (.ar .lss (t 78) (i 0)),m 80 79,h 81 80 (.mv (t 2)),h 82 80 (.ar .gtr (t 81) (i 64)),o 83 (.pk (t 80) T (t 82))]) (C 83 (Q (O [o 84 (.mi bT (i 4)),mc
 6 (.c (.int .u64 0)),m 7 84]) R) X)))) (Q (O [mc 10 (.c (.int .u64 0))]) (Q (Q (O [m 85 1]) (.block 2 (Q (O [o 91 (.ar .eql (t 85) (i 10)),m 90 91]) (C 90 (O [mc 10 (.c (.int .u64
 1844674407370955162))]) (Q (O [o 93 (.ar .eql (t 85) (i 16)),m 92 93]) (C 92 (O [mc 10 (.c (.int .u64 1152921504606846976))]) (O [m 86 1,o 87 (.cvi .u64 (t 86)),o 88 (.ar .quo
 (.c (.int .u64 18446744073709551615)) (t 87)),o 89 (.ar .add (t 88) (.c (.int .u64 1))),m 10 89]))))))) (Q (O [m 94 2,o 95 (.cvi .u64 (t 94)),o 96 (.sh .shl (.c (.int .u64 1))
 (t 95)),o 97 (.ar .sub (t 96) (.c (.int .u64 1))),m 11 97]) (Q (O [mc 12 F]) (Q (O [mc 13 (.c (.int .u64 0))]) (Q (Q (O [m 98 0,o 99 (.cvsb (t 98)),ls 100 99,mc 101 (i 0)])
 (.block 3 (.loop ⟨none,[],false⟩ th))) (Q (Q (O [m 164 12,m 165 164,g 166 165 (.mv (t 9)),⟨(some 167),(some (165,true)),(.call (.c (.fn (.func
 tc) [] [])) [(.t 166)])⟩,g 168 165 (.un .not (t 167)),o 169 (.pk (t 165) (t 168) F)]) (C 169 (Q (O [o 170 (.mi bT (i 2)),mc 6 (.c (.int
 .u64 0)),m 7 170]) R) X)) (Q (O [m 171 13,m 6 171,mc 7 (.c .nilif)]) R))))))))))))))
def mC:AFn:=⟨uE,172,[.t 6,.t 7],.keep,[],none⟩
def uF:AC:=
 (Q (O [mc 2 (s [])]) (Q (Q (O [m 4 0,lt 5 4,o 6 (.ar .eql (t 5) (i 0))]) (C 6 (Q (O [mc 2 (s [])]) R) X)) (Q (O [m 7 0,lt 8 7,o 9 (.ms dF 1 [(.int .u8 0)] (t 8) (t 8)),m 3
 9]) (Q (O [m 10 3,m 11 0,o 12 (.cp 1 true (t 10) (t 11))]) (Q (O [m 13 3,o 14 (.ias 1 (t 13) (i 0)),m 15 3,ls 16 15,o 17 (.ust dF (t 14) (t 16)),m 2 17]) R)))))
def mD:AFn:=⟨uF,18,[.t 2],.keep,[],none⟩
def Mc:AC:=
 (Q (O [mc 2 (.c .nilif)]) (Q (O [m 3 0,o 4 (.bd [(.str [])] [(0,1)] [(0,(t 3))]),o 5 (.bx DI (t 4)),o 6 (.mi BI (t 5)),m 2 6]) R))
def FG:AFn:=⟨Mc,7,[.t 2],.keep,[],none⟩
def x6:AC:=
 (Q (O [mc 2 (s [])]) (Q (Q (O [m 3 0,o 4 (.ar .lss (t 3) (i 10))]) (C 4 (Q (O [m 5 0,m 6 0,ad 7 6,o 8 (.sls (s [48,49,50,51,52,53,54,55,56,57,97,98,99,100,101,
 102,103,104,105,106,107,108,109,110,111,112,113,114,115,116,117,118,119,120,121,122]) (some (t 5)) (some (t 7))),m 2 8]) R) X)) (Q (O [m 9 0,o 10 (.ar .mul (t
 9) (i 2)),m 11 0,o 12 (.ar .mul (t 11) (i 2)),o 13 (.ar .add (t 12) (i 2)),o 14 (.sls (s [48,48,48,49,48,50,48,51,48,52,48,53,48,54,48,55,48,56,48,57,49,48,
 49,49,49,50,49,51,49,52,49,53,49,54,49,55,49,56,49,57,50,48,50,49,50,50,50,51,50,52,50,53,50,54,50,55,50,56,50,57,51,48,51,49,51,50,51,
 51,51,52,51,53,51,54,51,55,51,56,51,57,52,48,52,49,52,50,52,51,52,52,52,53,52,54,52,55,52,56,52,57,53,48,53,49,53,50,53,51,53,52,53,53,
 53,54,53,55,53,56,53,57,54,48,54,49,54,50,54,51,54,52,54,53,54,54,54,55,54,56,54,57,55,48,55,49,55,50,55,51,55,52,55,53,55,54,55,55,55,
 56,55,57,56,48,56,49,56,50,56,51,56,52,56,53,56,54,56,55,56,56,56,57,57,48,57,49,57,50,57,51,57,52,57,53,57,54,57,55,57,56,57,57]) (some (t
 10)) (some (t 13))),m 2 14]) R)))
def pW:AFn:=⟨x6,15,[.t 2],.keep,[],none⟩
def uG:AC:=
 (Q (O [mc 2 (i 0)]) (Q (O [m 4 0,k 5 (f G8) [(t 4)],k 6 (f uX) [(t 5)],m 3 6]) (Q (O [m 7 3,m 8 0,m 9 3,o 10 (.iaa 20 1 (.c .unk) (t
 9)),ld 11 10,o 12 (.ar .geq (t 8) (t 11)),k 13 (f uY) [(t 12)],o 14 (.ar .add (t 7) (t 13)),m 2 14]) R)))
def mE:AFn:=⟨uG,15,[.t 2],.keep,[],none⟩
def rm:AC:=
 (Q (Q (O [m 19 4,o 20 (.ar .geq (t 19) (i 8))]) (C 20 X (.exit 0))) (.block 1 (Q (O [m 21 1,o 22 (.ar .rem (t 21) (.c (.int .u64 100000000))),o 23 (.cvi .u32 (t 22)),m 5 23]) (Q
 (O [m 24 1,o 25 (.ar .quo (t 24) (.c (.int .u64 100000000))),m 1 25]) (Q (O [m 26 5,o 27 (.ar .quo (t 26) (.c (.int .u32 10000))),m 28 5,o 29 (.ar .rem (t 28) (.c (.int .u32
 10000))),m 6 27,m 7 29]) (Q (O [m 30 7,o 31 (.ar .quo (t 30) (.c (.int .u32 100))),o 32 (.ar .mul (t 31) (.c (.int .u32 2))),m 33 7,o 34 (.ar .rem (t 33) (.c (.int .u32
 100))),o 35 (.ar .mul (t 34) (.c (.int .u32 2))),m 8 32,m 9 35]) (Q (O [m 36 6,o 37 (.ar .quo (t 36) (.c (.int .u32 100))),o 38 (.ar .mul (t 37) (.c (.int .u32 2))),m 39 6,o
 40 (.ar .rem (t 39) (.c (.int .u32 100))),o 41 (.ar .mul (t 40) (.c (.int .u32 2))),m 10 38,m 11 41]) (Q (D [P (m 42 0),P (m 43 4),P (o 44 (.ar .sub (t 43) (i 1))),P (m 45 0),
 P (m 46 4),P (o 47 (.ar .sub (t 46) (i 2))),P (m 48 9),P (o 49 (.ar .add (t 48) (.c (.int .u32 1)))),P (o 50 (.ixs (s [48,48,48,49,48,50,48,51,48,52,48,53,48,54,
 48,55,48,56,48,57,49,48,49,49,49,50,49,51,49,52,49,53,49,54,49,55,49,56,49,57,50,48,50,49,50,50,50,51,50,52,50,53,50,54,50,55,50,56,50,
 57,51,48,51,49,51,50,51,51,51,52,51,53,51,54,51,55,51,56,51,57,52,48,52,49,52,50,52,51,52,52,52,53,52,54,52,55,52,56,52,57,53,48,53,49,
 53,50,53,51,53,52,53,53,53,54,53,55,53,56,53,57,54,48,54,49,54,50,54,51,54,52,54,53,54,54,54,55,54,56,54,57,55,48,55,49,55,50,55,51,55,
 52,55,53,55,54,55,55,55,56,55,57,56,48,56,49,56,50,56,51,56,52,56,53,56,54,56,55,56,56,56,57,57,48,57,49,57,50,57,51,57,52,57,53,57,54,
 57,55,57,56,57,57]) (t 49))),P (m 51 9),P (o 52 (.ixs (s [48,48,48,49,48,50,48,51,48,52,48,53,48,54,48,55,48,56,48,57,49,48,49,49,49,50,49,51,49,
 52,49,53,49,54,49,55,49,56,49,57,50,48,50,49,50,50,50,51,50,52,50,53,50,54,50,55,50,56,50,57,51,48,51,49,51,50,51,51,51,52,51,53,51,54,
 51,55,51,56,51,57,52,48,52,49,52,50,52,51,52,52,52,53,52,54,52,55,52,56,52,57,53,48,53,49,53,50,53,51,53,52,53,53,53,54,53,55,53,56,53,
 57,54,48,54,49,54,50,54,51,54,52,54,53,54,54,54,55,54,56,54,57,55,48,55,49,55,50,55,51,55,52,55,53,55,54,55,55,55,56,55,57,56,48,56,49,
 56,50,56,51,56,52,56,53,56,54,56,55,56,56,56,57,57,48,57,49,57,50,57,51,57,52,57,53,57,54,57,55,57,56,57,57]) (t 51))),P (ia 53 1 42 44),E (n
 (.st 1 (t 53) (t 50))),P (ia 54 1 45 47),E (n (.st 1 (t 54) (t 52)))]) (Q (D [P (m 55 0),P (m 56 4),P (o 57 (.ar .sub (t 56) (i 3))),P (m 58 0),P (m 59 4),P (o 60 (.ar .sub
 (t 59) (i 4))),P (m 61 8),P (o 62 (.ar .add (t 61) (.c (.int .u32 1)))),P (o 63 (.ixs (s [48,48,48,49,48,50,48,51,48,52,48,53,48,54,48,55,48,56,48,57,49,48,
 49,49,49,50,49,51,49,52,49,53,49,54,49,55,49,56,49,57,50,48,50,49,50,50,50,51,50,52,50,53,50,54,50,55,50,56,50,57,51,48,51,49,51,50,51,
 51,51,52,51,53,51,54,51,55,51,56,51,57,52,48,52,49,52,50,52,51,52,52,52,53,52,54,52,55,52,56,52,57,53,48,53,49,53,50,53,51,53,52,53,53,
 53,54,53,55,53,56,53,57,54,48,54,49,54,50,54,51,54,52,54,53,54,54,54,55,54,56,54,57,55,48,55,49,55,50,55,51,55,52,55,53,55,54,55,55,55,
 56,55,57,56,48,56,49,56,50,56,51,56,52,56,53,56,54,56,55,56,56,56,57,57,48,57,49,57,50,57,51,57,52,57,53,57,54,57,55,57,56,57,57]) (t
 62))),P (m 64 8),P (o 65 (.ixs (s [48,48,48,49,48,50,48,51,48,52,48,53,48,54,48,55,48,56,48,57,49,48,49,49,49,50,49,51,49,52,49,53,49,54,49,55,
 49,56,49,57,50,48,50,49,50,50,50,51,50,52,50,53,50,54,50,55,50,56,50,57,51,48,51,49,51,50,51,51,51,52,51,53,51,54,51,55,51,56,51,57,52,
 48,52,49,52,50,52,51,52,52,52,53,52,54,52,55,52,56,52,57,53,48,53,49,53,50,53,51,53,52,53,53,53,54,53,55,53,56,53,57,54,48,54,49,54,50,
 54,51,54,52,54,53,54,54,54,55,54,56,54,57,55,48,55,49,55,50,55,51,55,52,55,53,55,54,55,55,55,56,55,57,56,48,56,49,56,50,56,51,56,52,56,
 53,56,54,56,55,56,56,56,57,57,48,57,49,57,50,57,51,57,52,57,53,57,54,57,55,57,56,57,57]) (t 64))),P (ia 66 1 55 57),E (n (.st 1 (t 66) (t 63))),P (ia
 67 1 58 60),E (n (.st 1 (t 67) (t 65)))]) (Q (D [P (m 68 0),P (m 69 4),P (o 70 (.ar .sub (t 69) (i 5))),P (m 71 0),P (m 72 4),P (o 73 (.ar .sub (t 72) (i 6))),P (m 74 11),P
 (o 75 (.ar .add (t 74) (.c (.int .u32 1)))),P (o 76 (.ixs (s [48,48,48,49,48,50,48,51,48,52,48,53,48,54,48,55,48,56,48,57,49,48,49,49,49,50,49,51,49,
 52,49,53,49,54,49,55,49,56,49,57,50,48,50,49,50,50,50,51,50,52,50,53,50,54,50,55,50,56,50,57,51,48,51,49,51,50,51,51,51,52,51,53,51,54,
 51,55,51,56,51,57,52,48,52,49,52,50,52,51,52,52,52,53,52,54,52,55,52,56,52,57,53,48,53,49,53,50,53,51,53,52,53,53,53,54,53,55,53,56,53,
 57,54,48,54,49,54,50,54,51,54,52,54,53,54,54,54,55,54,56,54,57,55,48,55,49,55,50,55,51,55,52,55,53,55,54,55,55,55,56,55,57,56,48,56,49,
 56,50,56,51,56,52,56,53,56,54,56,55,56,56,56,57,57,48,57,49,57,50,57,51,57,52,57,53,57,54,57,55,57,56,57,57]) (t 75))),P (m 77 11),P (o 78 (.ixs
 (s [48,48,48,49,48,50,48,51,48,52,48,53,48,54,48,55,48,56,48,57,49,48,49,49,49,50,49,51,49,52,49,53,49,54,49,55,49,56,49,57,50,48,50,49,
 50,50,50,51,50,52,50,53,50,54,50,55,50,56,50,57,51,48,51,49,51,50,51,51,51,52,51,53,51,54,51,55,51,56,51,57,52,48,52,49,52,50,52,51,52,
 52,52,53,52,54,52,55,52,56,52,57,53,48,53,49,53,50,53,51,53,52,53,53,53,54,53,55,53,56,53,57,54,48,54,49,54,50,54,51,54,52,54,53,54,54,
 54,55,54,56,54,57,55,48,55,49,55,50,55,51,55,52,55,53,55,54,55,55,55,56,55,57,56,48,56,49,56,50,56,51,56,52,56,53,56,54,56,55,56,56,56,
 57,57,48,57,49,57,50,57,51,57,52,57,53,57,54,57,55,57,56,57,57]) (t 77))),P (ia 79 1 68 70),E (n (.st 1 (t 79) (t 76))),P (ia 80 1 71 73),E (n (.st 1 (t 80)
 (t 78)))]) (Q (D [P (m 81 0),P (m 82 4),P (o 83 (.ar .sub (t 82) (i 7))),P (m 84 0),P (m 85 4),P (o 86 (.ar .sub (t 85) (i 8))),P (m 87 10),P (o 88 (.ar .add (t 87) (.c (.int
 .u32 1)))),P (o 89 (.ixs (s [48,48,48,49,48,50,48,51,48,52,48,53,48,54,48,55,48,56,48,57,49,48,49,49,49,50,49,51,49,52,49,53,49,54,49,55,49,56,
 49,57,50,48,50,49,50,50,50,51,50,52,50,53,50,54,50,55,50,56,50,57,51,48,51,49,51,50,51,51,51,52,51,53,51,54,51,55,51,56,51,57,52,48,52,
 49,52,50,52,51,52,52,52,53,52,54,52,55,52,56,52,57,53,48,53,49,53,50,53,51,53,52,53,53,53,54,53,55,53,56,53,57,54,48,54,49,54,50,54,51,
 54,52,54,53,54,54,54,55,54,56,54,57,55,48,55,49,55,50,55,51,55,52,55,53,55,54,55,55,55,56,55,57,56,48,56,49,56,50,56,51,56,52,56,53,56,
 54,56,55,56,56,56,57,57,48,57,49,57,50,57,51,57,52,57,53,57,54,57,55,57,56,57,57]) (t 88))),P (m 90 10),P (o 91 (.ixs (s [48,48,48,49,48,50,48,51,
 48,52,48,53,48,54,48,55,48,56,48,57,49,48,49,49,49,50,49,51,49,52,49,53,49,54,49,55,49,56,49,57,50,48,50,49,50,50,50,51,50,52,50,53,50,
 54,50,55,50,56,50,57,51,48,51,49,51,50,51,51,51,52,51,53,51,54,51,55,51,56,51,57,52,48,52,49,52,50,52,51,52,52,52,53,52,54,52,55,52,56,
 52,57,53,48,53,49,53,50,53,51,53,52,53,53,53,54,53,55,53,56,53,57,54,48,54,49,54,50,54,51,54,52,54,53,54,54,54,55,54,56,54,57,55,48,55,
 49,55,50,55,51,55,52,55,53,55,54,55,55,55,56,55,57,56,48,56,49,56,50,56,51,56,52,56,53,56,54,56,55,56,56,56,57,57,48,57,49,57,50,57,51,
 57,52,57,53,57,54,57,55,57,56,57,57]) (t 90))),P (ia 92 1 81 83),E (n (.st 1 (t 92) (t 89))),P (ia 93 1 84 86),E (n (.st 1 (t 93) (t 91)))]) (O [m 94 4,o 95 (.ar
 .sub (t 94) (i 8)),m 4 95]))))))))))))
def sO:AC:=
 (Q (O [m 17 0,ls 18 17,m 4 18]) (Q (.block 0 (.loop ⟨none,[],false⟩ rm)) (Q (O [m 96 1,o 97 (.cvi .u32 (t 96)),m 12 97]) (Q (Q (O [m 98 4,o 99
 (.ar .geq (t 98) (i 4))]) (C 99 (Q (O [m 100 12,o 101 (.ar .rem (t 100) (.c (.int .u32 10000))),m 13 101]) (Q (O [m 102 12,o 103 (.ar .quo (t 102) (.c (.int .u32 10000))),m 12
 103]) (Q (O [m 104 13,o 105 (.ar .quo (t 104) (.c (.int .u32 100))),o 106 (.ar .mul (t 105) (.c (.int .u32 2))),m 107 13,o 108 (.ar .rem (t 107) (.c (.int .u32 100))),o 109
 (.ar .mul (t 108) (.c (.int .u32 2))),m 14 106,m 15 109]) (Q (D [P (m 110 0),P (m 111 4),P (o 112 (.ar .sub (t 111) (i 1))),P (m 113 0),P (m 114 4),P (o 115 (.ar .sub (t 114)
 (i 2))),P (m 116 15),P (o 117 (.ar .add (t 116) (.c (.int .u32 1)))),P (o 118 (.ixs (s [48,48,48,49,48,50,48,51,48,52,48,53,48,54,48,55,48,56,48,57,49,48,
 49,49,49,50,49,51,49,52,49,53,49,54,49,55,49,56,49,57,50,48,50,49,50,50,50,51,50,52,50,53,50,54,50,55,50,56,50,57,51,48,51,49,51,50,51,
 51,51,52,51,53,51,54,51,55,51,56,51,57,52,48,52,49,52,50,52,51,52,52,52,53,52,54,52,55,52,56,52,57,53,48,53,49,53,50,53,51,53,52,53,53,
 53,54,53,55,53,56,53,57,54,48,54,49,54,50,54,51,54,52,54,53,54,54,54,55,54,56,54,57,55,48,55,49,55,50,55,51,55,52,55,53,55,54,55,55,55,
 56,55,57,56,48,56,49,56,50,56,51,56,52,56,53,56,54,56,55,56,56,56,57,57,48,57,49,57,50,57,51,57,52,57,53,57,54,57,55,57,56,57,57]) (t
 117))),P (m 119 15),P (o 120 (.ixs (s [48,48,48,49,48,50,48,51,48,52,48,53,48,54,48,55,48,56,48,57,49,48,49,49,49,50,49,51,49,52,49,53,49,54,49,
 55,49,56,49,57,50,48,50,49,50,50,50,51,50,52,50,53,50,54,50,55,50,56,50,57,51,48,51,49,51,50,51,51,51,52,51,53,51,54,51,55,51,56,51,57,
 52,48,52,49,52,50,52,51,52,52,52,53,52,54,52,55,52,56,52,57,53,48,53,49,53,50,53,51,53,52,53,53,53,54,53,55,53,56,53,57,54,48,54,49,54,
 50,54,51,54,52,54,53,54,54,54,55,54,56,54,57,55,48,55,49,55,50,55,51,55,52,55,53,55,54,55,55,55,56,55,57,56,48,56,49,56,50,56,51,56,52,
 56,53,56,54,56,55,56,56,56,57,57,48,57,49,57,50,57,51,57,52,57,53,57,54,57,55,57,56,57,57]) (t 119))),P (ia 121 1 110 112),E (n (.st 1 (t 121) (t
 118))),P (ia 122 1 113 115),E (n (.st 1 (t 122) (t 120)))]) (Q (D [P (m 123 0),P (m 124 4),P (o 125 (.ar .sub (t 124) (i 3))),P (m 126 0),P (m 127 4),P (o 128 (.ar .sub (t
 127) (i 4))),P (m 129 14),P (o 130 (.ar .add (t 129) (.c (.int .u32 1)))),P (o 131 (.ixs (s [48,48,48,49,48,50,48,51,48,52,48,53,48,54,48,55,48,56,48,57,49,
 48,49,49,49,50,49,51,49,52,49,53,49,54,49,55,49,56,49,57,50,48,50,49,50,50,50,51,50,52,50,53,50,54,50,55,50,56,50,57,51,48,51,49,51,50,
 51,51,51,52,51,53,51,54,51,55,51,56,51,57,52,48,52,49,52,50,52,51,52,52,52,53,52,54,52,55,52,56,52,57,53,48,53,49,53,50,53,51,53,52,53,
 53,53,54,53,55,53,56,53,57,54,48,54,49,54,50,54,51,54,52,54,53,54,54,54,55,54,56,54,57,55,48,55,49,55,50,55,51,55,52,55,53,55,54,55,55,
 55,56,55,57,56,48,56,49,56,50,56,51,56,52,56,53,56,54,56,55,56,56,56,57,57,48,57,49,57,50,57,51,57,52,57,53,57,54,57,55,57,56,57,57]) (t
 130))),P (m 132 14),P (o 133 (.ixs (s [48,48,48,49,48,50,48,51,48,52,48,53,48,54,48,55,48,56,48,57,49,48,49,49,49,50,49,51,49,52,49,53,49,54,49,
 55,49,56,49,57,50,48,50,49,50,50,50,51,50,52,50,53,50,54,50,55,50,56,50,57,51,48,51,49,51,50,51,51,51,52,51,53,51,54,51,55,51,56,51,57,
 52,48,52,49,52,50,52,51,52,52,52,53,52,54,52,55,52,56,52,57,53,48,53,49,53,50,53,51,53,52,53,53,53,54,53,55,53,56,53,57,54,48,54,49,54,
 50,54,51,54,52,54,53,54,54,54,55,54,56,54,57,55,48,55,49,55,50,55,51,55,52,55,53,55,54,55,55,55,56,55,57,56,48,56,49,56,50,56,51,56,52,
 56,53,56,54,56,55,56,56,56,57,57,48,57,49,57,50,57,51,57,52,57,53,57,54,57,55,57,56,57,57]) (t 132))),P (ia 134 1 123 125),E (n (.st 1 (t 134) (t
 131))),P (ia 135 1 126 128),E (n (.st 1 (t 135) (t 133)))]) (O [m 136 4,o 137 (.ar .sub (t 136) (i 4)),m 4 137])))))) X)) (Q (Q (O [m 138 4,o 139 (.ar .geq (t 138) (i 2))]) (C
 139 (Q (O [m 140 12,o 141 (.ar .rem (t 140) (.c (.int .u32 100))),o 142 (.ar .mul (t 141) (.c (.int .u32 2))),m 16 142]) (Q (O [m 143 12,o 144 (.ar .quo (t 143) (.c (.int .u32
 100))),m 12 144]) (Q (D [P (m 145 0),P (m 146 4),P (o 147 (.ar .sub (t 146) (i 1))),P (m 148 0),P (m 149 4),P (o 150 (.ar .sub (t 149) (i 2))),P (m 151 16),P (o 152 (.ar
 .add (t 151) (.c (.int .u32 1)))),P (o 153 (.ixs (s [48,48,48,49,48,50,48,51,48,52,48,53,48,54,48,55,48,56,48,57,49,48,49,49,49,50,49,51,49,52,49,53,
 49,54,49,55,49,56,49,57,50,48,50,49,50,50,50,51,50,52,50,53,50,54,50,55,50,56,50,57,51,48,51,49,51,50,51,51,51,52,51,53,51,54,51,55,51,
 56,51,57,52,48,52,49,52,50,52,51,52,52,52,53,52,54,52,55,52,56,52,57,53,48,53,49,53,50,53,51,53,52,53,53,53,54,53,55,53,56,53,57,54,48,
 54,49,54,50,54,51,54,52,54,53,54,54,54,55,54,56,54,57,55,48,55,49,55,50,55,51,55,52,55,53,55,54,55,55,55,56,55,57,56,48,56,49,56,50,56,
 51,56,52,56,53,56,54,56,55,56,56,56,57,57,48,57,49,57,50,57,51,57,52,57,53,57,54,57,55,57,56,57,57]) (t 152))),P (m 154 16),P (o 155 (.ixs (s [48,
 48,48,49,48,50,48,51,48,52,48,53,48,54,48,55,48,56,48,57,49,48,49,49,49,50,49,51,49,52,49,53,49,54,49,55,49,56,49,57,50,48,50,49,50,50,
 50,51,50,52,50,53,50,54,50,55,50,56,50,57,51,48,51,49,51,50,51,51,51,52,51,53,51,54,51,55,51,56,51,57,52,48,52,49,52,50,52,51,52,52,52,
 53,52,54,52,55,52,56,52,57,53,48,53,49,53,50,53,51,53,52,53,53,53,54,53,55,53,56,53,57,54,48,54,49,54,50,54,51,54,52,54,53,54,54,54,55,
 54,56,54,57,55,48,55,49,55,50,55,51,55,52,55,53,55,54,55,55,55,56,55,57,56,48,56,49,56,50,56,51,56,52,56,53,56,54,56,55,56,56,56,57,57,
 48,57,49,57,50,57,51,57,52,57,53,57,54,57,55,57,56,57,57]) (t 154))),P (ia 156 1 145 147),E (n (.st 1 (t 156) (t 153))),P (ia 157 1 148 150),E (n (.st 1 (t
 157) (t 155)))]) (O [m 158 4,o 159 (.ar .sub (t 158) (i 2)),m 4 159])))) X)) (Q (O [m 160 4,o 161 (.ar .gtr (t 160) (i 0))]) (C 161 (O [m 162 0,m 163 12,o 164 (.ar .add (.c
 (.int .u32 48)) (t 163)),o 165 (.cvi .u8 (t 164)),o 166 (.ias 1 (t 162) (i 0)),n (.st 1 (t 166) (t 165))]) X)))))))
def kR:AFn:=⟨sO,167,[],.keep,[],none⟩
def sP:AC:=
 (Q (Q (O [m 44 1,m 45 15,o 46 (.ar .geq (t 44) (t 45))]) (C 46 X (.exit 0))) (.block 1 (Q (O [m 47 13,o 48 (.ar .sub (t 47) (i 1)),m 13 48]) (Q (O [m 49 13,m 50 1,m 51 16,o
 52 (.ar .and (t 50) (t 51)),o 53 (.ixs (s [48,49,50,51,52,53,54,55,56,57,97,98,99,100,101,102,103,104,105,106,107,108,109,110,111,112,113,114,115,116,
 117,118,119,120,121,122]) (t 52)),o 54 (.iaa 65 1 (t 12) (t 49)),n (.st 1 (t 54) (t 53))]) (O [m 55 1,m 56 14,o 57 (.sh .shr (t 55) (t 56)),m 1 57])))))
def sQ:AC:=
 (Q (Q (O [m 66 1,m 67 17,o 68 (.ar .geq (t 66) (t 67))]) (C 68 X (.exit 2))) (.block 3 (Q (O [m 69 13,o 70 (.ar .sub (t 69) (i 1)),m 13 70]) (Q (O [m 71 1,m 72 17,o 73 (.ar
 .quo (t 71) (t 72)),m 18 73]) (Q (O [m 74 13,m 75 1,m 76 18,m 77 17,o 78 (.ar .mul (t 76) (t 77)),o 79 (.ar .sub (t 75) (t 78)),o 80 (.ixs (s [48,49,50,51,52,53,54,55,
 56,57,97,98,99,100,101,102,103,104,105,106,107,108,109,110,111,112,113,114,115,116,117,118,119,120,121,122]) (t 79)),o 81 (.iaa 65 1 (t 12) (t 74)),n
 (.st 1 (t 81) (t 80))]) (O [m 82 18,m 1 82]))))))
def tQ:AC:=
 (Q (O [mc 10 (.c (.slice .nil 1 [])),mc 11 (s [])]) (Q (Q (O [m 19 2,o 20 (.ar .lss (t 19) (i 2)),m 21 20,h 22 21 (.mv (t 2)),h 23 21 (.ar .eql (t 22) (i 10)),o 24 (.pk (t 21)
 T (t 23)),m 25 24,h 26 25 (.mv (t 2)),h 27 25 (.ar .gtr (t 26) (i 36)),o 28 (.pk (t 25) T (t 27))]) (C 28 (O [o 29 (.mi bj (s [115,116,114,99,111,110,118,58,32,
 105,108,108,101,103,97,108,32,65,112,112,101,110,100,73,110,116,47,70,111,114,109,97,116,73,110,116,32,98,97,115,101])),⟨none,none,(.panic (.t
 29))⟩]) X)) (Q (O [o 12 (.nw [(.int .u8 0),(.int .u8 0),(.int .u8 0),(.int .u8 0),(.int .u8 0),(.int .u8 0),(.int .u8 0),(.int .u8 0),(.int .u8 0),(.int .u8 0),(.int .u8
 0),(.int .u8 0),(.int .u8 0),(.int .u8 0),(.int .u8 0),(.int .u8 0),(.int .u8 0),(.int .u8 0),(.int .u8 0),(.int .u8 0),(.int .u8 0),(.int .u8 0),(.int .u8 0),(.int .u8
 0),(.int .u8 0),(.int .u8 0),(.int .u8 0),(.int .u8 0),(.int .u8 0),(.int .u8 0),(.int .u8 0),(.int .u8 0),(.int .u8 0),(.int .u8 0),(.int .u8 0),(.int .u8 0),(.int .u8
 0),(.int .u8 0),(.int .u8 0),(.int .u8 0),(.int .u8 0),(.int .u8 0),(.int .u8 0),(.int .u8 0),(.int .u8 0),(.int .u8 0),(.int .u8 0),(.int .u8 0),(.int .u8 0),(.int .u8
 0),(.int .u8 0),(.int .u8 0),(.int .u8 0),(.int .u8 0),(.int .u8 0),(.int .u8 0),(.int .u8 0),(.int .u8 0),(.int .u8 0),(.int .u8 0),(.int .u8 0),(.int .u8 0),(.int .u8
 0),(.int .u8 0),(.int .u8 0)] QG)]) (Q (O [mc 13 (i 65)]) (Q (Q (O [m 30 3]) (C 30 (O [m 31 1,o 32 (.un .neg (t 31)),m 1 32]) X)) (Q (Q (O [m 33 2,k 34 (f
 td) [(t 33)]]) (C 34 (Q (O [m 35 2,o 36 (.cvi .u64 (t 35)),k 37 (f xQ) [(t 36)],o 38 (.cvi .u64 (t 37)),m 14 38]) (Q (O [m 39
 2,o 40 (.cvi .u64 (t 39)),m 15 40]) (Q (O [m 41 2,o 42 (.cvi .u64 (t 41)),o 43 (.ar .sub (t 42) (.c (.int .u64 1))),m 16 43]) (Q (.block 0 (.loop ⟨none,[],false⟩
 sP)) (Q (O [m 58 13,o 59 (.ar .sub (t 58) (i 1)),m 13 59]) (O [m 60 13,m 61 1,o 62 (.ixs (s [48,49,50,51,52,53,54,55,56,57,97,98,99,
 100,101,102,103,104,105,106,107,108,109,110,111,112,113,114,115,116,117,118,119,120,121,122]) (t 61)),o 63 (.iaa 65 1 (t 12) (t 60)),n (.st 1 (t 63) (t
 62))])))))) (Q (O [m 64 2,o 65 (.cvi .u64 (t 64)),m 17 65]) (Q (.block 2 (.loop ⟨none,[],false⟩ sQ)) (Q (O [m 83 13,o 84 (.ar .sub (t 83) (i 1)),
 m 13 84]) (O [m 85 13,m 86 1,o 87 (.ixs (s [48,49,50,51,52,53,54,55,56,57,97,98,99,100,101,102,103,104,105,106,107,108,109,110,111,112,113,114,115,
 116,117,118,119,120,121,122]) (t 86)),o 88 (.iaa 65 1 (t 12) (t 85)),n (.st 1 (t 88) (t 87))])))))) (Q (Q (O [m 89 3]) (C 89 (Q (O [m 90 13,o 91 (.ar .sub (t 90) (i 1)),m
 13 91]) (O [m 92 13,o 93 (.iaa 65 1 (t 12) (t 92)),n (.st 1 (t 93) (u 45))])) X)) (Q (Q (O [m 94 4]) (C 94 (Q (O [m 95 0,m 96 13,o 97 (.sla 65 1 (t 12) (some (t 96)) none),o 98
 (.ap false dF 1 1 false (t 95) (t 97)),m 10 98]) R) X)) (Q (O [m 99 13,o 100 (.sla 65 1 (t 12) (some (t 99)) none),o 101 (.cvbs (t 100)),m 11 101]) R)))))))))
def l9:AFn:=⟨tQ,102,[.t 10,.t 11],.keep,[],none⟩
def x7:AC:=
 (Q (O [mc 2 (u 0)]) (Q (O [m 3 0,o 4 (.ar .or (t 3) (u 32)),m 2 4]) R))
def pX:AFn:=⟨x7,5,[.t 2],.keep,[],none⟩
def rn:AC:=
 (Q (Q (O [m 51 4,m 52 0,lt 53 52,bl 54 51 53]) (C 54 X (.exit 0))) (Q (.block 1 (Q (Q (O [m 57 0,m 58 4,o 59 (.ixs (t 57) (t 58)),o 60 (.ar .leq (u 48) (t 59)),m 61 60,g 62
 61 (.mv (t 0)),g 63 61 (.mv (t 4)),g 64 61 (.ixs (t 62) (t 63)),g 65 61 (.ar .leq (t 64) (u 57)),o 66 (.pk (t 61) (t 65) F),m 67 66,h 68 67 (.mv (t 5)),h 69 67 (.mv (t 68)),
 g 70 69 (.mv (t 0)),g 71 69 (.mv (t 4)),g 72 69 (.ixs (t 70) (t 71)),⟨(some 73),(some (69,true)),(.call (.c (.fn (.func bD) [] [])) [(.t 72)])⟩,g 74 69
 (.ar .leq (u 97) (t 73)),h 75 67 (.pk (t 69) (t 74) F),h 76 67 (.mv (t 75)),g 77 76 (.mv (t 0)),g 78 76 (.mv (t 4)),g 79 76 (.ixs (t 77) (t 78)),⟨(some 80),(some (76,true)),
 (.call (.c (.fn (.func bD) [] [])) [(.t 79)])⟩,g 81 76 (.ar .leq (t 80) (u 102)),h 82 67 (.pk (t 76) (t 81) F),o 83 (.pk (t 67) T (t 82))]) (C 83 (Q (O [mc
 3 (.c (.int .i32 48))]) (.exit 1)) X)) (Q (Q (O [m 84 0,m 85 4,o 86 (.ixs (t 84) (t 85)),o 87 (.ar .eql (t 86) (u 95))]) (C 87 (Q (Q (O [m 88 3,o 89 (.ar .neq (t 88) (.c (.int
 .i32 48)))]) (C 89 (Q (O [mc 2 F]) R) X)) (Q (O [mc 3 (.c (.int .i32 95))]) (.exit 1))) X)) (Q (Q (O [m 90 3,o 91 (.ar .eql (t 90) (.c (.int .i32 95)))]) (C 91 (Q (O [mc 2 F]) R)
 X)) (O [mc 3 (.c (.int .i32 33))]))))) (O [m 55 4,ad 56 55,m 4 56])))
def sR:AC:=
 (Q (O [mc 2 F]) (Q (O [mc 3 (.c (.int .i32 94))]) (Q (O [mc 4 (i 0)]) (Q (Q (O [m 6 0,lt 7 6,o 8 (.ar .geq (t 7) (i 1)),m 9 8,g 10 9 (.mv (t 0)),g 11 9 (.ixs (t 10) (i 0)),g
 12 9 (.ar .eql (t 11) (u 45)),g 13 9 (.mv (t 12)),h 14 13 (.mv (t 0)),h 15 13 (.ixs (t 14) (i 0)),h 16 13 (.ar .eql (t 15) (u 43)),g 17 9 (.pk (t 13) T (t 16)),o 18 (.pk (t 9)
 (t 17) F)]) (C 18 (O [m 19 0,o 20 (.sls (t 19) (some (i 1)) none),m 0 20]) X)) (Q (O [mc 5 F]) (Q (Q (O [m 21 0,lt 22 21,o 23 (.ar .geq (t 22) (i 2)),m 24 23,g 25 24 (.mv (t
 0)),g 26 24 (.ixs (t 25) (i 0)),g 27 24 (.ar .eql (t 26) (u 48)),o 28 (.pk (t 24) (t 27) F),m 29 28,g 30 29 (.mv (t 0)),g 31 29 (.ixs (t 30) (i 1)),⟨(some 32),(some (29,
 true)),(.call (.c (.fn (.func bD) [] [])) [(.t 31)])⟩,g 33 29 (.ar .eql (t 32) (u 98)),g 34 29 (.mv (t 33)),h 35 34 (.mv (t 0)),h 36 34 (.ixs (t 35) (i
 1)),⟨(some 37),(some (34,false)),(.call (.c (.fn (.func bD) [] [])) [(.t 36)])⟩,h 38 34 (.ar .eql (t 37) (u 111)),g 39 29 (.pk (t 34) T (t 38)),g 40 29
 (.mv (t 39)),h 41 40 (.mv (t 0)),h 42 40 (.ixs (t 41) (i 1)),⟨(some 43),(some (40,false)),(.call (.c (.fn (.func bD) [] [])) [(.t 42)])⟩,h 44 40 (.ar
 .eql (t 43) (u 120)),g 45 29 (.pk (t 40) T (t 44)),o 46 (.pk (t 29) (t 45) F)]) (C 46 (Q (O [mc 4 (i 2)]) (Q (O [mc 3 (.c (.int .i32 48))]) (O [m 47 0,o 48 (.ixs (t 47) (i 1)),k
 49 (f bD) [(t 48)],o 50 (.ar .eql (t 49) (u 120)),m 5 50]))) X)) (Q (.block 0 (.loop ⟨none,[],false⟩ rn)) (Q (O [m 92 3,o
 93 (.ar .neq (t 92) (.c (.int .i32 95))),m 2 93]) R))))))))
def kS:AFn:=⟨sR,94,[.t 2],.keep,[],none⟩
def uH:AC:=
 (Q (O [mc 2 (i 0)]) (Q (O [m 3 0,o 4 (.ar .mul (t 3) (i 78913)),o 5 (.sh .shr (t 4) (.c (.int .u64 18))),m 2 5]) R))
def mF:AFn:=⟨uH,6,[.t 2],.keep,[],none⟩
def uI:AC:=
 (Q (O [mc 2 (i 0)]) (Q (Q (O [m 3 0]) (C 3 (Q (O [mc 2 (i 1)]) R) X)) (Q (O [mc 2 (i 0)]) R)))
def mG:AFn:=⟨uI,4,[.t 2],.keep,[],none⟩
def sS:AC:=
 (Q (O [mc 2 F]) (Q (O [m 3 0,m 4 0,o 5 (.ar .sub (t 4) (i 1)),o 6 (.ar .and (t 3) (t 5)),o 7 (.ar .eql (t 6) (i 0)),m 2 7]) R))
def kT:AFn:=⟨sS,8,[.t 2],.keep,[],none⟩
def xg:AC:=
 (Q (O [mc 2 (i 0)]) (Q (.cond (.c (.bool false)) (Q (O [m 3 0,o 4 (.cvi .u32 (t 3)),k 5 (f vF) [(t 4)],m 2 5]) R) X) (Q (O [m 6 0,k 7 (f
 vG) [(t 6)],m 2 7]) R)))
def pC:AFn:=⟨xg,8,[.t 2],.keep,[],none⟩
def vi:AC:=
 (Q (O [mc 2 (i 0)]) (Q (Q (O [m 3 0,o 4 (.ar .eql (t 3) (.c (.int .u32 0)))]) (C 4 (Q (O [mc 2 (i 32)]) R) X)) (Q (O [m 5 0,m 6 0,o 7 (.un .neg (t 6)),o 8 (.ar .and (t 5) (t
 7)),o 9 (.ar .mul (t 8) (.c (.int .u32 125613361))),o 10 (.sh .shr (t 9) (.c (.int .u64 27))),o 11 (.iaa 32 1 (.c .unk) (t 10)),ld 12 11,o 13 (.cvi .i64 (t 12)),m 2 13]) R)))
def nV:AFn:=⟨vi,14,[.t 2],.keep,[],none⟩
def vj:AC:=
 (Q (O [mc 2 (i 0)]) (Q (Q (O [m 3 0,o 4 (.ar .eql (t 3) (.c (.int .u64 0)))]) (C 4 (Q (O [mc 2 (i 64)]) R) X)) (Q (O [m 5 0,m 6 0,o 7 (.un .neg (t 6)),o 8 (.ar .and (t 5) (t
 7)),o 9 (.ar .mul (t 8) (.c (.int .u64 285870213051353865))),o 10 (.sh .shr (t 9) (.c (.int .u64 58))),o 11 (.iaa 64 1 (.c .unk) (t 10)),ld 12 11,o 13 (.cvi .i64 (t 12)),m 2
 13]) R)))
def nW:AFn:=⟨vj,14,[.t 2],.keep,[],none⟩
def WN(f:FuncId):Option AFn:=(bif Nat.blt f 144 then (bif Nat.blt f 78 then (bif Nat.blt f 56 then (bif Nat.blt f 33 then (bif Nat.blt f 24 then (bif Nat.blt f 22 then (bif Nat.blt f 15 then (bif Nat.beq f 8 then some sB else none) else (bif Nat.beq f 15 then some FC else none)) else (bif Nat.blt f 23 then (bif Nat.beq f 22 then some DU else none) else (bif Nat.beq f 23 then some DV else none))) else (bif Nat.blt f 30 then (bif Nat.blt f 29 then (bif Nat.beq f 24 then some FD else none) else (bif Nat.beq f 29 then some sC else none)) else (bif Nat.blt f 32 then (bif Nat.beq f 30 then some sD else none) else (bif Nat.beq f 32 then some kQ else none)))) else (bif Nat.blt f 51 then (bif Nat.blt f 49 then (bif Nat.blt f 34 then (bif Nat.beq f 33 then some DW else none) else (bif Nat.beq f 34 then some iG else none)) else (bif Nat.blt f 50 then (bif Nat.beq f 49 then some AO else none) else (bif Nat.beq f 50 then some uz else none))) else (bif Nat.blt f 53 then (bif Nat.blt f 52 then (bif Nat.beq f 51 then some DZ else none) else (bif Nat.beq f 52 then some rE else none)) else (bif Nat.blt f 54 then (bif Nat.beq f 53 then some AP else none) else (bif Nat.blt f 55 then (bif Nat.beq f 54 then some rF else none) else (bif Nat.beq f 55 then some sE else none)))))) else (bif Nat.blt f 65 then (bif Nat.blt f 60 then (bif Nat.blt f 58 then (bif Nat.blt f 57 then (bif Nat.beq f 56 then some AQ else none) else (bif Nat.beq f 57 then some rG else none)) else (bif Nat.blt f 59 then (bif Nat.beq f 58 then some sF else none) else (bif Nat.beq f 59 then some AR else none))) else (bif Nat.blt f 62 then (bif Nat.blt f 61 then (bif Nat.beq f 60 then some rH else none) else (bif Nat.beq f 61 then some sG else none)) else (bif Nat.blt f 63 then (bif Nat.beq f 62 then some AS else none) else (bif Nat.blt f 64 then (bif Nat.beq f 63 then some rI else none) else (bif Nat.beq f 64 then some sH else none))))) else (bif Nat.blt f 69 then (bif Nat.blt f 67 then (bif Nat.blt f 66 then (bif Nat.beq f 65 then some AT else none) else (bif Nat.beq f 66 then some sI else none)) else (bif Nat.blt f 68 then (bif Nat.beq f 67 then some tA else none) else (bif Nat.beq f 68 then some Hh else none))) else (bif Nat.blt f 74 then (bif Nat.blt f 73 then (bif Nat.beq f 69 then some Ct else none) else (bif Nat.beq f 73 then some rJ else none)) else (bif Nat.blt f 75 then (bif Nat.beq f 74 then some AU else none) else (bif Nat.blt f 76 then (bif Nat.beq f 75 then some rK else none) else (bif Nat.beq f 76 then some tB else none))))))) else (bif Nat.blt f 115 then (bif Nat.blt f 106 then (bif Nat.blt f 102 then (bif Nat.blt f 99 then (bif Nat.blt f 79 then (bif Nat.beq f 78 then some mz else none) else (bif Nat.beq f 79 then some je else none)) else (bif Nat.blt f 101 then (bif Nat.beq f 99 then some vu else none) else (bif Nat.beq f 101 then some D0 else none))) else (bif Nat.blt f 104 then (bif Nat.blt f 103 then (bif Nat.beq f 102 then some Cu else none) else (bif Nat.beq f 103 then some yS else none)) else (bif Nat.blt f 105 then (bif Nat.beq f 104 then some Cv else none) else (bif Nat.beq f 105 then some FE else none)))) else (bif Nat.blt f 110 then (bif Nat.blt f 108 then (bif Nat.blt f 107 then (bif Nat.beq f 106 then some iu else none) else (bif Nat.beq f 107 then some qy else none)) else (bif Nat.blt f 109 then (bif Nat.beq f 108 then some iv else none) else (bif Nat.beq f 109 then some qz else none))) else (bif Nat.blt f 112 then (bif Nat.blt f 111 then (bif Nat.beq f 110 then some sJ else none) else (bif Nat.beq f 111 then some qA else none)) else (bif Nat.blt f 113 then (bif Nat.beq f 112 then some D1 else none) else (bif Nat.blt f 114 then (bif Nat.beq f 113 then some D2 else none) else (bif Nat.beq f 114 then some iw else none)))))) else (bif Nat.blt f 126 then (bif Nat.blt f 119 then (bif Nat.blt f 117 then (bif Nat.blt f 116 then (bif Nat.beq f 115 then some qB else none) else (bif Nat.beq f 116 then some iH else none)) else (bif Nat.blt f 118 then (bif Nat.beq f 117 then some qC else none) else (bif Nat.beq f 118 then some D3 else none))) else (bif Nat.blt f 121 then (bif Nat.blt f 120 then (bif Nat.beq f 119 then some fE else none) else (bif Nat.beq f 120 then some qD else none)) else (bif Nat.blt f 122 then (bif Nat.beq f 121 then some Cw else none) else (bif Nat.blt f 125 then (bif Nat.beq f 122 then some Cx else none) else (bif Nat.beq f 125 then some sK else none))))) else (bif Nat.blt f 130 then (bif Nat.blt f 128 then (bif Nat.blt f 127 then (bif Nat.beq f 126 then some pU else none) else (bif Nat.beq f 127 then some iK else none)) else (bif Nat.blt f 129 then (bif Nat.beq f 128 then some o6 else none) else (bif Nat.beq f 129 then some iL else none))) else (bif Nat.blt f 132 then (bif Nat.blt f 131 then (bif Nat.beq f 130 then some w8 else none) else (bif Nat.beq f 131 then some nR else none)) else (bif Nat.blt f 133 then (bif Nat.beq f 132 then some rM else none) else (bif Nat.blt f 143 then (bif Nat.beq f 133 then some w9 else none) else (bif Nat.beq f 143 then some xa else none)))))))) else (bif Nat.blt f 187 then (bif Nat.blt f 161 then (bif Nat.blt f 152 then (bif Nat.blt f 148 then (bif Nat.blt f 146 then (bif Nat.blt f 145 then (bif Nat.beq f 144 then some AX else none) else (bif Nat.beq f 145 then some AY else none)) else (bif Nat.blt f 147 then (bif Nat.beq f 146 then some AZ else none) else (bif Nat.beq f 147 then some FF else none))) else (bif Nat.blt f 150 then (bif Nat.blt f 149 then (bif Nat.beq f 148 then some A1 else none) else (bif Nat.beq f 149 then some A2 else none)) else (bif Nat.blt f 151 then (bif Nat.beq f 150 then some A3 else none) else (bif Nat.beq f 151 then some Cy else none)))) else (bif Nat.blt f 156 then (bif Nat.blt f 154 then (bif Nat.blt f 153 then (bif Nat.beq f 152 then some D5 else none) else (bif Nat.beq f 153 then some A4 else none)) else (bif Nat.blt f 155 then (bif Nat.beq f 154 then some A5 else none) else (bif Nat.beq f 155 then some A6 else none))) else (bif Nat.blt f 158 then (bif Nat.blt f 157 then (bif Nat.beq f 156 then some A7 else none) else (bif Nat.beq f 157 then some Cz else none)) else (bif Nat.blt f 159 then (bif Nat.beq f 158 then some CA else none) else (bif Nat.blt f 160 then (bif Nat.beq f 159 then some iM else none) else (bif Nat.beq f 160 then some jf else none)))))) else (bif Nat.blt f 171 then (bif Nat.blt f 166 then (bif Nat.blt f 163 then (bif Nat.blt f 162 then (bif Nat.beq f 161 then some A8 else none) else (bif Nat.beq f 162 then some xb else none)) else (bif Nat.blt f 165 then (bif Nat.beq f 163 then some fZ else none) else (bif Nat.beq f 165 then some uA else none))) else (bif Nat.blt f 168 then (bif Nat.blt f 167 then (bif Nat.beq f 166 then some sL else none) else (bif Nat.beq f 167 then some rN else none)) else (bif Nat.blt f 169 then (bif Nat.beq f 168 then some l8 else none) else (bif Nat.blt f 170 then (bif Nat.beq f 169 then some nS else none) else (bif Nat.beq f 170 then some pV else none))))) else (bif Nat.blt f 182 then (bif Nat.blt f 173 then (bif Nat.blt f 172 then (bif Nat.beq f 171 then some sM else none) else (bif Nat.beq f 172 then some rO else none)) else (bif Nat.blt f 180 then (bif Nat.beq f 173 then some j5 else none) else (bif Nat.beq f 180 then some ko else none))) else (bif Nat.blt f 184 then (bif Nat.blt f 183 then (bif Nat.beq f 182 then some mA else none) else (bif Nat.beq f 183 then some CB else none)) else (bif Nat.blt f 185 then (bif Nat.beq f 184 then some CC else none) else (bif Nat.blt f 186 then (bif Nat.beq f 185 then some D6 else none) else (bif Nat.beq f 186 then some kp else none))))))) else (bif Nat.blt f 225 then (bif Nat.blt f 207 then (bif Nat.blt f 200 then (bif Nat.blt f 189 then (bif Nat.blt f 188 then (bif Nat.beq f 187 then some rP else none) else (bif Nat.beq f 188 then some nT else none)) else (bif Nat.blt f 190 then (bif Nat.beq f 189 then some rQ else none) else (bif Nat.beq f 190 then some iW else none))) else (bif Nat.blt f 205 then (bif Nat.blt f 203 then (bif Nat.beq f 200 then some xc else none) else (bif Nat.beq f 203 then some kq else none)) else (bif Nat.blt f 206 then (bif Nat.beq f 205 then some o7 else none) else (bif Nat.beq f 206 then some iB else none)))) else (bif Nat.blt f 211 then (bif Nat.blt f 209 then (bif Nat.blt f 208 then (bif Nat.beq f 207 then some qF else none) else (bif Nat.beq f 208 then some xf else none)) else (bif Nat.blt f 210 then (bif Nat.beq f 209 then some qG else none) else (bif Nat.beq f 210 then some o8 else none))) else (bif Nat.blt f 222 then (bif Nat.blt f 221 then (bif Nat.beq f 211 then some uB else none) else (bif Nat.beq f 221 then some j6 else none)) else (bif Nat.blt f 223 then (bif Nat.beq f 222 then some nU else none) else (bif Nat.blt f 224 then (bif Nat.beq f 223 then some sN else none) else (bif Nat.beq f 224 then some tC else none)))))) else (bif Nat.blt f 235 then (bif Nat.blt f 230 then (bif Nat.blt f 227 then (bif Nat.blt f 226 then (bif Nat.beq f 225 then some uC else none) else (bif Nat.beq f 226 then some rR else none)) else (bif Nat.blt f 229 then (bif Nat.beq f 227 then some mB else none) else (bif Nat.beq f 229 then some mC else none))) else (bif Nat.blt f 232 then (bif Nat.blt f 231 then (bif Nat.beq f 230 then some mD else none) else (bif Nat.beq f 231 then some FG else none)) else (bif Nat.blt f 233 then (bif Nat.beq f 232 then some pW else none) else (bif Nat.blt f 234 then (bif Nat.beq f 233 then some mE else none) else (bif Nat.beq f 234 then some kR else none))))) else (bif Nat.blt f 239 then (bif Nat.blt f 237 then (bif Nat.blt f 236 then (bif Nat.beq f 235 then some l9 else none) else (bif Nat.beq f 236 then some pX else none)) else (bif Nat.blt f 238 then (bif Nat.beq f 237 then some kS else none) else (bif Nat.beq f 238 then some mF else none))) else (bif Nat.blt f 241 then (bif Nat.blt f 240 then (bif Nat.beq f 239 then some mG else none) else (bif Nat.beq f 240 then some kT else none)) else (bif Nat.blt f 242 then (bif Nat.beq f 241 then some pC else none) else (bif Nat.blt f 243 then (bif Nat.beq f 242 then some nV else none) else (bif Nat.beq f 243 then some nW else none)))))))))
def TU(f:FuncId):Option (Nat×AFn):=(bif Nat.beq f 100 then some (4,rL) else none)
end
section
open Go.Proofs
def G0:Nat→Option (List AV):=fun _=>none
theorem x8:aa Tryz.prog G0 8 sB:=by unfold aa;kernel_rfl
theorem Ip:aa Tryz.prog G0 15 FC:=by unfold aa;kernel_rfl
theorem Hk:aa Tryz.prog G0 22 DU:=by unfold aa;kernel_rfl
theorem Hl:aa Tryz.prog G0 23 DV:=by unfold aa;kernel_rfl
theorem Iq:aa Tryz.prog G0 24 FD:=by unfold aa;kernel_rfl
theorem x9:aa Tryz.prog G0 29 sC:=by unfold aa;kernel_rfl
theorem ya:aa Tryz.prog G0 30 sD:=by unfold aa;kernel_rfl
theorem qH:aa Tryz.prog G0 32 kQ:=by unfold aa;kernel_rfl
theorem Hm:aa Tryz.prog G0 33 DW:=by unfold aa;kernel_rfl
theorem mo:aa Tryz.prog G0 34 iG:=by unfold aa;kernel_rfl
theorem EW:aa Tryz.prog G0 49 AO:=by unfold aa;kernel_rfl
theorem Ba:aa Tryz.prog G0 50 uz:=by unfold aa;kernel_rfl
theorem Hn:aa Tryz.prog G0 51 DZ:=by unfold aa;kernel_rfl
theorem xh:aa Tryz.prog G0 52 rE:=by unfold aa;kernel_rfl
theorem EX:aa Tryz.prog G0 53 AP:=by unfold aa;kernel_rfl
theorem xi:aa Tryz.prog G0 54 rF:=by unfold aa;kernel_rfl
theorem yb:aa Tryz.prog G0 55 sE:=by unfold aa;kernel_rfl
theorem EY:aa Tryz.prog G0 56 AQ:=by unfold aa;kernel_rfl
theorem xj:aa Tryz.prog G0 57 rG:=by unfold aa;kernel_rfl
theorem yc:aa Tryz.prog G0 58 sF:=by unfold aa;kernel_rfl
theorem EZ:aa Tryz.prog G0 59 AR:=by unfold aa;kernel_rfl
theorem xk:aa Tryz.prog G0 60 rH:=by unfold aa;kernel_rfl
theorem yd:aa Tryz.prog G0 61 sG:=by unfold aa;kernel_rfl
theorem E2:aa Tryz.prog G0 62 AS:=by unfold aa;kernel_rfl
theorem xl:aa Tryz.prog G0 63 rI:=by unfold aa;kernel_rfl
theorem ye:aa Tryz.prog G0 64 sH:=by unfold aa;kernel_rfl
theorem E3:aa Tryz.prog G0 65 AT:=by unfold aa;kernel_rfl
theorem yf:aa Tryz.prog G0 66 sI:=by unfold aa;kernel_rfl
theorem zC:aa Tryz.prog G0 67 tA:=by unfold aa;kernel_rfl
theorem JD:aa Tryz.prog G0 68 Hh:=by unfold aa;kernel_rfl
theorem FY:aa Tryz.prog G0 69 Ct:=by unfold aa;kernel_rfl
theorem xm:aa Tryz.prog G0 73 rJ:=by unfold aa;kernel_rfl
theorem E4:aa Tryz.prog G0 74 AU:=by unfold aa;kernel_rfl
theorem xn:aa Tryz.prog G0 75 rK:=by unfold aa;kernel_rfl
theorem zD:aa Tryz.prog G0 76 tB:=by unfold aa;kernel_rfl
theorem sU:aa Tryz.prog G0 78 mz:=by unfold aa;kernel_rfl
theorem oW:aa Tryz.prog G0 79 je:=by unfold aa;kernel_rfl
theorem B6:aa Tryz.prog G0 99 vu:=by unfold aa;kernel_rfl
theorem Ho:aa Tryz.prog G0 101 D0:=by unfold aa;kernel_rfl
theorem FZ:aa Tryz.prog G0 102 Cu:=by unfold aa;kernel_rfl
theorem D8:aa Tryz.prog G0 103 yS:=by unfold aa;kernel_rfl
theorem F0:aa Tryz.prog G0 104 Cv:=by unfold aa;kernel_rfl
theorem Ir:aa Tryz.prog G0 105 FE:=by unfold aa;kernel_rfl
theorem lE:aa Tryz.prog G0 106 iu:=by unfold aa;kernel_rfl
theorem vJ:aa Tryz.prog G0 107 qy:=by unfold aa;kernel_rfl
theorem lF:aa Tryz.prog G0 108 iv:=by unfold aa;kernel_rfl
theorem vK:aa Tryz.prog G0 109 qz:=by unfold aa;kernel_rfl
theorem yg:aa Tryz.prog G0 110 sJ:=by unfold aa;kernel_rfl
theorem vL:aa Tryz.prog G0 111 qA:=by unfold aa;kernel_rfl
theorem Hp:aa Tryz.prog G0 112 D1:=by unfold aa;kernel_rfl
theorem Hq:aa Tryz.prog G0 113 D2:=by unfold aa;kernel_rfl
theorem lG:aa Tryz.prog G0 114 iw:=by unfold aa;kernel_rfl
theorem vM:aa Tryz.prog G0 115 qB:=by unfold aa;kernel_rfl
theorem mq:aa Tryz.prog G0 116 iH:=by unfold aa;kernel_rfl
theorem vN:aa Tryz.prog G0 117 qC:=by unfold aa;kernel_rfl
theorem Hr:aa Tryz.prog G0 118 D3:=by unfold aa;kernel_rfl
theorem jA:aa Tryz.prog G0 119 fE:=by unfold aa;kernel_rfl
theorem vO:aa Tryz.prog G0 120 qD:=by unfold aa;kernel_rfl
theorem F1:aa Tryz.prog G0 121 Cw:=by unfold aa;kernel_rfl
theorem F2:aa Tryz.prog G0 122 Cx:=by unfold aa;kernel_rfl
theorem yh:aa Tryz.prog G0 125 sK:=by unfold aa;kernel_rfl
theorem vk:aa Tryz.prog G0 126 pU:=by unfold aa;kernel_rfl
theorem nA:aa Tryz.prog G0 127 iK:=by unfold aa;kernel_rfl
theorem tR:aa Tryz.prog G0 128 o6:=by unfold aa;kernel_rfl
theorem nB:aa Tryz.prog G0 129 iL:=by unfold aa;kernel_rfl
theorem C0:aa Tryz.prog G0 130 w8:=by unfold aa;kernel_rfl
theorem ti:aa Tryz.prog G0 131 nR:=by unfold aa;kernel_rfl
theorem xo:aa Tryz.prog G0 132 rM:=by unfold aa;kernel_rfl
theorem C1:aa Tryz.prog G0 133 w9:=by unfold aa;kernel_rfl
theorem C2:aa Tryz.prog G0 143 xa:=by unfold aa;kernel_rfl
theorem E5:aa Tryz.prog G0 144 AX:=by unfold aa;kernel_rfl
theorem E6:aa Tryz.prog G0 145 AY:=by unfold aa;kernel_rfl
theorem E7:aa Tryz.prog G0 146 AZ:=by unfold aa;kernel_rfl
theorem Is:aa Tryz.prog G0 147 FF:=by unfold aa;kernel_rfl
theorem E8:aa Tryz.prog G0 148 A1:=by unfold aa;kernel_rfl
theorem E9:aa Tryz.prog G0 149 A2:=by unfold aa;kernel_rfl
theorem Fa:aa Tryz.prog G0 150 A3:=by unfold aa;kernel_rfl
theorem F3:aa Tryz.prog G0 151 Cy:=by unfold aa;kernel_rfl
theorem Hs:aa Tryz.prog G0 152 D5:=by unfold aa;kernel_rfl
theorem Fb:aa Tryz.prog G0 153 A4:=by unfold aa;kernel_rfl
theorem Fc:aa Tryz.prog G0 154 A5:=by unfold aa;kernel_rfl
theorem Fe:aa Tryz.prog G0 155 A6:=by unfold aa;kernel_rfl
theorem Ff:aa Tryz.prog G0 156 A7:=by unfold aa;kernel_rfl
theorem F4:aa Tryz.prog G0 157 Cz:=by unfold aa;kernel_rfl
theorem F5:aa Tryz.prog G0 158 CA:=by unfold aa;kernel_rfl
theorem nC:aa Tryz.prog G0 159 iM:=by unfold aa;kernel_rfl
theorem oX:aa Tryz.prog G0 160 jf:=by unfold aa;kernel_rfl
theorem Fg:aa Tryz.prog G0 161 A8:=by unfold aa;kernel_rfl
theorem C3:aa Tryz.prog G0 162 xb:=by unfold aa;kernel_rfl
theorem j7:aa Tryz.prog G0 163 fZ:=by unfold aa;kernel_rfl
theorem Bb:aa Tryz.prog G0 165 uA:=by unfold aa;kernel_rfl
theorem yi:aa Tryz.prog G0 166 sL:=by unfold aa;kernel_rfl
theorem xp:aa Tryz.prog G0 167 rN:=by unfold aa;kernel_rfl
theorem rY:aa Tryz.prog G0 168 l8:=by unfold aa;kernel_rfl
theorem tj:aa Tryz.prog G0 169 nS:=by unfold aa;kernel_rfl
theorem vl:aa Tryz.prog G0 170 pV:=by unfold aa;kernel_rfl
theorem yj:aa Tryz.prog G0 171 sM:=by unfold aa;kernel_rfl
theorem xq:aa Tryz.prog G0 172 rO:=by unfold aa;kernel_rfl
theorem pL:aa Tryz.prog G0 173 j5:=by unfold aa;kernel_rfl
theorem qb:aa Tryz.prog G0 180 ko:=by unfold aa;kernel_rfl
theorem sV:aa Tryz.prog G0 182 mA:=by unfold aa;kernel_rfl
theorem F6:aa Tryz.prog G0 183 CB:=by unfold aa;kernel_rfl
theorem F7:aa Tryz.prog G0 184 CC:=by unfold aa;kernel_rfl
theorem Ht:aa Tryz.prog G0 185 D6:=by unfold aa;kernel_rfl
theorem qc:aa Tryz.prog G0 186 kp:=by unfold aa;kernel_rfl
theorem xr:aa Tryz.prog G0 187 rP:=by unfold aa;kernel_rfl
theorem tk:aa Tryz.prog G0 188 nT:=by unfold aa;kernel_rfl
theorem xt:aa Tryz.prog G0 189 rQ:=by unfold aa;kernel_rfl
theorem nX:aa Tryz.prog G0 190 iW:=by unfold aa;kernel_rfl
theorem C4:aa Tryz.prog G0 200 xc:=by unfold aa;kernel_rfl
theorem qd:aa Tryz.prog G0 203 kq:=by unfold aa;kernel_rfl
theorem tS:aa Tryz.prog G0 205 o7:=by unfold aa;kernel_rfl
theorem ma:aa Tryz.prog G0 206 iB:=by unfold aa;kernel_rfl
theorem vP:aa Tryz.prog G0 207 qF:=by unfold aa;kernel_rfl
theorem C5:aa Tryz.prog G0 208 xf:=by unfold aa;kernel_rfl
theorem vQ:aa Tryz.prog G0 209 qG:=by unfold aa;kernel_rfl
theorem tT:aa Tryz.prog G0 210 o8:=by unfold aa;kernel_rfl
theorem Bc:aa Tryz.prog G0 211 uB:=by unfold aa;kernel_rfl
theorem pM:aa Tryz.prog G0 221 j6:=by unfold aa;kernel_rfl
theorem tl:aa Tryz.prog G0 222 nU:=by unfold aa;kernel_rfl
theorem yk:aa Tryz.prog G0 223 sN:=by unfold aa;kernel_rfl
theorem zE:aa Tryz.prog G0 224 tC:=by unfold aa;kernel_rfl
theorem Bd:aa Tryz.prog G0 225 uC:=by unfold aa;kernel_rfl
theorem xu:aa Tryz.prog G0 226 rR:=by unfold aa;kernel_rfl
theorem sW:aa Tryz.prog G0 227 mB:=by unfold aa;kernel_rfl
theorem sX:aa Tryz.prog G0 229 mC:=by unfold aa;kernel_rfl
theorem sY:aa Tryz.prog G0 230 mD:=by unfold aa;kernel_rfl
theorem It:aa Tryz.prog G0 231 FG:=by unfold aa;kernel_rfl
theorem vm:aa Tryz.prog G0 232 pW:=by unfold aa;kernel_rfl
theorem sZ:aa Tryz.prog G0 233 mE:=by unfold aa;kernel_rfl
theorem qI:aa Tryz.prog G0 234 kR:=by unfold aa;kernel_rfl
theorem rZ:aa Tryz.prog G0 235 l9:=by unfold aa;kernel_rfl
theorem vn:aa Tryz.prog G0 236 pX:=by unfold aa;kernel_rfl
theorem qJ:aa Tryz.prog G0 237 kS:=by unfold aa;kernel_rfl
theorem s4:aa Tryz.prog G0 238 mF:=by unfold aa;kernel_rfl
theorem s5:aa Tryz.prog G0 239 mG:=by unfold aa;kernel_rfl
theorem qK:aa Tryz.prog G0 240 kT:=by unfold aa;kernel_rfl
theorem uJ:aa Tryz.prog G0 241 pC:=by unfold aa;kernel_rfl
theorem tm:aa Tryz.prog G0 242 nV:=by unfold aa;kernel_rfl
theorem tn:aa Tryz.prog G0 243 nW:=by unfold aa;kernel_rfl
theorem vR:Rv Tryz.prog G0 100 (4,rL):=⟨by kernel_rfl,rfl⟩
theorem VA:∀ f af,WN f=some af→aa Tryz.prog G0 f af:=fun f af h=>by
 unfold WN at h
 revert h
 exact (ah (ah (ah (ah (ah (ah (ah (ag (C:=_) x8) (ag (C:=_) Ip)) (ah (ag (C:=_) Hk) (ag (C:=_) Hl))) (ah (ah (ag (C:=_) Iq) (ag (C:=_) x9)) (ah (ag (C:=_) ya) (ag (C:=_) qH)))) (ah (ah (ah (ag (C:=_) Hm) (ag (C:=_) mo)) (ah (ag (C:=_) EW) (ag (C:=_) Ba))) (ah (ah (ag (C:=_) Hn) (ag (C:=_) xh)) (ah (ag (C:=_) EX) (ah (ag (C:=_) xi) (ag (C:=_) yb)))))) (ah (ah (ah (ah (ag (C:=_) EY) (ag (C:=_) xj)) (ah (ag (C:=_) yc) (ag (C:=_) EZ))) (ah (ah (ag (C:=_) xk) (ag (C:=_) yd)) (ah (ag (C:=_) E2) (ah (ag (C:=_) xl) (ag (C:=_) ye))))) (ah (ah (ah (ag (C:=_) E3) (ag (C:=_) yf)) (ah (ag (C:=_) zC) (ag (C:=_) JD))) (ah (ah (ag (C:=_) FY) (ag (C:=_) xm)) (ah (ag (C:=_) E4) (ah (ag (C:=_) xn) (ag (C:=_) zD))))))) (ah (ah (ah (ah (ah (ag (C:=_) sU) (ag (C:=_) oW)) (ah (ag (C:=_) B6) (ag (C:=_) Ho))) (ah (ah (ag (C:=_) FZ) (ag (C:=_) D8)) (ah (ag (C:=_) F0) (ag (C:=_) Ir)))) (ah (ah (ah (ag (C:=_) lE) (ag (C:=_) vJ)) (ah (ag (C:=_) lF) (ag (C:=_) vK))) (ah (ah (ag (C:=_) yg) (ag (C:=_) vL)) (ah (ag (C:=_) Hp) (ah (ag (C:=_) Hq) (ag (C:=_) lG)))))) (ah (ah (ah (ah (ag (C:=_) vM) (ag (C:=_) mq)) (ah (ag (C:=_) vN) (ag (C:=_) Hr))) (ah (ah (ag (C:=_) jA) (ag (C:=_) vO)) (ah (ag (C:=_) F1) (ah (ag (C:=_) F2) (ag (C:=_) yh))))) (ah (ah (ah (ag (C:=_) vk) (ag (C:=_) nA)) (ah (ag (C:=_) tR) (ag (C:=_) nB))) (ah (ah (ag (C:=_) C0) (ag (C:=_) ti)) (ah (ag (C:=_) xo) (ah (ag (C:=_) C1) (ag (C:=_) C2)))))))) (ah (ah (ah (ah (ah (ah (ag (C:=_) E5) (ag (C:=_) E6)) (ah (ag (C:=_) E7) (ag (C:=_) Is))) (ah (ah (ag (C:=_) E8) (ag (C:=_) E9)) (ah (ag (C:=_) Fa) (ag (C:=_) F3)))) (ah (ah (ah (ag (C:=_) Hs) (ag (C:=_) Fb)) (ah (ag (C:=_) Fc) (ag (C:=_) Fe))) (ah (ah (ag (C:=_) Ff) (ag (C:=_) F4)) (ah (ag (C:=_) F5) (ah (ag (C:=_) nC) (ag (C:=_) oX)))))) (ah (ah (ah (ah (ag (C:=_) Fg) (ag (C:=_) C3)) (ah (ag (C:=_) j7) (ag (C:=_) Bb))) (ah (ah (ag (C:=_) yi) (ag (C:=_) xp)) (ah (ag (C:=_) rY) (ah (ag (C:=_) tj) (ag (C:=_) vl))))) (ah (ah (ah (ag (C:=_) yj) (ag (C:=_) xq)) (ah (ag (C:=_) pL) (ag (C:=_) qb))) (ah (ah (ag (C:=_) sV) (ag (C:=_) F6)) (ah (ag (C:=_) F7) (ah (ag (C:=_) Ht) (ag (C:=_) qc))))))) (ah (ah (ah (ah (ah (ag (C:=_) xr) (ag (C:=_) tk)) (ah (ag (C:=_) xt) (ag (C:=_) nX))) (ah (ah (ag (C:=_) C4) (ag (C:=_) qd)) (ah (ag (C:=_) tS) (ag (C:=_) ma)))) (ah (ah (ah (ag (C:=_) vP) (ag (C:=_) C5)) (ah (ag (C:=_) vQ) (ag (C:=_) tT))) (ah (ah (ag (C:=_) Bc) (ag (C:=_) pM)) (ah (ag (C:=_) tl) (ah (ag (C:=_) yk) (ag (C:=_) zE)))))) (ah (ah (ah (ah (ag (C:=_) Bd) (ag (C:=_) xu)) (ah (ag (C:=_) sW) (ag (C:=_) sX))) (ah (ah (ag (C:=_) sY) (ag (C:=_) It)) (ah (ag (C:=_) vm) (ah (ag (C:=_) sZ) (ag (C:=_) qI))))) (ah (ah (ah (ag (C:=_) rZ) (ag (C:=_) vn)) (ah (ag (C:=_) qJ) (ag (C:=_) s4))) (ah (ah (ag (C:=_) s5) (ag (C:=_) qK)) (ah (ag (C:=_) uJ) (ah (ag (C:=_) tm) (ag (C:=_) tn)))))))))
theorem TV:∀ f d af,TU f=some (d,af)→Rv Tryz.prog G0 f (d,af):=fun f d af h=>by
 unfold TU at h
 revert h
 exact (ag (C:=_) vR)
end
section
open Go.Proofs
def TW(g:FuncId)(xs:List AV)(H:List ae):Option Out:=
 match xs with
 |[.str s,.int .u8 c]=>bif Nat.beq g dX then some (.ret (.int .i64 (Lib.countByte s c.toNat.toUInt8:Nat)),H)
  else bif Nat.beq g dn then some (.ret (.int .i64 (Lib.indexByte s c.toNat.toUInt8)),H)
  else none
 |[.int .i64 (.ofNat n)]=>bif Nat.beq g dz&&Nat.ble n 281474976710656 then some (.ret (.rslice H.length 0 n 1 true),H++[.cells (List.replicate n .unk) 5]) else none
 |[.fn _ _ _]=>none
 |[x]=>bif Nat.beq g gG then some (.ret x,H) else none
 |_=>none
theorem VB:Cp Tryz.prog dX Extern.BytealgCount.count:=.of Tryz.func181 (by kernel_rfl) (by kernel_rfl) (by kernel_rfl) (by kernel_rfl)
theorem VC:Cp Tryz.prog dn Extern.BytealgIndexByte.indexByte:=.of Tryz.func220 (by kernel_rfl) (by kernel_rfl) (by kernel_rfl) (by kernel_rfl)
theorem WO:Cp Tryz.prog gG Extern.AbiNoEscape.same:=.of Tryz.func212 (by kernel_rfl) (by kernel_rfl) (by kernel_rfl) (by kernel_rfl)
theorem TX:Cp Tryz.prog dz (Extern.BytealgMakeNoZero.makeNoZero #[3] #[216]):=.of Tryz.func213 (by kernel_rfl) (by kernel_rfl) (by kernel_rfl) (by kernel_rfl)
theorem SE:Tryz.prog.underlying 216=some (.slice 5):=by kernel_rfl
theorem RA{g:FuncId}{xs:List AV}{H H':List ae}{r:wi}(h:TW g xs H=some (r,H')):eT Tryz.prog G0 g xs H fun r2 H2=>r2=r∧H2=H':=by
 unfold TW at h
 split at h
 ·rename_i s c
  cases h1:Nat.beq g dX with
  |true=>rw [h1] at h;cases h;rw [Nat.eq_of_beq_eq_true h1];exact Sz VB s c H
  |false=>
   rw [h1,cond_false] at h
   cases h2:Nat.beq g dn with
   |true=>rw [h2] at h;cases h;rw [Nat.eq_of_beq_eq_true h2];exact SA VC s c H
   |false=>rw [h2] at h;cases h
 ·rename_i n
  cases h1:(Nat.beq g dz&&Nat.ble n 281474976710656) with
  |true=>
   rw [h1] at h;cases h
   simp only [Bool.and_eq_true] at h1
   rw [Nat.eq_of_beq_eq_true h1.1];exact QA TX SE n (Nat.le_of_ble_eq_true h1.2) H
  |false=>rw [h1] at h;cases h
 ·cases h
 ·rename_i x _ _
  cases h1:Nat.beq g gG with
  |true=>rw [h1] at h;cases h;rw [Nat.eq_of_beq_eq_true h1];exact TM WO x H
  |false=>rw [h1] at h;cases h
 ·cases h
theorem RB:Tryz.prog.follows .mixedOrders=true:=by kernel_rfl
theorem g0:∀ (n g:Nat) (cs:List AV),G0 g=some cs→wkbL n cs=true:=fun _ _ _ h=>by cases h
noncomputable def E0:bB := { P:=Tryz.prog,G:=G0,fn:=WN,orc:=TW,dfn:=TU }
theorem RC:E0.Ok:=⟨RB,fun f af h=>VA f af h,fun f d af h=>TV f d af h,(fun _ _ _ _ _ h=>by cases h),fun _ _ _ _ _ h=>RA h⟩
noncomputable def E1:bB := { E0 with wo:=woK E0 100000 }
theorem t1:MK E1 100000 wE [.str [48]] []=some (.int .i64 0):=by kernel_rfl
theorem t2:MK E1 100000 kA [.str [48,50,48],.str [48]] []=some (.int .i64 2):=by kernel_rfl
end
section
open Go.Proofs
theorem VD:∀ f args H,E0.wo f args H=none:=fun _ _ _=>rfl
def ps0:List sc:=[]
theorem ok0:∀ p∈ps0,p.Ok E0.P E0.G:=fun p h=>by cases h
def p1:sc:=⟨23,[(.agg [(.str [97,101,105,111,117]),(.slice (.own 9) 2 [[(.str [110,117,109]),(.rslice 7 2 2 1 true)]]),(.rslice 26 0 2 2 true),(.rslice 53 0 4 4 true),(.slice (.own 57) 4 [[(.str [121,43]),(.str [105,43,101]),(.str [67]),(.str [115])],[(.str [110,43]),(.str [110,110,43]),(.str [86]),(.str [101,100])]]),(.slice (.own 65) 3 [[(.str [110,111,117,110]),(.str []),(.slice .any 2 [[(.str [110,117,109]),(.str [115,103])]])]])])],(dd 7 ([.cells [(.str [116,114,97,105,116]),(.str [110,117,109]),(.str [115,103]),(.str [112,108])] 9]++(dd 1 ([.tok 2 69]++(dd 7 ([.tok 2 66,.tok 8 74]++(dd 3 ([.tok 2 66]++(dd 3 ([.cells [(.str [110,111,117,110]),(.slice (.own 18) 4 [[(.int .i64 0),(.str []),(.str []),(.slice .any 2 [[(.str [110,117,109]),(.str [115,103])]])],[(.int .i64 0),(.str []),(.str [115]),(.slice .any 2 [[(.str [110,117,109]),(.str [112,108])]])]]),(.str [118,101,114,98]),(.slice (.own 30) 4 [[(.int .i64 0),(.str []),(.str []),(.slice .nil 2 [])],[(.int .i64 0),(.str []),(.str [101,100]),(.slice .nil 2 [])]])] 72]++(dd 3 ([.tok 8 74]++(dd 18 ([.tok 2 76]++(dd 3 ([.cells [(.str [99,105,116,121]),(.str [110,111,117,110]),(.slice .nil 2 []),(.slice .nil 2 []),(.str [99,97,114]),(.str [110,111,117,110]),(.slice .nil 2 []),(.slice .nil 2 []),(.str [98,117,115]),(.str [110,111,117,110]),(.slice .nil 2 []),(.slice (.own 49) 2 [[(.int .i64 1),(.str [98,117,115,101,115])]]),(.str [112,108,97,110]),(.str [118,101,114,98]),(.slice .nil 2 []),(.slice .nil 2 [])] 53]++(dd 3 ([.tok 8 78]++(dd 6 [.tok 2 66,.tok 3 80]))))))))))))))))))),(.int .u8 0)⟩
def ps1:List sc:=p1::ps0
theorem ok1:∀ p∈ps1,p.Ok E0.P E0.G:=DF RC g0 ok0 VD (by kernel_rfl)
def p2:sc:=⟨22,[(.str [118,111,119,101,108,115,32,97,101,105,111,117,10,116,114,97,105,116,32,110,117,109,32,115,103,32,112,108,10,99,108,97,115,115,32,110,111,117,110,10,115,108,111,116,32,48,32,45,32,45,32,110,117,109,61,115,103,10,115,108,111,116,32,48,32,45,32,115,32,110,117,109,61,112,108,10,99,108,97,115,115,32,118,101,114,98,10,115,108,111,116,32,48,32,45,32,45,10,115,108,111,116,32,48,32,45,32,101,100,10,101,110,116,114,121,32,99,105,116,121,32,110,111,117,110,10,101,110,116,114,121,32,99,97,114,32,110,111,117,110,10,101,110,116,114,121,32,98,117,115,32,110,111,117,110,10,102,111,114,109,32,49,32,98,117,115,101,115,10,101,110,116,114,121,32,112,108,97,110,32,118,101,114,98,10,115,112,101,108,108,32,121,43,32,105,43,101,32,67,32,115,10,115,112,101,108,108,32,110,43,32,110,110,43,32,86,32,101,100,10,108,105,110,107,32,110,111,117,110,32,45,32,110,117,109,61,115,103,10])],[],(.tuple [(.agg [(.str [97,101,105,111,117]),(.slice .any 2 [[(.str [110,117,109]),(.slice .any 1 [[(.str [115,103])],[(.str [112,108])]])]]),(.slice .any 2 [[(.str [110,111,117,110]),(.slice .any 4 [[(.int .i64 0),(.str []),(.str []),(.slice .any 2 [[(.str [110,117,109]),(.str [115,103])]])],[(.int .i64 0),(.str []),(.str [115]),(.slice .any 2 [[(.str [110,117,109]),(.str [112,108])]])]])],[(.str [118,101,114,98]),(.slice .any 4 [[(.int .i64 0),(.str []),(.str []),(.slice .nil 2 [])],[(.int .i64 0),(.str []),(.str [101,100]),(.slice .nil 2 [])]])]]),(.slice .any 4 [[(.str [99,105,116,121]),(.str [110,111,117,110]),(.slice .nil 2 []),(.slice .nil 2 [])],[(.str [99,97,114]),(.str [110,111,117,110]),(.slice .nil 2 []),(.slice .nil 2 [])],[(.str [98,117,115]),(.str [110,111,117,110]),(.slice .nil 2 []),(.slice .any 2 [[(.int .i64 1),(.str [98,117,115,101,115])]])],[(.str [112,108,97,110]),(.str [118,101,114,98]),(.slice .nil 2 []),(.slice .nil 2 [])]]),(.slice .any 4 [[(.str [121,43]),(.str [105,43,101]),(.str [67]),(.str [115])],[(.str [110,43]),(.str [110,110,43]),(.str [86]),(.str [101,100])]]),(.slice .any 3 [[(.str [110,111,117,110]),(.str []),(.slice .any 2 [[(.str [110,117,109]),(.str [115,103])]])]])]),(.int .i64 0),(.int .u8 0)])⟩
def ps2:List sc:=p2::ps1
theorem ok2:∀ p∈ps2,p.Ok E0.P E0.G:=DF RC g0 ok1 VD (by kernel_rfl)
def p3:sc:=⟨23,[(.agg [(.str [97,101,105,111,117]),(.slice .any 2 [[(.str [110,117,109]),(.slice .any 1 [[(.str [115,103])],[(.str [112,108])]])]]),(.slice .any 2 [[(.str [110,111,117,110]),(.slice .any 4 [[(.int .i64 0),(.str []),(.str []),(.slice .any 2 [[(.str [110,117,109]),(.str [115,103])]])],[(.int .i64 0),(.str []),(.str [115]),(.slice .any 2 [[(.str [110,117,109]),(.str [112,108])]])]])],[(.str [118,101,114,98]),(.slice .any 4 [[(.int .i64 0),(.str []),(.str []),(.slice .nil 2 [])],[(.int .i64 0),(.str []),(.str [101,100]),(.slice .nil 2 [])]])]]),(.slice .any 4 [[(.str [99,105,116,121]),(.str [110,111,117,110]),(.slice .nil 2 []),(.slice .nil 2 [])],[(.str [99,97,114]),(.str [110,111,117,110]),(.slice .nil 2 []),(.slice .nil 2 [])],[(.str [98,117,115]),(.str [110,111,117,110]),(.slice .nil 2 []),(.slice .any 2 [[(.int .i64 1),(.str [98,117,115,101,115])]])],[(.str [112,108,97,110]),(.str [118,101,114,98]),(.slice .nil 2 []),(.slice .nil 2 [])]]),(.slice .any 4 [[(.str [121,43]),(.str [105,43,101]),(.str [67]),(.str [115])],[(.str [110,43]),(.str [110,110,43]),(.str [86]),(.str [101,100])]]),(.slice .any 3 [[(.str [110,111,117,110]),(.str []),(.slice .any 2 [[(.str [110,117,109]),(.str [115,103])]])]])])],[],(.int .u8 0)⟩
def ps3:List sc:=p3::ps2
theorem ok3:∀ p∈ps3,p.Ok E0.P E0.G:=DF RC g0 ok2 VD (by kernel_rfl)
theorem SF:MK (EP E0 ps3) 1000000 bh [] []=some (.bool true):=by kernel_rfl
theorem TY(H:List ae):eT Tryz.prog G0 bh [] H fun r H'=>r = .ret (.bool true)∧H'=H:=OW (Wd RC g0 ok3 VD) g0 SF rfl
end
section
attribute [local congr] aG wg aH a7 aN aI aA aC aO aP
variable{E:bB}(M:cT cU E)
def nY(c:UInt8):Bool:=decide (97≤(c.toNat:Int))&&decide ((c.toNat:Int)≤122)
theorem nD(h:E.fn cF=some gm)(c:UInt8)(H:List ae):M.run cF [.int .u8 c.toNat] H=some (.ret (.bool (nY c)),H):=by
 rw [aZ M h rfl (c:=wS) rfl,wS]
 simp +contextual -implicitDefEqProofs only [am1 M,am2,am3,am4,↓ak,Nat.reduceBEq,Nat.reduceAdd,env,ao,(show gm.res=[.t 2] from rfl),(show gm.mode = .drop from rfl),(show gm.dfr=none from rfl),beq_true,beq_false,Bool.and_true,Bool.true_and,Bool.and_false,Bool.false_and,nY]
def O2(c:UInt8):Bool:=decide (33≤(c.toNat:Int))&&decide ((c.toNat:Int)≤126)
theorem SG(h:E.fn pn=some iU)(c:UInt8)(H:List ae):M.run pn [.int .u8 c.toNat] H=some (.ret (.bool (O2 c)),H):=by
 rw [aZ M h rfl (c:=wM) rfl,wM]
 simp +contextual -implicitDefEqProofs only [am1 M,am2,am3,am4,↓ak,Nat.reduceBEq,Nat.reduceAdd,env,ao,(show iU.res=[.t 2] from rfl),(show iU.mode = .drop from rfl),(show iU.dfr=none from rfl),beq_true,beq_false,Bool.and_true,Bool.true_and,Bool.and_false,Bool.false_and,O2]
def TZ(c:UInt8):Bool:=decide (65≤(c.toNat:Int))&&decide ((c.toNat:Int)≤90)
def Xs(c:UInt8):Bool:=decide (48≤(c.toNat:Int))&&decide ((c.toNat:Int)≤57)
theorem Iu(hl:E.fn cF=some gm)(h:E.fn gg=some ij)(c:UInt8)(H:List ae):M.run gg [.int .u8 c.toNat] H=some (.ret (.bool (nY c||TZ c)),H):=by
 rw [aZ M h rfl (c:=wW) rfl,wW]
 simp +contextual -implicitDefEqProofs only [am1 M,am2,am3,am4,↓ak,Nat.reduceBEq,Nat.reduceAdd,env,ao,(show ij.res=[.t 2] from rfl),(show ij.mode = .drop from rfl),(show ij.dfr=none from rfl),beq_true,beq_false,Bool.and_true,Bool.true_and,Bool.and_false,Bool.false_and,nD M hl]
 cases nY c<;>simp [sel,TZ]
end
section
attribute [local congr] aG wg aH a7 aN aI aA aC aO aP
variable{E:bB}(M:cT cU E)
theorem SH(hl:E.fn cF=some gm)(h1:E.fn gg=some ij)(h:E.fn lM=some iV)(c:UInt8){H:List ae}{T:TypeId} :
  M.run lM [.int .u8 c.toNat,.ptr H.length 0] (H++[.cells [.fn (.func gg) [] []] T])=some (.ret (.bool (nY c||TZ c||Xs c||((c.toNat:Int) == 95))),H++[.cells [.fn (.func gg) [] []] T]):=by
 rw [aZ M h rfl (c:=wX) rfl,wX]
 simp +contextual -implicitDefEqProofs only [am1 M,am2,am3,am4,↓ak,Nat.reduceBEq,Nat.reduceAdd,env,ao,(show iV.res=[.t 3] from rfl),(show iV.mode = .drop from rfl),(show iV.dfr=none from rfl),beq_true,beq_false,Bool.and_true,Bool.true_and,Bool.and_false,Bool.false_and,Iu M hl h1,List.nil_append,List.append_nil]
 rw [show H.length+1=(H++[ae.cells [AV.fn (Fn.func gg) [] []] T]).length by simp,List.take_length]
 rfl
theorem O3{g:Nat}{fr cap:List AV}{p:UInt8→Bool}{s:List UInt8}(hs:s.length≤bH){H:List ae}(hp:∀ c:UInt8,M.run g (fr ++ .int .u8 c.toNat::cap) H=some (.ret (.bool (p c)),H))
  {H0:List ae} (hc:dG H0 H) (k:List Fra):∀ (n i:Nat) (He:List ae),i+n=s.length →
  M.go eS H0 (.c qu :: .lp ⟨some [0,1,7,8],[],false⟩ qu He :: .blk 0 :: .c (.lv [])::k) (kv [(0,.str s),(1,.fn (.func g) fr cap),(7,.int .i64 s.length),(8,.int .i64 i)]) H =
   sel ((s.drop i).all p) (M.go eS H0 k .leaf H) (some (.ret (.bool false),H.take H0.length))
 |0,i,He,h=>by
  have e:i=s.length:=by omega
  subst e
  rw [aw M qu.eq_1]
  simp +contextual -implicitDefEqProofs only [am1 M,am2,am3,am4,↓ak,Nat.reduceBEq,Nat.reduceAdd,(show eS.res=[.t 4] from rfl),(show eS.mode = .drop from rfl),(show eS.dfr=none from rfl),beq_true,beq_false,decide_true,decide_false,Nat.lt_irrefl,List.drop_length,List.all_nil]
 |n+1,i,He,h=>by
  have hi:i<s.length:=by omega
  have hx:s[i]?=some s[i]:=List.getElem?_eq_getElem hi
  have hd:(s.drop i)=s[i]::s.drop (i+1):=List.drop_eq_getElem_cons hi
  have ih:=O3 hs hp hc k n (i+1) H (by omega)
  simp only [kv_cons,kv_nil] at ih
  rw [aw M qu.eq_1]
  simp +contextual -implicitDefEqProofs only [am1 M,am2,am3,am4,↓ak,Nat.reduceBEq,Nat.reduceAdd,(show eS.res=[.t 4] from rfl),(show eS.mode = .drop from rfl),(show eS.dfr=none from rfl),beq_true,beq_false,decide_true,decide_false,hx,hp,cY hi hs,hi,hc,ih,hd,List.all_cons]
theorem JN(hf:E.fn pj=some eS){g:Nat}{fr cap:List AV}{p:UInt8→Bool}{s:List UInt8}(hs:s.length≤bH){H:List ae}(hp:∀ c:UInt8,M.run g (fr ++ .int .u8 c.toNat::cap) H=some (.ret (.bool (p c)),H)) :
  M.run pj [.str s,.fn (.func g) fr cap] H=some (.ret (.bool (s.all p)),H):=by
 rw [aZ M hf rfl (c:=DN) rfl,DN]
 have hl:=fun k He=>O3 M hs hp (cut_refl H) k s.length 0 He (by omega)
 simp only [kv_cons,kv_nil,Int.ofNat_zero,List.drop_zero] at hl
 simp +contextual -implicitDefEqProofs only [am1 M,am2,am3,am4,↓ak,Nat.reduceBEq,Nat.reduceAdd,env,ao,(show eS.res=[.t 4] from rfl),(show eS.mode = .drop from rfl),(show eS.dfr=none from rfl),hl]
 rw [Bool.and_true]
structure cS (E:bB):Prop where
 letter:E.fn cF=some gm
 Letter:E.fn jL=some nm
 name1:E.fn gg=some ij
 name2:E.fn lM=some iV
 word1:E.fn pn=some iU
 all:E.fn pj=some eS
 name:E.fn sf=some iR
 word:E.fn vD=some mR
 plain:E.fn ud=some lj
 rname:E.fn kH=some pA
 rword:E.fn ph=some pw
 rplain:E.fn om=some oL
 rof:E.fn dL=some rj
def Be(s:List UInt8):Bool:=decide (1≤(s.length:Int))&&decide ((s.length:Int)≤24)&&s.all O2
theorem O4(hE:cS E){s:List UInt8}(hs:s.length≤bH)(H:List ae):M.run vD [.str s] H=some (.ret (.bool (Be s)),H):=by
 rw [aZ M hE.word rfl (c:=BK) rfl,BK]
 have ha:=JN M hE.all (g:=pn) (fr:=[]) (cap:=[]) hs (H:=H) (fun c=>SG M hE.word1 c H)
 simp +contextual -implicitDefEqProofs only [am1 M,am2,am3,am4,↓ak,Nat.reduceBEq,Nat.reduceAdd,env,ao,beq_true,beq_false,decide_true,decide_false,Bool.and_true,Bool.true_and,Bool.and_false,Bool.false_and,List.nil_append,List.append_nil,(show mR.res=[.t 2] from rfl),(show mR.mode = .drop from rfl),(show mR.dfr=none from rfl),ha,Be]
def zF(s:List UInt8):Bool:=Be s&&s.all nY
theorem Iv(hE:cS E){s:List UInt8}(hs:s.length≤bH)(H:List ae):M.run ud [.str s] H=some (.ret (.bool (zF s)),H):=by
 rw [aZ M hE.plain rfl (c:=zw) rfl,zw]
 have ha:=JN M hE.all (g:=cF) (fr:=[]) (cap:=[]) hs (H:=H) (fun c=>nD M hE.letter c H)
 simp +contextual -implicitDefEqProofs only [am1 M,am2,am3,am4,↓ak,Nat.reduceBEq,Nat.reduceAdd,env,ao,beq_true,beq_false,decide_true,decide_false,Bool.and_true,Bool.true_and,Bool.and_false,Bool.false_and,List.nil_append,List.append_nil,(show lj.res=[.t 2] from rfl),(show lj.mode = .drop from rfl),(show lj.dfr=none from rfl),ha,O4 M hE hs,zF]
end
section
attribute [local congr] aG wg aH a7 aN aI aA aC aO aP
variable{E:bB}(M:cT cU E)
def Xt(c:UInt8):Bool:=nY c||TZ c||Xs c||((c.toNat:Int) == 95)
def KO(s:List UInt8):Bool:=match s with
 |[]=>false
 |c::t=>decide ((((c::t).length:Nat):Int)≤12)&&(nY c||TZ c)&&(c::t).all Xt
theorem KP(hE:cS E){s:List UInt8}(hs:s.length≤bH)(H:List ae):M.run sf [.str s] H=some (.ret (.bool (KO s)),H):=by
 rw [aZ M hE.name rfl (c:=BY) rfl,BY]
 have h2:∀ (T:TypeId) (c:UInt8),M.run lM ([] ++ .int .u8 c.toNat::[.ptr H.length 0]) (H++[.cells [.fn (.func gg) [] []] T])=some (.ret (.bool (Xt c)),H++[.cells [.fn (.func gg) [] []] T]):=fun T c=>SH M hE.letter hE.name1 hE.name2 c
 have ha:=fun T=>JN M hE.all (g:=lM) (fr:=[]) (cap:=[.ptr H.length 0]) hs (h2 T)
 cases s with
 |nil=>
  simp +contextual -implicitDefEqProofs only [am1 M,am2,am3,am4,am5,setRow_nil,setRow_cons,List.set_cons_zero,List.length_cons,List.length_nil,Nat.zero_add,Nat.le_refl,List.all_cons,List.all_nil,AV.cell,List.cons_append,↓ak,Nat.reduceBEq,Nat.reduceAdd,env,ao,beq_true,beq_false,decide_true,decide_false,Bool.and_true,Bool.true_and,Bool.and_false,Bool.false_and,List.nil_append,List.append_nil,(show iR.res=[.t 2] from rfl),(show iR.mode = .drop from rfl),(show iR.dfr=none from rfl),ha,Iu M hE.letter hE.name1,KO,List.length_nil,List.getElem?_nil,(show decide ((1:Int)≤((0:Nat):Int))=false from rfl)]
 |cons c t=>
  have hlen:decide ((1:Int)≤((t.length+1:Nat):Int))=true:=decide_eq_true (by omega)
  simp +contextual -implicitDefEqProofs only [am1 M,am2,am3,am4,am5,setRow_nil,setRow_cons,List.set_cons_zero,List.length_cons,List.length_nil,Nat.zero_add,Nat.le_refl,List.all_cons,List.all_nil,AV.cell,List.cons_append,↓ak,Nat.reduceBEq,Nat.reduceAdd,env,ao,beq_true,beq_false,decide_true,decide_false,Bool.and_true,Bool.true_and,Bool.and_false,Bool.false_and,List.nil_append,List.append_nil,(show iR.res=[.t 2] from rfl),(show iR.mode = .drop from rfl),(show iR.dfr=none from rfl),ha,Iu M hE.letter hE.name1,KO,List.getElem?_cons_zero,hlen]
end
section
attribute [local congr] aG wg aH a7 aN aI aA aC aO aP
variable{E:bB}(M:cT cU E)
end
section
attribute [local congr] aG wg aH a7 aN aI aA aC aO aP
variable{E:bB}(M:cT cU E)
def ofF(more:List UInt8)(s:List UInt8):Bool:=s.all fun c=>nY c||more.any fun d=>c.toNat == d.toNat
theorem RD(s:List UInt8):ofF [] s=s.all nY:=by
 simp only [ofF,List.any_nil,Bool.or_false]
end
section
attribute [local congr] aG wg aH a7 aN aI aA aC aO aP
variable{E:bB}(M:cT cU E)
end
section
attribute [local congr] aG ct bm aH a7 aN aI aA aC aO aP
variable{E:bB}(M:cT cU E)
def C6{α:Type}(p:α→Bool):Nat→α→Option AV:=fun i x=>sel (p x) (some (.int .i64 (i:Int))) none
def C7{α:Type}(p:α→Bool):Nat→List α→Int
 |_,[] => -1
 |i,x::l=>sel (p x) (i:Int) (C7 p (i+1) l)
theorem pN{α:Type}(p:α→Bool):∀ (l:List α) (i:Nat) (H:List ae),orE (fI (C6 p) i l) H (some (.ret (.int .i64 (-1)),H))=some (.ret (.int .i64 (C7 p i l)),H)
 |[],i,H=>rfl
 |x::l,i,H=>by
  rw [uv,C6,C7,JM,JL,G4,G5,G3,pN p l]
  cases p x<;>rfl
theorem vS{α:Type}(p:α→Bool):∀ (l:List α) (i:Nat),decide ((0:Int)≤C7 p i l)=l.any p
 |[],i=>rfl
 |x::l,i=>by
  rw [C7,List.any_cons,← vS p l (i+1)]
  cases p x with
  |true=>simp only [sel,Bool.true_or];exact decide_eq_true (by omega)
  |false=>simp only [sel,Bool.false_or];rfl
theorem MM{H H0:List ae}{g:Nat}{fr cap:List AV}{p:bE→Bool}{tg:Tag}{l:List bE}(hs:l.length≤bH)(hp:∀ x∈l,M.run g (fr ++ .agg (bE.row x)::cap) H=some (.ret (.bool (p x)),H))(hc:dG H0 H)(k:List Fra):∀ (n i:Nat) (He:List ae),i+n=l.length →
  M.go aR H0 (.c cb :: .lp ⟨(some [0,1,7,8]),[],false⟩ cb He :: .blk 0 :: .c (.lv [])::k) (kv [(0,.slice tg 2 (l.map bE.row)),(1,.fn (.func g) fr cap),(7,.int .i64 l.length),(8,.int .i64 i)]) H =
   orE (fI (C6 p) i (l.drop i)) (H.take H0.length) (M.go aR H0 k .leaf H)
 |0,i,He,h=>by
  have e:i=l.length:=by omega
  subst e
  rw [aw M cb.eq_1]
  simp (maxSteps:=3000000) (maxDischargeDepth:=6) +contextual -implicitDefEqProofs only [amA M,amB,↓aj,↓ab,↓al,↓ak,Nat.reduceBEq,Nat.reduceAdd,env,ao,fy,Nat.lt_irrefl,List.drop_length]
 |n+1,i,He,h=>by
  have hi:i<l.length:=by omega
  have hx:l[i]?=some l[i]:=List.getElem?_eq_getElem hi
  have hd:(l.drop i)=l[i]::l.drop (i+1):=List.drop_eq_getElem_cons hi
  have hm:l[i]∈l:=List.getElem_mem hi
  have ih:=fun He=>MM (H:=H) (H0:=H0) (g:=g) (fr:=fr) (cap:=cap) (p:=p) (tg:=tg) (l:=l) (hs:=hs) (hp:=hp) hc k n (i+1)  He (by omega)
  simp only [kv_cons,kv_nil] at ih
  rw [aw M cb.eq_1]
  simp (maxSteps:=3000000) (maxDischargeDepth:=6) +contextual -implicitDefEqProofs only [amA M,amB,↓aj,↓ab,↓al,↓ak,Nat.reduceBEq,Nat.reduceAdd,env,ao,fy,hx,hd,hi,ih,hp,hm,cY hi hs,bz hi,uT,C6,hc]
theorem vv(hf:E.fn bQ=some aR){g:Nat}{fr cap:List AV}{p:bE→Bool}{tg:Tag}{l:List bE}(hs:l.length≤bH){H:List ae}
  (hp:∀ x∈l,M.run g (fr ++ .agg (bE.row x)::cap) H=some (.ret (.bool (p x)),H)) :
  M.run bQ [.slice tg 2 (l.map bE.row),.fn (.func g) fr cap] H=some (.ret (.int .i64 (C7 p 0 l)),H):=by
 rw [aZ M hf rfl (c:=fx) rfl,fx]
 have hl:=fun k He=>MM M (tg:=tg) hs hp (cut_refl H) k l.length 0 He (by omega)
 simp only [kv_cons,kv_nil,Int.ofNat_zero,List.drop_zero] at hl
 simp (maxSteps:=3000000) (maxDischargeDepth:=6) +contextual -implicitDefEqProofs only [amA M,amB,↓aj,↓ab,↓al,↓ak,Nat.reduceBEq,Nat.reduceAdd,env,ao,fy,hl]
 exact pN p l 0 H
theorem B7(hf:E.fn bQ=some aR)(hg:E.fn dh=some bc){g:Nat}{fr cap:List AV}{p:bE→Bool}{tg:Tag}{l:List bE}(hs:l.length≤bH){H:List ae}
  (hp:∀ x∈l,M.run g (fr ++ .agg (bE.row x)::cap) H=some (.ret (.bool (p x)),H)) :
  M.run dh [.slice tg 2 (l.map bE.row),.fn (.func g) fr cap] H=some (.ret (.bool (l.any p)),H):=by
 rw [aZ M hg rfl (c:=eG) rfl,eG]
 simp (maxSteps:=3000000) (maxDischargeDepth:=6) +contextual -implicitDefEqProofs only [amA M,amB,↓aj,↓ab,↓al,↓ak,Nat.reduceBEq,Nat.reduceAdd,env,ao,nN,vv M hf hs hp,vS]
theorem MN{H H0:List ae}{g:Nat}{fr cap:List AV}{p:a6→Bool}{tg:Tag}{l:List a6}(hs:l.length≤bH)(hp:∀ x∈l,M.run g (fr ++ .agg (a6.row x)::cap) H=some (.ret (.bool (p x)),H))(hc:dG H0 H)(k:List Fra):∀ (n i:Nat) (He:List ae),i+n=l.length →
  M.go aS H0 (.c cf :: .lp ⟨(some [0,1,7,8]),[],false⟩ cf He :: .blk 0 :: .c (.lv [])::k) (kv [(0,.slice tg 2 (l.map a6.row)),(1,.fn (.func g) fr cap),(7,.int .i64 l.length),(8,.int .i64 i)]) H =
   orE (fI (C6 p) i (l.drop i)) (H.take H0.length) (M.go aS H0 k .leaf H)
 |0,i,He,h=>by
  have e:i=l.length:=by omega
  subst e
  rw [aw M cf.eq_1]
  simp (maxSteps:=3000000) (maxDischargeDepth:=6) +contextual -implicitDefEqProofs only [amA M,amB,↓aj,↓ab,↓al,↓ak,Nat.reduceBEq,Nat.reduceAdd,env,ao,fB,Nat.lt_irrefl,List.drop_length]
 |n+1,i,He,h=>by
  have hi:i<l.length:=by omega
  have hx:l[i]?=some l[i]:=List.getElem?_eq_getElem hi
  have hd:(l.drop i)=l[i]::l.drop (i+1):=List.drop_eq_getElem_cons hi
  have hm:l[i]∈l:=List.getElem_mem hi
  have ih:=fun He=>MN (H:=H) (H0:=H0) (g:=g) (fr:=fr) (cap:=cap) (p:=p) (tg:=tg) (l:=l) (hs:=hs) (hp:=hp) hc k n (i+1)  He (by omega)
  simp only [kv_cons,kv_nil] at ih
  rw [aw M cf.eq_1]
  simp (maxSteps:=3000000) (maxDischargeDepth:=6) +contextual -implicitDefEqProofs only [amA M,amB,↓aj,↓ab,↓al,↓ak,Nat.reduceBEq,Nat.reduceAdd,env,ao,fB,hx,hd,hi,ih,hp,hm,cY hi hs,bz hi,ku,C6,hc]
theorem qe(hf:E.fn bR=some aS){g:Nat}{fr cap:List AV}{p:a6→Bool}{tg:Tag}{l:List a6}(hs:l.length≤bH){H:List ae}
  (hp:∀ x∈l,M.run g (fr ++ .agg (a6.row x)::cap) H=some (.ret (.bool (p x)),H)) :
  M.run bR [.slice tg 2 (l.map a6.row),.fn (.func g) fr cap] H=some (.ret (.int .i64 (C7 p 0 l)),H):=by
 rw [aZ M hf rfl (c:=fA) rfl,fA]
 have hl:=fun k He=>MN M (tg:=tg) hs hp (cut_refl H) k l.length 0 He (by omega)
 simp only [kv_cons,kv_nil,Int.ofNat_zero,List.drop_zero] at hl
 simp (maxSteps:=3000000) (maxDischargeDepth:=6) +contextual -implicitDefEqProofs only [amA M,amB,↓aj,↓ab,↓al,↓ak,Nat.reduceBEq,Nat.reduceAdd,env,ao,fB,hl]
 exact pN p l 0 H
theorem B8(hf:E.fn bR=some aS)(hg:E.fn di=some bf){g:Nat}{fr cap:List AV}{p:a6→Bool}{tg:Tag}{l:List a6}(hs:l.length≤bH){H:List ae}
  (hp:∀ x∈l,M.run g (fr ++ .agg (a6.row x)::cap) H=some (.ret (.bool (p x)),H)) :
  M.run di [.slice tg 2 (l.map a6.row),.fn (.func g) fr cap] H=some (.ret (.bool (l.any p)),H):=by
 rw [aZ M hg rfl (c:=eH) rfl,eH]
 simp (maxSteps:=3000000) (maxDischargeDepth:=6) +contextual -implicitDefEqProofs only [amA M,amB,↓aj,↓ab,↓al,↓ak,Nat.reduceBEq,Nat.reduceAdd,env,ao,nO,qe M hf hs hp,vS]
theorem MO{H H0:List ae}{g:Nat}{fr cap:List AV}{p:bV→Bool}{tg:Tag}{l:List bV}(hs:l.length≤bH)(hp:∀ x∈l,M.run g (fr ++ .agg (bV.row x)::cap) H=some (.ret (.bool (p x)),H))(hc:dG H0 H)(k:List Fra):∀ (n i:Nat) (He:List ae),i+n=l.length →
  M.go aE H0 (.c bF :: .lp ⟨(some [0,1,7,8]),[],false⟩ bF He :: .blk 0 :: .c (.lv [])::k) (kv [(0,.slice tg 2 (l.map bV.row)),(1,.fn (.func g) fr cap),(7,.int .i64 l.length),(8,.int .i64 i)]) H =
   orE (fI (C6 p) i (l.drop i)) (H.take H0.length) (M.go aE H0 k .leaf H)
 |0,i,He,h=>by
  have e:i=l.length:=by omega
  subst e
  rw [aw M bF.eq_1]
  simp (maxSteps:=3000000) (maxDischargeDepth:=6) +contextual -implicitDefEqProofs only [amA M,amB,↓aj,↓ab,↓al,↓ak,Nat.reduceBEq,Nat.reduceAdd,env,ao,dP,Nat.lt_irrefl,List.drop_length]
 |n+1,i,He,h=>by
  have hi:i<l.length:=by omega
  have hx:l[i]?=some l[i]:=List.getElem?_eq_getElem hi
  have hd:(l.drop i)=l[i]::l.drop (i+1):=List.drop_eq_getElem_cons hi
  have hm:l[i]∈l:=List.getElem_mem hi
  have ih:=fun He=>MO (H:=H) (H0:=H0) (g:=g) (fr:=fr) (cap:=cap) (p:=p) (tg:=tg) (l:=l) (hs:=hs) (hp:=hp) hc k n (i+1)  He (by omega)
  simp only [kv_cons,kv_nil] at ih
  rw [aw M bF.eq_1]
  simp (maxSteps:=3000000) (maxDischargeDepth:=6) +contextual -implicitDefEqProofs only [amA M,amB,↓aj,↓ab,↓al,↓ak,Nat.reduceBEq,Nat.reduceAdd,env,ao,dP,hx,hd,hi,ih,hp,hm,cY hi hs,bz hi,H9,C6,hc]
theorem Fh(hf:E.fn bK=some aE){g:Nat}{fr cap:List AV}{p:bV→Bool}{tg:Tag}{l:List bV}(hs:l.length≤bH){H:List ae}
  (hp:∀ x∈l,M.run g (fr ++ .agg (bV.row x)::cap) H=some (.ret (.bool (p x)),H)) :
  M.run bK [.slice tg 2 (l.map bV.row),.fn (.func g) fr cap] H=some (.ret (.int .i64 (C7 p 0 l)),H):=by
 rw [aZ M hf rfl (c:=dO) rfl,dO]
 have hl:=fun k He=>MO M (tg:=tg) hs hp (cut_refl H) k l.length 0 He (by omega)
 simp only [kv_cons,kv_nil,Int.ofNat_zero,List.drop_zero] at hl
 simp (maxSteps:=3000000) (maxDischargeDepth:=6) +contextual -implicitDefEqProofs only [amA M,amB,↓aj,↓ab,↓al,↓ak,Nat.reduceBEq,Nat.reduceAdd,env,ao,dP,hl]
 exact pN p l 0 H
theorem B9(hf:E.fn bK=some aE)(hg:E.fn b5=some aU){g:Nat}{fr cap:List AV}{p:bV→Bool}{tg:Tag}{l:List bV}(hs:l.length≤bH){H:List ae}
  (hp:∀ x∈l,M.run g (fr ++ .agg (bV.row x)::cap) H=some (.ret (.bool (p x)),H)) :
  M.run b5 [.slice tg 2 (l.map bV.row),.fn (.func g) fr cap] H=some (.ret (.bool (l.any p)),H):=by
 rw [aZ M hg rfl (c:=dA) rfl,dA]
 simp (maxSteps:=3000000) (maxDischargeDepth:=6) +contextual -implicitDefEqProofs only [amA M,amB,↓aj,↓ab,↓al,↓ak,Nat.reduceBEq,Nat.reduceAdd,env,ao,ki,Fh M hf hs hp,vS]
theorem MP{H H0:List ae}{g:Nat}{fr cap:List AV}{p:aF→Bool}{tg:Tag}{l:List aF}(hs:l.length≤bH)(hp:∀ x∈l,M.run g (fr ++ .agg (aF.row x)::cap) H=some (.ret (.bool (p x)),H))(hc:dG H0 H)(k:List Fra):∀ (n i:Nat) (He:List ae),i+n=l.length →
  M.go aT H0 (.c cg :: .lp ⟨(some [0,1,7,8]),[],false⟩ cg He :: .blk 0 :: .c (.lv [])::k) (kv [(0,.slice tg 4 (l.map aF.row)),(1,.fn (.func g) fr cap),(7,.int .i64 l.length),(8,.int .i64 i)]) H =
   orE (fI (C6 p) i (l.drop i)) (H.take H0.length) (M.go aT H0 k .leaf H)
 |0,i,He,h=>by
  have e:i=l.length:=by omega
  subst e
  rw [aw M cg.eq_1]
  simp (maxSteps:=3000000) (maxDischargeDepth:=6) +contextual -implicitDefEqProofs only [amA M,amB,↓aj,↓ab,↓al,↓ak,Nat.reduceBEq,Nat.reduceAdd,env,ao,fD,Nat.lt_irrefl,List.drop_length]
 |n+1,i,He,h=>by
  have hi:i<l.length:=by omega
  have hx:l[i]?=some l[i]:=List.getElem?_eq_getElem hi
  have hd:(l.drop i)=l[i]::l.drop (i+1):=List.drop_eq_getElem_cons hi
  have hm:l[i]∈l:=List.getElem_mem hi
  have ih:=fun He=>MP (H:=H) (H0:=H0) (g:=g) (fr:=fr) (cap:=cap) (p:=p) (tg:=tg) (l:=l) (hs:=hs) (hp:=hp) hc k n (i+1)  He (by omega)
  simp only [kv_cons,kv_nil] at ih
  rw [aw M cg.eq_1]
  simp (maxSteps:=3000000) (maxDischargeDepth:=6) +contextual -implicitDefEqProofs only [amA M,amB,↓aj,↓ab,↓al,↓ak,Nat.reduceBEq,Nat.reduceAdd,env,ao,fD,hx,hd,hi,ih,hp,hm,cY hi hs,bz hi,eU,C6,hc]
theorem Fi(hf:E.fn cG=some aT){g:Nat}{fr cap:List AV}{p:aF→Bool}{tg:Tag}{l:List aF}(hs:l.length≤bH){H:List ae}
  (hp:∀ x∈l,M.run g (fr ++ .agg (aF.row x)::cap) H=some (.ret (.bool (p x)),H)) :
  M.run cG [.slice tg 4 (l.map aF.row),.fn (.func g) fr cap] H=some (.ret (.int .i64 (C7 p 0 l)),H):=by
 rw [aZ M hf rfl (c:=fC) rfl,fC]
 have hl:=fun k He=>MP M (tg:=tg) hs hp (cut_refl H) k l.length 0 He (by omega)
 simp only [kv_cons,kv_nil,Int.ofNat_zero,List.drop_zero] at hl
 simp (maxSteps:=3000000) (maxDischargeDepth:=6) +contextual -implicitDefEqProofs only [amA M,amB,↓aj,↓ab,↓al,↓ak,Nat.reduceBEq,Nat.reduceAdd,env,ao,fD,hl]
 exact pN p l 0 H
theorem Ca(hf:E.fn cG=some aT)(hg:E.fn dj=some bg){g:Nat}{fr cap:List AV}{p:aF→Bool}{tg:Tag}{l:List aF}(hs:l.length≤bH){H:List ae}
  (hp:∀ x∈l,M.run g (fr ++ .agg (aF.row x)::cap) H=some (.ret (.bool (p x)),H)) :
  M.run dj [.slice tg 4 (l.map aF.row),.fn (.func g) fr cap] H=some (.ret (.bool (l.any p)),H):=by
 rw [aZ M hg rfl (c:=eI) rfl,eI]
 simp (maxSteps:=3000000) (maxDischargeDepth:=6) +contextual -implicitDefEqProofs only [amA M,amB,↓aj,↓ab,↓al,↓ak,Nat.reduceBEq,Nat.reduceAdd,env,ao,nP,Fi M hf hs hp,vS]
theorem O5{H H0:List ae}{g:Nat}{fr cap:List AV}{p:aq→Bool}{tg:Tag}{l:List aq}(hs:l.length≤bH)(hp:∀ x∈l,M.run g (fr ++ .agg (aq.row x)::cap) H=some (.ret (.bool (p x)),H))(hc:dG H0 H)(k:List Fra):∀ (n i:Nat) (He:List ae),i+n=l.length →
  M.go aX H0 (.c cH :: .lp ⟨(some [0,1,7,8]),[],false⟩ cH He :: .blk 0 :: .c (.lv [])::k) (kv [(0,.slice tg 2 (l.map aq.row)),(1,.fn (.func g) fr cap),(7,.int .i64 l.length),(8,.int .i64 i)]) H =
   orE (fI (C6 p) i (l.drop i)) (H.take H0.length) (M.go aX H0 k .leaf H)
 |0,i,He,h=>by
  have e:i=l.length:=by omega
  subst e
  rw [aw M cH.eq_1]
  simp (maxSteps:=3000000) (maxDischargeDepth:=6) +contextual -implicitDefEqProofs only [amA M,amB,↓aj,↓ab,↓al,↓ak,Nat.reduceBEq,Nat.reduceAdd,env,ao,fU,Nat.lt_irrefl,List.drop_length]
 |n+1,i,He,h=>by
  have hi:i<l.length:=by omega
  have hx:l[i]?=some l[i]:=List.getElem?_eq_getElem hi
  have hd:(l.drop i)=l[i]::l.drop (i+1):=List.drop_eq_getElem_cons hi
  have hm:l[i]∈l:=List.getElem_mem hi
  have ih:=fun He=>O5 (H:=H) (H0:=H0) (g:=g) (fr:=fr) (cap:=cap) (p:=p) (tg:=tg) (l:=l) (hs:=hs) (hp:=hp) hc k n (i+1)  He (by omega)
  simp only [kv_cons,kv_nil] at ih
  rw [aw M cH.eq_1]
  simp (maxSteps:=3000000) (maxDischargeDepth:=6) +contextual -implicitDefEqProofs only [amA M,amB,↓aj,↓ab,↓al,↓ak,Nat.reduceBEq,Nat.reduceAdd,env,ao,fU,hx,hd,hi,ih,hp,hm,cY hi hs,bz hi,yQ,C6,hc]
theorem F8(hf:E.fn cV=some aX){g:Nat}{fr cap:List AV}{p:aq→Bool}{tg:Tag}{l:List aq}(hs:l.length≤bH){H:List ae}
  (hp:∀ x∈l,M.run g (fr ++ .agg (aq.row x)::cap) H=some (.ret (.bool (p x)),H)) :
  M.run cV [.slice tg 2 (l.map aq.row),.fn (.func g) fr cap] H=some (.ret (.int .i64 (C7 p 0 l)),H):=by
 rw [aZ M hf rfl (c:=fT) rfl,fT]
 have hl:=fun k He=>O5 M (tg:=tg) hs hp (cut_refl H) k l.length 0 He (by omega)
 simp only [kv_cons,kv_nil,Int.ofNat_zero,List.drop_zero] at hl
 simp (maxSteps:=3000000) (maxDischargeDepth:=6) +contextual -implicitDefEqProofs only [amA M,amB,↓aj,↓ab,↓al,↓ak,Nat.reduceBEq,Nat.reduceAdd,env,ao,fU,hl]
 exact pN p l 0 H
theorem oY(hf:E.fn cV=some aX)(hg:E.fn bN=some bn){g:Nat}{fr cap:List AV}{p:aq→Bool}{tg:Tag}{l:List aq}(hs:l.length≤bH){H:List ae}
  (hp:∀ x∈l,M.run g (fr ++ .agg (aq.row x)::cap) H=some (.ret (.bool (p x)),H)) :
  M.run bN [.slice tg 2 (l.map aq.row),.fn (.func g) fr cap] H=some (.ret (.bool (l.any p)),H):=by
 rw [aZ M hg rfl (c:=fk) rfl,fk]
 simp (maxSteps:=3000000) (maxDischargeDepth:=6) +contextual -implicitDefEqProofs only [amA M,amB,↓aj,↓ab,↓al,↓ak,Nat.reduceBEq,Nat.reduceAdd,env,ao,o9,F8 M hf hs hp,vS]
theorem O6{H H0:List ae}{g:Nat}{fr cap:List AV}{p:br→Bool}{tg:Tag}{l:List br}(hs:l.length≤bH)(hp:∀ x∈l,M.run g (fr ++ .agg (br.row x)::cap) H=some (.ret (.bool (p x)),H))(hc:dG H0 H)(k:List Fra):∀ (n i:Nat) (He:List ae),i+n=l.length →
  M.go aY H0 (.c cI :: .lp ⟨(some [0,1,7,8]),[],false⟩ cI He :: .blk 0 :: .c (.lv [])::k) (kv [(0,.slice tg 4 (l.map br.row)),(1,.fn (.func g) fr cap),(7,.int .i64 l.length),(8,.int .i64 i)]) H =
   orE (fI (C6 p) i (l.drop i)) (H.take H0.length) (M.go aY H0 k .leaf H)
 |0,i,He,h=>by
  have e:i=l.length:=by omega
  subst e
  rw [aw M cI.eq_1]
  simp (maxSteps:=3000000) (maxDischargeDepth:=6) +contextual -implicitDefEqProofs only [amA M,amB,↓aj,↓ab,↓al,↓ak,Nat.reduceBEq,Nat.reduceAdd,env,ao,fW,Nat.lt_irrefl,List.drop_length]
 |n+1,i,He,h=>by
  have hi:i<l.length:=by omega
  have hx:l[i]?=some l[i]:=List.getElem?_eq_getElem hi
  have hd:(l.drop i)=l[i]::l.drop (i+1):=List.drop_eq_getElem_cons hi
  have hm:l[i]∈l:=List.getElem_mem hi
  have ih:=fun He=>O6 (H:=H) (H0:=H0) (g:=g) (fr:=fr) (cap:=cap) (p:=p) (tg:=tg) (l:=l) (hs:=hs) (hp:=hp) hc k n (i+1)  He (by omega)
  simp only [kv_cons,kv_nil] at ih
  rw [aw M cI.eq_1]
  simp (maxSteps:=3000000) (maxDischargeDepth:=6) +contextual -implicitDefEqProofs only [amA M,amB,↓aj,↓ab,↓al,↓ak,Nat.reduceBEq,Nat.reduceAdd,env,ao,fW,hx,hd,hi,ih,hp,hm,cY hi hs,bz hi,iS,C6,hc]
theorem F9(hf:E.fn cW=some aY){g:Nat}{fr cap:List AV}{p:br→Bool}{tg:Tag}{l:List br}(hs:l.length≤bH){H:List ae}
  (hp:∀ x∈l,M.run g (fr ++ .agg (br.row x)::cap) H=some (.ret (.bool (p x)),H)) :
  M.run cW [.slice tg 4 (l.map br.row),.fn (.func g) fr cap] H=some (.ret (.int .i64 (C7 p 0 l)),H):=by
 rw [aZ M hf rfl (c:=fV) rfl,fV]
 have hl:=fun k He=>O6 M (tg:=tg) hs hp (cut_refl H) k l.length 0 He (by omega)
 simp only [kv_cons,kv_nil,Int.ofNat_zero,List.drop_zero] at hl
 simp (maxSteps:=3000000) (maxDischargeDepth:=6) +contextual -implicitDefEqProofs only [amA M,amB,↓aj,↓ab,↓al,↓ak,Nat.reduceBEq,Nat.reduceAdd,env,ao,fW,hl]
 exact pN p l 0 H
theorem C8(hf:E.fn cW=some aY)(hg:E.fn dE=some bo){g:Nat}{fr cap:List AV}{p:br→Bool}{tg:Tag}{l:List br}(hs:l.length≤bH){H:List ae}
  (hp:∀ x∈l,M.run g (fr ++ .agg (br.row x)::cap) H=some (.ret (.bool (p x)),H)) :
  M.run dE [.slice tg 4 (l.map br.row),.fn (.func g) fr cap] H=some (.ret (.bool (l.any p)),H):=by
 rw [aZ M hg rfl (c:=fm) rfl,fm]
 simp (maxSteps:=3000000) (maxDischargeDepth:=6) +contextual -implicitDefEqProofs only [amA M,amB,↓aj,↓ab,↓al,↓ak,Nat.reduceBEq,Nat.reduceAdd,env,ao,pa,F9 M hf hs hp,vS]
end
section
attribute [local congr] aG ct bm aH a7 aN aI aA aC aO aP
variable{E:bB}(M:cT cU E)
def xv{α:Type}(F:Nat→α→Int):Nat→α→Option AV:=fun i x=>sel (!(F i x == 0)) (some (.int .u8 (F i x))) none
def Cb{α:Type}(F:Nat→α→Int):Nat→List α→Int
 |_,[]=>0
 |i,x::l=>sel (!(F i x == 0)) (F i x) (Cb F (i+1) l)
theorem mb{α:Type}(F:Nat→α→Int):∀ (l:List α) (i:Nat) (H:List ae),orE (fI (xv F) i l) H (some (.ret (.int .u8 0),H))=some (.ret (.int .u8 (Cb F i l)),H)
 |[],i,H=>rfl
 |x::l,i,H=>by
  rw [uv,xv,Cb,JM,JL,G4,G5,G3,mb F l]
  cases (!(F i x == 0))<;>rfl
def pD{α:Type}(most:Int)(F:Nat→α→Int)(l:List α):Int:=sel (decide (most<(l.length:Int))) 3 (Cb F 0 l)
theorem KQ{H H0:List ae}{g:Nat}{fr cap:List AV}{F:Nat→bE→Int}{tg:Tag}{l:List bE}(hs:l.length≤bH)(hfw:Wk H.length (.fn (.func g) fr cap) (.fn (.func g) fr cap))(hlw:Wk H.length (.slice tg 2 (l.map bE.row)) (.slice tg 2 (l.map bE.row)))(hp:∀ (L:List ae) (i:Nat) (x:bE),l[i]?=some x→M.run g (fr ++ .int .i64 i :: .agg (bE.row x)::cap) (H++L)=some (.ret (.int .u8 (F i x)),H++L))(hc:dG H0 H)(k:List Fra):∀ (n i:Nat),i+n=l.length →
  M.go cw H0 (.c gi :: .lp ⟨(some [2,14,15,16]),[],true⟩ gi H :: .blk 0 :: .c (.lv [])::k) (kv [(2,.fn (.func g) fr cap),(14,.slice tg 2 (l.map bE.row)),(15,.int .i64 l.length),(16,.int .i64 i)]) H =
   orE (fI (xv F) i (l.drop i)) (H.take H0.length) (M.go cw H0 k .leaf H)
 |0,i,h=>by
  have e:i=l.length:=by omega
  subst e
  rw [aw M gi.eq_1]
  simp (maxSteps:=3000000) (maxDischargeDepth:=6) +contextual -implicitDefEqProofs only [amA M,amB,↓aj,↓ab,↓al,↓ak,Nat.reduceBEq,Nat.reduceAdd,env,ao,mZ,Nat.lt_irrefl,List.drop_length]
 |n+1,i,h=>by
  have hi:i<l.length:=by omega
  have hx:l[i]?=some l[i]:=List.getElem?_eq_getElem hi
  have hd:(l.drop i)=l[i]::l.drop (i+1):=List.drop_eq_getElem_cons hi
  have hm:l[i]∈l:=List.getElem_mem hi
  have ih:=KQ (H:=H) (H0:=H0) (g:=g) (fr:=fr) (cap:=cap) (F:=F) (tg:=tg) (l:=l) (hs:=hs) (hfw:=hfw) (hlw:=hlw) (hp:=hp) hc k n (i+1)  (by omega)
  simp only [kv_cons,kv_nil] at ih
  have hp:=fun L=>hp L i l[i] hx
  rw [aw M gi.eq_1]
  simp (maxSteps:=3000000) (maxDischargeDepth:=6) +contextual -implicitDefEqProofs only [amA M,amB,↓aj,↓ab,↓al,↓ak,Nat.reduceBEq,Nat.reduceAdd,env,ao,mZ,hx,hd,hi,ih,amG,AV.cell,hp,hfw,hlw,cY hi hs,bz hi,uT,xv,hc]
theorem KR(hf:E.fn jG=some cw){g:Nat}{fr cap:List AV}{F:Nat→bE→Int}{tg:Tag}{l:List bE}{H:List ae}(hs:l.length≤bH)(hfw:Wk H.length (.fn (.func g) fr cap) (.fn (.func g) fr cap))(hlw:Wk H.length (.slice tg 2 (l.map bE.row)) (.slice tg 2 (l.map bE.row)))
  (hp:∀ (L:List ae) (i:Nat) (x:bE),l[i]?=some x→M.run g (fr ++ .int .i64 i :: .agg (bE.row x)::cap) (H++L)=some (.ret (.int .u8 (F i x)),H++L)) (most:Int) :
  M.run jG [.slice tg 2 (l.map bE.row),.int .i64 most,.fn (.func g) fr cap] H=some (.ret (.int .u8 (pD most F l)),H):=by
 rw [aZ M hf rfl (c:=mY) rfl,mY]
 have hl:=fun k=>KQ M (tg:=tg) hs hfw hlw hp (cut_refl H) k l.length 0 (by omega)
 simp only [kv_cons,kv_nil,Int.ofNat_zero,List.drop_zero] at hl
 simp (maxSteps:=3000000) (maxDischargeDepth:=6) +contextual -implicitDefEqProofs only [amA M,amB,↓aj,↓ab,↓al,↓ak,Nat.reduceBEq,Nat.reduceAdd,env,ao,mZ,hl]
 rw [mb,pD]
 cases decide (most<(l.length:Int))<;>rfl
theorem MQ{H H0:List ae}{g:Nat}{fr cap:List AV}{F:Nat→aq→Int}{tg:Tag}{l:List aq}(hs:l.length≤bH)(hfw:Wk H.length (.fn (.func g) fr cap) (.fn (.func g) fr cap))(hlw:Wk H.length (.slice tg 2 (l.map aq.row)) (.slice tg 2 (l.map aq.row)))(hp:∀ (L:List ae) (i:Nat) (x:aq),l[i]?=some x→M.run g (fr ++ .int .i64 i :: .agg (aq.row x)::cap) (H++L)=some (.ret (.int .u8 (F i x)),H++L))(hc:dG H0 H)(k:List Fra):∀ (n i:Nat),i+n=l.length →
  M.go cQ H0 (.c gV :: .lp ⟨(some [2,14,15,16]),[],true⟩ gV H :: .blk 0 :: .c (.lv [])::k) (kv [(2,.fn (.func g) fr cap),(14,.slice tg 2 (l.map aq.row)),(15,.int .i64 l.length),(16,.int .i64 i)]) H =
   orE (fI (xv F) i (l.drop i)) (H.take H0.length) (M.go cQ H0 k .leaf H)
 |0,i,h=>by
  have e:i=l.length:=by omega
  subst e
  rw [aw M gV.eq_1]
  simp (maxSteps:=3000000) (maxDischargeDepth:=6) +contextual -implicitDefEqProofs only [amA M,amB,↓aj,↓ab,↓al,↓ak,Nat.reduceBEq,Nat.reduceAdd,env,ao,oQ,Nat.lt_irrefl,List.drop_length]
 |n+1,i,h=>by
  have hi:i<l.length:=by omega
  have hx:l[i]?=some l[i]:=List.getElem?_eq_getElem hi
  have hd:(l.drop i)=l[i]::l.drop (i+1):=List.drop_eq_getElem_cons hi
  have hm:l[i]∈l:=List.getElem_mem hi
  have ih:=MQ (H:=H) (H0:=H0) (g:=g) (fr:=fr) (cap:=cap) (F:=F) (tg:=tg) (l:=l) (hs:=hs) (hfw:=hfw) (hlw:=hlw) (hp:=hp) hc k n (i+1)  (by omega)
  simp only [kv_cons,kv_nil] at ih
  have hp:=fun L=>hp L i l[i] hx
  rw [aw M gV.eq_1]
  simp (maxSteps:=3000000) (maxDischargeDepth:=6) +contextual -implicitDefEqProofs only [amA M,amB,↓aj,↓ab,↓al,↓ak,Nat.reduceBEq,Nat.reduceAdd,env,ao,oQ,hx,hd,hi,ih,amG,AV.cell,hp,hfw,hlw,cY hi hs,bz hi,yQ,xv,hc]
theorem Md(hf:E.fn kg=some cQ){g:Nat}{fr cap:List AV}{F:Nat→aq→Int}{tg:Tag}{l:List aq}{H:List ae}(hs:l.length≤bH)(hfw:Wk H.length (.fn (.func g) fr cap) (.fn (.func g) fr cap))(hlw:Wk H.length (.slice tg 2 (l.map aq.row)) (.slice tg 2 (l.map aq.row)))
  (hp:∀ (L:List ae) (i:Nat) (x:aq),l[i]?=some x→M.run g (fr ++ .int .i64 i :: .agg (aq.row x)::cap) (H++L)=some (.ret (.int .u8 (F i x)),H++L)) (most:Int) :
  M.run kg [.slice tg 2 (l.map aq.row),.int .i64 most,.fn (.func g) fr cap] H=some (.ret (.int .u8 (pD most F l)),H):=by
 rw [aZ M hf rfl (c:=oP) rfl,oP]
 have hl:=fun k=>MQ M (tg:=tg) hs hfw hlw hp (cut_refl H) k l.length 0 (by omega)
 simp only [kv_cons,kv_nil,Int.ofNat_zero,List.drop_zero] at hl
 simp (maxSteps:=3000000) (maxDischargeDepth:=6) +contextual -implicitDefEqProofs only [amA M,amB,↓aj,↓ab,↓al,↓ak,Nat.reduceBEq,Nat.reduceAdd,env,ao,oQ,hl]
 rw [mb,pD]
 cases decide (most<(l.length:Int))<;>rfl
theorem MR{H H0:List ae}{g:Nat}{fr cap:List AV}{F:Nat→br→Int}{tg:Tag}{l:List br}(hs:l.length≤bH)(hfw:Wk H.length (.fn (.func g) fr cap) (.fn (.func g) fr cap))(hlw:Wk H.length (.slice tg 4 (l.map br.row)) (.slice tg 4 (l.map br.row)))(hp:∀ (L:List ae) (i:Nat) (x:br),l[i]?=some x→M.run g (fr ++ .int .i64 i :: .agg (br.row x)::cap) (H++L)=some (.ret (.int .u8 (F i x)),H++L))(hc:dG H0 H)(k:List Fra):∀ (n i:Nat),i+n=l.length →
  M.go cP H0 (.c gT :: .lp ⟨(some [2,14,15,16]),[],true⟩ gT H :: .blk 0 :: .c (.lv [])::k) (kv [(2,.fn (.func g) fr cap),(14,.slice tg 4 (l.map br.row)),(15,.int .i64 l.length),(16,.int .i64 i)]) H =
   orE (fI (xv F) i (l.drop i)) (H.take H0.length) (M.go cP H0 k .leaf H)
 |0,i,h=>by
  have e:i=l.length:=by omega
  subst e
  rw [aw M gT.eq_1]
  simp (maxSteps:=3000000) (maxDischargeDepth:=6) +contextual -implicitDefEqProofs only [amA M,amB,↓aj,↓ab,↓al,↓ak,Nat.reduceBEq,Nat.reduceAdd,env,ao,oO,Nat.lt_irrefl,List.drop_length]
 |n+1,i,h=>by
  have hi:i<l.length:=by omega
  have hx:l[i]?=some l[i]:=List.getElem?_eq_getElem hi
  have hd:(l.drop i)=l[i]::l.drop (i+1):=List.drop_eq_getElem_cons hi
  have hm:l[i]∈l:=List.getElem_mem hi
  have ih:=MR (H:=H) (H0:=H0) (g:=g) (fr:=fr) (cap:=cap) (F:=F) (tg:=tg) (l:=l) (hs:=hs) (hfw:=hfw) (hlw:=hlw) (hp:=hp) hc k n (i+1)  (by omega)
  simp only [kv_cons,kv_nil] at ih
  have hp:=fun L=>hp L i l[i] hx
  rw [aw M gT.eq_1]
  simp (maxSteps:=3000000) (maxDischargeDepth:=6) +contextual -implicitDefEqProofs only [amA M,amB,↓aj,↓ab,↓al,↓ak,Nat.reduceBEq,Nat.reduceAdd,env,ao,oO,hx,hd,hi,ih,amG,AV.cell,hp,hfw,hlw,cY hi hs,bz hi,iS,xv,hc]
theorem Me(hf:E.fn kf=some cP){g:Nat}{fr cap:List AV}{F:Nat→br→Int}{tg:Tag}{l:List br}{H:List ae}(hs:l.length≤bH)(hfw:Wk H.length (.fn (.func g) fr cap) (.fn (.func g) fr cap))(hlw:Wk H.length (.slice tg 4 (l.map br.row)) (.slice tg 4 (l.map br.row)))
  (hp:∀ (L:List ae) (i:Nat) (x:br),l[i]?=some x→M.run g (fr ++ .int .i64 i :: .agg (br.row x)::cap) (H++L)=some (.ret (.int .u8 (F i x)),H++L)) (most:Int) :
  M.run kf [.slice tg 4 (l.map br.row),.int .i64 most,.fn (.func g) fr cap] H=some (.ret (.int .u8 (pD most F l)),H):=by
 rw [aZ M hf rfl (c:=oN) rfl,oN]
 have hl:=fun k=>MR M (tg:=tg) hs hfw hlw hp (cut_refl H) k l.length 0 (by omega)
 simp only [kv_cons,kv_nil,Int.ofNat_zero,List.drop_zero] at hl
 simp (maxSteps:=3000000) (maxDischargeDepth:=6) +contextual -implicitDefEqProofs only [amA M,amB,↓aj,↓ab,↓al,↓ak,Nat.reduceBEq,Nat.reduceAdd,env,ao,oO,hl]
 rw [mb,pD]
 cases decide (most<(l.length:Int))<;>rfl
theorem KS{H H0:List ae}{g:Nat}{fr cap:List AV}{F:Nat→a6→Int}{tg:Tag}{l:List a6}(hs:l.length≤bH)(hfw:Wk H.length (.fn (.func g) fr cap) (.fn (.func g) fr cap))(hlw:Wk H.length (.slice tg 2 (l.map a6.row)) (.slice tg 2 (l.map a6.row)))(hp:∀ (L:List ae) (i:Nat) (x:a6),l[i]?=some x→M.run g (fr ++ .int .i64 i :: .agg (a6.row x)::cap) (H++L)=some (.ret (.int .u8 (F i x)),H++L))(hc:dG H0 H)(k:List Fra):∀ (n i:Nat),i+n=l.length →
  M.go cA H0 (.c gj :: .lp ⟨(some [2,14,15,16]),[],true⟩ gj H :: .blk 0 :: .c (.lv [])::k) (kv [(2,.fn (.func g) fr cap),(14,.slice tg 2 (l.map a6.row)),(15,.int .i64 l.length),(16,.int .i64 i)]) H =
   orE (fI (xv F) i (l.drop i)) (H.take H0.length) (M.go cA H0 k .leaf H)
 |0,i,h=>by
  have e:i=l.length:=by omega
  subst e
  rw [aw M gj.eq_1]
  simp (maxSteps:=3000000) (maxDischargeDepth:=6) +contextual -implicitDefEqProofs only [amA M,amB,↓aj,↓ab,↓al,↓ak,Nat.reduceBEq,Nat.reduceAdd,env,ao,nb,Nat.lt_irrefl,List.drop_length]
 |n+1,i,h=>by
  have hi:i<l.length:=by omega
  have hx:l[i]?=some l[i]:=List.getElem?_eq_getElem hi
  have hd:(l.drop i)=l[i]::l.drop (i+1):=List.drop_eq_getElem_cons hi
  have hm:l[i]∈l:=List.getElem_mem hi
  have ih:=KS (H:=H) (H0:=H0) (g:=g) (fr:=fr) (cap:=cap) (F:=F) (tg:=tg) (l:=l) (hs:=hs) (hfw:=hfw) (hlw:=hlw) (hp:=hp) hc k n (i+1)  (by omega)
  simp only [kv_cons,kv_nil] at ih
  have hp:=fun L=>hp L i l[i] hx
  rw [aw M gj.eq_1]
  simp (maxSteps:=3000000) (maxDischargeDepth:=6) +contextual -implicitDefEqProofs only [amA M,amB,↓aj,↓ab,↓al,↓ak,Nat.reduceBEq,Nat.reduceAdd,env,ao,nb,hx,hd,hi,ih,amG,AV.cell,hp,hfw,hlw,cY hi hs,bz hi,ku,xv,hc]
theorem KT(hf:E.fn jH=some cA){g:Nat}{fr cap:List AV}{F:Nat→a6→Int}{tg:Tag}{l:List a6}{H:List ae}(hs:l.length≤bH)(hfw:Wk H.length (.fn (.func g) fr cap) (.fn (.func g) fr cap))(hlw:Wk H.length (.slice tg 2 (l.map a6.row)) (.slice tg 2 (l.map a6.row)))
  (hp:∀ (L:List ae) (i:Nat) (x:a6),l[i]?=some x→M.run g (fr ++ .int .i64 i :: .agg (a6.row x)::cap) (H++L)=some (.ret (.int .u8 (F i x)),H++L)) (most:Int) :
  M.run jH [.slice tg 2 (l.map a6.row),.int .i64 most,.fn (.func g) fr cap] H=some (.ret (.int .u8 (pD most F l)),H):=by
 rw [aZ M hf rfl (c:=na) rfl,na]
 have hl:=fun k=>KS M (tg:=tg) hs hfw hlw hp (cut_refl H) k l.length 0 (by omega)
 simp only [kv_cons,kv_nil,Int.ofNat_zero,List.drop_zero] at hl
 simp (maxSteps:=3000000) (maxDischargeDepth:=6) +contextual -implicitDefEqProofs only [amA M,amB,↓aj,↓ab,↓al,↓ak,Nat.reduceBEq,Nat.reduceAdd,env,ao,nb,hl]
 rw [mb,pD]
 cases decide (most<(l.length:Int))<;>rfl
theorem KU{H H0:List ae}{g:Nat}{fr cap:List AV}{F:Nat→aF→Int}{tg:Tag}{l:List aF}(hs:l.length≤bH)(hfw:Wk H.length (.fn (.func g) fr cap) (.fn (.func g) fr cap))(hlw:Wk H.length (.slice tg 4 (l.map aF.row)) (.slice tg 4 (l.map aF.row)))(hp:∀ (L:List ae) (i:Nat) (x:aF),l[i]?=some x→M.run g (fr ++ .int .i64 i :: .agg (aF.row x)::cap) (H++L)=some (.ret (.int .u8 (F i x)),H++L))(hc:dG H0 H)(k:List Fra):∀ (n i:Nat),i+n=l.length →
  M.go cB H0 (.c gk :: .lp ⟨(some [2,14,15,16]),[],true⟩ gk H :: .blk 0 :: .c (.lv [])::k) (kv [(2,.fn (.func g) fr cap),(14,.slice tg 4 (l.map aF.row)),(15,.int .i64 l.length),(16,.int .i64 i)]) H =
   orE (fI (xv F) i (l.drop i)) (H.take H0.length) (M.go cB H0 k .leaf H)
 |0,i,h=>by
  have e:i=l.length:=by omega
  subst e
  rw [aw M gk.eq_1]
  simp (maxSteps:=3000000) (maxDischargeDepth:=6) +contextual -implicitDefEqProofs only [amA M,amB,↓aj,↓ab,↓al,↓ak,Nat.reduceBEq,Nat.reduceAdd,env,ao,nf,Nat.lt_irrefl,List.drop_length]
 |n+1,i,h=>by
  have hi:i<l.length:=by omega
  have hx:l[i]?=some l[i]:=List.getElem?_eq_getElem hi
  have hd:(l.drop i)=l[i]::l.drop (i+1):=List.drop_eq_getElem_cons hi
  have hm:l[i]∈l:=List.getElem_mem hi
  have ih:=KU (H:=H) (H0:=H0) (g:=g) (fr:=fr) (cap:=cap) (F:=F) (tg:=tg) (l:=l) (hs:=hs) (hfw:=hfw) (hlw:=hlw) (hp:=hp) hc k n (i+1)  (by omega)
  simp only [kv_cons,kv_nil] at ih
  have hp:=fun L=>hp L i l[i] hx
  rw [aw M gk.eq_1]
  simp (maxSteps:=3000000) (maxDischargeDepth:=6) +contextual -implicitDefEqProofs only [amA M,amB,↓aj,↓ab,↓al,↓ak,Nat.reduceBEq,Nat.reduceAdd,env,ao,nf,hx,hd,hi,ih,amG,AV.cell,hp,hfw,hlw,cY hi hs,bz hi,eU,xv,hc]
theorem KV(hf:E.fn jI=some cB){g:Nat}{fr cap:List AV}{F:Nat→aF→Int}{tg:Tag}{l:List aF}{H:List ae}(hs:l.length≤bH)(hfw:Wk H.length (.fn (.func g) fr cap) (.fn (.func g) fr cap))(hlw:Wk H.length (.slice tg 4 (l.map aF.row)) (.slice tg 4 (l.map aF.row)))
  (hp:∀ (L:List ae) (i:Nat) (x:aF),l[i]?=some x→M.run g (fr ++ .int .i64 i :: .agg (aF.row x)::cap) (H++L)=some (.ret (.int .u8 (F i x)),H++L)) (most:Int) :
  M.run jI [.slice tg 4 (l.map aF.row),.int .i64 most,.fn (.func g) fr cap] H=some (.ret (.int .u8 (pD most F l)),H):=by
 rw [aZ M hf rfl (c:=nd) rfl,nd]
 have hl:=fun k=>KU M (tg:=tg) hs hfw hlw hp (cut_refl H) k l.length 0 (by omega)
 simp only [kv_cons,kv_nil,Int.ofNat_zero,List.drop_zero] at hl
 simp (maxSteps:=3000000) (maxDischargeDepth:=6) +contextual -implicitDefEqProofs only [amA M,amB,↓aj,↓ab,↓al,↓ak,Nat.reduceBEq,Nat.reduceAdd,env,ao,nf,hl]
 rw [mb,pD]
 cases decide (most<(l.length:Int))<;>rfl
theorem KW{H H0:List ae}{g:Nat}{fr cap:List AV}{F:Nat→bA→Int}{tg:Tag}{l:List bA}(hs:l.length≤bH)(hfw:Wk H.length (.fn (.func g) fr cap) (.fn (.func g) fr cap))(hlw:Wk H.length (.slice tg 4 (l.map bA.row)) (.slice tg 4 (l.map bA.row)))(hp:∀ (L:List ae) (i:Nat) (x:bA),l[i]?=some x→M.run g (fr ++ .int .i64 i :: .agg (bA.row x)::cap) (H++L)=some (.ret (.int .u8 (F i x)),H++L))(hc:dG H0 H)(k:List Fra):∀ (n i:Nat),i+n=l.length →
  M.go cC H0 (.c gl :: .lp ⟨(some [2,14,15,16]),[],true⟩ gl H :: .blk 0 :: .c (.lv [])::k) (kv [(2,.fn (.func g) fr cap),(14,.slice tg 4 (l.map bA.row)),(15,.int .i64 l.length),(16,.int .i64 i)]) H =
   orE (fI (xv F) i (l.drop i)) (H.take H0.length) (M.go cC H0 k .leaf H)
 |0,i,h=>by
  have e:i=l.length:=by omega
  subst e
  rw [aw M gl.eq_1]
  simp (maxSteps:=3000000) (maxDischargeDepth:=6) +contextual -implicitDefEqProofs only [amA M,amB,↓aj,↓ab,↓al,↓ak,Nat.reduceBEq,Nat.reduceAdd,env,ao,nh,Nat.lt_irrefl,List.drop_length]
 |n+1,i,h=>by
  have hi:i<l.length:=by omega
  have hx:l[i]?=some l[i]:=List.getElem?_eq_getElem hi
  have hd:(l.drop i)=l[i]::l.drop (i+1):=List.drop_eq_getElem_cons hi
  have hm:l[i]∈l:=List.getElem_mem hi
  have ih:=KW (H:=H) (H0:=H0) (g:=g) (fr:=fr) (cap:=cap) (F:=F) (tg:=tg) (l:=l) (hs:=hs) (hfw:=hfw) (hlw:=hlw) (hp:=hp) hc k n (i+1)  (by omega)
  simp only [kv_cons,kv_nil] at ih
  have hp:=fun L=>hp L i l[i] hx
  rw [aw M gl.eq_1]
  simp (maxSteps:=3000000) (maxDischargeDepth:=6) +contextual -implicitDefEqProofs only [amA M,amB,↓aj,↓ab,↓al,↓ak,Nat.reduceBEq,Nat.reduceAdd,env,ao,nh,hx,hd,hi,ih,amG,AV.cell,hp,hfw,hlw,cY hi hs,bz hi,yZ,xv,hc]
theorem KX(hf:E.fn jJ=some cC){g:Nat}{fr cap:List AV}{F:Nat→bA→Int}{tg:Tag}{l:List bA}{H:List ae}(hs:l.length≤bH)(hfw:Wk H.length (.fn (.func g) fr cap) (.fn (.func g) fr cap))(hlw:Wk H.length (.slice tg 4 (l.map bA.row)) (.slice tg 4 (l.map bA.row)))
  (hp:∀ (L:List ae) (i:Nat) (x:bA),l[i]?=some x→M.run g (fr ++ .int .i64 i :: .agg (bA.row x)::cap) (H++L)=some (.ret (.int .u8 (F i x)),H++L)) (most:Int) :
  M.run jJ [.slice tg 4 (l.map bA.row),.int .i64 most,.fn (.func g) fr cap] H=some (.ret (.int .u8 (pD most F l)),H):=by
 rw [aZ M hf rfl (c:=ng) rfl,ng]
 have hl:=fun k=>KW M (tg:=tg) hs hfw hlw hp (cut_refl H) k l.length 0 (by omega)
 simp only [kv_cons,kv_nil,Int.ofNat_zero,List.drop_zero] at hl
 simp (maxSteps:=3000000) (maxDischargeDepth:=6) +contextual -implicitDefEqProofs only [amA M,amB,↓aj,↓ab,↓al,↓ak,Nat.reduceBEq,Nat.reduceAdd,env,ao,nh,hl]
 rw [mb,pD]
 cases decide (most<(l.length:Int))<;>rfl
theorem MS{H H0:List ae}{g:Nat}{fr cap:List AV}{F:Nat→dK→Int}{tg:Tag}{l:List dK}(hs:l.length≤bH)(hfw:Wk H.length (.fn (.func g) fr cap) (.fn (.func g) fr cap))(hlw:Wk H.length (.slice tg 3 (l.map dK.row)) (.slice tg 3 (l.map dK.row)))(hp:∀ (L:List ae) (i:Nat) (x:dK),l[i]?=some x→M.run g (fr ++ .int .i64 i :: .agg (dK.row x)::cap) (H++L)=some (.ret (.int .u8 (F i x)),H++L))(hc:dG H0 H)(k:List Fra):∀ (n i:Nat),i+n=l.length →
  M.go cO H0 (.c gS :: .lp ⟨(some [2,14,15,16]),[],true⟩ gS H :: .blk 0 :: .c (.lv [])::k) (kv [(2,.fn (.func g) fr cap),(14,.slice tg 3 (l.map dK.row)),(15,.int .i64 l.length),(16,.int .i64 i)]) H =
   orE (fI (xv F) i (l.drop i)) (H.take H0.length) (M.go cO H0 k .leaf H)
 |0,i,h=>by
  have e:i=l.length:=by omega
  subst e
  rw [aw M gS.eq_1]
  simp (maxSteps:=3000000) (maxDischargeDepth:=6) +contextual -implicitDefEqProofs only [amA M,amB,↓aj,↓ab,↓al,↓ak,Nat.reduceBEq,Nat.reduceAdd,env,ao,oI,Nat.lt_irrefl,List.drop_length]
 |n+1,i,h=>by
  have hi:i<l.length:=by omega
  have hx:l[i]?=some l[i]:=List.getElem?_eq_getElem hi
  have hd:(l.drop i)=l[i]::l.drop (i+1):=List.drop_eq_getElem_cons hi
  have hm:l[i]∈l:=List.getElem_mem hi
  have ih:=MS (H:=H) (H0:=H0) (g:=g) (fr:=fr) (cap:=cap) (F:=F) (tg:=tg) (l:=l) (hs:=hs) (hfw:=hfw) (hlw:=hlw) (hp:=hp) hc k n (i+1)  (by omega)
  simp only [kv_cons,kv_nil] at ih
  have hp:=fun L=>hp L i l[i] hx
  rw [aw M gS.eq_1]
  simp (maxSteps:=3000000) (maxDischargeDepth:=6) +contextual -implicitDefEqProofs only [amA M,amB,↓aj,↓ab,↓al,↓ak,Nat.reduceBEq,Nat.reduceAdd,env,ao,oI,hx,hd,hi,ih,amG,AV.cell,hp,hfw,hlw,cY hi hs,bz hi,FA,xv,hc]
theorem Mf(hf:E.fn ke=some cO){g:Nat}{fr cap:List AV}{F:Nat→dK→Int}{tg:Tag}{l:List dK}{H:List ae}(hs:l.length≤bH)(hfw:Wk H.length (.fn (.func g) fr cap) (.fn (.func g) fr cap))(hlw:Wk H.length (.slice tg 3 (l.map dK.row)) (.slice tg 3 (l.map dK.row)))
  (hp:∀ (L:List ae) (i:Nat) (x:dK),l[i]?=some x→M.run g (fr ++ .int .i64 i :: .agg (dK.row x)::cap) (H++L)=some (.ret (.int .u8 (F i x)),H++L)) (most:Int) :
  M.run ke [.slice tg 3 (l.map dK.row),.int .i64 most,.fn (.func g) fr cap] H=some (.ret (.int .u8 (pD most F l)),H):=by
 rw [aZ M hf rfl (c:=oH) rfl,oH]
 have hl:=fun k=>MS M (tg:=tg) hs hfw hlw hp (cut_refl H) k l.length 0 (by omega)
 simp only [kv_cons,kv_nil,Int.ofNat_zero,List.drop_zero] at hl
 simp (maxSteps:=3000000) (maxDischargeDepth:=6) +contextual -implicitDefEqProofs only [amA M,amB,↓aj,↓ab,↓al,↓ak,Nat.reduceBEq,Nat.reduceAdd,env,ao,oI,hl]
 rw [mb,pD]
 cases decide (most<(l.length:Int))<;>rfl
end
section
attribute [local congr] aG ct bm aH a7 aN aI aA aC aO aP
variable{E:bB}(M:cT cU E)
structure iz (E:bB):Prop where
 morph_checker_vowels:E.fn jF=some cZ
 slices_Index_string_string:E.fn jk=some bM
 slices_Contains_string_string:E.fn dS=some b7
 morph_checker_trait_1:E.fn iZ=some ea
 slices_IndexFunc_api_Trait_api_Trait:E.fn bQ=some aR
 slices_ContainsFunc_api_Trait_api_Trait:E.fn dh=some bc
 morph_checker_trait:E.fn j9=some dw
 morph_each_api_Trait:E.fn jG=some cw
 morph_Check_1:E.fn qX=some jl
 morph_checker_class_1:E.fn i6=some eb
 slices_IndexFunc_api_Class_api_Class:E.fn bR=some aS
 slices_ContainsFunc_api_Class_api_Class:E.fn di=some bf
 morph_short:E.fn iO=some lg
 morph_checker_bundle_1_1:E.fn hZ=some du
 morph_checker_bundle_1:E.fn iP=some dM
 morph_each_api_Feat:E.fn kg=some cQ
 morph_checker_bundle:E.fn fK=some eu
 morph_checker_class_2:E.fn i7=some ec
 morph_each_api_Slot:E.fn kf=some cP
 morph_checker_class:E.fn ka=some eY
 morph_each_api_Class:E.fn jH=some cA
 morph_Check_2:E.fn qY=some jm
 morph_checker_entry_3:E.fn jc=some eg
 slices_IndexFunc_api_Irregular_api_Irregular:E.fn bK=some aE
 slices_ContainsFunc_api_Irregular_api_Irregular:E.fn b5=some aU
 morph_classOf_1:E.fn kI=some ig
 morph_classOf:E.fn fG=some jr
 morph_checker_entry_1:E.fn ja=some ed
 slices_IndexFunc_api_Entry_api_Entry:E.fn cG=some aT
 slices_ContainsFunc_api_Entry_api_Entry:E.fn dj=some bg
 morph_clash_1_1:E.fn o4=some ik
 slices_IndexFunc_api_Feat_api_Feat:E.fn cV=some aX
 slices_ContainsFunc_api_Feat_api_Feat:E.fn bN=some bn
 morph_clash_1:E.fn re=some jw
 morph_clash:E.fn y9=some ll
 morph_checker_entry_2:E.fn jb=some ee
 slices_IndexFunc_api_Slot_api_Slot:E.fn cW=some aY
 slices_ContainsFunc_api_Slot_api_Slot:E.fn dE=some bo
 morph_checker_entry:E.fn kb=some dx
 morph_each_api_Entry:E.fn jI=some cB
 morph_Check_3:E.fn qZ=some jn
 morph_symbol:E.fn lL=some jZ
 morph_around:E.fn pq=some j0
 morph_checker_spell:E.fn kd=some eZ
 morph_each_api_Spell:E.fn jJ=some cC
 morph_Check_4:E.fn ra=some jo
 morph_checker_link:E.fn kG=some fu
 morph_each_api_Link:E.fn ke=some cO
 morph_Check_5:E.fn rb=some jq
 morph_first:E.fn y7=some iQ
 morph_Check:E.fn kZ=some k8
def eO(e:Int):Option AV:=sel (!(e == 0)) (some (.int .u8 e)) none
theorem JO{α:Type}(F:Nat→α→Int)(i:Nat)(x:α):xv F i x=eO (F i x):=rfl
theorem WQ(b:Bool)(e e':Int):eO (sel b e e')=sel b (eO e) (eO e'):=by cases b<;>rfl
theorem qE:(∀ (b:Bool) (e e':Int),eO (slc b e e')=slc b (eO e) (eO e'))∧eO 0=none∧eO 1=some (.int .u8 1)∧eO 3=some (.int .u8 3)∧eO 5=some (.int .u8 5)∧eO 6=some (.int .u8 6)∧eO 7=some (.int .u8 7)∧eO 10=some (.int .u8 10):=
 ⟨WQ,rfl,rfl,rfl,rfl,rfl,rfl,rfl⟩
theorem Cc{α:Type}(p:α→Bool):∀ (l:List α) (i:Nat),(C7 p i l = -1∧l.find? p=none)∨∃ (j:Nat) (x:α),C7 p i l=((i+j:Nat):Int)∧l[j]?=some x∧l.find? p=some x
 |[],_=>.inl ⟨rfl,rfl⟩
 |x::l,i=>by
  cases h:p x with
  |true=>exact .inr ⟨0,x,by simp [C7,h,sel],rfl,by simp [h]⟩
  |false=>
   rcases Cc p l (i+1) with ⟨h1,h2⟩ | ⟨j,y,h1,h2,h3⟩
   ·exact .inl ⟨by simp [C7,h,sel,h1],by simp [h,h2]⟩
   ·exact .inr ⟨j+1,y,by simp [C7,h,sel,h1];omega,by simpa using h2,by simp [h,h3]⟩
theorem ixs{H H0:List ae}{v:Str}{tg:Tag}{l:List Str}(hs:l.length≤bH)(hc:dG H0 H)(k:List Fra):∀ (n i:Nat) (He:List ae),i+n=l.length →
  M.go bM H0 (.c dZ :: .lp ⟨(some [0,1,7,8]),[],false⟩ dZ He :: .blk 0 :: .c (.lv [])::k) (kv [(0,.slice tg 1 (l.map gd)),(1,.str v),(7,.int .i64 l.length),(8,.int .i64 i)]) H =
   orE (fI (C6 fun s=>v == s) i (l.drop i)) (H.take H0.length) (M.go bM H0 k .leaf H)
 |0,i,He,h=>by
  have e:i=l.length:=by omega
  subst e
  rw [aw M dZ.eq_1]
  simp (maxSteps:=3000000) (maxDischargeDepth:=6) +contextual -implicitDefEqProofs only [amA M,amB,↓aj,↓ab,↓al,↓ak,Nat.reduceBEq,Nat.reduceAdd,env,ao,jt,Nat.lt_irrefl,List.drop_length]
 |n+1,i,He,h=>by
  have hi:i<l.length:=by omega
  have hx:l[i]?=some l[i]:=List.getElem?_eq_getElem hi
  have hd:(l.drop i)=l[i]::l.drop (i+1):=List.drop_eq_getElem_cons hi
  have hm:l[i]∈l:=List.getElem_mem hi
  have ih:=fun He=>ixs (H:=H) (H0:=H0) (v:=v) (tg:=tg) (l:=l) (hs:=hs) hc k n (i+1)  He (by omega)
  simp only [kv_cons,kv_nil] at ih
  rw [aw M dZ.eq_1]
  simp (maxSteps:=3000000) (maxDischargeDepth:=6) +contextual -implicitDefEqProofs only [amA M,amB,↓aj,↓ab,↓al,↓ak,Nat.reduceBEq,Nat.reduceAdd,env,ao,jt,hx,hd,hi,ih,cY hi hs,bz hi,OY,C6,hc]
theorem vT(hE:iz E){v:Str}{tg:Tag}{l:List Str}(hs:l.length≤bH)(H:List ae):M.run dS [.slice tg 1 (l.map gd),.str v] H=some (.ret (.bool (l.any fun s=>v == s)),H):=by
 have h1:M.run jk [.slice tg 1 (l.map gd),.str v] H=some (.ret (.int .i64 (C7 (fun s=>v == s) 0 l)),H):=by
  rw [aZ M hE.slices_Index_string_string rfl (c:=js) rfl,js]
  have hl:=fun k He=>ixs M (tg:=tg) (v:=v) hs (cut_refl H) k l.length 0 He (by omega)
  simp only [kv_cons,kv_nil,Int.ofNat_zero,List.drop_zero] at hl
  simp (maxSteps:=3000000) (maxDischargeDepth:=6) +contextual -implicitDefEqProofs only [amA M,amB,↓aj,↓ab,↓al,↓ak,Nat.reduceBEq,Nat.reduceAdd,env,ao,jt,hl]
  exact pN _ l 0 H
 rw [aZ M hE.slices_Contains_string_string rfl (c:=iD) rfl,iD]
 simp (maxSteps:=3000000) (maxDischargeDepth:=6) +contextual -implicitDefEqProofs only [amA M,amB,↓aj,↓ab,↓al,↓ak,Nat.reduceBEq,Nat.reduceAdd,env,ao,te,h1,vS]
def kr(c:UInt8):Bool:=nY c||((c.toNat:Int) == 43)
def I9(c:UInt8):Bool:=kr c||((c.toNat:Int) == 35)||((c.toNat:Int) == 86)||((c.toNat:Int) == 67)
theorem KY(hN:cS E)(hE:iz E)(c:UInt8)(H:List ae):M.run lL [.int .u8 c.toNat] H=some (.ret (.bool (kr c)),H):=by
 rw [aZ M hE.morph_symbol rfl (c:=wT) rfl,wT]
 simp (maxSteps:=3000000) (maxDischargeDepth:=6) +contextual -implicitDefEqProofs only [amA M,amB,↓aj,↓ab,↓al,↓ak,Nat.reduceBEq,Nat.reduceAdd,env,ao,KI,nD M hN.letter,kr]
theorem QH(hN:cS E)(hE:iz E)(c:UInt8)(H:List ae):M.run pq [.int .u8 c.toNat] H=some (.ret (.bool (I9 c)),H):=by
 rw [aZ M hE.morph_around rfl (c:=wU) rfl,wU]
 simp (maxSteps:=3000000) (maxDischargeDepth:=6) +contextual -implicitDefEqProofs only [amA M,amB,↓aj,↓ab,↓al,↓ak,Nat.reduceBEq,Nat.reduceAdd,env,ao,KJ,KY M hN hE,I9,Bool.or_assoc]
def qf(p:UInt8→Bool)(s:Str):Bool:=decide ((s.length:Int)≤6)&&s.all p
theorem Bf(hN:cS E)(hE:iz E){g:Nat}{fr cap:List AV}{p:UInt8→Bool}{s:Str}(hs:s.length≤bH){H:List ae}(hp:∀ c:UInt8,M.run g (fr ++ .int .u8 c.toNat::cap) H=some (.ret (.bool (p c)),H)) :
  M.run iO [.str s,.fn (.func g) fr cap] H=some (.ret (.bool (qf p s)),H):=by
 rw [aZ M hE.morph_short rfl (c:=zu) rfl,zu]
 simp (maxSteps:=3000000) (maxDischargeDepth:=6) +contextual -implicitDefEqProofs only [amA M,amB,↓aj,↓ab,↓al,↓ak,Nat.reduceBEq,Nat.reduceAdd,env,ao,L9,JN M hN.all hs hp,qf]
def SI(v:Str):Nat→UInt8→Bool
 |0,c => !nY c
 |i+1,c => !nY c||(match v[i]? with
  |some d=>decide ((c.toNat:Int)≤(d.toNat:Int))
  |none=>false)
theorem MT(v:Str)(c:UInt8):SI v 0 c = !nY c:=rfl
theorem MU{v:Str}{i:Nat}{d:UInt8}(h:v[i]?=some d)(c:UInt8):SI v (i+1) c=(!nY c||decide ((c.toNat:Int)≤(d.toNat:Int))):=by simp only [SI,h]
theorem vow{H H0:List ae}(hN:cS E){v:Str}(hs:v.length≤bH)(hc:dG H0 H)(k:List Fra):∀ (n i:Nat) (He:List ae),i+n=v.length →
  M.go cZ H0 (.c eL :: .lp ⟨(some [3,9,10]),[],false⟩ eL He :: .blk 0 :: .c (.lv [])::k) (kv [(3,.str v),(9,.int .i64 v.length),(10,.int .i64 i)]) H =
   orE (fI (xv fun i c=>sel (SI v i c) 1 0) i (v.drop i)) (H.take H0.length) (M.go cZ H0 k .leaf H)
 |0,i,He,h=>by
  have e:i=v.length:=by omega
  subst e
  rw [aw M eL.eq_1]
  simp (maxSteps:=3000000) (maxDischargeDepth:=6) +contextual -implicitDefEqProofs only [amA M,amB,↓aj,↓ab,↓al,↓ak,Nat.reduceBEq,Nat.reduceAdd,env,ao,jQ,Nat.lt_irrefl,List.drop_length]
 |n+1,i,He,h=>by
  have hi:i<v.length:=by omega
  have hx:v[i]?=some v[i]:=List.getElem?_eq_getElem hi
  have hd:(v.drop i)=v[i]::v.drop (i+1):=List.drop_eq_getElem_cons hi
  have hm:v[i]∈v:=List.getElem_mem hi
  have ih:=fun He=>vow (H:=H) (H0:=H0) (hN:=hN) (v:=v) (hs:=hs) hc k n (i+1)  He (by omega)
  simp only [kv_cons,kv_nil] at ih
  cases i with
  |zero=>
   rw [aw M eL.eq_1]
   simp (maxSteps:=3000000) (maxDischargeDepth:=6) +contextual -implicitDefEqProofs only [amA M,amB,↓aj,↓ab,↓al,↓ak,Nat.reduceBEq,Nat.reduceAdd,env,ao,jQ,hx,hd,hi,ih,cY hi hs,nD M hN.letter,hc,JO,qE,MT,(show decide ((0:Int)<((0:Nat):Int))=false from rfl)]
  |succ j=>
   have hj:j<v.length:=by omega
   have hxj:v[j]?=some v[j]:=List.getElem?_eq_getElem hj
   rw [aw M eL.eq_1]
   simp (maxSteps:=3000000) (maxDischargeDepth:=6) +contextual -implicitDefEqProofs only [amA M,amB,↓aj,↓ab,↓al,↓ak,Nat.reduceBEq,Nat.reduceAdd,env,ao,jQ,hx,hd,hi,ih,cY hi hs,TP (show j+1≤bH by omega),hxj,nD M hN.letter,hc,JO,qE,MU hxj,(show decide ((0:Int)<((j+1:Nat):Int))=true from decide_eq_true (by omega))]
def T3(l:Lex):Int:=Cb (fun i c=>sel (SI l.vowels i c) 1 0) 0 l.vowels
theorem QI(hN:cS E)(hE:iz E){l:Lex}{n:Nat}(hl:l.ok n)(H:List ae):M.run jF [.agg l.row] H=some (.ret (.int .u8 (T3 l)),H):=by
 rw [aZ M hE.morph_checker_vowels rfl (c:=mX) rfl,mX]
 have hl:=fun k L He=>vow M hN hl.vowels (cut_app H L) k l.vowels.length 0 He (by omega)
 simp only [kv_cons,kv_nil,Int.ofNat_zero,List.drop_zero] at hl
 simp (maxSteps:=3000000) (maxDischargeDepth:=6) +contextual -implicitDefEqProofs only [amA M,amB,↓aj,↓ab,↓al,↓ak,Nat.reduceBEq,Nat.reduceAdd,env,ao,jQ,hl,cj,cut_app]
 exact mb _ _ 0 H
end
section
attribute [local congr] aG ct bm aH a7 aN aI aA aC aO aP
variable{E:bB}(M:cT cU E)
theorem O7(hE:iz E)(o t:bE){H:List ae}{q:Nat}{T:TypeId}(hq:H[q]?=some (.cells t.row T)):M.run iZ [.agg o.row,.ptr q 0] H=some (.ret (.bool (o.name == t.name)),H):=by
 rw [aZ M hE.morph_checker_trait_1 rfl (c:=lW) rfl,lW]
 simp (maxSteps:=3000000) (maxDischargeDepth:=6) +contextual -implicitDefEqProofs only [amA M,amB,↓aj,↓ab,↓al,↓ak,Nat.reduceBEq,Nat.reduceAdd,env,ao,AE,uT,hq,dg hq]
def WR(t:bE)(k:Nat)(v:Str):Int:=sel (!KO v) 5 (sel ((t.values.l.take k).any fun s=>v == s) 6 0)
theorem trl{H H0:List ae}(hN:cS E)(hE:iz E){t:bE}{n0:Nat}(ht:t.ok n0){p:Nat}{T:TypeId}(hp:H[p]?=some (.cells t.row T))(hc:dG H0 H)(k:List Fra):∀ (n i:Nat) (He:List ae),i+n=(t.values.l).length →
  M.go dw H0 (.c gQ :: .lp ⟨(some [5,33,34,35]),[],false⟩ gQ He :: .blk 1 :: .c (.lv [])::k) (kv [(5,.ptr p 0),(33,.slice t.values.tag 1 (t.values.l.map gd)),(34,.int .i64 t.values.l.length),(35,.int .i64 i)]) H =
   orE (fI (xv (WR t)) i (t.values.l.drop i)) (H.take H0.length) (M.go dw H0 k .leaf H)
 |0,i,He,h=>by
  have e:i=(t.values.l).length:=by omega
  subst e
  rw [aw M gQ.eq_1]
  simp (maxSteps:=3000000) (maxDischargeDepth:=6) +contextual -implicitDefEqProofs only [amA M,amB,↓aj,↓ab,↓al,↓ak,Nat.reduceBEq,Nat.reduceAdd,env,ao,oD,Nat.lt_irrefl,List.drop_length]
 |n+1,i,He,h=>by
  have hi:i<(t.values.l).length:=by omega
  have hx:(t.values.l)[i]?=some (t.values.l)[i]:=List.getElem?_eq_getElem hi
  have hd:((t.values.l).drop i)=(t.values.l)[i]::(t.values.l).drop (i+1):=List.drop_eq_getElem_cons hi
  have hm:(t.values.l)[i]∈(t.values.l):=List.getElem_mem hi
  have ih:=fun He=>trl (H:=H) (H0:=H0) (hN:=hN) (hE:=hE) (t:=t) (n0:=n0) (ht:=ht) (p:=p) (T:=T) (hp:=hp) hc k n (i+1)  He (by omega)
  simp only [kv_cons,kv_nil] at ih
  rw [aw M gQ.eq_1]
  simp (maxSteps:=3000000) (maxDischargeDepth:=6) +contextual -implicitDefEqProofs only [amA M,amB,↓aj,↓ab,↓al,↓ak,Nat.reduceBEq,Nat.reduceAdd,env,ao,oD,hx,hd,hi,ih,cY hi ht.values.len,bz hi,OY,uT,hp,KP M hN (ht.values.all _ hm),KD hi,vT M hE (DG ht.values.len i),hc,JO,WR,qE]
def NW(l:Lex)(i:Nat)(t:bE):Int:=
 sel (!KO t.name) 5 (sel ((l.traits.l.take i).any fun o=>o.name == t.name) 6 (sel (decide ((8:Int)<(t.values.l.length:Int))) 3 (sel ((t.values.l.length:Int) == 0) 1 (Cb (WR t) 0 t.values.l))))
theorem KZ{α:Type}(F:Nat→α→Int)(l:List α)(H:List ae):orE (fI (xv F) 0 l) H (some (.ret (.int .u8 0),H))=some (.ret (.int .u8 (Cb F 0 l)),H):=mb F l 0 H
theorem ug(b:Bool)(x y:Int):sel b (AV.int .u8 x) (AV.int .u8 y) = .int .u8 (sel b x y):=by cases b<;>rfl
theorem SJ(hN:cS E)(hE:iz E){l:Lex}{t:bE}{n:Nat}(hl:l.ok n)(ht:t.ok n){i:Nat}(hi:i<l.traits.l.length)(H:List ae) :
  M.run j9 [.agg l.row,.int .i64 i,.agg t.row] H=some (.ret (.int .u8 (NW l i t)),H):=by
 rw [aZ M hE.morph_checker_trait rfl (c:=oC) rfl,oC]
 have hq:(H++[ae.cells l.row bw,.cells t.row iA])[H.length+1]?=some (.cells t.row iA):=by rw [hp_getk];rfl
 have hcf:=B7 M hE.slices_IndexFunc_api_Trait_api_Trait hE.slices_ContainsFunc_api_Trait_api_Trait (g:=iZ) (fr:=[]) (cap:=[.ptr (H.length+1) 0]) (p:=fun o=>o.name == t.name) (tg:=.any) (DG hl.traits.len i) (fun x _=>O7 M hE x t hq)
 have hlp:=fun k He=>trl M hN hE ht hq (cut_app H _) k t.values.l.length 0 He (by omega)
 simp only [kv_cons,kv_nil,Int.ofNat_zero,List.drop_zero] at hlp
 simp (maxSteps:=3000000) (maxDischargeDepth:=6) +contextual -implicitDefEqProofs only [amA M,amB,↓aj,↓ab,↓al,↓ak,Nat.reduceBEq,Nat.reduceAdd,env,ao,oD,hlp,hcf,cj,uT,KD hi,KP M hN ht.name,cut_app,KZ,ug,NW]
theorem K5(hE:iz E)(t:bE)(f:aq){H:List ae}{q:Nat}{T:TypeId}(hq:H[q]?=some (.cells f.row T)):M.run hZ [.agg t.row,.ptr q 0] H=some (.ret (.bool (t.name == f.name)),H):=by
 rw [aZ M hE.morph_checker_bundle_1_1 rfl (c:=j3) rfl,j3]
 simp (maxSteps:=3000000) (maxDischargeDepth:=6) +contextual -implicitDefEqProofs only [amA M,amB,↓aj,↓ab,↓al,↓ak,Nat.reduceBEq,Nat.reduceAdd,env,ao,wV,uT,yQ,hq,dg hq]
end
section
attribute [local congr] aG ct bm aH a7 aN aI aA aC aO aP
variable{E:bB}(M:cT cU E)
def K6{α:Type}(l:List α)(q:α→Bool):Nat→Bool
 |0=>false
 |i+1=>match l[i]? with
  |some g=>q g
  |none=>false
theorem D9{α:Type}{l:List α}{i:Nat}{g:α}(h:l[i]?=some g)(q:α→Bool):K6 l q (i+1)=q g:=by simp only [K6,h]
theorem XR:decide ((0:Int)<((0:Nat):Int))=false:=rfl
theorem XS(j:Nat):decide ((0:Int)<((j+1:Nat):Int))=true:=decide_eq_true (by omega)
theorem T4(j:Nat):decide (((j:Nat):Int)<0)=false:=decide_eq_false (by omega)
theorem Xu:decide ((-1:Int)<0)=true:=rfl
def QJ(l:Lex)(b:List aq)(i:Nat)(f:aq):Int:=
 match l.traits.l.find? fun t=>t.name == f.name with
 |none=>5
 |some t=>sel (!(t.values.l.any fun s=>f.value == s)) 1 (sel (K6 b (fun g=>g.name == f.name) i) 6 (sel (K6 b (fun g => !(Op.bytesLess g.name f.name||g.name == f.name)) i) 1 0))
theorem NX(hE:iz E){l:Lex}{b:List aq}{tg:Tag}{n:Nat}(hl:l.ok n)(hb:b.length≤bH){i:Nat}{f:aq}(hf:b[i]?=some f){H:List ae}{p q:Nat}{T T2:TypeId}
  (hp:H[p]?=some (.cells l.row T)) (hq:H[q]?=some (.cells [.slice tg 2 (b.map aq.row)] T2)) :
  M.run iP [.int .i64 i,.agg f.row,.ptr p 0,.ptr q 0] H=some (.ret (.int .u8 (QJ l b i f)),H):=by
 rw [aZ M hE.morph_checker_bundle_1 rfl (c:=ln) rfl,ln]
 have hi:i<b.length:=(List.getElem?_eq_some_iff.1 hf).1
 have hr:(H++[ae.cells f.row ba])[H.length]?=some (.cells f.row ba):=by rw [dW];rfl
 have hp':=fun L=>dg (L:=L) hp
 have hq':=fun L=>dg (L:=L) hq
 have hcf:=vv M hE.slices_IndexFunc_api_Trait_api_Trait (g:=hZ) (fr:=[]) (cap:=[.ptr H.length 0]) (p:=fun t=>t.name == f.name) (tg:=l.traits.tag) hl.traits.len (fun x _=>K5 M hE x f hr)
 rcases Cc (fun t:bE=>t.name == f.name) l.traits.l 0 with ⟨h1,h2⟩ | ⟨j,t,h1,h2,h3⟩
 ·rw [h1] at hcf
  simp (maxSteps:=3000000) (maxDischargeDepth:=6) +contextual -implicitDefEqProofs only [amA M,amB,↓aj,↓ab,↓al,↓ak,Nat.reduceBEq,Nat.reduceAdd,env,ao,lq,hcf,cj,yQ,hp',hq',QJ,h2,Xu]
 ·rw [h1,Nat.zero_add] at hcf
  have hj:j<l.traits.l.length:=(List.getElem?_eq_some_iff.1 h2).1
  have hm:t∈l.traits.l:=List.mem_of_getElem? h2
  cases i with
  |zero=>
   simp (maxSteps:=3000000) (maxDischargeDepth:=6) +contextual -implicitDefEqProofs only [amA M,amB,↓aj,↓ab,↓al,↓ak,Nat.reduceBEq,Nat.reduceAdd,env,ao,lq,hcf,cj,yQ,uT,hp',hq',QJ,h2,h3,T4,XR,K6,bz hj,vT M hE (hl.traits.all t hm).values.len,ug]
  |succ i=>
   have hx:b[i]?=some b[i]:=List.getElem?_eq_getElem (by omega)
   simp (maxSteps:=3000000) (maxDischargeDepth:=6) +contextual -implicitDefEqProofs only [amA M,amB,↓aj,↓ab,↓al,↓ak,Nat.reduceBEq,Nat.reduceAdd,env,ao,lq,hcf,cj,yQ,uT,hp',hq',QJ,h2,h3,T4,XS,D9 hx,hx,hf,bz hj,bz (show i<b.length by omega),TP (show i+1≤bH by omega),vT M hE (hl.traits.all t hm).values.len,ug]
end
section
attribute [local congr] aG ct bm aH a7 aN aI aA aC aO aP
variable{E:bB}(M:cT cU E)
theorem VE{b:Sl aq}{n m:Nat}(h:b.ok n (aq.ok n))(hm:n≤m):Wk m (.slice b.tag 2 (b.l.map aq.row)) (.slice b.tag 2 (b.l.map aq.row)):=
 (h.mono hm (fun _ h=>h)).wk (fun _ h=>(h.mono hm).wk)
def s6(l:Lex)(b:List aq):Int:=pD 8 (QJ l b) b
theorem Cd(hE:iz E){l:Lex}{b:Sl aq}{n:Nat}(hl:l.ok n)(hb:b.ok n (aq.ok n)){H:List ae}(hn:n≤H.length) :
  M.run fK [.agg l.row,.slice b.tag 2 (b.l.map aq.row)] H=some (.ret (.int .u8 (s6 l b.l)),H):=by
 rw [aZ M hE.morph_checker_bundle rfl (c:=nj) rfl,nj]
 have he:=Md M hE.morph_each_api_Feat (g:=iP) (fr:=[]) (cap:=[.ptr H.length 0,.ptr (H.length+1) 0]) (F:=QJ l b.l) (tg:=b.tag) (l:=b.l) (H:=H++[.cells l.row bw,.cells [.slice b.tag 2 (b.l.map aq.row)] dB]) hb.len
  (wk_fn trivial ⟨wk_ptr (by simp),wk_ptr (by simp),trivial⟩) (VE hb (by simp;omega))
  (fun L i x hx=>NX M hE hl hb.len hx (T:=bw) (T2:=dB) (by rw [List.append_assoc,dW];rfl) (by rw [List.append_assoc,hp_getk];rfl))
 simp (maxSteps:=3000000) (maxDischargeDepth:=6) +contextual -implicitDefEqProofs only [amA M,amB,↓aj,↓ab,↓al,↓ak,Nat.reduceBEq,Nat.reduceAdd,env,ao,BS,he 8,cj,s6]
theorem O8(hE:iz E)(o t:a6){H:List ae}{q:Nat}{T:TypeId}(hq:H[q]?=some (.cells t.row T)):M.run i6 [.agg o.row,.ptr q 0] H=some (.ret (.bool (o.name == t.name)),H):=by
 rw [aZ M hE.morph_checker_class_1 rfl (c:=lX) rfl,lX]
 simp (maxSteps:=3000000) (maxDischargeDepth:=6) +contextual -implicitDefEqProofs only [amA M,amB,↓aj,↓ab,↓al,↓ak,Nat.reduceBEq,Nat.reduceAdd,env,ao,AF,ku,hq,dg hq]
def Ja(l:Lex)(s:br):Int:=
 sel (decide (s.cut<0)||decide (24<s.cut) || !qf nY s.pre || !qf nY s.add) 1 (s6 l s.feats.l)
theorem O9(hN:cS E)(hE:iz E){l:Lex}{s:br}{n:Nat}(hl:l.ok n)(hs:s.ok n){H:List ae}(hn:n≤H.length){p:Nat}{T:TypeId}(hp:H[p]?=some (.cells l.row T))(i:Int) :
  M.run i7 [.int .i64 i,.agg s.row,.ptr p 0] H=some (.ret (.int .u8 (Ja l s)),H):=by
 rw [aZ M hE.morph_checker_class_2 rfl (c:=lY) rfl,lY]
 have hp':=fun L=>dg (L:=L) hp
 have h1:=fun (H:List ae)=>Bf M hN hE (g:=cF) (fr:=[]) (cap:=[]) hs.pre (fun c=>nD M hN.letter c H)
 have h2:=fun (H:List ae)=>Bf M hN hE (g:=cF) (fr:=[]) (cap:=[]) hs.add (fun c=>nD M hN.letter c H)
 simp (maxSteps:=3000000) (maxDischargeDepth:=6) +contextual -implicitDefEqProofs only [amA M,amB,↓aj,↓ab,↓al,↓ak,Nat.reduceBEq,Nat.reduceAdd,env,ao,AG,h1,h2,hp',iS,cj,hn,Cd M hE hl hs.feats,Ja,ug,Bool.or_assoc]
def Ga(l:Lex)(i:Nat)(c:a6):Int:=
 sel (!KO c.name) 5 (sel ((l.classes.l.take i).any fun o=>o.name == c.name) 6 (sel (decide ((24:Int)<(c.slots.l.length:Int))) 3 (sel ((c.slots.l.length:Int) == 0) 1 (pD 24 (fun _ s=>Ja l s) c.slots.l))))
theorem SK(hN:cS E)(hE:iz E){l:Lex}{c:a6}{n:Nat}(hl:l.ok n)(hc:c.ok n){i:Nat}(hi:i<l.classes.l.length){H:List ae}(hn:n≤H.length) :
  M.run ka [.agg l.row,.int .i64 i,.agg c.row] H=some (.ret (.int .u8 (Ga l i c)),H):=by
 rw [aZ M hE.morph_checker_class rfl (c:=oE) rfl,oE]
 have hq:(H++[ae.cells l.row bw,.cells c.row cr])[H.length+1]?=some (.cells c.row cr):=by rw [hp_getk];rfl
 have hcf:=B8 M hE.slices_IndexFunc_api_Class_api_Class hE.slices_ContainsFunc_api_Class_api_Class (g:=i6) (fr:=[]) (cap:=[.ptr (H.length+1) 0]) (p:=fun o=>o.name == c.name) (tg:=.any) (DG hl.classes.len i) (fun x _=>O8 M hE x c hq)
 have he:=Me M hE.morph_each_api_Slot (g:=i7) (fr:=[]) (cap:=[.ptr H.length 0]) (F:=fun _ s=>Ja l s) (tg:=c.slots.tag) (l:=c.slots.l) (H:=H++[.cells l.row bw,.cells c.row cr]) hc.slots.len
  (wk_fn trivial ⟨wk_ptr (by simp),trivial⟩) ((hc.slots.mono (by simp;omega) (fun _ h=>h)).wk (fun _ h=>(h.mono (by simp;omega)).wk))
  (fun L i x hx=>O9 M hN hE hl (hc.slots.all x (List.mem_of_getElem? hx)) (by simp;omega) (T:=bw) (by rw [List.append_assoc,dW];rfl) i)
 simp (maxSteps:=3000000) (maxDischargeDepth:=6) +contextual -implicitDefEqProofs only [amA M,amB,↓aj,↓ab,↓al,↓ak,Nat.reduceBEq,Nat.reduceAdd,env,ao,CQ,hcf,he 24,cj,ku,KD hi,KP M hN hc.name,cut_app,ug,Ga]
end
section
attribute [local congr] aG ct bm aH a7 aN aI aA aC aO aP
variable{E:bB}(M:cT cU E)
theorem FH(hE:iz E)(o:a6)(s:Str){H:List ae}{q:Nat}{T:TypeId}(hq:H[q]?=some (.cells [.str s] T)):M.run kI [.agg o.row,.ptr q 0] H=some (.ret (.bool (o.name == s)),H):=by
 rw [aZ M hE.morph_classOf_1 rfl (c:=sr) rfl,sr]
 simp (maxSteps:=3000000) (maxDischargeDepth:=6) +contextual -implicitDefEqProofs only [amA M,amB,↓aj,↓ab,↓al,↓ak,Nat.reduceBEq,Nat.reduceAdd,env,ao,Hc,ku,hq,dg hq]
def Bg(l:Lex)(s:Str):Option a6:=l.classes.l.find? fun c=>c.name == s
def yT:a6:=⟨[],⟨.nil,[]⟩⟩
theorem kU:[AV.str [],.slice .nil 4 []]=yT.row:=rfl
theorem tU(hE:iz E){l:Lex}{s:Str}{n:Nat}(hl:l.ok n)(hf:Bg l s=none)(H:List ae) :
  M.run fG [.agg l.row,.str s] H=some (.ret (.tuple [.agg yT.row,.bool false]),H):=by
 rw [aZ M hE.morph_classOf rfl (c:=nM) rfl,nM]
 have hcf:=qe M hE.slices_IndexFunc_api_Class_api_Class (g:=kI) (fr:=[]) (cap:=[.ptr (H.length+1) 0]) (p:=fun c=>c.name == s) (tg:=l.classes.tag) hl.classes.len
  (H:=H++[.cells l.row az,.cells [.str s] bj,.cells yT.row cr]) (fun x _=>FH M hE x s (T:=bj) (by rw [hp_getk];rfl))
 rcases Cc (fun c:a6=>c.name == s) l.classes.l 0 with ⟨h1,h2⟩ | ⟨j,t,h1,h2,h3⟩
 ·rw [h1] at hcf
  simp (maxSteps:=3000000) (maxDischargeDepth:=6) +contextual -implicitDefEqProofs only [amA M,amB,↓aj,↓ab,↓al,↓ak,Nat.reduceBEq,Nat.reduceAdd,env,ao,Cr,amG,AV.cell,Nat.reduceMul,Nat.reduceLeDiff,kU,hcf,cj,ku,Xu,pS,(show WkL H.length yT.row yT.row from ⟨wk_str _ _,wk_slice trivial (hJ _),trivial⟩)]
 ·exact absurd (hf.symm.trans h3) (by simp)
theorem pO(hE:iz E){l:Lex}{s:Str}{n:Nat}(hl:l.ok n){c:a6}(hf:Bg l s=some c){H:List ae}(hn:n≤H.length) :
  M.run fG [.agg l.row,.str s] H=some (.ret (.tuple [.agg c.row,.bool true]),H):=by
 rw [aZ M hE.morph_classOf rfl (c:=nM) rfl,nM]
 have hcf:=qe M hE.slices_IndexFunc_api_Class_api_Class (g:=kI) (fr:=[]) (cap:=[.ptr (H.length+1) 0]) (p:=fun c=>c.name == s) (tg:=l.classes.tag) hl.classes.len
  (H:=H++[.cells l.row az,.cells [.str s] bj,.cells yT.row cr]) (fun x _=>FH M hE x s (T:=bj) (by rw [hp_getk];rfl))
 rcases Cc (fun c:a6=>c.name == s) l.classes.l 0 with ⟨h1,h2⟩ | ⟨j,t,h1,h2,h3⟩
 ·exact absurd (hf.symm.trans h2) (by simp)
 ·obtain rfl:c=t:=by have:=hf.symm.trans h3;simpa using this
  rw [h1,Nat.zero_add] at hcf
  have hj:j<l.classes.l.length:=(List.getElem?_eq_some_iff.1 h2).1
  have hw:WkL H.length c.row c.row:=((hl.classes.all c (List.mem_of_getElem? h2)).mono hn).wk
  simp (maxSteps:=3000000) (maxDischargeDepth:=6) +contextual -implicitDefEqProofs only [amA M,amB,↓aj,↓ab,↓al,↓ak,Nat.reduceBEq,Nat.reduceAdd,env,ao,Cr,amG,AV.cell,Nat.reduceMul,Nat.reduceLeDiff,kU,hcf,cj,ku,T4,bz hj,h2,hw]
end
section
attribute [local congr] aG ct bm aH a7 aN aI aA aC aO aP
variable{E:bB}(M:cT cU E)
def jS(f g:aq):Bool:=f.name == g.name && !(f.value == g.value)
def lA(a b:List aq):Bool:=a.any fun f=>b.any fun g=>jS f g
theorem Mg(hE:iz E)(g f:aq){H:List ae}{q:Nat}{T:TypeId}(hq:H[q]?=some (.cells f.row T)):M.run o4 [.agg g.row,.ptr q 0] H=some (.ret (.bool (jS f g)),H):=by
 rw [aZ M hE.morph_clash_1_1 rfl (c:=sv) rfl,sv]
 simp (maxSteps:=3000000) (maxDischargeDepth:=6) +contextual -implicitDefEqProofs only [amA M,amB,↓aj,↓ab,↓al,↓ak,Nat.reduceBEq,Nat.reduceAdd,env,ao,Hg,yQ,hq,dg hq,jS]
theorem Pa(hE:iz E)(f:aq){b:Sl aq}{n:Nat}(hb:b.l.length≤bH){H:List ae}{q:Nat}{T:TypeId}(hq:H[q]?=some (.cells [.slice b.tag 2 (b.l.map aq.row)] T)) :
  M.run re [.agg f.row,.ptr q 0] H=some (.ret (.bool (b.l.any fun g=>jS f g)),H):=by
 rw [aZ M hE.morph_clash_1 rfl (c:=vg) rfl,vg]
 have hcf:=oY M hE.slices_IndexFunc_api_Feat_api_Feat hE.slices_ContainsFunc_api_Feat_api_Feat (g:=o4) (fr:=[]) (cap:=[.ptr H.length 0]) (p:=fun g=>jS f g) (tg:=b.tag) hb (H:=H++[.cells f.row ba]) (fun x _=>Mg M hE x f (T:=ba) (by rw [dW];rfl))
 simp (maxSteps:=3000000) (maxDischargeDepth:=6) +contextual -implicitDefEqProofs only [amA M,amB,↓aj,↓ab,↓al,↓ak,Nat.reduceBEq,Nat.reduceAdd,env,ao,Jy,hcf,yQ,dg hq]
theorem SL(hE:iz E){a b:Sl aq}(ha:a.l.length≤bH)(hb:b.l.length≤bH)(H:List ae) :
  M.run y9 [.slice a.tag 2 (a.l.map aq.row),.slice b.tag 2 (b.l.map aq.row)] H=some (.ret (.bool (lA a.l b.l)),H):=by
 rw [aZ M hE.morph_clash rfl (c:=zx) rfl,zx]
 have hcf:=oY M hE.slices_IndexFunc_api_Feat_api_Feat hE.slices_ContainsFunc_api_Feat_api_Feat (g:=re) (fr:=[]) (cap:=[.ptr H.length 0]) (p:=fun f=>b.l.any fun g=>jS f g) (tg:=a.tag) ha (H:=H++[.cells [.slice b.tag 2 (b.l.map aq.row)] dB]) (fun x _=>Pa M hE x (n:=0) hb (T:=dB) (by rw [dW];rfl))
 simp (maxSteps:=3000000) (maxDischargeDepth:=6) +contextual -implicitDefEqProofs only [amA M,amB,↓aj,↓ab,↓al,↓ak,Nat.reduceBEq,Nat.reduceAdd,env,ao,Ma,hcf,lA]
theorem Pb(hE:iz E)(o x:aF){H:List ae}{q:Nat}{T:TypeId}(hq:H[q]?=some (.cells x.row T)):M.run ja [.agg o.row,.ptr q 0] H=some (.ret (.bool (o.lem == x.lem&&o.cls == x.cls)),H):=by
 rw [aZ M hE.morph_checker_entry_1 rfl (c:=lZ) rfl,lZ]
 simp (maxSteps:=3000000) (maxDischargeDepth:=6) +contextual -implicitDefEqProofs only [amA M,amB,↓aj,↓ab,↓al,↓ak,Nat.reduceBEq,Nat.reduceAdd,env,ao,AH,eU,hq,dg hq]
theorem Pc(hE:iz E){s:br}{x:aF}{n m:Nat}(hs:s.ok n)(hx:x.ok m){H:List ae}{q:Nat}{T:TypeId}(hq:H[q]?=some (.cells x.row T)):M.run jb [.agg s.row,.ptr q 0] H=some (.ret (.bool (lA x.feats.l s.feats.l)),H):=by
 rw [aZ M hE.morph_checker_entry_2 rfl (c:=l3) rfl,l3]
 simp (maxSteps:=3000000) (maxDischargeDepth:=6) +contextual -implicitDefEqProofs only [amA M,amB,↓aj,↓ab,↓al,↓ak,Nat.reduceBEq,Nat.reduceAdd,env,ao,AI,eU,iS,hq,dg hq,SL M hE hx.feats.len hs.feats.len]
theorem Pd(hE:iz E)(o x:bV){H:List ae}{q:Nat}{T:TypeId}(hq:H[q]?=some (.cells x.row T)):M.run jc [.agg o.row,.ptr q 0] H=some (.ret (.bool (o.slot == x.slot)),H):=by
 rw [aZ M hE.morph_checker_entry_3 rfl (c:=l4) rfl,l4]
 simp (maxSteps:=3000000) (maxDischargeDepth:=6) +contextual -implicitDefEqProofs only [amA M,amB,↓aj,↓ab,↓al,↓ak,Nat.reduceBEq,Nat.reduceAdd,env,ao,AJ,H9,hq,dg hq]
def MV(n:Nat)(l:List bV)(k:Nat)(f:bV):Int:=
 sel (decide (f.slot<0)||decide ((n:Int)≤f.slot)) 7 (sel ((l.take k).any fun o=>o.slot == f.slot) 6 (sel (!(f.word == []) && !zF f.word) 1 0))
theorem enl{H H0:List ae}(hN:cS E)(hE:iz E){x:aF}{c:a6}{n0:Nat}(hx0:x.ok n0)(hn:n0≤H.length){p q:Nat}{T T2:TypeId}(hp:H[p]?=some (.cells x.row T))(hq:H[q]?=some (.cells c.row T2))(hc:dG H0 H)(k:List Fra):∀ (n i:Nat),i+n=(x.forms.l).length →
  M.go dx H0 (.c gR :: .lp ⟨(some [5,7,48,49,50]),[],true⟩ gR H :: .blk 1 :: .c (.lv [])::k) (kv [(5,.ptr p 0),(7,.ptr q 0),(48,.slice x.forms.tag 2 (x.forms.l.map bV.row)),(49,.int .i64 x.forms.l.length),(50,.int .i64 i)]) H =
   orE (fI (xv (MV c.slots.l.length x.forms.l)) i (x.forms.l.drop i)) (H.take H0.length) (M.go dx H0 k .leaf H)
 |0,i,h=>by
  have e:i=(x.forms.l).length:=by omega
  subst e
  rw [aw M gR.eq_1]
  simp (maxSteps:=3000000) (maxDischargeDepth:=6) +contextual -implicitDefEqProofs only [amA M,amB,↓aj,↓ab,↓al,↓ak,Nat.reduceBEq,Nat.reduceAdd,env,ao,kh,Nat.lt_irrefl,List.drop_length]
 |n+1,i,h=>by
  have hi:i<(x.forms.l).length:=by omega
  have hx:(x.forms.l)[i]?=some (x.forms.l)[i]:=List.getElem?_eq_getElem hi
  have hd:((x.forms.l).drop i)=(x.forms.l)[i]::(x.forms.l).drop (i+1):=List.drop_eq_getElem_cons hi
  have hm:(x.forms.l)[i]∈(x.forms.l):=List.getElem_mem hi
  have ih:=enl (H:=H) (H0:=H0) (hN:=hN) (hE:=hE) (x:=x) (c:=c) (n0:=n0) (hx0:=hx0) (hn:=hn) (p:=p) (q:=q) (T:=T) (T2:=T2) (hp:=hp) (hq:=hq) hc k n (i+1)  (by omega)
  simp only [kv_cons,kv_nil] at ih
  have hp':=fun L=>dg (L:=L) hp
  have hq':=fun L=>dg (L:=L) hq
  have w1:Wk H.length (.ptr p 0) (.ptr p 0):=wk_ptr (List.getElem?_eq_some_iff.1 hp).1
  have w2:Wk H.length (.ptr q 0) (.ptr q 0):=wk_ptr (List.getElem?_eq_some_iff.1 hq).1
  have w3:Wk H.length (.slice x.forms.tag 2 (x.forms.l.map bV.row)) (.slice x.forms.tag 2 (x.forms.l.map bV.row)):=(hx0.forms.mono hn (fun _ h=>h.mono hn)).wk (fun _ h=>h.wk)
  have hcf:=B9 M hE.slices_IndexFunc_api_Irregular_api_Irregular hE.slices_ContainsFunc_api_Irregular_api_Irregular (g:=jc) (fr:=[]) (cap:=[.ptr H.length 0]) (p:=fun o=>o.slot == x.forms.l[i].slot) (tg:=.any) (DG hx0.forms.len i) (H:=H++[.cells x.forms.l[i].row eD]) (fun o _=>Pd M hE o _ (T:=eD) (by rw [dW];rfl))
  rw [aw M gR.eq_1]
  simp (maxSteps:=3000000) (maxDischargeDepth:=6) +contextual -implicitDefEqProofs only [amA M,amB,↓aj,↓ab,↓al,↓ak,Nat.reduceBEq,Nat.reduceAdd,env,ao,kh,hx,hd,hi,ih,amG,AV.cell,hp',hq',w1,w2,w3,hcf,cY hi hx0.forms.len,bz hi,H9,eU,ku,Iv M hN (hx0.forms.all _ hm).word,KD hi,hc,JO,MV,qE]
end
section
attribute [local congr] aG ct bm aH a7 aN aI aA aC aO aP
variable{E:bB}(M:cT cU E)
def Iw(l:Lex)(i:Nat)(x:aF):Int:=
 match Bg l x.cls with
 |none=>sel (!zF x.lem) 1 5
 |some c=>sel (!zF x.lem) 1 (sel ((l.entries.l.take i).any fun o=>o.lem == x.lem&&o.cls == x.cls) 6 (sel (!(s6 l x.feats.l == 0)) (s6 l x.feats.l)
   (sel (c.slots.l.any fun s=>lA x.feats.l s.feats.l) 10 (Cb (MV c.slots.l.length x.forms.l) 0 x.forms.l))))
theorem SM(hN:cS E)(hE:iz E){l:Lex}{x:aF}{n:Nat}(hl:l.ok n)(hx:x.ok n){i:Nat}(hi:i<l.entries.l.length){H:List ae}(hn:n≤H.length) :
  M.run kb [.agg l.row,.int .i64 i,.agg x.row] H=some (.ret (.int .u8 (Iw l i x)),H):=by
 rw [aZ M hE.morph_checker_entry rfl (c:=oF) rfl,oF]
 cases hc:Bg l x.cls with
 |none=>
  have h1:=fun H=>tU M hE hl hc H
  simp (maxSteps:=3000000) (maxDischargeDepth:=6) +contextual -implicitDefEqProofs only [amA M,amB,↓aj,↓ab,↓al,↓ak,Nat.reduceBEq,Nat.reduceAdd,env,ao,kh,amG,AV.cell,Nat.reduceMul,Nat.reduceLeDiff,h1,cj,eU,ku,kU,Iv M hN hx.lem,Iw,hc,ug]
 |some c=>
  have hcm:c∈l.classes.l:=List.mem_of_find?_eq_some hc
  have hco:=hl.classes.all c hcm
  have h2:=Ca M hE.slices_IndexFunc_api_Entry_api_Entry hE.slices_ContainsFunc_api_Entry_api_Entry (g:=ja) (fr:=[]) (cap:=[.ptr (H.length+1) 0]) (p:=fun o=>o.lem == x.lem&&o.cls == x.cls) (tg:=.any) (DG hl.entries.len i) (H:=H++[.cells l.row bw,.cells x.row dI,.cells c.row cr]) (fun o _=>Pb M hE o x (T:=dI) (by rw [hp_getk];rfl))
  have h3:=C8 M hE.slices_IndexFunc_api_Slot_api_Slot hE.slices_ContainsFunc_api_Slot_api_Slot (g:=jb) (fr:=[]) (cap:=[.ptr (H.length+1) 0]) (p:=fun s=>lA x.feats.l s.feats.l) (tg:=c.slots.tag) hco.slots.len (H:=H++[.cells l.row bw,.cells x.row dI,.cells c.row cr]) (fun s hs=>Pc M hE (hco.slots.all s hs) hx (T:=dI) (by rw [hp_getk];rfl))
  have h4:=fun k=>enl M hN hE (H:=H++[.cells l.row bw,.cells x.row dI,.cells c.row cr]) (H0:=H) hx (by simp;omega) (c:=c) (p:=H.length+1) (q:=H.length+2) (T:=dI) (T2:=cr) (by rw [hp_getk];rfl) (by rw [hp_getk];rfl) (cut_app H _) k x.forms.l.length 0 (by omega)
  simp only [kv_cons,kv_nil,Int.ofNat_zero,List.drop_zero] at h4
  simp (maxSteps:=3000000) (maxDischargeDepth:=6) +contextual -implicitDefEqProofs only [amA M,amB,↓aj,↓ab,↓al,↓ak,Nat.reduceBEq,Nat.reduceAdd,env,ao,kh,amG,AV.cell,Nat.reduceMul,Nat.reduceLeDiff,pO M hE hl hc,hn,h2,h3,h4,cj,eU,ku,Iv M hN hx.lem,Cd M hE hl hx.feats,KD hi,Iw,hc,ug,KZ]
def Ce(x:bA):Int:=
 sel (x.frm == [] || !qf kr x.frm || !qf kr x.to || !qf I9 x.left || !qf I9 x.right) 1 0
theorem Pe(hN:cS E)(hE:iz E){l:Lex}{x:bA}{n:Nat}(hx:x.ok n)(i:Int)(H:List ae) :
  M.run kd [.agg l.row,.int .i64 i,.agg x.row] H=some (.ret (.int .u8 (Ce x)),H):=by
 rw [aZ M hE.morph_checker_spell rfl (c:=oG) rfl,oG]
 have h1:=fun (H:List ae) (s:Str) hs=>Bf M hN hE (g:=lL) (fr:=[]) (cap:=[]) (s:=s) hs (fun c=>KY M hN hE c H)
 have h2:=fun (H:List ae) (s:Str) hs=>Bf M hN hE (g:=pq) (fr:=[]) (cap:=[]) (s:=s) hs (fun c=>QH M hN hE c H)
 simp (maxSteps:=3000000) (maxDischargeDepth:=6) +contextual -implicitDefEqProofs only [amA M,amB,↓aj,↓ab,↓al,↓ak,Nat.reduceBEq,Nat.reduceAdd,env,ao,CR,h1,h2,hx.frm,hx.to,hx.left,hx.right,cj,yZ,Ce,ug,Bool.or_assoc]
def MW(l:Lex)(x:dK):Int:=
 match Bg l x.cls with
 |none=>5
 |some _=>sel (!qf nY x.glue) 1 (s6 l x.feats.l)
theorem QK(hN:cS E)(hE:iz E){l:Lex}{x:dK}{n:Nat}(hl:l.ok n)(hx:x.ok n)(i:Int){H:List ae}(hn:n≤H.length) :
  M.run kG [.agg l.row,.int .i64 i,.agg x.row] H=some (.ret (.int .u8 (MW l x)),H):=by
 rw [aZ M hE.morph_checker_link rfl (c:=px) rfl,px]
 have h1:=fun (H:List ae)=>Bf M hN hE (g:=cF) (fr:=[]) (cap:=[]) hx.glue (fun c=>nD M hN.letter c H)
 cases hc:Bg l x.cls with
 |none=>
  have h2:=fun H=>tU M hE hl hc H
  simp (maxSteps:=3000000) (maxDischargeDepth:=6) +contextual -implicitDefEqProofs only [amA M,amB,↓aj,↓ab,↓al,↓ak,Nat.reduceBEq,Nat.reduceAdd,env,ao,uy,amG,AV.cell,Nat.reduceMul,Nat.reduceLeDiff,h2,cj,FA,ku,kU,MW,hc,ug]
 |some c=>
  simp (maxSteps:=3000000) (maxDischargeDepth:=6) +contextual -implicitDefEqProofs only [amA M,amB,↓aj,↓ab,↓al,↓ak,Nat.reduceBEq,Nat.reduceAdd,env,ao,uy,amG,AV.cell,Nat.reduceMul,Nat.reduceLeDiff,pO M hE hl hc,hn,h1,cj,FA,ku,Cd M hE hl hx.feats,MW,hc,ug]
end
section
attribute [local congr] aG ct bm aH a7 aN aI aA aC aO aP
variable{E:bB}(M:cT cU E)
def K7(l:Lex):Int:=pD 8 (NW l) l.traits.l
theorem Pf(hN:cS E)(hE:iz E){l:Lex}{n:Nat}(hl:l.ok n){H:List ae}(hn:n≤H.length){p q:Nat}{T T2:TypeId}(hp:H[p]?=some (.cells l.row T))(hq:H[q]?=some (.cells l.row T2)) :
  M.run qX [.ptr p 0,.ptr q 0] H=some (.ret (.int .u8 (K7 l)),H):=by
 rw [aZ M hE.morph_Check_1 rfl (c:=u6) rfl,u6]
 have he:=KR M hE.morph_each_api_Trait (g:=j9) (fr:=[.agg l.row]) (cap:=[]) (F:=NW l) (tg:=l.traits.tag) (l:=l.traits.l) (H:=H) hl.traits.len
  (wk_fn ⟨wk_agg (hl.mono hn).wk,trivial⟩ trivial) ((hl.traits.mono hn (fun _ h=>h.mono hn)).wk (fun _ h=>h.wk))
  (fun L i x hx=>SJ M hN hE hl (hl.traits.all x (List.mem_of_getElem? hx)) (List.getElem?_eq_some_iff.1 hx).1 _)
 simp (maxSteps:=3000000) (maxDischargeDepth:=6) +contextual -implicitDefEqProofs only [amA M,amB,↓aj,↓ab,↓al,↓ak,Nat.reduceBEq,Nat.reduceAdd,env,ao,Jq,he 8,cj,hp,hq,K7]
def Gb(l:Lex):Int:=pD 16 (Ga l) l.classes.l
theorem Pg(hN:cS E)(hE:iz E){l:Lex}{n:Nat}(hl:l.ok n){H:List ae}(hn:n≤H.length){p q:Nat}{T T2:TypeId}(hp:H[p]?=some (.cells l.row T))(hq:H[q]?=some (.cells l.row T2)) :
  M.run qY [.ptr p 0,.ptr q 0] H=some (.ret (.int .u8 (Gb l)),H):=by
 rw [aZ M hE.morph_Check_2 rfl (c:=u7) rfl,u7]
 have he:=KT M hE.morph_each_api_Class (g:=ka) (fr:=[.agg l.row]) (cap:=[]) (F:=Ga l) (tg:=l.classes.tag) (l:=l.classes.l) (H:=H) hl.classes.len
  (wk_fn ⟨wk_agg (hl.mono hn).wk,trivial⟩ trivial) ((hl.classes.mono hn (fun _ h=>h.mono hn)).wk (fun _ h=>h.wk))
  (fun L i x hx=>SK M hN hE hl (hl.classes.all x (List.mem_of_getElem? hx)) (List.getElem?_eq_some_iff.1 hx).1 (by simp;omega))
 simp (maxSteps:=3000000) (maxDischargeDepth:=6) +contextual -implicitDefEqProofs only [amA M,amB,↓aj,↓ab,↓al,↓ak,Nat.reduceBEq,Nat.reduceAdd,env,ao,Jr,he 16,cj,hp,hq,Gb]
def Ix(l:Lex):Int:=pD 128 (Iw l) l.entries.l
theorem Ph(hN:cS E)(hE:iz E){l:Lex}{n:Nat}(hl:l.ok n){H:List ae}(hn:n≤H.length){p q:Nat}{T T2:TypeId}(hp:H[p]?=some (.cells l.row T))(hq:H[q]?=some (.cells l.row T2)) :
  M.run qZ [.ptr p 0,.ptr q 0] H=some (.ret (.int .u8 (Ix l)),H):=by
 rw [aZ M hE.morph_Check_3 rfl (c:=u9) rfl,u9]
 have he:=KV M hE.morph_each_api_Entry (g:=kb) (fr:=[.agg l.row]) (cap:=[]) (F:=Iw l) (tg:=l.entries.tag) (l:=l.entries.l) (H:=H) hl.entries.len
  (wk_fn ⟨wk_agg (hl.mono hn).wk,trivial⟩ trivial) ((hl.entries.mono hn (fun _ h=>h.mono hn)).wk (fun _ h=>h.wk))
  (fun L i x hx=>SM M hN hE hl (hl.entries.all x (List.mem_of_getElem? hx)) (List.getElem?_eq_some_iff.1 hx).1 (by simp;omega))
 simp (maxSteps:=3000000) (maxDischargeDepth:=6) +contextual -implicitDefEqProofs only [amA M,amB,↓aj,↓ab,↓al,↓ak,Nat.reduceBEq,Nat.reduceAdd,env,ao,Js,he 128,cj,hp,hq,Ix]
def Iy(l:Lex):Int:=pD 16 (fun _ x=>Ce x) l.spells.l
theorem Pj(hN:cS E)(hE:iz E){l:Lex}{n:Nat}(hl:l.ok n){H:List ae}(hn:n≤H.length){p q:Nat}{T T2:TypeId}(hp:H[p]?=some (.cells l.row T))(hq:H[q]?=some (.cells l.row T2)) :
  M.run ra [.ptr p 0,.ptr q 0] H=some (.ret (.int .u8 (Iy l)),H):=by
 rw [aZ M hE.morph_Check_4 rfl (c:=vc) rfl,vc]
 have he:=KX M hE.morph_each_api_Spell (g:=kd) (fr:=[.agg l.row]) (cap:=[]) (F:=fun _ x=>Ce x) (tg:=l.spells.tag) (l:=l.spells.l) (H:=H) hl.spells.len
  (wk_fn ⟨wk_agg (hl.mono hn).wk,trivial⟩ trivial) ((hl.spells.mono hn (fun _ h=>h.mono hn)).wk (fun _ h=>h.wk))
  (fun L i x hx=>Pe M hN hE (hl.spells.all x (List.mem_of_getElem? hx)) i _)
 simp (maxSteps:=3000000) (maxDischargeDepth:=6) +contextual -implicitDefEqProofs only [amA M,amB,↓aj,↓ab,↓al,↓ak,Nat.reduceBEq,Nat.reduceAdd,env,ao,Jt,he 16,cj,hp,hq,Iy]
def K8(l:Lex):Int:=pD 8 (fun _ x=>MW l x) l.links.l
theorem Pk(hN:cS E)(hE:iz E){l:Lex}{n:Nat}(hl:l.ok n){H:List ae}(hn:n≤H.length){p q:Nat}{T T2:TypeId}(hp:H[p]?=some (.cells l.row T))(hq:H[q]?=some (.cells l.row T2)) :
  M.run rb [.ptr p 0,.ptr q 0] H=some (.ret (.int .u8 (K8 l)),H):=by
 rw [aZ M hE.morph_Check_5 rfl (c:=vd) rfl,vd]
 have he:=Mf M hE.morph_each_api_Link (g:=kG) (fr:=[.agg l.row]) (cap:=[]) (F:=fun _ x=>MW l x) (tg:=l.links.tag) (l:=l.links.l) (H:=H) hl.links.len
  (wk_fn ⟨wk_agg (hl.mono hn).wk,trivial⟩ trivial) ((hl.links.mono hn (fun _ h=>h.mono hn)).wk (fun _ h=>h.wk))
  (fun L i x hx=>QK M hN hE hl (hl.links.all x (List.mem_of_getElem? hx)) i (by simp;omega))
 simp (maxSteps:=3000000) (maxDischargeDepth:=6) +contextual -implicitDefEqProofs only [amA M,amB,↓aj,↓ab,↓al,↓ak,Nat.reduceBEq,Nat.reduceAdd,env,ao,Ju,he 8,cj,hp,hq,K8]
structure Clo where
 g:Nat
 fr:List AV
 cap:List AV
 e:Int
def Clo.row(x:Clo):List AV:=[.fn (.func x.g) x.fr x.cap]
theorem XT:(∀ x:Clo,b8 none x.row 0=some (.fn (.func x.g) x.fr x.cap)):=fun _=>rfl
theorem fst{H H0:List ae}{tg:Tag}{l:List Clo}(hs:l.length≤bH)(hp:∀ x∈l,M.run x.g (x.fr++x.cap) H=some (.ret (.int .u8 x.e),H))(hc:dG H0 H)(k:List Fra):∀ (n i:Nat) (He:List ae),i+n=l.length →
  M.go iQ H0 (.c nL :: .lp ⟨(some [6,7,8]),[],false⟩ nL He :: .blk 0 :: .c (.lv [])::k) (kv [(6,.slice tg 1 (l.map Clo.row)),(7,.int .i64 l.length),(8,.int .i64 i)]) H =
   orE (fI (xv fun _ x=>x.e) i (l.drop i)) (H.take H0.length) (M.go iQ H0 k .leaf H)
 |0,i,He,h=>by
  have e:i=l.length:=by omega
  subst e
  rw [aw M nL.eq_1]
  simp (maxSteps:=3000000) (maxDischargeDepth:=6) +contextual -implicitDefEqProofs only [amA M,amB,↓aj,↓ab,↓al,↓ak,Nat.reduceBEq,Nat.reduceAdd,env,ao,zq,Nat.lt_irrefl,List.drop_length]
 |n+1,i,He,h=>by
  have hi:i<l.length:=by omega
  have hx:l[i]?=some l[i]:=List.getElem?_eq_getElem hi
  have hd:(l.drop i)=l[i]::l.drop (i+1):=List.drop_eq_getElem_cons hi
  have hm:l[i]∈l:=List.getElem_mem hi
  have ih:=fun He=>fst (H:=H) (H0:=H0) (tg:=tg) (l:=l) (hs:=hs) (hp:=hp) hc k n (i+1)  He (by omega)
  simp only [kv_cons,kv_nil] at ih
  rw [aw M nL.eq_1]
  simp (maxSteps:=3000000) (maxDischargeDepth:=6) +contextual -implicitDefEqProofs only [amA M,amB,↓aj,↓ab,↓al,↓ak,Nat.reduceBEq,Nat.reduceAdd,env,ao,zq,hx,hd,hi,ih,hp _ hm,cY hi hs,bz hi,XT,hc,xv]
theorem SN(hE:iz E){tg:Tag}{l:List Clo}(hs:l.length≤bH){H:List ae}(hp:∀ x∈l,M.run x.g (x.fr++x.cap) H=some (.ret (.int .u8 x.e),H)) :
  M.run y7 [.slice tg 1 (l.map Clo.row)] H=some (.ret (.int .u8 (Cb (fun _ x=>x.e) 0 l)),H):=by
 rw [aZ M hE.morph_first rfl (c:=zp) rfl,zp]
 have hl:=fun k He=>fst M (tg:=tg) hs hp (cut_refl H) k l.length 0 He (by omega)
 simp only [kv_cons,kv_nil,Int.ofNat_zero,List.drop_zero] at hl
 simp (maxSteps:=3000000) (maxDischargeDepth:=6) +contextual -implicitDefEqProofs only [amA M,amB,↓aj,↓ab,↓al,↓ak,Nat.reduceBEq,Nat.reduceAdd,env,ao,zq,hl]
 exact mb _ l 0 H
def bG(l:Lex):Int:=
 Cb (fun _ e=>e) 0 [T3 l,K7 l,Gb l,Ix l,Iy l,K8 l]
theorem rS(hN:cS E)(hE:iz E){l:Lex}{n:Nat}(hl:l.ok n){H:List ae}(hn:n≤H.length) :
  M.run kZ [.agg l.row] H=some (.ret (.int .u8 (bG l)),H):=by
 rw [aZ M hE.morph_Check rfl (c:=zh) rfl,zh]
 have hf:=SN M hE (tg:=.full) (H:=H++[.cells l.row az,.cells l.row bw])
  (l:=[⟨jF,[.agg l.row],[],T3 l⟩,⟨qX,[],[.ptr H.length 0,.ptr (H.length+1) 0],K7 l⟩,⟨qY,[],[.ptr H.length 0,.ptr (H.length+1) 0],Gb l⟩,
   ⟨qZ,[],[.ptr H.length 0,.ptr (H.length+1) 0],Ix l⟩,⟨ra,[],[.ptr H.length 0,.ptr (H.length+1) 0],Iy l⟩,⟨rb,[],[.ptr H.length 0,.ptr (H.length+1) 0],K8 l⟩]) (by simp [bH]) (by
  have h0:(H++[ae.cells l.row az,.cells l.row bw])[H.length]?=some (.cells l.row az):=by rw [dW];rfl
  have h1:(H++[ae.cells l.row az,.cells l.row bw])[H.length+1]?=some (.cells l.row bw):=by rw [hp_getk];rfl
  have h2:n≤(H++[ae.cells l.row az,.cells l.row bw]).length:=by simp;omega
  intro x hx
  simp only [List.mem_cons,List.not_mem_nil,or_false] at hx
  rcases hx with rfl | rfl | rfl | rfl | rfl | rfl
  ·exact QI M hN hE hl _
  ·exact Pf M hN hE hl h2 h0 h1
  ·exact Pg M hN hE hl h2 h0 h1
  ·exact Ph M hN hE hl h2 h0 h1
  ·exact Pj M hN hE hl h2 h0 h1
  ·exact Pk M hN hE hl h2 h0 h1)
 simp only [List.map_cons,List.map_nil,Clo.row] at hf
 simp (maxSteps:=3000000) (maxDischargeDepth:=6) +contextual -implicitDefEqProofs only [amA M,amB,↓aj,↓ab,↓al,↓ak,Nat.reduceBEq,Nat.reduceAdd,env,ao,L8,amG,AV.cell,Nat.reduceMul,Nat.reduceLeDiff,hf,cj]
 rfl
end
section
attribute [local congr] aG ct bm aH a7 aN aI aA aC aO aP
variable{E:bB}(M:cT cU E)
structure RefE (E:bB):Prop where
 truchmanref02_trait:E.fn oh=some oK
 truchmanref02_Class:E.fn ga=some oB
 truchmanref02_in:E.fn rh=some rk
 truchmanref02_bundle:E.fn jE=some mW
 truchmanref02_traits:E.fn se=some mV
 truchmanref02_classes:E.fn ry=some lT
 truchmanref02_Unify:E.fn oo=some oM
 truchmanref02_entries:E.fn rz=some lU
 truchmanref02_Check:E.fn tv=some ow
theorem Hu(a b:Str):(a == b)=(b == a):=BEq.comm
end
section
attribute [local congr] aG ct bm aH a7 aN aI aA aC aO aP
variable{E:bB}(M:cT cU E)
end
section
attribute [local congr] aG ct bm aH a7 aN aI aA aC aO aP
variable{E:bB}(M:cT cU E)
def Bh(p:aq):List aq→Bool
 |[]=>true
 |x::l=>Op.bytesLess p.name x.name&&Bh x l
def zG:List aq→Bool
 |[]=>true
 |x::l=>Bh x l
end
section
attribute [local congr] aG ct bm aH a7 aN aI aA aC aO aP
variable{E:bB}(M:cT cU E)
def kz:List aq→List aq→Option (List aq)
 |[],b=>some b
 |x::a,[]=>some (x::a)
 |x::a,y::b=>
  match Op.bytesLess x.name y.name with
  |true=>(kz a (y::b)).map (x :: ·)
  |false=>match Op.bytesLess y.name x.name with
   |true=>(kz (x::a) b).map (y :: ·)
   |false=>match x.name == y.name&&x.value == y.value with
    |true=>(kz a b).map (x :: ·)
    |false=>none
termination_by a b=>a.length+b.length
theorem Ea(x y:aq):req (.st [(0,.str),(1,.str)]) (.agg x.row) (.agg y.row)=some (x.name == y.name&&x.value == y.value):=by
 simp only [req,Ag,aq.row,List.getElem?_cons_zero,List.getElem?_cons_succ,GQ]
 cases x.name == y.name<;>simp
 cases x.value == y.value<;>rfl
theorem RE(n:Nat)(x:aq):WkL n (aq.row x) (aq.row x):=⟨wk_str _ _,wk_str _ _,trivial⟩
def Eb(a b:List aq):Option (List aq):=sel (zG a) (sel (zG b) (kz a b) none) none
end
theorem Ec:∀ x:Str,Op.bytesLess x x=false
 |[]=>rfl
 |a::x=>by
  have h:¬ a<a:=by simp
  simp only [Op.bytesLess,Ec x,Bool.and_false,Bool.or_false,decide_eq_false h]
theorem K9:∀ {x y:Str},Op.bytesLess x y=false→Op.bytesLess y x=false→x=y
 |[],[],_,_=>rfl
 |[],_::_,h,_=>by simp [Op.bytesLess] at h
 |_::_,[],_,h=>by simp [Op.bytesLess] at h
 |a::x,b::y,h1,h2=>by
  simp only [Op.bytesLess,Bool.or_eq_false_iff,decide_eq_false_iff_not] at h1 h2
  have hab:a=b:=UInt8.le_antisymm (UInt8.not_lt.1 h2.1) (UInt8.not_lt.1 h1.1)
  subst hab
  simp only [beq_self_eq_true,Bool.true_and] at h1 h2
  rw [K9 h1.2 h2.2]
theorem qL:∀ {x y z:Str},Op.bytesLess x y=true→Op.bytesLess y z=true→Op.bytesLess x z=true
 |_,[],_,h,_=>by cases ‹List UInt8› <;> simp [Op.bytesLess] at h
 |_,_::_,[],_,h=>by simp [Op.bytesLess] at h
 |[],_::_,_::_,_,_=>rfl
 |a::x,b::y,c::z,h1,h2=>by
  simp only [Op.bytesLess,Bool.or_eq_true,decide_eq_true_eq,Bool.and_eq_true,beq_iff_eq] at h1 h2 ⊢
  rcases h1 with h1 | ⟨rfl,h1⟩
  ·rcases h2 with h2 | ⟨rfl,h2⟩
   ·exact .inl (UInt8.lt_trans h1 h2)
   ·exact .inl h1
  ·rcases h2 with h2 | ⟨rfl,h2⟩
   ·exact .inl h2
   ·exact .inr ⟨rfl,qL h1 h2⟩
theorem T5{x y:Str}(h:Op.bytesLess x y=true):Op.bytesLess y x=false:=by
 cases h2:Op.bytesLess y x with
 |false=>rfl
 |true=>have:=qL h h2;rw [Ec] at this;cases this
theorem MX{x y:Str}(h:Op.bytesLess x y=true):(x == y)=false:=by
 cases h2:x == y with
 |false=>rfl
 |true=>rw [eq_of_beq h2,Ec] at h;cases h
theorem vU:∀ {l:List aq}{p:aq},Bh p l=true→∀ x∈l,Op.bytesLess p.name x.name=true
 |[],_,_,_,h=>by cases h
 |y::l,p,h,x,hx=>by
  simp only [Bh,Bool.and_eq_true] at h
  rcases List.mem_cons.1 hx with rfl | hx
  ·exact h.1
  ·exact qL h.1 (vU h.2 x hx)
theorem Bi{x:aq}{l:List aq}(h:zG (x::l)=true):zG l=true:=by
 cases l with
 |nil=>rfl
 |cons y l=>simp only [zG,Bh,Bool.and_eq_true] at h ⊢;exact h.2
theorem La{x:aq}{b:List aq}(h:∀ y∈b,(x.name == y.name)=false):(b.any fun g=>jS x g)=false:=by
 rw [List.any_eq_false]
 intro y hy
 simp [jS,h y hy]
theorem xw(x:aq)(a b:List aq):lA (x::a) b=((b.any fun g=>jS x g)||lA a b):=rfl
theorem Ed(y:aq):∀ (a b:List aq),lA a (y::b)=((a.any fun f=>jS f y)||lA a b)
 |[],_=>rfl
 |x::a,b=>by
  rw [xw,xw,Ed y a b,List.any_cons,List.any_cons]
  cases jS x y<;>cases (b.any fun g=>jS x g)<;>cases (a.any fun f=>jS f y)<;>simp
theorem Jb{y:aq}{a:List aq}(h:∀ x∈a,(x.name == y.name)=false):(a.any fun f=>jS f y)=false:=by
 rw [List.any_eq_false]
 intro x hx
 simp [jS,h x hx]
theorem uK:∀ (n:Nat) (a b:List aq),a.length+b.length≤n→zG a=true→zG b=true→(kz a b).isSome = !lA a b
 |_,[],b,_,_,_=>by cases b<;>simp [kz,lA]
 |_,x::a,[],_,_,_=>by
  have:lA (x::a) []=false:=by simp [lA]
  rw [this];simp [kz]
 |0,x::a,y::b,h,_,_=>by simp at h
 |n+1,x::a,y::b,h,ha,hb=>by
  have hxa:∀ z∈a,Op.bytesLess x.name z.name=true:=vU ha
  have hyb:∀ z∈b,Op.bytesLess y.name z.name=true:=vU hb
  simp only [List.length_cons] at h
  rw [kz]
  cases c1:Op.bytesLess x.name y.name with
  |true=>
   simp only [Option.isSome_map]
   rw [uK n a (y::b) (by simp only [List.length_cons];omega) (Bi ha) hb,xw,La (x:=x) (b:=y::b) (fun z hz=>by
    rcases List.mem_cons.1 hz with rfl | hz
    ·exact MX c1
    ·exact MX (qL c1 (hyb z hz))),Bool.false_or]
  |false=>
   simp only
   cases c2:Op.bytesLess y.name x.name with
   |true=>
    simp only [Option.isSome_map]
    rw [uK n (x::a) b (by simp only [List.length_cons];omega) ha (Bi hb),Ed,Jb (y:=y) (a:=x::a) (fun z hz=>by
     rw [Hu]
     rcases List.mem_cons.1 hz with rfl | hz
     ·exact MX c2
     ·exact MX (qL c2 (hxa z hz))),Bool.false_or]
   |false=>
    have hn:=K9 c1 c2
    simp only [hn,beq_self_eq_true,Bool.true_and]
    cases c3:x.value == y.value with
    |true=>
     simp only [Option.isSome_map]
     rw [uK n a b (by omega) (Bi ha) (Bi hb),xw,Ed,List.any_cons,La (x:=x) (b:=b) (fun z hz=>by rw [hn];exact MX (hyb z hz)),
      Jb (y:=y) (a:=a) (fun z hz=>by rw [Hu,← hn];exact MX (hxa z hz))]
     simp [jS,c3]
    |false=>
     simp only [Option.isSome_none]
     rw [xw,List.any_cons]
     simp [jS,hn,c3]
theorem Pm{a b:List aq}(ha:zG a=true)(hb:zG b=true):(Eb a b).isSome = !lA a b:=by
 rw [Eb,ha,hb]
 exact uK _ a b (Nat.le_refl _) ha hb
theorem rT{α:Type}{F:Nat→α→Int}:∀ {l:List α}{s:Nat},Cb F s l=0→∀ (k:Nat) (x:α),l[k]?=some x→F (s+k) x=0
 |[],_,_,k,x,h=>by simp at h
 |y::l,s,h,k,x,hx=>by
  rw [Cb] at h
  cases hy:F s y == 0 with
  |false=>
   rw [hy] at h
   simp only [Bool.not_false,sel] at h
   rw [h] at hy;simp at hy
  |true=>
   rw [hy] at h
   simp only [Bool.not_true,sel] at h
   cases k with
   |zero=>obtain rfl:y=x:=by simpa using hx
          exact eq_of_beq hy
   |succ k=>
    have:=rT h k x (by simpa using hx)
    rwa [show s+1+k=s+(k+1) by omega] at this
theorem jW{α:Type}{F:Nat→α→Int}{most:Int}{l:List α}(h:pD most F l=0):(l.length:Int)≤most∧∀ (k:Nat) (x:α),l[k]?=some x→F k x=0:=by
 unfold pD at h
 cases hd:decide (most<(l.length:Int)) with
 |true=>rw [hd] at h;simp [sel] at h
 |false=>
  rw [hd] at h
  simp only [sel] at h
  refine ⟨by simpa using hd,fun k x hx => ?_⟩
  have:=rT h k x hx
  rwa [Nat.zero_add] at this
theorem RF:∀ {l:List aq},(∀ (i:Nat) (g f:aq),l[i]?=some g→l[i+1]?=some f→Op.bytesLess g.name f.name=true)→zG l=true
 |[],_=>rfl
 |[x],_=>rfl
 |x::y::l,h=>by
  have h0:=h 0 x y rfl rfl
  have h1:zG (y::l)=true:=RF (fun i g f hg hf=>h (i+1) g f (by simpa using hg) (by simpa using hf))
  simp only [zG,Bh,Bool.and_eq_true] at h1 ⊢
  exact ⟨h0,h1⟩
theorem bundle_ok{l:Lex}{b:List aq}(h:s6 l b=0):b.length≤8∧zG b=true:=by
 obtain ⟨h1,h2⟩:=jW h
 refine ⟨by omega,RF fun i g f hg hf => ?_⟩
 have:=h2 (i+1) f hf
 unfold QJ at this
 split at this
 ·exact absurd this (by decide)
 ·rw [D9 hg,D9 hg] at this
  revert this
  cases (!List.any _ _) with
  |true=>intro h;simp [sel] at h
  |false=>
   cases c:g.name == f.name with
   |true=>intro h;simp [sel] at h
   |false=>
    cases c2:Op.bytesLess g.name f.name with
    |true=>intro _;rfl
    |false=>intro h;simp [sel] at h
section
attribute [local congr] aG ct bm aH a7 aN aI aA aC aO aP
variable{E:bB}(M:cT cU E)
theorem Lb{α:Type}(l:List α)(i:Nat):∀ k,k<(l.take i).length→l[k]?=(l.take i)[k]? := fun k hk=>by
 rw [List.getElem?_take_of_lt];simp at hk;omega
end
end Go.Am
