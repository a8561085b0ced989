import Derived.Test.YtdgcaegjmohbkaaGreatDoorA4
import Derived.Test.YtdgcaegjmohbkaaGreatDoorChecked
import Derived.KernelRfl
import Derived.RangeFuncNested
import Derived.RangeFuncBound
import Derived.RangeFuncCalls
import Derived.RangeFuncLeaves
import Derived.Shelf.Abstract
import Derived.WalkKit
import Derived.OwnWalkIn
import Derived.TacticsInMore
import Derived.LoopNIn
import Derived.LoopIn
import Derived.Lib.MapLaws
import Derived.Stop.FmtQuoteTie
/-
  Part 5 of the tool: an abstract machine over the model, proved sound, and what it says of the functions that the law reaches. Condition: none but those that each theorem names.
-/
set_option linter.unusedVariables false
set_option linter.unusedSimpArgs false
set_option maxRecDepth 100000
set_option maxHeartbeats 4000000
namespace Go.Am
open Go.RowKit
section
open Sh
def r5:AC:=
 (Q (O [mc 0 F]) (Q (O [k 15 (f Gp) [(s [97,32,92,60,98,62,32,60,98,62,120,60,47,98,62,123,110,125])],m 14 15,ex 16 14 0,ex 17 14 1,m 1 16,m 2 17]) (Q
 (O [k 18 (f bp) [(s [97,32,60,98,62,32])],k 19 (f dR) [(s [98])],k 20 (f bp) [(s [120])],k 21 (f dS)
 [(s [98])],o 22 (.bd [(.int .u8 0),(.str []),(.bool false)] [(0,1),(1,1),(2,1)] [(0,(u 5)),(1,(s [110]))]),o 23 (.bs 3 [(.int .u8 0),(.str []),(.bool false)] 5 [(0,(t
 18)),(1,(t 19)),(2,(t 20)),(3,(t 21)),(4,(t 22))]),m 3 23]) (Q (O [o 25 (.bd [(.str []),(.str []),(.bool false)] [(0,1),(1,1),(2,1)] [(0,(s [37,98,68,114,46,
 37,115]))]),o 26 (.bd [(.str []),(.str []),(.bool false)] [(0,1),(1,1),(2,1)] [(0,(s [37,112,37,115])),(1,(s [37,117])),(2,T)]),o 27 (.bs 3 [(.str []),(.str []),
 (.bool false)] 2 [(0,(t 25)),(1,(t 26))]),k 28 (f bp) [(s [68,114,46,32,65,32,105,115,32,105,110,46,32,71,111])],o 29 (.bs 3 [(.int .u8 0),
 (.str []),(.bool false)] 1 [(0,(t 28))]),k2 30 CB 27 29,m 24 30,ex 31 24 0,ex 32 24 1,m 4 31,m 5 32]) (Q (O [k 34 (f dR) [(s [98])],k 35 (f
 bp) [(s [79,110,101,46,32,84,119,111])],k 36 (f dS) [(s [98])],o 37 (.bs 3 [(.int .u8 0),(.str []),(.bool false)] 3 [(0,(t 34)),(1,
 (t 35)),(2,(t 36))]),o 38 (.bs 1 [(.int .i64 0)] 1 [(0,(i 5))]),k2 39 Iq 37 38,m 33 39,ex 40 33 0,ex 41 33 1,m 6 40,m 7 41]) (Q (O [k 43 (f bp)
 [(s [72,105,44,32])],k 44 (f dR) [(s [98])],k 45 (f bp) [(s [121,111,117])],k 46 (f dS) [(s [98])],k 47 (f
 bp) [(s [33])],o 48 (.bs 3 [(.int .u8 0),(.str []),(.bool false)] 5 [(0,(t 43)),(1,(t 44)),(2,(t 45)),(3,(t 46)),(4,(t 47))]),k1 49 wT 48,m
 42 49,ex 50 42 0,ex 51 42 1,m 8 50,m 9 51]) (Q (O [k 53 (f dR) [(s [98])],k 54 (f bp) [(s [114,101,100])],k 55 (f dS)
 [(s [98])],k 56 (f bp) [(s [32,104,111,117,115,101])],o 57 (.bs 3 [(.int .u8 0),(.str []),(.bool false)] 4 [(0,(t 53)),(1,(t 54)),(2,(t 55)),(3,(t
 56))]),o 58 (.bs 1 [(.str [])] 2 [(0,(s [99,97,115,97])),(1,(s [114,111,106,97]))]),o 59 (.bd [(.int .i64 0),(.int .i64 0)] [(0,1),(1,1)] [(0,(i 0)),(1,(i 1))]),o
 60 (.bd [(.int .i64 0),(.int .i64 0)] [(0,1),(1,1)] [(0,(i 1)),(1,(i 0))]),o 61 (.bs 2 [(.int .i64 0),(.int .i64 0)] 2 [(0,(t 59)),(1,(t 60))]),k 62 (f Bb)
 [(t 57),(t 58),(t 61)],m 52 62,ex 63 52 0,ex 64 52 1,m 10 63,m 11 64]) (Q (Q (O [m 65 2,ac 66 .neq 65 (u 0),m 67 66,h 68 67 (.mv (t 5)),h 69 67 (.ar .neq (t 68) (u 0)),
 pt 70 67 69,m 71 70,h 72 71 (.mv (t 7)),h 73 71 (.ar .neq (t 72) (u 0)),pt 74 71 73,m 75 74,h 76 75 (.mv (t 9)),h 77 75 (.ar .neq (t 76) (u 0)),pt 78 75 77,m 79 78,h 80 79
 (.mv (t 11)),h 81 79 (.ar .neq (t 80) (u 0)),pt 82 79 81,m 83 82,h 84 83 (.mv (t 4)),h 85 83 (.len .sl (t 84)),h 86 83 (.ar .neq (t 85) (i 1)),pt 87 83 86,m 88 87,h 89 88
 (.mv (t 4)),h 90 88 (.ias 1 (t 89) (i 0)),h 91 88 (.ld none (t 90)),h 92 88 (.ar .neq (t 91) (i 13)),pt 93 88 92,m 94 93,h 95 94 (.mv (t 6)),h 96 94 (.len .sl (t 95)),h 97
 94 (.ar .neq (t 96) (i 2)),pt 98 94 97]) (C 98 (rt 0 F) X)) (Q (O [o 99 (.bd [(.int .u8 0),(.str []),(.bool false)] [(0,1),(1,1),(2,1)] [(0,(u 3)),(1,(s [98])),(2,T)]),
 o 12 (.nw [(.int .u8 0),(.str []),(.bool false)] ah),n (.st 3 (t 12) (t 99))]) (Q (O [o 100 (.bd [(.int .u8 0),(.str []),(.bool false)] [(0,1),(1,1),(2,1)] [(0,
 (u 2)),(1,(s [98])),(2,T)]),o 13 (.nw [(.int .u8 0),(.str []),(.bool false)] ah),n (.st 3 (t 13) (t 100))]) (Q (D [Pm 101 1,Pm 102 3,K (k2 103
 bW 101 102),Pm 104 103,P (g 105 104 (.mv (t 6))),P (g 106 104 (.ias 1 (t 105) (i 0))),W (g 107 104 (.ld none (t 106))),W (g 110 104 (.ld (some 3) (t
 12))),K (⟨(some 108),(some (104,true)),(.call (.c (.fn (.func dR) [] [])) [(.c (.str [98]))])⟩),K (⟨(some 109),(some (104,true)),(.call (.c (.fn (.func
 bp) [] [])) [(.c (.str [79,110,101,46,32]))])⟩),P (g 111 104 (.bs 3 [(.int .u8 0),(.str []),(.bool false)] 3 [(0,(t 108)),(1,(t 109)),(2,(t 110))])),K
 (⟨(some 112),(some (104,true)),(.call (.c (.fn (.func bW) [] [])) [(.t 107),(.t 111)])⟩),P (pf 113 104 112),Pm 114 113,P (g 115 114 (.mv (t 6))),P (g
 116 114 (.ias 1 (t 115) (i 1))),W (g 117 114 (.ld none (t 116))),W (g 118 114 (.ld (some 3) (t 13))),K (⟨(some 119),(some (114,true)),(.call (.c (.fn (.func
 bp) [] [])) [(.c (.str [84,119,111]))])⟩),K (⟨(some 120),(some (114,true)),(.call (.c (.fn (.func dS) [] [])) [(.c (.str [98]))])⟩),P (g
 121 114 (.bs 3 [(.int .u8 0),(.str []),(.bool false)] 3 [(0,(t 118)),(1,(t 119)),(2,(t 120))])),K (⟨(some 122),(some (114,true)),(.call (.c (.fn (.func
 bW) [] [])) [(.t 117),(.t 121)])⟩),P (pf 123 114 122),Pm 124 123,P (g 125 124 (.mv (t 8))),P (g 126 124 (.bs 1 [(.str [])] 6 [(0,(s [72,105])),(1,(s
 [44])),(2,(s [60,98,62])),(3,(s [121,111,117])),(4,(s [60,47,98,62])),(5,(s [33]))])),K (⟨(some 127),(some (124,true)),(.call (.c (.fn (.func
 tI) [] [])) [(.t 125),(.t 126)])⟩),P (pf 128 124 127),Pm 129 128,P (g 130 129 (.mv (t 10))),K (⟨(some 131),(some (129,true)),(.call (.c (.fn (.func
 bp) [] [])) [(.c (.str [99,97,115,97,32]))])⟩),K (⟨(some 132),(some (129,true)),(.call (.c (.fn (.func dR) [] [])) [(.c (.str [98]))])⟩),
 K (⟨(some 133),(some (129,true)),(.call (.c (.fn (.func bp) [] [])) [(.c (.str [114,111,106,97]))])⟩),K (⟨(some 134),(some (129,true)),(.call (.c (.fn
 (.func dS) [] [])) [(.c (.str [98]))])⟩),P (g 135 129 (.bs 3 [(.int .u8 0),(.str []),(.bool false)] 4 [(0,(t 131)),(1,(t 132)),(2,(t 133)),(3,(t
 134))])),K (⟨(some 136),(some (129,true)),(.call (.c (.fn (.func bW) [] [])) [(.t 130),(.t 135)])⟩),P (pf 137 129 136),Pm 0 137]) R)))))))))))
def r6:AFn:=⟨r5,138,[.t 0],.keep,[],none⟩
def CG:AC:=
 (Q (O [bl 23 22 21]) (Q (C 23 X (.exit 0)) (Q (.block 1 (Q (O [m 24 22,ia 25 1 20 22,ld 26 25,m 8 24,m 9 26]) (Q (O [m 27 9,ac 28 .lss 27 (i 1),m 29 28,h 30 29 (.mv (t 9)),h
 31 29 (.mv (t 6)),h 32 29 (.ar .sub (t 31) (i 1)),h 33 29 (.ar .gtr (t 30) (t 32)),pt 34 29 33,m 35 34,h 36 35 (.mv (t 8)),h 37 35 (.ar .gtr (t 36) (i 0)),h 38 35 (.mv (t
 37)),g 39 38 (.mv (t 1)),g 40 38 (.mv (t 8)),g 41 38 (.ar .sub (t 40) (i 1)),g 42 38 (.ias 1 (t 39) (t 41)),g 43 38 (.ld none (t 42)),g 44 38 (.mv (t 9)),g 45 38 (.ar .geq (t
 43) (t 44)),h 46 35 (.pk (t 38) (t 45) F),pt 47 35 46]) (C 47 (Q (O [mc 4 (.c (.slice .nil 1 [])),mc 5 (u 1)]) R) X)))) (O [ad 48 22,m 22 48]))))
def Gr:AC:=
 (Q (O [mc 4 (.c (.slice .nil 1 [])),mc 5 (u 0)]) (Q (O [m 13 0,k1 14 EF 13,m 12 14,ex 15 12 0,ex 16 12 1,m 6 15,m 7 16]) (Q (Q (O [m 17 7,ac 18 .neq 17 (u 0)]) (C
 18 (Q (O [m 19 7,mc 4 (.c (.slice .nil 1 [])),m 5 19]) R) X)) (Q (Q (O [m 20 1,ls 21 20,mc 22 (i 0)]) (.block 0 (.loop ⟨none,[],false⟩ CG))) (Q (O [m 50 0,m 51 1,
 k2 52 rM 50 51,m 49 52,ex 53 49 0,ex 54 49 1,m 10 53,m 11 54]) (Q (Q (O [m 55 11,no 56 55]) (C 56 (Q (O [mc 4 (.c (.slice .nil 1 [])),mc 5 (u 3)]) R) X)) (Q (O [m 57
 10,m 4 57,mc 5 (u 0)]) R)))))))
def Gs:AFn:=⟨Gr,58,[.t 4,.t 5],.keep,[],none⟩
def ow:AFn:=cE.k
def Bn:AC:=
 (Q X (Q (Q (O [m 76 7,k 77 (t 76) [],no 78 77]) (C 78 (Q (O [mc 2 (.c (.slice .nil 3 [])),mc 3 (u 4)]) R) X)) (Q (Q (O [ld 79 4,k1 80 bX 79,m 11 80]) (Q (O [m
 81 11,ac 82 .neq 81 (u 0)]) (C 82 (Q (O [m 83 11,mc 2 (.c (.slice .nil 3 [])),m 3 83]) R) X))) (Q (O [ld 84 4,m 2 84,mc 3 (u 0)]) R))))
def Bo:AC:=
 (Q X (Q (Q (O [m 16 6,m 17 0,lt 18 17,ar 19 .eql 16 18]) (C 19 (.goto 0) X)) (Q (Q (O [m 20 0,m 21 6,o 22 (.ixs (t 20) (t 21)),m 8 22]) (Q (O [m 23 8]) (.block 0 (Q (O [ac 29
 .eql 23 (u 92),m 28 29]) (C 28 (Q (Q (O [m 30 6,ad 31 30,m 32 0,lt 33 32,ar 34 .eql 31 33,m 35 34,h 36 35 (.mv (t 0)),h 37 35 (.mv (t 6)),h 38 35 (.ar .add (t 37) (i 1)),h
 39 35 (.mv (t 6)),h 40 35 (.ar .add (t 39) (i 2)),h 41 35 (.sls (t 36) (some (t 38)) (some (t 40))),⟨(some 42),(some (35,false)),(.call (.c (.fn (.func oW) []
 [])) [(.c (.str [92,60,123])),(.t 41)])⟩,h 43 35 (.un .not (t 42)),pt 44 35 43]) (C 44 (Q (O [mc 2 (.c (.slice .nil 3 [])),mc 3 (u 4)]) R) X)) (Q (O [m 45 0,m 46 6,ad 47 46,
 o 48 (.ixs (t 45) (t 47)),k2 49 dY 5 48]) (O [m 50 6,ac 51 .add 50 (i 2),m 6 51]))) (Q (Q (O [ac 53 .eql 23 (u 60),m 52 53]) (C 52 X (O [ac 54 .eql 23
 (u 123),m 52 54]))) (C 52 (Q (O [m 56 0,m 57 6,o 58 (.sls (t 56) (some (t 57)) none),k1 59 qn 58,m 55 59,ex 60 55 0,ex 61 55 1,o 9 (.nw [(.int .u8 0),(.str []),
 (.bool false)] ah),n (.st 3 (t 9) (t 60)),m 10 61]) (Q (Q (O [m 62 10,ac 63 .eql 62 (i 0),m 64 63,h 65 64 (.mv (t 7)),⟨(some 66),(some (64,false)),(.call (.t 65)
 [])⟩,h 67 64 (.un .not (t 66)),pt 68 64 67]) (C 68 (Q (O [mc 2 (.c (.slice .nil 3 [])),mc 3 (u 4)]) R) X)) (Q (O [ld 69 4,la 70 3 9,o 71 (.bs 3 [(.int .u8 0),(.str []),(.bool
 false)] 1 [(0,(t 70))]),o 72 (.ap false ah 3 32 false (t 69) (t 71)),n (.st 1 (t 4) (t 72))]) (O [m 73 6,m 74 10,ar 75 .add 73 74,m 6 75])))) (Q (O [m 24 8,k2 25
 dY 5 24]) (ic 26 6 27))))))))) (Q (.goto 1) (Q (.lbl 0) (Q (Q (O [m 76 7,k 77 (t 76) [],no 78 77]) (C 78 (Q (O [mc 2 (.c (.slice .nil 3 [])),mc 3 (u 4)])
 R) X)) (Q (Q (O [ld 79 4,k1 80 bX 79,m 11 80]) (Q (O [m 81 11,ac 82 .neq 81 (u 0)]) (C 82 (Q (O [m 83 11,mc 2 (.c (.slice .nil 3 [])),m 3 83]) R) X))) (Q (O [ld
 84 4,m 2 84,mc 3 (u 0)]) R))))))))
def ER:AC:=
 (Q (O [mc 2 (.c (.slice .nil 3 [])),mc 3 (u 0)]) (.scope (Q (Q (O [m 12 0,lt 13 12,ac 14 .gtr 13 (i 65536)]) (C 14 (Q (O [mc 2 (.c (.slice .nil 3 [])),mc 3 (u 3)]) R) X)) (Q (O
 [o 4 (.nw [(.slice .nil 3 [])] al)]) (Q (O [o 5 (.nwb [.nilp,(.slice .nil 1 [])] p7 1 EI)]) (Q (O [mc 6 (i 0)]) (Q (O [o 15 (.mf (.func
 CC) [] [(t 5),(t 4)]),m 7 15]) (Q (.lbl 1) (Q (Q (O [m 16 6,m 17 0,lt 18 17,ar 19 .eql 16 18]) (C 19 (.goto 0) X)) (Q (Q (O [m 20 0,m 21 6,o 22 (.ixs (t 20) (t
 21)),m 8 22]) (Q (O [m 23 8]) (.block 0 (Q (O [ac 29 .eql 23 (u 92),m 28 29]) (C 28 (Q (Q (O [m 30 6,ad 31 30,m 32 0,lt 33 32,ar 34 .eql 31 33,m 35 34,h 36 35 (.mv (t 0)),h
 37 35 (.mv (t 6)),h 38 35 (.ar .add (t 37) (i 1)),h 39 35 (.mv (t 6)),h 40 35 (.ar .add (t 39) (i 2)),h 41 35 (.sls (t 36) (some (t 38)) (some (t 40))),⟨(some 42),(some (35,
 false)),(.call (.c (.fn (.func oW) [] [])) [(.c (.str [92,60,123])),(.t 41)])⟩,h 43 35 (.un .not (t 42)),pt 44 35 43]) (C 44 (Q (O [mc 2 (.c (.slice .nil 3
 [])),mc 3 (u 4)]) R) X)) (Q (O [m 45 0,m 46 6,ad 47 46,o 48 (.ixs (t 45) (t 47)),k2 49 dY 5 48]) (O [m 50 6,ac 51 .add 50 (i 2),m 6 51]))) (Q (Q (O
 [ac 53 .eql 23 (u 60),m 52 53]) (C 52 X (O [ac 54 .eql 23 (u 123),m 52 54]))) (C 52 (Q (O [m 56 0,m 57 6,o 58 (.sls (t 56) (some (t 57)) none),k1 59 qn 58,m 55 59,
 ex 60 55 0,ex 61 55 1,o 9 (.nw [(.int .u8 0),(.str []),(.bool false)] ah),n (.st 3 (t 9) (t 60)),m 10 61]) (Q (Q (O [m 62 10,ac 63 .eql 62 (i 0),m 64 63,h 65 64
 (.mv (t 7)),⟨(some 66),(some (64,false)),(.call (.t 65) [])⟩,h 67 64 (.un .not (t 66)),pt 68 64 67]) (C 68 (Q (O [mc 2 (.c (.slice .nil 3 [])),mc 3 (u 4)]) R) X)) (Q (O [ld
 69 4,la 70 3 9,o 71 (.bs 3 [(.int .u8 0),(.str []),(.bool false)] 1 [(0,(t 70))]),o 72 (.ap false ah 3 32 false (t 69) (t 71)),n (.st 1 (t 4) (t 72))]) (O [m 73 6,m
 74 10,ar 75 .add 73 74,m 6 75])))) (Q (O [m 24 8,k2 25 dY 5 24]) (ic 26 6 27))))))))) (Q (.goto 1) (Q (.lbl 0) (Q (Q (O [m 76 7,k 77 (t 76) [],no 78
 77]) (C 78 (Q (O [mc 2 (.c (.slice .nil 3 [])),mc 3 (u 4)]) R) X)) (Q (Q (O [ld 79 4,k1 80 bX 79,m 11 80]) (Q (O [m 81 11,ac 82 .neq 81 (u 0)]) (C 82 (Q (O [m 83
 11,mc 2 (.c (.slice .nil 3 [])),m 3 83]) R) X))) (Q (O [ld 84 4,m 2 84,mc 3 (u 0)]) R))))))))))))) (.tab 0 Bn (.tab 1 Bo X))))
def ES:AFn:=⟨ER,85,[.t 2,.t 3],.keep,[],none⟩
def sG:AC:=
 (Q (O [o 2 (.nw [(.int .u8 0),(.str []),(.bool false)] ah)]) (Q (O [m 3 0,o 4 (.bd [(.int .u8 0),(.str []),(.bool false)] [(0,1),(1,1),(2,1)] [(0,(u 1)),(1,(t
 3))]),n (.st 3 (t 2) (t 4))]) R))
def sH:AFn:=⟨sG,5,[.cell 2 (some 3)],.keep,[],none⟩
def sI:AC:=
 (Q (O [o 2 (.nw [(.int .u8 0),(.str []),(.bool false)] ah)]) (Q (O [m 3 0,o 4 (.bd [(.int .u8 0),(.str []),(.bool false)] [(0,1),(1,1),(2,1)] [(0,(u 2)),(1,(t
 3))]),n (.st 3 (t 2) (t 4))]) R))
def sJ:AFn:=⟨sI,5,[.cell 2 (some 3)],.keep,[],none⟩
def sK:AC:=
 (Q (O [o 2 (.nw [(.int .u8 0),(.str []),(.bool false)] ah)]) (Q (O [m 3 0,o 4 (.bd [(.int .u8 0),(.str []),(.bool false)] [(0,1),(1,1),(2,1)] [(0,(u 3)),(1,(t
 3))]),n (.st 3 (t 2) (t 4))]) R))
def sL:AFn:=⟨sK,5,[.cell 2 (some 3)],.keep,[],none⟩
def Bp:AC:=
 (Q (O [mc 4 (.c (.slice .nil 1 [])),mc 5 (u 0)]) (Q (O [m 10 0,k1 11 ky 10,m 9 11,ex 12 9 0,ex 13 9 1,m 6 12,m 7 13]) (Q (Q (O [m 14 7,ac 15 .neq 14 (u 0)]) (C
 15 (Q (O [m 16 7,mc 4 (.c (.slice .nil 1 [])),m 5 16]) R) X)) (Q (Q (O [m 17 1,k1 18 bX 17,m 8 18]) (Q (O [m 19 8,ac 20 .neq 19 (u 0)]) (C 20 (Q (O [m 21 8,mc
 4 (.c (.slice .nil 1 [])),m 5 21]) R) X))) (Q (O [m 22 6,m 23 1,k2 24 mR 22 23,m 4 24,mc 5 (u 0)]) R)))))
def Bq:AFn:=⟨Bp,25,[.t 4,.t 5],.keep,[],none⟩
def zf:AC:=
 (.block 3 (Q (Q (O [la 33 2 9,k1 34 fC 33]) (C 34 (Q (O [ld 35 8,fa 36 0 9,ld 37 36,o 38 (.cvs (t 37)),ar 39 .add 35 38,n (.st 1 (t 8) (t 39))]) (.exit 3)) X))
 (Q (Q (O [ld 40 8,ac 41 .neq 40 (s [])]) (C 41 (Q (O [ld 42 5,ld 43 8,o 44 (.bs 1 [(.str [])] 1 [(0,(t 43))]),o 45 (.ap false aP 1 16 false (t 42) (t 44)),n (.st 1 (t 5)
 (t 45))]) (O [n (.st 1 (t 8) (s []))])) X)) (Q (O [la 46 2 9,k1 47 eK 46]) (C 47 (O [ld 48 5,fa 49 0 9,ld 50 49,o 51 (.cvs (t 50)),o 52 (.bs 1 [(.str [])] 1 [(0,
 (t 51))]),o 53 (.ap false aP 1 16 false (t 48) (t 52)),n (.st 1 (t 5) (t 53))]) X)))))
def zg:AC:=
 (Q (O [bl 18 17 16]) (Q (C 18 X (.exit 0)) (Q (.block 1 (Q (O [ia 19 3 15 17,la 20 3 19,o 7 (.nw [(.int .u8 0),(.str []),(.bool false)] ah),n (.st 3 (t 7) (t 20))]) (Q
 (Q (O [fa 21 0 7,ld 22 21,ac 23 .neq 22 (u 1)]) (C 23 (Q (D [Wl 24 5,W (la 25 3 7),K (k1 26 tJ 25),P (o 27 (.bs 1 [(.str [])] 1 [(0,(t 26))])),E (o 28 (.ap false
 aP 1 16 false (t 24) (t 27))),E (n (.st 1 (t 5) (t 28)))]) (.exit 1)) X)) (Q (O [o 8 (.nw [(.str [])] aP),n (.st 1 (t 8) (s []))]) (Q (Q (O [la 29 3 7,o 30 (.bs 3
 [(.int .u8 0),(.str []),(.bool false)] 1 [(0,(t 29))]),k1 31 lB 30]) (.block 2 (.rfn (.t 31) [32] [[o 9 (.nw [(.int .i32 0),(.bool false)] aZ),n (.st 2 (t
 9) (t 32))]] zf))) (Q (O [ld 54 8,ac 55 .neq 54 (s [])]) (C 55 (O [ld 56 5,ld 57 8,o 58 (.bs 1 [(.str [])] 1 [(0,(t 57))]),o 59 (.ap false aP 1 16 false (t
 56) (t 58)),n (.st 1 (t 5) (t 59))]) X))))))) (O [ad 60 17,m 17 60]))))
def CH:AC:=
 (Q (O [mc 2 (.c (.slice .nil 1 [])),mc 3 (u 0)]) (Q (Q (O [m 10 0,k1 11 bX 10,m 4 11]) (Q (O [m 12 4,ac 13 .neq 12 (u 0)]) (C 13 (Q (O [m 14 4,mc 2 (.c (.slice
 .nil 1 [])),m 3 14]) R) X))) (Q (O [o 5 (.nw [(.slice .nil 1 [])] Gq)]) (Q (Q (O [m 15 0,ls 16 15,mc 17 (i 0)]) (.block 0 (.loop ⟨none,[],false⟩ zg))) (Q
 (Q (O [ld 61 5,ls 62 61,ac 63 .gtr 62 (i 512)]) (C 63 (Q (O [mc 2 (.c (.slice .nil 1 [])),mc 3 (u 3)]) R) X)) (Q (O [ld 64 5,m 2 64,mc 3 (u 0)]) R))))))
def CI:AFn:=⟨CH,65,[.t 2,.t 3],.keep,[],none⟩
def wY:AC:=
 (Q (O [bl 50 49 48]) (Q (C 50 X (.exit 0)) (Q (.block 1 (Q (O [ia 51 2 47 49,la 52 2 51,o 13 (.nw [(.int .i64 0),(.int .i64 0)] Dv),n (.st 2 (t 13) (t 52))]) (Q (O [fa 53
 0 13,ld 54 53,ac 55 .lss 54 (i 0),m 56 55,h 57 56 (.fa 0 (t 13)),h 58 56 (.ld none (t 57)),h 59 56 (.mv (t 11)),h 60 56 (.ar .geq (t 58) (t 59)),pt 61 56 60,m 62 61,h 63
 62 (.fa 1 (t 13)),h 64 62 (.ld none (t 63)),h 65 62 (.ar .lss (t 64) (i 0)),pt 66 62 65,m 67 66,h 68 67 (.fa 1 (t 13)),h 69 67 (.ld none (t 68)),h 70 67 (.mv (t 1)),h 71 67
 (.len .sl (t 70)),h 72 67 (.ar .geq (t 69) (t 71)),pt 73 67 72]) (C 73 (Q (O [mc 6 (.c (.slice .nil 3 [])),mc 7 (u 1)]) R) X)))) (O [ad 74 49,m 49 74]))))
def wZ:AC:=
 (Q (O [bl 89 88 87]) (Q (C 89 X (.exit 2)) (Q (.block 3 (Q (O [ia 90 1 86 88,ld 91 90,m 18 91]) (Q (O [m 93 18,k1 94 lC 93,m 92 94,ex 95 92 0,ex 96 92 1,o 19 (.nw
 [(.int .u8 0),(.str []),(.bool false)] ah),n (.st 3 (t 19) (t 95)),m 20 96]) (Q (Q (O [m 97 20,no 98 97]) (C 98 (O [o 99 (.bd [(.int .u8 0),(.str []),(.bool false)]
 [(0,1),(1,1),(2,1)] [(0,(u 5))]),n (.st 3 (t 19) (t 99))]) X)) (Q (O [la 100 3 19,k2 101 gu 16 100,no 102 101]) (C 102 (Q (O [mc 6 (.c (.slice .nil 3
 [])),mc 7 (u 8)]) R) X)))))) (O [ad 103 88,m 88 103]))))
def zh:AC:=
 (Q (O [mc 6 (.c (.slice .nil 3 [])),mc 7 (u 0)]) (Q (Q (O [m 22 1,k1 23 wU 22,m 8 23]) (Q (O [m 24 8,ac 25 .neq 24 (u 0)]) (C 25 (Q (O [m 26 8,mc 6 (.c (.slice
 .nil 3 [])),m 7 26]) R) X))) (Q (Q (O [m 27 1,k1 28 yN 27,ls 29 28,m 30 1,ls 31 30,bl 32 29 31]) (C 32 (Q (O [mc 6 (.c (.slice .nil 3 [])),mc 7 (u 1)]) R) X)) (Q (O
 [m 34 0,k1 35 wT 34,m 33 35,ex 36 33 0,ex 37 33 1,m 9 36,m 10 37]) (Q (Q (O [m 38 10,ac 39 .neq 38 (u 0)]) (C 39 (Q (O [m 40 10,mc 6 (.c (.slice .nil 3 [])),m 7
 40]) R) X)) (Q (Q (O [m 41 2,ls 42 41,ac 43 .gtr 42 (i 2048)]) (C 43 (Q (O [mc 6 (.c (.slice .nil 3 [])),mc 7 (u 3)]) R) X)) (Q (O [m 44 9,k1 45 yN 44,ls 46 45,m 11
 46]) (Q (Q (O [m 47 2,ls 48 47,mc 49 (i 0)]) (.block 0 (.loop ⟨none,[],false⟩ wY))) (Q (O [m 75 9,k1 76 y8 75,m 14 76]) (Q (Q (O [m 77 14,m 78 2,
 k 79 (f wV) [(t 77),(t 78),(.c .nilp)],no 80 79]) (C 80 (Q (O [mc 6 (.c (.slice .nil 3 [])),mc 7 (u 10)]) R) X)) (Q (O [m 81 14,m 82 1,m 83 1,ls 84 83,k 85 (f
 Bc) [(t 81),(t 82),(i 0),(t 84)],m 15 85]) (Q (O [o 16 (.nw [(.bool false),(.bool false)] cD)]) (Q (Q (O [m 86 15,ls 87 86,mc 88 (i 0)]) (.block 2 (.loop
 ⟨none,[],false⟩ wZ))) (Q (Q (O [m 104 15,ls 105 104,ac 106 .gtr 105 (i 512)]) (C 106 (Q (O [mc 6 (.c (.slice .nil 3 [])),mc 7 (u 3)]) R) X)) (Q (O [m 107 15,k1
 108 CD 107,m 21 108]) (Q (Q (O [m 109 21,ls 110 109,ac 111 .gtr 110 (i 512)]) (C 111 (Q (O [mc 6 (.c (.slice .nil 3 [])),mc 7 (u 3)]) R) X)) (Q (O [m 112 21,m 6 112,
 mc 7 (u 0)]) R)))))))))))))))))
def zi:AFn:=⟨zh,113,[.t 6,.t 7],.keep,[],none⟩
def qW:AC:=
 (Q (Q (O [m 11 5,m 12 0,ls 13 12,bl 14 11 13]) (C 14 X (.exit 0))) (Q (.block 1 (Q (D [Pm 17 0,Pm 18 5,P (ia 19 1 17 18),Wl 20 19,Pm 21 1,Pm 22 5,P (ia 23 1 21 22),Wl 24
 23,P (ar 25 .neq 20 24)]) (C 25 (rt 4 F) X))) (ic 15 5 16)))
def sM:AC:=
 (Q (O [mc 4 F]) (Q (Q (O [m 6 0,ls 7 6,m 8 1,ls 9 8,ar 10 .neq 7 9]) (C 10 (rt 4 F) X)) (Q (Q (O [mc 5 (i 0)]) (.block 0 (.loop ⟨none,[],false⟩ qW))) (rt
 4 T))))
def sN:AFn:=⟨sM,26,[.t 4],.keep,[],none⟩
def CJ:AC:=
 (Q (O [mc 2 (i 0),mc 3 (u 0)]) (Q (Q (O [m 5 0,k1 6 bX 5,m 4 6]) (Q (O [m 7 4,ac 8 .neq 7 (u 0)]) (C 8 (Q (O [m 9 4,mc 2 (i 0),m 3 9]) R) X))) (Q (O [m 10 0,
 k1 11 lB 10,k1 12 ej 11,ls 13 12,m 2 13,mc 3 (u 0)]) R)))
def CL:AFn:=⟨CJ,14,[.t 2,.t 3],.keep,[],none⟩
def CM:AC:=
 (Q (O [o 31 (.nx (t 30)),ex 32 31 0]) (Q (C 32 X (.exit 3)) (.block 4 (Q (O [ex 33 31 2,m 10 33]) (O [m 34 6,m 35 10,o 36 (.cvs (t 35)),o 37 (.bd [(.int .u8 0),(.str []),
 (.bool false)] [(0,1),(1,1),(2,1)] [(0,(u 1)),(1,(t 36))]),k2 38 dK 34 37])))))
def CN:AC:=
 (Q (O [bl 18 17 16]) (Q (C 18 X (.exit 0)) (Q (.block 1 (Q (O [ia 19 3 15 17,la 20 3 19,o 8 (.nw [(.int .u8 0),(.str []),(.bool false)] ah),n (.st 3 (t 8) (t 20))]) (Q
 (O [fa 21 0 8,ld 22 21]) (.block 2 (Q (O [ac 27 .eql 22 (u 1),m 26 27]) (C 26 (Q (O [fa 28 1 8,ld 29 28,o 30 (.rg (t 29))]) (.block 3 (.loop ⟨none,[],false⟩ CM)))
 (Q (O [ac 40 .eql 22 (u 5),m 39 40]) (C 39 (O [m 41 6,la 42 3 8,k2 43 dK 41 42]) (O [m 23 6,la 24 3 8,k2 25 jh 23 24]))))))))) (O [ad 44 17,m 17
 44]))))
def Gt:AC:=
 (Q (O [mc 4 (.c (.slice .nil 1 [])),mc 5 F]) (Q (O [o 11 (.bm al 1 [(.slice .nil 0 [])] 1 [(0,(.c (.slice .nil 3 [])))]),m 12 1,o 13 (.bd [(.slice .nil 1 []),
 (.slice .nil 1 []),(.int .i64 0),(.bool false),(.slice .nil 1 [])] [(0,1),(1,1),(2,1),(3,1),(4,1)] [(0,(t 11)),(1,(t 12))]),o 14 (.bx aV (t 13)),m 6 14])
 (Q (Q (O [m 15 0,ls 16 15,mc 17 (i 0)]) (.block 0 (.loop ⟨none,[],false⟩ CN))) (Q (D [Pm 45 6,P (o 46 (.nc (t 45))),Pf 47 0 46,Wl 48 47,Pm 49 6,P (o 50 (.nc (t
 49))),Pf 51 0 50,Wl 52 51,K (k 53 (f bS) [(t 52),(f eP)]),P (no 54 53),Pm 4 48,Pm 5 54]) R))))
def Gu:AFn:=⟨Gt,55,[.t 4,.t 5],.keep,[1],none⟩
def pJ:AC:=
 (Q (O [mc 2 (s [])]) (Q (D [Pm 3 0,P (o 4 (.nc (t 3))),Pf 5 1 4,Wl 6 5,P (o 7 (.usl (t 6))),Pm 8 0,P (o 9 (.nc (t 8))),Pf 10 1 9,Wl 11 10,W (ls 12 11),E (o 13 (.ust
 EI (t 7) (t 12))),Pm 2 13]) R))
def pK:AFn:=⟨pJ,14,[.t 2],.keep,[],none⟩
def uR:AFn:=eN.k
def vF:AFn:=ji.k
def xW:AFn:=dy.k
def Br:AFn:=fy.k
def Bs:AC:=
 (Q (O [mc 2 F]) (Q (O [k1 4 qm 0,m 3 4]) (Q (O [k1 5 qU 0]) (Q (Q (O [m 6 3,ac 7 .neq 6 (s [])]) (C 7 (O [ld 8 1,m 9 3,o 10 (.bd
 [(.int .u8 0),(.str []),(.bool false)] [(0,1),(1,1),(2,1)] [(0,(u 1)),(1,(t 9))]),o 11 (.bs 3 [(.int .u8 0),(.str []),(.bool false)] 1 [(0,(t 10))]),o 12 (.ap false
 ah 3 32 false (t 8) (t 11)),n (.st 1 (t 1) (t 12))]) X)) (Q (O [m 13 3,k1 14 gI 13,m 2 14]) R)))))
def Bt:AFn:=⟨Bs,15,[.t 2],.keep,[],none⟩
def qx:AC:=
 (Q (O [m 2 0,o 3 (.nc (t 2)),fa 4 0 3,n (.st 1 (t 4) (.c .nilp))]) (O [m 5 0,o 6 (.nc (t 5)),fa 7 1 6,n (.st 1 (t 7) (.c (.slice .nil 1 [])))]))
def qy:AFn:=⟨qx,8,[],.keep,[],none⟩
def Bu:AFn:=iQ.k
def uS:AC:=
 (Q (O [mc 4 F]) (Q (O [m 5 0,m 6 1,k2 7 y9 5 6,ac 8 .geq 7 (i 0),m 4 8]) R))
def uT:AFn:=⟨uS,9,[.t 4],.keep,[],none⟩
def nC:AC:=
 (Q (O [mc 4 (.c .nilif)]) (Q (O [m 5 0,k1 6 od 5]) (Q (O [m 7 0,m 8 0,o 9 (.nc (t 8)),fa 10 1 9,ld 11 10,m 12 1,o 13 (.bs 1 [(.int .u8 0)] 1 [(0,(t
 12))]),o 14 (.ap false EI 1 1 false (t 11) (t 13)),o 15 (.nc (t 7)),fa 16 1 15,n (.st 1 (t 16) (t 14))]) (Q (O [mc 4 (.c .nilif)]) R))))
def nD:AFn:=⟨nC,17,[.t 4],.keep,[],none⟩
def Bv:AC:=
 (Q (O [o 2 (.nw [(.int .u8 0),(.str []),(.bool false)] ah),mc 3 (i 0)]) (Q (O [m 6 0,k 7 (f vz) [(t 6),(s [62,125])],m 4 7]) (Q (Q (O [m 8 4,ac 9
 .lss 8 (i 0)]) (C 9 (Q (O [o 10 (.bd [(.int .u8 0),(.str []),(.bool false)] [(0,1),(1,1),(2,1)] []),n (.st 3 (t 2) (t 10)),mc 3 (i 0)]) R) X)) (Q (O [m 11 0,m 12 4,o 13
 (.sls (t 11) (some (i 1)) (some (t 12))),o 14 (.bd [(.int .u8 0),(.str []),(.bool false)] [(0,1),(1,1),(2,1)] [(0,(u 2)),(1,(t 13))]),o 5 (.nw [(.int .u8 0),(.str []),
 (.bool false)] ah),n (.st 3 (t 5) (t 14))]) (Q (.block 0 (Q (O [m 16 0,o 17 (.ixs (t 16) (i 0)),ac 18 .eql 17 (u 123),m 15 18]) (C 15 (O [fa 19 0 5,n (.st 1 (t 19) (u
 5))]) (Q (O [fa 21 1 5,ld 22 21,k 23 (f j6) [(t 22),(s [47,43])],m 20 23]) (C 20 (O [fa 24 1 5,ld 25 24,o 26 (.sls (t 25) (some (i 2)) none),o 27 (.bd
 [(.int .u8 0),(.str []),(.bool false)] [(0,1),(1,1),(2,1)] [(0,(u 3)),(1,(t 26)),(2,T)]),n (.st 3 (t 5) (t 27))]) (Q (O [fa 29 1 5,ld 30 29,k 31 (f
 j6) [(t 30),(s [47])],m 28 31]) (C 28 (O [fa 32 1 5,ld 33 32,o 34 (.sls (t 33) (some (i 1)) none),o 35 (.bd [(.int .u8 0),(.str []),(.bool false)] [(0,1),
 (1,1),(2,1)] [(0,(u 3)),(1,(t 34))]),n (.st 3 (t 5) (t 35))]) (Q (O [fa 37 1 5,ld 38 37,k 39 (f j6) [(t 38),(s [43])],m 36 39]) (C 36 (O [fa 40 1 5,ld
 41 40,o 42 (.sls (t 41) (some (i 1)) none),o 43 (.bd [(.int .u8 0),(.str []),(.bool false)] [(0,1),(1,1),(2,1)] [(0,(u 2)),(1,(t 42)),(2,T)]),n (.st 3 (t 5) (t 43))])
 (Q (O [fa 45 1 5,ld 46 45,k 47 (f uO) [(t 46),(s [47])],m 44 47]) (C 44 (O [fa 48 1 5,ld 49 48,fa 50 1 5,ld 51 50,lt 52 51,ac 53 .sub 52 (i 1),o 54 (.sls
 (t 49) none (some (t 53))),o 55 (.bd [(.int .u8 0),(.str []),(.bool false)] [(0,1),(1,1),(2,1)] [(0,(u 4)),(1,(t 54))]),n (.st 3 (t 5) (t 55))]) X))))))))))) (Q (Q (D
 [Pf 56 1 5,Wl 57 56,E (k1 58 mS 57),P (no 59 58),Pm 60 59,W (h 61 60 (.ld (some 3) (t 5))),E (⟨(some 62),(some (60,false)),(.call (.c (.fn (.func tJ)
 [] [])) [(.t 61)])⟩),P (h 63 60 (.mv (t 0))),P (h 64 60 (.mv (t 4))),P (h 65 60 (.ar .add (t 64) (i 1))),P (h 66 60 (.sls (t 63) none (some (t 65)))),P (h 67 60 (.ar .neq (t
 62) (t 66))),P (pt 68 60 67)]) (C 68 (Q (O [o 69 (.bd [(.int .u8 0),(.str []),(.bool false)] [(0,1),(1,1),(2,1)] []),n (.st 3 (t 2) (t 69)),mc 3 (i 0)]) R) X)) (Q (O [la
 70 3 5,m 71 4,ad 72 71,n (.st 3 (t 2) (t 70)),m 3 72]) R)))))))
def Bw:AFn:=⟨Bv,73,[.cell 2 (some 3),.t 3],.keep,[],none⟩
def zj:AC:=
 (Q (O [o 1 (.bx ah (t 0)),mc 2 (s [])]) (Q (O [mc 3 (s [])]) (Q (Q (O [fa 4 2 1,ld 5 4]) (C 5 (O [mc 3 (s [43])]) X)) (Q (Q (O [fa 6 0 1,ld 7 6]) (.block 0 (Q (O [ac 9
 .eql 7 (u 2),m 8 9]) (C 8 (Q (O [m 10 3,o 11 (.ar .add (s [60]) (t 10)),fa 12 1 1,ld 13 12,ar 14 .add 11 13,ac 15 .add 14 (s [62]),m 2 15]) R) (Q (O [ac 17 .eql 7 (u 3),m 16
 17]) (C 16 (Q (O [m 18 3,o 19 (.ar .add (s [60,47]) (t 18)),fa 20 1 1,ld 21 20,ar 22 .add 19 21,ac 23 .add 22 (s [62]),m 2 23]) R) (Q (O [ac 25 .eql 7 (u 4),m 24 25]) (C 24
 (Q (O [fa 26 1 1,ld 27 26,o 28 (.ar .add (s [60]) (t 27)),ac 29 .add 28 (s [47,62]),m 2 29]) R) (Q (O [ac 31 .eql 7 (u 5),m 30 31]) (C 30 (Q (O [fa 32 1 1,ld 33 32,o 34 (.ar
 .add (s [123]) (t 33)),ac 35 .add 34 (s [125]),m 2 35]) R) X)))))))))) (Q (D [P (o 36 (.bs 1 [(.str [])] 6 [(0,(s [92])),(1,(s [92,92])),(2,(s [60])),(3,(s [92,60])),(4,
 (s [123])),(5,(s [92,123]))])),Pf 38 1 1,Wl 39 38,K (k1 37 sE 36),K (k2 40 oY 37 39),Pm 2 40]) R)))))
def zk:AFn:=⟨zj,41,[.t 2],.keep,[],none⟩
def CO:AFn:=ot.k
def w6:AFn:=jV.k
def w7:AFn:=jW.k
def tS:AC:=
 (Q (O [bl 14 13 12]) (Q (C 14 X (.exit 0)) (Q (.block 1 (Q (O [ia 15 1 11 13,ld 16 15,m 5 16]) (Q (Q (O [m 17 5,k1 18 CE 17,no 19 18]) (C 19 (rt 2 (u 4)) X)) (Q (O [m
 21 5,k1 22 lC 21,m 20 22,ex 23 20 0,ex 24 20 1,o 6 (.nw [(.int .u8 0),(.str []),(.bool false)] ah),n (.st 3 (t 6) (t 23)),m 7 24]) (Q (Q (O [m 25 7,no
 26 25]) (C 26 (O [o 27 (.bd [(.int .u8 0),(.str []),(.bool false)] [(0,1),(1,1),(2,1)] [(0,(u 5)),(1,(s [120]))]),n (.st 3 (t 6) (t 27))]) X)) (O [m 28 3,la 29 3 6,o 30
 (.bs 3 [(.int .u8 0),(.str []),(.bool false)] 1 [(0,(t 29))]),o 31 (.ap false ah 3 32 false (t 28) (t 30)),m 3 31])))))) (O [ad 32 13,m 13 32]))))
def vG:AC:=
 (Q (O [mc 2 (u 0)]) (Q (Q (O [m 8 0,ls 9 8,ac 10 .gtr 9 (i 512)]) (C 10 (rt 2 (u 3)) X)) (Q (O [mc 3 (.c (.slice .nil 3 []))]) (Q (Q (O [m 11 0,ls 12 11,mc 13 (i 0)]) (.block 0
 (.loop ⟨none,[],false⟩ tS))) (Q (O [m 33 3,k1 34 bX 33,m 2 34]) R)))))
def vH:AFn:=⟨vG,35,[.t 2],.keep,[],none⟩
def Bx:AC:=
 (Q (O [bl 11 10 9]) (Q (C 11 X (.exit 0)) (Q (.block 1 (Q (O [ia 12 1 8 10,ld 13 12,m 5 13]) (Q (O [m 15 5,k1 16 vA 15,m 14 16,ex 17 14 0,ex 18 14 1,o 6 (.nw [(.int
 .u8 0),(.str []),(.bool false)] ah),n (.st 3 (t 6) (t 17)),m 7 18]) (Q (O [m 19 7,no 20 19]) (C 20 (O [m 21 3,m 22 5,o 23 (.bs 1 [(.str [])] 1 [(0,(t 22))]),o 24
 (.ap false aP 1 16 false (t 21) (t 23)),m 3 24]) X))))) (O [ad 25 10,m 10 25]))))
def ET:AC:=
 (Q (O [mc 2 (.c (.slice .nil 1 []))]) (Q (O [mc 3 (.c (.slice .nil 1 []))]) (Q (Q (O [m 8 0,ls 9 8,mc 10 (i 0)]) (.block 0 (.loop ⟨none,[],false⟩ Bx))) (Q (O [m 26
 3,m 2 26]) R))))
def EU:AFn:=⟨ET,27,[.t 2],.keep,[],none⟩
def vI:AC:=
 (Q (O [bl 20 19 18]) (Q (C 20 X (.exit 0)) (Q (.block 1 (Q (O [ia 21 1 17 19,ld 22 21,m 7 22]) (Q (O [m 24 7,k1 25 vA 24,m 23 25,ex 26 23 0,ex 27 23 1,o 8 (.nw [(.int
 .u8 0),(.str []),(.bool false)] ah),n (.st 3 (t 8) (t 26)),m 9 27]) (Q (O [fa 28 0 4,ld 29 28,fa 30 0 4,ld 31 30,ls 32 31,ac 33 .sub 32 (i 1),ia 34 1 29 33,ld 35
 34,m 10 35]) (.block 2 (Q (O [m 57 9,no 58 57,m 56 58]) (C 56 (ic 59 5 60) (Q (O [fa 62 0 8,ld 63 62,ac 64 .eql 63 (u 3),m 61 64]) (C 61 (Q (O [m 65 10,m 66 10,m 67 7,m 68
 5,o 69 (.nc (t 65)),fa 70 1 69,n (.st 1 (t 70) (t 67)),o 71 (.nc (t 66)),fa 72 3 71,n (.st 1 (t 72) (t 68))]) (O [m 73 10,k2 74 nd 4 73])) (Q (O [m
 36 7,m 37 5,m 38 5,o 39 (.bd [(.str []),(.str []),(.int .i64 0),(.int .i64 0),(.slice .nil 1 []),(.int .i64 0),(.int .i64 0)] [(0,1),(1,1),(2,1),(3,1),(4,1),(5,
 1),(6,1)] [(0,(t 36)),(2,(t 37)),(3,(t 38))]),o 40 (.bx tK (t 39)),m 11 40]) (Q (O [m 41 10,m 42 10,o 43 (.nc (t 42)),fa 44 4 43,ld 45 44,m 46 11,o 47
 (.bs 1 [.nilp] 1 [(0,(t 46))]),o 48 (.ap false mA 1 8 false (t 45) (t 47)),o 49 (.nc (t 41)),fa 50 4 49,n (.st 1 (t 50) (t 48))]) (Q (O [fa 51 0 8,ld 52 51,ac
 53 .eql 52 (u 2)]) (C 53 (O [m 54 11,k2 55 mz 4 54]) X))))))))))))) (O [ad 75 19,m 19 75]))))
def xX:AC:=
 (Q (O [mc 2 (.c (.slice .nil 1 []))]) (Q (O [o 12 (.bd [(.str []),(.str []),(.int .i64 0),(.int .i64 0),(.slice .nil 1 []),(.int .i64 0),(.int .i64 0)] [(0,1),(1,1),(2,
 1),(3,1),(4,1),(5,1),(6,1)] []),o 13 (.bx tK (t 12)),m 3 13]) (Q (O [m 14 3,o 15 (.bs 1 [.nilp] 1 [(0,(t 14))]),o 16 (.bd [(.slice .nil 1 [])] [(0,1)] [(0,
 (t 15))]),o 4 (.nw [(.slice .nil 1 [])] oq),n (.st 1 (t 4) (t 16))]) (Q (O [mc 5 (i 0)]) (Q (Q (O [m 17 0,ls 18 17,mc 19 (i 0)]) (.block 0 (.loop ⟨none,
 [],false⟩ vI))) (Q (O [m 76 3,o 77 (.nc (t 76)),fa 78 4 77,ld 79 78,m 2 79]) R))))))
def xY:AFn:=⟨xX,80,[.t 2],.keep,[],none⟩
def zl:AC:=
 (Q (O [bl 37 36 35]) (Q (C 37 X (.exit 2)) (Q (.block 3 (Q (O [ia 38 2 34 36,la 39 2 38,o 11 (.nw [(.int .i64 0),(.int .i64 0)] Dv),n (.st 2 (t 11) (t 39))]) (.block 4 (Q
 (D [Pf 41 0 11,Wl 42 41,Pm 43 8,P (o 44 (.nc (t 43))),Pf 45 2 44,Wl 46 45,P (ar 47 .geq 42 46),Pm 48 47,P (g 49 48 (.fa 0 (t 11))),W (g 50 48 (.ld none (t 49))),P (g 51 48
 (.mv (t 8))),P (g 52 48 (.nc (t 51))),P (g 53 48 (.fa 3 (t 52))),W (g 54 48 (.ld none (t 53))),P (g 55 48 (.ar .lss (t 50) (t 54))),P (pf 56 48 55),Pm 40 56]) (C 40 (Q (Q (D
 [Pm 57 8,P (o 58 (.nc (t 57))),Pf 59 5 58,Wl 60 59,P (ac 61 .lss 60 (i 0)),Pm 62 61,P (h 63 62 (.fa 1 (t 11))),W (h 64 62 (.ld none (t 63))),P (h 65 62 (.mv (t 8))),P (h 66
 62 (.nc (t 65))),P (h 67 62 (.fa 5 (t 66))),W (h 68 62 (.ld none (t 67))),P (h 69 62 (.ar .lss (t 64) (t 68))),P (pt 70 62 69)]) (C 70 (O [m 71 8,fa 72 1 11,ld 73 72,o 74
 (.nc (t 71)),fa 75 5 74,n (.st 1 (t 75) (t 73))]) X)) (D [Pm 76 8,Pm 77 8,P (o 78 (.nc (t 77))),Pf 79 6 78,Wl 80 79,Pf 81 1 11,Wl 82 81,P (ad 83 82),P (o 84 (.mx (t 80) (t
 83))),P (o 85 (.nc (t 76))),Pf 86 6 85,E (n (.st 1 (t 86) (t 84)))])) (Q (D [Pf 88 0 11,Wl 89 88,Pm 90 8,P (o 91 (.nc (t 90))),Pf 92 2 91,Wl 93 92,P (bl 94 89 93),Pm 87
 94]) (C 87 (O [m 95 9,fa 96 1 11,ld 97 96,ad 98 97,o 99 (.mx (t 95) (t 98)),m 9 99]) X))))))) (O [ad 100 36,m 36 100]))))
def zm:AC:=
 (Q (O [bl 25 24 23]) (Q (C 25 X (.exit 0)) (Q (.block 1 (Q (O [ia 26 1 22 24,ld 27 26,m 8 27]) (Q (O [m 28 8,m 29 8,o 30 (.nc (t 28)),fa 31 5 30,n (.st 1 (t 31) (i (-1))),o
 32 (.nc (t 29)),fa 33 6 32,n (.st 1 (t 33) (i (-1)))]) (Q (O [mc 9 (i 0)]) (Q (Q (O [m 34 1,ls 35 34,mc 36 (i 0)]) (.block 2 (.loop ⟨none,[],false⟩ zl))) (Q (O [m
 101 8,o 102 (.nc (t 101)),fa 103 5 102,ld 104 103,ac 105 .lss 104 (i 0)]) (C 105 (Q (Q (O [m 106 2,o 107 (.eq true .ptr (t 106) (.c .nilp))]) (C 107 (D [Pm 108 9,Pm 109 2,P
 (o 110 (.nc (t 109))),Pf 111 5 110,Wl 112 111,P (o 113 (.mx (t 108) (t 112))),Pm 114 2,P (o 115 (.nc (t 114))),Pf 116 6 115,Wl 117 116,P (o 118 (.mn (t 113) (t 117))),Pm 9
 118]) X)) (O [m 119 8,m 120 8,m 121 9,m 122 9,o 123 (.nc (t 119)),fa 124 5 123,n (.st 1 (t 124) (t 121)),o 125 (.nc (t 120)),fa 126 6 125,n (.st 1 (t 126) (t 122))]))
 X))))))) (O [ad 127 24,m 24 127]))))
def zn:AC:=
 (Q (O [bl 140 139 138]) (Q (C 140 X (.exit 7)) (Q (.block 8 (Q (O [ia 141 1 137 139,ld 142 141,m 15 142]) (Q (D [Pm 143 13,E (k1 144 cU 143),Pm 145 144,P (g
 146 145 (.mv (t 15))),E (⟨(some 147),(some (145,true)),(.call (.c (.fn (.func cU) [] [])) [(.t 146)])⟩),P (pf 148 145 147),Pm 149 148,P (g 150 149 (.mv (t
 13))),P (g 151 149 (.nc (t 150))),P (g 152 149 (.fa 5 (t 151))),W (g 153 149 (.ld none (t 152))),P (g 154 149 (.mv (t 15))),P (g 155 149 (.nc (t 154))),P (g 156 149 (.fa 6 (t
 155))),W (g 157 149 (.ld none (t 156))),P (g 158 149 (.ar .lss (t 153) (t 157))),P (pf 159 149 158),Pm 160 159,P (g 161 160 (.mv (t 15))),P (g 162 160 (.nc (t 161))),P (g 163
 160 (.fa 5 (t 162))),W (g 164 160 (.ld none (t 163))),P (g 165 160 (.mv (t 13))),P (g 166 160 (.nc (t 165))),P (g 167 160 (.fa 6 (t 166))),W (g 168 160 (.ld none (t 167))),P
 (g 169 160 (.ar .lss (t 164) (t 168))),P (pf 170 160 169)]) (C 170 (rt 6 F) X)))) (O [ad 171 139,m 139 171]))))
def zo:AC:=
 (Q (O [bl 131 130 129]) (Q (C 131 X (.exit 5)) (Q (.block 6 (Q (O [m 132 130,ia 133 1 128 130,ld 134 133,m 12 132,m 13 134]) (Q (O [m 135 0,m 136 12,o 137 (.sll 1 (t 135) none
 (some (t 136)) none),ls 138 137,mc 139 (i 0)]) (.block 7 (.loop ⟨none,[],false⟩ zn))))) (O [ad 172 130,m 130 172]))))
def zp:AC:=
 (Q (O [bl 182 181 180]) (Q (C 182 X (.exit 11)) (Q (.block 12 (Q (O [ia 183 1 179 181,ld 184 183,m 19 184]) (Q (D [Pm 185 17,E (k1 186 cU 185),P (no 187 186),
 Pm 188 187,P (g 189 188 (.mv (t 19))),E (⟨(some 190),(some (188,true)),(.call (.c (.fn (.func cU) [] [])) [(.t 189)])⟩),P (pf 191 188 190),Pm 192 191,P (g
 193 192 (.mv (t 19))),P (g 194 192 (.nc (t 193))),P (g 195 192 (.fa 5 (t 194))),W (g 196 192 (.ld none (t 195))),P (g 197 192 (.mv (t 17))),P (g 198 192 (.nc (t 197))),P (g
 199 192 (.fa 5 (t 198))),W (g 200 192 (.ld none (t 199))),P (g 201 192 (.ar .lss (t 196) (t 200))),P (pf 202 192 201),Pm 203 202,P (g 204 203 (.mv (t 17))),P (g 205 203 (.nc
 (t 204))),P (g 206 203 (.fa 5 (t 205))),W (g 207 203 (.ld none (t 206))),P (g 208 203 (.mv (t 19))),P (g 209 203 (.nc (t 208))),P (g 210 203 (.fa 6 (t 209))),W (g 211 203 (.ld
 none (t 210))),P (g 212 203 (.ar .lss (t 207) (t 211))),P (pf 213 203 212)]) (C 213 (D [Pm 214 17,Pm 215 17,Pm 216 19,P (o 217 (.nc (t 216))),Pf 218 6 217,Wl 219 218,Pm 220
 19,P (o 221 (.nc (t 220))),Pf 222 6 221,Wl 223 222,P (o 224 (.nc (t 214))),Pf 225 5 224,E (n (.st 1 (t 225) (t 219))),P (o 226 (.nc (t 215))),Pf 227 6 226,E (n (.st 1 (t
 227) (t 223)))]) X)))) (O [ad 228 181,m 181 228]))))
def zq:AC:=
 (Q (O [bl 176 175 174]) (Q (C 176 X (.exit 9)) (Q (.block 10 (Q (O [ia 177 1 173 175,ld 178 177,m 17 178]) (Q (O [m 179 0,ls 180 179,mc 181 (i 0)]) (.block 11 (.loop ⟨none,[],
 false⟩ zp))))) (O [ad 229 175,m 175 229]))))
def zr:AC:=
 (Q (O [bl 233 232 231]) (Q (C 233 X (.exit 13)) (Q (.block 14 (Q (O [ia 234 1 230 232,ld 235 234,m 21 235]) (Q (O [m 236 21,o 237 (.nc (t 236)),fa 238 4 237,ld 239 238,m 240
 1,m 241 21,k 242 (f wV) [(t 239),(t 240),(t 241)],no 243 242]) (C 243 (rt 6 F) X)))) (O [ad 244 232,m 232 244]))))
def CP:AC:=
 (Q (O [mc 6 F]) (Q (Q (O [m 22 0,ls 23 22,mc 24 (i 0)]) (.block 0 (.loop ⟨none,[],false⟩ zm))) (Q (Q (O [m 128 0,ls 129 128,mc 130 (i 0)]) (.block 5 (.loop ⟨none,
 [],false⟩ zo))) (Q (Q (O [m 173 0,ls 174 173,mc 175 (i 0)]) (.block 9 (.loop ⟨none,[],false⟩ zq))) (Q (Q (O [m 230 0,ls 231 230,mc 232 (i 0)])
 (.block 13 (.loop ⟨none,[],false⟩ zr))) (rt 6 T))))))
def CQ:AFn:=⟨CP,245,[.t 6],.keep,[],none⟩
def CR:AC:=
 (Q (O [bl 20 19 18]) (Q (C 20 X (.exit 0)) (Q (.block 1 (Q (O [ia 21 1 17 19,ld 22 21,m 12 22]) (Q (O [m 23 10,m 24 1,m 25 2,m 26 12,o 27 (.nc (t 26)),fa 28 5 27,ld 29 28,o
 30 (.sll 1 (t 24) (some (t 25)) (some (t 29)) none),o 31 (.ap false aP 1 16 false (t 23) (t 30)),m 10 31]) (Q (O [m 32 10,m 33 12,o 34 (.nc (t 33)),fa 35 0 34,ld 36 35,
 o 37 (.bs 1 [(.str [])] 1 [(0,(t 36))]),o 38 (.ap false aP 1 16 false (t 32) (t 37)),m 10 38]) (Q (D [Pm 39 10,Pm 40 12,P (o 41 (.nc (t 40))),Pf 42 4 41,Wl 43 42,Pm 44
 1,Pm 45 12,P (o 46 (.nc (t 45))),Pf 47 5 46,Wl 48 47,Pm 49 12,P (o 50 (.nc (t 49))),Pf 51 6 50,Wl 52 51,E (k 53 (f Bc) [(t 43),(t 44),(t 48),(t 52)]),E (o 54
 (.ap false aP 1 16 false (t 39) (t 53))),Pm 10 54]) (Q (Q (O [m 55 12,o 56 (.nc (t 55)),fa 57 1 56,ld 58 57,ac 59 .neq 58 (s [])]) (C 59 (O [m 60 10,m 61 12,o 62 (.nc
 (t 61)),fa 63 1 62,ld 64 63,o 65 (.bs 1 [(.str [])] 1 [(0,(t 64))]),o 66 (.ap false aP 1 16 false (t 60) (t 65)),m 10 66]) X)) (O [m 67 12,o 68 (.nc (t 67)),fa 69 6
 68,ld 70 69,m 2 70]))))))) (O [ad 71 19,m 19 71]))))
def Gv:AC:=
 (Q (O [mc 8 (.c (.slice .nil 1 []))]) (Q (O [m 13 0,k1 14 iW 13,m 9 14]) (Q (O [m 15 9,k 16 (f
 fX) [(t 15),(f EG)]]) (Q (O [mc 10 (.c (.slice .nil 1 []))]) (Q (Q (O [m 17 9,ls 18 17,mc 19 (i 0)]) (.block 0 (.loop
 ⟨none,[],false⟩ CR))) (Q (O [m 72 10,m 73 1,m 74 2,m 75 3,o 76 (.sll 1 (t 73) (some (t 74)) (some (t 75)) none),o 77 (.ap false aP 1 16 false (t 72) (t 76)),
 m 8 77]) R))))))
def Gw:AFn:=⟨Gv,78,[.t 8],.keep,[],none⟩
def CS:AC:=
 (Q (O [o 2 (.nw [(.int .u8 0),(.str []),(.bool false)] ah),mc 3 F]) (Q (Q (O [m 6 0,ac 7 .eql 6 (s []),m 8 7,h 9 8 (.mv (t 0)),h 10 8 (.ixs (t 9) (i 0)),h 11 8 (.ar
 .neq (t 10) (u 60)),h 12 8 (.mv (t 11)),g 13 12 (.mv (t 0)),g 14 12 (.ixs (t 13) (i 0)),g 15 12 (.ar .neq (t 14) (u 123)),h 16 8 (.pk (t 12) (t 15) F),pt 17 8 16]) (C 17 (Q (O
 [o 18 (.bd [(.int .u8 0),(.str []),(.bool false)] [(0,1),(1,1),(2,1)] []),n (.st 3 (t 2) (t 18)),mc 3 F]) R) X)) (Q (O [m 20 0,k1 21 qn 20,m 19 21,ex 22 19 0,
 ex 23 19 1,o 4 (.nw [(.int .u8 0),(.str []),(.bool false)] ah),n (.st 3 (t 4) (t 22)),m 5 23]) (Q (O [la 24 3 4,m 25 5,ac 26 .gtr 25 (i 0),m 27 26,g 28 27 (.mv (t
 5)),g 29 27 (.mv (t 0)),g 30 27 (.len .str (t 29)),g 31 27 (.ar .eql (t 28) (t 30)),pf 32 27 31,n (.st 3 (t 2) (t 24)),m 3 32]) R))))
def CT:AFn:=⟨CS,33,[.cell 2 (some 3),.t 3],.keep,[],none⟩
def sO:AFn:=gA.k
def xZ:AC:=
 (Q (O [bl 23 22 21]) (Q (C 23 X (.exit 0)) (Q (.block 1 (Q (O [ia 24 1 20 22,ld 25 24,m 10 25]) (Q (Q (O [m 27 10,k1 28 vA 27,m 26 28,ex 29 26 0,ex 30 26 1,o 11 (.nw
 [(.int .u8 0),(.str []),(.bool false)] ah),n (.st 3 (t 11) (t 29)),m 12 30]) (Q (O [m 31 12]) (C 31 (Q (O [ld 32 4,la 33 3 11,o 34 (.bs 3 [(.int .u8 0),(.str []),
 (.bool false)] 1 [(0,(t 33))]),o 35 (.ap false ah 3 32 false (t 32) (t 34)),n (.st 1 (t 4) (t 35))]) (.exit 1)) X))) (Q (O [m 36 8,m 37 6,m 38 37,g 39 38 (.mv (t 5)),
 g 40 38 (.mv (t 10)),⟨(some 41),(some (38,true)),(.call (.c (.fn (.func CF) [] [])) [(.t 39),(.t 40)])⟩,pf 42 38 41,k 43 (t 36) [(t 42)]]) (Q (Q (O [m 45 10,k1 46
 lC 45,m 44 46,ex 47 44 0,ex 48 44 1,o 13 (.nw [(.int .u8 0),(.str []),(.bool false)] ah),n (.st 3 (t 13) (t 47)),m 14 48]) (Q (O [m 49 14]) (C 49 (O [ld
 50 3,la 51 3 13,k2 52 br 50 51]) (O [ld 53 3,m 54 10,o 55 (.bd [(.int .u8 0),(.str []),(.bool false)] [(0,1),(1,1),(2,1)] [(0,(u 1)),(1,(t 54))]),k2 56
 br 53 55])))) (O [m 57 10,m 5 57,mc 6 T])))))) (O [ad 58 22,m 22 58]))))
def By:AC:=
 (Q (O [mc 2 (.c (.slice .nil 3 []))]) (Q (O [o 15 (.bm al 1 [(.slice .nil 0 [])] 1 [(0,(.c (.slice .nil 3 [])))]),o 16 (.bd [(.slice .nil 1 []),(.slice .nil 1 []),
 (.int .i64 0),(.bool false),(.slice .nil 1 [])] [(0,1),(1,1),(2,1),(3,1),(4,1)] [(0,(t 15))]),o 17 (.bx aV (t 16)),o 3 (.nw [.nilp] ze),n (.st
 1 (t 3) (t 17))]) (Q (O [o 4 (.nw [(.slice .nil 3 [])] al)]) (Q (O [mc 5 (s []),mc 6 F]) (Q (O [o 18 (.mf (.func za) [] [(t 3)]),o 7 (.nw [.nilfn]
 Q8),n (.st 1 (t 7) (t 18))]) (Q (O [o 19 (.mf (.func zb) [] [(t 4),(t 7),(t 3)]),m 8 19]) (Q (Q (O [m 20 0,ls 21 20,mc 22 (i 0)]) (.block 0 (.loop ⟨none,[],
 false⟩ xZ))) (Q (O [m 59 8,k 60 (t 59) [F]]) (Q (O [ld 61 3,o 62 (.nc (t 61)),fa 63 0 62,ld 64 63,o 65 (.ias 1 (t 64) (i 0)),ld 66 65,m 2 66]) R)))))))))
def Bz:AFn:=⟨By,67,[.t 2],.keep,[1],none⟩
def oz:AFn:=eC.k
def uU:AFn:=iy.k
def vJ:AC:=
 (Q (O [o 3 (.bx ah (t 1))]) (Q (Q (O [m 4 0,o 5 (.nc (t 4)),fa 6 3 5,ld 7 6,m 8 7,g 9 8 (.fa 0 (t 3)),g 10 8 (.ld none (t 9)),g 11 8 (.ar .neq (t 10) (u 3)),pf 12 8
 11]) (C 12 (O [m 13 0,k1 14 di 13]) X)) (Q (Q (O [fa 15 0 3,ld 16 15]) (.block 0 (Q (O [ac 18 .eql 16 (u 2),m 17 18]) (C 17 (D [Pm 19 0,Pm 20 0,P (o 21 (.nc (t
 20))),Pf 22 4 21,Wl 23 22,Pf 24 1 3,Wl 25 24,P (o 26 (.bs 1 [(.str [])] 1 [(0,(t 25))])),E (o 27 (.ap false aP 1 16 false (t 23) (t 26))),P (o 28 (.nc (t 19))),Pf 29
 4 28,E (n (.st 1 (t 29) (t 27)))]) (Q (O [ac 31 .eql 16 (u 3),m 30 31]) (C 30 (D [Pm 32 0,Pm 33 0,P (o 34 (.nc (t 33))),Pf 35 4 34,Wl 36 35,Pm 37 0,P (o 38 (.nc (t 37))),Pf
 39 4 38,Wl 40 39,W (ls 41 40),P (ac 42 .sub 41 (i 1)),P (o 43 (.sll 1 (t 36) none (some (t 42)) none)),P (o 44 (.nc (t 32))),Pf 45 4 44,E (n (.st 1 (t 45) (t 43)))]) X))))))
 (O [m 46 0,la 47 3 3,k2 48 br 46 47]))))
def vK:AFn:=⟨vJ,49,[],.keep,[],none⟩
def iA:AFn:=bT.k
def CU:AFn:=ou.k
def nE:AC:=
 (Q (O [m 2 0,o 3 (.nc (t 2)),fa 4 0 3,ld 5 4,o 6 (.eq false .ptr (t 5) (.c .nilp))]) (C 6 (O [m 7 0,m 8 0,o 9 (.cvu (t 8)),k1 10 dU 9,o 11 (.cvf
 p7 2 (t 10)),o 12 (.nc (t 7)),fa 13 0 12,n (.st 1 (t 13) (t 11))]) (Q (O [m 14 0,o 15 (.nc (t 14)),fa 16 0 15,ld 17 16,m 18 0,o 19 (.eq true .ptr (t 17) (t
 18))]) (C 19 .bad X))))
def nF:AFn:=⟨nE,20,[],.keep,[],none⟩
def BA:AFn:=iR.k
def qz:AFn:=fc.k
def pL:AC:=
 (O [m 4 0,m 5 0,o 6 (.nc (t 5)),fa 7 0 6,ld 8 7,m 9 1,o 10 (.bs 1 [(.str [])] 1 [(0,(t 9))]),o 11 (.ap false aP 1 16 false (t 8) (t 10)),o 12 (.nc (t 4)),fa 13 0 12,
 n (.st 1 (t 13) (t 11))])
def pM:AFn:=⟨pL,14,[],.keep,[],none⟩
def zt:AC:=
 (Q (Q (O [m 14 6,m 15 5,ls 16 15,bl 17 14 16]) (C 17 X (.exit 0))) (Q (.block 1 (Q (O [m 20 5,m 21 6,ia 22 1 20 21,ld 23 22,o 7 (.nw [(.int .i32 0)] zO),n (.st 1 (t 7)
 (t 23))]) (Q (Q (O [ld 24 7,o 25 (.ar .neq (t 24) (.c (.int .i32 37)))]) (C 25 (Q (O [m 26 4,o 27 (.mf (.func en) [] [(t 7)]),o 28 (.bd [.nilfn] [(0,1)] [(0,(t
 27))]),o 29 (.bs 1 [.nilfn] 1 [(0,(t 28))]),o 30 (.ap false cq 1 8 false (t 26) (t 29)),m 4 30]) (.exit 1)) X)) (Q (Q (ic 31 6 32) (Q (O [m 33 6,m 34 5,ls 35 34,ar
 36 .eql 33 35]) (C 36 (Q (O [mc 2 (.c (.slice .nil 1 [])),mc 3 F]) R) X))) (Q (O [o 37 (.bd [.nilfn] [(0,1)] []),o 8 (.nw [.nilfn] cq),n (.st 1 (t 8) (t 37))]) (Q (Q (O
 [m 38 5,m 39 6,ia 40 1 38 39,ld 41 40]) (.block 2 (Q (O [o 43 (.ar .eql (t 41) (.c (.int .i32 97))),m 42 43]) (C 42 (O [fa 44 0 8,n (.st 1 (t 44) (f dL))]) (Q
 (O [o 46 (.ar .eql (t 41) (.c (.int .i32 117))),m 45 46]) (C 45 (O [fa 47 0 8,n (.st 1 (t 47) (f ju))]) (Q (O [o 49 (.ar .eql (t 41) (.c (.int .i32 108))),m 48 49])
 (C 48 (O [fa 50 0 8,n (.st 1 (t 50) (f jv))]) (Q (O [o 52 (.ar .eql (t 41) (.c (.int .i32 100))),m 51 52]) (C 51 (O [fa 53 0 8,n (.st 1 (t 53) (f
 el))]) (Q (O [o 55 (.ar .eql (t 41) (.c (.int .i32 115))),m 54 55]) (C 54 (O [fa 56 0 8,n (.st 1 (t 56) (f fb))]) (Q (O [o 58 (.ar .eql (t 41) (.c
 (.int .i32 112))),m 57 58]) (C 57 (O [fa 59 0 8,n (.st 1 (t 59) (f eK))]) (Q (O [o 61 (.ar .eql (t 41) (.c (.int .i32 104))),m 60 61]) (C 60 (O [fa 62 0 8,n (.st 1
 (t 62) (f jw))]) (Q (O [o 64 (.ar .eql (t 41) (.c (.int .i32 46))),m 63 64]) (C 63 (O [fa 65 0 8,n (.st 1 (t 65) (f jx))]) (Q (O [o 67 (.ar .eql (t 41) (.c
 (.int .i32 37))),m 66 67]) (C 66 (O [fa 68 0 8,n (.st 1 (t 68) (f jy))]) (Q (O [o 70 (.ar .eql (t 41) (.c (.int .i32 98))),m 69 70]) (C 69 X (Q (O [mc 2 (.c (.slice
 .nil 1 [])),mc 3 F]) R))))))))))))))))))))))) (O [m 71 4,la 72 1 8,o 73 (.bs 1 [.nilfn] 1 [(0,(t 72))]),o 74 (.ap false cq 1 8 false (t 71) (t 73)),m 4 74]))))))) (ic
 18 6 19)))
def CV:AC:=
 (Q (O [mc 2 (.c (.slice .nil 1 [])),mc 3 F]) (Q (Q (O [m 9 0,k1 10 gI 9,no 11 10]) (C 11 (Q (O [mc 2 (.c (.slice .nil 1 [])),mc 3 F]) R) X)) (Q (O [mc 4 (.c (.slice
 .nil 1 []))]) (Q (O [m 12 0,o 13 (.cvsr (t 12)),m 5 13]) (Q (Q (O [mc 6 (i 0)]) (.block 0 (.loop ⟨none,[],false⟩ zt))) (Q (O [m 75 4,m 2 75,mc 3 T]) R))))))
def CW:AFn:=⟨CV,76,[.t 2,.t 3],.keep,[],none⟩
def w8:AFn:=jX.k
def kH:AC:=
 (Q (O [mc 2 (.c (.int .i32 0)),mc 3 (i 0)]) (Q (Q (O [m 4 0,ac 5 .neq 4 (s []),m 6 5,g 7 6 (.mv (t 0)),g 8 6 (.ixs (t 7) (i 0)),g 9 6 (.ar .lss (t 8) (u 128)),pf 10 6 9]) (C
 10 (Q (O [m 11 0,o 12 (.ixs (t 11) (i 0)),o 13 (.cvi .i32 (t 12)),m 2 13,mc 3 (i 1)]) R) (O [m 15 0,k1 16 jU 15,m 14 16,ex 17 14 0,ex 18
 14 1,m 2 17,m 3 18]))) R))
def kI:AFn:=⟨kH,19,[.t 2,.t 3],.keep,[],none⟩
def x6:AC:=
 (Q (O [mc 4 (i 0)]) (Q (O [m 5 0,m 6 1,k2 7 nu 5 6,m 4 7]) R))
def x7:AFn:=⟨x6,8,[.t 4],.keep,[],none⟩
def sP:AC:=
 (Q (Q (O [m 33 8,m 34 0,lt 35 34,bl 36 33 35]) (C 36 X (.exit 0))) (Q (.block 1 (Q (O [m 39 0,m 40 8,o 41 (.ixs (t 39) (t 40)),k2 42 om 6 41]) (C 42
 (Q (O [m 43 8,m 4 43]) R) X))) (ic 37 8 38)))
def sQ:AC:=
 (Q (O [o 46 (.nx (t 45)),ex 47 46 0]) (Q (C 47 X (.exit 2)) (.block 3 (Q (O [ex 48 46 1,ex 49 46 2,m 9 48,m 10 49]) (Q (O [m 50 1,m 51 10,k2 52 nS 50 51,ac
 53 .geq 52 (i 0)]) (C 53 (Q (O [m 54 9,m 4 54]) R) X))))))
def uV:AC:=
 (Q (O [mc 4 (i 0)]) (Q (Q (O [m 11 1,ac 12 .eql 11 (s [])]) (C 12 (rt 4 (i (-1))) X)) (Q (Q (O [m 13 1,lt 14 13,ac 15 .eql 14 (i 1)]) (C 15 (Q (O [m 16 1,o 17 (.ixs (t 16) (i
 0)),o 18 (.cvi .i32 (t 17)),m 5 18]) (Q (Q (O [m 19 5,o 20 (.ar .geq (t 19) (.c (.int .i32 128)))]) (C 20 (O [mc 5 (.c (.int .i32 65533))]) X)) (Q (O [m 21 0,m 22 5,k2 23
 nS 21 22,m 4 23]) R))) X)) (Q (Q (O [m 24 0,lt 25 24,k1 26 oh 25]) (C 26 (Q (O [m 28 1,k1 29 rP 28,m 27 29,ex 30
 27 0,ex 31 27 1,o 6 (.nw [(.bool false),(.bool false),(.bool false),(.bool false),(.bool false),(.bool false),(.bool false),(.bool false),(.bool false),(.bool false),
 (.bool false),(.bool false),(.bool false),(.bool false),(.bool false),(.bool false),(.bool false),(.bool false),(.bool false),(.bool false),(.bool false),(.bool false),
 (.bool false),(.bool false),(.bool false),(.bool false),(.bool false),(.bool false),(.bool false),(.bool false),(.bool false),(.bool false),(.bool false),(.bool false),
 (.bool false),(.bool false),(.bool false),(.bool false),(.bool false),(.bool false),(.bool false),(.bool false),(.bool false),(.bool false),(.bool false),(.bool false),
 (.bool false),(.bool false),(.bool false),(.bool false),(.bool false),(.bool false),(.bool false),(.bool false),(.bool false),(.bool false),(.bool false),(.bool false),
 (.bool false),(.bool false),(.bool false),(.bool false),(.bool false),(.bool false),(.bool false),(.bool false),(.bool false),(.bool false),(.bool false),(.bool false),
 (.bool false),(.bool false),(.bool false),(.bool false),(.bool false),(.bool false),(.bool false),(.bool false),(.bool false),(.bool false),(.bool false),(.bool false),
 (.bool false),(.bool false),(.bool false),(.bool false),(.bool false),(.bool false),(.bool false),(.bool false),(.bool false),(.bool false),(.bool false),(.bool false),
 (.bool false),(.bool false),(.bool false),(.bool false),(.bool false),(.bool false),(.bool false),(.bool false),(.bool false),(.bool false),(.bool false),(.bool false),
 (.bool false),(.bool false),(.bool false),(.bool false),(.bool false),(.bool false),(.bool false),(.bool false),(.bool false),(.bool false),(.bool false),(.bool false),
 (.bool false),(.bool false),(.bool false),(.bool false),(.bool false),(.bool false),(.bool false),(.bool false),(.bool false),(.bool false),(.bool false),(.bool false),
 (.bool false),(.bool false),(.bool false),(.bool false),(.bool false),(.bool false),(.bool false),(.bool false),(.bool false),(.bool false),(.bool false),(.bool false),
 (.bool false),(.bool false),(.bool false),(.bool false),(.bool false),(.bool false),(.bool false),(.bool false),(.bool false),(.bool false),(.bool false),(.bool false),
 (.bool false),(.bool false),(.bool false),(.bool false),(.bool false),(.bool false),(.bool false),(.bool false),(.bool false),(.bool false),(.bool false),(.bool false),
 (.bool false),(.bool false),(.bool false),(.bool false),(.bool false),(.bool false),(.bool false),(.bool false),(.bool false),(.bool false),(.bool false),(.bool false),
 (.bool false),(.bool false),(.bool false),(.bool false),(.bool false),(.bool false),(.bool false),(.bool false),(.bool false),(.bool false),(.bool false),(.bool false),
 (.bool false),(.bool false),(.bool false),(.bool false),(.bool false),(.bool false),(.bool false),(.bool false),(.bool false),(.bool false),(.bool false),(.bool false),
 (.bool false),(.bool false),(.bool false),(.bool false),(.bool false),(.bool false),(.bool false),(.bool false),(.bool false),(.bool false),(.bool false),(.bool false),
 (.bool false),(.bool false),(.bool false),(.bool false),(.bool false),(.bool false),(.bool false),(.bool false),(.bool false),(.bool false),(.bool false),(.bool false),
 (.bool false),(.bool false),(.bool false),(.bool false),(.bool false),(.bool false),(.bool false),(.bool false),(.bool false),(.bool false),(.bool false),(.bool false),
 (.bool false),(.bool false),(.bool false),(.bool false),(.bool false),(.bool false),(.bool false),(.bool false),(.bool false),(.bool false),(.bool false),(.bool false),
 (.bool false),(.bool false),(.bool false),(.bool false),(.bool false),(.bool false)] oZ),n (.st 256 (t 6) (t 30)),m 7 31]) (Q (O [m 32 7]) (C 32 (Q (Q (O [mc
 8 (i 0)]) (.block 0 (.loop ⟨none,[],false⟩ sP))) (rt 4 (i (-1)))) X))) X)) (Q (Q (O [m 44 0,o 45 (.rg (t 44))]) (.block 2 (.loop ⟨none,[],false⟩
 sQ))) (rt 4 (i (-1))))))))
def uW:AFn:=⟨uV,55,[.t 4],.keep,[],none⟩
def tT:AC:=
 (Q (O [mc 4 F]) (Q (O [m 5 0,m 6 1,k2 7 lD 5 6,m 4 7]) R))
def tU:AFn:=⟨tT,8,[.t 4],.keep,[],none⟩
def tV:AC:=
 (Q (O [mc 4 F]) (Q (O [m 5 0,m 6 1,k2 7 lE 5 6,m 4 7]) R))
def tW:AFn:=⟨tV,8,[.t 4],.keep,[],none⟩
def zu:AFn:=tN.k
def uY:AFn:=iz.k
def vL:AFn:=jk.k
def vM:AFn:=jl.k
def BB:AC:=
 (Q (O [mc 2 F]) (Q (Q (O [m 8 0,k1 9 lC 8,m 7 9,ex 10 7 0,ex 11 7 1,o 3 (.nw [(.int .u8 0),(.str []),(.bool false)] ah),n (.st 3 (t 3) (t 10)),m 4 11])
 (Q (O [m 12 4]) (C 12 (rt 2 T) X))) (Q (Q (O [m 13 0,ac 14 .eql 13 (s []),m 15 14,h 16 15 (.mv (t 0)),⟨(some 17),(some (15,false)),(.call (.c (.fn (.func gI) []
 [])) [(.t 16)])⟩,h 18 15 (.un .not (t 17)),pt 19 15 18]) (C 19 (rt 2 F) X)) (Q (Q (O [m 21 0,k1 22 EH 21,m 20 22,ex 23 20 0,ex 24 20 1,m 5 23,m 6 24]) (Q (O [m 25
 6,m 26 25,g 27 26 (.mv (t 5)),g 28 26 (.bd [(.int .i32 0),(.bool false)] [(0,1),(1,1)] [(0,(t 27))]),⟨(some 29),(some (26,true)),(.call (.c (.fn (.func eK)
 [] [])) [(.t 28)])⟩,pf 30 26 29]) (C 30 (rt 2 T) X))) (Q (O [m 31 0,k 32 (f rQ) [(t 31),(f zd)],no 33 32,m 2 33]) R)))))
def BC:AFn:=⟨BB,34,[.t 2],.keep,[],none⟩
def Gx:AC:=
 (Q (O [o 2 (.nw [(.int .u8 0),(.str []),(.bool false)] ah),mc 3 F]) (Q (O [m 7 0,k1 8 lC 7,m 6 8,ex 9 6 0,ex 10 6 1,o 4 (.nw [(.int .u8 0),(.str []),
 (.bool false)] ah),n (.st 3 (t 4) (t 9)),m 5 10]) (Q (.dops true [] [] [W (la 11 3 4),Pm 12 5,Pm 13 12,P (g 14 13 (.fa 0 (t 4))),W (g 15 13 (.ld none (t 14))),P (g
 16 13 (.ar .neq (t 15) (u 5))),P (pf 17 13 16),K (n (.st 3 (t 2) (t 11))),Pm 3 17]) R)))
def Gy:AFn:=⟨Gx,18,[.cell 2 (some 3),.t 3],.keep,[],none⟩
def mE:AC:=
 (Q (O [mc 4 F]) (Q (O [m 6 0,o 7 (.nc (t 6)),fa 8 0 7,ld 9 8,ls 10 9,m 5 10]) (Q (Q (O [m 11 5,ac 12 .eql 11 (i 0),m 13 12,h 14 13 (.mv (t 0)),h 15 13 (.nc (t 14)),h 16 13
 (.fa 0 (t 15)),h 17 13 (.ld none (t 16)),h 18 13 (.mv (t 5)),h 19 13 (.ar .sub (t 18) (i 1)),h 20 13 (.ias 1 (t 17) (t 19)),h 21 13 (.ld none (t 20)),h 22 13 (.mv (t 1)),h 23
 13 (.eq true .ptr (t 21) (t 22)),pt 24 13 23]) (C 24 (rt 4 F) X)) (Q (O [m 25 0,m 26 0,o 27 (.nc (t 26)),fa 28 0 27,ld 29 28,m 30 5,ac 31 .sub 30 (i 1),o 32 (.sll 1 (t 29)
 none (some (t 31)) none),o 33 (.nc (t 25)),fa 34 0 33,n (.st 1 (t 34) (t 32))]) (rt 4 T)))))
def mF:AFn:=⟨mE,35,[.t 4],.keep,[],none⟩
def l3:AC:=
 (O [m 4 0,m 5 0,o 6 (.nc (t 5)),fa 7 0 6,ld 8 7,m 9 1,o 10 (.bs 1 [.nilp] 1 [(0,(t 9))]),o 11 (.ap false mA 1 8 false (t 8) (t 10)),o 12 (.nc (t 4)),fa 13 0
 12,n (.st 1 (t 13) (t 11))])
def l5:AFn:=⟨l3,14,[],.keep,[],none⟩
def tX:AC:=
 (Q (O [mc 2 F]) (Q (D [Pm 3 0,P (o 4 (.nc (t 3))),Pf 5 5 4,Wl 6 5,Pm 7 0,P (o 8 (.nc (t 7))),Pf 9 6 8,Wl 10 9,P (bl 11 6 10),Pm 2 11]) R))
def tY:AFn:=⟨tX,12,[.t 2],.keep,[],none⟩
def iF:AC:=
 (Q (O [mc 2 (.c (.slice .nil 1 []))]) (Q (Q (O [m 3 0,o 4 (.eq false .sl (t 3) (.c (.slice .nil 0 [])))]) (C 4 (Q (O [mc 2 (.c (.slice .nil 1 []))]) R) X)) (Q (O [o 5 (.bs 1
 [.nilp] 0 []),m 6 0,o 7 (.ap false mA 1 8 false (t 5) (t 6)),m 2 7]) R)))
def iG:AFn:=⟨iF,8,[.t 2],.keep,[],none⟩
def fQ:AC:=
 (O [m 4 0,m 5 0,ls 6 5,m 7 1,k 8 (f kq) [(t 4),(t 6),(t 7)]])
def fR:AFn:=⟨fQ,9,[],.keep,[],none⟩
def CX:AC:=
 (Q (O [mc 4 (i 0)]) (Q (Q (D [Pm 5 0,P (o 6 (.nc (t 5))),Pf 7 5 6,Wl 8 7,Pm 9 1,P (o 10 (.nc (t 9))),Pf 11 5 10,Wl 12 11,P (ar 13 .neq 8 12)]) (C 13 (Q (D [Pm 14 0,P (o 15
 (.nc (t 14))),Pf 16 5 15,Wl 17 16,Pm 18 1,P (o 19 (.nc (t 18))),Pf 20 5 19,Wl 21 20,P (ar 22 .sub 17 21),Pm 4 22]) R) X)) (Q (.block 0 (Q (O [m 24 0,k1 25
 cU 24,no 26 25,m 27 26,g 28 27 (.mv (t 1)),⟨(some 29),(some (27,true)),(.call (.c (.fn (.func cU) [] [])) [(.t 28)])⟩,pf 30 27 29,m 23
 30]) (C 23 (rt 4 (i (-1))) (Q (O [m 32 0,k1 33 cU 32,m 34 33,g 35 34 (.mv (t 1)),⟨(some 36),(some (34,true)),(.call (.c (.fn (.func cU) []
 [])) [(.t 35)])⟩,g 37 34 (.un .not (t 36)),pf 38 34 37,m 31 38]) (C 31 (rt 4 (i 1)) X))))) (rt 4 (i 0)))))
def CY:AFn:=⟨CX,39,[.t 4],.keep,[],none⟩
def x8:AC:=
 (O [ld 1 0,o 2 (.bd [(.int .u8 0),(.str []),(.bool false)] [(0,1),(1,1),(2,1)] [(0,(u 1)),(1,(s [32]))]),k2 3 br 1 2])
def x9:AFn:=⟨x8,4,[],.keep,[],none⟩
def vN:AC:=
 (Q (O [bl 10 9 8]) (Q (C 10 X (.exit 0)) (Q (.block 1 (Q (O [ia 11 3 7 9,la 12 3 11,o 6 (.nw [(.int .u8 0),(.str []),(.bool false)] ah),n (.st 3 (t 6) (t 12))]) (Q (Q
 (O [m 13 0,m 14 13,g 15 14 (.fa 0 (t 6)),g 16 14 (.ld none (t 15)),g 17 14 (.ar .neq (t 16) (u 3)),pf 18 14 17]) (C 18 (Q (O [ld 19 2,k 20 (t 19) []]) (O [mc 0 F])) X)) (O [ld
 21 3,la 22 3 6,k2 23 br 21 22])))) (O [ad 24 9,m 9 24]))))
def ya:AC:=
 (Q (Q (O [ld 7 1,ls 8 7,mc 9 (i 0)]) (.block 0 (.loop ⟨none,[],false⟩ vN))) (Q (Q (O [m 25 0]) (C 25 (O [ld 26 2,k 27 (t 26) []]) X)) (O [n (.st 1 (t 1) (.c
 (.slice .nil 3 [])))])))
def yb:AFn:=⟨ya,28,[],.keep,[],none⟩
def BD:AC:=
 (Q (O [mc 4 F]) (Q (O [o 5 (.bs 1 [(.str [])] 8 [(0,(s [46])),(1,(s [44])),(2,(s [59])),(3,(s [58])),(4,(s [33])),(5,(s [63])),(6,(s [41])),(7,(s [93]))]),m 6 1,k2
 7 lZ 5 6,no 8 7,m 9 8,g 10 9 (.mv (t 0)),g 11 9 (.ar .neq (t 10) (s [40])),pf 12 9 11,m 13 12,g 14 13 (.mv (t 0)),g 15 13 (.ar .neq (t 14) (s
 [91])),pf 16 13 15,m 4 16]) R))
def BE:AFn:=⟨BD,17,[.t 4],.keep,[],none⟩
def jm:AFn:=aK.k
def uZ:AFn:=du.k
def jn:AFn:=aR.k
def zw:AFn:=lM.k
def zx:AFn:=lN.k
def zy:AFn:=lO.k
def zA:AFn:=lP.k
def zB:AFn:=lQ.k
def zC:AFn:=lR.k
def CZ:AFn:=jY.k
def BF:AFn:=iS.k
def l6:AC:=
 (Q (Q (O [m 57 8,m 58 9,bl 59 57 58]) (C 59 X (.exit 1))) (.block 2 (Q (Q (O [m 60 0,m 61 8,o 62 (.ixs (t 60) (t 61)),m 63 6,ar 64 .neq 62 63]) (C 64 (Q (O [m 65 0,m 66 8,ad
 67 66,m 68 9,o 69 (.sls (t 65) (some (t 67)) (some (t 68))),m 70 6,k2 71 eo 69 70,m 11 71]) (Q (Q (O [m 72 11,ac 73 .lss 72 (i 0)]) (C 73 (rt 4
 (i (-1))) X)) (O [m 74 8,m 75 11,ad 76 75,ar 77 .add 74 76,m 8 77]))) X)) (Q (Q (O [m 78 0,m 79 8,ad 80 79,o 81 (.ixs (t 78) (t 80)),m 82 7,ar 83 .eql 81 82,m 84 83,g 85
 84 (.mv (t 0)),g 86 84 (.mv (t 8)),g 87 84 (.mv (t 8)),g 88 84 (.mv (t 5)),g 89 84 (.ar .add (t 87) (t 88)),g 90 84 (.sls (t 85) (some (t 86)) (some (t 89))),g 91 84 (.mv (t
 1)),g 92 84 (.ar .eql (t 90) (t 91)),pf 93 84 92]) (C 93 (Q (O [m 94 8,m 4 94]) R) X)) (Q (ic 95 8 96) (Q (ic 97 10 98) (Q (O [m 99 5,o 100 (.ld none (.c .unk)),ar 101 .leq 99
 100,m 102 101,g 103 102 (.mv (t 10)),g 104 102 (.mv (t 8)),⟨(some 105),(some (102,true)),(.call (.c (.fn (.func fK) [] [])) [(.t 104)])⟩,g 106 102
 (.ar .gtr (t 103) (t 105)),pf 107 102 106]) (C 107 (Q (O [m 108 0,m 109 8,o 110 (.sls (t 108) (some (t 109)) none),m 111 1,k2 112 eL 110 111,m 12
 112]) (Q (Q (O [m 113 12,ac 114 .geq 113 (i 0)]) (C 114 (Q (O [m 115 12,m 116 8,ar 117 .add 115 116,m 4 117]) R) X)) (rt 4 (i (-1))))) (Q (O [m 118 5,o 119 (.ld none (.c
 .unk)),ar 120 .gtr 118 119,m 121 120,g 122 121 (.mv (t 10)),g 123 121 (.mv (t 8)),g 124 121 (.sh .shr (t 123) (.c (.int .u64 4))),g 125 121 (.ar .add (i 4) (t 124)),g 126 121
 (.ar .geq (t 122) (t 125)),pf 127 121 126,m 128 127,g 129 128 (.mv (t 8)),g 130 128 (.mv (t 9)),g 131 128 (.ar .lss (t 129) (t 130)),pf 132 128 131]) (C 132 (Q (O [m 133 0,m
 134 8,o 135 (.sls (t 133) (some (t 134)) none),m 136 1,k2 137 iX 135 136,m 13 137]) (Q (Q (O [m 138 13,ac 139 .lss 138 (i 0)]) (C 139 (rt
 4 (i (-1))) X)) (Q (O [m 140 8,m 141 13,ar 142 .add 140 141,m 4 142]) R))) X))))))))))
def ng:AC:=
 (Q (O [mc 4 (i 0)]) (Q (O [m 14 1,lt 15 14,m 5 15]) (Q (.block 0 (Q (O [m 17 5,ac 18 .eql 17 (i 0),m 19 18,h 20 19 (.mv (t 1)),h 21 19 (.mv (t 0)),h 22 19 (.ar .eql (t 20) (t
 21)),pt 23 19 22,m 16 23]) (C 16 (rt 4 (i 0)) (Q (O [m 25 5,ac 26 .eql 25 (i 1),m 24 26]) (C 24 (Q (O [m 27 0,m 28 1,o 29 (.ixs (t 28) (i 0)),k2 30
 eo 27 29,m 4 30]) R) (Q (O [m 32 5,m 33 0,lt 34 33,ar 35 .geq 32 34,m 31 35]) (C 31 (rt 4 (i (-1))) (Q (O [m 37 5,o 38 (.ld none (.c .unk)),ar
 39 .leq 37 38,m 40 39,g 41 40 (.mv (t 0)),g 42 40 (.len .str (t 41)),g 43 40 (.ar .leq (t 42) (i 64)),pf 44 40 43,m 36 44]) (C 36 (Q (O [m 45 0,m 46 1,k2 47
 eL 45 46,m 4 47]) R) X))))))))) (Q (O [m 48 1,o 49 (.ixs (t 48) (i 0)),m 6 49]) (Q (O [m 50 1,o 51 (.ixs (t 50) (i 1)),m 7 51]) (Q (O [mc 8 (i 0)])
 (Q (O [m 52 0,lt 53 52,m 54 5,ar 55 .sub 53 54,ad 56 55,m 9 56]) (Q (O [mc 10 (i 0)]) (Q (.block 1 (.loop ⟨none,[],false⟩ l6)) (rt 4 (i
 (-1))))))))))))
def nh:AFn:=⟨ng,143,[.t 4],.keep,[],none⟩
def r7:AC:=
 (Q (O [o 176 (.nx (t 175)),ex 177 176 0]) (Q (C 177 X (.exit 9)) (.block 10 (Q (O [ex 178 176 1,ex 179 176 2,m 5 178,m 6 179]) (Q (O [m 180 6,o 181 (.ar .eql (t 180) (.c (.int
 .i32 65533)))]) (C 181 (Q (O [m 182 5,m 4 182]) R) X))))))
def r8:AC:=
 (Q (Q (O [m 48 12,m 49 7,lt 50 49,bl 51 48 50]) (C 51 X (.exit 3))) (Q (.block 4 (Q (D [Pm 54 0,Pm 55 9,Pm 56 12,P (ar 57 .sub 55 56),P (o 58 (.ixs (t 54) (t 57))),Pm 59 7,
 Pm 60 8,Pm 61 12,P (ar 62 .sub 60 61),P (o 63 (.ixs (t 59) (t 62))),P (ar 64 .neq 58 63)]) (C 64 (.goto 0) X))) (ic 52 12 53)))
def r9:AC:=
 (Q X (Q (ic 68 10 69) (Q (ic 70 9 71) (Q (O [mc 72 T,g 73 72 (.mv (t 10)),g 74 72 (.mv (t 9)),⟨(some 75),(some (72,true)),(.call (.c (.fn (.func fK) []
 [])) [(.t 74)])⟩,g 76 72 (.ar .gtr (t 73) (t 75)),pf 77 72 76,m 78 77,g 79 78 (.mv (t 9)),g 80 78 (.mv (t 0)),g 81 78 (.len .str (t 80)),g 82 78 (.ar .lss (t 79) (t 81)),pf
 83 78 82,m 84 83,h 85 84 (.mv F),g 86 85 (.mv (t 10)),g 87 85 (.mv (t 9)),g 88 85 (.sh .shr (t 87) (.c (.int .u64 4))),g 89 85 (.ar .add (i 4) (t 88)),g 90 85 (.ar .geq (t
 86) (t 89)),h 91 84 (.pk (t 85) (t 90) F),h 92 84 (.mv (t 91)),g 93 92 (.mv (t 9)),g 94 92 (.mv (t 0)),g 95 92 (.len .str (t 94)),g 96 92 (.ar .lss (t 93) (t 95)),h 97 84
 (.pk (t 92) (t 96) F),pt 98 84 97]) (C 98 (.goto 1) X)))))
def sd:AC:=
 (Q (Q (O [m 23 9,m 24 0,lt 25 24,bl 26 23 25]) (C 26 X (.exit 1))) (.block 2 (.scope (Q (Q (D [Pm 27 0,Pm 28 9,P (o 29 (.ixs (t 27) (t 28))),Pm 30 7,Pm 31 8,P (o 32 (.ixs (t
 30) (t 31))),P (ar 33 .neq 29 32)]) (C 33 (Q (D [Pm 34 0,Pm 35 9,P (ad 36 35),P (o 37 (.sls (t 34) (some (t 36)) none)),Pm 38 7,Pm 39 8,P (o 40 (.ixs (t 38) (t 39))),E (k2
 41 nT 37 40),Pm 11 41]) (Q (Q (O [m 42 11,ac 43 .lss 42 (i 0)]) (C 43 (rt 4 (i (-1))) X)) (O [m 44 9,m 45 11,ad 46 45,ar 47 .add 44 46,m 9 47]))) X)) (Q (Q (O
 [mc 12 (i 1)]) (.block 3 (.loop ⟨none,[],false⟩ r8))) (Q (Q (O [m 65 9,m 66 8,ar 67 .sub 65 66,m 4 67]) R) (Q (.lbl 0) (Q (ic 68 10 69) (Q (ic 70 9 71) (Q
 (O [mc 72 T,g 73 72 (.mv (t 10)),g 74 72 (.mv (t 9)),⟨(some 75),(some (72,true)),(.call (.c (.fn (.func fK) [] [])) [(.t 74)])⟩,g 76 72 (.ar .gtr (t
 73) (t 75)),pf 77 72 76,m 78 77,g 79 78 (.mv (t 9)),g 80 78 (.mv (t 0)),g 81 78 (.len .str (t 80)),g 82 78 (.ar .lss (t 79) (t 81)),pf 83 78 82,m 84 83,h 85 84 (.mv F),g
 86 85 (.mv (t 10)),g 87 85 (.mv (t 9)),g 88 85 (.sh .shr (t 87) (.c (.int .u64 4))),g 89 85 (.ar .add (i 4) (t 88)),g 90 85 (.ar .geq (t 86) (t 89)),h 91 84 (.pk (t 85) (t 90)
 F),h 92 84 (.mv (t 91)),g 93 92 (.mv (t 9)),g 94 92 (.mv (t 0)),g 95 92 (.len .str (t 94)),g 96 92 (.ar .lss (t 93) (t 95)),h 97 84 (.pk (t 92) (t 96) F),pt 98 84 97]) (C 98
 (.goto 1) X)))))))) (.tab 0 r9 X))))
def se:AC:=
 (Q (Q (O [m 140 16,m 141 7,lt 142 141,bl 143 140 142]) (C 143 X (.exit 7))) (Q (.block 8 (Q (D [Pm 146 0,Pm 147 9,Pm 148 16,P (ar 149 .sub 147 148),P (o 150 (.ixs (t 146) (t
 149))),Pm 151 7,Pm 152 8,Pm 153 16,P (ar 154 .sub 152 153),P (o 155 (.ixs (t 151) (t 154))),P (ar 156 .neq 150 155)]) (C 156 (.exit 6) X))) (ic 144 16 145)))
def sf:AC:=
 (Q (Q (O [m 121 9,m 122 0,lt 123 122,bl 124 121 123]) (C 124 X (.exit 5))) (Q (.block 6 (Q (O [m 127 0,m 128 9,o 129 (.ixs (t 127) (t 128)),m 130 14,ar 131 .eql 129 130,m
 132 131,g 133 132 (.mv (t 0)),g 134 132 (.mv (t 9)),g 135 132 (.ar .sub (t 134) (i 1)),g 136 132 (.ixs (t 133) (t 135)),g 137 132 (.mv (t 15)),g 138 132 (.ar .eql (t 136) (t
 137)),pf 139 132 138]) (C 139 (Q (Q (O [mc 16 (i 2)]) (.block 7 (.loop ⟨none,[],false⟩ se))) (Q (O [m 157 9,m 158 8,ar 159 .sub 157 158,m 4 159]) R)) X)))
 (ic 125 9 126)))
def tZ:AC:=
 (Q (O [mc 4 (i 0)]) (.block 0 (Q (O [m 161 1,o 162 (.ar .leq (.c (.int .i32 0)) (t 161)),m 163 162,g 164 163 (.mv (t 1)),g 165 163 (.ar .lss (t 164) (.c (.int .i32 128))),pf
 166 163 165,m 160 166]) (C 160 (Q (O [m 167 0,m 168 1,o 169 (.cvi .u8 (t 168)),k2 170 nT 167 169,m 4 170]) R) (Q (O [m 172 1,o 173 (.ar .eql (t 172) (.c (.int
 .i32 65533))),m 171 173]) (C 171 (Q (Q (O [m 174 0,o 175 (.rg (t 174))]) (.block 9 (.loop ⟨none,[],false⟩ r7))) (rt 4 (i (-1)))) (Q (O [m 184 1,k1 185
 qp 184,no 186 185,m 183 186]) (C 183 (rt 4 (i (-1))) (.scope (Q (O [m 17 1,o 18 (.cvs (t 17)),m 7 18]) (Q (O [m 19 7,lt 20 19,ac 21 .sub 20 (i 1),m 8
 21]) (Q (O [m 22 8,m 9 22]) (Q (O [mc 10 (i 0)]) (Q (.block 1 (.loop ⟨none,[],false⟩ sd)) (Q (rt 4 (i (-1))) (Q (.lbl 1) (Q (.cond (.c (.bool true)) (Q (O [m
 99 0,m 100 9,m 101 8,ar 102 .sub 100 101,o 103 (.sls (t 99) (some (t 102)) none),m 104 1,o 105 (.cvs (t 104)),k2 106 eL 103 105,m 13 106]) (Q (O
 [m 107 13,ac 108 .geq 107 (i 0)]) (C 108 (Q (O [m 109 9,m 110 13,ar 111 .add 109 110,m 112 8,ar 113 .sub 111 112,m 4 113]) R) X))) (.scope (Q (O [m 114 7,m 115 8,o 116 (.ixs
 (t 114) (t 115)),m 14 116]) (Q (O [m 117 7,m 118 8,ac 119 .sub 118 (i 1),o 120 (.ixs (t 117) (t 119)),m 15 120]) (Q (.lbl 2) (.block 5 (.loop ⟨none,[],false⟩
 sf))))) X)) (rt 4 (i (-1))))))))))) X)))))))))
def ua:AFn:=⟨tZ,187,[.t 4],.keep,[],none⟩
def nG:AC:=
 (Q (O [mc 2 F]) (Q (O [m 3 0,ac 4 .gtr 3 (i 8),m 2 4]) R))
def nH:AFn:=⟨nG,5,[.t 2],.keep,[],none⟩
def pN:AC:=
 (Q (Q (O [m 6 4,m 7 0,lt 8 7,bl 9 6 8]) (C 9 X (.exit 0))) (Q (.block 1 (Q (O [m 12 0,m 13 4,o 14 (.ixs (t 12) (t 13)),m 5 14]) (Q (Q (O [m 15 5,ac 16 .geq 15 (u 128)]) (C 16
 (Q (O [la 17 256 2,n (.st 256 (t 2) (t 17)),mc 3 F]) R) X)) (O [m 18 5,o 19 (.iaa 256 1 (t 2) (t 18)),n (.st 1 (t 19) T)])))) (ic 10 4 11)))
def qX:AC:=
 (Q (O [o 2 (.nw [(.bool false),(.bool false),(.bool false),(.bool false),(.bool false),(.bool false),(.bool false),(.bool false),(.bool false),(.bool false),(.bool false),
 (.bool false),(.bool false),(.bool false),(.bool false),(.bool false),(.bool false),(.bool false),(.bool false),(.bool false),(.bool false),(.bool false),(.bool false),
 (.bool false),(.bool false),(.bool false),(.bool false),(.bool false),(.bool false),(.bool false),(.bool false),(.bool false),(.bool false),(.bool false),(.bool false),
 (.bool false),(.bool false),(.bool false),(.bool false),(.bool false),(.bool false),(.bool false),(.bool false),(.bool false),(.bool false),(.bool false),(.bool false),
 (.bool false),(.bool false),(.bool false),(.bool false),(.bool false),(.bool false),(.bool false),(.bool false),(.bool false),(.bool false),(.bool false),(.bool false),
 (.bool false),(.bool false),(.bool false),(.bool false),(.bool false),(.bool false),(.bool false),(.bool false),(.bool false),(.bool false),(.bool false),(.bool false),
 (.bool false),(.bool false),(.bool false),(.bool false),(.bool false),(.bool false),(.bool false),(.bool false),(.bool false),(.bool false),(.bool false),(.bool false),
 (.bool false),(.bool false),(.bool false),(.bool false),(.bool false),(.bool false),(.bool false),(.bool false),(.bool false),(.bool false),(.bool false),(.bool false),
 (.bool false),(.bool false),(.bool false),(.bool false),(.bool false),(.bool false),(.bool false),(.bool false),(.bool false),(.bool false),(.bool false),(.bool false),
 (.bool false),(.bool false),(.bool false),(.bool false),(.bool false),(.bool false),(.bool false),(.bool false),(.bool false),(.bool false),(.bool false),(.bool false),
 (.bool false),(.bool false),(.bool false),(.bool false),(.bool false),(.bool false),(.bool false),(.bool false),(.bool false),(.bool false),(.bool false),(.bool false),
 (.bool false),(.bool false),(.bool false),(.bool false),(.bool false),(.bool false),(.bool false),(.bool false),(.bool false),(.bool false),(.bool false),(.bool false),
 (.bool false),(.bool false),(.bool false),(.bool false),(.bool false),(.bool false),(.bool false),(.bool false),(.bool false),(.bool false),(.bool false),(.bool false),
 (.bool false),(.bool false),(.bool false),(.bool false),(.bool false),(.bool false),(.bool false),(.bool false),(.bool false),(.bool false),(.bool false),(.bool false),
 (.bool false),(.bool false),(.bool false),(.bool false),(.bool false),(.bool false),(.bool false),(.bool false),(.bool false),(.bool false),(.bool false),(.bool false),
 (.bool false),(.bool false),(.bool false),(.bool false),(.bool false),(.bool false),(.bool false),(.bool false),(.bool false),(.bool false),(.bool false),(.bool false),
 (.bool false),(.bool false),(.bool false),(.bool false),(.bool false),(.bool false),(.bool false),(.bool false),(.bool false),(.bool false),(.bool false),(.bool false),
 (.bool false),(.bool false),(.bool false),(.bool false),(.bool false),(.bool false),(.bool false),(.bool false),(.bool false),(.bool false),(.bool false),(.bool false),
 (.bool false),(.bool false),(.bool false),(.bool false),(.bool false),(.bool false),(.bool false),(.bool false),(.bool false),(.bool false),(.bool false),(.bool false),
 (.bool false),(.bool false),(.bool false),(.bool false),(.bool false),(.bool false),(.bool false),(.bool false),(.bool false),(.bool false),(.bool false),(.bool false),
 (.bool false),(.bool false),(.bool false),(.bool false),(.bool false),(.bool false),(.bool false),(.bool false),(.bool false),(.bool false),(.bool false),(.bool false),
 (.bool false),(.bool false),(.bool false),(.bool false),(.bool false)] oZ),mc 3 F]) (Q (Q (O [mc 4 (i 0)]) (.block 0 (.loop ⟨none,[],false⟩
 pN))) (Q (O [la 20 256 2,n (.st 256 (t 2) (t 20)),mc 3 T]) R)))
def qY:AFn:=⟨qX,21,[.cell 2 (some 256),.t 3],.keep,[],none⟩
def nI:AC:=
 (Q (O [mc 4 F]) (Q (O [m 5 0,m 6 1,o 7 (.nc (t 5)),o 8 (.iaa 256 1 (t 7) (t 6)),ld 9 8,m 4 9]) R))
def nJ:AFn:=⟨nI,10,[.t 4],.keep,[],none⟩
def kS:AC:=
 (Q (O [mc 4 F]) (Q (O [m 5 0,lt 6 5,m 7 1,lt 8 7,ar 9 .geq 6 8,m 10 9,g 11 10 (.mv (t 0)),g 12 10 (.mv (t 1)),g 13 10 (.len .str (t 12)),g 14 10 (.sls (t 11) none (some (t
 13))),g 15 10 (.mv (t 1)),g 16 10 (.ar .eql (t 14) (t 15)),pf 17 10 16,m 4 17]) R))
def kT:AFn:=⟨kS,18,[.t 4],.keep,[],none⟩
def kU:AC:=
 (Q (O [mc 4 F]) (Q (O [m 5 0,lt 6 5,m 7 1,lt 8 7,ar 9 .geq 6 8,m 10 9,g 11 10 (.mv (t 0)),g 12 10 (.mv (t 0)),g 13 10 (.len .str (t 12)),g 14 10 (.mv (t 1)),g 15 10 (.len
 .str (t 14)),g 16 10 (.ar .sub (t 13) (t 15)),g 17 10 (.sls (t 11) (some (t 16)) none),g 18 10 (.mv (t 1)),g 19 10 (.ar .eql (t 17) (t 18)),pf 20 10 19,m 4 20]) R))
def kV:AFn:=⟨kU,21,[.t 4],.keep,[],none⟩
def C0:AC:=
 (Q (O [mc 2 (.c (.int .i32 0)),mc 3 F]) (Q (O [m 7 0,k1 8 b7 7,m 6 8,ex 9 6 0,ex 10 6 1,m 4 9,m 5 10]) (Q (O [m 11 4,m 12 5,m 13 0,lt 14 13,
 ar 15 .eql 12 14,m 2 11,m 3 15]) R)))
def C1:AFn:=⟨C0,16,[.t 2,.t 3],.keep,[],none⟩
def qZ:AC:=
 (Q (O [mc 4 F]) (Q (O [m 5 0,m 6 1,k2 7 uP 5 6,ac 8 .geq 7 (i 0),m 4 8]) R))
def q8:AFn:=⟨qZ,9,[.t 4],.keep,[],none⟩
def yc:AC:=
 (Q (O [mc 2 F]) (Q (O [m 3 0,o 4 (.bd [(.int .i32 0),(.bool false)] [(0,1),(1,1)] [(0,(t 3))]),k1 5 fC 4,no 6 5,m 2 6]) R))
def yd:AFn:=⟨yc,7,[.t 2],.keep,[],none⟩
def jG:AC:=
 (Q (Q (O [m 11 8,m 12 1,ar 13 .leq 11 12]) (C 13 X (.exit 0))) (.block 1 (Q (O [m 14 0,m 15 7,m 16 8,m 17 2,k 18 (f ep) [(t 14),(t
 15),(t 16),(t 17)]]) (Q (O [m 19 8,m 7 19]) (O [m 20 8,m 21 6,ar 22 .add 20 21,m 8 22])))))
def jH:AC:=
 (Q (Q (O [m 33 8,m 34 1,ar 35 .leq 33 34]) (C 35 X (.exit 4))) (.block 5 (Q (O [m 36 0,m 37 7,m 38 7,m 39 6,ar 40 .add 38 39,m 41 8,m 42 2,k 43 (f
 cA) [(t 36),(t 37),(t 40),(t 41),(t 42)]]) (Q (O [m 44 8,m 7 44]) (O [m 45 8,m 46 6,o 47 (.ar .mul (i 2) (t 46)),ar 48 .add 45 47,m 8
 48])))))
def jI:AC:=
 (Q (Q (O [m 28 6,m 29 1,bl 30 28 29]) (C 30 X (.exit 2))) (.block 3 (Q (O [m 31 6,o 32 (.ar .mul (i 2) (t 31)),mc 7 (i 0),m 8 32]) (Q (.block 4 (.loop ⟨none,[],false⟩
 jH)) (Q (Q (O [m 49 7,m 50 6,ar 51 .add 49 50,m 9 51]) (Q (O [m 52 9,m 53 1,bl 54 52 53]) (C 54 (O [m 55 0,m 56 7,m 57 9,m 58 1,m 59 2,
 k 60 (f cA) [(t 55),(t 56),(t 57),(t 58),(t 59)]]) X))) (O [m 61 6,ac 62 .mul 61 (i 2),m 6 62]))))))
def j7:AC:=
 (Q (O [mc 6 (i 20)]) (Q (O [m 10 6,mc 7 (i 0),m 8 10]) (Q (.block 0 (.loop ⟨none,[],false⟩ jG)) (Q (O [m 23 0,m 24 7,m 25 1,m 26 2,k 27
 (f ep) [(t 23),(t 24),(t 25),(t 26)]]) (.block 2 (.loop ⟨none,[],false⟩ jI))))))
def j8:AFn:=⟨j7,63,[],.keep,[],none⟩
def lT:AC:=
 (Q (O [mc 4 F]) (Q (O [m 5 0,m 6 1,k2 7 nv 5 6,ac 8 .geq 7 (i 0),m 4 8]) R))
def lU:AFn:=⟨lT,9,[.t 4],.keep,[],none⟩
def EV:AFn:=p8.k
def kW:AC:=
 (Q (O [mc 4 (i 0)]) (Q (O [m 5 0,m 6 1,k2 7 bY 5 6,m 4 7]) R))
def kX:AFn:=⟨kW,8,[.t 4],.keep,[],none⟩
def oA:AC:=
 (Q (O [mc 2 (i 0)]) (Q (O [m 3 0,ac 4 .add 3 (i 16),ac 5 .quo 4 (i 8),m 2 5]) R))
def oB:AFn:=⟨oA,6,[.t 2],.keep,[],none⟩
def ie:AC:=
 (Q (Q (O [m 18 9,m 19 7,bl 20 18 19]) (C 20 X (.exit 0))) (Q (.block 1 (O [m 23 8,o 24 (.ar .mul (t 23) (.c (.int .u32 16777619))),m 25 0,m 26 9,o 27 (.ixs (t 25) (t 26)),o
 28 (.cvi .u32 (t 27)),ar 29 .add 24 28,m 8 29])) (ic 21 9 22)))
def ig:AC:=
 (Q (Q (O [m 41 10,m 42 0,lt 43 42,bl 44 41 43]) (C 44 X (.exit 2))) (.block 3 (Q (O [m 45 8,o 46 (.ar .mul (t 45) (.c (.int .u32 16777619))),m 8 46]) (Q (O [m 47 8,m 48 0,m
 49 10,o 50 (.ixs (t 48) (t 49)),o 51 (.cvi .u32 (t 50)),ar 52 .add 47 51,m 8 52]) (Q (O [m 53 8,m 54 6,m 55 0,m 56 10,m 57 7,ar 58 .sub 56 57,o 59 (.ixs (t 55) (t 58)),o
 60 (.cvi .u32 (t 59)),ar 61 .mul 54 60,ar 62 .sub 53 61,m 8 62]) (Q (ic 63 10 64) (Q (O [m 65 8,m 66 5,ar 67 .eql 65 66,m 68 67,g 69 68 (.mv (t 0)),g 70 68 (.mv (t 10)),g
 71 68 (.mv (t 7)),g 72 68 (.ar .sub (t 70) (t 71)),g 73 68 (.mv (t 10)),g 74 68 (.sls (t 69) (some (t 72)) (some (t 73))),g 75 68 (.mv (t 1)),g 76 68 (.ar .eql (t 74) (t 75)),
 pf 77 68 76]) (C 77 (Q (O [m 78 10,m 79 7,ar 80 .sub 78 79,m 4 80]) R) X))))))))
def iH:AC:=
 (Q (O [mc 4 (i 0)]) (Q (O [m 12 1,k1 13 kR 12,m 11 13,ex 14 11 0,ex 15 11 1,m 5 14,m 6 15]) (Q (O [m 16 1,lt 17 16,m 7 17]) (Q (O [mc 8 (.c
 (.int .u32 0))]) (Q (Q (O [mc 9 (i 0)]) (.block 0 (.loop ⟨none,[],false⟩ ie))) (Q (Q (O [m 30 8,m 31 5,ar 32 .eql 30 31,m 33 32,g 34
 33 (.mv (t 0)),g 35 33 (.mv (t 7)),g 36 33 (.sls (t 34) none (some (t 35))),g 37 33 (.mv (t 1)),g 38 33 (.ar .eql (t 36) (t 37)),pf 39 33 38]) (C 39 (rt 4 (i 0)) X)) (Q (Q (O
 [m 40 7,m 10 40]) (.block 2 (.loop ⟨none,[],false⟩ ig))) (rt 4 (i (-1))))))))))
def iI:AFn:=⟨iH,81,[.t 4],.keep,[],none⟩
def ub:AC:=
 (Q (O [mc 4 (i 0)]) (Q (O [m 5 0,m 6 1,k2 7 eo 5 6,m 4 7]) R))
def uc:AFn:=⟨ub,8,[.t 4],.keep,[],none⟩
def pO:AC:=
 (Q (O [mc 2 F]) (Q (.block 0 (Q (O [m 4 0,o 5 (.ar .leq (.c (.int .i32 0)) (t 4)),m 6 5,g 7 6 (.mv (t 0)),g 8 6 (.ar .lss (t 7) (.c (.int .i32 55296))),pf 9 6 8,m 3 9]) (C 3
 (rt 2 T) (Q (O [m 11 0,o 12 (.ar .lss (.c (.int .i32 57343)) (t 11)),m 13 12,g 14 13 (.mv (t 0)),g 15 13 (.ar .leq (t 14) (.c (.int .i32 1114111))),pf 16 13 15,m 10 16]) (C 10
 (rt 2 T) X))))) (rt 2 F)))
def pP:AFn:=⟨pO,17,[.t 2],.keep,[],none⟩
def ud:AC:=
 (Q (O [mc 4 (i 0)]) (Q (O [m 5 0,m 6 1,k 7 (f uQ) [(t 5),(t 6),T],m 4 7]) R))
def ue:AFn:=⟨ud,8,[.t 4],.keep,[],none⟩
def gO:AC:=
 (Q (Q (D [Pm 18 9,Pm 19 1,P (ar 20 .gtr 18 19),Pm 21 20,P (g 22 21 (.mv (t 3))),P (g 23 21 (.mv (t 0))),P (g 24 21 (.mv (t 9))),P (g 25 21 (.ias 1 (t 23) (t 24))),W (g 26 21
 (.ld none (t 25))),P (g 27 21 (.mv (t 0))),P (g 28 21 (.mv (t 9))),P (g 29 21 (.ar .sub (t 28) (i 1))),P (g 30 21 (.ias 1 (t 27) (t 29))),W (g 31 21 (.ld none (t 30))),E
 (⟨(some 32),(some (21,true)),(.call (.t 22) [(.t 26),(.t 31)])⟩),P (g 33 21 (.ar .lss (t 32) (i 0))),P (pf 34 21 33)]) (C 34 X (.exit 2))) (Q (.block 3 (D [Pm 37 0,Pm 38 9,
 Pm 39 0,Pm 40 9,P (ac 41 .sub 40 (i 1)),Pm 42 0,Pm 43 9,P (ac 44 .sub 43 (i 1)),P (ia 45 1 42 44),Wl 46 45,Pm 47 0,Pm 48 9,P (ia 49 1 47 48),Wl 50 49,P (ia 51 1 37 38),
 E (n (.st 1 (t 51) (t 46))),P (ia 52 1 39 41),E (n (.st 1 (t 52) (t 50)))])) (O [m 35 9,ac 36 .sub 35 (i 1),m 9 36])))
def gQ:AC:=
 (Q (Q (O [m 12 8,m 13 2,bl 14 12 13]) (C 14 X (.exit 0))) (Q (.block 1 (Q (O [m 17 8,m 9 17]) (.block 2 (.loop ⟨none,[],false⟩ gO))))
 (ic 15 8 16)))
def ik:AC:=
 (Q (O [m 10 1,ad 11 10,m 8 11]) (.block 0 (.loop ⟨none,[],false⟩ gQ)))
def il:AFn:=⟨ik,53,[],.keep,[],none⟩
def iZ:AC:=
 (Q (Q (O [m 31 10,m 32 11,bl 33 31 32]) (C 33 X (.exit 0))) (.block 1 (Q (O [m 34 10,m 35 11,ar 36 .add 34 35,o 37 (.cvi .u64 (t 36)),o 38 (.sh .shr (t 37) (.c (.int .u64
 1))),o 39 (.cvi .i64 (t 38)),m 12 39]) (Q (D [Pm 40 4,Pm 41 0,Pm 42 12,P (ia 43 1 41 42),Wl 44 43,Pm 45 0,Pm 46 1,P (ia 47 1 45 46),Wl 48 47,E (k 49 (t 40) [(t 44),(t
 48)]),P (ac 50 .lss 49 (i 0))]) (C 50 (O [m 51 12,ad 52 51,m 10 52]) (O [m 53 12,m 11 53]))))))
def ja:AC:=
 (Q (Q (O [m 55 13,m 56 10,ac 57 .sub 56 (i 1),bl 58 55 57]) (C 58 X (.exit 2))) (Q (.block 3 (D [Pm 61 0,Pm 62 13,Pm 63 0,Pm 64 13,P (ad 65 64),Pm 66 0,Pm 67 13,P (ad 68
 67),P (ia 69 1 66 68),Wl 70 69,Pm 71 0,Pm 72 13,P (ia 73 1 71 72),Wl 74 73,P (ia 75 1 61 62),E (n (.st 1 (t 75) (t 70))),P (ia 76 1 63 65),E (n (.st 1 (t 76) (t 74)))]))
 (ic 59 13 60)))
def jb:AC:=
 (Q (Q (O [m 83 14,m 84 15,bl 85 83 84]) (C 85 X (.exit 4))) (.block 5 (Q (O [m 86 14,m 87 15,ar 88 .add 86 87,o 89 (.cvi .u64 (t 88)),o 90 (.sh .shr (t 89) (.c (.int .u64
 1))),o 91 (.cvi .i64 (t 90)),m 16 91]) (Q (D [Pm 92 4,Pm 93 0,Pm 94 2,P (ia 95 1 93 94),Wl 96 95,Pm 97 0,Pm 98 16,P (ia 99 1 97 98),Wl 100 99,E (k 101 (t 92) [(t 96),(t
 100)]),P (ac 102 .lss 101 (i 0)),P (no 103 102)]) (C 103 (O [m 104 16,ad 105 104,m 14 105]) (O [m 106 16,m 15 106]))))))
def jd:AC:=
 (Q (Q (O [m 108 17,m 109 14,ar 110 .gtr 108 109]) (C 110 X (.exit 6))) (Q (.block 7 (D [Pm 113 0,Pm 114 17,Pm 115 0,Pm 116 17,P (ac 117 .sub 116 (i 1)),Pm 118 0,Pm 119 17,P
 (ac 120 .sub 119 (i 1)),P (ia 121 1 118 120),Wl 122 121,Pm 123 0,Pm 124 17,P (ia 125 1 123 124),Wl 126 125,P (ia 127 1 113 114),E (n (.st 1 (t 127) (t 122))),P (ia 128 1
 115 117),E (n (.st 1 (t 128) (t 126)))])) (O [m 111 17,ac 112 .sub 111 (i 1),m 17 112])))
def je:AC:=
 (Q (Q (O [m 149 20,m 150 21,bl 151 149 150]) (C 151 X (.exit 8))) (.block 9 (Q (O [m 152 20,m 153 21,ar 154 .add 152 153,o 155 (.cvi .u64 (t 154)),o 156 (.sh .shr (t 155) (.c
 (.int .u64 1))),o 157 (.cvi .i64 (t 156)),m 23 157]) (Q (D [Pm 158 4,Pm 159 0,Pm 160 22,Pm 161 23,P (ar 162 .sub 160 161),P (ia 163 1 159 162),Wl 164 163,Pm 165 0,Pm 166
 23,P (ia 167 1 165 166),Wl 168 167,E (k 169 (t 158) [(t 164),(t 168)]),P (ac 170 .lss 169 (i 0)),P (no 171 170)]) (C 171 (O [m 172 23,ad 173 172,m 20 173]) (O [m 174 23,m
 21 174]))))))
def jJ:AC:=
 (Q (Q (O [m 25 2,m 26 1,ar 27 .sub 25 26,ac 28 .eql 27 (i 1)]) (C 28 (Q (O [m 29 2,m 10 29]) (Q (O [m 30 3,m 11 30]) (Q (.block 0 (.loop ⟨none,[],false⟩
 iZ)) (Q (Q (O [m 54 1,m 13 54]) (.block 2 (.loop ⟨none,[],false⟩ ja))) R)))) X)) (Q (Q (O [m 77 3,m
 78 2,ar 79 .sub 77 78,ac 80 .eql 79 (i 1)]) (C 80 (Q (O [m 81 1,m 14 81]) (Q (O [m 82 2,m 15 82]) (Q (.block 4 (.loop ⟨none,[],false⟩
 jb)) (Q (Q (O [m 107 2,m 17 107]) (.block 6 (.loop ⟨none,[],false⟩ jd))) R)))) X)) (Q (O [m 129 1,m
 130 3,ar 131 .add 129 130,o 132 (.cvi .u64 (t 131)),o 133 (.sh .shr (t 132) (.c (.int .u64 1))),o 134 (.cvi .i64 (t 133)),m 18 134]) (Q (O [m 135 18,m 136 2,ar 137 .add 135
 136,m 19 137]) (Q (O [mc 20 (i 0),mc 21 (i 0)]) (Q (Q (O [m 138 2,m 139 18,ar 140 .gtr 138 139]) (C 140 (Q (O [m 141 19,m 142 3,ar 143 .sub 141 142,m 20 143]) (O [m 144 18,m
 21 144])) (Q (O [m 145 1,m 20 145]) (O [m 146 2,m 21 146])))) (Q (O [m 147 19,ac 148 .sub 147 (i 1),m 22 148]) (Q (.block 8 (.loop ⟨none,[],false⟩
 je)) (Q (O [m 175 19,m 176 20,ar 177 .sub 175 176,m 24 177]) (Q (Q (O [m 178 20,m 179 2,bl 180 178 179,m 181 180,g 182 181 (.mv (t 2)),
 g 183 181 (.mv (t 24)),g 184 181 (.ar .lss (t 182) (t 183)),pf 185 181 184]) (C 185 (O [m 186 0,m 187 20,m 188 2,m 189 24,m 190 4,k 191 (f
 kr) [(t 186),(t 187),(t 188),(t 189),(t 190)]]) X)) (Q (Q (O [m 192 1,m 193 20,bl 194 192 193,m 195 194,g 196 195 (.mv (t 20)),g 197 195
 (.mv (t 18)),g 198 195 (.ar .lss (t 196) (t 197)),pf 199 195 198]) (C 199 (O [m 200 0,m 201 1,m 202 20,m 203 18,m 204 4,k 205 (f cA) [(t
 200),(t 201),(t 202),(t 203),(t 204)]]) X)) (Q (O [m 206 18,m 207 24,bl 208 206 207,m 209 208,g 210 209 (.mv (t 24)),g 211 209 (.mv (t 3)),g 212 209 (.ar .lss (t 210) (t
 211)),pf 213 209 212]) (C 213 (O [m 214 0,m 215 18,m 216 24,m 217 3,m 218 4,k 219 (f cA) [(t 214),(t 215),(t 216),(t 217),(t 218)]])
 X)))))))))))))
def jK:AFn:=⟨jJ,220,[],.keep,[],none⟩
def l7:AC:=
 (Q (O [bl 9 8 7]) (Q (C 9 X (.exit 0)) (Q (.block 1 (Q (O [m 10 8,m 5 10]) (Q (O [m 11 1,m 12 0,m 13 5,ia 14 1 12 13,ld 15 14,ar 16 .eql 11 15]) (C 16 (Q (O [m 17 5,m 4 17])
 R) X)))) (O [ad 18 8,m 8 18]))))
def ni:AC:=
 (Q (O [mc 4 (i 0)]) (Q (Q (O [m 6 0,ls 7 6,mc 8 (i 0)]) (.block 0 (.loop ⟨none,[],false⟩ l7))) (rt 4 (i (-1)))))
def nj:AFn:=⟨ni,19,[.t 4],.keep,[],none⟩
def j9:AC:=
 (Q (Q (O [m 9 5,m 10 0,lt 11 10,bl 12 9 11]) (C 12 X (.exit 0))) (Q (.block 1 (O [m 15 4,o 16 (.ar .mul (t 15) (.c (.int .u32 16777619))),m 17 0,m 18 5,o 19 (.ixs (t 17) (t
 18)),o 20 (.cvi .u32 (t 19)),ar 21 .add 16 20,m 4 21])) (ic 13 5 14)))
def ka:AC:=
 (Q (Q (O [m 24 8,ac 25 .gtr 24 (i 0)]) (C 25 X (.exit 2))) (Q (.block 3 (Q (Q (O [m 28 8,ac 29 .and 28 (i 1),ac 30 .neq 29 (i 0)]) (C 30 (O [m 31 6,m 32 7,ar 33 .mul 31 32,m 6
 33]) X)) (O [m 34 7,m 35 7,ar 36 .mul 34 35,m 7 36]))) (O [m 26 8,o 27 (.sh .shr (t 26) (.c (.int .u64 1))),m 8 27])))
def kJ:AC:=
 (Q (O [mc 2 (.c (.int .u32 0)),mc 3 (.c (.int .u32 0))]) (Q (O [mc 4 (.c (.int .u32 0))]) (Q (Q (O [mc 5 (i 0)]) (.block 0 (.loop ⟨none,[],false⟩
 j9))) (Q (O [mc 6 (.c (.int .u32 1)),mc 7 (.c (.int .u32 16777619))]) (Q (Q (O [m 22 0,lt 23 22,m 8 23]) (.block 2 (.loop ⟨none,[],false⟩
 ka))) (Q (O [m 37 4,m 38 6,m 2 37,m 3 38]) R))))))
def kK:AFn:=⟨kJ,39,[.t 2,.t 3],.keep,[],none⟩
def si:AC:=
 (Q (O [o 11 (.nx (t 10)),ex 12 11 0]) (Q (C 12 X (.exit 0)) (.block 1 (Q (O [ex 13 11 1,ex 14 11 2,m 7 13,m 8 14]) (Q (O [m 15 1,m 16 8,k 17 (t 15) [(t 16)],m 18 2,o 19 (.eq
 false .bool (t 17) (t 18))]) (C 19 (Q (O [m 20 7,m 6 20]) R) X))))))
def uf:AC:=
 (Q (O [mc 6 (i 0)]) (Q (Q (O [m 9 0,o 10 (.rg (t 9))]) (.block 0 (.loop ⟨none,[],false⟩ si))) (rt 6 (i (-1)))))
def ug:AFn:=⟨uf,21,[.t 6],.keep,[],none⟩
def jL:AC:=
 (Q (Q (O [m 18 10,m 19 11,ar 20 .neq 18 19]) (C 20 X (.exit 0))) (.block 1 (Q (O [m 21 10,m 22 11,ar 23 .gtr 21 22]) (C 23 (Q (O [m 24 0,m 25 2,m 26 10,ar 27 .sub 25 26,m 28
 2,m 29 11,m 30 4,k 31 (f dk) [(t 24),(t 27),(t 28),(t 29),(t 30)]]) (O [m 32 10,m 33 11,ar 34 .sub 32 33,m 10 34])) (Q (O [m 35 0,m 36
 2,m 37 10,ar 38 .sub 36 37,m 39 2,m 40 11,ar 41 .add 39 40,m 42 10,ar 43 .sub 41 42,m 44 10,m 45 4,k 46 (f dk) [(t 35),(t 38),(t 43),
 (t 44),(t 45)]]) (O [m 47 11,m 48 10,ar 49 .sub 47 48,m 11 49]))))))
def kb:AC:=
 (Q (O [m 12 2,m 13 1,ar 14 .sub 12 13,m 10 14]) (Q (O [m 15 3,m 16 2,ar 17 .sub 15 16,m 11 17]) (Q (.block 0 (.loop ⟨none,[],false⟩ jL))
 (O [m 50 0,m 51 2,m 52 10,ar 53 .sub 51 52,m 54 2,m 55 10,m 56 4,k 57 (f dk) [(t 50),(t 53),(t 54),(t 55),(t 56)]]))))
def ke:AFn:=⟨kb,58,[],.keep,[],none⟩
def iJ:AC:=
 (Q (Q (O [m 11 10,m 12 3,bl 13 11 12]) (C 13 X (.exit 0))) (Q (.block 1 (D [Pm 16 0,Pm 17 1,Pm 18 10,P (ar 19 .add 17 18),Pm 20 0,Pm 21 2,Pm 22 10,P (ar 23 .add 21 22),Pm
 24 0,Pm 25 2,Pm 26 10,P (ar 27 .add 25 26),P (ia 28 1 24 27),Wl 29 28,Pm 30 0,Pm 31 1,Pm 32 10,P (ar 33 .add 31 32),P (ia 34 1 30 33),Wl 35 34,P (ia 36 1 16 19),E (n
 (.st 1 (t 36) (t 29))),P (ia 37 1 20 23),E (n (.st 1 (t 37) (t 35)))])) (ic 14 10 15)))
def jo:AC:=
 (Q (O [mc 10 (i 0)]) (.block 0 (.loop ⟨none,[],false⟩ iJ)))
def jq:AFn:=⟨jo,38,[],.keep,[],none⟩
def MI(f:FuncId):Option (Nat×AFn):=none
end
section
open Go.Proofs
def G0:Nat→Option (List AV):=sx 0 1
def MJ:List (Nat×AFn):=[(7,r6),(8,Gs),(12,ow),(22,ES),(23,sH),(24,sJ),(25,sL),(26,Bq),(27,CI),(28,zi),(29,sN),(30,CL)]
theorem Q9:m9 (eb Tryz.prog G0) MJ:=by repeat' first | (unfold eb;kernel_rfl) | exact trivial | refine ⟨?_, ?_⟩
def MK:List (Nat×AFn):=[(31,Gu),(35,pK),(36,uR),(40,vF),(43,xW),(44,Br),(53,Bt),(54,qy),(55,Bu),(56,uT),(57,nD),(58,Bw)]
theorem Ra:m9 (eb Tryz.prog G0) MK:=by repeat' first | (unfold eb;kernel_rfl) | exact trivial | refine ⟨?_, ?_⟩
def ML:List (Nat×AFn):=[(59,zk),(60,CO),(61,w6),(62,w7),(63,vH),(64,EU),(65,xY),(66,CQ),(67,Gw),(68,CT),(69,sO),(70,Bz)]
theorem Rb:m9 (eb Tryz.prog G0) ML:=by repeat' first | (unfold eb;kernel_rfl) | exact trivial | refine ⟨?_, ?_⟩
def MM:List (Nat×AFn):=[(71,oz),(72,uU),(73,vK),(74,iA),(75,CU),(78,nF),(79,BA),(80,qz),(81,pM),(83,CW),(84,w8),(94,kI)]
theorem Rc:m9 (eb Tryz.prog G0) MM:=by repeat' first | (unfold eb;kernel_rfl) | exact trivial | refine ⟨?_, ?_⟩
def MN:List (Nat×AFn):=[(95,x7),(96,uW),(97,tU),(98,tW),(101,zu),(102,uY),(103,vL),(104,vM),(105,BC),(106,Gy),(107,mF),(108,l5)]
theorem Rd:m9 (eb Tryz.prog G0) MN:=by repeat' first | (unfold eb;kernel_rfl) | exact trivial | refine ⟨?_, ?_⟩
def MO:List (Nat×AFn):=[(109,tY),(110,iG),(111,fR),(112,CY),(113,x9),(114,yb),(115,BE),(116,jm),(117,uZ),(118,jn),(122,zw),(123,zx)]
theorem Re:m9 (eb Tryz.prog G0) MO:=by repeat' first | (unfold eb;kernel_rfl) | exact trivial | refine ⟨?_, ?_⟩
def MP:List (Nat×AFn):=[(124,zy),(125,zA),(126,zB),(127,zC),(128,CZ),(129,BF),(135,nh),(136,ua),(137,nH),(138,qY),(139,nJ),(140,kT)]
theorem Rf:m9 (eb Tryz.prog G0) MP:=by repeat' first | (unfold eb;kernel_rfl) | exact trivial | refine ⟨?_, ?_⟩
def MQ:List (Nat×AFn):=[(141,kV),(144,C1),(145,q8),(146,yd),(147,j8),(148,lU),(149,EV),(152,kX),(154,oB),(155,iI),(156,uc),(157,pP)]
theorem Rg:m9 (eb Tryz.prog G0) MQ:=by repeat' first | (unfold eb;kernel_rfl) | exact trivial | refine ⟨?_, ?_⟩
def MR:List (Nat×AFn):=[(161,ue),(162,il),(163,jK),(164,nj),(170,kK),(177,ug),(178,ke),(185,jq)]
theorem Rh:m9 (eb Tryz.prog G0) MR:=by repeat' first | (unfold eb;kernel_rfl) | exact trivial | refine ⟨?_, ?_⟩
def MS:List (Nat×List (Nat×AFn)):=[(30,MJ),(58,MK),(70,ML),(94,MM),(108,MN),(123,MO),(140,MP),(157,MQ),(185,MR)]
def Sb(f:FuncId):Option AFn:=Gk MS f
theorem OU:∀ f af,Sb f=some af→eb Tryz.prog G0 f af:=fun f af h=>A3 (show EC _ MS from ⟨Q9,Ra,Rb,Rc,Rd,Re,Rf,Rg,Rh,trivial⟩) h
theorem MT:∀ f d af,MI f=some (d,af)→OI Tryz.prog G0 f (d,af):=fun f d af h=>by
 unfold MI at h;revert h;exact (fun h=>by cases h)
end
section
open Go.Shelf Go.Proofs
attribute [local go_sem] Oper.semAt_some
theorem Gz{P:Program}{w:World}{ib:Nat}{s:ByteArray}{pos:Nat}(ty:TypeId)(h:w.heap[ib]?=some (.stringIter s pos))(hp:pos<s.size) :
  (Instr.next (.pointer (some ⟨ib,0,none⟩)) true ty).run P w = .ok (.tuple #[.bool true,.int .i64 pos,.int .i32 (Utf8.decode s pos).1]) (w.putObj ib (.stringIter s (pos+(Utf8.decode s pos).2))):=by
 have hg:(getObj ib).run P w = .ok (.stringIter s pos) w:=by simp [getObj,Sem.run,h]
 have hlt:ib<w.heap.size:=(Array.getElem?_eq_some_iff.1 h).1
 have hso:∀ p,(setObj ib (.stringIter s p)).run P w = .ok () (w.putObj ib (.stringIter s p)):=fun p=>by
  unfold setObj;simp only [Sem.run,World.putObj,h]
 simp only [Instr.next,Sem.run_bind,hg,Result.andThen_ok];rw [if_pos hp];simp only [Sem.run_bind,hso,Result.andThen_ok,Sem.run_pure];rfl
theorem GA{P:Program}{w:World}{ib:Nat}{s:ByteArray}{pos:Nat}(ty:TypeId)(h:w.heap[ib]?=some (.stringIter s pos))(hp:¬ pos<s.size) :
  (Instr.next (.pointer (some ⟨ib,0,none⟩)) true ty).run P w = .ok (.tuple #[.bool false]) w:=by
 have hg:(getObj ib).run P w = .ok (.stringIter s pos) w:=by simp [getObj,Sem.run,h]
 simp only [Instr.next,Sem.run_bind,hg,Result.andThen_ok];rw [if_neg hp];rfl
def MU(w:World)(b:Nat):Nat:=
 match w.heap[b]? with
 |some (.stringIter s p)=>s.size-p
 |_=>0
theorem GB{w:World}{b:Nat}{s:ByteArray}{p:Nat}(h:w.heap[b]?=some (.stringIter s p)):MU w b=s.size-p:=by
 unfold MU;rw [h]
abbrev Jo(n:Int):Array Value := #[.agg #[.int .i32 n,.bool false]]
def vO(p:Int×ByteArray×Bool):List (Array Value):=if p.1=5 then [#[.agg #[.int .i32 0,.bool true]]] else if p.1=1 then (iU p.2.1 p.2.1.size 0).map Jo else []
def fV:List (Int×ByteArray×Bool)→List (Array Value)
 |[]=>[]
 |p::l=>vO p++fV l
theorem Dw{α:Type}{xs r:List α}{x:α}{i:Nat}(h:xs.drop i=x::r):xs[i]?=some x∧xs.drop (i+1)=r:=by
 constructor
 ·have:=congrArg List.head? h
  simpa [List.head?_drop] using this
 ·rw [← List.drop_drop,h];rfl
theorem Ir(s:ByteArray)(p:Nat)(_:p<s.size):1≤(Utf8.decode s p).2:=by
 simp only [Utf8.decode]
 repeat' split
 all_goals simp
theorem OW(l cb:Nat)(W:World)(B:Nat)(J:Nat→World→Prop)(Jx KO:World→Prop)(a:Option Addr)(cap:Nat)(ps:List (Int×ByteArray×Bool))(hmx:ps.length≤9223372036854775807)
  (hx:W.cell? ⟨cb,0,none⟩=some (.slice a ps.length cap))
  (hcell:∀ W' k p,KO W'→ps[k]?=some p→∃ b o,a=some ⟨b,o,none⟩∧W'.cell? ⟨b,o+k*3,none⟩=some (.int .u8 p.1)∧W'.cell? ⟨b,o+k*3+1,none⟩=some (.string p.2.1)∧W'.cell? ⟨b,o+k*3+2,none⟩=some (.bool p.2.2))
  (hKO:Stb B KO) (hJ:∀ i,Stb B (J i)) (hsz:∀ i W',J i W'→B≤W'.heap.size)
  (hY:∀ i x W1,(fV ps)[i]?=some x→J i W1→YieldAt Fence.wide 0 Tryz.prog l x W1 fun e W'=>(e = .returned (.bool true)∧J (i+1) W'∧Do B W1 W'∧KO W')∨(e = .returned (.bool false)∧Jx W'))
  (h0:J 0 W) (hk0:KO W) :
  CallsIn Fence.wide 0 Tryz.prog 101 #[.func (.yield l) #[] #[],.pointer (some ⟨cb,0,none⟩)] W fun e W'=>(∃ v,e = .returned v)∧(J (fV ps).length W'∨Jx W'):=by
 refine callsIn_of_wp Tryz.func101 rfl trivial ?_ rfl;simp only [Tryz.ntmps101,List.size_toArray,List.length_cons,List.length_nil,Nat.reduceAdd,Nat.reduceSub,Array.replicate_succ,Array.replicate_zero,List.push_toArray,List.append_toArray,List.nil_append,List.cons_append]
 gi_wp2
 refine qD (fun _ _ _ _=>False) 0 ?_ (fun _ _ _ _ h=>h.elim);refine wpIn_seq (wpIn_label ?_)
 gi_wp2
 gi_loopw [9] (fun p wr => ∃ k i:Nat,p = .int .i64 k∧k≤ps.length∧(fV ps).drop i=fV (ps.drop k)∧i+(fV (ps.drop k)).length=(fV ps).length∧J i wr∧KO wr)
  (fun p _=>ps.length-(intOf p).toNat)
 case atStart=>
  exact ⟨0,0,rfl,Nat.zero_le _,rfl,by simp,h0,hk0⟩
 case round=>
  obtain ⟨k,i,rfl,hk,hd,hi,hJk,hKk⟩:=hrel
  by_cases hlt:k<ps.length
  ·obtain ⟨⟨kd,st,cr⟩,hp⟩:∃ p,ps[k]?=some p:=⟨_,List.getElem?_eq_getElem hlt⟩
   obtain ⟨b,o,rfl,c0,c1,c2⟩:=hcell wr k _ hKk hp
   have hdk:ps.drop k=(kd,st,cr)::ps.drop (k+1):=by
    rw [List.drop_eq_getElem_cons hlt];rw [List.getElem?_eq_getElem hlt] at hp;rw [Option.some.inj hp]
   rw [hdk,fV] at hd hi;simp only at c0 c1 c2
   by_cases h5:kd=5
   ·subst h5
    have e5:vO (5,st,cr)=[#[.agg #[.int .i32 0,.bool true]]]:=rfl;rw [e5] at hd hi;obtain ⟨hxi,hdi⟩:=Dw (by simpa using hd);obtain ⟨fn,tmps,assign,body,hy,hR⟩:=hY i _ (wr.alloc (.cells #[.int .u8 5,.string st,.bool cr] 60)) hxi ((hJ _).alloc _ hJk)
    gi_wp2
    refine ⟨rfl,hR.mono ?_⟩;rintro e W' (⟨rfl,hJ2,_,hK2⟩ | ⟨rfl,hJx2⟩)
    ·gi_wp2
     exact ⟨⟨k+1,i+1,by simp,by omega,hdi,by simp at hi ⊢;omega,hJ2,hK2⟩,by simp [intOf];omega⟩
    ·gi_wp2
     go_end0
     exact ⟨⟨_,rfl⟩,.inr hJx2⟩
   ·by_cases h1:kd=1
    ·subst h1
     have e1:vO (1,st,cr)=(iU st st.size 0).map Jo:=rfl;rw [e1] at hd hi
     gi_wp2
     have hBw:=hsz _ _ hJk;obtain ⟨ib,hib⟩:∃ ib,ib=wr.heap.size+1:=⟨_,rfl⟩
     have hst:((wr.alloc (.cells #[.int .u8 1,.string st,.bool cr] 60)).iter st 0).heap[ib]?=some (.stringIter st 0):=by
      have:=World.iter_heap (wr.alloc (.cells #[.int .u8 1,.string st,.bool cr] 60)) st 0;rw [hib];simpa using this
     rw [← hib];have hBi:B≤ib:=by omega
     clear hib
     gi_loopw [26] (fun _ w2 => ∃ (pos fuel j:Nat),w2.heap[ib]?=some (.stringIter st pos)∧st.size-pos≤fuel∧(fV ps).drop j=(iU st fuel pos).map Jo++fV (ps.drop (k+1)) ∧
       j+((iU st fuel pos).map Jo++fV (ps.drop (k+1))).length=(fV ps).length∧J j w2∧KO w2)
      (fun _ w2=>MU w2 ib)
     case atStart=>
      exact ⟨0,st.size,i,hst,by omega,hd,hi,(hJ _).alloc _ ((hJ _).alloc _ hJk),hKO.alloc _ (hKO.alloc _ hKk)⟩
     case round=>
      obtain ⟨pos,fuel,j,hit,hfu,hdj,hij,hJj,hKj⟩:=hrel
      by_cases hpl:pos<st.size
      ·have hnx:=fun ty=>Gz (P:=Tryz.prog) ty hit hpl
       obtain ⟨fuel,rfl⟩:∃ f,fuel=f+1:=⟨fuel-1,by omega⟩
       have hdp:=Ir st pos hpl;rw [show iU st (fuel+1) pos=Int.ofNat (Utf8.decode st pos).1::iU st fuel (pos+(Utf8.decode st pos).2) by rw [iU,if_pos hpl],List.map_cons,List.cons_append] at hdj hij;obtain ⟨hxj,hdj2⟩:=Dw hdj;obtain ⟨fn,tmps,assign,body,hy,hR⟩:=hY j #[.agg #[.int .i32 ((Utf8.decode st pos).1:Nat),.bool false]] (wr.putObj ib (.stringIter st (pos+(Utf8.decode st pos).2))) hxj ((hJ j).putObj _ hJj hBi hit rfl)
       have hlt2:ib<wr.heap.size:=(Array.getElem?_eq_some_iff.1 hit).1;have hsame:=World.putObj_heap_same (w:=wr) (o:=Obj.stringIter st (pos+(Utf8.decode st pos).2)) hlt2
       gi_wp2
       refine ⟨rfl,hR.mono ?_⟩;rintro e W' (⟨rfl,hJ2,hI2,hK2⟩ | ⟨rfl,hJx2⟩)
       ·have hW:=hI2 ib _ _ hBi hsame
        gi_wp2
        exact ⟨⟨_,fuel,j+1,hW,by omega,hdj2,by simp only [List.length_cons] at hij;omega,hJ2,hK2⟩,by rw [GB hW,GB hit];omega⟩
       ·gi_wp2
        go_end0
        exact ⟨⟨_,rfl⟩,.inr hJx2⟩
      ·have hnx:=fun ty=>GA (P:=Tryz.prog) ty hit hpl
       have e0:iU st fuel pos=[]:=by
        cases fuel with
        |zero=>rfl
        |succ f=>rw [iU,if_neg hpl]
       rw [e0] at hdj hij
       gi_wp2
       exact ⟨⟨k+1,j,by simp,by omega,hdj,by simp at hij ⊢;omega,hJj,hKj⟩,by simp [intOf];omega⟩
    ·have e0:vO (kd,st,cr)=[]:=by unfold vO;rw [if_neg h5,if_neg h1]
     rw [e0] at hd hi
     gi_wp2
     exact ⟨⟨k+1,i,by simp,by omega,hd,by simp at hi ⊢;omega,(hJ _).alloc _ hJk,hKO.alloc _ hKk⟩,by simp [intOf];omega⟩
  ·have ek:k=ps.length:=by omega
   subst ek
   gi_wp2
   go_end0
   have:i=(fV ps).length:=by simpa [fV] using hi
   exact ⟨⟨_,rfl⟩,.inl (by rw [← this];exact hJk)⟩
def pc1:List AV→Int×ByteArray×Bool
 |[.int .u8 k,.str s,.bool c]=>(k,⟨s.toArray⟩,c)
 |_=>(0,⟨#[]⟩,false)
def pcs(rows:List (List AV)):List (Int×ByteArray×Bool):=rows.map pc1
theorem Jp(rows:List (List AV)):(pcs rows).length=rows.length:=List.length_map ..
theorem Jq:∀ {rows:List (List AV)}{xs:List (List AV)},qT rows=some xs→fV (pcs rows)=xs.map (fun x=>(x.map sw).toArray)∧(∀ x∈xs,x.length=1∧∀ v∈x,xJ v=true) ∧
  ∀ (i:Nat) (p:Int×ByteArray×Bool),(pcs rows)[i]?=some p→∃ s:List UInt8,rows[i]?=some [.int .u8 p.1,.str s,.bool p.2.2]∧p.2.1=⟨s.toArray⟩
 |[],xs,h=>by
  cases h;exact ⟨rfl,fun x hx=>by simp at hx,fun i p h=>by simp [pcs] at h⟩
 |r::rows,xs,h=>by
  unfold qT at h;split at h
  ·rename_i heq;cases heq
  ·rename_i k s c l heq
   cases heq;split at h
   ·rename_i r' hr
    obtain ⟨h1,h2,h3⟩:=Jq hr
    have hget:∀ (i:Nat) (p:Int×ByteArray×Bool),(pcs ([.int .u8 k,.str s,.bool c]::rows))[i]?=some p→∃ s':List UInt8,([AV.int .u8 k,.str s,.bool c]::rows)[i]?=some [.int .u8 p.1,.str s',.bool p.2.2]∧p.2.1=⟨s'.toArray⟩:=fun i p hp=>by
     cases i with
     |zero=>simp [pcs,pc1] at hp;subst hp;exact ⟨s,rfl,rfl⟩
     |succ i=>exact h3 i p (by simpa [pcs] using hp)
    have hu:fV (pcs ([.int .u8 k,.str s,.bool c]::rows))=vO (k,⟨s.toArray⟩,c)++fV (pcs rows):=rfl
    by_cases h5:k=5
    ·rw [if_pos h5] at h
     cases h;refine ⟨?_, ?_,hget⟩
     ·rw [hu,h1,h5];rfl
     ·intro x hx
      rcases List.mem_cons.1 hx with rfl | hx
      ·exact ⟨rfl,fun v hv=>by simp at hv;subst hv;rfl⟩
      ·exact h2 x hx
    ·rw [if_neg h5] at h
     by_cases h1':k=1
     ·rw [if_pos h1'] at h
      cases h;refine ⟨?_, ?_,hget⟩
      ·rw [hu,h1,h1',List.map_append,List.map_map]
       congr 1
      ·intro x hx
       rcases List.mem_append.1 hx with hx | hx
       ·obtain ⟨n,_,rfl⟩:=List.mem_map.1 hx
        exact ⟨rfl,fun v hv=>by simp at hv;subst hv;rfl⟩
       ·exact h2 x hx
     ·rw [if_neg h1'] at h
      cases h;refine ⟨?_,h2,hget⟩;rw [hu,h1];unfold vO;rw [if_neg h5,if_neg h1'];rfl
   ·cases h
  ·cases h
def Dx(H:List AObj):List AObj:=H.map fun x=>match x with
 |.siter _ _=>.dead
 |x=>x
theorem Dy{H:List AObj}{i:Nat}{x:AObj}(h:(Dx H)[i]?=some x):(x = .dead∨H[i]?=some x)∧∀ s p,x≠.siter s p:=by
 unfold Dx at h;rw [List.getElem?_map] at h;cases hi:H[i]? with
 |none=>rw [hi] at h;cases h
 |some y=>
  rw [hi] at h;simp only [Option.map_some,Option.some.injEq] at h;cases y<;>subst h<;>simp
theorem KS{H:List AObj}{t fr:Nat}{T:TypeId}(h:H[t]?=some (.tok fr T)):(Dx H)[t]?=some (.tok fr T):=by
 unfold Dx;rw [List.getElem?_map,h];rfl
theorem KT{G:Nat→Option (List AV)}{cap:List AV}{H:List AObj}{xs:List (List AV)}{L:List Nat}(h:wP cap H=some (xs,L)) :
  (∀ x∈xs,x.length=1∧∀ v∈x,xJ v=true)∧(∀ args w,(callFunc 101 args).run Tryz.prog w = .ok (.enter 101 args) w) ∧
  ∀ K w lb,K.glob=G→Inv K H w→Vs K cap lb→QO Tryz.prog 101 lb (xs.map fun x=>(x.map sw).toArray) L K H:=by
 unfold wP at h;split at h
 ·rename_i id
  split at h
  ·rename_i tg rows cs T ho
   split at h
   ·rename_i r hr
    cases hle:Nat.ble rows.length 9223372036854775807 with
    |false=>rw [hle] at h;cases h
    |true=>
     rw [hle] at h;cases h;obtain ⟨e1,e2,e3⟩:=Jq hr;refine ⟨e2,fun args w=>jr Tryz.func101 (by kernel_rfl) (by kernel_rfl) args w, ?_⟩;intro K w lb _ hi hv;obtain ⟨x0,rfl,hx0⟩:=wu hv;cases hx0 with
     |ptr _ _ cb hcb=>
      intro l W J Jx hiW hJ hJx hsz hY h0;obtain ⟨b,vs,T',hb,hbase,hheap,hlen,hcs,_⟩:=hiW.obj id _ ho;rw [hcb] at hb;cases hb;have hv0:=hcs 0 _ rfl
      have hB:∀ b s,K.shape b=some s→b<W.heap.size:=fun b s hs=>by
       have:=hiW.shape b s hs;cases s with
       |rows n=>obtain ⟨vs,T,f,h1,_⟩:=this;exact (Array.getElem?_eq_some_iff.1 h1).1
       |mapv es=>obtain ⟨c,h1⟩:=this;exact (Array.getElem?_eq_some_iff.1 h1).1
       |fix o=>exact (Array.getElem?_eq_some_iff.1 this.1).1
      have hbb:∀ b,W.heap.size≤b→K.base b:=hiW.base
      let KO:World→Prop:=fun W' => ∃ K' H',K.le K'∧Inv K' H' W'∧Low W.heap.size K' H'
      have toKO:∀ W',Ql K H [] W'→KO W':=fun W' ⟨K',H',hk,hi',_⟩=>by
       have hb':∀ b,W.heap.size≤b→K'.base b:=fun b h=>by rw [hk.base];exact hbb b h
       refine ⟨K'.dim W.heap.size,Dx H',L2 hk hB hb', ?_, ?_⟩
       ·exact (hi'.dim _).unsee (by simp [Dx]) (fun i x hx=>(Dy hx).1) fun t fr T ht=>KS ht
       ·exact ⟨fun id b s p hx _=>absurd rfl ((Dy hx).2 s p),fun b o ho=>(Eu ho).1⟩
      have hsl:∃ a cap',vs.getD 0 undef = .slice a (pcs rows).length cap'∧∀ W' k p,KO W'→(pcs rows)[k]?=some p→∃ b o,a=some ⟨b,o,none⟩∧W'.cell? ⟨b,o+k*3,none⟩=some (.int .u8 p.1)∧W'.cell? ⟨b,o+k*3+1,none⟩=some (.string p.2.1)∧W'.cell? ⟨b,o+k*3+2,none⟩=some (.bool p.2.2):=by
       generalize vs.getD 0 undef=x at hv0;cases hv0 with
       |slice0 _ _ a _=>exact ⟨a,0,rfl,fun W' k p _ hp=>by simp [pcs] at hp⟩
       |sliceAny _ _ a c _=>exact ⟨a,c,rfl,fun W' k p _ hp=>by simp [pcs] at hp⟩
       |slice _ _ _ b o c us hl him hvv hc ht=>
        refine ⟨_,c,by rw [Jp],fun W' k p ⟨K',H',hk,hi',_⟩ hp=>⟨b,o,rfl, ?_⟩⟩;obtain ⟨s,hrow,hs⟩:=e3 k p hp
        have key:∀ j av,[AV.int .u8 p.1,.str s,.bool p.2.2][j]?=some av→W'.cell? ⟨b,o+k*3+j,none⟩=some (us k j)∧V K av (us k j):=fun j av hj=>
         ⟨hi'.imm _ _ _ (hk.imm _ _ _ (him k j _ av hrow hj)),hvv k j _ av hrow hj⟩
        obtain ⟨a0,b0⟩:=key 0 _ rfl;obtain ⟨a1,b1⟩:=key 1 _ rfl;obtain ⟨a2,b2⟩:=key 2 _ rfl;generalize us k 0=y0 at a0 b0;generalize us k 1=y1 at a1 b1;generalize us k 2=y2 at a2 b2;cases b0;cases b1;cases b2;exact ⟨a0,by rw [hs];exact a1,a2⟩
      obtain ⟨a,cap',hx,hcell⟩:=hsl
      have hcell0:W.cell? ⟨cb,0,none⟩=some (.slice a (pcs rows).length cap'):=by
       rw [← hx];simp only [World.cell?,hheap]
       have:0<vs.size:=by simp at hlen;omega
       simp [Array.getD,this]
      have hY':∀ i x W1,(fV (pcs rows))[i]?=some x→J i W1→YieldAt Fence.wide 0 Tryz.prog l x W1 fun e W'=>(e = .returned (.bool true)∧J (i+1) W'∧Do W.heap.size W1 W'∧KO W')∨(e = .returned (.bool false)∧Jx W'):=fun i x W1 hx hj=>by
       rw [e1] at hx;refine (hY i x W1 hx hj).mono ?_;rintro e W' (⟨h1,h2,h3,h4⟩ | h1)
       ·exact .inl ⟨h1,h2,h3,toKO _ h4⟩
       ·exact .inr h1
      rw [← e1];refine OW l cb W W.heap.size J Jx KO a cap' (pcs rows) (by rw [Jp];exact Nat.le_of_ble_eq_true hle) hcell0 hcell ?_ hJ hsz hY' h0 (toKO W ⟨K,H,.refl K,hiW,fun id h=>by simp at h⟩);rintro W1 W2 row ⟨K',H',hk,hi',hlow⟩ hg ht;exact ⟨K',H',hk,hi'.grown hlow (fun b h=>by rw [hk.base];exact hbb b h) hg ht,hlow⟩
   ·cases h
  ·cases h
 ·cases h
end
section
open Go.Proofs
def OX(g:FuncId)(xs:List AV)(H:List AObj):Option Out:=
 match xs with
 |[.str s,.int .u8 c]=>bif Nat.beq g bY then some (.ret (.int .i64 (Lib.indexByte s c.toNat.toUInt8)),H) else none
 |[.fn _ _ _]=>none
 |[x]=>bif Nat.beq g dU then some (.ret x,H) else none
 |_=>none
theorem OY:yL Tryz.prog bY Extern.BytealgIndexByte.indexByte:=.of Tryz.func169 (by kernel_rfl) (by kernel_rfl) (by kernel_rfl) (by kernel_rfl)
theorem Ri:yL Tryz.prog dU Extern.AbiNoEscape.same:=.of Tryz.func120 (by kernel_rfl) (by kernel_rfl) (by kernel_rfl) (by kernel_rfl)
theorem Jr{g:FuncId}{xs:List AV}{H H':List AObj}{r:oK}(h:OX g xs H=some (r,H')):de Tryz.prog G0 g xs H fun r2 H2=>r2=r∧H2=H':=by
 unfold OX at h;split at h
 ·rename_i s c
  cases h2:Nat.beq g bY with
  |true=>rw [h2] at h;cases h;rw [Nat.eq_of_beq_eq_true h2];exact KL OY s c H
  |false=>rw [h2] at h;cases h
 ·cases h
 ·rename_i x _
  cases h1:Nat.beq g dU with
  |true=>rw [h1] at h;cases h;rw [Nat.eq_of_beq_eq_true h1];exact Mz Ri x H
  |false=>rw [h1] at h;cases h
 ·cases h
theorem Js:Tryz.prog.follows .mixedOrders=true:=by kernel_rfl
theorem g0:∀ (n g:Nat) (cs:List AV),G0 g=some cs→wkbL n cs=true:=MC
def OZ:FuncId→List AV→List AObj→Option (List (List AV)×List Nat):=fun g cap H=>bif Nat.beq g 101 then wP cap H else none
theorem Jt(g:FuncId)(cap:List AV)(H:List AObj)(xs:List (List AV))(L:List Nat)(h:OZ g cap H=some (xs,L)):(∀ x∈xs,x.length=1∧∀ v∈x,xJ v=true)∧(∀ args w,(callFunc g args).run Tryz.prog w = .ok (.enter g args) w) ∧
  ∀ K w lb,K.glob=G0→Inv K H w→Vs K cap lb→QO Tryz.prog g lb (xs.map fun x=>(x.map sw).toArray) L K H:=by
 unfold OZ at h;cases hb:Nat.beq g 101 with
 |true=>rw [hb] at h;rw [Nat.eq_of_beq_eq_true hb];exact KT h
 |false=>rw [hb] at h;cases h
noncomputable def E0:bb := { P:=Tryz.prog,G:=G0,fn:=Sb,orc:=OX,dfn:=MI,seq:=OZ,sar:=fun _=>1 }
theorem Ju:E0.Ok:=⟨Js,fun f af h=>OU f af h,fun f d af h=>MT f d af h,(fun _ _ _ _ _ h=>by cases h),fun _ _ _ _ _ h=>Jr h,(fun _ _ _ h=>by cases h),Jt⟩
end
section
open Go.Proofs
theorem O0:∀ f args H,E0.wo f args H=none:=fun _ _ _=>rfl
def ps0:List RPc:=[]
theorem ok0:∀ p∈ps0,p.Ok E0.P E0.G:=fun p h=>by cases h
def p1:RPc:=⟨22,[(.str [97,32,92,60,98,62,32,60,98,62,120,60,47,98,62,123,110,125])],[],(.tuple [(.slice .any 3 [[(.int .u8 1),(.str [97,32,60,98,62,32]),(.bool false)],[(.int .u8 2),(.str [98]),(.bool false)],[(.int .u8 1),(.str [120]),(.bool false)],[(.int .u8 3),(.str [98]),(.bool false)],[(.int .u8 5),(.str [110]),(.bool false)]]),(.int .u8 0)])⟩
def ps1:List RPc:=p1::ps0
theorem ok1:∀ p∈ps1,p.Ok E0.P E0.G:=tH Ju g0 ok0 O0 (by kernel_rfl)
def p2:RPc:=⟨26,[(.slice .full 3 [[(.str [37,98,68,114,46,37,115]),(.str []),(.bool false)],[(.str [37,112,37,115]),(.str [37,117]),(.bool true)]]),(.slice .full 3 [[(.int .u8 1),(.str [68,114,46,32,65,32,105,115,32,105,110,46,32,71,111]),(.bool false)]])],[],(.tuple [(.slice .any 1 [[(.int .i64 13)]]),(.int .u8 0)])⟩
def ps2:List RPc:=p2::ps1
theorem ok2:∀ p∈ps2,p.Ok E0.P E0.G:=tH Ju g0 ok1 O0 (by kernel_rfl)
def p3:RPc:=⟨28,[(.slice .full 3 [[(.int .u8 2),(.str [98]),(.bool false)],[(.int .u8 1),(.str [114,101,100]),(.bool false)],[(.int .u8 3),(.str [98]),(.bool false)],[(.int .u8 1),(.str [32,104,111,117,115,101]),(.bool false)]]),(.slice .full 1 [[(.str [99,97,115,97])],[(.str [114,111,106,97])]]),(.slice .full 2 [[(.int .i64 0),(.int .i64 1)],[(.int .i64 1),(.int .i64 0)]])],(dd 12 ([.tok 1 9]++(dd 7 ([.tok 16 115]++(dd 11 ([.tok 1 9]++(dd 43 ([.tok 1 9]++(dd 20 [.tok 6 9]))))))))),(.tuple [(.slice .any 3 [[(.int .u8 1),(.str [99,97,115,97,32]),(.bool false)],[(.int .u8 2),(.str [98]),(.bool false)],[(.int .u8 1),(.str [114,111,106,97]),(.bool false)],[(.int .u8 3),(.str [98]),(.bool false)]]),(.int .u8 0)])⟩
def ps3:List RPc:=p3::ps2
theorem ok3:∀ p∈ps3,p.Ok E0.P E0.G:=tH Ju g0 ok2 O0 (by kernel_rfl)
theorem KU:Jj (EP E0 ps3) 1000000 bK [] []=some (.bool true):=by kernel_rfl
theorem MV(H:List AObj):de Tryz.prog G0 bK [] H fun r H'=>r = .ret (.bool true)∧H'=H:=Gj (Qr Ju g0 ok3 O0) g0 KU rfl
end
def cT(s:Str):Nat×Nat:=Lib.decodeL s
theorem pq(s:Str):1≤(cT s).2:=Lib.decodeL_width s
theorem EW{s:Str}(h:s≠[]):(cT s).2≤s.length:=Lib.decodeL_le s h
theorem Dz(s:Str)(i:Nat):Utf8.decode ⟨s.toArray⟩ i=cT (s.drop i):=(Lib.decodeL_drop ⟨s.toArray⟩ i).symm
theorem Sy(r:Nat):(Utf8.encode (r:Int)).data.toList=Lib.encodeRune (r:Int):=by
 have h:=Extern.FmtText.encode_eq r;unfold Lib.encodeRune;rw [← h,Extern.FmtText.nums,List.map_map]
 conv=>lhs;rw [← List.map_id (Utf8.encode (r:Int)).data.toList]
 refine List.map_congr_left fun c _ => ?_
 simp
theorem Jv{s:Str}(hne:s≠[])(hv:¬ ((cT s).1=65533∧(cT s).2=1)):(Utf8.encode ((cT s).1:Int)).data.toList=s.take (cT s).2:=by
 rw [Sy];exact Lib.encode_decode s hne hv
def w9:Nat→Str→List Nat
 |0,_=>[]
 |n+1,s=>match s with
  |[]=>[]
  |c::t=>(cT (c::t)).1::w9 n ((c::t).drop (cT (c::t)).2)
theorem pw(n:Nat):w9 n []=[]:=by cases n<;>rfl
theorem mG{n:Nat}{s:Str}(h:s≠[]):w9 (n+1) s=(cT s).1::w9 n (s.drop (cT s).2):=by
 cases s with
 |nil=>exact absurd rfl h
 |cons c t=>rfl
theorem DA:∀ (n m:Nat) (s:Str),s.length≤n→s.length≤m→w9 n s=w9 m s
 |0,m,s,h,_=>by
  obtain rfl:s=[]:=List.eq_nil_of_length_eq_zero (by omega);rw [pw,pw]
 |n+1,0,s,_,h=>by
  obtain rfl:s=[]:=List.eq_nil_of_length_eq_zero (by omega);rw [pw,pw]
 |n+1,m+1,s,h,h'=>by
  by_cases hs:s=[]
  ·subst hs;rw [pw,pw]
  ·have hw:=pq s
   rw [mG hs,mG hs,DA n m _ (by rw [List.length_drop];omega) (by rw [List.length_drop];omega)]
def dv(s:Str):List Nat:=w9 s.length s
theorem uh{s:Str}(h:s≠[]):dv s=(cT s).1::dv (s.drop (cT s).2):=by
 have hl:0<s.length:=List.length_pos_iff.2 h;have hw:=pq s;obtain ⟨n,hn⟩:∃ n,s.length=n+1:=⟨s.length-1,by omega⟩
 unfold dv;rw [hn,mG h,DA n (s.drop (cT s).2).length _ (by rw [List.length_drop];omega) (Nat.le_refl _)]
theorem yO(s:Str):∀ (n i:Nat),iU ⟨s.toArray⟩ n i=(w9 n (s.drop i)).map Int.ofNat
 |0,i=>rfl
 |n+1,i=>by
  rw [iU];have hsz:(ByteArray.mk s.toArray).size=s.length:=by simp [ByteArray.size]
  by_cases h:i<s.length
  ·rw [if_pos (by rw [hsz];exact h),mG (fun e=>by have:=congrArg List.length e;simp at this;omega),yO s n,Dz,List.map_cons,List.drop_drop]
  ·rw [if_neg (by rw [hsz];exact h),List.drop_of_length_le (by omega),pw];rfl
theorem DB(s:Str):eE s=(dv s).map Int.ofNat:=by
 unfold eE dv;rw [yO,List.drop_zero]
def KV(r w:Nat):Bool:=((r:Int) == 65533)&&decide ((w:Int)<2)||decide ((r:Int)<32)||((r:Int) == 127)
def ui:Nat→Str→Bool
 |0,_=>true
 |n+1,s=>match s with
  |[]=>true
  |c::t => !KV (cT (c::t)).1 (cT (c::t)).2&&ui n ((c::t).drop (cT (c::t)).2)
theorem mH(n:Nat):ui n []=true:=by cases n<;>rfl
theorem sj{n:Nat}{s:Str}(h:s≠[]):ui (n+1) s=(!KV (cT s).1 (cT s).2&&ui n (s.drop (cT s).2)):=by
 cases s with
 |nil=>exact absurd rfl h
 |cons c t=>rfl
theorem BG:∀ (n m:Nat) (s:Str),s.length≤n→s.length≤m→ui n s=ui m s
 |0,m,s,h,_=>by
  obtain rfl:s=[]:=List.eq_nil_of_length_eq_zero (by omega);rw [mH,mH]
 |n+1,0,s,_,h=>by
  obtain rfl:s=[]:=List.eq_nil_of_length_eq_zero (by omega);rw [mH,mH]
 |n+1,m+1,s,h,h'=>by
  by_cases hs:s=[]
  ·subst hs;rw [mH,mH]
  ·have hw:=pq s
   rw [sj hs,sj hs,BG n m _ (by rw [List.length_drop];omega) (by rw [List.length_drop];omega)]
def jM(s:Str):Bool:=ui s.length s
theorem BH{s:Str}(h:s≠[]):jM s=(!KV (cT s).1 (cT s).2&&jM (s.drop (cT s).2)):=by
 have hl:0<s.length:=List.length_pos_iff.2 h;have hw:=pq s;obtain ⟨n,hn⟩:∃ n,s.length=n+1:=⟨s.length-1,by omega⟩
 unfold jM;rw [hn,sj h,BG n (s.drop (cT s).2).length _ (by rw [List.length_drop];omega) (Nat.le_refl _)]
def l8(l:List Nat):Str:=(l.map fun r=>(Utf8.encode ((r:Nat):Int)).data.toList).flatten
theorem KW(r:Nat)(l:List Nat):l8 (r::l)=(Utf8.encode (r:Int)).data.toList++l8 l:=rfl
theorem O1{r:Nat}(h:r=65533):(Utf8.encode (r:Int)).data.toList=[239,191,189]:=by
 rw [Extern.FmtText.enc3 r (by omega) (by omega) (by omega),h];rfl
theorem O2(t:Str):cT (239::191::189::t)=(65533,3):=by
 unfold cT;rw [Lib.decodeL_N];simp [Lib.decodeN]
def BI:Nat→Str→Bool
 |0,_=>true
 |n+1,s=>match s with
  |[]=>true
  |c::t => !(((cT (c::t)).1 == 65533)&&((cT (c::t)).2 == 1))&&BI n ((c::t).drop (cT (c::t)).2)
theorem DC:∀ (n:Nat) (s:Str),s.length≤n→((l8 (w9 n s) == s)=BI n s)
 |0,s,h=>by
  obtain rfl:s=[]:=List.eq_nil_of_length_eq_zero (by omega);rfl
 |n+1,[],_=>rfl
 |n+1,c::t,h=>by
  have hw:=pq (c::t);have ih:=DC n ((c::t).drop (cT (c::t)).2) (by rw [List.length_drop];simp at h ⊢;omega);rw [mG (by simp),KW,BI]
  by_cases hb:(cT (c::t)).1=65533∧(cT (c::t)).2=1
  ·have hbb:(((cT (c::t)).1 == 65533)&&((cT (c::t)).2 == 1))=true:=by simp [hb]
   rw [hbb,Bool.not_true,Bool.false_and,beq_eq_false_iff_ne,O1 hb.1];intro e;generalize l8 (w9 n ((c::t).drop (cT (c::t)).2))=u at e;have e2:c::t=(239:UInt8)::191::189::u:=by rw [← e];rfl
   rw [e2,O2] at hb;exact absurd hb.2 (by decide)
  ·have hbb:(((cT (c::t)).1 == 65533)&&((cT (c::t)).2 == 1))=false:=by
    rw [Bool.and_eq_false_iff]
    by_cases h1:(cT (c::t)).1=65533
    ·right;simp;exact fun h2=>hb ⟨h1,h2⟩
    ·left;simpa using h1
   rw [hbb,Bool.not_false,Bool.true_and,← ih,Jv (by simp) hb,Bool.eq_iff_iff,beq_iff_eq,beq_iff_eq];constructor
   ·intro e
    have e3:(c::t).take (cT (c::t)).2++l8 (w9 n ((c::t).drop (cT (c::t)).2))=(c::t).take (cT (c::t)).2++(c::t).drop (cT (c::t)).2:=by rw [List.take_append_drop];exact e
    exact List.append_cancel_left e3
   ·intro e
    rw [e,List.take_append_drop]
def okR(l:List Nat):Bool:=l.all fun r => !(decide ((r:Int)<32)||((r:Int) == 127))
theorem BJ:∀ (n:Nat) (s:Str),s.length≤n→(BI n s&&okR (w9 n s))=ui n s
 |0,s,h=>rfl
 |n+1,[],_=>rfl
 |n+1,c::t,h=>by
  have hw:=pq (c::t);have ih:=BJ n ((c::t).drop (cT (c::t)).2) (by rw [List.length_drop];simp at h ⊢;omega);rw [mG (by simp),BI,ui,← ih];unfold okR KV;rw [List.all_cons];have e1:(((cT (c::t)).1:Int) == 65533)=((cT (c::t)).1 == 65533):=by rw [Bool.eq_iff_iff];simp;omega
  have e2:decide (((cT (c::t)).2:Int)<2)=((cT (c::t)).2 == 1):=by rw [Bool.eq_iff_iff];simp;omega
  rw [e1,e2];cases ((cT (c::t)).1 == 65533)<;>cases ((cT (c::t)).2 == 1)<;>cases decide (((cT (c::t)).1:Int)<32)<;>cases (((cT (c::t)).1:Int) == 127)<;>simp
theorem KX(s:Str):(sel (l8 (dv s) == s) (okR (dv s)) false)=jM s:=by
 unfold jM;rw [← BJ s.length s (Nat.le_refl _),← DC s.length s (Nat.le_refl _)];show sel _ _ _=(l8 (dv s) == s&&_)
 cases l8 (dv s) == s<;>rfl
theorem DD{s:Str}(h:jM s=true):l8 (dv s)=s:=by
 rw [← KX] at h;cases e:l8 (dv s) == s with
 |true=>simpa using e
 |false=>rw [e] at h;cases h
theorem GC:∀ (n:Nat) (s:Str),(w9 n s).length≤s.length
 |0,_=>Nat.zero_le _
 |n+1,[]=>by simp [w9]
 |n+1,c::t=>by
  have hw:=pq (c::t);have:=GC n ((c::t).drop (cT (c::t)).2);rw [mG (by simp),List.length_cons];rw [List.length_drop] at this;simp at this ⊢;omega
theorem px(s:Str):(dv s).length≤s.length:=GC _ _
section
attribute [local congr] aA bo aM aC aL aG aD aq au aH aI
variable{E:bb}(M:bO bU E)
structure kY (E:bb):Prop where
 docs_isText:E.fn gI=some iQ
 docs_isName:E.fn mS=some iR
 docs_carried_takes:E.fn gu=some gA
 docs_stack_string_pop:E.fn gW=some fc
 docs_stack_string_push:E.fn gJ=some gN
 docs_CheckPieces:E.fn bX=some eN
 truchmanref01_SamePieces:E.fn bW=some cE
 truchmanlaw01_long:E.fn gq=some dm
def Rj(s:Str):Nat×Nat:=if s=[] then (65533,0) else cT s
structure sR (M:bO bU E):Prop where
 dec:∀ (s:Str) (H:List AObj),M.run b7 [.str s] H=some (.ret (.tuple [.int .i32 ((Rj s).1:Int),.int .i64 ((Rj s).2:Int)]),H)
theorem MW{s:Str}{k:IntKind}{i:Nat}(h:i≤s.length):LN (.str s) (some (.int k (i:Int))) none=some (.str (s.drop i)):=by
 simp [LN,dg,h];exact List.take_of_length_le (by simp)
theorem Rk{a b:Nat}(h:a+b≤bH):IntKind.i64.wrap ((a:Int)+(b:Int))=((a+b:Nat):Int):=by
 simp only [bH] at h;rw [bV (by omega) (by omega)];omega
theorem Rl{α:Type}(b p:Bool)(x y:α):slc b y (slc p x y)=slc (!b&&p) x y:=by cases b<;>rfl
theorem txl(hX:sR M){s:Str}(hs:s.length≤bH){H H0:List AObj}(hc:db H0 H)(k:List Fra):∀ (n i:Nat) (He:List AObj),s.length-i≤n→i≤s.length →
  M.go iQ H0 (.c gh :: .lp ⟨(some [0,3]),[],false⟩ gh He :: .blk 0 :: .c (.lv [])::k) (kv [(0,.str s),(3,.int .i64 i)]) H=sel (ui n (s.drop i)) (M.go iQ H0 k .leaf H) (some (.ret (.bool false),H.take H0.length))
 |0,i,He,h,hi=>by
  obtain rfl:i=s.length:=by omega
  rw [ak M gh.eq_1];simp (maxSteps:=3000000) (maxDischargeDepth:=6) +contextual -implicitDefEqProofs only [amC M,↓amD,Nat.reduceBEq,Nat.reduceAdd,env,aj,mT,Nat.lt_irrefl,ui]
 |n+1,i,He,h,hi=>by
  by_cases hlt:i<s.length
  ·have hne:s.drop i≠[]:=fun e=>by have:=congrArg List.length e;simp at this;omega
   have hw:=pq (s.drop i);have hle:=EW hne;rw [List.length_drop] at hle;have hd:=fun H=>hX.dec (s.drop i) H
   have hg:Rj (s.drop i)=cT (s.drop i):=if_neg hne;rw [hg] at hd;have ih:=fun He=>txl hX hs hc k n (i+(cT (s.drop i)).2) He (by omega) (by omega)
   rw [← List.drop_drop] at ih;have hws:=Rk (a:=i) (b:=(cT (s.drop i)).2) (by omega);rw [sj hne];simp only [kv_cons,kv_nil] at ih;generalize cT (s.drop i)=d at *
   rw [ak M gh.eq_1];simp (maxSteps:=3000000) (maxDischargeDepth:=6) +contextual -implicitDefEqProofs only [amC M,↓amD,Nat.reduceBEq,Nat.reduceAdd,env,aj,mT,hlt,MW hi,hd,ih,hws,KV,hc];exact Rl _ _ _ _
  ·obtain rfl:i=s.length:=by omega
   rw [List.drop_length,mH];rw [ak M gh.eq_1];simp (maxSteps:=3000000) (maxDischargeDepth:=6) +contextual -implicitDefEqProofs only [amC M,↓amD,Nat.reduceBEq,Nat.reduceAdd,env,aj,mT,Nat.lt_irrefl]
theorem BK(hB:kY E)(hX:sR M){s:Str}(hs:s.length≤bH)(H:List AObj):M.run gI [.str s] H=some (.ret (.bool (jM s)),H):=by
 rw [bI M hB.docs_isText rfl (c:=qs) rfl,qs];have hl:=fun k He=>txl M hX hs (cut_refl H) k s.length 0 He (by omega) (by omega)
 simp only [kv_cons,kv_nil,Int.ofNat_zero,List.drop_zero] at hl;simp (maxSteps:=3000000) (maxDischargeDepth:=6) +contextual -implicitDefEqProofs only [amC M,↓amD,Nat.reduceBEq,Nat.reduceAdd,env,aj,mT,hl,jM]
theorem O3{s:Str}(h:s.length≤70368744177664):Aq (.str s)=some (.slice .any 1 ((dv s).map fun r:Nat=>[AV.int .i32 (r:Int)])):=by
 simp only [Aq,if_pos h,DB,List.map_map];rfl
def xb(r:Nat):List AV:=[.int .i32 (r:Int)]
theorem O4{s:Str}(h:s.length≤70368744177664):Aq (.str s)=some (.slice .any 1 ((dv s).map xb)):=O3 h
theorem Jw:(∀ r:Nat,bh none (xb r) 0=some (.int .i32 (r:Int))):=fun _=>rfl
def inN(c:UInt8):Bool:=decide (97≤(c.toNat:Int))&&decide ((c.toNat:Int)≤122)||decide (48≤(c.toNat:Int))&&decide ((c.toNat:Int)≤57)||((c.toNat:Int) == 45)
def xc(s:Str):Bool:=match s with
 |[]=>false
 |c::t=>decide (((c::t).length:Int)≤16)&&decide (97≤(c.toNat:Int))&&decide ((c.toNat:Int)≤122)&&(c::t).all inN
theorem dlt(a b:Int):decide (a<b) = !decide (b≤a):=by rw [Bool.eq_iff_iff];simp
theorem nml{H H0:List AObj}{s:Str}(hs:s.length≤bH)(hc:db H0 H)(k:List Fra):∀ (n i:Nat) (He:List AObj),i+n=s.length →
  M.go iR H0 (.c iE :: .lp ⟨(some [0,23,24]),[],false⟩ iE He :: .blk 0 :: .c (.lv [])::k) (kv [(0,.str s),(23,.int .i64 s.length),(24,.int .i64 i)]) H =
   sel ((s.drop i).all inN) (M.go iR H0 k .leaf H) (some (.ret (.bool false),H.take H0.length))
 |0,i,He,h=>by
  have e:i=s.length:=by omega
  subst e;rw [ak M iE.eq_1];simp (maxSteps:=3000000) (maxDischargeDepth:=6) +contextual -implicitDefEqProofs only [amC M,↓amD,Nat.reduceBEq,Nat.reduceAdd,env,aj,mU,Nat.lt_irrefl,List.drop_length,List.all_nil]
 |n+1,i,He,h=>by
  have hi:i<s.length:=by omega
  have hx:s[i]?=some s[i]:=List.getElem?_eq_getElem hi;have hd:(s.drop i)=s[i]::s.drop (i+1):=List.drop_eq_getElem_cons hi;have hm:s[i]∈s:=List.getElem_mem hi;have ih:=fun He=>nml (H:=H) (H0:=H0) (s:=s) (hs:=hs) hc k n (i+1)  He (by omega)
  simp only [kv_cons,kv_nil] at ih;rw [ak M iE.eq_1];simp (maxSteps:=3000000) (maxDischargeDepth:=6) +contextual -implicitDefEqProofs only [amC M,↓amD,Nat.reduceBEq,Nat.reduceAdd,env,aj,mU,hx,hd,hi,ih,cV hi hs,List.all_cons,hc,inN]
theorem Is(hB:kY E){s:Str}(hs:s.length≤bH)(H:List AObj):M.run mS [.str s] H=some (.ret (.bool (xc s)),H):=by
 rw [bI M hB.docs_isName rfl (c:=qt) rfl,qt];have hl:=fun k He=>nml M (s:=s) hs (cut_refl H) k s.length 0 He (by omega)
 simp only [kv_cons,kv_nil,Int.ofNat_zero,List.drop_zero] at hl;cases s with
 |nil=>simp (maxSteps:=3000000) (maxDischargeDepth:=6) +contextual -implicitDefEqProofs only [amC M,↓amD,Nat.reduceBEq,Nat.reduceAdd,env,aj,mU,hl,xc,(show (([]:Str) == [])=true from rfl)]
 |cons c t=>
  simp (maxSteps:=3000000) (maxDischargeDepth:=6) +contextual -implicitDefEqProofs only [amC M,↓amD,Nat.reduceBEq,Nat.reduceAdd,env,aj,mU,hl,xc,dlt,List.getElem?_cons_zero,(show ((c::t) == ([]:Str))=false from rfl)];simp only [Bool.not_or,Bool.not_not]
end
section
attribute [local congr] aA bo aM aC aL aG aD aq au aH aI
variable{E:bb}(M:bO bU E)
def Pre(H0 G:List AObj):Prop:=H0.length≤G.length∧∀ i,i<H0.length→G[i]?=H0[i]?
theorem Pre.refl(H:List AObj):Pre H H:=⟨Nat.le_refl _,fun _ _=>rfl⟩
theorem Pre.cut{H0 G:List AObj}(h:Pre H0 G):db H0 G:=⟨h.1,fun i x hi hx=>.inl (by rw [← h.2 i hi];exact hx)⟩
theorem Pre.take{H0 G:List AObj}(h:Pre H0 G):G.take H0.length=H0:=by
 refine List.ext_getElem? fun i => ?_
 rw [List.getElem?_take];split
 ·rename_i hi;exact h.2 i hi
 ·rename_i hi;rw [List.getElem?_eq_none (by omega)]
theorem Pre.trans{A B C:List AObj}(h:Pre A B)(h':Pre B C):Pre A C:=⟨Nat.le_trans h.1 h'.1,fun i hi=>by rw [h'.2 i (Nat.lt_of_lt_of_le hi h.1),h.2 i hi]⟩
theorem Pre.app{H0 G:List AObj}(h:Pre H0 G)(L:List AObj):Pre H0 (G++L):=⟨by have:=h.1;simp;omega,fun i hi=>by
 have:=h.1;rw [List.getElem?_append_left (by omega)];exact h.2 i hi⟩
theorem Pre.set{H0 G:List AObj}(h:Pre H0 G){id:Nat}(hid:H0.length≤id)(o:AObj):Pre H0 (G.set id o):=⟨by simpa using h.1,fun i hi=>by
 rw [List.getElem?_set_ne (by omega)];exact h.2 i hi⟩
def But(b p:Nat)(G G':List AObj):Prop:=G.length≤G'.length∧∀ i,i<b→i≠p→G'[i]?=G[i]?
theorem But.refl(b p:Nat)(G:List AObj):But b p G G:=⟨Nat.le_refl _,fun _ _ _=>rfl⟩
theorem But.pre{H0 G G':List AObj}{b p:Nat}(h:But b p G G')(hp:Pre H0 G)(hb:H0.length≤b)(hq:H0.length≤p):Pre H0 G':=
 ⟨Nat.le_trans hp.1 h.1,fun i hi=>by rw [h.2 i (by omega) (by omega)];exact hp.2 i hi⟩
theorem bZ{G:List AObj}{i:Nat}{x:AObj}(h:G[i]?=some x):i<G.length:=(List.getElem?_eq_some_iff.1 h).1
theorem Jy{G:List AObj}{i:Nat}(h:i<G.length)(o:AObj)(L:List AObj):(G++L).set i o=G.set i o++L:=by rw [List.set_append_left _ _ h]
theorem MX{G:List AObj}{i:Nat}(h:i<G.length)(o:AObj):(G.set i o)[i]?=some o:=List.getElem?_set_self h
theorem MY{G:List AObj}{i:Nat}(h:i<G.length)(o:AObj)(L:List AObj):(G.set i o++L)[i]?=some o:=by
 rw [List.getElem?_append_left (by simpa using h)];exact MX h o
theorem GD{G:List AObj}{i:Nat}{o:AObj}(hw:F2 G.length o):db G (G.set i o):=by
 refine ⟨by simp,fun j x hj hx => ?_⟩;rw [List.getElem?_set] at hx;split at hx
 ·split at hx
  ·cases hx;exact .inr hw
  ·cases hx
 ·exact .inl hx
theorem MZ{G:List AObj}{i:Nat}{o:AObj}(ho:F2 G.length o)(L:List AObj):db G (G.set i o++L):=A5 (GD ho) L
theorem KY{G:List AObj}{i:Nat}(o:AObj)(L:List AObj):(G.set i o++L).take G.length=G.set i o:=by
 rw [List.take_append_of_le_length (by simp)];exact List.take_of_length_le (by simp)
theorem KZ(n:Nat)(b e:Bool)(T:TypeId):F2 n (.cells [.bool b,.bool e] T):=by
 intro c hc;simp at hc;rcases hc with rfl | rfl<;>exact wk_bool _ _
def cM(x:ae):Bool:=(x.kind == 2)&&x.car
def bJ(x:ae):Bool:=(x.kind == 3)&&x.car
def jN(b e:Bool)(x:ae):Bool := !(cM x&&b||e && !bJ x)
theorem K6(hB:kY E){G:List AObj}{c:Nat}{b e:Bool}{T:TypeId}(hc:G[c]?=some (.cells [.bool b,.bool e] T))(x:ae) :
  M.run gu [.ptr c 0,.agg x.row] G=some (.ret (.bool (jN b e x)),if jN b e x=true then G.set c (.cells [.bool (b || !cM x),.bool (e||bJ x)] T) else G):=by
 rw [bI M hB.docs_carried_takes rfl (c:=jF) rfl,jF];have hl:=bZ hc;have g1:=fun L=>bD (L:=L) hc
 have g2:=MY hl;have s1:=Jy hl;have s2:∀ (o o':AObj) (L:List AObj),(G.set c o++L).set c o'=G.set c o'++L:=fun o o' L=>by rw [Jy (by simpa using hl),List.set_set]
 have l0:∀ b e:Bool,bh none [.bool b,.bool e] 0=some (.bool b):=fun _ _=>rfl
 have l1:∀ b e:Bool,bh none [.bool b,.bool e] 1=some (.bool e):=fun _ _=>rfl
 have e1:∀ b e b':Bool,aX [.bool b,.bool e] 0 [.bool b']=[.bool b',.bool e]:=fun _ _ _=>rfl
 have e2:∀ b e b':Bool,aX [.bool b,.bool e] 1 [.bool b']=[.bool b,.bool b']:=fun _ _ _=>rfl
 have hq:((x.kind == 2)&&x.car)=cM x:=rfl;have hq2:((x.kind == 3)&&x.car)=bJ x:=rfl;have ck:∀ b e L,db G (G.set c (.cells [.bool b,.bool e] T)++L):=fun b e L=>MZ (KZ _ _ _ _) L
 have tk:=fun o L=>KY (G:=G) (i:=c) o L
 cases hcase:(cM x&&b||e && !bJ x) with
 |true=>
  rw [jN,hcase];simp (maxSteps:=3000000) (maxDischargeDepth:=6) +contextual -implicitDefEqProofs only [amC M,↓amD,Nat.reduceBEq,Nat.reduceAdd,env,aj,nf,amG,AV.cell,Nat.reduceMul,Nat.reduceLeDiff,bP,aJ,rnc,g1,g2,s1,s2,l0,l1,e1,e2,hq,hq2,hcase,ck,tk,cut_app,hp_take]
 |false=>
  rw [jN,hcase];simp (maxSteps:=3000000) (maxDischargeDepth:=6) +contextual -implicitDefEqProofs only [amC M,↓amD,Nat.reduceBEq,Nat.reduceAdd,env,aj,nf,amG,AV.cell,Nat.reduceMul,Nat.reduceLeDiff,bP,aJ,rnc,g1,g2,s1,s2,l0,l1,e1,e2,hq,hq2,hcase,ck,tk,cut_app,hp_take]
end
section
attribute [local congr] aA bo aM aC aL aG aD aq au aH aI
variable{E:bb}(M:bO bU E)
def im(l:List Str):List AV:=l.map .str
def vP(b:Nat)(G:List AObj)(v:AV)(st:List Str):Prop:=
 (st=[]∧v = .slice .nil 1 [])∨∃ (id:Nat) (junk:List AV),b≤id∧v = .rslice id 0 st.length 1 true∧G[id]?=some (.cells (im st.reverse++junk) aP)
theorem gY(l:List Str):(im l).length=l.length:=by simp [im]
theorem uj(l m:List Str):im (l++m)=im l++im m:=by simp [im]
theorem jO(s:Str):mq 1 [[.str s]]=true:=rfl
theorem Rm{b:Nat}{G:List AObj}{v:AV}{st:List Str}(h:vP b G v st)(hb:b≤G.length)(hl:st.length≤1000000)(s:Str) :
  ∃ v' G',rap true G aP 1 16 false v (.slice .full 1 [[.str s]])=some (v',G')∧vP b G' v' (s::st)∧G.length≤G'.length∧∀ i,i<b→G'[i]?=G[i]? := by
 rcases h with ⟨rfl,rfl⟩ | ⟨id,junk,hid,rfl,hg⟩
 ·refine ⟨.rslice G.length 0 1 1 true,G++[.cells [.str s] aP], ?_,.inr ⟨G.length,[],hb,rfl,by rw [aJ];rfl⟩,by simp,fun i hi=>List.getElem?_append_left (by omega)⟩
  simp only [rap,l9,kQ,or_true,if_true,jO];rw [if_pos (by simp)];rfl
 ·have hlt:=bZ hg
  have hlen:st.length*1≤(im st.reverse++junk).length:=by rw [List.length_append,gY,List.length_reverse];omega
  refine ⟨.rslice G.length 0 (st.length+1) 1 true,G.set id .dead++[.cells (im (s::st).reverse) aP], ?_,.inr ⟨G.length,[],hb,rfl, ?_⟩,by simp,fun i hi => ?_⟩
  ·simp only [rap,l9,kQ,or_true,if_true,jO,hg]
   rw [if_pos ⟨trivial,trivial,hlen,by simp;omega,by simp;omega⟩];simp only [Nat.mul_one];rw [List.take_left' (by rw [gY,List.length_reverse]),List.reverse_cons,uj];rfl
  ·rw [List.append_nil,show G.length=(G.set id .dead).length by simp,aJ];rfl
  ·rw [List.getElem?_append_left (by simp;omega),List.getElem?_set_ne (by omega)]
theorem EX{b:Nat}{G:List AObj}{v:AV}{st:List Str}(h:vP b G v st)(H:List AObj):qh H .sl v=some (.int .i64 (st.length:Int)):=by
 rcases h with ⟨rfl,rfl⟩ | ⟨id,junk,hid,rfl,hg⟩<;>rfl
theorem O5{b:Nat}{G:List AObj}{v:AV}{x:Str}{st:List Str}(h:vP b G v (x::st)) :
  (∃ p o cs,uM 1 v (.int .i64 (st.length:Int))=some (.ptr p o)∧b≤p∧G[p]?=some (.cells cs aP)∧bh none cs o=some (.str x))∧∃ v',xI 1 v none (some (.int .i64 (st.length:Int))) none=some v'∧vP b G v' st:=by
 rcases h with ⟨h,_⟩ | ⟨id,junk,hid,rfl,hg⟩
 ·cases h
 have e:im (x::st).reverse++junk=im st.reverse++(.str x::junk):=by rw [List.reverse_cons,uj,List.append_assoc];rfl
 have hl:(im st.reverse).length=st.length:=by rw [gY,List.length_reverse]
 refine ⟨⟨id,0+st.length*1,_, ?_,hid,hg, ?_⟩,.rslice id 0 st.length 1 true, ?_,.inr ⟨id,.str x::junk,hid,rfl,by rw [hg,e]⟩⟩
 ·simp only [uM]
  rw [if_pos ⟨trivial,by omega,by simp;omega⟩];simp
 ·simp only [bh,e,Nat.zero_add,Nat.mul_one]
  rw [List.getElem?_append_right (by omega),hl,Nat.sub_self];rfl
 ·have h1:dg (some (.int .i64 (st.length:Int))) (x::st).length=some st.length:=by simp [dg]
  simp only [xI,h1,(show dg none 0=some 0 from rfl)];cases st with
  |nil=>rfl
  |cons y t=>rw [if_pos (by simp)];simp
theorem vP.stay{b:Nat}{G G':List AObj}{v:AV}{st:List Str}(h:vP b G v st)(hs:∀ i,b≤i→i<G.length→G'[i]?=G[i]?):vP b G' v st:=by
 rcases h with ⟨rfl,rfl⟩ | ⟨id,junk,hid,rfl,hg⟩
 ·exact .inl ⟨rfl,rfl⟩
 ·exact .inr ⟨id,junk,hid,rfl,by rw [hs id hid (bZ hg)];exact hg⟩
theorem M0(hB:kY E){b p:Nat}{G:List AObj}{v:AV}{T:TypeId}{st:List Str}(hp:G[p]?=some (.cells [v] T))(hpb:p<b)(hb:b≤G.length)(h:vP b G v st)(hl:st.length≤1000000)(s:Str) :
  ∃ v' G',M.run gJ [.ptr p 0,.str s] G=some (.ret (.tuple []),G')∧G'[p]?=some (.cells [v'] T)∧vP b G' v' (s::st)∧But b p G G':=by
 obtain ⟨v',G1,h1,h2,h3,h4⟩:=Rm h hb hl s;have hp1:G1[p]?=some (.cells [v] T):=by rw [h4 p hpb];exact hp
 have hlt:=bZ hp1;refine ⟨v',G1.set p (.cells [v'] T), ?_,List.getElem?_set_self hlt,h2.stay fun i hi _=>by rw [List.getElem?_set_ne (by omega)],by simpa using h3,fun i hi hne=>by rw [List.getElem?_set_ne (by omega)];exact h4 i hi⟩;rw [bI M hB.docs_stack_string_push rfl (c:=gM) rfl,gM]
 have hcell:v'.cell=true:=by
  rcases h2 with ⟨h,_⟩ | ⟨id,_,_,rfl,_⟩
  ·cases h
  ·rfl
 have hac:cC v'=some [v']:=by
  rcases h2 with ⟨h,_⟩ | ⟨id,_,_,rfl,_⟩
  ·cases h
  ·rfl
 have l0:∀ x:AV,bh none [x] 0=some x:=fun _=>rfl
 have s0:∀ x y:AV,aX [x] 0 [y]=[y]:=fun _ _=>rfl
 have hst:stO 1 G1 p 0 [v'] (some (.cells [v] T))=some (G1.set p (.cells [v'] T)):=by
  simp only [stO];rw [if_pos ⟨rfl,by simp,by simp [hcell]⟩];rfl
 simp (maxSteps:=3000000) (maxDischargeDepth:=6) +contextual -implicitDefEqProofs only [amC M,↓amD,Nat.reduceBEq,Nat.reduceAdd,env,aj,qu,amG,AV.cell,Nat.reduceMul,Nat.reduceLeDiff,rnc,hp,l0,s0,h1,hp1,hac,hst,(show ∀ H,ma (some H)=some (dC,H) from fun _=>rfl)]
def xd(st:List Str)(s:Str):Bool:=match st with
 |[]=>false
 |x::_=>x == s
theorem O6(hB:kY E){b p:Nat}{G:List AObj}{v:AV}{T:TypeId}{st:List Str}(hp:G[p]?=some (.cells [v] T))(hpb:p<b)(hb:b≤G.length)(h:vP b G v st)(hl:st.length≤1000000)(s:Str) :
  ∃ v' G',M.run gW [.ptr p 0,.str s] G=some (.ret (.bool (xd st s)),G')∧G'[p]?=some (.cells [v'] T)∧vP b G' v' (if xd st s=true then st.tail else st)∧G'.length=G.length∧∀ i,i≠p→G'[i]?=G[i]? := by
 have hlt:=bZ hp;have l0:∀ x:AV,bh none [x] 0=some x:=fun _=>rfl
 have s0:∀ x y:AV,aX [x] 0 [y]=[y]:=fun _ _=>rfl
 have hlen:=EX h;cases st with
 |nil=>
  refine ⟨v,G, ?_,hp,h,rfl,fun _ _=>rfl⟩;rw [bI M hB.docs_stack_string_pop rfl (c:=cF) rfl,cF];have hlen0:∀ H,qh H .sl v=some (.int .i64 0):=hlen;simp (maxSteps:=3000000) (maxDischargeDepth:=6) +contextual -implicitDefEqProofs only [amC M,↓amD,Nat.reduceBEq,Nat.reduceAdd,env,aj,gX,rnc,hp,l0,hlen0,xd,beq_self_eq_true,cut_refl,hp_self]
 |cons x st=>
  obtain ⟨⟨q,o,cs,t1,t2,t3,t3'⟩,v',t4,t5⟩:=O5 h
  have hw:IntKind.i64.wrap ((((x::st).length:Nat):Int)-1)=(st.length:Int):=by
   simp only [List.length_cons] at hl ⊢;rw [bV (by omega) (by omega)];omega
  have h0:((((x::st).length:Nat):Int) == 0)=false:=by simp;omega
  have hw2:IntKind.i64.wrap (((st.length+1:Nat):Int)-1)=(st.length:Int):=hw;have h02:(((st.length+1:Nat):Int) == 0)=false:=h0;cases hx:x == s with
  |false=>
   refine ⟨v,G, ?_,hp,by rw [xd,hx];exact h,rfl,fun _ _=>rfl⟩;rw [bI M hB.docs_stack_string_pop rfl (c:=cF) rfl,cF];simp (maxSteps:=3000000) (maxDischargeDepth:=6) +contextual -implicitDefEqProofs only [amC M,↓amD,Nat.reduceBEq,Nat.reduceAdd,env,aj,gX,rnc,hp,l0,hlen,xd,hw,h0,hw2,h02,t1,t3,t3',hx,cut_refl,hp_self]
  |true=>
   refine ⟨v',G.set p (.cells [v'] T), ?_,List.getElem?_set_self hlt,by rw [xd,hx];exact t5.stay fun i hi _=>by rw [List.getElem?_set_ne (by omega)],by simp,fun i hne=>by rw [List.getElem?_set_ne (by omega)]⟩
   have hcell:v'.cell=true∧cC v'=some [v']∧Wk G.length v' v':=by
    rcases t5 with ⟨_,rfl⟩ | ⟨id,_,_,rfl,hg⟩
    ·exact ⟨rfl,rfl,wk_slice trivial (fI _)⟩
    ·exact ⟨rfl,rfl,wk_rslice (bZ hg)⟩
   have hwk:F2 G.length (.cells [v'] T):=by
    intro c hc;simp at hc;subst hc;exact hcell.2.2
   rw [bI M hB.docs_stack_string_pop rfl (c:=cF) rfl,cF]
   have hst:stO 1 G p 0 [v'] (some (.cells [v] T))=some (G.set p (.cells [v'] T)):=by
    simp only [stO];rw [if_pos ⟨rfl,by simp,by simp [hcell.1]⟩];rfl
   simp (maxSteps:=3000000) (maxDischargeDepth:=6) +contextual -implicitDefEqProofs only [amC M,↓amD,Nat.reduceBEq,Nat.reduceAdd,env,aj,gX,amG,AV.cell,Nat.reduceMul,Nat.reduceLeDiff,rnc,hp,l0,s0,hlen,xd,hw,h0,hw2,h02,t1,t3,t3',t4,hx,hst,(show ∀ H,ma (some H)=some (dC,H) from fun _=>rfl),hcell.2.1,GD hwk];rw [List.take_of_length_le (by simp)]
end
section
attribute [local congr] aA bo aM aC aL aG aD aq au aH aI
variable{E:bb}(M:bO bU E)
def GE(x:ae):Bool:=decide (x.kind<1)||decide (5<x.kind)
def EY(x:ae):Bool:=x.car && !(x.kind == 2) && !(x.kind == 3)
def K7(p:Bool)(x:ae):Bool:=(x.kind == 1)&&((x.text == []) || !jM x.text||p)
def EZ(x:ae):Bool := !(x.kind == 1) && !xc x.text
def stP(x:ae)(st:List Str):List Str:=if (x.kind == 3)=true then st.tail else st
def BL:List ae→Bool→Bool→Bool→List Str→Int
 |[],_,_,_,st=>sel (decide ((0:Int)<(st.length:Int))) 9 0
 |x :: l,p,b,e,st=>sel (GE x) 1 (sel (EY x) 1 (sel (K7 p x) 4 (sel (EZ x) 5 (sel (jN b e x) (sel ((x.kind == 3) && !xd st x.text) 9
    (sel (x.kind == 2) (sel (decide ((16:Int)<((x.text::stP x st).length:Int))) 3 (BL l (x.kind == 1) (b || !cM x) (e||bJ x) (x.text::stP x st)))
     (BL l (x.kind == 1) (b || !cM x) (e||bJ x) (stP x st)))) 8))))
def dP:ae:=⟨0,[],false⟩
def GF(l:List ae)(i:Nat):Bool:=decide ((0:Int)<(i:Int))&&((l.getD (i-1) dP).kind == 1)
theorem It{l:List ae}{i:Nat}{x:ae}(h:l[i]?=some x):GF l (i+1)=(x.kind == 1):=by
 have h1:decide ((0:Int)<((i+1:Nat):Int))=true:=decide_eq_true (by omega);simp [GF,h1,List.getD,h]
theorem Iu(l:List ae):GF l 0=false:=rfl
abbrev yP(l:List ae):Prop:=∀ x∈l,x.text.length≤70368744177664
theorem ckl(hB:kY E)(hX:sR M){l:List ae}{tg:Tag}(hl:l.length≤1000000)(ht:yP l){H0:List AObj}{bd p c:Nat}(hp0:H0.length≤p)(hc0:H0.length≤c)(hpb:p<bd)(hcb:c<bd)(hpc:p≠c){k:List Fra}
  (hk:∀ (G:List AObj) (v:AV) (st:List Str),G[p]?=some (.cells [v] fp)→vP bd G v st→Pre H0 G→M.go eN H0 k (kv [(3,.ptr p 0)]) G=some (.ret (.int .u8 (sel (decide ((0:Int)<(st.length:Int))) 9 0)),H0)) :
  ∀ (n i:Nat) (G He:List AObj) (v:AV) (st:List Str) (b e:Bool),i+n=l.length→Pre H0 G→bd≤G.length→G[p]?=some (.cells [v] fp)→G[c]?=some (.cells [.bool b,.bool e] cD)→vP bd G v st→st.length≤16 →
  M.go eN H0 (.c bn :: .lp ⟨(some [0,3,4,10,11,12]),[],false⟩ bn He :: .blk 0 :: .c (.lv [3])::k) (kv [(0,.slice tg 3 (l.map ae.row)),(3,.ptr p 0),(4,.ptr c 0),(10,.slice tg 3 (l.map ae.row)),(11,.int .i64 l.length),(12,.int .i64 i)]) G =
   some (.ret (.int .u8 (BL (l.drop i) (GF l i) b e st)),H0):=by
 intro n;induction n with
 |zero=>
  intro i G He v st b e h hP hb hgp hgc hst h16;obtain rfl:i=l.length:=by omega
  rw [List.drop_length,BL];have hk1:=hk G v st hgp hst hP;simp only [kv_cons,kv_nil] at hk1;rw [ak M bn.eq_1];simp (maxSteps:=3000000) (maxDischargeDepth:=6) +contextual -implicitDefEqProofs only [amC M,↓amD,Nat.reduceBEq,Nat.reduceAdd,env,aj,bt,Nat.lt_irrefl,hk1]
 |succ n IH=>
  intro i G He v st b e h hP hb hgp hgc hst h16;have hi:i<l.length:=by omega
  have hx:l[i]?=some l[i]:=List.getElem?_eq_getElem hi;have hd:l.drop i=l[i]::l.drop (i+1):=List.drop_eq_getElem_cons hi;have htx:=ht _ (List.getElem_mem hi);have hsu:=It hx;rw [hd];generalize l[i]=x at *
  have htm:x.text.length≤bH:=by simp only [bH];omega
  have hws:=cV hi (show l.length≤bH by simp only [bH];omega);have hw1:decide ((0:Int)<(i:Int))=true→IntKind.i64.wrap ((i:Int)-1)=((i-1:Nat):Int):=fun h0=>OO (by have:=of_decide_eq_true h0;omega) (by simp only [bH];omega)
  have hi1:i-1<l.length:=by omega
  have hx1:l[i-1]?=some (l.getD (i-1) dP):=by rw [List.getD,List.getElem?_eq_getElem hi1];rfl
  have hia:∀ k:IntKind,uM 3 (.slice tg 3 (l.map ae.row)) (.int k ((i-1:Nat):Int))=some (.vptr 3 (l.map ae.row) (i-1) 0):=fun k=>a8 hi1
  have hT:=fun H=>BK M hB hX htm H
  have hN:=fun H=>Is M hB htm H
  have hct:∀ L,db H0 (G++L):=fun L=>(hP.app L).cut
  have htk:∀ L,(G++L).take H0.length=H0:=fun L=>(hP.app L).take
  have hgx:∀ T,(G++[AObj.cells x.row T])[G.length]?=some (.cells x.row T):=fun T=>by rw [aJ];rfl
  rw [BL];cases ha:GE x with
  |true=>
   have ha':(decide (x.kind<1)||decide (5<x.kind))=true:=ha;rw [ak M bn.eq_1];simp (maxSteps:=3000000) (maxDischargeDepth:=6) +contextual -implicitDefEqProofs only [amC M,↓amD,Nat.reduceBEq,Nat.reduceAdd,env,aj,bt,amG,AV.cell,Nat.reduceMul,Nat.reduceLeDiff,hi,hx,a8 hi,bP,aJ,ha',hct,htk]
  |false=>
   have ha':(decide (x.kind<1)||decide (5<x.kind))=false:=ha;simp only [sel_false];cases hc:EY x with
   |true=>
    have hc':(x.car && !(x.kind == 2) && !(x.kind == 3))=true:=hc;rw [ak M bn.eq_1];simp (maxSteps:=3000000) (maxDischargeDepth:=6) +contextual -implicitDefEqProofs only [amC M,↓amD,Nat.reduceBEq,Nat.reduceAdd,env,aj,bt,amG,AV.cell,Nat.reduceMul,Nat.reduceLeDiff,hi,hx,a8 hi,bP,aJ,ha',hc',hct,htk]
   |false=>
    have hc':(x.car && !(x.kind == 2) && !(x.kind == 3))=false:=hc;simp only [sel_false];cases hf:K7 (GF l i) x with
    |true=>
     have hf':((x.kind == 1)&&((x.text == []) || !jM x.text||(decide ((0:Int)<(i:Int))&&((l.getD (i-1) dP).kind == 1))))=true:=hf;rw [ak M bn.eq_1];simp (maxSteps:=3000000) (maxDischargeDepth:=6) +contextual -implicitDefEqProofs only [amC M,↓amD,Nat.reduceBEq,Nat.reduceAdd,env,aj,bt,amG,AV.cell,Nat.reduceMul,Nat.reduceLeDiff,hi,hx,a8 hi,bP,aJ,ha',hc',hf',hT,hw1,hia,hx1,hct,htk]
    |false=>
     have hf':((x.kind == 1)&&((x.text == []) || !jM x.text||(decide ((0:Int)<(i:Int))&&((l.getD (i-1) dP).kind == 1))))=false:=hf;simp only [sel_false];cases hn:EZ x with
     |true=>
      have hn':(!(x.kind == 1) && !xc x.text)=true:=hn;rw [ak M bn.eq_1];simp (maxSteps:=3000000) (maxDischargeDepth:=6) +contextual -implicitDefEqProofs only [amC M,↓amD,Nat.reduceBEq,Nat.reduceAdd,env,aj,bt,amG,AV.cell,Nat.reduceMul,Nat.reduceLeDiff,hi,hx,a8 hi,bP,aJ,ha',hc',hf',hT,hw1,hia,hx1,hct,htk,hn',hN]
     |false=>
      have hn':(!(x.kind == 1) && !xc x.text)=false:=hn;simp only [sel_false];have hcl:=bZ hgc;have htak:=K6 M hB (c:=c) (b:=b) (e:=e) (T:=cD) (G:=G++[.cells x.row ah]) (bD hgc) x;cases htb:jN b e x with
      |false=>
       simp only [htb,Bool.false_eq_true,if_false] at htak;rw [ak M bn.eq_1];simp (maxSteps:=3000000) (maxDischargeDepth:=6) +contextual -implicitDefEqProofs only [amC M,↓amD,Nat.reduceBEq,Nat.reduceAdd,env,aj,bt,amG,AV.cell,Nat.reduceMul,Nat.reduceLeDiff,hi,hx,a8 hi,bP,aJ,ha',hc',hf',hT,hw1,hia,hx1,hct,htk,hn',hN,htak]
      |true=>
       simp only [htb,if_true] at htak;simp only [sel_true];have hcl2:c<(G++[AObj.cells x.row ah]).length:=by simp;omega
       have hne:c≠G.length:=by omega
       have q1:((G++[AObj.cells x.row ah]).set c (.cells [.bool (b || !cM x),.bool (e||bJ x)] cD))[p]?=some (.cells [v] fp):=by
        rw [List.getElem?_set_ne (by omega)];exact bD hgp
       have q2:((G++[AObj.cells x.row ah]).set c (.cells [.bool (b || !cM x),.bool (e||bJ x)] cD))[c]?=some (.cells [.bool (b || !cM x),.bool (e||bJ x)] cD):=List.getElem?_set_self hcl2
       have q3:((G++[AObj.cells x.row ah]).set c (.cells [.bool (b || !cM x),.bool (e||bJ x)] cD))[G.length]?=some (.cells x.row ah):=by
        rw [List.getElem?_set_ne hne,aJ];rfl
       have q4:Pre H0 ((G++[AObj.cells x.row ah]).set c (.cells [.bool (b || !cM x),.bool (e||bJ x)] cD)):=(hP.app _).set hc0 _
       have q5:vP bd ((G++[AObj.cells x.row ah]).set c (.cells [.bool (b || !cM x),.bool (e||bJ x)] cD)) v st:=hst.stay fun j hj hj2=>by
        rw [List.getElem?_set_ne (by omega),List.getElem?_append_left hj2]
       have q6:bd≤((G++[AObj.cells x.row ah]).set c (.cells [.bool (b || !cM x),.bool (e||bJ x)] cD)).length:=by simp;omega
       have q7:p≠G.length:=by have:=bZ hgp;omega
       generalize (G++[AObj.cells x.row ah]).set c (.cells [.bool (b || !cM x),.bool (e||bJ x)] cD)=G2 at htak q1 q2 q3 q4 q5 q6;have hct2:=q4.cut;have htk2:=q4.take;cases h3:x.kind == 3 with
       |true=>
        have h2:(x.kind == 2)=false:=by
         have:x.kind=3:=by simpa using h3
         rw [this];rfl
        obtain ⟨v3,G3,p1,p2,p3,p4,p5⟩:=O6 M hB q1 hpb q6 q5 (by omega) x.text;cases hpo:xd st x.text with
        |false=>
         rw [hpo] at p1;have hP3:Pre H0 G3:=⟨by rw [p4];exact q4.1,fun j hj=>by rw [p5 j (by omega)];exact q4.2 j hj⟩
         have c3:=hP3.cut;have t3:=hP3.take;rw [ak M bn.eq_1];simp (maxSteps:=3000000) (maxDischargeDepth:=6) +contextual -implicitDefEqProofs only [amC M,↓amD,Nat.reduceBEq,Nat.reduceAdd,env,aj,bt,amG,AV.cell,Nat.reduceMul,Nat.reduceLeDiff,hi,hx,a8 hi,bP,aJ,ha',hc',hf',hT,hw1,hia,hx1,hct,htk,hn',hN,htak,q3,h3,p1,c3,t3]
        |true=>
         rw [hpo] at p1;simp only [hpo,if_true] at p3;have hP3:Pre H0 G3:=⟨by rw [p4];exact q4.1,fun j hj=>by rw [p5 j (by omega)];exact q4.2 j hj⟩
         have g3:G3[G.length]?=some (.cells x.row ah):=by rw [p5 _ (by omega)];exact q3
         have hstp:stP x st=st.tail:=if_pos h3;have ih:=fun He=>IH (i+1) G3 He v3 st.tail (b || !cM x) (e||bJ x) (by omega) hP3 (by omega) p2 (by rw [p5 c (by omega)];exact q2) p3 (by simp;omega)
         rw [hsu] at ih;simp only [kv_cons,kv_nil] at ih;rw [ak M bn.eq_1];simp (maxSteps:=3000000) (maxDischargeDepth:=6) +contextual -implicitDefEqProofs only [amC M,↓amD,Nat.reduceBEq,Nat.reduceAdd,env,aj,bt,amG,AV.cell,Nat.reduceMul,Nat.reduceLeDiff,hi,hx,a8 hi,bP,aJ,ha',hc',hf',hT,hw1,hia,hx1,hct,htk,hn',hN,htak,q3,h3,h2,p1,g3,hstp,hws,ih]
       |false=>
        have hstp:stP x st=st:=if_neg (by rw [h3];simp);cases h2:x.kind == 2 with
        |false=>
         have hc2:x.car=false:=by rw [h2,h3] at hc';simpa using hc'
         have ih:=fun He=>IH (i+1) G2 He v st (b || !cM x) (e||bJ x) (by omega) q4 q6 q1 q2 q5 h16
         rw [hsu] at ih;simp only [kv_cons,kv_nil] at ih;rw [ak M bn.eq_1];simp (maxSteps:=3000000) (maxDischargeDepth:=6) +contextual -implicitDefEqProofs only [amC M,↓amD,Nat.reduceBEq,Nat.reduceAdd,env,aj,bt,amG,AV.cell,Nat.reduceMul,Nat.reduceLeDiff,hi,hx,a8 hi,bP,aJ,ha',hc',hf',hT,hw1,hia,hx1,hct,htk,hn',hN,htak,q3,h3,h2,hc2,hstp,hws,ih]
        |true=>
         obtain ⟨v3,G3,p1,p2,p3,p4⟩:=M0 M hB q1 hpb q6 q5 (by omega) x.text;have hP3:Pre H0 G3:=p4.pre q4 (by omega) hp0;have c3:=hP3.cut;have t3:=hP3.take;have hlen:=EX p3;have l0:∀ x:AV,bh none [x] 0=some x:=fun _=>rfl
         have hlen2:∀ H,qh H .sl v3=some (.int .i64 ((st.length+1:Nat):Int)):=hlen;cases hgt:decide ((16:Int)<((x.text::stP x st).length:Int)) with
         |true=>
          have hgt2:decide ((16:Int)<((st.length+1:Nat):Int))=true:=by rw [← hgt,hstp];rfl
          rw [ak M bn.eq_1];simp (maxSteps:=3000000) (maxDischargeDepth:=6) +contextual -implicitDefEqProofs only [amC M,↓amD,Nat.reduceBEq,Nat.reduceAdd,env,aj,bt,amG,AV.cell,Nat.reduceMul,Nat.reduceLeDiff,hi,hx,a8 hi,bP,aJ,ha',hc',hf',hT,hw1,hia,hx1,hct,htk,hn',hN,htak,q3,h3,h2,p1,p2,l0,hlen2,hgt2,c3,t3]
         |false=>
          have hgt2:decide ((16:Int)<((st.length+1:Nat):Int))=false:=by rw [← hgt,hstp];rfl
          have hle:(x.text::st).length≤16:=by have:=of_decide_eq_false hgt2;simp only [List.length_cons];omega
          have ih:=fun He=>IH (i+1) G3 He v3 (x.text::st) (b || !cM x) (e||bJ x) (by omega) hP3 (by have:=p4.1;omega) p2 (by rw [p4.2 c hcb (by omega)];exact q2) p3 hle
          rw [hsu] at ih;simp only [kv_cons,kv_nil] at ih;rw [ak M bn.eq_1];simp (maxSteps:=3000000) (maxDischargeDepth:=6) +contextual -implicitDefEqProofs only [amC M,↓amD,Nat.reduceBEq,Nat.reduceAdd,env,aj,bt,amG,AV.cell,Nat.reduceMul,Nat.reduceLeDiff,hi,hx,a8 hi,bP,aJ,ha',hc',hf',hT,hw1,hia,hx1,hct,htk,hn',hN,htak,q3,h3,h2,p1,p2,l0,hlen2,hgt2,hstp,hws,ih]
def c9(l:List ae):Int:=sel (decide ((512:Int)<(l.length:Int))) 3 (BL l false false false [])
theorem sy(hB:kY E)(hX:sR M){l:Sl ae}(hl:l.l.length≤1000000)(ht:yP l.l)(H:List AObj) :
  M.run bX [.slice l.tag 3 (l.l.map ae.row)] H=some (.ret (.int .u8 (c9 l.l)),H):=by
 rw [bI M hB.docs_CheckPieces rfl (c:=kE) rfl,kE];cases h5:decide ((512:Int)<(l.l.length:Int)) with
 |true=>simp (maxSteps:=3000000) (maxDischargeDepth:=6) +contextual -implicitDefEqProofs only [amC M,↓amD,Nat.reduceBEq,Nat.reduceAdd,env,aj,bt,h5,c9]
 |false=>
  have hlp:=fun k hk He=>ckl M hB hX (tg:=l.tag) hl ht (H0:=H) (bd:=H.length+2) (p:=H.length) (c:=H.length+1) (Nat.le_refl _) (by omega) (by omega) (by omega) (by omega) (k:=k) hk l.l.length 0 (H++[.cells [.slice .nil 1 []] fp,.cells [.bool false,.bool false] cD]) He (.slice .nil 1 []) [] false false (by omega) ((Pre.refl H).app _) (by simp) (by rw [aJ];rfl) (by rw [hp_getk];rfl) (.inl ⟨rfl,rfl⟩) (by simp)
  simp only [kv_cons,kv_nil,Int.ofNat_zero,List.drop_zero,Iu] at hlp;have l0:∀ x:AV,bh none [x] 0=some x:=fun _=>rfl
  simp (maxSteps:=3000000) (maxDischargeDepth:=6) +contextual -implicitDefEqProofs only [amC M,↓amD,Nat.reduceBEq,Nat.reduceAdd,env,aj,bt,h5,c9];refine hlp _ (fun G v st hg hs hP => ?_) _;have hlen:=EX hs;have hct:=hP.cut;have htk:=hP.take;simp (maxSteps:=3000000) (maxDischargeDepth:=6) +contextual -implicitDefEqProofs only [amC M,↓amD,Nat.reduceBEq,Nat.reduceAdd,env,aj,bt,hg,l0,hlen,hct,htk]
end
section
attribute [local congr] aA bo aM aC aL aG aD aq au aH aI
variable{E:bb}(M:bO bU E)
def cw(x y:ae):Bool:=cM x && !cM y||bJ y && !bJ x
end
section
attribute [local congr] aA bo aM aC aL aG aD aq au aH aI
variable{E:bb}(M:bO bU E)
theorem Jz{s t:Str}(h:s.length+t.length<9223372036854775808):nk .add s t=some (.str (s++t)):=if_pos h
theorem xf{H0:List AObj}(n m:Nat)(T:TypeId)(L:List AObj):db (H0++[.tok n T]) (H0++(.tok m T::L)):=⟨by simp,fun i x hi hx=>by
 rw [List.length_append] at hi
 by_cases h:i<H0.length
 ·rw [List.getElem?_append_left h] at hx ⊢;exact .inl hx
 ·obtain rfl:i=H0.length:=by simp at hi;omega
  rw [aJ] at hx;obtain rfl:=Option.some.inj hx;exact .inr trivial⟩
theorem uk(H0:List AObj)(o:AObj)(L:List AObj):(H0++(o::L)).take (H0.length+1)=H0++[o]:=by
 rw [show H0++(o::L)=(H0++[o])++L by simp,show H0.length+1=(H0++[o]).length by simp,List.take_left]
theorem zP{α:Type}{row:α→List AV}{l:List α}{x:α}{r:List AV}{sz bytes:Nat}{e:TypeId}(H L:List AObj)(h1:r.length=sz)(h2:r.all AV.cell=true)(h3:r.map AV.strip=row x)
  (hl:(l.length+1)*bytes≤140737488355328) (hl2:l.length+1≤4611686018427387904) :
  rap false (H++(.tok (l.length*sz) e::L)) e sz bytes false (.slice (.own H.length) sz (l.map row)) (.slice .full sz [r])=some (.slice (.own H.length) sz ((l++[x]).map row),H++(.tok ((l++[x]).length*sz) e::L)):=by
 simp only [rap,qL,kQ,List.length_map,List.length_cons,List.length_nil,Nat.zero_add,or_true,if_true,hl,hl2,kC h1 h2,and_true,true_and,aJ,List.getElem?_cons_zero,hp_set0,List.set_cons_zero,List.map_cons,List.map_nil,h3,List.map_append,List.length_append,Nat.add_mul,Nat.one_mul];rw [Nat.add_mul,Nat.one_mul] at hl;rw [if_pos hl]
theorem M1(n:Nat)(l:List ae):gH n (l.map ae.row):=by
 rw [rowsWk_map];exact fun _ _=>⟨wk_int _ _ _,wk_str _ _,wk_bool _ _,trivial⟩
theorem K8(x y:ae):req (.st [(0,.int .u8),(1,.str),(2,.bool)]) (.agg x.row) (.agg y.row)=some ((x.kind == y.kind)&&(x.text == y.text)&&(x.car == y.car)):=by
 simp only [req,qK,ae.row,List.getElem?_cons_zero,List.getElem?_cons_succ,wz];cases x.kind == y.kind<;>simp
 cases x.text == y.text<;>simp
 cases x.car == y.car<;>rfl
theorem spl{H H0:List AObj}{l:List ae}{ta tb:Tag}(hl:l.length≤bH)(hc:db H0 H)(k:List Fra):∀ (n i:Nat) (He:List AObj),i+n=l.length →
  M.go cE H0 (.c cP :: .lp ⟨(some [0,1,5]),[],false⟩ cP He :: .blk 0 :: .c (.lv [])::k) (kv [(0,.slice ta 3 (l.map ae.row)),(1,.slice tb 3 (l.map ae.row)),(5,.int .i64 i)]) H =
   (M.go cE H0 k .leaf H)
 |0,i,He,h=>by
  have e:i=l.length:=by omega
  subst e;rw [ak M cP.eq_1];simp (maxSteps:=3000000) (maxDischargeDepth:=6) +contextual -implicitDefEqProofs only [amC M,↓amD,Nat.reduceBEq,Nat.reduceAdd,env,aj,fM,Nat.lt_irrefl,List.drop_length]
 |n+1,i,He,h=>by
  have hi:i<l.length:=by omega
  have hx:l[i]?=some l[i]:=List.getElem?_eq_getElem hi;have hd:(l.drop i)=l[i]::l.drop (i+1):=List.drop_eq_getElem_cons hi;have hm:l[i]∈l:=List.getElem_mem hi;have ih:=fun He=>spl (H:=H) (H0:=H0) (l:=l) (ta:=ta) (tb:=tb) (hl:=hl) hc k n (i+1)  He (by omega)
  simp only [kv_cons,kv_nil] at ih;rw [ak M cP.eq_1];simp (maxSteps:=3000000) (maxDischargeDepth:=6) +contextual -implicitDefEqProofs only [amC M,↓amD,Nat.reduceBEq,Nat.reduceAdd,env,aj,fM,hx,hd,hi,ih,cV hi hl,a8 hi,bP,K8,beq_self_eq_true]
theorem BM(hB:kY E){l:List ae}{ta tb:Tag}(hl:l.length≤bH)(H:List AObj):M.run bW [.slice ta 3 (l.map ae.row),.slice tb 3 (l.map ae.row)] H=some (.ret (.bool true),H):=by
 rw [bI M hB.truchmanref01_SamePieces rfl (c:=fL) rfl,fL];have h1:=fun k He=>spl M (ta:=ta) (tb:=tb) hl (cut_refl H) k l.length 0 He (by omega)
 simp only [kv_cons,kv_nil,Int.ofNat_zero] at h1;simp (maxSteps:=3000000) (maxDischargeDepth:=6) +contextual -implicitDefEqProofs only [amC M,↓amD,Nat.reduceBEq,Nat.reduceAdd,env,aj,fM,beq_self_eq_true,h1]
end
structure Un where
 r:Int
 hole:Bool
def Un.row(x:Un):List AV:=[.int .i32 x.r,.bool x.hole]
theorem qUn:(∀ x:Un,mg 2 (Un.row x)=some (Un.row x))∧(∀ x:Un,bh none (Un.row x) 0=some (.int .i32 x.r))∧(∀ x:Un,bh none (Un.row x) 1=some (.bool x.hole))∧(∀ x:Un,(Un.row x).length=2)∧(∀ x:Un,(Un.row x).all AV.cell=true)∧(∀ x:Un,∀ c0 c1:AV,aX [c0,c1] 0 (Un.row x)=Un.row x)∧(∀ x:Un,∀ y:Un,aX (Un.row y) 0 (Un.row x)=Un.row x)∧(∀ x:Un,∀ (y:Int),aX (Un.row x) 0 [.int .i32 y]=Un.row { x with r:=y })∧(∀ x:Un,∀ (y:Bool),aX (Un.row x) 1 [.bool y]=Un.row { x with hole:=y })∧(∀ x:Un,(Un.row x).map AV.strip=Un.row x)∧(∀ x:Un,(Un.row x).take 2=Un.row x)∧(∀ x:Un,(Un.row x).drop 2=[]):=
 by refine ⟨?_, ?_, ?_, ?_, ?_, ?_, ?_, ?_, ?_, ?_, ?_, ?_⟩<;>(intros;first | rfl | (simp only [Un.row];rfl) | (simp only [Un.row,oF];rfl))
structure Un.ok (n:Nat) (x:Un):Prop where
 triv:True
theorem Un.ok.mono{n m:Nat}{x:Un}(h:x.ok n)(hn:n≤m):x.ok m:=⟨trivial⟩
theorem Un.ok.wk{n:Nat}{x:Un}(h:x.ok n):WkL n x.row x.row:=⟨wk_int _ _ _,wk_bool _ _,trivial⟩
structure Fit where
 cls:Bool
 r:Int
def Fit.row(x:Fit):List AV:=[.bool x.cls,.int .i32 x.r]
structure Fit.ok (n:Nat) (x:Fit):Prop where
 triv:True
theorem Fit.ok.mono{n m:Nat}{x:Fit}(h:x.ok n)(hn:n≤m):x.ok m:=⟨trivial⟩
theorem Fit.ok.wk{n:Nat}{x:Fit}(h:x.ok n):WkL n x.row x.row:=⟨wk_bool _ _,wk_int _ _ _,trivial⟩
section
attribute [local congr] aA bo aM aC aL aG aD aq au aH aI
variable{E:bb}(M:bO bU E)
structure jf (E:bb):Prop where
 docs_unit_letter:E.fn dL=some iz
 docs_unit_digit:E.fn el=some jk
 docs_unit_blank:E.fn fb=some jl
 docs_unit_mark:E.fn eK=some jW
 docs_unit_word:E.fn fC=some jV
 docs_items_1:E.fn en=some lM
 docs_items_2:E.fn ju=some lN
 docs_items_3:E.fn jv=some lO
 docs_items_4:E.fn jw=some lP
 docs_items_5:E.fn jx=some lQ
 docs_items_6:E.fn jy=some lR
 docs_items:E.fn oe=some lJ
 docs_compiled:E.fn ky=some dy
 docs_edge:E.fn p6=some p8
 docs_ahead:E.fn rO=some jY
 docs_behind:E.fn qo=some iS
 docs_rule_fits:E.fn my=some jX
 docs_places:E.fn mR=some fy
 docs_units:E.fn lB=some ot
 slices_AppendSeq_docs_unit_docs_unit:E.fn dh=some aK
 slices_Collect_docs_unit:E.fn ej=some eC
 truchmanref01_Plain:E.fn iV=some eI
 truchmanlaw01_strict:E.fn ir=some ew
def xg(u:Un):Bool := !u.hole&&(decide (65≤u.r)&&decide (u.r≤90)||decide (97≤u.r)&&decide (u.r≤122)||decide (127<u.r))
def BN(u:Un):Bool := !u.hole&&decide (48≤u.r)&&decide (u.r≤57)
def E1(u:Un):Bool := !u.hole&&(u.r == 32)
def M3(u:Un):Bool := !u.hole && !xg u && !BN u && !E1 u
def GG(u:Un):Bool:=u.hole||xg u||BN u
theorem um(hU:jf E)(u:Un)(H:List AObj):M.run dL [.agg u.row] H=some (.ret (.bool (xg u)),H):=by
 rw [bI M hU.docs_unit_letter rfl (c:=kF) rfl,kF];cases hh:u.hole<;>simp (maxSteps:=3000000) (maxDischargeDepth:=6) +contextual -implicitDefEqProofs only [amC M,↓amD,Nat.reduceBEq,Nat.reduceAdd,env,aj,vE,amG,AV.cell,Nat.reduceMul,Nat.reduceLeDiff,qUn,aJ,hh,xg,cut_app,hp_take]
theorem vQ(hU:jf E)(u:Un)(H:List AObj):M.run el [.agg u.row] H=some (.ret (.bool (BN u)),H):=by
 rw [bI M hU.docs_unit_digit rfl (c:=lK) rfl,lK];cases hh:u.hole<;>simp (maxSteps:=3000000) (maxDischargeDepth:=6) +contextual -implicitDefEqProofs only [amC M,↓amD,Nat.reduceBEq,Nat.reduceAdd,env,aj,wW,amG,AV.cell,Nat.reduceMul,Nat.reduceLeDiff,qUn,aJ,hh,BN,cut_app,hp_take]
theorem BO(hU:jf E)(u:Un)(H:List AObj):M.run fb [.agg u.row] H=some (.ret (.bool (E1 u)),H):=by
 rw [bI M hU.docs_unit_blank rfl (c:=lL) rfl,lL];cases hh:u.hole<;>simp (maxSteps:=3000000) (maxDischargeDepth:=6) +contextual -implicitDefEqProofs only [amC M,↓amD,Nat.reduceBEq,Nat.reduceAdd,env,aj,wX,amG,AV.cell,Nat.reduceMul,Nat.reduceLeDiff,qUn,aJ,hh,E1,cut_app,hp_take]
theorem K9(hU:jf E)(u:Un)(H:List AObj):M.run eK [.agg u.row] H=some (.ret (.bool (M3 u)),H):=by
 rw [bI M hU.docs_unit_mark rfl (c:=mC) rfl,mC];cases hh:u.hole<;>simp (maxSteps:=3000000) (maxDischargeDepth:=6) +contextual -implicitDefEqProofs only [amC M,↓amD,Nat.reduceBEq,Nat.reduceAdd,env,aj,xR,amG,AV.cell,Nat.reduceMul,Nat.reduceLeDiff,qUn,aJ,hh,M3,cut_app,hp_take,um M hU,vQ M hU,BO M hU]
theorem La(hU:jf E)(u:Un)(H:List AObj):M.run fC [.agg u.row] H=some (.ret (.bool (GG u)),H):=by
 rw [bI M hU.docs_unit_word rfl (c:=mB) rfl,mB];cases hh:u.hole<;>simp (maxSteps:=3000000) (maxDischargeDepth:=6) +contextual -implicitDefEqProofs only [amC M,↓amD,Nat.reduceBEq,Nat.reduceAdd,env,aj,xQ,amG,AV.cell,Nat.reduceMul,Nat.reduceLeDiff,qUn,aJ,hh,GG,cut_app,hp_take,um M hU,vQ M hU]
def uAt(l:List Un)(i:Nat):Bool:=match l[i]? with
 |some u=>GG u
 |none=>false
def xh(l:List Un)(n:Nat):Bool:=decide (n=0)||decide (n=l.length) || !uAt l (n-1) || !uAt l n
theorem DE(hU:jf E){l:List Un}{t:Tag}{n:Nat}(hl:l.length≤bH)(hn:n≤l.length)(H:List AObj) :
  M.run p6 [.slice t 2 (l.map Un.row),.int .i64 n] H=some (.ret (.bool (xh l n)),H):=by
 rw [bI M hU.docs_edge rfl (c:=tO) rfl,tO];cases n with
 |zero=>simp (maxSteps:=3000000) (maxDischargeDepth:=6) +contextual -implicitDefEqProofs only [amC M,↓amD,Nat.reduceBEq,Nat.reduceAdd,env,aj,tQ,xh,(show (((0:Nat):Int) == 0)=true from rfl)]
 |succ n=>
  have h0:(((n+1:Nat):Int) == 0)=false:=by simp;omega
  by_cases hL:n+1=l.length
  ·have h1:(n+1 == l.length)=true:=by simp [hL]
   rw [show xh l (n+1)=true by simp [xh,hL]];simp (maxSteps:=3000000) (maxDischargeDepth:=6) +contextual -implicitDefEqProofs only [amC M,↓amD,Nat.reduceBEq,Nat.reduceAdd,env,aj,tQ,h0,h1]
  ·have h1:(n+1 == l.length)=false:=by simp;omega
   have hl':l.length≤9223372036854775807:=Nat.le_trans hl (by decide);have hw:IntKind.i64.wrap (((n+1:Nat):Int)-1)=(n:Int):=by rw [show ((n+1:Nat):Int)-1=(n:Int) by omega];exact bV (by omega) (by omega)
   have hi0:n<l.length:=by omega
   have hi1:n+1<l.length:=by omega
   have e0:=List.getElem?_eq_getElem hi0;have e1:=List.getElem?_eq_getElem hi1;have i0:=a8 (row:=Un.row) (tag:=t) (sz:=2) (k:=.i64) hi0;have i1:=a8 (row:=Un.row) (tag:=t) (sz:=2) (k:=.i64) hi1;rw [show xh l (n+1)=(!GG l[n] || !GG l[n+1]) by simp [xh,uAt,hL,e0,e1]];simp (maxSteps:=3000000) (maxDischargeDepth:=6) +contextual -implicitDefEqProofs only [amC M,↓amD,Nat.reduceBEq,Nat.reduceAdd,env,aj,tQ,h0,h1,hw,i0,i1,e0,e1,qUn,La M hU]
end
section
attribute [local congr] aA bo aM aC aL aG aD aq au aH aI
variable{E:bb}(M:bO bU E)
def Lb(x:Fit)(u:Un):Bool:=
 sel x.cls (sel (x.r == 97) (xg u) (sel (x.r == 117) (!u.hole&&decide (65≤u.r)&&decide (u.r≤90)) (sel (x.r == 108) (!u.hole&&decide (97≤u.r)&&decide (u.r≤122)) (sel (x.r == 100) (BN u) (sel (x.r == 115) (E1 u) (sel (x.r == 112) (M3 u) (sel (x.r == 104) u.hole (sel (x.r == 37) (!u.hole&&(u.r == 37)) true)))))))) (!u.hole&&(u.r == x.r))
def zD(x:Fit):Bool:=x.cls&&(x.r == 98)
def py(l:List Un):List Fit→Nat→Bool
 |[],_=>true
 |x::xs,a=>sel (zD x) (xh l a&&py l xs a) (match l[a]? with
  |some u=>Lb x u&&py l xs (a+1)
  |none=>false)
def kZ:List Fit→Nat
 |[]=>0
 |x::xs=>(if zD x then 0 else 1)+kZ xs
end
section
attribute [local congr] aA bo aM aC aL aG aD aq au aH aI
variable{E:bb}(M:bO bU E)
def unR(r:Nat):Un:=⟨(r:Int),false⟩
def unH:Un:=⟨0,true⟩
def unP(x:ae):List Un:=sel (x.kind == 5) [unH] (sel (x.kind == 1) ((dv x.text).map unR) [])
def unL(l:List ae):List Un:=(l.map unP).flatten
theorem O7(x:ae):(unP x).length≤x.text.length+1:=by
 have:=px x.text;unfold unP;cases x.kind == 5 with
 |true=>rw [sel_true];simp
 |false=>
  rw [sel_false];cases x.kind == 1 with
  |true=>rw [sel_true];simp;omega
  |false=>rw [sel_false];simp
end
section
attribute [local congr] aA bo aM aC aL aG aD aq au aH aI
variable{E:bb}(M:bO bU E)
def DF(c:Nat):Bool:=[97,117,108,100,115,112,104,46,37,98].contains c
def zE:Nat→List Fit→List Nat→Option (List Fit)
 |0,_,_=>none
 |_+1,o,[]=>some o
 |n+1,o,r::t=>if r=37 then (match t with
  |[]=>none
  |c::t=>if DF c then zE n (o++[⟨true,(c:Int)⟩]) t else none) else zE n (o++[⟨false,(r:Int)⟩]) t
def E2(l:List Nat):Option (List Fit):=zE (l.length+1) [] l
end
section
attribute [local congr] aA bo aM aC aL aG aD aq au aH aI
variable{E:bb}(M:bO bU E)
theorem M4:∀ (n:Nat) (o:List Fit) (l:List Nat) (x:List Fit),zE n o l=some x→x.length≤o.length+l.length:=by
 intro n;induction n with
 |zero=>intro o l x h;cases h
 |succ n IH=>
  intro o l x h;rw [zE.eq_def] at h;cases l with
  |nil=>cases h;simp
  |cons r t=>
   dsimp only at h;split at h
   ·cases t with
    |nil=>cases h
    |cons c t=>
     dsimp only at h;split at h
     ·have:=IH _ _ _ h;simp at this ⊢;omega
     ·cases h
   ·have:=IH _ _ _ h;simp at this ⊢;omega
def kL(s:Str):List Fit:=(E2 (dv s)).getD []
theorem BP(s:Str):(kL s).length≤s.length:=by
 unfold kL E2;cases h:zE ((dv s).length+1) [] (dv s) with
 |none=>simp
 |some x=>have:=M4 _ _ _ _ h;have:=px s;simp at *;omega
def JA(u:List Un)(a:Nat)(r:Brk):Bool:=decide (kZ (kL r.bef)≤a)&&py u (kL r.bef) (a-kZ (kL r.bef))&&py u (kL r.aft) a
def ye(u:List Un)(a:Nat):List Brk→Bool
 |[]=>false
 |r::rs=>sel (JA u a r) r.brk (ye u a rs)
end
section
attribute [local congr] aA bo aM aC aL aG aD aq au aH aI
variable{E:bb}(M:bO bU E)
def yf(s:Str):Int:=sel ((E2 (dv s)).isSome&&jM s) (sel (decide ((32:Int)<((kL s).length:Int))) 3 0) 4
theorem M5{q j:Nat}(hj:j<2)(k:IntKind):HO 2 1 (.ptr q 0) (.int k (j:Int))=some (.ptr q j):=by
 simp only [HO];rw [if_pos (by omega)];simp
def sm:List Brk→Int
 |[]=>0
 |r::rs=>sel (yf r.bef == 0) (sel (yf r.aft == 0) (sm rs) (yf r.aft)) (yf r.bef)
def nK(l:List Brk):Int:=sel (decide ((64:Int)<(l.length:Int))) 3 (sm l)
end
section
attribute [local congr] aA bo aM aC aL aG aD aq au aH aI
variable{E:bb}(M:bO bU E)
def E3(u:List Un)(rs:List Brk):Nat→Nat→List Int
 |0,_=>[]
 |n+1,a=>sel (ye u a rs) [(a:Int)] []++E3 u rs n (a+1)
def yg(rs:List Brk)(l:List ae):List Int:=E3 (unL l) rs ((unL l).length-1) 1
theorem E4(n:Nat)(l:List Int):gH n (l.map cK):=by
 rw [rowsWk_map];exact fun _ _=>⟨wk_int _ _ _,trivial⟩
theorem Iv{l:List Brk}(h:(nK l == 0)=true):l.length≤64:=by
 have h:=eq_of_beq h;unfold nK at h;cases hb:decide ((64:Int)<(l.length:Int)) with
 |true=>rw [hb] at h;cases h
 |false=>have:=of_decide_eq_false hb;omega
end
section
attribute [local congr] aA bo aM aC aL aG aD aq au aH aI
variable{E:bb}(M:bO bU E)
end
section
attribute [local congr] aA bo aM aC aL aG aD aq au aH aI
variable{E:bb}(M:bO bU E)
theorem JB:∀ n:Int,bh none (cK n) 0=some (.int .i64 n):=fun _=>rfl
def b8:List ae→Str
 |[]=>[]
 |x::l=>sel (x.kind == 1) x.text []++b8 l
theorem rpn{H H0:List AObj}{l:List ae}{tg:Tag}(hl:l.length≤bH)(k:List Fra):∀ (n i:Nat) (w:Str) (He:List AObj),i+n=l.length→w.length+(b8 (l.drop i)).length≤1000000 →
  M.go eI H0 (.c dc :: .lp ⟨(some [0,3,4]),[],false⟩ dc He :: .blk 0 :: .c (.lv [3])::k) (kv [(0,.slice tg 3 (l.map ae.row)),(3,.str w),(4,.int .i64 i)]) H =
   M.go eI H0 k (kv [(3,.str (w++b8 (l.drop i)))]) H
 |0,i,w,He,h,hw=>by
  have e:i=l.length:=by omega
  subst e;rw [ak M dc.eq_1];simp (maxSteps:=3000000) (maxDischargeDepth:=6) +contextual -implicitDefEqProofs only [amC M,↓amD,Nat.reduceBEq,Nat.reduceAdd,env,aj,fU,Nat.lt_irrefl,List.drop_length,b8,List.append_nil]
 |n+1,i,w,He,h,hw=>by
  have hi:i<l.length:=by omega
  have hx:l[i]?=some l[i]:=List.getElem?_eq_getElem hi;have hd:(l.drop i)=l[i]::l.drop (i+1):=List.drop_eq_getElem_cons hi;have hwi:=cV (n:=l.length) hi hl;rw [hd,b8] at hw ⊢;cases h1:l[i].kind == 1 with
  |true=>
   rw [h1,sel_true,List.length_append] at hw;have ih:=fun He=>rpn (H:=H) (H0:=H0) (tg:=tg) hl k n (i+1) (w++l[i].text) He (by omega) (by rw [List.length_append];omega)
   simp only [kv_cons,kv_nil] at ih;have ha:=Jz (s:=w) (t:=l[i].text) (by omega);rw [sel_true,← List.append_assoc];rw [ak M dc.eq_1];simp (maxSteps:=3000000) (maxDischargeDepth:=6) +contextual -implicitDefEqProofs only [amC M,↓amD,Nat.reduceBEq,Nat.reduceAdd,env,aj,fU,hi,hx,h1,ih,ha,a8 hi,bP,hwi]
  |false=>
   rw [h1,sel_false,List.nil_append] at hw;have ih:=fun He=>rpn (H:=H) (H0:=H0) (tg:=tg) hl k n (i+1) w He (by omega) hw
   simp only [kv_cons,kv_nil] at ih;rw [sel_false,List.nil_append];rw [ak M dc.eq_1];simp (maxSteps:=3000000) (maxDischargeDepth:=6) +contextual -implicitDefEqProofs only [amC M,↓amD,Nat.reduceBEq,Nat.reduceAdd,env,aj,fU,hi,hx,h1,ih,a8 hi,bP,hwi]
theorem Lc(hU:jf E){l:List ae}{tg:Tag}(hl:l.length≤bH)(hp:(b8 l).length≤1000000)(H:List AObj):M.run iV [.slice tg 3 (l.map ae.row)] H=some (.ret (.str (b8 l)),H):=by
 rw [bI M hU.truchmanref01_Plain rfl (c:=iY) rfl,iY];have h1:=fun k He=>rpn M (H:=H) (H0:=H) (tg:=tg) hl k l.length 0 [] He (by omega) (by simpa using hp)
 simp only [kv_cons,kv_nil,Int.ofNat_zero,List.drop_zero,List.nil_append] at h1;simp (maxSteps:=3000000) (maxDischargeDepth:=6) +contextual -implicitDefEqProofs only [amC M,↓amD,Nat.reduceBEq,Nat.reduceAdd,env,aj,fU,h1,hp_self,cut_refl]
end
section
attribute [local congr] aA bo aM aC aL aG aD aq au aH aI
variable{E:bb}(M:bO bU E)
def xk(v:AV):List AV:=[v]
def zF(c:Nat):AV:=
 if c=97 then .fn (.func dL) [] [] else if c=117 then .fn (.func ju) [] [] else if c=108 then .fn (.func jv) [] []
 else if c=100 then .fn (.func el) [] [] else if c=115 then .fn (.func fb) [] [] else if c=112 then .fn (.func eK) [] []
 else if c=104 then .fn (.func jw) [] [] else if c=46 then .fn (.func jx) [] [] else if c=37 then .fn (.func jy) [] [] else .nilfn
def vR(x:Fit):AV:=match x.cls with
 |true=>zF x.r.toNat
 |false=>.fn (.func en) [] [.vptr 1 [[.int .i32 x.r]] 0 0]
def Itm(b:Nat)(L:List AObj)(x:Fit)(v:AV):Prop:=match x.cls with
 |true=>v=zF x.r.toNat
 |false => ∃ j T,v = .fn (.func en) [] [.ptr (b+(j+1)) 0]∧L[j]?=some (.cells [.int .i32 x.r] T)
def Iw(b:Nat)(L:List AObj)(xs:List Fit)(o:List AV):Prop:=o.length=xs.length∧∀ (i:Nat) (x:Fit) (v:AV),xs[i]?=some x→o[i]?=some v→Itm b L x v
theorem O8{b:Nat}{L:List AObj}{x:Fit}{v:AV}(h:Itm b L x v)(X:List AObj):Itm b (L++X) x v:=by
 unfold Itm at h ⊢;cases hc:x.cls with
 |true=>rw [hc] at h;exact h
 |false=>
  rw [hc] at h;obtain ⟨j,T,h1,h2⟩:=h;exact ⟨j,T,h1,bD h2⟩
theorem M6(b:Nat)(L:List AObj):Iw b L [] []:=⟨rfl,fun i x v h=>by simp at h⟩
theorem Ld{b:Nat}{L:List AObj}{xs:List Fit}{o:List AV}(h:Iw b L xs o)(X:List AObj){x:Fit}{v:AV}(hx:Itm b (L++X) x v):Iw b (L++X) (xs++[x]) (o++[v]):=by
 refine ⟨by simp [h.1],fun i y w hy hw => ?_⟩
 by_cases hi:i<xs.length
 ·rw [List.getElem?_append_left hi] at hy
  rw [List.getElem?_append_left (by rw [h.1];exact hi)] at hw;exact O8 (h.2 i y w hy hw) X
 ·have:i=xs.length:=by
   have:=(List.getElem?_eq_some_iff.1 hy).1;simp at this;omega
  subst this;rw [List.getElem?_append_right (Nat.le_refl _)] at hy;rw [List.getElem?_append_right (by rw [h.1];exact Nat.le_refl _)] at hw;simp [h.1] at hy hw;subst hy;subst hw;exact hx
theorem Rn(k n:Nat)(H:List AObj)(c:Nat):fzF (k+1) n H (zF c)=some (zF c):=by
 unfold zF
 repeat' split
 all_goals rfl
theorem O9{H0:List AObj}{T:TypeId}{m:Nat}{L:List AObj}{xs:List Fit}{o:List AV}(h:Iw H0.length L xs o) :
  fzF 5 H0.length (H0++(.tok m T::L)) (.tuple [.slice (.own H0.length) 1 (o.map xk),.bool true])=some (.tuple [.slice .any 1 (xs.map fun x=>[vR x]),.bool true]):=by
 refine oU (b9 (pX (t:=.own H0.length) (AZ (by simp [h.1]) fun i x y hx hy => ?_)) (b9 (zN _ _ _ _) (dE _)));rw [List.getElem?_map] at hx hy;cases hv:o[i]? with
 |none=>rw [hv] at hx;cases hx
 |some v=>
  cases hf:xs[i]? with
  |none=>rw [hf] at hy;cases hy
  |some f=>
   rw [hv] at hx;rw [hf] at hy;cases hx;cases hy;have hi:=h.2 i f v hf hv;unfold Itm at hi;refine b9 ?_ (dE _);unfold vR;cases hc:f.cls with
   |true=>rw [hc] at hi;rw [hi];exact Rn _ _ _ _
   |false=>
    rw [hc] at hi;obtain ⟨j,T2,h1,h2⟩:=hi;rw [h1];exact R7 (dE _) (b9 (Q3 (by omega) ((hp_getk H0 _ (j+1)).trans h2) (b9 (vw _ _ _ _ _) (dE _))) (dE _))
def BQ:Option (List Fit)→AV
 |none=>.tuple [.slice .nil 1 [],.bool false]
 |some l=>.tuple [.slice .any 1 (l.map fun x=>[vR x]),.bool true]
theorem DG(H0 L:List AObj):mb bU .deep H0 (H0++L) (.tuple [.slice .nil 1 [],.bool false])=some (.tuple [.slice .nil 1 [],.bool false],H0):=by
 rw [kB (cut_app _ _) ⟨5,oU (b9 (pX (t:=.nil) (dE _)) (b9 (zN _ _ _ _) (dE _)))⟩,hp_take];rfl
theorem Lg{H0:List AObj}:mb bU .deep H0 H0 (.tuple [.slice .nil 1 [],.bool false])=some (.tuple [.slice .nil 1 [],.bool false],H0):=by
 have:=DG H0 [];rwa [List.append_nil] at this
theorem Sc:((97:Nat):Int)=97∧((117:Nat):Int)=117∧((108:Nat):Int)=108∧((100:Nat):Int)=100∧((115:Nat):Int)=115∧((112:Nat):Int)=112∧((104:Nat):Int)=104∧((46:Nat):Int)=46∧((37:Nat):Int)=37∧((98:Nat):Int)=98:=
 ⟨rfl,rfl,rfl,rfl,rfl,rfl,rfl,rfl,rfl,rfl⟩
theorem itl{H0:List AObj}{rs:List Nat}(hrs:rs.length≤1000000){k:List Fra}
  (hk:∀ (o:List AV) (xs:List Fit) (L:List AObj),Iw H0.length L xs o→M.go lJ H0 k (kv [(4,.slice (.own H0.length) 1 (o.map xk))]) (H0++(.tok (o.length*1) cq::L))=some (.ret (BQ (some xs)),H0)) :
  ∀ (n i:Nat) (o:List AV) (xs:List Fit) (L He:List AObj),rs.length-i<n→i≤rs.length→o.length≤i→Iw H0.length L xs o →
  M.go lJ H0 (.c eW :: .lp ⟨(some [4,5,6]),[(4,1,cq)],false⟩ eW He :: .blk 0 :: .c (.lv [4])::k) (kv [(4,.slice (.own H0.length) 1 (o.map xk)),(5,.slice .any 1 (rs.map xb)),(6,.int .i64 i)]) (H0++(.tok (o.length*1) cq::L)) =
   some (.ret (BQ (zE n xs (rs.drop i))),H0):=by
 intro n;induction n with
 |zero=>intro i o xs L He h;omega
 |succ n IH=>
  intro i o xs L He h hi hol hI
  by_cases he:i=rs.length
  ·subst he
   rw [List.drop_length,zE];have h1:=hk o xs L hI;simp only [kv_cons,kv_nil] at h1;rw [ak M eW.eq_1];simp (maxSteps:=3000000) (maxDischargeDepth:=6) +contextual -implicitDefEqProofs only [amC M,↓amD,Nat.reduceBEq,Nat.reduceAdd,env,aj,gC,Nat.lt_irrefl,h1]
  ·have hlt:i<rs.length:=by omega
   have hx:rs[i]?=some rs[i]:=List.getElem?_eq_getElem hlt;have hd:(rs.drop i)=rs[i]::rs.drop (i+1):=List.drop_eq_getElem_cons hlt;have hw1:=cV (n:=rs.length) hlt (by simp only [bH];omega);have hi1:=a8 (row:=xb) (tag:=.any) (sz:=1) (k:=.i64) hlt;have ap:=fun (X:List AObj) (v:AV) (h2:v.cell=true) (h3:v.strip=v)=>zP (row:=xk) (l:=o) (x:=v) (r:=[v]) (sz:=1) (bytes:=8) (e:=cq) H0 (L++X) rfl (by simp [h2]) (by simp [h3,xk]) (by omega) (by omega)
   have ih:=fun (j:Nat) (x:Fit) (v:AV) (X He:List AObj) (h1:rs.length-j<n) (h2:j≤rs.length) (h3:o.length+1≤j) (h4:Itm H0.length (L++X) x v)=>IH j (o++[v]) (xs++[x]) (L++X) He h1 h2 (by simpa using h3) (Ld hI X h4)
   simp only [kv_cons,kv_nil] at ih;have hG:∀ (m:Nat) (X:List AObj),H0++(.tok m cq::(L++X))=(H0++(.tok m cq::L))++X:=fun m X=>by simp
   simp only [hG] at ap ih;have hcut:∀ m X,db H0 ((H0++(.tok m cq::L))++X):=fun m X=>by rw [List.append_assoc];exact cut_app _ _
   have hL:(H0++(.tok (o.length*1) cq::L)).length=H0.length+(L.length+1):=by simp
   have dn:∀ X,mb bU .deep H0 (H0++(.tok (o.length*1) cq::L)++X) (.tuple [.slice .nil 1 [],.bool false])=some (.tuple [.slice .nil 1 [],.bool false],H0):=fun X=>by rw [List.append_assoc];exact DG _ _
   generalize H0++(.tok (o.length*1) cq::L)=G at *
   rw [hd,zE.eq_def];dsimp only
   by_cases h37:rs[i]=37
   ·rw [if_pos h37]
    have e37:(((rs[i]:Nat):Int) == 37)=true:=by rw [h37];rfl
    by_cases he2:i+1=rs.length
    ·rw [List.drop_of_length_le (by omega)]
     simp only [BQ];have hq:(i+1 == rs.length)=true:=by simp [he2]
     rw [ak M eW.eq_1];simp (maxSteps:=3000000) (maxDischargeDepth:=6) +contextual -implicitDefEqProofs only [amC M,↓amD,Nat.reduceBEq,Nat.reduceAdd,env,aj,gC,amG,AV.cell,Nat.reduceMul,Nat.reduceLeDiff,hlt,hx,hw1,hi1,Jw,e37,hq,aJ,dn]
    ·have hlt2:i+1<rs.length:=by omega
     have hx2:rs[i+1]?=some rs[i+1]:=List.getElem?_eq_getElem hlt2;have hd2:(rs.drop (i+1))=rs[i+1]::rs.drop (i+2):=List.drop_eq_getElem_cons hlt2;have hi2:=a8 (row:=xb) (tag:=.any) (sz:=1) (k:=.i64) hlt2;have hw2:=cV (n:=rs.length) hlt2 (by simp only [bH];omega);have hq:(i+1 == rs.length)=false:=by simp [he2]
     have gk:∀ L:List AObj,(G++L)[G.length+1]?=L[1]? := fun L=>hp_getk G L 1
     have sk:∀ (L:List AObj) (x:AObj),(G++L).set (G.length+1) x=G++L.set 1 x:=fun L x=>hp_setk G L 1 x
     rw [hd2];dsimp only;cases hcl:DF rs[i+1] with
     |false=>
      simp only [Bool.false_eq_true,if_false,BQ]
      have hn:∀ m:Nat,m∈[97,117,108,100,115,112,104,46,37,98]→((rs[i+1]:Int) == (m:Int))=false:=fun m hm=>by
       simp only [beq_eq_false_iff_ne];intro e;have e2:rs[i+1]=m:=by exact_mod_cast e
       rw [e2] at hcl;simp [DF] at hcl hm;omega
      have n1:=hn 97 (by simp);have n2:=hn 117 (by simp);have n3:=hn 108 (by simp);have n4:=hn 100 (by simp);have n5:=hn 115 (by simp);have n6:=hn 112 (by simp);have n7:=hn 104 (by simp);have n8:=hn 46 (by simp);have n9:=hn 37 (by simp);have n0:=hn 98 (by simp);rw [show ((97:Nat):Int)=97 from rfl] at n1;rw [show ((117:Nat):Int)=117 from rfl] at n2;rw [show ((108:Nat):Int)=108 from rfl] at n3;rw [show ((100:Nat):Int)=100 from rfl] at n4;rw [show ((115:Nat):Int)=115 from rfl] at n5
      rw [show ((112:Nat):Int)=112 from rfl] at n6;rw [show ((104:Nat):Int)=104 from rfl] at n7;rw [show ((46:Nat):Int)=46 from rfl] at n8;rw [show ((37:Nat):Int)=37 from rfl] at n9;rw [show ((98:Nat):Int)=98 from rfl] at n0;rw [ak M eW.eq_1];simp (maxSteps:=3000000) (maxDischargeDepth:=6) +contextual -implicitDefEqProofs only [amC M,↓amD,Nat.reduceBEq,Nat.reduceAdd,env,aj,gC,amG,AV.cell,Nat.reduceMul,Nat.reduceLeDiff,hlt,hx,hx2,hw1,hi1,hi2,Jw,e37,hq,gk,sk,n1,n2,n3,n4,n5,n6,n7,n8,n9,n0,List.getElem?_cons_succ,List.set_cons_succ,aJ,dn]
     |true=>
      rw [if_pos rfl];have hcs:rs[i+1]=97∨rs[i+1]=117∨rs[i+1]=108∨rs[i+1]=100∨rs[i+1]=115∨rs[i+1]=112∨rs[i+1]=104∨rs[i+1]=46∨rs[i+1]=37∨rs[i+1]=98:=by simpa [DF] using hcl
      have ap1:=fun X=>ap X (zF rs[i+1]) (by unfold zF;(repeat' split)<;>rfl) (by unfold zF;(repeat' split)<;>rfl)
      have ih1:=fun X He=>ih (i+1+1) ⟨true,(rs[i+1]:Int)⟩ (zF rs[i+1]) X He (by omega) (by omega) (by omega) rfl
      rw [ak M eW.eq_1];rcases hcs with e | e | e | e | e | e | e | e | e | e
      all_goals
       rw [e] at hx2 ap1 ih1 ⊢;simp only [zF,if_true,Nat.reduceEqDiff,if_false] at ap1 ih1;simp only [List.append_assoc,List.cons_append] at ih1;simp (maxSteps:=3000000) (maxDischargeDepth:=6) +contextual -implicitDefEqProofs only [amC M,↓amD,Nat.reduceBEq,Nat.reduceAdd,env,aj,gC,amG,AV.cell,Nat.reduceMul,Nat.reduceLeDiff,hlt,hx,hx2,hw1,hw2,hi1,hi2,Jw,e37,hq,gk,sk,ap1,ih1,List.getElem?_cons_succ,List.set_cons_succ,aJ,Sc,Int.reduceBEq,(show AV.nilfn.strip = .nilfn from rfl)]
   ·rw [if_neg h37]
    have e37:(((rs[i]:Nat):Int) == 37)=false:=by simp only [beq_eq_false_iff_ne];intro e;exact h37 (by exact_mod_cast e)
    have ap1:=fun X=>ap X (.fn (.func en) [] [.ptr G.length 0]) rfl rfl
    have ih1:=fun He=>ih (i+1) ⟨false,(rs[i]:Int)⟩ (.fn (.func en) [] [.ptr G.length 0]) [.cells [.int .i32 (rs[i]:Int)] zO] He (by omega) (by omega) (by omega) ⟨L.length,zO,by rw [hL],by simp⟩
    rw [ak M eW.eq_1];simp only [List.append_assoc,List.cons_append] at ih1;simp (maxSteps:=3000000) (maxDischargeDepth:=6) +contextual -implicitDefEqProofs only [amC M,↓amD,Nat.reduceBEq,Nat.reduceAdd,env,aj,gC,amG,AV.cell,Nat.reduceMul,Nat.reduceLeDiff,hlt,hx,hw1,hi1,Jw,e37,ap1,ih1,aJ]
theorem Lh(hB:kY E)(hX:sR M)(hU:jf E){s:Str}(hs:s.length≤1000000)(H:List AObj):M.run oe [.str s] H=some (.ret (sel (jM s) (BQ (E2 (dv s))) (BQ none)),H):=by
 rw [bI M hU.docs_items rfl (c:=rW) rfl,rW];have hT:=fun H=>BK M hB hX (s:=s) (by simp only [bH];omega) H
 have hrl:=px s;have hh:=fun (o:List AV) (xs:List Fit) (L:List AObj) (h:Iw H.length L xs o)=>kB (cut_app H (.tok (o.length*1) cq::L)) ⟨5,O9 h⟩
 have h1:=fun k hk He=>itl M (H0:=H) (rs:=dv s) (by omega) (k:=k) hk ((dv s).length+1) 0 [] [] [] He (by omega) (by omega) (by simp) (M6 _ _)
 simp only [kv_cons,kv_nil,Int.ofNat_zero,List.drop_zero,List.length_nil,Nat.zero_mul,List.map_nil] at h1;have h2:=O4 (s:=s) (by omega);cases ht:jM s with
 |false=>simp (maxSteps:=3000000) (maxDischargeDepth:=6) +contextual -implicitDefEqProofs only [amC M,↓amD,Nat.reduceBEq,Nat.reduceAdd,env,aj,gC,hT,ht,Lg,BQ]
 |true=>
 rw [sel_true,E2];simp (maxSteps:=3000000) (maxDischargeDepth:=6) +contextual -implicitDefEqProofs only [amC M,↓amD,Nat.reduceBEq,Nat.reduceAdd,env,aj,gC,hT,ht,h2];refine h1 _ (fun o xs L hI => ?_) _;have hh1:=hh o xs L hI;simp only [hp_take] at hh1;simp (maxSteps:=3000000) (maxDischargeDepth:=6) +contextual -implicitDefEqProofs only [amC M,↓amD,Nat.reduceBEq,Nat.reduceAdd,env,aj,gC,hh1];rfl
end
section
attribute [local congr] aA bo aM aC aL aG aD aq au aH aI
variable{E:bb}(M:bO bU E)
def da(x:Fit):List AV:=[vR x]
theorem M7(x:Fit):(vR x).cell=true:=by
 unfold vR;cases x.cls with
 |false=>rfl
 |true=>
  dsimp only;unfold zF
  repeat' split
  all_goals rfl
theorem Li:(∀ x:Fit,mg 1 (da x)=some (da x))∧(∀ x:Fit,bh none (da x) 0=some (vR x))∧(∀ x:Fit,(da x).length=1)∧(∀ x:Fit,(da x).all AV.cell=true)∧(∀ (x:Fit) (c:AV),aX [c] 0 (da x)=da x):=
 ⟨fun _=>rfl,fun _=>rfl,fun _=>rfl,fun x=>by simp [da,M7],fun _ _=>rfl⟩
theorem Pa(hU:jf E)(r:Int)(u:Un)(H:List AObj):M.run en [.agg u.row,.vptr 1 [[.int .i32 r]] 0 0] H=some (.ret (.bool (!u.hole&&(u.r == r))),H):=by
 rw [bI M hU.docs_items_1 rfl (c:=pd) rfl,pd];cases hh:u.hole<;>simp (maxSteps:=3000000) (maxDischargeDepth:=6) +contextual -implicitDefEqProofs only [amC M,↓amD,Nat.reduceBEq,Nat.reduceAdd,env,aj,Bh,amG,AV.cell,Nat.reduceMul,Nat.reduceLeDiff,qUn,aJ,hh,List.getElem?_cons_zero,rowO_some,(show ∀ v:AV,bh none [v] 0=some v from fun _=>rfl),cut_app,hp_take]
theorem Pb(hU:jf E)(u:Un)(H:List AObj):M.run ju [.agg u.row] H=some (.ret (.bool (!u.hole&&decide (65≤u.r)&&decide (u.r≤90))),H):=by
 rw [bI M hU.docs_items_2 rfl (c:=pg) rfl,pg];cases hh:u.hole<;>simp (maxSteps:=3000000) (maxDischargeDepth:=6) +contextual -implicitDefEqProofs only [amC M,↓amD,Nat.reduceBEq,Nat.reduceAdd,env,aj,Bi,amG,AV.cell,Nat.reduceMul,Nat.reduceLeDiff,qUn,aJ,hh,cut_app,hp_take]
theorem Pc(hU:jf E)(u:Un)(H:List AObj):M.run jv [.agg u.row] H=some (.ret (.bool (!u.hole&&decide (97≤u.r)&&decide (u.r≤122))),H):=by
 rw [bI M hU.docs_items_3 rfl (c:=ph) rfl,ph];cases hh:u.hole<;>simp (maxSteps:=3000000) (maxDischargeDepth:=6) +contextual -implicitDefEqProofs only [amC M,↓amD,Nat.reduceBEq,Nat.reduceAdd,env,aj,Bj,amG,AV.cell,Nat.reduceMul,Nat.reduceLeDiff,qUn,aJ,hh,cut_app,hp_take]
theorem Pd(hU:jf E)(u:Un)(H:List AObj):M.run jw [.agg u.row] H=some (.ret (.bool u.hole),H):=by
 rw [bI M hU.docs_items_4 rfl (c:=pj) rfl,pj];simp (maxSteps:=3000000) (maxDischargeDepth:=6) +contextual -implicitDefEqProofs only [amC M,↓amD,Nat.reduceBEq,Nat.reduceAdd,env,aj,Bk,amG,AV.cell,Nat.reduceMul,Nat.reduceLeDiff,qUn,aJ,cut_app,hp_take]
theorem Pe(hU:jf E)(u:Un)(H:List AObj):M.run jx [.agg u.row] H=some (.ret (.bool true),H):=by
 rw [bI M hU.docs_items_5 rfl (c:=pn) rfl,pn];simp (maxSteps:=3000000) (maxDischargeDepth:=6) +contextual -implicitDefEqProofs only [amC M,↓amD,Nat.reduceBEq,Nat.reduceAdd,env,aj,Bl,amG,AV.cell,Nat.reduceMul,Nat.reduceLeDiff,qUn,aJ,cut_app,hp_take]
theorem Pg(hU:jf E)(u:Un)(H:List AObj):M.run jy [.agg u.row] H=some (.ret (.bool (!u.hole&&(u.r == 37))),H):=by
 rw [bI M hU.docs_items_6 rfl (c:=po) rfl,po];cases hh:u.hole<;>simp (maxSteps:=3000000) (maxDischargeDepth:=6) +contextual -implicitDefEqProofs only [amC M,↓amD,Nat.reduceBEq,Nat.reduceAdd,env,aj,Bm,amG,AV.cell,Nat.reduceMul,Nat.reduceLeDiff,qUn,aJ,hh,cut_app,hp_take]
theorem qfn:(req .fn .nilfn .nilfn=some true)∧(∀ f a b,req .fn (.fn f a b) .nilfn=some false)∧(∀ f a b,req .fn .nilfn (.fn f a b)=some false):=⟨rfl,fun _ _ _=>rfl,fun _ _ _=>rfl⟩
def yQ(x:Fit):Prop:=x.cls=true→∃ c:Nat,DF c=true∧x.r=(c:Int)
theorem GH{x:Fit}(h:zD x=true):vR x = .nilfn:=by
 simp only [zD,Bool.and_eq_true,beq_iff_eq] at h;unfold vR;rw [h.1,h.2];rfl
theorem GI(hU:jf E){x:Fit}(hx:yQ x)(h:zD x=false):∃ f cap,vR x = .fn (.func f) [] cap∧∀ (u:Un) (H:List AObj),M.run f (.agg u.row::cap) H=some (.ret (.bool (Lb x u)),H):=by
 cases hc:x.cls with
 |false=>
  refine ⟨en,[.vptr 1 [[.int .i32 x.r]] 0 0],by unfold vR;rw [hc],fun u H => ?_⟩;rw [Pa M hU x.r u H,Lb,hc,sel_false]
 |true=>
  obtain ⟨c,h1,h2⟩:=hx hc;have hcs:c=97∨c=117∨c=108∨c=100∨c=115∨c=112∨c=104∨c=46∨c=37∨c=98:=by simpa [DF] using h1
  unfold vR Lb;rw [hc,h2];rcases hcs with rfl | rfl | rfl | rfl | rfl | rfl | rfl | rfl | rfl | rfl
  ·exact ⟨_,[],rfl,fun u H=>um M hU u H⟩
  ·exact ⟨_,[],rfl,fun u H=>Pb M hU u H⟩
  ·exact ⟨_,[],rfl,fun u H=>Pc M hU u H⟩
  ·exact ⟨_,[],rfl,fun u H=>vQ M hU u H⟩
  ·exact ⟨_,[],rfl,fun u H=>BO M hU u H⟩
  ·exact ⟨_,[],rfl,fun u H=>K9 M hU u H⟩
  ·exact ⟨_,[],rfl,fun u H=>Pd M hU u H⟩
  ·exact ⟨_,[],rfl,fun u H=>Pe M hU u H⟩
  ·exact ⟨_,[],rfl,fun u H=>Pg M hU u H⟩
  ·simp [zD,hc,h2] at h
theorem Ph:∀ (n:Nat) (o:List Fit) (l:List Nat) (x:List Fit),(∀ y∈o,yQ y)→zE n o l=some x→∀ y∈x,yQ y:=by
 intro n;induction n with
 |zero=>intro o l x _ h;cases h
 |succ n IH=>
  intro o l x ho h;rw [zE.eq_def] at h;cases l with
  |nil=>cases h;exact ho
  |cons r t=>
   dsimp only at h;split at h
   ·cases t with
    |nil=>cases h
    |cons c t=>
     dsimp only at h;split at h
     ·rename_i hcl
      refine IH _ _ _ (fun y hy => ?_) h;rcases List.mem_append.1 hy with hy | hy
      ·exact ho y hy
      ·rw [List.mem_singleton] at hy;subst hy;exact fun _=>⟨c,hcl,rfl⟩
     ·cases h
   ·refine IH _ _ _ (fun y hy => ?_) h
    rcases List.mem_append.1 hy with hy | hy
    ·exact ho y hy
    ·rw [List.mem_singleton] at hy;subst hy;exact fun e=>by cases e
theorem JC(s:Str):∀ y∈kL s,yQ y:=by
 unfold kL E2;cases h:zE ((dv s).length+1) [] (dv s) with
 |none=>intro y hy;cases hy
 |some x=>exact Ph _ _ _ _ (fun y hy=>by cases hy) h
theorem dbh{H H0:List AObj}(hU:jf E){l:List Un}{xs:List Fit}{t tx:Tag}(hl:l.length≤bH)(hx0:xs.length≤bH)(hxo:∀ x∈xs,yQ x)(ht:∀ n,Wk n (.slice t 2 (l.map Un.row)) (.slice t 2 (l.map Un.row)))(htx:∀ n,Wk n (.slice tx 1 (xs.map da)) (.slice tx 1 (xs.map da)))(hc:db H0 H)(k:List Fra):∀ (n i:Nat) (a:Nat) (ha:a≤l.length),i+n=xs.length →
  M.go iS H0 (.c fm :: .lp ⟨(some [1,2,9,10,11]),[],true⟩ fm H :: .blk 0 :: .c (.lv [])::k) (kv [(1,.slice t 2 (l.map Un.row)),(2,.int .i64 a),(9,.slice tx 1 (xs.map da)),(10,.int .i64 xs.length),(11,.int .i64 i)]) H =
   sel (py l (xs.drop i) a) (M.go iS H0 k .leaf H) (some (.ret (.bool false),H.take H0.length))
 |0,i,a,ha,h=>by
  have e:i=xs.length:=by omega
  subst e;rw [ak M fm.eq_1];simp (maxSteps:=3000000) (maxDischargeDepth:=6) +contextual -implicitDefEqProofs only [amC M,↓amD,Nat.reduceBEq,Nat.reduceAdd,env,aj,ku,Nat.lt_irrefl,List.drop_length,py]
 |n+1,i,a,ha,h=>by
  have hi:i<xs.length:=by omega
  have hx:xs[i]?=some xs[i]:=List.getElem?_eq_getElem hi;have hd:(xs.drop i)=xs[i]::xs.drop (i+1):=List.drop_eq_getElem_cons hi;have hm:xs[i]∈xs:=List.getElem_mem hi;have ih:=fun a ha=>dbh (H:=H) (H0:=H0) (hU:=hU) (l:=l) (xs:=xs) (t:=t) (tx:=tx) (hl:=hl) (hx0:=hx0) (hxo:=hxo) (ht:=ht) (htx:=htx) hc k n (i+1) a ha (by omega)
  simp only [kv_cons,kv_nil] at ih;have hwi:=cV (n:=xs.length) hi hx0;have hir:=a8 (row:=da) (tag:=tx) (sz:=1) (k:=.i64) hi;have hedge:=fun H=>DE M hU (t:=t) hl ha H
  have hce:=fun L=>A5 hc L
  have hte:=fun L=>Du hc L
  have ht1:=ht H.length;have ht2:=htx H.length;cases hb:zD xs[i] with
  |true=>
   have hq:=GH hb;rw [ak M fm.eq_1];simp (maxSteps:=3000000) (maxDischargeDepth:=6) +contextual -implicitDefEqProofs only [amC M,↓amD,Nat.reduceBEq,Nat.reduceAdd,env,aj,ku,amG,AV.cell,Nat.reduceMul,Nat.reduceLeDiff,hi,ih a ha,hx,hd,py,hb,hc,hwi,hir,Li,qfn,Option.map_some,hq,hedge,aJ,ht1,ht2,hce,hte,cut_app,hp_take]
  |false=>
   obtain ⟨f,cap,hq,hf⟩:=GI M hU (hxo _ hm) hb
   by_cases hlt:a<l.length
   ·have hla:l[a]?=some l[a]:=List.getElem?_eq_getElem hlt
    have hge:(a == l.length)=false:=by simp;omega
    have hwa:=cV (n:=l.length) hlt hl;have hia:=a8 (row:=Un.row) (tag:=t) (sz:=2) (k:=.i64) hlt;rw [ak M fm.eq_1];simp (maxSteps:=3000000) (maxDischargeDepth:=6) +contextual -implicitDefEqProofs only [amC M,↓amD,Nat.reduceBEq,Nat.reduceAdd,env,aj,ku,amG,AV.cell,Nat.reduceMul,Nat.reduceLeDiff,hi,ih (a+1) hlt,hx,hd,py,hb,hc,hwi,hir,Li,qfn,Option.map_some,hq,hf,hla,hge,hwa,hia,qUn,aJ,ht1,ht2,hce,hte,cut_app,hp_take]
   ·have hla:l[a]?=none:=List.getElem?_eq_none (by omega)
    have hge:(a == l.length)=true:=by simp;omega
    rw [ak M fm.eq_1];simp (maxSteps:=3000000) (maxDischargeDepth:=6) +contextual -implicitDefEqProofs only [amC M,↓amD,Nat.reduceBEq,Nat.reduceAdd,env,aj,ku,amG,AV.cell,Nat.reduceMul,Nat.reduceLeDiff,hi,hx,hd,py,hb,hc,hwi,hir,Li,qfn,Option.map_some,hq,hf,hla,hge,qUn,aJ,ht1,ht2,hce,hte,cut_app,hp_take]
theorem GJ(hU:jf E){l:List Un}{xs:List Fit}{t tx:Tag}(hl:l.length≤bH)(hx0:xs.length≤bH)(hxo:∀ x∈xs,yQ x)(ht:∀ n,Wk n (.slice t 2 (l.map Un.row)) (.slice t 2 (l.map Un.row)))(htx:∀ n,Wk n (.slice tx 1 (xs.map da)) (.slice tx 1 (xs.map da))){a:Nat}(ha:a≤l.length)(H:List AObj) :
  M.run qo [.slice tx 1 (xs.map da),.slice t 2 (l.map Un.row),.int .i64 a] H=some (.ret (.bool (py l xs a)),H):=by
 rw [bI M hU.docs_behind rfl (c:=qv) rfl,qv];have h1:=fun k=>dbh M hU (t:=t) (tx:=tx) hl hx0 hxo ht htx (cut_refl H) k xs.length 0 a ha (by omega)
 simp only [kv_cons,kv_nil,Int.ofNat_zero,List.drop_zero] at h1;simp (maxSteps:=3000000) (maxDischargeDepth:=6) +contextual -implicitDefEqProofs only [amC M,↓amD,Nat.reduceBEq,Nat.reduceAdd,env,aj,ku,h1,List.length_map]
def u5(l:List Un):List Fit→Nat→Bool
 |[],_=>true
 |x::xs,a=>sel (zD x) (xh l a&&u5 l xs a) (match a with
  |0=>false
  |a+1=>(match l[a]? with
   |some u=>Lb x u&&u5 l xs a
   |none=>false))
theorem dah(hU:jf E){l:List Un}{xs:List Fit}{t tx:Tag}(hl:l.length≤bH)(hx0:xs.length≤bH)(hxo:∀ x∈xs,yQ x){H H0:List AObj}(hc:db H0 H)(k:List Fra):∀ (n a:Nat) (He:List AObj),n≤xs.length→a≤l.length →
  M.go jY H0 (.c fP :: .lp ⟨(some [0,1,2,7]),[],false⟩ fP He :: .blk 0 :: .c (.lv [])::k) (kv [(0,.slice tx 1 (xs.map da)),(1,.slice t 2 (l.map Un.row)),(2,.int .i64 a),(7,.int .i64 ((n:Int)-1))]) H =
   sel (u5 l (xs.take n).reverse a) (M.go jY H0 k .leaf H) (some (.ret (.bool false),H.take H0.length))
 |0,a,He,hn,ha=>by
  have h0:decide ((0:Int)≤((0:Nat):Int)-1)=false:=rfl;rw [ak M fP.eq_1];simp (maxSteps:=3000000) (maxDischargeDepth:=6) +contextual -implicitDefEqProofs only [amC M,↓amD,Nat.reduceBEq,Nat.reduceAdd,env,aj,lS,h0,List.take_zero,List.reverse_nil,u5]
 |n+1,a,He,hn,ha=>by
  have hi:n<xs.length:=by omega
  have hm:xs[n]∈xs:=List.getElem_mem hi;have hx:xs[n]?=some xs[n]:=List.getElem?_eq_getElem hi;have hx0':xs.length≤9223372036854775807:=Nat.le_trans hx0 (by decide);have hl':l.length≤9223372036854775807:=Nat.le_trans hl (by decide);have hd:(xs.take (n+1)).reverse=xs[n]::(xs.take n).reverse:=by rw [List.take_add_one,hx];simp
  have e1:((n+1:Nat):Int)-1=(n:Int):=by omega
  have h0:decide ((0:Int)≤(n:Int))=true:=decide_eq_true (by omega);have hw1:IntKind.i64.wrap ((n:Int)-1)=(n:Int)-1:=bV (by omega) (by omega);have hir:=a8 (row:=da) (tag:=tx) (sz:=1) (k:=.i64) hi;have hedge:=fun H=>DE M hU (t:=t) hl ha H
  have ih:=fun a ha He=>dah hU (t:=t) (tx:=tx) hl hx0 hxo hc k n a He (by omega) ha
  simp only [kv_cons,kv_nil] at ih;rw [e1,hd];cases hb:zD xs[n] with
  |true=>
   have hq:=GH hb;rw [ak M fP.eq_1];simp (maxSteps:=3000000) (maxDischargeDepth:=6) +contextual -implicitDefEqProofs only [amC M,↓amD,Nat.reduceBEq,Nat.reduceAdd,env,aj,lS,amG,AV.cell,Nat.reduceMul,Nat.reduceLeDiff,h0,ih a ha,hx,u5,hb,hc,hw1,hir,Li,qfn,Option.map_some,hq,hedge]
  |false=>
   obtain ⟨f,cap,hq,hf⟩:=GI M hU (hxo _ hm) hb;cases a with
   |zero=>
    have hge:(((0:Nat):Int) == 0)=true:=rfl;rw [ak M fP.eq_1];simp (maxSteps:=3000000) (maxDischargeDepth:=6) +contextual -implicitDefEqProofs only [amC M,↓amD,Nat.reduceBEq,Nat.reduceAdd,env,aj,lS,amG,AV.cell,Nat.reduceMul,Nat.reduceLeDiff,h0,hx,u5,hb,hc,hw1,hir,Li,qfn,Option.map_some,hq,hge]
   |succ a=>
    have hlt:a<l.length:=by omega
    have hla:l[a]?=some l[a]:=List.getElem?_eq_getElem hlt;have hge:(((a+1:Nat):Int) == 0)=false:=by simp;omega
    have e2:((a+1:Nat):Int)-1=(a:Int):=by omega
    have hwa:IntKind.i64.wrap (((a+1:Nat):Int)-1)=(a:Int):=by rw [e2];exact bV (by omega) (by omega)
    have hia:=a8 (row:=Un.row) (tag:=t) (sz:=2) (k:=.i64) hlt;rw [ak M fP.eq_1];simp (maxSteps:=3000000) (maxDischargeDepth:=6) +contextual -implicitDefEqProofs only [amC M,↓amD,Nat.reduceBEq,Nat.reduceAdd,env,aj,lS,amG,AV.cell,Nat.reduceMul,Nat.reduceLeDiff,h0,ih a (by omega),hx,u5,hb,hc,hw1,hir,Li,qfn,Option.map_some,hq,hf,hla,hge,hwa,hia,qUn]
theorem Iy(hU:jf E){l:List Un}{xs:List Fit}{t tx:Tag}(hl:l.length≤bH)(hx0:xs.length≤bH)(hxo:∀ x∈xs,yQ x){a:Nat}(ha:a≤l.length)(H:List AObj) :
  M.run rO [.slice tx 1 (xs.map da),.slice t 2 (l.map Un.row),.int .i64 a] H=some (.ret (.bool (u5 l xs.reverse a)),H):=by
 rw [bI M hU.docs_ahead rfl (c:=rZ) rfl,rZ];have hx0':xs.length≤9223372036854775807:=Nat.le_trans hx0 (by decide);have h1:=fun k He=>dah M hU (t:=t) (tx:=tx) hl hx0 hxo (cut_refl H) k xs.length a He (Nat.le_refl _) ha
 have hw1:IntKind.i64.wrap ((xs.length:Int)-1)=(xs.length:Int)-1:=bV (by omega) (by omega);simp only [kv_cons,kv_nil,List.take_length] at h1;simp (maxSteps:=3000000) (maxDischargeDepth:=6) +contextual -implicitDefEqProofs only [amC M,↓amD,Nat.reduceBEq,Nat.reduceAdd,env,aj,lS,h1,hw1,List.length_map]
theorem BR(l:List Un):∀ (xs ys:List Fit) (a:Nat),py l (xs++ys) a=(py l xs a&&py l ys (a+kZ xs))
 |[],ys,a=>by simp [py,kZ]
 |x::xs,ys,a=>by
  rw [List.cons_append,py,py,kZ];cases hb:zD x with
  |true=>simp only [sel_true,BR l xs ys a,Bool.and_assoc,if_true,Nat.zero_add]
  |false=>
   simp only [sel_false,Bool.false_eq_true,if_false];cases l[a]? with
   |none=>simp
   |some u=>
    dsimp only;rw [BR l xs ys (a+1),Bool.and_assoc,show a+1+kZ xs=a+(1+kZ xs) by omega]
theorem GK:∀ (xs ys:List Fit),kZ (xs++ys)=kZ xs+kZ ys
 |[],ys=>by simp [kZ]
 |x::xs,ys=>by rw [List.cons_append,kZ,kZ,GK xs ys];omega
theorem Lj(l:List Un)(x:Fit)(xs:List Fit)(a:Nat):u5 l (x::xs) a=sel (zD x) (xh l a&&u5 l xs a) (match a with
  |0=>false
  |a+1=>(match l[a]? with
   |some u=>Lb x u&&u5 l xs a
   |none=>false)):=by rw [u5.eq_def]
theorem zQ(l:List Un):∀ (rs:List Fit) (a:Nat),u5 l rs a=(decide (kZ rs.reverse≤a)&&py l rs.reverse (a-kZ rs.reverse))
 |[],a=>by simp [u5,py,kZ]
 |x::rs,a=>by
  rw [Lj,List.reverse_cons,BR,GK];cases hb:zD x with
  |true=>
   have w:kZ [x]=0:=by simp [kZ,hb]
   rw [w,Nat.add_zero,sel_true,zQ l rs a]
   by_cases h:kZ rs.reverse≤a
   ·rw [show a-kZ rs.reverse+kZ rs.reverse=a by omega,py,hb,sel_true]
    simp [h,py,Bool.and_comm]
   ·simp [h]
  |false=>
   have w:kZ [x]=1:=by simp [kZ,hb]
   rw [w,sel_false];cases a with
   |zero=>simp
   |succ a=>
    dsimp only
    by_cases h:kZ rs.reverse≤a
    ·rw [show a+1-(kZ rs.reverse+1)=a-kZ rs.reverse by omega,show a-kZ rs.reverse+kZ rs.reverse=a by omega,zQ l rs a,py,hb,sel_false]
     simp only [py];cases l[a]? with
     |none=>simp
     |some u=>simp [h,Bool.and_comm]
    ·have h2:¬ kZ rs.reverse+1≤a+1:=by omega
     rw [zQ l rs a];cases l[a]? <;> simp [h,h2]
def ed(r:Brk):List AV:=[.slice .any 1 ((kL r.bef).map da),.slice .any 1 ((kL r.aft).map da),.bool r.brk]
theorem Ro(n:Nat)(x:Fit):Wk n (vR x) (vR x):=by
 unfold vR;cases x.cls with
 |false=>exact wk_fn trivial ⟨wk_vptr fun r hr=>(by rw [List.mem_singleton] at hr;subst hr;exact ⟨wk_int _ _ _,trivial⟩),trivial⟩
 |true=>
  dsimp only;unfold zF
  repeat' split
  all_goals first | exact wk_nilfn n | exact wk_fn trivial trivial
theorem E5(n:Nat)(l:List Fit):gH n (l.map da):=by
 rw [rowsWk_map];exact fun x _=>⟨Ro n x,trivial⟩
theorem BS(n:Nat)(l:List Brk):gH n (l.map ed):=by
 rw [rowsWk_map];exact fun x _=>⟨wk_slice trivial (E5 n _),wk_slice trivial (E5 n _),wk_bool _ _,trivial⟩
theorem Pj:(∀ x:Brk,mg 3 (ed x)=some (ed x))∧(∀ x:Brk,bh none (ed x) 0=some (.slice .any 1 ((kL x.bef).map da)))∧(∀ x:Brk,bh none (ed x) 1=some (.slice .any 1 ((kL x.aft).map da)))∧(∀ x:Brk,bh none (ed x) 2=some (.bool x.brk))∧(∀ x:Brk,(ed x).length=3)∧(∀ x:Brk,(ed x).all AV.cell=true)∧(∀ (x:Brk) (c0 c1 c2:AV),aX [c0,c1,c2] 0 (ed x)=ed x):=
 ⟨fun _=>rfl,fun _=>rfl,fun _=>rfl,fun _=>rfl,fun _=>rfl,fun _=>rfl,fun _ _ _ _=>rfl⟩
theorem Lk(u:List Un)(a:Nat)(r:Brk):(u5 u (kL r.bef).reverse a&&py u (kL r.aft) a)=JA u a r:=by
 rw [zQ,List.reverse_reverse];rfl
theorem E6(hU:jf E){u:List Un}{t:Tag}(hl:u.length≤bH)(r:Brk)(hr1:r.bef.length≤1000000)(hr2:r.aft.length≤1000000)(ht:∀ n,Wk n (.slice t 2 (u.map Un.row)) (.slice t 2 (u.map Un.row))){a:Nat}(ha:a≤u.length)(H:List AObj) :
  M.run my [.agg (ed r),.slice t 2 (u.map Un.row),.int .i64 a] H=some (.ret (.bool (JA u a r)),H):=by
 rw [bI M hU.docs_rule_fits rfl (c:=mD) rfl,mD];have l1:=BP r.bef;have l2:=BP r.aft;have h1:=fun H=>Iy M hU (t:=t) (tx:=.any) hl (by simp only [bH];omega) (JC r.bef) ha H
 have h2:=fun H=>GJ M hU (t:=t) (tx:=.any) hl (by simp only [bH];omega) (JC r.aft) ht (fun n=>wk_slice trivial (E5 n _)) ha H
 rw [← Lk];cases hb:u5 u (kL r.bef).reverse a<;>simp (maxSteps:=3000000) (maxDischargeDepth:=6) +contextual -implicitDefEqProofs only [amC M,↓amD,Nat.reduceBEq,Nat.reduceAdd,env,aj,xS,amG,AV.cell,Nat.reduceMul,Nat.reduceLeDiff,Pj,aJ,h1,h2,hb,cut_app,hp_take]
theorem Iz(hB:kY E)(hX:sR M)(hU:jf E){s:Str}(hs:s.length≤1000000)(H:List AObj):M.run oe [.str s] H=some (.ret (sel ((E2 (dv s)).isSome&&jM s) (.tuple [.slice .any 1 ((kL s).map da),.bool true]) (.tuple [.slice .nil 1 [],.bool false])),H):=by
 rw [Lh M hB hX hU hs H,kL];cases jM s<;>cases E2 (dv s)<;>rfl
theorem GL(hB:kY E)(hX:sR M)(hU:jf E){H H0:List AObj}(hc:db H0 H){v4 v6 v15 v16 v17:AV}{q j:Nat}{cs:List AV}{a b s:Str}{T:TypeId}{tg:Tag}(hq:H[q]?=some (.cells cs T))(hcs:cs.length=2)(hcl:∀ c∈cs,c.cell=true)(hj:j<2)(hx:([a,b]:List Str)[j]?=some s)(hs:s.length≤1000000)(k:List Fra)(He:List AObj) :
  M.go dy H0 (.c cZ :: .lp ⟨(some [4,6,7,15,16,17,25,26,27]),[],false⟩ cZ He :: .blk 2 :: .c (.lv [4,6,7,15,16,17])::k) (kv [(4,v4),(6,v6),(7,.ptr q 0),(15,v15),(16,v16),(17,v17),(25,.slice tg 1 [[.str a],[.str b]]),(26,.int .i64 2),(27,.int .i64 (j:Int))]) H =
   sel (yf s == 0) ((fun H He=>M.go dy H0 (.c cZ :: .lp ⟨(some [4,6,7,15,16,17,25,26,27]),[],false⟩ cZ He :: .blk 2 :: .c (.lv [4,6,7,15,16,17])::k) (kv [(4,v4),(6,v6),(7,.ptr q 0),(15,v15),(16,v16),(17,v17),(25,.slice tg 1 [[.str a],[.str b]]),(26,.int .i64 2),(27,.int .i64 ((j+1:Nat):Int))]) H) (H.set q (.cells (cs.set j (.slice .any 1 ((kL s).map da))) T)) (H.set q (.cells (cs.set j (.slice .any 1 ((kL s).map da))) T))) (some (.ret (.tuple [.slice .any 3 [],.int .u8 (yf s)]),H.take H0.length)):=by
 have hf:=fun H=>Iz M hB hX hU hs H
 have hl:=BP s;have hlt:decide ((j:Int)<2)=true:=decide_eq_true (by omega);have hw:=cV (n:=2) hj (by simp [bH])
 have hia:uM 1 (.slice tg 1 [[.str a],[.str b]]) (.int .i64 (j:Int))=some (.vptr 1 [[.str a],[.str b]] j 0):=by
  have:=a8 (row:=Im) (l:=[a,b]) (tag:=tg) (sz:=1) (k:=.i64) (i:=j) (by simpa using hj);simpa [Im] using this
 have hld:QZ none 0 ([[.str a],[.str b]]:List (List AV))[j]?=some (.str s):=by
  rcases j with _ | _ | j
  ·cases hx;rfl
  ·cases hx;rfl
  ·omega
 have hst:aX cs j [.slice .any 1 ((kL s).map da)]=cs.set j (.slice .any 1 ((kL s).map da)):=by rw [setRow_cons,setRow_nil]
 have hso:stO 1 H q j [.slice .any 1 ((kL s).map da)] (some (.cells cs T))=some (H.set q (.cells (cs.set j (.slice .any 1 ((kL s).map da))) T)):=by rw [stO_cells (sz:=1) (old:=cs) (off:=j) rfl (by omega) rfl,hst]
 rw [ak M cZ.eq_1];cases h1:((E2 (dv s)).isSome&&jM s) with
 |false=>
  simp only [h1,sel_false] at hf;simp (maxSteps:=3000000) (maxDischargeDepth:=6) +contextual -implicitDefEqProofs only [amC M,↓amD,Nat.reduceBEq,Nat.reduceAdd,env,aj,dI,amG,AV.cell,Nat.reduceMul,Nat.reduceLeDiff,hlt,hia,hld,hf,h1,hc,yf,fI,wk_tuple]
  try rfl
 |true=>
  simp only [h1,sel_true] at hf;cases h3:decide ((32:Int)<((kL s).length:Int)) with
  |true=>
   simp (maxSteps:=3000000) (maxDischargeDepth:=6) +contextual -implicitDefEqProofs only [amC M,↓amD,Nat.reduceBEq,Nat.reduceAdd,env,aj,dI,amG,AV.cell,Nat.reduceMul,Nat.reduceLeDiff,hlt,hia,hld,hf,List.length_map,h1,h3,hc,yf,fI,wk_tuple]
   try rfl
  |false=>
   simp (maxSteps:=3000000) (maxDischargeDepth:=6) +contextual -implicitDefEqProofs only [amC M,↓amD,Nat.reduceBEq,Nat.reduceAdd,env,aj,dI,amG,AV.cell,Nat.reduceMul,Nat.reduceLeDiff,hlt,hia,hld,hf,hw,List.length_map,h1,h3,hc,yf,M5 hj,hq,hso,(show ((0:Int) == 0)=true from rfl)]
theorem Pk{H H0:List AObj}{v4 v6 v7 v15 v16 v17 v25:AV}(k:List Fra)(He:List AObj) :
  M.go dy H0 (.c cZ :: .lp ⟨(some [4,6,7,15,16,17,25,26,27]),[],false⟩ cZ He :: .blk 2 :: .c (.lv [4,6,7,15,16,17])::k) (kv [(4,v4),(6,v6),(7,v7),(15,v15),(16,v16),(17,v17),(25,v25),(26,.int .i64 2),(27,.int .i64 2)]) H=M.go dy H0 k (kv [(4,v4),(6,v6),(7,v7),(15,v15),(16,v16),(17,v17)]) H:=by
 rw [ak M cZ.eq_1];simp (maxSteps:=3000000) (maxDischargeDepth:=6) +contextual -implicitDefEqProofs only [amC M,↓amD,Nat.reduceBEq,Nat.reduceAdd,env,aj,dI,(show decide ((2:Int)<2)=false from rfl)]
def M8(l:List Brk):AV:=sel (nK l == 0) (.tuple [.slice .any 3 (l.map ed),.int .u8 0]) (.tuple [.slice .any 3 [],.int .u8 (nK l)])
theorem dco(hB:kY E)(hX:sR M)(hU:jf E){l:Sl Brk}{m0:Nat}(hl:l.ok m0 (Brk.ok m0))(hr0:l.l.length≤1000)(hr:∀ r∈l.l,r.bef.length≤1000000∧r.aft.length≤1000000){H0:List AObj}(hm0:m0≤H0.length)(k:List Fra) :
  ∀ (n i:Nat) (o:List Brk),i+n=l.l.length→o.length≤i →
  M.go dy H0 (.c gz :: .lp ⟨(some [4,15,16,17]),[(4,3,dV)],true⟩ gz (H0++[.tok (o.length*3) dV]) :: .blk 0 :: .c (.lv [4])::k) (kv [(4,.slice (.own H0.length) 3 (o.map ed)),(15,.slice l.tag 3 (l.l.map Brk.row)),(16,.int .i64 l.l.length),(17,.int .i64 i)]) (H0++[.tok (o.length*3) dV]) =
   sel (sm (l.l.drop i) == 0) (M.go dy H0 k (kv [(4,.slice (.own H0.length) 3 ((o++l.l.drop i).map ed))]) (H0++[.tok ((o++l.l.drop i).length*3) dV])) (some (.ret (.tuple [.slice .any 3 [],.int .u8 (sm (l.l.drop i))]),H0))
 |0,i,o,h,ho=>by
  have e:i=l.l.length:=by omega
  subst e;rw [ak M gz.eq_1];simp (maxSteps:=3000000) (maxDischargeDepth:=6) +contextual -implicitDefEqProofs only [amC M,↓amD,Nat.reduceBEq,Nat.reduceAdd,env,aj,dI,Nat.lt_irrefl,List.drop_length,sm,(show ((0:Int) == 0)=true from rfl),List.append_nil]
 |n+1,i,o,h,ho=>by
  have hi:i<l.l.length:=by omega
  have hx:l.l[i]?=some l.l[i]:=List.getElem?_eq_getElem hi;have hd:(l.l.drop i)=l.l[i]::l.l.drop (i+1):=List.drop_eq_getElem_cons hi;have hm1:=hr _ (List.getElem_mem hi);have w1:Wk (H0.length+1) (.slice l.tag 3 (l.l.map Brk.row)) (.slice l.tag 3 (l.l.map Brk.row)):=(hl.mono (by omega) (fun _ h=>h.mono (by omega))).wk (fun _ h=>h.wk);have w2:=fun o:List Brk=>wk_slice (n:=H0.length+1) (esz:=3) (tag:=.own H0.length) (by simp [wN]) (BS _ o)
  have hwi:=cV (n:=l.l.length) hi (by simp only [bH];omega);have hir:=a8 (row:=Brk.row) (tag:=l.tag) (sz:=3) (k:=.i64) hi;have ih:=dco hB hX hU hl hr0 hr (H0:=H0) hm0 k n (i+1) (o++[l.l[i]]) (by omega) (by simp;omega);simp only [kv_cons,kv_nil] at ih;have ap:=fun L=>zP (row:=ed) (l:=o) (x:=l.l[i]) (r:=[.slice .any 1 ((kL l.l[i].bef).map da),.slice .any 1 ((kL l.l[i].aft).map da),.bool l.l[i].brk]) (sz:=3) (bytes:=56) (e:=dV) H0 L rfl rfl rfl (by omega) (by omega)
  have g1:∀ L:List AObj,(H0++L)[H0.length+1]?=L[1]? := fun L=>hp_getk H0 L 1
  have g2:∀ L:List AObj,(H0++L)[H0.length+2]?=L[2]? := fun L=>hp_getk H0 L 2
  have k1:∀ (L:List AObj) (x:AObj),(H0++L).set (H0.length+1) x=H0++L.set 1 x:=fun L x=>hp_setk H0 L 1 x
  have k2:∀ (L:List AObj) (x:AObj),(H0++L).set (H0.length+2) x=H0++L.set 2 x:=fun L x=>hp_setk H0 L 2 x
  have s0:=fun v4 v6 v15 v16 v17 (k:List Fra) He=>GL M hB hX hU (H:=H0++[.tok (o.length*3) dV,.cells (Brk.row l.l[i]) gv,.cells [.slice .nil 1 [],.slice .nil 1 []] fD]) (cut_app H0 _) (v4:=v4) (v6:=v6) (v15:=v15) (v16:=v16) (v17:=v17) (q:=H0.length+2) (cs:=[.slice .nil 1 [],.slice .nil 1 []]) (T:=fD) (tg:=.full) (a:=l.l[i].bef) (b:=l.l[i].aft) (s:=l.l[i].bef) (j:=0) (g2 _) rfl (by simp [AV.cell]) (by omega) rfl hm1.1 k He
  have s1:=fun v4 v6 v15 v16 v17 (k:List Fra) He=>GL M hB hX hU (H:=H0++[.tok (o.length*3) dV,.cells (Brk.row l.l[i]) gv,.cells [.slice .any 1 ((kL l.l[i].bef).map da),.slice .nil 1 []] fD]) (cut_app H0 _) (v4:=v4) (v6:=v6) (v15:=v15) (v16:=v16) (v17:=v17) (q:=H0.length+2) (cs:=[.slice .any 1 ((kL l.l[i].bef).map da),.slice .nil 1 []]) (T:=fD) (tg:=.full) (a:=l.l[i].bef) (b:=l.l[i].aft) (s:=l.l[i].aft) (j:=1) (g2 _) rfl (by simp [AV.cell]) (by omega) rfl hm1.2 k He
  have s2:=fun v4 v6 v7 v15 v16 v17 v25 (k:List Fra) He=>Pk M (H:=H0++[.tok (o.length*3) dV,.cells (Brk.row l.l[i]) gv,.cells [.slice .any 1 ((kL l.l[i].bef).map da),.slice .any 1 ((kL l.l[i].aft).map da)] fD]) (H0:=H0) (v4:=v4) (v6:=v6) (v7:=v7) (v15:=v15) (v16:=v16) (v17:=v17) (v25:=v25) k He
  simp only [kv_cons,kv_nil,Int.ofNat_zero,Nat.zero_add,show ((1:Nat):Int)=1 from rfl,show ((1+1:Nat):Int)=2 from rfl,k2,List.set_cons_succ,List.set_cons_zero] at s0 s1 s2;rw [hd,show o++l.l[i]::l.l.drop (i+1)=o++[l.l[i]]++l.l.drop (i+1) by simp];rw [ak M gz.eq_1];simp (maxSteps:=3000000) (maxDischargeDepth:=6) +contextual -implicitDefEqProofs only [amC M,↓amD,Nat.reduceBEq,Nat.reduceAdd,env,aj,dI,amG,AV.cell,Nat.reduceMul,Nat.reduceLeDiff,hi,hx,ih,sm,w1,w2,hwi,hir,Q7,s0,s1,s2,g1,g2,k1,k2,ap,(show ∀ q,HO 2 1 (.ptr q 0) (.int .i64 0)=some (.ptr q 0) from fun q=>M5 (j:=0) (by omega) _),(show ∀ q,HO 2 1 (.ptr q 0) (.int .i64 1)=some (.ptr q 1) from fun q=>M5 (j:=1) (by omega) _),List.getElem?_cons_succ,List.set_cons_succ,xf,uk,cut_app,hp_take,(show ((2:Nat):Int)=2 from rfl)]
  cases h1:yf l.l[i].bef == 0 with
  |false=>
   show _=slc (yf l.l[i].bef == 0) _ _;rw [h1];rfl
  |true=>
   cases h2:yf l.l[i].aft == 0 with
   |false=>
    show _=slc (yf l.l[i].aft == 0) _ _;rw [h2];rfl
   |true=>rfl
theorem E7(hB:kY E)(hX:sR M)(hU:jf E){l:Sl Brk}{m0:Nat}(hl:l.ok m0 (Brk.ok m0))(hr0:l.l.length≤1000)(hr:l.l.length≤64→∀ r∈l.l,r.bef.length≤1000000∧r.aft.length≤1000000)(H:List AObj)(hm0:m0≤H.length:=by exact Nat.zero_le _) :
  M.run ky [.slice l.tag 3 (l.l.map Brk.row)] H=some (.ret (M8 l.l),H):=by
 rw [bI M hU.docs_compiled rfl (c:=nB) rfl,nB];have h1:=fun (h64:l.l.length≤64) k=>dco M hB hX hU hl hr0 (hr h64) (H0:=H) hm0 k l.l.length 0 [] (by omega) (by simp)
 simp only [kv_cons,kv_nil,Int.ofNat_zero,List.drop_zero,List.nil_append,List.length_nil,Nat.zero_mul,List.map_nil] at h1;cases h:decide ((64:Int)<(l.l.length:Int)) with
 |true=>simp (maxSteps:=3000000) (maxDischargeDepth:=6) +contextual -implicitDefEqProofs only [amC M,↓amD,Nat.reduceBEq,Nat.reduceAdd,env,aj,dI,List.length_map,h,nK,M8,fI,wk_tuple,cut_refl,hp_self,(show ((3:Int) == 0)=false from rfl)]
 |false=>
  have h1:=h1 (by have:=of_decide_eq_false h;omega);have hc:nK l.l=sm l.l:=by rw [nK,h,sel_false]
  cases h2:sm l.l == 0 with
  |true=>
   simp only [h2,sel_true] at h1;have h3:sm l.l=0:=by simpa using h2
   have hh:=handV_drop (cut_app H [.tok (l.l.length*3) dV]) (wk_tuple (xs:=[.slice (.own H.length) 3 (l.l.map ed),.int .u8 0]) ⟨wk_any (esz:=3) (tag:=.own H.length) (BS H.length l.l),wk_int _ _ 0,trivial⟩);simp only [anyV_tuple,hp_take] at hh;rw [M8,hc,h2,sel_true];simp (maxSteps:=3000000) (maxDischargeDepth:=6) +contextual -implicitDefEqProofs only [amC M,↓amD,Nat.reduceBEq,Nat.reduceAdd,env,aj,dI,List.length_map,h,h1,hh]
  |false=>
   simp only [h2,sel_false] at h1;rw [M8,hc,h2,sel_false];simp (maxSteps:=3000000) (maxDischargeDepth:=6) +contextual -implicitDefEqProofs only [amC M,↓amD,Nat.reduceBEq,Nat.reduceAdd,env,aj,dI,List.length_map,h,h1,hp_self]
end
end Go.Am
