import Derived.Test.YtdaikompdjachaaGreatDoorA3
/-
  Part 4 of the tool: an abstract machine over the model, proved sound, and what it says of the functions that the law reaches. Condition: none but those that each theorem names.
-/
set_option linter.unusedVariables false
set_option linter.unusedSimpArgs false
set_option maxRecDepth 100000
set_option maxHeartbeats 4000000
namespace Go.Am
open Go.RowKit
section
open Sh
def kL:AC:=
 (Q (O [o 3 (.bx au (t 0)),mc 6 F]) (Q (Q (O [la 15 6 3,k 16 (f pb) [(t 15)]]) (C 16 (Q (O [k 17 (f fg) [],m 6 17]) R) X)) (Q (Q
 (O [la 19 6 3,m 20 1,m 21 2,k 22 (f y7) [(t 19),(t 20),(t 21)],m 18 22,ex 23 18 0,ex 24 18 1,m 7 23,m 8 24]) (Y [1,2,3,7,8])) (Q (Q (O [la 26 6 3,m 27 1,m
 28 2,k 29 (f pd) [(t 26),(t 27),(t 28)],m 25 29,ex 30 25 0,ex 31 25 1,m 9 30,m 10 31]) (Y [1,2,3,7,8,9,10])) (Q (Q (Q (O [m 32 8,m 33 10,o 34 (.ar
 .neq (t 32) (t 33)),m 35 34,h 36 35 (.mv (t 7)),h 37 35 (.mv (t 9)),⟨(some 38),(some (35,false)),(.call (.c (.fn (.func lE) [] [])) [(.t 36),(.t
 37)])⟩,h 39 35 (.un .not (t 38)),o 40 (.pk (t 35) T (t 39))]) (Y [1,2,3,40])) (C 40 (Q (O [mc 6 F]) R) X)) (Q (Q (O [la 42 6 3,m 43 1,m 44 2,k 45 (f y8) [(t 42),
 (t 43),(t 44)],m 41 45,ex 46 41 0,ex 47 41 1,m 11 46,m 8 47]) (Y [1,2,3,8,11])) (Q (Q (O [la 49 6 3,m 50 1,m 51 2,k 52 (f pe) [(t 49),(t 50),(t
 51)],m 48 52,ex 53 48 0,ex 54 48 1,m 12 53,m 10 54]) (Y [1,2,3,8,10,11,12])) (Q (Q (Q (O [m 55 8,m 56 10,o 57 (.ar .neq (t 55) (t 56)),m 58 57,h 59 58 (.mv (t 11)),h
 60 58 (.mv (t 12)),⟨(some 61),(some (58,false)),(.call (.c (.fn (.func iN) [] [])) [(.t 59),(.t 60)])⟩,h 62 58 (.un .not (t 61)),o 63 (.pk (t 58) T
 (t 62))]) (Y [1,2,3,63])) (C 63 (Q (O [mc 6 F]) R) X)) (Q (Q (O [la 65 6 3,m 66 1,m 67 2,k 68 (f wm) [(t 65),(t 66),(t 67)],m 64 68,ex 69 64 0,ex 70 64 1,m 13
 69,m 8 70]) (Y [1,2,3,8,13])) (Q (Q (O [la 72 6 3,m 73 1,m 74 2,k 75 (f qp) [(t 72),(t 73),(t 74)],m 71 75,ex 76 71 0,ex 77 71 1,m 14 76,m 10 77])
 (Y [1,3,8,10,13,14])) (Q (Q (Q (O [m 78 8,m 79 10,o 80 (.ar .neq (t 78) (t 79)),m 81 80,h 82 81 (.mv (t 13)),h 83 81 (.mv (t 14)),h 84 81 (.ar .neq (t 82) (t 83)),o 85
 (.pk (t 81) T (t 84))]) (Y [1,3,85])) (C 85 (Q (O [mc 6 F]) R) X)) (Q (Q (O [la 87 6 3,m 88 1,k 89 (f y9) [(t 87),(t 88)],m 86 89,ex 90 86 0,ex 91 86 1,m 11 90,
 m 8 91]) (Y [1,3,8,11])) (Q (Q (O [la 93 6 3,m 94 1,k 95 (f pf) [(t 93),(t 94)],m 92 95,ex 96 92 0,ex 97 92 1,m 12 96,m 10 97]) (Y [8,10,11,12])) (Q
 (Q (O [m 98 8,m 99 10,o 100 (.ar .eql (t 98) (t 99)),m 101 100,g 102 101 (.mv (t 11)),g 103 101 (.mv (t 12)),⟨(some 104),(some (101,true)),(.call (.c (.fn (.func
 iN) [] [])) [(.t 102),(.t 103)])⟩,o 105 (.pk (t 101) (t 104) F),m 106 105,⟨(some 107),(some (106,true)),(.call (.c (.fn (.func fg)
 [] [])) [])⟩,o 108 (.pk (t 106) (t 107) F),m 6 108]) (Y [6])) R))))))))))))))
def er:AFn:=⟨kL,109,[.t 6],.drop,[],none⟩
theorem xc:er.res=[.t 6]∧er.mode = .drop∧er.dfr=none:=⟨rfl,rfl,rfl⟩
def KR:AC:=
 (Q (O [mc 4 (.c (.slice .nil 2 [])),mc 5 F]) (Q (Q (Q (O [m 6 0,k 7 (f sj) [(t 6)],no 8 7,m 9 8,h 10 9 (.mv (t 1)),⟨(some 11),(some (9,false)),(.call (.c
 (.fn (.func sj) [] [])) [(.t 10)])⟩,h 12 9 (.un .not (t 11)),o 13 (.pk (t 9) T (t 12)),m 14 13,h 15 14 (.mv (t 0)),h 16 14 (.mv (t 1)),⟨(some 17),(some (14,
 false)),(.call (.c (.fn (.func u0) [] [])) [(.t 15),(.t 16)])⟩,o 18 (.pk (t 14) T (t 17))]) (Y [0,1,18])) (C 18 (Q (O [mc 4 (.c (.slice .nil 2 [])),mc 5 F]) R) X))
 (Q (Q (O [m 19 0,m 20 1,k 21 (f u1) [(t 19),(t 20)],m 4 21,mc 5 T]) (Y [4,5])) R)))
def zf:AFn:=⟨KR,22,[.t 4,.t 5],.drop,[],none⟩
def ib:AC:=
 (Q (Q (Q (O [m 11 6,m 12 0,ls 13 12,bl 14 11 13]) (Y [0,1,6,14])) (C 14 X (.exit 0))) (Q (.block 1 (Q (Q (D [P (m 17 0),P (m 18 6),P (o 19 (.ar .sub (t 18) (i 1))),P (ia 20
 2 17 19),P (fa 21 0 20),W (ld 22 21),P (m 23 0),P (m 24 6),P (ia 25 2 23 24),P (fa 26 0 25),W (ld 27 26),P (o 28 (.ar .geq (t 22) (t 27)))]) (Y [0,1,6,28])) (C 28 (Q (O
 [mc 4 (.c (.slice .nil 2 [])),mc 5 F]) R) X))) (O [m 15 6,ad 16 15,m 6 16])))
def ic:AC:=
 (Q (Q (Q (O [m 29 7,m 30 1,ls 31 30,bl 32 29 31]) (Y [0,1,7,32])) (C 32 X (.exit 2))) (Q (.block 3 (Q (Q (D [P (m 35 1),P (m 36 7),P (o 37 (.ar .sub (t 36) (i 1))),P (ia 38
 2 35 37),P (fa 39 0 38),W (ld 40 39),P (m 41 1),P (m 42 7),P (ia 43 2 41 42),P (fa 44 0 43),W (ld 45 44),P (o 46 (.ar .geq (t 40) (t 45)))]) (Y [0,1,7,46])) (C 46 (Q (O
 [mc 4 (.c (.slice .nil 2 [])),mc 5 F]) R) X))) (O [m 33 7,ad 34 33,m 7 34])))
def cr:AC:=
 (Q (Q (Q (O [m 47 9,m 48 0,ls 49 48,bl 50 47 49,m 51 50,h 52 51 (.mv (t 10)),h 53 51 (.mv (t 1)),h 54 51 (.len .sl (t 53)),h 55 51 (.ar .lss (t 52) (t 54)),o 56 (.pk (t 51)
 T (t 55))]) (Y [0,1,8,9,10,56])) (C 56 X (.exit 4))) (.block 5 (.block 6 (Q (Q (D [P (m 69 10),P (m 70 1),W (ls 71 70),P (o 72 (.ar .eql (t 69) (t 71))),P (m 73 72),P (h
 74 73 (.mv (t 9))),P (h 75 73 (.mv (t 0))),W (h 76 73 (.len .sl (t 75))),P (h 77 73 (.ar .lss (t 74) (t 76))),P (h 78 73 (.mv (t 77))),P (g 79 78 (.mv (t 0))),P (g 80 78 (.mv
 (t 9))),P (g 81 78 (.ias 2 (t 79) (t 80))),P (g 82 78 (.fa 0 (t 81))),W (g 83 78 (.ld none (t 82))),P (g 84 78 (.mv (t 1))),P (g 85 78 (.mv (t 10))),P (g 86 78 (.ias 2 (t 84)
 (t 85))),P (g 87 78 (.fa 0 (t 86))),W (g 88 78 (.ld none (t 87))),P (g 89 78 (.ar .lss (t 83) (t 88))),P (h 90 73 (.pk (t 78) (t 89) F)),P (o 91 (.pk (t 73) T (t 90))),P (m 68
 91)]) (Y [0,1,8,9,10,68])) (C 68 (Q (Q (O [m 92 8,m 93 0,m 94 9,ia 95 2 93 94,la 96 2 95,o 97 (.bs 2 [(.str []),(.str [])] 1 [(0,(t 96))]),o 98 (.ap false aR 2
 32 false (t 92) (t 97)),m 8 98]) (Y [0,1,8,9,10])) (O [m 99 9,ad 100 99,m 9 100])) (Q (Q (D [P (m 102 9),P (m 103 0),W (ls 104 103),P (o 105 (.ar .eql (t 102) (t 104))),P
 (m 106 105),P (h 107 106 (.mv (t 1))),P (h 108 106 (.mv (t 10))),P (h 109 106 (.ias 2 (t 107) (t 108))),P (h 110 106 (.fa 0 (t 109))),W (h 111 106 (.ld none (t 110))),P (h 112
 106 (.mv (t 0))),P (h 113 106 (.mv (t 9))),P (h 114 106 (.ias 2 (t 112) (t 113))),P (h 115 106 (.fa 0 (t 114))),W (h 116 106 (.ld none (t 115))),P (h 117 106 (.ar .lss (t 111)
 (t 116))),P (o 118 (.pk (t 106) T (t 117))),P (m 101 118)]) (Y [0,1,8,9,10,101])) (C 101 (Q (Q (O [m 119 8,m 120 1,m 121 10,ia 122 2 120 121,la 123 2 122,o 124 (.bs 2
 [(.str []),(.str [])] 1 [(0,(t 123))]),o 125 (.ap false aR 2 32 false (t 119) (t 124)),m 8 125]) (Y [0,1,8,9,10])) (O [m 126 10,ad 127 126,m 10 127])) (Q (Q (D [P
 (m 129 0),P (m 130 9),P (ia 131 2 129 130),W (la 132 2 131),P (m 133 1),P (m 134 10),P (ia 135 2 133 134),W (la 136 2 135),P (o 137 (.eq true (.st [(0,.str),(1,.str)]) (t
 132) (t 136))),P (m 128 137)]) (Y [0,1,8,9,10,128])) (C 128 (Q (O [mc 4 (.c (.slice .nil 2 [])),mc 5 F]) R) (Q (Q (O [m 57 8,m 58 0,m 59 9,ia 60 2 58 59,la 61 2 60,o 62
 (.bs 2 [(.str []),(.str [])] 1 [(0,(t 61))]),o 63 (.ap false aR 2 32 false (t 57) (t 62)),m 8 63]) (Y [0,1,8,9,10])) (Q (O [m 64 9,ad 65 64,m 9 65]) (O [m 66 10,
 ad 67 66,m 10 67]))))))))))))
def po:AC:=
 (Q (O [mc 4 (.c (.slice .nil 2 [])),mc 5 F]) (Q (Q (O [mc 6 (i 1)]) (Q (.block 0 (.loop ⟨(some [0,1,6]),[],false⟩ ib)) (Y [0,1]))) (Q (Q (O [mc 7 (i 1)])
 (Q (.block 2 (.loop ⟨(some [0,1,7]),[],false⟩ ic)) (Y [0,1]))) (Q (O [mc 8 (.c (.slice .nil 2 []))]) (Q (O [mc 9 (i 0),mc 10 (i 0)]) (Q (Q (.block 4
 (.loop ⟨(some [0,1,8,9,10]),[(8,2,aR)],false⟩ cr)) (Y [8])) (Q (O [m 138 8,m 4 138,mc 5 T]) R)))))))
def bX:AFn:=⟨po,139,[.t 4,.t 5],.drop,[],none⟩
theorem bI:bX.res=[.t 4,.t 5]∧bX.mode = .drop∧bX.dfr=none:=⟨rfl,rfl,rfl⟩
def ft:AC:=
 (Q (Q (Q (O [m 11 5,m 12 0,ls 13 12,bl 14 11 13]) (Y [0,1,5,14])) (C 14 X (.exit 0))) (Q (.block 1 (Q (Q (D [P (m 17 0),P (m 18 5),P (ia 19 2 17 18),W (la 20 2 19),P (m 21
 1),P (m 22 5),P (ia 23 2 21 22),W (la 24 2 23),P (o 25 (.eq true (.st [(0,.str),(1,.str)]) (t 20) (t 24)))]) (Y [0,1,5,25])) (C 25 (Q (O [mc 4 F]) R) X))) (O [m 15 5,ad
 16 15,m 5 16])))
def lF:AC:=
 (Q (O [mc 4 F]) (Q (Q (Q (O [m 6 0,ls 7 6,m 8 1,ls 9 8,o 10 (.ar .neq (t 7) (t 9))]) (Y [0,1,10])) (C 10 (Q (O [mc 4 F]) R) X)) (Q (Q (O [mc 5 (i 0)]) (Q (.block 0 (.loop
 ⟨(some [0,1,5]),[],false⟩ ft)) (Y []))) (Q (O [mc 4 T]) R))))
def c8:AFn:=⟨lF,26,[.t 4],.drop,[],none⟩
theorem lG:c8.res=[.t 4]∧c8.mode = .drop∧c8.dfr=none:=⟨rfl,rfl,rfl⟩
def G6:AC:=
 (Q (O [o 3 (.bx eZ (t 1)),mc 4 F]) (Q (Q (O [m 5 0,o 6 (.mf (.func w6) [] [(t 3)]),k 7 (f bM) [(t 5),(t 6)],no 8
 7,m 4 8]) (Y [4])) R))
def uI:AFn:=⟨G6,9,[.t 4],.drop,[],none⟩
def xd:AC:=
 (Q (Q (Q (O [m 14 7,m 15 1,ls 16 15,bl 17 14 16]) (Y [0,1,5,6,7,17])) (C 17 X (.exit 2))) (Q (.block 3 (Q (D [P (m 20 6),P (m 21 20),P (h 22 21 (.mv (t 0))),P (h 23 21
 (.mv (t 5))),P (h 24 21 (.ias 2 (t 22) (t 23))),W (h 25 21 (.ld (some 2) (t 24))),P (h 26 21 (.mv (t 1))),P (h 27 21 (.mv (t 7))),P (h 28 21 (.ias 2 (t 26) (t 27))),W (h 29 21
 (.ld (some 2) (t 28))),P (h 30 21 (.eq false (.st [(0,.str),(1,.str)]) (t 25) (t 29))),P (o 31 (.pk (t 21) T (t 30))),P (m 6 31)]) (Y [0,1,5,6,7]))) (O [m 18 7,ad 19 18,
 m 7 19])))
def xf:AC:=
 (Q (Q (Q (O [m 8 5,m 9 0,ls 10 9,bl 11 8 10]) (Y [0,1,5,11])) (C 11 X (.exit 0))) (Q (Q (.block 1 (Q (O [mc 6 F]) (Q (Q (O [mc 7 (i 0)]) (Q (.block 2 (.loop ⟨(some [0,1,5,
 6,7]),[],false⟩ xd)) (Y [0,1,5,6]))) (Q (O [m 32 6,no 33 32]) (C 33 (Q (O [mc 4 F]) R) X))))) (Y [0,1,5])) (O [m 12 5,ad 13 12,m 5 13])))
def zg:AC:=
 (Q (O [mc 4 F]) (Q (Q (O [mc 5 (i 0)]) (Q (.block 0 (.loop ⟨(some [0,1,5]),[],false⟩ xf)) (Y []))) (Q (O [mc 4 T]) R)))
def ma:AFn:=⟨zg,34,[.t 4],.drop,[],none⟩
def ie:AC:=
 (Q (Q (Q (O [m 76 6,fa 77 1 1,ld 78 77,m 79 5,ia 80 2 78 79,fa 81 1 80,ld 82 81,ls 83 82,bl 84 76 83,m 85 84,g 86 85 (.mv (t 6)),g 87 85 (.ar .lss (t 86) (i 100)),o 88
 (.pk (t 85) (t 87) F)]) (Y [1,3,4,5,6,88])) (C 88 X (.exit 2))) (Q (.block 3 (Q (D [W (ld 91 3),P (fa 92 1 1),W (ld 93 92),P (m 94 5),P (ia 95 2 93 94),P (fa 96 1 95),W
 (ld 97 96),P (m 98 6),P (ia 99 1 97 98),W (ld 100 99),W (lt 101 100),P (o 102 (.ar .add (i 1) (t 101))),P (o 103 (.ar .add (t 91) (t 102))),E (n (.st 1 (t 3) (t 103)))]) (Y
 [1,3,4,5,6]))) (O [m 89 6,ad 90 89,m 6 90])))
def ig:AC:=
 (Q (Q (Q (O [m 59 5,fa 60 1 1,ld 61 60,ls 62 61,bl 63 59 62]) (Y [1,3,4,5,63])) (C 63 X (.exit 0))) (Q (Q (.block 1 (Q (Q (D [W (ld 66 3),P (fa 67 1 1),W (ld 68 67),P (m
 69 5),P (ia 70 2 68 69),P (fa 71 0 70),W (ld 72 71),W (lt 73 72),P (o 74 (.ar .add (i 1) (t 73))),P (o 75 (.ar .add (t 66) (t 74))),E (n (.st 1 (t 3) (t 75)))]) (Y [1,3,4,
 5])) (Q (Q (O [mc 6 (i 0)]) (Q (.block 2 (.loop ⟨(some [1,3,4,5,6]),[],false⟩ ie)) (Y [1,3,4,5]))) (Q (D [W (ld 104 3),P (fa 105 1 1),W (ld 106 105),
 P (m 107 5),P (ia 108 2 106 107),P (fa 109 1 108),W (ld 110 109),W (ls 111 110),P (o 112 (.ar .add (t 104) (t 111))),E (n (.st 1 (t 3) (t 112)))]) (Y [1,3,4,5]))))) (Y [1,
 3,4,5])) (O [m 64 5,ad 65 64,m 5 65])))
def ij:AC:=
 (Q (Q (Q (O [m 158 8,fa 159 2 1,ld 160 159,m 161 7,ia 162 2 160 161,fa 163 1 162,ld 164 163,ls 165 164,bl 166 158 165]) (Y [1,3,4,7,8,166])) (C 166 X (.exit 6))) (Q
 (.block 7 (Q (Q (O [fa 169 2 1,ld 170 169,m 171 7,ia 172 2 170 171,fa 173 1 172,ld 174 173,m 175 8,ia 176 4 174 175,la 177 4 176,o 9 (.nw [(.int .i64 0),(.str []),(.str
 []),(.slice .nil 2 [])] cj),n (.st 4 (t 9) (t 177))]) (Y [1,3,4,7,8,9])) (Q (Q (O [ld 178 3,fa 179 1 9,ld 180 179,lt 181 180,o 182 (.ar .add (i 1) (t 181)),fa
 183 2 9,ld 184 183,lt 185 184,o 186 (.ar .add (t 182) (t 185)),o 187 (.ar .add (t 178) (t 186)),n (.st 1 (t 3) (t 187))]) (Y [1,3,4,7,8,9])) (Q (O [m 188 4,fa 189 3 9,ld
 190 189,k 191 (t 188) [(t 190)]]) (Y [1,3,4,7,8]))))) (O [m 167 8,ad 168 167,m 8 168])))
def ik:AC:=
 (Q (Q (Q (O [m 113 7,fa 114 2 1,ld 115 114,ls 116 115,bl 117 113 116]) (Y [1,3,4,7,117])) (C 117 X (.exit 4))) (Q (Q (.block 5 (Q (Q (Q (O [fa 120 2 1,ld 121 120,m 122 7,
 ia 123 2 121 122,fa 124 1 123,ld 125 124,ls 126 125,o 127 (.ar .gtr (t 126) (i 12)),m 128 127,g 129 128 (.fa 2 (t 1)),g 130 128 (.ld none (t 129)),g 131 128 (.mv (t 7)),g
 132 128 (.ias 2 (t 130) (t 131)),g 133 128 (.fa 1 (t 132)),g 134 128 (.ld none (t 133)),g 135 128 (.len .sl (t 134)),g 136 128 (.ar .leq (t 135) (i 24)),o 137 (.pk (t 128) (t
 136) F),m 138 137,h 139 138 (.fa 2 (t 1)),h 140 138 (.ld none (t 139)),h 141 138 (.mv (t 7)),h 142 138 (.ias 2 (t 140) (t 141)),h 143 138 (.fa 1 (t 142)),h 144 138 (.ld none
 (t 143)),h 145 138 (.len .sl (t 144)),h 146 138 (.ar .gtr (t 145) (i 60)),o 147 (.pk (t 138) T (t 146))]) (Y [1,3,4,7,147])) (C 147 (Q (O [mc 2 T]) R) X)) (Q (Q (D [W (ld 148
 3),P (fa 149 2 1),W (ld 150 149),P (m 151 7),P (ia 152 2 150 151),P (fa 153 0 152),W (ld 154 153),W (lt 155 154),P (o 156 (.ar .add (i 1) (t 155))),P (o 157 (.ar .add (t
 148) (t 156))),E (n (.st 1 (t 3) (t 157)))]) (Y [1,3,4,7])) (Q (O [mc 8 (i 0)]) (Q (.block 6 (.loop ⟨(some [1,3,4,7,8]),[],true⟩ ij)) (Y [1,3,4,
 7])))))) (Y [1,3,4,7])) (O [m 118 7,ad 119 118,m 7 119])))
def il:AC:=
 (Q (Q (Q (O [m 222 12,fa 223 3 11,ld 224 223,ls 225 224,bl 226 222 225,m 227 226,g 228 227 (.mv (t 12)),g 229 227 (.ar .lss (t 228) (i 100)),o 230 (.pk (t 227) (t 229) F)])
 (Y [1,3,4,10,11,12,230])) (C 230 X (.exit 10))) (Q (.block 11 (Q (D [W (ld 233 3),P (fa 234 3 11),W (ld 235 234),P (m 236 12),P (ia 237 2 235 236),P (fa 238 1 237),W (ld
 239 238),W (lt 240 239),P (o 241 (.ar .add (t 233) (t 240))),E (n (.st 1 (t 3) (t 241)))]) (Y [1,3,4,10,11,12]))) (O [m 231 12,ad 232 231,m 12 232])))
def im:AC:=
 (Q (Q (Q (O [m 192 10,fa 193 3 1,ld 194 193,ls 195 194,bl 196 192 195]) (Y [1,3,4,10,196])) (C 196 X (.exit 8))) (Q (Q (.block 9 (Q (Q (O [fa 199 3 1,ld 200 199,m 201 10,
 ia 202 4 200 201,la 203 4 202,o 11 (.nw [(.str []),(.str []),(.slice .nil 2 []),(.slice .nil 2 [])] b6),n (.st 4 (t 11) (t 203))]) (Y [1,3,4,10,11])) (Q (Q (O [ld
 204 3,fa 205 0 11,ld 206 205,lt 207 206,o 208 (.ar .add (i 1) (t 207)),fa 209 1 11,ld 210 209,lt 211 210,o 212 (.ar .add (t 208) (t 211)),fa 213 3 11,ld 214 213,ls 215
 214,o 216 (.ar .add (t 212) (t 215)),o 217 (.ar .add (t 204) (t 216)),n (.st 1 (t 3) (t 217))]) (Y [1,3,4,10,11])) (Q (Q (O [m 218 4,fa 219 2 11,ld 220 219,k 221 (t 218)
 [(t 220)]]) (Y [1,3,4,10,11])) (Q (O [mc 12 (i 0)]) (Q (.block 10 (.loop ⟨(some [1,3,4,10,11,12]),[],false⟩ il)) (Y [1,3,4,10]))))))) (Y [1,3,4,
 10])) (O [m 197 10,ad 198 197,m 10 198])))
def iq:AC:=
 (Q (Q (Q (O [m 242 13,fa 243 4 1,ld 244 243,ls 245 244,bl 246 242 245]) (Y [1,3,4,13,246])) (C 246 X (.exit 12))) (Q (.block 13 (Q (D [W (ld 249 3),P (fa 250 4 1),W (ld
 251 250),P (m 252 13),P (ia 253 4 251 252),P (fa 254 0 253),W (ld 255 254),W (lt 256 255),P (fa 257 4 1),W (ld 258 257),P (m 259 13),P (ia 260 4 258 259),P (fa 261 1 260),
 W (ld 262 261),W (lt 263 262),P (o 264 (.ar .add (t 256) (t 263))),P (fa 265 4 1),W (ld 266 265),P (m 267 13),P (ia 268 4 266 267),P (fa 269 2 268),W (ld 270 269),W (lt 271
 270),P (o 272 (.ar .add (t 264) (t 271))),P (fa 273 4 1),W (ld 274 273),P (m 275 13),P (ia 276 4 274 275),P (fa 277 3 276),W (ld 278 277),W (lt 279 278),P (o 280 (.ar .add
 (t 272) (t 279))),P (o 281 (.ar .add (t 249) (t 280))),E (n (.st 1 (t 3) (t 281)))]) (Y [1,3,4,13]))) (O [m 247 13,ad 248 247,m 13 248])))
def ir:AC:=
 (Q (Q (Q (O [m 282 14,fa 283 5 1,ld 284 283,ls 285 284,bl 286 282 285]) (Y [1,3,4,14,286])) (C 286 X (.exit 14))) (Q (.block 15 (Q (Q (D [W (ld 289 3),P (fa 290 5 1),W (ld
 291 290),P (m 292 14),P (ia 293 3 291 292),P (fa 294 0 293),W (ld 295 294),W (lt 296 295),P (fa 297 5 1),W (ld 298 297),P (m 299 14),P (ia 300 3 298 299),P (fa 301 1 300),
 W (ld 302 301),W (lt 303 302),P (o 304 (.ar .add (t 296) (t 303))),P (o 305 (.ar .add (t 289) (t 304))),E (n (.st 1 (t 3) (t 305)))]) (Y [1,3,4,14])) (Q (O [m 306 4,fa 307 5
 1,ld 308 307,m 309 14,ia 310 3 308 309,fa 311 2 310,ld 312 311,k 313 (t 306) [(t 312)]]) (Y [1,3,4,14])))) (O [m 287 14,ad 288 287,m 14 288])))
def pq:AC:=
 (Q (O [o 1 (.bx au (t 0)),mc 2 F]) (Q (Q (O [fa 15 0 1,ld 16 15,lt 17 16,o 3 (.nw [(.int .i64 0)] EF),n (.st 1 (t 3) (t 17))]) (Y [1,3])) (Q (O [o 18 (.mf (.func
 hT) [] [(t 3)]),m 4 18]) (Q (Q (Q (O [fa 19 3 1,ld 20 19,ls 21 20,o 22 (.ar .gtr (t 21) (i 60)),m 23 22,g 24 23 (.fa 3 (t 1)),g 25 23 (.ld none (t 24)),
 g 26 23 (.len .sl (t 25)),g 27 23 (.ar .leq (t 26) (i 128)),o 28 (.pk (t 23) (t 27) F),m 29 28,h 30 29 (.fa 3 (t 1)),h 31 29 (.ld none (t 30)),h 32 29 (.len .sl (t 31)),h 33
 29 (.ar .gtr (t 32) (i 200)),o 34 (.pk (t 29) T (t 33)),m 35 34,h 36 35 (.fa 1 (t 1)),h 37 35 (.ld none (t 36)),h 38 35 (.len .sl (t 37)),h 39 35 (.ar .gtr (t 38) (i 40)),o
 40 (.pk (t 35) T (t 39)),m 41 40,h 42 41 (.fa 2 (t 1)),h 43 41 (.ld none (t 42)),h 44 41 (.len .sl (t 43)),h 45 41 (.ar .gtr (t 44) (i 40)),o 46 (.pk (t 41) T (t 45)),m 47
 46,h 48 47 (.fa 4 (t 1)),h 49 47 (.ld none (t 48)),h 50 47 (.len .sl (t 49)),h 51 47 (.ar .gtr (t 50) (i 40)),o 52 (.pk (t 47) T (t 51)),m 53 52,h 54 53 (.fa 5 (t 1)),h 55
 53 (.ld none (t 54)),h 56 53 (.len .sl (t 55)),h 57 53 (.ar .gtr (t 56) (i 40)),o 58 (.pk (t 53) T (t 57))]) (Y [1,3,4,58])) (C 58 (Q (O [mc 2 T]) R) X)) (Q (Q (O [mc 5 (i
 0)]) (Q (.block 0 (.loop ⟨(some [1,3,4,5]),[],false⟩ ig)) (Y [1,3,4]))) (Q (Q (O [mc 7 (i 0)]) (Q (.block 4 (.loop ⟨(some [1,3,4,7]),[],true⟩
 ik)) (Y [1,3,4]))) (Q (Q (O [mc 10 (i 0)]) (Q (.block 8 (.loop ⟨(some [1,3,4,10]),[],true⟩ im)) (Y [1,3,4]))) (Q (Q (O [mc 13 (i
 0)]) (Q (.block 12 (.loop ⟨(some [1,3,4,13]),[],false⟩ iq)) (Y [1,3,4]))) (Q (Q (O [mc 14 (i 0)]) (Q (.block 14 (.loop ⟨(some [1,3,4,14]),[],false⟩
 ir)) (Y [3]))) (Q (O [ld 314 3,o 315 (.ar .gtr (t 314) (i 6000)),m 2 315]) R))))))))))
def aD:AFn:=⟨pq,316,[.t 2],.drop,[],none⟩
theorem bc:aD.res=[.t 2]∧aD.mode = .drop∧aD.dfr=none:=⟨rfl,rfl,rfl⟩
def zh:AC:=
 (Q (O [o 3 (.bx au (t 0)),mc 6 (.c (.slice .nil 2 [])),mc 7 (u 0)]) (Q (Q (O [la 12 6 3,m 13 1,m 14 2,k 15 (f rE) [(t 12),(t 13),(t 14)],m 11 15,ex 16
 11 0,ex 17 11 1,ex 18 11 2,o 8 (.nw [(.str []),(.slice .nil 2 []),(.slice .nil 2 []),(.slice .nil 4 []),(.slice .nil 4 []),(.slice .nil 3 [])] aM),o 9 (.nw
 [(.int .i64 0),(.str []),(.str []),(.slice .nil 2 [])] cj),n (.st 6 (t 8) (t 16)),n (.st 4 (t 9) (t 17)),m 10 18]) (Y [1,8,9,10])) (Q (Q (O [m 19 10,o 20 (.ar .neq
 (t 19) (u 0))]) (C 20 (Q (O [m 21 10,mc 6 (.c (.slice .nil 2 [])),m 7 21]) R) X)) (Q (Q (O [la 22 6 8,m 23 1,la 24 4 9,k 25 (f nH) [(t 22),(t 23),(t 24)],
 m 6 25,mc 7 (u 0)]) (Y [6,7])) R))))
def o3:AFn:=⟨zh,26,[.t 6,.t 7],.drop,[],none⟩
theorem zi:o3.res=[.t 6,.t 7]∧o3.mode = .drop∧o3.dfr=none:=⟨rfl,rfl,rfl⟩
def pr:AC:=
 (Q (O [o 3 (.bx au (t 0)),mc 6 (.c (.slice .nil 2 [])),mc 7 (u 0)]) (Q (Q (O [la 13 6 3,k 14 (f gv) [(t 13)],m 8 14]) (Q (O [m 15 8,o 16 (.ar .neq
 (t 15) (u 0))]) (C 16 (Q (O [m 17 8,mc 6 (.c (.slice .nil 2 [])),m 7 17]) R) X))) (Q (Q (O [la 19 6 3,m 20 1,m 21 2,k 22 (f jB) [(t 19),(t 20),(t 21)],m 18
 22,ex 23 18 0,ex 24 18 1,o 9 (.nw [(.int .i64 0),(.str []),(.str []),(.slice .nil 2 [])] cj),n (.st 4 (t 9) (t 23)),m 10 24]) (Y [1,3,9,10])) (Q (Q (O [m 25 10,
 no 26 25]) (C 26 (Q (O [mc 6 (.c (.slice .nil 2 [])),mc 7 (u 7)]) R) X)) (Q (Q (D [P (fa 28 3 3),W (ld 29 28),P (m 30 1),P (ia 31 4 29 30),P (fa 32 2 31),W (ld 33 32),P (fa
 34 3 9),W (ld 35 34),E (k 36 (f kV) [(t 33),(t 35)]),P (m 27 36),P (ex 37 27 0),P (ex 38 27 1),P (m 11 37),P (m 12 38)]) (Y [11])) (Q (O [m 39 11,m 6 39,
 mc 7 (u 0)]) R))))))
def gx:AFn:=⟨pr,40,[.t 6,.t 7],.drop,[],none⟩
theorem pw:gx.res=[.t 6,.t 7]∧gx.mode = .drop∧gx.dfr=none:=⟨rfl,rfl,rfl⟩
def zj:AC:=
 (Q (O [o 3 (.bx au (t 0)),mc 6 (.c (.slice .nil 1 [])),mc 7 (u 0)]) (Q (Q (O [la 14 6 3,m 15 1,m 16 2,k 17 (f rE) [(t 14),(t 15),(t 16)],m 13 17,ex 18
 13 0,ex 19 13 1,ex 20 13 2,o 8 (.nw [(.str []),(.slice .nil 2 []),(.slice .nil 2 []),(.slice .nil 4 []),(.slice .nil 4 []),(.slice .nil 3 [])] aM),o 9 (.nw
 [(.int .i64 0),(.str []),(.str []),(.slice .nil 2 [])] cj),n (.st 6 (t 8) (t 18)),n (.st 4 (t 9) (t 19)),m 10 20]) (Y [1,8,9,10])) (Q (Q (O [m 21 10,o 22 (.ar .neq
 (t 21) (u 0))]) (C 22 (Q (O [m 23 10,mc 6 (.c (.slice .nil 1 [])),m 7 23]) R) X)) (Q (Q (O [la 25 6 8,m 26 1,la 27 4 9,k 28 (f km) [(t 25),(t 26),(t 27)],
 m 24 28,ex 29 24 0,ex 30 24 1,m 11 29,m 12 30]) (Y [11,12])) (Q (Q (O [m 31 12,no 32 31]) (C 32 (Q (O [mc 6 (.c (.slice .nil 1 [])),mc 7 (u 7)]) R) X)) (Q (O [m 33 11,m 6
 33,mc 7 (u 0)]) R))))))
def o4:AFn:=⟨zj,34,[.t 6,.t 7],.drop,[],none⟩
theorem u5:o4.res=[.t 6,.t 7]∧o4.mode = .drop∧o4.dfr=none:=⟨rfl,rfl,rfl⟩
def px:AC:=
 (Q (O [o 3 (.bx au (t 0)),mc 6 (.c (.slice .nil 1 [])),mc 7 (u 0)]) (Q (Q (O [la 11 6 3,k 12 (f gv) [(t 11)],m 8 12]) (Q (O [m 13 8,o 14 (.ar .neq
 (t 13) (u 0))]) (C 14 (Q (O [m 15 8,mc 6 (.c (.slice .nil 1 [])),m 7 15]) R) X))) (Q (Q (O [la 17 6 3,m 18 1,m 19 2,k 20 (f jn) [(t 17),(t 18),(t 19)],m
 16 20,ex 21 16 0,ex 22 16 1,m 9 21,m 10 22]) (Y [9,10])) (Q (Q (O [m 23 10,no 24 23]) (C 24 (Q (O [mc 6 (.c (.slice .nil 1 [])),mc 7 (u 7)]) R) X)) (Q (O [m 25 9,m 6 25,mc
 7 (u 0)]) R)))))
def gy:AFn:=⟨px,26,[.t 6,.t 7],.drop,[],none⟩
theorem lj:gy.res=[.t 6,.t 7]∧gy.mode = .drop∧gy.dfr=none:=⟨rfl,rfl,rfl⟩
def eJ:AC:=
 (Q (Q (Q (O [m 11 5,m 12 0,ls 13 12,bl 14 11 13]) (Y [0,1,5,14])) (C 14 X (.exit 0))) (Q (.block 1 (Q (Q (D [P (m 17 0),P (m 18 5),P (ia 19 1 17 18),W (ld 20 19),P (m 21
 1),P (m 22 5),P (ia 23 1 21 22),W (ld 24 23),P (o 25 (.ar .neq (t 20) (t 24)))]) (Y [0,1,5,25])) (C 25 (Q (O [mc 4 F]) R) X))) (O [m 15 5,ad 16 15,m 5 16])))
def kz:AC:=
 (Q (O [mc 4 F]) (Q (Q (Q (O [m 6 0,ls 7 6,m 8 1,ls 9 8,o 10 (.ar .neq (t 7) (t 9))]) (Y [0,1,10])) (C 10 (Q (O [mc 4 F]) R) X)) (Q (Q (O [mc 5 (i 0)]) (Q (.block 0 (.loop
 ⟨(some [0,1,5]),[],false⟩ eJ)) (Y []))) (Q (O [mc 4 T]) R))))
def cE:AFn:=⟨kz,26,[.t 4],.drop,[],none⟩
theorem kA:cE.res=[.t 4]∧cE.mode = .drop∧cE.dfr=none:=⟨rfl,rfl,rfl⟩
def Bx:AC:=
 (Q (O [o 3 (.bx au (t 0)),mc 6 (s []),mc 7 (u 0)]) (Q (Q (O [la 13 6 3,m 14 1,m 15 2,k 16 (f rE) [(t 13),(t 14),(t 15)],m 12 16,ex 17 12 0,ex 18 12
 1,ex 19 12 2,o 8 (.nw [(.str []),(.slice .nil 2 []),(.slice .nil 2 []),(.slice .nil 4 []),(.slice .nil 4 []),(.slice .nil 3 [])] aM),o 9 (.nw [(.int .i64 0),
 (.str []),(.str []),(.slice .nil 2 [])] cj),n (.st 6 (t 8) (t 17)),n (.st 4 (t 9) (t 18)),m 10 19]) (Y [1,2,8,10])) (Q (Q (O [m 20 10,o 21 (.ar .neq (t 20) (u 0))])
 (C 21 (Q (O [m 22 10,mc 6 (s []),m 7 22]) R) X)) (Q (Q (O [la 23 6 8,m 24 1,m 25 2,k 26 (f kW) [(t 23),(t 24),(t 25)],m 11 26]) (Y [11])) (Q (Q (O [m 27
 11,o 28 (.ar .eql (t 27) (s []))]) (C 28 (Q (O [mc 6 (s []),mc 7 (u 7)]) R) X)) (Q (O [m 29 11,m 6 29,mc 7 (u 0)]) R))))))
def nQ:AFn:=⟨Bx,30,[.t 6,.t 7],.drop,[],none⟩
theorem wv:nQ.res=[.t 6,.t 7]∧nQ.mode = .drop∧nQ.dfr=none:=⟨rfl,rfl,rfl⟩
def qx:AC:=
 (Q (O [o 3 (.bx au (t 0)),mc 6 (s []),mc 7 (u 0)]) (Q (Q (O [la 10 6 3,k 11 (f gv) [(t 10)],m 8 11]) (Q (O [m 12 8,o 13 (.ar .neq (t 12) (u 0))])
 (C 13 (Q (O [m 14 8,mc 6 (s []),m 7 14]) R) X))) (Q (Q (O [la 15 6 3,m 16 1,m 17 2,k 18 (f jC) [(t 15),(t 16),(t 17)],m 9 18]) (Y [9])) (Q (Q (O [m 19 9,o
 20 (.ar .eql (t 19) (s []))]) (C 20 (Q (O [mc 6 (s []),mc 7 (u 7)]) R) X)) (Q (O [m 21 9,m 6 21,mc 7 (u 0)]) R)))))
def iu:AFn:=⟨qx,22,[.t 6,.t 7],.drop,[],none⟩
theorem lT:iu.res=[.t 6,.t 7]∧iu.mode = .drop∧iu.dfr=none:=⟨rfl,rfl,rfl⟩
def oJ:AC:=
 (Q (O [bl 30 29 28]) (Q (C 30 X (.exit 0)) (Q (.block 1 (Q (O [m 31 29,m 9 31]) (Q (O [m 32 8,la 33 6 7,m 34 1,m 35 9,k 36 (f kW) [(t 33),(t 34),(t 35)],o
 37 (.bs 1 [(.str [])] 1 [(0,(t 36))]),o 38 (.ap false bb 1 16 false (t 32) (t 37)),m 8 38]) (Y [1,7,8,28,29])))) (O [ad 39 29,m 29 39]))))
def zk:AC:=
 (Q (O [o 2 (.bx au (t 0)),mc 4 (.c (.slice .nil 1 [])),mc 5 (u 0)]) (Q (Q (O [la 10 6 2,k 11 (f rF) [(t 10)],m 6 11]) (Q (O [m 12 6,o 13 (.ar .neq (t 12)
 (u 0))]) (C 13 (Q (O [m 14 6,mc 4 (.c (.slice .nil 1 [])),m 5 14]) R) X))) (Q (Q (Q (O [m 15 1,o 16 (.ar .lss (t 15) (i 0)),m 17 16,h 18 17 (.mv (t 1)),h 19 17 (.fa 3 (t 2)),
 h 20 17 (.ld none (t 19)),h 21 17 (.len .sl (t 20)),h 22 17 (.ar .geq (t 18) (t 21)),o 23 (.pk (t 17) T (t 22))]) (Y [1,2,23])) (C 23 (Q (O [mc 4 (.c (.slice .nil 1 [])),mc 5
 (u 7)]) R) X)) (Q (Q (O [la 24 6 2,o 25 (.bd [(.str []),(.slice .nil 2 []),(.slice .nil 2 []),(.slice .nil 4 []),(.slice .nil 4 []),(.slice .nil 3 [])] [(0,6)] [(0,(t
 24))]),o 7 (.nw [(.str []),(.slice .nil 2 []),(.slice .nil 2 []),(.slice .nil 4 []),(.slice .nil 4 []),(.slice .nil 3 [])] aM),n (.st 6 (t 7) (t 25))]) (Y [1,
 7])) (Q (O [mc 8 (.c (.slice .nil 1 []))]) (Q (Q (Q (O [la 26 6 7,m 27 1,k 28 (f nI) [(t 26),(t 27)],mc 29 (i 0)]) (Y [1,7,8,28,29])) (Q (.block 0 (.loop
 ⟨(some [1,7,8,28,29]),[(8,1,bb)],false⟩ oJ)) (Y [8]))) (Q (O [m 40 8,m 4 40,mc 5 (u 0)]) R)))))))
def kJ:AFn:=⟨zk,41,[.t 4,.t 5],.drop,[],none⟩
theorem o5:kJ.res=[.t 4,.t 5]∧kJ.mode = .drop∧kJ.dfr=none:=⟨rfl,rfl,rfl⟩
def iv:AC:=
 (Q (Q (Q (O [m 23 8,la 24 6 2,m 25 1,k 26 (f pg) [(t 24),(t 25)],bl 27 23 26]) (Y [1,2,7,8,27])) (C 27 X (.exit 0))) (Q (.block 1 (Q (O [m 30 7,la 31 6
 2,m 32 1,m 33 8,k 34 (f jC) [(t 31),(t 32),(t 33)],o 35 (.bs 1 [(.str [])] 1 [(0,(t 34))]),o 36 (.ap false bb 1 16 false (t 30) (t 35)),m 7 36]) (Y
 [1,2,7,8]))) (O [m 28 8,ad 29 28,m 8 29])))
def py:AC:=
 (Q (O [o 2 (.bx au (t 0)),mc 4 (.c (.slice .nil 1 [])),mc 5 (u 0)]) (Q (Q (O [la 9 6 2,k 10 (f gv) [(t 9)],m 6 10]) (Q (O [m 11 6,o 12 (.ar .neq
 (t 11) (u 0))]) (C 12 (Q (O [m 13 6,mc 4 (.c (.slice .nil 1 [])),m 5 13]) R) X))) (Q (Q (Q (O [m 14 1,o 15 (.ar .lss (t 14) (i 0)),m 16 15,h 17 16 (.mv (t 1)),h 18 16 (.fa 3
 (t 2)),h 19 16 (.ld none (t 18)),h 20 16 (.len .sl (t 19)),h 21 16 (.ar .geq (t 17) (t 20)),o 22 (.pk (t 16) T (t 21))]) (Y [1,2,22])) (C 22 (Q (O [mc 4 (.c (.slice .nil 1
 [])),mc 5 (u 7)]) R) X)) (Q (O [mc 7 (.c (.slice .nil 1 []))]) (Q (Q (O [mc 8 (i 0)]) (Q (.block 0 (.loop ⟨(some [1,2,7,8]),[(7,1,bb)],false⟩ iv))
 (Y [7]))) (Q (O [m 37 7,m 4 37,mc 5 (u 0)]) R))))))
def ej:AFn:=⟨py,38,[.t 4,.t 5],.drop,[],none⟩
theorem gz:ej.res=[.t 4,.t 5]∧ej.mode = .drop∧ej.dfr=none:=⟨rfl,rfl,rfl⟩
def By:AC:=
 (Q (O [mc 2 F]) (Q (O [o 3 (.nw [.nilfn] Gh),n (.st 1 (t 3) (f gD))]) (Q (Q (D [P (m 4 0),W (lt 5 4),P (o 6 (.ar .geq (t 5) (i 1))),P (m 7 6),P (g 8
 7 (.mv (t 0))),W (g 9 7 (.len .str (t 8))),P (g 10 7 (.ar .leq (t 9) (i 12))),P (o 11 (.pk (t 7) (t 10) F)),P (m 12 11),W (g 13 12 (.ld none (t 3))),P (g 14 12 (.mv (t 0))),P
 (g 15 12 (.ixs (t 14) (i 0))),E (⟨(some 16),(some (12,true)),(.call (.t 13) [(.t 15)])⟩),P (o 17 (.pk (t 12) (t 16) F)),P (m 18 17),P (g 19 18 (.mv (t 0))),P (g 20 18 (.mf
 (.func mH) [] [(t 3)])),E (⟨(some 21),(some (18,true)),(.call (.c (.fn (.func qq) [] [])) [(.t 19),(.t 20)])⟩),P (o 22 (.pk (t 18) (t 21) F)),P (m 2
 22)]) (Y [2])) R)))
def jz:AFn:=⟨By,23,[.t 2],.drop,[],none⟩
def Bz:AC:=
 (Q (O [mc 2 F]) (Q (Q (O [m 3 0,lt 4 3,o 5 (.ar .geq (t 4) (i 1)),m 6 5,g 7 6 (.mv (t 0)),g 8 6 (.len .str (t 7)),g 9 6 (.ar .leq (t 8) (i 24)),o 10 (.pk (t 6) (t 9) F),m 11
 10,g 12 11 (.mv (t 0)),⟨(some 13),(some (11,true)),(.call (.c (.fn (.func qq) [] [])) [(.t 12),(.c (.fn (.func qs) [] []))])⟩,o 14 (.pk (t 11) (t 13) F),
 m 2 14]) (Y [2])) R))
def nR:AFn:=⟨Bz,15,[.t 2],.drop,[],none⟩
def zl:AC:=
 (Q (O [mc 2 F]) (Q (Q (O [m 3 0,k 4 (f Bu) [(t 3)],m 5 4,g 6 5 (.mv (t 0)),⟨(some 7),(some (5,true)),(.call (.c (.fn (.func qq) [] [])) [(.t 6),(.c (.fn
 (.func cM) [] []))])⟩,o 8 (.pk (t 5) (t 7) F),m 2 8]) (Y [2])) R))
def mb:AFn:=⟨zl,9,[.t 2],.drop,[],none⟩
def jF:AC:=
 (Q (Q (Q (O [m 4 3,m 5 0,ls 6 5,bl 7 4 6]) (Y [0,3,7])) (C 7 X (.exit 0))) (Q (.block 1 (Q (Q (D [P (m 10 0),P (m 11 3),P (o 12 (.ar .sub (t 11) (i 1))),P (ia 13 2 10 12),P
 (fa 14 0 13),W (ld 15 14),P (m 16 0),P (m 17 3),P (ia 18 2 16 17),P (fa 19 0 18),W (ld 20 19),P (o 21 (.ar .geq (t 15) (t 20)))]) (Y [0,3,21])) (C 21 (Q (O [mc 2 F]) R)
 X))) (O [m 8 3,ad 9 8,m 3 9])))
def E9:AC:=
 (Q (O [mc 2 F]) (Q (Q (O [mc 3 (i 1)]) (Q (.block 0 (.loop ⟨(some [0,3]),[],false⟩ jF)) (Y []))) (Q (O [mc 2 T]) R)))
def fD:AFn:=⟨E9,22,[.t 2],.drop,[],none⟩
theorem xg:fD.res=[.t 2]∧fD.mode = .drop∧fD.dfr=none:=⟨rfl,rfl,rfl⟩
def zm:AC:=
 (Q (O [o 3 (.bx eZ (t 1)),mc 4 F]) (Q (Q (O [m 5 0,o 6 (.mf (.func sa) [] [(t 3)]),k 7 (f bM) [(t 5),(t 6)],m 4 7])
 (Y [4])) R))
def mg:AFn:=⟨zm,8,[.t 4],.drop,[],none⟩
theorem KS:mg.res=[.t 4]∧mg.mode = .drop∧mg.dfr=none:=⟨rfl,rfl,rfl⟩
def zn:AC:=
 (Q (O [mc 4 (.c (.slice .nil 2 []))]) (Q (Q (O [m 6 0,m 7 1,o 8 (.bs 1 [(.slice .nil 0 [])] 2 [(0,(t 6)),(1,(t 7))]),k 9 (f eY) [(t 8)],m 5 9])
 (Y [5])) (Q (O [m 10 5,k 11 (f bh) [(t 10),(f gR)]]) (Q (O [m 12 5,k 13 (f eL) [(t 12)],m 4 13])
 R))))
def o6:AFn:=⟨zn,14,[.t 4],.frz,[],none⟩
theorem EG:o6.res=[.t 4]∧o6.mode = .frz∧o6.dfr=none:=⟨rfl,rfl,rfl⟩
def fx:AC:=
 (Q (O [mc 4 F]) (Q (Q (O [m 5 0,m 6 1,k 7 (f c9) [(t 5),(t 6)],o 8 (.ar .geq (t 7) (i 0)),m 4 8]) (Y [4])) R))
def bf:AFn:=⟨fx,9,[.t 4],.drop,[],none⟩
theorem qe:bf.res=[.t 4]∧bf.mode = .drop∧bf.dfr=none:=⟨rfl,rfl,rfl⟩
def Fa:AC:=
 (Q (O [o 2 (.bx aR (t 0)),mc 3 F]) (Q (Q (O [ld 4 1,la 5 2 2,k 6 (f kI) [(t 4),(t 5)],no 7 6,m 3 7]) (Y [3])) R))
def sk:AFn:=⟨Fa,8,[.t 3],.drop,[],none⟩
def rG:AC:=
 (Q (O [o 3 (.bx aR (t 1)),mc 4 F]) (Q (Q (O [m 5 0,la 6 2 3,k 7 (f lO) [(t 5),(t 6)],o 8 (.ar .geq (t 7) (i 0)),m 4 8]) (Y [4])) R))
def gE:AFn:=⟨rG,9,[.t 4],.drop,[],none⟩
def fX:AC:=
 (Q (Q (Q (O [m 4 3,m 5 0,ls 6 5,bl 7 4 6,m 8 7,g 9 8 (.mv (t 3)),g 10 8 (.ar .lss (t 9) (i 100)),o 11 (.pk (t 8) (t 10) F)]) (Y [0,1,3,11])) (C 11 X (.exit 0))) (Q (.block
 1 (Q (D [W (ld 14 1),P (m 15 0),P (m 16 3),P (ia 17 2 15 16),P (fa 18 0 17),W (ld 19 18),W (lt 20 19),P (o 21 (.ar .add (i 1) (t 20))),P (m 22 0),P (m 23 3),P (ia 24 2 22
 23),P (fa 25 1 24),W (ld 26 25),W (lt 27 26),P (o 28 (.ar .add (t 21) (t 27))),P (o 29 (.ar .add (t 14) (t 28))),E (n (.st 1 (t 1) (t 29)))]) (Y [0,1,3]))) (O [m 12 3,ad 13
 12,m 3 13])))
def mN:AC:=
 (Q (Q (O [mc 3 (i 0)]) (Q (.block 0 (.loop ⟨(some [0,1,3]),[],false⟩ fX)) (Y [0,1]))) (Q (O [ld 30 1,m 31 0,ls 32 31,o 33 (.ar .add (t 30) (t 32)),n
 (.st 1 (t 1) (t 33))]) (Y [])))
def cU:AFn:=⟨mN,34,[],.drop,[],none⟩
theorem mO:cU.res=[]∧cU.mode = .drop∧cU.dfr=none:=⟨rfl,rfl,rfl⟩
def zo:AC:=
 (Q (Q (O [o 3 (.bx au (t 0)),o 6 (.nw [(.str []),(.slice .nil 2 []),(.slice .nil 2 []),(.slice .nil 4 []),(.slice .nil 4 []),(.slice .nil 3 [])] aM),
 o 7 (.nw [(.int .i64 0),(.str []),(.str []),(.slice .nil 2 [])] cj),mc 8 (u 0)]) (Y [1,2,3,6,7])) (Q (Q (O [la 13 6 3,k 14 (f rF) [(t 13)],m 9 14]) (Q
 (O [m 15 9,o 16 (.ar .neq (t 15) (u 0))]) (C 16 (Q (Q (O [o 17 (.bd [(.str []),(.slice .nil 2 []),(.slice .nil 2 []),(.slice .nil 4 []),(.slice .nil 4 []),(.slice .nil 3 [])]
 [(0,6)] []),o 18 (.bd [(.int .i64 0),(.str []),(.str []),(.slice .nil 2 [])] [(0,1),(1,1),(2,1),(3,1)] []),m 19 9,n (.st 6 (t 6) (t 17)),n (.st 4 (t 7) (t 18)),m 8
 19]) (Y [6,7,8])) R) X))) (Q (Q (O [la 20 6 3,o 21 (.bd [(.str []),(.slice .nil 2 []),(.slice .nil 2 []),(.slice .nil 4 []),(.slice .nil 4 []),(.slice .nil 3 [])] [(0,6)]
 [(0,(t 20))]),o 10 (.nw [(.str []),(.slice .nil 2 []),(.slice .nil 2 []),(.slice .nil 4 []),(.slice .nil 4 []),(.slice .nil 3 [])] aM),n (.st 6 (t 10) (t
 21))]) (Y [1,2,6,7,10])) (Q (Q (O [la 23 6 10,m 24 1,m 25 2,k 26 (f kX) [(t 23),(t 24),(t 25)],m 22 26,ex 27 22 0,ex 28 22 1,o 11 (.nw [(.int .i64
 0),(.str []),(.str []),(.slice .nil 2 [])] cj),n (.st 4 (t 11) (t 27)),m 12 28]) (Y [6,7,10,11,12])) (Q (Q (O [m 29 12,no 30 29]) (C 30 (Q (Q (O [o 31 (.bd [(.str
 []),(.slice .nil 2 []),(.slice .nil 2 []),(.slice .nil 4 []),(.slice .nil 4 []),(.slice .nil 3 [])] [(0,6)] []),o 32 (.bd [(.int .i64 0),(.str []),(.str []),(.slice .nil 2
 [])] [(0,1),(1,1),(2,1),(3,1)] []),n (.st 6 (t 6) (t 31)),n (.st 4 (t 7) (t 32)),mc 8 (u 7)]) (Y [6,7,8])) R) X)) (Q (Q (.dops true [] [] [W (la 33 6 10),W (la 34 4
 11),K (n (.st 6 (t 6) (t 33))),K (n (.st 4 (t 7) (t 34))),P (mc 8 (u 0))]) (Y [6,7,8])) R))))))
def mh:AFn:=⟨zo,35,[.cell 6 (some 6),.cell 7 (some 4),.t 8],.drop,[],none⟩
theorem zp:mh.res=[.cell 6 (some 6),.cell 7 (some 4),.t 8]∧mh.mode = .drop∧mh.dfr=none:=⟨rfl,rfl,rfl⟩
def nS:AC:=
 (Q (O [o 3 (.bx aM (t 0)),o 5 (.bx cj (t 2)),mc 6 (.c (.slice .nil 2 []))]) (Q (Q (D [P (fa 7 0 3),P (fa 8 3 7),W (ld 9 8),P (m 10 1),P (ia 11 4 9 10),P
 (fa 12 2 11),W (ld 13 12),P (fa 14 3 5),W (ld 15 14),E (k 16 (f u1) [(t 13),(t 15)]),P (m 6 16)]) (Y [6])) R))
def fR:AFn:=⟨nS,17,[.t 6],.drop,[],none⟩
theorem BA:fR.res=[.t 6]∧fR.mode = .drop∧fR.dfr=none:=⟨rfl,rfl,rfl⟩
def iw:AC:=
 (Q (Q (Q (O [m 16 3,fa 17 0 1,ld 18 17,lt 19 18,bl 20 16 19]) (Y [1,3,20])) (C 20 X (.exit 0))) (Q (.block 1 (Q (Q (D [P (fa 23 0 1),W (ld 24 23),P (m 25 3),P (o 26 (.ar
 .sub (t 25) (i 1))),P (o 27 (.ixs (t 24) (t 26))),P (fa 28 0 1),W (ld 29 28),P (m 30 3),P (o 31 (.ixs (t 29) (t 30))),P (o 32 (.ar .geq (t 27) (t 31)))]) (Y [1,3,32])) (C 32
 (Q (O [mc 2 (u 1)]) R) X))) (O [m 21 3,ad 22 21,m 3 22])))
def iy:AC:=
 (Q (Q (Q (O [m 52 7,fa 53 4 1,ld 54 53,ls 55 54,bl 56 52 55]) (Y [1,7,56])) (C 56 X (.exit 2))) (Q (.block 3 (Q (Q (O [fa 59 4 1,ld 60 59,m 61 7,ia 62 4 60 61,la 63 4 62,
 o 8 (.nw [(.str []),(.str []),(.str []),(.str [])] c7),n (.st 4 (t 8) (t 63))]) (Y [1,7,8])) (Q (Q (Q (O [fa 64 0 8,ld 65 64,o 66 (.ar .eql (t 65) (s [])),m 67 66,
 h 68 67 (.fa 0 (t 8)),h 69 67 (.ld none (t 68)),⟨(some 70),(some (67,false)),(.call (.c (.fn (.func cZ) [] [])) [(.t 69),(.c (.str [43]))])⟩,h 71 67 (.un .not
 (t 70)),o 72 (.pk (t 67) T (t 71)),m 73 72,h 74 73 (.fa 1 (t 8)),h 75 73 (.ld none (t 74)),⟨(some 76),(some (73,false)),(.call (.c (.fn (.func cZ) [] []))
 [(.t 75),(.c (.str [43]))])⟩,h 77 73 (.un .not (t 76)),o 78 (.pk (t 73) T (t 77)),m 79 78,h 80 79 (.fa 2 (t 8)),h 81 79 (.ld none (t 80)),⟨(some 82),(some (79,false)),
 (.call (.c (.fn (.func cZ) [] [])) [(.t 81),(.c (.str [43,35,86,67]))])⟩,h 83 79 (.un .not (t 82)),o 84 (.pk (t 79) T (t 83)),m 85 84,h 86 85 (.fa 3 (t 8)),
 h 87 85 (.ld none (t 86)),⟨(some 88),(some (85,false)),(.call (.c (.fn (.func cZ) [] [])) [(.t 87),(.c (.str [43,35,86,67]))])⟩,h 89 85 (.un .not (t 88)),o
 90 (.pk (t 85) T (t 89))]) (Y [1,7,8,90])) (C 90 (Q (O [mc 2 (u 1)]) R) X)) (Q (Q (O [fa 91 0 8,ld 92 91,lt 93 92,o 94 (.ar .gtr (t 93) (i 6)),m 95 94,h 96 95 (.fa 1 (t 8)),
 h 97 95 (.ld none (t 96)),h 98 95 (.len .str (t 97)),h 99 95 (.ar .gtr (t 98) (i 6)),o 100 (.pk (t 95) T (t 99)),m 101 100,h 102 101 (.fa 2 (t 8)),h 103 101 (.ld none (t
 102)),h 104 101 (.len .str (t 103)),h 105 101 (.ar .gtr (t 104) (i 6)),o 106 (.pk (t 101) T (t 105)),m 107 106,h 108 107 (.fa 3 (t 8)),h 109 107 (.ld none (t 108)),h 110 107
 (.len .str (t 109)),h 111 107 (.ar .gtr (t 110) (i 6)),o 112 (.pk (t 107) T (t 111))]) (Y [1,7,112])) (C 112 (Q (O [mc 2 (u 1)]) R) X))))) (O [m 57 7,ad 58 57,m 7 58])))
def iz:AC:=
 (Q (Q (Q (O [m 117 9,fa 118 5 1,ld 119 118,ls 120 119,bl 121 117 120]) (Y [1,9,121])) (C 121 X (.exit 4))) (Q (.block 5 (Q (Q (O [fa 124 5 1,ld 125 124,m 126 9,ia 127 3 125
 126,la 128 3 127,o 10 (.nw [(.str []),(.str []),(.slice .nil 2 [])] qw),n (.st 3 (t 10) (t 128))]) (Y [1,9,10])) (Q (Q (Q (O [la 129 6 1,fa 130 0 10,ld 131 130,k
 132 (f fh) [(t 129),(t 131)],o 133 (.ar .lss (t 132) (i 0))]) (Y [1,9,10,133])) (C 133 (Q (O [mc 2 (u 5)]) R) X)) (Q (Q (Q (O [fa 134 1 10,ld 135 134,k 136
 (f cZ) [(t 135),(s [])],no 137 136,m 138 137,h 139 138 (.fa 1 (t 10)),h 140 138 (.ld none (t 139)),h 141 138 (.len .str (t 140)),h 142 138 (.ar .gtr (t 141)
 (i 6)),o 143 (.pk (t 138) T (t 142))]) (Y [1,9,10,143])) (C 143 (Q (O [mc 2 (u 1)]) R) X)) (Q (Q (O [la 144 6 1,fa 145 2 10,ld 146 145,k 147 (f iR) [(t
 144),(t 146)],m 11 147]) (Y [1,9,11])) (Q (O [m 148 11,o 149 (.ar .neq (t 148) (u 0))]) (C 149 (Q (O [m 150 11,m 2 150]) R) X))))))) (O [m 122 9,ad 123 122,m 9 123])))
def pz:AC:=
 (Q (O [o 1 (.bx au (t 0)),mc 2 (u 0)]) (Q (Q (Q (O [fa 12 0 1,ld 13 12,k 14 (f cZ) [(t 13),(s [])],no 15 14]) (Y [1,15])) (C 15 (Q (O [mc 2 (u 1)])
 R) X)) (Q (Q (O [mc 3 (i 1)]) (Q (.block 0 (.loop ⟨(some [1,3]),[],false⟩ iw)) (Y [1]))) (Q (Q (O [la 33 6 1,k 34 (f nK) [(t 33)],m 4
 34]) (Q (O [m 35 4,o 36 (.ar .neq (t 35) (u 0))]) (C 36 (Q (O [m 37 4,m 2 37]) R) X))) (Q (Q (O [la 38 6 1,k 39 (f mI) [(t 38)],m 5 39]) (Q (O [m 40 5,o 41
 (.ar .neq (t 40) (u 0))]) (C 41 (Q (O [m 42 5,m 2 42]) R) X))) (Q (Q (O [la 43 6 1,k 44 (f mJ) [(t 43)],m 6 44]) (Q (O [m 45 6,o 46 (.ar .neq (t 45) (u
 0))]) (C 46 (Q (O [m 47 6,m 2 47]) R) X))) (Q (Q (Q (O [fa 48 4 1,ld 49 48,ls 50 49,o 51 (.ar .gtr (t 50) (i 16))]) (Y [1,51])) (C 51 (Q (O [mc 2 (u 3)]) R) X)) (Q (Q (O [mc 7
 (i 0)]) (Q (.block 2 (.loop ⟨(some [1,7]),[],true⟩ iy)) (Y [1]))) (Q (Q (Q (O [fa 113 5 1,ld 114 113,ls 115 114,o 116 (.ar .gtr (t 115) (i 8))]) (Y [1,
 116])) (C 116 (Q (O [mc 2 (u 3)]) R) X)) (Q (Q (O [mc 9 (i 0)]) (Q (.block 4 (.loop ⟨(some [1,9]),[],true⟩ iz)) (Y []))) (Q (O [mc 2 (u 0)]) R)))))))))))
def bY:AFn:=⟨pz,151,[.t 2],.drop,[],none⟩
theorem ek:bY.res=[.t 2]∧bY.mode = .drop∧bY.dfr=none:=⟨rfl,rfl,rfl⟩
def qy:AC:=
 (Q (O [o 3 (.bx au (t 0)),o 6 (.nw [(.int .i64 0),(.str []),(.str []),(.slice .nil 2 [])] cj),mc 7 F]) (Q (Q (Q (O [m 9 1,o 10 (.ar .lss (t 9) (i 0)),m 11
 10,h 12 11 (.mv (t 1)),h 13 11 (.fa 3 (t 3)),h 14 11 (.ld none (t 13)),h 15 11 (.len .sl (t 14)),h 16 11 (.ar .geq (t 12) (t 15)),o 17 (.pk (t 11) T (t 16))]) (Y [1,2,3,6,
 17])) (C 17 (Q (O [o 18 (.bd [(.int .i64 0),(.str []),(.str []),(.slice .nil 2 [])] [(0,1),(1,1),(2,1),(3,1)] []),n (.st 4 (t 6) (t 18)),mc 7 F]) R) X)) (Q (Q (D [P (fa
 19 2 3),W (ld 20 19),W (la 21 6 3),P (fa 22 3 3),W (ld 23 22),P (m 24 1),P (ia 25 4 23 24),P (fa 26 1 25),W (ld 27 26),K (k 28 (f fh) [(t 21),(t 27)]),
 P (ia 29 2 20 28),P (fa 30 1 29),W (ld 31 30),P (m 8 31)]) (Y [2,6,8])) (Q (Q (Q (O [m 32 2,o 33 (.ar .lss (t 32) (i 0)),m 34 33,h 35 34 (.mv (t 2)),h 36 34 (.mv (t 8)),h
 37 34 (.len .sl (t 36)),h 38 34 (.ar .geq (t 35) (t 37)),o 39 (.pk (t 34) T (t 38))]) (Y [2,6,8,39])) (C 39 (Q (O [o 40 (.bd [(.int .i64 0),(.str []),(.str []),(.slice .nil
 2 [])] [(0,1),(1,1),(2,1),(3,1)] []),n (.st 4 (t 6) (t 40)),mc 7 F]) R) X)) (Q (Q (O [m 41 8,m 42 2,ia 43 4 41 42,la 44 4 43,n (.st 4 (t 6) (t 44)),mc 7 T]) (Y [6,
 7])) R)))))
def iA:AFn:=⟨qy,45,[.cell 6 (some 4),.t 7],.drop,[],none⟩
theorem jG:iA.res=[.cell 6 (some 4),.t 7]∧iA.mode = .drop∧iA.dfr=none:=⟨rfl,rfl,rfl⟩
def fb:AC:=
 (Q (O [bl 29 28 27]) (Q (C 29 X (.exit 0)) (Q (.block 1 (Q (Q (O [ia 30 4 26 28,la 31 4 30,o 12 (.nw [(.str []),(.str []),(.str []),(.str [])] c7),n (.st 4 (t 12) (t
 31))]) (Y [3,8,10,12,26,27,28])) (Q (Q (Q (O [la 33 6 3,la 34 4 12,m 35 8,k 36 (f nJ) [(t 33),(t 34),(t 35)],m 32 36,ex 37 32 0,ex 38 32 1,m 8 37,
 m 9 38]) (Y [3,8,9,10,26,27,28])) (Q (O [m 39 9,no 40 39]) (C 40 (Q (O [mc 6 (.c (.slice .nil 1 [])),mc 7 F]) R) X))) (Q (O [m 41 10,m 42 8,o 43 (.bs 1 [(.str [])] 1 [(0,
 (t 42))]),o 44 (.ap false bb 1 16 false (t 41) (t 43)),m 10 44]) (Y [3,8,10,26,27,28]))))) (O [ad 45 28,m 28 45]))))
def nT:AC:=
 (Q (Q (O [o 3 (.bx aM (t 0)),o 5 (.bx cj (t 2)),mc 6 (.c (.slice .nil 1 [])),mc 7 F]) (Y [1,3,5])) (Q (Q (O [la 14 6 3,m 15 1,la 16 4 5,k 17 (f
 kn) [(t 14),(t 15),(t 16)],m 13 17,ex 18 13 0,ex 19 13 1,m 8 18,m 9 19]) (Y [3,8,9])) (Q (Q (O [m 20 9,no 21 20]) (C 21 (Q (O [mc 6 (.c (.slice
 .nil 1 [])),mc 7 F]) R) X)) (Q (O [m 22 8,o 23 (.bs 1 [(.str [])] 1 [(0,(t 22))]),m 10 23]) (Q (Q (Q (O [fa 24 0 3,fa 25 4 24,ld 26 25,ls 27 26,mc 28 (i 0)]) (Y [3,8,10,
 26,27,28])) (Q (.block 0 (.loop ⟨(some [3,8,10,26,27,28]),[(10,1,bb)],true⟩ fb)) (Y [10]))) (Q (O [m 46 10,m 6 46,mc 7 T]) R))))))
def de:AFn:=⟨nT,47,[.t 6,.t 7],.drop,[],none⟩
theorem fT:de.res=[.t 6,.t 7]∧de.mode = .drop∧de.dfr=none:=⟨rfl,rfl,rfl⟩
def dG:AC:=
 (Q (Q (Q (O [m 62 13,fa 63 4 3,ld 64 63,ls 65 64,bl 66 62 65]) (Y [3,11,12,13,66])) (C 66 X (.exit 0))) (Q (.block 1 (Q (Q (D [W (la 70 6 3),P (fa 71 4 3),W (ld 72 71),P
 (m 73 13),P (ia 74 4 72 73),W (la 75 4 74),P (m 76 11),E (k 77 (f mK) [(t 70),(t 75),(t 76)]),P (m 69 77),P (ex 78 69 0),P (ex 79 69 1),P (m 11 78),P
 (m 9 79)]) (Y [3,9,11,12,13])) (Q (Q (O [m 80 9,no 81 80]) (C 81 (Q (O [mc 6 (.c (.slice .nil 1 [])),mc 7 F]) R) X)) (Q (O [m 82 12,m 83 11,o 84 (.bs 1 [(.str [])] 1 [(0,(t
 83))]),o 85 (.ap false bb 1 16 false (t 82) (t 84)),m 12 85]) (Y [3,11,12,13]))))) (O [m 67 13,ad 68 67,m 13 68])))
def jq:AC:=
 (Q (O [o 3 (.bx au (t 0)),mc 6 (.c (.slice .nil 1 [])),mc 7 F]) (Q (Q (O [la 15 6 3,m 16 1,m 17 2,k 18 (f jB) [(t 15),(t 16),(t 17)],m 14 18,ex
 19 14 0,ex 20 14 1,o 8 (.nw [(.int .i64 0),(.str []),(.str []),(.slice .nil 2 [])] cj),n (.st 4 (t 8) (t 19)),m 9 20]) (Y [1,3,8,9])) (Q (O [mc 10 (s [])]) (Q (Q
 (O [m 21 9]) (C 21 (Q (O [fa 22 3 3,ld 23 22,m 24 1,ia 25 4 23 24,fa 26 0 25,ld 27 26,m 10 27]) (Y [3,8,9,10])) X)) (Q (Q (Q (O [m 28 9,no 29 28,m 30 29,h 31 30 (.mv (t
 10)),h 32 30 (.len .str (t 31)),h 33 30 (.fa 0 (t 8)),h 34 30 (.ld none (t 33)),h 35 30 (.ar .lss (t 32) (t 34)),o 36 (.pk (t 30) T (t 35))]) (Y [3,8,10,36])) (C 36 (Q (O
 [mc 6 (.c (.slice .nil 1 [])),mc 7 F]) R) X)) (Q (Q (O [m 37 10,m 38 10,lt 39 38,fa 40 0 8,ld 41 40,o 42 (.ar .sub (t 39) (t 41)),o 43 (.sls (t 37) none (some (t 42))),m 11
 43]) (Y [3,8,11])) (Q (Q (O [fa 44 1 8,ld 45 44,o 46 (.ar .neq (t 45) (s []))]) (C 46 (Q (O [fa 47 1 8,ld 48 47,o 49 (.ar .add (t 48) (s [43])),m 50 11,o 51 (.ar .add (t 49)
 (t 50)),m 11 51]) (Y [3,8,11])) X)) (Q (Q (O [fa 52 2 8,ld 53 52,o 54 (.ar .neq (t 53) (s []))]) (C 54 (Q (O [m 55 11,o 56 (.ar .add (t 55) (s [43])),fa 57 2 8,ld 58 57,o
 59 (.ar .add (t 56) (t 58)),m 11 59]) (Y [3,11])) X)) (Q (O [m 60 11,o 61 (.bs 1 [(.str [])] 1 [(0,(t 60))]),m 12 61]) (Q (Q (O [mc 13 (i 0)]) (Q (.block 0 (.loop ⟨(some [3,
 11,12,13]),[(12,1,bb)],false⟩ dG)) (Y [12]))) (Q (O [m 86 12,m 6 86,mc 7 T]) R)))))))))))
def dA:AFn:=⟨jq,87,[.t 6,.t 7],.drop,[],none⟩
theorem cV:dA.res=[.t 6,.t 7]∧dA.mode = .drop∧dA.dfr=none:=⟨rfl,rfl,rfl⟩
def iB:AC:=
 (Q (O [bl 23 22 21]) (Q (C 23 X (.exit 0)) (Q (.block 1 (Q (Q (O [ia 24 2 20 22,la 25 2 24,o 8 (.nw [(.int .i64 0),(.str [])] dQ),n (.st 2 (t 8) (t 25))]) (Y [1,2,
 3,8,20,21,22])) (Q (Q (O [fa 26 0 8,ld 27 26,m 28 2,o 29 (.ar .eql (t 27) (t 28))]) (Y [1,2,3,8,20,21,22,29])) (C 29 (Q (O [fa 30 1 8,ld 31 30,m 6 31]) R) X)))) (O
 [ad 32 22,m 22 32]))))
def pA:AC:=
 (Q (O [o 3 (.bx aM (t 0)),mc 6 (s [])]) (Q (Q (Q (O [fa 14 0 3,fa 15 3 14,ld 16 15,m 17 1,ia 18 4 16 17,fa 19 3 18,ld 20 19,ls 21 20,mc 22 (i 0)]) (Y [1,2,
 3,20,21,22])) (Q (.block 0 (.loop ⟨(some [1,2,3,20,21,22]),[],true⟩ iB)) (Y [1,2,3]))) (Q (Q (O [la 34 6 3,m 35 1,m 36 2,k 37 (f
 kX) [(t 34),(t 35),(t 36)],m 33 37,ex 38 33 0,ex 39 33 1,o 9 (.nw [(.int .i64 0),(.str []),(.str []),(.slice .nil 2 [])] cj),n (.st 4 (t 9) (t
 38)),m 10 39]) (Y [1,3,9])) (Q (Q (O [la 41 6 3,m 42 1,la 43 4 9,k 44 (f km) [(t 41),(t 42),(t 43)],m 40 44,ex 45 40 0,ex 46 40 1,m 11 45,m 12 46])
 (Y [11,12])) (Q (Q (O [m 47 12,no 48 47]) (C 48 (Q (O [mc 6 (s [])]) R) X)) (Q (Q (O [m 49 11,m 50 11,ls 51 50,o 52 (.ar .sub (t 51) (i 1)),ia 53 1 49 52,ld 54 53,k 55 (f
 qt) [(t 54),(s [43]),(s [])],m 13 55]) (Y [13])) (Q (Q (O [m 56 13,lt 57 56,o 58 (.ar .gtr (t 57) (i 24))]) (C 58 (Q (O [mc 6 (s [])]) R) X)) (Q (O [m 59 13,
 m 6 59]) R))))))))
def dB:AFn:=⟨pA,60,[.t 6],.drop,[],none⟩
theorem gA:dB.res=[.t 6]∧dB.mode = .drop∧dB.dfr=none:=⟨rfl,rfl,rfl⟩
def iV:AC:=
 (Q (Q (Q (O [m 31 10,m 32 9,ls 33 32,bl 34 31 33]) (Y [1,2,3,9,10,34])) (C 34 X (.exit 0))) (Q (.block 1 (Q (Q (O [m 37 9,m 38 10,ia 39 2 37 38,fa 40 0 39,ld 41 40,m 42
 2,o 43 (.ar .eql (t 41) (t 42))]) (Y [1,2,3,9,10,43])) (C 43 (Q (Q (O [m 44 9,m 45 10,ia 46 2 44 45,fa 47 1 46,ld 48 47,m 6 48]) (Y [6])) R) X))) (O [m 35 10,ad 36 35,m
 10 36])))
def fU:AC:=
 (Q (Q (Q (O [m 64 15,m 65 13,lt 66 65,bl 67 64 66]) (Y [13,14,15,67])) (C 67 X (.exit 2))) (Q (.block 3 (Q (Q (O [m 70 13,m 71 15,o 72 (.ixs (t 70) (t 71)),o 73 (.ar .neq
 (t 72) (u 43))]) (Y [13,14,15,73])) (C 73 (Q (O [m 74 14,m 75 13,m 76 15,m 77 15,ad 78 77,o 79 (.sls (t 75) (some (t 76)) (some (t 78))),o 80 (.ar .add (t 74) (t 79)),m 14
 80]) (Y [13,14,15])) X))) (O [m 68 15,ad 69 68,m 15 69])))
def jH:AC:=
 (Q (O [o 3 (.bx au (t 0)),mc 6 (s [])]) (Q (Q (Q (O [la 17 6 3,m 18 1,m 19 2,k 20 (f jB) [(t 17),(t 18),(t 19)],m 16 20,ex 21 16 0,ex 22 16 1,
 o 7 (.nw [(.int .i64 0),(.str []),(.str []),(.slice .nil 2 [])] cj),n (.st 4 (t 7) (t 21)),m 8 22]) (Y [1,2,3,8])) (Q (O [m 23 8,no 24 23]) (C 24 (Q (O [mc 6 (s
 [])]) R) X))) (Q (Q (O [fa 25 3 3,ld 26 25,m 27 1,ia 28 4 26 27,fa 29 3 28,ld 30 29,m 9 30]) (Y [1,2,3,9])) (Q (Q (O [mc 10 (i 0)]) (Q (.block 0 (.loop ⟨(some [1,2,3,9,
 10]),[],false⟩ iV)) (Y [1,2,3]))) (Q (Q (O [la 50 6 3,m 51 1,m 52 2,k 53 (f jn) [(t 50),(t 51),(t 52)],m 49 53,ex 54 49 0,ex 55 49
 1,m 11 54,m 12 55]) (Y [11,12])) (Q (Q (O [m 56 12,no 57 56]) (C 57 (Q (O [mc 6 (s [])]) R) X)) (Q (Q (O [m 58 11,m 59 11,ls 60 59,o 61 (.ar .sub (t 60) (i 1)),ia 62 1 58
 61,ld 63 62,m 13 63]) (Y [13])) (Q (O [mc 14 (s [])]) (Q (Q (O [mc 15 (i 0)]) (Q (.block 2 (.loop ⟨(some [13,14,15]),[],false⟩ fU)) (Y [14]))) (Q (Q (O [m
 81 14,lt 82 81,o 83 (.ar .gtr (t 82) (i 24))]) (C 83 (Q (O [mc 6 (s [])]) R) X)) (Q (O [m 84 14,m 6 84]) R)))))))))))
def dq:AFn:=⟨jH,85,[.t 6],.drop,[],none⟩
theorem dt:dq.res=[.t 6]∧dq.mode = .drop∧dq.dfr=none:=⟨rfl,rfl,rfl⟩
def zq:AC:=
 (Q (O [o 1 (.bx au (t 0)),mc 2 (u 0)]) (Q (Q (O [la 4 6 1,o 5 (.bd [(.str []),(.slice .nil 2 []),(.slice .nil 2 []),(.slice .nil 4 []),(.slice .nil 4 []),(.slice
 .nil 3 [])] [(0,6)] [(0,(t 4))]),o 3 (.nw [(.str []),(.slice .nil 2 []),(.slice .nil 2 []),(.slice .nil 4 []),(.slice .nil 4 []),(.slice .nil 3 [])] bw),n (.st
 6 (t 3) (t 5))]) (Y [1,3])) (Q (Q (O [la 6 6 3,o 7 (.mf (.func ko) [(t 6)] []),o 8 (.mf (.func sb) [] [(t 1),(t 3)]),o 9 (.mf (.func
 sc) [] [(t 1),(t 3)]),o 10 (.mf (.func sd) [] [(t 1),(t 3)]),o 11 (.mf (.func se) [] [(t 1),(t 3)]),o 12 (.mf (.func sf) []
 [(t 1),(t 3)]),o 13 (.bs 1 [.nilfn] 6 [(0,(t 7)),(1,(t 8)),(2,(t 9)),(3,(t 10)),(4,(t 11)),(5,(t 12))]),k 14 (f za) [(t 13)],m 2 14]) (Y [2])) R)))
def mj:AFn:=⟨zq,15,[.t 2],.drop,[],none⟩
theorem KT:mj.res=[.t 2]∧mj.mode = .drop∧mj.dfr=none:=⟨rfl,rfl,rfl⟩
def nU:AC:=
 (Q (O [o 2 (.bx aM (t 0)),mc 4 (i 0)]) (Q (Q (D [P (fa 8 0 2),W (la 9 6 8),P (fa 10 0 2),P (fa 11 3 10),W (ld 12 11),P (m 13 1),P (ia 14 4 12 13),P (fa 15 1
 14),W (ld 16 15),W (k 17 (f fO) [(t 9),(t 16)]),P (m 7 17),P (ex 18 7 0),P (ex 19 7 1),K (o 5 (.nw [(.str []),(.slice .nil 4 [])] b5)),E (n (.st 2 (t
 5) (t 18))),P (m 6 19)]) (Y [5])) (Q (Q (O [fa 20 1 5,ld 21 20,ls 22 21,m 4 22]) (Y [4])) R)))
def fV:AFn:=⟨nU,23,[.t 4],.drop,[],none⟩
theorem BB:fV.res=[.t 4]∧fV.mode = .drop∧fV.dfr=none:=⟨rfl,rfl,rfl⟩
def pB:AC:=
 (Q (O [o 2 (.bx au (t 0)),mc 4 (i 0)]) (Q (Q (D [P (fa 5 2 2),W (ld 6 5),W (la 7 6 2),P (fa 8 3 2),W (ld 9 8),P (m 10 1),P (ia 11 4 9 10),P (fa 12 1 11),W (ld 13
 12),K (k 14 (f fh) [(t 7),(t 13)]),P (ia 15 2 6 14),P (fa 16 1 15),W (ld 17 16),W (ls 18 17),P (m 4 18)]) (Y [4])) R))
def gB:AFn:=⟨pB,19,[.t 4],.drop,[],none⟩
theorem Cm:gB.res=[.t 4]∧gB.mode = .drop∧gB.dfr=none:=⟨rfl,rfl,rfl⟩
def pC:AC:=
 (Q (O [o 3 (.bx aM (t 0)),o 6 (.nw [(.int .i64 0),(.str []),(.str []),(.slice .nil 2 [])] cj),mc 7 F]) (Q (Q (Q (O [m 10 1,o 11 (.ar .lss (t 10) (i 0)),
 m 12 11,h 13 12 (.mv (t 1)),h 14 12 (.fa 0 (t 3)),h 15 12 (.fa 3 (t 14)),h 16 12 (.ld none (t 15)),h 17 12 (.len .sl (t 16)),h 18 12 (.ar .geq (t 13) (t 17)),o 19 (.pk (t 12)
 T (t 18))]) (Y [1,2,3,6,19])) (C 19 (Q (O [o 20 (.bd [(.int .i64 0),(.str []),(.str []),(.slice .nil 2 [])] [(0,1),(1,1),(2,1),(3,1)] []),n (.st 4 (t 6) (t 20)),mc 7
 F]) R) X)) (Q (Q (D [P (fa 22 0 3),W (la 23 6 22),P (fa 24 0 3),P (fa 25 3 24),W (ld 26 25),P (m 27 1),P (ia 28 4 26 27),P (fa 29 1 28),W (ld 30 29),W (k 31 (f
 fO) [(t 23),(t 30)]),P (m 21 31),P (ex 32 21 0),P (ex 33 21 1),K (o 8 (.nw [(.str []),(.slice .nil 4 [])] b5)),E (n (.st 2 (t 8) (t 32))),P (m 9 33)])
 (Y [2,6,8])) (Q (Q (Q (O [m 34 2,o 35 (.ar .lss (t 34) (i 0)),m 36 35,h 37 36 (.mv (t 2)),h 38 36 (.fa 1 (t 8)),h 39 36 (.ld none (t 38)),h 40 36 (.len .sl (t 39)),h 41 36
 (.ar .geq (t 37) (t 40)),o 42 (.pk (t 36) T (t 41))]) (Y [2,6,8,42])) (C 42 (Q (O [o 43 (.bd [(.int .i64 0),(.str []),(.str []),(.slice .nil 2 [])] [(0,1),(1,1),(2,1),
 (3,1)] []),n (.st 4 (t 6) (t 43)),mc 7 F]) R) X)) (Q (Q (O [fa 44 1 8,ld 45 44,m 46 2,ia 47 4 45 46,la 48 4 47,n (.st 4 (t 6) (t 48)),mc 7 T]) (Y [6,7])) R)))))
def fi:AFn:=⟨pC,49,[.cell 6 (some 4),.t 7],.drop,[],none⟩
theorem fj:fi.res=[.cell 6 (some 4),.t 7]∧fi.mode = .drop∧fi.dfr=none:=⟨rfl,rfl,rfl⟩
def jl:AC:=
 (Q (O [mc 4 F]) (Q (Q (O [m 5 0,m 6 1,k 7 (f j0) [(t 5),(t 6)],o 8 (.ar .geq (t 7) (i 0)),m 4 8]) (Y [4])) R))
def cq:AFn:=⟨jl,9,[.t 4],.drop,[],none⟩
theorem uh:cq.res=[.t 4]∧cq.mode = .drop∧cq.dfr=none:=⟨rfl,rfl,rfl⟩
def rH:AC:=
 (Q (O [bl 9 8 7]) (Q (C 9 X (.exit 0)) (Q (.block 1 (Q (O [m 10 8,m 5 10]) (Q (Q (O [m 11 1,m 12 0,m 13 5,o 14 (.ixs (t 12) (t 13)),k 15 (t 11) [(t 14)],no 16 15]) (Y [0,1,
 7,8,16])) (C 16 (Q (O [mc 4 F]) R) X)))) (O [ad 17 8,m 8 17]))))
def Dc:AC:=
 (Q (O [mc 4 F]) (Q (Q (O [m 6 0,lt 7 6,mc 8 (i 0)]) (Q (.block 0 (.loop ⟨(some [0,1,7,8]),[],false⟩ rH)) (Y []))) (Q (O [mc 4 T]) R)))
def fe:AFn:=⟨Dc,18,[.t 4],.drop,[],none⟩
def xh:AC:=
 (Q (O [mc 2 F]) (Q (Q (O [m 3 0,k 4 (f cM) [(t 3)],m 5 4,h 6 5 (.mv (t 0)),h 7 5 (.ar .eql (t 6) (u 43)),o 8 (.pk (t 5) T (t 7)),m 2 8]) (Y [2])) R))
def kM:AFn:=⟨xh,9,[.t 2],.drop,[],none⟩
theorem JN:kM.res=[.t 2]∧kM.mode = .drop∧kM.dfr=none:=⟨rfl,rfl,rfl⟩
def dW:AC:=
 (Q (Q (Q (O [m 10 9,m 11 2,lt 12 11,bl 13 10 12]) (Y [2,3,4,8,9,13])) (C 13 X (.exit 0))) (.block 1 (Q (Q (D [P (m 14 2),P (m 15 9),P (o 16 (.sls (t 14) (some (t 15))
 none)),P (fa 17 0 4),W (ld 18 17),E (k 19 (f ri) [(t 16),(t 18)]),P (m 20 19),W (g 21 20 (.ld (some 6) (t 3))),P (g 22 20 (.fa 2 (t 4))),W (g 23 20 (.ld
 none (t 22))),P (g 24 20 (.mv (t 2))),P (g 25 20 (.mv (t 9))),E (⟨(some 26),(some (20,true)),(.call (.c (.fn (.func ph) [] [])) [(.t 21),(.t 23),(.t 24),
 (.t 25)])⟩),P (o 27 (.pk (t 20) (t 26) F)),P (m 28 27),W (g 29 28 (.ld (some 6) (t 3))),P (g 30 28 (.fa 3 (t 4))),W (g 31 28 (.ld none (t 30))),P (g 32 28 (.mv (t 2))),P (g
 33 28 (.mv (t 9))),P (g 34 28 (.fa 0 (t 4))),W (g 35 28 (.ld none (t 34))),W (g 36 28 (.len .str (t 35))),P (g 37 28 (.ar .add (t 33) (t 36))),E (⟨(some 38),(some (28,true)),
 (.call (.c (.fn (.func nL) [] [])) [(.t 29),(.t 31),(.t 32),(.t 37)])⟩),P (o 39 (.pk (t 28) (t 38) F))]) (Y [2,3,4,8,9,39])) (C 39 (Q (O [fa 40 1 4,ld
 41 40,k 42 (f aE) [(t 8),(t 41)]]) (Q (O [m 43 9,fa 44 0 4,ld 45 44,lt 46 45,o 47 (.ar .add (t 43) (t 46)),m 9 47]) (Y [2,3,4,8,9]))) (Q (Q (O
 [m 48 2,m 49 9,o 50 (.ixs (t 48) (t 49)),k 51 (f fq) [(t 8),(t 50)]]) (Y [2,3,4,8,9])) (O [m 52 9,ad 53 52,m 9 53]))))))
def nV:AC:=
 (Q (Q (O [o 3 (.bx aM (t 0)),o 4 (.bx c7 (t 1)),mc 6 (s []),mc 7 F]) (Y [2,3,4])) (Q (O [o 8 (.nwb [.nilp,(.slice .nil 1 [])] bu 1
 dN)]) (Q (Q (O [mc 9 (i 0)]) (Q (.block 0 (.loop ⟨(some [2,3,4,8,9]),[],false⟩ dW)) (Y [8]))) (Q (Q (O [k 54 (f dn) [(t 8)],k
 55 (f pj) [(t 8)],o 56 (.ar .leq (t 55) (i 512)),m 6 54,m 7 56]) (Y [6,7])) R))))
def dg:AFn:=⟨nV,57,[.t 6,.t 7],.drop,[],none⟩
theorem eM:dg.res=[.t 6,.t 7]∧dg.mode = .drop∧dg.dfr=none:=⟨rfl,rfl,rfl⟩
def xi:AC:=
 (Q (O [mc 2 F]) (Q (Q (O [m 3 0,k 4 (f cM) [(t 3)],m 5 4,h 6 5 (.mv (t 0)),h 7 5 (.ar .geq (t 6) (u 65)),h 8 5 (.mv (t 7)),g 9 8 (.mv (t 0)),g 10 8 (.ar .leq (t
 9) (u 90)),h 11 5 (.pk (t 8) (t 10) F),o 12 (.pk (t 5) T (t 11)),m 2 12]) (Y [2])) R))
def iW:AFn:=⟨xi,13,[.t 2],.drop,[],none⟩
def xj:AC:=
 (Q (O [mc 2 F]) (Q (Q (O [m 3 0,o 4 (.ar .geq (t 3) (u 97)),m 5 4,g 6 5 (.mv (t 0)),g 7 5 (.ar .leq (t 6) (u 122)),o 8 (.pk (t 5) (t 7) F),m 2 8]) (Y [2])) R))
def gF:AFn:=⟨xj,9,[.t 2],.drop,[],none⟩
def xk:AC:=
 (Q (O [mc 3 F]) (Q (Q (O [ld 4 1,m 5 0,k 6 (t 4) [(t 5)],m 7 6,h 8 7 (.mv (t 0)),h 9 7 (.ar .geq (t 8) (u 48)),h 10 7 (.mv (t 9)),g 11 10 (.mv (t 0)),g 12 10 (.ar .leq (t
 11) (u 57)),h 13 7 (.pk (t 10) (t 12) F),o 14 (.pk (t 7) T (t 13)),m 15 14,h 16 15 (.mv (t 0)),h 17 15 (.ar .eql (t 16) (u 95)),o 18 (.pk (t 15) T (t 17)),m 3 18]) (Y [3]))
 R))
def jI:AFn:=⟨xk,19,[.t 3],.drop,[],none⟩
def xl:AC:=
 (Q (O [mc 2 F]) (Q (Q (O [m 3 0,o 4 (.ar .geq (t 3) (u 33)),m 5 4,g 6 5 (.mv (t 0)),g 7 5 (.ar .leq (t 6) (u 126)),o 8 (.pk (t 5) (t 7) F),m 2 8]) (Y [2])) R))
def jJ:AFn:=⟨xl,9,[.t 2],.drop,[],none⟩
def vG:AC:=
 (Q (O [o 2 (.bx aR (t 0)),mc 3 F]) (Q (Q (O [ld 4 1,o 5 (.mf (.func p7) [] [(t 2)]),k 6 (f bM) [(t 4),(t 5)],m 3 6])
 (Y [3])) R))
def j1:AFn:=⟨vG,7,[.t 3],.drop,[],none⟩
theorem Iy:j1.res=[.t 3]∧j1.mode = .drop∧j1.dfr=none:=⟨rfl,rfl,rfl⟩
def tt:AC:=
 (Q (O [o 2 (.bx aR (t 0)),mc 3 F]) (Q (Q (O [fa 4 0 1,ld 5 4,fa 6 0 2,ld 7 6,o 8 (.ar .eql (t 5) (t 7)),m 9 8,g 10 9 (.fa 1 (t 1)),g 11 9 (.ld none (t 10)),g 12 9
 (.fa 1 (t 2)),g 13 9 (.ld none (t 12)),g 14 9 (.ar .neq (t 11) (t 13)),o 15 (.pk (t 9) (t 14) F),m 3 15]) (Y [3])) R))
def iX:AFn:=⟨tt,16,[.t 3],.drop,[],none⟩
theorem Gi:iX.res=[.t 3]∧iX.mode = .drop∧iX.dfr=none:=⟨rfl,rfl,rfl⟩
def gG:AC:=
 (Q (O [bl 12 11 10]) (Q (C 12 X (.exit 0)) (Q (.block 1 (Q (O [ia 13 1 9 11,ld 14 13,m 5 14]) (Q (Q (O [m 15 3,m 16 5,ls 17 16,o 18 (.ar .add (t 15) (t 17)),m 3 18]) (Y [0,3,
 9,10,11])) (Q (O [m 19 3,o 20 (.ar .lss (t 19) (i 0))]) (C 20 (O [o 21 (.mi bb (s [108,101,110,32,111,117,116,32,111,102,32,114,97,110,103,101])),⟨none,
 none,(.panic (.t 21))⟩]) X))))) (O [ad 22 11,m 11 22]))))
def gH:AC:=
 (Q (O [bl 28 27 26]) (Q (C 28 X (.exit 2)) (Q (.block 3 (Q (O [ia 29 1 25 27,ld 30 29,m 8 30]) (Q (O [m 31 6,m 32 8,o 33 (.ap true aR 2 32 false (t 31) (t 32)),m 6 33])
 (Y [6,25,26,27])))) (O [ad 34 27,m 27 34]))))
def dL:AC:=
 (Q (O [mc 2 (.c (.slice .nil 2 []))]) (Q (O [mc 3 (i 0)]) (Q (Q (O [m 9 0,ls 10 9,mc 11 (i 0)]) (Q (.block 0 (.loop ⟨(some [0,3,9,10,11]),[],false⟩
 gG)) (Y [0,3]))) (Q (O [m 23 3,k 24 (f fC) [(.c (.slice .nil 2 [])),(t 23)],m 6 24]) (Q (Q (O [m 25 0,ls 26 25,mc
 27 (i 0)]) (Q (.block 2 (.loop ⟨(some [6,25,26,27]),[],false⟩ gH)) (Y [6]))) (Q (O [m 35 6,m 2 35]) R))))))
def cL:AFn:=⟨dL,36,[.t 2],.keep,[13],none⟩
theorem lu:cL.res=[.t 2]∧cL.mode = .keep∧cL.dfr=none:=⟨rfl,rfl,rfl⟩
def Iz:AC:=
 (Q (O [o 2 (.bx aR (t 0)),o 3 (.bx aR (t 1)),mc 4 (i 0)]) (Q (Q (O [fa 5 0 2,ld 6 5,fa 7 0 3,ld 8 7,k 9 (f Gc) [(t 6),(t 8)],m 4 9]) (Y [4]))
 R))
def B4:AFn:=⟨Iz,10,[.t 4],.drop,[],none⟩
def Gj:AC:=
 (Q (O [mc 4 (i 0)]) (Q (Q (O [m 5 0,m 6 1,k 7 (f tl) [(t 5),(t 6)],m 4 7]) (Y [4])) R))
def yQ:AFn:=⟨Gj,8,[.t 4],.drop,[],none⟩
def b9:AC:=
 (Q (Q (Q (O [m 29 5,m 30 4,ls 31 30,bl 32 29 31]) (Y [0,3,4,5,32])) (C 32 X (.exit 2))) (Q (.block 3 (Q (Q (D [P (m 35 4),P (m 36 5),P (ia 37 2 35 36),W (la 38 2 37),P (m
 39 4),P (m 40 5),P (o 41 (.ar .sub (t 40) (i 1))),P (ia 42 2 39 41),W (la 43 2 42),P (o 44 (.eq true (.st [(0,.str),(1,.str)]) (t 38) (t 43)))]) (Y [0,3,4,5,44])) (C 44
 (Q (Q (O [m 45 0,m 46 3,m 47 4,m 48 5,ia 49 2 47 48,la 50 2 49,ia 51 2 45 46,n (.st 2 (t 51) (t 50))]) (Y [0,3,4,5])) (O [m 52 3,ad 53 52,m 3 53])) X))) (O [m 33 5,ad
 34 33,m 5 34])))
def cf:AC:=
 (Q (Q (Q (O [m 10 3,m 11 0,ls 12 11,bl 13 10 12]) (Y [0,3,13])) (C 13 X (.exit 0))) (Q (Q (.block 1 (Q (Q (D [P (m 16 0),P (m 17 3),P (ia 18 2 16 17),W (la 19 2 18),P (m 20
 0),P (m 21 3),P (o 22 (.ar .sub (t 21) (i 1))),P (ia 23 2 20 22),W (la 24 2 23),P (o 25 (.eq false (.st [(0,.str),(1,.str)]) (t 19) (t 24)))]) (Y [0,3,25])) (C 25 (Q (Q (O
 [m 26 0,m 27 3,o 28 (.sll 2 (t 26) (some (t 27)) none none),m 4 28]) (Y [0,3,4])) (Q (Q (O [mc 5 (i 1)]) (Q (.block 2 (.loop ⟨(some [0,3,4,5]),[],false⟩
 b9)) (Y [0,3]))) (Q (Q (O [m 54 0,m 55 3,o 56 (.sll 2 (t 54) (some (t 55)) none none),n (.cl 2 [(.str []),(.str [])] (t 56))]) (Y [0,3])) (Q
 (Q (O [m 57 0,m 58 3,o 59 (.sll 2 (t 57) none (some (t 58)) none),m 2 59]) (Y [2])) R)))) X))) (Y [0,3])) (O [m 14 3,ad 15 14,m 3 15])))
def bO:AC:=
 (Q (O [mc 2 (.c (.slice .nil 2 []))]) (Q (Q (O [m 6 0,ls 7 6,o 8 (.ar .lss (t 7) (i 2))]) (C 8 (Q (O [m 9 0,m 2 9]) R) X)) (Q (Q (O [mc 3 (i 1)]) (Q (.block 0 (.loop ⟨(some [0,
 3]),[],false⟩ cf)) (Y [0]))) (Q (O [m 60 0,m 2 60]) R))))
def aN:AFn:=⟨bO,61,[.t 2],.drop,[],none⟩
theorem a6:aN.res=[.t 2]∧aN.mode = .drop∧aN.dfr=none:=⟨rfl,rfl,rfl⟩
def cO:AC:=
 (Q (O [bl 9 8 7]) (Q (C 9 X (.exit 0)) (Q (.block 1 (Q (O [m 10 8,m 5 10]) (Q (Q (O [m 11 1,m 12 0,m 13 5,ia 14 2 12 13,la 15 2 14,k 16 (t 11) [(t 15)]]) (Y [0,1,5,7,8,
 16])) (C 16 (Q (O [m 17 5,m 4 17]) R) X)))) (O [ad 18 8,m 8 18]))))
def gj:AC:=
 (Q (O [mc 4 (i 0)]) (Q (Q (O [m 6 0,ls 7 6,mc 8 (i 0)]) (Q (.block 0 (.loop ⟨(some [0,1,7,8]),[],false⟩ cO)) (Y []))) (Q (O [mc 4 (i
 (-1))]) R)))
def aO:AFn:=⟨gj,19,[.t 4],.drop,[],none⟩
theorem gk:aO.res=[.t 4]∧aO.mode = .drop∧aO.dfr=none:=⟨rfl,rfl,rfl⟩
def sm:AC:=
 (Q (O [bl 9 8 7]) (Q (C 9 X (.exit 0)) (Q (.block 1 (Q (O [m 10 8,m 5 10]) (Q (Q (D [W (la 11 2 3),P (m 12 0),P (m 13 5),P (ia 14 2 12 13),W (la 15 2 14),P (o 16 (.eq false
 (.st [(0,.str),(1,.str)]) (t 11) (t 15)))]) (Y [0,3,5,7,8,16])) (C 16 (Q (O [m 17 5,m 4 17]) R) X)))) (O [ad 18 8,m 8 18]))))
def tu:AC:=
 (Q (O [o 3 (.bx aR (t 1)),mc 4 (i 0)]) (Q (Q (O [m 6 0,ls 7 6,mc 8 (i 0)]) (Q (.block 0 (.loop ⟨(some [0,3,7,8]),[],false⟩ sm)) (Y
 []))) (Q (O [mc 4 (i (-1))]) R)))
def iY:AFn:=⟨tu,19,[.t 4],.drop,[],none⟩
def jK:AC:=
 (Q (Q (Q (O [m 18 7,m 19 1,lt 20 19,bl 21 18 20]) (Y [0,1,5,6,7,21])) (C 21 X (.exit 2))) (Q (.block 3 (Q (D [P (m 24 6),P (m 25 24),P (h 26 25 (.mv (t 0))),P (h 27 25
 (.mv (t 5))),P (h 28 25 (.ixs (t 26) (t 27))),P (h 29 25 (.mv (t 1))),P (h 30 25 (.mv (t 7))),P (h 31 25 (.ixs (t 29) (t 30))),P (h 32 25 (.ar .eql (t 28) (t 31))),P (o 33
 (.pk (t 25) T (t 32))),P (m 6 33)]) (Y [0,1,5,6,7]))) (O [m 22 7,ad 23 22,m 7 23])))
def jL:AC:=
 (Q (Q (Q (O [m 8 5,m 9 0,lt 10 9,bl 11 8 10]) (Y [0,1,5,11])) (C 11 X (.exit 0))) (Q (Q (.block 1 (Q (Q (O [m 14 0,m 15 5,o 16 (.ixs (t 14) (t 15)),k 17 (f
 fQ) [(t 16)],m 6 17]) (Y [0,1,5,6])) (Q (Q (O [mc 7 (i 0)]) (Q (.block 2 (.loop ⟨(some [0,1,5,6,7]),[],false⟩ jK)) (Y [0,1,5,6])))
 (Q (O [m 34 6,no 35 34]) (C 35 (Q (O [mc 4 F]) R) X))))) (Y [0,1,5])) (O [m 12 5,ad 13 12,m 5 13])))
def sn:AC:=
 (Q (O [mc 4 F]) (Q (Q (O [mc 5 (i 0)]) (Q (.block 0 (.loop ⟨(some [0,1,5]),[],false⟩ jL)) (Y []))) (Q (O [mc 4 T]) R)))
def aW:AFn:=⟨sn,36,[.t 4],.drop,[],none⟩
def gI:AC:=
 (Q (Q (Q (O [m 44 5,fa 45 1 4,ld 46 45,ls 47 46,bl 48 44 47]) (Y [1,3,4,5,48])) (C 48 X (.exit 3))) (Q (.block 4 (Q (Q (Q (O [fa 51 1 4,ld 52 51,m 53 5,ia 54 1 52 53,ld
 55 54,k 56 (f jE) [(t 55)],no 57 56]) (Y [1,3,4,5,57])) (C 57 (Q (O [mc 2 (u 5)]) R) X)) (Q (Q (D [P (fa 58 1 4),W (ld 59 58),P (m 60 5),P (o 61 (.sll 1
 (t 59) none (some (t 60)) none)),P (fa 62 1 4),W (ld 63 62),P (m 64 5),P (ia 65 1 63 64),W (ld 66 65),E (k 67 (f nM) [(t 61),(t 66)])]) (Y [1,3,4,5,67]))
 (C 67 (Q (O [mc 2 (u 6)]) R) X)))) (O [m 49 5,ad 50 49,m 5 50])))
def gJ:AC:=
 (Q (Q (Q (O [m 10 3,fa 11 1 1,ld 12 11,ls 13 12,bl 14 10 13]) (Y [1,3,14])) (C 14 X (.exit 0))) (Q (Q (.block 1 (Q (Q (O [fa 17 1 1,ld 18 17,m 19 3,ia 20 2 18 19,la 21 2
 20,o 4 (.nw [(.str []),(.slice .nil 1 [])] gr),n (.st 2 (t 4) (t 21))]) (Y [1,3,4])) (Q (.block 2 (Q (Q (O [fa 23 0 4,ld 24 23,k 25 (f jE) [(t
 24)],no 26 25,m 22 26]) (Y [1,3,4,22])) (C 22 (Q (O [mc 2 (u 5)]) R) (Q (Q (O [la 28 6 1,fa 29 0 4,ld 30 29,k 31 (f k9) [(t 28),(t 30)],m 32 3,bl 33 31
 32,m 27 33]) (Y [1,3,4,27])) (C 27 (Q (O [mc 2 (u 6)]) R) (Q (Q (O [fa 35 1 4,ld 36 35,ls 37 36,o 38 (.ar .gtr (t 37) (i 8)),m 34 38]) (Y [1,3,4,34])) (C 34 (Q (O [mc 2
 (u 3)]) R) (Q (Q (O [fa 40 1 4,ld 41 40,ls 42 41,o 43 (.ar .eql (t 42) (i 0)),m 39 43]) (Y [1,3,4,39])) (C 39 (Q (O [mc 2 (u 1)]) R) X))))))))) (Q (O [mc 5 (i 0)]) (Q (.block
 3 (.loop ⟨(some [1,3,4,5]),[],false⟩ gI)) (Y [1,3])))))) (Y [1,3])) (O [m 15 3,ad 16 15,m 3 16])))
def nW:AC:=
 (Q (O [o 1 (.bx au (t 0)),mc 2 (u 0)]) (Q (Q (Q (O [fa 6 1 1,ld 7 6,ls 8 7,o 9 (.ar .gtr (t 8) (i 8))]) (Y [1,9])) (C 9 (Q (O [mc 2 (u 3)]) R) X)) (Q (Q (O [mc 3 (i
 0)]) (Q (.block 0 (.loop ⟨(some [1,3]),[],true⟩ gJ)) (Y []))) (Q (O [mc 2 (u 0)]) R))))
def cF:AFn:=⟨nW,68,[.t 2],.drop,[],none⟩
theorem iZ:cF.res=[.t 2]∧cF.mode = .drop∧cF.dfr=none:=⟨rfl,rfl,rfl⟩
def fY:AC:=
 (Q (Q (Q (O [m 46 5,fa 47 1 4,ld 48 47,ls 49 48,bl 50 46 49]) (Y [1,3,4,5,50])) (C 50 X (.exit 3))) (Q (.block 4 (Q (Q (O [fa 53 1 4,ld 54 53,m 55 5,ia 56 4 54 55,la 57
 4 56,o 6 (.nw [(.int .i64 0),(.str []),(.str []),(.slice .nil 2 [])] cj),n (.st 4 (t 6) (t 57))]) (Y [1,3,4,5,6])) (Q (Q (Q (O [fa 58 0 6,ld 59 58,o 60 (.ar .lss
 (t 59) (i 0)),m 61 60,h 62 61 (.fa 0 (t 6)),h 63 61 (.ld none (t 62)),h 64 61 (.ar .gtr (t 63) (i 24)),o 65 (.pk (t 61) T (t 64)),m 66 65,h 67 66 (.fa 1 (t 6)),h 68 66 (.ld
 none (t 67)),⟨(some 69),(some (66,false)),(.call (.c (.fn (.func cZ) [] [])) [(.t 68),(.c (.str []))])⟩,h 70 66 (.un .not (t 69)),o 71 (.pk (t 66) T (t 70)),
 m 72 71,h 73 72 (.fa 1 (t 6)),h 74 72 (.ld none (t 73)),h 75 72 (.len .str (t 74)),h 76 72 (.ar .gtr (t 75) (i 6)),o 77 (.pk (t 72) T (t 76)),m 78 77,h 79 78 (.fa 2 (t 6)),h
 80 78 (.ld none (t 79)),⟨(some 81),(some (78,false)),(.call (.c (.fn (.func cZ) [] [])) [(.t 80),(.c (.str []))])⟩,h 82 78 (.un .not (t 81)),o 83 (.pk (t 78)
 T (t 82)),m 84 83,h 85 84 (.fa 2 (t 6)),h 86 84 (.ld none (t 85)),h 87 84 (.len .str (t 86)),h 88 84 (.ar .gtr (t 87) (i 6)),o 89 (.pk (t 84) T (t 88))]) (Y [1,3,4,5,6,
 89])) (C 89 (Q (O [mc 2 (u 1)]) R) X)) (Q (Q (O [la 90 6 1,fa 91 3 6,ld 92 91,k 93 (f iR) [(t 90),(t 92)],m 7 93]) (Y [1,3,4,5,7])) (Q (O [m 94 7,o 95
 (.ar .neq (t 94) (u 0))]) (C 95 (Q (O [m 96 7,m 2 96]) R) X)))))) (O [m 51 5,ad 52 51,m 5 52])))
def fZ:AC:=
 (Q (Q (Q (O [m 12 3,fa 13 2 1,ld 14 13,ls 15 14,bl 16 12 15]) (Y [1,3,16])) (C 16 X (.exit 0))) (Q (Q (.block 1 (Q (Q (O [fa 19 2 1,ld 20 19,m 21 3,ia 22 2 20 21,la 23 2
 22,o 4 (.nw [(.str []),(.slice .nil 4 [])] b5),n (.st 2 (t 4) (t 23))]) (Y [1,3,4])) (Q (.block 2 (Q (Q (O [fa 25 0 4,ld 26 25,k 27 (f jE) [(t
 26)],no 28 27,m 24 28]) (Y [1,3,4,24])) (C 24 (Q (O [mc 2 (u 5)]) R) (Q (Q (O [la 30 6 1,fa 31 0 4,ld 32 31,k 33 (f fh) [(t 30),(t 32)],m 34 3,bl 35 33
 34,m 29 35]) (Y [1,3,4,29])) (C 29 (Q (O [mc 2 (u 6)]) R) (Q (Q (O [fa 37 1 4,ld 38 37,ls 39 38,o 40 (.ar .gtr (t 39) (i 24)),m 36 40]) (Y [1,3,4,36])) (C 36 (Q (O [mc 2
 (u 3)]) R) (Q (Q (O [fa 42 1 4,ld 43 42,ls 44 43,o 45 (.ar .eql (t 44) (i 0)),m 41 45]) (Y [1,3,4,41])) (C 41 (Q (O [mc 2 (u 1)]) R) X))))))))) (Q (O [mc 5 (i 0)]) (Q (.block
 3 (.loop ⟨(some [1,3,4,5]),[],true⟩ fY)) (Y [1,3])))))) (Y [1,3])) (O [m 17 3,ad 18 17,m 3 18])))
def mP:AC:=
 (Q (O [o 1 (.bx au (t 0)),mc 2 (u 0)]) (Q (Q (Q (O [fa 8 2 1,ld 9 8,ls 10 9,o 11 (.ar .gtr (t 10) (i 16))]) (Y [1,11])) (C 11 (Q (O [mc 2 (u 3)]) R) X)) (Q (Q (O [mc
 3 (i 0)]) (Q (.block 0 (.loop ⟨(some [1,3]),[],true⟩ fZ)) (Y []))) (Q (O [mc 2 (u 0)]) R))))
def ct:AFn:=⟨mP,97,[.t 2],.drop,[],none⟩
theorem iC:ct.res=[.t 2]∧ct.mode = .drop∧ct.dfr=none:=⟨rfl,rfl,rfl⟩
def ga:AC:=
 (Q (Q (O [m 41 6,m 42 3,bl 43 41 42]) (C 43 X (.exit 2))) (Q (.block 3 (Q (Q (D [P (fa 46 3 1),W (ld 47 46),P (m 48 6),P (ia 49 4 47 48),P (fa 50 0 49),W (ld 51 50),P (fa 52
 0 4),W (ld 53 52),P (o 54 (.ar .eql (t 51) (t 53))),P (m 55 54),P (g 56 55 (.fa 3 (t 1))),W (g 57 55 (.ld none (t 56))),P (g 58 55 (.mv (t 6))),P (g 59 55 (.ias 4 (t 57) (t
 58))),P (g 60 55 (.fa 1 (t 59))),W (g 61 55 (.ld none (t 60))),P (g 62 55 (.fa 1 (t 4))),W (g 63 55 (.ld none (t 62))),P (g 64 55 (.ar .eql (t 61) (t 63))),P (o 65 (.pk (t 55)
 (t 64) F))]) (Y [1,3,4,5,6,65])) (C 65 (Q (O [mc 2 (u 6)]) R) X))) (O [m 44 6,ad 45 44,m 6 45])))
def gb:AC:=
 (Q (Q (Q (O [m 79 9,m 80 8,ls 81 80,bl 82 79 81]) (Y [1,3,4,8,9,82])) (C 82 X (.exit 4))) (Q (.block 5 (Q (Q (D [P (fa 86 2 4),W (ld 87 86),P (m 88 8),P (m 89 9),P (ia
 90 4 88 89),P (fa 91 3 90),W (ld 92 91),E (k 93 (f kV) [(t 87),(t 92)]),P (m 85 93),P (ex 94 85 0),P (ex 95 85 1),P (m 10 94),P (m 11 95)]) (Y [1,3,4,
 8,9,11])) (Q (O [m 96 11,no 97 96]) (C 97 (Q (O [mc 2 (u 10)]) R) X)))) (O [m 83 9,ad 84 83,m 9 84])))
def gd:AC:=
 (Q (Q (O [m 120 14,m 121 12,bl 122 120 121]) (C 122 X (.exit 8))) (Q (.block 9 (Q (Q (D [P (fa 125 3 4),W (ld 126 125),P (m 127 14),P (ia 128 2 126 127),P (fa 129 0 128),W
 (ld 130 129),P (fa 131 0 13),W (ld 132 131),P (o 133 (.ar .eql (t 130) (t 132)))]) (Y [1,3,4,8,12,13,14,133])) (C 133 (Q (O [mc 2 (u 6)]) R) X))) (O [m 123 14,ad 124 123,
 m 14 124])))
def gf:AC:=
 (Q (Q (Q (O [m 98 12,fa 99 3 4,ld 100 99,ls 101 100,bl 102 98 101]) (Y [1,3,4,8,12,102])) (C 102 X (.exit 6))) (Q (Q (.block 7 (Q (Q (O [fa 105 3 4,ld 106 105,m 107 12,
 ia 108 2 106 107,la 109 2 108,o 13 (.nw [(.int .i64 0),(.str [])] dQ),n (.st 2 (t 13) (t 109))]) (Y [1,3,4,8,12,13])) (Q (Q (Q (O [fa 110 0 13,ld 111 110,o
 112 (.ar .lss (t 111) (i 0)),m 113 112,h 114 113 (.fa 0 (t 13)),h 115 113 (.ld none (t 114)),h 116 113 (.mv (t 8)),h 117 113 (.len .sl (t 116)),h 118 113 (.ar .geq (t 115) (t
 117)),o 119 (.pk (t 113) T (t 118))]) (Y [1,3,4,8,12,13,119])) (C 119 (Q (O [mc 2 (u 7)]) R) X)) (Q (Q (O [mc 14 (i 0)]) (Q (.block 8 (.loop ⟨(some [1,3,4,8,12,13,14]),
 [],false⟩ gd)) (Y [1,3,4,8,12,13]))) (Q (Q (O [fa 134 1 13,ld 135 134,o 136 (.ar .neq (t 135) (s [])),m 137 136,g 138 137 (.fa 1 (t 13)),g 139 137
 (.ld none (t 138)),⟨(some 140),(some (137,true)),(.call (.c (.fn (.func jo) [] [])) [(.t 139)])⟩,g 141 137 (.un .not (t 140)),o 142 (.pk (t 137) (t 141)
 F)]) (Y [1,3,4,8,12,142])) (C 142 (Q (O [mc 2 (u 1)]) R) X)))))) (Y [1,3,4,8,12])) (O [m 103 12,ad 104 103,m 12 104])))
def dO:AC:=
 (Q (Q (Q (O [m 19 3,fa 20 3 1,ld 21 20,ls 22 21,bl 23 19 22]) (Y [1,3,23])) (C 23 X (.exit 0))) (Q (Q (.block 1 (Q (Q (O [fa 26 3 1,ld 27 26,m 28 3,ia 29 4 27 28,la 30 4
 29,o 4 (.nw [(.str []),(.str []),(.slice .nil 2 []),(.slice .nil 2 [])] b6),n (.st 4 (t 4) (t 30))]) (Y [1,3,4])) (Q (Q (Q (O [fa 31 0 4,ld 32 31,k 33 (f
 jo) [(t 32)],no 34 33]) (Y [1,3,4,34])) (C 34 (Q (O [mc 2 (u 1)]) R) X)) (Q (Q (O [la 35 6 1,fa 36 1 4,ld 37 36,k 38 (f fh) [(t 35),(t
 37)],m 5 38]) (Y [1,3,4,5])) (Q (Q (O [m 39 5,o 40 (.ar .lss (t 39) (i 0))]) (C 40 (Q (O [mc 2 (u 5)]) R) X)) (Q (Q (O [mc 6 (i 0)]) (Q (.block 2 (.loop ⟨(some [1,3,4,5,
 6]),[],false⟩ ga)) (Y [1,3,4,5]))) (Q (Q (Q (O [la 66 6 1,fa 67 2 4,ld 68 67,k 69 (f iR) [(t 66),(t 68)],m 7 69]) (Y [1,3,4,
 5,7])) (Q (O [m 70 7,o 71 (.ar .neq (t 70) (u 0))]) (C 71 (Q (O [m 72 7,m 2 72]) R) X))) (Q (Q (O [fa 73 2 1,ld 74 73,m 75 5,ia 76 2 74 75,fa 77 1 76,ld 78 77,m 8 78]) (Y
 [1,3,4,8])) (Q (Q (O [mc 9 (i 0)]) (Q (.block 4 (.loop ⟨(some [1,3,4,8,9]),[],false⟩ gb)) (Y [1,3,4,8]))) (Q (O [mc 12 (i 0)]) (Q (.block 6 (.loop
 ⟨(some [1,3,4,8,12]),[],true⟩ gf)) (Y [1,3])))))))))))) (Y [1,3])) (O [m 24 3,ad 25 24,m 3 25])))
def mQ:AC:=
 (Q (O [o 1 (.bx au (t 0)),mc 2 (u 0)]) (Q (Q (Q (O [fa 15 3 1,ld 16 15,ls 17 16,o 18 (.ar .gtr (t 17) (i 128))]) (Y [1,18])) (C 18 (Q (O [mc 2 (u 3)]) R) X)) (Q (Q
 (O [mc 3 (i 0)]) (Q (.block 0 (.loop ⟨(some [1,3]),[],true⟩ dO)) (Y []))) (Q (O [mc 2 (u 0)]) R))))
def aY:AFn:=⟨mQ,143,[.t 2],.drop,[],none⟩
theorem bz:aY.res=[.t 2]∧aY.mode = .drop∧aY.dfr=none:=⟨rfl,rfl,rfl⟩
def iD:AC:=
 (Q (Q (Q (O [m 6 5,fa 7 2 2,ld 8 7,ls 9 8,bl 10 6 9]) (Y [1,2,5,10])) (C 10 X (.exit 0))) (Q (.block 1 (Q (Q (O [fa 13 2 2,ld 14 13,m 15 5,ia 16 2 14 15,fa 17 0 16,ld 18
 17,m 19 1,o 20 (.ar .eql (t 18) (t 19))]) (Y [1,2,5,20])) (C 20 (Q (O [m 21 5,m 4 21]) R) X))) (O [m 11 5,ad 12 11,m 5 12])))
def pD:AC:=
 (Q (O [o 2 (.bx au (t 0)),mc 4 (i 0)]) (Q (Q (O [mc 5 (i 0)]) (Q (.block 0 (.loop ⟨(some [1,2,5]),[],false⟩ iD)) (Y []))) (Q (O [mc 4 (i (-1))])
 R)))
def en:AFn:=⟨pD,22,[.t 4],.drop,[],none⟩
theorem pE:en.res=[.t 4]∧en.mode = .drop∧en.dfr=none:=⟨rfl,rfl,rfl⟩
def dX:AC:=
 (Q (Q (Q (O [m 10 5,m 11 1,ls 12 11,bl 13 10 12]) (Y [1,2,5,13])) (C 13 X (.exit 0))) (Q (.block 1 (Q (Q (D [W (la 16 6 2),P (m 17 1),P (m 18 5),P (ia 19 2 17 18),P (fa 20
 0 19),W (ld 21 20),E (k 22 (f k9) [(t 16),(t 21)]),P (m 6 22)]) (Y [1,2,5,6])) (.block 2 (Q (O [m 24 6,o 25 (.ar .lss (t 24) (i 0)),m 23 25]) (C 23 (Q (O
 [mc 4 (u 5)]) R) (Q (Q (D [P (fa 27 1 2),W (ld 28 27),P (m 29 6),P (ia 30 2 28 29),P (fa 31 1 30),W (ld 32 31),P (m 33 1),P (m 34 5),P (ia 35 2 33 34),P (fa 36 1 35),W (ld
 37 36),E (k 38 (f nM) [(t 32),(t 37)]),P (no 39 38),P (m 26 39)]) (Y [1,2,5,26])) (C 26 (Q (O [mc 4 (u 1)]) R) (Q (Q (D [P (m 41 5),P (o 42 (.ar .gtr (t 41)
 (i 0))),P (m 43 42),P (g 44 43 (.mv (t 1))),P (g 45 43 (.mv (t 5))),P (g 46 43 (.ar .sub (t 45) (i 1))),P (g 47 43 (.ias 2 (t 44) (t 46))),P (g 48 43 (.fa 0 (t 47))),W (g 49
 43 (.ld none (t 48))),P (g 50 43 (.mv (t 1))),P (g 51 43 (.mv (t 5))),P (g 52 43 (.ias 2 (t 50) (t 51))),P (g 53 43 (.fa 0 (t 52))),W (g 54 43 (.ld none (t 53))),P (g 55 43
 (.ar .eql (t 49) (t 54))),P (o 56 (.pk (t 43) (t 55) F)),P (m 40 56)]) (Y [1,2,5,40])) (C 40 (Q (O [mc 4 (u 6)]) R) (Q (Q (D [P (m 58 5),P (o 59 (.ar .gtr (t 58) (i 0))),P (m
 60 59),P (g 61 60 (.mv (t 1))),P (g 62 60 (.mv (t 5))),P (g 63 60 (.ar .sub (t 62) (i 1))),P (g 64 60 (.ias 2 (t 61) (t 63))),P (g 65 60 (.fa 0 (t 64))),W (g 66 60 (.ld none
 (t 65))),P (g 67 60 (.mv (t 1))),P (g 68 60 (.mv (t 5))),P (g 69 60 (.ias 2 (t 67) (t 68))),P (g 70 60 (.fa 0 (t 69))),W (g 71 60 (.ld none (t 70))),P (g 72 60 (.ar .gtr (t
 66) (t 71))),P (o 73 (.pk (t 60) (t 72) F)),P (m 57 73)]) (Y [1,2,5,57])) (C 57 (Q (O [mc 4 (u 1)]) R) X))))))))))) (O [m 14 5,ad 15 14,m 5 15])))
def nX:AC:=
 (Q (O [o 2 (.bx au (t 0)),mc 4 (u 0)]) (Q (Q (O [m 7 1,ls 8 7,o 9 (.ar .gtr (t 8) (i 8))]) (C 9 (Q (O [mc 4 (u 3)]) R) X)) (Q (Q (O [mc 5 (i 0)]) (Q (.block 0 (.loop
 ⟨(some [1,2,5]),[],false⟩ dX)) (Y []))) (Q (O [mc 4 (u 0)]) R))))
def dS:AFn:=⟨nX,74,[.t 4],.drop,[],none⟩
theorem i6:dS.res=[.t 4]∧dS.mode = .drop∧dS.dfr=none:=⟨rfl,rfl,rfl⟩
def kB:AC:=
 (Q (Q (O [o 3 (.bx aM (t 0)),o 5 (.bx cj (t 2)),mc 6 (s []),mc 7 F]) (Y [1,3,5])) (Q (Q (O [fa 10 0 3,fa 11 3 10,ld 12 11,m 13 1,ia 14 4 12 13,fa 15
 0 14,ld 16 15,m 8 16]) (Y [5,8])) (Q (Q (Q (O [m 17 8,lt 18 17,fa 19 0 5,ld 20 19,bl 21 18 20]) (Y [5,8,21])) (C 21 (Q (O [mc 6 (s []),mc 7 F]) R) X)) (Q (Q (O [m 22 8,m
 23 8,lt 24 23,fa 25 0 5,ld 26 25,o 27 (.ar .sub (t 24) (t 26)),o 28 (.sls (t 22) none (some (t 27))),m 9 28]) (Y [5,9])) (Q (Q (O [fa 29 1 5,ld 30 29,o 31 (.ar .neq (t 30)
 (s []))]) (C 31 (Q (O [fa 32 1 5,ld 33 32,o 34 (.ar .add (t 33) (s [43])),m 35 9,o 36 (.ar .add (t 34) (t 35)),m 9 36]) (Y [5,9])) X)) (Q (Q (O [fa 37 2 5,ld 38 37,o 39 (.ar
 .neq (t 38) (s []))]) (C 39 (Q (O [m 40 9,fa 41 2 5,ld 42 41,o 43 (.ar .add (s [43]) (t 42)),o 44 (.ar .add (t 40) (t 43)),m 9 44]) (Y [9])) X)) (Q (O [m 45 9,m 6 45,mc 7 T])
 R)))))))
def dh:AFn:=⟨kB,46,[.t 6,.t 7],.drop,[],none⟩
theorem fu:dh.res=[.t 6,.t 7]∧dh.mode = .drop∧dh.dfr=none:=⟨rfl,rfl,rfl⟩
def dP:AC:=
 (Q (Q (Q (O [m 10 9,m 11 2,lt 12 11,bl 13 10 12]) (Y [2,3,4,8,9,13])) (C 13 X (.exit 0))) (.block 1 (Q (Q (O [la 14 6 3,la 15 4 4,m 16 2,m 17 9,k 18 (f
 mL) [(t 14),(t 15),(t 16),(t 17)]]) (Y [2,3,4,8,9,18])) (C 18 (Q (Q (O [m 19 8,fa 20 1 4,ld 21 20,o 22 (.ar .add (t 19) (t 21)),m 8 22]) (Y [2,3,
 4,8,9])) (Q (O [m 23 9,fa 24 0 4,ld 25 24,lt 26 25,o 27 (.ar .add (t 23) (t 26)),m 9 27]) (Y [2,3,4,8,9]))) (Q (Q (O [m 28 8,m 29 2,m 30 9,m 31 9,ad 32 31,o 33 (.sls
 (t 29) (some (t 30)) (some (t 32))),o 34 (.ar .add (t 28) (t 33)),m 8 34]) (Y [2,3,4,8,9])) (O [m 35 9,ad 36 35,m 9 36]))))))
def mR:AC:=
 (Q (Q (O [o 3 (.bx au (t 0)),o 4 (.bx c7 (t 1)),mc 6 (s []),mc 7 F]) (Y [2,3,4])) (Q (O [mc 8 (s [])]) (Q (Q (O [mc 9 (i 0)]) (Q (.block 0 (.loop ⟨(some [2,
 3,4,8,9]),[],false⟩ dP)) (Y [8]))) (Q (Q (O [m 37 8,m 38 8,lt 39 38,o 40 (.ar .leq (t 39) (i 512)),m 6 37,m 7 40]) (Y [6,7])) R))))
def dH:AFn:=⟨mR,41,[.t 6,.t 7],.drop,[],none⟩
theorem iE:dH.res=[.t 6,.t 7]∧dH.mode = .drop∧dH.dfr=none:=⟨rfl,rfl,rfl⟩
def qz:AC:=
 (Q (O [mc 6 (s [])]) (Q (Q (O [m 7 0,m 8 1,m 9 2,k 10 (f tm) [(t 7),(t 8),(t 9),(i (-1))],m 6 10]) (Y [6])) R))
def fE:AFn:=⟨qz,11,[.t 6],.drop,[],none⟩
theorem Dd:fE.res=[.t 6]∧fE.mode = .drop∧fE.dfr=none:=⟨rfl,rfl,rfl⟩
def oK:AC:=
 (Q (O [bl 9 8 7]) (Q (C 9 X (.exit 0)) (Q (.block 1 (Q (O [ia 10 1 6 8,ld 11 10,m 4 11]) (Q (O [m 12 4,k 13 (t 12) [],m 5 13]) (Q (O [m 14 5,o 15 (.ar .neq (t 14) (u 0))]) (C
 15 (Q (O [m 16 5,m 2 16]) R) X))))) (O [ad 17 8,m 8 17]))))
def zr:AC:=
 (Q (O [mc 2 (u 0)]) (Q (Q (O [m 6 0,ls 7 6,mc 8 (i 0)]) (Q (.block 0 (.loop ⟨(some [6,7,8]),[],false⟩ oK)) (Y []))) (Q (O [mc 2 (u 0)]) R)))
def jA:AFn:=⟨zr,18,[.t 2],.drop,[],none⟩
theorem zt:jA.res=[.t 2]∧jA.mode = .drop∧jA.dfr=none:=⟨rfl,rfl,rfl⟩
def fc:AC:=
 (Q (O [bl 11 10 9]) (Q (C 11 X (.exit 0)) (Q (.block 1 (Q (O [m 12 10,m 4 12]) (Q (Q (D [P (m 13 3),P (m 14 4),P (o 15 (.ixs (t 13) (t 14))),E (k 16 (f cM) [(t
 15)]),P (no 17 16),P (m 18 17),P (h 19 18 (.mv (t 4))),P (h 20 18 (.ar .gtr (t 19) (i 0))),P (h 21 18 (.mv (t 20))),P (g 22 21 (.mv (t 3))),P (g 23 21 (.mv (t 4))),P (g 24
 21 (.ar .sub (t 23) (i 1))),P (g 25 21 (.ixs (t 22) (t 24))),P (g 26 21 (.mv (t 3))),P (g 27 21 (.mv (t 4))),P (g 28 21 (.ixs (t 26) (t 27))),P (g 29 21 (.ar .geq (t 25) (t
 28))),P (h 30 18 (.pk (t 21) (t 29) F)),P (o 31 (.pk (t 18) T (t 30)))]) (Y [3,9,10,31])) (C 31 (Q (O [mc 2 (u 1)]) R) X)))) (O [ad 32 10,m 10 32]))))
def nY:AC:=
 (Q (O [o 1 (.bx bw (t 0)),mc 2 (u 0)]) (Q (Q (O [fa 5 0 1,fa 6 0 5,ld 7 6,m 3 7]) (Y [3])) (Q (Q (O [m 8 3,lt 9 8,mc 10 (i 0)]) (Q (.block 0 (.loop ⟨(some [3,9,
 10]),[],false⟩ fc)) (Y []))) (Q (O [mc 2 (u 0)]) R))))
def di:AFn:=⟨nY,33,[.t 2],.drop,[],none⟩
theorem kC:di.res=[.t 2]∧di.mode = .drop∧di.dfr=none:=⟨rfl,rfl,rfl⟩
def vH:AC:=
 (Q (O [mc 2 (u 0)]) (Q (Q (O [fa 3 1 0,ld 4 3,la 5 6 1,o 6 (.mf (.func kY) [(t 5)] []),k 7 (f kp) [(t 4),(i 8),(t 6)],m 2 7]) (Y [2]))
 R))
def j3:AFn:=⟨vH,8,[.t 2],.drop,[],none⟩
theorem IA:j3.res=[.t 2]∧j3.mode = .drop∧j3.dfr=none:=⟨rfl,rfl,rfl⟩
def gK:AC:=
 (Q (O [bl 17 16 15]) (Q (C 17 X (.exit 0)) (Q (.block 1 (Q (Q (O [m 18 16,ia 19 2 14 16,la 20 2 19,o 8 (.nw [(.str []),(.slice .nil 1 [])] gr),m 7 18,n (.st 2 (t 8)
 (t 20))]) (Y [2,7,8,14,15,16])) (Q (Q (O [m 21 2,m 22 7,la 23 2 8,k 24 (t 21) [(t 22),(t 23)],m 9 24]) (Y [2,9,14,15,16])) (Q (O [m 25 9,o 26 (.ar .neq (t 25) (u
 0))]) (C 26 (Q (O [m 27 9,m 6 27]) R) X))))) (O [ad 28 16,m 16 28]))))
def nZ:AC:=
 (Q (O [mc 6 (u 0)]) (Q (Q (Q (O [m 10 0,ls 11 10,m 12 1,o 13 (.ar .gtr (t 11) (t 12))]) (Y [0,2,13])) (C 13 (Q (O [mc 6 (u 3)]) R) X)) (Q (Q (O [m 14 0,ls 15 14,mc 16 (i 0)])
 (Q (.block 0 (.loop ⟨(some [2,14,15,16]),[],true⟩ gK)) (Y []))) (Q (O [mc 6 (u 0)]) R))))
def cG:AFn:=⟨nZ,29,[.t 6],.drop,[],none⟩
theorem n4:cG.res=[.t 6]∧cG.mode = .drop∧cG.dfr=none:=⟨rfl,rfl,rfl⟩
def iF:AC:=
 (Q (O [bl 36 35 34]) (Q (C 36 X (.exit 1)) (Q (.block 2 (Q (Q (O [m 37 35,ia 38 1 33 35,ld 39 38,m 7 37,m 8 39]) (Y [5,7,8,33,34,35])) (Q (Q (O [m 40 8,k 41 (f
 tk) [(t 40)],no 42 41]) (C 42 (Q (O [mc 6 (u 5)]) R) X)) (Q (Q (O [fa 43 1 5,ld 44 43,m 45 7,o 46 (.sll 1 (t 44) none (some (t 45)) none),m 47 8,k 48 (f
 fB) [(t 46),(t 47)]]) (Y [5,33,34,35,48])) (C 48 (Q (O [mc 6 (u 6)]) R) X))))) (O [ad 49 35,m 35 49]))))
def pF:AC:=
 (Q (O [o 3 (.bx bw (t 0)),o 5 (.bx gr (t 2)),mc 6 (u 0)]) (Q (.block 0 (Q (Q (O [fa 10 0 5,ld 11 10,k 12 (f tk) [(t 11)],no 13 12,m 9 13]) (Y
 [1,3,5,9])) (C 9 (Q (O [mc 6 (u 5)]) R) (Q (Q (O [fa 15 0 3,fa 16 1 15,ld 17 16,m 18 1,o 19 (.sll 2 (t 17) none (some (t 18)) none),o 20 (.mf (.func jP)
 [] [(t 5)]),k 21 (f du) [(t 19),(t 20)],m 14 21]) (Y [5,14])) (C 14 (Q (O [mc 6 (u 6)]) R) (Q (Q (O [fa 23 1 5,ld 24 23,ls 25 24,o 26
 (.ar .gtr (t 25) (i 8)),m 22 26]) (Y [5,22])) (C 22 (Q (O [mc 6 (u 3)]) R) (Q (Q (O [fa 28 1 5,ld 29 28,ls 30 29,o 31 (.ar .eql (t 30) (i 0)),m 27 31]) (Y [5,27])) (C 27 (Q
 (O [mc 6 (u 1)]) R) X))))))))) (Q (Q (Q (O [fa 32 1 5,ld 33 32,ls 34 33,mc 35 (i 0)]) (Y [5,33,34,35])) (Q (.block 1 (.loop ⟨(some [5,33,34,35]),[],false⟩
 iF)) (Y []))) (Q (O [mc 6 (u 0)]) R))))
def dC:AFn:=⟨pF,50,[.t 6],.drop,[],none⟩
theorem pG:dC.res=[.t 6]∧dC.mode = .drop∧dC.dfr=none:=⟨rfl,rfl,rfl⟩
def vI:AC:=
 (Q (O [mc 2 (u 0)]) (Q (Q (O [fa 3 2 0,ld 4 3,la 5 6 1,o 6 (.mf (.func kZ) [(t 5)] []),k 7 (f kq) [(t 4),(i 16),(t 6)],m 2 7]) (Y [2]))
 R))
def j4:AFn:=⟨vI,8,[.t 2],.drop,[],none⟩
theorem IB:j4.res=[.t 2]∧j4.mode = .drop∧j4.dfr=none:=⟨rfl,rfl,rfl⟩
def gL:AC:=
 (Q (O [bl 17 16 15]) (Q (C 17 X (.exit 0)) (Q (.block 1 (Q (Q (O [m 18 16,ia 19 2 14 16,la 20 2 19,o 8 (.nw [(.str []),(.slice .nil 4 [])] b5),m 7 18,n (.st 2 (t 8)
 (t 20))]) (Y [2,7,8,14,15,16])) (Q (Q (O [m 21 2,m 22 7,la 23 2 8,k 24 (t 21) [(t 22),(t 23)],m 9 24]) (Y [2,9,14,15,16])) (Q (O [m 25 9,o 26 (.ar .neq (t 25) (u
 0))]) (C 26 (Q (O [m 27 9,m 6 27]) R) X))))) (O [ad 28 16,m 16 28]))))
def n5:AC:=
 (Q (O [mc 6 (u 0)]) (Q (Q (Q (O [m 10 0,ls 11 10,m 12 1,o 13 (.ar .gtr (t 11) (t 12))]) (Y [0,2,13])) (C 13 (Q (O [mc 6 (u 3)]) R) X)) (Q (Q (O [m 14 0,ls 15 14,mc 16 (i 0)])
 (Q (.block 0 (.loop ⟨(some [2,14,15,16]),[],true⟩ gL)) (Y []))) (Q (O [mc 6 (u 0)]) R))))
def cH:AFn:=⟨n5,29,[.t 6],.drop,[],none⟩
theorem n9:cH.res=[.t 6]∧cH.mode = .drop∧cH.dfr=none:=⟨rfl,rfl,rfl⟩
def pH:AC:=
 (Q (O [o 3 (.bx bw (t 0)),o 5 (.bx b5 (t 2)),mc 6 (u 0)]) (Q (.block 0 (Q (Q (O [fa 8 0 5,ld 9 8,k 10 (f tk) [(t 9)],no 11 10,m 7 11]) (Y [1,
 3,5,7])) (C 7 (Q (O [mc 6 (u 5)]) R) (Q (Q (O [fa 13 0 3,fa 14 2 13,ld 15 14,m 16 1,o 17 (.sll 2 (t 15) none (some (t 16)) none),o 18 (.mf (.func jQ) []
 [(t 5)]),k 19 (f dv) [(t 17),(t 18)],m 12 19]) (Y [3,5,12])) (C 12 (Q (O [mc 6 (u 6)]) R) (Q (Q (O [fa 21 1 5,ld 22 21,ls 23 22,o 24
 (.ar .gtr (t 23) (i 24)),m 20 24]) (Y [3,5,20])) (C 20 (Q (O [mc 6 (u 3)]) R) (Q (Q (O [fa 26 1 5,ld 27 26,ls 28 27,o 29 (.ar .eql (t 28) (i 0)),m 25 29]) (Y [3,5,25])) (C
 25 (Q (O [mc 6 (u 1)]) R) X))))))))) (Q (Q (O [fa 30 1 5,ld 31 30,o 32 (.mf (.func jR) [] [(t 3)]),k 33 (f lf) [(t 31),(i 24),(t 32)],m
 6 33]) (Y [6])) R)))
def fk:AFn:=⟨pH,34,[.t 6],.drop,[],none⟩
theorem Cn:fk.res=[.t 6]∧fk.mode = .drop∧fk.dfr=none:=⟨rfl,rfl,rfl⟩
def vJ:AC:=
 (Q (O [mc 2 (u 0)]) (Q (Q (O [fa 3 3 0,ld 4 3,la 5 6 1,o 6 (.mf (.func k6) [(t 5)] []),k 7 (f kr) [(t 4),(i 128),(t 6)],m 2 7]) (Y
 [2])) R))
def j5:AFn:=⟨vJ,8,[.t 2],.drop,[],none⟩
theorem IC:j5.res=[.t 2]∧j5.mode = .drop∧j5.dfr=none:=⟨rfl,rfl,rfl⟩
def gM:AC:=
 (Q (O [bl 17 16 15]) (Q (C 17 X (.exit 0)) (Q (.block 1 (Q (Q (O [m 18 16,ia 19 4 14 16,la 20 4 19,o 8 (.nw [(.str []),(.str []),(.slice .nil 2 []),(.slice .nil 2 [])]
 b6),m 7 18,n (.st 4 (t 8) (t 20))]) (Y [2,7,8,14,15,16])) (Q (Q (O [m 21 2,m 22 7,la 23 4 8,k 24 (t 21) [(t 22),(t 23)],m 9 24]) (Y [2,9,14,15,16])) (Q (O
 [m 25 9,o 26 (.ar .neq (t 25) (u 0))]) (C 26 (Q (O [m 27 9,m 6 27]) R) X))))) (O [ad 28 16,m 16 28]))))
def oa:AC:=
 (Q (O [mc 6 (u 0)]) (Q (Q (Q (O [m 10 0,ls 11 10,m 12 1,o 13 (.ar .gtr (t 11) (t 12))]) (Y [0,2,13])) (C 13 (Q (O [mc 6 (u 3)]) R) X)) (Q (Q (O [m 14 0,ls 15 14,mc 16 (i 0)])
 (Q (.block 0 (.loop ⟨(some [2,14,15,16]),[],true⟩ gM)) (Y []))) (Q (O [mc 6 (u 0)]) R))))
def cI:AFn:=⟨oa,29,[.t 6],.drop,[],none⟩
theorem oc:cI.res=[.t 6]∧cI.mode = .drop∧cI.dfr=none:=⟨rfl,rfl,rfl⟩
def iG:AC:=
 (Q (O [bl 51 50 49]) (Q (C 51 X (.exit 1)) (Q (.block 2 (Q (Q (O [m 52 50,ia 53 2 48 50,la 54 2 53,o 11 (.nw [(.int .i64 0),(.str [])] dQ),m 10 52,n (.st 2 (t 11)
 (t 54))]) (Y [5,7,10,11,48,49,50])) (.block 3 (Q (Q (O [fa 56 0 11,ld 57 56,o 58 (.ar .lss (t 57) (i 0)),m 59 58,h 60 59 (.fa 0 (t 11)),h 61 59 (.ld none (t 60)),h 62 59
 (.fa 1 (t 7)),h 63 59 (.ld none (t 62)),h 64 59 (.len .sl (t 63)),h 65 59 (.ar .geq (t 61) (t 64)),o 66 (.pk (t 59) T (t 65)),m 55 66]) (Y [5,7,10,11,48,49,50,55])) (C
 55 (Q (O [mc 6 (u 7)]) R) (Q (Q (O [fa 68 3 5,ld 69 68,m 70 10,o 71 (.sll 2 (t 69) none (some (t 70)) none),o 72 (.mf (.func jU) [] [(t 11)]),k 73 (f
 cg) [(t 71),(t 72)],m 67 73]) (Y [5,7,11,48,49,50,67])) (C 67 (Q (O [mc 6 (u 6)]) R) (Q (Q (O [fa 75 1 11,ld 76 75,o 77 (.ar
 .neq (t 76) (s [])),m 78 77,g 79 78 (.fa 1 (t 11)),g 80 78 (.ld none (t 79)),⟨(some 81),(some (78,true)),(.call (.c (.fn (.func uZ) [] [])) [(.t 80)])⟩,g 82 78
 (.un .not (t 81)),o 83 (.pk (t 78) (t 82) F),m 74 83]) (Y [5,7,48,49,50,74])) (C 74 (Q (O [mc 6 (u 1)]) R) X))))))))) (O [ad 84 50,m 50 84]))))
def pI:AC:=
 (Q (O [o 3 (.bx bw (t 0)),o 5 (.bx b6 (t 2)),mc 6 (u 0)]) (Q (Q (O [fa 13 0 3,la 14 6 13,fa 15 1 5,ld 16 15,k 17 (f fO) [(t 14),(t 16)],m
 12 17,ex 18 12 0,ex 19 12 1,o 7 (.nw [(.str []),(.slice .nil 4 [])] b5),n (.st 2 (t 7) (t 18)),m 8 19]) (Y [1,3,5,7,8])) (Q (.block 0 (Q (Q (O [fa 21 0 5,ld 22
 21,k 23 (f uZ) [(t 22)],no 24 23,m 20 24]) (Y [1,3,5,7,8,20])) (C 20 (Q (O [mc 6 (u 1)]) R) (Q (O [m 26 8,no 27 26,m 25 27]) (C 25 (Q (O [mc 6 (u 5)]) R) (Q (Q
 (O [fa 29 0 3,fa 30 3 29,ld 31 30,m 32 1,o 33 (.sll 4 (t 31) none (some (t 32)) none),o 34 (.mf (.func jS) [] [(t 5)]),k 35 (f
 dw) [(t 33),(t 34)],m 28 35]) (Y [3,5,7,28])) (C 28 (Q (O [mc 6 (u 6)]) R) X))))))) (Q (Q (Q (O [la 36 6 3,fa 37 2 5,ld 38 37,k 39 (f
 iS) [(t 36),(t 38)],m 9 39]) (Y [5,7,9])) (Q (O [m 40 9,o 41 (.ar .neq (t 40) (u 0))]) (C 41 (Q (O [m 42 9,m 6 42]) R) X))) (Q (Q (Q (O [fa 43 1 7,ld 44
 43,o 45 (.mf (.func jT) [] [(t 5)]),k 46 (f dM) [(t 44),(t 45)]]) (Y [5,7,46])) (C 46 (Q (O [mc 6 (u 10)]) R) X)) (Q
 (Q (Q (O [fa 47 3 5,ld 48 47,ls 49 48,mc 50 (i 0)]) (Y [5,7,48,49,50])) (Q (.block 1 (.loop ⟨(some [5,7,48,49,50]),[],true⟩ iG)) (Y []))) (Q (O [mc
 6 (u 0)]) R)))))))
def dD:AFn:=⟨pI,85,[.t 6],.drop,[],none⟩
theorem ll:dD.res=[.t 6]∧dD.mode = .drop∧dD.dfr=none:=⟨rfl,rfl,rfl⟩
def vK:AC:=
 (Q (O [mc 2 (u 0)]) (Q (Q (O [fa 3 4 0,ld 4 3,la 5 6 1,o 6 (.mf (.func k7) [(t 5)] []),k 7 (f ks) [(t 4),(i 16),(t 6)],m 2 7]) (Y [2]))
 R))
def j6:AFn:=⟨vK,8,[.t 2],.drop,[],none⟩
theorem ID:j6.res=[.t 2]∧j6.mode = .drop∧j6.dfr=none:=⟨rfl,rfl,rfl⟩
def gN:AC:=
 (Q (O [bl 17 16 15]) (Q (C 17 X (.exit 0)) (Q (.block 1 (Q (Q (O [m 18 16,ia 19 4 14 16,la 20 4 19,o 8 (.nw [(.str []),(.str []),(.str []),(.str [])] c7),m 7 18,n
 (.st 4 (t 8) (t 20))]) (Y [2,7,8,14,15,16])) (Q (Q (O [m 21 2,m 22 7,la 23 4 8,k 24 (t 21) [(t 22),(t 23)],m 9 24]) (Y [2,9,14,15,16])) (Q (O [m 25 9,o 26 (.ar .neq
 (t 25) (u 0))]) (C 26 (Q (O [m 27 9,m 6 27]) R) X))))) (O [ad 28 16,m 16 28]))))
def od:AC:=
 (Q (O [mc 6 (u 0)]) (Q (Q (Q (O [m 10 0,ls 11 10,m 12 1,o 13 (.ar .gtr (t 11) (t 12))]) (Y [0,2,13])) (C 13 (Q (O [mc 6 (u 3)]) R) X)) (Q (Q (O [m 14 0,ls 15 14,mc 16 (i 0)])
 (Q (.block 0 (.loop ⟨(some [2,14,15,16]),[],true⟩ gN)) (Y []))) (Q (O [mc 6 (u 0)]) R))))
def cJ:AFn:=⟨od,29,[.t 6],.drop,[],none⟩
theorem oe:cJ.res=[.t 6]∧cJ.mode = .drop∧cJ.dfr=none:=⟨rfl,rfl,rfl⟩
def pJ:AC:=
 (Q (O [o 3 (.bx bw (t 0)),o 5 (.bx c7 (t 2)),mc 6 (u 0)]) (Q (Q (Q (O [fa 7 0 5,ld 8 7,o 9 (.ar .eql (t 8) (s [])),m 10 9,h 11 10 (.fa 0 (t 5)),h 12 10
 (.ld none (t 11)),⟨(some 13),(some (10,false)),(.call (.c (.fn (.func jx) [] [])) [(.t 12),(.c (.fn (.func mG) [] []))])⟩,h 14 10 (.un .not (t 13)),o
 15 (.pk (t 10) T (t 14)),m 16 15,h 17 16 (.fa 1 (t 5)),h 18 16 (.ld none (t 17)),⟨(some 19),(some (16,false)),(.call (.c (.fn (.func jx) [] [])) [(.t 18),(.c (.fn
 (.func mG) [] []))])⟩,h 20 16 (.un .not (t 19)),o 21 (.pk (t 16) T (t 20)),m 22 21,h 23 22 (.fa 2 (t 5)),h 24 22 (.ld none (t 23)),⟨(some 25),(some (22,false)),
 (.call (.c (.fn (.func jx) [] [])) [(.t 24),(.c (.fn (.func qu) [] []))])⟩,h 26 22 (.un .not (t 25)),o 27 (.pk (t 22) T (t 26)),m 28 27,h 29 28 (.fa 3 (t
 5)),h 30 28 (.ld none (t 29)),⟨(some 31),(some (28,false)),(.call (.c (.fn (.func jx) [] [])) [(.t 30),(.c (.fn (.func qu) [] []))])⟩,h 32 28 (.un .not
 (t 31)),o 33 (.pk (t 28) T (t 32))]) (Y [33])) (C 33 (Q (O [mc 6 (u 1)]) R) X)) (Q (O [mc 6 (u 0)]) R)))
def fm:AFn:=⟨pJ,34,[.t 6],.drop,[],none⟩
theorem Co:fm.res=[.t 6]∧fm.mode = .drop∧fm.dfr=none:=⟨rfl,rfl,rfl⟩
def vL:AC:=
 (Q (O [mc 2 (u 0)]) (Q (Q (O [fa 3 5 0,ld 4 3,la 5 6 1,o 6 (.mf (.func lP) [(t 5)] []),k 7 (f k8) [(t 4),(i 8),(t 6)],m 2 7]) (Y [2]))
 R))
def j7:AFn:=⟨vL,8,[.t 2],.drop,[],none⟩
theorem IE:j7.res=[.t 2]∧j7.mode = .drop∧j7.dfr=none:=⟨rfl,rfl,rfl⟩
def iH:AC:=
 (Q (O [bl 17 16 15]) (Q (C 17 X (.exit 0)) (Q (.block 1 (Q (Q (O [m 18 16,ia 19 3 14 16,la 20 3 19,o 8 (.nw [(.str []),(.str []),(.slice .nil 2 [])] qw),m 7 18,n (.st
 3 (t 8) (t 20))]) (Y [2,7,8,14,15,16])) (Q (Q (O [m 21 2,m 22 7,la 23 3 8,k 24 (t 21) [(t 22),(t 23)],m 9 24]) (Y [2,9,14,15,16])) (Q (O [m 25 9,o 26 (.ar .neq (t 25)
 (u 0))]) (C 26 (Q (O [m 27 9,m 6 27]) R) X))))) (O [ad 28 16,m 16 28]))))
def pK:AC:=
 (Q (O [mc 6 (u 0)]) (Q (Q (Q (O [m 10 0,ls 11 10,m 12 1,o 13 (.ar .gtr (t 11) (t 12))]) (Y [0,2,13])) (C 13 (Q (O [mc 6 (u 3)]) R) X)) (Q (Q (O [m 14 0,ls 15 14,mc 16 (i 0)])
 (Q (.block 0 (.loop ⟨(some [2,14,15,16]),[],true⟩ iH)) (Y []))) (Q (O [mc 6 (u 0)]) R))))
def cW:AFn:=⟨pK,29,[.t 6],.drop,[],none⟩
theorem pL:cW.res=[.t 6]∧cW.mode = .drop∧cW.dfr=none:=⟨rfl,rfl,rfl⟩
def qA:AC:=
 (Q (O [o 3 (.bx bw (t 0)),o 5 (.bx qw (t 2)),mc 6 (u 0)]) (Q (Q (Q (O [fa 10 0 3,la 11 6 10,fa 12 0 5,ld 13 12,k 14 (f fO) [(t 11),(t 13)],
 m 9 14,ex 15 9 0,ex 16 9 1,o 7 (.nw [(.str []),(.slice .nil 4 [])] b5),n (.st 2 (t 7) (t 15)),m 8 16]) (Y [3,5,8])) (Q (O [m 17 8,no 18 17]) (C 18 (Q (O [mc 6 (u
 5)]) R) X))) (Q (Q (Q (O [fa 19 1 5,ld 20 19,k 21 (f jx) [(t 20),(f cM)],no 22 21]) (Y [3,5,22])) (C 22 (Q (O [mc 6 (u 1)]) R) X)) (Q (Q (O [la 23 6 3,
 fa 24 2 5,ld 25 24,k 26 (f iS) [(t 23),(t 25)],m 6 26]) (Y [6])) R))))
def fF:AFn:=⟨qA,27,[.t 6],.drop,[],none⟩
theorem vh:fF.res=[.t 6]∧fF.mode = .drop∧fF.dfr=none:=⟨rfl,rfl,rfl⟩
def oL:AC:=
 (Q (Q (O [o 2 (.bx au (t 0)),o 3 (.bx bb (t 1)),o 4 (.nw [(.str []),(.slice .nil 4 [])] b5),mc 5 F]) (Y [2,3,4])) (Q (Q (O [fa 7 2 2,ld 8 7,o 9
 (.mf (.func lQ) [] [(t 3)]),k 10 (f bR) [(t 8),(t 9)],m 6 10]) (Y [2,4,6])) (Q (Q (O [m 11 6,o 12 (.ar .lss (t 11) (i 0))])
 (C 12 (Q (O [o 13 (.bd [(.str []),(.slice .nil 4 [])] [(0,1),(1,1)] []),n (.st 2 (t 4) (t 13)),mc 5 F]) R) X)) (Q (Q (O [fa 14 2 2,ld 15 14,m 16 6,ia 17 2 15 16,la 18 2
 17,n (.st 2 (t 4) (t 18)),mc 5 T]) (Y [4,5])) R))))
def j8:AFn:=⟨oL,19,[.cell 4 (some 2),.t 5],.drop,[],none⟩
theorem B5:j8.res=[.cell 4 (some 2),.t 5]∧j8.mode = .drop∧j8.dfr=none:=⟨rfl,rfl,rfl⟩
def og:AC:=
 (Q (O [o 2 (.bx bw (t 0)),o 3 (.bx eZ (t 1)),mc 4 (u 0)]) (Q (Q (O [ld 5 3,o 6 (.mf (.func jy) [] [(t 2),(t 3)]),k 7 (f
 lg) [(t 5),(i 8),(t 6)],m 4 7]) (Y [4])) R))
def eN:AFn:=⟨og,8,[.t 4],.drop,[],none⟩
theorem BC:eN.res=[.t 4]∧eN.mode = .drop∧eN.dfr=none:=⟨rfl,rfl,rfl⟩
def eu:AC:=
 (Q (O [bl 9 8 7]) (Q (C 9 X (.exit 0)) (Q (.block 1 (Q (O [m 10 8,m 5 10]) (Q (Q (O [m 11 1,m 12 0,m 13 5,ia 14 1 12 13,ld 15 14,o 16 (.ar .eql (t 11) (t 15))]) (Y [0,1,5,
 7,8,16])) (C 16 (Q (O [m 17 5,m 4 17]) R) X)))) (O [ad 18 8,m 8 18]))))
def j9:AC:=
 (Q (O [mc 4 (i 0)]) (Q (Q (O [m 6 0,ls 7 6,mc 8 (i 0)]) (Q (.block 0 (.loop ⟨(some [0,1,7,8]),[],false⟩ eu)) (Y []))) (Q (O [mc 4 (i (-1))]) R)))
def bL:AFn:=⟨j9,19,[.t 4],.drop,[],none⟩
theorem ka:bL.res=[.t 4]∧bL.mode = .drop∧bL.dfr=none:=⟨rfl,rfl,rfl⟩
def rk:AC:=
 (Q (O [mc 4 F]) (Q (Q (O [m 5 0,m 6 1,k 7 (f iU) [(t 5),(t 6)],m 4 7]) (Y [4])) R))
def gl:AFn:=⟨rk,8,[.t 4],.drop,[],none⟩
theorem D2:gl.res=[.t 4]∧gl.mode = .drop∧gl.dfr=none:=⟨rfl,rfl,rfl⟩
def iI:AC:=
 (Q (O [bl 13 12 11]) (Q (C 13 X (.exit 0)) (Q (.block 1 (Q (O [m 14 12,m 9 14]) (Q (Q (D [W (la 15 6 4),P (m 16 1),P (m 17 1),W (lt 18 17),P (o 19 (.ar .sub (t 18) (i 1))),P
 (m 20 9),P (o 21 (.ar .sub (t 19) (t 20))),P (o 22 (.ixs (t 16) (t 21))),P (m 23 2),P (m 24 3),P (o 25 (.ar .sub (t 24) (i 1))),P (m 26 9),P (o 27 (.ar .sub (t 25) (t 26))),
 E (k 28 (f kx) [(t 15),(t 22),(t 23),(t 27)]),P (no 29 28)]) (Y [1,2,3,4,11,12,29])) (C 29 (Q (O [mc 8 F]) R) X)))) (O [ad 30 12,m 12 30]))))
def pM:AC:=
 (Q (O [o 4 (.bx aM (t 0)),mc 8 F]) (Q (Q (O [m 10 1,lt 11 10,mc 12 (i 0)]) (Q (.block 0 (.loop ⟨(some [1,2,3,4,11,12]),[],false⟩ iI)) (Y
 []))) (Q (O [mc 8 T]) R)))
def dE:AFn:=⟨pM,31,[.t 8],.drop,[],none⟩
theorem pN:dE.res=[.t 8]∧dE.mode = .drop∧dE.dfr=none:=⟨rfl,rfl,rfl⟩
def gO:AC:=
 (Q (O [bl 13 12 11]) (Q (C 13 X (.exit 0)) (Q (.block 1 (Q (O [m 14 12,m 9 14]) (Q (Q (D [W (la 15 6 4),P (m 16 1),P (m 17 9),P (o 18 (.ixs (t 16) (t 17))),P (m 19 2),P (m 20
 3),P (m 21 9),P (o 22 (.ar .add (t 20) (t 21))),E (k 23 (f kx) [(t 15),(t 18),(t 19),(t 22)]),P (no 24 23)]) (Y [1,2,3,4,11,12,24])) (C 24 (Q (O [mc
 8 F]) R) X)))) (O [ad 25 12,m 12 25]))))
def oh:AC:=
 (Q (O [o 4 (.bx aM (t 0)),mc 8 F]) (Q (Q (O [m 10 1,lt 11 10,mc 12 (i 0)]) (Q (.block 0 (.loop ⟨(some [1,2,3,4,11,12]),[],false⟩ gO))
 (Y []))) (Q (O [mc 8 T]) R)))
def dj:AFn:=⟨oh,26,[.t 8],.drop,[],none⟩
theorem om:dj.res=[.t 8]∧dj.mode = .drop∧dj.dfr=none:=⟨rfl,rfl,rfl⟩
def cP:AC:=
 (Q (O [mc 4 (i 0),mc 5 (.c .nilif)]) (Q (O [m 6 0,k 7 (f cD) [(t 6)]]) (Q (Q (O [m 8 0,m 9 0,o 10 (.nc (t 9)),fa 11 1 10,ld 12 11,m 13 1,o 14 (.ap
 false dN 1 1 true (t 12) (t 13)),o 15 (.nc (t 8)),fa 16 1 15,n (.st 1 (t 16) (t 14))]) (Y [1])) (Q (Q (O [m 17 1,lt 18 17,m 4 18,mc 5 (.c .nilif)]) (Y [4,5])) R))))
def cQ:AFn:=⟨cP,19,[.t 4,.t 5],.drop,[],none⟩
theorem eK:cQ.res=[.t 4,.t 5]∧cQ.mode = .drop∧cQ.dfr=none:=⟨rfl,rfl,rfl⟩
def fw:AC:=
 (Q (O [mc 4 (.c .nilif)]) (Q (O [m 5 0,k 6 (f cD) [(t 5)]]) (Q (Q (O [m 7 0,m 8 0,o 9 (.nc (t 8)),fa 10 1 9,ld 11 10,m 12 1,o 13 (.bs 1 [(.int .u8
 0)] 1 [(0,(t 12))]),o 14 (.ap false dN 1 1 false (t 11) (t 13)),o 15 (.nc (t 7)),fa 16 1 15,n (.st 1 (t 16) (t 14))]) (Y [])) (Q (O [mc 4 (.c .nilif)]) R))))
def dk:AFn:=⟨fw,17,[.t 4],.drop,[],none⟩
theorem p8:dk.res=[.t 4]∧dk.mode = .drop∧dk.dfr=none:=⟨rfl,rfl,rfl⟩
def gP:AC:=
 (Q (O [mc 2 (s [])]) (Q (Q (D [P (m 3 0),P (o 4 (.nc (t 3))),P (fa 5 1 4),W (ld 6 5),P (o 7 (.usl (t 6))),P (m 8 0),P (o 9 (.nc (t 8))),P (fa 10 1 9),W (ld 11 10),W (ls 12
 11),E (o 13 (.ust dN (t 7) (t 12))),P (m 2 13)]) (Y [2])) R))
def dY:AFn:=⟨gP,14,[.t 2],.drop,[],none⟩
theorem ml:dY.res=[.t 2]∧dY.mode = .drop∧dY.dfr=none:=⟨rfl,rfl,rfl⟩
def pO:AC:=
 (Q (O [mc 2 (i 0)]) (Q (Q (O [m 3 0,o 4 (.nc (t 3)),fa 5 1 4,ld 6 5,ls 7 6,m 2 7]) (Y [2])) R))
def fo:AFn:=⟨pO,8,[.t 2],.drop,[],none⟩
theorem Cp:fo.res=[.t 2]∧fo.mode = .drop∧fo.dfr=none:=⟨rfl,rfl,rfl⟩
def eh:AC:=
 (Q (O [mc 4 (.c (.slice .nil 2 []))]) (Q (Q (O [m 5 1,o 6 (.ar .lss (t 5) (i 0))]) (C 6 (O [o 7 (.mi bb (s [99,97,110,110,111,116,32,98,101,32,110,101,103,97,
 116,105,118,101])),⟨none,none,(.panic (.t 7))⟩]) X)) (Q (Q (Q (O [m 8 1,m 9 0,o 10 (.cap (t 9)),m 11 0,ls 12 11,o 13 (.ar .sub (t 10) (t 12)),o 14 (.ar .sub (t 8) (t
 13)),m 1 14]) (Y [0,1])) (Q (O [m 15 1,o 16 (.ar .gtr (t 15) (i 0))]) (C 16 (Q (O [m 17 0,m 18 0,o 19 (.cap (t 18)),o 20 (.sll 2 (t 17) none (some (t 19)) none),m 21 1,o 22
 (.apz aR 2 32 [(.str []),(.str [])] (t 20) (t 21)),m 23 0,ls 24 23,o 25 (.sll 2 (t 22) none (some (t 24)) none),m 0 25]) (Y [0])) X))) (Q (O [m 26 0,m 4 26]) R))))
def db:AFn:=⟨eh,27,[.t 4],.keep,[],none⟩
theorem mz:db.res=[.t 4]∧db.mode = .keep∧db.dfr=none:=⟨rfl,rfl,rfl⟩
def tv:AC:=
 (Q (O [mc 4 (i 0)]) (Q (Q (O [m 5 0,m 6 1,k 7 (f nm) [(t 5),(t 6)],m 4 7]) (Y [4])) R))
def lU:AFn:=⟨tv,8,[.t 4],.drop,[],none⟩
def oo:AC:=
 (Q (O [mc 2 F]) (Q (Q (O [m 3 0,o 4 (.ar .geq (t 3) (u 97)),m 5 4,g 6 5 (.mv (t 0)),g 7 5 (.ar .leq (t 6) (u 122)),o 8 (.pk (t 5) (t 7) F),m 2 8]) (Y [2])) R))
def eP:AFn:=⟨oo,9,[.t 2],.drop,[],none⟩
def i7:AC:=
 (Q (Q (Q (O [m 14 3,m 15 0,lt 16 15,bl 17 14 16]) (Y [0,3,17])) (C 17 X (.exit 0))) (Q (.block 1 (Q (Q (O [m 20 0,m 21 3,o 22 (.ixs (t 20) (t 21)),o 23 (.ar .geq (t 22) (u
 65)),m 24 23,g 25 24 (.mv (t 0)),g 26 24 (.mv (t 3)),g 27 24 (.ixs (t 25) (t 26)),g 28 24 (.ar .leq (t 27) (u 90)),o 29 (.pk (t 24) (t 28) F),m 4 29]) (Y [0,3,4])) (Q (Q (O
 [m 30 0,m 31 3,o 32 (.ixs (t 30) (t 31)),o 33 (.ar .geq (t 32) (u 48)),m 34 33,g 35 34 (.mv (t 0)),g 36 34 (.mv (t 3)),g 37 34 (.ixs (t 35) (t 36)),g 38 34 (.ar .leq (t 37)
 (u 57)),o 39 (.pk (t 34) (t 38) F),m 5 39]) (Y [0,3,4,5])) (Q (Q (O [m 40 0,m 41 3,o 42 (.ixs (t 40) (t 41)),k 43 (f fQ) [(t 42)],no 44 43,m 45 44,g
 46 45 (.mv (t 4)),g 47 45 (.un .not (t 46)),o 48 (.pk (t 45) (t 47) F),m 49 48,g 50 49 (.mv (t 3)),g 51 49 (.ar .eql (t 50) (i 0)),g 52 49 (.mv (t 51)),h 53 52 (.mv (t 5)),h
 54 52 (.un .not (t 53)),h 55 52 (.mv (t 54)),g 56 55 (.mv (t 0)),g 57 55 (.mv (t 3)),g 58 55 (.ixs (t 56) (t 57)),g 59 55 (.ar .neq (t 58) (u 95)),h 60 52 (.pk (t 55) (t 59)
 F),g 61 49 (.pk (t 52) T (t 60)),o 62 (.pk (t 49) (t 61) F)]) (Y [0,3,62])) (C 62 (Q (O [mc 2 F]) R) X))))) (O [m 18 3,ad 19 18,m 3 19])))
def qB:AC:=
 (Q (O [mc 2 F]) (Q (Q (Q (O [m 6 0,lt 7 6,o 8 (.ar .lss (t 7) (i 1)),m 9 8,h 10 9 (.mv (t 0)),h 11 9 (.len .str (t 10)),h 12 9 (.ar .gtr (t 11) (i 12)),o 13 (.pk (t 9) T (t
 12))]) (Y [0,13])) (C 13 (Q (O [mc 2 F]) R) X)) (Q (Q (O [mc 3 (i 0)]) (Q (.block 0 (.loop ⟨(some [0,3]),[],false⟩ i7)) (Y []))) (Q (O [mc 2 T]) R))))
def bG:AFn:=⟨qB,63,[.t 2],.drop,[],none⟩
def iJ:AC:=
 (Q (Q (Q (O [m 6 5,fa 7 1 2,ld 8 7,ls 9 8,bl 10 6 9]) (Y [1,2,5,10])) (C 10 X (.exit 0))) (Q (.block 1 (Q (Q (O [fa 13 1 2,ld 14 13,m 15 5,ia 16 2 14 15,fa 17 0 16,ld 18
 17,m 19 1,o 20 (.ar .eql (t 18) (t 19))]) (Y [1,2,5,20])) (C 20 (Q (O [m 21 5,m 4 21]) R) X))) (O [m 11 5,ad 12 11,m 5 12])))
def pP:AC:=
 (Q (O [o 2 (.bx au (t 0)),mc 4 (i 0)]) (Q (Q (O [mc 5 (i 0)]) (Q (.block 0 (.loop ⟨(some [1,2,5]),[],false⟩ iJ)) (Y []))) (Q (O [mc 4 (i (-1))])
 R)))
def eo:AFn:=⟨pP,22,[.t 4],.drop,[],none⟩
theorem pQ:eo.res=[.t 4]∧eo.mode = .drop∧eo.dfr=none:=⟨rfl,rfl,rfl⟩
def jM:AC:=
 (Q (Q (Q (O [m 6 5,m 7 0,ls 8 7,bl 9 6 8]) (Y [0,1,5,9])) (C 9 X (.exit 0))) (Q (.block 1 (Q (Q (O [m 12 0,m 13 5,ia 14 1 12 13,ld 15 14,m 16 1,o 17 (.ar .eql (t 15) (t
 16))]) (Y [0,1,5,17])) (C 17 (Q (O [mc 4 T]) R) X))) (O [m 10 5,ad 11 10,m 5 11])))
def so:AC:=
 (Q (O [mc 4 F]) (Q (Q (O [mc 5 (i 0)]) (Q (.block 0 (.loop ⟨(some [0,1,5]),[],false⟩ jM)) (Y []))) (Q (O [mc 4 F]) R)))
def fG:AFn:=⟨so,18,[.t 4],.drop,[],none⟩
theorem sq:fG.res=[.t 4]∧fG.mode = .drop∧fG.dfr=none:=⟨rfl,rfl,rfl⟩
def pR:AC:=
 (Q (O [mc 2 F]) (Q (Q (O [m 3 0,k 4 (f qv) [(t 3)],m 5 4,g 6 5 (.mv (t 0)),⟨(some 7),(some (5,true)),(.call (.c (.fn (.func cZ) [] [])) [(.t
 6),(.c (.str []))])⟩,o 8 (.pk (t 5) (t 7) F),m 2 8]) (Y [2])) R))
def gC:AFn:=⟨pR,9,[.t 2],.drop,[],none⟩
def gg:AC:=
 (Q (Q (Q (O [m 32 9,fa 33 2 5,ld 34 33,lt 35 34,bl 36 32 35]) (Y [2,3,4,5,9,36])) (C 36 X (.exit 0))) (Q (.block 1 (Q (Q (D [W (la 39 6 4),P (fa 40 2 5),W (ld 41 40),P
 (fa 42 2 5),W (ld 43 42),W (lt 44 43),P (o 45 (.ar .sub (t 44) (i 1))),P (m 46 9),P (o 47 (.ar .sub (t 45) (t 46))),P (o 48 (.ixs (t 41) (t 47))),P (m 49 2),P (m 50 3),P (o
 51 (.ar .sub (t 50) (i 1))),P (m 52 9),P (o 53 (.ar .sub (t 51) (t 52))),E (k 54 (f jV) [(t 39),(t 48),(t 49),(t 53)]),P (no 55 54)]) (Y [2,3,4,5,9,
 55])) (C 55 (Q (O [mc 8 F]) R) X))) (O [m 37 9,ad 38 37,m 9 38])))
def gh:AC:=
 (Q (Q (Q (O [m 56 10,fa 57 3 5,ld 58 57,lt 59 58,bl 60 56 59]) (Y [2,3,4,5,10,60])) (C 60 X (.exit 2))) (Q (.block 3 (Q (Q (D [W (la 63 6 4),P (fa 64 3 5),W (ld 65 64),P
 (m 66 10),P (o 67 (.ixs (t 65) (t 66))),P (m 68 2),P (m 69 3),P (fa 70 0 5),W (ld 71 70),W (lt 72 71),P (o 73 (.ar .add (t 69) (t 72))),P (m 74 10),P (o 75 (.ar .add (t 73)
 (t 74))),E (k 76 (f jV) [(t 63),(t 67),(t 68),(t 75)]),P (no 77 76)]) (Y [2,3,4,5,10,77])) (C 77 (Q (O [mc 8 F]) R) X))) (O [m 61 10,ad 62 61,m 10
 62])))
def mS:AC:=
 (Q (O [o 4 (.bx au (t 0)),o 5 (.bx c7 (t 1)),mc 8 F]) (Q (Q (Q (D [P (m 11 3),P (fa 12 0 5),W (ld 13 12),W (lt 14 13),P (o 15 (.ar .add (t 11) (t 14))),P
 (m 16 2),W (lt 17 16),P (o 18 (.ar .gtr (t 15) (t 17))),P (m 19 18),P (h 20 19 (.mv (t 2))),P (h 21 19 (.mv (t 3))),P (h 22 19 (.mv (t 3))),P (h 23 19 (.fa 0 (t 5))),W (h 24
 19 (.ld none (t 23))),W (h 25 19 (.len .str (t 24))),P (h 26 19 (.ar .add (t 22) (t 25))),P (h 27 19 (.sls (t 20) (some (t 21)) (some (t 26)))),P (h 28 19 (.fa 0 (t 5))),W (h
 29 19 (.ld none (t 28))),P (h 30 19 (.ar .neq (t 27) (t 29))),P (o 31 (.pk (t 19) T (t 30)))]) (Y [2,3,4,5,31])) (C 31 (Q (O [mc 8 F]) R) X)) (Q (Q (O [mc 9 (i 0)]) (Q (.block
 0 (.loop ⟨(some [2,3,4,5,9]),[],false⟩ gg)) (Y [2,3,4,5]))) (Q (Q (O [mc 10 (i 0)]) (Q (.block 2 (.loop ⟨(some [2,3,4,5,10]),[],false⟩
 gh)) (Y []))) (Q (O [mc 8 T]) R)))))
def cu:AFn:=⟨mS,78,[.t 8],.drop,[],none⟩
theorem fA:cu.res=[.t 8]∧cu.mode = .drop∧cu.dfr=none:=⟨rfl,rfl,rfl⟩
def kg:AC:=
 (Q (O [bl 54 53 52]) (Q (C 54 X (.exit 0)) (Q (.block 1 (Q (Q (O [m 55 11,m 56 0,m 57 11,o 58 (.sls (t 56) (some (t 57)) none),m 59 1,k 60 (f oI) [(t 58),(t 59)],
 o 61 (.ar .add (t 55) (t 60)),m 12 61]) (Y [0,1,2,10,11,12,52,53])) (Q (Q (O [m 62 0,m 63 11,m 64 12,o 65 (.sls (t 62) (some (t 63)) (some (t 64))),k 66 (f
 aE) [(t 10),(t 65)]]) (Y [0,1,2,10,12,52,53])) (Q (O [m 67 2,k 68 (f aE) [(t 10),(t 67)]]) (Q (O [m 69 12,m 70 1,lt
 71 70,o 72 (.ar .add (t 69) (t 71)),m 11 72]) (Y [0,1,2,10,11,52,53])))))) (O [ad 73 53,m 53 73]))))
def D3:AC:=
 (Q (O [bl 79 78 77]) (Q (C 79 X (.exit 2)) (Q (.block 3 (Q (Q (O [m 81 0,m 82 11,o 83 (.sls (t 81) (some (t 82)) none),k 84 (f lr) [(t 83)],m 80
 84,ex 85 80 0,ex 86 80 1,m 13 85,m 14 86]) (Y [0,2,10,11,14,77,78])) (Q (Q (O [m 87 11,m 88 14,o 89 (.ar .add (t 87) (t 88)),m 15 89]) (Y [0,2,10,11,15,77,78]))
 (Q (Q (O [m 90 0,m 91 11,m 92 15,o 93 (.sls (t 90) (some (t 91)) (some (t 92))),k 94 (f aE) [(t 10),(t 93)]]) (Y [0,2,10,15,77,78])) (Q (O [m 95
 2,k 96 (f aE) [(t 10),(t 95)]]) (O [m 97 15,m 11 97])))))) (O [ad 98 78,m 78 98]))))
def tw:AC:=
 (Q (O [mc 8 (s [])]) (Q (Q (Q (O [m 16 1,m 17 2,o 18 (.ar .eql (t 16) (t 17)),m 19 18,h 20 19 (.mv (t 3)),h 21 19 (.ar .eql (t 20) (i 0)),o 22 (.pk (t 19) T (t 21))]) (Y [0,
 1,2,3,22])) (C 22 (Q (O [m 23 0,m 8 23]) R) X)) (Q (Q (Q (O [m 24 0,m 25 1,k 26 (f lJ) [(t 24),(t 25)],m 9 26]) (Y [0,1,2,3,9])) (Q (O [m 27 9,o 28 (.ar
 .eql (t 27) (i 0))]) (C 28 (Q (O [m 29 0,m 8 29]) R) (Q (Q (O [m 30 3,o 31 (.ar .lss (t 30) (i 0)),m 32 31,h 33 32 (.mv (t 9)),h 34 32 (.mv (t 3)),h 35 32 (.ar .lss (t 33) (t
 34)),o 36 (.pk (t 32) T (t 35))]) (Y [0,1,2,3,9,36])) (C 36 (O [m 37 9,m 3 37]) X))))) (Q (O [o 10 (.nw [.nilp,(.slice .nil 1 [])] bu)]) (Q (Q (O [m 38 0,lt
 39 38,m 40 3,m 41 2,lt 42 41,m 43 1,lt 44 43,o 45 (.ar .sub (t 42) (t 44)),o 46 (.ar .mul (t 40) (t 45)),o 47 (.ar .add (t 39) (t 46)),k 48 (f ky) [(t
 10),(t 47)]]) (Y [0,1,2,3,10])) (Q (O [mc 11 (i 0)]) (Q (Q (O [m 49 1,lt 50 49,o 51 (.ar .gtr (t 50) (i 0))]) (C 51 (Q (O [m 52 3,mc 53 (i 0)]) (Q (.block 0 (.loop ⟨(some
 [0,1,2,10,11,52,53]),[],false⟩ kg)) (Y [0,10,11]))) (Q (O [m 74 2,k 75 (f aE) [(t 10),(t 74)]]) (Q (O [m 76 3,o 77 (.ar .sub
 (t 76) (i 1)),mc 78 (i 0)]) (Q (.block 2 (.loop ⟨(some [0,2,10,11,77,78]),[],false⟩ D3)) (Y [0,10,11])))))) (Q (Q (O [m 99 0,m 100 11,o 101 (.sls (t 99)
 (some (t 100)) none),k 102 (f aE) [(t 10),(t 101)]]) (Y [10])) (Q (O [k 103 (f dn) [(t 10)],m 8 103]) R)))))))))
def eD:AFn:=⟨tw,104,[.t 8],.drop,[8],none⟩
theorem jW:eD.res=[.t 8]∧eD.mode = .drop∧eD.dfr=none:=⟨rfl,rfl,rfl⟩
def eV:AC:=
 (Q (O [mc 4 F]) (Q (Q (O [m 5 0,m 6 1,k 7 (f bS) [(t 5),(t 6)],o 8 (.ar .geq (t 7) (i 0)),m 4 8]) (Y [4])) R))
def a7:AFn:=⟨eV,9,[.t 4],.drop,[],none⟩
theorem oM:a7.res=[.t 4]∧a7.mode = .drop∧a7.dfr=none:=⟨rfl,rfl,rfl⟩
def mT:AC:=
 (Q (O [o 2 (.bx gr (t 0)),mc 3 F]) (Q (Q (O [fa 4 0 2,ld 5 4,fa 6 0 1,ld 7 6,o 8 (.ar .eql (t 5) (t 7)),m 3 8]) (Y [3])) R))
def ew:AFn:=⟨mT,9,[.t 3],.drop,[],none⟩
theorem Aw:ew.res=[.t 3]∧ew.mode = .drop∧ew.dfr=none:=⟨rfl,rfl,rfl⟩
def eW:AC:=
 (Q (O [mc 4 F]) (Q (Q (O [m 5 0,m 6 1,k 7 (f bR) [(t 5),(t 6)],o 8 (.ar .geq (t 7) (i 0)),m 4 8]) (Y [4])) R))
def a8:AFn:=⟨eW,9,[.t 4],.drop,[],none⟩
theorem oN:a8.res=[.t 4]∧a8.mode = .drop∧a8.dfr=none:=⟨rfl,rfl,rfl⟩
def mU:AC:=
 (Q (O [o 2 (.bx b5 (t 0)),mc 3 F]) (Q (Q (O [fa 4 0 2,ld 5 4,fa 6 0 1,ld 7 6,o 8 (.ar .eql (t 5) (t 7)),m 3 8]) (Y [3])) R))
def ey:AFn:=⟨mU,9,[.t 3],.drop,[],none⟩
theorem Ax:ey.res=[.t 3]∧ey.mode = .drop∧ey.dfr=none:=⟨rfl,rfl,rfl⟩
def iK:AC:=
 (Q (O [bl 17 16 15]) (Q (C 17 X (.exit 0)) (Q (.block 1 (Q (Q (O [m 18 16,ia 19 4 14 16,la 20 4 19,o 8 (.nw [(.int .i64 0),(.str []),(.str []),(.slice .nil 2 [])] cj),
 m 7 18,n (.st 4 (t 8) (t 20))]) (Y [2,7,8,14,15,16])) (Q (Q (O [m 21 2,m 22 7,la 23 4 8,k 24 (t 21) [(t 22),(t 23)],m 9 24]) (Y [2,9,14,15,16])) (Q (O [m 25 9,o 26
 (.ar .neq (t 25) (u 0))]) (C 26 (Q (O [m 27 9,m 6 27]) R) X))))) (O [ad 28 16,m 16 28]))))
def pS:AC:=
 (Q (O [mc 6 (u 0)]) (Q (Q (Q (O [m 10 0,ls 11 10,m 12 1,o 13 (.ar .gtr (t 11) (t 12))]) (Y [0,2,13])) (C 13 (Q (O [mc 6 (u 3)]) R) X)) (Q (Q (O [m 14 0,ls 15 14,mc 16 (i 0)])
 (Q (.block 0 (.loop ⟨(some [2,14,15,16]),[],true⟩ iK)) (Y []))) (Q (O [mc 6 (u 0)]) R))))
def cX:AFn:=⟨pS,29,[.t 6],.drop,[],none⟩
theorem pT:cX.res=[.t 6]∧cX.mode = .drop∧cX.dfr=none:=⟨rfl,rfl,rfl⟩
def mV:AC:=
 (Q (O [o 4 (.bx cj (t 1)),mc 5 (u 0)]) (Q (Q (Q (O [fa 6 0 4,ld 7 6,o 8 (.ar .lss (t 7) (i 0)),m 9 8,h 10 9 (.fa 0 (t 4)),h 11 9 (.ld none (t 10)),h 12 9 (.ar .gtr (t
 11) (i 24)),o 13 (.pk (t 9) T (t 12)),m 14 13,h 15 14 (.fa 1 (t 4)),h 16 14 (.ld none (t 15)),⟨(some 17),(some (14,false)),(.call (.c (.fn (.func jx) [] [])) [(.t
 16),(.c (.fn (.func cM) [] []))])⟩,h 18 14 (.un .not (t 17)),o 19 (.pk (t 14) T (t 18)),m 20 19,h 21 20 (.fa 2 (t 4)),h 22 20 (.ld none (t 21)),⟨(some 23),(some
 (20,false)),(.call (.c (.fn (.func jx) [] [])) [(.t 22),(.c (.fn (.func cM) [] []))])⟩,h 24 20 (.un .not (t 23)),o 25 (.pk (t 20) T (t 24))]) (Y [2,4,
 25])) (C 25 (Q (O [mc 5 (u 1)]) R) X)) (Q (Q (O [la 26 6 2,fa 27 3 4,ld 28 27,k 29 (f iS) [(t 26),(t 28)],m 5 29]) (Y [5])) R)))
def ez:AFn:=⟨mV,30,[.t 5],.drop,[],none⟩
theorem Ay:ez.res=[.t 5]∧ez.mode = .drop∧ez.dfr=none:=⟨rfl,rfl,rfl⟩
def zu:AC:=
 (Q (O [mc 4 F]) (Q (Q (O [m 5 0,lt 6 5,o 7 (.ar .leq (t 6) (i 6)),m 8 7,g 9 8 (.mv (t 0)),g 10 8 (.mv (t 1)),⟨(some 11),(some (8,true)),(.call (.c (.fn (.func qq)
 [] [])) [(.t 9),(.t 10)])⟩,o 12 (.pk (t 8) (t 11) F),m 4 12]) (Y [4])) R))
def mo:AFn:=⟨zu,13,[.t 4],.drop,[],none⟩
theorem KU:mo.res=[.t 4]∧mo.mode = .drop∧mo.dfr=none:=⟨rfl,rfl,rfl⟩
def eX:AC:=
 (Q (O [mc 4 F]) (Q (Q (O [m 5 0,m 6 1,k 7 (f cN) [(t 5),(t 6)],o 8 (.ar .geq (t 7) (i 0)),m 4 8]) (Y [4])) R))
def ba:AFn:=⟨eX,9,[.t 4],.drop,[],none⟩
theorem oO:ba.res=[.t 4]∧ba.mode = .drop∧ba.dfr=none:=⟨rfl,rfl,rfl⟩
def mW:AC:=
 (Q (O [o 2 (.bx b6 (t 0)),mc 3 F]) (Q (Q (O [fa 4 0 2,ld 5 4,fa 6 0 1,ld 7 6,o 8 (.ar .eql (t 5) (t 7)),m 9 8,g 10 9 (.fa 1 (t 2)),g 11 9 (.ld none (t 10)),g 12 9
 (.fa 1 (t 1)),g 13 9 (.ld none (t 12)),g 14 9 (.ar .eql (t 11) (t 13)),o 15 (.pk (t 9) (t 14) F),m 3 15]) (Y [3])) R))
def eA:AFn:=⟨mW,16,[.t 3],.drop,[],none⟩
theorem Az:eA.res=[.t 3]∧eA.mode = .drop∧eA.dfr=none:=⟨rfl,rfl,rfl⟩
def fy:AC:=
 (Q (O [mc 4 F]) (Q (Q (O [m 5 0,m 6 1,k 7 (f da) [(t 5),(t 6)],o 8 (.ar .geq (t 7) (i 0)),m 4 8]) (Y [4])) R))
def bg:AFn:=⟨fy,9,[.t 4],.drop,[],none⟩
theorem qf:bg.res=[.t 4]∧bg.mode = .drop∧bg.dfr=none:=⟨rfl,rfl,rfl⟩
def mX:AC:=
 (Q (O [o 2 (.bx cj (t 0)),mc 3 F]) (Q (Q (O [fa 4 2 1,ld 5 4,fa 6 3 2,ld 7 6,k 8 (f u0) [(t 5),(t 7)],m 3 8]) (Y [3])) R))
def eB:AFn:=⟨mX,9,[.t 3],.drop,[],none⟩
theorem AA:eB.res=[.t 3]∧eB.mode = .drop∧eB.dfr=none:=⟨rfl,rfl,rfl⟩
def dJ:AC:=
 (Q (O [mc 4 F]) (Q (Q (O [m 5 0,m 6 1,k 7 (f bJ) [(t 5),(t 6)],o 8 (.ar .geq (t 7) (i 0)),m 4 8]) (Y [4])) R))
def aL:AFn:=⟨dJ,9,[.t 4],.drop,[],none⟩
theorem ln:aL.res=[.t 4]∧aL.mode = .drop∧aL.dfr=none:=⟨rfl,rfl,rfl⟩
def mY:AC:=
 (Q (O [o 2 (.bx dQ (t 0)),mc 3 F]) (Q (Q (O [fa 4 0 2,ld 5 4,fa 6 0 1,ld 7 6,o 8 (.ar .eql (t 5) (t 7)),m 3 8]) (Y [3])) R))
def eC:AFn:=⟨mY,9,[.t 3],.drop,[],none⟩
theorem AB:eC.res=[.t 3]∧eC.mode = .drop∧eC.dfr=none:=⟨rfl,rfl,rfl⟩
def xm:AC:=
 (Q (O [mc 2 F]) (Q (Q (O [m 3 0,k 4 (f mG) [(t 3)],m 5 4,h 6 5 (.mv (t 0)),h 7 5 (.ar .eql (t 6) (u 35)),o 8 (.pk (t 5) T (t 7)),m 9 8,h 10 9 (.mv (t 0)),h 11 9
 (.ar .eql (t 10) (u 86)),o 12 (.pk (t 9) T (t 11)),m 13 12,h 14 13 (.mv (t 0)),h 15 13 (.ar .eql (t 14) (u 67)),o 16 (.pk (t 13) T (t 15)),m 2 16]) (Y [2])) R))
def kN:AFn:=⟨xm,17,[.t 2],.drop,[],none⟩
theorem JO:kN.res=[.t 2]∧kN.mode = .drop∧kN.dfr=none:=⟨rfl,rfl,rfl⟩
def cw:AC:=
 (Q (O [bl 9 8 7]) (Q (C 9 X (.exit 0)) (Q (.block 1 (Q (O [m 10 8,m 5 10]) (Q (Q (O [m 11 1,m 12 0,m 13 5,ia 14 2 12 13,la 15 2 14,k 16 (t 11) [(t 15)]]) (Y [0,1,5,7,8,
 16])) (C 16 (Q (O [m 17 5,m 4 17]) R) X)))) (O [ad 18 8,m 8 18]))))
def fH:AC:=
 (Q (O [mc 4 (i 0)]) (Q (Q (O [m 6 0,ls 7 6,mc 8 (i 0)]) (Q (.block 0 (.loop ⟨(some [0,1,7,8]),[],false⟩ cw)) (Y []))) (Q (O [mc 4 (i
 (-1))]) R)))
def aF:AFn:=⟨fH,19,[.t 4],.drop,[],none⟩
theorem fI:aF.res=[.t 4]∧aF.mode = .drop∧aF.dfr=none:=⟨rfl,rfl,rfl⟩
def tx:AC:=
 (Q (O [o 2 (.bx b5 (t 0)),mc 3 F]) (Q (Q (O [fa 4 0 2,ld 5 4,ld 6 1,o 7 (.ar .eql (t 5) (t 6)),m 3 7]) (Y [3])) R))
def ja:AFn:=⟨tx,8,[.t 3],.drop,[],none⟩
theorem Gk:ja.res=[.t 3]∧ja.mode = .drop∧ja.dfr=none:=⟨rfl,rfl,rfl⟩
def Gl:AC:=
 (.block 1 (Q (Q (O [m 20 0,m 21 1,k 22 (f oI) [(t 20),(t 21)],m 6 22]) (Y [0,1,5,6])) (Q (Q (O [m 23 6,o 24 (.ar .eql (t 23) (i (-1)))]) (C 24 (Q (O [m 25 5,m
 4 25]) R) X)) (Q (O [m 26 5,ad 27 26,m 5 27]) (Q (O [m 28 0,m 29 6,m 30 1,lt 31 30,o 32 (.ar .add (t 29) (t 31)),o 33 (.sls (t 28) (some (t 32)) none),m 0 33]) (Y [0,1,
 5]))))))
def vM:AC:=
 (Q (O [mc 4 (i 0)]) (Q (Q (O [m 7 1,lt 8 7,o 9 (.ar .eql (t 8) (i 0))]) (C 9 (Q (Q (O [m 10 0,k 11 (f lR) [(t 10)],ad 12 11,m 4 12]) (Y [4])) R)
 X)) (Q (Q (O [m 13 1,lt 14 13,o 15 (.ar .eql (t 14) (i 1))]) (C 15 (Q (Q (O [m 16 0,m 17 1,o 18 (.ixs (t 17) (i 0)),k 19 (f ep) [(t 16),(t 18)],m
 4 19]) (Y [4])) R) X)) (Q (O [mc 5 (i 0)]) (Q (.block 0 (.loop ⟨(some [0,1,5]),[],false⟩ Gl)) (Y []))))))
def kb:AFn:=⟨vM,34,[.t 4],.drop,[],none⟩
theorem IF:kb.res=[.t 4]∧kb.mode = .drop∧kb.dfr=none:=⟨rfl,rfl,rfl⟩
def vN:AC:=
 (Q (O [mc 4 (i 0)]) (Q (Q (O [m 5 0,m 6 1,k 7 (f gS) [(t 5),(t 6)],m 4 7]) (Y [4])) R))
def kd:AFn:=⟨vN,8,[.t 4],.drop,[],none⟩
theorem IG:kd.res=[.t 4]∧kd.mode = .drop∧kd.dfr=none:=⟨rfl,rfl,rfl⟩
def iL:AC:=
 (Q (O [bl 17 16 15]) (Q (C 17 X (.exit 0)) (Q (.block 1 (Q (Q (O [m 18 16,ia 19 2 14 16,la 20 2 19,o 8 (.nw [(.str []),(.str [])] aR),m 7 18,n (.st 2 (t 8) (t 20))])
 (Y [2,7,8,14,15,16])) (Q (Q (O [m 21 2,m 22 7,la 23 2 8,k 24 (t 21) [(t 22),(t 23)],m 9 24]) (Y [2,9,14,15,16])) (Q (O [m 25 9,o 26 (.ar .neq (t 25) (u 0))]) (C 26 (Q
 (O [m 27 9,m 6 27]) R) X))))) (O [ad 28 16,m 16 28]))))
def pU:AC:=
 (Q (O [mc 6 (u 0)]) (Q (Q (Q (O [m 10 0,ls 11 10,m 12 1,o 13 (.ar .gtr (t 11) (t 12))]) (Y [0,2,13])) (C 13 (Q (O [mc 6 (u 3)]) R) X)) (Q (Q (O [m 14 0,ls 15 14,mc 16 (i 0)])
 (Q (.block 0 (.loop ⟨(some [2,14,15,16]),[],true⟩ iL)) (Y []))) (Q (O [mc 6 (u 0)]) R))))
def cY:AFn:=⟨pU,29,[.t 6],.drop,[],none⟩
theorem pV:cY.res=[.t 6]∧cY.mode = .drop∧cY.dfr=none:=⟨rfl,rfl,rfl⟩
def mq:AC:=
 (Q (O [o 5 (.bx aR (t 1)),mc 6 (u 0)]) (Q (Q (O [fa 8 0 2,fa 9 1 8,ld 10 9,o 11 (.mf (.func iT) [] [(t 5)]),k 12 (f
 bS) [(t 10),(t 11)],m 7 12]) (Y [0,2,3,5,7])) (Q (.block 0 (Q (O [m 14 7,o 15 (.ar .lss (t 14) (i 0)),m 13 15]) (C 13 (Q (O [mc 6 (u 5)])
 R) (Q (Q (D [P (fa 17 0 2),P (fa 18 1 17),W (ld 19 18),P (m 20 7),P (ia 21 2 19 20),P (fa 22 1 21),W (ld 23 22),P (fa 24 1 5),W (ld 25 24),E (k 26 (f
 fB) [(t 23),(t 25)]),P (no 27 26),P (m 16 27)]) (Y [0,3,5,16])) (C 16 (Q (O [mc 6 (u 1)]) R) (Q (Q (D [P (m 29 0),P (o 30 (.ar .gtr (t 29) (i
 0))),P (m 31 30),W (g 32 31 (.ld none (t 3))),P (g 33 31 (.mv (t 0))),P (g 34 31 (.ar .sub (t 33) (i 1))),P (g 35 31 (.ias 2 (t 32) (t 34))),P (g 36 31 (.fa 0 (t 35))),W (g
 37 31 (.ld none (t 36))),P (g 38 31 (.fa 0 (t 5))),W (g 39 31 (.ld none (t 38))),P (g 40 31 (.ar .eql (t 37) (t 39))),P (o 41 (.pk (t 31) (t 40) F)),P (m 28 41)]) (Y [0,3,5,
 28])) (C 28 (Q (O [mc 6 (u 6)]) R) (Q (Q (D [P (m 43 0),P (o 44 (.ar .gtr (t 43) (i 0))),P (m 45 44),W (g 46 45 (.ld none (t 3))),P (g 47 45 (.mv (t 0))),P (g 48 45 (.ar .sub
 (t 47) (i 1))),P (g 49 45 (.ias 2 (t 46) (t 48))),P (g 50 45 (.fa 0 (t 49))),W (g 51 45 (.ld none (t 50))),P (g 52 45 (.fa 0 (t 5))),W (g 53 45 (.ld none (t 52))),P (g 54 45
 (.ar .gtr (t 51) (t 53))),P (o 55 (.pk (t 45) (t 54) F)),P (m 42 55)]) (Y [42])) (C 42 (Q (O [mc 6 (u 1)]) R) X))))))))) (Q (O [mc 6 (u 0)]) R))))
def dZ:AFn:=⟨mq,56,[.t 6],.drop,[],none⟩
theorem mr:dZ.res=[.t 6]∧dZ.mode = .drop∧dZ.dfr=none:=⟨rfl,rfl,rfl⟩
def cA:AC:=
 (Q (O [bl 9 8 7]) (Q (C 9 X (.exit 0)) (Q (.block 1 (Q (O [m 10 8,m 5 10]) (Q (Q (O [m 11 1,m 12 0,m 13 5,ia 14 2 12 13,la 15 2 14,k 16 (t 11) [(t 15)]]) (Y [0,1,5,7,8,
 16])) (C 16 (Q (O [m 17 5,m 4 17]) R) X)))) (O [ad 18 8,m 8 18]))))
def fJ:AC:=
 (Q (O [mc 4 (i 0)]) (Q (Q (O [m 6 0,ls 7 6,mc 8 (i 0)]) (Q (.block 0 (.loop ⟨(some [0,1,7,8]),[],false⟩ cA)) (Y []))) (Q (O [mc 4 (i
 (-1))]) R)))
def aG:AFn:=⟨fJ,19,[.t 4],.drop,[],none⟩
theorem fK:aG.res=[.t 4]∧aG.mode = .drop∧aG.dfr=none:=⟨rfl,rfl,rfl⟩
def kO:AC:=
 (Q (O [o 2 (.bx gr (t 0)),mc 3 F]) (Q (Q (O [fa 4 0 2,ld 5 4,fa 6 0 1,ld 7 6,o 8 (.ar .eql (t 5) (t 7)),m 3 8]) (Y [3])) R))
def dz:AFn:=⟨kO,9,[.t 3],.drop,[],none⟩
theorem xn:dz.res=[.t 3]∧dz.mode = .drop∧dz.dfr=none:=⟨rfl,rfl,rfl⟩
def jb:AC:=
 (Q (O [mc 4 F]) (Q (Q (O [m 5 0,lt 6 5,m 7 1,lt 8 7,o 9 (.ar .geq (t 6) (t 8)),m 10 9,g 11 10 (.mv (t 0)),g 12 10 (.mv (t 1)),g 13 10 (.len .str (t 12)),g 14 10 (.sls (t
 11) none (some (t 13))),g 15 10 (.mv (t 1)),g 16 10 (.ar .eql (t 14) (t 15)),o 17 (.pk (t 10) (t 16) F),m 4 17]) (Y [4])) R))
def b7:AFn:=⟨jb,18,[.t 4],.drop,[],none⟩
theorem lV:b7.res=[.t 4]∧b7.mode = .drop∧b7.dfr=none:=⟨rfl,rfl,rfl⟩
def oq:AC:=
 (Q (O [o 4 (.bx aM (t 0)),mc 8 F]) (Q (Q (Q (O [m 11 3,o 12 (.ar .lss (t 11) (i 0)),m 13 12,h 14 13 (.mv (t 3)),h 15 13 (.mv (t 2)),h 16 13 (.len .str (t 15)),h
 17 13 (.ar .geq (t 14) (t 16)),o 18 (.pk (t 13) T (t 17))]) (Y [1,2,3,4,18])) (C 18 (Q (Q (O [m 19 1,o 20 (.ar .eql (t 19) (u 35)),m 21 20,g 22 21 (.mv (t 3)),g 23 21 (.ar
 .eql (t 22) (i (-1))),g 24 21 (.mv (t 23)),h 25 24 (.mv (t 3)),h 26 24 (.mv (t 2)),h 27 24 (.len .str (t 26)),h 28 24 (.ar .eql (t 25) (t 27)),g 29 21 (.pk (t 24) T (t 28)),o
 30 (.pk (t 21) (t 29) F),m 8 30]) (Y [8])) R) X)) (Q (Q (O [m 31 2,m 32 3,o 33 (.ixs (t 31) (t 32)),m 9 33]) (Y [1,4,9])) (Q (Q (O [fa 34 0 4,fa 35 0 34,ld 36 35,m 37 9,k
 38 (f rj) [(t 36),(t 37)],o 39 (.ar .geq (t 38) (i 0)),m 10 39]) (Y [1,9,10])) (Q (Q (O [m 40 1]) (.block 0 (Q (.block 2 (Q (.block 1 (Q (Q (Q (O [o 42 (.ar
 .eql (t 40) (u 67)),m 41 42]) (C 41 (.exit 1) X)) (Q (O [o 44 (.ar .eql (t 40) (u 86)),m 43 44]) (C 43 (.exit 2) X))) (.exit 0))) (O [m 45 10,no 46 45,m 10 46]))) (Q (Q (Q (O [m
 47 9,k 48 (f cM) [(t 47)],m 49 48,g 50 49 (.mv (t 10)),o 51 (.pk (t 49) (t 50) F),m 8 51]) (Y [8])) R) (.exit 0))))) (Q (Q (O [m 52 1,m 53 9,o 54 (.ar .eql (t 52)
 (t 53)),m 8 54]) (Y [8])) R))))))
def eQ:AFn:=⟨oq,55,[.t 8],.drop,[],none⟩
theorem ot:eQ.res=[.t 8]∧eQ.mode = .drop∧eQ.dfr=none:=⟨rfl,rfl,rfl⟩
def bT:AC:=
 (Q (Q (O [m 2 0,o 3 (.nc (t 2)),fa 4 0 3,ld 5 4,o 6 (.eq false .ptr (t 5) (.c .nilp))]) (Y [0,6])) (C 6 (Q (O [m 7 0,m 8 0,o 9 (.cvu (t 8)),k 10 (f hZ)
 [(t 9)],o 11 (.cvf bu 2 (t 10)),o 12 (.nc (t 7)),fa 13 0 12,n (.st 1 (t 13) (t 11))]) (Y [])) (Q (Q (O [m 14 0,o 15 (.nc (t 14)),fa 16 0 15,ld 17 16,m 18 0,o
 19 (.eq true .ptr (t 17) (t 18))]) (Y [19])) (C 19 .bad X))))
def dm:AFn:=⟨bT,20,[],.drop,[],none⟩
theorem iO:dm.res=[]∧dm.mode = .drop∧dm.dfr=none:=⟨rfl,rfl,rfl⟩
def jc:AC:=
 (Q (Q (Q (O [m 12 3,m 13 0,lt 14 13,bl 15 12 14]) (Y [0,3,15])) (C 15 X (.exit 0))) (Q (.block 1 (Q (Q (O [m 18 0,m 19 3,o 20 (.ixs (t 18) (t 19)),o 21 (.ar .lss (t 20) (u
 33)),m 22 21,h 23 22 (.mv (t 0)),h 24 22 (.mv (t 3)),h 25 22 (.ixs (t 23) (t 24)),h 26 22 (.ar .gtr (t 25) (u 126)),o 27 (.pk (t 22) T (t 26))]) (Y [0,3,27])) (C 27 (Q (O
 [mc 2 F]) R) X))) (O [m 16 3,ad 17 16,m 3 17])))
def qC:AC:=
 (Q (O [mc 2 F]) (Q (Q (Q (O [m 4 0,lt 5 4,o 6 (.ar .lss (t 5) (i 1)),m 7 6,h 8 7 (.mv (t 0)),h 9 7 (.len .str (t 8)),h 10 7 (.ar .gtr (t 9) (i 24)),o 11 (.pk (t 7) T (t
 10))]) (Y [0,11])) (C 11 (Q (O [mc 2 F]) R) X)) (Q (Q (O [mc 3 (i 0)]) (Q (.block 0 (.loop ⟨(some [0,3]),[],false⟩ jc)) (Y []))) (Q (O [mc 2 T]) R))))
def bH:AFn:=⟨qC,28,[.t 2],.drop,[],none⟩
def gi:AC:=
 (Q (Q (Q (O [m 31 10,fa 32 0 4,ld 33 32,lt 34 33,bl 35 31 34]) (Y [1,2,3,4,9,10,35])) (C 35 X (.exit 0))) (Q (.block 1 (Q (D [P (m 38 9),P (m 39 38),P (h 40 39 (.fa 0 (t
 4))),W (h 41 39 (.ld none (t 40))),P (h 42 39 (.mv (t 10))),P (h 43 39 (.ixs (t 41) (t 42))),P (h 44 39 (.mv (t 2))),P (h 45 39 (.mv (t 3))),P (h 46 39 (.ixs (t 44) (t 45))),
 P (h 47 39 (.ar .eql (t 43) (t 46))),P (o 48 (.pk (t 39) T (t 47))),P (m 9 48)]) (Y [1,2,3,4,9,10]))) (O [m 36 10,ad 37 36,m 10 37])))
def mZ:AC:=
 (Q (O [o 4 (.bx au (t 0)),mc 8 F]) (Q (Q (Q (O [m 11 3,o 12 (.ar .lss (t 11) (i 0)),m 13 12,h 14 13 (.mv (t 3)),h 15 13 (.mv (t 2)),h 16 13 (.len .str (t 15)),h 17
 13 (.ar .geq (t 14) (t 16)),o 18 (.pk (t 13) T (t 17))]) (Y [1,2,3,4,18])) (C 18 (Q (Q (O [m 19 1,o 20 (.ar .eql (t 19) (u 35)),m 21 20,g 22 21 (.mv (t 3)),g 23 21 (.ar
 .eql (t 22) (i (-1))),g 24 21 (.mv (t 23)),h 25 24 (.mv (t 3)),h 26 24 (.mv (t 2)),h 27 24 (.len .str (t 26)),h 28 24 (.ar .eql (t 25) (t 27)),g 29 21 (.pk (t 24) T (t 28)),o
 30 (.pk (t 21) (t 29) F),m 8 30]) (Y [8])) R) X)) (Q (O [mc 9 F]) (Q (Q (O [mc 10 (i 0)]) (Q (.block 0 (.loop ⟨(some [1,2,3,4,9,10]),[],false⟩ gi)) (Y
 [1,2,3,9]))) (Q (Q (O [m 49 1]) (.block 2 (Q (O [o 51 (.ar .eql (t 49) (u 86)),m 50 51]) (C 50 (Q (O [m 52 9,m 8 52]) R) (Q (O [o 54 (.ar .eql (t 49) (u 67)),m 53 54]) (C 53
 (Q (Q (O [m 55 2,m 56 3,o 57 (.ixs (t 55) (t 56)),k 58 (f fQ) [(t 57)],m 59 58,g 60 59 (.mv (t 9)),g 61 59 (.un .not (t 60)),o 62 (.pk (t 59) (t 61) F),m
 8 62]) (Y [8])) R) X)))))) (Q (Q (O [m 63 1,m 64 2,m 65 3,o 66 (.ixs (t 64) (t 65)),o 67 (.ar .eql (t 63) (t 66)),m 8 67]) (Y [8])) R))))))
def dI:AFn:=⟨mZ,68,[.t 8],.drop,[],none⟩
theorem iM:dI.res=[.t 8]∧dI.mode = .drop∧dI.dfr=none:=⟨rfl,rfl,rfl⟩
def jd:AC:=
 (Q (O [m 4 0,k 5 (f cD) [(t 4)]]) (Q (Q (O [m 6 1,o 7 (.ar .lss (t 6) (i 0))]) (C 7 (O [o 8 (.mi bb (s [115,116,114,105,110,103,115,46,66,
 117,105,108,100,101,114,46,71,114,111,119,58,32,110,101,103,97,116,105,118,101,32,99,111,117,110,116])),⟨none,none,(.panic (.t 8))⟩]) X)) (Q (Q (D [P (m
 9 0),P (o 10 (.nc (t 9))),P (fa 11 1 10),W (ld 12 11),P (o 13 (.cap (t 12))),P (m 14 0),P (o 15 (.nc (t 14))),P (fa 16 1 15),W (ld 17 16),W (ls 18 17),P (o 19 (.ar .sub (t
 13) (t 18))),P (m 20 1),P (bl 21 19 20)]) (Y [0,1,21])) (C 21 (O [m 22 0,m 23 1,k 24 (f nN) [(t 22),(t 23)]]) X))))
def eR:AFn:=⟨jd,25,[],.keep,[],none⟩
theorem tz:eR.res=[]∧eR.mode = .keep∧eR.dfr=none:=⟨rfl,rfl,rfl⟩
def sV:AC:=
 (Q (O [mc 2 (.c (.int .i32 0)),mc 3 (i 0)]) (Q (Q (Q (O [m 4 0,o 5 (.ar .neq (t 4) (s [])),m 6 5,g 7 6 (.mv (t 0)),g 8 6 (.ixs (t 7) (i 0)),g 9 6 (.ar .lss (t 8) (u 128)),o
 10 (.pk (t 6) (t 9) F)]) (Y [0,10])) (C 10 (Q (Q (O [m 11 0,o 12 (.ixs (t 11) (i 0)),o 13 (.cvi .i32 (t 12)),m 2 13,mc 3 (i 1)]) (Y [2,3])) R) (Q (O [m 15 0,k 16 (f
 qN) [(t 15)],m 14 16,ex 17 14 0,ex 18 14 1,m 2 17,m 3 18]) (Y [2,3])))) R))
def iP:AFn:=⟨sV,19,[.t 2,.t 3],.drop,[],none⟩
def cB:AC:=
 (Q (O [bl 9 8 7]) (Q (C 9 X (.exit 0)) (Q (.block 1 (Q (O [m 10 8,m 5 10]) (Q (Q (O [m 11 1,m 12 0,m 13 5,ia 14 4 12 13,la 15 4 14,k 16 (t 11) [(t 15)]]) (Y [0,1,5,7,8,
 16])) (C 16 (Q (O [m 17 5,m 4 17]) R) X)))) (O [ad 18 8,m 8 18]))))
def fL:AC:=
 (Q (O [mc 4 (i 0)]) (Q (Q (O [m 6 0,ls 7 6,mc 8 (i 0)]) (Q (.block 0 (.loop ⟨(some [0,1,7,8]),[],false⟩ cB)) (Y []))) (Q (O [mc 4 (i
 (-1))]) R)))
def aH:AFn:=⟨fL,19,[.t 4],.drop,[],none⟩
theorem fM:aH.res=[.t 4]∧aH.mode = .drop∧aH.dfr=none:=⟨rfl,rfl,rfl⟩
def cR:AC:=
 (Q (O [bl 9 8 7]) (Q (C 9 X (.exit 0)) (Q (.block 1 (Q (O [m 10 8,m 5 10]) (Q (Q (O [m 11 1,m 12 0,m 13 5,ia 14 4 12 13,la 15 4 14,k 16 (t 11) [(t 15)]]) (Y [0,1,5,7,8,
 16])) (C 16 (Q (O [m 17 5,m 4 17]) R) X)))) (O [ad 18 8,m 8 18]))))
def gm:AC:=
 (Q (O [mc 4 (i 0)]) (Q (Q (O [m 6 0,ls 7 6,mc 8 (i 0)]) (Q (.block 0 (.loop ⟨(some [0,1,7,8]),[],false⟩ cR)) (Y []))) (Q (O [mc 4 (i
 (-1))]) R)))
def aP:AFn:=⟨gm,19,[.t 4],.drop,[],none⟩
theorem gn:aP.res=[.t 4]∧aP.mode = .drop∧aP.dfr=none:=⟨rfl,rfl,rfl⟩
def bE:AC:=
 (Q (O [bl 9 8 7]) (Q (C 9 X (.exit 0)) (Q (.block 1 (Q (O [m 10 8,m 5 10]) (Q (Q (O [m 11 1,m 12 0,m 13 5,ia 14 2 12 13,la 15 2 14,k 16 (t 11) [(t 15)]]) (Y [0,1,5,7,8,
 16])) (C 16 (Q (O [m 17 5,m 4 17]) R) X)))) (O [ad 18 8,m 8 18]))))
def ee:AC:=
 (Q (O [mc 4 (i 0)]) (Q (Q (O [m 6 0,ls 7 6,mc 8 (i 0)]) (Q (.block 0 (.loop ⟨(some [0,1,7,8]),[],false⟩ bE)) (Y []))) (Q (O [mc
 4 (i (-1))]) R)))
def az:AFn:=⟨ee,19,[.t 4],.drop,[],none⟩
theorem eg:az.res=[.t 4]∧az.mode = .drop∧az.dfr=none:=⟨rfl,rfl,rfl⟩
def sr:AC:=
 (Q (O [o 5 (.nx (t 4)),ex 6 5 0]) (Q (C 6 X (.exit 0)) (.block 1 (O [m 7 2,ad 8 7,m 2 8]))))
def tA:AC:=
 (Q (O [mc 2 (i 0)]) (Q (Q (O [m 3 0,o 4 (.rg (t 3))]) (Q (.block 0 (.loop ⟨(some [2,4]),[],false⟩ sr)) (Y [2]))) (Q (O [m 9 2,m 2 9]) R)))
def je:AFn:=⟨tA,10,[.t 2],.drop,[],none⟩
def uJ:AC:=
 (Q (Q (O [m 57 8,m 58 9,bl 59 57 58]) (C 59 X (.exit 1))) (.block 2 (Q (Q (Q (O [m 60 0,m 61 8,o 62 (.ixs (t 60) (t 61)),m 63 6,o 64 (.ar .neq (t 62) (t 63))]) (Y [0,1,5,6,
 7,8,9,10,64])) (C 64 (Q (Q (O [m 65 0,m 66 8,ad 67 66,m 68 9,o 69 (.sls (t 65) (some (t 67)) (some (t 68))),m 70 6,k 71 (f cT) [(t 69),(t
 70)],m 11 71]) (Y [0,1,5,6,7,8,9,10,11])) (Q (Q (O [m 72 11,o 73 (.ar .lss (t 72) (i 0))]) (C 73 (Q (O [mc 4 (i (-1))]) R) X)) (Q (O [m 74 8,m 75 11,ad 76 75,o 77 (.ar
 .add (t 74) (t 76)),m 8 77]) (Y [0,1,5,6,7,8,9,10])))) X)) (Q (Q (Q (O [m 78 0,m 79 8,ad 80 79,o 81 (.ixs (t 78) (t 80)),m 82 7,o 83 (.ar .eql (t 81) (t 82)),m 84 83,
 g 85 84 (.mv (t 0)),g 86 84 (.mv (t 8)),g 87 84 (.mv (t 8)),g 88 84 (.mv (t 5)),g 89 84 (.ar .add (t 87) (t 88)),g 90 84 (.sls (t 85) (some (t 86)) (some (t 89))),g 91 84 (.mv
 (t 1)),g 92 84 (.ar .eql (t 90) (t 91)),o 93 (.pk (t 84) (t 92) F)]) (Y [0,1,5,6,7,8,9,10,93])) (C 93 (Q (O [m 94 8,m 4 94]) R) X)) (Q (O [m 95 8,ad 96 95,m 8 96]) (Q
 (O [m 97 10,ad 98 97,m 10 98]) (Q (Q (O [m 99 5,o 100 (.ld none (.c .unk)),o 101 (.ar .leq (t 99) (t 100)),m 102 101,g 103 102 (.mv (t 10)),g 104 102 (.mv (t 8)),⟨(some
 105),(some (102,true)),(.call (.c (.fn (.func xa) [] [])) [(.t 104)])⟩,g 106 102 (.ar .gtr (t 103) (t 105)),o 107 (.pk (t 102) (t 106) F)]) (Y [0,1,5,
 6,7,8,9,10,107])) (C 107 (Q (Q (O [m 108 0,m 109 8,o 110 (.sls (t 108) (some (t 109)) none),m 111 1,k 112 (f mM) [(t 110),(t 111)],m 12 112])
 (Y [8,12])) (Q (Q (O [m 113 12,o 114 (.ar .geq (t 113) (i 0))]) (C 114 (Q (Q (O [m 115 12,m 116 8,o 117 (.ar .add (t 115) (t 116)),m 4 117]) (Y [4])) R) X)) (Q (O [mc 4 (i
 (-1))]) R))) (Q (Q (O [m 118 5,o 119 (.ld none (.c .unk)),o 120 (.ar .gtr (t 118) (t 119)),m 121 120,g 122 121 (.mv (t 10)),g 123 121 (.mv (t 8)),g 124 121 (.sh .shr (t 123)
 (.c (.int .u64 4))),g 125 121 (.ar .add (i 4) (t 124)),g 126 121 (.ar .geq (t 122) (t 125)),o 127 (.pk (t 121) (t 126) F),m 128 127,g 129 128 (.mv (t 8)),g 130 128 (.mv (t
 9)),g 131 128 (.ar .lss (t 129) (t 130)),o 132 (.pk (t 128) (t 131) F)]) (Y [0,1,5,6,7,8,9,10,132])) (C 132 (Q (Q (O [m 133 0,m 134 8,o 135 (.sls (t 133) (some (t 134))
 none),m 136 1,k 137 (f pn) [(t 135),(t 136)],m 13 137]) (Y [8,13])) (Q (Q (O [m 138 13,o 139 (.ar .lss (t 138) (i 0))]) (C 139 (Q (O [mc
 4 (i (-1))]) R) X)) (Q (Q (O [m 140 8,m 141 13,o 142 (.ar .add (t 140) (t 141)),m 4 142]) (Y [4])) R))) X))))))))))
def ke:AC:=
 (Q (O [mc 4 (i 0)]) (Q (O [m 14 1,lt 15 14,m 5 15]) (Q (.block 0 (Q (Q (O [m 17 5,o 18 (.ar .eql (t 17) (i 0)),m 19 18,h 20 19 (.mv (t 1)),h 21 19 (.mv (t 0)),h 22 19 (.ar
 .eql (t 20) (t 21)),o 23 (.pk (t 19) T (t 22)),m 16 23]) (Y [0,1,5,16])) (C 16 (Q (O [mc 4 (i 0)]) R) (Q (O [m 25 5,o 26 (.ar .eql (t 25) (i 1)),m 24 26]) (C 24 (Q (Q (O [m
 27 0,m 28 1,o 29 (.ixs (t 28) (i 0)),k 30 (f cT) [(t 27),(t 29)],m 4 30]) (Y [4])) R) (Q (Q (O [m 32 5,m 33 0,lt 34 33,o 35 (.ar .geq (t 32) (t
 34)),m 31 35]) (Y [0,1,5,31])) (C 31 (Q (O [mc 4 (i (-1))]) R) (Q (Q (O [m 37 5,o 38 (.ld none (.c .unk)),o 39 (.ar .leq (t 37) (t 38)),m 40 39,g 41 40 (.mv (t 0)),g 42 40
 (.len .str (t 41)),g 43 40 (.ar .leq (t 42) (i 64)),o 44 (.pk (t 40) (t 43) F),m 36 44]) (Y [0,1,5,36])) (C 36 (Q (Q (O [m 45 0,m 46 1,k 47 (f
 mM) [(t 45),(t 46)],m 4 47]) (Y [4])) R) X))))))))) (Q (O [m 48 1,o 49 (.ixs (t 48) (i 0)),m 6 49]) (Q (O [m 50 1,o 51 (.ixs (t 50) (i 1)),m 7 51])
 (Q (O [mc 8 (i 0)]) (Q (Q (O [m 52 0,lt 53 52,m 54 5,o 55 (.ar .sub (t 53) (t 54)),ad 56 55,m 9 56]) (Y [0,1,5,6,7,8,9])) (Q (O [mc 10 (i 0)]) (Q (Q (.block 1 (.loop
 ⟨(some [0,1,5,6,7,8,9,10]),[],false⟩ uJ)) (Y [])) (Q (O [mc 4 (i (-1))]) R))))))))))
def c6:AFn:=⟨ke,143,[.t 4],.drop,[],none⟩
theorem oP:c6.res=[.t 4]∧c6.mode = .drop∧c6.dfr=none:=⟨rfl,rfl,rfl⟩
def rl:AC:=
 (Q (O [mc 4 (i 0)]) (Q (Q (O [m 5 0,m 6 1,k 7 (f cT) [(t 5),(t 6)],m 4 7]) (Y [4])) R))
def gp:AFn:=⟨rl,8,[.t 4],.drop,[],none⟩
theorem D4:gp.res=[.t 4]∧gp.mode = .drop∧gp.dfr=none:=⟨rfl,rfl,rfl⟩
def ou:AC:=
 (Q (Q (D [P (m 5 0),P (o 6 (.nc (t 5))),P (fa 7 1 6),W (ld 8 7),P (o 9 (.cap (t 8))),P (o 10 (.ar .mul (i 2) (t 9))),P (m 11 1),P (o 12 (.ar .add (t 10) (t 11))),P (m 14 0),
 P (o 15 (.nc (t 14))),P (fa 16 1 15),W (ld 17 16),W (ls 18 17),K (k 13 (f dF) [(t 12)]),P (o 19 (.sll 1 (t 13) none (some (t 18)) none)),P (m 4
 19)]) (Y [0,4])) (Q (Q (O [m 20 4,m 21 0,o 22 (.nc (t 21)),fa 23 1 22,ld 24 23,o 25 (.cp 1 false (t 20) (t 24))]) (Y [0,4])) (Q (O [m 26 0,m 27 4,o 28 (.nc (t 26)),fa 29 1
 28,n (.st 1 (t 29) (t 27))]) (Y []))))
def eS:AFn:=⟨ou,30,[],.keep,[],none⟩
theorem BD:eS.res=[]∧eS.mode = .keep∧eS.dfr=none:=⟨rfl,rfl,rfl⟩
def qO:AC:=
 (Q (O [mc 2 (.c (.int .i32 0)),mc 3 (i 0)]) (Q (O [m 13 0,lt 14 13,m 4 14]) (Q (Q (O [m 15 4,o 16 (.ar .lss (t 15) (i 1))]) (C 16 (Q (O [mc 2 (.c (.int .i32 65533)),mc 3 (i
 0)]) R) X)) (Q (O [m 17 0,o 18 (.ixs (t 17) (i 0)),m 5 18]) (Q (Q (O [m 19 5,o 20 (.iaa 256 1 (.c .unk) (t 19)),ld 21 20,m 6 21]) (Y [0,4,5,6])) (Q (Q (O [m 22 6,o 23 (.ar
 .geq (t 22) (u 240))]) (C 23 (Q (Q (O [m 24 6,o 25 (.cvi .i32 (t 24)),o 26 (.sh .shl (t 25) (.c (.int .u64 31))),o 27 (.sh .shr (t 26) (.c (.int .u64 31))),m 7 27]) (Y [0,7]))
 (Q (Q (O [m 28 0,o 29 (.ixs (t 28) (i 0)),o 30 (.cvi .i32 (t 29)),m 31 7,o 32 (.an (t 30) (t 31)),m 33 7,o 34 (.ar .and (.c (.int .i32 65533)) (t 33)),o 35 (.ar .or (t 32) (t
 34)),m 2 35,mc 3 (i 1)]) (Y [2,3])) R)) X)) (Q (Q (O [m 36 6,o 37 (.ar .and (t 36) (u 7)),o 38 (.cvi .i64 (t 37)),m 8 38]) (Y [0,4,5,6,8])) (Q (Q (O [m 39 6,o 40 (.sh
 .shr (t 39) (.c (.int .u64 4))),o 41 (.iaa 16 2 (.c .unk) (t 40)),la 42 2 41,o 9 (.nw [(.int .u8 0),(.int .u8 0)] E8),n (.st 2 (t 9) (t 42))]) (Y [0,4,5,8,
 9])) (Q (Q (O [m 43 4,m 44 8,bl 45 43 44]) (C 45 (Q (O [mc 2 (.c (.int .i32 65533)),mc 3 (i 1)]) R) X)) (Q (O [m 46 0,o 47 (.ixs (t 46) (i 1)),m 10 47]) (Q (Q (Q (O [m 48 10,
 fa 49 0 9,ld 50 49,bl 51 48 50,m 52 51,h 53 52 (.fa 1 (t 9)),h 54 52 (.ld none (t 53)),h 55 52 (.mv (t 10)),h 56 52 (.ar .lss (t 54) (t 55)),o 57 (.pk (t 52) T (t 56))]) (Y
 [0,5,8,10,57])) (C 57 (Q (O [mc 2 (.c (.int .i32 65533)),mc 3 (i 1)]) R) X)) (Q (Q (O [m 58 8,o 59 (.ar .leq (t 58) (i 2))]) (C 59 (Q (Q (O [m 60 5,o 61 (.ar .and (t 60) (u
 31)),o 62 (.cvi .i32 (t 61)),o 63 (.sh .shl (t 62) (.c (.int .u64 6))),m 64 10,o 65 (.ar .and (t 64) (u 63)),o 66 (.cvi .i32 (t 65)),o 67 (.ar .or (t 63) (t 66)),m 2 67,mc 3
 (i 2)]) (Y [2,3])) R) X)) (Q (O [m 68 0,o 69 (.ixs (t 68) (i 2)),m 11 69]) (Q (Q (Q (O [m 70 11,o 71 (.ar .lss (t 70) (u 128)),m 72 71,h 73 72 (.mv (t 11)),h 74 72 (.ar .lss
 (u 191) (t 73)),o 75 (.pk (t 72) T (t 74))]) (Y [0,5,8,10,11,75])) (C 75 (Q (O [mc 2 (.c (.int .i32 65533)),mc 3 (i 1)]) R) X)) (Q (Q (O [m 76 8,o 77 (.ar .leq (t 76) (i
 3))]) (C 77 (Q (Q (O [m 78 5,o 79 (.ar .and (t 78) (u 15)),o 80 (.cvi .i32 (t 79)),o 81 (.sh .shl (t 80) (.c (.int .u64 12))),m 82 10,o 83 (.ar .and (t 82) (u 63)),o 84 (.cvi
 .i32 (t 83)),o 85 (.sh .shl (t 84) (.c (.int .u64 6))),o 86 (.ar .or (t 81) (t 85)),m 87 11,o 88 (.ar .and (t 87) (u 63)),o 89 (.cvi .i32 (t 88)),o 90 (.ar .or (t 86) (t 89)),
 m 2 90,mc 3 (i 3)]) (Y [2,3])) R) X)) (Q (O [m 91 0,o 92 (.ixs (t 91) (i 3)),m 12 92]) (Q (Q (Q (O [m 93 12,o 94 (.ar .lss (t 93) (u 128)),m 95 94,h 96 95 (.mv (t 12)),h 97
 95 (.ar .lss (u 191) (t 96)),o 98 (.pk (t 95) T (t 97))]) (Y [5,10,11,12,98])) (C 98 (Q (O [mc 2 (.c (.int .i32 65533)),mc 3 (i 1)]) R) X)) (Q (Q (O [m 99 5,o 100 (.ar .and
 (t 99) (u 7)),o 101 (.cvi .i32 (t 100)),o 102 (.sh .shl (t 101) (.c (.int .u64 18))),m 103 10,o 104 (.ar .and (t 103) (u 63)),o 105 (.cvi .i32 (t 104)),o 106 (.sh .shl (t 105)
 (.c (.int .u64 12))),o 107 (.ar .or (t 102) (t 106)),m 108 11,o 109 (.ar .and (t 108) (u 63)),o 110 (.cvi .i32 (t 109)),o 111 (.sh .shl (t 110) (.c (.int .u64 6))),o 112 (.ar
 .or (t 107) (t 111)),m 113 12,o 114 (.ar .and (t 113) (u 63)),o 115 (.cvi .i32 (t 114)),o 116 (.ar .or (t 112) (t 115)),m 2 116,mc 3 (i 4)]) (Y [2,3])) R))))))))))))))))))
def fW:AFn:=⟨qO,117,[.t 2,.t 3],.drop,[],none⟩
def dU:AC:=
 (Q (O [mc 4 (i 0)]) (Q (Q (O [m 5 0,m 6 1,k 7 (f dy) [(t 5),(t 6)],m 4 7]) (Y [4])) R))
def b8:AFn:=⟨dU,8,[.t 4],.drop,[],none⟩
theorem lW:b8.res=[.t 4]∧b8.mode = .drop∧b8.dfr=none:=⟨rfl,rfl,rfl⟩
def xo:AC:=
 (Q (O [mc 2 (i 0)]) (Q (Q (O [m 3 0,o 4 (.ar .add (t 3) (i 16)),o 5 (.ar .quo (t 4) (i 8)),m 2 5]) (Y [2])) R))
def kP:AFn:=⟨xo,6,[.t 2],.drop,[],none⟩
def ov:AC:=
 (Q (Q (O [m 18 9,m 19 7,bl 20 18 19]) (C 20 X (.exit 0))) (Q (.block 1 (Q (O [m 23 8,o 24 (.ar .mul (t 23) (.c (.int .u32 16777619))),m 25 0,m 26 9,o 27 (.ixs (t 25) (t 26)),
 o 28 (.cvi .u32 (t 27)),o 29 (.ar .add (t 24) (t 28)),m 8 29]) (Y [0,1,5,6,7,8,9]))) (O [m 21 9,ad 22 21,m 9 22])))
def ow:AC:=
 (Q (Q (Q (O [m 41 10,m 42 0,lt 43 42,bl 44 41 43]) (Y [0,1,5,6,7,8,10,44])) (C 44 X (.exit 2))) (.block 3 (Q (O [m 45 8,o 46 (.ar .mul (t 45) (.c (.int .u32 16777619))),
 m 8 46]) (Q (Q (O [m 47 8,m 48 0,m 49 10,o 50 (.ixs (t 48) (t 49)),o 51 (.cvi .u32 (t 50)),o 52 (.ar .add (t 47) (t 51)),m 8 52]) (Y [0,1,5,6,7,8,10])) (Q (Q (O [m 53 8,
 m 54 6,m 55 0,m 56 10,m 57 7,o 58 (.ar .sub (t 56) (t 57)),o 59 (.ixs (t 55) (t 58)),o 60 (.cvi .u32 (t 59)),o 61 (.ar .mul (t 54) (t 60)),o 62 (.ar .sub (t 53) (t 61)),m 8
 62]) (Y [0,1,5,6,7,8,10])) (Q (O [m 63 10,ad 64 63,m 10 64]) (Q (Q (O [m 65 8,m 66 5,o 67 (.ar .eql (t 65) (t 66)),m 68 67,g 69 68 (.mv (t 0)),g 70 68 (.mv (t 10)),g
 71 68 (.mv (t 7)),g 72 68 (.ar .sub (t 70) (t 71)),g 73 68 (.mv (t 10)),g 74 68 (.sls (t 69) (some (t 72)) (some (t 73))),g 75 68 (.mv (t 1)),g 76 68 (.ar .eql (t 74) (t 75)),
 o 77 (.pk (t 68) (t 76) F)]) (Y [0,1,5,6,7,8,10,77])) (C 77 (Q (Q (O [m 78 10,m 79 7,o 80 (.ar .sub (t 78) (t 79)),m 4 80]) (Y [4])) R) X))))))))
def pW:AC:=
 (Q (O [mc 4 (i 0)]) (Q (Q (O [m 12 1,k 13 (f sU) [(t 12)],m 11 13,ex 14 11 0,ex 15 11 1,m 5 14,m 6 15]) (Y [0,1,5,6])) (Q (O [m 16 1,lt 17
 16,m 7 17]) (Q (O [mc 8 (.c (.int .u32 0))]) (Q (Q (O [mc 9 (i 0)]) (Q (.block 0 (.loop ⟨(some [0,1,5,6,7,8,9]),[],false⟩ ov)) (Y
 [0,1,5,6,7,8]))) (Q (Q (Q (O [m 30 8,m 31 5,o 32 (.ar .eql (t 30) (t 31)),m 33 32,g 34 33 (.mv (t 0)),g 35 33 (.mv (t 7)),g 36 33 (.sls (t 34) none (some (t 35))),g 37
 33 (.mv (t 1)),g 38 33 (.ar .eql (t 36) (t 37)),o 39 (.pk (t 33) (t 38) F)]) (Y [0,1,5,6,7,8,39])) (C 39 (Q (O [mc 4 (i 0)]) R) X)) (Q (Q (O [m 40 7,m 10 40]) (Q (.block 2
 (.loop ⟨(some [0,1,5,6,7,8,10]),[],false⟩ ow)) (Y []))) (Q (O [mc 4 (i (-1))]) R))))))))
def fp:AFn:=⟨pW,81,[.t 4],.drop,[],none⟩
def rI:AC:=
 (Q (Q (Q (O [m 9 5,m 10 0,lt 11 10,bl 12 9 11]) (Y [0,4,5,12])) (C 12 X (.exit 0))) (Q (.block 1 (Q (O [m 15 4,o 16 (.ar .mul (t 15) (.c (.int .u32 16777619))),m 17 0,m 18
 5,o 19 (.ixs (t 17) (t 18)),o 20 (.cvi .u32 (t 19)),o 21 (.ar .add (t 16) (t 20)),m 4 21]) (Y [0,4,5]))) (O [m 13 5,ad 14 13,m 5 14])))
def rJ:AC:=
 (Q (Q (O [m 24 8,o 25 (.ar .gtr (t 24) (i 0))]) (C 25 X (.exit 2))) (Q (.block 3 (Q (Q (O [m 28 8,o 29 (.ar .and (t 28) (i 1)),o 30 (.ar .neq (t 29) (i 0))]) (C 30 (Q (O [m 31 6,
 m 32 7,o 33 (.ar .mul (t 31) (t 32)),m 6 33]) (Y [4,6,7,8])) X)) (Q (O [m 34 7,m 35 7,o 36 (.ar .mul (t 34) (t 35)),m 7 36]) (Y [4,6,7,8])))) (O [m 26 8,o 27 (.sh .shr
 (t 26) (.c (.int .u64 1))),m 8 27])))
def sW:AC:=
 (Q (O [mc 2 (.c (.int .u32 0)),mc 3 (.c (.int .u32 0))]) (Q (O [mc 4 (.c (.int .u32 0))]) (Q (Q (O [mc 5 (i 0)]) (Q (.block 0 (.loop ⟨(some [0,4,5]),[],false⟩
 rI)) (Y [0,4]))) (Q (O [mc 6 (.c (.int .u32 1)),mc 7 (.c (.int .u32 16777619))]) (Q (Q (O [m 22 0,lt 23 22,m 8 23]) (Q (.block 2 (.loop ⟨(some
 [4,6,7,8]),[],false⟩ rJ)) (Y [4,6]))) (Q (Q (O [m 37 4,m 38 6,m 2 37,m 3 38]) (Y [2,3])) R))))))
def iQ:AFn:=⟨sW,39,[.t 2,.t 3],.drop,[],none⟩
end
section
open Sh
def BE:AC:=
 (Q (O [mc 0 F]) (Q (O [k 7 (f KO) [(s [118,111,119,101,108,115,32,97,101,105,111,117,10,116,114,97,105,116,32,110,117,109,32,115,103,32,112,
 108,10,99,108,97,115,115,32,110,111,117,110,10,115,108,111,116,32,48,32,45,32,45,32,110,117,109,61,115,103,10,115,108,111,116,32,48,32,45,32,
 115,32,110,117,109,61,112,108,10,99,108,97,115,115,32,118,101,114,98,10,115,108,111,116,32,48,32,45,32,45,10,115,108,111,116,32,48,32,45,32,
 101,100,10,101,110,116,114,121,32,99,105,116,121,32,110,111,117,110,10,101,110,116,114,121,32,99,97,114,32,110,111,117,110,10,101,110,116,114,
 121,32,98,117,115,32,110,111,117,110,10,102,111,114,109,32,49,32,98,117,115,101,115,10,101,110,116,114,121,32,112,108,97,110,32,118,101,114,98,
 10,115,112,101,108,108,32,121,43,32,105,43,101,32,67,32,115,10,115,112,101,108,108,32,110,43,32,110,110,43,32,86,32,101,100,10,108,105,110,
 107,32,110,111,117,110,32,45,32,110,117,109,61,115,103,10])],m 6 7,ex 8 6 0,ex 9 6 1,ex 10 6 2,o 1 (.nw [(.str []),(.slice .nil 2 []),(.slice .nil 2 []),
 (.slice .nil 4 []),(.slice .nil 4 []),(.slice .nil 3 [])] au),n (.st 6 (t 1) (t 8)),m 2 9,m 3 10]) (Q (O [la 12 6 1,k 13 (f wm) [(t 12),(i 0),(i 1)],m
 11 13,ex 14 11 0,ex 15 11 1,m 4 14,m 5 15]) (Q (O [m 16 3,o 17 (.ar .eql (t 16) (u 0)),m 18 17,g 19 18 (.mv (t 5)),g 20 18 (.ar .eql (t 19) (u 0)),o 21 (.pk (t 18) (t 20)
 F),m 22 21,g 23 22 (.mv (t 4)),g 24 22 (.ar .eql (t 23) (s [99,105,116,105,101,115])),o 25 (.pk (t 22) (t 24) F),m 0 25]) R))))
def tB:AFn:=⟨BE,26,[.t 0],.keep,[],none⟩
def EH:AFn:=nQ.k
def G7:AC:=
 (Q (O [bl 31 30 29]) (Q (C 31 X (.exit 0)) (Q (.block 1 (Q (O [m 32 30,ia 33 1 28 30,ld 34 33,m 7 32,m 8 34]) (Q (Q (O [m 35 8,o 36 (.ar .eql (t 35) (s [])),m 37 36,h 38 37
 (.mv (t 8)),h 39 37 (.ixs (t 38) (i 0)),h 40 37 (.ar .eql (t 39) (u 59)),o 41 (.pk (t 37) T (t 40))]) (C 41 (.exit 1) X)) (Q (O [m 42 8,k 43 (f D0) [(t 6),(t
 42)],no 44 43]) (C 44 (Q (O [o 45 (.bd [(.str []),(.slice .nil 2 []),(.slice .nil 2 []),(.slice .nil 4 []),(.slice .nil 4 []),(.slice .nil 3 [])] [(0,1),(1,1),(2,1),(3,
 1),(4,1),(5,1)] []),m 46 7,ad 47 46,n (.st 6 (t 2) (t 45)),m 3 47,mc 4 (u 4)]) R) X))))) (O [ad 48 30,m 30 48]))))
def JP:AC:=
 (Q (O [o 2 (.nw [(.str []),(.slice .nil 2 []),(.slice .nil 2 []),(.slice .nil 4 []),(.slice .nil 4 []),(.slice .nil 3 [])] au),mc 3 (i 0),mc 4 (u 0)]) (Q (Q (O [m
 10 0,lt 11 10,o 12 (.ar .gtr (t 11) (i 65536))]) (C 12 (Q (O [o 13 (.bd [(.str []),(.slice .nil 2 []),(.slice .nil 2 []),(.slice .nil 4 []),(.slice .nil 4 []),(.slice .nil 3
 [])] [(0,1),(1,1),(2,1),(3,1),(4,1),(5,1)] []),n (.st 6 (t 2) (t 13)),mc 3 (i 0),mc 4 (u 3)]) R) X)) (Q (O [m 14 0,k 15 (f B3) [(t 14),(s [10])],m 5
 15]) (Q (Q (O [m 16 5,m 17 5,ls 18 17,o 19 (.ar .sub (t 18) (i 1)),ia 20 1 16 19,ld 21 20,o 22 (.ar .eql (t 21) (s []))]) (C 22 (O [m 23 5,m 24 5,ls 25 24,o 26 (.ar .sub (t
 25) (i 1)),o 27 (.sll 1 (t 23) none (some (t 26)) none),m 5 27]) X)) (Q (O [o 6 (.nw [(.str []),(.slice .nil 2 []),(.slice .nil 2 []),(.slice .nil 4 []),(.slice .nil 4 []),
 (.slice .nil 3 []),(.str []),(.int .i64 0)] JM)]) (Q (Q (O [m 28 5,ls 29 28,mc 30 (i 0)]) (.block 0 (.loop ⟨none,[],false⟩ G7))) (Q (Q (O [fa 49 6 6,
 ld 50 49,o 51 (.ar .eql (t 50) (s []))]) (C 51 (Q (O [o 52 (.bd [(.str []),(.slice .nil 2 []),(.slice .nil 2 []),(.slice .nil 4 []),(.slice .nil 4 []),(.slice .nil 3 [])] [(0,
 1),(1,1),(2,1),(3,1),(4,1),(5,1)] []),n (.st 6 (t 2) (t 52)),mc 3 (i 0),mc 4 (u 4)]) R) X)) (Q (Q (O [fa 53 0 6,la 54 6 53,k 55 (f rF) [(t 54)],m 9 55])
 (Q (O [m 56 9,o 57 (.ar .neq (t 56) (u 0))]) (C 57 (Q (O [o 58 (.bd [(.str []),(.slice .nil 2 []),(.slice .nil 2 []),(.slice .nil 4 []),(.slice .nil 4 []),(.slice .nil 3 [])]
 [(0,1),(1,1),(2,1),(3,1),(4,1),(5,1)] []),m 59 9,n (.st 6 (t 2) (t 58)),mc 3 (i 0),m 4 59]) R) X))) (Q (O [fa 60 0 6,la 61 6 60,n (.st 6 (t 2) (t 61)),mc 3 (i 0),
 mc 4 (u 0)]) R)))))))))
def De:AFn:=⟨JP,62,[.cell 2 (some 6),.t 3,.t 4],.keep,[],none⟩
def EI:AFn:=jz.k
def EJ:AFn:=nR.k
def Df:AFn:=mb.k
def Dg:AFn:=mg.k
def jr:AFn:=bf.k
def Dh:AFn:=mh.k
def sF:AFn:=de.k
def tC:AFn:=dB.k
def Di:AFn:=mj.k
def G8:AC:=
 (Q (O [mc 4 (.c (.slice .nil 1 []))]) (Q (O [m 5 0,m 6 1,k 7 (f w7) [(t 5),(t 6),(i 0),(i (-1))],m 4 7]) R))
def AD:AFn:=⟨G8,8,[.t 4],.keep,[],none⟩
def BF:AC:=
 (Q (O [bl 26 25 24]) (Q (C 26 X (.exit 0)) (Q (.block 1 (Q (O [ia 27 1 23 25,ld 28 27,m 9 28]) (O [m 29 9,o 30 (.ar .neq (t 29) (s [])),k 31 (f jD) [(t 30)]]))) (O
 [ad 32 25,m 25 32]))))
def Dj:AC:=
 (Q (O [m 11 1,k 12 (f B3) [(t 11),(s [32])],m 5 12]) (Q (D [W (k 14 (f KP) []),P (m 15 5),P (o 16 (.ias 1 (t 15) (i 0))),W (ld 17 16),W (o 18 (.lk
 .str (some (.agg [(.int .i64 0),(.int .i64 0),(.bool false),.nilfn])) true (t 14) (t 17))),P (m 13 18),P (ex 19 13 0),P (ex 20 13 1),K (o 6 (.nw [(.int .i64 0),(.int .i64
 0),(.bool false),.nilfn] MP)),E (n (.st 4 (t 6) (t 19))),P (m 7 20)]) (Q (O [m 21 7,k 22 (f jD) [(t 21)]]) (Q (Q (O [m 23 5,ls 24 23,mc 25 (i 0)])
 (.block 0 (.loop ⟨none,[],false⟩ BF))) (Q (O [m 33 5,o 34 (.sll 1 (t 33) (some (i 1)) none none),m 5 34]) (Q (O [m 35 5,ls 36 35,fa 37 1 6,ld 38 37,o 39
 (.ar .geq (t 36) (t 38)),m 40 39,g 41 40 (.fa 2 (t 6)),g 42 40 (.ld none (t 41)),g 43 40 (.mv (t 42)),h 44 43 (.mv (t 5)),h 45 43 (.len .sl (t 44)),h 46 43 (.fa 1 (t 6)),h
 47 43 (.ld none (t 46)),h 48 43 (.ar .eql (t 45) (t 47)),g 49 40 (.pk (t 43) T (t 48)),o 50 (.pk (t 40) (t 49) F),k 51 (f jD) [(t 50)]]) (Q (D [P (m 52 0),P (o 53
 (.nc (t 52))),P (fa 54 6 53),W (ld 55 54),P (o 56 (.ar .eql (t 55) (s []))),P (fa 57 0 6),W (ld 58 57),P (o 59 (.ar .eql (t 58) (i 0))),P (o 60 (.eq false .bool (t 56) (t
 59))),P (m 61 60),P (g 62 61 (.fa 0 (t 6))),W (g 63 61 (.ld none (t 62))),P (g 64 61 (.mv (t 0))),P (g 65 61 (.nc (t 64))),P (g 66 61 (.fa 7 (t 65))),W (g 67 61 (.ld none (t
 66))),P (g 68 61 (.ar .geq (t 63) (t 67))),P (o 69 (.pk (t 61) (t 68) F)),E (k 70 (f jD) [(t 69)])]) (Q (O [fa 71 3 6,ld 72 71,m 73 0,m 74 5,k 75 (t 72) [(t 73),
 (t 74)]]) (Q (.dops true [] [] [P (m 76 0),P (m 77 0),P (m 78 1),W (k 79 (f G5) [(t 78),(s [32]),(i 2)]),P (o 80 (.ias 1 (t 79) (i 0))),W (ld 81 80),P (fa 82 0
 6),W (ld 83 82),P (o 84 (.nc (t 76))),P (fa 85 6 84),K (n (.st 1 (t 85) (t 81))),P (o 86 (.nc (t 77))),P (fa 87 7 86),K (n (.st 1 (t 87) (t 83)))]) (Q (O [n (.st 1 (t 4) T)])
 R))))))))))
def Dk:AC:=
 (O [o 4 (.nw [(.bool false)] SJ)])
def vi:AFn:=⟨Dk,88,[.cell 4 none],.keep,[],(some ([⟨(some 10),none,(.op (.mf (.func Cj) [] [(.t 4)]))⟩],(.t 10),Dj))⟩
def tD:AFn:=fi.k
def lX:AFn:=cq.k
def Gm:AFn:=fe.k
def B6:AFn:=kM.k
def sG:AFn:=dg.k
def B7:AFn:=iW.k
def B8:AFn:=gF.k
def B9:AFn:=jI.k
def Ca:AFn:=jJ.k
def AE:AFn:=j1.k
def xp:AFn:=iX.k
def jX:AFn:=aO.k
def oQ:AFn:=dh.k
def uy:AFn:=fE.k
def Dl:AFn:=jA.k
def sH:AFn:=di.k
def AF:AFn:=j3.k
def sI:AFn:=cG.k
def tE:AFn:=dC.k
def AG:AFn:=j4.k
def sJ:AFn:=cH.k
def tF:AFn:=fk.k
def AH:AFn:=j5.k
def sK:AFn:=cI.k
def tG:AFn:=dD.k
def AI:AFn:=j6.k
def sL:AFn:=cJ.k
def tH:AFn:=fm.k
def AJ:AFn:=j7.k
def tI:AFn:=cW.k
def uz:AFn:=fF.k
def AK:AFn:=j8.k
def Cq:AC:=
 (Q (Q (O [m 34 10,m 35 3,bl 36 34 35]) (C 36 X (.exit 0))) (.block 1 (Q (O [m 37 0,m 38 1,k 39 (f oI) [(t 37),(t 38)],m 11 39]) (Q (Q (O [m 40 11,o 41 (.ar .lss
 (t 40) (i 0))]) (C 41 (.exit 0) X)) (Q (O [m 42 9,m 43 10,m 44 0,m 45 11,m 46 2,o 47 (.ar .add (t 45) (t 46)),o 48 (.sls (t 44) none (some (t 47))),ia 49 1 42 43,n (.st 1 (t
 49) (t 48))]) (Q (O [m 50 0,m 51 11,m 52 1,lt 53 52,o 54 (.ar .add (t 51) (t 53)),o 55 (.sls (t 50) (some (t 54)) none),m 0 55]) (O [m 56 10,ad 57 56,m 10 57])))))))
def D5:AC:=
 (Q (O [mc 8 (.c (.slice .nil 1 []))]) (Q (Q (O [m 12 3,o 13 (.ar .eql (t 12) (i 0))]) (C 13 (Q (O [mc 8 (.c (.slice .nil 1 []))]) R) X)) (Q (Q (O [m 14 1,o 15 (.ar .eql (t 14) (s
 []))]) (C 15 (Q (O [m 16 0,m 17 3,k 18 (f Gd) [(t 16),(t 17)],m 8 18]) R) X)) (Q (Q (O [m 19 3,o 20 (.ar .lss (t 19) (i 0))]) (C 20 (O [m 21 0,m 22 1,k 23 (f
 lJ) [(t 21),(t 22)],ad 24 23,m 3 24]) X)) (Q (O [m 25 3,m 26 0,lt 27 26,ad 28 27,o 29 (.mn (t 25) (t 28)),m 3 29]) (Q (O [m 30 3,o 31 (.ms bb 16 [(.str
 [])] (t 30) (t 30)),m 9 31]) (Q (O [m 32 3,o 33 (.ar .sub (t 32) (i 1)),m 3 33]) (Q (O [mc 10 (i 0)]) (Q (.block 0 (.loop ⟨none,[],false⟩ Cq)) (Q (O [m 58 9,
 m 59 10,m 60 0,ia 61 1 58 59,n (.st 1 (t 61) (t 60))]) (Q (O [m 62 9,m 63 10,ad 64 63,o 65 (.sll 1 (t 62) none (some (t 64)) none),m 8 65]) R)))))))))))
def wa:AFn:=⟨D5,66,[.t 8],.keep,[],none⟩
def AL:AC:=
 (.block 0 (Q (O [o 6 (.eq false (.ifc true) (t 4) (.c .nilif))]) (C 6 (O [m 1 4]) (Q (O [o 7 (.ta ze (some (.agg [])) true (t 4)),ex 8 7 1,ex 9 7 0]) (C 8 (Q (O [o 2
 (.nw [] ze),n (.st 0 (t 2) (t 9))]) (O [n (.st 1 (t 0) F)])) (Q (O [m 3 4]) (O [m 5 3,⟨none,none,(.panic (.t 5))⟩])))))))
def sM:AFn:=⟨AL,10,[],.keep,[],none⟩
def JQ:AC:=
 (Q (O [mc 0 (.c .nilmap)]) (Q (O [o 1 .mm,o 2 (.bd [(.int .i64 0),(.int .i64 0),(.bool false),.nilfn] [(0,1),(1,1),(2,1),(3,1)] [(0,(i 0)),(1,(i 1)),(2,F),(3,(f
 Iq))]),n (.mu .str (t 1) (s [118,111,119,101,108,115]) (t 2)),o 3 (.bd [(.int .i64 0),(.int .i64 0),(.bool false),.nilfn] [(0,1),(1,1),(2,1),(3,1)]
 [(0,(i 1)),(1,(i 1)),(2,T),(3,(f Ir))]),n (.mu .str (t 1) (s [116,114,97,105,116]) (t 3)),o 4 (.bd [(.int .i64 0),(.int .i64 0),(.bool false),.nilfn]
 [(0,1),(1,1),(2,1),(3,1)] [(0,(i 2)),(1,(i 1)),(2,F),(3,(f Is))]),n (.mu .str (t 1) (s [99,108,97,115,115]) (t 4)),o 5 (.bd [(.int .i64 0),(.int
 .i64 0),(.bool false),.nilfn] [(0,1),(1,1),(2,1),(3,1)] [(0,(i 2)),(1,(i 3)),(2,T),(3,(f It))]),n (.mu .str (t 1) (s [115,108,111,116]) (t 5)),o 6
 (.bd [(.int .i64 0),(.int .i64 0),(.bool false),.nilfn] [(0,1),(1,1),(2,1),(3,1)] [(0,(i 3)),(1,(i 2)),(2,T),(3,(f Iu))]),n (.mu .str (t 1) (s [101,
 110,116,114,121]) (t 6)),o 7 (.bd [(.int .i64 0),(.int .i64 0),(.bool false),.nilfn] [(0,1),(1,1),(2,1),(3,1)] [(0,(i 3)),(1,(i 2)),(2,F),(3,(f
 Iv))]),n (.mu .str (t 1) (s [102,111,114,109]) (t 7)),o 8 (.bd [(.int .i64 0),(.int .i64 0),(.bool false),.nilfn] [(0,1),(1,1),(2,1),(3,1)] [(0,(i 4)),
 (1,(i 4)),(2,F),(3,(f Iw))]),n (.mu .str (t 1) (s [115,112,101,108,108]) (t 8)),o 9 (.bd [(.int .i64 0),(.int .i64 0),(.bool false),.nilfn] [(0,1),(1,
 1),(2,1),(3,1)] [(0,(i 5)),(1,(i 2)),(2,T),(3,(f Ix))]),n (.mu .str (t 1) (s [108,105,110,107]) (t 9)),m 10 1,m 0 10]) R))
def Dm:AFn:=⟨JQ,11,[.t 0],.keep,[],none⟩
def II:AC:=
 (Q (O [m 2 0,no 3 2]) (C 3 (O [o 4 (.bd [] [] []),o 5 (.mi ze (t 4)),⟨none,none,(.panic (.t 5))⟩]) X))
def Cb:AFn:=⟨II,6,[],.keep,[],none⟩
def Gn:AC:=
 (Q (O [mc 6 (.c (.slice .nil 1 []))]) (Q (O [m 7 0,m 8 1,m 9 2,k 10 (f w7) [(t 7),(t 8),(i 0),(t 9)],m 6 10]) R))
def yR:AFn:=⟨Gn,11,[.t 6],.keep,[],none⟩
def sN:AFn:=eN.k
def nu:AFn:=bL.k
def vj:AFn:=gl.k
def tJ:AFn:=dE.k
def sO:AFn:=dj.k
def na:AFn:=cQ.k
def oR:AFn:=dk.k
def qY:AFn:=dY.k
def tK:AFn:=fo.k
def xq:AFn:=eD.k
def jf:AFn:=a7.k
def rK:AFn:=ew.k
def jg:AFn:=a8.k
def rL:AFn:=ey.k
def tL:AFn:=cX.k
def rM:AFn:=ez.k
def Dn:AFn:=mo.k
def jh:AFn:=ba.k
def rN:AFn:=eA.k
def js:AFn:=bg.k
def rO:AFn:=eB.k
def fN:AFn:=aL.k
def rP:AFn:=eC.k
def Cc:AFn:=kN.k
def ju:AFn:=aF.k
def xr:AFn:=ja.k
def Do:AC:=
 (Q (Q (O [m 22 7,m 23 1,o 24 (.ar .sub (t 23) (i 1)),bl 25 22 24]) (C 25 X (.exit 0))) (Q (.block 1 (Q (O [m 29 0,k 30 (f lr) [(t 29)],m 28 30,
 ex 31 28 0,ex 32 28 1,m 8 31,m 9 32]) (Q (O [m 33 6,m 34 7,m 35 0,m 36 9,o 37 (.sls (t 35) none (some (t 36))),ia 38 1 33 34,n (.st 1 (t 38) (t 37))]) (O [m 39 0,m 40 9,o
 41 (.sls (t 39) (some (t 40)) none),m 0 41])))) (O [m 26 7,ad 27 26,m 7 27])))
def Fb:AC:=
 (Q (O [mc 4 (.c (.slice .nil 1 []))]) (Q (O [m 10 0,k 11 (f lR) [(t 10)],m 5 11]) (Q (Q (O [m 12 1,o 13 (.ar .lss (t 12) (i 0)),m 14 13,h 15 14
 (.mv (t 1)),h 16 14 (.mv (t 5)),h 17 14 (.ar .gtr (t 15) (t 16)),o 18 (.pk (t 14) T (t 17))]) (C 18 (O [m 19 5,m 1 19]) X)) (Q (O [m 20 1,o 21 (.ms bb 16 [(.str [])] (t
 20) (t 20)),m 6 21]) (Q (Q (O [mc 7 (i 0)]) (.block 0 (.loop ⟨none,[],false⟩ Do))) (Q (Q (O [m 42 1,o 43 (.ar .gtr (t 42) (i 0))]) (C 43 (O [m 44 6,m 45 1,o
 46 (.ar .sub (t 45) (i 1)),m 47 0,ia 48 1 44 46,n (.st 1 (t 48) (t 47))]) X)) (Q (O [m 49 6,m 4 49]) R)))))))
def xt:AFn:=⟨Fb,50,[.t 4],.keep,[],none⟩
def AM:AFn:=kb.k
def AN:AFn:=kd.k
def G9:AC:=
 (O [m 4 0,m 5 1,o 6 (.ias 1 (t 5) (i 0)),ld 7 6,k 8 (f ku) [(t 7)],o 9 (.nc (t 4)),fa 10 0 9,fa 11 0 10,n (.st 1 (t 11) (t 8))])
def AO:AFn:=⟨G9,12,[],.keep,[],none⟩
def KV:AC:=
 (Q (O [mc 2 (s [])]) (Q (Q (O [m 3 0,o 4 (.ar .eql (t 3) (s [45]))]) (C 4 (Q (O [mc 2 (s [])]) R) X)) (Q (O [m 5 0,m 2 5]) R)))
def EL:AFn:=⟨KV,6,[.t 2],.keep,[],none⟩
def Ha:AC:=
 (D [P (m 4 0),P (m 5 0),P (o 6 (.nc (t 5))),P (fa 7 0 6),P (fa 8 1 7),W (ld 9 8),P (m 10 1),P (o 11 (.ias 1 (t 10) (i 0))),W (ld 12 11),P (m 13 1),P (o 14 (.sll 1 (t 13)
 (some (i 1)) none none)),P (o 15 (.bd [(.str []),(.slice .nil 1 [])] [(0,1),(1,1)] [(0,(t 12)),(1,(t 14))])),P (o 16 (.bs 2 [(.str []),(.slice .nil 0 [])] 1 [(0,(t
 15))])),E (o 17 (.ap false gr 2 40 false (t 9) (t 16))),P (o 18 (.nc (t 4))),P (fa 19 0 18),P (fa 20 1 19),E (n (.st 1 (t 20) (t 17)))])
def AP:AFn:=⟨Ha,21,[],.keep,[],none⟩
def Hb:AC:=
 (D [P (m 4 0),P (m 5 0),P (o 6 (.nc (t 5))),P (fa 7 0 6),P (fa 8 2 7),W (ld 9 8),P (m 10 1),P (o 11 (.ias 1 (t 10) (i 0))),W (ld 12 11),P (o 13 (.bd [(.str []),(.slice
 .nil 4 [])] [(0,1),(1,1)] [(0,(t 12))])),P (o 14 (.bs 2 [(.str []),(.slice .nil 0 [])] 1 [(0,(t 13))])),E (o 15 (.ap true b5 2 40 false (t 9) (t 14))),P (o 16 (.nc
 (t 4))),P (fa 17 0 16),P (fa 18 2 17),E (n (.st 1 (t 18) (t 15)))])
def AQ:AFn:=⟨Hb,19,[],.keep,[0],none⟩
def Hc:AC:=
 (Q (O [m 5 0,o 6 (.nc (t 5)),fa 7 6 6,ld 8 7,o 9 (.ar .eql (t 8) (s [99,108,97,115,115])),m 10 9,h 11 10 (.mv (t 0)),h 12 10 (.nc (t 11)),h 13 10 (.fa 6 (t 12)),h 14 10
 (.ld none (t 13)),h 15 10 (.ar .eql (t 14) (s [115,108,111,116])),o 16 (.pk (t 10) T (t 15)),k 17 (f jD) [(t 16)]]) (Q (D [P (m 18 0),P (o 19 (.nc (t 18))),P (fa
 20 0 19),P (fa 21 2 20),W (ld 22 21),P (m 23 0),P (o 24 (.nc (t 23))),P (fa 25 0 24),P (fa 26 2 25),W (ld 27 26),W (ls 28 27),P (o 29 (.ar .sub (t 28) (i 1))),P (ia 30 2
 22 29),P (m 4 30)]) (D [P (m 31 4),P (m 32 4),P (o 33 (.nc (t 32))),P (fa 34 1 33),W (ld 35 34),P (m 36 1),P (o 37 (.ias 1 (t 36) (i 0))),W (ld 38 37),P (m 40 1),P (o 41
 (.ias 1 (t 40) (i 1))),W (ld 42 41),P (m 44 1),P (o 45 (.ias 1 (t 44) (i 2))),W (ld 46 45),P (m 48 1),P (o 49 (.sll 1 (t 48) (some (i 3)) none none)),K (k 39 (f
 w8) [(t 38)]),K (k 43 (f ku) [(t 42)]),K (k 47 (f ku) [(t 46)]),K (k 50 (f zb) [(t 49)]),P (o 51 (.bd [(.int .i64 0),(.str []),(.str
 []),(.slice .nil 2 [])] [(0,1),(1,1),(2,1),(3,1)] [(0,(t 39)),(1,(t 43)),(2,(t 47)),(3,(t 50))])),P (o 52 (.bs 4 [(.int .i64 0),(.str []),(.str []),(.slice .nil 0
 [])] 1 [(0,(t 51))])),E (o 53 (.ap false cj 4 64 false (t 35) (t 52))),P (o 54 (.nc (t 31))),P (fa 55 1 54),E (n (.st 1 (t 55) (t 53)))])))
def AR:AFn:=⟨Hc,56,[],.keep,[],none⟩
def IJ:AC:=
 (Q (O [mc 2 (i 0)]) (Q (O [m 6 0,k 7 (f JL) [(t 6)],m 5 7,ex 8 5 0,ex 9 5 1,m 3 8,m 4 9]) (Q (O [m 10 4,o 11 (.eq false (.ifc true) (t 10) (.c .nilif)),m 12 11,
 g 13 12 (.mv (t 3)),g 14 12 (.ar .geq (t 13) (i 0)),o 15 (.pk (t 12) (t 14) F),m 16 15,g 17 16 (.mv (t 3)),g 18 16 (.ar .leq (t 17) (i 999)),o 19 (.pk (t 16) (t 18) F),m 20
 19,g 21 20 (.mv (t 3)),⟨(some 22),(some (20,true)),(.call (.c (.fn (.func w9) [] [])) [(.t 21)])⟩,g 23 20 (.mv (t 0)),g 24 20 (.ar .eql (t 22) (t 23)),o 25 (.pk
 (t 20) (t 24) F),k 26 (f jD) [(t 25)]]) (Q (O [m 27 3,m 2 27]) R))))
def Cd:AFn:=⟨IJ,28,[.t 2],.keep,[],none⟩
def Hd:AC:=
 (Q (O [bl 12 11 10]) (Q (C 12 X (.exit 0)) (Q (.block 1 (Q (O [ia 13 1 9 11,ld 14 13,m 5 14]) (Q (O [m 15 5,k 16 (f lJ) [(t 15),(s [61])],o 17 (.ar .eql (t 16) (i
 1)),k 18 (f jD) [(t 17)]]) (Q (O [m 20 5,k 21 (f KQ) [(t 20),(s [61])],m 19 21,ex 22 19 0,ex 23 19 1,ex 24 19 2,m 6 22,m 7 23,m 8 24]) (O [m 25 3,m
 26 6,m 27 7,o 28 (.bd [(.str []),(.str [])] [(0,1),(1,1)] [(0,(t 26)),(1,(t 27))]),o 29 (.bs 2 [(.str []),(.str [])] 1 [(0,(t 28))]),o 30 (.ap false aR 2 32
 false (t 25) (t 29)),m 3 30]))))) (O [ad 31 11,m 11 31]))))
def JR:AC:=
 (Q (O [mc 2 (.c (.slice .nil 2 []))]) (Q (O [mc 3 (.c (.slice .nil 2 []))]) (Q (Q (O [m 9 0,ls 10 9,mc 11 (i 0)]) (.block 0 (.loop ⟨none,[],false⟩ Hd))) (Q (O [m
 32 3,m 2 32]) R))))
def Dp:AFn:=⟨JR,33,[.t 2],.keep,[],none⟩
def Hf:AC:=
 (D [P (m 4 0),P (m 5 0),P (o 6 (.nc (t 5))),P (fa 7 0 6),P (fa 8 3 7),W (ld 9 8),P (m 10 1),P (o 11 (.ias 1 (t 10) (i 0))),W (ld 12 11),P (m 13 1),P (o 14 (.ias 1 (t 13)
 (i 1))),W (ld 15 14),P (m 16 1),P (o 17 (.sll 1 (t 16) (some (i 2)) none none)),K (k 18 (f zb) [(t 17)]),P (o 19 (.bd [(.str []),(.str []),(.slice .nil 2 []),
 (.slice .nil 2 [])] [(0,1),(1,1),(2,1),(3,1)] [(0,(t 12)),(1,(t 15)),(2,(t 18))])),P (o 20 (.bs 4 [(.str []),(.str []),(.slice .nil 0 []),(.slice .nil 0 [])] 1 [(0,
 (t 19))])),E (o 21 (.ap true b6 4 80 false (t 9) (t 20))),P (o 22 (.nc (t 4))),P (fa 23 0 22),P (fa 24 3 23),E (n (.st 1 (t 24) (t 21)))])
def AS:AFn:=⟨Hf,25,[],.keep,[0],none⟩
def Hg:AC:=
 (Q (O [m 5 0,o 6 (.nc (t 5)),fa 7 6 6,ld 8 7,o 9 (.ar .eql (t 8) (s [101,110,116,114,121])),m 10 9,h 11 10 (.mv (t 0)),h 12 10 (.nc (t 11)),h 13 10 (.fa 6 (t 12)),h 14
 10 (.ld none (t 13)),h 15 10 (.ar .eql (t 14) (s [102,111,114,109])),o 16 (.pk (t 10) T (t 15)),k 17 (f jD) [(t 16)]]) (Q (D [P (m 18 0),P (o 19 (.nc (t 18))),P
 (fa 20 0 19),P (fa 21 3 20),W (ld 22 21),P (m 23 0),P (o 24 (.nc (t 23))),P (fa 25 0 24),P (fa 26 3 25),W (ld 27 26),W (ls 28 27),P (o 29 (.ar .sub (t 28) (i 1))),P (ia 30
 4 22 29),P (m 4 30)]) (D [P (m 31 4),P (m 32 4),P (o 33 (.nc (t 32))),P (fa 34 3 33),W (ld 35 34),P (m 36 1),P (o 37 (.ias 1 (t 36) (i 0))),W (ld 38 37),P (m 40 1),P (o 41
 (.ias 1 (t 40) (i 1))),W (ld 42 41),K (k 39 (f w8) [(t 38)]),K (k 43 (f ku) [(t 42)]),P (o 44 (.bd [(.int .i64 0),(.str [])] [(0,1),(1,1)] [(0,(t
 39)),(1,(t 43))])),P (o 45 (.bs 2 [(.int .i64 0),(.str [])] 1 [(0,(t 44))])),E (o 46 (.ap false dQ 2 24 false (t 35) (t 45))),P (o 47 (.nc (t 31))),P (fa 48 3
 47),E (n (.st 1 (t 48) (t 46)))])))
def AT:AFn:=⟨Hg,49,[],.keep,[],none⟩
def Hh:AC:=
 (D [P (m 4 0),P (m 5 0),P (o 6 (.nc (t 5))),P (fa 7 0 6),P (fa 8 4 7),W (ld 9 8),P (m 10 1),P (o 11 (.ias 1 (t 10) (i 0))),W (ld 12 11),P (m 14 1),P (o 15 (.ias 1 (t 14)
 (i 1))),W (ld 16 15),P (m 18 1),P (o 19 (.ias 1 (t 18) (i 2))),W (ld 20 19),P (m 22 1),P (o 23 (.ias 1 (t 22) (i 3))),W (ld 24 23),K (k 13 (f ku) [(t 12)]),K (k
 17 (f ku) [(t 16)]),K (k 21 (f ku) [(t 20)]),K (k 25 (f ku) [(t 24)]),P (o 26 (.bd [(.str []),(.str []),(.str []),(.str [])] [(0,1),(1,1),(2,
 1),(3,1)] [(0,(t 13)),(1,(t 17)),(2,(t 21)),(3,(t 25))])),P (o 27 (.bs 4 [(.str []),(.str []),(.str []),(.str [])] 1 [(0,(t 26))])),E (o 28 (.ap false c7 4
 64 false (t 9) (t 27))),P (o 29 (.nc (t 4))),P (fa 30 0 29),P (fa 31 4 30),E (n (.st 1 (t 31) (t 28)))])
def AU:AFn:=⟨Hh,32,[],.keep,[],none⟩
def Hi:AC:=
 (D [P (m 4 0),P (m 5 0),P (o 6 (.nc (t 5))),P (fa 7 0 6),P (fa 8 5 7),W (ld 9 8),P (m 10 1),P (o 11 (.ias 1 (t 10) (i 0))),W (ld 12 11),P (m 13 1),P (o 14 (.ias 1 (t 13)
 (i 1))),W (ld 15 14),K (k 16 (f ku) [(t 15)]),P (m 17 1),P (o 18 (.sll 1 (t 17) (some (i 2)) none none)),K (k 19 (f zb) [(t 18)]),P (o 20 (.bd [(.str []),
 (.str []),(.slice .nil 2 [])] [(0,1),(1,1),(2,1)] [(0,(t 12)),(1,(t 16)),(2,(t 19))])),P (o 21 (.bs 3 [(.str []),(.str []),(.slice .nil 0 [])] 1 [(0,(t 20))])),E (o
 22 (.ap false qw 3 56 false (t 9) (t 21))),P (o 23 (.nc (t 4))),P (fa 24 0 23),P (fa 25 5 24),E (n (.st 1 (t 25) (t 22)))])
def AW:AFn:=⟨Hi,26,[],.keep,[],none⟩
def tM:AFn:=cY.k
def qZ:AFn:=dZ.k
def jv:AFn:=aG.k
def p9:AFn:=dz.k
def lA:AFn:=b7.k
def sP:AFn:=eQ.k
def oS:AFn:=dm.k
def Fc:AC:=
 (Q (O [mc 2 (i 0)]) (Q (Q (O [m 3 0,o 4 (.ar .geq (t 3) (.c (.int .u64 4294967296)))]) (C 4 (Q (O [m 5 0,o 6 (.sh .shr (t 5) (.c (.int .u64 32))),m 0 6]) (O [mc 2 (i 32)])) X))
 (Q (Q (O [m 7 0,o 8 (.ar .geq (t 7) (.c (.int .u64 65536)))]) (C 8 (Q (O [m 9 0,o 10 (.sh .shr (t 9) (.c (.int .u64 16))),m 0 10]) (O [m 11 2,o 12 (.ar .add (t 11) (i 16)),m 2
 12])) X)) (Q (Q (O [m 13 0,o 14 (.ar .geq (t 13) (.c (.int .u64 256)))]) (C 14 (Q (O [m 15 0,o 16 (.sh .shr (t 15) (.c (.int .u64 8))),m 0 16]) (O [m 17 2,o 18 (.ar .add (t 17)
 (i 8)),m 2 18])) X)) (Q (O [m 19 2,m 20 0,o 21 (.cvi .u8 (t 20)),o 22 (.ixs (s [0,1,2,2,3,3,3,3,4,4,4,4,4,4,4,4,5,5,5,5,5,5,5,5,5,5,5,5,5,5,5,5,
 6,6,6,6,6,6,6,6,6,6,6,6,6,6,6,6,6,6,6,6,6,6,6,6,6,6,6,6,6,6,6,6,7,7,7,7,7,7,7,7,7,7,7,7,7,7,7,7,7,7,7,7,7,7,7,7,7,7,7,7,
 7,7,7,7,7,7,7,7,7,7,7,7,7,7,7,7,7,7,7,7,7,7,7,7,7,7,7,7,7,7,7,7,7,7,7,7,8,8,8,8,8,8,8,8,8,8,8,8,8,8,8,8,8,8,8,8,8,8,8,8,
 8,8,8,8,8,8,8,8,8,8,8,8,8,8,8,8,8,8,8,8,8,8,8,8,8,8,8,8,8,8,8,8,8,8,8,8,8,8,8,8,8,8,8,8,8,8,8,8,8,8,8,8,8,8,8,8,8,8,8,8,
 8,8,8,8,8,8,8,8,8,8,8,8,8,8,8,8,8,8,8,8,8,8,8,8,8,8,8,8,8,8,8,8,8,8,8,8,8,8,8,8,8,8,8,8]) (t 21)),o 23 (.cvi .i64 (t 22)),o 24 (.ar .add
 (t 19) (t 23)),m 2 24]) R)))))
def xu:AFn:=⟨Fc,25,[.t 2],.keep,[],none⟩
def sQ:AFn:=eR.k
def kQ:AFn:=iP.k
def jw:AFn:=aH.k
def jY:AFn:=aP.k
def gu:AFn:=az.k
def lB:AFn:=je.k
def nv:AFn:=c6.k
def IK:AC:=
 (Q (O [mc 2 (i 0),mc 3 (.c .nilif)]) (Q (O [m 7 0,k 8 (f Au) [(t 7)],m 6 8,ex 9 6 0,ex 10 6 1,m 4 9,m 5 10]) (Q (Q (O [m 11 5,o 12 (.eq true (.ifc true)
 (t 11) (.c .nilif))]) (C 12 (Q (O [m 13 4,m 14 0,m 15 5,k 16 (f Gf) [(s [65,116,111,105]),(t 14),(i 0),(i 0),(t 15)],m 2 13,m 3 16]) R) X)) (Q (O [m 17 4,
 m 2 17,mc 3 (.c .nilif)]) R))))
def Ce:AFn:=⟨IK,18,[.t 2,.t 3],.keep,[],none⟩
def IL:AC:=
 (Q (O [mc 2 (s [])]) (Q (O [m 3 0,k 4 (f Av) [(t 3)],m 2 4]) R))
def Cf:AFn:=⟨IL,5,[.t 2],.keep,[],none⟩
def JS:AC:=
 (Q (O [mc 4 (s []),mc 5 (s []),mc 6 F]) (Q (O [m 7 0,m 8 1,k 9 (f xb) [(t 7),(t 8)],ex 10 9 0,ex 11 9 1,ex 12 9 2,m 4 10,m 5 11,m 6 12]) R))
def Dq:AFn:=⟨JS,13,[.t 4,.t 5,.t 6],.keep,[],none⟩
def vk:AFn:=gp.k
def sR:AFn:=eS.k
def jN:AFn:=fW.k
def lC:AFn:=b8.k
def qa:AFn:=kP.k
def jj:AFn:=fp.k
def xv:AC:=
 (Q (O [bl 50 49 48]) (Q (C 50 X (.exit 0)) (Q (.block 1 (Q (O [ia 51 1 47 49,ld 52 51,m 8 52]) (Q (O [m 53 8,o 54 (.ar .sub (t 53) (u 48)),m 8 54]) (Q (Q (O [m 55 8,o 56 (.ar
 .gtr (t 55) (u 9))]) (C 56 (Q (O [o 57 (.mi bW (i 2)),mc 2 (i 0),m 3 57]) R) X)) (O [m 58 6,o 59 (.ar .mul (t 58) (i 10)),m 60 8,o 61 (.cvi .i64 (t 60)),o 62 (.ar
 .add (t 59) (t 61)),m 6 62]))))) (O [ad 63 49,m 49 63]))))
def zw:AC:=
 (Q (O [mc 2 (i 0),mc 3 (.c .nilif)]) (Q (O [m 11 0,lt 12 11,m 4 12]) (Q (Q (O [mc 13 F,g 14 13 (.mv (t 4)),g 15 13 (.ar .lss (i 0) (t 14)),g 16 13 (.mv (t 15)),g 17 16 (.mv
 (t 4)),g 18 16 (.ar .lss (t 17) (i 10)),g 19 13 (.pk (t 16) (t 18) F),o 20 (.pk (t 13) (t 19) F),m 21 20,h 22 21 (.mv T),g 23 22 (.mv (t 4)),g 24 22 (.ar .lss (i 0) (t 23)),
 g 25 22 (.mv (t 24)),g 26 25 (.mv (t 4)),g 27 25 (.ar .lss (t 26) (i 19)),g 28 22 (.pk (t 25) (t 27) F),h 29 21 (.pk (t 22) (t 28) F),o 30 (.pk (t 21) T (t 29))]) (C 30 (Q (O
 [m 31 0,m 5 31]) (Q (Q (O [m 32 0,o 33 (.ixs (t 32) (i 0)),o 34 (.ar .eql (t 33) (u 45)),m 35 34,h 36 35 (.mv (t 0)),h 37 35 (.ixs (t 36) (i 0)),h 38 35 (.ar .eql (t 37) (u
 43)),o 39 (.pk (t 35) T (t 38))]) (C 39 (Q (O [m 40 0,o 41 (.sls (t 40) (some (i 1)) none),m 0 41]) (Q (O [m 42 0,lt 43 42,o 44 (.ar .lss (t 43) (i 1))]) (C 44 (Q (O [o 45 (.mi
 bW (i 2)),mc 2 (i 0),m 3 45]) R) X))) X)) (Q (O [mc 6 (i 0)]) (Q (Q (O [m 46 0,o 47 (.cvsb (t 46)),ls 48 47,mc 49 (i 0)]) (.block 0 (.loop ⟨none,[],false⟩
 xv))) (Q (Q (O [m 64 5,o 65 (.ixs (t 64) (i 0)),o 66 (.ar .eql (t 65) (u 45))]) (C 66 (O [m 67 6,o 68 (.un .neg (t 67)),m 6 68]) X)) (Q (O [m 69 6,m 2
 69,mc 3 (.c .nilif)]) R)))))) X)) (Q (O [m 71 0,k 72 (f wq) [(t 71),(i 10),(i 0)],m 70 72,ex 73 70 0,ex 74 70 1,m 9 73,m 10 74]) (Q (O [m 75 9,m
 76 10,m 2 75,m 3 76]) R)))))
def rQ:AFn:=⟨zw,77,[.t 2,.t 3],.keep,[],none⟩
def Fe:AC:=
 (Q (O [mc 10 (.c .nilif)]) (Q (Q (O [m 11 4]) (.block 0 (Q (O [o 13 (.mi bW (i 2)),o 14 (.eq false (.ifc false) (t 11) (t 13)),m 12 14]) (C 12 (Q (O [m 15 0,m 16 1,
 k 17 (f Ck) [(t 15),(t 16)],o 18 (.mi lS (t 17)),m 10 18]) R) (Q (O [o 20 (.mi bW (i 1)),o 21 (.eq false (.ifc false) (t 11) (t
 20)),m 19 21]) (C 19 (Q (O [m 22 0,m 23 1,k 24 (f Da) [(t 22),(t 23)],o 25 (.mi lS (t 24)),m 10 25]) R) (Q (O [o 27 (.mi bW (i
 3)),o 28 (.eq false (.ifc false) (t 11) (t 27)),m 26 28]) (C 26 (Q (O [m 29 0,m 30 1,m 31 2,k 32 (f D1) [(t 29),(t 30),(t 31)],o 33 (.mi
 lS (t 32)),m 10 33]) R) (Q (O [o 35 (.mi bW (i 4)),o 36 (.eq false (.ifc false) (t 11) (t 35)),m 34 36]) (C 34 (Q (O [m 37 0,m 38 1,m 39 3,k 40
 (f Bv) [(t 37),(t 38),(t 39)],o 41 (.mi lS (t 40)),m 10 41]) R) X)))))))))) (Q (O [m 42 4,m 10 42]) R)))
def xw:AFn:=⟨Fe,43,[.t 10],.keep,[],none⟩
def zx:AC:=
 (Q (O [mc 2 (s [])]) (Q (O [m 3 0,k 4 (f vB) [(t 3),(i 10)],m 2 4]) R))
def rR:AFn:=⟨zx,5,[.t 2],.keep,[],none⟩
def wx:AC:=
 (Q (O [mc 4 (s []),mc 5 (s []),mc 6 F]) (Q (Q (O [m 8 0,m 9 1,k 10 (f gS) [(t 8),(t 9)],m 7 10]) (Q (O [m 11 7,o 12 (.ar .geq (t 11) (i 0))]) (C 12
 (Q (D [P (m 13 0),P (m 14 7),P (o 15 (.sls (t 13) none (some (t 14)))),P (m 16 0),P (m 17 7),P (m 18 1),W (lt 19 18),P (o 20 (.ar .add (t 17) (t 19))),P (o 21 (.sls (t 16)
 (some (t 20)) none)),P (m 4 15),P (m 5 21),P (mc 6 T)]) R) X))) (Q (O [m 22 0,m 4 22,mc 5 (s []),mc 6 F]) R)))
def qb:AFn:=⟨wx,23,[.t 4,.t 5,.t 6],.keep,[],none⟩
def kR:AFn:=iQ.k
def vO:AC:=
 (Q (O [mc 6 (i 0),mc 7 (.c .nilif)]) (Q (Q (O [m 12 0,o 13 (.ar .eql (t 12) (s []))]) (C 13 (Q (O [o 14 (.mi bW (i 2)),mc 6 (i 0),m 7 14]) R) X)) (Q (O [mc 8 F]) (Q
 (Q (O [m 15 0,o 16 (.ixs (t 15) (i 0))]) (.block 0 (Q (O [o 18 (.ar .eql (t 16) (u 43)),m 17 18]) (C 17 (O [m 19 0,o 20 (.sls (t 19) (some (i 1)) none),m 0 20]) (Q (O [o 22 (.ar
 .eql (t 16) (u 45)),m 21 22]) (C 21 (Q (O [m 23 0,o 24 (.sls (t 23) (some (i 1)) none),m 0 24]) (O [mc 8 T])) X)))))) (Q (O [mc 9 (.c (.int .u64 0))]) (Q (O [m 26 0,m 27 1,m 28
 2,k 29 (f vC) [(t 26),(t 27),(t 28)],m 25 29,ex 30 25 0,ex 31 25 1,m 9 30,m 7 31]) (Q (Q (O [m 32 7,o 33 (.eq true (.ifc true) (t 32) (.c
 .nilif)),m 34 33,g 35 34 (.mv (t 7)),g 36 34 (.mi bW (i 1)),g 37 34 (.eq true (.ifc false) (t 35) (t 36)),o 38 (.pk (t 34) (t 37) F)]) (C 38 (Q (O [m 39 7,mc 6 (i
 0),m 7 39]) R) X)) (Q (Q (O [m 40 2,o 41 (.ar .eql (t 40) (i 0))]) (C 41 (O [mc 2 (i 64)]) X)) (Q (O [m 42 2,o 43 (.ar .sub (t 42) (i 1)),o 44 (.cvi .u64 (t 43)),o 45 (.sh .shl
 (.c (.int .u64 1)) (t 44)),m 10 45]) (Q (Q (O [m 46 8,no 47 46,m 48 47,g 49 48 (.mv (t 9)),g 50 48 (.mv (t 10)),g 51 48 (.ar .geq (t 49) (t 50)),o 52 (.pk (t 48) (t 51) F)])
 (C 52 (Q (O [m 53 10,o 54 (.ar .sub (t 53) (.c (.int .u64 1))),o 55 (.cvi .i64 (t 54)),o 56 (.mi bW (i 1)),m 6 55,m 7 56]) R) X)) (Q (Q (O [m 57 8,m 58 57,g 59
 58 (.mv (t 9)),g 60 58 (.mv (t 10)),g 61 58 (.ar .gtr (t 59) (t 60)),o 62 (.pk (t 58) (t 61) F)]) (C 62 (Q (O [m 63 10,o 64 (.cvi .i64 (t 63)),o 65 (.un .neg (t 64)),o 66 (.mi
 bW (i 1)),m 6 65,m 7 66]) R) X)) (Q (O [m 67 9,o 68 (.cvi .i64 (t 67)),m 11 68]) (Q (Q (O [m 69 8]) (C 69 (O [m 70 11,o 71 (.un .neg (t 70)),m 11 71]) X)) (Q (O
 [m 72 11,m 6 72,mc 7 (.c .nilif)]) R))))))))))))))
def oT:AFn:=⟨vO,73,[.t 6,.t 7],.keep,[],none⟩
def BG:AC:=
 (Q (O [mc 4 (.c .nilp)]) (Q (D [P (m 5 0),P (m 6 1),W (o 8 (.ld none (.c .unk))),K (k 7 (f gT) [(t 6)]),P (o 9 (.bd [(.str []),(.str []),.nilif] [(0,
 1),(1,1),(2,1)] [(0,(t 5)),(1,(t 7)),(2,(t 8))])),K (o 10 (.bx nP (t 9))),P (m 4 10)]) R))
def tN:AFn:=⟨BG,11,[.t 4],.keep,[],none⟩
def Cr:AC:=
 (Q (O [mc 4 (.c .nilp)]) (Q (D [P (m 5 0),P (m 6 1),W (o 8 (.ld none (.c .unk))),K (k 7 (f gT) [(t 6)]),P (o 9 (.bd [(.str []),(.str []),.nilif] [(0,
 1),(1,1),(2,1)] [(0,(t 5)),(1,(t 7)),(2,(t 8))])),K (o 10 (.bx nP (t 9))),P (m 4 10)]) R))
def uA:AFn:=⟨Cr,11,[.t 4],.keep,[],none⟩
def Dr:AC:=
 (Q (O [mc 6 (.c .nilp)]) (Q (O [m 7 0,m 8 1,k 9 (f gT) [(t 8)],m 10 2,k 11 (f w9) [(t 10)],o 12 (.ar .add (s [105,110,118,97,108,105,
 100,32,98,97,115,101,32]) (t 11)),k 13 (f Gg) [(t 12)],o 14 (.bd [(.str []),(.str []),.nilif] [(0,1),(1,1),(2,1)] [(0,(t 7)),(1,(t 9)),(2,(t 13))]),o
 15 (.bx nP (t 14)),m 6 15]) R))
def vl:AFn:=⟨Dr,16,[.t 6],.keep,[],none⟩
def AX:AC:=
 (Q (O [mc 6 (.c .nilp)]) (Q (O [m 7 0,m 8 1,k 9 (f gT) [(t 8)],m 10 2,k 11 (f w9) [(t 10)],o 12 (.ar .add (s [105,110,118,97,108,105,
 100,32,98,105,116,32,115,105,122,101,32]) (t 11)),k 13 (f Gg) [(t 12)],o 14 (.bd [(.str []),(.str []),.nilif] [(0,1),(1,1),(2,1)] [(0,(t 7)),(1,(t
 9)),(2,(t 13))]),o 15 (.bx nP (t 14)),m 6 15]) R))
def sS:AFn:=⟨AX,16,[.t 6],.keep,[],none⟩
def vm:AC:=
 (Q (O [mc 4 (s [])]) (Q (Q (O [m 10 1,o 11 (.ar .eql (t 10) (i 10))]) (C 11 (Q (Q (O [m 12 0,o 13 (.ar .leq (i 0) (t 12)),m 14 13,g 15 14 (.mv (t 0)),g 16 14 (.ar .lss (t 15)
 (i 100)),o 17 (.pk (t 14) (t 16) F)]) (C 17 (Q (O [m 18 0,k 19 (f zd) [(t 18)],m 4 19]) R) X)) (Q (O [o 5 (.nw [(.int .u8 0),(.int .u8 0),(.int .u8 0),
 (.int .u8 0),(.int .u8 0),(.int .u8 0),(.int .u8 0),(.int .u8 0),(.int .u8 0),(.int .u8 0),(.int .u8 0),(.int .u8 0),(.int .u8 0),(.int .u8 0),(.int .u8 0),(.int .u8 0),
 (.int .u8 0),(.int .u8 0),(.int .u8 0),(.int .u8 0),(.int .u8 0),(.int .u8 0),(.int .u8 0),(.int .u8 0)] Pg)]) (Q (O [m 20 0,o 21 (.cvi .u64 (t 20)),m 6 21]) (Q (Q
 (O [m 22 0,o 23 (.ar .lss (t 22) (i 0))]) (C 23 (O [m 24 6,o 25 (.un .neg (t 24)),m 6 25]) X)) (Q (O [m 26 6,k 27 (f vD) [(t 26)],m 7 27]) (Q (O [m 28
 7,o 29 (.ar .add (i 1) (t 28)),o 30 (.sla 24 1 (t 5) (some (i 1)) (some (t 29))),m 31 6,k 32 (f ue) [(t 30),(t 31)]]) (Q (Q (O [m 33 0,o 34 (.ar
 .lss (t 33) (i 0))]) (C 34 (Q (O [o 35 (.iaa 24 1 (t 5) (i 0)),n (.st 1 (t 35) (u 45))]) (Q (O [m 36 7,o 37 (.ar .add (i 1) (t 36)),o 38 (.sla 24 1 (t 5) none (some (t 37))),o
 39 (.cvbs (t 38)),m 4 39]) R)) X)) (Q (O [m 40 7,o 41 (.ar .add (i 1) (t 40)),o 42 (.sla 24 1 (t 5) (some (i 1)) (some (t 41))),o 43 (.cvbs (t 42)),m 4 43]) R)))))))) X)) (Q (O
 [m 45 0,o 46 (.cvi .u64 (t 45)),m 47 1,m 48 0,o 49 (.ar .lss (t 48) (i 0)),k 50 (f vg) [(.c (.slice .nil 1 [])),(t 46),(t 47),(t 49),F],m 44 50,
 ex 51 44 0,ex 52 44 1,m 8 51,m 9 52]) (Q (O [m 53 9,m 4 53]) R))))
def ny:AFn:=⟨vm,54,[.t 4],.keep,[],none⟩
def ui:AC:=
 (Q (O [bl 102 101 100]) (Q (C 102 X (.exit 3)) (Q (.block 4 (Q (O [ia 103 1 99 101,ld 104 103,m 15 104]) (Q (O [mc 16 (u 0)]) (Q (.block 5 (Q (O [m 107 15,o 108 (.ar .eql (t 107)
 (u 95)),m 109 108,g 110 109 (.mv (t 8)),o 111 (.pk (t 109) (t 110) F),m 106 111]) (C 106 (Q (O [mc 12 T]) (.exit 4)) (Q (O [m 113 15,o 114 (.ar .leq (u 48) (t 113)),m 115 114,
 g 116 115 (.mv (t 15)),g 117 115 (.ar .leq (t 116) (u 57)),o 118 (.pk (t 115) (t 117) F),m 112 118]) (C 112 (O [m 119 15,o 120 (.ar .sub (t 119) (u 48)),m 16 120]) (Q (O [m 122
 15,k 123 (f bB) [(t 122)],o 124 (.ar .leq (u 97) (t 123)),m 125 124,g 126 125 (.mv (t 15)),⟨(some 127),(some (125,true)),(.call (.c (.fn (.func
 bB) [] [])) [(.t 126)])⟩,g 128 125 (.ar .leq (t 127) (u 122)),o 129 (.pk (t 125) (t 128) F),m 121 129]) (C 121 (O [m 130 15,k 131 (f
 bB) [(t 130)],o 132 (.ar .sub (t 131) (u 97)),o 133 (.ar .add (t 132) (u 10)),m 16 133]) (Q (O [o 105 (.mi bW (i 2)),mc 6 (.c (.int .u64 0)),
 m 7 105]) R)))))))) (Q (Q (O [m 134 16,m 135 1,o 136 (.cvi .u8 (t 135)),o 137 (.ar .geq (t 134) (t 136))]) (C 137 (Q (O [o 138 (.mi bW (i 2)),mc 6 (.c (.int .u64
 0)),m 7 138]) R) X)) (Q (Q (O [m 139 13,m 140 10,o 141 (.ar .geq (t 139) (t 140))]) (C 141 (Q (O [m 142 11,o 143 (.mi bW (i 1)),m 6 142,m 7 143]) R) X)) (Q (O [m
 144 13,m 145 1,o 146 (.cvi .u64 (t 145)),o 147 (.ar .mul (t 144) (t 146)),m 13 147]) (Q (O [m 148 13,m 149 16,o 150 (.cvi .u64 (t 149)),o 151 (.ar .add (t 148) (t 150)),m 17
 151]) (Q (Q (O [m 152 17,m 153 13,bl 154 152 153,m 155 154,h 156 155 (.mv (t 17)),h 157 155 (.mv (t 11)),h 158 155 (.ar .gtr (t 156) (t 157)),o 159 (.pk (t 155) T (t 158))])
 (C 159 (Q (O [m 160 11,o 161 (.mi bW (i 1)),m 6 160,m 7 161]) R) X)) (O [m 162 17,m 13 162])))))))))) (O [ad 163 101,m 101 163]))))
def vn:AC:=
 (Q (O [mc 6 (.c (.int .u64 0)),mc 7 (.c .nilif)]) (Q (Q (O [m 18 0,o 19 (.ar .eql (t 18) (s []))]) (C 19 (Q (O [o 20 (.mi bW (i 2)),mc 6 (.c (.int .u64 0)),m 7 20])
 R) X)) (Q (O [m 21 1,o 22 (.ar .eql (t 21) (i 0)),m 8 22]) (Q (O [m 23 0,m 9 23]) (Q (.block 0 (Q (O [m 26 1,o 27 (.ar .leq (i 2) (t 26)),m 28 27,g 29 28 (.mv (t 1)),g 30 28
 (.ar .leq (t 29) (i 36)),o 31 (.pk (t 28) (t 30) F),m 25 31]) (C 25 X (Q (O [m 33 1,o 34 (.ar .eql (t 33) (i 0)),m 32 34]) (C 32 (Q (O [mc 1 (i 10)]) (Q (O [m 35 0,o 36 (.ixs
 (t 35) (i 0)),o 37 (.ar .eql (t 36) (u 48))]) (C 37 (.block 1 (Q (O [m 41 0,lt 42 41,o 43 (.ar .geq (t 42) (i 3)),m 44 43,g 45 44 (.mv (t 0)),g 46 44 (.ixs (t 45) (i 1)),
 ⟨(some 47),(some (44,true)),(.call (.c (.fn (.func bB) [] [])) [(.t 46)])⟩,g 48 44 (.ar .eql (t 47) (u 98)),o 49 (.pk (t 44) (t 48) F),m 40 49]) (C 40 (Q
 (O [mc 1 (i 2)]) (O [m 50 0,o 51 (.sls (t 50) (some (i 2)) none),m 0 51])) (Q (O [m 53 0,lt 54 53,o 55 (.ar .geq (t 54) (i 3)),m 56 55,g 57 56 (.mv (t 0)),g 58 56 (.ixs (t
 57) (i 1)),⟨(some 59),(some (56,true)),(.call (.c (.fn (.func bB) [] [])) [(.t 58)])⟩,g 60 56 (.ar .eql (t 59) (u 111)),o 61 (.pk (t 56) (t 60) F),m 52
 61]) (C 52 (Q (O [mc 1 (i 8)]) (O [m 62 0,o 63 (.sls (t 62) (some (i 2)) none),m 0 63])) (Q (O [m 65 0,lt 66 65,o 67 (.ar .geq (t 66) (i 3)),m 68 67,g 69 68 (.mv (t 0)),g 70
 68 (.ixs (t 69) (i 1)),⟨(some 71),(some (68,true)),(.call (.c (.fn (.func bB) [] [])) [(.t 70)])⟩,g 72 68 (.ar .eql (t 71) (u 120)),o 73 (.pk (t 68) (t
 72) F),m 64 73]) (C 64 (Q (O [mc 1 (i 16)]) (O [m 74 0,o 75 (.sls (t 74) (some (i 2)) none),m 0 75])) (Q (O [mc 1 (i 8)]) (O [m 38 0,o 39 (.sls (t 38) (some (i 1)) none),m 0
 39]))))))))) X))) (Q (O [o 24 (.mi bW (i 3)),mc 6 (.c (.int .u64 0)),m 7 24]) R)))))) (Q (Q (O [m 76 2,o 77 (.ar .eql (t 76) (i 0))]) (C 77 (O [mc 2 (i 64)]) (Q (O
 [m 78 2,o 79 (.ar .lss (t 78) (i 0)),m 80 79,h 81 80 (.mv (t 2)),h 82 80 (.ar .gtr (t 81) (i 64)),o 83 (.pk (t 80) T (t 82))]) (C 83 (Q (O [o 84 (.mi bW (i 4)),mc
 6 (.c (.int .u64 0)),m 7 84]) R) X)))) (Q (O [mc 10 (.c (.int .u64 0))]) (Q (Q (O [m 85 1]) (.block 2 (Q (O [o 91 (.ar .eql (t 85) (i 10)),m 90 91]) (C 90 (O [mc 10 (.c (.int .u64
 1844674407370955162))]) (Q (O [o 93 (.ar .eql (t 85) (i 16)),m 92 93]) (C 92 (O [mc 10 (.c (.int .u64 1152921504606846976))]) (O [m 86 1,o 87 (.cvi .u64 (t 86)),o 88 (.ar .quo
 (.c (.int .u64 18446744073709551615)) (t 87)),o 89 (.ar .add (t 88) (.c (.int .u64 1))),m 10 89]))))))) (Q (O [m 94 2,o 95 (.cvi .u64 (t 94)),o 96 (.sh .shl (.c (.int .u64 1))
 (t 95)),o 97 (.ar .sub (t 96) (.c (.int .u64 1))),m 11 97]) (Q (O [mc 12 F]) (Q (O [mc 13 (.c (.int .u64 0))]) (Q (Q (O [m 98 0,o 99 (.cvsb (t 98)),ls 100 99,mc 101 (i 0)])
 (.block 3 (.loop ⟨none,[],false⟩ ui))) (Q (Q (O [m 164 12,m 165 164,g 166 165 (.mv (t 9)),⟨(some 167),(some (165,true)),(.call (.c (.fn (.func
 uf) [] [])) [(.t 166)])⟩,g 168 165 (.un .not (t 167)),o 169 (.pk (t 165) (t 168) F)]) (C 169 (Q (O [o 170 (.mi bW (i 2)),mc 6 (.c (.int
 .u64 0)),m 7 170]) R) X)) (Q (O [m 171 13,m 6 171,mc 7 (.c .nilif)]) R))))))))))))))
def nz:AFn:=⟨vn,172,[.t 6,.t 7],.keep,[],none⟩
def vo:AC:=
 (Q (O [mc 2 (s [])]) (Q (Q (O [m 4 0,lt 5 4,o 6 (.ar .eql (t 5) (i 0))]) (C 6 (Q (O [mc 2 (s [])]) R) X)) (Q (O [m 7 0,lt 8 7,o 9 (.ms dN 1 [(.int .u8 0)] (t 8) (t 8)),m 3
 9]) (Q (O [m 10 3,m 11 0,o 12 (.cp 1 true (t 10) (t 11))]) (Q (O [m 13 3,o 14 (.ias 1 (t 13) (i 0)),m 15 3,ls 16 15,o 17 (.ust dN (t 14) (t 16)),m 2 17]) R)))))
def nA:AFn:=⟨vo,18,[.t 2],.keep,[],none⟩
def KW:AC:=
 (Q (O [mc 2 (.c .nilif)]) (Q (O [m 3 0,o 4 (.bd [(.str [])] [(0,1)] [(0,(t 3))]),o 5 (.bx Db (t 4)),o 6 (.mi Bw (t 5)),m 2 6]) R))
def EM:AFn:=⟨KW,7,[.t 2],.keep,[],none⟩
def x8:AC:=
 (Q (O [mc 2 (s [])]) (Q (Q (O [m 3 0,o 4 (.ar .lss (t 3) (i 10))]) (C 4 (Q (O [m 5 0,m 6 0,ad 7 6,o 8 (.sls (s [48,49,50,51,52,53,54,55,56,57,97,98,99,100,101,
 102,103,104,105,106,107,108,109,110,111,112,113,114,115,116,117,118,119,120,121,122]) (some (t 5)) (some (t 7))),m 2 8]) R) X)) (Q (O [m 9 0,o 10 (.ar .mul (t
 9) (i 2)),m 11 0,o 12 (.ar .mul (t 11) (i 2)),o 13 (.ar .add (t 12) (i 2)),o 14 (.sls (s [48,48,48,49,48,50,48,51,48,52,48,53,48,54,48,55,48,56,48,57,49,48,
 49,49,49,50,49,51,49,52,49,53,49,54,49,55,49,56,49,57,50,48,50,49,50,50,50,51,50,52,50,53,50,54,50,55,50,56,50,57,51,48,51,49,51,50,51,
 51,51,52,51,53,51,54,51,55,51,56,51,57,52,48,52,49,52,50,52,51,52,52,52,53,52,54,52,55,52,56,52,57,53,48,53,49,53,50,53,51,53,52,53,53,
 53,54,53,55,53,56,53,57,54,48,54,49,54,50,54,51,54,52,54,53,54,54,54,55,54,56,54,57,55,48,55,49,55,50,55,51,55,52,55,53,55,54,55,55,55,
 56,55,57,56,48,56,49,56,50,56,51,56,52,56,53,56,54,56,55,56,56,56,57,57,48,57,49,57,50,57,51,57,52,57,53,57,54,57,55,57,56,57,57]) (some (t
 10)) (some (t 13))),m 2 14]) R)))
def re:AFn:=⟨x8,15,[.t 2],.keep,[],none⟩
def vp:AC:=
 (Q (O [mc 2 (i 0)]) (Q (O [m 4 0,k 5 (f Ge) [(t 4)],k 6 (f vE) [(t 5)],m 3 6]) (Q (O [m 7 3,m 8 0,m 9 3,o 10 (.iaa 20 1 (.c .unk) (t
 9)),ld 11 10,o 12 (.ar .geq (t 8) (t 11)),k 13 (f vF) [(t 12)],o 14 (.ar .add (t 7) (t 13)),m 2 14]) R)))
def nB:AFn:=⟨vp,15,[.t 2],.keep,[],none⟩
def ss:AC:=
 (Q (Q (O [m 19 4,o 20 (.ar .geq (t 19) (i 8))]) (C 20 X (.exit 0))) (.block 1 (Q (O [m 21 1,o 22 (.ar .rem (t 21) (.c (.int .u64 100000000))),o 23 (.cvi .u32 (t 22)),m 5 23]) (Q
 (O [m 24 1,o 25 (.ar .quo (t 24) (.c (.int .u64 100000000))),m 1 25]) (Q (O [m 26 5,o 27 (.ar .quo (t 26) (.c (.int .u32 10000))),m 28 5,o 29 (.ar .rem (t 28) (.c (.int .u32
 10000))),m 6 27,m 7 29]) (Q (O [m 30 7,o 31 (.ar .quo (t 30) (.c (.int .u32 100))),o 32 (.ar .mul (t 31) (.c (.int .u32 2))),m 33 7,o 34 (.ar .rem (t 33) (.c (.int .u32
 100))),o 35 (.ar .mul (t 34) (.c (.int .u32 2))),m 8 32,m 9 35]) (Q (O [m 36 6,o 37 (.ar .quo (t 36) (.c (.int .u32 100))),o 38 (.ar .mul (t 37) (.c (.int .u32 2))),m 39 6,o
 40 (.ar .rem (t 39) (.c (.int .u32 100))),o 41 (.ar .mul (t 40) (.c (.int .u32 2))),m 10 38,m 11 41]) (Q (D [P (m 42 0),P (m 43 4),P (o 44 (.ar .sub (t 43) (i 1))),P (m 45 0),
 P (m 46 4),P (o 47 (.ar .sub (t 46) (i 2))),P (m 48 9),P (o 49 (.ar .add (t 48) (.c (.int .u32 1)))),P (o 50 (.ixs (s [48,48,48,49,48,50,48,51,48,52,48,53,48,54,
 48,55,48,56,48,57,49,48,49,49,49,50,49,51,49,52,49,53,49,54,49,55,49,56,49,57,50,48,50,49,50,50,50,51,50,52,50,53,50,54,50,55,50,56,50,
 57,51,48,51,49,51,50,51,51,51,52,51,53,51,54,51,55,51,56,51,57,52,48,52,49,52,50,52,51,52,52,52,53,52,54,52,55,52,56,52,57,53,48,53,49,
 53,50,53,51,53,52,53,53,53,54,53,55,53,56,53,57,54,48,54,49,54,50,54,51,54,52,54,53,54,54,54,55,54,56,54,57,55,48,55,49,55,50,55,51,55,
 52,55,53,55,54,55,55,55,56,55,57,56,48,56,49,56,50,56,51,56,52,56,53,56,54,56,55,56,56,56,57,57,48,57,49,57,50,57,51,57,52,57,53,57,54,
 57,55,57,56,57,57]) (t 49))),P (m 51 9),P (o 52 (.ixs (s [48,48,48,49,48,50,48,51,48,52,48,53,48,54,48,55,48,56,48,57,49,48,49,49,49,50,49,51,49,
 52,49,53,49,54,49,55,49,56,49,57,50,48,50,49,50,50,50,51,50,52,50,53,50,54,50,55,50,56,50,57,51,48,51,49,51,50,51,51,51,52,51,53,51,54,
 51,55,51,56,51,57,52,48,52,49,52,50,52,51,52,52,52,53,52,54,52,55,52,56,52,57,53,48,53,49,53,50,53,51,53,52,53,53,53,54,53,55,53,56,53,
 57,54,48,54,49,54,50,54,51,54,52,54,53,54,54,54,55,54,56,54,57,55,48,55,49,55,50,55,51,55,52,55,53,55,54,55,55,55,56,55,57,56,48,56,49,
 56,50,56,51,56,52,56,53,56,54,56,55,56,56,56,57,57,48,57,49,57,50,57,51,57,52,57,53,57,54,57,55,57,56,57,57]) (t 51))),P (ia 53 1 42 44),E (n
 (.st 1 (t 53) (t 50))),P (ia 54 1 45 47),E (n (.st 1 (t 54) (t 52)))]) (Q (D [P (m 55 0),P (m 56 4),P (o 57 (.ar .sub (t 56) (i 3))),P (m 58 0),P (m 59 4),P (o 60 (.ar .sub
 (t 59) (i 4))),P (m 61 8),P (o 62 (.ar .add (t 61) (.c (.int .u32 1)))),P (o 63 (.ixs (s [48,48,48,49,48,50,48,51,48,52,48,53,48,54,48,55,48,56,48,57,49,48,
 49,49,49,50,49,51,49,52,49,53,49,54,49,55,49,56,49,57,50,48,50,49,50,50,50,51,50,52,50,53,50,54,50,55,50,56,50,57,51,48,51,49,51,50,51,
 51,51,52,51,53,51,54,51,55,51,56,51,57,52,48,52,49,52,50,52,51,52,52,52,53,52,54,52,55,52,56,52,57,53,48,53,49,53,50,53,51,53,52,53,53,
 53,54,53,55,53,56,53,57,54,48,54,49,54,50,54,51,54,52,54,53,54,54,54,55,54,56,54,57,55,48,55,49,55,50,55,51,55,52,55,53,55,54,55,55,55,
 56,55,57,56,48,56,49,56,50,56,51,56,52,56,53,56,54,56,55,56,56,56,57,57,48,57,49,57,50,57,51,57,52,57,53,57,54,57,55,57,56,57,57]) (t
 62))),P (m 64 8),P (o 65 (.ixs (s [48,48,48,49,48,50,48,51,48,52,48,53,48,54,48,55,48,56,48,57,49,48,49,49,49,50,49,51,49,52,49,53,49,54,49,55,
 49,56,49,57,50,48,50,49,50,50,50,51,50,52,50,53,50,54,50,55,50,56,50,57,51,48,51,49,51,50,51,51,51,52,51,53,51,54,51,55,51,56,51,57,52,
 48,52,49,52,50,52,51,52,52,52,53,52,54,52,55,52,56,52,57,53,48,53,49,53,50,53,51,53,52,53,53,53,54,53,55,53,56,53,57,54,48,54,49,54,50,
 54,51,54,52,54,53,54,54,54,55,54,56,54,57,55,48,55,49,55,50,55,51,55,52,55,53,55,54,55,55,55,56,55,57,56,48,56,49,56,50,56,51,56,52,56,
 53,56,54,56,55,56,56,56,57,57,48,57,49,57,50,57,51,57,52,57,53,57,54,57,55,57,56,57,57]) (t 64))),P (ia 66 1 55 57),E (n (.st 1 (t 66) (t 63))),P (ia
 67 1 58 60),E (n (.st 1 (t 67) (t 65)))]) (Q (D [P (m 68 0),P (m 69 4),P (o 70 (.ar .sub (t 69) (i 5))),P (m 71 0),P (m 72 4),P (o 73 (.ar .sub (t 72) (i 6))),P (m 74 11),P
 (o 75 (.ar .add (t 74) (.c (.int .u32 1)))),P (o 76 (.ixs (s [48,48,48,49,48,50,48,51,48,52,48,53,48,54,48,55,48,56,48,57,49,48,49,49,49,50,49,51,49,
 52,49,53,49,54,49,55,49,56,49,57,50,48,50,49,50,50,50,51,50,52,50,53,50,54,50,55,50,56,50,57,51,48,51,49,51,50,51,51,51,52,51,53,51,54,
 51,55,51,56,51,57,52,48,52,49,52,50,52,51,52,52,52,53,52,54,52,55,52,56,52,57,53,48,53,49,53,50,53,51,53,52,53,53,53,54,53,55,53,56,53,
 57,54,48,54,49,54,50,54,51,54,52,54,53,54,54,54,55,54,56,54,57,55,48,55,49,55,50,55,51,55,52,55,53,55,54,55,55,55,56,55,57,56,48,56,49,
 56,50,56,51,56,52,56,53,56,54,56,55,56,56,56,57,57,48,57,49,57,50,57,51,57,52,57,53,57,54,57,55,57,56,57,57]) (t 75))),P (m 77 11),P (o 78 (.ixs
 (s [48,48,48,49,48,50,48,51,48,52,48,53,48,54,48,55,48,56,48,57,49,48,49,49,49,50,49,51,49,52,49,53,49,54,49,55,49,56,49,57,50,48,50,49,
 50,50,50,51,50,52,50,53,50,54,50,55,50,56,50,57,51,48,51,49,51,50,51,51,51,52,51,53,51,54,51,55,51,56,51,57,52,48,52,49,52,50,52,51,52,
 52,52,53,52,54,52,55,52,56,52,57,53,48,53,49,53,50,53,51,53,52,53,53,53,54,53,55,53,56,53,57,54,48,54,49,54,50,54,51,54,52,54,53,54,54,
 54,55,54,56,54,57,55,48,55,49,55,50,55,51,55,52,55,53,55,54,55,55,55,56,55,57,56,48,56,49,56,50,56,51,56,52,56,53,56,54,56,55,56,56,56,
 57,57,48,57,49,57,50,57,51,57,52,57,53,57,54,57,55,57,56,57,57]) (t 77))),P (ia 79 1 68 70),E (n (.st 1 (t 79) (t 76))),P (ia 80 1 71 73),E (n (.st 1 (t 80)
 (t 78)))]) (Q (D [P (m 81 0),P (m 82 4),P (o 83 (.ar .sub (t 82) (i 7))),P (m 84 0),P (m 85 4),P (o 86 (.ar .sub (t 85) (i 8))),P (m 87 10),P (o 88 (.ar .add (t 87) (.c (.int
 .u32 1)))),P (o 89 (.ixs (s [48,48,48,49,48,50,48,51,48,52,48,53,48,54,48,55,48,56,48,57,49,48,49,49,49,50,49,51,49,52,49,53,49,54,49,55,49,56,
 49,57,50,48,50,49,50,50,50,51,50,52,50,53,50,54,50,55,50,56,50,57,51,48,51,49,51,50,51,51,51,52,51,53,51,54,51,55,51,56,51,57,52,48,52,
 49,52,50,52,51,52,52,52,53,52,54,52,55,52,56,52,57,53,48,53,49,53,50,53,51,53,52,53,53,53,54,53,55,53,56,53,57,54,48,54,49,54,50,54,51,
 54,52,54,53,54,54,54,55,54,56,54,57,55,48,55,49,55,50,55,51,55,52,55,53,55,54,55,55,55,56,55,57,56,48,56,49,56,50,56,51,56,52,56,53,56,
 54,56,55,56,56,56,57,57,48,57,49,57,50,57,51,57,52,57,53,57,54,57,55,57,56,57,57]) (t 88))),P (m 90 10),P (o 91 (.ixs (s [48,48,48,49,48,50,48,51,
 48,52,48,53,48,54,48,55,48,56,48,57,49,48,49,49,49,50,49,51,49,52,49,53,49,54,49,55,49,56,49,57,50,48,50,49,50,50,50,51,50,52,50,53,50,
 54,50,55,50,56,50,57,51,48,51,49,51,50,51,51,51,52,51,53,51,54,51,55,51,56,51,57,52,48,52,49,52,50,52,51,52,52,52,53,52,54,52,55,52,56,
 52,57,53,48,53,49,53,50,53,51,53,52,53,53,53,54,53,55,53,56,53,57,54,48,54,49,54,50,54,51,54,52,54,53,54,54,54,55,54,56,54,57,55,48,55,
 49,55,50,55,51,55,52,55,53,55,54,55,55,55,56,55,57,56,48,56,49,56,50,56,51,56,52,56,53,56,54,56,55,56,56,56,57,57,48,57,49,57,50,57,51,
 57,52,57,53,57,54,57,55,57,56,57,57]) (t 90))),P (ia 92 1 81 83),E (n (.st 1 (t 92) (t 89))),P (ia 93 1 84 86),E (n (.st 1 (t 93) (t 91)))]) (O [m 94 4,o 95 (.ar
 .sub (t 94) (i 8)),m 4 95]))))))))))))
def tO:AC:=
 (Q (O [m 17 0,ls 18 17,m 4 18]) (Q (.block 0 (.loop ⟨none,[],false⟩ ss)) (Q (O [m 96 1,o 97 (.cvi .u32 (t 96)),m 12 97]) (Q (Q (O [m 98 4,o 99
 (.ar .geq (t 98) (i 4))]) (C 99 (Q (O [m 100 12,o 101 (.ar .rem (t 100) (.c (.int .u32 10000))),m 13 101]) (Q (O [m 102 12,o 103 (.ar .quo (t 102) (.c (.int .u32 10000))),m 12
 103]) (Q (O [m 104 13,o 105 (.ar .quo (t 104) (.c (.int .u32 100))),o 106 (.ar .mul (t 105) (.c (.int .u32 2))),m 107 13,o 108 (.ar .rem (t 107) (.c (.int .u32 100))),o 109
 (.ar .mul (t 108) (.c (.int .u32 2))),m 14 106,m 15 109]) (Q (D [P (m 110 0),P (m 111 4),P (o 112 (.ar .sub (t 111) (i 1))),P (m 113 0),P (m 114 4),P (o 115 (.ar .sub (t 114)
 (i 2))),P (m 116 15),P (o 117 (.ar .add (t 116) (.c (.int .u32 1)))),P (o 118 (.ixs (s [48,48,48,49,48,50,48,51,48,52,48,53,48,54,48,55,48,56,48,57,49,48,
 49,49,49,50,49,51,49,52,49,53,49,54,49,55,49,56,49,57,50,48,50,49,50,50,50,51,50,52,50,53,50,54,50,55,50,56,50,57,51,48,51,49,51,50,51,
 51,51,52,51,53,51,54,51,55,51,56,51,57,52,48,52,49,52,50,52,51,52,52,52,53,52,54,52,55,52,56,52,57,53,48,53,49,53,50,53,51,53,52,53,53,
 53,54,53,55,53,56,53,57,54,48,54,49,54,50,54,51,54,52,54,53,54,54,54,55,54,56,54,57,55,48,55,49,55,50,55,51,55,52,55,53,55,54,55,55,55,
 56,55,57,56,48,56,49,56,50,56,51,56,52,56,53,56,54,56,55,56,56,56,57,57,48,57,49,57,50,57,51,57,52,57,53,57,54,57,55,57,56,57,57]) (t
 117))),P (m 119 15),P (o 120 (.ixs (s [48,48,48,49,48,50,48,51,48,52,48,53,48,54,48,55,48,56,48,57,49,48,49,49,49,50,49,51,49,52,49,53,49,54,49,
 55,49,56,49,57,50,48,50,49,50,50,50,51,50,52,50,53,50,54,50,55,50,56,50,57,51,48,51,49,51,50,51,51,51,52,51,53,51,54,51,55,51,56,51,57,
 52,48,52,49,52,50,52,51,52,52,52,53,52,54,52,55,52,56,52,57,53,48,53,49,53,50,53,51,53,52,53,53,53,54,53,55,53,56,53,57,54,48,54,49,54,
 50,54,51,54,52,54,53,54,54,54,55,54,56,54,57,55,48,55,49,55,50,55,51,55,52,55,53,55,54,55,55,55,56,55,57,56,48,56,49,56,50,56,51,56,52,
 56,53,56,54,56,55,56,56,56,57,57,48,57,49,57,50,57,51,57,52,57,53,57,54,57,55,57,56,57,57]) (t 119))),P (ia 121 1 110 112),E (n (.st 1 (t 121) (t
 118))),P (ia 122 1 113 115),E (n (.st 1 (t 122) (t 120)))]) (Q (D [P (m 123 0),P (m 124 4),P (o 125 (.ar .sub (t 124) (i 3))),P (m 126 0),P (m 127 4),P (o 128 (.ar .sub (t
 127) (i 4))),P (m 129 14),P (o 130 (.ar .add (t 129) (.c (.int .u32 1)))),P (o 131 (.ixs (s [48,48,48,49,48,50,48,51,48,52,48,53,48,54,48,55,48,56,48,57,49,
 48,49,49,49,50,49,51,49,52,49,53,49,54,49,55,49,56,49,57,50,48,50,49,50,50,50,51,50,52,50,53,50,54,50,55,50,56,50,57,51,48,51,49,51,50,
 51,51,51,52,51,53,51,54,51,55,51,56,51,57,52,48,52,49,52,50,52,51,52,52,52,53,52,54,52,55,52,56,52,57,53,48,53,49,53,50,53,51,53,52,53,
 53,53,54,53,55,53,56,53,57,54,48,54,49,54,50,54,51,54,52,54,53,54,54,54,55,54,56,54,57,55,48,55,49,55,50,55,51,55,52,55,53,55,54,55,55,
 55,56,55,57,56,48,56,49,56,50,56,51,56,52,56,53,56,54,56,55,56,56,56,57,57,48,57,49,57,50,57,51,57,52,57,53,57,54,57,55,57,56,57,57]) (t
 130))),P (m 132 14),P (o 133 (.ixs (s [48,48,48,49,48,50,48,51,48,52,48,53,48,54,48,55,48,56,48,57,49,48,49,49,49,50,49,51,49,52,49,53,49,54,49,
 55,49,56,49,57,50,48,50,49,50,50,50,51,50,52,50,53,50,54,50,55,50,56,50,57,51,48,51,49,51,50,51,51,51,52,51,53,51,54,51,55,51,56,51,57,
 52,48,52,49,52,50,52,51,52,52,52,53,52,54,52,55,52,56,52,57,53,48,53,49,53,50,53,51,53,52,53,53,53,54,53,55,53,56,53,57,54,48,54,49,54,
 50,54,51,54,52,54,53,54,54,54,55,54,56,54,57,55,48,55,49,55,50,55,51,55,52,55,53,55,54,55,55,55,56,55,57,56,48,56,49,56,50,56,51,56,52,
 56,53,56,54,56,55,56,56,56,57,57,48,57,49,57,50,57,51,57,52,57,53,57,54,57,55,57,56,57,57]) (t 132))),P (ia 134 1 123 125),E (n (.st 1 (t 134) (t
 131))),P (ia 135 1 126 128),E (n (.st 1 (t 135) (t 133)))]) (O [m 136 4,o 137 (.ar .sub (t 136) (i 4)),m 4 137])))))) X)) (Q (Q (O [m 138 4,o 139 (.ar .geq (t 138) (i 2))]) (C
 139 (Q (O [m 140 12,o 141 (.ar .rem (t 140) (.c (.int .u32 100))),o 142 (.ar .mul (t 141) (.c (.int .u32 2))),m 16 142]) (Q (O [m 143 12,o 144 (.ar .quo (t 143) (.c (.int .u32
 100))),m 12 144]) (Q (D [P (m 145 0),P (m 146 4),P (o 147 (.ar .sub (t 146) (i 1))),P (m 148 0),P (m 149 4),P (o 150 (.ar .sub (t 149) (i 2))),P (m 151 16),P (o 152 (.ar
 .add (t 151) (.c (.int .u32 1)))),P (o 153 (.ixs (s [48,48,48,49,48,50,48,51,48,52,48,53,48,54,48,55,48,56,48,57,49,48,49,49,49,50,49,51,49,52,49,53,
 49,54,49,55,49,56,49,57,50,48,50,49,50,50,50,51,50,52,50,53,50,54,50,55,50,56,50,57,51,48,51,49,51,50,51,51,51,52,51,53,51,54,51,55,51,
 56,51,57,52,48,52,49,52,50,52,51,52,52,52,53,52,54,52,55,52,56,52,57,53,48,53,49,53,50,53,51,53,52,53,53,53,54,53,55,53,56,53,57,54,48,
 54,49,54,50,54,51,54,52,54,53,54,54,54,55,54,56,54,57,55,48,55,49,55,50,55,51,55,52,55,53,55,54,55,55,55,56,55,57,56,48,56,49,56,50,56,
 51,56,52,56,53,56,54,56,55,56,56,56,57,57,48,57,49,57,50,57,51,57,52,57,53,57,54,57,55,57,56,57,57]) (t 152))),P (m 154 16),P (o 155 (.ixs (s [48,
 48,48,49,48,50,48,51,48,52,48,53,48,54,48,55,48,56,48,57,49,48,49,49,49,50,49,51,49,52,49,53,49,54,49,55,49,56,49,57,50,48,50,49,50,50,
 50,51,50,52,50,53,50,54,50,55,50,56,50,57,51,48,51,49,51,50,51,51,51,52,51,53,51,54,51,55,51,56,51,57,52,48,52,49,52,50,52,51,52,52,52,
 53,52,54,52,55,52,56,52,57,53,48,53,49,53,50,53,51,53,52,53,53,53,54,53,55,53,56,53,57,54,48,54,49,54,50,54,51,54,52,54,53,54,54,54,55,
 54,56,54,57,55,48,55,49,55,50,55,51,55,52,55,53,55,54,55,55,55,56,55,57,56,48,56,49,56,50,56,51,56,52,56,53,56,54,56,55,56,56,56,57,57,
 48,57,49,57,50,57,51,57,52,57,53,57,54,57,55,57,56,57,57]) (t 154))),P (ia 156 1 145 147),E (n (.st 1 (t 156) (t 153))),P (ia 157 1 148 150),E (n (.st 1 (t
 157) (t 155)))]) (O [m 158 4,o 159 (.ar .sub (t 158) (i 2)),m 4 159])))) X)) (Q (O [m 160 4,o 161 (.ar .gtr (t 160) (i 0))]) (C 161 (O [m 162 0,m 163 12,o 164 (.ar .add (.c
 (.int .u32 48)) (t 163)),o 165 (.cvi .u8 (t 164)),o 166 (.ias 1 (t 162) (i 0)),n (.st 1 (t 166) (t 165))]) X)))))))
def lY:AFn:=⟨tO,167,[],.keep,[],none⟩
def tP:AC:=
 (Q (Q (O [m 44 1,m 45 15,o 46 (.ar .geq (t 44) (t 45))]) (C 46 X (.exit 0))) (.block 1 (Q (O [m 47 13,o 48 (.ar .sub (t 47) (i 1)),m 13 48]) (Q (O [m 49 13,m 50 1,m 51 16,o
 52 (.ar .and (t 50) (t 51)),o 53 (.ixs (s [48,49,50,51,52,53,54,55,56,57,97,98,99,100,101,102,103,104,105,106,107,108,109,110,111,112,113,114,115,116,
 117,118,119,120,121,122]) (t 52)),o 54 (.iaa 65 1 (t 12) (t 49)),n (.st 1 (t 54) (t 53))]) (O [m 55 1,m 56 14,o 57 (.sh .shr (t 55) (t 56)),m 1 57])))))
def tQ:AC:=
 (Q (Q (O [m 66 1,m 67 17,o 68 (.ar .geq (t 66) (t 67))]) (C 68 X (.exit 2))) (.block 3 (Q (O [m 69 13,o 70 (.ar .sub (t 69) (i 1)),m 13 70]) (Q (O [m 71 1,m 72 17,o 73 (.ar
 .quo (t 71) (t 72)),m 18 73]) (Q (O [m 74 13,m 75 1,m 76 18,m 77 17,o 78 (.ar .mul (t 76) (t 77)),o 79 (.ar .sub (t 75) (t 78)),o 80 (.ixs (s [48,49,50,51,52,53,54,55,
 56,57,97,98,99,100,101,102,103,104,105,106,107,108,109,110,111,112,113,114,115,116,117,118,119,120,121,122]) (t 79)),o 81 (.iaa 65 1 (t 12) (t 74)),n
 (.st 1 (t 81) (t 80))]) (O [m 82 18,m 1 82]))))))
def uK:AC:=
 (Q (O [mc 10 (.c (.slice .nil 1 [])),mc 11 (s [])]) (Q (Q (O [m 19 2,o 20 (.ar .lss (t 19) (i 2)),m 21 20,h 22 21 (.mv (t 2)),h 23 21 (.ar .eql (t 22) (i 10)),o 24 (.pk (t 21)
 T (t 23)),m 25 24,h 26 25 (.mv (t 2)),h 27 25 (.ar .gtr (t 26) (i 36)),o 28 (.pk (t 25) T (t 27))]) (C 28 (O [o 29 (.mi bb (s [115,116,114,99,111,110,118,58,32,
 105,108,108,101,103,97,108,32,65,112,112,101,110,100,73,110,116,47,70,111,114,109,97,116,73,110,116,32,98,97,115,101])),⟨none,none,(.panic (.t
 29))⟩]) X)) (Q (O [o 12 (.nw [(.int .u8 0),(.int .u8 0),(.int .u8 0),(.int .u8 0),(.int .u8 0),(.int .u8 0),(.int .u8 0),(.int .u8 0),(.int .u8 0),(.int .u8 0),(.int .u8
 0),(.int .u8 0),(.int .u8 0),(.int .u8 0),(.int .u8 0),(.int .u8 0),(.int .u8 0),(.int .u8 0),(.int .u8 0),(.int .u8 0),(.int .u8 0),(.int .u8 0),(.int .u8 0),(.int .u8
 0),(.int .u8 0),(.int .u8 0),(.int .u8 0),(.int .u8 0),(.int .u8 0),(.int .u8 0),(.int .u8 0),(.int .u8 0),(.int .u8 0),(.int .u8 0),(.int .u8 0),(.int .u8 0),(.int .u8
 0),(.int .u8 0),(.int .u8 0),(.int .u8 0),(.int .u8 0),(.int .u8 0),(.int .u8 0),(.int .u8 0),(.int .u8 0),(.int .u8 0),(.int .u8 0),(.int .u8 0),(.int .u8 0),(.int .u8
 0),(.int .u8 0),(.int .u8 0),(.int .u8 0),(.int .u8 0),(.int .u8 0),(.int .u8 0),(.int .u8 0),(.int .u8 0),(.int .u8 0),(.int .u8 0),(.int .u8 0),(.int .u8 0),(.int .u8
 0),(.int .u8 0),(.int .u8 0)] Ph)]) (Q (O [mc 13 (i 65)]) (Q (Q (O [m 30 3]) (C 30 (O [m 31 1,o 32 (.un .neg (t 31)),m 1 32]) X)) (Q (Q (O [m 33 2,k 34 (f
 ug) [(t 33)]]) (C 34 (Q (O [m 35 2,o 36 (.cvi .u64 (t 35)),k 37 (f x7) [(t 36)],o 38 (.cvi .u64 (t 37)),m 14 38]) (Q (O [m 39
 2,o 40 (.cvi .u64 (t 39)),m 15 40]) (Q (O [m 41 2,o 42 (.cvi .u64 (t 41)),o 43 (.ar .sub (t 42) (.c (.int .u64 1))),m 16 43]) (Q (.block 0 (.loop ⟨none,[],false⟩
 tP)) (Q (O [m 58 13,o 59 (.ar .sub (t 58) (i 1)),m 13 59]) (O [m 60 13,m 61 1,o 62 (.ixs (s [48,49,50,51,52,53,54,55,56,57,97,98,99,
 100,101,102,103,104,105,106,107,108,109,110,111,112,113,114,115,116,117,118,119,120,121,122]) (t 61)),o 63 (.iaa 65 1 (t 12) (t 60)),n (.st 1 (t 63) (t
 62))])))))) (Q (O [m 64 2,o 65 (.cvi .u64 (t 64)),m 17 65]) (Q (.block 2 (.loop ⟨none,[],false⟩ tQ)) (Q (O [m 83 13,o 84 (.ar .sub (t 83) (i 1)),
 m 13 84]) (O [m 85 13,m 86 1,o 87 (.ixs (s [48,49,50,51,52,53,54,55,56,57,97,98,99,100,101,102,103,104,105,106,107,108,109,110,111,112,113,114,115,
 116,117,118,119,120,121,122]) (t 86)),o 88 (.iaa 65 1 (t 12) (t 85)),n (.st 1 (t 88) (t 87))])))))) (Q (Q (O [m 89 3]) (C 89 (Q (O [m 90 13,o 91 (.ar .sub (t 90) (i 1)),m
 13 91]) (O [m 92 13,o 93 (.iaa 65 1 (t 12) (t 92)),n (.st 1 (t 93) (u 45))])) X)) (Q (Q (O [m 94 4]) (C 94 (Q (O [m 95 0,m 96 13,o 97 (.sla 65 1 (t 12) (some (t 96)) none),o 98
 (.ap false dN 1 1 false (t 95) (t 97)),m 10 98]) R) X)) (Q (O [m 99 13,o 100 (.sla 65 1 (t 12) (some (t 99)) none),o 101 (.cvbs (t 100)),m 11 101]) R)))))))))
def nb:AFn:=⟨uK,102,[.t 10,.t 11],.keep,[],none⟩
def x9:AC:=
 (Q (O [mc 2 (u 0)]) (Q (O [m 3 0,o 4 (.ar .or (t 3) (u 32)),m 2 4]) R))
def rf:AFn:=⟨x9,5,[.t 2],.keep,[],none⟩
def su:AC:=
 (Q (Q (O [m 51 4,m 52 0,lt 53 52,bl 54 51 53]) (C 54 X (.exit 0))) (Q (.block 1 (Q (Q (O [m 57 0,m 58 4,o 59 (.ixs (t 57) (t 58)),o 60 (.ar .leq (u 48) (t 59)),m 61 60,g 62
 61 (.mv (t 0)),g 63 61 (.mv (t 4)),g 64 61 (.ixs (t 62) (t 63)),g 65 61 (.ar .leq (t 64) (u 57)),o 66 (.pk (t 61) (t 65) F),m 67 66,h 68 67 (.mv (t 5)),h 69 67 (.mv (t 68)),
 g 70 69 (.mv (t 0)),g 71 69 (.mv (t 4)),g 72 69 (.ixs (t 70) (t 71)),⟨(some 73),(some (69,true)),(.call (.c (.fn (.func bB) [] [])) [(.t 72)])⟩,g 74 69
 (.ar .leq (u 97) (t 73)),h 75 67 (.pk (t 69) (t 74) F),h 76 67 (.mv (t 75)),g 77 76 (.mv (t 0)),g 78 76 (.mv (t 4)),g 79 76 (.ixs (t 77) (t 78)),⟨(some 80),(some (76,true)),
 (.call (.c (.fn (.func bB) [] [])) [(.t 79)])⟩,g 81 76 (.ar .leq (t 80) (u 102)),h 82 67 (.pk (t 76) (t 81) F),o 83 (.pk (t 67) T (t 82))]) (C 83 (Q (O [mc
 3 (.c (.int .i32 48))]) (.exit 1)) X)) (Q (Q (O [m 84 0,m 85 4,o 86 (.ixs (t 84) (t 85)),o 87 (.ar .eql (t 86) (u 95))]) (C 87 (Q (Q (O [m 88 3,o 89 (.ar .neq (t 88) (.c (.int
 .i32 48)))]) (C 89 (Q (O [mc 2 F]) R) X)) (Q (O [mc 3 (.c (.int .i32 95))]) (.exit 1))) X)) (Q (Q (O [m 90 3,o 91 (.ar .eql (t 90) (.c (.int .i32 95)))]) (C 91 (Q (O [mc 2 F]) R)
 X)) (O [mc 3 (.c (.int .i32 33))]))))) (O [m 55 4,ad 56 55,m 4 56])))
def tR:AC:=
 (Q (O [mc 2 F]) (Q (O [mc 3 (.c (.int .i32 94))]) (Q (O [mc 4 (i 0)]) (Q (Q (O [m 6 0,lt 7 6,o 8 (.ar .geq (t 7) (i 1)),m 9 8,g 10 9 (.mv (t 0)),g 11 9 (.ixs (t 10) (i 0)),g
 12 9 (.ar .eql (t 11) (u 45)),g 13 9 (.mv (t 12)),h 14 13 (.mv (t 0)),h 15 13 (.ixs (t 14) (i 0)),h 16 13 (.ar .eql (t 15) (u 43)),g 17 9 (.pk (t 13) T (t 16)),o 18 (.pk (t 9)
 (t 17) F)]) (C 18 (O [m 19 0,o 20 (.sls (t 19) (some (i 1)) none),m 0 20]) X)) (Q (O [mc 5 F]) (Q (Q (O [m 21 0,lt 22 21,o 23 (.ar .geq (t 22) (i 2)),m 24 23,g 25 24 (.mv (t
 0)),g 26 24 (.ixs (t 25) (i 0)),g 27 24 (.ar .eql (t 26) (u 48)),o 28 (.pk (t 24) (t 27) F),m 29 28,g 30 29 (.mv (t 0)),g 31 29 (.ixs (t 30) (i 1)),⟨(some 32),(some (29,
 true)),(.call (.c (.fn (.func bB) [] [])) [(.t 31)])⟩,g 33 29 (.ar .eql (t 32) (u 98)),g 34 29 (.mv (t 33)),h 35 34 (.mv (t 0)),h 36 34 (.ixs (t 35) (i
 1)),⟨(some 37),(some (34,false)),(.call (.c (.fn (.func bB) [] [])) [(.t 36)])⟩,h 38 34 (.ar .eql (t 37) (u 111)),g 39 29 (.pk (t 34) T (t 38)),g 40 29
 (.mv (t 39)),h 41 40 (.mv (t 0)),h 42 40 (.ixs (t 41) (i 1)),⟨(some 43),(some (40,false)),(.call (.c (.fn (.func bB) [] [])) [(.t 42)])⟩,h 44 40 (.ar
 .eql (t 43) (u 120)),g 45 29 (.pk (t 40) T (t 44)),o 46 (.pk (t 29) (t 45) F)]) (C 46 (Q (O [mc 4 (i 2)]) (Q (O [mc 3 (.c (.int .i32 48))]) (O [m 47 0,o 48 (.ixs (t 47) (i 1)),k
 49 (f bB) [(t 48)],o 50 (.ar .eql (t 49) (u 120)),m 5 50]))) X)) (Q (.block 0 (.loop ⟨none,[],false⟩ su)) (Q (O [m 92 3,o
 93 (.ar .neq (t 92) (.c (.int .i32 95))),m 2 93]) R))))))))
def lZ:AFn:=⟨tR,94,[.t 2],.keep,[],none⟩
def vq:AC:=
 (Q (O [mc 2 (i 0)]) (Q (O [m 3 0,o 4 (.ar .mul (t 3) (i 78913)),o 5 (.sh .shr (t 4) (.c (.int .u64 18))),m 2 5]) R))
def nC:AFn:=⟨vq,6,[.t 2],.keep,[],none⟩
def vr:AC:=
 (Q (O [mc 2 (i 0)]) (Q (Q (O [m 3 0]) (C 3 (Q (O [mc 2 (i 1)]) R) X)) (Q (O [mc 2 (i 0)]) R)))
def nD:AFn:=⟨vr,4,[.t 2],.keep,[],none⟩
def tS:AC:=
 (Q (O [mc 2 F]) (Q (O [m 3 0,m 4 0,o 5 (.ar .sub (t 4) (i 1)),o 6 (.ar .and (t 3) (t 5)),o 7 (.ar .eql (t 6) (i 0)),m 2 7]) R))
def l3:AFn:=⟨tS,8,[.t 2],.keep,[],none⟩
def xx:AC:=
 (Q (O [mc 2 (i 0)]) (Q (.cond (.c (.bool false)) (Q (O [m 3 0,o 4 (.cvi .u32 (t 3)),k 5 (f wt) [(t 4)],m 2 5]) R) X) (Q (O [m 6 0,k 7 (f
 wu) [(t 6)],m 2 7]) R)))
def qD:AFn:=⟨xx,8,[.t 2],.keep,[],none⟩
def vP:AC:=
 (Q (O [mc 2 (i 0)]) (Q (Q (O [m 3 0,o 4 (.ar .eql (t 3) (.c (.int .u32 0)))]) (C 4 (Q (O [mc 2 (i 32)]) R) X)) (Q (O [m 5 0,m 6 0,o 7 (.un .neg (t 6)),o 8 (.ar .and (t 5) (t
 7)),o 9 (.ar .mul (t 8) (.c (.int .u32 125613361))),o 10 (.sh .shr (t 9) (.c (.int .u64 27))),o 11 (.iaa 32 1 (.c .unk) (t 10)),ld 12 11,o 13 (.cvi .i64 (t 12)),m 2 13]) R)))
def oU:AFn:=⟨vP,14,[.t 2],.keep,[],none⟩
def vQ:AC:=
 (Q (O [mc 2 (i 0)]) (Q (Q (O [m 3 0,o 4 (.ar .eql (t 3) (.c (.int .u64 0)))]) (C 4 (Q (O [mc 2 (i 64)]) R) X)) (Q (O [m 5 0,m 6 0,o 7 (.un .neg (t 6)),o 8 (.ar .and (t 5) (t
 7)),o 9 (.ar .mul (t 8) (.c (.int .u64 285870213051353865))),o 10 (.sh .shr (t 9) (.c (.int .u64 58))),o 11 (.iaa 64 1 (.c .unk) (t 10)),ld 12 11,o 13 (.cvi .i64 (t 12)),m 2
 13]) R)))
def oV:AFn:=⟨vQ,14,[.t 2],.keep,[],none⟩
def Vi(f:FuncId):Option AFn:=(bif Nat.blt f 136 then (bif Nat.blt f 87 then (bif Nat.blt f 56 then (bif Nat.blt f 38 then (bif Nat.blt f 29 then (bif Nat.blt f 23 then (bif Nat.blt f 19 then (bif Nat.beq f 7 then some tB else none) else (bif Nat.beq f 19 then some EH else none)) else (bif Nat.blt f 28 then (bif Nat.beq f 23 then some De else none) else (bif Nat.beq f 28 then some EI else none))) else (bif Nat.blt f 32 then (bif Nat.blt f 30 then (bif Nat.beq f 29 then some EJ else none) else (bif Nat.beq f 30 then some Df else none)) else (bif Nat.blt f 34 then (bif Nat.beq f 32 then some Dg else none) else (bif Nat.beq f 34 then some jr else none)))) else (bif Nat.blt f 49 then (bif Nat.blt f 44 then (bif Nat.blt f 42 then (bif Nat.beq f 38 then some Dh else none) else (bif Nat.beq f 42 then some sF else none)) else (bif Nat.blt f 46 then (bif Nat.beq f 44 then some tC else none) else (bif Nat.beq f 46 then some Di else none))) else (bif Nat.blt f 53 then (bif Nat.blt f 50 then (bif Nat.beq f 49 then some AD else none) else (bif Nat.beq f 50 then some vi else none)) else (bif Nat.blt f 54 then (bif Nat.beq f 53 then some tD else none) else (bif Nat.blt f 55 then (bif Nat.beq f 54 then some lX else none) else (bif Nat.beq f 55 then some Gm else none)))))) else (bif Nat.blt f 77 then (bif Nat.blt f 60 then (bif Nat.blt f 58 then (bif Nat.blt f 57 then (bif Nat.beq f 56 then some B6 else none) else (bif Nat.beq f 57 then some sG else none)) else (bif Nat.blt f 59 then (bif Nat.beq f 58 then some B7 else none) else (bif Nat.beq f 59 then some B8 else none))) else (bif Nat.blt f 62 then (bif Nat.blt f 61 then (bif Nat.beq f 60 then some B9 else none) else (bif Nat.beq f 61 then some Ca else none)) else (bif Nat.blt f 63 then (bif Nat.beq f 62 then some AE else none) else (bif Nat.blt f 69 then (bif Nat.beq f 63 then some xp else none) else (bif Nat.beq f 69 then some jX else none))))) else (bif Nat.blt f 82 then (bif Nat.blt f 80 then (bif Nat.blt f 79 then (bif Nat.beq f 77 then some oQ else none) else (bif Nat.beq f 79 then some uy else none)) else (bif Nat.blt f 81 then (bif Nat.beq f 80 then some Dl else none) else (bif Nat.beq f 81 then some sH else none))) else (bif Nat.blt f 84 then (bif Nat.blt f 83 then (bif Nat.beq f 82 then some AF else none) else (bif Nat.beq f 83 then some sI else none)) else (bif Nat.blt f 85 then (bif Nat.beq f 84 then some tE else none) else (bif Nat.blt f 86 then (bif Nat.beq f 85 then some AG else none) else (bif Nat.beq f 86 then some sJ else none))))))) else (bif Nat.blt f 108 then (bif Nat.blt f 95 then (bif Nat.blt f 91 then (bif Nat.blt f 89 then (bif Nat.blt f 88 then (bif Nat.beq f 87 then some tF else none) else (bif Nat.beq f 88 then some AH else none)) else (bif Nat.blt f 90 then (bif Nat.beq f 89 then some sK else none) else (bif Nat.beq f 90 then some tG else none))) else (bif Nat.blt f 93 then (bif Nat.blt f 92 then (bif Nat.beq f 91 then some AI else none) else (bif Nat.beq f 92 then some sL else none)) else (bif Nat.blt f 94 then (bif Nat.beq f 93 then some tH else none) else (bif Nat.beq f 94 then some AJ else none)))) else (bif Nat.blt f 100 then (bif Nat.blt f 97 then (bif Nat.blt f 96 then (bif Nat.beq f 95 then some tI else none) else (bif Nat.beq f 96 then some uz else none)) else (bif Nat.blt f 98 then (bif Nat.beq f 97 then some AK else none) else (bif Nat.beq f 98 then some wa else none))) else (bif Nat.blt f 102 then (bif Nat.blt f 101 then (bif Nat.beq f 100 then some Dm else none) else (bif Nat.beq f 101 then some Cb else none)) else (bif Nat.blt f 106 then (bif Nat.beq f 102 then some yR else none) else (bif Nat.blt f 107 then (bif Nat.beq f 106 then some sN else none) else (bif Nat.beq f 107 then some nu else none)))))) else (bif Nat.blt f 127 then (bif Nat.blt f 112 then (bif Nat.blt f 110 then (bif Nat.blt f 109 then (bif Nat.beq f 108 then some vj else none) else (bif Nat.beq f 109 then some tJ else none)) else (bif Nat.blt f 111 then (bif Nat.beq f 110 then some sO else none) else (bif Nat.beq f 111 then some na else none))) else (bif Nat.blt f 114 then (bif Nat.blt f 113 then (bif Nat.beq f 112 then some oR else none) else (bif Nat.beq f 113 then some qY else none)) else (bif Nat.blt f 125 then (bif Nat.beq f 114 then some tK else none) else (bif Nat.blt f 126 then (bif Nat.beq f 125 then some xq else none) else (bif Nat.beq f 126 then some jf else none))))) else (bif Nat.blt f 131 then (bif Nat.blt f 129 then (bif Nat.blt f 128 then (bif Nat.beq f 127 then some rK else none) else (bif Nat.beq f 128 then some jg else none)) else (bif Nat.blt f 130 then (bif Nat.beq f 129 then some rL else none) else (bif Nat.beq f 130 then some tL else none))) else (bif Nat.blt f 133 then (bif Nat.blt f 132 then (bif Nat.beq f 131 then some rM else none) else (bif Nat.beq f 132 then some Dn else none)) else (bif Nat.blt f 134 then (bif Nat.beq f 133 then some jh else none) else (bif Nat.blt f 135 then (bif Nat.beq f 134 then some rN else none) else (bif Nat.beq f 135 then some js else none)))))))) else (bif Nat.blt f 187 then (bif Nat.blt f 153 then (bif Nat.blt f 144 then (bif Nat.blt f 140 then (bif Nat.blt f 138 then (bif Nat.blt f 137 then (bif Nat.beq f 136 then some rO else none) else (bif Nat.beq f 137 then some fN else none)) else (bif Nat.blt f 139 then (bif Nat.beq f 138 then some rP else none) else (bif Nat.beq f 139 then some Cc else none))) else (bif Nat.blt f 142 then (bif Nat.blt f 141 then (bif Nat.beq f 140 then some ju else none) else (bif Nat.beq f 141 then some xr else none)) else (bif Nat.blt f 143 then (bif Nat.beq f 142 then some xt else none) else (bif Nat.beq f 143 then some AM else none)))) else (bif Nat.blt f 148 then (bif Nat.blt f 146 then (bif Nat.blt f 145 then (bif Nat.beq f 144 then some AN else none) else (bif Nat.beq f 145 then some AO else none)) else (bif Nat.blt f 147 then (bif Nat.beq f 146 then some EL else none) else (bif Nat.beq f 147 then some AP else none))) else (bif Nat.blt f 150 then (bif Nat.blt f 149 then (bif Nat.beq f 148 then some AQ else none) else (bif Nat.beq f 149 then some AR else none)) else (bif Nat.blt f 151 then (bif Nat.beq f 150 then some Cd else none) else (bif Nat.blt f 152 then (bif Nat.beq f 151 then some Dp else none) else (bif Nat.beq f 152 then some AS else none)))))) else (bif Nat.blt f 165 then (bif Nat.blt f 160 then (bif Nat.blt f 155 then (bif Nat.blt f 154 then (bif Nat.beq f 153 then some AT else none) else (bif Nat.beq f 154 then some AU else none)) else (bif Nat.blt f 159 then (bif Nat.beq f 155 then some AW else none) else (bif Nat.beq f 159 then some tM else none))) else (bif Nat.blt f 162 then (bif Nat.blt f 161 then (bif Nat.beq f 160 then some qZ else none) else (bif Nat.beq f 161 then some jv else none)) else (bif Nat.blt f 163 then (bif Nat.beq f 162 then some p9 else none) else (bif Nat.blt f 164 then (bif Nat.beq f 163 then some lA else none) else (bif Nat.beq f 164 then some sP else none))))) else (bif Nat.blt f 181 then (bif Nat.blt f 179 then (bif Nat.blt f 175 then (bif Nat.beq f 165 then some oS else none) else (bif Nat.beq f 175 then some xu else none)) else (bif Nat.blt f 180 then (bif Nat.beq f 179 then some sQ else none) else (bif Nat.beq f 180 then some kQ else none))) else (bif Nat.blt f 183 then (bif Nat.blt f 182 then (bif Nat.beq f 181 then some jw else none) else (bif Nat.beq f 182 then some jY else none)) else (bif Nat.blt f 184 then (bif Nat.beq f 183 then some gu else none) else (bif Nat.blt f 186 then (bif Nat.beq f 184 then some lB else none) else (bif Nat.beq f 186 then some nv else none))))))) else (bif Nat.blt f 215 then (bif Nat.blt f 203 then (bif Nat.blt f 198 then (bif Nat.blt f 189 then (bif Nat.blt f 188 then (bif Nat.beq f 187 then some Ce else none) else (bif Nat.beq f 188 then some Cf else none)) else (bif Nat.blt f 191 then (bif Nat.beq f 189 then some Dq else none) else (bif Nat.beq f 191 then some vk else none))) else (bif Nat.blt f 200 then (bif Nat.blt f 199 then (bif Nat.beq f 198 then some sR else none) else (bif Nat.beq f 199 then some jN else none)) else (bif Nat.blt f 202 then (bif Nat.beq f 200 then some lC else none) else (bif Nat.beq f 202 then some qa else none)))) else (bif Nat.blt f 207 then (bif Nat.blt f 205 then (bif Nat.blt f 204 then (bif Nat.beq f 203 then some jj else none) else (bif Nat.beq f 204 then some rQ else none)) else (bif Nat.blt f 206 then (bif Nat.beq f 205 then some xw else none) else (bif Nat.beq f 206 then some rR else none))) else (bif Nat.blt f 212 then (bif Nat.blt f 211 then (bif Nat.beq f 207 then some qb else none) else (bif Nat.beq f 211 then some kR else none)) else (bif Nat.blt f 213 then (bif Nat.beq f 212 then some oT else none) else (bif Nat.blt f 214 then (bif Nat.beq f 213 then some tN else none) else (bif Nat.beq f 214 then some uA else none)))))) else (bif Nat.blt f 224 then (bif Nat.blt f 219 then (bif Nat.blt f 217 then (bif Nat.blt f 216 then (bif Nat.beq f 215 then some vl else none) else (bif Nat.beq f 216 then some sS else none)) else (bif Nat.blt f 218 then (bif Nat.beq f 217 then some ny else none) else (bif Nat.beq f 218 then some nz else none))) else (bif Nat.blt f 221 then (bif Nat.blt f 220 then (bif Nat.beq f 219 then some nA else none) else (bif Nat.beq f 220 then some EM else none)) else (bif Nat.blt f 222 then (bif Nat.beq f 221 then some re else none) else (bif Nat.blt f 223 then (bif Nat.beq f 222 then some nB else none) else (bif Nat.beq f 223 then some lY else none))))) else (bif Nat.blt f 228 then (bif Nat.blt f 226 then (bif Nat.blt f 225 then (bif Nat.beq f 224 then some nb else none) else (bif Nat.beq f 225 then some rf else none)) else (bif Nat.blt f 227 then (bif Nat.beq f 226 then some lZ else none) else (bif Nat.beq f 227 then some nC else none))) else (bif Nat.blt f 230 then (bif Nat.blt f 229 then (bif Nat.beq f 228 then some nD else none) else (bif Nat.beq f 229 then some l3 else none)) else (bif Nat.blt f 231 then (bif Nat.beq f 230 then some qD else none) else (bif Nat.blt f 232 then (bif Nat.beq f 231 then some oU else none) else (bif Nat.beq f 232 then some oV else none)))))))))
def SK(f:FuncId):Option (Nat×AFn):=(bif Nat.beq f 99 then some (4,sM) else none)
end
end Go.Am
