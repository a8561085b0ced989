import Derived.Test.YtaigoffbhbpplaaGreatDoorA4
/-
  Part 5 of the tool: an abstract machine over the model, proved sound, and what it says of the functions that the law reaches. Condition: none but those that each theorem names.
-/
set_option linter.unusedVariables false
set_option linter.unusedSimpArgs false
set_option maxRecDepth 100000
set_option maxHeartbeats 4000000
namespace Go.Am
open Go.RowKit
section
open Sh
def lN:AC:=
 (Q (O [o 2 (.bx am (t 0)),mc 4 F]) (Q (Q (Q (O [la 15 6 2,k 16 (f rT) [(t 15)],m 17 16,h 18 17 (.mv (t 1)),h 19 17 (.len .str (t 18)),h 20 17
 (.ar .gtr (t 19) (i 1000)),o 21 (.pk (t 17) T (t 20))]) (Y [1,2,21])) (C 21 (Q (O [k 22 (f fq) [],m 4 22]) R) X)) (Q (Q (O [la 24 6 2,m 25 1,k 26 (f
 yu) [(t 24),(t 25)],m 23 26,ex 27 23 0,ex 28 23 1,m 5 27,m 6 28]) (Y [1,2,5,6])) (Q (Q (O [la 30 6 2,m 31 1,k 32 (f pg) [(t 30),(t
 31)],m 29 32,ex 33 29 0,ex 34 29 1,m 7 33,m 8 34]) (Y [1,2,5,6,7,8])) (Q (Q (Q (O [m 35 6,m 36 8,o 37 (.ar .neq (t 35) (t 36)),m 38 37,h 39 38 (.mv (t 5)),h 40 38
 (.mv (t 7)),⟨(some 41),(some (38,false)),(.call (.c (.fn (.func fZ) [] [])) [(.t 39),(.t 40)])⟩,h 42 38 (.un .not (t 41)),o 43 (.pk (t 38) T (t
 42))]) (Y [1,2,7,8,43])) (C 43 (Q (O [mc 4 F]) R) X)) (Q (Q (O [la 45 6 2,k 46 (f BX) [(t 45)],m 44 46,ex 47 44 0,ex 48 44 1,m 9 47,m 10 48]) (Y [1,2,7,8,9,
 10])) (Q (Q (Q (O [m 49 10,la 50 6 2,k 51 (f nz) [(t 50)],o 52 (.ar .neq (t 49) (t 51))]) (Y [1,7,8,9,10,52])) (C 52 (Q (O [mc 4 F]) R) X)) (Q (Q (O [m 53
 10,o 54 (.ar .neq (t 53) (u 0))]) (C 54 (Q (Q (O [m 55 9,o 56 (.eq false .ptr (t 55) (.c .nilp)),m 57 56,⟨(some 58),(some (57,true)),(.call (.c (.fn (.func
 fq) [] [])) [])⟩,o 59 (.pk (t 57) (t 58) F),m 4 59]) (Y [4])) R) X)) (Q (Q (O [m 61 9,m 62 1,k 63 (f lw) [(t 61),(t 62)],m 60 63,ex
 64 60 0,ex 65 60 1,m 11 64,m 12 65]) (Y [1,7,8,9,11,12])) (Q (Q (O [m 67 9,m 68 1,k 69 (f lw) [(t 67),(t 68)],m 66 69,ex 70 66 0,ex 71 66 1,m 13
 70,m 14 71]) (Y [7,8,11,12,13,14])) (Q (Q (O [m 72 12,m 73 8,o 74 (.ar .eql (t 72) (t 73)),m 75 74,g 76 75 (.mv (t 14)),g 77 75 (.mv (t 8)),g 78 75 (.ar .eql (t 76) (t
 77)),o 79 (.pk (t 75) (t 78) F),m 80 79,g 81 80 (.mv (t 11)),g 82 80 (.mv (t 7)),⟨(some 83),(some (80,true)),(.call (.c (.fn (.func fZ) [] []))
 [(.t 81),(.t 82)])⟩,o 84 (.pk (t 80) (t 83) F),m 85 84,g 86 85 (.mv (t 13)),g 87 85 (.mv (t 7)),⟨(some 88),(some (85,true)),(.call (.c (.fn (.func
 fZ) [] [])) [(.t 86),(.t 87)])⟩,o 89 (.pk (t 85) (t 88) F),m 90 89,⟨(some 91),(some (90,true)),(.call (.c (.fn (.func fq) [] []))
 [])⟩,o 92 (.pk (t 90) (t 91) F),m 4 92]) (Y [4])) R)))))))))))
def eA:AFn:=⟨lN,93,[.t 4],.drop,[],none⟩
theorem iQ:eA.res=[.t 4]∧eA.mode = .drop∧eA.dfr=none:=⟨rfl,rfl,rfl⟩
def jG:AC:=
 (Q (Q (Q (O [m 76 6,fa 77 1 1,ld 78 77,m 79 5,ia 80 2 78 79,fa 81 1 80,ld 82 81,ls 83 82,bl 84 76 83,m 85 84,g 86 85 (.mv (t 6)),g 87 85 (.ar .lss (t 86) (i 100)),o 88
 (.pk (t 85) (t 87) F)]) (Y [1,3,4,5,6,88])) (C 88 X (.exit 2))) (Q (.block 3 (Q (D [W (ld 91 3),P (fa 92 1 1),W (ld 93 92),P (m 94 5),P (ia 95 2 93 94),P (fa 96 1 95),W
 (ld 97 96),P (m 98 6),P (ia 99 1 97 98),W (ld 100 99),W (lt 101 100),P (o 102 (.ar .add (i 1) (t 101))),P (o 103 (.ar .add (t 91) (t 102))),E (n (.st 1 (t 3) (t 103)))]) (Y
 [1,3,4,5,6]))) (O [m 89 6,ad 90 89,m 6 90])))
def jH:AC:=
 (Q (Q (Q (O [m 59 5,fa 60 1 1,ld 61 60,ls 62 61,bl 63 59 62]) (Y [1,3,4,5,63])) (C 63 X (.exit 0))) (Q (Q (.block 1 (Q (Q (D [W (ld 66 3),P (fa 67 1 1),W (ld 68 67),P (m
 69 5),P (ia 70 2 68 69),P (fa 71 0 70),W (ld 72 71),W (lt 73 72),P (o 74 (.ar .add (i 1) (t 73))),P (o 75 (.ar .add (t 66) (t 74))),E (n (.st 1 (t 3) (t 75)))]) (Y [1,3,4,
 5])) (Q (Q (O [mc 6 (i 0)]) (Q (.block 2 (.loop ⟨(some [1,3,4,5,6]),[],false⟩ jG)) (Y [1,3,4,5]))) (Q (D [W (ld 104 3),P (fa 105 1 1),W (ld 106 105),
 P (m 107 5),P (ia 108 2 106 107),P (fa 109 1 108),W (ld 110 109),W (ls 111 110),P (o 112 (.ar .add (t 104) (t 111))),E (n (.st 1 (t 3) (t 112)))]) (Y [1,3,4,5]))))) (Y [1,
 3,4,5])) (O [m 64 5,ad 65 64,m 5 65])))
def jI:AC:=
 (Q (Q (Q (O [m 158 8,fa 159 2 1,ld 160 159,m 161 7,ia 162 2 160 161,fa 163 1 162,ld 164 163,ls 165 164,bl 166 158 165]) (Y [1,3,4,7,8,166])) (C 166 X (.exit 6))) (Q
 (.block 7 (Q (Q (O [fa 169 2 1,ld 170 169,m 171 7,ia 172 2 170 171,fa 173 1 172,ld 174 173,m 175 8,ia 176 4 174 175,la 177 4 176,o 9 (.nw [(.int .i64 0),(.str []),(.str
 []),(.slice .nil 2 [])] aY),n (.st 4 (t 9) (t 177))]) (Y [1,3,4,7,8,9])) (Q (Q (O [ld 178 3,fa 179 1 9,ld 180 179,lt 181 180,o 182 (.ar .add (i 1) (t 181)),fa
 183 2 9,ld 184 183,lt 185 184,o 186 (.ar .add (t 182) (t 185)),o 187 (.ar .add (t 178) (t 186)),n (.st 1 (t 3) (t 187))]) (Y [1,3,4,7,8,9])) (Q (O [m 188 4,fa 189 3 9,ld
 190 189,k 191 (t 188) [(t 190)]]) (Y [1,3,4,7,8]))))) (O [m 167 8,ad 168 167,m 8 168])))
def jJ:AC:=
 (Q (Q (Q (O [m 113 7,fa 114 2 1,ld 115 114,ls 116 115,bl 117 113 116]) (Y [1,3,4,7,117])) (C 117 X (.exit 4))) (Q (Q (.block 5 (Q (Q (Q (O [fa 120 2 1,ld 121 120,m 122 7,
 ia 123 2 121 122,fa 124 1 123,ld 125 124,ls 126 125,o 127 (.ar .gtr (t 126) (i 12)),m 128 127,g 129 128 (.fa 2 (t 1)),g 130 128 (.ld none (t 129)),g 131 128 (.mv (t 7)),g
 132 128 (.ias 2 (t 130) (t 131)),g 133 128 (.fa 1 (t 132)),g 134 128 (.ld none (t 133)),g 135 128 (.len .sl (t 134)),g 136 128 (.ar .leq (t 135) (i 24)),o 137 (.pk (t 128) (t
 136) F),m 138 137,h 139 138 (.fa 2 (t 1)),h 140 138 (.ld none (t 139)),h 141 138 (.mv (t 7)),h 142 138 (.ias 2 (t 140) (t 141)),h 143 138 (.fa 1 (t 142)),h 144 138 (.ld none
 (t 143)),h 145 138 (.len .sl (t 144)),h 146 138 (.ar .gtr (t 145) (i 60)),o 147 (.pk (t 138) T (t 146))]) (Y [1,3,4,7,147])) (C 147 (Q (O [mc 2 T]) R) X)) (Q (Q (D [W (ld 148
 3),P (fa 149 2 1),W (ld 150 149),P (m 151 7),P (ia 152 2 150 151),P (fa 153 0 152),W (ld 154 153),W (lt 155 154),P (o 156 (.ar .add (i 1) (t 155))),P (o 157 (.ar .add (t
 148) (t 156))),E (n (.st 1 (t 3) (t 157)))]) (Y [1,3,4,7])) (Q (O [mc 8 (i 0)]) (Q (.block 6 (.loop ⟨(some [1,3,4,7,8]),[],true⟩ jI)) (Y [1,3,4,
 7])))))) (Y [1,3,4,7])) (O [m 118 7,ad 119 118,m 7 119])))
def jK:AC:=
 (Q (Q (Q (O [m 222 12,fa 223 3 11,ld 224 223,ls 225 224,bl 226 222 225,m 227 226,g 228 227 (.mv (t 12)),g 229 227 (.ar .lss (t 228) (i 100)),o 230 (.pk (t 227) (t 229) F)])
 (Y [1,3,4,10,11,12,230])) (C 230 X (.exit 10))) (Q (.block 11 (Q (D [W (ld 233 3),P (fa 234 3 11),W (ld 235 234),P (m 236 12),P (ia 237 2 235 236),P (fa 238 1 237),W (ld
 239 238),W (lt 240 239),P (o 241 (.ar .add (t 233) (t 240))),E (n (.st 1 (t 3) (t 241)))]) (Y [1,3,4,10,11,12]))) (O [m 231 12,ad 232 231,m 12 232])))
def jL:AC:=
 (Q (Q (Q (O [m 192 10,fa 193 3 1,ld 194 193,ls 195 194,bl 196 192 195]) (Y [1,3,4,10,196])) (C 196 X (.exit 8))) (Q (Q (.block 9 (Q (Q (O [fa 199 3 1,ld 200 199,m 201 10,
 ia 202 4 200 201,la 203 4 202,o 11 (.nw [(.str []),(.str []),(.slice .nil 2 []),(.slice .nil 2 [])] bq),n (.st 4 (t 11) (t 203))]) (Y [1,3,4,10,11])) (Q (Q (O [ld
 204 3,fa 205 0 11,ld 206 205,lt 207 206,o 208 (.ar .add (i 1) (t 207)),fa 209 1 11,ld 210 209,lt 211 210,o 212 (.ar .add (t 208) (t 211)),fa 213 3 11,ld 214 213,ls 215
 214,o 216 (.ar .add (t 212) (t 215)),o 217 (.ar .add (t 204) (t 216)),n (.st 1 (t 3) (t 217))]) (Y [1,3,4,10,11])) (Q (Q (O [m 218 4,fa 219 2 11,ld 220 219,k 221 (t 218)
 [(t 220)]]) (Y [1,3,4,10,11])) (Q (O [mc 12 (i 0)]) (Q (.block 10 (.loop ⟨(some [1,3,4,10,11,12]),[],false⟩ jK)) (Y [1,3,4,10]))))))) (Y [1,3,4,
 10])) (O [m 197 10,ad 198 197,m 10 198])))
def jM:AC:=
 (Q (Q (Q (O [m 242 13,fa 243 4 1,ld 244 243,ls 245 244,bl 246 242 245]) (Y [1,3,4,13,246])) (C 246 X (.exit 12))) (Q (.block 13 (Q (D [W (ld 249 3),P (fa 250 4 1),W (ld
 251 250),P (m 252 13),P (ia 253 4 251 252),P (fa 254 0 253),W (ld 255 254),W (lt 256 255),P (fa 257 4 1),W (ld 258 257),P (m 259 13),P (ia 260 4 258 259),P (fa 261 1 260),
 W (ld 262 261),W (lt 263 262),P (o 264 (.ar .add (t 256) (t 263))),P (fa 265 4 1),W (ld 266 265),P (m 267 13),P (ia 268 4 266 267),P (fa 269 2 268),W (ld 270 269),W (lt 271
 270),P (o 272 (.ar .add (t 264) (t 271))),P (fa 273 4 1),W (ld 274 273),P (m 275 13),P (ia 276 4 274 275),P (fa 277 3 276),W (ld 278 277),W (lt 279 278),P (o 280 (.ar .add
 (t 272) (t 279))),P (o 281 (.ar .add (t 249) (t 280))),E (n (.st 1 (t 3) (t 281)))]) (Y [1,3,4,13]))) (O [m 247 13,ad 248 247,m 13 248])))
def jN:AC:=
 (Q (Q (Q (O [m 282 14,fa 283 5 1,ld 284 283,ls 285 284,bl 286 282 285]) (Y [1,3,4,14,286])) (C 286 X (.exit 14))) (Q (.block 15 (Q (Q (D [W (ld 289 3),P (fa 290 5 1),W (ld
 291 290),P (m 292 14),P (ia 293 3 291 292),P (fa 294 0 293),W (ld 295 294),W (lt 296 295),P (fa 297 5 1),W (ld 298 297),P (m 299 14),P (ia 300 3 298 299),P (fa 301 1 300),
 W (ld 302 301),W (lt 303 302),P (o 304 (.ar .add (t 296) (t 303))),P (o 305 (.ar .add (t 289) (t 304))),E (n (.st 1 (t 3) (t 305)))]) (Y [1,3,4,14])) (Q (O [m 306 4,fa 307 5
 1,ld 308 307,m 309 14,ia 310 3 308 309,fa 311 2 310,ld 312 311,k 313 (t 306) [(t 312)]]) (Y [1,3,4,14])))) (O [m 287 14,ad 288 287,m 14 288])))
def r7:AC:=
 (Q (O [o 1 (.bx am (t 0)),mc 2 F]) (Q (Q (O [fa 15 0 1,ld 16 15,lt 17 16,o 3 (.nw [(.int .i64 0)] Qo),n (.st 1 (t 3) (t 17))]) (Y [1,3])) (Q (O [o 18 (.mf (.func
 jE) [] [(t 3)]),m 4 18]) (Q (Q (Q (O [fa 19 3 1,ld 20 19,ls 21 20,o 22 (.ar .gtr (t 21) (i 60)),m 23 22,g 24 23 (.fa 3 (t 1)),g 25 23 (.ld none (t 24)),
 g 26 23 (.len .sl (t 25)),g 27 23 (.ar .leq (t 26) (i 128)),o 28 (.pk (t 23) (t 27) F),m 29 28,h 30 29 (.fa 3 (t 1)),h 31 29 (.ld none (t 30)),h 32 29 (.len .sl (t 31)),h 33
 29 (.ar .gtr (t 32) (i 200)),o 34 (.pk (t 29) T (t 33)),m 35 34,h 36 35 (.fa 1 (t 1)),h 37 35 (.ld none (t 36)),h 38 35 (.len .sl (t 37)),h 39 35 (.ar .gtr (t 38) (i 40)),o
 40 (.pk (t 35) T (t 39)),m 41 40,h 42 41 (.fa 2 (t 1)),h 43 41 (.ld none (t 42)),h 44 41 (.len .sl (t 43)),h 45 41 (.ar .gtr (t 44) (i 40)),o 46 (.pk (t 41) T (t 45)),m 47
 46,h 48 47 (.fa 4 (t 1)),h 49 47 (.ld none (t 48)),h 50 47 (.len .sl (t 49)),h 51 47 (.ar .gtr (t 50) (i 40)),o 52 (.pk (t 47) T (t 51)),m 53 52,h 54 53 (.fa 5 (t 1)),h 55
 53 (.ld none (t 54)),h 56 53 (.len .sl (t 55)),h 57 53 (.ar .gtr (t 56) (i 40)),o 58 (.pk (t 53) T (t 57))]) (Y [1,3,4,58])) (C 58 (Q (O [mc 2 T]) R) X)) (Q (Q (O [mc 5 (i
 0)]) (Q (.block 0 (.loop ⟨(some [1,3,4,5]),[],false⟩ jH)) (Y [1,3,4]))) (Q (Q (O [mc 7 (i 0)]) (Q (.block 4 (.loop ⟨(some [1,3,4,7]),[],true⟩
 jJ)) (Y [1,3,4]))) (Q (Q (O [mc 10 (i 0)]) (Q (.block 8 (.loop ⟨(some [1,3,4,10]),[],true⟩ jL)) (Y [1,3,4]))) (Q (Q (O [mc 13 (i
 0)]) (Q (.block 12 (.loop ⟨(some [1,3,4,13]),[],false⟩ jM)) (Y [1,3,4]))) (Q (Q (O [mc 14 (i 0)]) (Q (.block 14 (.loop ⟨(some [1,3,4,14]),[],false⟩
 jN)) (Y [3]))) (Q (O [ld 314 3,o 315 (.ar .gtr (t 314) (i 6000)),m 2 315]) R))))))))))
def aZ:AFn:=⟨r7,316,[.t 2],.drop,[],none⟩
theorem bF:aZ.res=[.t 2]∧aZ.mode = .drop∧aZ.dfr=none:=⟨rfl,rfl,rfl⟩
def Cm:AC:=
 (Q (O [o 1 (.bx am (t 0)),mc 2 (u 0)]) (Q (Q (O [la 4 6 1,o 5 (.bd [(.str []),(.slice .nil 2 []),(.slice .nil 2 []),(.slice .nil 4 []),(.slice .nil 4 []),(.slice
 .nil 3 [])] [(0,6)] [(0,(t 4))]),o 3 (.nw [(.str []),(.slice .nil 2 []),(.slice .nil 2 []),(.slice .nil 4 []),(.slice .nil 4 []),(.slice .nil 3 [])] bQ),n (.st
 6 (t 3) (t 5))]) (Y [1,3])) (Q (Q (O [la 6 6 3,o 7 (.mf (.func mW) [(t 6)] []),o 8 (.mf (.func u1) [] [(t 1),(t 3)]),o 9 (.mf (.func
 u3) [] [(t 1),(t 3)]),o 10 (.mf (.func u4) [] [(t 1),(t 3)]),o 11 (.mf (.func u5) [] [(t 1),(t 3)]),o 12 (.mf (.func u6) []
 [(t 1),(t 3)]),o 13 (.bs 1 [.nilfn] 6 [(0,(t 7)),(1,(t 8)),(2,(t 9)),(3,(t 10)),(4,(t 11)),(5,(t 12))]),k 14 (f Cd) [(t 13)],m 2 14]) (Y [2])) R)))
def oH:AFn:=⟨Cm,15,[.t 2],.drop,[],none⟩
theorem PA:oH.res=[.t 2]∧oH.mode = .drop∧oH.dfr=none:=⟨rfl,rfl,rfl⟩
def jO:AC:=
 (Q (Q (Q (O [m 16 3,fa 17 0 1,ld 18 17,lt 19 18,bl 20 16 19]) (Y [1,3,20])) (C 20 X (.exit 0))) (Q (.block 1 (Q (Q (D [P (fa 23 0 1),W (ld 24 23),P (m 25 3),P (o 26 (.ar
 .sub (t 25) (i 1))),P (o 27 (.ixs (t 24) (t 26))),P (fa 28 0 1),W (ld 29 28),P (m 30 3),P (o 31 (.ixs (t 29) (t 30))),P (o 32 (.ar .geq (t 27) (t 31)))]) (Y [1,3,32])) (C 32
 (Q (O [mc 2 (u 1)]) R) X))) (O [m 21 3,ad 22 21,m 3 22])))
def jP:AC:=
 (Q (Q (Q (O [m 52 7,fa 53 4 1,ld 54 53,ls 55 54,bl 56 52 55]) (Y [1,7,56])) (C 56 X (.exit 2))) (Q (.block 3 (Q (Q (O [fa 59 4 1,ld 60 59,m 61 7,ia 62 4 60 61,la 63 4 62,
 o 8 (.nw [(.str []),(.str []),(.str []),(.str [])] cP),n (.st 4 (t 8) (t 63))]) (Y [1,7,8])) (Q (Q (Q (O [fa 64 0 8,ld 65 64,o 66 (.ar .eql (t 65) (s [])),m 67 66,
 h 68 67 (.fa 0 (t 8)),h 69 67 (.ld none (t 68)),⟨(some 70),(some (67,false)),(.call (.c (.fn (.func dJ) [] [])) [(.t 69),(.c (.str [43]))])⟩,h 71 67 (.un .not
 (t 70)),o 72 (.pk (t 67) T (t 71)),m 73 72,h 74 73 (.fa 1 (t 8)),h 75 73 (.ld none (t 74)),⟨(some 76),(some (73,false)),(.call (.c (.fn (.func dJ) [] []))
 [(.t 75),(.c (.str [43]))])⟩,h 77 73 (.un .not (t 76)),o 78 (.pk (t 73) T (t 77)),m 79 78,h 80 79 (.fa 2 (t 8)),h 81 79 (.ld none (t 80)),⟨(some 82),(some (79,false)),
 (.call (.c (.fn (.func dJ) [] [])) [(.t 81),(.c (.str [43,35,86,67]))])⟩,h 83 79 (.un .not (t 82)),o 84 (.pk (t 79) T (t 83)),m 85 84,h 86 85 (.fa 3 (t 8)),
 h 87 85 (.ld none (t 86)),⟨(some 88),(some (85,false)),(.call (.c (.fn (.func dJ) [] [])) [(.t 87),(.c (.str [43,35,86,67]))])⟩,h 89 85 (.un .not (t 88)),o
 90 (.pk (t 85) T (t 89))]) (Y [1,7,8,90])) (C 90 (Q (O [mc 2 (u 1)]) R) X)) (Q (Q (O [fa 91 0 8,ld 92 91,lt 93 92,o 94 (.ar .gtr (t 93) (i 6)),m 95 94,h 96 95 (.fa 1 (t 8)),
 h 97 95 (.ld none (t 96)),h 98 95 (.len .str (t 97)),h 99 95 (.ar .gtr (t 98) (i 6)),o 100 (.pk (t 95) T (t 99)),m 101 100,h 102 101 (.fa 2 (t 8)),h 103 101 (.ld none (t
 102)),h 104 101 (.len .str (t 103)),h 105 101 (.ar .gtr (t 104) (i 6)),o 106 (.pk (t 101) T (t 105)),m 107 106,h 108 107 (.fa 3 (t 8)),h 109 107 (.ld none (t 108)),h 110 107
 (.len .str (t 109)),h 111 107 (.ar .gtr (t 110) (i 6)),o 112 (.pk (t 107) T (t 111))]) (Y [1,7,112])) (C 112 (Q (O [mc 2 (u 1)]) R) X))))) (O [m 57 7,ad 58 57,m 7 58])))
def jQ:AC:=
 (Q (Q (Q (O [m 117 9,fa 118 5 1,ld 119 118,ls 120 119,bl 121 117 120]) (Y [1,9,121])) (C 121 X (.exit 4))) (Q (.block 5 (Q (Q (O [fa 124 5 1,ld 125 124,m 126 9,ia 127 3 125
 126,la 128 3 127,o 10 (.nw [(.str []),(.str []),(.slice .nil 2 [])] dK),n (.st 3 (t 10) (t 128))]) (Y [1,9,10])) (Q (Q (Q (O [la 129 6 1,fa 130 0 10,ld 131 130,k
 132 (f gl) [(t 129),(t 131)],o 133 (.ar .lss (t 132) (i 0))]) (Y [1,9,10,133])) (C 133 (Q (O [mc 2 (u 5)]) R) X)) (Q (Q (Q (O [fa 134 1 10,ld 135 134,k 136
 (f dJ) [(t 135),(s [])],no 137 136,m 138 137,h 139 138 (.fa 1 (t 10)),h 140 138 (.ld none (t 139)),h 141 138 (.len .str (t 140)),h 142 138 (.ar .gtr (t 141)
 (i 6)),o 143 (.pk (t 138) T (t 142))]) (Y [1,9,10,143])) (C 143 (Q (O [mc 2 (u 1)]) R) X)) (Q (Q (O [la 144 6 1,fa 145 2 10,ld 146 145,k 147 (f kg) [(t
 144),(t 146)],m 11 147]) (Y [1,9,11])) (Q (O [m 148 11,o 149 (.ar .neq (t 148) (u 0))]) (C 149 (Q (O [m 150 11,m 2 150]) R) X))))))) (O [m 122 9,ad 123 122,m 9 123])))
def r8:AC:=
 (Q (O [o 1 (.bx am (t 0)),mc 2 (u 0)]) (Q (Q (Q (O [fa 12 0 1,ld 13 12,k 14 (f dJ) [(t 13),(s [])],no 15 14]) (Y [1,15])) (C 15 (Q (O [mc 2 (u 1)])
 R) X)) (Q (Q (O [mc 3 (i 1)]) (Q (.block 0 (.loop ⟨(some [1,3]),[],false⟩ jO)) (Y [1]))) (Q (Q (O [la 33 6 1,k 34 (f qh) [(t 33)],m 4
 34]) (Q (O [m 35 4,o 36 (.ar .neq (t 35) (u 0))]) (C 36 (Q (O [m 37 4,m 2 37]) R) X))) (Q (Q (O [la 38 6 1,k 39 (f ph) [(t 38)],m 5 39]) (Q (O [m 40 5,o 41
 (.ar .neq (t 40) (u 0))]) (C 41 (Q (O [m 42 5,m 2 42]) R) X))) (Q (Q (O [la 43 6 1,k 44 (f pi) [(t 43)],m 6 44]) (Q (O [m 45 6,o 46 (.ar .neq (t 45) (u
 0))]) (C 46 (Q (O [m 47 6,m 2 47]) R) X))) (Q (Q (Q (O [fa 48 4 1,ld 49 48,ls 50 49,o 51 (.ar .gtr (t 50) (i 16))]) (Y [1,51])) (C 51 (Q (O [mc 2 (u 3)]) R) X)) (Q (Q (O [mc 7
 (i 0)]) (Q (.block 2 (.loop ⟨(some [1,7]),[],true⟩ jP)) (Y [1]))) (Q (Q (Q (O [fa 113 5 1,ld 114 113,ls 115 114,o 116 (.ar .gtr (t 115) (i 8))]) (Y [1,
 116])) (C 116 (Q (O [mc 2 (u 3)]) R) X)) (Q (Q (O [mc 9 (i 0)]) (Q (.block 4 (.loop ⟨(some [1,9]),[],true⟩ jQ)) (Y []))) (Q (O [mc 2 (u 0)]) R)))))))))))
def cE:AFn:=⟨r8,151,[.t 2],.drop,[],none⟩
theorem fu:cE.res=[.t 2]∧cE.mode = .drop∧cE.dfr=none:=⟨rfl,rfl,rfl⟩
def rP:AC:=
 (Q (O [bl 41 40 39]) (Q (C 41 X (.exit 2)) (Q (.block 3 (Q (O [m 42 40,m 9 42]) (Q (Q (O [fa 43 2 7,ld 44 43,m 45 9,o 46 (.ixs (t 44) (t 45)),o 47 (.ar .sub (t 46) (u 97)),m
 10 47]) (Y [5,7,8,10,27,28,29,39,40])) (Q (Q (Q (O [m 48 8,m 49 10,o 50 (.nc (t 48)),fa 51 0 50,o 52 (.iaa 26 1 (t 51) (t 49)),ld 53 52,o 54 (.eq false .ptr (t 53) (.c
 .nilp))]) (Y [5,7,8,10,27,28,29,39,40,54])) (C 54 (Q (O [m 55 8,m 56 10,o 57 (.bd [.nilp,.nilp,.nilp,.nilp,.nilp,.nilp,.nilp,.nilp,.nilp,.nilp,.nilp,.nilp,
 .nilp,.nilp,.nilp,.nilp,.nilp,.nilp,.nilp,.nilp,.nilp,.nilp,.nilp,.nilp,.nilp,.nilp,(.int .i64 0)] [(0,26),(26,1)] []),o 58 (.bx aW (t 57)),o 59 (.nc (t
 55)),fa 60 0 59,o 61 (.iaa 26 1 (t 60) (t 56)),n (.st 1 (t 61) (t 58))]) (Y [5,7,8,10,27,28,29,39,40])) X)) (Q (O [m 62 8,m 63 10,o 64 (.nc (t 62)),fa 65 0 64,o 66
 (.iaa 26 1 (t 65) (t 63)),ld 67 66,m 8 67]) (Y [5,7,8,27,28,29,39,40])))))) (O [ad 68 40,m 40 68]))))
def ut:AC:=
 (Q (O [bl 30 29 28]) (Q (C 30 X (.exit 0)) (Q (Q (.block 1 (Q (Q (O [ia 31 3 27 29,la 32 3 31,o 7 (.nw [(.int .i64 0),(.int .i64 0),(.str [])] ct),n (.st 3 (t 7) (t
 32))]) (Y [5,7,27,28,29])) (Q (Q (O [m 33 5,o 34 (.nc (t 33)),fa 35 6 34,ld 36 35,m 8 36]) (Y [5,7,8,27,28,29])) (Q (Q (Q (O [fa 37 2 7,ld 38 37,lt 39 38,mc 40 (i
 0)]) (Y [5,7,8,27,28,29,39,40])) (Q (.block 2 (.loop ⟨(some [5,7,8,27,28,29,39,40]),[],false⟩ rP)) (Y [5,8,27,28,29]))) (Q (O [m 69 8,o 70 (.nc (t
 69)),fa 71 26 70,ld 72 71,ad 73 72,o 74 (.nc (t 69)),fa 75 26 74,n (.st 1 (t 75) (t 73))]) (Y [5,27,28,29])))))) (Y [5,27,28,29])) (O [ad 76 29,m 29 76]))))
def ya:AC:=
 (Q (O [o 1 (.bx am (t 0)),mc 2 (.c .nilp),mc 3 (u 0)]) (Q (Q (O [la 11 6 1,k 12 (f rO) [(t 11)],m 4 12]) (Q (O [m 13 4,o 14 (.ar .neq (t 13) (u 0))]) (C
 14 (Q (O [m 15 4,mc 2 (.c .nilp),m 3 15]) R) X))) (Q (Q (O [la 16 6 1,k 17 (f hZ) [(t 16)],o 18 (.bd [(.str []),(.slice .nil 2 []),(.slice .nil 2 []),(.slice .nil
 4 []),(.slice .nil 4 []),(.slice .nil 3 [])] [(0,6)] [(0,(t 17))]),o 19 (.bd [.nilp,.nilp,.nilp,.nilp,.nilp,.nilp,.nilp,.nilp,.nilp,.nilp,.nilp,.nilp,.nilp,.nilp,
 .nilp,.nilp,.nilp,.nilp,.nilp,.nilp,.nilp,.nilp,.nilp,.nilp,.nilp,.nilp,(.int .i64 0)] [(0,26),(26,1)] []),o 20 (.bx aW (t 19)),o 21 (.bd [(.str []),
 (.slice .nil 2 []),(.slice .nil 2 []),(.slice .nil 4 []),(.slice .nil 4 []),(.slice .nil 3 []),.nilp] [(0,6),(6,1)] [(0,(t 18)),(1,(t 20))]),o 22 (.bx ll
 (t 21)),m 5 22]) (Y [5])) (Q (Q (Q (O [m 23 5,o 24 (.nc (t 23)),fa 25 0 24,la 26 6 25,k 27 (f lX) [(t 26)],ls 28 27,mc 29 (i 0)]) (Y [5,27,28,29])) (Q
 (.block 0 (.loop ⟨(some [5,27,28,29]),[],false⟩ ut)) (Y [5]))) (Q (O [m 77 5,m 2 77,mc 3 (u 0)]) R)))))
def nd:AFn:=⟨ya,78,[.t 2,.t 3],.keep,[],none⟩
theorem ti:nd.res=[.t 2,.t 3]∧nd.mode = .keep∧nd.dfr=none:=⟨rfl,rfl,rfl⟩
def oI:AC:=
 (Q (O [mc 4 (.c (.slice .nil 3 [])),mc 5 (u 0)]) (Q (.block 0 (Q (Q (O [m 7 0,k 8 (f rV) [(t 7)],no 9 8,m 6 9]) (Y [0,1,6])) (C 6 (Q (O [mc 4 (.c (.slice
 .nil 3 [])),mc 5 (u 2)]) R) (Q (Q (O [m 11 1,k 12 (f wg) [(t 11)],no 13 12,m 10 13]) (Y [0,1,10])) (C 10 (Q (O [mc 4 (.c (.slice .nil 3 [])),mc 5 (u 1)]) R) X)))))
 (Q (Q (O [m 14 0,o 15 (.nc (t 14)),fa 16 0 15,la 17 6 16,m 18 1,k 19 (f lA) [(t 17),(t 18)],m 4 19,mc 5 (u 0)]) (Y [4,5])) R)))
def gd:AFn:=⟨oI,20,[.t 4,.t 5],.drop,[],none⟩
theorem uu:gd.res=[.t 4,.t 5]∧gd.mode = .drop∧gd.dfr=none:=⟨rfl,rfl,rfl⟩
def yA:AC:=
 (Q (O [o 2 (.bx am (t 0)),mc 4 (.c (.slice .nil 3 [])),mc 5 (u 0)]) (Q (Q (O [la 7 6 2,k 8 (f rO) [(t 7)],m 6 8]) (Q (O [m 9 6,o 10 (.ar .neq (t 9) (u
 0))]) (C 10 (Q (O [m 11 6,mc 4 (.c (.slice .nil 3 [])),m 5 11]) R) X))) (Q (Q (O [m 12 1,k 13 (f wg) [(t 12)],no 14 13]) (C 14 (Q (O [mc 4 (.c (.slice .nil 3 [])),mc
 5 (u 1)]) R) X)) (Q (Q (O [la 15 6 2,o 16 (.bd [(.str []),(.slice .nil 2 []),(.slice .nil 2 []),(.slice .nil 4 []),(.slice .nil 4 []),(.slice .nil 3 [])] [(0,6)] [(0,(t
 15))]),m 17 1,k 18 (f lA) [(t 16),(t 17)],m 4 18,mc 5 (u 0)]) (Y [4,5])) R))))
def n7:AFn:=⟨yA,19,[.t 4,.t 5],.drop,[],none⟩
theorem yB:n7.res=[.t 4,.t 5]∧n7.mode = .drop∧n7.dfr=none:=⟨rfl,rfl,rfl⟩
def pr:AC:=
 (Q (O [o 2 (.bx am (t 0)),mc 4 (.c (.slice .nil 3 [])),mc 5 (u 0)]) (Q (Q (O [la 7 6 2,k 8 (f nz) [(t 7)],m 6 8]) (Q (O [m 9 6,o 10 (.ar .neq (t
 9) (u 0))]) (C 10 (Q (O [m 11 6,mc 4 (.c (.slice .nil 3 [])),m 5 11]) R) X))) (Q (Q (O [m 12 1,k 13 (f oa) [(t 12)],no 14 13]) (C 14 (Q (O [mc 4 (.c (.slice
 .nil 3 [])),mc 5 (u 1)]) R) X)) (Q (Q (D [W (la 15 6 2),W (la 16 6 2),K (k 17 (f tX) [(t 16)]),P (m 18 1),K (k 19 (f oF) [(t 15),(t 17),
 (t 18)]),P (m 4 19),P (mc 5 (u 0))]) (Y [4,5])) R))))
def gE:AFn:=⟨pr,20,[.t 4,.t 5],.drop,[],none⟩
theorem pu:gE.res=[.t 4,.t 5]∧gE.mode = .drop∧gE.dfr=none:=⟨rfl,rfl,rfl⟩
def fB:AC:=
 (Q (Q (Q (O [m 11 5,m 12 0,ls 13 12,bl 14 11 13]) (Y [0,1,5,14])) (C 14 X (.exit 0))) (Q (.block 1 (Q (Q (D [P (m 17 0),P (m 18 5),P (ia 19 3 17 18),W (la 20 3 19),P (m 21
 1),P (m 22 5),P (ia 23 3 21 22),W (la 24 3 23),E (k 25 (f eS) [(t 20),(t 24)]),P (no 26 25)]) (Y [0,1,5,26])) (C 26 (Q (O [mc 4 F]) R) X))) (O [m
 15 5,ad 16 15,m 5 16])))
def mo:AC:=
 (Q (O [mc 4 F]) (Q (Q (Q (O [m 6 0,ls 7 6,m 8 1,ls 9 8,o 10 (.ar .neq (t 7) (t 9))]) (Y [0,1,10])) (C 10 (Q (O [mc 4 F]) R) X)) (Q (Q (O [mc 5 (i 0)]) (Q (.block 0 (.loop
 ⟨(some [0,1,5]),[],false⟩ fB)) (Y []))) (Q (O [mc 4 T]) R))))
def cQ:AFn:=⟨mo,27,[.t 4],.drop,[],none⟩
theorem mq:cQ.res=[.t 4]∧cQ.mode = .drop∧cQ.dfr=none:=⟨rfl,rfl,rfl⟩
def iv:AC:=
 (Q (Q (Q (O [m 4 3,m 5 0,ls 6 5,bl 7 4 6,m 8 7,g 9 8 (.mv (t 3)),g 10 8 (.ar .lss (t 9) (i 100)),o 11 (.pk (t 8) (t 10) F)]) (Y [0,1,3,11])) (C 11 X (.exit 0))) (Q (.block
 1 (Q (D [W (ld 14 1),P (m 15 0),P (m 16 3),P (ia 17 2 15 16),P (fa 18 0 17),W (ld 19 18),W (lt 20 19),P (o 21 (.ar .add (i 1) (t 20))),P (m 22 0),P (m 23 3),P (ia 24 2 22
 23),P (fa 25 1 24),W (ld 26 25),W (lt 27 26),P (o 28 (.ar .add (t 21) (t 27))),P (o 29 (.ar .add (t 14) (t 28))),E (n (.st 1 (t 1) (t 29)))]) (Y [0,1,3]))) (O [m 12 3,ad 13
 12,m 3 13])))
def pw:AC:=
 (Q (Q (O [mc 3 (i 0)]) (Q (.block 0 (.loop ⟨(some [0,1,3]),[],false⟩ iv)) (Y [0,1]))) (Q (O [ld 30 1,m 31 0,ls 32 31,o 33 (.ar .add (t 30) (t 32)),n
 (.st 1 (t 1) (t 33))]) (Y [])))
def dA:AFn:=⟨pw,34,[],.drop,[],none⟩
theorem px:dA.res=[]∧dA.mode = .drop∧dA.dfr=none:=⟨rfl,rfl,rfl⟩
def r9:AC:=
 (Q (O [mc 2 (i 0)]) (Q (Q (O [m 3 0,o 4 (.nc (t 3)),fa 5 1 4,ld 6 5,ls 7 6,m 2 7]) (Y [2])) R))
def gm:AFn:=⟨r9,8,[.t 2],.drop,[],none⟩
theorem Fo:gm.res=[.t 2]∧gm.mode = .drop∧gm.dfr=none:=⟨rfl,rfl,rfl⟩
def i5:AC:=
 (Q (O [mc 2 (s [])]) (Q (Q (D [P (m 3 0),P (o 4 (.nc (t 3))),P (fa 5 1 4),W (ld 6 5),P (o 7 (.usl (t 6))),P (m 8 0),P (o 9 (.nc (t 8))),P (fa 10 1 9),W (ld 11 10),W (ls 12
 11),E (o 13 (.ust eN (t 7) (t 12))),P (m 2 13)]) (Y [2])) R))
def fe:AFn:=⟨i5,14,[.t 2],.drop,[],none⟩
theorem oJ:fe.res=[.t 2]∧fe.mode = .drop∧fe.dfr=none:=⟨rfl,rfl,rfl⟩
def rq:AC:=
 (Q (O [bl 9 8 7]) (Q (C 9 X (.exit 0)) (Q (.block 1 (Q (O [ia 10 1 6 8,ld 11 10,m 4 11]) (Q (O [m 12 4,k 13 (t 12) [],m 5 13]) (Q (O [m 14 5,o 15 (.ar .neq (t 14) (u 0))]) (C
 15 (Q (O [m 16 5,m 2 16]) R) X))))) (O [ad 17 8,m 8 17]))))
def Cn:AC:=
 (Q (O [mc 2 (u 0)]) (Q (Q (O [m 6 0,ls 7 6,mc 8 (i 0)]) (Q (.block 0 (.loop ⟨(some [6,7,8]),[],false⟩ rq)) (Y []))) (Q (O [mc 2 (u 0)]) R)))
def lD:AFn:=⟨Cn,18,[.t 2],.drop,[],none⟩
theorem Co:lD.res=[.t 2]∧lD.mode = .drop∧lD.dfr=none:=⟨rfl,rfl,rfl⟩
def gg:AC:=
 (Q (O [bl 11 10 9]) (Q (C 11 X (.exit 0)) (Q (.block 1 (Q (O [m 12 10,m 4 12]) (Q (Q (D [P (m 13 3),P (m 14 4),P (o 15 (.ixs (t 13) (t 14))),E (k 16 (f dn) [(t
 15)]),P (no 17 16),P (m 18 17),P (h 19 18 (.mv (t 4))),P (h 20 18 (.ar .gtr (t 19) (i 0))),P (h 21 18 (.mv (t 20))),P (g 22 21 (.mv (t 3))),P (g 23 21 (.mv (t 4))),P (g 24
 21 (.ar .sub (t 23) (i 1))),P (g 25 21 (.ixs (t 22) (t 24))),P (g 26 21 (.mv (t 3))),P (g 27 21 (.mv (t 4))),P (g 28 21 (.ixs (t 26) (t 27))),P (g 29 21 (.ar .geq (t 25) (t
 28))),P (h 30 18 (.pk (t 21) (t 29) F)),P (o 31 (.pk (t 18) T (t 30)))]) (Y [3,9,10,31])) (C 31 (Q (O [mc 2 (u 1)]) R) X)))) (O [ad 32 10,m 10 32]))))
def qw:AC:=
 (Q (O [o 1 (.bx bQ (t 0)),mc 2 (u 0)]) (Q (Q (O [fa 5 0 1,fa 6 0 5,ld 7 6,m 3 7]) (Y [3])) (Q (Q (O [m 8 3,lt 9 8,mc 10 (i 0)]) (Q (.block 0 (.loop ⟨(some [3,9,
 10]),[],false⟩ gg)) (Y []))) (Q (O [mc 2 (u 0)]) R))))
def dR:AFn:=⟨qw,33,[.t 2],.drop,[],none⟩
theorem m8:dR.res=[.t 2]∧dR.mode = .drop∧dR.dfr=none:=⟨rfl,rfl,rfl⟩
def yC:AC:=
 (Q (O [mc 2 (u 0)]) (Q (Q (O [fa 3 1 0,ld 4 3,la 5 6 1,o 6 (.mf (.func nA) [(t 5)] []),k 7 (f mX) [(t 4),(i 8),(t 6)],m 2 7]) (Y [2]))
 R))
def mr:AFn:=⟨yC,8,[.t 2],.drop,[],none⟩
theorem Mu:mr.res=[.t 2]∧mr.mode = .drop∧mr.dfr=none:=⟨rfl,rfl,rfl⟩
def i6:AC:=
 (Q (O [bl 17 16 15]) (Q (C 17 X (.exit 0)) (Q (.block 1 (Q (Q (O [m 18 16,ia 19 2 14 16,la 20 2 19,o 8 (.nw [(.str []),(.slice .nil 1 [])] ce),m 7 18,n (.st 2 (t 8)
 (t 20))]) (Y [2,7,8,14,15,16])) (Q (Q (O [m 21 2,m 22 7,la 23 2 8,k 24 (t 21) [(t 22),(t 23)],m 9 24]) (Y [2,9,14,15,16])) (Q (O [m 25 9,o 26 (.ar .neq (t 25) (u
 0))]) (C 26 (Q (O [m 27 9,m 6 27]) R) X))))) (O [ad 28 16,m 16 28]))))
def qx:AC:=
 (Q (O [mc 6 (u 0)]) (Q (Q (Q (O [m 10 0,ls 11 10,m 12 1,o 13 (.ar .gtr (t 11) (t 12))]) (Y [0,2,13])) (C 13 (Q (O [mc 6 (u 3)]) R) X)) (Q (Q (O [m 14 0,ls 15 14,mc 16 (i 0)])
 (Q (.block 0 (.loop ⟨(some [2,14,15,16]),[],true⟩ i6)) (Y []))) (Q (O [mc 6 (u 0)]) R))))
def dg:AFn:=⟨qx,29,[.t 6],.drop,[],none⟩
theorem qy:dg.res=[.t 6]∧dg.mode = .drop∧dg.dfr=none:=⟨rfl,rfl,rfl⟩
def jR:AC:=
 (Q (O [bl 36 35 34]) (Q (C 36 X (.exit 1)) (Q (.block 2 (Q (Q (O [m 37 35,ia 38 1 33 35,ld 39 38,m 7 37,m 8 39]) (Y [5,7,8,33,34,35])) (Q (Q (O [m 40 8,k 41 (f
 wh) [(t 40)],no 42 41]) (C 42 (Q (O [mc 6 (u 5)]) R) X)) (Q (Q (O [fa 43 1 5,ld 44 43,m 45 7,o 46 (.sll 1 (t 44) none (some (t 45)) none),m 47 8,k 48 (f
 gH) [(t 46),(t 47)]]) (Y [5,33,34,35,48])) (C 48 (Q (O [mc 6 (u 6)]) R) X))))) (O [ad 49 35,m 35 49]))))
def sa:AC:=
 (Q (O [o 3 (.bx bQ (t 0)),o 5 (.bx ce (t 2)),mc 6 (u 0)]) (Q (.block 0 (Q (Q (O [fa 10 0 5,ld 11 10,k 12 (f wh) [(t 11)],no 13 12,m 9 13]) (Y
 [1,3,5,9])) (C 9 (Q (O [mc 6 (u 5)]) R) (Q (Q (O [fa 15 0 3,fa 16 1 15,ld 17 16,m 18 1,o 19 (.sll 2 (t 17) none (some (t 18)) none),o 20 (.mf (.func lY)
 [] [(t 5)]),k 21 (f eb) [(t 19),(t 20)],m 14 21]) (Y [5,14])) (C 14 (Q (O [mc 6 (u 6)]) R) (Q (Q (O [fa 23 1 5,ld 24 23,ls 25 24,o 26
 (.ar .gtr (t 25) (i 8)),m 22 26]) (Y [5,22])) (C 22 (Q (O [mc 6 (u 3)]) R) (Q (Q (O [fa 28 1 5,ld 29 28,ls 30 29,o 31 (.ar .eql (t 30) (i 0)),m 27 31]) (Y [5,27])) (C 27 (Q
 (O [mc 6 (u 1)]) R) X))))))))) (Q (Q (Q (O [fa 32 1 5,ld 33 32,ls 34 33,mc 35 (i 0)]) (Y [5,33,34,35])) (Q (.block 1 (.loop ⟨(some [5,33,34,35]),[],false⟩
 jR)) (Y []))) (Q (O [mc 6 (u 0)]) R))))
def en:AFn:=⟨sa,50,[.t 6],.drop,[],none⟩
theorem sb:en.res=[.t 6]∧en.mode = .drop∧en.dfr=none:=⟨rfl,rfl,rfl⟩
def yD:AC:=
 (Q (O [mc 2 (u 0)]) (Q (Q (O [fa 3 2 0,ld 4 3,la 5 6 1,o 6 (.mf (.func nB) [(t 5)] []),k 7 (f mY) [(t 4),(i 16),(t 6)],m 2 7]) (Y [2]))
 R))
def mt:AFn:=⟨yD,8,[.t 2],.drop,[],none⟩
theorem Mv:mt.res=[.t 2]∧mt.mode = .drop∧mt.dfr=none:=⟨rfl,rfl,rfl⟩
def i7:AC:=
 (Q (O [bl 17 16 15]) (Q (C 17 X (.exit 0)) (Q (.block 1 (Q (Q (O [m 18 16,ia 19 2 14 16,la 20 2 19,o 8 (.nw [(.str []),(.slice .nil 4 [])] bo),m 7 18,n (.st 2 (t 8)
 (t 20))]) (Y [2,7,8,14,15,16])) (Q (Q (O [m 21 2,m 22 7,la 23 2 8,k 24 (t 21) [(t 22),(t 23)],m 9 24]) (Y [2,9,14,15,16])) (Q (O [m 25 9,o 26 (.ar .neq (t 25) (u
 0))]) (C 26 (Q (O [m 27 9,m 6 27]) R) X))))) (O [ad 28 16,m 16 28]))))
def qz:AC:=
 (Q (O [mc 6 (u 0)]) (Q (Q (Q (O [m 10 0,ls 11 10,m 12 1,o 13 (.ar .gtr (t 11) (t 12))]) (Y [0,2,13])) (C 13 (Q (O [mc 6 (u 3)]) R) X)) (Q (Q (O [m 14 0,ls 15 14,mc 16 (i 0)])
 (Q (.block 0 (.loop ⟨(some [2,14,15,16]),[],true⟩ i7)) (Y []))) (Q (O [mc 6 (u 0)]) R))))
def dh:AFn:=⟨qz,29,[.t 6],.drop,[],none⟩
theorem qA:dh.res=[.t 6]∧dh.mode = .drop∧dh.dfr=none:=⟨rfl,rfl,rfl⟩
def sd:AC:=
 (Q (O [o 3 (.bx bQ (t 0)),o 5 (.bx bo (t 2)),mc 6 (u 0)]) (Q (.block 0 (Q (Q (O [fa 8 0 5,ld 9 8,k 10 (f wh) [(t 9)],no 11 10,m 7 11]) (Y [1,
 3,5,7])) (C 7 (Q (O [mc 6 (u 5)]) R) (Q (Q (O [fa 13 0 3,fa 14 2 13,ld 15 14,m 16 1,o 17 (.sll 2 (t 15) none (some (t 16)) none),o 18 (.mf (.func lZ) []
 [(t 5)]),k 19 (f ec) [(t 17),(t 18)],m 12 19]) (Y [3,5,12])) (C 12 (Q (O [mc 6 (u 6)]) R) (Q (Q (O [fa 21 1 5,ld 22 21,ls 23 22,o 24
 (.ar .gtr (t 23) (i 24)),m 20 24]) (Y [3,5,20])) (C 20 (Q (O [mc 6 (u 3)]) R) (Q (Q (O [fa 26 1 5,ld 27 26,ls 28 27,o 29 (.ar .eql (t 28) (i 0)),m 25 29]) (Y [3,5,25])) (C
 25 (Q (O [mc 6 (u 1)]) R) X))))))))) (Q (Q (O [fa 30 1 5,ld 31 30,o 32 (.mf (.func l5) [] [(t 3)]),k 33 (f nG) [(t 31),(i 24),(t 32)],m
 6 33]) (Y [6])) R)))
def gn:AFn:=⟨sd,34,[.t 6],.drop,[],none⟩
theorem Fp:gn.res=[.t 6]∧gn.mode = .drop∧gn.dfr=none:=⟨rfl,rfl,rfl⟩
def yE:AC:=
 (Q (O [mc 2 (u 0)]) (Q (Q (O [fa 3 3 0,ld 4 3,la 5 6 1,o 6 (.mf (.func nC) [(t 5)] []),k 7 (f mZ) [(t 4),(i 128),(t 6)],m 2 7]) (Y
 [2])) R))
def mw:AFn:=⟨yE,8,[.t 2],.drop,[],none⟩
theorem Mw:mw.res=[.t 2]∧mw.mode = .drop∧mw.dfr=none:=⟨rfl,rfl,rfl⟩
def i8:AC:=
 (Q (O [bl 17 16 15]) (Q (C 17 X (.exit 0)) (Q (.block 1 (Q (Q (O [m 18 16,ia 19 4 14 16,la 20 4 19,o 8 (.nw [(.str []),(.str []),(.slice .nil 2 []),(.slice .nil 2 [])]
 bq),m 7 18,n (.st 4 (t 8) (t 20))]) (Y [2,7,8,14,15,16])) (Q (Q (O [m 21 2,m 22 7,la 23 4 8,k 24 (t 21) [(t 22),(t 23)],m 9 24]) (Y [2,9,14,15,16])) (Q (O
 [m 25 9,o 26 (.ar .neq (t 25) (u 0))]) (C 26 (Q (O [m 27 9,m 6 27]) R) X))))) (O [ad 28 16,m 16 28]))))
def qB:AC:=
 (Q (O [mc 6 (u 0)]) (Q (Q (Q (O [m 10 0,ls 11 10,m 12 1,o 13 (.ar .gtr (t 11) (t 12))]) (Y [0,2,13])) (C 13 (Q (O [mc 6 (u 3)]) R) X)) (Q (Q (O [m 14 0,ls 15 14,mc 16 (i 0)])
 (Q (.block 0 (.loop ⟨(some [2,14,15,16]),[],true⟩ i8)) (Y []))) (Q (O [mc 6 (u 0)]) R))))
def di:AFn:=⟨qB,29,[.t 6],.drop,[],none⟩
theorem qC:di.res=[.t 6]∧di.mode = .drop∧di.dfr=none:=⟨rfl,rfl,rfl⟩
def jS:AC:=
 (Q (O [bl 51 50 49]) (Q (C 51 X (.exit 1)) (Q (.block 2 (Q (Q (O [m 52 50,ia 53 2 48 50,la 54 2 53,o 11 (.nw [(.int .i64 0),(.str [])] de),m 10 52,n (.st 2 (t 11)
 (t 54))]) (Y [5,7,10,11,48,49,50])) (.block 3 (Q (Q (O [fa 56 0 11,ld 57 56,o 58 (.ar .lss (t 57) (i 0)),m 59 58,h 60 59 (.fa 0 (t 11)),h 61 59 (.ld none (t 60)),h 62 59
 (.fa 1 (t 7)),h 63 59 (.ld none (t 62)),h 64 59 (.len .sl (t 63)),h 65 59 (.ar .geq (t 61) (t 64)),o 66 (.pk (t 59) T (t 65)),m 55 66]) (Y [5,7,10,11,48,49,50,55])) (C
 55 (Q (O [mc 6 (u 7)]) R) (Q (Q (O [fa 68 3 5,ld 69 68,m 70 10,o 71 (.sll 2 (t 69) none (some (t 70)) none),o 72 (.mf (.func l8) [] [(t 11)]),k 73 (f
 cO) [(t 71),(t 72)],m 67 73]) (Y [5,7,11,48,49,50,67])) (C 67 (Q (O [mc 6 (u 6)]) R) (Q (Q (O [fa 75 1 11,ld 76 75,o 77 (.ar
 .neq (t 76) (s [])),m 78 77,g 79 78 (.fa 1 (t 11)),g 80 78 (.ld none (t 79)),⟨(some 81),(some (78,true)),(.call (.c (.fn (.func xY) [] [])) [(.t 80)])⟩,g 82 78
 (.un .not (t 81)),o 83 (.pk (t 78) (t 82) F),m 74 83]) (Y [5,7,48,49,50,74])) (C 74 (Q (O [mc 6 (u 1)]) R) X))))))))) (O [ad 84 50,m 50 84]))))
def se:AC:=
 (Q (O [o 3 (.bx bQ (t 0)),o 5 (.bx bq (t 2)),mc 6 (u 0)]) (Q (Q (O [fa 13 0 3,la 14 6 13,fa 15 1 5,ld 16 15,k 17 (f ib) [(t 14),(t 16)],m
 12 17,ex 18 12 0,ex 19 12 1,o 7 (.nw [(.str []),(.slice .nil 4 [])] bo),n (.st 2 (t 7) (t 18)),m 8 19]) (Y [1,3,5,7,8])) (Q (.block 0 (Q (Q (O [fa 21 0 5,ld 22
 21,k 23 (f xY) [(t 22)],no 24 23,m 20 24]) (Y [1,3,5,7,8,20])) (C 20 (Q (O [mc 6 (u 1)]) R) (Q (O [m 26 8,no 27 26,m 25 27]) (C 25 (Q (O [mc 6 (u 5)]) R) (Q (Q
 (O [fa 29 0 3,fa 30 3 29,ld 31 30,m 32 1,o 33 (.sll 4 (t 31) none (some (t 32)) none),o 34 (.mf (.func l6) [] [(t 5)]),k 35 (f
 ed) [(t 33),(t 34)],m 28 35]) (Y [3,5,7,28])) (C 28 (Q (O [mc 6 (u 6)]) R) X))))))) (Q (Q (Q (O [la 36 6 3,fa 37 2 5,ld 38 37,k 39 (f
 kh) [(t 36),(t 38)],m 9 39]) (Y [5,7,9])) (Q (O [m 40 9,o 41 (.ar .neq (t 40) (u 0))]) (C 41 (Q (O [m 42 9,m 6 42]) R) X))) (Q (Q (Q (O [fa 43 1 7,ld 44
 43,o 45 (.mf (.func l7) [] [(t 5)]),k 46 (f eM) [(t 44),(t 45)]]) (Y [5,7,46])) (C 46 (Q (O [mc 6 (u 10)]) R) X)) (Q
 (Q (Q (O [fa 47 3 5,ld 48 47,ls 49 48,mc 50 (i 0)]) (Y [5,7,48,49,50])) (Q (.block 1 (.loop ⟨(some [5,7,48,49,50]),[],true⟩ jS)) (Y []))) (Q (O [mc
 6 (u 0)]) R)))))))
def eo:AFn:=⟨se,85,[.t 6],.drop,[],none⟩
theorem nK:eo.res=[.t 6]∧eo.mode = .drop∧eo.dfr=none:=⟨rfl,rfl,rfl⟩
def yF:AC:=
 (Q (O [mc 2 (u 0)]) (Q (Q (O [fa 3 4 0,ld 4 3,la 5 6 1,o 6 (.mf (.func nD) [(t 5)] []),k 7 (f m1) [(t 4),(i 16),(t 6)],m 2 7]) (Y [2]))
 R))
def my:AFn:=⟨yF,8,[.t 2],.drop,[],none⟩
theorem Mx:my.res=[.t 2]∧my.mode = .drop∧my.dfr=none:=⟨rfl,rfl,rfl⟩
def i9:AC:=
 (Q (O [bl 17 16 15]) (Q (C 17 X (.exit 0)) (Q (.block 1 (Q (Q (O [m 18 16,ia 19 4 14 16,la 20 4 19,o 8 (.nw [(.str []),(.str []),(.str []),(.str [])] cP),m 7 18,n
 (.st 4 (t 8) (t 20))]) (Y [2,7,8,14,15,16])) (Q (Q (O [m 21 2,m 22 7,la 23 4 8,k 24 (t 21) [(t 22),(t 23)],m 9 24]) (Y [2,9,14,15,16])) (Q (O [m 25 9,o 26 (.ar .neq
 (t 25) (u 0))]) (C 26 (Q (O [m 27 9,m 6 27]) R) X))))) (O [ad 28 16,m 16 28]))))
def qD:AC:=
 (Q (O [mc 6 (u 0)]) (Q (Q (Q (O [m 10 0,ls 11 10,m 12 1,o 13 (.ar .gtr (t 11) (t 12))]) (Y [0,2,13])) (C 13 (Q (O [mc 6 (u 3)]) R) X)) (Q (Q (O [m 14 0,ls 15 14,mc 16 (i 0)])
 (Q (.block 0 (.loop ⟨(some [2,14,15,16]),[],true⟩ i9)) (Y []))) (Q (O [mc 6 (u 0)]) R))))
def dj:AFn:=⟨qD,29,[.t 6],.drop,[],none⟩
theorem qF:dj.res=[.t 6]∧dj.mode = .drop∧dj.dfr=none:=⟨rfl,rfl,rfl⟩
def sf:AC:=
 (Q (O [o 3 (.bx bQ (t 0)),o 5 (.bx cP (t 2)),mc 6 (u 0)]) (Q (Q (Q (O [fa 7 0 5,ld 8 7,o 9 (.ar .eql (t 8) (s [])),m 10 9,h 11 10 (.fa 0 (t 5)),h 12 10
 (.ld none (t 11)),⟨(some 13),(some (10,false)),(.call (.c (.fn (.func lB) [] [])) [(.t 12),(.c (.fn (.func pj) [] []))])⟩,h 14 10 (.un .not (t 13)),o
 15 (.pk (t 10) T (t 14)),m 16 15,h 17 16 (.fa 1 (t 5)),h 18 16 (.ld none (t 17)),⟨(some 19),(some (16,false)),(.call (.c (.fn (.func lB) [] [])) [(.t 18),(.c (.fn
 (.func pj) [] []))])⟩,h 20 16 (.un .not (t 19)),o 21 (.pk (t 16) T (t 20)),m 22 21,h 23 22 (.fa 2 (t 5)),h 24 22 (.ld none (t 23)),⟨(some 25),(some (22,false)),
 (.call (.c (.fn (.func lB) [] [])) [(.t 24),(.c (.fn (.func s9) [] []))])⟩,h 26 22 (.un .not (t 25)),o 27 (.pk (t 22) T (t 26)),m 28 27,h 29 28 (.fa 3 (t
 5)),h 30 28 (.ld none (t 29)),⟨(some 31),(some (28,false)),(.call (.c (.fn (.func lB) [] [])) [(.t 30),(.c (.fn (.func s9) [] []))])⟩,h 32 28 (.un .not
 (t 31)),o 33 (.pk (t 28) T (t 32))]) (Y [33])) (C 33 (Q (O [mc 6 (u 1)]) R) X)) (Q (O [mc 6 (u 0)]) R)))
def gp:AFn:=⟨sf,34,[.t 6],.drop,[],none⟩
theorem Fq:gp.res=[.t 6]∧gp.mode = .drop∧gp.dfr=none:=⟨rfl,rfl,rfl⟩
def yG:AC:=
 (Q (O [mc 2 (u 0)]) (Q (Q (O [fa 3 5 0,ld 4 3,la 5 6 1,o 6 (.mf (.func n9) [(t 5)] []),k 7 (f nE) [(t 4),(i 8),(t 6)],m 2 7]) (Y [2]))
 R))
def mz:AFn:=⟨yG,8,[.t 2],.drop,[],none⟩
theorem My:mz.res=[.t 2]∧mz.mode = .drop∧mz.dfr=none:=⟨rfl,rfl,rfl⟩
def jT:AC:=
 (Q (O [bl 17 16 15]) (Q (C 17 X (.exit 0)) (Q (.block 1 (Q (Q (O [m 18 16,ia 19 3 14 16,la 20 3 19,o 8 (.nw [(.str []),(.str []),(.slice .nil 2 [])] dK),m 7 18,n (.st
 3 (t 8) (t 20))]) (Y [2,7,8,14,15,16])) (Q (Q (O [m 21 2,m 22 7,la 23 3 8,k 24 (t 21) [(t 22),(t 23)],m 9 24]) (Y [2,9,14,15,16])) (Q (O [m 25 9,o 26 (.ar .neq (t 25)
 (u 0))]) (C 26 (Q (O [m 27 9,m 6 27]) R) X))))) (O [ad 28 16,m 16 28]))))
def sg:AC:=
 (Q (O [mc 6 (u 0)]) (Q (Q (Q (O [m 10 0,ls 11 10,m 12 1,o 13 (.ar .gtr (t 11) (t 12))]) (Y [0,2,13])) (C 13 (Q (O [mc 6 (u 3)]) R) X)) (Q (Q (O [m 14 0,ls 15 14,mc 16 (i 0)])
 (Q (.block 0 (.loop ⟨(some [2,14,15,16]),[],true⟩ jT)) (Y []))) (Q (O [mc 6 (u 0)]) R))))
def dF:AFn:=⟨sg,29,[.t 6],.drop,[],none⟩
theorem si:dF.res=[.t 6]∧dF.mode = .drop∧dF.dfr=none:=⟨rfl,rfl,rfl⟩
def tj:AC:=
 (Q (O [o 3 (.bx bQ (t 0)),o 5 (.bx dK (t 2)),mc 6 (u 0)]) (Q (Q (Q (O [fa 10 0 3,la 11 6 10,fa 12 0 5,ld 13 12,k 14 (f ib) [(t 11),(t 13)],
 m 9 14,ex 15 9 0,ex 16 9 1,o 7 (.nw [(.str []),(.slice .nil 4 [])] bo),n (.st 2 (t 7) (t 15)),m 8 16]) (Y [3,5,8])) (Q (O [m 17 8,no 18 17]) (C 18 (Q (O [mc 6 (u
 5)]) R) X))) (Q (Q (Q (O [fa 19 1 5,ld 20 19,k 21 (f lB) [(t 20),(f dn)],no 22 21]) (Y [3,5,22])) (C 22 (Q (O [mc 6 (u 1)]) R) X)) (Q (Q (O [la 23 6 3,
 fa 24 2 5,ld 25 24,k 26 (f kh) [(t 23),(t 25)],m 6 26]) (Y [6])) R))))
def gJ:AFn:=⟨tj,27,[.t 6],.drop,[],none⟩
theorem yb:gJ.res=[.t 6]∧gJ.mode = .drop∧gJ.dfr=none:=⟨rfl,rfl,rfl⟩
def lO:AC:=
 (Q (Q (Q (O [m 18 7,m 19 1,lt 20 19,bl 21 18 20]) (Y [0,1,5,6,7,21])) (C 21 X (.exit 2))) (Q (.block 3 (Q (D [P (m 24 6),P (m 25 24),P (h 26 25 (.mv (t 0))),P (h 27 25
 (.mv (t 5))),P (h 28 25 (.ixs (t 26) (t 27))),P (h 29 25 (.mv (t 1))),P (h 30 25 (.mv (t 7))),P (h 31 25 (.ixs (t 29) (t 30))),P (h 32 25 (.ar .eql (t 28) (t 31))),P (o 33
 (.pk (t 25) T (t 32))),P (m 6 33)]) (Y [0,1,5,6,7]))) (O [m 22 7,ad 23 22,m 7 23])))
def lP:AC:=
 (Q (Q (Q (O [m 8 5,m 9 0,lt 10 9,bl 11 8 10]) (Y [0,1,5,11])) (C 11 X (.exit 0))) (Q (Q (.block 1 (Q (Q (O [m 14 0,m 15 5,o 16 (.ixs (t 14) (t 15)),k 17 (f
 ii) [(t 16)],m 6 17]) (Y [0,1,5,6])) (Q (Q (O [mc 7 (i 0)]) (Q (.block 2 (.loop ⟨(some [0,1,5,6,7]),[],false⟩ lO)) (Y [0,1,5,6])))
 (Q (O [m 34 6,no 35 34]) (C 35 (Q (O [mc 4 F]) R) X))))) (Y [0,1,5])) (O [m 12 5,ad 13 12,m 5 13])))
def vf:AC:=
 (Q (O [mc 4 F]) (Q (Q (O [mc 5 (i 0)]) (Q (.block 0 (.loop ⟨(some [0,1,5]),[],false⟩ lP)) (Y []))) (Q (O [mc 4 T]) R)))
def bt:AFn:=⟨vf,36,[.t 4],.drop,[],none⟩
def ja:AC:=
 (Q (Q (Q (O [m 44 5,fa 45 1 4,ld 46 45,ls 47 46,bl 48 44 47]) (Y [1,3,4,5,48])) (C 48 X (.exit 3))) (Q (.block 4 (Q (Q (Q (O [fa 51 1 4,ld 52 51,m 53 5,ia 54 1 52 53,ld
 55 54,k 56 (f lK) [(t 55)],no 57 56]) (Y [1,3,4,5,57])) (C 57 (Q (O [mc 2 (u 5)]) R) X)) (Q (Q (D [P (fa 58 1 4),W (ld 59 58),P (m 60 5),P (o 61 (.sll 1
 (t 59) none (some (t 60)) none)),P (fa 62 1 4),W (ld 63 62),P (m 64 5),P (ia 65 1 63 64),W (ld 66 65),E (k 67 (f qi) [(t 61),(t 66)])]) (Y [1,3,4,5,67]))
 (C 67 (Q (O [mc 2 (u 6)]) R) X)))) (O [m 49 5,ad 50 49,m 5 50])))
def jb:AC:=
 (Q (Q (Q (O [m 10 3,fa 11 1 1,ld 12 11,ls 13 12,bl 14 10 13]) (Y [1,3,14])) (C 14 X (.exit 0))) (Q (Q (.block 1 (Q (Q (O [fa 17 1 1,ld 18 17,m 19 3,ia 20 2 18 19,la 21 2
 20,o 4 (.nw [(.str []),(.slice .nil 1 [])] ce),n (.st 2 (t 4) (t 21))]) (Y [1,3,4])) (Q (.block 2 (Q (Q (O [fa 23 0 4,ld 24 23,k 25 (f lK) [(t
 24)],no 26 25,m 22 26]) (Y [1,3,4,22])) (C 22 (Q (O [mc 2 (u 5)]) R) (Q (Q (O [la 28 6 1,fa 29 0 4,ld 30 29,k 31 (f nH) [(t 28),(t 30)],m 32 3,bl 33 31
 32,m 27 33]) (Y [1,3,4,27])) (C 27 (Q (O [mc 2 (u 6)]) R) (Q (Q (O [fa 35 1 4,ld 36 35,ls 37 36,o 38 (.ar .gtr (t 37) (i 8)),m 34 38]) (Y [1,3,4,34])) (C 34 (Q (O [mc 2
 (u 3)]) R) (Q (Q (O [fa 40 1 4,ld 41 40,ls 42 41,o 43 (.ar .eql (t 42) (i 0)),m 39 43]) (Y [1,3,4,39])) (C 39 (Q (O [mc 2 (u 1)]) R) X))))))))) (Q (O [mc 5 (i 0)]) (Q (.block
 3 (.loop ⟨(some [1,3,4,5]),[],false⟩ ja)) (Y [1,3])))))) (Y [1,3])) (O [m 15 3,ad 16 15,m 3 16])))
def qG:AC:=
 (Q (O [o 1 (.bx am (t 0)),mc 2 (u 0)]) (Q (Q (Q (O [fa 6 1 1,ld 7 6,ls 8 7,o 9 (.ar .gtr (t 8) (i 8))]) (Y [1,9])) (C 9 (Q (O [mc 2 (u 3)]) R) X)) (Q (Q (O [mc 3 (i
 0)]) (Q (.block 0 (.loop ⟨(some [1,3]),[],true⟩ jb)) (Y []))) (Q (O [mc 2 (u 0)]) R))))
def dk:AFn:=⟨qG,68,[.t 2],.drop,[],none⟩
theorem kq:dk.res=[.t 2]∧dk.mode = .drop∧dk.dfr=none:=⟨rfl,rfl,rfl⟩
def iw:AC:=
 (Q (Q (Q (O [m 46 5,fa 47 1 4,ld 48 47,ls 49 48,bl 50 46 49]) (Y [1,3,4,5,50])) (C 50 X (.exit 3))) (Q (.block 4 (Q (Q (O [fa 53 1 4,ld 54 53,m 55 5,ia 56 4 54 55,la 57
 4 56,o 6 (.nw [(.int .i64 0),(.str []),(.str []),(.slice .nil 2 [])] aY),n (.st 4 (t 6) (t 57))]) (Y [1,3,4,5,6])) (Q (Q (Q (O [fa 58 0 6,ld 59 58,o 60 (.ar .lss
 (t 59) (i 0)),m 61 60,h 62 61 (.fa 0 (t 6)),h 63 61 (.ld none (t 62)),h 64 61 (.ar .gtr (t 63) (i 24)),o 65 (.pk (t 61) T (t 64)),m 66 65,h 67 66 (.fa 1 (t 6)),h 68 66 (.ld
 none (t 67)),⟨(some 69),(some (66,false)),(.call (.c (.fn (.func dJ) [] [])) [(.t 68),(.c (.str []))])⟩,h 70 66 (.un .not (t 69)),o 71 (.pk (t 66) T (t 70)),
 m 72 71,h 73 72 (.fa 1 (t 6)),h 74 72 (.ld none (t 73)),h 75 72 (.len .str (t 74)),h 76 72 (.ar .gtr (t 75) (i 6)),o 77 (.pk (t 72) T (t 76)),m 78 77,h 79 78 (.fa 2 (t 6)),h
 80 78 (.ld none (t 79)),⟨(some 81),(some (78,false)),(.call (.c (.fn (.func dJ) [] [])) [(.t 80),(.c (.str []))])⟩,h 82 78 (.un .not (t 81)),o 83 (.pk (t 78)
 T (t 82)),m 84 83,h 85 84 (.fa 2 (t 6)),h 86 84 (.ld none (t 85)),h 87 84 (.len .str (t 86)),h 88 84 (.ar .gtr (t 87) (i 6)),o 89 (.pk (t 84) T (t 88))]) (Y [1,3,4,5,6,
 89])) (C 89 (Q (O [mc 2 (u 1)]) R) X)) (Q (Q (O [la 90 6 1,fa 91 3 6,ld 92 91,k 93 (f kg) [(t 90),(t 92)],m 7 93]) (Y [1,3,4,5,7])) (Q (O [m 94 7,o 95
 (.ar .neq (t 94) (u 0))]) (C 95 (Q (O [m 96 7,m 2 96]) R) X)))))) (O [m 51 5,ad 52 51,m 5 52])))
def iy:AC:=
 (Q (Q (Q (O [m 12 3,fa 13 2 1,ld 14 13,ls 15 14,bl 16 12 15]) (Y [1,3,16])) (C 16 X (.exit 0))) (Q (Q (.block 1 (Q (Q (O [fa 19 2 1,ld 20 19,m 21 3,ia 22 2 20 21,la 23 2
 22,o 4 (.nw [(.str []),(.slice .nil 4 [])] bo),n (.st 2 (t 4) (t 23))]) (Y [1,3,4])) (Q (.block 2 (Q (Q (O [fa 25 0 4,ld 26 25,k 27 (f lK) [(t
 26)],no 28 27,m 24 28]) (Y [1,3,4,24])) (C 24 (Q (O [mc 2 (u 5)]) R) (Q (Q (O [la 30 6 1,fa 31 0 4,ld 32 31,k 33 (f gl) [(t 30),(t 32)],m 34 3,bl 35 33
 34,m 29 35]) (Y [1,3,4,29])) (C 29 (Q (O [mc 2 (u 6)]) R) (Q (Q (O [fa 37 1 4,ld 38 37,ls 39 38,o 40 (.ar .gtr (t 39) (i 24)),m 36 40]) (Y [1,3,4,36])) (C 36 (Q (O [mc 2
 (u 3)]) R) (Q (Q (O [fa 42 1 4,ld 43 42,ls 44 43,o 45 (.ar .eql (t 44) (i 0)),m 41 45]) (Y [1,3,4,41])) (C 41 (Q (O [mc 2 (u 1)]) R) X))))))))) (Q (O [mc 5 (i 0)]) (Q (.block
 3 (.loop ⟨(some [1,3,4,5]),[],true⟩ iw)) (Y [1,3])))))) (Y [1,3])) (O [m 17 3,ad 18 17,m 3 18])))
def py:AC:=
 (Q (O [o 1 (.bx am (t 0)),mc 2 (u 0)]) (Q (Q (Q (O [fa 8 2 1,ld 9 8,ls 10 9,o 11 (.ar .gtr (t 10) (i 16))]) (Y [1,11])) (C 11 (Q (O [mc 2 (u 3)]) R) X)) (Q (Q (O [mc
 3 (i 0)]) (Q (.block 0 (.loop ⟨(some [1,3]),[],true⟩ iy)) (Y []))) (Q (O [mc 2 (u 0)]) R))))
def cT:AFn:=⟨py,97,[.t 2],.drop,[],none⟩
theorem jU:cT.res=[.t 2]∧cT.mode = .drop∧cT.dfr=none:=⟨rfl,rfl,rfl⟩
def iz:AC:=
 (Q (Q (O [m 41 6,m 42 3,bl 43 41 42]) (C 43 X (.exit 2))) (Q (.block 3 (Q (Q (D [P (fa 46 3 1),W (ld 47 46),P (m 48 6),P (ia 49 4 47 48),P (fa 50 0 49),W (ld 51 50),P (fa 52
 0 4),W (ld 53 52),P (o 54 (.ar .eql (t 51) (t 53))),P (m 55 54),P (g 56 55 (.fa 3 (t 1))),W (g 57 55 (.ld none (t 56))),P (g 58 55 (.mv (t 6))),P (g 59 55 (.ias 4 (t 57) (t
 58))),P (g 60 55 (.fa 1 (t 59))),W (g 61 55 (.ld none (t 60))),P (g 62 55 (.fa 1 (t 4))),W (g 63 55 (.ld none (t 62))),P (g 64 55 (.ar .eql (t 61) (t 63))),P (o 65 (.pk (t 55)
 (t 64) F))]) (Y [1,3,4,5,6,65])) (C 65 (Q (O [mc 2 (u 6)]) R) X))) (O [m 44 6,ad 45 44,m 6 45])))
def iA:AC:=
 (Q (Q (Q (O [m 79 9,m 80 8,ls 81 80,bl 82 79 81]) (Y [1,3,4,8,9,82])) (C 82 X (.exit 4))) (Q (.block 5 (Q (Q (D [P (fa 86 2 4),W (ld 87 86),P (m 88 8),P (m 89 9),P (ia
 90 4 88 89),P (fa 91 3 90),W (ld 92 91),E (k 93 (f nI) [(t 87),(t 92)]),P (m 85 93),P (ex 94 85 0),P (ex 95 85 1),P (m 10 94),P (m 11 95)]) (Y [1,3,4,
 8,9,11])) (Q (O [m 96 11,no 97 96]) (C 97 (Q (O [mc 2 (u 10)]) R) X)))) (O [m 83 9,ad 84 83,m 9 84])))
def iB:AC:=
 (Q (Q (O [m 120 14,m 121 12,bl 122 120 121]) (C 122 X (.exit 8))) (Q (.block 9 (Q (Q (D [P (fa 125 3 4),W (ld 126 125),P (m 127 14),P (ia 128 2 126 127),P (fa 129 0 128),W
 (ld 130 129),P (fa 131 0 13),W (ld 132 131),P (o 133 (.ar .eql (t 130) (t 132)))]) (Y [1,3,4,8,12,13,14,133])) (C 133 (Q (O [mc 2 (u 6)]) R) X))) (O [m 123 14,ad 124 123,
 m 14 124])))
def iC:AC:=
 (Q (Q (Q (O [m 98 12,fa 99 3 4,ld 100 99,ls 101 100,bl 102 98 101]) (Y [1,3,4,8,12,102])) (C 102 X (.exit 6))) (Q (Q (.block 7 (Q (Q (O [fa 105 3 4,ld 106 105,m 107 12,
 ia 108 2 106 107,la 109 2 108,o 13 (.nw [(.int .i64 0),(.str [])] de),n (.st 2 (t 13) (t 109))]) (Y [1,3,4,8,12,13])) (Q (Q (Q (O [fa 110 0 13,ld 111 110,o
 112 (.ar .lss (t 111) (i 0)),m 113 112,h 114 113 (.fa 0 (t 13)),h 115 113 (.ld none (t 114)),h 116 113 (.mv (t 8)),h 117 113 (.len .sl (t 116)),h 118 113 (.ar .geq (t 115) (t
 117)),o 119 (.pk (t 113) T (t 118))]) (Y [1,3,4,8,12,13,119])) (C 119 (Q (O [mc 2 (u 7)]) R) X)) (Q (Q (O [mc 14 (i 0)]) (Q (.block 8 (.loop ⟨(some [1,3,4,8,12,13,14]),
 [],false⟩ iB)) (Y [1,3,4,8,12,13]))) (Q (Q (O [fa 134 1 13,ld 135 134,o 136 (.ar .neq (t 135) (s [])),m 137 136,g 138 137 (.fa 1 (t 13)),g 139 137
 (.ld none (t 138)),⟨(some 140),(some (137,true)),(.call (.c (.fn (.func k8) [] [])) [(.t 139)])⟩,g 141 137 (.un .not (t 140)),o 142 (.pk (t 137) (t 141)
 F)]) (Y [1,3,4,8,12,142])) (C 142 (Q (O [mc 2 (u 1)]) R) X)))))) (Y [1,3,4,8,12])) (O [m 103 12,ad 104 103,m 12 104])))
def eP:AC:=
 (Q (Q (Q (O [m 19 3,fa 20 3 1,ld 21 20,ls 22 21,bl 23 19 22]) (Y [1,3,23])) (C 23 X (.exit 0))) (Q (Q (.block 1 (Q (Q (O [fa 26 3 1,ld 27 26,m 28 3,ia 29 4 27 28,la 30 4
 29,o 4 (.nw [(.str []),(.str []),(.slice .nil 2 []),(.slice .nil 2 [])] bq),n (.st 4 (t 4) (t 30))]) (Y [1,3,4])) (Q (Q (Q (O [fa 31 0 4,ld 32 31,k 33 (f
 k8) [(t 32)],no 34 33]) (Y [1,3,4,34])) (C 34 (Q (O [mc 2 (u 1)]) R) X)) (Q (Q (O [la 35 6 1,fa 36 1 4,ld 37 36,k 38 (f gl) [(t 35),(t
 37)],m 5 38]) (Y [1,3,4,5])) (Q (Q (O [m 39 5,o 40 (.ar .lss (t 39) (i 0))]) (C 40 (Q (O [mc 2 (u 5)]) R) X)) (Q (Q (O [mc 6 (i 0)]) (Q (.block 2 (.loop ⟨(some [1,3,4,5,
 6]),[],false⟩ iz)) (Y [1,3,4,5]))) (Q (Q (Q (O [la 66 6 1,fa 67 2 4,ld 68 67,k 69 (f kg) [(t 66),(t 68)],m 7 69]) (Y [1,3,4,
 5,7])) (Q (O [m 70 7,o 71 (.ar .neq (t 70) (u 0))]) (C 71 (Q (O [m 72 7,m 2 72]) R) X))) (Q (Q (O [fa 73 2 1,ld 74 73,m 75 5,ia 76 2 74 75,fa 77 1 76,ld 78 77,m 8 78]) (Y
 [1,3,4,8])) (Q (Q (O [mc 9 (i 0)]) (Q (.block 4 (.loop ⟨(some [1,3,4,8,9]),[],false⟩ iA)) (Y [1,3,4,8]))) (Q (O [mc 12 (i 0)]) (Q (.block 6 (.loop
 ⟨(some [1,3,4,8,12]),[],true⟩ iC)) (Y [1,3])))))))))))) (Y [1,3])) (O [m 24 3,ad 25 24,m 3 25])))
def pz:AC:=
 (Q (O [o 1 (.bx am (t 0)),mc 2 (u 0)]) (Q (Q (Q (O [fa 15 3 1,ld 16 15,ls 17 16,o 18 (.ar .gtr (t 17) (i 128))]) (Y [1,18])) (C 18 (Q (O [mc 2 (u 3)]) R) X)) (Q (Q
 (O [mc 3 (i 0)]) (Q (.block 0 (.loop ⟨(some [1,3]),[],true⟩ eP)) (Y []))) (Q (O [mc 2 (u 0)]) R))))
def bw:AFn:=⟨pz,143,[.t 2],.drop,[],none⟩
theorem bS:bw.res=[.t 2]∧bw.mode = .drop∧bw.dfr=none:=⟨rfl,rfl,rfl⟩
def jV:AC:=
 (Q (Q (Q (O [m 6 5,fa 7 2 2,ld 8 7,ls 9 8,bl 10 6 9]) (Y [1,2,5,10])) (C 10 X (.exit 0))) (Q (.block 1 (Q (Q (O [fa 13 2 2,ld 14 13,m 15 5,ia 16 2 14 15,fa 17 0 16,ld 18
 17,m 19 1,o 20 (.ar .eql (t 18) (t 19))]) (Y [1,2,5,20])) (C 20 (Q (O [m 21 5,m 4 21]) R) X))) (O [m 11 5,ad 12 11,m 5 12])))
def sj:AC:=
 (Q (O [o 2 (.bx am (t 0)),mc 4 (i 0)]) (Q (Q (O [mc 5 (i 0)]) (Q (.block 0 (.loop ⟨(some [1,2,5]),[],false⟩ jV)) (Y []))) (Q (O [mc 4 (i (-1))])
 R)))
def fx:AFn:=⟨sj,22,[.t 4],.drop,[],none⟩
theorem sk:fx.res=[.t 4]∧fx.mode = .drop∧fx.dfr=none:=⟨rfl,rfl,rfl⟩
def ff:AC:=
 (Q (Q (Q (O [m 10 5,m 11 1,ls 12 11,bl 13 10 12]) (Y [1,2,5,13])) (C 13 X (.exit 0))) (Q (.block 1 (Q (Q (D [W (la 16 6 2),P (m 17 1),P (m 18 5),P (ia 19 2 17 18),P (fa 20
 0 19),W (ld 21 20),E (k 22 (f nH) [(t 16),(t 21)]),P (m 6 22)]) (Y [1,2,5,6])) (.block 2 (Q (O [m 24 6,o 25 (.ar .lss (t 24) (i 0)),m 23 25]) (C 23 (Q (O
 [mc 4 (u 5)]) R) (Q (Q (D [P (fa 27 1 2),W (ld 28 27),P (m 29 6),P (ia 30 2 28 29),P (fa 31 1 30),W (ld 32 31),P (m 33 1),P (m 34 5),P (ia 35 2 33 34),P (fa 36 1 35),W (ld
 37 36),E (k 38 (f qi) [(t 32),(t 37)]),P (no 39 38),P (m 26 39)]) (Y [1,2,5,26])) (C 26 (Q (O [mc 4 (u 1)]) R) (Q (Q (D [P (m 41 5),P (o 42 (.ar .gtr (t 41)
 (i 0))),P (m 43 42),P (g 44 43 (.mv (t 1))),P (g 45 43 (.mv (t 5))),P (g 46 43 (.ar .sub (t 45) (i 1))),P (g 47 43 (.ias 2 (t 44) (t 46))),P (g 48 43 (.fa 0 (t 47))),W (g 49
 43 (.ld none (t 48))),P (g 50 43 (.mv (t 1))),P (g 51 43 (.mv (t 5))),P (g 52 43 (.ias 2 (t 50) (t 51))),P (g 53 43 (.fa 0 (t 52))),W (g 54 43 (.ld none (t 53))),P (g 55 43
 (.ar .eql (t 49) (t 54))),P (o 56 (.pk (t 43) (t 55) F)),P (m 40 56)]) (Y [1,2,5,40])) (C 40 (Q (O [mc 4 (u 6)]) R) (Q (Q (D [P (m 58 5),P (o 59 (.ar .gtr (t 58) (i 0))),P (m
 60 59),P (g 61 60 (.mv (t 1))),P (g 62 60 (.mv (t 5))),P (g 63 60 (.ar .sub (t 62) (i 1))),P (g 64 60 (.ias 2 (t 61) (t 63))),P (g 65 60 (.fa 0 (t 64))),W (g 66 60 (.ld none
 (t 65))),P (g 67 60 (.mv (t 1))),P (g 68 60 (.mv (t 5))),P (g 69 60 (.ias 2 (t 67) (t 68))),P (g 70 60 (.fa 0 (t 69))),W (g 71 60 (.ld none (t 70))),P (g 72 60 (.ar .gtr (t
 66) (t 71))),P (o 73 (.pk (t 60) (t 72) F)),P (m 57 73)]) (Y [1,2,5,57])) (C 57 (Q (O [mc 4 (u 1)]) R) X))))))))))) (O [m 14 5,ad 15 14,m 5 15])))
def qH:AC:=
 (Q (O [o 2 (.bx am (t 0)),mc 4 (u 0)]) (Q (Q (O [m 7 1,ls 8 7,o 9 (.ar .gtr (t 8) (i 8))]) (C 9 (Q (O [mc 4 (u 3)]) R) X)) (Q (Q (O [mc 5 (i 0)]) (Q (.block 0 (.loop
 ⟨(some [1,2,5]),[],false⟩ ff)) (Y []))) (Q (O [mc 4 (u 0)]) R))))
def eX:AFn:=⟨qH,74,[.t 4],.drop,[],none⟩
theorem kr:eX.res=[.t 4]∧eX.mode = .drop∧eX.dfr=none:=⟨rfl,rfl,rfl⟩
def kS:AC:=
 (Q (O [bl 33 32 31]) (Q (C 33 X (.exit 0)) (Q (.block 1 (Q (O [m 34 32,m 3 34]) (Q (D [P (fa 35 1 1),W (ld 36 35),P (m 37 3),P (fa 38 1 1),W (ld 39 38),P (m 40 3),P (ia 41 2
 39 40),P (fa 42 1 41),W (ld 43 42),K (k 44 (f mj) [(t 43)]),P (ia 45 2 36 37),P (fa 46 1 45),E (n (.st 1 (t 46) (t 44)))]) (Y [1,2,31,32])))) (O
 [ad 47 32,m 32 47]))))
def kT:AC:=
 (Q (O [bl 64 63 62]) (Q (C 64 X (.exit 4)) (Q (.block 5 (Q (O [m 65 63,m 6 65]) (Q (O [m 66 5,m 67 6,m 68 5,m 69 6,ia 70 4 68 69,fa 71 3 70,ld 72 71,k 73 (f
 dy) [(t 72)],ia 74 4 66 67,fa 75 3 74,n (.st 1 (t 75) (t 73))]) (Y [1,2,4,5,50,51,62,63])))) (O [ad 76 63,m 63 76]))))
def kU:AC:=
 (Q (O [bl 52 51 50]) (Q (C 52 X (.exit 2)) (Q (Q (.block 3 (Q (O [m 53 51,m 4 53]) (Q (Q (O [fa 54 2 1,ld 55 54,m 56 4,ia 57 2 55 56,fa 58 1 57,ld 59 58,k 60 (f
 kj) [(t 59)],m 5 60]) (Y [1,2,4,5,50,51])) (Q (Q (O [m 61 5,ls 62 61,mc 63 (i 0)]) (Q (.block 4 (.loop ⟨(some [1,2,4,5,50,51,62,63]),
 [],false⟩ kT)) (Y [1,2,4,5,50,51]))) (Q (O [fa 77 2 1,ld 78 77,m 79 4,m 80 5,ia 81 2 78 79,fa 82 1 81,n (.st 1 (t 82) (t 80))]) (Y [1,2,50,51])))))) (Y
 [1,2,50,51])) (O [ad 83 51,m 51 83]))))
def kV:AC:=
 (Q (O [bl 88 87 86]) (Q (C 88 X (.exit 6)) (Q (.block 7 (Q (O [m 89 87,m 7 89]) (Q (.dops true [] [] [P (fa 90 3 1),(ld 91 90,.quiet),P (m 92 7),P (fa 93 3 1),W (ld 94 93),P
 (m 95 7),P (fa 96 3 1),(ld 97 96,.quiet),P (m 98 7),P (ia 99 4 97 98),P (fa 100 2 99),(ld 101 100,.quiet),W (k 102 (f dy) [(t 101)]),P (fa
 103 3 1),(ld 104 103,.quiet),P (m 105 7),P (ia 106 4 104 105),P (fa 107 3 106),(ld 108 107,.quiet),W (k 109 (f dQ) [(t 108)]),P (ia
 110 4 91 92),P (fa 111 2 110),K (n (.st 1 (t 111) (t 102))),P (ia 112 4 94 95),P (fa 113 3 112),K (n (.st 1 (t 113) (t 109)))]) (Y [1,2,86,87])))) (O [ad 114 87,m 87
 114]))))
def kW:AC:=
 (Q (O [bl 119 118 117]) (Q (C 119 X (.exit 8)) (Q (.block 9 (Q (O [m 120 118,m 8 120]) (Q (D [P (fa 121 5 1),W (ld 122 121),P (m 123 8),P (fa 124 5 1),W (ld 125 124),P (m 126
 8),P (ia 127 3 125 126),P (fa 128 2 127),W (ld 129 128),K (k 130 (f dy) [(t 129)]),P (ia 131 3 122 123),P (fa 132 2 131),E (n (.st 1 (t 132) (t
 130)))]) (Y [1,2,117,118])))) (O [ad 133 118,m 118 133]))))
def Cp:AC:=
 (Q (O [o 1 (.bx am (t 0)),o 2 (.nw [(.str []),(.slice .nil 2 []),(.slice .nil 2 []),(.slice .nil 4 []),(.slice .nil 4 []),(.slice .nil 3 [])] am)]) (Q (Q
 (D [P (fa 9 1 1),W (ld 10 9),P (fa 12 2 1),W (ld 13 12),P (fa 15 3 1),W (ld 16 15),K (k 11 (f jq) [(t 10)]),P (fa 18 1 1),K (k 14 (f
 jr) [(t 13)]),K (k 17 (f js) [(t 16)]),E (n (.st 1 (t 18) (t 11))),P (fa 19 2 1),E (n (.st 1 (t 19) (t 14))),P
 (fa 20 3 1),E (n (.st 1 (t 20) (t 17)))]) (Y [1,2])) (Q (Q (D [P (fa 21 4 1),W (ld 22 21),P (fa 24 5 1),W (ld 25 24),K (k 23 (f jt) [(t 22)]),
 P (fa 27 4 1),K (k 26 (f ki) [(t 25)]),E (n (.st 1 (t 27) (t 23))),P (fa 28 5 1),E (n (.st 1 (t 28) (t 26)))]) (Y [1,2])) (Q (Q (Q (O [fa 29 1 1,
 ld 30 29,ls 31 30,mc 32 (i 0)]) (Y [1,2,31,32])) (Q (.block 0 (.loop ⟨(some [1,2,31,32]),[],false⟩ kS)) (Y [1,2]))) (Q (Q (Q (O [fa 48 2 1,ld 49 48,ls 50
 49,mc 51 (i 0)]) (Y [1,2,50,51])) (Q (.block 2 (.loop ⟨(some [1,2,50,51]),[],false⟩ kU)) (Y [1,2]))) (Q (Q (Q (O [fa 84 3 1,ld 85 84,ls 86 85,mc 87 (i 0)])
 (Y [1,2,86,87])) (Q (.block 6 (.loop ⟨(some [1,2,86,87]),[],false⟩ kV)) (Y [1,2]))) (Q (Q (Q (O [fa 115 5 1,ld 116 115,ls 117 116,mc 118 (i 0)]) (Y [1,2,
 117,118])) (Q (.block 8 (.loop ⟨(some [1,2,117,118]),[],false⟩ kW)) (Y [1,2]))) (Q (O [la 134 6 1,n (.st 6 (t 2) (t 134))]) R))))))))
def bR:AFn:=⟨Cp,135,[.cell 2 (some 6)],.keep,[22],none⟩
theorem d5:bR.res=[.cell 2 (some 6)]∧bR.mode = .keep∧bR.dfr=none:=⟨rfl,rfl,rfl⟩
def fM:AC:=
 (Q (O [bl 18 17 16]) (Q (C 18 X (.exit 2)) (Q (.block 3 (Q (O [m 19 17,m 5 19]) (Q (Q (O [la 20 6 1,m 21 4,m 22 5,k 23 (f nF) [(t 20),(t 21),(t 22)],m 6
 23]) (Y [1,3,4,5,6,10,11,16,17])) (Q (O [m 24 6,o 25 (.ar .neq (t 24) (s []))]) (C 25 (Q (O [m 26 3,m 27 4,m 28 5,m 29 6,o 30 (.bd [(.int .i64 0),(.int .i64 0),(.str
 [])] [(0,1),(1,1),(2,1)] [(0,(t 27)),(1,(t 28)),(2,(t 29))]),o 31 (.bs 3 [(.int .i64 0),(.int .i64 0),(.str [])] 1 [(0,(t 30))]),o 32 (.ap false ct 3 32
 false (t 26) (t 31)),m 3 32]) (Y [1,3,4,10,11,16,17])) X))))) (O [ad 33 17,m 17 33]))))
def iD:AC:=
 (Q (O [bl 12 11 10]) (Q (C 12 X (.exit 0)) (Q (Q (.block 1 (Q (O [m 13 11,m 4 13]) (Q (Q (O [la 14 6 1,m 15 4,k 16 (f qj) [(t 14),(t 15)],mc 17 (i 0)]) (Y
 [1,3,4,10,11,16,17])) (Q (.block 2 (.loop ⟨(some [1,3,4,10,11,16,17]),[(3,3,ct)],false⟩ fM)) (Y [1,3,10,11]))))) (Y [1,3,10,
 11])) (O [ad 34 11,m 11 34]))))
def pA:AC:=
 (Q (O [o 1 (.bx aQ (t 0)),mc 2 (.c (.slice .nil 3 []))]) (Q (O [mc 3 (.c (.slice .nil 3 []))]) (Q (Q (Q (O [fa 7 0 1,fa 8 3 7,ld 9 8,ls 10 9,mc 11 (i 0)]) (Y [1,
 3,10,11])) (Q (.block 0 (.loop ⟨(some [1,3,10,11]),[(3,3,ct)],false⟩ iD)) (Y [3]))) (Q (O [m 35 3,m 2 35]) R))))
def cU:AFn:=⟨pA,36,[.t 2],.drop,[],none⟩
theorem gF:cU.res=[.t 2]∧cU.mode = .drop∧cU.dfr=none:=⟨rfl,rfl,rfl⟩
def lc:AC:=
 (Q (Q (Q (O [m 14 6,la 15 6 1,m 16 4,k 17 (f rW) [(t 15),(t 16)],bl 18 14 17]) (Y [1,3,4,5,6,18])) (C 18 X (.exit 2))) (Q (.block 3 (Q (O [m 21 5,la 22
 6 1,m 23 4,m 24 6,k 25 (f tc) [(t 22),(t 23),(t 24)],o 26 (.bs 1 [(.str [])] 1 [(0,(t 25))]),o 27 (.ap false bv 1 16 false (t 21) (t 26)),m 5 27])
 (Y [1,3,4,5,6]))) (O [m 19 6,ad 20 19,m 6 20])))
def lf:AC:=
 (Q (Q (Q (O [m 7 4,fa 8 3 1,ld 9 8,ls 10 9,bl 11 7 10]) (Y [1,3,4,11])) (C 11 X (.exit 0))) (Q (Q (.block 1 (Q (O [mc 5 (.c (.slice .nil 1 []))]) (Q (Q (O [mc 6 (i 0)]) (Q
 (.block 2 (.loop ⟨(some [1,3,4,5,6]),[(5,1,bv)],false⟩ lc)) (Y [1,3,4,5]))) (Q (O [m 28 3,m 29 5,o 30 (.bs 1 [(.slice .nil 0 [])] 1 [(0,(t
 29))]),o 31 (.ap false lM 1 24 false (t 28) (t 30)),m 3 31]) (Y [1,3,4]))))) (Y [1,3,4])) (O [m 12 4,ad 13 12,m 4 13])))
def t7:AC:=
 (Q (O [o 1 (.bx am (t 0)),mc 2 (.c (.slice .nil 1 []))]) (Q (O [mc 3 (.c (.slice .nil 1 []))]) (Q (Q (O [mc 4 (i 0)]) (Q (.block 0 (.loop ⟨(some [1,3,4]),[(3,1,
 lM)],false⟩ lf)) (Y [3]))) (Q (O [m 32 3,m 2 32]) R))))
def eJ:AFn:=⟨t7,33,[.t 2],.drop,[],none⟩
theorem mN:eJ.res=[.t 2]∧eJ.mode = .drop∧eJ.dfr=none:=⟨rfl,rfl,rfl⟩
def sm:AC:=
 (Q (O [mc 2 F]) (Q (Q (O [m 3 0,o 4 (.eq true .ptr (t 3) (.c .nilp)),m 5 4,g 6 5 (.mv (t 0)),g 7 5 (.nc (t 6)),g 8 5 (.fa 6 (t 7)),g 9 5 (.ld none (t 8)),g 10 5 (.eq true
 .ptr (t 9) (.c .nilp)),o 11 (.pk (t 5) (t 10) F),m 2 11]) (Y [2])) R))
def iT:AFn:=⟨sm,12,[.t 2],.drop,[],none⟩
theorem Fs:iT.res=[.t 2]∧iT.mode = .drop∧iT.dfr=none:=⟨rfl,rfl,rfl⟩
def Et:AC:=
 (Q (O [mc 2 F]) (Q (Q (O [m 3 0,lt 4 3,o 5 (.ar .geq (t 4) (i 1)),m 6 5,g 7 6 (.mv (t 0)),g 8 6 (.len .str (t 7)),g 9 6 (.ar .leq (t 8) (i 24)),o 10 (.pk (t 6) (t 9) F),m 11
 10,g 12 11 (.mv (t 0)),⟨(some 13),(some (11,true)),(.call (.c (.fn (.func td) [] [])) [(.t 12),(.c (.fn (.func te) [] []))])⟩,o 14 (.pk (t 11) (t 13) F),
 m 2 14]) (Y [2])) R))
def qI:AFn:=⟨Et,15,[.t 2],.drop,[],none⟩
def gK:AC:=
 (Q (O [o 15 (.ar .lss (t 14) (i 3))]) (Q (C 15 X (.exit 0)) (Q (.block 1 (Q (O [m 16 14,m 8 16]) (Q (O [m 17 7,m 18 5,m 19 6,m 20 1,m 21 8,k 22 (f pm) [(t 18),
 (t 19),(t 20),(t 21),(.c (.slice .nil 3 []))],o 23 (.ap false aA 3 40 false (t 17) (t 22)),m 7 23]) (Y [1,5,6,7,14])))) (O [ad 24 14,m 14 24]))))
def oK:AC:=
 (Q (O [o 2 (.bx aQ (t 0)),mc 4 (.c (.slice .nil 3 []))]) (Q (O [la 9 6 2,k 10 (f lX) [(t 9)],m 5 10]) (Q (Q (O [la 11 6 2,m 12 5,k 13 (f
 nX) [(t 11),(t 12)],m 6 13]) (Y [1,5,6])) (Q (O [mc 7 (.c (.slice .nil 3 []))]) (Q (Q (O [mc 14 (i 0)]) (Q (.block 0 (.loop ⟨(some [1,5,6,7,14]),[(7,
 3,aA)],false⟩ gK)) (Y [7]))) (Q (O [m 25 7,m 4 25]) R))))))
def d6:AFn:=⟨oK,26,[.t 4],.drop,[],none⟩
theorem oM:d6.res=[.t 4]∧d6.mode = .drop∧d6.dfr=none:=⟨rfl,rfl,rfl⟩
def ku:AC:=
 (Q (Q (Q (O [m 12 3,m 13 0,lt 14 13,bl 15 12 14]) (Y [0,3,15])) (C 15 X (.exit 0))) (Q (.block 1 (Q (Q (O [m 18 0,m 19 3,o 20 (.ixs (t 18) (t 19)),o 21 (.ar .lss (t 20) (u
 33)),m 22 21,h 23 22 (.mv (t 0)),h 24 22 (.mv (t 3)),h 25 22 (.ixs (t 23) (t 24)),h 26 22 (.ar .gtr (t 25) (u 126)),o 27 (.pk (t 22) T (t 26))]) (Y [0,3,27])) (C 27 (Q (O
 [mc 2 F]) R) X))) (O [m 16 3,ad 17 16,m 3 17])))
def tk:AC:=
 (Q (O [mc 2 F]) (Q (Q (Q (O [m 4 0,lt 5 4,o 6 (.ar .lss (t 5) (i 1)),m 7 6,h 8 7 (.mv (t 0)),h 9 7 (.len .str (t 8)),h 10 7 (.ar .gtr (t 9) (i 24)),o 11 (.pk (t 7) T (t
 10))]) (Y [0,11])) (C 11 (Q (O [mc 2 F]) R) X)) (Q (Q (O [mc 3 (i 0)]) (Q (.block 0 (.loop ⟨(some [0,3]),[],false⟩ ku)) (Y []))) (Q (O [mc 2 T]) R))))
def bZ:AFn:=⟨tk,28,[.t 2],.drop,[],none⟩
def gL:AC:=
 (Q (Q (O [m 9 8,o 10 (.ar .leq (t 9) (i 2))]) (C 10 X (.exit 0))) (Q (.block 1 (Q (O [m 13 7,la 14 6 3,m 15 2,m 16 8,m 17 1,k 18 (f fb) [(t 14),(t 15),
 (.c (.slice .nil 3 [])),(t 16),(t 17)],o 19 (.ap false aA 3 40 false (t 13) (t 18)),m 7 19]) (Y [1,2,3,7,8]))) (O [m 11 8,ad 12 11,m 8 12])))
def oN:AC:=
 (Q (O [o 3 (.bx am (t 0)),mc 6 (.c (.slice .nil 3 []))]) (Q (O [mc 7 (.c (.slice .nil 3 []))]) (Q (Q (O [mc 8 (i 0)]) (Q (.block 0 (.loop ⟨(some [1,2,3,7,8]),[(7,
 3,aA)],false⟩ gL)) (Y [7]))) (Q (O [m 20 7,m 6 20]) R))))
def d7:AFn:=⟨oN,21,[.t 6],.drop,[],none⟩
theorem oO:d7.res=[.t 6]∧d7.mode = .drop∧d7.dfr=none:=⟨rfl,rfl,rfl⟩
def ea:AC:=
 (Q (Q (Q (O [m 27 5,fa 28 0 2,ld 29 28,ls 30 29,bl 31 27 30]) (Y [2,3,5,31])) (C 31 X (.exit 0))) (Q (.block 1 (Q (Q (D [P (fa 34 0 2),W (ld 35 34),P (m 36 5),P (ia 37 3
 35 36),W (la 38 3 37),P (fa 39 0 3),W (ld 40 39),P (m 41 5),P (ia 42 3 40 41),W (la 43 3 42),P (o 44 (.eq true (.st [(0,(.int .i64)),(1,(.int .i64)),(2,(.int .i64))]) (t
 38) (t 43)))]) (Y [2,3,5,44])) (C 44 (Q (O [mc 4 F]) R) X))) (O [m 32 5,ad 33 32,m 5 33])))
def mA:AC:=
 (Q (O [o 2 (.bx aA (t 0)),o 3 (.bx aA (t 1)),mc 4 F]) (Q (Q (Q (O [fa 6 1 2,ld 7 6,fa 8 1 3,ld 9 8,o 10 (.ar .neq (t 7) (t 9)),m 11 10,h 12 11 (.fa 2
 (t 2)),h 13 11 (.ld none (t 12)),h 14 11 (.fa 2 (t 3)),h 15 11 (.ld none (t 14)),h 16 11 (.ar .neq (t 13) (t 15)),o 17 (.pk (t 11) T (t 16)),m 18 17,h 19 18 (.fa 0 (t 2)),h
 20 18 (.ld none (t 19)),h 21 18 (.len .sl (t 20)),h 22 18 (.fa 0 (t 3)),h 23 18 (.ld none (t 22)),h 24 18 (.len .sl (t 23)),h 25 18 (.ar .neq (t 21) (t 24)),o 26 (.pk (t 18) T
 (t 25))]) (Y [2,3,26])) (C 26 (Q (O [mc 4 F]) R) X)) (Q (Q (O [mc 5 (i 0)]) (Q (.block 0 (.loop ⟨(some [2,3,5]),[],false⟩ ea)) (Y []))) (Q (O [mc 4
 T]) R))))
def bM:AFn:=⟨mA,45,[.t 4],.drop,[],none⟩
theorem cR:bM.res=[.t 4]∧bM.mode = .drop∧bM.dfr=none:=⟨rfl,rfl,rfl⟩
def jW:AC:=
 (Q (O [bl 23 22 21]) (Q (C 23 X (.exit 0)) (Q (.block 1 (Q (Q (O [ia 24 2 20 22,la 25 2 24,o 8 (.nw [(.int .i64 0),(.str [])] de),n (.st 2 (t 8) (t 25))]) (Y [1,2,
 3,8,20,21,22])) (Q (Q (O [fa 26 0 8,ld 27 26,m 28 2,o 29 (.ar .eql (t 27) (t 28))]) (Y [1,2,3,8,20,21,22,29])) (C 29 (Q (O [fa 30 1 8,ld 31 30,m 6 31]) R) X)))) (O
 [ad 32 22,m 22 32]))))
def sn:AC:=
 (Q (O [o 3 (.bx aQ (t 0)),mc 6 (s [])]) (Q (Q (Q (O [fa 14 0 3,fa 15 3 14,ld 16 15,m 17 1,ia 18 4 16 17,fa 19 3 18,ld 20 19,ls 21 20,mc 22 (i 0)]) (Y [1,2,
 3,20,21,22])) (Q (.block 0 (.loop ⟨(some [1,2,3,20,21,22]),[],true⟩ jW)) (Y [1,2,3]))) (Q (Q (O [la 34 6 3,m 35 1,m 36 2,k 37 (f
 k9) [(t 34),(t 35),(t 36)],m 33 37,ex 38 33 0,ex 39 33 1,o 9 (.nw [(.int .i64 0),(.str []),(.str []),(.slice .nil 2 [])] aY),n (.st 4 (t 9) (t
 38)),m 10 39]) (Y [1,3,9])) (Q (Q (O [la 41 6 3,m 42 1,la 43 4 9,k 44 (f qk) [(t 41),(t 42),(t 43)],m 40 44,ex 45 40 0,ex 46 40 1,m 11 45,m 12 46])
 (Y [11,12])) (Q (Q (O [m 47 12,no 48 47]) (C 48 (Q (O [mc 6 (s [])]) R) X)) (Q (Q (O [m 49 11,m 50 11,ls 51 50,o 52 (.ar .sub (t 51) (i 1)),ia 53 1 49 52,ld 54 53,k 55 (f
 th) [(t 54),(s [43]),(s [])],m 13 55]) (Y [13])) (Q (Q (O [m 56 13,lt 57 56,o 58 (.ar .gtr (t 57) (i 24))]) (C 58 (Q (O [mc 6 (s [])]) R) X)) (Q (O [m 59 13,
 m 6 59]) R))))))))
def ep:AFn:=⟨sn,60,[.t 6],.drop,[],none⟩
theorem iU:ep.res=[.t 6]∧ep.mode = .drop∧ep.dfr=none:=⟨rfl,rfl,rfl⟩
def dt:AC:=
 (Q (O [mc 4 (i 0),mc 5 (.c .nilif)]) (Q (O [m 6 0,k 7 (f c7) [(t 6)]]) (Q (Q (O [m 8 0,m 9 0,o 10 (.nc (t 9)),fa 11 1 10,ld 12 11,m 13 1,o 14 (.ap
 false eN 1 1 true (t 12) (t 13)),o 15 (.nc (t 8)),fa 16 1 15,n (.st 1 (t 16) (t 14))]) (Y [1])) (Q (Q (O [m 17 1,lt 18 17,m 4 18,mc 5 (.c .nilif)]) (Y [4,5])) R))))
def du:AFn:=⟨dt,19,[.t 4,.t 5],.drop,[],none⟩
theorem fL:du.res=[.t 4,.t 5]∧du.mode = .drop∧du.dfr=none:=⟨rfl,rfl,rfl⟩
def gz:AC:=
 (Q (O [mc 4 (.c .nilif)]) (Q (O [m 5 0,k 6 (f c7) [(t 5)]]) (Q (Q (O [m 7 0,m 8 0,o 9 (.nc (t 8)),fa 10 1 9,ld 11 10,m 12 1,o 13 (.bs 1 [(.int .u8
 0)] 1 [(0,(t 12))]),o 14 (.ap false eN 1 1 false (t 11) (t 13)),o 15 (.nc (t 7)),fa 16 1 15,n (.st 1 (t 16) (t 14))]) (Y [])) (Q (O [mc 4 (.c .nilif)]) R))))
def dS:AFn:=⟨gz,17,[.t 4],.drop,[],none⟩
theorem sP:dS.res=[.t 4]∧dS.mode = .drop∧dS.dfr=none:=⟨rfl,rfl,rfl⟩
def Aa:AC:=
 (Q (O [mc 2 F]) (Q (Q (O [m 3 0,o 4 (.ar .geq (t 3) (u 97)),m 5 4,g 6 5 (.mv (t 0)),g 7 5 (.ar .leq (t 6) (u 122)),o 8 (.pk (t 5) (t 7) F),m 2 8]) (Y [2])) R))
def jd:AFn:=⟨Aa,9,[.t 2],.drop,[],none⟩
def Eu:AC:=
 (Q (O [mc 2 F]) (Q (O [o 3 (.nw [.nilfn] JM),n (.st 1 (t 3) (f iY))]) (Q (Q (D [P (m 4 0),W (lt 5 4),P (o 6 (.ar .geq (t 5) (i 1))),P (m 7 6),P (g 8
 7 (.mv (t 0))),W (g 9 7 (.len .str (t 8))),P (g 10 7 (.ar .leq (t 9) (i 12))),P (o 11 (.pk (t 7) (t 10) F)),P (m 12 11),W (g 13 12 (.ld none (t 3))),P (g 14 12 (.mv (t 0))),P
 (g 15 12 (.ixs (t 14) (i 0))),E (⟨(some 16),(some (12,true)),(.call (.t 13) [(.t 15)])⟩),P (o 17 (.pk (t 12) (t 16) F)),P (m 18 17),P (g 19 18 (.mv (t 0))),P (g 20 18 (.mf
 (.func pn) [] [(t 3)])),E (⟨(some 21),(some (18,true)),(.call (.c (.fn (.func td) [] [])) [(.t 19),(.t 20)])⟩),P (o 22 (.pk (t 18) (t 21) F)),P (m 2
 22)]) (Y [2])) R)))
def lE:AFn:=⟨Eu,23,[.t 2],.drop,[],none⟩
def f8:AC:=
 (Q (O [mc 4 F]) (Q (Q (O [m 5 0,m 6 1,k 7 (f cw) [(t 5),(t 6)],o 8 (.ar .geq (t 7) (i 0)),m 4 8]) (Y [4])) R))
def bB:AFn:=⟨f8,9,[.t 4],.drop,[],none⟩
theorem rr:bB.res=[.t 4]∧bB.mode = .drop∧bB.dfr=none:=⟨rfl,rfl,rfl⟩
def pB:AC:=
 (Q (O [o 2 (.bx ce (t 0)),mc 3 F]) (Q (Q (O [fa 4 0 2,ld 5 4,fa 6 0 1,ld 7 6,o 8 (.ar .eql (t 5) (t 7)),m 3 8]) (Y [3])) R))
def fC:AFn:=⟨pB,9,[.t 3],.drop,[],none⟩
theorem Dg:fC.res=[.t 3]∧fC.mode = .drop∧fC.dfr=none:=⟨rfl,rfl,rfl⟩
def kY:AC:=
 (Q (O [mc 4 F]) (Q (Q (O [m 5 0,m 6 1,k 7 (f ml) [(t 5),(t 6)],o 8 (.ar .geq (t 7) (i 0)),m 4 8]) (Y [4])) R))
def cS:AFn:=⟨kY,9,[.t 4],.drop,[],none⟩
theorem xj:cS.res=[.t 4]∧cS.mode = .drop∧cS.dfr=none:=⟨rfl,rfl,rfl⟩
def f9:AC:=
 (Q (O [mc 4 F]) (Q (Q (O [m 5 0,m 6 1,k 7 (f cA) [(t 5),(t 6)],o 8 (.ar .geq (t 7) (i 0)),m 4 8]) (Y [4])) R))
def bC:AFn:=⟨f9,9,[.t 4],.drop,[],none⟩
theorem rt:bC.res=[.t 4]∧bC.mode = .drop∧bC.dfr=none:=⟨rfl,rfl,rfl⟩
def pC:AC:=
 (Q (O [o 2 (.bx bo (t 0)),mc 3 F]) (Q (Q (O [fa 4 0 2,ld 5 4,fa 6 0 1,ld 7 6,o 8 (.ar .eql (t 5) (t 7)),m 3 8]) (Y [3])) R))
def fD:AFn:=⟨pC,9,[.t 3],.drop,[],none⟩
theorem Dh:fD.res=[.t 3]∧fD.mode = .drop∧fD.dfr=none:=⟨rfl,rfl,rfl⟩
def jX:AC:=
 (Q (O [bl 17 16 15]) (Q (C 17 X (.exit 0)) (Q (.block 1 (Q (Q (O [m 18 16,ia 19 4 14 16,la 20 4 19,o 8 (.nw [(.int .i64 0),(.str []),(.str []),(.slice .nil 2 [])] aY),
 m 7 18,n (.st 4 (t 8) (t 20))]) (Y [2,7,8,14,15,16])) (Q (Q (O [m 21 2,m 22 7,la 23 4 8,k 24 (t 21) [(t 22),(t 23)],m 9 24]) (Y [2,9,14,15,16])) (Q (O [m 25 9,o 26
 (.ar .neq (t 25) (u 0))]) (C 26 (Q (O [m 27 9,m 6 27]) R) X))))) (O [ad 28 16,m 16 28]))))
def so:AC:=
 (Q (O [mc 6 (u 0)]) (Q (Q (Q (O [m 10 0,ls 11 10,m 12 1,o 13 (.ar .gtr (t 11) (t 12))]) (Y [0,2,13])) (C 13 (Q (O [mc 6 (u 3)]) R) X)) (Q (Q (O [m 14 0,ls 15 14,mc 16 (i 0)])
 (Q (.block 0 (.loop ⟨(some [2,14,15,16]),[],true⟩ jX)) (Y []))) (Q (O [mc 6 (u 0)]) R))))
def dG:AFn:=⟨so,29,[.t 6],.drop,[],none⟩
theorem sp:dG.res=[.t 6]∧dG.mode = .drop∧dG.dfr=none:=⟨rfl,rfl,rfl⟩
def pD:AC:=
 (Q (O [o 4 (.bx aY (t 1)),mc 5 (u 0)]) (Q (Q (Q (O [fa 6 0 4,ld 7 6,o 8 (.ar .lss (t 7) (i 0)),m 9 8,h 10 9 (.fa 0 (t 4)),h 11 9 (.ld none (t 10)),h 12 9 (.ar .gtr (t
 11) (i 24)),o 13 (.pk (t 9) T (t 12)),m 14 13,h 15 14 (.fa 1 (t 4)),h 16 14 (.ld none (t 15)),⟨(some 17),(some (14,false)),(.call (.c (.fn (.func lB) [] [])) [(.t
 16),(.c (.fn (.func dn) [] []))])⟩,h 18 14 (.un .not (t 17)),o 19 (.pk (t 14) T (t 18)),m 20 19,h 21 20 (.fa 2 (t 4)),h 22 20 (.ld none (t 21)),⟨(some 23),(some
 (20,false)),(.call (.c (.fn (.func lB) [] [])) [(.t 22),(.c (.fn (.func dn) [] []))])⟩,h 24 20 (.un .not (t 23)),o 25 (.pk (t 20) T (t 24))]) (Y [2,4,
 25])) (C 25 (Q (O [mc 5 (u 1)]) R) X)) (Q (Q (O [la 26 6 2,fa 27 3 4,ld 28 27,k 29 (f kh) [(t 26),(t 28)],m 5 29]) (Y [5])) R)))
def fE:AFn:=⟨pD,30,[.t 5],.drop,[],none⟩
theorem Di:fE.res=[.t 5]∧fE.mode = .drop∧fE.dfr=none:=⟨rfl,rfl,rfl⟩
def Cq:AC:=
 (Q (O [mc 4 F]) (Q (Q (O [m 5 0,lt 6 5,o 7 (.ar .leq (t 6) (i 6)),m 8 7,g 9 8 (.mv (t 0)),g 10 8 (.mv (t 1)),⟨(some 11),(some (8,true)),(.call (.c (.fn (.func td)
 [] [])) [(.t 9),(.t 10)])⟩,o 12 (.pk (t 8) (t 11) F),m 4 12]) (Y [4])) R))
def oP:AFn:=⟨Cq,13,[.t 4],.drop,[],none⟩
theorem PB:oP.res=[.t 4]∧oP.mode = .drop∧oP.dfr=none:=⟨rfl,rfl,rfl⟩
def qJ:AC:=
 (Q (O [o 2 (.bx bQ (t 0)),o 3 (.bx fc (t 1)),mc 4 (u 0)]) (Q (Q (O [ld 5 3,o 6 (.mf (.func lC) [] [(t 2),(t 3)]),k 7 (f
 nJ) [(t 5),(i 8),(t 6)],m 4 7]) (Y [4])) R))
def fP:AFn:=⟨qJ,8,[.t 4],.drop,[],none⟩
theorem Ev:fP.res=[.t 4]∧fP.mode = .drop∧fP.dfr=none:=⟨rfl,rfl,rfl⟩
def ru:AC:=
 (Q (Q (O [o 2 (.bx am (t 0)),o 3 (.bx bv (t 1)),o 4 (.nw [(.str []),(.slice .nil 4 [])] bo),mc 5 F]) (Y [2,3,4])) (Q (Q (O [fa 7 2 2,ld 8 7,o 9
 (.mf (.func oc) [] [(t 3)]),k 10 (f cA) [(t 8),(t 9)],m 6 10]) (Y [2,4,6])) (Q (Q (O [m 11 6,o 12 (.ar .lss (t 11) (i 0))])
 (C 12 (Q (O [o 13 (.bd [(.str []),(.slice .nil 4 [])] [(0,1),(1,1)] []),n (.st 2 (t 4) (t 13)),mc 5 F]) R) X)) (Q (Q (O [fa 14 2 2,ld 15 14,m 16 6,ia 17 2 15 16,la 18 2
 17,n (.st 2 (t 4) (t 18)),mc 5 T]) (Y [4,5])) R))))
def mB:AFn:=⟨ru,19,[.cell 4 (some 2),.t 5],.drop,[],none⟩
theorem E4:mB.res=[.cell 4 (some 2),.t 5]∧mB.mode = .drop∧mB.dfr=none:=⟨rfl,rfl,rfl⟩
def Cr:AC:=
 (Q (O [mc 2 F]) (Q (Q (O [m 3 0,k 4 (f wg) [(t 3)],m 5 4,g 6 5 (.mv (t 0)),⟨(some 7),(some (5,true)),(.call (.c (.fn (.func td) [] [])) [(.t 6),(.c (.fn
 (.func dn) [] []))])⟩,o 8 (.pk (t 5) (t 7) F),m 2 8]) (Y [2])) R))
def oQ:AFn:=⟨Cr,9,[.t 2],.drop,[],none⟩
def ga:AC:=
 (Q (O [mc 4 F]) (Q (Q (O [m 5 0,m 6 1,k 7 (f dq) [(t 5),(t 6)],o 8 (.ar .geq (t 7) (i 0)),m 4 8]) (Y [4])) R))
def bD:AFn:=⟨ga,9,[.t 4],.drop,[],none⟩
theorem ry:bD.res=[.t 4]∧bD.mode = .drop∧bD.dfr=none:=⟨rfl,rfl,rfl⟩
def pE:AC:=
 (Q (O [o 2 (.bx bq (t 0)),mc 3 F]) (Q (Q (O [fa 4 0 2,ld 5 4,fa 6 0 1,ld 7 6,o 8 (.ar .eql (t 5) (t 7)),m 9 8,g 10 9 (.fa 1 (t 2)),g 11 9 (.ld none (t 10)),g 12 9
 (.fa 1 (t 1)),g 13 9 (.ld none (t 12)),g 14 9 (.ar .eql (t 11) (t 13)),o 15 (.pk (t 9) (t 14) F),m 3 15]) (Y [3])) R))
def fF:AFn:=⟨pE,16,[.t 3],.drop,[],none⟩
theorem Dj:fF.res=[.t 3]∧fF.mode = .drop∧fF.dfr=none:=⟨rfl,rfl,rfl⟩
def gC:AC:=
 (Q (O [mc 4 F]) (Q (Q (O [m 5 0,m 6 1,k 7 (f dN) [(t 5),(t 6)],o 8 (.ar .geq (t 7) (i 0)),m 4 8]) (Y [4])) R))
def bG:AFn:=⟨gC,9,[.t 4],.drop,[],none⟩
theorem sW:bG.res=[.t 4]∧bG.mode = .drop∧bG.dfr=none:=⟨rfl,rfl,rfl⟩
def pF:AC:=
 (Q (O [o 2 (.bx aY (t 0)),mc 3 F]) (Q (Q (O [fa 4 2 1,ld 5 4,fa 6 3 2,ld 7 6,k 8 (f Ce) [(t 5),(t 7)],m 3 8]) (Y [3])) R))
def fG:AFn:=⟨pF,9,[.t 3],.drop,[],none⟩
theorem Dk:fG.res=[.t 3]∧fG.mode = .drop∧fG.dfr=none:=⟨rfl,rfl,rfl⟩
def Cs:AC:=
 (Q (O [o 3 (.bx fc (t 1)),mc 4 F]) (Q (Q (O [m 5 0,o 6 (.mf (.func u7) [] [(t 3)]),k 7 (f cj) [(t 5),(t 6)],m 4 7])
 (Y [4])) R))
def oR:AFn:=⟨Cs,8,[.t 4],.drop,[],none⟩
theorem PC:oR.res=[.t 4]∧oR.mode = .drop∧oR.dfr=none:=⟨rfl,rfl,rfl⟩
def eI:AC:=
 (Q (O [mc 4 F]) (Q (Q (O [m 5 0,m 6 1,k 7 (f ca) [(t 5),(t 6)],o 8 (.ar .geq (t 7) (i 0)),m 4 8]) (Y [4])) R))
def bg:AFn:=⟨eI,9,[.t 4],.drop,[],none⟩
theorem nM:bg.res=[.t 4]∧bg.mode = .drop∧bg.dfr=none:=⟨rfl,rfl,rfl⟩
def pG:AC:=
 (Q (O [o 2 (.bx de (t 0)),mc 3 F]) (Q (Q (O [fa 4 0 2,ld 5 4,fa 6 0 1,ld 7 6,o 8 (.ar .eql (t 5) (t 7)),m 3 8]) (Y [3])) R))
def fH:AFn:=⟨pG,9,[.t 3],.drop,[],none⟩
theorem Dl:fH.res=[.t 3]∧fH.mode = .drop∧fH.dfr=none:=⟨rfl,rfl,rfl⟩
def Ab:AC:=
 (Q (O [mc 2 F]) (Q (Q (O [m 3 0,k 4 (f dn) [(t 3)],m 5 4,h 6 5 (.mv (t 0)),h 7 5 (.ar .eql (t 6) (u 43)),o 8 (.pk (t 5) T (t 7)),m 2 8]) (Y [2])) R))
def nj:AFn:=⟨Ab,9,[.t 2],.drop,[],none⟩
theorem N2:nj.res=[.t 2]∧nj.mode = .drop∧nj.dfr=none:=⟨rfl,rfl,rfl⟩
def Ac:AC:=
 (Q (O [mc 2 F]) (Q (Q (O [m 3 0,k 4 (f pj) [(t 3)],m 5 4,h 6 5 (.mv (t 0)),h 7 5 (.ar .eql (t 6) (u 35)),o 8 (.pk (t 5) T (t 7)),m 9 8,h 10 9 (.mv (t 0)),h 11 9
 (.ar .eql (t 10) (u 86)),o 12 (.pk (t 9) T (t 11)),m 13 12,h 14 13 (.mv (t 0)),h 15 13 (.ar .eql (t 14) (u 67)),o 16 (.pk (t 13) T (t 15)),m 2 16]) (Y [2])) R))
def nk:AFn:=⟨Ac,17,[.t 2],.drop,[],none⟩
theorem N3:nk.res=[.t 2]∧nk.mode = .drop∧nk.dfr=none:=⟨rfl,rfl,rfl⟩
def qK:AC:=
 (Q (O [mc 2 F]) (Q (Q (O [m 3 0,o 4 (.ar .geq (t 3) (u 97)),m 5 4,g 6 5 (.mv (t 0)),g 7 5 (.ar .leq (t 6) (u 122)),o 8 (.pk (t 5) (t 7) F),m 2 8]) (Y [2])) R))
def fQ:AFn:=⟨qK,9,[.t 2],.drop,[],none⟩
def kw:AC:=
 (Q (Q (Q (O [m 14 3,m 15 0,lt 16 15,bl 17 14 16]) (Y [0,3,17])) (C 17 X (.exit 0))) (Q (.block 1 (Q (Q (O [m 20 0,m 21 3,o 22 (.ixs (t 20) (t 21)),o 23 (.ar .geq (t 22) (u
 65)),m 24 23,g 25 24 (.mv (t 0)),g 26 24 (.mv (t 3)),g 27 24 (.ixs (t 25) (t 26)),g 28 24 (.ar .leq (t 27) (u 90)),o 29 (.pk (t 24) (t 28) F),m 4 29]) (Y [0,3,4])) (Q (Q (O
 [m 30 0,m 31 3,o 32 (.ixs (t 30) (t 31)),o 33 (.ar .geq (t 32) (u 48)),m 34 33,g 35 34 (.mv (t 0)),g 36 34 (.mv (t 3)),g 37 34 (.ixs (t 35) (t 36)),g 38 34 (.ar .leq (t 37)
 (u 57)),o 39 (.pk (t 34) (t 38) F),m 5 39]) (Y [0,3,4,5])) (Q (Q (O [m 40 0,m 41 3,o 42 (.ixs (t 40) (t 41)),k 43 (f ii) [(t 42)],no 44 43,m 45 44,g
 46 45 (.mv (t 4)),g 47 45 (.un .not (t 46)),o 48 (.pk (t 45) (t 47) F),m 49 48,g 50 49 (.mv (t 3)),g 51 49 (.ar .eql (t 50) (i 0)),g 52 49 (.mv (t 51)),h 53 52 (.mv (t 5)),h
 54 52 (.un .not (t 53)),h 55 52 (.mv (t 54)),g 56 55 (.mv (t 0)),g 57 55 (.mv (t 3)),g 58 55 (.ixs (t 56) (t 57)),g 59 55 (.ar .neq (t 58) (u 95)),h 60 52 (.pk (t 55) (t 59)
 F),g 61 49 (.pk (t 52) T (t 60)),o 62 (.pk (t 49) (t 61) F)]) (Y [0,3,62])) (C 62 (Q (O [mc 2 F]) R) X))))) (O [m 18 3,ad 19 18,m 3 19])))
def tl:AC:=
 (Q (O [mc 2 F]) (Q (Q (Q (O [m 6 0,lt 7 6,o 8 (.ar .lss (t 7) (i 1)),m 9 8,h 10 9 (.mv (t 0)),h 11 9 (.len .str (t 10)),h 12 9 (.ar .gtr (t 11) (i 12)),o 13 (.pk (t 9) T (t
 12))]) (Y [0,13])) (C 13 (Q (O [mc 2 F]) R) X)) (Q (Q (O [mc 3 (i 0)]) (Q (.block 0 (.loop ⟨(some [0,3]),[],false⟩ kw)) (Y []))) (Q (O [mc 2 T]) R))))
def b4:AFn:=⟨tl,63,[.t 2],.drop,[],none⟩
def jY:AC:=
 (Q (Q (Q (O [m 6 5,fa 7 1 2,ld 8 7,ls 9 8,bl 10 6 9]) (Y [1,2,5,10])) (C 10 X (.exit 0))) (Q (.block 1 (Q (Q (O [fa 13 1 2,ld 14 13,m 15 5,ia 16 2 14 15,fa 17 0 16,ld 18
 17,m 19 1,o 20 (.ar .eql (t 18) (t 19))]) (Y [1,2,5,20])) (C 20 (Q (O [m 21 5,m 4 21]) R) X))) (O [m 11 5,ad 12 11,m 5 12])))
def sq:AC:=
 (Q (O [o 2 (.bx am (t 0)),mc 4 (i 0)]) (Q (Q (O [mc 5 (i 0)]) (Q (.block 0 (.loop ⟨(some [1,2,5]),[],false⟩ jY)) (Y []))) (Q (O [mc 4 (i (-1))])
 R)))
def fy:AFn:=⟨sq,22,[.t 4],.drop,[],none⟩
theorem sr:fy.res=[.t 4]∧fy.mode = .drop∧fy.dfr=none:=⟨rfl,rfl,rfl⟩
def lQ:AC:=
 (Q (Q (Q (O [m 6 5,m 7 0,ls 8 7,bl 9 6 8]) (Y [0,1,5,9])) (C 9 X (.exit 0))) (Q (.block 1 (Q (Q (O [m 12 0,m 13 5,ia 14 1 12 13,ld 15 14,m 16 1,o 17 (.ar .eql (t 15) (t
 16))]) (Y [0,1,5,17])) (C 17 (Q (O [mc 4 T]) R) X))) (O [m 10 5,ad 11 10,m 5 11])))
def vg:AC:=
 (Q (O [mc 4 F]) (Q (Q (O [mc 5 (i 0)]) (Q (.block 0 (.loop ⟨(some [0,1,5]),[],false⟩ lQ)) (Y []))) (Q (O [mc 4 F]) R)))
def gM:AFn:=⟨vg,18,[.t 4],.drop,[],none⟩
theorem vh:gM.res=[.t 4]∧gM.mode = .drop∧gM.dfr=none:=⟨rfl,rfl,rfl⟩
def ss:AC:=
 (Q (O [mc 2 F]) (Q (Q (O [m 3 0,k 4 (f oa) [(t 3)],m 5 4,g 6 5 (.mv (t 0)),⟨(some 7),(some (5,true)),(.call (.c (.fn (.func dJ) [] [])) [(.t
 6),(.c (.str []))])⟩,o 8 (.pk (t 5) (t 7) F),m 2 8]) (Y [2])) R))
def iV:AFn:=⟨ss,9,[.t 2],.drop,[],none⟩
def jZ:AC:=
 (Q (Q (Q (O [m 11 6,m 12 0,ls 13 12,bl 14 11 13]) (Y [0,1,6,14])) (C 14 X (.exit 0))) (Q (.block 1 (Q (Q (D [P (m 17 0),P (m 18 6),P (o 19 (.ar .sub (t 18) (i 1))),P (ia 20
 2 17 19),P (fa 21 0 20),W (ld 22 21),P (m 23 0),P (m 24 6),P (ia 25 2 23 24),P (fa 26 0 25),W (ld 27 26),P (o 28 (.ar .geq (t 22) (t 27)))]) (Y [0,1,6,28])) (C 28 (Q (O
 [mc 4 (.c (.slice .nil 2 [])),mc 5 F]) R) X))) (O [m 15 6,ad 16 15,m 6 16])))
def j0:AC:=
 (Q (Q (Q (O [m 29 7,m 30 1,ls 31 30,bl 32 29 31]) (Y [0,1,7,32])) (C 32 X (.exit 2))) (Q (.block 3 (Q (Q (D [P (m 35 1),P (m 36 7),P (o 37 (.ar .sub (t 36) (i 1))),P (ia 38
 2 35 37),P (fa 39 0 38),W (ld 40 39),P (m 41 1),P (m 42 7),P (ia 43 2 41 42),P (fa 44 0 43),W (ld 45 44),P (o 46 (.ar .geq (t 40) (t 45)))]) (Y [0,1,7,46])) (C 46 (Q (O
 [mc 4 (.c (.slice .nil 2 [])),mc 5 F]) R) X))) (O [m 33 7,ad 34 33,m 7 34])))
def cV:AC:=
 (Q (Q (Q (O [m 47 9,m 48 0,ls 49 48,bl 50 47 49,m 51 50,h 52 51 (.mv (t 10)),h 53 51 (.mv (t 1)),h 54 51 (.len .sl (t 53)),h 55 51 (.ar .lss (t 52) (t 54)),o 56 (.pk (t 51)
 T (t 55))]) (Y [0,1,8,9,10,56])) (C 56 X (.exit 4))) (.block 5 (.block 6 (Q (Q (D [P (m 69 10),P (m 70 1),W (ls 71 70),P (o 72 (.ar .eql (t 69) (t 71))),P (m 73 72),P (h
 74 73 (.mv (t 9))),P (h 75 73 (.mv (t 0))),W (h 76 73 (.len .sl (t 75))),P (h 77 73 (.ar .lss (t 74) (t 76))),P (h 78 73 (.mv (t 77))),P (g 79 78 (.mv (t 0))),P (g 80 78 (.mv
 (t 9))),P (g 81 78 (.ias 2 (t 79) (t 80))),P (g 82 78 (.fa 0 (t 81))),W (g 83 78 (.ld none (t 82))),P (g 84 78 (.mv (t 1))),P (g 85 78 (.mv (t 10))),P (g 86 78 (.ias 2 (t 84)
 (t 85))),P (g 87 78 (.fa 0 (t 86))),W (g 88 78 (.ld none (t 87))),P (g 89 78 (.ar .lss (t 83) (t 88))),P (h 90 73 (.pk (t 78) (t 89) F)),P (o 91 (.pk (t 73) T (t 90))),P (m 68
 91)]) (Y [0,1,8,9,10,68])) (C 68 (Q (Q (O [m 92 8,m 93 0,m 94 9,ia 95 2 93 94,la 96 2 95,o 97 (.bs 2 [(.str []),(.str [])] 1 [(0,(t 96))]),o 98 (.ap false bf 2
 32 false (t 92) (t 97)),m 8 98]) (Y [0,1,8,9,10])) (O [m 99 9,ad 100 99,m 9 100])) (Q (Q (D [P (m 102 9),P (m 103 0),W (ls 104 103),P (o 105 (.ar .eql (t 102) (t 104))),P
 (m 106 105),P (h 107 106 (.mv (t 1))),P (h 108 106 (.mv (t 10))),P (h 109 106 (.ias 2 (t 107) (t 108))),P (h 110 106 (.fa 0 (t 109))),W (h 111 106 (.ld none (t 110))),P (h 112
 106 (.mv (t 0))),P (h 113 106 (.mv (t 9))),P (h 114 106 (.ias 2 (t 112) (t 113))),P (h 115 106 (.fa 0 (t 114))),W (h 116 106 (.ld none (t 115))),P (h 117 106 (.ar .lss (t 111)
 (t 116))),P (o 118 (.pk (t 106) T (t 117))),P (m 101 118)]) (Y [0,1,8,9,10,101])) (C 101 (Q (Q (O [m 119 8,m 120 1,m 121 10,ia 122 2 120 121,la 123 2 122,o 124 (.bs 2
 [(.str []),(.str [])] 1 [(0,(t 123))]),o 125 (.ap false bf 2 32 false (t 119) (t 124)),m 8 125]) (Y [0,1,8,9,10])) (O [m 126 10,ad 127 126,m 10 127])) (Q (Q (D [P
 (m 129 0),P (m 130 9),P (ia 131 2 129 130),W (la 132 2 131),P (m 133 1),P (m 134 10),P (ia 135 2 133 134),W (la 136 2 135),P (o 137 (.eq true (.st [(0,.str),(1,.str)]) (t
 132) (t 136))),P (m 128 137)]) (Y [0,1,8,9,10,128])) (C 128 (Q (O [mc 4 (.c (.slice .nil 2 [])),mc 5 F]) R) (Q (Q (O [m 57 8,m 58 0,m 59 9,ia 60 2 58 59,la 61 2 60,o 62
 (.bs 2 [(.str []),(.str [])] 1 [(0,(t 61))]),o 63 (.ap false bf 2 32 false (t 57) (t 62)),m 8 63]) (Y [0,1,8,9,10])) (Q (O [m 64 9,ad 65 64,m 9 65]) (O [m 66 10,
 ad 67 66,m 10 67]))))))))))))
def su:AC:=
 (Q (O [mc 4 (.c (.slice .nil 2 [])),mc 5 F]) (Q (Q (O [mc 6 (i 1)]) (Q (.block 0 (.loop ⟨(some [0,1,6]),[],false⟩ jZ)) (Y [0,1]))) (Q (Q (O [mc 7 (i 1)])
 (Q (.block 2 (.loop ⟨(some [0,1,7]),[],false⟩ j0)) (Y [0,1]))) (Q (O [mc 8 (.c (.slice .nil 2 []))]) (Q (O [mc 9 (i 0),mc 10 (i 0)]) (Q (Q (.block 4
 (.loop ⟨(some [0,1,8,9,10]),[(8,2,bf)],false⟩ cV)) (Y [8])) (Q (O [m 138 8,m 4 138,mc 5 T]) R)))))))
def cF:AFn:=⟨su,139,[.t 4,.t 5],.drop,[],none⟩
theorem b7:cF.res=[.t 4,.t 5]∧cF.mode = .drop∧cF.dfr=none:=⟨rfl,rfl,rfl⟩
def ju:AC:=
 (Q (O [mc 2 (.c (.slice .nil 2 []))]) (Q (Q (O [m 3 0,o 4 (.eq false .sl (t 3) (.c (.slice .nil 0 [])))]) (C 4 (Q (O [mc 2 (.c (.slice .nil 2 []))]) R) X)) (Q (Q (O [o 5 (.bs 2
 [(.str []),(.slice .nil 0 [])] 0 []),m 6 0,o 7 (.ap true ce 2 40 false (t 5) (t 6)),m 2 7]) (Y [2])) R)))
def c8:AFn:=⟨ju,8,[.t 2],.keep,[3],none⟩
theorem jv:c8.res=[.t 2]∧c8.mode = .keep∧c8.dfr=none:=⟨rfl,rfl,rfl⟩
def jw:AC:=
 (Q (O [mc 2 (.c (.slice .nil 2 []))]) (Q (Q (O [m 3 0,o 4 (.eq false .sl (t 3) (.c (.slice .nil 0 [])))]) (C 4 (Q (O [mc 2 (.c (.slice .nil 2 []))]) R) X)) (Q (Q (O [o 5 (.bs 2
 [(.str []),(.slice .nil 0 [])] 0 []),m 6 0,o 7 (.ap true bo 2 40 false (t 5) (t 6)),m 2 7]) (Y [2])) R)))
def c9:AFn:=⟨jw,8,[.t 2],.keep,[3],none⟩
theorem jx:c9.res=[.t 2]∧c9.mode = .keep∧c9.dfr=none:=⟨rfl,rfl,rfl⟩
def jy:AC:=
 (Q (O [mc 2 (.c (.slice .nil 4 []))]) (Q (Q (O [m 3 0,o 4 (.eq false .sl (t 3) (.c (.slice .nil 0 [])))]) (C 4 (Q (O [mc 2 (.c (.slice .nil 4 []))]) R) X)) (Q (Q (O [o 5 (.bs 4
 [(.str []),(.str []),(.slice .nil 0 []),(.slice .nil 0 [])] 0 []),m 6 0,o 7 (.ap true bq 4 80 false (t 5) (t 6)),m 2 7]) (Y [2])) R)))
def da:AFn:=⟨jy,8,[.t 2],.keep,[3],none⟩
theorem jz:da.res=[.t 2]∧da.mode = .keep∧da.dfr=none:=⟨rfl,rfl,rfl⟩
def jA:AC:=
 (Q (O [mc 2 (.c (.slice .nil 4 []))]) (Q (Q (O [m 3 0,o 4 (.eq false .sl (t 3) (.c (.slice .nil 0 [])))]) (C 4 (Q (O [mc 2 (.c (.slice .nil 4 []))]) R) X)) (Q (Q (O [o 5 (.bs 4
 [(.str []),(.str []),(.str []),(.str [])] 0 []),m 6 0,o 7 (.ap false cP 4 64 false (t 5) (t 6)),m 2 7]) (Y [2])) R)))
def db:AFn:=⟨jA,8,[.t 2],.drop,[],none⟩
theorem jB:db.res=[.t 2]∧db.mode = .drop∧db.dfr=none:=⟨rfl,rfl,rfl⟩
def kx:AC:=
 (Q (O [mc 2 (.c (.slice .nil 3 []))]) (Q (Q (O [m 3 0,o 4 (.eq false .sl (t 3) (.c (.slice .nil 0 [])))]) (C 4 (Q (O [mc 2 (.c (.slice .nil 3 []))]) R) X)) (Q (Q (O [o 5 (.bs 3
 [(.str []),(.str []),(.slice .nil 0 [])] 0 []),m 6 0,o 7 (.ap true dK 3 56 false (t 5) (t 6)),m 2 7]) (Y [2])) R)))
def dB:AFn:=⟨kx,8,[.t 2],.keep,[3],none⟩
theorem ky:dB.res=[.t 2]∧dB.mode = .keep∧dB.dfr=none:=⟨rfl,rfl,rfl⟩
def mC:AC:=
 (Q (O [mc 2 (.c (.slice .nil 1 []))]) (Q (Q (O [m 3 0,o 4 (.eq false .sl (t 3) (.c (.slice .nil 0 [])))]) (C 4 (Q (O [mc 2 (.c (.slice .nil 1 []))]) R) X)) (Q (Q (O [o 5 (.bs 1
 [(.str [])] 0 []),m 6 0,o 7 (.ap false bv 1 16 false (t 5) (t 6)),m 2 7]) (Y [2])) R)))
def eU:AFn:=⟨mC,8,[.t 2],.drop,[],none⟩
theorem mD:eU.res=[.t 2]∧eU.mode = .drop∧eU.dfr=none:=⟨rfl,rfl,rfl⟩
def kz:AC:=
 (Q (O [mc 2 (.c (.slice .nil 4 []))]) (Q (Q (O [m 3 0,o 4 (.eq false .sl (t 3) (.c (.slice .nil 0 [])))]) (C 4 (Q (O [mc 2 (.c (.slice .nil 4 []))]) R) X)) (Q (Q (O [o 5 (.bs 4
 [(.int .i64 0),(.str []),(.str []),(.slice .nil 0 [])] 0 []),m 6 0,o 7 (.ap true aY 4 64 false (t 5) (t 6)),m 2 7]) (Y [2])) R)))
def dC:AFn:=⟨kz,8,[.t 2],.keep,[3],none⟩
theorem kA:dC.res=[.t 2]∧dC.mode = .keep∧dC.dfr=none:=⟨rfl,rfl,rfl⟩
def kB:AC:=
 (Q (O [mc 2 (.c (.slice .nil 2 []))]) (Q (Q (O [m 3 0,o 4 (.eq false .sl (t 3) (.c (.slice .nil 0 [])))]) (C 4 (Q (O [mc 2 (.c (.slice .nil 2 []))]) R) X)) (Q (Q (O [o 5 (.bs 2
 [(.str []),(.str [])] 0 []),m 6 0,o 7 (.ap false bf 2 32 false (t 5) (t 6)),m 2 7]) (Y [2])) R)))
def dD:AFn:=⟨kB,8,[.t 2],.drop,[],none⟩
theorem kC:dD.res=[.t 2]∧dD.mode = .drop∧dD.dfr=none:=⟨rfl,rfl,rfl⟩
def fR:AC:=
 (Q (O [mc 2 (.c (.slice .nil 2 []))]) (Q (Q (O [m 3 0,o 4 (.eq false .sl (t 3) (.c (.slice .nil 0 [])))]) (C 4 (Q (O [mc 2 (.c (.slice .nil 2 []))]) R) X)) (Q (Q (O [o 5 (.bs 2
 [(.int .i64 0),(.str [])] 0 []),m 6 0,o 7 (.ap false de 2 24 false (t 5) (t 6)),m 2 7]) (Y [2])) R)))
def bV:AFn:=⟨fR,8,[.t 2],.drop,[],none⟩
theorem fT:bV.res=[.t 2]∧bV.mode = .drop∧bV.dfr=none:=⟨rfl,rfl,rfl⟩
def qL:AC:=
 (Q (O [o 2 (.bx aQ (t 0)),mc 4 (i 0)]) (Q (Q (D [P (fa 8 0 2),W (la 9 6 8),P (fa 10 0 2),P (fa 11 3 10),W (ld 12 11),P (m 13 1),P (ia 14 4 12 13),P (fa 15 1
 14),W (ld 16 15),W (k 17 (f ib) [(t 9),(t 16)]),P (m 7 17),P (ex 18 7 0),P (ex 19 7 1),K (o 5 (.nw [(.str []),(.slice .nil 4 [])] bo)),E (n (.st 2 (t
 5) (t 18))),P (m 6 19)]) (Y [5])) (Q (Q (O [fa 20 1 5,ld 21 20,ls 22 21,m 4 22]) (Y [4])) R)))
def ij:AFn:=⟨qL,23,[.t 4],.drop,[],none⟩
theorem Ew:ij.res=[.t 4]∧ij.mode = .drop∧ij.dfr=none:=⟨rfl,rfl,rfl⟩
def sw:AC:=
 (Q (O [o 2 (.bx am (t 0)),mc 4 (i 0)]) (Q (Q (D [P (fa 5 2 2),W (ld 6 5),W (la 7 6 2),P (fa 8 3 2),W (ld 9 8),P (m 10 1),P (ia 11 4 9 10),P (fa 12 1 11),W (ld 13
 12),K (k 14 (f gl) [(t 7),(t 13)]),P (ia 15 2 6 14),P (fa 16 1 15),W (ld 17 16),W (ls 18 17),P (m 4 18)]) (Y [4])) R))
def iW:AFn:=⟨sw,19,[.t 4],.drop,[],none⟩
theorem Ft:iW.res=[.t 4]∧iW.mode = .drop∧iW.dfr=none:=⟨rfl,rfl,rfl⟩
def kD:AC:=
 (Q (Q (Q (O [m 31 10,m 32 9,ls 33 32,bl 34 31 33]) (Y [1,2,3,9,10,34])) (C 34 X (.exit 0))) (Q (.block 1 (Q (Q (O [m 37 9,m 38 10,ia 39 2 37 38,fa 40 0 39,ld 41 40,m 42
 2,o 43 (.ar .eql (t 41) (t 42))]) (Y [1,2,3,9,10,43])) (C 43 (Q (Q (O [m 44 9,m 45 10,ia 46 2 44 45,fa 47 1 46,ld 48 47,m 6 48]) (Y [6])) R) X))) (O [m 35 10,ad 36 35,m
 10 36])))
def ik:AC:=
 (Q (Q (Q (O [m 64 15,m 65 13,lt 66 65,bl 67 64 66]) (Y [13,14,15,67])) (C 67 X (.exit 2))) (Q (.block 3 (Q (Q (O [m 70 13,m 71 15,o 72 (.ixs (t 70) (t 71)),o 73 (.ar .neq
 (t 72) (u 43))]) (Y [13,14,15,73])) (C 73 (Q (O [m 74 14,m 75 13,m 76 15,m 77 15,ad 78 77,o 79 (.sls (t 75) (some (t 76)) (some (t 78))),o 80 (.ar .add (t 74) (t 79)),m 14
 80]) (Y [13,14,15])) X))) (O [m 68 15,ad 69 68,m 15 69])))
def tm:AC:=
 (Q (O [o 3 (.bx am (t 0)),mc 6 (s [])]) (Q (Q (Q (O [la 17 6 3,m 18 1,m 19 2,k 20 (f lL) [(t 17),(t 18),(t 19)],m 16 20,ex 21 16 0,ex 22 16 1,
 o 7 (.nw [(.int .i64 0),(.str []),(.str []),(.slice .nil 2 [])] aY),n (.st 4 (t 7) (t 21)),m 8 22]) (Y [1,2,3,8])) (Q (O [m 23 8,no 24 23]) (C 24 (Q (O [mc 6 (s
 [])]) R) X))) (Q (Q (O [fa 25 3 3,ld 26 25,m 27 1,ia 28 4 26 27,fa 29 3 28,ld 30 29,m 9 30]) (Y [1,2,3,9])) (Q (Q (O [mc 10 (i 0)]) (Q (.block 0 (.loop ⟨(some [1,2,3,9,
 10]),[],false⟩ kD)) (Y [1,2,3]))) (Q (Q (O [la 50 6 3,m 51 1,m 52 2,k 53 (f rX) [(t 50),(t 51),(t 52)],m 49 53,ex 54 49 0,ex 55 49
 1,m 11 54,m 12 55]) (Y [11,12])) (Q (Q (O [m 56 12,no 57 56]) (C 57 (Q (O [mc 6 (s [])]) R) X)) (Q (Q (O [m 58 11,m 59 11,ls 60 59,o 61 (.ar .sub (t 60) (i 1)),ia 62 1 58
 61,ld 63 62,m 13 63]) (Y [13])) (Q (O [mc 14 (s [])]) (Q (Q (O [mc 15 (i 0)]) (Q (.block 2 (.loop ⟨(some [13,14,15]),[],false⟩ ik)) (Y [14]))) (Q (Q (O [m
 81 14,lt 82 81,o 83 (.ar .gtr (t 82) (i 24))]) (C 83 (Q (O [mc 6 (s [])]) R) X)) (Q (O [m 84 14,m 6 84]) R)))))))))))
def d8:AFn:=⟨tm,85,[.t 6],.drop,[],none⟩
theorem eY:d8.res=[.t 6]∧d8.mode = .drop∧d8.dfr=none:=⟨rfl,rfl,rfl⟩
def uv:AC:=
 (Q (O [bl 9 8 7]) (Q (C 9 X (.exit 0)) (Q (.block 1 (Q (O [m 10 8,m 5 10]) (Q (Q (O [m 11 1,m 12 0,m 13 5,o 14 (.ixs (t 12) (t 13)),k 15 (t 11) [(t 14)],no 16 15]) (Y [0,1,
 7,8,16])) (C 16 (Q (O [mc 4 F]) R) X)))) (O [ad 17 8,m 8 17]))))
def Gi:AC:=
 (Q (O [mc 4 F]) (Q (Q (O [m 6 0,lt 7 6,mc 8 (i 0)]) (Q (.block 0 (.loop ⟨(some [0,1,7,8]),[],false⟩ uv)) (Y []))) (Q (O [mc 4 T]) R)))
def gk:AFn:=⟨Gi,18,[.t 4],.drop,[],none⟩
def Ad:AC:=
 (Q (O [mc 2 F]) (Q (Q (O [m 3 0,o 4 (.ar .geq (t 3) (u 33)),m 5 4,g 6 5 (.mv (t 0)),g 7 5 (.ar .leq (t 6) (u 126)),o 8 (.pk (t 5) (t 7) F),m 2 8]) (Y [2])) R))
def lR:AFn:=⟨Ad,9,[.t 2],.drop,[],none⟩
def fk:AC:=
 (Q (O [bl 32 31 30]) (Q (C 32 X (.exit 2)) (Q (.block 3 (Q (Q (O [m 33 31,ia 34 3 29 31,la 35 3 34,o 11 (.nw [(.str []),(.str []),(.slice .nil 2 [])] dK),m 10 33,n
 (.st 3 (t 11) (t 35))]) (Y [2,5,7,8,10,11,12,13,14,29,30,31])) (Q (Q (O [la 36 6 2,fa 37 0 7,ld 38 37,la 39 4 8,la 40 3 11,k 41 (f qm) [(t 36),
 (t 38),(t 39),(t 40)]]) (Y [2,5,7,8,10,11,12,13,14,29,30,31,41])) (C 41 (Q (O [m 42 5,fa 43 0 7,ld 44 43,fa 45 1 7,ld 46 45,m 47 10,o 48 (.bd [(.int .i64 0),
 (.int .i64 0),(.int .i64 0)] [(0,1),(1,1),(2,1)] [(0,(t 44)),(1,(t 46)),(2,(t 47))]),fa 49 2 7,ld 50 49,fa 51 1 11,ld 52 51,o 53 (.ar .add (t 50) (t 52)),o 54 (.bd
 [(.int .i64 0),(.int .i64 0),(.int .i64 0),(.str [])] [(0,3),(3,1)] [(0,(t 48)),(1,(t 53))]),o 55 (.bs 4 [(.int .i64 0),(.int .i64 0),(.int .i64 0),(.str [])] 1 [(0,(t
 54))]),o 56 (.ap false ee 4 40 false (t 42) (t 55)),m 5 56]) (Y [2,5,7,8,12,13,14,29,30,31])) X)))) (O [ad 57 31,m 31 57]))))
def gA:AC:=
 (Q (O [bl 15 14 13]) (Q (C 15 X (.exit 0)) (Q (Q (.block 1 (Q (Q (O [ia 16 3 12 14,la 17 3 16,o 7 (.nw [(.int .i64 0),(.int .i64 0),(.str [])] ct),n (.st 3 (t 7) (t
 17))]) (Y [2,5,7,12,13,14])) (Q (Q (O [la 19 6 2,fa 20 0 7,ld 21 20,fa 22 1 7,ld 23 22,k 24 (f k9) [(t 19),(t 21),(t 23)],m 18 24,ex 25 18 0,ex 26
 18 1,o 8 (.nw [(.int .i64 0),(.str []),(.str []),(.slice .nil 2 [])] aY),n (.st 4 (t 8) (t 25)),m 9 26]) (Y [2,5,7,8,12,13,14])) (Q (Q (O [fa 27 0 2,fa 28 5 27,
 ld 29 28,ls 30 29,mc 31 (i 0)]) (Y [2,5,7,8,12,13,14,29,30,31])) (Q (.block 2 (.loop ⟨(some [2,5,7,8,12,13,14,29,30,31]),[(5,4,ee)],true⟩
 fk)) (Y [2,5,12,13,14])))))) (Y [2,5,12,13,14])) (O [ad 58 14,m 14 58]))))
def nY:AC:=
 (Q (O [o 2 (.bx aQ (t 0)),mc 4 (.c (.slice .nil 4 []))]) (Q (O [mc 5 (.c (.slice .nil 4 []))]) (Q (Q (O [m 12 1,ls 13 12,mc 14 (i 0)]) (Q (.block 0 (.loop ⟨(some
 [2,5,12,13,14]),[(5,4,ee)],true⟩ gA)) (Y [5]))) (Q (O [m 59 5,m 4 59]) R))))
def cu:AFn:=⟨nY,60,[.t 4],.drop,[],none⟩
theorem fN:cu.res=[.t 4]∧cu.mode = .drop∧cu.dfr=none:=⟨rfl,rfl,rfl⟩
def jC:AC:=
 (Q (O [bl 23 22 21]) (Q (C 23 X (.exit 0)) (Q (.block 1 (Q (Q (O [ia 24 3 20 22,la 25 3 24,o 13 (.nw [(.int .i64 0),(.int .i64 0),(.str [])] ct),n (.st 3 (t 13) (t
 25))]) (Y [2,4,11,13,20,21,22])) (Q (Q (O [fa 26 2 13,ld 27 26,m 28 2,o 29 (.ar .eql (t 27) (t 28))]) (Y [2,4,11,13,20,21,22,29])) (C 29 (Q (D [P (m 30 11),P (m 31
 4),P (fa 33 0 13),W (ld 34 33),P (fa 35 1 13),W (ld 36 35),K (k 32 (f eh) [(t 31)]),P (o 37 (.bd [(.slice .nil 3 []),(.int .i64 0),(.int .i64
 0)] [(0,1),(1,1),(2,1)] [(0,(t 32)),(1,(t 34)),(2,(t 36))])),P (o 38 (.bs 3 [(.slice .nil 0 []),(.int .i64 0),(.int .i64 0)] 1 [(0,(t 37))])),E (o 39 (.ap false
 aA 3 40 false (t 30) (t 38))),P (m 11 39)]) (Y [2,4,11,20,21,22])) X)))) (O [ad 40 22,m 22 40]))))
def jD:AC:=
 (Q (O [bl 45 44 43]) (Q (C 45 X (.exit 2)) (Q (.block 3 (Q (Q (O [ia 46 4 42 44,la 47 4 46,o 15 (.nw [(.int .i64 0),(.int .i64 0),(.int .i64 0),(.str [])] ee),n
 (.st 4 (t 15) (t 47))]) (Y [0,1,2,3,4,11,15,42,43,44])) (Q (Q (O [m 49 2,fa 50 3 15,ld 51 50,k 52 (f tY) [(t 49),(t 51)],m 48 52,ex 53 48 0,ex 54 48
 1,m 16 53,m 17 54]) (Y [0,1,2,3,4,11,15,16,17,42,43,44])) (Q (O [m 55 17]) (C 55 (Q (D [P (m 56 11),P (m 57 0),P (m 58 1),P (m 59 16),P (m 60 3),P (o 61 (.ar .sub
 (t 60) (i 1))),P (m 62 4),P (fa 64 0 15),W (la 65 3 64),P (o 66 (.bs 3 [(.int .i64 0),(.int .i64 0),(.int .i64 0)] 1 [(0,(t 65))])),K (k 63 (f
 eh) [(t 62)]),E (o 67 (.ap false d4 3 24 false (t 63) (t 66))),K (k 68 (f pm) [(t 57),(t 58),(t 59),(t 61),(t 67)]),E
 (o 69 (.ap false aA 3 40 false (t 56) (t 68))),P (m 11 69)]) (Y [0,1,2,3,4,11,42,43,44])) X))))) (O [ad 70 44,m 44 70]))))
def pH:AC:=
 (Q (O [mc 10 (.c (.slice .nil 3 []))]) (Q (O [mc 11 (.c (.slice .nil 3 []))]) (Q (Q (O [m 18 3,o 19 (.ar .eql (t 18) (i 0))]) (C 19 (Q (Q (O [m 20 0,ls 21 20,mc 22 (i 0)]) (Q
 (.block 0 (.loop ⟨(some [2,4,11,20,21,22]),[(11,3,aA)],true⟩ jC)) (Y [11]))) (Q (O [m 41 11,m 10 41]) R)) X)) (Q (Q (O [m 42 1,ls 43 42,mc 44
 (i 0)]) (Q (.block 2 (.loop ⟨(some [0,1,2,3,4,11,42,43,44]),[(11,3,aA)],true⟩ jD)) (Y [11]))) (Q (O [m 71 11,m 10 71]) R)))))
def gh:AFn:=⟨pH,72,[.t 10],.drop,[],none⟩
theorem gi:gh.res=[.t 10]∧gh.mode = .drop∧gh.dfr=none:=⟨rfl,rfl,rfl⟩
def dv:AC:=
 (Q (Q (Q (O [m 27 13,m 28 4,m 29 12,ia 30 1 28 29,ld 31 30,ls 32 31,bl 33 27 32]) (Y [1,2,4,11,12,13,33])) (C 33 X (.exit 2))) (Q (.block 3 (Q (Q (O [m 36 4,m 37 12,ia
 38 1 36 37,ld 39 38,m 40 13,ia 41 1 39 40,ld 42 41,o 43 (.ar .neq (t 42) (s [])),m 44 43,g 45 44 (.mv (t 4)),g 46 44 (.mv (t 12)),g 47 44 (.ias 1 (t 45) (t 46)),g 48 44
 (.ld none (t 47)),g 49 44 (.mv (t 13)),g 50 44 (.ias 1 (t 48) (t 49)),g 51 44 (.ld none (t 50)),g 52 44 (.mv (t 1)),g 53 44 (.ar .eql (t 51) (t 52)),o 54 (.pk (t 44) (t 53)
 F)]) (Y [1,2,4,11,12,13,54])) (C 54 (Q (O [m 55 11,m 56 2,o 57 (.ap false d4 3 24 false (.c (.slice .nil 3 [])) (t 56)),m 58 12,m 59 13,o 60 (.bd [(.slice .nil 3
 []),(.int .i64 0),(.int .i64 0)] [(0,1),(1,1),(2,1)] [(0,(t 57)),(1,(t 58)),(2,(t 59))]),o 61 (.bs 3 [(.slice .nil 0 []),(.int .i64 0),(.int .i64 0)] 1 [(0,(t
 60))]),o 62 (.ap false aA 3 40 false (t 55) (t 61)),m 11 62]) (Y [1,2,4,11,12,13])) X))) (O [m 34 13,ad 35 34,m 13 35])))
def gN:AC:=
 (Q (Q (Q (O [m 21 12,m 22 4,ls 23 22,bl 24 21 23]) (Y [1,2,4,11,12,24])) (C 24 X (.exit 0))) (Q (Q (.block 1 (Q (O [mc 13 (i 0)]) (Q (.block 2 (.loop ⟨(some [1,2,4,11,
 12,13]),[(11,3,aA)],false⟩ dv)) (Y [1,2,4,11,12])))) (Y [1,2,4,11,12])) (O [m 25 12,ad 26 25,m 12 26])))
def cb:AC:=
 (Q (Q (Q (O [m 79 16,fa 80 5 5,ld 81 80,ls 82 81,bl 83 79 82]) (Y [1,2,3,4,5,11,14,15,16,83])) (C 83 X (.exit 8))) (Q (.block 9 (Q (Q (O [m 86 14,m 87 15,m 88 16,o
 89 (.bd [(.int .i64 0),(.int .i64 0),(.int .i64 0)] [(0,1),(1,1),(2,1)] [(0,(t 86)),(1,(t 87)),(2,(t 88))]),o 17 (.nw [(.int .i64 0),(.int .i64 0),(.int .i64 0)]
 d4),n (.st 3 (t 17) (t 89))]) (Y [1,2,3,4,5,11,14,15,16,17])) (Q (Q (D [P (m 90 4),P (m 91 14),P (ia 92 1 90 91),W (ld 93 92),P (m 94 15),P (ia 95 1 93 94),
 W (ld 96 95),P (fa 97 5 5),W (ld 98 97),P (m 99 16),P (ia 100 3 98 99),P (fa 101 1 100),W (ld 102 101),P (o 103 (.ar .add (t 96) (t 102))),P (m 18 103)]) (Y [1,2,3,4,5,
 11,14,15,16,17,18])) (Q (Q (O [m 104 4,m 105 14,ia 106 1 104 105,ld 107 106,m 108 15,ia 109 1 107 108,ld 110 109,o 111 (.ar .neq (t 110) (s [])),m 112 111,g 113 112
 (.mv (t 1)),g 114 112 (.mv (t 18)),⟨(some 115),(some (112,true)),(.call (.c (.fn (.func qn) [] [])) [(.t 113),(.t 114)])⟩,o 116 (.pk (t 112) (t 115) F),m
 117 116,g 118 117 (.ld (some 6) (t 5)),g 119 117 (.ld (some 3) (t 17)),⟨(some 120),(some (117,true)),(.call (.c (.fn (.func qo) [] [])) [(.t 118),(.t
 119)])⟩,o 121 (.pk (t 117) (t 120) F)]) (Y [1,2,3,4,5,11,14,15,16,17,18,121])) (C 121 (Q (.dops true [] [] [P (m 122 11),W (la 123 6 5),P (m 124 1),P (m 125 18),W
 (lt 126 125),P (o 127 (.sls (t 124) (some (t 126)) none)),P (m 128 2),W (la 130 3 17),P (o 131 (.bs 3 [(.int .i64 0),(.int .i64 0),(.int .i64 0)] 1 [(0,(t 130))])),P (m 133
 3),P (o 134 (.ar .sub (t 133) (i 1))),P (m 135 4),K (o 129 (.ap false d4 3 24 false (.c (.slice .nil 3 [])) (t 128))),K (o 132 (.ap false d4 3 24 false (t 129)
 (t 131))),E (k 136 (f fb) [(t 123),(t 127),(t 132),(t 134),(t 135)]),K (o 137 (.ap false aA 3 40 false (t 122) (t 136))),P (m 11 137)]) (Y
 [1,2,3,4,5,11,14,15,16])) X))))) (O [m 84 16,ad 85 84,m 16 85])))
def gO:AC:=
 (Q (Q (Q (O [m 70 15,m 71 4,m 72 14,ia 73 1 71 72,ld 74 73,ls 75 74,bl 76 70 75]) (Y [1,2,3,4,5,11,14,15,76])) (C 76 X (.exit 6))) (Q (Q (.block 7 (Q (O [mc 16 (i 0)])
 (Q (.block 8 (.loop ⟨(some [1,2,3,4,5,11,14,15,16]),[(11,3,aA)],true⟩ cb)) (Y [1,2,3,4,5,11,14,15])))) (Y [1,2,3,4,5,11,
 14,15])) (O [m 77 15,ad 78 77,m 15 78])))
def gP:AC:=
 (Q (Q (Q (O [m 64 14,m 65 4,ls 66 65,bl 67 64 66]) (Y [1,2,3,4,5,11,14,67])) (C 67 X (.exit 4))) (Q (Q (.block 5 (Q (O [mc 15 (i 0)]) (Q (.block 6 (.loop ⟨(some [1,2,3,
 4,5,11,14,15]),[(11,3,aA)],true⟩ gO)) (Y [1,2,3,4,5,11,14])))) (Y [1,2,3,4,5,11,14])) (O [m 68 14,ad 69 68,m 14 69])))
def je:AC:=
 (Q (O [o 5 (.bx am (t 0)),mc 10 (.c (.slice .nil 3 []))]) (Q (O [mc 11 (.c (.slice .nil 3 []))]) (Q (Q (O [m 19 3,o 20 (.ar .eql (t 19) (i 0))]) (C 20 (Q (Q (O [mc 12
 (i 0)]) (Q (.block 0 (.loop ⟨(some [1,2,4,11,12]),[(11,3,aA)],false⟩ gN)) (Y [11]))) (Q (O [m 63 11,m 10 63]) R)) X)) (Q (Q (O [mc 14 (i
 0)]) (Q (.block 4 (.loop ⟨(some [1,2,3,4,5,11,14]),[(11,3,aA)],true⟩ gP)) (Y [11]))) (Q (O [m 138 11,m 10 138]) R)))))
def br:AFn:=⟨je,139,[.t 10],.drop,[],none⟩
theorem aT:br.res=[.t 10]∧br.mode = .drop∧br.dfr=none:=⟨rfl,rfl,rfl⟩
def sy:AC:=
 (Q (O [o 3 (.bx aQ (t 0)),o 6 (.nw [(.int .i64 0),(.str []),(.str []),(.slice .nil 2 [])] aY),mc 7 F]) (Q (Q (Q (O [m 10 1,o 11 (.ar .lss (t 10) (i 0)),
 m 12 11,h 13 12 (.mv (t 1)),h 14 12 (.fa 0 (t 3)),h 15 12 (.fa 3 (t 14)),h 16 12 (.ld none (t 15)),h 17 12 (.len .sl (t 16)),h 18 12 (.ar .geq (t 13) (t 17)),o 19 (.pk (t 12)
 T (t 18))]) (Y [1,2,3,6,19])) (C 19 (Q (O [o 20 (.bd [(.int .i64 0),(.str []),(.str []),(.slice .nil 2 [])] [(0,1),(1,1),(2,1),(3,1)] []),n (.st 4 (t 6) (t 20)),mc 7
 F]) R) X)) (Q (Q (D [P (fa 22 0 3),W (la 23 6 22),P (fa 24 0 3),P (fa 25 3 24),W (ld 26 25),P (m 27 1),P (ia 28 4 26 27),P (fa 29 1 28),W (ld 30 29),W (k 31 (f
 ib) [(t 23),(t 30)]),P (m 21 31),P (ex 32 21 0),P (ex 33 21 1),K (o 8 (.nw [(.str []),(.slice .nil 4 [])] bo)),E (n (.st 2 (t 8) (t 32))),P (m 9 33)])
 (Y [2,6,8])) (Q (Q (Q (O [m 34 2,o 35 (.ar .lss (t 34) (i 0)),m 36 35,h 37 36 (.mv (t 2)),h 38 36 (.fa 1 (t 8)),h 39 36 (.ld none (t 38)),h 40 36 (.len .sl (t 39)),h 41 36
 (.ar .geq (t 37) (t 40)),o 42 (.pk (t 36) T (t 41))]) (Y [2,6,8,42])) (C 42 (Q (O [o 43 (.bd [(.int .i64 0),(.str []),(.str []),(.slice .nil 2 [])] [(0,1),(1,1),(2,1),
 (3,1)] []),n (.st 4 (t 6) (t 43)),mc 7 F]) R) X)) (Q (Q (O [fa 44 1 8,ld 45 44,m 46 2,ia 47 4 45 46,la 48 4 47,n (.st 4 (t 6) (t 48)),mc 7 T]) (Y [6,7])) R)))))
def gq:AFn:=⟨sy,49,[.cell 6 (some 4),.t 7],.drop,[],none⟩
theorem gr:gq.res=[.cell 6 (some 4),.t 7]∧gq.mode = .drop∧gq.dfr=none:=⟨rfl,rfl,rfl⟩
def gj:AC:=
 (Q (O [bl 29 28 27]) (Q (C 29 X (.exit 0)) (Q (.block 1 (Q (Q (O [ia 30 4 26 28,la 31 4 30,o 12 (.nw [(.str []),(.str []),(.str []),(.str [])] cP),n (.st 4 (t 12) (t
 31))]) (Y [3,8,10,12,26,27,28])) (Q (Q (Q (O [la 33 6 3,la 34 4 12,m 35 8,k 36 (f qp) [(t 33),(t 34),(t 35)],m 32 36,ex 37 32 0,ex 38 32 1,m 8 37,
 m 9 38]) (Y [3,8,9,10,26,27,28])) (Q (O [m 39 9,no 40 39]) (C 40 (Q (O [mc 6 (.c (.slice .nil 1 [])),mc 7 F]) R) X))) (Q (O [m 41 10,m 42 8,o 43 (.bs 1 [(.str [])] 1 [(0,
 (t 42))]),o 44 (.ap false bv 1 16 false (t 41) (t 43)),m 10 44]) (Y [3,8,10,26,27,28]))))) (O [ad 45 28,m 28 45]))))
def qM:AC:=
 (Q (Q (O [o 3 (.bx aQ (t 0)),o 5 (.bx aY (t 2)),mc 6 (.c (.slice .nil 1 [])),mc 7 F]) (Y [1,3,5])) (Q (Q (O [la 14 6 3,m 15 1,la 16 4 5,k 17 (f
 m6) [(t 14),(t 15),(t 16)],m 13 17,ex 18 13 0,ex 19 13 1,m 8 18,m 9 19]) (Y [3,8,9])) (Q (Q (O [m 20 9,no 21 20]) (C 21 (Q (O [mc 6 (.c (.slice
 .nil 1 [])),mc 7 F]) R) X)) (Q (O [m 22 8,o 23 (.bs 1 [(.str [])] 1 [(0,(t 22))]),m 10 23]) (Q (Q (Q (O [fa 24 0 3,fa 25 4 24,ld 26 25,ls 27 26,mc 28 (i 0)]) (Y [3,8,10,
 26,27,28])) (Q (.block 0 (.loop ⟨(some [3,8,10,26,27,28]),[(10,1,bv)],true⟩ gj)) (Y [10]))) (Q (O [m 46 10,m 6 46,mc 7 T]) R))))))
def dU:AFn:=⟨qM,47,[.t 6,.t 7],.drop,[],none⟩
theorem il:dU.res=[.t 6,.t 7]∧dU.mode = .drop∧dU.dfr=none:=⟨rfl,rfl,rfl⟩
def tn:AC:=
 (Q (O [mc 6 (s [])]) (Q (Q (O [m 7 0,m 8 1,m 9 2,k 10 (f wi) [(t 7),(t 8),(t 9),(i (-1))],m 6 10]) (Y [6])) R))
def gQ:AFn:=⟨tn,11,[.t 6],.drop,[],none⟩
theorem Gj:gQ.res=[.t 6]∧gQ.mode = .drop∧gQ.dfr=none:=⟨rfl,rfl,rfl⟩
def JN:AC:=
 (.block 1 (Q (Q (O [m 20 0,m 21 1,k 22 (f rp) [(t 20),(t 21)],m 6 22]) (Y [0,1,5,6])) (Q (Q (O [m 23 6,o 24 (.ar .eql (t 23) (i (-1)))]) (C 24 (Q (O [m 25 5,m
 4 25]) R) X)) (Q (O [m 26 5,ad 27 26,m 5 27]) (Q (O [m 28 0,m 29 6,m 30 1,lt 31 30,o 32 (.ar .add (t 29) (t 31)),o 33 (.sls (t 28) (some (t 32)) none),m 0 33]) (Y [0,1,
 5]))))))
def yH:AC:=
 (Q (O [mc 4 (i 0)]) (Q (Q (O [m 7 1,lt 8 7,o 9 (.ar .eql (t 8) (i 0))]) (C 9 (Q (Q (O [m 10 0,k 11 (f od) [(t 10)],ad 12 11,m 4 12]) (Y [4])) R)
 X)) (Q (Q (O [m 13 1,lt 14 13,o 15 (.ar .eql (t 14) (i 1))]) (C 15 (Q (Q (O [m 16 0,m 17 1,o 18 (.ixs (t 17) (i 0)),k 19 (f fA) [(t 16),(t 18)],m
 4 19]) (Y [4])) R) X)) (Q (O [mc 5 (i 0)]) (Q (.block 0 (.loop ⟨(some [0,1,5]),[],false⟩ JN)) (Y []))))))
def mE:AFn:=⟨yH,34,[.t 4],.drop,[],none⟩
theorem Mz:mE.res=[.t 4]∧mE.mode = .drop∧mE.dfr=none:=⟨rfl,rfl,rfl⟩
def yI:AC:=
 (Q (O [mc 4 (i 0)]) (Q (Q (O [m 5 0,m 6 1,k 7 (f jm) [(t 5),(t 6)],m 4 7]) (Y [4])) R))
def mF:AFn:=⟨yI,8,[.t 4],.drop,[],none⟩
theorem MA:mF.res=[.t 4]∧mF.mode = .drop∧mF.dfr=none:=⟨rfl,rfl,rfl⟩
def cC:AC:=
 (Q (Q (O [m 2 0,o 3 (.nc (t 2)),fa 4 0 3,ld 5 4,o 6 (.eq false .ptr (t 5) (.c .nilp))]) (Y [0,6])) (C 6 (Q (O [m 7 0,m 8 0,o 9 (.cvu (t 8)),k 10 (f jF)
 [(t 9)],o 11 (.cvf bP 2 (t 10)),o 12 (.nc (t 7)),fa 13 0 12,n (.st 1 (t 13) (t 11))]) (Y [])) (Q (Q (O [m 14 0,o 15 (.nc (t 14)),fa 16 0 15,ld 17 16,m 18 0,o
 19 (.eq true .ptr (t 17) (t 18))]) (Y [19])) (C 19 .bad X))))
def dV:AFn:=⟨cC,20,[],.drop,[],none⟩
theorem j9:dV.res=[]∧dV.mode = .drop∧dV.dfr=none:=⟨rfl,rfl,rfl⟩
def kE:AC:=
 (Q (O [m 4 0,k 5 (f c7) [(t 4)]]) (Q (Q (O [m 6 1,o 7 (.ar .lss (t 6) (i 0))]) (C 7 (O [o 8 (.mi bv (s [115,116,114,105,110,103,115,46,66,
 117,105,108,100,101,114,46,71,114,111,119,58,32,110,101,103,97,116,105,118,101,32,99,111,117,110,116])),⟨none,none,(.panic (.t 8))⟩]) X)) (Q (Q (D [P (m
 9 0),P (o 10 (.nc (t 9))),P (fa 11 1 10),W (ld 12 11),P (o 13 (.cap (t 12))),P (m 14 0),P (o 15 (.nc (t 14))),P (fa 16 1 15),W (ld 17 16),W (ls 18 17),P (o 19 (.ar .sub (t
 13) (t 18))),P (m 20 1),P (bl 21 19 20)]) (Y [0,1,21])) (C 21 (O [m 22 0,m 23 1,k 24 (f qq) [(t 22),(t 23)]]) X))))
def fU:AFn:=⟨kE,25,[],.keep,[],none⟩
theorem wm:fU.res=[]∧fU.mode = .keep∧fU.dfr=none:=⟨rfl,rfl,rfl⟩
def Ae:AC:=
 (Q (O [mc 2 F]) (Q (Q (O [m 3 0,k 4 (f dn) [(t 3)],m 5 4,h 6 5 (.mv (t 0)),h 7 5 (.ar .geq (t 6) (u 65)),h 8 5 (.mv (t 7)),g 9 8 (.mv (t 0)),g 10 8 (.ar .leq (t
 9) (u 90)),h 11 5 (.pk (t 8) (t 10) F),o 12 (.pk (t 5) T (t 11)),m 2 12]) (Y [2])) R))
def kF:AFn:=⟨Ae,13,[.t 2],.drop,[],none⟩
def Af:AC:=
 (Q (O [mc 3 F]) (Q (Q (O [ld 4 1,m 5 0,k 6 (t 4) [(t 5)],m 7 6,h 8 7 (.mv (t 0)),h 9 7 (.ar .geq (t 8) (u 48)),h 10 7 (.mv (t 9)),g 11 10 (.mv (t 0)),g 12 10 (.ar .leq (t
 11) (u 57)),h 13 7 (.pk (t 10) (t 12) F),o 14 (.pk (t 7) T (t 13)),m 15 14,h 16 15 (.mv (t 0)),h 17 15 (.ar .eql (t 16) (u 95)),o 18 (.pk (t 15) T (t 17)),m 3 18]) (Y [3]))
 R))
def lS:AFn:=⟨Af,19,[.t 3],.drop,[],none⟩
def cY:AC:=
 (Q (O [bl 9 8 7]) (Q (C 9 X (.exit 0)) (Q (.block 1 (Q (O [m 10 8,m 5 10]) (Q (Q (O [m 11 1,m 12 0,m 13 5,ia 14 2 12 13,la 15 2 14,k 16 (t 11) [(t 15)]]) (Y [0,1,5,7,8,
 16])) (C 16 (Q (O [m 17 5,m 4 17]) R) X)))) (O [ad 18 8,m 8 18]))))
def gR:AC:=
 (Q (O [mc 4 (i 0)]) (Q (Q (O [m 6 0,ls 7 6,mc 8 (i 0)]) (Q (.block 0 (.loop ⟨(some [0,1,7,8]),[],false⟩ cY)) (Y []))) (Q (O [mc 4 (i
 (-1))]) R)))
def a8:AFn:=⟨gR,19,[.t 4],.drop,[],none⟩
theorem gS:a8.res=[.t 4]∧a8.mode = .drop∧a8.dfr=none:=⟨rfl,rfl,rfl⟩
def fI:AC:=
 (Q (O [bl 9 8 7]) (Q (C 9 X (.exit 0)) (Q (.block 1 (Q (O [m 10 8,m 5 10]) (Q (Q (O [m 11 1,m 12 0,m 13 5,ia 14 1 12 13,ld 15 14,o 16 (.ar .eql (t 11) (t 15))]) (Y [0,1,5,
 7,8,16])) (C 16 (Q (O [m 17 5,m 4 17]) R) X)))) (O [ad 18 8,m 8 18]))))
def mG:AC:=
 (Q (O [mc 4 (i 0)]) (Q (Q (O [m 6 0,ls 7 6,mc 8 (i 0)]) (Q (.block 0 (.loop ⟨(some [0,1,7,8]),[],false⟩ fI)) (Y []))) (Q (O [mc 4 (i (-1))]) R)))
def cg:AFn:=⟨mG,19,[.t 4],.drop,[],none⟩
theorem mH:cg.res=[.t 4]∧cg.mode = .drop∧cg.dfr=none:=⟨rfl,rfl,rfl⟩
def cZ:AC:=
 (Q (O [bl 9 8 7]) (Q (C 9 X (.exit 0)) (Q (.block 1 (Q (O [m 10 8,m 5 10]) (Q (Q (O [m 11 1,m 12 0,m 13 5,ia 14 2 12 13,la 15 2 14,k 16 (t 11) [(t 15)]]) (Y [0,1,5,7,8,
 16])) (C 16 (Q (O [m 17 5,m 4 17]) R) X)))) (O [ad 18 8,m 8 18]))))
def gT:AC:=
 (Q (O [mc 4 (i 0)]) (Q (Q (O [m 6 0,ls 7 6,mc 8 (i 0)]) (Q (.block 0 (.loop ⟨(some [0,1,7,8]),[],false⟩ cZ)) (Y []))) (Q (O [mc 4 (i
 (-1))]) R)))
def bb:AFn:=⟨gT,19,[.t 4],.drop,[],none⟩
theorem gV:bb.res=[.t 4]∧bb.mode = .drop∧bb.dfr=none:=⟨rfl,rfl,rfl⟩
def j1:AC:=
 (Q (O [bl 17 16 15]) (Q (C 17 X (.exit 0)) (Q (.block 1 (Q (Q (O [m 18 16,ia 19 2 14 16,la 20 2 19,o 8 (.nw [(.str []),(.str [])] bf),m 7 18,n (.st 2 (t 8) (t 20))])
 (Y [2,7,8,14,15,16])) (Q (Q (O [m 21 2,m 22 7,la 23 2 8,k 24 (t 21) [(t 22),(t 23)],m 9 24]) (Y [2,9,14,15,16])) (Q (O [m 25 9,o 26 (.ar .neq (t 25) (u 0))]) (C 26 (Q
 (O [m 27 9,m 6 27]) R) X))))) (O [ad 28 16,m 16 28]))))
def sA:AC:=
 (Q (O [mc 6 (u 0)]) (Q (Q (Q (O [m 10 0,ls 11 10,m 12 1,o 13 (.ar .gtr (t 11) (t 12))]) (Y [0,2,13])) (C 13 (Q (O [mc 6 (u 3)]) R) X)) (Q (Q (O [m 14 0,ls 15 14,mc 16 (i 0)])
 (Q (.block 0 (.loop ⟨(some [2,14,15,16]),[],true⟩ j1)) (Y []))) (Q (O [mc 6 (u 0)]) R))))
def dH:AFn:=⟨sA,29,[.t 6],.drop,[],none⟩
theorem sB:dH.res=[.t 6]∧dH.mode = .drop∧dH.dfr=none:=⟨rfl,rfl,rfl⟩
def oS:AC:=
 (Q (O [o 5 (.bx bf (t 1)),mc 6 (u 0)]) (Q (Q (O [fa 8 0 2,fa 9 1 8,ld 10 9,o 11 (.mf (.func km) [] [(t 5)]),k 12 (f
 cw) [(t 10),(t 11)],m 7 12]) (Y [0,2,3,5,7])) (Q (.block 0 (Q (O [m 14 7,o 15 (.ar .lss (t 14) (i 0)),m 13 15]) (C 13 (Q (O [mc 6 (u 5)])
 R) (Q (Q (D [P (fa 17 0 2),P (fa 18 1 17),W (ld 19 18),P (m 20 7),P (ia 21 2 19 20),P (fa 22 1 21),W (ld 23 22),P (fa 24 1 5),W (ld 25 24),E (k 26 (f
 gH) [(t 23),(t 25)]),P (no 27 26),P (m 16 27)]) (Y [0,3,5,16])) (C 16 (Q (O [mc 6 (u 1)]) R) (Q (Q (D [P (m 29 0),P (o 30 (.ar .gtr (t 29) (i
 0))),P (m 31 30),W (g 32 31 (.ld none (t 3))),P (g 33 31 (.mv (t 0))),P (g 34 31 (.ar .sub (t 33) (i 1))),P (g 35 31 (.ias 2 (t 32) (t 34))),P (g 36 31 (.fa 0 (t 35))),W (g
 37 31 (.ld none (t 36))),P (g 38 31 (.fa 0 (t 5))),W (g 39 31 (.ld none (t 38))),P (g 40 31 (.ar .eql (t 37) (t 39))),P (o 41 (.pk (t 31) (t 40) F)),P (m 28 41)]) (Y [0,3,5,
 28])) (C 28 (Q (O [mc 6 (u 6)]) R) (Q (Q (D [P (m 43 0),P (o 44 (.ar .gtr (t 43) (i 0))),P (m 45 44),W (g 46 45 (.ld none (t 3))),P (g 47 45 (.mv (t 0))),P (g 48 45 (.ar .sub
 (t 47) (i 1))),P (g 49 45 (.ias 2 (t 46) (t 48))),P (g 50 45 (.fa 0 (t 49))),W (g 51 45 (.ld none (t 50))),P (g 52 45 (.fa 0 (t 5))),W (g 53 45 (.ld none (t 52))),P (g 54 45
 (.ar .gtr (t 51) (t 53))),P (o 55 (.pk (t 45) (t 54) F)),P (m 42 55)]) (Y [42])) (C 42 (Q (O [mc 6 (u 1)]) R) X))))))))) (Q (O [mc 6 (u 0)]) R))))
def fg:AFn:=⟨oS,56,[.t 6],.drop,[],none⟩
theorem oU:fg.res=[.t 6]∧fg.mode = .drop∧fg.dfr=none:=⟨rfl,rfl,rfl⟩
def nm:AC:=
 (Q (O [o 2 (.bx ce (t 0)),mc 3 F]) (Q (Q (O [fa 4 0 2,ld 5 4,fa 6 0 1,ld 7 6,o 8 (.ar .eql (t 5) (t 7)),m 3 8]) (Y [3])) R))
def ej:AFn:=⟨nm,9,[.t 3],.drop,[],none⟩
theorem Ag:ej.res=[.t 3]∧ej.mode = .drop∧ej.dfr=none:=⟨rfl,rfl,rfl⟩
def wn:AC:=
 (Q (O [o 2 (.bx bo (t 0)),mc 3 F]) (Q (Q (O [fa 4 0 2,ld 5 4,ld 6 1,o 7 (.ar .eql (t 5) (t 6)),m 3 7]) (Y [3])) R))
def kG:AFn:=⟨wn,8,[.t 3],.drop,[],none⟩
theorem JO:kG.res=[.t 3]∧kG.mode = .drop∧kG.dfr=none:=⟨rfl,rfl,rfl⟩
def c6:AC:=
 (Q (O [bl 9 8 7]) (Q (C 9 X (.exit 0)) (Q (.block 1 (Q (O [m 10 8,m 5 10]) (Q (Q (O [m 11 1,m 12 0,m 13 5,ia 14 4 12 13,la 15 4 14,k 16 (t 11) [(t 15)]]) (Y [0,1,5,7,8,
 16])) (C 16 (Q (O [m 17 5,m 4 17]) R) X)))) (O [ad 18 8,m 8 18]))))
def gW:AC:=
 (Q (O [mc 4 (i 0)]) (Q (Q (O [m 6 0,ls 7 6,mc 8 (i 0)]) (Q (.block 0 (.loop ⟨(some [0,1,7,8]),[],false⟩ c6)) (Y []))) (Q (O [mc 4 (i
 (-1))]) R)))
def bc:AFn:=⟨gW,19,[.t 4],.drop,[],none⟩
theorem gX:bc.res=[.t 4]∧bc.mode = .drop∧bc.dfr=none:=⟨rfl,rfl,rfl⟩
def dw:AC:=
 (Q (O [bl 9 8 7]) (Q (C 9 X (.exit 0)) (Q (.block 1 (Q (O [m 10 8,m 5 10]) (Q (Q (O [m 11 1,m 12 0,m 13 5,ia 14 4 12 13,la 15 4 14,k 16 (t 11) [(t 15)]]) (Y [0,1,5,7,8,
 16])) (C 16 (Q (O [m 17 5,m 4 17]) R) X)))) (O [ad 18 8,m 8 18]))))
def iJ:AC:=
 (Q (O [mc 4 (i 0)]) (Q (Q (O [m 6 0,ls 7 6,mc 8 (i 0)]) (Q (.block 0 (.loop ⟨(some [0,1,7,8]),[],false⟩ dw)) (Y []))) (Q (O [mc 4 (i
 (-1))]) R)))
def bk:AFn:=⟨iJ,19,[.t 4],.drop,[],none⟩
theorem iK:bk.res=[.t 4]∧bk.mode = .drop∧bk.dfr=none:=⟨rfl,rfl,rfl⟩
def gD:AC:=
 (Q (O [mc 4 F]) (Q (Q (O [m 5 0,m 6 1,k 7 (f dO) [(t 5),(t 6)],o 8 (.ar .geq (t 7) (i 0)),m 4 8]) (Y [4])) R))
def bH:AFn:=⟨gD,9,[.t 4],.drop,[],none⟩
theorem sX:bH.res=[.t 4]∧bH.mode = .drop∧bH.dfr=none:=⟨rfl,rfl,rfl⟩
def yJ:AC:=
 (Q (O [o 2 (.bx bf (t 0)),mc 3 F]) (Q (Q (O [ld 4 1,o 5 (.mf (.func sO) [] [(t 2)]),k 6 (f cj) [(t 4),(t 5)],m 3 6])
 (Y [3])) R))
def mI:AFn:=⟨yJ,7,[.t 3],.drop,[],none⟩
theorem MB:mI.res=[.t 3]∧mI.mode = .drop∧mI.dfr=none:=⟨rfl,rfl,rfl⟩
def wp:AC:=
 (Q (O [o 2 (.bx bf (t 0)),mc 3 F]) (Q (Q (O [fa 4 0 1,ld 5 4,fa 6 0 2,ld 7 6,o 8 (.ar .eql (t 5) (t 7)),m 9 8,g 10 9 (.fa 1 (t 1)),g 11 9 (.ld none (t 10)),g 12 9
 (.fa 1 (t 2)),g 13 9 (.ld none (t 12)),g 14 9 (.ar .neq (t 11) (t 13)),o 15 (.pk (t 9) (t 14) F),m 3 15]) (Y [3])) R))
def kH:AFn:=⟨wp,16,[.t 3],.drop,[],none⟩
theorem JP:kH.res=[.t 3]∧kH.mode = .drop∧kH.dfr=none:=⟨rfl,rfl,rfl⟩
def bW:AC:=
 (Q (O [bl 9 8 7]) (Q (C 9 X (.exit 0)) (Q (.block 1 (Q (O [m 10 8,m 5 10]) (Q (Q (O [m 11 1,m 12 0,m 13 5,ia 14 2 12 13,la 15 2 14,k 16 (t 11) [(t 15)]]) (Y [0,1,5,7,8,
 16])) (C 16 (Q (O [m 17 5,m 4 17]) R) X)))) (O [ad 18 8,m 8 18]))))
def fh:AC:=
 (Q (O [mc 4 (i 0)]) (Q (Q (O [m 6 0,ls 7 6,mc 8 (i 0)]) (Q (.block 0 (.loop ⟨(some [0,1,7,8]),[],false⟩ bW)) (Y []))) (Q (O [mc
 4 (i (-1))]) R)))
def aO:AFn:=⟨fh,19,[.t 4],.drop,[],none⟩
theorem fi:aO.res=[.t 4]∧aO.mode = .drop∧aO.dfr=none:=⟨rfl,rfl,rfl⟩
def tp:AC:=
 (Q (O [o 3 (.bx am (t 0)),o 6 (.nw [(.int .i64 0),(.str []),(.str []),(.slice .nil 2 [])] aY),mc 7 F]) (Q (Q (Q (O [m 9 1,o 10 (.ar .lss (t 9) (i 0)),m 11
 10,h 12 11 (.mv (t 1)),h 13 11 (.fa 3 (t 3)),h 14 11 (.ld none (t 13)),h 15 11 (.len .sl (t 14)),h 16 11 (.ar .geq (t 12) (t 15)),o 17 (.pk (t 11) T (t 16))]) (Y [1,2,3,6,
 17])) (C 17 (Q (O [o 18 (.bd [(.int .i64 0),(.str []),(.str []),(.slice .nil 2 [])] [(0,1),(1,1),(2,1),(3,1)] []),n (.st 4 (t 6) (t 18)),mc 7 F]) R) X)) (Q (Q (D [P (fa
 19 2 3),W (ld 20 19),W (la 21 6 3),P (fa 22 3 3),W (ld 23 22),P (m 24 1),P (ia 25 4 23 24),P (fa 26 1 25),W (ld 27 26),K (k 28 (f gl) [(t 21),(t 27)]),
 P (ia 29 2 20 28),P (fa 30 1 29),W (ld 31 30),P (m 8 31)]) (Y [2,6,8])) (Q (Q (Q (O [m 32 2,o 33 (.ar .lss (t 32) (i 0)),m 34 33,h 35 34 (.mv (t 2)),h 36 34 (.mv (t 8)),h
 37 34 (.len .sl (t 36)),h 38 34 (.ar .geq (t 35) (t 37)),o 39 (.pk (t 34) T (t 38))]) (Y [2,6,8,39])) (C 39 (Q (O [o 40 (.bd [(.int .i64 0),(.str []),(.str []),(.slice .nil
 2 [])] [(0,1),(1,1),(2,1),(3,1)] []),n (.st 4 (t 6) (t 40)),mc 7 F]) R) X)) (Q (Q (O [m 41 8,m 42 2,ia 43 4 41 42,la 44 4 43,n (.st 4 (t 6) (t 44)),mc 7 T]) (Y [6,
 7])) R)))))
def j4:AFn:=⟨tp,45,[.cell 6 (some 4),.t 7],.drop,[],none⟩
theorem lT:j4.res=[.cell 6 (some 4),.t 7]∧j4.mode = .drop∧j4.dfr=none:=⟨rfl,rfl,rfl⟩
def eB:AC:=
 (Q (Q (Q (O [m 62 13,fa 63 4 3,ld 64 63,ls 65 64,bl 66 62 65]) (Y [3,11,12,13,66])) (C 66 X (.exit 0))) (Q (.block 1 (Q (Q (D [W (la 70 6 3),P (fa 71 4 3),W (ld 72 71),P
 (m 73 13),P (ia 74 4 72 73),W (la 75 4 74),P (m 76 11),E (k 77 (f po) [(t 70),(t 75),(t 76)]),P (m 69 77),P (ex 78 69 0),P (ex 79 69 1),P (m 11 78),P
 (m 9 79)]) (Y [3,9,11,12,13])) (Q (Q (O [m 80 9,no 81 80]) (C 81 (Q (O [mc 6 (.c (.slice .nil 1 [])),mc 7 F]) R) X)) (Q (O [m 82 12,m 83 11,o 84 (.bs 1 [(.str [])] 1 [(0,(t
 83))]),o 85 (.ap false bv 1 16 false (t 82) (t 84)),m 12 85]) (Y [3,11,12,13]))))) (O [m 67 13,ad 68 67,m 13 68])))
def sC:AC:=
 (Q (O [o 3 (.bx am (t 0)),mc 6 (.c (.slice .nil 1 [])),mc 7 F]) (Q (Q (O [la 15 6 3,m 16 1,m 17 2,k 18 (f lL) [(t 15),(t 16),(t 17)],m 14 18,ex
 19 14 0,ex 20 14 1,o 8 (.nw [(.int .i64 0),(.str []),(.str []),(.slice .nil 2 [])] aY),n (.st 4 (t 8) (t 19)),m 9 20]) (Y [1,3,8,9])) (Q (O [mc 10 (s [])]) (Q (Q
 (O [m 21 9]) (C 21 (Q (O [fa 22 3 3,ld 23 22,m 24 1,ia 25 4 23 24,fa 26 0 25,ld 27 26,m 10 27]) (Y [3,8,9,10])) X)) (Q (Q (Q (O [m 28 9,no 29 28,m 30 29,h 31 30 (.mv (t
 10)),h 32 30 (.len .str (t 31)),h 33 30 (.fa 0 (t 8)),h 34 30 (.ld none (t 33)),h 35 30 (.ar .lss (t 32) (t 34)),o 36 (.pk (t 30) T (t 35))]) (Y [3,8,10,36])) (C 36 (Q (O
 [mc 6 (.c (.slice .nil 1 [])),mc 7 F]) R) X)) (Q (Q (O [m 37 10,m 38 10,lt 39 38,fa 40 0 8,ld 41 40,o 42 (.ar .sub (t 39) (t 41)),o 43 (.sls (t 37) none (some (t 42))),m 11
 43]) (Y [3,8,11])) (Q (Q (O [fa 44 1 8,ld 45 44,o 46 (.ar .neq (t 45) (s []))]) (C 46 (Q (O [fa 47 1 8,ld 48 47,o 49 (.ar .add (t 48) (s [43])),m 50 11,o 51 (.ar .add (t 49)
 (t 50)),m 11 51]) (Y [3,8,11])) X)) (Q (Q (O [fa 52 2 8,ld 53 52,o 54 (.ar .neq (t 53) (s []))]) (C 54 (Q (O [m 55 11,o 56 (.ar .add (t 55) (s [43])),fa 57 2 8,ld 58 57,o
 59 (.ar .add (t 56) (t 58)),m 11 59]) (Y [3,11])) X)) (Q (O [m 60 11,o 61 (.bs 1 [(.str [])] 1 [(0,(t 60))]),m 12 61]) (Q (Q (O [mc 13 (i 0)]) (Q (.block 0 (.loop ⟨(some [3,
 11,12,13]),[(12,1,bv)],false⟩ eB)) (Y [12]))) (Q (O [m 86 12,m 6 86,mc 7 T]) R)))))))))))
def er:AFn:=⟨sC,87,[.t 6,.t 7],.drop,[],none⟩
theorem eu:er.res=[.t 6,.t 7]∧er.mode = .drop∧er.dfr=none:=⟨rfl,rfl,rfl⟩
def qN:AC:=
 (Q (Q (O [o 4 (.bx aQ (t 0)),o 6 (.bx aY (t 2)),o 7 (.bx dK (t 3)),mc 8 F]) (Y [1,4,6,7])) (Q (Q (D [P (fa 9 0 4),P (fa 10 3 9),W (ld 11 10),P
 (m 12 1),P (ia 13 4 11 12),P (fa 14 1 13),W (ld 15 14),P (fa 16 0 7),W (ld 17 16),P (o 18 (.ar .eql (t 15) (t 17))),P (m 19 18),P (g 20 19 (.fa 2 (t 7))),W (g 21 19 (.ld
 none (t 20))),W (g 22 19 (.ld (some 6) (t 4))),P (g 23 19 (.mv (t 1))),W (g 24 19 (.ld (some 4) (t 6))),K (⟨(some 25),(some (19,true)),(.call (.c (.fn (.func
 qr) [] [])) [(.t 22),(.t 23),(.t 24)])⟩),K (⟨(some 26),(some (19,true)),(.call (.c (.fn (.func xI) [] [])) [(.t 21),(.t 25)])⟩),P (o 27
 (.pk (t 19) (t 26) F)),P (m 8 27)]) (Y [8])) R))
def im:AFn:=⟨qN,28,[.t 8],.drop,[],none⟩
theorem wq:im.res=[.t 8]∧im.mode = .drop∧im.dfr=none:=⟨rfl,rfl,rfl⟩
def ek:AC:=
 (Q (O [mc 2 (.c (.slice .nil 3 []))]) (Q (Q (O [m 3 0,o 4 (.eq false .sl (t 3) (.c (.slice .nil 0 [])))]) (C 4 (Q (O [mc 2 (.c (.slice .nil 3 []))]) R) X)) (Q (Q (O [o 5 (.bs 3
 [(.int .i64 0),(.int .i64 0),(.int .i64 0)] 0 []),m 6 0,o 7 (.ap false d4 3 24 false (t 5) (t 6)),m 2 7]) (Y [2])) R)))
def dc:AFn:=⟨ek,8,[.t 2],.keep,[],none⟩
theorem nn:dc.res=[.t 2]∧dc.mode = .keep∧dc.dfr=none:=⟨rfl,rfl,rfl⟩
def t8:AC:=
 (Q (O [mc 4 (s []),mc 5 F]) (Q (Q (O [m 6 0,m 7 1,k 8 (f ko) [(t 6),(t 7)],ex 9 8 0,ex 10 8 1,m 4 9,m 5 10]) (Y [4,5])) R))
def kR:AFn:=⟨t8,11,[.t 4,.t 5],.drop,[],none⟩
theorem Hp:kR.res=[.t 4,.t 5]∧kR.mode = .drop∧kR.dfr=none:=⟨rfl,rfl,rfl⟩
def qO:AC:=
 (Q (O [mc 4 F]) (Q (Q (O [m 5 0,lt 6 5,m 7 1,lt 8 7,o 9 (.ar .geq (t 6) (t 8)),m 10 9,g 11 10 (.mv (t 0)),g 12 10 (.mv (t 1)),g 13 10 (.len .str (t 12)),g 14 10 (.sls (t
 11) none (some (t 13))),g 15 10 (.mv (t 1)),g 16 10 (.ar .eql (t 14) (t 15)),o 17 (.pk (t 10) (t 16) F),m 4 17]) (Y [4])) R))
def io:AFn:=⟨qO,18,[.t 4],.drop,[],none⟩
theorem ws:io.res=[.t 4]∧io.mode = .drop∧io.dfr=none:=⟨rfl,rfl,rfl⟩
def qP:AC:=
 (Q (O [o 2 (.bx am (t 0)),o 3 (.bx d4 (t 1)),mc 4 F]) (Q (Q (Q (O [fa 9 2 3,ld 10 9,o 11 (.ar .lss (t 10) (i 0)),m 12 11,h 13 12 (.fa 2 (t 3)),h 14 12
 (.ld none (t 13)),h 15 12 (.fa 5 (t 2)),h 16 12 (.ld none (t 15)),h 17 12 (.len .sl (t 16)),h 18 12 (.ar .geq (t 14) (t 17)),o 19 (.pk (t 12) T (t 18))]) (Y [2,3,19])) (C 19
 (Q (O [mc 4 F]) R) X)) (Q (Q (O [la 21 6 2,fa 22 0 3,ld 23 22,fa 24 1 3,ld 25 24,k 26 (f lL) [(t 21),(t 23),(t 25)],m 20 26,ex 27 20 0,ex 28 20 1,o 5
 (.nw [(.int .i64 0),(.str []),(.str []),(.slice .nil 2 [])] aY),n (.st 4 (t 5) (t 27)),m 6 28]) (Y [2,3,5,6])) (Q (Q (Q (D [P (m 29 6),P (no 30 29),P (m 31 30),P
 (h 32 31 (.fa 3 (t 2))),W (h 33 31 (.ld none (t 32))),P (h 34 31 (.fa 0 (t 3))),W (h 35 31 (.ld none (t 34))),P (h 36 31 (.ias 4 (t 33) (t 35))),P (h 37 31 (.fa 1 (t 36))),W
 (h 38 31 (.ld none (t 37))),P (h 39 31 (.fa 5 (t 2))),W (h 40 31 (.ld none (t 39))),P (h 41 31 (.fa 2 (t 3))),W (h 42 31 (.ld none (t 41))),P (h 43 31 (.ias 3 (t 40) (t 42))),
 P (h 44 31 (.fa 0 (t 43))),W (h 45 31 (.ld none (t 44))),P (h 46 31 (.ar .neq (t 38) (t 45))),P (o 47 (.pk (t 31) T (t 46)))]) (Y [2,3,5,47])) (C 47 (Q (O [mc 4 F]) R) X)) (Q
 (Q (D [P (fa 49 3 2),W (ld 50 49),P (fa 51 0 3),W (ld 52 51),P (ia 53 4 50 52),P (fa 54 2 53),W (ld 55 54),P (fa 56 3 5),W (ld 57 56),E (k 58 (f nI) [(t
 55),(t 57)]),P (m 48 58),P (ex 59 48 0),P (ex 60 48 1),P (m 7 59),P (m 8 60)]) (Y [2,3,7])) (Q (Q (O [fa 61 5 2,ld 62 61,fa 63 2 3,ld 64 63,ia 65 3 62 64,fa 66 2 65,ld
 67 66,m 68 7,k 69 (f oG) [(t 67),(t 68)],m 4 69]) (Y [4])) R))))))
def ip:AFn:=⟨qP,70,[.t 4],.drop,[],none⟩
theorem kI:ip.res=[.t 4]∧ip.mode = .drop∧ip.dfr=none:=⟨rfl,rfl,rfl⟩
def m9:AC:=
 (Q (Q (O [o 3 (.bx aQ (t 0)),o 5 (.bx aY (t 2)),mc 6 (s []),mc 7 F]) (Y [1,3,5])) (Q (Q (O [fa 10 0 3,fa 11 3 10,ld 12 11,m 13 1,ia 14 4 12 13,fa 15
 0 14,ld 16 15,m 8 16]) (Y [5,8])) (Q (Q (Q (O [m 17 8,lt 18 17,fa 19 0 5,ld 20 19,bl 21 18 20]) (Y [5,8,21])) (C 21 (Q (O [mc 6 (s []),mc 7 F]) R) X)) (Q (Q (O [m 22 8,m
 23 8,lt 24 23,fa 25 0 5,ld 26 25,o 27 (.ar .sub (t 24) (t 26)),o 28 (.sls (t 22) none (some (t 27))),m 9 28]) (Y [5,9])) (Q (Q (O [fa 29 1 5,ld 30 29,o 31 (.ar .neq (t 30)
 (s []))]) (C 31 (Q (O [fa 32 1 5,ld 33 32,o 34 (.ar .add (t 33) (s [43])),m 35 9,o 36 (.ar .add (t 34) (t 35)),m 9 36]) (Y [5,9])) X)) (Q (Q (O [fa 37 2 5,ld 38 37,o 39 (.ar
 .neq (t 38) (s []))]) (C 39 (Q (O [m 40 9,fa 41 2 5,ld 42 41,o 43 (.ar .add (s [43]) (t 42)),o 44 (.ar .add (t 40) (t 43)),m 9 44]) (Y [9])) X)) (Q (O [m 45 9,m 6 45,mc 7 T])
 R)))))))
def dW:AFn:=⟨m9,46,[.t 6,.t 7],.drop,[],none⟩
theorem gB:dW.res=[.t 6,.t 7]∧dW.mode = .drop∧dW.dfr=none:=⟨rfl,rfl,rfl⟩
def fj:AC:=
 (Q (Q (Q (O [m 10 9,m 11 2,lt 12 11,bl 13 10 12]) (Y [2,3,4,8,9,13])) (C 13 X (.exit 0))) (.block 1 (Q (Q (D [P (m 14 2),P (m 15 9),P (o 16 (.sls (t 14) (some (t 15))
 none)),P (fa 17 0 4),W (ld 18 17),E (k 19 (f tZ) [(t 16),(t 18)]),P (m 20 19),W (g 21 20 (.ld (some 6) (t 3))),P (g 22 20 (.fa 2 (t 4))),W (g 23 20 (.ld
 none (t 22))),P (g 24 20 (.mv (t 2))),P (g 25 20 (.mv (t 9))),E (⟨(some 26),(some (20,true)),(.call (.c (.fn (.func rY) [] [])) [(.t 21),(.t 23),(.t 24),
 (.t 25)])⟩),P (o 27 (.pk (t 20) (t 26) F)),P (m 28 27),W (g 29 28 (.ld (some 6) (t 3))),P (g 30 28 (.fa 3 (t 4))),W (g 31 28 (.ld none (t 30))),P (g 32 28 (.mv (t 2))),P (g
 33 28 (.mv (t 9))),P (g 34 28 (.fa 0 (t 4))),W (g 35 28 (.ld none (t 34))),W (g 36 28 (.len .str (t 35))),P (g 37 28 (.ar .add (t 33) (t 36))),E (⟨(some 38),(some (28,true)),
 (.call (.c (.fn (.func qs) [] [])) [(.t 29),(.t 31),(.t 32),(.t 37)])⟩),P (o 39 (.pk (t 28) (t 38) F))]) (Y [2,3,4,8,9,39])) (C 39 (Q (O [fa 40 1 4,ld
 41 40,k 42 (f a7) [(t 8),(t 41)]]) (Q (O [m 43 9,fa 44 0 4,ld 45 44,lt 46 45,o 47 (.ar .add (t 43) (t 46)),m 9 47]) (Y [2,3,4,8,9]))) (Q (Q (O
 [m 48 2,m 49 9,o 50 (.ixs (t 48) (t 49)),k 51 (f gv) [(t 8),(t 50)]]) (Y [2,3,4,8,9])) (O [m 52 9,ad 53 52,m 9 53]))))))
def qQ:AC:=
 (Q (Q (O [o 3 (.bx aQ (t 0)),o 4 (.bx cP (t 1)),mc 6 (s []),mc 7 F]) (Y [2,3,4])) (Q (O [o 8 (.nwb [.nilp,(.slice .nil 1 [])] bP 1
 eN)]) (Q (Q (O [mc 9 (i 0)]) (Q (.block 0 (.loop ⟨(some [2,3,4,8,9]),[],false⟩ fj)) (Y [8]))) (Q (Q (O [k 54 (f dZ) [(t 8)],k
 55 (f rU) [(t 8)],o 56 (.ar .leq (t 55) (i 512)),m 6 54,m 7 56]) (Y [6,7])) R))))
def dX:AFn:=⟨qQ,57,[.t 6,.t 7],.drop,[],none⟩
theorem fV:dX.res=[.t 6,.t 7]∧dX.mode = .drop∧dX.dfr=none:=⟨rfl,rfl,rfl⟩
def mO:AC:=
 (Q (O [bl 54 53 52]) (Q (C 54 X (.exit 0)) (Q (.block 1 (Q (Q (O [m 55 11,m 56 0,m 57 11,o 58 (.sls (t 56) (some (t 57)) none),m 59 1,k 60 (f rp) [(t 58),(t 59)],
 o 61 (.ar .add (t 55) (t 60)),m 12 61]) (Y [0,1,2,10,11,12,52,53])) (Q (Q (O [m 62 0,m 63 11,m 64 12,o 65 (.sls (t 62) (some (t 63)) (some (t 64))),k 66 (f
 a7) [(t 10),(t 65)]]) (Y [0,1,2,10,12,52,53])) (Q (O [m 67 2,k 68 (f a7) [(t 10),(t 67)]]) (Q (O [m 69 12,m 70 1,lt
 71 70,o 72 (.ar .add (t 69) (t 71)),m 11 72]) (Y [0,1,2,10,11,52,53])))))) (O [ad 73 53,m 53 73]))))
def Hq:AC:=
 (Q (O [bl 79 78 77]) (Q (C 79 X (.exit 2)) (Q (.block 3 (Q (Q (O [m 81 0,m 82 11,o 83 (.sls (t 81) (some (t 82)) none),k 84 (f nQ) [(t 83)],m 80
 84,ex 85 80 0,ex 86 80 1,m 13 85,m 14 86]) (Y [0,2,10,11,14,77,78])) (Q (Q (O [m 87 11,m 88 14,o 89 (.ar .add (t 87) (t 88)),m 15 89]) (Y [0,2,10,11,15,77,78]))
 (Q (Q (O [m 90 0,m 91 11,m 92 15,o 93 (.sls (t 90) (some (t 91)) (some (t 92))),k 94 (f a7) [(t 10),(t 93)]]) (Y [0,2,10,15,77,78])) (Q (O [m 95
 2,k 96 (f a7) [(t 10),(t 95)]]) (O [m 97 15,m 11 97])))))) (O [ad 98 78,m 78 98]))))
def wt:AC:=
 (Q (O [mc 8 (s [])]) (Q (Q (Q (O [m 16 1,m 17 2,o 18 (.ar .eql (t 16) (t 17)),m 19 18,h 20 19 (.mv (t 3)),h 21 19 (.ar .eql (t 20) (i 0)),o 22 (.pk (t 19) T (t 21))]) (Y [0,
 1,2,3,22])) (C 22 (Q (O [m 23 0,m 8 23]) R) X)) (Q (Q (Q (O [m 24 0,m 25 1,k 26 (f nZ) [(t 24),(t 25)],m 9 26]) (Y [0,1,2,3,9])) (Q (O [m 27 9,o 28 (.ar
 .eql (t 27) (i 0))]) (C 28 (Q (O [m 29 0,m 8 29]) R) (Q (Q (O [m 30 3,o 31 (.ar .lss (t 30) (i 0)),m 32 31,h 33 32 (.mv (t 9)),h 34 32 (.mv (t 3)),h 35 32 (.ar .lss (t 33) (t
 34)),o 36 (.pk (t 32) T (t 35))]) (Y [0,1,2,3,9,36])) (C 36 (O [m 37 9,m 3 37]) X))))) (Q (O [o 10 (.nw [.nilp,(.slice .nil 1 [])] bP)]) (Q (Q (O [m 38 0,lt
 39 38,m 40 3,m 41 2,lt 42 41,m 43 1,lt 44 43,o 45 (.ar .sub (t 42) (t 44)),o 46 (.ar .mul (t 40) (t 45)),o 47 (.ar .add (t 39) (t 46)),k 48 (f m5) [(t
 10),(t 47)]]) (Y [0,1,2,3,10])) (Q (O [mc 11 (i 0)]) (Q (Q (O [m 49 1,lt 50 49,o 51 (.ar .gtr (t 50) (i 0))]) (C 51 (Q (O [m 52 3,mc 53 (i 0)]) (Q (.block 0 (.loop ⟨(some
 [0,1,2,10,11,52,53]),[],false⟩ mO)) (Y [0,10,11]))) (Q (O [m 74 2,k 75 (f a7) [(t 10),(t 74)]]) (Q (O [m 76 3,o 77 (.ar .sub
 (t 76) (i 1)),mc 78 (i 0)]) (Q (.block 2 (.loop ⟨(some [0,2,10,11,77,78]),[],false⟩ Hq)) (Y [0,10,11])))))) (Q (Q (O [m 99 0,m 100 11,o 101 (.sls (t 99)
 (some (t 100)) none),k 102 (f a7) [(t 10),(t 101)]]) (Y [10])) (Q (O [k 103 (f dZ) [(t 10)],m 8 103]) R)))))))))
def fJ:AFn:=⟨wt,104,[.t 8],.drop,[8],none⟩
theorem ma:fJ.res=[.t 8]∧fJ.mode = .drop∧fJ.dfr=none:=⟨rfl,rfl,rfl⟩
def vi:AC:=
 (Q (O [o 5 (.nx (t 4)),ex 6 5 0]) (Q (C 6 X (.exit 0)) (.block 1 (O [m 7 2,ad 8 7,m 2 8]))))
def wu:AC:=
 (Q (O [mc 2 (i 0)]) (Q (Q (O [m 3 0,o 4 (.rg (t 3))]) (Q (.block 0 (.loop ⟨(some [2,4]),[],false⟩ vi)) (Y [2]))) (Q (O [m 9 2,m 2 9]) R)))
def kJ:AFn:=⟨wu,10,[.t 2],.drop,[],none⟩
def vK:AC:=
 (Q (O [mc 2 (.c (.int .i32 0)),mc 3 (i 0)]) (Q (Q (Q (O [m 4 0,o 5 (.ar .neq (t 4) (s [])),m 6 5,g 7 6 (.mv (t 0)),g 8 6 (.ixs (t 7) (i 0)),g 9 6 (.ar .lss (t 8) (u 128)),o
 10 (.pk (t 6) (t 9) F)]) (Y [0,10])) (C 10 (Q (Q (O [m 11 0,o 12 (.ixs (t 11) (i 0)),o 13 (.cvi .i32 (t 12)),m 2 13,mc 3 (i 1)]) (Y [2,3])) R) (Q (O [m 15 0,k 16 (f
 tC) [(t 15)],m 14 16,ex 17 14 0,ex 18 14 1,m 2 17,m 3 18]) (Y [2,3])))) R))
def kb:AFn:=⟨vK,19,[.t 2,.t 3],.drop,[],none⟩
def xJ:AC:=
 (Q (Q (O [m 57 8,m 58 9,bl 59 57 58]) (C 59 X (.exit 1))) (.block 2 (Q (Q (Q (O [m 60 0,m 61 8,o 62 (.ixs (t 60) (t 61)),m 63 6,o 64 (.ar .neq (t 62) (t 63))]) (Y [0,1,5,6,
 7,8,9,10,64])) (C 64 (Q (Q (O [m 65 0,m 66 8,ad 67 66,m 68 9,o 69 (.sls (t 65) (some (t 67)) (some (t 68))),m 70 6,k 71 (f dz) [(t 69),(t
 70)],m 11 71]) (Y [0,1,5,6,7,8,9,10,11])) (Q (Q (O [m 72 11,o 73 (.ar .lss (t 72) (i 0))]) (C 73 (Q (O [mc 4 (i (-1))]) R) X)) (Q (O [m 74 8,m 75 11,ad 76 75,o 77 (.ar
 .add (t 74) (t 76)),m 8 77]) (Y [0,1,5,6,7,8,9,10])))) X)) (Q (Q (Q (O [m 78 0,m 79 8,ad 80 79,o 81 (.ixs (t 78) (t 80)),m 82 7,o 83 (.ar .eql (t 81) (t 82)),m 84 83,
 g 85 84 (.mv (t 0)),g 86 84 (.mv (t 8)),g 87 84 (.mv (t 8)),g 88 84 (.mv (t 5)),g 89 84 (.ar .add (t 87) (t 88)),g 90 84 (.sls (t 85) (some (t 86)) (some (t 89))),g 91 84 (.mv
 (t 1)),g 92 84 (.ar .eql (t 90) (t 91)),o 93 (.pk (t 84) (t 92) F)]) (Y [0,1,5,6,7,8,9,10,93])) (C 93 (Q (O [m 94 8,m 4 94]) R) X)) (Q (O [m 95 8,ad 96 95,m 8 96]) (Q
 (O [m 97 10,ad 98 97,m 10 98]) (Q (Q (O [m 99 5,o 100 (.ld none (.c .unk)),o 101 (.ar .leq (t 99) (t 100)),m 102 101,g 103 102 (.mv (t 10)),g 104 102 (.mv (t 8)),⟨(some
 105),(some (102,true)),(.call (.c (.fn (.func zY) [] [])) [(.t 104)])⟩,g 106 102 (.ar .gtr (t 103) (t 105)),o 107 (.pk (t 102) (t 106) F)]) (Y [0,1,5,
 6,7,8,9,10,107])) (C 107 (Q (Q (O [m 108 0,m 109 8,o 110 (.sls (t 108) (some (t 109)) none),m 111 1,k 112 (f pp) [(t 110),(t 111)],m 12 112])
 (Y [8,12])) (Q (Q (O [m 113 12,o 114 (.ar .geq (t 113) (i 0))]) (C 114 (Q (Q (O [m 115 12,m 116 8,o 117 (.ar .add (t 115) (t 116)),m 4 117]) (Y [4])) R) X)) (Q (O [mc 4 (i
 (-1))]) R))) (Q (Q (O [m 118 5,o 119 (.ld none (.c .unk)),o 120 (.ar .gtr (t 118) (t 119)),m 121 120,g 122 121 (.mv (t 10)),g 123 121 (.mv (t 8)),g 124 121 (.sh .shr (t 123)
 (.c (.int .u64 4))),g 125 121 (.ar .add (i 4) (t 124)),g 126 121 (.ar .geq (t 122) (t 125)),o 127 (.pk (t 121) (t 126) F),m 128 127,g 129 128 (.mv (t 8)),g 130 128 (.mv (t
 9)),g 131 128 (.ar .lss (t 129) (t 130)),o 132 (.pk (t 128) (t 131) F)]) (Y [0,1,5,6,7,8,9,10,132])) (C 132 (Q (Q (O [m 133 0,m 134 8,o 135 (.sls (t 133) (some (t 134))
 none),m 136 1,k 137 (f rZ) [(t 135),(t 136)],m 13 137]) (Y [8,13])) (Q (Q (O [m 138 13,o 139 (.ar .lss (t 138) (i 0))]) (C 139 (Q (O [mc
 4 (i (-1))]) R) X)) (Q (Q (O [m 140 8,m 141 13,o 142 (.ar .add (t 140) (t 141)),m 4 142]) (Y [4])) R))) X))))))))))
def mJ:AC:=
 (Q (O [mc 4 (i 0)]) (Q (O [m 14 1,lt 15 14,m 5 15]) (Q (.block 0 (Q (Q (O [m 17 5,o 18 (.ar .eql (t 17) (i 0)),m 19 18,h 20 19 (.mv (t 1)),h 21 19 (.mv (t 0)),h 22 19 (.ar
 .eql (t 20) (t 21)),o 23 (.pk (t 19) T (t 22)),m 16 23]) (Y [0,1,5,16])) (C 16 (Q (O [mc 4 (i 0)]) R) (Q (O [m 25 5,o 26 (.ar .eql (t 25) (i 1)),m 24 26]) (C 24 (Q (Q (O [m
 27 0,m 28 1,o 29 (.ixs (t 28) (i 0)),k 30 (f dz) [(t 27),(t 29)],m 4 30]) (Y [4])) R) (Q (Q (O [m 32 5,m 33 0,lt 34 33,o 35 (.ar .geq (t 32) (t
 34)),m 31 35]) (Y [0,1,5,31])) (C 31 (Q (O [mc 4 (i (-1))]) R) (Q (Q (O [m 37 5,o 38 (.ld none (.c .unk)),o 39 (.ar .leq (t 37) (t 38)),m 40 39,g 41 40 (.mv (t 0)),g 42 40
 (.len .str (t 41)),g 43 40 (.ar .leq (t 42) (i 64)),o 44 (.pk (t 40) (t 43) F),m 36 44]) (Y [0,1,5,36])) (C 36 (Q (Q (O [m 45 0,m 46 1,k 47 (f
 pp) [(t 45),(t 46)],m 4 47]) (Y [4])) R) X))))))))) (Q (O [m 48 1,o 49 (.ixs (t 48) (i 0)),m 6 49]) (Q (O [m 50 1,o 51 (.ixs (t 50) (i 1)),m 7 51])
 (Q (O [mc 8 (i 0)]) (Q (Q (O [m 52 0,lt 53 52,m 54 5,o 55 (.ar .sub (t 53) (t 54)),ad 56 55,m 9 56]) (Y [0,1,5,6,7,8,9])) (Q (O [mc 10 (i 0)]) (Q (Q (.block 1 (.loop
 ⟨(some [0,1,5,6,7,8,9,10]),[],false⟩ xJ)) (Y [])) (Q (O [mc 4 (i (-1))]) R))))))))))
def dL:AFn:=⟨mJ,143,[.t 4],.drop,[],none⟩
theorem rz:dL.res=[.t 4]∧dL.mode = .drop∧dL.dfr=none:=⟨rfl,rfl,rfl⟩
def qR:AC:=
 (Q (Q (D [P (m 5 0),P (o 6 (.nc (t 5))),P (fa 7 1 6),W (ld 8 7),P (o 9 (.cap (t 8))),P (o 10 (.ar .mul (i 2) (t 9))),P (m 11 1),P (o 12 (.ar .add (t 10) (t 11))),P (m 14 0),
 P (o 15 (.nc (t 14))),P (fa 16 1 15),W (ld 17 16),W (ls 18 17),K (k 13 (f ez) [(t 12)]),P (o 19 (.sll 1 (t 13) none (some (t 18)) none)),P (m 4
 19)]) (Y [0,4])) (Q (Q (O [m 20 4,m 21 0,o 22 (.nc (t 21)),fa 23 1 22,ld 24 23,o 25 (.cp 1 false (t 20) (t 24))]) (Y [0,4])) (Q (O [m 26 0,m 27 4,o 28 (.nc (t 26)),fa 29 1
 28,n (.st 1 (t 29) (t 27))]) (Y []))))
def fW:AFn:=⟨qR,30,[],.keep,[],none⟩
theorem Ex:fW.res=[]∧fW.mode = .keep∧fW.dfr=none:=⟨rfl,rfl,rfl⟩
def dx:AC:=
 (Q (O [bl 9 8 7]) (Q (C 9 X (.exit 0)) (Q (.block 1 (Q (O [m 10 8,m 5 10]) (Q (Q (O [m 11 1,m 12 0,m 13 5,ia 14 2 12 13,la 15 2 14,k 16 (t 11) [(t 15)]]) (Y [0,1,5,7,8,
 16])) (C 16 (Q (O [m 17 5,m 4 17]) R) X)))) (O [ad 18 8,m 8 18]))))
def iL:AC:=
 (Q (O [mc 4 (i 0)]) (Q (Q (O [m 6 0,ls 7 6,mc 8 (i 0)]) (Q (.block 0 (.loop ⟨(some [0,1,7,8]),[],false⟩ dx)) (Y []))) (Q (O [mc 4 (i
 (-1))]) R)))
def bn:AFn:=⟨iL,19,[.t 4],.drop,[],none⟩
theorem iM:bn.res=[.t 4]∧bn.mode = .drop∧bn.dfr=none:=⟨rfl,rfl,rfl⟩
def eQ:AC:=
 (Q (Q (Q (O [m 10 9,m 11 2,lt 12 11,bl 13 10 12]) (Y [2,3,4,8,9,13])) (C 13 X (.exit 0))) (.block 1 (Q (Q (O [la 14 6 3,la 15 4 4,m 16 2,m 17 9,k 18 (f
 pq) [(t 14),(t 15),(t 16),(t 17)]]) (Y [2,3,4,8,9,18])) (C 18 (Q (Q (O [m 19 8,fa 20 1 4,ld 21 20,o 22 (.ar .add (t 19) (t 21)),m 8 22]) (Y [2,3,
 4,8,9])) (Q (O [m 23 9,fa 24 0 4,ld 25 24,lt 26 25,o 27 (.ar .add (t 23) (t 26)),m 9 27]) (Y [2,3,4,8,9]))) (Q (Q (O [m 28 8,m 29 2,m 30 9,m 31 9,ad 32 31,o 33 (.sls
 (t 29) (some (t 30)) (some (t 32))),o 34 (.ar .add (t 28) (t 33)),m 8 34]) (Y [2,3,4,8,9])) (O [m 35 9,ad 36 35,m 9 36]))))))
def pI:AC:=
 (Q (Q (O [o 3 (.bx am (t 0)),o 4 (.bx cP (t 1)),mc 6 (s []),mc 7 F]) (Y [2,3,4])) (Q (O [mc 8 (s [])]) (Q (Q (O [mc 9 (i 0)]) (Q (.block 0 (.loop ⟨(some [2,
 3,4,8,9]),[],false⟩ eQ)) (Y [8]))) (Q (Q (O [m 37 8,m 38 8,lt 39 38,o 40 (.ar .leq (t 39) (i 512)),m 6 37,m 7 40]) (Y [6,7])) R))))
def eD:AFn:=⟨pI,41,[.t 6,.t 7],.drop,[],none⟩
theorem j6:eD.res=[.t 6,.t 7]∧eD.mode = .drop∧eD.dfr=none:=⟨rfl,rfl,rfl⟩
def xK:AC:=
 (Q (O [o 3 (.bx fc (t 1)),mc 4 F]) (Q (Q (O [m 5 0,o 6 (.mf (.func qt) [] [(t 3)]),k 7 (f cj) [(t 5),(t 6)],no 8
 7,m 4 8]) (Y [4])) R))
def nh:AFn:=⟨xK,9,[.t 4],.drop,[],none⟩
theorem KU:nh.res=[.t 4]∧nh.mode = .drop∧nh.dfr=none:=⟨rfl,rfl,rfl⟩
def qS:AC:=
 (Q (O [o 3 (.bx aQ (t 0)),o 5 (.bx aY (t 2)),mc 6 (.c (.slice .nil 2 []))]) (Q (Q (D [P (fa 7 0 3),P (fa 8 3 7),W (ld 9 8),P (m 10 1),P (ia 11 4 9 10),P
 (fa 12 2 11),W (ld 13 12),P (fa 14 3 5),W (ld 15 14),E (k 16 (f Ch) [(t 13),(t 15)]),P (m 6 16)]) (Y [6])) R))
def iq:AFn:=⟨qS,17,[.t 6],.drop,[],none⟩
theorem Ey:iq.res=[.t 6]∧iq.mode = .drop∧iq.dfr=none:=⟨rfl,rfl,rfl⟩
def kK:AC:=
 (Q (O [mc 4 (s []),mc 5 F]) (Q (Q (Q (O [m 6 0,m 7 1,k 8 (f gy) [(t 6),(t 7)],no 9 8]) (Y [0,1,9])) (C 9 (Q (O [m 10 0,m 4 10,mc 5 F]) R) X))
 (Q (Q (O [m 11 0,m 12 1,lt 13 12,o 14 (.sls (t 11) (some (t 13)) none),m 4 14,mc 5 T]) (Y [4,5])) R)))
def dE:AFn:=⟨kK,15,[.t 4,.t 5],.drop,[],none⟩
theorem og:dE.res=[.t 4,.t 5]∧dE.mode = .drop∧dE.dfr=none:=⟨rfl,rfl,rfl⟩
def gY:AC:=
 (Q (Q (Q (O [m 14 7,m 15 1,ls 16 15,bl 17 14 16]) (Y [0,1,5,6,7,17])) (C 17 X (.exit 2))) (Q (.block 3 (Q (D [P (m 20 6),P (m 21 20),P (h 22 21 (.mv (t 0))),P (h 23 21
 (.mv (t 5))),P (h 24 21 (.ias 2 (t 22) (t 23))),W (h 25 21 (.ld (some 2) (t 24))),P (h 26 21 (.mv (t 1))),P (h 27 21 (.mv (t 7))),P (h 28 21 (.ias 2 (t 26) (t 27))),W (h 29 21
 (.ld (some 2) (t 28))),P (h 30 21 (.eq false (.st [(0,.str),(1,.str)]) (t 25) (t 29))),P (o 31 (.pk (t 21) T (t 30))),P (m 6 31)]) (Y [0,1,5,6,7]))) (O [m 18 7,ad 19 18,
 m 7 19])))
def gZ:AC:=
 (Q (Q (Q (O [m 8 5,m 9 0,ls 10 9,bl 11 8 10]) (Y [0,1,5,11])) (C 11 X (.exit 0))) (Q (Q (.block 1 (Q (O [mc 6 F]) (Q (Q (O [mc 7 (i 0)]) (Q (.block 2 (.loop ⟨(some [0,1,5,
 6,7]),[],false⟩ gY)) (Y [0,1,5,6]))) (Q (O [m 32 6,no 33 32]) (C 33 (Q (O [mc 4 F]) R) X))))) (Y [0,1,5])) (O [m 12 5,ad 13 12,m 5 13])))
def oV:AC:=
 (Q (O [mc 4 F]) (Q (Q (O [mc 5 (i 0)]) (Q (.block 0 (.loop ⟨(some [0,1,5]),[],false⟩ gZ)) (Y []))) (Q (O [mc 4 T]) R)))
def cI:AFn:=⟨oV,34,[.t 4],.drop,[],none⟩
theorem jf:cI.res=[.t 4]∧cI.mode = .drop∧cI.dfr=none:=⟨rfl,rfl,rfl⟩
def ua:AC:=
 (Q (O [mc 4 F]) (Q (Q (O [m 5 0,m 6 1,k 7 (f gy) [(t 5),(t 6)],m 4 7]) (Y [4])) R))
def iN:AFn:=⟨ua,8,[.t 4],.drop,[],none⟩
theorem Hr:iN.res=[.t 4]∧iN.mode = .drop∧iN.dfr=none:=⟨rfl,rfl,rfl⟩
def j7:AC:=
 (Q (O [bl 13 12 11]) (Q (C 13 X (.exit 0)) (Q (.block 1 (Q (O [m 14 12,m 9 14]) (Q (Q (D [W (la 15 6 4),P (m 16 1),P (m 17 1),W (lt 18 17),P (o 19 (.ar .sub (t 18) (i 1))),P
 (m 20 9),P (o 21 (.ar .sub (t 19) (t 20))),P (o 22 (.ixs (t 16) (t 21))),P (m 23 2),P (m 24 3),P (o 25 (.ar .sub (t 24) (i 1))),P (m 26 9),P (o 27 (.ar .sub (t 25) (t 26))),
 E (k 28 (f m7) [(t 15),(t 22),(t 23),(t 27)]),P (no 29 28)]) (Y [1,2,3,4,11,12,29])) (C 29 (Q (O [mc 8 F]) R) X)))) (O [ad 30 12,m 12 30]))))
def sD:AC:=
 (Q (O [o 4 (.bx aQ (t 0)),mc 8 F]) (Q (Q (O [m 10 1,lt 11 10,mc 12 (i 0)]) (Q (.block 0 (.loop ⟨(some [1,2,3,4,11,12]),[],false⟩ j7)) (Y
 []))) (Q (O [mc 8 T]) R)))
def ew:AFn:=⟨sD,31,[.t 8],.drop,[],none⟩
theorem sE:ew.res=[.t 8]∧ew.mode = .drop∧ew.dfr=none:=⟨rfl,rfl,rfl⟩
def jg:AC:=
 (Q (O [bl 13 12 11]) (Q (C 13 X (.exit 0)) (Q (.block 1 (Q (O [m 14 12,m 9 14]) (Q (Q (D [W (la 15 6 4),P (m 16 1),P (m 17 9),P (o 18 (.ixs (t 16) (t 17))),P (m 19 2),P (m 20
 3),P (m 21 9),P (o 22 (.ar .add (t 20) (t 21))),E (k 23 (f m7) [(t 15),(t 18),(t 19),(t 22)]),P (no 24 23)]) (Y [1,2,3,4,11,12,24])) (C 24 (Q (O [mc
 8 F]) R) X)))) (O [ad 25 12,m 12 25]))))
def qT:AC:=
 (Q (O [o 4 (.bx aQ (t 0)),mc 8 F]) (Q (Q (O [m 10 1,lt 11 10,mc 12 (i 0)]) (Q (.block 0 (.loop ⟨(some [1,2,3,4,11,12]),[],false⟩ jg))
 (Y []))) (Q (O [mc 8 T]) R)))
def dY:AFn:=⟨qT,26,[.t 8],.drop,[],none⟩
theorem qV:dY.res=[.t 8]∧dY.mode = .drop∧dY.dfr=none:=⟨rfl,rfl,rfl⟩
def tD:AC:=
 (Q (O [mc 2 (.c (.int .i32 0)),mc 3 (i 0)]) (Q (O [m 13 0,lt 14 13,m 4 14]) (Q (Q (O [m 15 4,o 16 (.ar .lss (t 15) (i 1))]) (C 16 (Q (O [mc 2 (.c (.int .i32 65533)),mc 3 (i
 0)]) R) X)) (Q (O [m 17 0,o 18 (.ixs (t 17) (i 0)),m 5 18]) (Q (Q (O [m 19 5,o 20 (.iaa 256 1 (.c .unk) (t 19)),ld 21 20,m 6 21]) (Y [0,4,5,6])) (Q (Q (O [m 22 6,o 23 (.ar
 .geq (t 22) (u 240))]) (C 23 (Q (Q (O [m 24 6,o 25 (.cvi .i32 (t 24)),o 26 (.sh .shl (t 25) (.c (.int .u64 31))),o 27 (.sh .shr (t 26) (.c (.int .u64 31))),m 7 27]) (Y [0,7]))
 (Q (Q (O [m 28 0,o 29 (.ixs (t 28) (i 0)),o 30 (.cvi .i32 (t 29)),m 31 7,o 32 (.an (t 30) (t 31)),m 33 7,o 34 (.ar .and (.c (.int .i32 65533)) (t 33)),o 35 (.ar .or (t 32) (t
 34)),m 2 35,mc 3 (i 1)]) (Y [2,3])) R)) X)) (Q (Q (O [m 36 6,o 37 (.ar .and (t 36) (u 7)),o 38 (.cvi .i64 (t 37)),m 8 38]) (Y [0,4,5,6,8])) (Q (Q (O [m 39 6,o 40 (.sh
 .shr (t 39) (.c (.int .u64 4))),o 41 (.iaa 16 2 (.c .unk) (t 40)),la 42 2 41,o 9 (.nw [(.int .u8 0),(.int .u8 0)] Iv),n (.st 2 (t 9) (t 42))]) (Y [0,4,5,8,
 9])) (Q (Q (O [m 43 4,m 44 8,bl 45 43 44]) (C 45 (Q (O [mc 2 (.c (.int .i32 65533)),mc 3 (i 1)]) R) X)) (Q (O [m 46 0,o 47 (.ixs (t 46) (i 1)),m 10 47]) (Q (Q (Q (O [m 48 10,
 fa 49 0 9,ld 50 49,bl 51 48 50,m 52 51,h 53 52 (.fa 1 (t 9)),h 54 52 (.ld none (t 53)),h 55 52 (.mv (t 10)),h 56 52 (.ar .lss (t 54) (t 55)),o 57 (.pk (t 52) T (t 56))]) (Y
 [0,5,8,10,57])) (C 57 (Q (O [mc 2 (.c (.int .i32 65533)),mc 3 (i 1)]) R) X)) (Q (Q (O [m 58 8,o 59 (.ar .leq (t 58) (i 2))]) (C 59 (Q (Q (O [m 60 5,o 61 (.ar .and (t 60) (u
 31)),o 62 (.cvi .i32 (t 61)),o 63 (.sh .shl (t 62) (.c (.int .u64 6))),m 64 10,o 65 (.ar .and (t 64) (u 63)),o 66 (.cvi .i32 (t 65)),o 67 (.ar .or (t 63) (t 66)),m 2 67,mc 3
 (i 2)]) (Y [2,3])) R) X)) (Q (O [m 68 0,o 69 (.ixs (t 68) (i 2)),m 11 69]) (Q (Q (Q (O [m 70 11,o 71 (.ar .lss (t 70) (u 128)),m 72 71,h 73 72 (.mv (t 11)),h 74 72 (.ar .lss
 (u 191) (t 73)),o 75 (.pk (t 72) T (t 74))]) (Y [0,5,8,10,11,75])) (C 75 (Q (O [mc 2 (.c (.int .i32 65533)),mc 3 (i 1)]) R) X)) (Q (Q (O [m 76 8,o 77 (.ar .leq (t 76) (i
 3))]) (C 77 (Q (Q (O [m 78 5,o 79 (.ar .and (t 78) (u 15)),o 80 (.cvi .i32 (t 79)),o 81 (.sh .shl (t 80) (.c (.int .u64 12))),m 82 10,o 83 (.ar .and (t 82) (u 63)),o 84 (.cvi
 .i32 (t 83)),o 85 (.sh .shl (t 84) (.c (.int .u64 6))),o 86 (.ar .or (t 81) (t 85)),m 87 11,o 88 (.ar .and (t 87) (u 63)),o 89 (.cvi .i32 (t 88)),o 90 (.ar .or (t 86) (t 89)),
 m 2 90,mc 3 (i 3)]) (Y [2,3])) R) X)) (Q (O [m 91 0,o 92 (.ixs (t 91) (i 3)),m 12 92]) (Q (Q (Q (O [m 93 12,o 94 (.ar .lss (t 93) (u 128)),m 95 94,h 96 95 (.mv (t 12)),h 97
 95 (.ar .lss (u 191) (t 96)),o 98 (.pk (t 95) T (t 97))]) (Y [5,10,11,12,98])) (C 98 (Q (O [mc 2 (.c (.int .i32 65533)),mc 3 (i 1)]) R) X)) (Q (Q (O [m 99 5,o 100 (.ar .and
 (t 99) (u 7)),o 101 (.cvi .i32 (t 100)),o 102 (.sh .shl (t 101) (.c (.int .u64 18))),m 103 10,o 104 (.ar .and (t 103) (u 63)),o 105 (.cvi .i32 (t 104)),o 106 (.sh .shl (t 105)
 (.c (.int .u64 12))),o 107 (.ar .or (t 102) (t 106)),m 108 11,o 109 (.ar .and (t 108) (u 63)),o 110 (.cvi .i32 (t 109)),o 111 (.sh .shl (t 110) (.c (.int .u64 6))),o 112 (.ar
 .or (t 107) (t 111)),m 113 12,o 114 (.ar .and (t 113) (u 63)),o 115 (.cvi .i32 (t 114)),o 116 (.ar .or (t 112) (t 115)),m 2 116,mc 3 (i 4)]) (Y [2,3])) R))))))))))))))))))
def ir:AFn:=⟨tD,117,[.t 2,.t 3],.drop,[],none⟩
def eZ:AC:=
 (Q (O [mc 4 (i 0)]) (Q (Q (O [m 5 0,m 6 1,k 7 (f ei) [(t 5),(t 6)],m 4 7]) (Y [4])) R))
def cJ:AFn:=⟨eZ,8,[.t 4],.drop,[],none⟩
theorem oh:cJ.res=[.t 4]∧cJ.mode = .drop∧cJ.dfr=none:=⟨rfl,rfl,rfl⟩
def Ah:AC:=
 (Q (O [mc 2 (i 0)]) (Q (Q (O [m 3 0,o 4 (.ar .add (t 3) (i 16)),o 5 (.ar .quo (t 4) (i 8)),m 2 5]) (Y [2])) R))
def np:AFn:=⟨Ah,6,[.t 2],.drop,[],none⟩
def qW:AC:=
 (Q (Q (O [m 18 9,m 19 7,bl 20 18 19]) (C 20 X (.exit 0))) (Q (.block 1 (Q (O [m 23 8,o 24 (.ar .mul (t 23) (.c (.int .u32 16777619))),m 25 0,m 26 9,o 27 (.ixs (t 25) (t 26)),
 o 28 (.cvi .u32 (t 27)),o 29 (.ar .add (t 24) (t 28)),m 8 29]) (Y [0,1,5,6,7,8,9]))) (O [m 21 9,ad 22 21,m 9 22])))
def qX:AC:=
 (Q (Q (Q (O [m 41 10,m 42 0,lt 43 42,bl 44 41 43]) (Y [0,1,5,6,7,8,10,44])) (C 44 X (.exit 2))) (.block 3 (Q (O [m 45 8,o 46 (.ar .mul (t 45) (.c (.int .u32 16777619))),
 m 8 46]) (Q (Q (O [m 47 8,m 48 0,m 49 10,o 50 (.ixs (t 48) (t 49)),o 51 (.cvi .u32 (t 50)),o 52 (.ar .add (t 47) (t 51)),m 8 52]) (Y [0,1,5,6,7,8,10])) (Q (Q (O [m 53 8,
 m 54 6,m 55 0,m 56 10,m 57 7,o 58 (.ar .sub (t 56) (t 57)),o 59 (.ixs (t 55) (t 58)),o 60 (.cvi .u32 (t 59)),o 61 (.ar .mul (t 54) (t 60)),o 62 (.ar .sub (t 53) (t 61)),m 8
 62]) (Y [0,1,5,6,7,8,10])) (Q (O [m 63 10,ad 64 63,m 10 64]) (Q (Q (O [m 65 8,m 66 5,o 67 (.ar .eql (t 65) (t 66)),m 68 67,g 69 68 (.mv (t 0)),g 70 68 (.mv (t 10)),g
 71 68 (.mv (t 7)),g 72 68 (.ar .sub (t 70) (t 71)),g 73 68 (.mv (t 10)),g 74 68 (.sls (t 69) (some (t 72)) (some (t 73))),g 75 68 (.mv (t 1)),g 76 68 (.ar .eql (t 74) (t 75)),
 o 77 (.pk (t 68) (t 76) F)]) (Y [0,1,5,6,7,8,10,77])) (C 77 (Q (Q (O [m 78 10,m 79 7,o 80 (.ar .sub (t 78) (t 79)),m 4 80]) (Y [4])) R) X))))))))
def sF:AC:=
 (Q (O [mc 4 (i 0)]) (Q (Q (O [m 12 1,k 13 (f vJ) [(t 12)],m 11 13,ex 14 11 0,ex 15 11 1,m 5 14,m 6 15]) (Y [0,1,5,6])) (Q (O [m 16 1,lt 17
 16,m 7 17]) (Q (O [mc 8 (.c (.int .u32 0))]) (Q (Q (O [mc 9 (i 0)]) (Q (.block 0 (.loop ⟨(some [0,1,5,6,7,8,9]),[],false⟩ qW)) (Y
 [0,1,5,6,7,8]))) (Q (Q (Q (O [m 30 8,m 31 5,o 32 (.ar .eql (t 30) (t 31)),m 33 32,g 34 33 (.mv (t 0)),g 35 33 (.mv (t 7)),g 36 33 (.sls (t 34) none (some (t 35))),g 37
 33 (.mv (t 1)),g 38 33 (.ar .eql (t 36) (t 37)),o 39 (.pk (t 33) (t 38) F)]) (Y [0,1,5,6,7,8,39])) (C 39 (Q (O [mc 4 (i 0)]) R) X)) (Q (Q (O [m 40 7,m 10 40]) (Q (.block 2
 (.loop ⟨(some [0,1,5,6,7,8,10]),[],false⟩ qX)) (Y []))) (Q (O [mc 4 (i (-1))]) R))))))))
def gu:AFn:=⟨sF,81,[.t 4],.drop,[],none⟩
def iE:AC:=
 (Q (Q (Q (O [m 32 9,fa 33 2 5,ld 34 33,lt 35 34,bl 36 32 35]) (Y [2,3,4,5,9,36])) (C 36 X (.exit 0))) (Q (.block 1 (Q (Q (D [W (la 39 6 4),P (fa 40 2 5),W (ld 41 40),P
 (fa 42 2 5),W (ld 43 42),W (lt 44 43),P (o 45 (.ar .sub (t 44) (i 1))),P (m 46 9),P (o 47 (.ar .sub (t 45) (t 46))),P (o 48 (.ixs (t 41) (t 47))),P (m 49 2),P (m 50 3),P (o
 51 (.ar .sub (t 50) (i 1))),P (m 52 9),P (o 53 (.ar .sub (t 51) (t 52))),E (k 54 (f l9) [(t 39),(t 48),(t 49),(t 53)]),P (no 55 54)]) (Y [2,3,4,5,9,
 55])) (C 55 (Q (O [mc 8 F]) R) X))) (O [m 37 9,ad 38 37,m 9 38])))
def iF:AC:=
 (Q (Q (Q (O [m 56 10,fa 57 3 5,ld 58 57,lt 59 58,bl 60 56 59]) (Y [2,3,4,5,10,60])) (C 60 X (.exit 2))) (Q (.block 3 (Q (Q (D [W (la 63 6 4),P (fa 64 3 5),W (ld 65 64),P
 (m 66 10),P (o 67 (.ixs (t 65) (t 66))),P (m 68 2),P (m 69 3),P (fa 70 0 5),W (ld 71 70),W (lt 72 71),P (o 73 (.ar .add (t 69) (t 72))),P (m 74 10),P (o 75 (.ar .add (t 73)
 (t 74))),E (k 76 (f l9) [(t 63),(t 67),(t 68),(t 75)]),P (no 77 76)]) (Y [2,3,4,5,10,77])) (C 77 (Q (O [mc 8 F]) R) X))) (O [m 61 10,ad 62 61,m 10
 62])))
def pJ:AC:=
 (Q (O [o 4 (.bx am (t 0)),o 5 (.bx cP (t 1)),mc 8 F]) (Q (Q (Q (D [P (m 11 3),P (fa 12 0 5),W (ld 13 12),W (lt 14 13),P (o 15 (.ar .add (t 11) (t 14))),P
 (m 16 2),W (lt 17 16),P (o 18 (.ar .gtr (t 15) (t 17))),P (m 19 18),P (h 20 19 (.mv (t 2))),P (h 21 19 (.mv (t 3))),P (h 22 19 (.mv (t 3))),P (h 23 19 (.fa 0 (t 5))),W (h 24
 19 (.ld none (t 23))),W (h 25 19 (.len .str (t 24))),P (h 26 19 (.ar .add (t 22) (t 25))),P (h 27 19 (.sls (t 20) (some (t 21)) (some (t 26)))),P (h 28 19 (.fa 0 (t 5))),W (h
 29 19 (.ld none (t 28))),P (h 30 19 (.ar .neq (t 27) (t 29))),P (o 31 (.pk (t 19) T (t 30)))]) (Y [2,3,4,5,31])) (C 31 (Q (O [mc 8 F]) R) X)) (Q (Q (O [mc 9 (i 0)]) (Q (.block
 0 (.loop ⟨(some [2,3,4,5,9]),[],false⟩ iE)) (Y [2,3,4,5]))) (Q (Q (O [mc 10 (i 0)]) (Q (.block 2 (.loop ⟨(some [2,3,4,5,10]),[],false⟩
 iF)) (Y []))) (Q (O [mc 8 T]) R)))))
def cW:AFn:=⟨pJ,78,[.t 8],.drop,[],none⟩
theorem gG:cW.res=[.t 8]∧cW.mode = .drop∧cW.dfr=none:=⟨rfl,rfl,rfl⟩
def vj:AC:=
 (Q (O [o 2 (.bx bf (t 0)),mc 3 F]) (Q (Q (O [ld 4 1,la 5 2 2,k 6 (f iZ) [(t 4),(t 5)],no 7 6,m 3 7]) (Y [3])) R))
def lm:AFn:=⟨vj,8,[.t 3],.drop,[],none⟩
theorem Iw:lm.res=[.t 3]∧lm.mode = .drop∧lm.dfr=none:=⟨rfl,rfl,rfl⟩
def jh:AC:=
 (Q (O [o 3 (.bx bf (t 1)),mc 4 F]) (Q (Q (O [m 5 0,la 6 2 3,k 7 (f kp) [(t 5),(t 6)],o 8 (.ar .geq (t 7) (i 0)),m 4 8]) (Y [4])) R))
def cX:AFn:=⟨jh,9,[.t 4],.drop,[],none⟩
theorem uw:cX.res=[.t 4]∧cX.mode = .drop∧cX.dfr=none:=⟨rfl,rfl,rfl⟩
def Ct:AC:=
 (Q (O [mc 4 (.c (.slice .nil 2 []))]) (Q (Q (O [m 6 0,m 7 1,o 8 (.bs 1 [(.slice .nil 0 [])] 2 [(0,(t 6)),(1,(t 7))]),k 9 (f gb) [(t 8)],m 5 9])
 (Y [5])) (Q (O [m 10 5,k 11 (f bI) [(t 10),(f jn)]]) (Q (O [m 12 5,k 13 (f fO) [(t 12)],m 4 13])
 R))))
def rQ:AFn:=⟨Ct,14,[.t 4],.frz,[],none⟩
theorem Ib:rQ.res=[.t 4]∧rQ.mode = .frz∧rQ.dfr=none:=⟨rfl,rfl,rfl⟩
def kL:AC:=
 (Q (O [mc 4 F]) (Q (Q (O [m 5 0,lt 6 5,m 7 1,lt 8 7,o 9 (.ar .geq (t 6) (t 8)),m 10 9,g 11 10 (.mv (t 0)),g 12 10 (.mv (t 1)),g 13 10 (.len .str (t 12)),g 14 10 (.sls (t
 11) none (some (t 13))),g 15 10 (.mv (t 1)),g 16 10 (.ar .eql (t 14) (t 15)),o 17 (.pk (t 10) (t 16) F),m 4 17]) (Y [4])) R))
def cK:AFn:=⟨kL,18,[.t 4],.drop,[],none⟩
theorem om:cK.res=[.t 4]∧cK.mode = .drop∧cK.dfr=none:=⟨rfl,rfl,rfl⟩
def qY:AC:=
 (Q (O [o 4 (.bx aQ (t 0)),mc 8 F]) (Q (Q (Q (O [m 11 3,o 12 (.ar .lss (t 11) (i 0)),m 13 12,h 14 13 (.mv (t 3)),h 15 13 (.mv (t 2)),h 16 13 (.len .str (t 15)),h
 17 13 (.ar .geq (t 14) (t 16)),o 18 (.pk (t 13) T (t 17))]) (Y [1,2,3,4,18])) (C 18 (Q (Q (O [m 19 1,o 20 (.ar .eql (t 19) (u 35)),m 21 20,g 22 21 (.mv (t 3)),g 23 21 (.ar
 .eql (t 22) (i (-1))),g 24 21 (.mv (t 23)),h 25 24 (.mv (t 3)),h 26 24 (.mv (t 2)),h 27 24 (.len .str (t 26)),h 28 24 (.ar .eql (t 25) (t 27)),g 29 21 (.pk (t 24) T (t 28)),o
 30 (.pk (t 21) (t 29) F),m 8 30]) (Y [8])) R) X)) (Q (Q (O [m 31 2,m 32 3,o 33 (.ixs (t 31) (t 32)),m 9 33]) (Y [1,4,9])) (Q (Q (O [fa 34 0 4,fa 35 0 34,ld 36 35,m 37 9,k
 38 (f t6) [(t 36),(t 37)],o 39 (.ar .geq (t 38) (i 0)),m 10 39]) (Y [1,9,10])) (Q (Q (O [m 40 1]) (.block 0 (Q (.block 2 (Q (.block 1 (Q (Q (Q (O [o 42 (.ar
 .eql (t 40) (u 67)),m 41 42]) (C 41 (.exit 1) X)) (Q (O [o 44 (.ar .eql (t 40) (u 86)),m 43 44]) (C 43 (.exit 2) X))) (.exit 0))) (O [m 45 10,no 46 45,m 10 46]))) (Q (Q (Q (O [m
 47 9,k 48 (f dn) [(t 47)],m 49 48,g 50 49 (.mv (t 10)),o 51 (.pk (t 49) (t 50) F),m 8 51]) (Y [8])) R) (.exit 0))))) (Q (Q (O [m 52 1,m 53 9,o 54 (.ar .eql (t 52)
 (t 53)),m 8 54]) (Y [8])) R))))))
def fX:AFn:=⟨qY,55,[.t 8],.drop,[],none⟩
theorem qZ:fX.res=[.t 8]∧fX.mode = .drop∧fX.dfr=none:=⟨rfl,rfl,rfl⟩
def ux:AC:=
 (Q (Q (Q (O [m 9 5,m 10 0,lt 11 10,bl 12 9 11]) (Y [0,4,5,12])) (C 12 X (.exit 0))) (Q (.block 1 (Q (O [m 15 4,o 16 (.ar .mul (t 15) (.c (.int .u32 16777619))),m 17 0,m 18
 5,o 19 (.ixs (t 17) (t 18)),o 20 (.cvi .u32 (t 19)),o 21 (.ar .add (t 16) (t 20)),m 4 21]) (Y [0,4,5]))) (O [m 13 5,ad 14 13,m 5 14])))
def uy:AC:=
 (Q (Q (O [m 24 8,o 25 (.ar .gtr (t 24) (i 0))]) (C 25 X (.exit 2))) (Q (.block 3 (Q (Q (O [m 28 8,o 29 (.ar .and (t 28) (i 1)),o 30 (.ar .neq (t 29) (i 0))]) (C 30 (Q (O [m 31 6,
 m 32 7,o 33 (.ar .mul (t 31) (t 32)),m 6 33]) (Y [4,6,7,8])) X)) (Q (O [m 34 7,m 35 7,o 36 (.ar .mul (t 34) (t 35)),m 7 36]) (Y [4,6,7,8])))) (O [m 26 8,o 27 (.sh .shr
 (t 26) (.c (.int .u64 1))),m 8 27])))
def vL:AC:=
 (Q (O [mc 2 (.c (.int .u32 0)),mc 3 (.c (.int .u32 0))]) (Q (O [mc 4 (.c (.int .u32 0))]) (Q (Q (O [mc 5 (i 0)]) (Q (.block 0 (.loop ⟨(some [0,4,5]),[],false⟩
 ux)) (Y [0,4]))) (Q (O [mc 6 (.c (.int .u32 1)),mc 7 (.c (.int .u32 16777619))]) (Q (Q (O [m 22 0,lt 23 22,m 8 23]) (Q (.block 2 (.loop ⟨(some
 [4,6,7,8]),[],false⟩ uy)) (Y [4,6]))) (Q (Q (O [m 37 4,m 38 6,m 2 37,m 3 38]) (Y [2,3])) R))))))
def kd:AFn:=⟨vL,39,[.t 2,.t 3],.drop,[],none⟩
def iG:AC:=
 (Q (Q (Q (O [m 31 10,fa 32 0 4,ld 33 32,lt 34 33,bl 35 31 34]) (Y [1,2,3,4,9,10,35])) (C 35 X (.exit 0))) (Q (.block 1 (Q (D [P (m 38 9),P (m 39 38),P (h 40 39 (.fa 0 (t
 4))),W (h 41 39 (.ld none (t 40))),P (h 42 39 (.mv (t 10))),P (h 43 39 (.ixs (t 41) (t 42))),P (h 44 39 (.mv (t 2))),P (h 45 39 (.mv (t 3))),P (h 46 39 (.ixs (t 44) (t 45))),
 P (h 47 39 (.ar .eql (t 43) (t 46))),P (o 48 (.pk (t 39) T (t 47))),P (m 9 48)]) (Y [1,2,3,4,9,10]))) (O [m 36 10,ad 37 36,m 10 37])))
def pK:AC:=
 (Q (O [o 4 (.bx am (t 0)),mc 8 F]) (Q (Q (Q (O [m 11 3,o 12 (.ar .lss (t 11) (i 0)),m 13 12,h 14 13 (.mv (t 3)),h 15 13 (.mv (t 2)),h 16 13 (.len .str (t 15)),h 17
 13 (.ar .geq (t 14) (t 16)),o 18 (.pk (t 13) T (t 17))]) (Y [1,2,3,4,18])) (C 18 (Q (Q (O [m 19 1,o 20 (.ar .eql (t 19) (u 35)),m 21 20,g 22 21 (.mv (t 3)),g 23 21 (.ar
 .eql (t 22) (i (-1))),g 24 21 (.mv (t 23)),h 25 24 (.mv (t 3)),h 26 24 (.mv (t 2)),h 27 24 (.len .str (t 26)),h 28 24 (.ar .eql (t 25) (t 27)),g 29 21 (.pk (t 24) T (t 28)),o
 30 (.pk (t 21) (t 29) F),m 8 30]) (Y [8])) R) X)) (Q (O [mc 9 F]) (Q (Q (O [mc 10 (i 0)]) (Q (.block 0 (.loop ⟨(some [1,2,3,4,9,10]),[],false⟩ iG)) (Y
 [1,2,3,9]))) (Q (Q (O [m 49 1]) (.block 2 (Q (O [o 51 (.ar .eql (t 49) (u 86)),m 50 51]) (C 50 (Q (O [m 52 9,m 8 52]) R) (Q (O [o 54 (.ar .eql (t 49) (u 67)),m 53 54]) (C 53
 (Q (Q (O [m 55 2,m 56 3,o 57 (.ixs (t 55) (t 56)),k 58 (f ii) [(t 57)],m 59 58,g 60 59 (.mv (t 9)),g 61 59 (.un .not (t 60)),o 62 (.pk (t 59) (t 61) F),m
 8 62]) (Y [8])) R) X)))))) (Q (Q (O [m 63 1,m 64 2,m 65 3,o 66 (.ixs (t 64) (t 65)),o 67 (.ar .eql (t 63) (t 66)),m 8 67]) (Y [8])) R))))))
def eG:AFn:=⟨pK,68,[.t 8],.drop,[],none⟩
theorem j8:eG.res=[.t 8]∧eG.mode = .drop∧eG.dfr=none:=⟨rfl,rfl,rfl⟩
def em:AC:=
 (Q (O [bl 9 8 7]) (Q (C 9 X (.exit 0)) (Q (.block 1 (Q (O [m 10 8,m 5 10]) (Q (Q (D [W (la 11 2 3),P (m 12 0),P (m 13 5),P (ia 14 2 12 13),W (la 15 2 14),P (o 16 (.eq false
 (.st [(0,.str),(1,.str)]) (t 11) (t 15)))]) (Y [0,3,5,7,8,16])) (C 16 (Q (O [m 17 5,m 4 17]) R) X)))) (O [ad 18 8,m 8 18]))))
def kM:AC:=
 (Q (O [o 3 (.bx bf (t 1)),mc 4 (i 0)]) (Q (Q (O [m 6 0,ls 7 6,mc 8 (i 0)]) (Q (.block 0 (.loop ⟨(some [0,3,7,8]),[],false⟩ em)) (Y
 []))) (Q (O [mc 4 (i (-1))]) R)))
def b5:AFn:=⟨kM,19,[.t 4],.drop,[],none⟩
theorem kN:b5.res=[.t 4]∧b5.mode = .drop∧b5.dfr=none:=⟨rfl,rfl,rfl⟩
def ji:AC:=
 (Q (O [bl 12 11 10]) (Q (C 12 X (.exit 0)) (Q (.block 1 (Q (O [ia 13 1 9 11,ld 14 13,m 5 14]) (Q (Q (O [m 15 3,m 16 5,ls 17 16,o 18 (.ar .add (t 15) (t 17)),m 3 18]) (Y [0,3,
 9,10,11])) (Q (O [m 19 3,o 20 (.ar .lss (t 19) (i 0))]) (C 20 (O [o 21 (.mi bv (s [108,101,110,32,111,117,116,32,111,102,32,114,97,110,103,101])),⟨none,
 none,(.panic (.t 21))⟩]) X))))) (O [ad 22 11,m 11 22]))))
def jj:AC:=
 (Q (O [bl 28 27 26]) (Q (C 28 X (.exit 2)) (Q (.block 3 (Q (O [ia 29 1 25 27,ld 30 29,m 8 30]) (Q (O [m 31 6,m 32 8,o 33 (.ap true bf 2 32 false (t 31) (t 32)),m 6 33])
 (Y [6,25,26,27])))) (O [ad 34 27,m 27 34]))))
def eK:AC:=
 (Q (O [mc 2 (.c (.slice .nil 2 []))]) (Q (O [mc 3 (i 0)]) (Q (Q (O [m 9 0,ls 10 9,mc 11 (i 0)]) (Q (.block 0 (.loop ⟨(some [0,3,9,10,11]),[],false⟩
 ji)) (Y [0,3]))) (Q (O [m 23 3,k 24 (f gI) [(.c (.slice .nil 2 [])),(t 23)],m 6 24]) (Q (Q (O [m 25 0,ls 26 25,mc
 27 (i 0)]) (Q (.block 2 (.loop ⟨(some [6,25,26,27]),[],false⟩ jj)) (Y [6]))) (Q (O [m 35 6,m 2 35]) R))))))
def dl:AFn:=⟨eK,36,[.t 2],.keep,[13],none⟩
theorem nR:dl.res=[.t 2]∧dl.mode = .keep∧dl.dfr=none:=⟨rfl,rfl,rfl⟩
def MC:AC:=
 (Q (O [o 2 (.bx bf (t 0)),o 3 (.bx bf (t 1)),mc 4 (i 0)]) (Q (Q (O [fa 5 0 2,ld 6 5,fa 7 0 3,ld 8 7,k 9 (f JK) [(t 6),(t 8)],m 4 9]) (Y [4]))
 R))
def E5:AFn:=⟨MC,10,[.t 4],.drop,[],none⟩
def JQ:AC:=
 (Q (O [mc 4 (i 0)]) (Q (Q (O [m 5 0,m 6 1,k 7 (f wj) [(t 5),(t 6)],m 4 7]) (Y [4])) R))
def BY:AFn:=⟨JQ,8,[.t 4],.drop,[],none⟩
def cL:AC:=
 (Q (Q (Q (O [m 29 5,m 30 4,ls 31 30,bl 32 29 31]) (Y [0,3,4,5,32])) (C 32 X (.exit 2))) (Q (.block 3 (Q (Q (D [P (m 35 4),P (m 36 5),P (ia 37 2 35 36),W (la 38 2 37),P (m
 39 4),P (m 40 5),P (o 41 (.ar .sub (t 40) (i 1))),P (ia 42 2 39 41),W (la 43 2 42),P (o 44 (.eq true (.st [(0,.str),(1,.str)]) (t 38) (t 43)))]) (Y [0,3,4,5,44])) (C 44
 (Q (Q (O [m 45 0,m 46 3,m 47 4,m 48 5,ia 49 2 47 48,la 50 2 49,ia 51 2 45 46,n (.st 2 (t 51) (t 50))]) (Y [0,3,4,5])) (O [m 52 3,ad 53 52,m 3 53])) X))) (O [m 33 5,ad
 34 33,m 5 34])))
def cM:AC:=
 (Q (Q (Q (O [m 10 3,m 11 0,ls 12 11,bl 13 10 12]) (Y [0,3,13])) (C 13 X (.exit 0))) (Q (Q (.block 1 (Q (Q (D [P (m 16 0),P (m 17 3),P (ia 18 2 16 17),W (la 19 2 18),P (m 20
 0),P (m 21 3),P (o 22 (.ar .sub (t 21) (i 1))),P (ia 23 2 20 22),W (la 24 2 23),P (o 25 (.eq false (.st [(0,.str),(1,.str)]) (t 19) (t 24)))]) (Y [0,3,25])) (C 25 (Q (Q (O
 [m 26 0,m 27 3,o 28 (.sll 2 (t 26) (some (t 27)) none none),m 4 28]) (Y [0,3,4])) (Q (Q (O [mc 5 (i 1)]) (Q (.block 2 (.loop ⟨(some [0,3,4,5]),[],false⟩
 cL)) (Y [0,3]))) (Q (Q (O [m 54 0,m 55 3,o 56 (.sll 2 (t 54) (some (t 55)) none none),n (.cl 2 [(.str []),(.str [])] (t 56))]) (Y [0,3])) (Q
 (Q (O [m 57 0,m 58 3,o 59 (.sll 2 (t 57) none (some (t 58)) none),m 2 59]) (Y [2])) R)))) X))) (Y [0,3])) (O [m 14 3,ad 15 14,m 3 15])))
def cr:AC:=
 (Q (O [mc 2 (.c (.slice .nil 2 []))]) (Q (Q (O [m 6 0,ls 7 6,o 8 (.ar .lss (t 7) (i 2))]) (C 8 (Q (O [m 9 0,m 2 9]) R) X)) (Q (Q (O [mc 3 (i 1)]) (Q (.block 0 (.loop ⟨(some [0,
 3]),[],false⟩ cM)) (Y [0]))) (Q (O [m 60 0,m 2 60]) R))))
def bh:AFn:=⟨cr,61,[.t 2],.drop,[],none⟩
theorem bA:bh.res=[.t 2]∧bh.mode = .drop∧bh.dfr=none:=⟨rfl,rfl,rfl⟩
def ub:AC:=
 (Q (O [mc 4 (i 0)]) (Q (Q (O [m 5 0,m 6 1,k 7 (f dz) [(t 5),(t 6)],m 4 7]) (Y [4])) R))
def iO:AFn:=⟨ub,8,[.t 4],.drop,[],none⟩
theorem Hs:iO.res=[.t 4]∧iO.mode = .drop∧iO.dfr=none:=⟨rfl,rfl,rfl⟩
def fo:AC:=
 (Q (O [mc 4 (.c (.slice .nil 2 []))]) (Q (Q (O [m 5 1,o 6 (.ar .lss (t 5) (i 0))]) (C 6 (O [o 7 (.mi bv (s [99,97,110,110,111,116,32,98,101,32,110,101,103,97,
 116,105,118,101])),⟨none,none,(.panic (.t 7))⟩]) X)) (Q (Q (Q (O [m 8 1,m 9 0,o 10 (.cap (t 9)),m 11 0,ls 12 11,o 13 (.ar .sub (t 10) (t 12)),o 14 (.ar .sub (t 8) (t
 13)),m 1 14]) (Y [0,1])) (Q (O [m 15 1,o 16 (.ar .gtr (t 15) (i 0))]) (C 16 (Q (O [m 17 0,m 18 0,o 19 (.cap (t 18)),o 20 (.sll 2 (t 17) none (some (t 19)) none),m 21 1,o 22
 (.apz bf 2 32 [(.str []),(.str [])] (t 20) (t 21)),m 23 0,ls 24 23,o 25 (.sll 2 (t 22) none (some (t 24)) none),m 0 25]) (Y [0])) X))) (Q (O [m 26 0,m 4 26]) R))))
def dP:AFn:=⟨fo,27,[.t 4],.keep,[],none⟩
theorem oY:dP.res=[.t 4]∧dP.mode = .keep∧dP.dfr=none:=⟨rfl,rfl,rfl⟩
def wv:AC:=
 (Q (O [mc 4 (i 0)]) (Q (Q (O [m 5 0,m 6 1,k 7 (f pU) [(t 5),(t 6)],m 4 7]) (Y [4])) R))
def oo:AFn:=⟨wv,8,[.t 4],.drop,[],none⟩
end
end Go.Am
