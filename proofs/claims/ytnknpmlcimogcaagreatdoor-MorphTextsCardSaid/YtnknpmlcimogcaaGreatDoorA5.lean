import Derived.Test.YtnknpmlcimogcaaGreatDoorA4
import Derived.Test.YtnknpmlcimogcaaGreatDoorChecked
import Derived.KernelRfl
/-
  Part 5 of the tool: an abstract machine over the model, proved sound, and what it says of the functions that the law reaches. Condition: none but those that each theorem names.
-/
set_option linter.unusedVariables false
set_option linter.unusedSimpArgs false
set_option maxRecDepth 100000
set_option maxHeartbeats 4000000
namespace Go.Am
open Go.RowKit
section
open Sh
def kN:AC:=
 (Q (O [o 3 (.bx ab (t 1)),mc 4 F]) (Q (Q (Q (O [la 15 6 3,k1 16 kX 15,m 17 16,h 18 17 (.mv (t 0)),h 19 17 (.len .str (t 18)),h 20 17 (.ar .gtr (t
 19) (i 6000)),h 21 17 (.mv (t 20)),g 22 21 (.mv (t 0)),g 23 21 (.len .str (t 22)),g 24 21 (.ar .leq (t 23) (i 65536)),h 25 17 (.pk (t 21) (t 24) F),pt 26 17 25]) (Y [0,3,
 26])) (C 26 (Q (O [k 27 (f cU) [],m 4 27]) R) X)) (Q (Q (O [m 29 0,k1 30 js 29,m 28 30,ex 31 28 0,ex 32 28 1,ex 33 28 2,o 5 (.nw [(.str []),
 (.slice .nil 2 []),(.slice .nil 2 []),(.slice .nil 4 []),(.slice .nil 4 []),(.slice .nil 3 [])] ab),n (.st 6 (t 5) (t 31)),m 6 32,m 7 33]) (Y [0,3,5,6,7])) (Q
 (Q (O [m 35 0,k1 36 eQ 35,m 34 36,ex 37 34 0,ex 38 34 1,ex 39 34 2,o 8 (.nw [(.str []),(.slice .nil 2 []),(.slice .nil 2 []),(.slice .nil 4 []),(.slice
 .nil 4 []),(.slice .nil 3 [])] ab),n (.st 6 (t 8) (t 37)),m 9 38,m 10 39]) (Y [3,5,6,7,8,9,10])) (Q (Q (O [la 41 6 3,k1 42 rr 41,m 40 42,ex 43 40
 0,ex 44 40 1,m 11 43,m 12 44]) (Y [3,5,6,7,8,9,10,11,12])) (Q (Q (O [la 46 6 3,k1 47 oL 46,m 45 47,ex 48 45 0,ex 49 45 1,m 13 48,m 14 49]) (Y [5,
 6,7,8,9,10,11,12,13,14])) (Q (Q (D [Pm 50 6,Pm 51 9,P (ar 52 .eql 50 51),Pm 53 52,P (g 54 53 (.mv (t 7))),P (g 55 53 (.mv (t 10))),P (g 56 53 (.ar .eql (t 54) (t
 55))),P (pf 57 53 56),Pm 58 57,W (g 59 58 (.ld (some 6) (t 5))),W (g 61 58 (.ld (some 6) (t 8))),K (⟨(some 60),(some (58,true)),(.call (.c (.fn (.func jz)
 [] [])) [(.t 59)])⟩),K (⟨(some 62),(some (58,true)),(.call (.c (.fn (.func jz) [] [])) [(.t 61)])⟩),P (g 63 58 (.ar .eql (t 60) (t 62))),P (pf 64 58 63),Pm
 65 64,P (g 66 65 (.mv (t 11))),P (g 67 65 (.mv (t 13))),P (g 68 65 (.ar .eql (t 66) (t 67))),P (pf 69 65 68),Pm 70 69,P (g 71 70 (.mv (t 12))),P (g 72 70 (.mv (t 14))),P (g
 73 70 (.ar .eql (t 71) (t 72))),P (pf 74 70 73),Pm 75 74,K (⟨(some 76),(some (75,true)),(.call (.c (.fn (.func cU) [] [])) [])⟩),P (pf 77 75 76),Pm 4 77])
 (Y [4])) R)))))))
def kO:Zj:=⟨kN,78,[.t 4],.drop,[],none⟩
theorem iw:qf kO [.t 4] .drop:=⟨rfl,rfl,rfl⟩
def w6:AC:=
 (Q (O [o 1 (.bx ab (t 0)),mc 2 F]) (Q (Q (O [la 10 6 1,k1 11 kX 10]) (C 11 (Q (O [k 12 (f cU) [],m 2 12]) R) X)) (Q (Q (O [la 14
 6 1,k1 15 rr 14,m 13 15,ex 16 13 0,ex 17 13 1,m 3 16,m 4 17]) (Y [3,4])) (Q (Q (O [m 18 4,ac 19 .neq 18 (u 0)]) (C 19 (Q (Q (O [m 20 3,ac 21 .eql 20 (s []),m 22
 21,⟨(some 23),(some (22,true)),(.call (.c (.fn (.func cU) [] [])) [])⟩,pf 24 22 23,m 2 24]) (Y [2])) R) X)) (Q (Q (O [m 26 3,k1 27 js 26,m 25
 27,ex 28 25 0,ex 29 25 1,ex 30 25 2,o 5 (.nw [(.str []),(.slice .nil 2 []),(.slice .nil 2 []),(.slice .nil 4 []),(.slice .nil 4 []),(.slice .nil 3 [])] ab),n
 (.st 6 (t 5) (t 28)),m 6 29,m 7 30]) (Y [3,5,6,7])) (Q (Q (O [la 32 6 5,k1 33 rr 32,m 31 33,ex 34 31 0,ex 35 31 1,m 8 34,m 9 35]) (Y [3,5,6,7,8,9])) (Q (Q
 (O [m 36 6,ac 37 .eql 36 (i 0),m 38 37,g 39 38 (.mv (t 7)),g 40 38 (.ar .eql (t 39) (u 0)),pf 41 38 40,m 42 41,g 43 42 (.mv (t 9)),g 44 42 (.ar .eql (t 43) (u 0)),pf 45 42
 44,m 46 45,g 47 46 (.mv (t 3)),g 48 46 (.mv (t 8)),g 49 46 (.ar .eql (t 47) (t 48)),pf 50 46 49,m 51 50,g 52 51 (.ld (some 6) (t 5)),⟨(some 53),(some (51,true)),(.call
 (.c (.fn (.func ml) [] [])) [(.t 52)])⟩,g 54 51 (.ar .eql (t 53) (u 0)),pf 55 51 54,m 56 55,⟨(some 57),(some (56,true)),(.call (.c (.fn (.func
 cU) [] [])) [])⟩,pf 58 56 57,m 2 58]) (Y [2])) R)))))))
def w7:Zj:=⟨w6,59,[.t 2],.drop,[],none⟩
def gI:AC:=
 (Q (Q (Q (O [m 76 6,fa 77 1 1,ld 78 77,m 79 5,ia 80 2 78 79,fa 81 1 80,ld 82 81,ls 83 82,bl 84 76 83,m 85 84,g 86 85 (.mv (t 6)),g 87 85 (.ar .lss (t 86) (i 100)),pf 88
 85 87]) (Y [1,3,4,5,6,88])) (C 88 X (.exit 2))) (Q (.block 3 (Q (D [Wl 91 3,Pf 92 1 1,Wl 93 92,Pm 94 5,P (ia 95 2 93 94),Pf 96 1 95,Wl 97 96,Pm 98 6,P (ia 99 1 97 98),
 Wl 100 99,W (lt 101 100),P (o 102 (.ar .add (i 1) (t 101))),P (ar 103 .add 91 102),E (n (.st 1 (t 3) (t 103)))]) (Y [1,3,4,5,6]))) (ic 89 6 90)))
def gJ:AC:=
 (Q (Q (Q (O [m 59 5,fa 60 1 1,ld 61 60,ls 62 61,bl 63 59 62]) (Y [1,3,4,5,63])) (C 63 X (.exit 0))) (Q (Q (.block 1 (Q (Q (D [Wl 66 3,Pf 67 1 1,Wl 68 67,Pm 69 5,P (ia 70
 2 68 69),Pf 71 0 70,Wl 72 71,W (lt 73 72),P (o 74 (.ar .add (i 1) (t 73))),P (ar 75 .add 66 74),E (n (.st 1 (t 3) (t 75)))]) (Y [1,3,4,5])) (Q (Q (O [mc 6 (i 0)]) (Q
 (.block 2 (lo [1,3,4,5,6] gI)) (Y [1,3,4,5]))) (Q (D [Wl 104 3,Pf 105 1 1,Wl 106 105,Pm 107 5,P (ia 108 2 106 107),Pf 109 1 108,Wl 110 109,W (ls
 111 110),P (ar 112 .add 104 111),E (n (.st 1 (t 3) (t 112)))]) (Y [1,3,4,5]))))) (Y [1,3,4,5])) (ic 64 5 65)))
def gK:AC:=
 (Q (Q (Q (O [m 158 8,fa 159 2 1,ld 160 159,m 161 7,ia 162 2 160 161,fa 163 1 162,ld 164 163,ls 165 164,bl 166 158 165]) (Y [1,3,4,7,8,166])) (C 166 X (.exit 6))) (Q
 (.block 7 (Q (Q (O [fa 169 2 1,ld 170 169,m 171 7,ia 172 2 170 171,fa 173 1 172,ld 174 173,m 175 8,ia 176 4 174 175,la 177 4 176,o 9 (.nw [(.int .i64 0),(.str []),(.str
 []),(.slice .nil 2 [])] bX),n (.st 4 (t 9) (t 177))]) (Y [1,3,4,7,8,9])) (Q (Q (O [ld 178 3,fa 179 1 9,ld 180 179,lt 181 180,o 182 (.ar .add (i 1) (t 181)),fa
 183 2 9,ld 184 183,lt 185 184,ar 186 .add 182 185,ar 187 .add 178 186,n (.st 1 (t 3) (t 187))]) (Y [1,3,4,7,8,9])) (Q (O [m 188 4,fa 189 3 9,ld 190 189,k 191 (t 188)
 [(t 190)]]) (Y [1,3,4,7,8]))))) (ic 167 8 168)))
def gL:AC:=
 (Q (Q (Q (O [m 113 7,fa 114 2 1,ld 115 114,ls 116 115,bl 117 113 116]) (Y [1,3,4,7,117])) (C 117 X (.exit 4))) (Q (Q (.block 5 (Q (Q (Q (O [fa 120 2 1,ld 121 120,m 122 7,
 ia 123 2 121 122,fa 124 1 123,ld 125 124,ls 126 125,ac 127 .gtr 126 (i 12),m 128 127,g 129 128 (.fa 2 (t 1)),g 130 128 (.ld none (t 129)),g 131 128 (.mv (t 7)),g 132 128
 (.ias 2 (t 130) (t 131)),g 133 128 (.fa 1 (t 132)),g 134 128 (.ld none (t 133)),g 135 128 (.len .sl (t 134)),g 136 128 (.ar .leq (t 135) (i 24)),pf 137 128 136,m 138 137,h
 139 138 (.fa 2 (t 1)),h 140 138 (.ld none (t 139)),h 141 138 (.mv (t 7)),h 142 138 (.ias 2 (t 140) (t 141)),h 143 138 (.fa 1 (t 142)),h 144 138 (.ld none (t 143)),h 145 138
 (.len .sl (t 144)),h 146 138 (.ar .gtr (t 145) (i 60)),pt 147 138 146]) (Y [1,3,4,7,147])) (C 147 (rt 2 T) X)) (Q (Q (D [Wl 148 3,Pf 149 2 1,Wl 150 149,Pm 151 7,P (ia 152
 2 150 151),Pf 153 0 152,Wl 154 153,W (lt 155 154),P (o 156 (.ar .add (i 1) (t 155))),P (ar 157 .add 148 156),E (n (.st 1 (t 3) (t 157)))]) (Y [1,3,4,7])) (Q (O [mc 8 (i
 0)]) (Q (.block 6 (lc [1,3,4,7,8] gK)) (Y [1,3,4,7])))))) (Y [1,3,4,7])) (ic 118 7 119)))
def gM:AC:=
 (Q (Q (Q (O [m 222 12,fa 223 3 11,ld 224 223,ls 225 224,bl 226 222 225,m 227 226,g 228 227 (.mv (t 12)),g 229 227 (.ar .lss (t 228) (i 100)),pf 230 227 229]) (Y [1,3,4,
 10,11,12,230])) (C 230 X (.exit 10))) (Q (.block 11 (Q (D [Wl 233 3,Pf 234 3 11,Wl 235 234,Pm 236 12,P (ia 237 2 235 236),Pf 238 1 237,Wl 239 238,W (lt 240 239),P (ar 241
 .add 233 240),E (n (.st 1 (t 3) (t 241)))]) (Y [1,3,4,10,11,12]))) (ic 231 12 232)))
def gN:AC:=
 (Q (Q (Q (O [m 192 10,fa 193 3 1,ld 194 193,ls 195 194,bl 196 192 195]) (Y [1,3,4,10,196])) (C 196 X (.exit 8))) (Q (Q (.block 9 (Q (Q (O [fa 199 3 1,ld 200 199,m 201 10,
 ia 202 4 200 201,la 203 4 202,o 11 (.nw [(.str []),(.str []),(.slice .nil 2 []),(.slice .nil 2 [])] aD),n (.st 4 (t 11) (t 203))]) (Y [1,3,4,10,11])) (Q (Q (O [ld
 204 3,fa 205 0 11,ld 206 205,lt 207 206,o 208 (.ar .add (i 1) (t 207)),fa 209 1 11,ld 210 209,lt 211 210,ar 212 .add 208 211,fa 213 3 11,ld 214 213,ls 215 214,ar 216
 .add 212 215,ar 217 .add 204 216,n (.st 1 (t 3) (t 217))]) (Y [1,3,4,10,11])) (Q (Q (O [m 218 4,fa 219 2 11,ld 220 219,k 221 (t 218) [(t 220)]]) (Y [1,3,4,10,11])) (Q
 (O [mc 12 (i 0)]) (Q (.block 10 (lo [1,3,4,10,11,12] gM)) (Y [1,3,4,10]))))))) (Y [1,3,4,10])) (ic 197 10 198)))
def gO:AC:=
 (Q (Q (Q (O [m 242 13,fa 243 4 1,ld 244 243,ls 245 244,bl 246 242 245]) (Y [1,3,4,13,246])) (C 246 X (.exit 12))) (Q (.block 13 (Q (D [Wl 249 3,Pf 250 4 1,Wl 251 250,Pm
 252 13,P (ia 253 4 251 252),Pf 254 0 253,Wl 255 254,W (lt 256 255),Pf 257 4 1,Wl 258 257,Pm 259 13,P (ia 260 4 258 259),Pf 261 1 260,Wl 262 261,W (lt 263 262),P (ar 264
 .add 256 263),Pf 265 4 1,Wl 266 265,Pm 267 13,P (ia 268 4 266 267),Pf 269 2 268,Wl 270 269,W (lt 271 270),P (ar 272 .add 264 271),Pf 273 4 1,Wl 274 273,Pm 275 13,P (ia
 276 4 274 275),Pf 277 3 276,Wl 278 277,W (lt 279 278),P (ar 280 .add 272 279),P (ar 281 .add 249 280),E (n (.st 1 (t 3) (t 281)))]) (Y [1,3,4,13]))) (ic 247 13 248)))
def gP:AC:=
 (Q (Q (Q (O [m 282 14,fa 283 5 1,ld 284 283,ls 285 284,bl 286 282 285]) (Y [1,3,4,14,286])) (C 286 X (.exit 14))) (Q (.block 15 (Q (Q (D [Wl 289 3,Pf 290 5 1,Wl 291 290,
 Pm 292 14,P (ia 293 3 291 292),Pf 294 0 293,Wl 295 294,W (lt 296 295),Pf 297 5 1,Wl 298 297,Pm 299 14,P (ia 300 3 298 299),Pf 301 1 300,Wl 302 301,W (lt 303 302),P (ar
 304 .add 296 303),P (ar 305 .add 289 304),E (n (.st 1 (t 3) (t 305)))]) (Y [1,3,4,14])) (Q (O [m 306 4,fa 307 5 1,ld 308 307,m 309 14,ia 310 3 308 309,fa 311 2 310,ld 312
 311,k 313 (t 306) [(t 312)]]) (Y [1,3,4,14])))) (ic 287 14 288)))
def oQ:AC:=
 (Q (O [o 1 (.bx ab (t 0)),mc 2 F]) (Q (Q (O [fa 15 0 1,ld 16 15,lt 17 16,o 3 (.nw [(.int .i64 0)] Kq),n (.st 1 (t 3) (t 17))]) (Y [1,3])) (Q (O [o 18 (.mf (.func
 gE) [] [(t 3)]),m 4 18]) (Q (Q (Q (O [fa 19 3 1,ld 20 19,ls 21 20,ac 22 .gtr 21 (i 60),m 23 22,g 24 23 (.fa 3 (t 1)),g 25 23 (.ld none (t 24)),g 26 23
 (.len .sl (t 25)),g 27 23 (.ar .leq (t 26) (i 128)),pf 28 23 27,m 29 28,h 30 29 (.fa 3 (t 1)),h 31 29 (.ld none (t 30)),h 32 29 (.len .sl (t 31)),h 33 29 (.ar .gtr (t 32) (i
 200)),pt 34 29 33,m 35 34,h 36 35 (.fa 1 (t 1)),h 37 35 (.ld none (t 36)),h 38 35 (.len .sl (t 37)),h 39 35 (.ar .gtr (t 38) (i 40)),pt 40 35 39,m 41 40,h 42 41 (.fa 2 (t
 1)),h 43 41 (.ld none (t 42)),h 44 41 (.len .sl (t 43)),h 45 41 (.ar .gtr (t 44) (i 40)),pt 46 41 45,m 47 46,h 48 47 (.fa 4 (t 1)),h 49 47 (.ld none (t 48)),h 50 47 (.len
 .sl (t 49)),h 51 47 (.ar .gtr (t 50) (i 40)),pt 52 47 51,m 53 52,h 54 53 (.fa 5 (t 1)),h 55 53 (.ld none (t 54)),h 56 53 (.len .sl (t 55)),h 57 53 (.ar .gtr (t 56) (i 40)),
 pt 58 53 57]) (Y [1,3,4,58])) (C 58 (rt 2 T) X)) (Q (Q (O [mc 5 (i 0)]) (Q (.block 0 (lo [1,3,4,5] gJ)) (Y [1,3,4]))) (Q (Q (O [mc 7 (i 0)]) (Q (.block
 4 (lc [1,3,4,7] gL)) (Y [1,3,4]))) (Q (Q (O [mc 10 (i 0)]) (Q (.block 8 (lc [1,3,4,10] gN)) (Y [1,3,4]))) (Q (Q (O [mc 13 (i 0)])
 (Q (.block 12 (lo [1,3,4,13] gO)) (Y [1,3,4]))) (Q (Q (O [mc 14 (i 0)]) (Q (.block 14 (lo [1,3,4,14] gP)) (Y [3]))) (Q (O [ld 314
 3,ac 315 .gtr 314 (i 6000),m 2 315]) R))))))))))
def aW:Zj:=⟨oQ,316,[.t 2],.drop,[],none⟩
theorem bo:qf aW [.t 2] .drop:=⟨rfl,rfl,rfl⟩
def dH:AC:=
 (Q (O [bl 31 30 29]) (Q (C 31 X (.exit 0)) (Q (.block 1 (Q (Q (O [m 32 30,ia 33 1 28 30,ld 34 33,m 7 32,m 8 34]) (Y [2,6,7,8,28,29,30])) (Q (Q (Q (O [m 35 8,ac 36 .eql 35
 (s []),m 37 36,h 38 37 (.mv (t 8)),h 39 37 (.ZX (t 38) (i 0)),h 40 37 (.ar .eql (t 39) (u 59)),pt 41 37 40]) (Y [2,6,7,8,28,29,30,41])) (C 41 (.exit 1) X)) (Q (O [m 42
 8,k2 43 fY 6 42,no 44 43]) (C 44 (Q (Q (O [o 45 (.bd [(.str []),(.slice .nil 2 []),(.slice .nil 2 []),(.slice .nil 4 []),(.slice .nil 4 []),(.slice .nil 3
 [])] [(0,1),(1,1),(2,1),(3,1),(4,1),(5,1)] []),m 46 7,ad 47 46,n (.st 6 (t 2) (t 45)),m 3 47,mc 4 (u 4)]) (Y [2,3,4])) R) X))))) (O [ad 48 30,m 30 48]))))
def cM:AC:=
 (Q (O [o 2 (.nw [(.str []),(.slice .nil 2 []),(.slice .nil 2 []),(.slice .nil 4 []),(.slice .nil 4 []),(.slice .nil 3 [])] ab),mc 3 (i 0),mc 4 (u 0)]) (Q (Q (O [m
 10 0,lt 11 10,ac 12 .gtr 11 (i 65536)]) (C 12 (Q (Q (O [o 13 (.bd [(.str []),(.slice .nil 2 []),(.slice .nil 2 []),(.slice .nil 4 []),(.slice .nil 4 []),(.slice .nil 3 [])]
 [(0,1),(1,1),(2,1),(3,1),(4,1),(5,1)] []),n (.st 6 (t 2) (t 13)),mc 3 (i 0),mc 4 (u 3)]) (Y [2,3,4])) R) X)) (Q (O [m 14 0,k 15 (f lJ) [(t 14),(s
 [10])],m 5 15]) (Q (Q (Q (O [m 16 5,m 17 5,ls 18 17,ac 19 .sub 18 (i 1),ia 20 1 16 19,ld 21 20,ac 22 .eql 21 (s [])]) (Y [2,5,22])) (C 22 (Q (O [m 23 5,m 24 5,ls 25 24,
 ac 26 .sub 25 (i 1),o 27 (.sll 1 (t 23) none (some (t 26)) none),m 5 27]) (Y [2,5])) X)) (Q (O [o 6 (.nw [(.str []),(.slice .nil 2 []),(.slice .nil 2 []),(.slice .nil 4 []),
 (.slice .nil 4 []),(.slice .nil 3 []),(.str []),(.int .i64 0)] da)]) (Q (Q (O [m 28 5,ls 29 28,mc 30 (i 0)]) (Q (Q (.block 0 (lo [2,6,28,29,30]
 dH)) (Y [2,6])) (.fz 6 [2,6]))) (Q (Q (O [fa 49 6 6,ld 50 49,ac 51 .eql 50 (s [])]) (C 51 (Q (Q (O [o 52 (.bd [(.str []),(.slice .nil 2 []),(.slice .nil 2 []),
 (.slice .nil 4 []),(.slice .nil 4 []),(.slice .nil 3 [])] [(0,1),(1,1),(2,1),(3,1),(4,1),(5,1)] []),n (.st 6 (t 2) (t 52)),mc 3 (i 0),mc 4 (u 4)]) (Y [2,3,4])) R)
 X)) (Q (Q (Q (O [fa 53 0 6,la 54 6 53,k1 55 ml 54,m 9 55]) (Y [2,6,9])) (Q (O [m 56 9,ac 57 .neq 56 (u 0)]) (C 57 (Q (Q (O [o 58 (.bd [(.str []),(.slice .nil 2
 []),(.slice .nil 2 []),(.slice .nil 4 []),(.slice .nil 4 []),(.slice .nil 3 [])] [(0,1),(1,1),(2,1),(3,1),(4,1),(5,1)] []),m 59 9,n (.st 6 (t 2) (t 58)),mc 3 (i
 0),m 4 59]) (Y [2,3,4])) R) X))) (Q (Q (O [fa 60 0 6,la 61 6 60,n (.st 6 (t 2) (t 61)),mc 3 (i 0),mc 4 (u 0)]) (Y [2,3,4])) R)))))))))
def oF:Zj:=⟨cM,62,[.cell 2 (some 6),.t 3,.t 4],.deep,[],none⟩
theorem dj:qf oF [.cell 2 (some 6),.t 3,.t 4] .deep:=⟨rfl,rfl,rfl⟩
def aY:AC:=
 (Q (Q (Q (O [m 19 8,m 20 7,ls 21 20,bl 22 19 21]) (Y [2,5,6,7,8,22])) (C 22 X (.exit 0))) (Q (.block 1 (Q (Q (Q (O [m 25 7,m 26 8,ia 27 1 25 26,ld 28 27,ac 29 .eql 28 (s
 []),m 30 29,h 31 30 (.mv (t 7)),h 32 30 (.mv (t 8)),h 33 30 (.ias 1 (t 31) (t 32)),h 34 30 (.ld none (t 33)),h 35 30 (.ZX (t 34) (i 0)),h 36 30 (.ar .eql (t 35) (u 59)),pt
 37 30 36]) (Y [2,5,6,7,8,37])) (C 37 (.exit 1) X)) (Q (Q (O [m 39 7,m 40 8,ia 41 1 39 40,ld 42 41,k1 43 oN 42,m 38 43,ex 44 38 0,ex 45 38 1,m 9 44,m
 10 45]) (Y [2,5,6,7,8,9,10])) (Q (Q (O [m 46 10,no 47 46]) (C 47 (Q (Q (O [o 48 (.bd [(.str []),(.slice .nil 2 []),(.slice .nil 2 []),(.slice .nil 4 []),(.slice .nil 4
 []),(.slice .nil 3 [])] [(0,1),(1,1),(2,1),(3,1),(4,1),(5,1)] []),m 49 8,ad 50 49,n (.st 6 (t 2) (t 48)),m 3 50,mc 4 (u 4)]) (Y [2,3,4])) R) X)) (Q (Q (O [m 51 9,
 o 52 (.ias 1 (t 51) (i 0)),ld 53 52,k1 54 pZ 53,m 11 54]) (Y [2,5,6,7,8,9,11])) (Q (Q (Q (O [m 55 11,ac 56 .eql 55 (i 0),m 57 56,h 58 57 (.mv (t 11)),
 h 59 57 (.mv (t 6)),h 60 57 (.ar .lss (t 58) (t 59)),pt 61 57 60,m 62 61,h 63 62 (.mv (t 11)),h 64 62 (.ar .eql (t 63) (i 1)),h 65 62 (.mv (t 6)),h 66 62 (.ar .eql (t 65) (i
 0)),h 67 62 (.eq true .bool (t 64) (t 66)),pt 68 62 67,m 69 68,h 70 69 (.mv (t 9)),⟨(some 71),(some (69,false)),(.call (.c (.fn (.func aP) [] [])) [(.t 5),
 (.t 70)])⟩,h 72 69 (.un .not (t 71)),pt 73 69 72]) (Y [2,5,7,8,11,73])) (C 73 (Q (Q (O [o 74 (.bd [(.str []),(.slice .nil 2 []),(.slice .nil 2 []),(.slice .nil 4 []),
 (.slice .nil 4 []),(.slice .nil 3 [])] [(0,1),(1,1),(2,1),(3,1),(4,1),(5,1)] []),m 75 8,ad 76 75,n (.st 6 (t 2) (t 74)),m 3 76,mc 4 (u 4)]) (Y [2,3,4])) R) X)) (O
 [m 77 11,m 6 77]))))))) (ic 23 8 24)))
def cD:AC:=
 (Q (O [o 2 (.nw [(.str []),(.slice .nil 2 []),(.slice .nil 2 []),(.slice .nil 4 []),(.slice .nil 4 []),(.slice .nil 3 [])] ab),mc 3 (i 0),mc 4 (u 0)]) (Q (Q (O [m
 13 0,lt 14 13,ac 15 .gtr 14 (i 65536)]) (C 15 (Q (Q (O [o 16 (.bd [(.str []),(.slice .nil 2 []),(.slice .nil 2 []),(.slice .nil 4 []),(.slice .nil 4 []),(.slice .nil 3 [])]
 [(0,1),(1,1),(2,1),(3,1),(4,1),(5,1)] []),n (.st 6 (t 2) (t 16)),mc 3 (i 0),mc 4 (u 3)]) (Y [2,3,4])) R) X)) (Q (O [o 5 (.nw [(.str []),(.slice .nil 2 []),(.slice
 .nil 2 []),(.slice .nil 4 []),(.slice .nil 4 []),(.slice .nil 3 [])] ab)]) (Q (O [mc 6 (i 0)]) (Q (O [m 17 0,k1 18 oM 17,m 7 18]) (Q (Q (O [mc 8
 (i 0)]) (Q (Q (.block 0 (lo [2,5,6,7,8] aY)) (Y [2,5,6])) (.fz 5 [2,5,6]))) (Q (Q (O [m 78 6,ac 79 .eql 78 (i 0)]) (C 79 (Q (Q (O [o 80 (.bd [(.str
 []),(.slice .nil 2 []),(.slice .nil 2 []),(.slice .nil 4 []),(.slice .nil 4 []),(.slice .nil 3 [])] [(0,1),(1,1),(2,1),(3,1),(4,1),(5,1)] []),n (.st 6 (t 2) (t
 80)),mc 3 (i 0),mc 4 (u 4)]) (Y [2,3,4])) R) X)) (Q (Q (O [la 81 6 5,k1 82 kY 81,m 12 82]) (Q (O [m 83 12,ac 84 .neq 83 (u 0)]) (C 84 (Q (Q (O [o 85 (.bd
 [(.str []),(.slice .nil 2 []),(.slice .nil 2 []),(.slice .nil 4 []),(.slice .nil 4 []),(.slice .nil 3 [])] [(0,1),(1,1),(2,1),(3,1),(4,1),(5,1)] []),m 86 12,n (.st
 6 (t 2) (t 85)),mc 3 (i 0),m 4 86]) (Y [2,3,4])) R) X))) (Q (Q (O [la 87 6 5,n (.st 6 (t 2) (t 87)),mc 3 (i 0),mc 4 (u 0)]) (Y [2,3,4])) R)))))))))
def gj:Zj:=⟨cD,88,[.cell 2 (some 6),.t 3,.t 4],.deep,[],none⟩
theorem bp:qf gj [.cell 2 (some 6),.t 3,.t 4] .deep:=⟨rfl,rfl,rfl⟩
def n5:AC:=
 (Q (O [bl 34 33 32]) (Q (C 34 X (.exit 0)) (Q (.block 1 (Q (Q (O [ia 35 2 31 33,la 36 2 35,o 7 (.nw [(.str []),(.slice .nil 1 [])] bW),n (.st 2 (t 7) (t 36))]) (Y [1,
 5,7,31,32,33])) (Q (O [fa 37 0 7,ld 38 37,o 39 (.bs 1 [(.str [])] 2 [(0,(s [116,114,97,105,116])),(1,(t 38))]),fa 40 1 7,ld 41 40,o 42 (.ap false aI 1 16 false
 (t 39) (t 41)),k 43 (f bC) [(t 5),(.c (.slice .nil 2 [])),(t 42)]]) (Y [1,5,31,32,33])))) (O [ad 44 33,m 33 44]))))
def n6:AC:=
 (Q (O [bl 60 59 58]) (Q (C 60 X (.exit 4)) (Q (.block 5 (Q (Q (O [ia 61 4 57 59,la 62 4 61,o 11 (.nw [(.int .i64 0),(.str []),(.str []),(.slice .nil 2 [])] bX),n (.st
 4 (t 11) (t 62))]) (Y [1,5,11,46,47,48,57,58,59])) (Q (D [Pf 63 3 11,Wl 64 63,Pf 65 0 11,Wl 66 65,Pf 68 1 11,Wl 69 68,Pf 71 2 11,Wl 72 71,K (k1 67 im
 66),K (k1 70 jt 69),K (k1 73 jt 72),P (o 74 (.bs 1 [(.str [])] 4 [(0,(s [115,108,111,116])),(1,(t 67)),(2,(t 70)),(3,(t 73))])),E (k 75 (f
 bC) [(t 5),(t 64),(t 74)])]) (Y [1,5,46,47,48,57,58,59])))) (O [ad 76 59,m 59 76]))))
def n7:AC:=
 (Q (O [bl 49 48 47]) (Q (C 49 X (.exit 2)) (Q (Q (.block 3 (Q (Q (O [ia 50 2 46 48,la 51 2 50,o 9 (.nw [(.str []),(.slice .nil 4 [])] aJ),n (.st 2 (t 9) (t 51))]) (Y
 [1,5,9,46,47,48])) (Q (Q (O [fa 52 0 9,ld 53 52,o 54 (.bs 1 [(.str [])] 2 [(0,(s [99,108,97,115,115])),(1,(t 53))]),k 55 (f bC) [(t 5),(.c (.slice
 .nil 2 [])),(t 54)]]) (Y [1,5,9,46,47,48])) (Q (Q (O [fa 56 1 9,ld 57 56,ls 58 57,mc 59 (i 0)]) (Y [1,5,46,47,48,57,58,59])) (Q (.block 4 (lo [1,5,46,47,48,57,
 58,59] n6)) (Y [1,5,46,47,48])))))) (Y [1,5,46,47,48])) (O [ad 77 48,m 48 77]))))
def n8:AC:=
 (Q (O [bl 97 96 95]) (Q (C 97 X (.exit 8)) (Q (.block 9 (Q (Q (O [ia 98 2 94 96,la 99 2 98,o 15 (.nw [(.int .i64 0),(.str [])] bk),n (.st 2 (t 15) (t 99))]) (Y [1,
 5,15,79,80,81,94,95,96])) (Q (D [Pf 100 0 15,Wl 101 100,Pf 103 1 15,Wl 104 103,K (k1 102 im 101),E (k1 105 jt 104),P (o 106 (.bs 1 [(.str [])] 3
 [(0,(s [102,111,114,109])),(1,(t 102)),(2,(t 105))])),E (k 107 (f bC) [(t 5),(.c (.slice .nil 2 [])),(t 106)])]) (Y [1,5,79,80,81,94,95,96])))) (O
 [ad 108 96,m 96 108]))))
def n9:AC:=
 (Q (O [bl 82 81 80]) (Q (C 82 X (.exit 6)) (Q (Q (.block 7 (Q (Q (O [ia 83 4 79 81,la 84 4 83,o 13 (.nw [(.str []),(.str []),(.slice .nil 2 []),(.slice .nil 2 [])]
 aD),n (.st 4 (t 13) (t 84))]) (Y [1,5,13,79,80,81])) (Q (Q (O [fa 85 2 13,ld 86 85,fa 87 0 13,ld 88 87,fa 89 1 13,ld 90 89,o 91 (.bs 1 [(.str [])] 3 [(0,(s
 [101,110,116,114,121])),(1,(t 88)),(2,(t 90))]),k 92 (f bC) [(t 5),(t 86),(t 91)]]) (Y [1,5,13,79,80,81])) (Q (Q (O [fa 93 3 13,ld 94 93,ls 95 94,
 mc 96 (i 0)]) (Y [1,5,79,80,81,94,95,96])) (Q (.block 8 (lo [1,5,79,80,81,94,95,96] n8)) (Y [1,5,79,80,81])))))) (Y [1,5,79,80,81])) (O [ad 109
 81,m 81 109]))))
def oa:AC:=
 (Q (O [bl 114 113 112]) (Q (C 114 X (.exit 10)) (Q (.block 11 (Q (Q (O [ia 115 4 111 113,la 116 4 115,o 17 (.nw [(.str []),(.str []),(.str []),(.str [])] di),n (.st 4
 (t 17) (t 116))]) (Y [1,5,17,111,112,113])) (Q (D [Pf 117 0 17,Wl 118 117,Pf 119 1 17,Wl 120 119,Pf 122 2 17,Wl 123 122,Pf 125 3 17,Wl 126 125,K (k1 121 jt
 120),K (k1 124 jt 123),K (k1 127 jt 126),P (o 128 (.bs 1 [(.str [])] 5 [(0,(s [115,112,101,108,108])),(1,(t 118)),(2,(t 121)),(3,(t 124)),(4,(t
 127))])),E (k 129 (f bC) [(t 5),(.c (.slice .nil 2 [])),(t 128)])]) (Y [1,5,111,112,113])))) (O [ad 130 113,m 113 130]))))
def oc:AC:=
 (Q (O [bl 135 134 133]) (Q (C 135 X (.exit 12)) (Q (.block 13 (Q (Q (O [ia 136 3 132 134,la 137 3 136,o 19 (.nw [(.str []),(.str []),(.slice .nil 2 [])] eo),n (.st 3 (t
 19) (t 137))]) (Y [5,19,132,133,134])) (Q (D [Pf 138 2 19,Wl 139 138,Pf 140 0 19,Wl 141 140,Pf 142 1 19,Wl 143 142,K (k1 144 jt 143),P (o 145 (.bs 1 [(.str [])]
 3 [(0,(s [108,105,110,107])),(1,(t 141)),(2,(t 144))])),E (k 146 (f bC) [(t 5),(t 139),(t 145)])]) (Y [5,132,133,134])))) (O [ad 147 134,m 134
 147]))))
def mq:AC:=
 (Q (O [o 1 (.bx ab (t 0)),mc 2 (s []),mc 3 (u 0)]) (Q (Q (O [la 20 6 1,k1 21 ml 20,m 4 21]) (Q (O [m 22 4,ac 23 .neq 22 (u 0)]) (C 23 (Q (O [m 24 4,mc 2
 (s []),m 3 24]) R) X))) (Q (O [o 5 (.nwb [.ZB,(.slice .nil 1 [])] aO 1 cq)]) (Q (Q (O [fa 25 0 1,ld 26 25,k1 27 jt 26,o 28 (.bs 1 [(.str [])] 2
 [(0,(s [118,111,119,101,108,115])),(1,(t 27))]),k 29 (f bC) [(t 5),(.c (.slice .nil 2 [])),(t 28)]]) (Y [1,5])) (Q (Q (Q (O [fa 30 1 1,ld 31 30,ls 32
 31,mc 33 (i 0)]) (Y [1,5,31,32,33])) (Q (.block 0 (lo [1,5,31,32,33] n5)) (Y [1,5]))) (Q (Q (Q (O [fa 45 2 1,ld 46 45,ls 47 46,mc 48 (i 0)]) (Y [1,5,46,
 47,48])) (Q (.block 2 (lo [1,5,46,47,48] n7)) (Y [1,5]))) (Q (Q (Q (O [fa 78 3 1,ld 79 78,ls 80 79,mc 81 (i 0)]) (Y [1,5,79,80,81])) (Q (.block 6 (lo [1,
 5,79,80,81] n9)) (Y [1,5]))) (Q (Q (Q (O [fa 110 4 1,ld 111 110,ls 112 111,mc 113 (i 0)]) (Y [1,5,111,112,113])) (Q (.block 10 (lo [1,5,111,112,113]
 oa)) (Y [1,5]))) (Q (Q (Q (O [fa 131 5 1,ld 132 131,ls 133 132,mc 134 (i 0)]) (Y [5,132,133,134])) (Q (.block 12 (lo [5,132,133,134] oc)) (Y
 [5]))) (Q (Q (O [fa 148 0 5,k1 149 kZ 148,ac 150 .gtr 149 (i 65536)]) (C 150 (Q (O [mc 2 (s []),mc 3 (u 3)]) R) X)) (Q (Q (O [fa 151 0 5,k1 152
 eM 151,m 2 152,mc 3 (u 0)]) (Y [2,3])) R)))))))))))
def dk:Zj:=⟨mq,153,[.t 2,.t 3],.drop,[1000018,1000028,1000034,1000039],none⟩
theorem dm:qf dk [.t 2,.t 3] .drop:=⟨rfl,rfl,rfl⟩
def eS:AC:=
 (Q (O [o 1 (.bx ab (t 0)),mc 2 (s []),mc 3 (u 0)]) (Q (Q (O [la 6 6 1,k1 7 kY 6,m 4 7]) (Q (O [m 8 4,ac 9 .neq 8 (u 0)]) (C 9 (Q (O [m 10 4,mc 2
 (s []),m 3 10]) R) X))) (Q (Q (O [la 11 6 1,k1 12 jz 11,m 5 12]) (Q (O [m 13 5,lt 14 13,ac 15 .leq 14 (i 65536)]) (C 15 (Q (O [m 16 5,m 2 16,mc 3 (u 0)]) R)
 X))) (Q (O [mc 2 (s []),mc 3 (u 3)]) R))))
def oR:Zj:=⟨eS,17,[.t 2,.t 3],.drop,[],none⟩
theorem oS:qf oR [.t 2,.t 3] .drop:=⟨rfl,rfl,rfl⟩
def iy:AC:=
 (Q (Q (Q (O [m 36 5,fa 37 1 1,ld 38 37,m 39 4,ia 40 2 38 39,fa 41 1 40,ld 42 41,ls 43 42,bl 44 36 43]) (Y [1,3,4,5,44])) (C 44 X (.exit 2))) (Q (.block 3 (Q (O [m 47 3,
 fa 48 1 1,ld 49 48,m 50 4,ia 51 2 49 50,fa 52 1 51,ld 53 52,m 54 5,ia 55 1 53 54,ld 56 55,o 57 (.ar .add (s [32]) (t 56)),ar 58 .add 47 57,m 3 58]) (Y [1,3,4,5]))) (ic
 45 5 46)))
def iz:AC:=
 (Q (Q (Q (O [m 20 4,fa 21 1 1,ld 22 21,ls 23 22,bl 24 20 23]) (Y [1,3,4,24])) (C 24 X (.exit 0))) (Q (Q (.block 1 (Q (Q (O [m 27 3,fa 28 1 1,ld 29 28,m 30 4,ia 31 2 29
 30,fa 32 0 31,ld 33 32,o 34 (.ar .add (s [116,114,97,105,116,32]) (t 33)),ar 35 .add 27 34,m 3 35]) (Y [1,3,4])) (Q (Q (O [mc 5 (i 0)]) (Q (.block 2 (lo [1,3,4,5]
 iy)) (Y [1,3,4]))) (O [m 59 3,ac 60 .add 59 (s [10]),m 3 60])))) (Y [1,3,4])) (ic 25 4 26)))
def iA:AC:=
 (Q (Q (Q (O [m 78 7,fa 79 2 1,ld 80 79,m 81 6,ia 82 2 80 81,fa 83 1 82,ld 84 83,ls 85 84,bl 86 78 85]) (Y [1,3,6,7,86])) (C 86 X (.exit 6))) (Q (.block 7 (Q (Q (O [fa 89
 2 1,ld 90 89,m 91 6,ia 92 2 90 91,fa 93 1 92,ld 94 93,m 95 7,ia 96 4 94 95,la 97 4 96,o 8 (.nw [(.int .i64 0),(.str []),(.str []),(.slice .nil 2 [])] bX),n (.st
 4 (t 8) (t 97))]) (Y [1,3,6,7,8])) (Q (D [Pm 98 3,Pf 99 0 8,Wl 100 99,Pf 104 1 8,Wl 105 104,Pf 109 2 8,Wl 110 109,Pf 113 3 8,Wl 114 113,K (k1 101
 fm 100),P (o 102 (.ar .add (s [115,108,111,116,32]) (t 101))),P (ac 103 .add 102 (s [32])),K (k1 106 cN 105),P (ar 107 .add 103 106),
 P (ac 108 .add 107 (s [32])),K (k1 111 cN 110),P (ar 112 .add 108 111),K (k1 115 i6 114),P (ar 116 .add 112 115),P (ac 117 .add 116 (s
 [10])),P (ar 118 .add 98 117),Pm 3 118]) (Y [1,3,6,7])))) (ic 87 7 88)))
def iB:AC:=
 (Q (Q (Q (O [m 61 6,fa 62 2 1,ld 63 62,ls 64 63,bl 65 61 64]) (Y [1,3,6,65])) (C 65 X (.exit 4))) (Q (Q (.block 5 (Q (Q (O [m 68 3,fa 69 2 1,ld 70 69,m 71 6,ia 72 2 70
 71,fa 73 0 72,ld 74 73,o 75 (.ar .add (s [99,108,97,115,115,32]) (t 74)),ac 76 .add 75 (s [10]),ar 77 .add 68 76,m 3 77]) (Y [1,3,6])) (Q (O [mc 7 (i 0)]) (Q (.block 6
 (lc [1,3,6,7] iA)) (Y [1,3,6]))))) (Y [1,3,6])) (ic 66 6 67)))
def iC:AC:=
 (Q (Q (Q (O [m 145 11,fa 146 3 10,ld 147 146,ls 148 147,bl 149 145 148]) (Y [1,3,9,10,11,149])) (C 149 X (.exit 10))) (Q (.block 11 (Q (D [Pm 152 3,Pf 153 3 10,Wl 154
 153,Pm 155 11,P (ia 156 2 154 155),Pf 157 0 156,Wl 158 157,Pf 162 3 10,Wl 163 162,Pm 164 11,P (ia 165 2 163 164),Pf 166 1 165,Wl 167 166,K (k1 159 fm
 158),P (o 160 (.ar .add (s [102,111,114,109,32]) (t 159))),P (ac 161 .add 160 (s [32])),K (k1 168 cN 167),P (ar 169 .add 161 168),P (ac 170 .add 169 (s
 [10])),P (ar 171 .add 152 170),Pm 3 171]) (Y [1,3,9,10,11]))) (ic 150 11 151)))
def iD:AC:=
 (Q (Q (Q (O [m 119 9,fa 120 3 1,ld 121 120,ls 122 121,bl 123 119 122]) (Y [1,3,9,123])) (C 123 X (.exit 8))) (Q (Q (.block 9 (Q (Q (O [fa 126 3 1,ld 127 126,m 128 9,ia 129
 4 127 128,la 130 4 129,o 10 (.nw [(.str []),(.str []),(.slice .nil 2 []),(.slice .nil 2 [])] aD),n (.st 4 (t 10) (t 130))]) (Y [1,3,9,10])) (Q (Q (D [Pm 131 3,Pf
 132 0 10,Wl 133 132,P (o 134 (.ar .add (s [101,110,116,114,121,32]) (t 133))),P (ac 135 .add 134 (s [32])),Pf 136 1 10,Wl 137 136,P (ar 138 .add 135 137),Pf 139 2 10,Wl
 140 139,K (k1 141 i6 140),P (ar 142 .add 138 141),P (ac 143 .add 142 (s [10])),P (ar 144 .add 131 143),Pm 3 144]) (Y [1,3,9,10])) (Q (O [mc 11 (i 0)]) (Q
 (.block 10 (lo [1,3,9,10,11] iC)) (Y [1,3,9])))))) (Y [1,3,9])) (ic 124 9 125)))
def iE:AC:=
 (Q (Q (Q (O [m 172 12,fa 173 4 1,ld 174 173,ls 175 174,bl 176 172 175]) (Y [1,3,12,176])) (C 176 X (.exit 12))) (Q (.block 13 (Q (Q (O [fa 179 4 1,ld 180 179,m 181 12,ia
 182 4 180 181,la 183 4 182,o 13 (.nw [(.str []),(.str []),(.str []),(.str [])] di),n (.st 4 (t 13) (t 183))]) (Y [1,3,12,13])) (Q (D [Pm 184 3,Pf 185 0 13,Wl 186
 185,Pf 190 1 13,Wl 191 190,Pf 195 2 13,Wl 196 195,Pf 200 3 13,Wl 201 200,K (k1 187 cN 186),P (o 188 (.ar .add (s [115,112,101,108,108,32]) (t 187))),
 P (ac 189 .add 188 (s [32])),K (k1 192 cN 191),P (ar 193 .add 189 192),P (ac 194 .add 193 (s [32])),K (k1 197 cN 196),P (ar 198 .add 194
 197),P (ac 199 .add 198 (s [32])),K (k1 202 cN 201),P (ar 203 .add 199 202),P (ac 204 .add 203 (s [10])),P (ar 205 .add 184 204),Pm 3 205]) (Y [1,3,12]))))
 (ic 177 12 178)))
def iF:AC:=
 (Q (Q (Q (O [m 206 14,fa 207 5 1,ld 208 207,ls 209 208,bl 210 206 209]) (Y [1,3,14,210])) (C 210 X (.exit 14))) (Q (.block 15 (Q (D [Pm 213 3,Pf 214 5 1,Wl 215 214,Pm 216
 14,P (ia 217 3 215 216),Pf 218 0 217,Wl 219 218,P (o 220 (.ar .add (s [108,105,110,107,32]) (t 219))),P (ac 221 .add 220 (s [32])),Pf 222 5 1,Wl 223 222,Pm 224 14,P (ia
 225 3 223 224),Pf 226 1 225,Wl 227 226,Pf 230 5 1,Wl 231 230,Pm 232 14,P (ia 233 3 231 232),Pf 234 2 233,Wl 235 234,K (k1 228 cN 227),P (ar 229 .add 221
 228),K (k1 236 i6 235),P (ar 237 .add 229 236),P (ac 238 .add 237 (s [10])),P (ar 239 .add 213 238),Pm 3 239]) (Y [1,3,14]))) (ic 211 14 212)))
def qa:AC:=
 (Q (O [o 1 (.bx ab (t 0)),mc 2 (s [])]) (Q (Q (O [fa 15 0 1,ld 16 15,k1 17 cN 16,o 18 (.ar .add (s [118,111,119,101,108,115,32]) (t 17)),ac
 19 .add 18 (s [10]),m 3 19]) (Y [1,3])) (Q (Q (O [mc 4 (i 0)]) (Q (.block 0 (lo [1,3,4] iz)) (Y [1,3]))) (Q (Q (O [mc 6 (i 0)]) (Q (.block 4 (lc [1,3,6]
 iB)) (Y [1,3]))) (Q (Q (O [mc 9 (i 0)]) (Q (.block 8 (lc [1,3,9] iD)) (Y [1,3]))) (Q (Q (O [mc 12 (i 0)]) (Q (.block 12 (lc [1,3,12]
 iE)) (Y [1,3]))) (Q (Q (O [mc 14 (i 0)]) (Q (.block 14 (lo [1,3,14] iF)) (Y [3]))) (Q (O [m 240 3,m 2 240]) R))))))))
def bb:Zj:=⟨qa,241,[.t 2],.drop,[],none⟩
theorem bu:qf bb [.t 2] .drop:=⟨rfl,rfl,rfl⟩
def xQ:AC:=
 (Q (O [o 1 (.bx ab (t 0)),mc 2 (u 0)]) (Q (Q (O [la 4 6 1,o 5 (.bd [(.str []),(.slice .nil 2 []),(.slice .nil 2 []),(.slice .nil 4 []),(.slice .nil 4 []),(.slice
 .nil 3 [])] [(0,6)] [(0,(t 4))]),o 3 (.nw [(.str []),(.slice .nil 2 []),(.slice .nil 2 []),(.slice .nil 4 []),(.slice .nil 4 []),(.slice .nil 3 [])] bI),n (.st
 6 (t 3) (t 5))]) (Y [1,3])) (Q (Q (O [la 6 6 3,o 7 (.mf (.func ke) [(t 6)] []),o 8 (.mf (.func rM) [] [(t 1),(t 3)]),o 9 (.mf (.func
 rN) [] [(t 1),(t 3)]),o 10 (.mf (.func rO) [] [(t 1),(t 3)]),o 11 (.mf (.func rP) [] [(t 1),(t 3)]),o 12 (.mf (.func rQ) []
 [(t 1),(t 3)]),o 13 (.bs 1 [.Zw] 6 [(0,(t 7)),(1,(t 8)),(2,(t 9)),(3,(t 10)),(4,(t 11)),(5,(t 12))]),k1 14 xM 13,m 2 14]) (Y [2])) R)))
def uk:Zj:=⟨xQ,15,[.t 2],.drop,[],none⟩
theorem JC:qf uk [.t 2] .drop:=⟨rfl,rfl,rfl⟩
def fP:AC:=
 (Q (Q (Q (O [m 4 3,m 5 0,ls 6 5,bl 7 4 6,m 8 7,g 9 8 (.mv (t 3)),g 10 8 (.ar .lss (t 9) (i 100)),pf 11 8 10]) (Y [0,1,3,11])) (C 11 X (.exit 0))) (Q (.block 1 (Q (D [Wl 14
 1,Pm 15 0,Pm 16 3,P (ia 17 2 15 16),Pf 18 0 17,Wl 19 18,W (lt 20 19),P (o 21 (.ar .add (i 1) (t 20))),Pm 22 0,Pm 23 3,P (ia 24 2 22 23),Pf 25 1 24,Wl 26 25,W (lt 27
 26),P (ar 28 .add 21 27),P (ar 29 .add 14 28),E (n (.st 1 (t 1) (t 29)))]) (Y [0,1,3]))) (ic 12 3 13)))
def mO:AC:=
 (Q (Q (O [mc 3 (i 0)]) (Q (.block 0 (lo [0,1,3] fP)) (Y [0,1]))) (Q (O [ld 30 1,m 31 0,ls 32 31,ar 33 .add 30 32,n (.st 1 (t 1) (t 33))]) (Y [])))
def fp:Zj:=⟨mO,34,[],.drop,[],none⟩
theorem mP:qf fp [] .drop:=⟨rfl,rfl,rfl⟩
def vd:AC:=
 (Q (O [mc 4 (.c (.slice .nil 1 []))]) (Q (Q (O [m 5 0,m 6 1,k 7 (f kL) [(t 5),(t 6),(i 0),(i (-1))],m 4 7]) (Y [4])) R))
def rS:Zj:=⟨vd,8,[.t 4],.drop,[],none⟩
theorem Gt:qf rS [.t 4] .drop:=⟨rfl,rfl,rfl⟩
def gk:AC:=
 (Q (O [bl 26 25 24]) (Q (C 26 X (.exit 0)) (Q (.block 1 (Q (O [ia 27 1 23 25,ld 28 27,m 9 28]) (O [m 29 9,ac 30 .neq 29 (s []),k1 31 c6 30]))) (O [ad 32 25,m 25
 32]))))
def al:AC:=
 (Q (O [m 11 1,k 12 (f lJ) [(t 11),(s [32])],m 5 12]) (Q (Q (D [W (k 14 (f ru) []),Pm 15 5,P (o 16 (.ias 1 (t 15) (i 0))),Wl 17 16,W (o 18 (.lk .str
 (some (.agg [(.int .i64 0),(.int .i64 0),(.bool false),.Zw])) true (t 14) (t 17))),Pm 13 18,P (ex 19 13 0),P (ex 20 13 1),K (o 6 (.nw [(.int .i64 0),(.int .i64 0),(.bool
 false),.Zw] ep)),E (n (.st 4 (t 6) (t 19))),Pm 7 20]) (Y [0,1,4,5,6,7])) (Q (O [m 21 7,k1 22 c6 21]) (Q (Q (O [m 23 5,ls 24 23,mc 25 (i 0)]) (Q
 (.block 0 (lo [0,1,4,5,6,23,24,25] gk)) (Y [0,1,4,5,6]))) (Q (O [m 33 5,o 34 (.sll 1 (t 33) (some (i 1)) none none),m 5 34]) (Q (Q (O [m 35 5,ls 36
 35,fa 37 1 6,ld 38 37,ar 39 .geq 36 38,m 40 39,g 41 40 (.fa 2 (t 6)),g 42 40 (.ld none (t 41)),g 43 40 (.mv (t 42)),h 44 43 (.mv (t 5)),h 45 43 (.len .sl (t 44)),h 46 43
 (.fa 1 (t 6)),h 47 43 (.ld none (t 46)),h 48 43 (.ar .eql (t 45) (t 47)),g 49 40 (.pk (t 43) T (t 48)),pf 50 40 49,k1 51 c6 50]) (Y [0,1,4,5,6])) (Q (Q (D [Pm
 52 0,P (o 53 (.nc (t 52))),Pf 54 6 53,Wl 55 54,P (ac 56 .eql 55 (s [])),Pf 57 0 6,Wl 58 57,P (ac 59 .eql 58 (i 0)),P (o 60 (.eq false .bool (t 56) (t 59))),Pm 61 60,P (g
 62 61 (.fa 0 (t 6))),W (g 63 61 (.ld none (t 62))),P (g 64 61 (.mv (t 0))),P (g 65 61 (.nc (t 64))),P (g 66 61 (.fa 7 (t 65))),W (g 67 61 (.ld none (t 66))),P (g 68 61 (.ar
 .geq (t 63) (t 67))),P (pf 69 61 68),(k1 70 c6 69,.last)]) (Y [0,1,4,5,6])) (Q (Q (O [fa 71 3 6,ld 72 71,m 73 0,m 74 5,k 75 (t 72) [(t 73),(t 74)]]) (Y [0,
 1,4,6])) (Q (Q (.Z0 true [] [] [Pm 76 0,Pm 77 0,Pm 78 1,W (k 79 (f kF) [(t 78),(s [32]),(i 2)]),P (o 80 (.ias 1 (t 79) (i 0))),Wl 81 80,Pf 82 0 6,Wl 83
 82,P (o 84 (.nc (t 76))),Pf 85 6 84,K (n (.st 1 (t 85) (t 81))),P (o 86 (.nc (t 77))),Pf 87 7 86,K (n (.st 1 (t 87) (t 83)))]) (Y [4])) (Q (O [n (.st 1 (t 4) T)]) R))))))))))
def qX:AC:=
 (O [o 4 (.nw [(.bool false)] el)])
def ag:Zj:=⟨qX,88,[.cell 4 none],.Zn,[3000012],(some ([⟨(some 10),none,(.op (.mf (.func aq) [] [(.t 4)]))⟩],(.t 10),al))⟩
def fq:AC:=
 (Q (Q (Q (O [m 6 5,m 7 0,lt 8 7,bl 9 6 8]) (Y [0,3,4,5,9])) (C 9 X (.exit 0))) (Q (.block 1 (Q (Q (O [m 12 0,m 13 5,o 14 (.ZX (t 12) (t 13)),ac 15 .eql 14 (u 10)]) (Y [0,
 3,4,5,15])) (C 15 (Q (Q (O [m 16 3,m 17 0,m 18 4,m 19 5,o 20 (.sls (t 17) (some (t 18)) (some (t 19))),o 21 (.bs 1 [(.str [])] 1 [(0,(t 20))]),o 22 (.ap false aI 1
 16 false (t 16) (t 21)),m 3 22]) (Y [0,3,5])) (O [m 23 5,ad 24 23,m 4 24])) X))) (ic 10 5 11)))
def jb:AC:=
 (Q (O [mc 2 (.c (.slice .nil 1 []))]) (Q (O [mc 3 (.c (.slice .nil 1 []))]) (Q (O [mc 4 (i 0)]) (Q (Q (O [mc 5 (i 0)]) (Q (.block 0 (.loop ⟨(some [0,3,4,5]),[(3,1,aI)],
 false⟩ fq)) (Y [0,3,4]))) (Q (Q (Q (O [m 25 4,m 26 0,lt 27 26,bl 28 25 27]) (Y [0,3,4,28])) (C 28 (Q (O [m 29 3,m 30 0,m 31 4,o 32 (.sls (t 30) (some
 (t 31)) none),o 33 (.bs 1 [(.str [])] 1 [(0,(t 32))]),o 34 (.ap false aI 1 16 false (t 29) (t 33)),m 3 34]) (Y [3])) X)) (Q (O [m 35 3,m 2 35]) R))))))
def jc:Zj:=⟨jb,36,[.t 2],.drop,[],none⟩
theorem jd:qf jc [.t 2] .drop:=⟨rfl,rfl,rfl⟩
def b8:AC:=
 (Q (Q (Q (O [m 7 6,m 8 0,lt 9 8,ar 10 .leq 7 9]) (Y [0,4,5,6,10])) (C 10 X (.exit 0))) (Q (.block 1 (Q (Q (O [m 13 6,m 14 0,lt 15 14,ar 16 .eql 13 15,m 17 16,h 18 17
 (.mv (t 0)),h 19 17 (.mv (t 6)),h 20 17 (.ZX (t 18) (t 19)),h 21 17 (.ar .eql (t 20) (u 32)),pt 22 17 21]) (Y [0,4,5,6,22])) (C 22 (Q (Q (O [m 23 6,m 24 5,ar 25 .eql 23
 24]) (C 25 (Q (O [mc 2 (.c (.slice .nil 1 [])),mc 3 F]) R) X)) (Q (Q (O [m 26 4,m 27 0,m 28 5,m 29 6,o 30 (.sls (t 27) (some (t 28)) (some (t 29))),o 31 (.bs 1 [(.str [])] 1
 [(0,(t 30))]),o 32 (.ap false aI 1 16 false (t 26) (t 31)),m 4 32]) (Y [0,4,6])) (O [m 33 6,ad 34 33,m 5 34]))) X))) (ic 11 6 12)))
def je:AC:=
 (Q (O [mc 2 (.c (.slice .nil 1 [])),mc 3 F]) (Q (O [mc 4 (.c (.slice .nil 1 []))]) (Q (O [mc 5 (i 0)]) (Q (Q (O [mc 6 (i 0)]) (Q (.block 0 (.loop ⟨(some [0,4,5,6]),[(4,1,
 aI)],false⟩ b8)) (Y [4]))) (Q (O [m 35 4,m 2 35,mc 3 T]) R)))))
def eU:Zj:=⟨je,36,[.t 2,.t 3],.drop,[],none⟩
theorem dV:qf eU [.t 2,.t 3] .drop:=⟨rfl,rfl,rfl⟩
def bc:AC:=
 (Q (O [mc 2 (i 0)]) (Q (Q (O [m 3 0]) (.block 0 (Q (O [ac 5 .eql 3 (s [118,111,119,101,108,115]),m 4 5]) (C 4 (rt 2 (i 1)) (Q (O [ac 7 .eql 3 (s [116,114,97,105,116]),m 6
 7]) (C 6 (rt 2 (i 2)) (Q (Q (O [ac 9 .eql 3 (s [99,108,97,115,115]),m 8 9]) (C 8 X (O [ac 10 .eql 3 (s [115,108,111,116]),m 8 10]))) (C 8 (rt 2 (i 3)) (Q (Q (O [ac 12 .eql
 3 (s [101,110,116,114,121]),m 11 12]) (C 11 X (O [ac 13 .eql 3 (s [102,111,114,109]),m 11 13]))) (C 11 (rt 2 (i 4)) (Q (O [ac 15 .eql 3 (s [115,112,101,108,108]),m 14
 15]) (C 14 (rt 2 (i 5)) (Q (O [ac 17 .eql 3 (s [108,105,110,107]),m 16 17]) (C 16 (rt 2 (i 6)) X)))))))))))))) (rt 2 (i 0))))
def qb:Zj:=⟨bc,18,[.t 2],.drop,[],none⟩
theorem dK:qf qb [.t 2] .drop:=⟨rfl,rfl,rfl⟩
def ao:AC:=
 (Q (O [mc 4 F]) (Q (Q (O [m 17 1,o 18 (.ias 1 (t 17) (i 0)),ld 19 18]) (.block 0 (Q (O [ac 21 .eql 19 (s [118,111,119,101,108,115]),m 20 21]) (C 20 (Q (Q (O [m 22 0,m 23 1,
 m 24 1,ls 25 24,ac 26 .sub 25 (i 1),ia 27 1 23 26,ld 28 27,k1 29 cO 28,o 30 (.nc (t 22)),fa 31 0 30,n (.st 1 (t 31) (t 29))]) (Y [1])) (Q (Q (O [m 32 1,ls
 33 32,ac 34 .eql 33 (i 2),m 4 34]) (Y [4])) R)) (Q (O [ac 36 .eql 19 (s [116,114,97,105,116]),m 35 36]) (C 35 (Q (Q (O [m 37 1,ls 38 37,ac 39 .lss 38 (i 2)]) (C 39 (rt 4 F)
 X)) (Q (D [Pm 40 0,Pm 41 0,P (o 42 (.nc (t 41))),Pf 43 1 42,Wl 44 43,Pm 45 1,P (o 46 (.ias 1 (t 45) (i 1))),Wl 47 46,Pm 48 1,P (o 49 (.sll 1 (t 48) (some (i 2)) none
 none)),K (o 50 (.ap false aI 1 16 false (.c (.slice .nil 1 [])) (t 49))),P (o 51 (.bd [(.str []),(.slice .nil 1 [])] [(0,1),(1,1)] [(0,(t 47)),(1,(t 50))])),P (o 52
 (.bs 2 [(.str []),(.slice .nil 0 [])] 1 [(0,(t 51))])),E (o 53 (.ap false bW 2 40 false (t 44) (t 52))),P (o 54 (.nc (t 40))),Pf 55 1 54,E (n (.st 1 (t 55) (t 53)))])
 (Y []))) (Q (O [ac 57 .eql 19 (s [99,108,97,115,115]),m 56 57]) (C 56 (Q (Q (D [Pm 58 0,Pm 59 0,P (o 60 (.nc (t 59))),Pf 61 2 60,Wl 62 61,Pm 63 1,Pm 64 1,W (ls 65 64),P
 (ac 66 .sub 65 (i 1)),P (ia 67 1 63 66),Wl 68 67,P (o 69 (.bd [(.str []),(.slice .nil 4 [])] [(0,1),(1,1)] [(0,(t 68))])),P (o 70 (.bs 2 [(.str []),(.slice .nil 0 [])] 1
 [(0,(t 69))])),E (o 71 (.ap true aJ 2 40 false (t 62) (t 70))),P (o 72 (.nc (t 58))),Pf 73 2 72,E (n (.st 1 (t 73) (t 71)))]) (Y [1])) (Q (Q (O [m 74 1,ls 75 74,ac
 76 .eql 75 (i 2),m 4 76]) (Y [4])) R)) (Q (O [ac 78 .eql 19 (s [115,108,111,116]),m 77 78]) (C 77 (Q (Q (Q (O [m 79 1,ls 80 79,ac 81 .lss 80 (i 4),m 82 81,h 83 82 (.mv (t
 0)),h 84 82 (.nc (t 83)),h 85 82 (.fa 2 (t 84)),h 86 82 (.ld none (t 85)),h 87 82 (.len .sl (t 86)),h 88 82 (.ar .eql (t 87) (i 0)),pt 89 82 88]) (Y [0,1,89])) (C 89 (rt 4
 F) X)) (Q (Q (O [m 91 1,o 92 (.ias 1 (t 91) (i 1)),ld 93 92,k 94 (f kj) [(t 93),(i 999)],m 90 94,ex 95 90 0,ex 96 90 1,m 5 95,m 6 96]) (Y [0,1,5,6]))
 (Q (Q (O [m 98 1,o 99 (.sll 1 (t 98) (some (i 4)) none none),k1 100 gF 99,m 97 100,ex 101 97 0,ex 102 97 1,m 7 101,m 8 102]) (Y [0,1,5,6,7,8])) (Q
 (Q (D [Pm 103 0,P (o 104 (.nc (t 103))),Pf 105 2 104,Wl 106 105,Pm 107 0,P (o 108 (.nc (t 107))),Pf 109 2 108,Wl 110 109,W (ls 111 110),P (ac 112 .sub 111 (i 1)),P (ia 113
 2 106 112),Pm 9 113]) (Y [1,5,6,7,8,9])) (Q (Q (D [Pm 114 9,Pm 115 9,P (o 116 (.nc (t 115))),Pf 117 1 116,Wl 118 117,Pm 119 5,Pm 120 1,P (o 121 (.ias 1 (t 120) (i 2))),
 Wl 122 121,Pm 124 1,P (o 125 (.ias 1 (t 124) (i 3))),Wl 126 125,Pm 128 7,K (k1 123 cO 122),K (k1 127 cO 126),P (o 129 (.bd [(.int .i64 0),
 (.str []),(.str []),(.slice .nil 2 [])] [(0,1),(1,1),(2,1),(3,1)] [(0,(t 119)),(1,(t 123)),(2,(t 127)),(3,(t 128))])),P (o 130 (.bs 4 [(.int .i64 0),(.str []),
 (.str []),(.slice .nil 0 [])] 1 [(0,(t 129))])),E (o 131 (.ap false bX 4 64 false (t 118) (t 130))),P (o 132 (.nc (t 114))),Pf 133 1 132,E (n (.st 1 (t 133) (t
 131)))]) (Y [6,8])) (Q (Q (O [m 134 6,m 135 134,g 136 135 (.mv (t 8)),pf 137 135 136,m 4 137]) (Y [4])) R)))))) (Q (O [ac 139 .eql 19 (s [101,110,116,114,121]),m 138 139])
 (C 138 (Q (Q (O [m 140 1,ls 141 140,ac 142 .lss 141 (i 3)]) (C 142 (rt 4 F) X)) (Q (Q (O [m 144 1,o 145 (.sll 1 (t 144) (some (i 3)) none none),k1 146 gF
 145,m 143 146,ex 147 143 0,ex 148 143 1,m 10 147,m 11 148]) (Y [0,1,10,11])) (Q (Q (D [Pm 149 0,Pm 150 0,P (o 151 (.nc (t 150))),Pf 152 3 151,Wl 153 152,Pm 154 1,P (o
 155 (.ias 1 (t 154) (i 1))),Wl 156 155,Pm 157 1,P (o 158 (.ias 1 (t 157) (i 2))),Wl 159 158,Pm 160 10,P (o 161 (.bd [(.str []),(.str []),(.slice .nil 2 []),(.slice .nil 2
 [])] [(0,1),(1,1),(2,1),(3,1)] [(0,(t 156)),(1,(t 159)),(2,(t 160))])),P (o 162 (.bs 4 [(.str []),(.str []),(.slice .nil 0 []),(.slice .nil 0 [])] 1 [(0,(t
 161))])),E (o 163 (.ap true aD 4 80 false (t 153) (t 162))),P (o 164 (.nc (t 149))),Pf 165 3 164,E (n (.st 1 (t 165) (t 163)))]) (Y [11])) (Q (O [m 166 11,m 4 166])
 R)))) (Q (O [ac 168 .eql 19 (s [102,111,114,109]),m 167 168]) (C 167 (Q (Q (Q (O [m 169 1,ls 170 169,ac 171 .neq 170 (i 3),m 172 171,h 173 172 (.mv (t 0)),h 174 172 (.nc (t
 173)),h 175 172 (.fa 3 (t 174)),h 176 172 (.ld none (t 175)),h 177 172 (.len .sl (t 176)),h 178 172 (.ar .eql (t 177) (i 0)),pt 179 172 178]) (Y [0,1,179])) (C 179 (rt 4 F)
 X)) (Q (Q (O [m 181 1,o 182 (.ias 1 (t 181) (i 1)),ld 183 182,k 184 (f kj) [(t 183),(i 999)],m 180 184,ex 185 180 0,ex 186 180 1,m 12 185,m 13 186]) (Y
 [0,1,12,13])) (Q (Q (D [Pm 187 0,P (o 188 (.nc (t 187))),Pf 189 3 188,Wl 190 189,Pm 191 0,P (o 192 (.nc (t 191))),Pf 193 3 192,Wl 194 193,W (ls 195 194),P (ac 196 .sub
 195 (i 1)),P (ia 197 4 190 196),Pm 14 197]) (Y [1,12,13,14])) (Q (Q (D [Pm 198 14,Pm 199 14,P (o 200 (.nc (t 199))),Pf 201 3 200,Wl 202 201,Pm 203 12,Pm 204 1,P (o 205
 (.ias 1 (t 204) (i 2))),Wl 206 205,K (k1 207 cO 206),P (o 208 (.bd [(.int .i64 0),(.str [])] [(0,1),(1,1)] [(0,(t 203)),(1,(t 207))])),P (o 209 (.bs 2
 [(.int .i64 0),(.str [])] 1 [(0,(t 208))])),E (o 210 (.ap false bk 2 24 false (t 202) (t 209))),P (o 211 (.nc (t 198))),Pf 212 3 211,E (n (.st 1 (t 212) (t
 210)))]) (Y [13])) (Q (O [m 213 13,m 4 213]) R))))) (Q (O [ac 215 .eql 19 (s [115,112,101,108,108]),m 214 215]) (C 214 (Q (Q (O [m 216 1,ls 217 216,ac 218 .neq 217 (i 5)])
 (C 218 (rt 4 F) X)) (Q (D [Pm 219 0,Pm 220 0,P (o 221 (.nc (t 220))),Pf 222 4 221,Wl 223 222,Pm 224 1,P (o 225 (.ias 1 (t 224) (i 1))),Wl 226 225,Pm 228 1,P (o 229 (.ias 1
 (t 228) (i 2))),Wl 230 229,Pm 232 1,P (o 233 (.ias 1 (t 232) (i 3))),Wl 234 233,Pm 236 1,P (o 237 (.ias 1 (t 236) (i 4))),Wl 238 237,K (k1 227 cO 226),K
 (k1 231 cO 230),K (k1 235 cO 234),K (k1 239 cO 238),P (o 240 (.bd [(.str []),(.str []),(.str []),(.str [])] [(0,1),(1,
 1),(2,1),(3,1)] [(0,(t 227)),(1,(t 231)),(2,(t 235)),(3,(t 239))])),P (o 241 (.bs 4 [(.str []),(.str []),(.str []),(.str [])] 1 [(0,(t 240))])),E (o 242 (.ap false
 di 4 64 false (t 223) (t 241))),P (o 243 (.nc (t 219))),Pf 244 4 243,E (n (.st 1 (t 244) (t 242)))]) (Y []))) (Q (O [ac 246 .eql 19 (s [108,105,110,107]),m 245 246])
 (C 245 (Q (Q (O [m 247 1,ls 248 247,ac 249 .lss 248 (i 3)]) (C 249 (rt 4 F) X)) (Q (Q (O [m 251 1,o 252 (.sll 1 (t 251) (some (i 3)) none none),k1 253 gF
 252,m 250 253,ex 254 250 0,ex 255 250 1,m 15 254,m 16 255]) (Y [0,1,15,16])) (Q (Q (D [Pm 256 0,Pm 257 0,P (o 258 (.nc (t 257))),Pf 259 5 258,Wl 260 259,Pm 261 1,P (o
 262 (.ias 1 (t 261) (i 1))),Wl 263 262,Pm 264 1,P (o 265 (.ias 1 (t 264) (i 2))),Wl 266 265,K (k1 267 cO 266),Pm 268 15,P (o 269 (.bd [(.str []),(.str []),
 (.slice .nil 2 [])] [(0,1),(1,1),(2,1)] [(0,(t 263)),(1,(t 267)),(2,(t 268))])),P (o 270 (.bs 3 [(.str []),(.str []),(.slice .nil 0 [])] 1 [(0,(t 269))])),E (o 271
 (.ap false eo 3 56 false (t 260) (t 270))),P (o 272 (.nc (t 256))),Pf 273 5 272,E (n (.st 1 (t 273) (t 271)))]) (Y [16])) (Q (O [m 274 16,m 4 274]) R))))
 X)))))))))))))))))) (rt 4 T)))
def qc:Zj:=⟨ao,275,[.t 4],.Zn,[10,24],none⟩
theorem bw:qf qc [.t 4] .Zn:=⟨rfl,rfl,rfl⟩
def gQ:AC:=
 (Q (Q (Q (O [m 16 3,fa 17 0 1,ld 18 17,lt 19 18,bl 20 16 19]) (Y [1,3,20])) (C 20 X (.exit 0))) (Q (.block 1 (Q (Q (D [Pf 23 0 1,Wl 24 23,Pm 25 3,P (ac 26 .sub 25 (i 1)),P
 (o 27 (.ZX (t 24) (t 26))),Pf 28 0 1,Wl 29 28,Pm 30 3,P (o 31 (.ZX (t 29) (t 30))),P (ar 32 .geq 27 31)]) (Y [1,3,32])) (C 32 (rt 2 (u 1)) X))) (ic 21 3 22)))
def gR:AC:=
 (Q (Q (Q (O [m 52 7,fa 53 4 1,ld 54 53,ls 55 54,bl 56 52 55]) (Y [1,7,56])) (C 56 X (.exit 2))) (Q (.block 3 (Q (Q (O [fa 59 4 1,ld 60 59,m 61 7,ia 62 4 60 61,la 63 4 62,
 o 8 (.nw [(.str []),(.str []),(.str []),(.str [])] di),n (.st 4 (t 8) (t 63))]) (Y [1,7,8])) (Q (Q (Q (O [fa 64 0 8,ld 65 64,ac 66 .eql 65 (s []),m 67 66,h 68 67
 (.fa 0 (t 8)),h 69 67 (.ld none (t 68)),⟨(some 70),(some (67,false)),(.call (.c (.fn (.func cV) [] [])) [(.t 69),(.c (.str [43]))])⟩,h 71 67 (.un .not (t
 70)),pt 72 67 71,m 73 72,h 74 73 (.fa 1 (t 8)),h 75 73 (.ld none (t 74)),⟨(some 76),(some (73,false)),(.call (.c (.fn (.func cV) [] [])) [(.t 75),(.c (.str
 [43]))])⟩,h 77 73 (.un .not (t 76)),pt 78 73 77,m 79 78,h 80 79 (.fa 2 (t 8)),h 81 79 (.ld none (t 80)),⟨(some 82),(some (79,false)),(.call (.c (.fn (.func
 cV) [] [])) [(.t 81),(.c (.str [43,35,86,67]))])⟩,h 83 79 (.un .not (t 82)),pt 84 79 83,m 85 84,h 86 85 (.fa 3 (t 8)),h 87 85 (.ld none (t 86)),⟨(some 88),
 (some (85,false)),(.call (.c (.fn (.func cV) [] [])) [(.t 87),(.c (.str [43,35,86,67]))])⟩,h 89 85 (.un .not (t 88)),pt 90 85 89]) (Y [1,7,8,90])) (C 90
 (rt 2 (u 1)) X)) (Q (Q (O [fa 91 0 8,ld 92 91,lt 93 92,ac 94 .gtr 93 (i 6),m 95 94,h 96 95 (.fa 1 (t 8)),h 97 95 (.ld none (t 96)),h 98 95 (.len .str (t 97)),h 99 95 (.ar
 .gtr (t 98) (i 6)),pt 100 95 99,m 101 100,h 102 101 (.fa 2 (t 8)),h 103 101 (.ld none (t 102)),h 104 101 (.len .str (t 103)),h 105 101 (.ar .gtr (t 104) (i 6)),pt 106 101
 105,m 107 106,h 108 107 (.fa 3 (t 8)),h 109 107 (.ld none (t 108)),h 110 107 (.len .str (t 109)),h 111 107 (.ar .gtr (t 110) (i 6)),pt 112 107 111]) (Y [1,7,112])) (C 112
 (rt 2 (u 1)) X))))) (ic 57 7 58)))
def gS:AC:=
 (Q (Q (Q (O [m 117 9,fa 118 5 1,ld 119 118,ls 120 119,bl 121 117 120]) (Y [1,9,121])) (C 121 X (.exit 4))) (Q (.block 5 (Q (Q (O [fa 124 5 1,ld 125 124,m 126 9,ia 127 3 125
 126,la 128 3 127,o 10 (.nw [(.str []),(.str []),(.slice .nil 2 [])] eo),n (.st 3 (t 10) (t 128))]) (Y [1,9,10])) (Q (Q (Q (O [la 129 6 1,fa 130 0 10,ld 131 130,k2
 132 i7 129 131,ac 133 .lss 132 (i 0)]) (Y [1,9,10,133])) (C 133 (rt 2 (u 5)) X)) (Q (Q (Q (O [fa 134 1 10,ld 135 134,k 136 (f cV) [(t 135),
 (s [])],no 137 136,m 138 137,h 139 138 (.fa 1 (t 10)),h 140 138 (.ld none (t 139)),h 141 138 (.len .str (t 140)),h 142 138 (.ar .gtr (t 141) (i 6)),pt 143 138 142]) (Y [1,9,
 10,143])) (C 143 (rt 2 (u 1)) X)) (Q (Q (O [la 144 6 1,fa 145 2 10,ld 146 145,k2 147 iq 144 146,m 11 147]) (Y [1,9,11])) (Q (O [m 148 11,ac 149 .neq 148
 (u 0)]) (C 149 (Q (O [m 150 11,m 2 150]) R) X))))))) (ic 122 9 123)))
def oT:AC:=
 (Q (O [o 1 (.bx ab (t 0)),mc 2 (u 0)]) (Q (Q (Q (O [fa 12 0 1,ld 13 12,k 14 (f cV) [(t 13),(s [])],no 15 14]) (Y [1,15])) (C 15 (rt 2 (u 1)) X)) (Q
 (Q (O [mc 3 (i 1)]) (Q (.block 0 (lo [1,3] gQ)) (Y [1]))) (Q (Q (O [la 33 6 1,k1 34 ny 33,m 4 34]) (Q (O [m 35 4,ac 36 .neq 35 (u 0)])
 (C 36 (Q (O [m 37 4,m 2 37]) R) X))) (Q (Q (O [la 38 6 1,k1 39 mG 38,m 5 39]) (Q (O [m 40 5,ac 41 .neq 40 (u 0)]) (C 41 (Q (O [m 42 5,m 2 42]) R) X))) (Q
 (Q (O [la 43 6 1,k1 44 mH 43,m 6 44]) (Q (O [m 45 6,ac 46 .neq 45 (u 0)]) (C 46 (Q (O [m 47 6,m 2 47]) R) X))) (Q (Q (Q (O [fa 48 4 1,ld 49 48,ls 50 49,
 ac 51 .gtr 50 (i 16)]) (Y [1,51])) (C 51 (rt 2 (u 3)) X)) (Q (Q (O [mc 7 (i 0)]) (Q (.block 2 (lc [1,7] gR)) (Y [1]))) (Q (Q (Q (O [fa 113 5 1,ld 114 113,ls
 115 114,ac 116 .gtr 115 (i 8)]) (Y [1,116])) (C 116 (rt 2 (u 3)) X)) (Q (Q (O [mc 9 (i 0)]) (Q (.block 4 (lc [1,9] gS)) (Y []))) (rt 2 (u 0))))))))))))
def dy:Zj:=⟨oT,151,[.t 2],.drop,[],none⟩
theorem dW:qf dy [.t 2] .drop:=⟨rfl,rfl,rfl⟩
def jf:AC:=
 (Q (O [bl 17 16 15]) (Q (C 17 X (.exit 0)) (Q (.block 1 (Q (Q (O [ia 18 2 14 16,la 19 2 18,o 7 (.nw [(.str []),(.str [])] aR),n (.st 2 (t 7) (t 19))]) (Y [0,7,14,15,
 16])) (Q (D [Pm 20 0,P (o 21 (.nc (t 20))),Pf 22 0 21,Pf 23 0 7,Wl 24 23,P (o 25 (.ar .add (s [32]) (t 24))),P (ac 26 .add 25 (s [61])),Pf 27 1 7,Wl 28 27,P (ar 29 .add 26
 28),E (k2 30 aQ 22 29)]) (Y [0,14,15,16])))) (O [ad 31 16,m 16 31]))))
def qY:AC:=
 (Q (Q (D [Pm 8 0,P (o 9 (.nc (t 8))),Pf 10 0 9,Pm 11 2,E (k 12 (f sV) [(t 11),(s [32])]),E (k2 13 aQ 10 12)]) (Y [0,1])) (Q (Q (O [m 14
 1,ls 15 14,mc 16 (i 0)]) (Q (.block 0 (lo [0,14,15,16] jf)) (Y [0]))) (Q (O [m 32 0,o 33 (.nc (t 32)),fa 34 0 33,k 35 (f eZ) [(t
 34),(u 10)]]) (Y []))))
def j8:Zj:=⟨qY,36,[],.Zn,[],none⟩
theorem qZ:qf j8 [] .Zn:=⟨rfl,rfl,rfl⟩
def zO:AC:=
 (Q (O [mc 2 (s [])]) (Q (Q (O [m 3 0,ac 4 .eql 3 (s [])]) (C 4 (rt 2 (s [45])) X)) (Q (O [m 5 0,m 2 5]) R)))
def zP:Zj:=⟨zO,6,[.t 2],.drop,[],none⟩
theorem LP:qf zP [.t 2] .drop:=⟨rfl,rfl,rfl⟩
def wx:AC:=
 (Q (O [mc 2 (s [])]) (Q (O [m 3 0,k1 4 mI 3,m 2 4]) R))
def s6:Zj:=⟨wx,5,[.t 2],.drop,[],none⟩
theorem Iy:qf s6 [.t 2] .drop:=⟨rfl,rfl,rfl⟩
def oU:AC:=
 (Q (O [mc 2 (i 0)]) (Q (Q (O [m 3 0,o 4 (.nc (t 3)),fa 5 1 4,ld 6 5,ls 7 6,m 2 7]) (Y [2])) R))
def ln:Zj:=⟨oU,8,[.t 2],.drop,[],none⟩
theorem AU:qf ln [.t 2] .drop:=⟨rfl,rfl,rfl⟩
def mr:AC:=
 (Q (O [mc 2 (s [])]) (Q (Q (D [Pm 3 0,P (o 4 (.nc (t 3))),Pf 5 1 4,Wl 6 5,P (o 7 (.usl (t 6))),Pm 8 0,P (o 9 (.nc (t 8))),Pf 10 1 9,Wl 11 10,W (ls 12 11),E (o 13 (.ust
 cq (t 7) (t 12))),Pm 2 13]) (Y [2])) R))
def jw:Zj:=⟨mr,14,[.t 2],.drop,[],none⟩
theorem xR:qf jw [.t 2] .drop:=⟨rfl,rfl,rfl⟩
def qd:AC:=
 (Q (O [mc 2 (s [])]) (Q (Q (O [m 3 0,ac 4 .eql 3 (s [])]) (C 4 (rt 2 (s [45])) X)) (Q (O [m 5 0,m 2 5]) R)))
def qe:Zj:=⟨qd,6,[.t 2],.drop,[],none⟩
theorem BJ:qf qe [.t 2] .drop:=⟨rfl,rfl,rfl⟩
def mQ:AC:=
 (Q (O [mc 2 (s [])]) (Q (Q (O [m 3 0,ac 4 .lss 3 (i 0)]) (C 4 (Q (Q (O [m 5 0,ad 6 5,o 7 (.un .neg (t 6)),o 8 (.cvi .u64 (t 7)),o 9 (.ar .add (t 8) (.c (.int .u64 1))),k1 10
 fK 9,o 11 (.ar .add (s [45]) (t 10)),m 2 11]) (Y [2])) R) X)) (Q (Q (O [m 12 0,o 13 (.cvi .u64 (t 12)),k1 14 fK 13,m 2 14]) (Y [2]))
 R)))
def mR:Zj:=⟨mQ,15,[.t 2],.drop,[],none⟩
theorem yB:qf mR [.t 2] .drop:=⟨rfl,rfl,rfl⟩
def gT:AC:=
 (Q (Q (Q (O [m 5 4,m 6 0,ls 7 6,bl 8 5 7]) (Y [0,3,4,8])) (C 8 X (.exit 0))) (Q (.block 1 (Q (D [Pm 11 3,Pm 12 0,Pm 13 4,P (ia 14 2 12 13),Pf 15 0 14,Wl 16 15,P (o 17
 (.ar .add (s [32]) (t 16))),P (ac 18 .add 17 (s [61])),Pm 19 0,Pm 20 4,P (ia 21 2 19 20),Pf 22 1 21,Wl 23 22,P (ar 24 .add 18 23),P (ar 25 .add 11 24),Pm 3 25]) (Y [0,3,
 4]))) (ic 9 4 10)))
def oV:AC:=
 (Q (O [mc 2 (s [])]) (Q (O [mc 3 (s [])]) (Q (Q (O [mc 4 (i 0)]) (Q (.block 0 (lo [0,3,4] gT)) (Y [3]))) (Q (O [m 26 3,m 2 26]) R))))
def jg:Zj:=⟨oV,27,[.t 2],.drop,[],none⟩
theorem oW:qf jg [.t 2] .drop:=⟨rfl,rfl,rfl⟩
def od:AC:=
 (Q (O [bl 9 8 7]) (Q (C 9 X (.exit 0)) (Q (.block 1 (Q (O [ia 10 1 6 8,ld 11 10,m 4 11]) (Q (O [m 12 4,k 13 (t 12) [],m 5 13]) (Q (O [m 14 5,ac 15 .neq 14 (u 0)]) (C 15 (Q (O
 [m 16 5,m 2 16]) R) X))))) (O [ad 17 8,m 8 17]))))
def xS:AC:=
 (Q (O [mc 2 (u 0)]) (Q (Q (O [m 6 0,ls 7 6,mc 8 (i 0)]) (Q (.block 0 (lo [6,7,8] od)) (Y []))) (rt 2 (u 0))))
def oG:Zj:=⟨xS,18,[.t 2],.drop,[],none⟩
theorem xU:qf oG [.t 2] .drop:=⟨rfl,rfl,rfl⟩
def eP:AC:=
 (Q (O [bl 11 10 9]) (Q (C 11 X (.exit 0)) (Q (.block 1 (Q (O [m 12 10,m 4 12]) (Q (Q (D [Pm 13 3,Pm 14 4,P (o 15 (.ZX (t 13) (t 14))),E (k1 16 cP 15),P (no 17 16),
 Pm 18 17,P (h 19 18 (.mv (t 4))),P (h 20 18 (.ar .gtr (t 19) (i 0))),P (h 21 18 (.mv (t 20))),P (g 22 21 (.mv (t 3))),P (g 23 21 (.mv (t 4))),P (g 24 21 (.ar .sub (t 23) (i
 1))),P (g 25 21 (.ZX (t 22) (t 24))),P (g 26 21 (.mv (t 3))),P (g 27 21 (.mv (t 4))),P (g 28 21 (.ZX (t 26) (t 27))),P (g 29 21 (.ar .geq (t 25) (t 28))),P (h 30 18 (.pk (t
 21) (t 29) F)),P (pt 31 18 30)]) (Y [3,9,10,31])) (C 31 (rt 2 (u 1)) X)))) (O [ad 32 10,m 10 32]))))
def nC:AC:=
 (Q (O [o 1 (.bx bI (t 0)),mc 2 (u 0)]) (Q (Q (O [fa 5 0 1,fa 6 0 5,ld 7 6,m 3 7]) (Y [3])) (Q (Q (O [m 8 3,lt 9 8,mc 10 (i 0)]) (Q (.block 0 (lo [3,9,10]
 eP)) (Y []))) (rt 2 (u 0)))))
def fL:Zj:=⟨nC,33,[.t 2],.drop,[],none⟩
theorem ko:qf fL [.t 2] .drop:=⟨rfl,rfl,rfl⟩
def ve:AC:=
 (Q (O [mc 2 (u 0)]) (Q (Q (O [fa 3 1 0,ld 4 3,la 5 6 1,o 6 (.mf (.func k6) [(t 5)] []),k 7 (f kf) [(t 4),(i 8),(t 6)],m 2 7]) (Y [2]))
 R))
def rT:Zj:=⟨ve,8,[.t 2],.drop,[],none⟩
theorem Gu:qf rT [.t 2] .drop:=⟨rfl,rfl,rfl⟩
def gq:AC:=
 (Q (O [bl 17 16 15]) (Q (C 17 X (.exit 0)) (Q (.block 1 (Q (Q (O [m 18 16,ia 19 2 14 16,la 20 2 19,o 8 (.nw [(.str []),(.slice .nil 1 [])] bW),m 7 18,n (.st 2 (t 8)
 (t 20))]) (Y [2,7,8,14,15,16])) (Q (Q (O [m 21 2,m 22 7,la 23 2 8,k 24 (t 21) [(t 22),(t 23)],m 9 24]) (Y [2,9,14,15,16])) (Q (O [m 25 9,ac 26 .neq 25 (u 0)]) (C 26
 (Q (O [m 27 9,m 6 27]) R) X))))) (O [ad 28 16,m 16 28]))))
def nD:AC:=
 (Q (O [mc 6 (u 0)]) (Q (Q (Q (O [m 10 0,ls 11 10,m 12 1,ar 13 .gtr 11 12]) (Y [0,2,13])) (C 13 (rt 6 (u 3)) X)) (Q (Q (O [m 14 0,ls 15 14,mc 16 (i 0)]) (Q (.block 0 (lc [2,
 14,15,16] gq)) (Y []))) (rt 6 (u 0)))))
def eu:Zj:=⟨nD,29,[.t 6],.drop,[],none⟩
theorem nE:qf eu [.t 6] .drop:=⟨rfl,rfl,rfl⟩
def gU:AC:=
 (Q (O [bl 36 35 34]) (Q (C 36 X (.exit 1)) (Q (.block 2 (Q (Q (O [m 37 35,ia 38 1 33 35,ld 39 38,m 7 37,m 8 39]) (Y [5,7,8,33,34,35])) (Q (Q (O [m 40 8,k1 41 sW
 40,no 42 41]) (C 42 (rt 6 (u 5)) X)) (Q (Q (O [fa 43 1 5,ld 44 43,m 45 7,o 46 (.sll 1 (t 44) none (some (t 45)) none),m 47 8,k2 48 ft 46 47]) (Y
 [5,33,34,35,48])) (C 48 (rt 6 (u 6)) X))))) (O [ad 49 35,m 35 49]))))
def oX:AC:=
 (Q (O [o 3 (.bx bI (t 0)),o 5 (.bx bW (t 2)),mc 6 (u 0)]) (Q (.block 0 (Q (Q (O [fa 10 0 5,ld 11 10,k1 12 sW 11,no 13 12,m 9 13]) (Y [1,3,5,
 9])) (C 9 (rt 6 (u 5)) (Q (Q (O [fa 15 0 3,fa 16 1 15,ld 17 16,m 18 1,o 19 (.sll 2 (t 17) none (some (t 18)) none),o 20 (.mf (.func jI) [] [(t 5)]),k2 21
 dt 19 20,m 14 21]) (Y [5,14])) (C 14 (rt 6 (u 6)) (Q (Q (O [fa 23 1 5,ld 24 23,ls 25 24,ac 26 .gtr 25 (i 8),m 22 26]) (Y [5,22])) (C 22
 (rt 6 (u 3)) (Q (Q (O [fa 28 1 5,ld 29 28,ls 30 29,ac 31 .eql 30 (i 0),m 27 31]) (Y [5,27])) (C 27 (rt 6 (u 1)) X))))))))) (Q (Q (Q (O [fa 32 1 5,ld 33 32,ls 34 33,mc 35 (i
 0)]) (Y [5,33,34,35])) (Q (.block 1 (lo [5,33,34,35] gU)) (Y []))) (rt 6 (u 0)))))
def gl:Zj:=⟨oX,50,[.t 6],.drop,[],none⟩
theorem oY:qf gl [.t 6] .drop:=⟨rfl,rfl,rfl⟩
def vf:AC:=
 (Q (O [mc 2 (u 0)]) (Q (Q (O [fa 3 2 0,ld 4 3,la 5 6 1,o 6 (.mf (.func k7) [(t 5)] []),k 7 (f kg) [(t 4),(i 16),(t 6)],m 2 7]) (Y [2]))
 R))
def rU:Zj:=⟨vf,8,[.t 2],.drop,[],none⟩
theorem Gv:qf rU [.t 2] .drop:=⟨rfl,rfl,rfl⟩
def gr:AC:=
 (Q (O [bl 17 16 15]) (Q (C 17 X (.exit 0)) (Q (.block 1 (Q (Q (O [m 18 16,ia 19 2 14 16,la 20 2 19,o 8 (.nw [(.str []),(.slice .nil 4 [])] aJ),m 7 18,n (.st 2 (t 8)
 (t 20))]) (Y [2,7,8,14,15,16])) (Q (Q (O [m 21 2,m 22 7,la 23 2 8,k 24 (t 21) [(t 22),(t 23)],m 9 24]) (Y [2,9,14,15,16])) (Q (O [m 25 9,ac 26 .neq 25 (u 0)]) (C 26
 (Q (O [m 27 9,m 6 27]) R) X))))) (O [ad 28 16,m 16 28]))))
def nF:AC:=
 (Q (O [mc 6 (u 0)]) (Q (Q (Q (O [m 10 0,ls 11 10,m 12 1,ar 13 .gtr 11 12]) (Y [0,2,13])) (C 13 (rt 6 (u 3)) X)) (Q (Q (O [m 14 0,ls 15 14,mc 16 (i 0)]) (Q (.block 0 (lc [2,
 14,15,16] gr)) (Y []))) (rt 6 (u 0)))))
def ew:Zj:=⟨nF,29,[.t 6],.drop,[],none⟩
theorem nG:qf ew [.t 6] .drop:=⟨rfl,rfl,rfl⟩
def oZ:AC:=
 (Q (O [o 3 (.bx bI (t 0)),o 5 (.bx aJ (t 2)),mc 6 (u 0)]) (Q (.block 0 (Q (Q (O [fa 8 0 5,ld 9 8,k1 10 sW 9,no 11 10,m 7 11]) (Y [1,3,5,7]))
 (C 7 (rt 6 (u 5)) (Q (Q (O [fa 13 0 3,fa 14 2 13,ld 15 14,m 16 1,o 17 (.sll 2 (t 15) none (some (t 16)) none),o 18 (.mf (.func jJ) [] [(t 5)]),k2 19
 du 17 18,m 12 19]) (Y [3,5,12])) (C 12 (rt 6 (u 6)) (Q (Q (O [fa 21 1 5,ld 22 21,ls 23 22,ac 24 .gtr 23 (i 24),m 20 24]) (Y [3,5,
 20])) (C 20 (rt 6 (u 3)) (Q (Q (O [fa 26 1 5,ld 27 26,ls 28 27,ac 29 .eql 28 (i 0),m 25 29]) (Y [3,5,25])) (C 25 (rt 6 (u 1)) X))))))))) (Q (Q (O [fa 30 1 5,ld 31 30,o 32
 (.mf (.func jK) [] [(t 3)]),k 33 (f lg) [(t 31),(i 24),(t 32)],m 6 33]) (Y [6])) R)))
def lq:Zj:=⟨oZ,34,[.t 6],.drop,[],none⟩
theorem AW:qf lq [.t 6] .drop:=⟨rfl,rfl,rfl⟩
def vg:AC:=
 (Q (O [mc 2 (u 0)]) (Q (Q (O [fa 3 3 0,ld 4 3,la 5 6 1,o 6 (.mf (.func k8) [(t 5)] []),k 7 (f kh) [(t 4),(i 128),(t 6)],m 2 7]) (Y
 [2])) R))
def rV:Zj:=⟨vg,8,[.t 2],.drop,[],none⟩
theorem Gw:qf rV [.t 2] .drop:=⟨rfl,rfl,rfl⟩
def gu:AC:=
 (Q (O [bl 17 16 15]) (Q (C 17 X (.exit 0)) (Q (.block 1 (Q (Q (O [m 18 16,ia 19 4 14 16,la 20 4 19,o 8 (.nw [(.str []),(.str []),(.slice .nil 2 []),(.slice .nil 2 [])]
 aD),m 7 18,n (.st 4 (t 8) (t 20))]) (Y [2,7,8,14,15,16])) (Q (Q (O [m 21 2,m 22 7,la 23 4 8,k 24 (t 21) [(t 22),(t 23)],m 9 24]) (Y [2,9,14,15,16])) (Q (O
 [m 25 9,ac 26 .neq 25 (u 0)]) (C 26 (Q (O [m 27 9,m 6 27]) R) X))))) (O [ad 28 16,m 16 28]))))
def nH:AC:=
 (Q (O [mc 6 (u 0)]) (Q (Q (Q (O [m 10 0,ls 11 10,m 12 1,ar 13 .gtr 11 12]) (Y [0,2,13])) (C 13 (rt 6 (u 3)) X)) (Q (Q (O [m 14 0,ls 15 14,mc 16 (i 0)]) (Q (.block 0 (lc [2,
 14,15,16] gu)) (Y []))) (rt 6 (u 0)))))
def ey:Zj:=⟨nH,29,[.t 6],.drop,[],none⟩
theorem nI:qf ey [.t 6] .drop:=⟨rfl,rfl,rfl⟩
def gV:AC:=
 (Q (O [bl 51 50 49]) (Q (C 51 X (.exit 1)) (Q (.block 2 (Q (Q (O [m 52 50,ia 53 2 48 50,la 54 2 53,o 11 (.nw [(.int .i64 0),(.str [])] bk),m 10 52,n (.st 2 (t 11)
 (t 54))]) (Y [5,7,10,11,48,49,50])) (.block 3 (Q (Q (O [fa 56 0 11,ld 57 56,ac 58 .lss 57 (i 0),m 59 58,h 60 59 (.fa 0 (t 11)),h 61 59 (.ld none (t 60)),h 62 59 (.fa 1
 (t 7)),h 63 59 (.ld none (t 62)),h 64 59 (.len .sl (t 63)),h 65 59 (.ar .geq (t 61) (t 64)),pt 66 59 65,m 55 66]) (Y [5,7,10,11,48,49,50,55])) (C 55 (rt 6 (u 7)) (Q (Q
 (O [fa 68 3 5,ld 69 68,m 70 10,o 71 (.sll 2 (t 69) none (some (t 70)) none),o 72 (.mf (.func jN) [] [(t 11)]),k2 73
 cj 71 72,m 67 73]) (Y [5,7,11,48,49,50,67])) (C 67 (rt 6 (u 6)) (Q (Q (O [fa 75 1 11,ld 76 75,ac 77 .neq 76 (s []),m 78 77,
 g 79 78 (.fa 1 (t 11)),g 80 78 (.ld none (t 79)),⟨(some 81),(some (78,true)),(.call (.c (.fn (.func uh) [] [])) [(.t 80)])⟩,g 82 78 (.un .not (t 81)),pf 83 78 82,
 m 74 83]) (Y [5,7,48,49,50,74])) (C 74 (rt 6 (u 1)) X))))))))) (O [ad 84 50,m 50 84]))))
def o6:AC:=
 (Q (O [o 3 (.bx bI (t 0)),o 5 (.bx aD (t 2)),mc 6 (u 0)]) (Q (Q (O [fa 13 0 3,la 14 6 13,fa 15 1 5,ld 16 15,k2 17 lK 14 16,m 12 17,ex 18
 12 0,ex 19 12 1,o 7 (.nw [(.str []),(.slice .nil 4 [])] aJ),n (.st 2 (t 7) (t 18)),m 8 19]) (Y [1,3,5,7,8])) (Q (.block 0 (Q (Q (O [fa 21 0 5,ld 22 21,k1 23
 uh 22,no 24 23,m 20 24]) (Y [1,3,5,7,8,20])) (C 20 (rt 6 (u 1)) (Q (O [m 26 8,no 27 26,m 25 27]) (C 25 (rt 6 (u 5)) (Q (Q (O [fa 29 0 3,fa 30 3 29,ld 31 30,m
 32 1,o 33 (.sll 4 (t 31) none (some (t 32)) none),o 34 (.mf (.func jL) [] [(t 5)]),k2 35 dv 33 34,m 28 35]) (Y [3,5,
 7,28])) (C 28 (rt 6 (u 6)) X))))))) (Q (Q (Q (O [la 36 6 3,fa 37 2 5,ld 38 37,k2 39 ir 36 38,m 9 39]) (Y [5,7,9])) (Q (O [m 40 9,ac 41 .neq 40 (u 0)]) (C
 41 (Q (O [m 42 9,m 6 42]) R) X))) (Q (Q (Q (O [fa 43 1 7,ld 44 43,o 45 (.mf (.func jM) [] [(t 5)]),k2 46 dC 44 45]) (Y
 [5,7,46])) (C 46 (rt 6 (u 10)) X)) (Q (Q (Q (O [fa 47 3 5,ld 48 47,ls 49 48,mc 50 (i 0)]) (Y [5,7,48,49,50])) (Q (.block 1 (lc [5,7,48,49,50] gV))
 (Y []))) (rt 6 (u 0))))))))
def gm:Zj:=⟨o6,85,[.t 6],.drop,[],none⟩
theorem lu:qf gm [.t 6] .drop:=⟨rfl,rfl,rfl⟩
def vh:AC:=
 (Q (O [mc 2 (u 0)]) (Q (Q (O [fa 3 4 0,ld 4 3,la 5 6 1,o 6 (.mf (.func k9) [(t 5)] []),k 7 (f ki) [(t 4),(i 16),(t 6)],m 2 7]) (Y [2]))
 R))
def rW:Zj:=⟨vh,8,[.t 2],.drop,[],none⟩
theorem Gx:qf rW [.t 2] .drop:=⟨rfl,rfl,rfl⟩
def gv:AC:=
 (Q (O [bl 17 16 15]) (Q (C 17 X (.exit 0)) (Q (.block 1 (Q (Q (O [m 18 16,ia 19 4 14 16,la 20 4 19,o 8 (.nw [(.str []),(.str []),(.str []),(.str [])] di),m 7 18,n
 (.st 4 (t 8) (t 20))]) (Y [2,7,8,14,15,16])) (Q (Q (O [m 21 2,m 22 7,la 23 4 8,k 24 (t 21) [(t 22),(t 23)],m 9 24]) (Y [2,9,14,15,16])) (Q (O [m 25 9,ac 26 .neq 25 (u
 0)]) (C 26 (Q (O [m 27 9,m 6 27]) R) X))))) (O [ad 28 16,m 16 28]))))
def nJ:AC:=
 (Q (O [mc 6 (u 0)]) (Q (Q (Q (O [m 10 0,ls 11 10,m 12 1,ar 13 .gtr 11 12]) (Y [0,2,13])) (C 13 (rt 6 (u 3)) X)) (Q (Q (O [m 14 0,ls 15 14,mc 16 (i 0)]) (Q (.block 0 (lc [2,
 14,15,16] gv)) (Y []))) (rt 6 (u 0)))))
def ez:Zj:=⟨nJ,29,[.t 6],.drop,[],none⟩
theorem nK:qf ez [.t 6] .drop:=⟨rfl,rfl,rfl⟩
def o7:AC:=
 (Q (O [o 3 (.bx bI (t 0)),o 5 (.bx di (t 2)),mc 6 (u 0)]) (Q (Q (Q (O [fa 7 0 5,ld 8 7,ac 9 .eql 8 (s []),m 10 9,h 11 10 (.fa 0 (t 5)),h 12 10 (.ld none
 (t 11)),⟨(some 13),(some (10,false)),(.call (.c (.fn (.func ju) [] [])) [(.t 12),(.c (.fn (.func mJ) [] []))])⟩,h 14 10 (.un .not (t 13)),pt 15 10 14,
 m 16 15,h 17 16 (.fa 1 (t 5)),h 18 16 (.ld none (t 17)),⟨(some 19),(some (16,false)),(.call (.c (.fn (.func ju) [] [])) [(.t 18),(.c (.fn (.func mJ) []
 []))])⟩,h 20 16 (.un .not (t 19)),pt 21 16 20,m 22 21,h 23 22 (.fa 2 (t 5)),h 24 22 (.ld none (t 23)),⟨(some 25),(some (22,false)),(.call (.c (.fn (.func ju) []
 [])) [(.t 24),(.c (.fn (.func p6) [] []))])⟩,h 26 22 (.un .not (t 25)),pt 27 22 26,m 28 27,h 29 28 (.fa 3 (t 5)),h 30 28 (.ld none (t 29)),⟨(some 31),(some (28,
 false)),(.call (.c (.fn (.func ju) [] [])) [(.t 30),(.c (.fn (.func p6) [] []))])⟩,h 32 28 (.un .not (t 31)),pt 33 28 32]) (Y [33])) (C 33 (rt 6 (u 1))
 X)) (rt 6 (u 0))))
def lA:Zj:=⟨o7,34,[.t 6],.drop,[],none⟩
theorem AX:qf lA [.t 6] .drop:=⟨rfl,rfl,rfl⟩
def vi:AC:=
 (Q (O [mc 2 (u 0)]) (Q (Q (O [fa 3 5 0,ld 4 3,la 5 6 1,o 6 (.mf (.func lV) [(t 5)] []),k 7 (f lf) [(t 4),(i 8),(t 6)],m 2 7]) (Y [2]))
 R))
def rX:Zj:=⟨vi,8,[.t 2],.drop,[],none⟩
theorem Gy:qf rX [.t 2] .drop:=⟨rfl,rfl,rfl⟩
def gW:AC:=
 (Q (O [bl 17 16 15]) (Q (C 17 X (.exit 0)) (Q (.block 1 (Q (Q (O [m 18 16,ia 19 3 14 16,la 20 3 19,o 8 (.nw [(.str []),(.str []),(.slice .nil 2 [])] eo),m 7 18,n (.st
 3 (t 8) (t 20))]) (Y [2,7,8,14,15,16])) (Q (Q (O [m 21 2,m 22 7,la 23 3 8,k 24 (t 21) [(t 22),(t 23)],m 9 24]) (Y [2,9,14,15,16])) (Q (O [m 25 9,ac 26 .neq 25 (u 0)])
 (C 26 (Q (O [m 27 9,m 6 27]) R) X))))) (O [ad 28 16,m 16 28]))))
def o8:AC:=
 (Q (O [mc 6 (u 0)]) (Q (Q (Q (O [m 10 0,ls 11 10,m 12 1,ar 13 .gtr 11 12]) (Y [0,2,13])) (C 13 (rt 6 (u 3)) X)) (Q (Q (O [m 14 0,ls 15 14,mc 16 (i 0)]) (Q (.block 0 (lc [2,
 14,15,16] gW)) (Y []))) (rt 6 (u 0)))))
def eV:Zj:=⟨o8,29,[.t 6],.drop,[],none⟩
theorem o9:qf eV [.t 6] .drop:=⟨rfl,rfl,rfl⟩
def qg:AC:=
 (Q (O [o 3 (.bx bI (t 0)),o 5 (.bx eo (t 2)),mc 6 (u 0)]) (Q (Q (Q (O [fa 10 0 3,la 11 6 10,fa 12 0 5,ld 13 12,k2 14 lK 11 13,m 9 14,ex 15
 9 0,ex 16 9 1,o 7 (.nw [(.str []),(.slice .nil 4 [])] aJ),n (.st 2 (t 7) (t 15)),m 8 16]) (Y [3,5,8])) (Q (O [m 17 8,no 18 17]) (C 18 (rt 6 (u 5)) X))) (Q (Q (Q (O
 [fa 19 1 5,ld 20 19,k 21 (f ju) [(t 20),(f cP)],no 22 21]) (Y [3,5,22])) (C 22 (rt 6 (u 1)) X)) (Q (Q (O [la 23 6 3,fa 24 2 5,ld 25 24,k2 26
 ir 23 25,m 6 26]) (Y [6])) R))))
def lY:Zj:=⟨qg,27,[.t 6],.drop,[],none⟩
theorem uB:qf lY [.t 6] .drop:=⟨rfl,rfl,rfl⟩
def eh:AC:=
 (Q (Q (O [m 34 10,m 35 3,bl 36 34 35]) (C 36 X (.exit 0))) (.block 1 (Q (Q (O [m 37 0,m 38 1,k2 39 lM 37 38,m 11 39]) (Y [0,1,2,3,9,10,11])) (Q (Q (O [m 40
 11,ac 41 .lss 40 (i 0)]) (C 41 (.exit 0) X)) (Q (Q (O [m 42 9,m 43 10,m 44 0,m 45 11,m 46 2,ar 47 .add 45 46,o 48 (.sls (t 44) none (some (t 47))),ia 49 1 42 43,n (.st 1 (t
 49) (t 48))]) (Y [0,1,2,3,9,10,11])) (Q (Q (O [m 50 0,m 51 11,m 52 1,lt 53 52,ar 54 .add 51 53,o 55 (.sls (t 50) (some (t 54)) none),m 0 55]) (Y [0,1,2,3,9,10]))
 (ic 56 10 57)))))))
def gC:AC:=
 (Q (O [mc 8 (.c (.slice .nil 1 []))]) (Q (Q (O [m 12 3,ac 13 .eql 12 (i 0)]) (C 13 (Q (O [mc 8 (.c (.slice .nil 1 []))]) R) X)) (Q (Q (O [m 14 1,ac 15 .eql 14 (s [])]) (C 15 (Q (Q
 (O [m 16 0,m 17 3,k2 18 xw 16 17,m 8 18]) (Y [8])) R) X)) (Q (Q (O [m 19 3,ac 20 .lss 19 (i 0)]) (C 20 (Q (O [m 21 0,m 22 1,k2 23 lL 21 22,ad 24
 23,m 3 24]) (Y [0,1,2,3])) X)) (Q (Q (O [m 25 3,m 26 0,lt 27 26,ad 28 27,o 29 (.mn (t 25) (t 28)),m 3 29]) (Y [0,1,2,3])) (Q (O [m 30 3,o 31 (.ms aI 16 [(.str
 [])] (t 30) (t 30)),m 9 31]) (Q (O [m 32 3,ac 33 .sub 32 (i 1),m 3 33]) (Q (O [mc 10 (i 0)]) (Q (Q (.block 0 (lo [0,1,2,3,9,10] eh)) (Y [0,9,10])) (Q (Q
 (O [m 58 9,m 59 10,m 60 0,ia 61 1 58 59,n (.st 1 (t 61) (t 60))]) (Y [9,10])) (Q (Q (O [m 62 9,m 63 10,ad 64 63,o 65 (.sll 1 (t 62) none (some (t 64)) none),m 8 65]) (Y
 [8])) R)))))))))))
def gD:Zj:=⟨gC,66,[.t 8],.deep,[],none⟩
theorem jo:qf gD [.t 8] .deep:=⟨rfl,rfl,rfl⟩
def eA:AC:=
 (.block 0 (Q (O [o 6 (.eq false (.ifc true) (t 4) (.c .Zr))]) (C 6 (O [m 1 4]) (Q (O [o 7 (.ta dN (some (.agg [])) true (t 4)),ex 8 7 1,ex 9 7 0]) (C 8 (Q (O [o 2
 (.nw [] dN),n (.st 0 (t 2) (t 9))]) (O [n (.st 1 (t 0) F)])) (Q (O [m 3 4]) (O [m 5 3,⟨none,none,(.panic (.t 5))⟩])))))))
def bH:Zj:=⟨eA,10,[],.Zn,[],none⟩
def xV:AC:=
 (Q (O [mc 0 (.c .ZG)]) (Q (Q (O [o 1 .mm,o 2 (.bd [(.int .i64 0),(.int .i64 0),(.bool false),.Zw] [(0,1),(1,1),(2,1),(3,1)] [(0,(i 0)),(1,(i 1)),(2,F),(3,(f
 lN))]),n (.mu .str (t 1) (s [118,111,119,101,108,115]) (t 2)),o 3 (.bd [(.int .i64 0),(.int .i64 0),(.bool false),.Zw] [(0,1),(1,1),(2,1),(3,1)]
 [(0,(i 1)),(1,(i 1)),(2,T),(3,(f lO))]),n (.mu .str (t 1) (s [116,114,97,105,116]) (t 3)),o 4 (.bd [(.int .i64 0),(.int .i64 0),(.bool false),.Zw]
 [(0,1),(1,1),(2,1),(3,1)] [(0,(i 2)),(1,(i 1)),(2,F),(3,(f lP))]),n (.mu .str (t 1) (s [99,108,97,115,115]) (t 4)),o 5 (.bd [(.int .i64 0),(.int
 .i64 0),(.bool false),.Zw] [(0,1),(1,1),(2,1),(3,1)] [(0,(i 2)),(1,(i 3)),(2,T),(3,(f iR))]),n (.mu .str (t 1) (s [115,108,111,116]) (t 5)),o 6
 (.bd [(.int .i64 0),(.int .i64 0),(.bool false),.Zw] [(0,1),(1,1),(2,1),(3,1)] [(0,(i 3)),(1,(i 2)),(2,T),(3,(f jZ))]),n (.mu .str (t 1) (s [101,
 110,116,114,121]) (t 6)),o 7 (.bd [(.int .i64 0),(.int .i64 0),(.bool false),.Zw] [(0,1),(1,1),(2,1),(3,1)] [(0,(i 3)),(1,(i 2)),(2,F),(3,(f
 iS))]),n (.mu .str (t 1) (s [102,111,114,109]) (t 7)),o 8 (.bd [(.int .i64 0),(.int .i64 0),(.bool false),.Zw] [(0,1),(1,1),(2,1),(3,1)] [(0,(i 4)),
 (1,(i 4)),(2,F),(3,(f lQ))]),n (.mu .str (t 1) (s [115,112,101,108,108]) (t 8)),o 9 (.bd [(.int .i64 0),(.int .i64 0),(.bool false),.Zw] [(0,1),(1,
 1),(2,1),(3,1)] [(0,(i 5)),(1,(i 2)),(2,T),(3,(f j0))]),n (.mu .str (t 1) (s [108,105,110,107]) (t 9)),m 10 1,m 0 10]) (Y [0])) R))
def um:Zj:=⟨xV,11,[.t 0],.frz,[],none⟩
theorem JD:qf um [.t 0] .frz:=⟨rfl,rfl,rfl⟩
def wy:AC:=
 (Q (O [m 2 0,no 3 2]) (C 3 (O [o 4 (.bd [] [] []),o 5 (.mi dN (t 4)),⟨none,none,(.panic (.t 5))⟩]) X))
def s7:Zj:=⟨wy,6,[],.drop,[],none⟩
theorem BK:qf s7 [] .drop:=⟨rfl,rfl,rfl⟩
def tY:AC:=
 (Q (O [mc 6 (.c (.slice .nil 1 []))]) (Q (Q (O [m 7 0,m 8 1,m 9 2,k 10 (f kL) [(t 7),(t 8),(i 0),(t 9)],m 6 10]) (Y [6])) R))
def qH:Zj:=⟨tY,11,[.t 6],.drop,[],none⟩
theorem E8:qf qH [.t 6] .drop:=⟨rfl,rfl,rfl⟩
def qh:AC:=
 (Q (O [mc 2 (s [])]) (Q (Q (O [m 3 0,ac 4 .eql 3 (s [45])]) (C 4 (rt 2 (s [])) X)) (Q (O [m 5 0,m 2 5]) R)))
def qi:Zj:=⟨qh,6,[.t 2],.drop,[],none⟩
theorem BL:qf qi [.t 2] .drop:=⟨rfl,rfl,rfl⟩
def dO:AC:=
 (Q (Q (Q (O [m 25 7,m 26 0,lt 27 26,bl 28 25 27]) (Y [0,1,6,7,28])) (C 28 X (.exit 0))) (Q (.block 1 (Q (Q (Q (O [m 31 0,m 32 7,o 33 (.ZX (t 31) (t 32)),ac 34 .lss 33 (u
 48),m 35 34,h 36 35 (.mv (t 0)),h 37 35 (.mv (t 7)),h 38 35 (.ZX (t 36) (t 37)),h 39 35 (.ar .gtr (t 38) (u 57)),pt 40 35 39]) (Y [0,1,6,7,40])) (C 40 (Q (O [mc 4 (i 0),
 mc 5 F]) R) X)) (Q (O [m 41 6,o 42 (.ar .mul (i 10) (t 41)),m 43 0,m 44 7,o 45 (.ZX (t 43) (t 44)),ac 46 .sub 45 (u 48),o 47 (.cvi .i64 (t 46)),ar 48 .add 42 47,m 6 48]) (Y
 [0,1,6,7])))) (ic 29 7 30)))
def bD:AC:=
 (Q (O [mc 4 (i 0),mc 5 F]) (Q (Q (Q (O [m 8 0,ac 9 .eql 8 (s []),m 10 9,h 11 10 (.mv (t 0)),h 12 10 (.len .str (t 11)),h 13 10 (.ar .gtr (t 12) (i 9)),pt 14 10 13,m 15 14,h
 16 15 (.mv (t 0)),h 17 15 (.len .str (t 16)),h 18 15 (.ar .gtr (t 17) (i 1)),h 19 15 (.mv (t 18)),g 20 19 (.mv (t 0)),g 21 19 (.ZX (t 20) (i 0)),g 22 19 (.ar .eql (t 21) (u
 48)),h 23 15 (.pk (t 19) (t 22) F),pt 24 15 23]) (Y [0,1,24])) (C 24 (Q (O [mc 4 (i 0),mc 5 F]) R) X)) (Q (O [mc 6 (i 0)]) (Q (Q (O [mc 7 (i 0)]) (Q (.block 0 (lo [0,1,6,7]
 dO)) (Y [1,6]))) (Q (Q (O [m 49 6,m 50 6,m 51 1,ar 52 .leq 50 51,m 4 49,m 5 52]) (Y [4,5])) R)))))
def iG:Zj:=⟨bD,53,[.t 4,.t 5],.drop,[],none⟩
theorem cg:qf iG [.t 4,.t 5] .drop:=⟨rfl,rfl,rfl⟩
def dE:AC:=
 (Q (Q (Q (O [m 14 7,m 15 0,m 16 5,ia 17 1 15 16,ld 18 17,lt 19 18,bl 20 14 19]) (Y [0,4,5,6,7,20])) (C 20 X (.exit 2))) (Q (.block 3 (Q (Q (O [m 23 0,m 24 5,ia 25 1 23
 24,ld 26 25,m 27 7,o 28 (.ZX (t 26) (t 27)),ac 29 .eql 28 (u 61)]) (Y [0,4,5,6,7,29])) (C 29 (Q (Q (O [m 30 6,ac 31 .geq 30 (i 0)]) (C 31 (Q (O [mc 2 (.c (.slice .nil 2
 [])),mc 3 F]) R) X)) (O [m 32 7,m 6 32])) X))) (ic 21 7 22)))
def dF:AC:=
 (Q (Q (Q (O [m 8 5,m 9 0,ls 10 9,bl 11 8 10]) (Y [0,4,5,11])) (C 11 X (.exit 0))) (Q (Q (.block 1 (Q (O [mc 6 (i (-1))]) (Q (Q (O [mc 7 (i 0)]) (Q (.block 2 (lo [0,4,5,6,
 7] dE)) (Y [0,4,5,6]))) (Q (Q (O [m 33 6,ac 34 .lss 33 (i 0)]) (C 34 (Q (O [mc 2 (.c (.slice .nil 2 [])),mc 3 F]) R) X)) (Q (D [Pm 35 4,Pm 36 0,Pm 37
 5,P (ia 38 1 36 37),Wl 39 38,Pm 40 6,P (o 41 (.sls (t 39) none (some (t 40)))),Pm 42 0,Pm 43 5,P (ia 44 1 42 43),Wl 45 44,Pm 46 6,P (ad 47 46),P (o 48 (.sls (t 45) (some
 (t 47)) none)),P (o 49 (.bd [(.str []),(.str [])] [(0,1),(1,1)] [(0,(t 41)),(1,(t 48))])),P (o 50 (.bs 2 [(.str []),(.str [])] 1 [(0,(t 49))])),E (o 51 (.ap false
 aR 2 32 false (t 35) (t 50))),Pm 4 51]) (Y [0,4,5])))))) (Y [0,4,5])) (ic 12 5 13)))
def gX:AC:=
 (Q (O [mc 2 (.c (.slice .nil 2 [])),mc 3 F]) (Q (O [mc 4 (.c (.slice .nil 2 []))]) (Q (Q (O [mc 5 (i 0)]) (Q (.block 0 (.loop ⟨(some [0,4,5]),[(4,2,aR)],false⟩
 dF)) (Y [4]))) (Q (O [m 52 4,m 2 52,mc 3 T]) R))))
def eb:Zj:=⟨gX,53,[.t 2,.t 3],.drop,[],none⟩
theorem cw:qf eb [.t 2,.t 3] .drop:=⟨rfl,rfl,rfl⟩
def jB:AC:=
 (Q (Q (Q (O [m 18 7,m 19 1,lt 20 19,bl 21 18 20]) (Y [0,1,5,6,7,21])) (C 21 X (.exit 2))) (Q (.block 3 (Q (D [Pm 24 6,Pm 25 24,P (h 26 25 (.mv (t 0))),P (h 27 25 (.mv (t
 5))),P (h 28 25 (.ZX (t 26) (t 27))),P (h 29 25 (.mv (t 1))),P (h 30 25 (.mv (t 7))),P (h 31 25 (.ZX (t 29) (t 30))),P (h 32 25 (.ar .eql (t 28) (t 31))),P (pt 33 25 32),Pm
 6 33]) (Y [0,1,5,6,7]))) (ic 22 7 23)))
def jC:AC:=
 (Q (Q (Q (O [m 8 5,m 9 0,lt 10 9,bl 11 8 10]) (Y [0,1,5,11])) (C 11 X (.exit 0))) (Q (Q (.block 1 (Q (Q (O [m 14 0,m 15 5,o 16 (.ZX (t 14) (t 15)),k1 17
 iu 16,m 6 17]) (Y [0,1,5,6])) (Q (Q (O [mc 7 (i 0)]) (Q (.block 2 (lo [0,1,5,6,7] jB)) (Y [0,1,5,6]))) (Q (O [m 34 6,no 35 34]) (C
 35 (rt 4 F) X))))) (Y [0,1,5])) (ic 12 5 13)))
def sj:AC:=
 (Q (O [mc 4 F]) (Q (Q (O [mc 5 (i 0)]) (Q (.block 0 (lo [0,1,5] jC)) (Y []))) (rt 4 T)))
def bh:Zj:=⟨sj,36,[.t 4],.drop,[],none⟩
def gx:AC:=
 (Q (Q (Q (O [m 44 5,fa 45 1 4,ld 46 45,ls 47 46,bl 48 44 47]) (Y [1,3,4,5,48])) (C 48 X (.exit 3))) (Q (.block 4 (Q (Q (Q (O [fa 51 1 4,ld 52 51,m 53 5,ia 54 1 52 53,ld
 55 54,k1 56 jA 55,no 57 56]) (Y [1,3,4,5,57])) (C 57 (rt 2 (u 5)) X)) (Q (Q (D [Pf 58 1 4,Wl 59 58,Pm 60 5,P (o 61 (.sll 1 (t 59) none (some (t 60))
 none)),Pf 62 1 4,Wl 63 62,Pm 64 5,P (ia 65 1 63 64),Wl 66 65,E (k2 67 nz 61 66)]) (Y [1,3,4,5,67])) (C 67 (rt 2 (u 6)) X)))) (ic 49 5 50)))
def gy:AC:=
 (Q (Q (Q (O [m 10 3,fa 11 1 1,ld 12 11,ls 13 12,bl 14 10 13]) (Y [1,3,14])) (C 14 X (.exit 0))) (Q (Q (.block 1 (Q (Q (O [fa 17 1 1,ld 18 17,m 19 3,ia 20 2 18 19,la 21 2
 20,o 4 (.nw [(.str []),(.slice .nil 1 [])] bW),n (.st 2 (t 4) (t 21))]) (Y [1,3,4])) (Q (.block 2 (Q (Q (O [fa 23 0 4,ld 24 23,k1 25 jA 24,no 26
 25,m 22 26]) (Y [1,3,4,22])) (C 22 (rt 2 (u 5)) (Q (Q (O [la 28 6 1,fa 29 0 4,ld 30 29,k2 31 lj 28 30,m 32 3,bl 33 31 32,m 27 33]) (Y [1,3,4,27])) (C
 27 (rt 2 (u 6)) (Q (Q (O [fa 35 1 4,ld 36 35,ls 37 36,ac 38 .gtr 37 (i 8),m 34 38]) (Y [1,3,4,34])) (C 34 (rt 2 (u 3)) (Q (Q (O [fa 40 1 4,ld 41 40,ls 42 41,ac 43 .eql 42
 (i 0),m 39 43]) (Y [1,3,4,39])) (C 39 (rt 2 (u 1)) X))))))))) (Q (O [mc 5 (i 0)]) (Q (.block 3 (lo [1,3,4,5] gx)) (Y [1,3])))))) (Y [1,3])) (ic 15 3
 16)))
def nL:AC:=
 (Q (O [o 1 (.bx ab (t 0)),mc 2 (u 0)]) (Q (Q (Q (O [fa 6 1 1,ld 7 6,ls 8 7,ac 9 .gtr 8 (i 8)]) (Y [1,9])) (C 9 (rt 2 (u 3)) X)) (Q (Q (O [mc 3 (i 0)]) (Q (.block 0
 (lc [1,3] gy)) (Y []))) (rt 2 (u 0)))))
def eB:Zj:=⟨nL,68,[.t 2],.drop,[],none⟩
theorem iH:qf eB [.t 2] .drop:=⟨rfl,rfl,rfl⟩
def fQ:AC:=
 (Q (Q (Q (O [m 46 5,fa 47 1 4,ld 48 47,ls 49 48,bl 50 46 49]) (Y [1,3,4,5,50])) (C 50 X (.exit 3))) (Q (.block 4 (Q (Q (O [fa 53 1 4,ld 54 53,m 55 5,ia 56 4 54 55,la 57
 4 56,o 6 (.nw [(.int .i64 0),(.str []),(.str []),(.slice .nil 2 [])] bX),n (.st 4 (t 6) (t 57))]) (Y [1,3,4,5,6])) (Q (Q (Q (O [fa 58 0 6,ld 59 58,ac 60 .lss 59
 (i 0),m 61 60,h 62 61 (.fa 0 (t 6)),h 63 61 (.ld none (t 62)),h 64 61 (.ar .gtr (t 63) (i 24)),pt 65 61 64,m 66 65,h 67 66 (.fa 1 (t 6)),h 68 66 (.ld none (t 67)),⟨(some
 69),(some (66,false)),(.call (.c (.fn (.func cV) [] [])) [(.t 68),(.c (.str []))])⟩,h 70 66 (.un .not (t 69)),pt 71 66 70,m 72 71,h 73 72 (.fa 1 (t 6)),h 74
 72 (.ld none (t 73)),h 75 72 (.len .str (t 74)),h 76 72 (.ar .gtr (t 75) (i 6)),pt 77 72 76,m 78 77,h 79 78 (.fa 2 (t 6)),h 80 78 (.ld none (t 79)),⟨(some 81),(some (78,
 false)),(.call (.c (.fn (.func cV) [] [])) [(.t 80),(.c (.str []))])⟩,h 82 78 (.un .not (t 81)),pt 83 78 82,m 84 83,h 85 84 (.fa 2 (t 6)),h 86 84 (.ld none (t
 85)),h 87 84 (.len .str (t 86)),h 88 84 (.ar .gtr (t 87) (i 6)),pt 89 84 88]) (Y [1,3,4,5,6,89])) (C 89 (rt 2 (u 1)) X)) (Q (Q (O [la 90 6 1,fa 91 3 6,ld 92 91,k2 93
 iq 90 92,m 7 93]) (Y [1,3,4,5,7])) (Q (O [m 94 7,ac 95 .neq 94 (u 0)]) (C 95 (Q (O [m 96 7,m 2 96]) R) X)))))) (ic 51 5 52)))
def fR:AC:=
 (Q (Q (Q (O [m 12 3,fa 13 2 1,ld 14 13,ls 15 14,bl 16 12 15]) (Y [1,3,16])) (C 16 X (.exit 0))) (Q (Q (.block 1 (Q (Q (O [fa 19 2 1,ld 20 19,m 21 3,ia 22 2 20 21,la 23 2
 22,o 4 (.nw [(.str []),(.slice .nil 4 [])] aJ),n (.st 2 (t 4) (t 23))]) (Y [1,3,4])) (Q (.block 2 (Q (Q (O [fa 25 0 4,ld 26 25,k1 27 jA 26,no 28
 27,m 24 28]) (Y [1,3,4,24])) (C 24 (rt 2 (u 5)) (Q (Q (O [la 30 6 1,fa 31 0 4,ld 32 31,k2 33 i7 30 32,m 34 3,bl 35 33 34,m 29 35]) (Y [1,3,4,29])) (C
 29 (rt 2 (u 6)) (Q (Q (O [fa 37 1 4,ld 38 37,ls 39 38,ac 40 .gtr 39 (i 24),m 36 40]) (Y [1,3,4,36])) (C 36 (rt 2 (u 3)) (Q (Q (O [fa 42 1 4,ld 43 42,ls 44 43,ac 45 .eql 44
 (i 0),m 41 45]) (Y [1,3,4,41])) (C 41 (rt 2 (u 1)) X))))))))) (Q (O [mc 5 (i 0)]) (Q (.block 3 (lc [1,3,4,5] fQ)) (Y [1,3])))))) (Y [1,3])) (ic 17 3
 18)))
def mS:AC:=
 (Q (O [o 1 (.bx ab (t 0)),mc 2 (u 0)]) (Q (Q (Q (O [fa 8 2 1,ld 9 8,ls 10 9,ac 11 .gtr 10 (i 16)]) (Y [1,11])) (C 11 (rt 2 (u 3)) X)) (Q (Q (O [mc 3 (i 0)]) (Q
 (.block 0 (lc [1,3] fR)) (Y []))) (rt 2 (u 0)))))
def ed:Zj:=⟨mS,97,[.t 2],.drop,[],none⟩
theorem gY:qf ed [.t 2] .drop:=⟨rfl,rfl,rfl⟩
def fS:AC:=
 (Q (Q (O [m 41 6,m 42 3,bl 43 41 42]) (C 43 X (.exit 2))) (Q (.block 3 (Q (Q (D [Pf 46 3 1,Wl 47 46,Pm 48 6,P (ia 49 4 47 48),Pf 50 0 49,Wl 51 50,Pf 52 0 4,Wl 53 52,P (ar
 54 .eql 51 53),Pm 55 54,P (g 56 55 (.fa 3 (t 1))),W (g 57 55 (.ld none (t 56))),P (g 58 55 (.mv (t 6))),P (g 59 55 (.ias 4 (t 57) (t 58))),P (g 60 55 (.fa 1 (t 59))),W (g 61
 55 (.ld none (t 60))),P (g 62 55 (.fa 1 (t 4))),W (g 63 55 (.ld none (t 62))),P (g 64 55 (.ar .eql (t 61) (t 63))),P (pf 65 55 64)]) (Y [1,3,4,5,6,65])) (C 65 (rt 2 (u 6))
 X))) (ic 44 6 45)))
def fT:AC:=
 (Q (Q (Q (O [m 79 9,m 80 8,ls 81 80,bl 82 79 81]) (Y [1,3,4,8,9,82])) (C 82 X (.exit 4))) (Q (.block 5 (Q (Q (D [Pf 86 2 4,Wl 87 86,Pm 88 8,Pm 89 9,P (ia 90 4 88 89),Pf
 91 3 90,Wl 92 91,E (k2 93 oO 87 92),Pm 85 93,P (ex 94 85 0),P (ex 95 85 1),Pm 10 94,Pm 11 95]) (Y [1,3,4,8,9,11])) (Q (O [m 96 11,no 97 96]) (C 97
 (rt 2 (u 10)) X)))) (ic 83 9 84)))
def fU:AC:=
 (Q (Q (O [m 120 14,m 121 12,bl 122 120 121]) (C 122 X (.exit 8))) (Q (.block 9 (Q (Q (D [Pf 125 3 4,Wl 126 125,Pm 127 14,P (ia 128 2 126 127),Pf 129 0 128,Wl 130 129,Pf 131
 0 13,Wl 132 131,P (ar 133 .eql 130 132)]) (Y [1,3,4,8,12,13,14,133])) (C 133 (rt 2 (u 6)) X))) (ic 123 14 124)))
def fV:AC:=
 (Q (Q (Q (O [m 98 12,fa 99 3 4,ld 100 99,ls 101 100,bl 102 98 101]) (Y [1,3,4,8,12,102])) (C 102 X (.exit 6))) (Q (Q (.block 7 (Q (Q (O [fa 105 3 4,ld 106 105,m 107 12,
 ia 108 2 106 107,la 109 2 108,o 13 (.nw [(.int .i64 0),(.str [])] bk),n (.st 2 (t 13) (t 109))]) (Y [1,3,4,8,12,13])) (Q (Q (Q (O [fa 110 0 13,ld 111 110,ac
 112 .lss 111 (i 0),m 113 112,h 114 113 (.fa 0 (t 13)),h 115 113 (.ld none (t 114)),h 116 113 (.mv (t 8)),h 117 113 (.len .sl (t 116)),h 118 113 (.ar .geq (t 115) (t 117)),pt
 119 113 118]) (Y [1,3,4,8,12,13,119])) (C 119 (rt 2 (u 7)) X)) (Q (Q (O [mc 14 (i 0)]) (Q (.block 8 (lo [1,3,4,8,12,13,14] fU)) (Y [1,3,4,8,
 12,13]))) (Q (Q (O [fa 134 1 13,ld 135 134,ac 136 .neq 135 (s []),m 137 136,g 138 137 (.fa 1 (t 13)),g 139 137 (.ld none (t 138)),⟨(some 140),(some (137,true)),(.call (.c
 (.fn (.func ja) [] [])) [(.t 139)])⟩,g 141 137 (.un .not (t 140)),pf 142 137 141]) (Y [1,3,4,8,12,142])) (C 142 (rt 2 (u 1)) X)))))) (Y [1,3,4,8,12]))
 (ic 103 12 104)))
def dG:AC:=
 (Q (Q (Q (O [m 19 3,fa 20 3 1,ld 21 20,ls 22 21,bl 23 19 22]) (Y [1,3,23])) (C 23 X (.exit 0))) (Q (Q (.block 1 (Q (Q (O [fa 26 3 1,ld 27 26,m 28 3,ia 29 4 27 28,la 30 4
 29,o 4 (.nw [(.str []),(.str []),(.slice .nil 2 []),(.slice .nil 2 [])] aD),n (.st 4 (t 4) (t 30))]) (Y [1,3,4])) (Q (Q (Q (O [fa 31 0 4,ld 32 31,k1 33
 ja 32,no 34 33]) (Y [1,3,4,34])) (C 34 (rt 2 (u 1)) X)) (Q (Q (O [la 35 6 1,fa 36 1 4,ld 37 36,k2 38 i7 35 37,m 5 38]) (Y [1,3,4,
 5])) (Q (Q (O [m 39 5,ac 40 .lss 39 (i 0)]) (C 40 (rt 2 (u 5)) X)) (Q (Q (O [mc 6 (i 0)]) (Q (.block 2 (lo [1,3,4,5,6] fS)) (Y [1,3,4,5]))) (Q (Q (Q
 (O [la 66 6 1,fa 67 2 4,ld 68 67,k2 69 iq 66 68,m 7 69]) (Y [1,3,4,5,7])) (Q (O [m 70 7,ac 71 .neq 70 (u 0)]) (C 71 (Q (O [m 72 7,m 2 72]) R) X))) (Q
 (Q (O [fa 73 2 1,ld 74 73,m 75 5,ia 76 2 74 75,fa 77 1 76,ld 78 77,m 8 78]) (Y [1,3,4,8])) (Q (Q (O [mc 9 (i 0)]) (Q (.block 4 (lo [1,3,4,8,9]
 fT)) (Y [1,3,4,8]))) (Q (O [mc 12 (i 0)]) (Q (.block 6 (lc [1,3,4,8,12] fV)) (Y [1,3])))))))))))) (Y [1,3])) (ic 24 3 25)))
def mT:AC:=
 (Q (O [o 1 (.bx ab (t 0)),mc 2 (u 0)]) (Q (Q (Q (O [fa 15 3 1,ld 16 15,ls 17 16,ac 18 .gtr 17 (i 128)]) (Y [1,18])) (C 18 (rt 2 (u 3)) X)) (Q (Q (O [mc 3 (i 0)]) (Q
 (.block 0 (lc [1,3] dG)) (Y []))) (rt 2 (u 0)))))
def bJ:Zj:=⟨mT,143,[.t 2],.drop,[],none⟩
theorem bK:qf bJ [.t 2] .drop:=⟨rfl,rfl,rfl⟩
def gZ:AC:=
 (Q (Q (Q (O [m 6 5,fa 7 2 2,ld 8 7,ls 9 8,bl 10 6 9]) (Y [1,2,5,10])) (C 10 X (.exit 0))) (Q (.block 1 (Q (Q (O [fa 13 2 2,ld 14 13,m 15 5,ia 16 2 14 15,fa 17 0 16,ld 18
 17,m 19 1,ar 20 .eql 18 19]) (Y [1,2,5,20])) (C 20 (Q (O [m 21 5,m 4 21]) R) X))) (ic 11 5 12)))
def pd:AC:=
 (Q (O [o 2 (.bx ab (t 0)),mc 4 (i 0)]) (Q (Q (O [mc 5 (i 0)]) (Q (.block 0 (lo [1,2,5] gZ)) (Y []))) (rt 4 (i (-1)))))
def jh:Zj:=⟨pd,22,[.t 4],.drop,[],none⟩
theorem pg:qf jh [.t 4] .drop:=⟨rfl,rfl,rfl⟩
def dP:AC:=
 (Q (Q (Q (O [m 10 5,m 11 1,ls 12 11,bl 13 10 12]) (Y [1,2,5,13])) (C 13 X (.exit 0))) (Q (.block 1 (Q (Q (D [W (la 16 6 2),Pm 17 1,Pm 18 5,P (ia 19 2 17 18),Pf 20 0 19,Wl
 21 20,E (k2 22 lj 16 21),Pm 6 22]) (Y [1,2,5,6])) (.block 2 (Q (O [m 24 6,ac 25 .lss 24 (i 0),m 23 25]) (C 23 (rt 4 (u 5)) (Q (Q (D [Pf 27 1 2,Wl 28 27,
 Pm 29 6,P (ia 30 2 28 29),Pf 31 1 30,Wl 32 31,Pm 33 1,Pm 34 5,P (ia 35 2 33 34),Pf 36 1 35,Wl 37 36,E (k2 38 nz 32 37),P (no 39 38),Pm 26 39]) (Y [1,2,
 5,26])) (C 26 (rt 4 (u 1)) (Q (Q (D [Pm 41 5,P (ac 42 .gtr 41 (i 0)),Pm 43 42,P (g 44 43 (.mv (t 1))),P (g 45 43 (.mv (t 5))),P (g 46 43 (.ar .sub (t 45) (i 1))),P (g 47 43
 (.ias 2 (t 44) (t 46))),P (g 48 43 (.fa 0 (t 47))),W (g 49 43 (.ld none (t 48))),P (g 50 43 (.mv (t 1))),P (g 51 43 (.mv (t 5))),P (g 52 43 (.ias 2 (t 50) (t 51))),P (g 53 43
 (.fa 0 (t 52))),W (g 54 43 (.ld none (t 53))),P (g 55 43 (.ar .eql (t 49) (t 54))),P (pf 56 43 55),Pm 40 56]) (Y [1,2,5,40])) (C 40 (rt 4 (u 6)) (Q (Q (D [Pm 58 5,P (ac 59
 .gtr 58 (i 0)),Pm 60 59,P (g 61 60 (.mv (t 1))),P (g 62 60 (.mv (t 5))),P (g 63 60 (.ar .sub (t 62) (i 1))),P (g 64 60 (.ias 2 (t 61) (t 63))),P (g 65 60 (.fa 0 (t 64))),W (g
 66 60 (.ld none (t 65))),P (g 67 60 (.mv (t 1))),P (g 68 60 (.mv (t 5))),P (g 69 60 (.ias 2 (t 67) (t 68))),P (g 70 60 (.fa 0 (t 69))),W (g 71 60 (.ld none (t 70))),P (g 72 60
 (.ar .gtr (t 66) (t 71))),P (pf 73 60 72),Pm 57 73]) (Y [1,2,5,57])) (C 57 (rt 4 (u 1)) X))))))))))) (ic 14 5 15)))
def nM:AC:=
 (Q (O [o 2 (.bx ab (t 0)),mc 4 (u 0)]) (Q (Q (O [m 7 1,ls 8 7,ac 9 .gtr 8 (i 8)]) (C 9 (rt 4 (u 3)) X)) (Q (Q (O [mc 5 (i 0)]) (Q (.block 0 (lo [1,2,5]
 dP)) (Y []))) (rt 4 (u 0)))))
def iI:Zj:=⟨nM,74,[.t 4],.drop,[],none⟩
theorem iJ:qf iI [.t 4] .drop:=⟨rfl,rfl,rfl⟩
def jD:AC:=
 (Q (O [mc 4 (i 0),mc 5 (.c .Zr)]) (Q (O [m 6 0,k1 7 fc 6]) (Q (Q (O [m 8 0,m 9 0,o 10 (.nc (t 9)),fa 11 1 10,ld 12 11,m 13 1,o 14 (.ap false
 cq 1 1 true (t 12) (t 13)),o 15 (.nc (t 8)),fa 16 1 15,n (.st 1 (t 16) (t 14))]) (Y [1])) (Q (Q (O [m 17 1,lt 18 17,m 4 18,mc 5 (.c .Zr)]) (Y [4,5])) R))))
def gg:Zj:=⟨jD,19,[.t 4,.t 5],.Zn,[],none⟩
theorem uC:qf gg [.t 4,.t 5] .Zn:=⟨rfl,rfl,rfl⟩
def mU:AC:=
 (Q (O [bl 42 41 40]) (Q (C 42 X (.exit 1)) (Q (.block 2 (Q (O [ia 43 1 39 41,ld 44 43,m 7 44]) (Q (Q (Q (O [m 45 7,lt 46 45,m 47 5,o 48 (.ar .sub (i 9223372036854775807) (t
 47)),ar 49 .gtr 46 48]) (Y [0,1,5,7,39,40,41,49])) (C 49 (O [o 50 (.mi aI (s [115,116,114,105,110,103,115,58,32,74,111,105,110,32,111,117,116,112,
 117,116,32,108,101,110,103,116,104,32,111,118,101,114,102,108,111,119])),⟨none,none,(.panic (.t 50))⟩]) X)) (Q (O [m 51 5,m 52 7,lt 53 52,ar 54 .add 51 53,m
 5 54]) (Y [0,1,5,39,40,41]))))) (O [ad 55 41,m 41 55]))))
def mV:AC:=
 (Q (O [bl 66 65 64]) (Q (C 66 X (.exit 3)) (Q (.block 4 (Q (O [ia 67 1 63 65,ld 68 67,m 10 68]) (Q (O [m 69 1,k2 70 aQ 8 69]) (O [m 71 10,k2 72
 aQ 8 71])))) (O [ad 73 65,m 65 73]))))
def wz:AC:=
 (Q (O [mc 4 (s [])]) (Q (Q (O [m 11 0,ls 12 11]) (.block 0 (Q (O [ac 14 .eql 12 (i 0),m 13 14]) (C 13 (rt 4 (s [])) (Q (O [ac 16 .eql 12 (i 1),m 15 16]) (C 15 (Q (Q (O [m 17 0,o
 18 (.ias 1 (t 17) (i 0)),ld 19 18,m 4 19]) (Y [4])) R) X)))))) (Q (O [mc 5 (i 0)]) (Q (Q (O [m 20 1,lt 21 20,ac 22 .gtr 21 (i 0)]) (C 22 (Q (Q (Q (O [m 23 1,lt 24 23,m 25 0,
 ls 26 25,ac 27 .sub 26 (i 1),o 28 (.ar .quo (i 9223372036854775807) (t 27)),ar 29 .geq 24 28]) (Y [0,1,5,29])) (C 29 (O [o 30 (.mi aI (s [115,116,114,105,110,103,
 115,58,32,74,111,105,110,32,111,117,116,112,117,116,32,108,101,110,103,116,104,32,111,118,101,114,102,108,111,119])),⟨none,none,(.panic (.t 30))⟩])
 X)) (Q (O [m 31 5,m 32 1,lt 33 32,m 34 0,ls 35 34,ac 36 .sub 35 (i 1),ar 37 .mul 33 36,ar 38 .add 31 37,m 5 38]) (Y [0,1,5]))) X)) (Q (Q (O [m 39 0,ls 40 39,mc 41 (i
 0)]) (Q (.block 1 (lo [0,1,5,39,40,41] mU)) (Y [0,1,5]))) (Q (O [o 8 (.nw [.ZB,(.slice .nil 1 [])] cT)]) (Q (O [m 56 5,k2 57
 km 8 56]) (Q (Q (O [m 58 0,o 59 (.ias 1 (t 58) (i 0)),ld 60 59,k2 61 aQ 8 60]) (Y [0,1,8])) (Q (Q (Q (O [m 62 0,o 63 (.sll 1 (t
 62) (some (i 1)) none none),ls 64 63,mc 65 (i 0)]) (Y [1,8,63,64,65])) (Q (.block 3 (lo [1,8,63,64,65] mV)) (Y [8]))) (Q (O [k1 74 eM
 8,m 4 74]) R))))))))))
def jE:Zj:=⟨wz,75,[.t 4],.drop,[18],none⟩
theorem kP:qf jE [.t 4] .drop:=⟨rfl,rfl,rfl⟩
def kp:AC:=
 (Q (O [mc 4 (.c .Zr)]) (Q (O [m 5 0,k1 6 fc 5]) (Q (Q (O [m 7 0,m 8 0,o 9 (.nc (t 8)),fa 10 1 9,ld 11 10,m 12 1,o 13 (.bs 1 [(.int .u8 0)] 1 [(0,
 (t 12))]),o 14 (.ap false cq 1 1 false (t 11) (t 13)),o 15 (.nc (t 7)),fa 16 1 15,n (.st 1 (t 16) (t 14))]) (Y [])) (Q (O [mc 4 (.c .Zr)]) R))))
def ij:Zj:=⟨kp,17,[.t 4],.Zn,[],none⟩
theorem vS:qf ij [.t 4] .Zn:=⟨rfl,rfl,rfl⟩
def mW:AC:=
 (Q (O [mc 2 (s [])]) (Q (O [m 3 0,k 4 (f aj) [(t 3),(i 10)],m 2 4]) R))
def jO:Zj:=⟨mW,5,[.t 2],.drop,[],none⟩
theorem yC:qf jO [.t 2] .drop:=⟨rfl,rfl,rfl⟩
def iK:AC:=
 (Q (O [mc 2 (s [])]) (Q (Q (O [m 3 0,o 4 (.ar .lss (t 3) (.c (.int .u64 10)))]) (C 4 (Q (Q (O [m 5 0,o 6 (.ar .add (.c (.int .u64 48)) (t 5)),o 7 (.cvi .i32 (t 6)),o 8 (.cvs (t
 7)),m 2 8]) (Y [2])) R) X)) (Q (Q (O [m 9 0,o 10 (.ar .quo (t 9) (.c (.int .u64 10))),k1 11 fK 10,m 12 0,o 13 (.ar .rem (t 12) (.c (.int .u64 10))),o 14
 (.ar .add (.c (.int .u64 48)) (t 13)),o 15 (.cvi .i32 (t 14)),o 16 (.cvs (t 15)),ar 17 .add 11 16,m 2 17]) (Y [2])) R)))
def nN:Zj:=⟨iK,18,[.t 2],.drop,[],none⟩
theorem s8:qf nN [.t 2] .drop:=⟨rfl,rfl,rfl⟩
def wA:AC:=
 (Q (O [mc 2 F]) (Q (Q (O [m 3 0,ac 4 .geq 3 (u 97),m 5 4,g 6 5 (.mv (t 0)),g 7 5 (.ar .leq (t 6) (u 122)),pf 8 5 7,m 2 8]) (Y [2])) R))
def iL:Zj:=⟨wA,9,[.t 2],.drop,[],none⟩
def zQ:AC:=
 (Q (O [mc 2 F]) (Q (O [o 3 (.nw [.Zw] Eh),n (.st 1 (t 3) (f gp))]) (Q (Q (D [Pm 4 0,W (lt 5 4),P (ac 6 .geq 5 (i 1)),Pm 7 6,P (g 8 7 (.mv (t 0))),
 W (g 9 7 (.len .str (t 8))),P (g 10 7 (.ar .leq (t 9) (i 12))),P (pf 11 7 10),Pm 12 11,W (g 13 12 (.ld none (t 3))),P (g 14 12 (.mv (t 0))),P (g 15 12 (.ZX (t 14) (i 0))),E
 (⟨(some 16),(some (12,true)),(.call (.t 13) [(.t 15)])⟩),P (pf 17 12 16),Pm 18 17,P (g 19 18 (.mv (t 0))),P (g 20 18 (.mf (.func mL) [] [(t 3)])),E (⟨(some 21),
 (some (18,true)),(.call (.c (.fn (.func p7) [] [])) [(.t 19),(.t 20)])⟩),P (pf 22 18 21),Pm 2 22]) (Y [2])) R)))
def kq:Zj:=⟨zQ,23,[.t 2],.drop,[],none⟩
def eG:AC:=
 (Q (O [mc 4 F]) (Q (Q (O [m 5 0,m 6 1,k2 7 bZ 5 6,ac 8 .geq 7 (i 0),m 4 8]) (Y [4])) R))
def cr:Zj:=⟨eG,9,[.t 4],.drop,[],none⟩
theorem oe:qf cr [.t 4] .drop:=⟨rfl,rfl,rfl⟩
def mX:AC:=
 (Q (O [o 2 (.bx bW (t 0)),mc 3 F]) (Q (Q (O [fa 4 0 2,ld 5 4,fa 6 0 1,ld 7 6,ar 8 .eql 5 7,m 3 8]) (Y [3])) R))
def jP:Zj:=⟨mX,9,[.t 3],.drop,[],none⟩
theorem yD:qf jP [.t 3] .drop:=⟨rfl,rfl,rfl⟩
def iU:AC:=
 (Q (O [mc 4 F]) (Q (Q (O [m 5 0,m 6 1,k2 7 j3 5 6,ac 8 .geq 7 (i 0),m 4 8]) (Y [4])) R))
def fv:Zj:=⟨iU,9,[.t 4],.drop,[],none⟩
theorem tM:qf fv [.t 4] .drop:=⟨rfl,rfl,rfl⟩
def eH:AC:=
 (Q (O [mc 4 F]) (Q (Q (O [m 5 0,m 6 1,k2 7 b7 5 6,ac 8 .geq 7 (i 0),m 4 8]) (Y [4])) R))
def ct:Zj:=⟨eH,9,[.t 4],.drop,[],none⟩
theorem og:qf ct [.t 4] .drop:=⟨rfl,rfl,rfl⟩
def mY:AC:=
 (Q (O [o 2 (.bx aJ (t 0)),mc 3 F]) (Q (Q (O [fa 4 0 2,ld 5 4,fa 6 0 1,ld 7 6,ar 8 .eql 5 7,m 3 8]) (Y [3])) R))
def jQ:Zj:=⟨mY,9,[.t 3],.drop,[],none⟩
theorem yE:qf jQ [.t 3] .drop:=⟨rfl,rfl,rfl⟩
def hU:AC:=
 (Q (O [bl 17 16 15]) (Q (C 17 X (.exit 0)) (Q (.block 1 (Q (Q (O [m 18 16,ia 19 4 14 16,la 20 4 19,o 8 (.nw [(.int .i64 0),(.str []),(.str []),(.slice .nil 2 [])] bX),
 m 7 18,n (.st 4 (t 8) (t 20))]) (Y [2,7,8,14,15,16])) (Q (Q (O [m 21 2,m 22 7,la 23 4 8,k 24 (t 21) [(t 22),(t 23)],m 9 24]) (Y [2,9,14,15,16])) (Q (O [m 25 9,ac 26
 .neq 25 (u 0)]) (C 26 (Q (O [m 27 9,m 6 27]) R) X))))) (O [ad 28 16,m 16 28]))))
def ph:AC:=
 (Q (O [mc 6 (u 0)]) (Q (Q (Q (O [m 10 0,ls 11 10,m 12 1,ar 13 .gtr 11 12]) (Y [0,2,13])) (C 13 (rt 6 (u 3)) X)) (Q (Q (O [m 14 0,ls 15 14,mc 16 (i 0)]) (Q (.block 0 (lc [2,
 14,15,16] hU)) (Y []))) (rt 6 (u 0)))))
def eW:Zj:=⟨ph,29,[.t 6],.drop,[],none⟩
theorem pj:qf eW [.t 6] .drop:=⟨rfl,rfl,rfl⟩
def mZ:AC:=
 (Q (O [o 4 (.bx bX (t 1)),mc 5 (u 0)]) (Q (Q (Q (O [fa 6 0 4,ld 7 6,ac 8 .lss 7 (i 0),m 9 8,h 10 9 (.fa 0 (t 4)),h 11 9 (.ld none (t 10)),h 12 9 (.ar .gtr (t 11) (i
 24)),pt 13 9 12,m 14 13,h 15 14 (.fa 1 (t 4)),h 16 14 (.ld none (t 15)),⟨(some 17),(some (14,false)),(.call (.c (.fn (.func ju) [] [])) [(.t 16),(.c (.fn (.func
 cP) [] []))])⟩,h 18 14 (.un .not (t 17)),pt 19 14 18,m 20 19,h 21 20 (.fa 2 (t 4)),h 22 20 (.ld none (t 21)),⟨(some 23),(some (20,false)),(.call (.c (.fn (.func
 ju) [] [])) [(.t 22),(.c (.fn (.func cP) [] []))])⟩,h 24 20 (.un .not (t 23)),pt 25 20 24]) (Y [2,4,25])) (C 25 (rt 5 (u 1)) X)) (Q (Q (O [la 26 6 2,fa
 27 3 4,ld 28 27,k2 29 ir 26 28,m 5 29]) (Y [5])) R)))
def jR:Zj:=⟨mZ,30,[.t 5],.drop,[],none⟩
theorem yF:qf jR [.t 5] .drop:=⟨rfl,rfl,rfl⟩
def xW:AC:=
 (Q (O [mc 4 F]) (Q (Q (O [m 5 0,lt 6 5,ac 7 .leq 6 (i 6),m 8 7,g 9 8 (.mv (t 0)),g 10 8 (.mv (t 1)),⟨(some 11),(some (8,true)),(.call (.c (.fn (.func p7) [] []))
 [(.t 9),(.t 10)])⟩,pf 12 8 11,m 4 12]) (Y [4])) R))
def uo:Zj:=⟨xW,13,[.t 4],.drop,[],none⟩
theorem JE:qf uo [.t 4] .drop:=⟨rfl,rfl,rfl⟩
def nO:AC:=
 (Q (O [o 2 (.bx bI (t 0)),o 3 (.bx fI (t 1)),mc 4 (u 0)]) (Q (Q (O [ld 5 3,o 6 (.mf (.func jv) [] [(t 2),(t 3)]),k 7 (f
 ll) [(t 5),(i 8),(t 6)],m 4 7]) (Y [4])) R))
def kr:Zj:=⟨nO,8,[.t 4],.drop,[],none⟩
theorem zR:qf kr [.t 4] .drop:=⟨rfl,rfl,rfl⟩
def oh:AC:=
 (Q (Q (O [o 2 (.bx ab (t 0)),o 3 (.bx aI (t 1)),o 4 (.nw [(.str []),(.slice .nil 4 [])] aJ),mc 5 F]) (Y [2,3,4])) (Q (Q (O [fa 7 2 2,ld 8 7,o 9
 (.mf (.func lW) [] [(t 3)]),k2 10 b7 8 9,m 6 10]) (Y [2,4,6])) (Q (Q (O [m 11 6,ac 12 .lss 11 (i 0)]) (C 12 (Q (O [o 13 (.bd
 [(.str []),(.slice .nil 4 [])] [(0,1),(1,1)] []),n (.st 2 (t 4) (t 13)),mc 5 F]) R) X)) (Q (Q (O [fa 14 2 2,ld 15 14,m 16 6,ia 17 2 15 16,la 18 2 17,n (.st 2 (t 4) (t
 18)),mc 5 T]) (Y [4,5])) R))))
def rY:Zj:=⟨oh,19,[.cell 4 (some 2),.t 5],.drop,[],none⟩
theorem AI:qf rY [.cell 4 (some 2),.t 5] .drop:=⟨rfl,rfl,rfl⟩
def xX:AC:=
 (Q (O [mc 2 F]) (Q (Q (O [m 3 0,k1 4 zI 3,m 5 4,g 6 5 (.mv (t 0)),⟨(some 7),(some (5,true)),(.call (.c (.fn (.func p7) [] [])) [(.t 6),(.c (.fn (.func
 cP) [] []))])⟩,pf 8 5 7,m 2 8]) (Y [2])) R))
def oH:Zj:=⟨xX,9,[.t 2],.drop,[],none⟩
def eI:AC:=
 (Q (O [mc 4 F]) (Q (Q (O [m 5 0,m 6 1,k2 7 cQ 5 6,ac 8 .geq 7 (i 0),m 4 8]) (Y [4])) R))
def cu:Zj:=⟨eI,9,[.t 4],.drop,[],none⟩
theorem om:qf cu [.t 4] .drop:=⟨rfl,rfl,rfl⟩
def na:AC:=
 (Q (O [o 2 (.bx aD (t 0)),mc 3 F]) (Q (Q (O [fa 4 0 2,ld 5 4,fa 6 0 1,ld 7 6,ar 8 .eql 5 7,m 9 8,g 10 9 (.fa 1 (t 2)),g 11 9 (.ld none (t 10)),g 12 9 (.fa 1 (t
 1)),g 13 9 (.ld none (t 12)),g 14 9 (.ar .eql (t 11) (t 13)),pf 15 9 14,m 3 15]) (Y [3])) R))
def jS:Zj:=⟨na,16,[.t 3],.drop,[],none⟩
theorem yG:qf jS [.t 3] .drop:=⟨rfl,rfl,rfl⟩
def fi:AC:=
 (Q (O [mc 4 F]) (Q (Q (O [m 5 0,m 6 1,k2 7 c7 5 6,ac 8 .geq 7 (i 0),m 4 8]) (Y [4])) R))
def cJ:Zj:=⟨fi,9,[.t 4],.drop,[],none⟩
theorem pN:qf cJ [.t 4] .drop:=⟨rfl,rfl,rfl⟩
def nd:AC:=
 (Q (O [o 2 (.bx bX (t 0)),mc 3 F]) (Q (Q (O [fa 4 2 1,ld 5 4,fa 6 3 2,ld 7 6,k2 8 xN 5 7,m 3 8]) (Y [3])) R))
def jT:Zj:=⟨nd,9,[.t 3],.drop,[],none⟩
theorem yH:qf jT [.t 3] .drop:=⟨rfl,rfl,rfl⟩
def xY:AC:=
 (Q (O [o 3 (.bx fI (t 1)),mc 4 F]) (Q (Q (O [m 5 0,o 6 (.mf (.func rR) [] [(t 3)]),k2 7 cI 5 6,m 4 7]) (Y [4])) R))
def uq:Zj:=⟨xY,8,[.t 4],.drop,[],none⟩
theorem JF:qf uq [.t 4] .drop:=⟨rfl,rfl,rfl⟩
def dB:AC:=
 (Q (O [mc 4 F]) (Q (Q (O [m 5 0,m 6 1,k2 7 bV 5 6,ac 8 .geq 7 (i 0),m 4 8]) (Y [4])) R))
def bP:Zj:=⟨dB,9,[.t 4],.drop,[],none⟩
theorem lB:qf bP [.t 4] .drop:=⟨rfl,rfl,rfl⟩
def nf:AC:=
 (Q (O [o 2 (.bx bk (t 0)),mc 3 F]) (Q (Q (O [fa 4 0 2,ld 5 4,fa 6 0 1,ld 7 6,ar 8 .eql 5 7,m 3 8]) (Y [3])) R))
def jU:Zj:=⟨nf,9,[.t 3],.drop,[],none⟩
theorem yI:qf jU [.t 3] .drop:=⟨rfl,rfl,rfl⟩
def wB:AC:=
 (Q (O [mc 2 F]) (Q (Q (O [m 3 0,k1 4 cP 3,m 5 4,h 6 5 (.mv (t 0)),h 7 5 (.ar .eql (t 6) (u 43)),pt 8 5 7,m 2 8]) (Y [2])) R))
def s9:Zj:=⟨wB,9,[.t 2],.drop,[],none⟩
theorem Iz:qf s9 [.t 2] .drop:=⟨rfl,rfl,rfl⟩
def wC:AC:=
 (Q (O [mc 2 F]) (Q (Q (O [m 3 0,k1 4 mJ 3,m 5 4,h 6 5 (.mv (t 0)),h 7 5 (.ar .eql (t 6) (u 35)),pt 8 5 7,m 9 8,h 10 9 (.mv (t 0)),h 11 9 (.ar .eql (t 10) (u
 86)),pt 12 9 11,m 13 12,h 14 13 (.mv (t 0)),h 15 13 (.ar .eql (t 14) (u 67)),pt 16 13 15,m 2 16]) (Y [2])) R))
def tc:Zj:=⟨wC,17,[.t 2],.drop,[],none⟩
theorem IA:qf tc [.t 2] .drop:=⟨rfl,rfl,rfl⟩
def Cs:AC:=
 (Q (Q (Q (O [m 22 7,m 23 1,ac 24 .sub 23 (i 1),bl 25 22 24]) (Y [0,1,6,7,25])) (C 25 X (.exit 0))) (Q (.block 1 (Q (Q (O [m 29 0,k1 30 lD 29,
 m 28 30,ex 31 28 0,ex 32 28 1,m 8 31,m 9 32]) (Y [0,1,6,7,9])) (Q (Q (O [m 33 6,m 34 7,m 35 0,m 36 9,o 37 (.sls (t 35) none (some (t 36))),ia 38 1 33 34,n (.st 1 (t
 38) (t 37))]) (Y [0,1,6,7,9])) (Q (O [m 39 0,m 40 9,o 41 (.sls (t 39) (some (t 40)) none),m 0 41]) (Y [0,1,6,7]))))) (ic 26 7 27)))
def Ei:AC:=
 (Q (O [mc 4 (.c (.slice .nil 1 []))]) (Q (O [m 10 0,k1 11 lX 10,m 5 11]) (Q (Q (Q (O [m 12 1,ac 13 .lss 12 (i 0),m 14 13,h 15 14 (.mv (t 1)),h 16
 14 (.mv (t 5)),h 17 14 (.ar .gtr (t 15) (t 16)),pt 18 14 17]) (Y [0,1,5,18])) (C 18 (O [m 19 5,m 1 19]) X)) (Q (O [m 20 1,o 21 (.ms aI 16 [(.str [])] (t 20) (t 20)),m
 6 21]) (Q (Q (O [mc 7 (i 0)]) (Q (.block 0 (lo [0,1,6,7] Cs)) (Y [0,1,6]))) (Q (Q (O [m 42 1,ac 43 .gtr 42 (i 0)]) (C 43 (Q (O [m 44 6,m 45 1,ac 46 .sub 45
 (i 1),m 47 0,ia 48 1 44 46,n (.st 1 (t 48) (t 47))]) (Y [6])) X)) (Q (O [m 49 6,m 4 49]) R)))))))
def xy:Zj:=⟨Ei,50,[.t 4],.drop,[],none⟩
def Ej:AC:=
 (.block 1 (Q (Q (O [m 20 0,m 21 1,k2 22 lM 20 21,m 6 22]) (Y [0,1,5,6])) (Q (Q (O [m 23 6,ac 24 .eql 23 (i (-1))]) (C 24 (Q (O [m 25 5,m 4 25]) R) X)) (Q (ic 26
 5 27) (Q (O [m 28 0,m 29 6,m 30 1,lt 31 30,ar 32 .add 29 31,o 33 (.sls (t 28) (some (t 32)) none),m 0 33]) (Y [0,1,5]))))))
def vj:AC:=
 (Q (O [mc 4 (i 0)]) (Q (Q (O [m 7 1,lt 8 7,ac 9 .eql 8 (i 0)]) (C 9 (Q (Q (O [m 10 0,k1 11 lX 10,ad 12 11,m 4 12]) (Y [4])) R) X)) (Q (Q (O [m 13
 1,lt 14 13,ac 15 .eql 14 (i 1)]) (C 15 (Q (Q (O [m 16 0,m 17 1,o 18 (.ZX (t 17) (i 0)),k2 19 dY 16 18,m 4 19]) (Y [4])) R) X)) (Q (O [mc 5 (i 0)])
 (Q (.block 0 (lo [0,1,5] Ej)) (Y []))))))
def rZ:Zj:=⟨vj,34,[.t 4],.drop,[],none⟩
theorem Gz:qf rZ [.t 4] .drop:=⟨rfl,rfl,rfl⟩
def vk:AC:=
 (Q (O [mc 4 (i 0)]) (Q (Q (O [m 5 0,m 6 1,k2 7 eF 5 6,m 4 7]) (Y [4])) R))
def r7:Zj:=⟨vk,8,[.t 4],.drop,[],none⟩
theorem GA:qf r7 [.t 4] .drop:=⟨rfl,rfl,rfl⟩
def vl:AC:=
 (Q (O [m 4 0,m 5 1,o 6 (.ias 1 (t 5) (i 0)),ld 7 6,k1 8 ek 7,o 9 (.nc (t 4)),fa 10 0 9,fa 11 0 10,n (.st 1 (t 11) (t 8))]) (Y []))
def r8:Zj:=⟨vl,12,[],.Zn,[],none⟩
theorem GB:qf r8 [] .Zn:=⟨rfl,rfl,rfl⟩
def zS:AC:=
 (Q (O [mc 2 (s [])]) (Q (Q (O [m 3 0,ac 4 .eql 3 (s [45])]) (C 4 (rt 2 (s [])) X)) (Q (O [m 5 0,m 2 5]) R)))
def vT:Zj:=⟨zS,6,[.t 2],.drop,[],none⟩
theorem LQ:qf vT [.t 2] .drop:=⟨rfl,rfl,rfl⟩
def vm:AC:=
 (Q (D [Pm 4 0,Pm 5 0,P (o 6 (.nc (t 5))),Pf 7 0 6,Pf 8 1 7,Wl 9 8,Pm 10 1,P (o 11 (.ias 1 (t 10) (i 0))),Wl 12 11,Pm 13 1,P (o 14 (.sll 1 (t 13) (some (i 1)) none none)),
 P (o 15 (.bd [(.str []),(.slice .nil 1 [])] [(0,1),(1,1)] [(0,(t 12)),(1,(t 14))])),P (o 16 (.bs 2 [(.str []),(.slice .nil 0 [])] 1 [(0,(t 15))])),E (o 17 (.ap false
 bW 2 40 false (t 9) (t 16))),P (o 18 (.nc (t 4))),Pf 19 0 18,Pf 20 1 19,E (n (.st 1 (t 20) (t 17)))]) (Y []))
def r9:Zj:=⟨vm,21,[],.Zn,[],none⟩
theorem GC:qf r9 [] .Zn:=⟨rfl,rfl,rfl⟩
def vn:AC:=
 (Q (D [Pm 4 0,Pm 5 0,P (o 6 (.nc (t 5))),Pf 7 0 6,Pf 8 2 7,Wl 9 8,Pm 10 1,P (o 11 (.ias 1 (t 10) (i 0))),Wl 12 11,P (o 13 (.bd [(.str []),(.slice .nil 4 [])] [(0,1),(1,
 1)] [(0,(t 12))])),P (o 14 (.bs 2 [(.str []),(.slice .nil 0 [])] 1 [(0,(t 13))])),E (o 15 (.ap true aJ 2 40 false (t 9) (t 14))),P (o 16 (.nc (t 4))),Pf 17 0 16,Pf
 18 2 17,E (n (.st 1 (t 18) (t 15)))]) (Y []))
def sa:Zj:=⟨vn,19,[],.Zn,[0],none⟩
theorem GE:qf sa [] .Zn:=⟨rfl,rfl,rfl⟩
def cW:AC:=
 (Q (Q (O [m 5 0,o 6 (.nc (t 5)),fa 7 6 6,ld 8 7,ac 9 .eql 8 (s [99,108,97,115,115]),m 10 9,h 11 10 (.mv (t 0)),h 12 10 (.nc (t 11)),h 13 10 (.fa 6 (t 12)),h 14 10 (.ld
 none (t 13)),h 15 10 (.ar .eql (t 14) (s [115,108,111,116])),pt 16 10 15,k1 17 c6 16]) (Y [0,1])) (Q (Q (D [Pm 18 0,P (o 19 (.nc (t 18))),Pf 20 0 19,Pf 21 2
 20,Wl 22 21,Pm 23 0,P (o 24 (.nc (t 23))),Pf 25 0 24,Pf 26 2 25,Wl 27 26,W (ls 28 27),P (ac 29 .sub 28 (i 1)),P (ia 30 2 22 29),Pm 4 30]) (Y [1,4])) (Q (.Z0 true [] []
 [Pm 31 4,Pm 32 4,P (o 33 (.nc (t 32))),Pf 34 1 33,Wl 35 34,Pm 36 1,P (o 37 (.ias 1 (t 36) (i 0))),Wl 38 37,Pm 40 1,P (o 41 (.ias 1 (t 40) (i 1))),Wl 42 41,Pm 44 1,P (o
 45 (.ias 1 (t 44) (i 2))),Wl 46 45,Pm 48 1,P (o 49 (.sll 1 (t 48) (some (i 3)) none none)),(k1 39 mK 38,.stop),(k1 43 ek 42,.stop),(k1 47 ek
 46,.stop),(k1 50 kB 49,.stop),P (o 51 (.bd [(.int .i64 0),(.str []),(.str []),(.slice .nil 2 [])] [(0,1),(1,1),(2,1),(3,1)] [(0,(t 39)),(1,(t 43)),(2,
 (t 47)),(3,(t 50))])),P (o 52 (.bs 4 [(.int .i64 0),(.str []),(.str []),(.slice .nil 0 [])] 1 [(0,(t 51))])),E (o 53 (.ap false bX 4 64 false (t 35) (t 52))),P (o
 54 (.nc (t 31))),Pf 55 1 54,E (n (.st 1 (t 55) (t 53)))]) (Y []))))
def vo:Zj:=⟨cW,56,[],.Zn,[2000002],none⟩
theorem j4:qf vo [] .Zn:=⟨rfl,rfl,rfl⟩
def fy:AC:=
 (Q (O [mc 2 (i 0)]) (Q (Q (O [m 6 0,k1 7 mM 6,m 5 7,ex 8 5 0,ex 9 5 1,m 3 8,m 4 9]) (Y [0,3,4])) (Q (Q (O [m 10 4,o 11 (.eq false (.ifc true) (t 10) (.c
 .Zr)),m 12 11,g 13 12 (.mv (t 3)),g 14 12 (.ar .geq (t 13) (i 0)),pf 15 12 14,m 16 15,g 17 16 (.mv (t 3)),g 18 16 (.ar .leq (t 17) (i 999)),pf 19 16 18,m 20 19,g 21 20
 (.mv (t 3)),⟨(some 22),(some (20,true)),(.call (.c (.fn (.func im) [] [])) [(.t 21)])⟩,g 23 20 (.mv (t 0)),g 24 20 (.ar .eql (t 22) (t 23)),pf 25 20 24,k1 26
 c6 25]) (Y [3])) (Q (O [m 27 3,m 2 27]) R))))
def td:Zj:=⟨fy,28,[.t 2],.drop,[],none⟩
theorem qj:qf td [.t 2] .drop:=⟨rfl,rfl,rfl⟩
def lR:AC:=
 (Q (O [bl 12 11 10]) (Q (C 12 X (.exit 0)) (Q (.block 1 (Q (O [ia 13 1 9 11,ld 14 13,m 5 14]) (Q (Q (O [m 15 5,k 16 (f lL) [(t 15),(s [61])],ac 17 .eql 16 (i 1),
 k1 18 c6 17]) (Y [3,5,9,10,11])) (Q (Q (O [m 20 5,k 21 (f xO) [(t 20),(s [61])],m 19 21,ex 22 19 0,ex 23 19 1,ex 24 19 2,m 6 22,m 7 23,m 8 24])
 (Y [3,6,7,9,10,11])) (Q (O [m 25 3,m 26 6,m 27 7,o 28 (.bd [(.str []),(.str [])] [(0,1),(1,1)] [(0,(t 26)),(1,(t 27))]),o 29 (.bs 2 [(.str []),(.str [])] 1 [(0,(t
 28))]),o 30 (.ap false aR 2 32 false (t 25) (t 29)),m 3 30]) (Y [3,9,10,11])))))) (O [ad 31 11,m 11 31]))))
def ry:AC:=
 (Q (O [mc 2 (.c (.slice .nil 2 []))]) (Q (O [mc 3 (.c (.slice .nil 2 []))]) (Q (Q (O [m 9 0,ls 10 9,mc 11 (i 0)]) (Q (.block 0 (.loop ⟨(some [3,9,10,11]),[(3,2,aR)],
 false⟩ lR)) (Y [3]))) (Q (O [m 32 3,m 2 32]) R))))
def oI:Zj:=⟨ry,33,[.t 2],.drop,[],none⟩
theorem rz:qf oI [.t 2] .drop:=⟨rfl,rfl,rfl⟩
def oo:AC:=
 (Q (.Z0 true [] [] [Pm 4 0,Pm 5 0,P (o 6 (.nc (t 5))),Pf 7 0 6,Pf 8 3 7,Wl 9 8,Pm 10 1,P (o 11 (.ias 1 (t 10) (i 0))),Wl 12 11,Pm 13 1,P (o 14 (.ias 1 (t 13) (i 1))),Wl
 15 14,Pm 16 1,P (o 17 (.sll 1 (t 16) (some (i 2)) none none)),(k1 18 kB 17,.stop),P (o 19 (.bd [(.str []),(.str []),(.slice .nil 2 []),(.slice .nil 2 [])] [(0,
 1),(1,1),(2,1),(3,1)] [(0,(t 12)),(1,(t 15)),(2,(t 18))])),P (o 20 (.bs 4 [(.str []),(.str []),(.slice .nil 0 []),(.slice .nil 0 [])] 1 [(0,(t 19))])),E (o 21 (.ap
 true aD 4 80 false (t 9) (t 20))),P (o 22 (.nc (t 4))),Pf 23 0 22,Pf 24 3 23,E (n (.st 1 (t 24) (t 21)))]) (Y []))
def vp:Zj:=⟨oo,25,[],.Zn,[0,2000000],none⟩
theorem AJ:qf vp [] .Zn:=⟨rfl,rfl,rfl⟩
def eJ:AC:=
 (Q (Q (O [m 5 0,o 6 (.nc (t 5)),fa 7 6 6,ld 8 7,ac 9 .eql 8 (s [101,110,116,114,121]),m 10 9,h 11 10 (.mv (t 0)),h 12 10 (.nc (t 11)),h 13 10 (.fa 6 (t 12)),h 14 10
 (.ld none (t 13)),h 15 10 (.ar .eql (t 14) (s [102,111,114,109])),pt 16 10 15,k1 17 c6 16]) (Y [0,1])) (Q (Q (D [Pm 18 0,P (o 19 (.nc (t 18))),Pf 20 0 19,Pf 21
 3 20,Wl 22 21,Pm 23 0,P (o 24 (.nc (t 23))),Pf 25 0 24,Pf 26 3 25,Wl 27 26,W (ls 28 27),P (ac 29 .sub 28 (i 1)),P (ia 30 4 22 29),Pm 4 30]) (Y [1,4])) (Q (.Z0 true []
 [] [Pm 31 4,Pm 32 4,P (o 33 (.nc (t 32))),Pf 34 3 33,Wl 35 34,Pm 36 1,P (o 37 (.ias 1 (t 36) (i 0))),Wl 38 37,Pm 40 1,P (o 41 (.ias 1 (t 40) (i 1))),Wl 42 41,(k1 39
 mK 38,.stop),(k1 43 ek 42,.stop),P (o 44 (.bd [(.int .i64 0),(.str [])] [(0,1),(1,1)] [(0,(t 39)),(1,(t 43))])),P (o 45 (.bs 2 [(.int .i64 0),
 (.str [])] 1 [(0,(t 44))])),E (o 46 (.ap false bk 2 24 false (t 35) (t 45))),P (o 47 (.nc (t 31))),Pf 48 3 47,E (n (.st 1 (t 48) (t 46)))]) (Y []))))
def vq:Zj:=⟨eJ,49,[],.Zn,[2000002],none⟩
theorem oq:qf vq [] .Zn:=⟨rfl,rfl,rfl⟩
def vr:AC:=
 (Q (D [Pm 4 0,Pm 5 0,P (o 6 (.nc (t 5))),Pf 7 0 6,Pf 8 4 7,Wl 9 8,Pm 10 1,P (o 11 (.ias 1 (t 10) (i 0))),Wl 12 11,Pm 14 1,P (o 15 (.ias 1 (t 14) (i 1))),Wl 16 15,Pm 18
 1,P (o 19 (.ias 1 (t 18) (i 2))),Wl 20 19,Pm 22 1,P (o 23 (.ias 1 (t 22) (i 3))),Wl 24 23,K (k1 13 ek 12),K (k1 17 ek 16),K (k1 21 ek 20),K
 (k1 25 ek 24),P (o 26 (.bd [(.str []),(.str []),(.str []),(.str [])] [(0,1),(1,1),(2,1),(3,1)] [(0,(t 13)),(1,(t 17)),(2,(t 21)),(3,(t 25))])),P (o 27
 (.bs 4 [(.str []),(.str []),(.str []),(.str [])] 1 [(0,(t 26))])),E (o 28 (.ap false di 4 64 false (t 9) (t 27))),P (o 29 (.nc (t 4))),Pf 30 0 29,Pf 31 4 30,E (n
 (.st 1 (t 31) (t 28)))]) (Y []))
def sb:Zj:=⟨vr,32,[],.Zn,[],none⟩
theorem GF:qf sb [] .Zn:=⟨rfl,rfl,rfl⟩
def ot:AC:=
 (Q (.Z0 true [] [] [Pm 4 0,Pm 5 0,P (o 6 (.nc (t 5))),Pf 7 0 6,Pf 8 5 7,Wl 9 8,Pm 10 1,P (o 11 (.ias 1 (t 10) (i 0))),Wl 12 11,Pm 13 1,P (o 14 (.ias 1 (t 13) (i 1))),Wl
 15 14,(k1 16 ek 15,.turn),Pm 17 1,P (o 18 (.sll 1 (t 17) (some (i 2)) none none)),(k1 19 kB 18,.stop),P (o 20 (.bd [(.str []),(.str []),(.slice .nil 2
 [])] [(0,1),(1,1),(2,1)] [(0,(t 12)),(1,(t 16)),(2,(t 19))])),P (o 21 (.bs 3 [(.str []),(.str []),(.slice .nil 0 [])] 1 [(0,(t 20))])),E (o 22 (.ap false eo 3
 56 false (t 9) (t 21))),P (o 23 (.nc (t 4))),Pf 24 0 23,Pf 25 5 24,E (n (.st 1 (t 25) (t 22)))]) (Y []))
def vt:Zj:=⟨ot,26,[],.Zn,[2000000],none⟩
theorem AK:qf vt [] .Zn:=⟨rfl,rfl,rfl⟩
def nP:AC:=
 (Q (O [mc 2 F]) (Q (Q (O [m 3 0,ac 4 .geq 3 (u 97),m 5 4,g 6 5 (.mv (t 0)),g 7 5 (.ar .leq (t 6) (u 122)),pf 8 5 7,m 2 8]) (Y [2])) R))
def fM:Zj:=⟨nP,9,[.t 2],.drop,[],none⟩
def iM:AC:=
 (Q (Q (Q (O [m 14 3,m 15 0,lt 16 15,bl 17 14 16]) (Y [0,3,17])) (C 17 X (.exit 0))) (Q (.block 1 (Q (Q (O [m 20 0,m 21 3,o 22 (.ZX (t 20) (t 21)),ac 23 .geq 22 (u 65),m 24
 23,g 25 24 (.mv (t 0)),g 26 24 (.mv (t 3)),g 27 24 (.ZX (t 25) (t 26)),g 28 24 (.ar .leq (t 27) (u 90)),pf 29 24 28,m 4 29]) (Y [0,3,4])) (Q (Q (O [m 30 0,m 31 3,o 32
 (.ZX (t 30) (t 31)),ac 33 .geq 32 (u 48),m 34 33,g 35 34 (.mv (t 0)),g 36 34 (.mv (t 3)),g 37 34 (.ZX (t 35) (t 36)),g 38 34 (.ar .leq (t 37) (u 57)),pf 39 34 38,m 5 39])
 (Y [0,3,4,5])) (Q (Q (O [m 40 0,m 41 3,o 42 (.ZX (t 40) (t 41)),k1 43 iu 42,no 44 43,m 45 44,g 46 45 (.mv (t 4)),g 47 45 (.un .not (t 46)),pf 48 45
 47,m 49 48,g 50 49 (.mv (t 3)),g 51 49 (.ar .eql (t 50) (i 0)),g 52 49 (.mv (t 51)),h 53 52 (.mv (t 5)),h 54 52 (.un .not (t 53)),h 55 52 (.mv (t 54)),g 56 55 (.mv (t 0)),g
 57 55 (.mv (t 3)),g 58 55 (.ZX (t 56) (t 57)),g 59 55 (.ar .neq (t 58) (u 95)),h 60 52 (.pk (t 55) (t 59) F),g 61 49 (.pk (t 52) T (t 60)),pf 62 49 61]) (Y [0,3,62])) (C 62
 (rt 2 F) X))))) (ic 18 3 19)))
def qk:AC:=
 (Q (O [mc 2 F]) (Q (Q (Q (O [m 6 0,lt 7 6,ac 8 .lss 7 (i 1),m 9 8,h 10 9 (.mv (t 0)),h 11 9 (.len .str (t 10)),h 12 9 (.ar .gtr (t 11) (i 12)),pt 13 9 12]) (Y [0,13])) (C 13
 (rt 2 F) X)) (Q (Q (O [mc 3 (i 0)]) (Q (.block 0 (lo [0,3] iM)) (Y []))) (rt 2 T))))
def b9:Zj:=⟨qk,63,[.t 2],.drop,[],none⟩
def hY:AC:=
 (Q (Q (Q (O [m 6 5,fa 7 1 2,ld 8 7,ls 9 8,bl 10 6 9]) (Y [1,2,5,10])) (C 10 X (.exit 0))) (Q (.block 1 (Q (Q (O [fa 13 1 2,ld 14 13,m 15 5,ia 16 2 14 15,fa 17 0 16,ld 18
 17,m 19 1,ar 20 .eql 18 19]) (Y [1,2,5,20])) (C 20 (Q (O [m 21 5,m 4 21]) R) X))) (ic 11 5 12)))
def po:AC:=
 (Q (O [o 2 (.bx ab (t 0)),mc 4 (i 0)]) (Q (Q (O [mc 5 (i 0)]) (Q (.block 0 (lo [1,2,5] hY)) (Y []))) (rt 4 (i (-1)))))
def ji:Zj:=⟨po,22,[.t 4],.drop,[],none⟩
theorem pq:qf ji [.t 4] .drop:=⟨rfl,rfl,rfl⟩
def jF:AC:=
 (Q (Q (Q (O [m 6 5,m 7 0,ls 8 7,bl 9 6 8]) (Y [0,1,5,9])) (C 9 X (.exit 0))) (Q (.block 1 (Q (Q (O [m 12 0,m 13 5,ia 14 1 12 13,ld 15 14,m 16 1,ar 17 .eql 15 16]) (Y [0,
 1,5,17])) (C 17 (rt 4 T) X))) (ic 10 5 11)))
def sk:AC:=
 (Q (O [mc 4 F]) (Q (Q (O [mc 5 (i 0)]) (Q (.block 0 (lo [0,1,5] jF)) (Y []))) (rt 4 F)))
def kQ:Zj:=⟨sk,18,[.t 4],.drop,[],none⟩
theorem sn:qf kQ [.t 4] .drop:=⟨rfl,rfl,rfl⟩
def pr:AC:=
 (Q (O [mc 2 F]) (Q (Q (O [m 3 0,k1 4 p8 3,m 5 4,g 6 5 (.mv (t 0)),⟨(some 7),(some (5,true)),(.call (.c (.fn (.func cV) [] [])) [(.t 6),(.c
 (.str []))])⟩,pf 8 5 7,m 2 8]) (Y [2])) R))
def jj:Zj:=⟨pr,9,[.t 2],.drop,[],none⟩
def ib:AC:=
 (Q (Q (Q (O [m 11 6,m 12 0,ls 13 12,bl 14 11 13]) (Y [0,1,6,14])) (C 14 X (.exit 0))) (Q (.block 1 (Q (Q (D [Pm 17 0,Pm 18 6,P (ac 19 .sub 18 (i 1)),P (ia 20 2 17 19),Pf
 21 0 20,Wl 22 21,Pm 23 0,Pm 24 6,P (ia 25 2 23 24),Pf 26 0 25,Wl 27 26,P (ar 28 .geq 22 27)]) (Y [0,1,6,28])) (C 28 (Q (O [mc 4 (.c (.slice .nil 2 [])),mc 5 F]) R) X)))
 (ic 15 6 16)))
def ie:AC:=
 (Q (Q (Q (O [m 29 7,m 30 1,ls 31 30,bl 32 29 31]) (Y [0,1,7,32])) (C 32 X (.exit 2))) (Q (.block 3 (Q (Q (D [Pm 35 1,Pm 36 7,P (ac 37 .sub 36 (i 1)),P (ia 38 2 35 37),Pf
 39 0 38,Wl 40 39,Pm 41 1,Pm 42 7,P (ia 43 2 41 42),Pf 44 0 43,Wl 45 44,P (ar 46 .geq 40 45)]) (Y [0,1,7,46])) (C 46 (Q (O [mc 4 (.c (.slice .nil 2 [])),mc 5 F]) R) X)))
 (ic 33 7 34)))
def cA:AC:=
 (Q (Q (Q (O [m 47 9,m 48 0,ls 49 48,bl 50 47 49,m 51 50,h 52 51 (.mv (t 10)),h 53 51 (.mv (t 1)),h 54 51 (.len .sl (t 53)),h 55 51 (.ar .lss (t 52) (t 54)),pt 56 51 55]) (Y
 [0,1,8,9,10,56])) (C 56 X (.exit 4))) (.block 5 (.block 6 (Q (Q (D [Pm 69 10,Pm 70 1,W (ls 71 70),P (ar 72 .eql 69 71),Pm 73 72,P (h 74 73 (.mv (t 9))),P (h 75 73 (.mv (t
 0))),W (h 76 73 (.len .sl (t 75))),P (h 77 73 (.ar .lss (t 74) (t 76))),P (h 78 73 (.mv (t 77))),P (g 79 78 (.mv (t 0))),P (g 80 78 (.mv (t 9))),P (g 81 78 (.ias 2 (t 79) (t
 80))),P (g 82 78 (.fa 0 (t 81))),W (g 83 78 (.ld none (t 82))),P (g 84 78 (.mv (t 1))),P (g 85 78 (.mv (t 10))),P (g 86 78 (.ias 2 (t 84) (t 85))),P (g 87 78 (.fa 0 (t 86))),
 W (g 88 78 (.ld none (t 87))),P (g 89 78 (.ar .lss (t 83) (t 88))),P (h 90 73 (.pk (t 78) (t 89) F)),P (pt 91 73 90),Pm 68 91]) (Y [0,1,8,9,10,68])) (C 68 (Q (Q (O [m 92 8,
 m 93 0,m 94 9,ia 95 2 93 94,la 96 2 95,o 97 (.bs 2 [(.str []),(.str [])] 1 [(0,(t 96))]),o 98 (.ap false aR 2 32 false (t 92) (t 97)),m 8 98]) (Y [0,1,8,9,10]))
 (ic 99 9 100)) (Q (Q (D [Pm 102 9,Pm 103 0,W (ls 104 103),P (ar 105 .eql 102 104),Pm 106 105,P (h 107 106 (.mv (t 1))),P (h 108 106 (.mv (t 10))),P (h 109 106 (.ias 2 (t 107)
 (t 108))),P (h 110 106 (.fa 0 (t 109))),W (h 111 106 (.ld none (t 110))),P (h 112 106 (.mv (t 0))),P (h 113 106 (.mv (t 9))),P (h 114 106 (.ias 2 (t 112) (t 113))),P (h 115
 106 (.fa 0 (t 114))),W (h 116 106 (.ld none (t 115))),P (h 117 106 (.ar .lss (t 111) (t 116))),P (pt 118 106 117),Pm 101 118]) (Y [0,1,8,9,10,101])) (C 101 (Q (Q (O [m 119
 8,m 120 1,m 121 10,ia 122 2 120 121,la 123 2 122,o 124 (.bs 2 [(.str []),(.str [])] 1 [(0,(t 123))]),o 125 (.ap false aR 2 32 false (t 119) (t 124)),m 8 125]) (Y
 [0,1,8,9,10])) (ic 126 10 127)) (Q (Q (D [Pm 129 0,Pm 130 9,P (ia 131 2 129 130),W (la 132 2 131),Pm 133 1,Pm 134 10,P (ia 135 2 133 134),W (la 136 2 135),P (o 137 (.eq
 true (.st [(0,.str),(1,.str)]) (t 132) (t 136))),Pm 128 137]) (Y [0,1,8,9,10,128])) (C 128 (Q (O [mc 4 (.c (.slice .nil 2 [])),mc 5 F]) R) (Q (Q (O [m 57 8,m 58 0,m 59
 9,ia 60 2 58 59,la 61 2 60,o 62 (.bs 2 [(.str []),(.str [])] 1 [(0,(t 61))]),o 63 (.ap false aR 2 32 false (t 57) (t 62)),m 8 63]) (Y [0,1,8,9,10])) (Q (ic 64 9
 65) (ic 66 10 67))))))))))))
def pw:AC:=
 (Q (O [mc 4 (.c (.slice .nil 2 [])),mc 5 F]) (Q (Q (O [mc 6 (i 1)]) (Q (.block 0 (lo [0,1,6] ib)) (Y [0,1]))) (Q (Q (O [mc 7 (i 1)]) (Q (.block 2 (lo [0,1,
 7] ie)) (Y [0,1]))) (Q (O [mc 8 (.c (.slice .nil 2 []))]) (Q (O [mc 9 (i 0),mc 10 (i 0)]) (Q (Q (.block 4 (.loop ⟨(some [0,1,8,9,10]),[(8,2,
 aR)],false⟩ cA)) (Y [8])) (Q (O [m 138 8,m 4 138,mc 5 T]) R)))))))
def dz:Zj:=⟨pw,139,[.t 4,.t 5],.drop,[],none⟩
theorem bT:qf dz [.t 4,.t 5] .drop:=⟨rfl,rfl,rfl⟩
def fe:AC:=
 (Q (Q (O [m 2 0,o 3 (.nc (t 2)),fa 4 0 3,ld 5 4,o 6 (.eq false .ptr (t 5) (.c .ZB))]) (Y [0,6])) (C 6 (Q (O [m 7 0,m 8 0,o 9 (.cvu (t 8)),k1 10 gG 9,
 o 11 (.cvg cT [mo,aO] 2 (t 10)),o 12 (.nc (t 7)),fa 13 0 12,n (.st 1 (t 13) (t 11))]) (Y [])) (Q (Q (O [m 14 0,o 15 (.nc (t
 14)),fa 16 0 15,ld 17 16,m 18 0,o 19 (.eq true .ptr (t 17) (t 18))]) (Y [19])) (C 19 .bad X))))
def ik:Zj:=⟨fe,20,[],.drop,[],none⟩
theorem pH:qf ik [] .drop:=⟨rfl,rfl,rfl⟩
def nQ:AC:=
 (Q (O [m 4 0,k1 5 fc 4]) (Q (Q (O [m 6 1,ac 7 .lss 6 (i 0)]) (C 7 (O [o 8 (.mi aI (s [115,116,114,105,110,103,115,46,66,117,105,108,100,
 101,114,46,71,114,111,119,58,32,110,101,103,97,116,105,118,101,32,99,111,117,110,116])),⟨none,none,(.panic (.t 8))⟩]) X)) (Q (Q (D [Pm 9 0,P (o 10 (.nc (t
 9))),Pf 11 1 10,Wl 12 11,P (o 13 (.cap (t 12))),Pm 14 0,P (o 15 (.nc (t 14))),Pf 16 1 15,Wl 17 16,W (ls 18 17),P (ar 19 .sub 13 18),Pm 20 1,P (bl 21 19 20)]) (Y [0,1,
 21])) (C 21 (O [m 22 0,m 23 1,k2 24 nA 22 23]) X))))
def ks:Zj:=⟨nQ,25,[],.Zn,[],none⟩
theorem zT:qf ks [] .Zn:=⟨rfl,rfl,rfl⟩
def wD:AC:=
 (Q (O [mc 2 F]) (Q (Q (O [m 3 0,k1 4 cP 3,m 5 4,h 6 5 (.mv (t 0)),h 7 5 (.ar .geq (t 6) (u 65)),h 8 5 (.mv (t 7)),g 9 8 (.mv (t 0)),g 10 8 (.ar .leq (t 9) (u
 90)),h 11 5 (.pk (t 8) (t 10) F),pt 12 5 11,m 2 12]) (Y [2])) R))
def jG:Zj:=⟨wD,13,[.t 2],.drop,[],none⟩
def rA:AC:=
 (Q (O [bl 9 8 7]) (Q (C 9 X (.exit 0)) (Q (.block 1 (Q (O [m 10 8,m 5 10]) (Q (Q (O [m 11 1,m 12 0,m 13 5,o 14 (.ZX (t 12) (t 13)),k 15 (t 11) [(t 14)],no 16 15]) (Y [0,1,
 7,8,16])) (C 16 (rt 4 F) X)))) (O [ad 17 8,m 8 17]))))
def BM:AC:=
 (Q (O [mc 4 F]) (Q (Q (O [m 6 0,lt 7 6,mc 8 (i 0)]) (Q (.block 0 (lo [0,1,7,8] rA)) (Y []))) (rt 4 T)))
def fA:Zj:=⟨BM,18,[.t 4],.drop,[],none⟩
def wE:AC:=
 (Q (O [mc 3 F]) (Q (Q (O [ld 4 1,m 5 0,k 6 (t 4) [(t 5)],m 7 6,h 8 7 (.mv (t 0)),h 9 7 (.ar .geq (t 8) (u 48)),h 10 7 (.mv (t 9)),g 11 10 (.mv (t 0)),g 12 10 (.ar .leq (t
 11) (u 57)),h 13 7 (.pk (t 10) (t 12) F),pt 14 7 13,m 15 14,h 16 15 (.mv (t 0)),h 17 15 (.ar .eql (t 16) (u 95)),pt 18 15 17,m 3 18]) (Y [3])) R))
def kR:Zj:=⟨wE,19,[.t 3],.drop,[],none⟩
def cE:AC:=
 (Q (O [bl 9 8 7]) (Q (C 9 X (.exit 0)) (Q (.block 1 (Q (O [m 10 8,m 5 10]) (Q (Q (O [m 11 1,m 12 0,m 13 5,ia 14 2 12 13,la 15 2 14,k 16 (t 11) [(t 15)]]) (Y [0,1,5,7,8,
 16])) (C 16 (Q (O [m 17 5,m 4 17]) R) X)))) (O [ad 18 8,m 8 18]))))
def fB:AC:=
 (Q (O [mc 4 (i 0)]) (Q (Q (O [m 6 0,ls 7 6,mc 8 (i 0)]) (Q (.block 0 (lo [0,1,7,8] cE)) (Y []))) (rt 4 (i (-1)))))
def bz:Zj:=⟨fB,19,[.t 4],.drop,[],none⟩
theorem fC:qf bz [.t 4] .drop:=⟨rfl,rfl,rfl⟩
def ee:AC:=
 (Q (O [bl 9 8 7]) (Q (C 9 X (.exit 0)) (Q (.block 1 (Q (O [m 10 8,m 5 10]) (Q (Q (O [m 11 1,m 12 0,m 13 5,ia 14 1 12 13,ld 15 14,ar 16 .eql 11 15]) (Y [0,1,5,7,8,16])) (C
 16 (Q (O [m 17 5,m 4 17]) R) X)))) (O [ad 18 8,m 8 18]))))
def j5:AC:=
 (Q (O [mc 4 (i 0)]) (Q (Q (O [m 6 0,ls 7 6,mc 8 (i 0)]) (Q (.block 0 (lo [0,1,7,8] ee)) (Y []))) (rt 4 (i (-1)))))
def dI:Zj:=⟨j5,19,[.t 4],.drop,[],none⟩
theorem j6:qf dI [.t 4] .drop:=⟨rfl,rfl,rfl⟩
def cF:AC:=
 (Q (O [bl 9 8 7]) (Q (C 9 X (.exit 0)) (Q (.block 1 (Q (O [m 10 8,m 5 10]) (Q (Q (O [m 11 1,m 12 0,m 13 5,ia 14 2 12 13,la 15 2 14,k 16 (t 11) [(t 15)]]) (Y [0,1,5,7,8,
 16])) (C 16 (Q (O [m 17 5,m 4 17]) R) X)))) (O [ad 18 8,m 8 18]))))
def fD:AC:=
 (Q (O [mc 4 (i 0)]) (Q (Q (O [m 6 0,ls 7 6,mc 8 (i 0)]) (Q (.block 0 (lo [0,1,7,8] cF)) (Y []))) (rt 4 (i (-1)))))
def bA:Zj:=⟨fD,19,[.t 4],.drop,[],none⟩
theorem fE:qf bA [.t 4] .drop:=⟨rfl,rfl,rfl⟩
def ig:AC:=
 (Q (O [bl 17 16 15]) (Q (C 17 X (.exit 0)) (Q (.block 1 (Q (Q (O [m 18 16,ia 19 2 14 16,la 20 2 19,o 8 (.nw [(.str []),(.str [])] aR),m 7 18,n (.st 2 (t 8) (t 20))])
 (Y [2,7,8,14,15,16])) (Q (Q (O [m 21 2,m 22 7,la 23 2 8,k 24 (t 21) [(t 22),(t 23)],m 9 24]) (Y [2,9,14,15,16])) (Q (O [m 25 9,ac 26 .neq 25 (u 0)]) (C 26 (Q (O [m 27
 9,m 6 27]) R) X))))) (O [ad 28 16,m 16 28]))))
def px:AC:=
 (Q (O [mc 6 (u 0)]) (Q (Q (Q (O [m 10 0,ls 11 10,m 12 1,ar 13 .gtr 11 12]) (Y [0,2,13])) (C 13 (rt 6 (u 3)) X)) (Q (Q (O [m 14 0,ls 15 14,mc 16 (i 0)]) (Q (.block 0 (lc [2,
 14,15,16] ig)) (Y []))) (rt 6 (u 0)))))
def eX:Zj:=⟨px,29,[.t 6],.drop,[],none⟩
theorem py:qf eX [.t 6] .drop:=⟨rfl,rfl,rfl⟩
def mw:AC:=
 (Q (O [o 5 (.bx aR (t 1)),mc 6 (u 0)]) (Q (Q (O [fa 8 0 2,fa 9 1 8,ld 10 9,o 11 (.mf (.func iv) [] [(t 5)]),k2 12
 bZ 10 11,m 7 12]) (Y [0,2,3,5,7])) (Q (.block 0 (Q (O [m 14 7,ac 15 .lss 14 (i 0),m 13 15]) (C 13 (rt 6 (u 5)) (Q (Q (D [Pf 17 0 2,Pf 18
 1 17,Wl 19 18,Pm 20 7,P (ia 21 2 19 20),Pf 22 1 21,Wl 23 22,Pf 24 1 5,Wl 25 24,E (k2 26 ft 23 25),P (no 27 26),Pm 16 27]) (Y [0,3,5,16]))
 (C 16 (rt 6 (u 1)) (Q (Q (D [Pm 29 0,P (ac 30 .gtr 29 (i 0)),Pm 31 30,W (g 32 31 (.ld none (t 3))),P (g 33 31 (.mv (t 0))),P (g 34 31 (.ar .sub (t 33) (i 1))),P (g 35 31 (.ias
 2 (t 32) (t 34))),P (g 36 31 (.fa 0 (t 35))),W (g 37 31 (.ld none (t 36))),P (g 38 31 (.fa 0 (t 5))),W (g 39 31 (.ld none (t 38))),P (g 40 31 (.ar .eql (t 37) (t 39))),P (pf
 41 31 40),Pm 28 41]) (Y [0,3,5,28])) (C 28 (rt 6 (u 6)) (Q (Q (D [Pm 43 0,P (ac 44 .gtr 43 (i 0)),Pm 45 44,W (g 46 45 (.ld none (t 3))),P (g 47 45 (.mv (t 0))),P (g 48 45
 (.ar .sub (t 47) (i 1))),P (g 49 45 (.ias 2 (t 46) (t 48))),P (g 50 45 (.fa 0 (t 49))),W (g 51 45 (.ld none (t 50))),P (g 52 45 (.fa 0 (t 5))),W (g 53 45 (.ld none (t 52))),P
 (g 54 45 (.ar .gtr (t 51) (t 53))),P (pf 55 45 54),Pm 42 55]) (Y [42])) (C 42 (rt 6 (u 1)) X))))))))) (rt 6 (u 0)))))
def jx:Zj:=⟨mw,56,[.t 6],.drop,[],none⟩
theorem my:qf jx [.t 6] .drop:=⟨rfl,rfl,rfl⟩
def kS:AC:=
 (Q (O [o 2 (.bx bW (t 0)),mc 3 F]) (Q (Q (O [fa 4 0 2,ld 5 4,fa 6 0 1,ld 7 6,ar 8 .eql 5 7,m 3 8]) (Y [3])) R))
def iN:Zj:=⟨kS,9,[.t 3],.drop,[],none⟩
theorem wF:qf iN [.t 3] .drop:=⟨rfl,rfl,rfl⟩
def th:AC:=
 (Q (O [o 2 (.bx aJ (t 0)),mc 3 F]) (Q (Q (O [fa 4 0 2,ld 5 4,ld 6 1,ar 7 .eql 5 6,m 3 7]) (Y [3])) R))
def pI:Zj:=⟨th,8,[.t 3],.drop,[],none⟩
theorem Ek:qf pI [.t 3] .drop:=⟨rfl,rfl,rfl⟩
def zU:AC:=
 (Q (O [mc 2 F]) (Q (Q (O [m 3 0,lt 4 3,ac 5 .geq 4 (i 1),m 6 5,g 7 6 (.mv (t 0)),g 8 6 (.len .str (t 7)),g 9 6 (.ar .leq (t 8) (i 24)),pf 10 6 9,m 11 10,g 12 11 (.mv (t
 0)),⟨(some 13),(some (11,true)),(.call (.c (.fn (.func p7) [] [])) [(.t 12),(.c (.fn (.func p9) [] []))])⟩,pf 14 11 13,m 2 14]) (Y [2])) R))
def qI:Zj:=⟨zU,15,[.t 2],.drop,[],none⟩
def cG:AC:=
 (Q (O [bl 9 8 7]) (Q (C 9 X (.exit 0)) (Q (.block 1 (Q (O [m 10 8,m 5 10]) (Q (Q (O [m 11 1,m 12 0,m 13 5,ia 14 4 12 13,la 15 4 14,k 16 (t 11) [(t 15)]]) (Y [0,1,5,7,8,
 16])) (C 16 (Q (O [m 17 5,m 4 17]) R) X)))) (O [ad 18 8,m 8 18]))))
def fF:AC:=
 (Q (O [mc 4 (i 0)]) (Q (Q (O [m 6 0,ls 7 6,mc 8 (i 0)]) (Q (.block 0 (lo [0,1,7,8] cG)) (Y []))) (rt 4 (i (-1)))))
def bB:Zj:=⟨fF,19,[.t 4],.drop,[],none⟩
theorem fG:qf bB [.t 4] .drop:=⟨rfl,rfl,rfl⟩
def cR:AC:=
 (Q (O [bl 9 8 7]) (Q (C 9 X (.exit 0)) (Q (.block 1 (Q (O [m 10 8,m 5 10]) (Q (Q (O [m 11 1,m 12 0,m 13 5,ia 14 4 12 13,la 15 4 14,k 16 (t 11) [(t 15)]]) (Y [0,1,5,7,8,
 16])) (C 16 (Q (O [m 17 5,m 4 17]) R) X)))) (O [ad 18 8,m 8 18]))))
def fZ:AC:=
 (Q (O [mc 4 (i 0)]) (Q (Q (O [m 6 0,ls 7 6,mc 8 (i 0)]) (Q (.block 0 (lo [0,1,7,8] cR)) (Y []))) (rt 4 (i (-1)))))
def bF:Zj:=⟨fZ,19,[.t 4],.drop,[],none⟩
theorem ga:qf bF [.t 4] .drop:=⟨rfl,rfl,rfl⟩
def fj:AC:=
 (Q (O [mc 4 F]) (Q (Q (O [m 5 0,m 6 1,k2 7 c8 5 6,ac 8 .geq 7 (i 0),m 4 8]) (Y [4])) R))
def cK:Zj:=⟨fj,9,[.t 4],.drop,[],none⟩
theorem pO:qf cK [.t 4] .drop:=⟨rfl,rfl,rfl⟩
def vu:AC:=
 (Q (O [o 2 (.bx aR (t 0)),mc 3 F]) (Q (Q (O [ld 4 1,o 5 (.mf (.func pG) [] [(t 2)]),k2 6 cI 4 5,m 3 6]) (Y [3])) R))
def sd:Zj:=⟨vu,7,[.t 3],.drop,[],none⟩
theorem GG:qf sd [.t 3] .drop:=⟨rfl,rfl,rfl⟩
def tj:AC:=
 (Q (O [o 2 (.bx aR (t 0)),mc 3 F]) (Q (Q (O [fa 4 0 1,ld 5 4,fa 6 0 2,ld 7 6,ar 8 .eql 5 7,m 9 8,g 10 9 (.fa 1 (t 1)),g 11 9 (.ld none (t 10)),g 12 9 (.fa 1 (t 2)),
 g 13 9 (.ld none (t 12)),g 14 9 (.ar .neq (t 11) (t 13)),pf 15 9 14,m 3 15]) (Y [3])) R))
def pJ:Zj:=⟨tj,16,[.t 3],.drop,[],none⟩
theorem El:qf pJ [.t 3] .drop:=⟨rfl,rfl,rfl⟩
def bQ:AC:=
 (Q (O [bl 9 8 7]) (Q (C 9 X (.exit 0)) (Q (.block 1 (Q (O [m 10 8,m 5 10]) (Q (Q (O [m 11 1,m 12 0,m 13 5,ia 14 2 12 13,la 15 2 14,k 16 (t 11) [(t 15)]]) (Y [0,1,5,7,8,
 16])) (C 16 (Q (O [m 17 5,m 4 17]) R) X)))) (O [ad 18 8,m 8 18]))))
def dQ:AC:=
 (Q (O [mc 4 (i 0)]) (Q (Q (O [m 6 0,ls 7 6,mc 8 (i 0)]) (Q (.block 0 (lo [0,1,7,8] bQ)) (Y []))) (rt 4 (i (-1)))))
def aU:Zj:=⟨dQ,19,[.t 4],.drop,[],none⟩
theorem dR:qf aU [.t 4] .drop:=⟨rfl,rfl,rfl⟩
def so:AC:=
 (Q (O [o 5 (.nx (t 4)),ex 6 5 0]) (Q (C 6 X (.exit 0)) (.block 1 (ic 7 2 8))))
def tk:AC:=
 (Q (O [mc 2 (i 0)]) (Q (Q (O [m 3 0,o 4 (.rg (t 3))]) (Q (.block 0 (lo [2,4] so)) (Y [2]))) (Q (O [m 9 2,m 2 9]) R)))
def lZ:Zj:=⟨tk,10,[.t 2],.drop,[],none⟩
def sE:AC:=
 (Q (O [mc 2 (.c (.int .i32 0)),mc 3 (i 0)]) (Q (Q (Q (O [m 4 0,ac 5 .neq 4 (s []),m 6 5,g 7 6 (.mv (t 0)),g 8 6 (.ZX (t 7) (i 0)),g 9 6 (.ar .lss (t 8) (u 128)),pf 10 6 9])
 (Y [0,10])) (C 10 (Q (Q (O [m 11 0,o 12 (.ZX (t 11) (i 0)),o 13 (.cvi .i32 (t 12)),m 2 13,mc 3 (i 1)]) (Y [2,3])) R) (Q (O [m 15 0,k1 16
 qG 15,m 14 16,ex 17 14 0,ex 18 14 1,m 2 17,m 3 18]) (Y [2,3])))) R))
def lE:Zj:=⟨sE,19,[.t 2,.t 3],.drop,[],none⟩
def tZ:AC:=
 (Q (Q (O [m 57 8,m 58 9,bl 59 57 58]) (C 59 X (.exit 1))) (.block 2 (Q (Q (Q (O [m 60 0,m 61 8,o 62 (.ZX (t 60) (t 61)),m 63 6,ar 64 .neq 62 63]) (Y [0,1,5,6,7,8,9,10,
 64])) (C 64 (Q (Q (O [m 65 0,m 66 8,ad 67 66,m 68 9,o 69 (.sls (t 65) (some (t 67)) (some (t 68))),m 70 6,k2 71 dJ 69 70,m 11 71]) (Y [0,1,5,
 6,7,8,9,10,11])) (Q (Q (O [m 72 11,ac 73 .lss 72 (i 0)]) (C 73 (rt 4 (i (-1))) X)) (Q (O [m 74 8,m 75 11,ad 76 75,ar 77 .add 74 76,m 8 77]) (Y [0,1,5,6,7,8,9,
 10])))) X)) (Q (Q (Q (O [m 78 0,m 79 8,ad 80 79,o 81 (.ZX (t 78) (t 80)),m 82 7,ar 83 .eql 81 82,m 84 83,g 85 84 (.mv (t 0)),g 86 84 (.mv (t 8)),g 87 84 (.mv (t 8)),g 88
 84 (.mv (t 5)),g 89 84 (.ar .add (t 87) (t 88)),g 90 84 (.sls (t 85) (some (t 86)) (some (t 89))),g 91 84 (.mv (t 1)),g 92 84 (.ar .eql (t 90) (t 91)),pf 93 84 92]) (Y [0,1,
 5,6,7,8,9,10,93])) (C 93 (Q (O [m 94 8,m 4 94]) R) X)) (Q (ic 95 8 96) (Q (ic 97 10 98) (Q (Q (O [m 99 5,o 100 (.ld none (.c .ZW)),ar 101 .leq 99 100,m 102 101,g 103 102
 (.mv (t 10)),g 104 102 (.mv (t 8)),⟨(some 105),(some (102,true)),(.call (.c (.fn (.func wu) [] [])) [(.t 104)])⟩,g 106 102 (.ar .gtr (t 103) (t 105)),
 pf 107 102 106]) (Y [0,1,5,6,7,8,9,10,107])) (C 107 (Q (Q (O [m 108 0,m 109 8,o 110 (.sls (t 108) (some (t 109)) none),m 111 1,k2 112 mN 110
 111,m 12 112]) (Y [8,12])) (Q (Q (O [m 113 12,ac 114 .geq 113 (i 0)]) (C 114 (Q (Q (O [m 115 12,m 116 8,ar 117 .add 115 116,m 4 117]) (Y [4])) R) X)) (rt 4 (i (-1))))) (Q (Q
 (O [m 118 5,o 119 (.ld none (.c .ZW)),ar 120 .gtr 118 119,m 121 120,g 122 121 (.mv (t 10)),g 123 121 (.mv (t 8)),g 124 121 (.sh .shr (t 123) (.c (.int .u64 4))),g 125 121
 (.ar .add (i 4) (t 124)),g 126 121 (.ar .geq (t 122) (t 125)),pf 127 121 126,m 128 127,g 129 128 (.mv (t 8)),g 130 128 (.mv (t 9)),g 131 128 (.ar .lss (t 129) (t 130)),pf 132
 128 131]) (Y [0,1,5,6,7,8,9,10,132])) (C 132 (Q (Q (O [m 133 0,m 134 8,o 135 (.sls (t 133) (some (t 134)) none),m 136 1,k2 137 oP
 135 136,m 13 137]) (Y [8,13])) (Q (Q (O [m 138 13,ac 139 .lss 138 (i 0)]) (C 139 (rt 4 (i (-1))) X)) (Q (Q (O [m 140 8,m 141 13,ar 142 .add 140 141,m 4 142]) (Y [4])) R)))
 X))))))))))
def eK:AC:=
 (Q (O [mc 4 (i 0)]) (Q (O [m 14 1,lt 15 14,m 5 15]) (Q (.block 0 (Q (Q (O [m 17 5,ac 18 .eql 17 (i 0),m 19 18,h 20 19 (.mv (t 1)),h 21 19 (.mv (t 0)),h 22 19 (.ar .eql (t 20)
 (t 21)),pt 23 19 22,m 16 23]) (Y [0,1,5,16])) (C 16 (rt 4 (i 0)) (Q (O [m 25 5,ac 26 .eql 25 (i 1),m 24 26]) (C 24 (Q (Q (O [m 27 0,m 28 1,o 29 (.ZX (t 28) (i 0)),k2 30
 dJ 27 29,m 4 30]) (Y [4])) R) (Q (Q (O [m 32 5,m 33 0,lt 34 33,ar 35 .geq 32 34,m 31 35]) (Y [0,1,5,31])) (C 31 (rt 4 (i (-1))) (Q (Q (O [m 37
 5,o 38 (.ld none (.c .ZW)),ar 39 .leq 37 38,m 40 39,g 41 40 (.mv (t 0)),g 42 40 (.len .str (t 41)),g 43 40 (.ar .leq (t 42) (i 64)),pf 44 40 43,m 36 44]) (Y [0,1,5,36]))
 (C 36 (Q (Q (O [m 45 0,m 46 1,k2 47 mN 45 46,m 4 47]) (Y [4])) R) X))))))))) (Q (O [m 48 1,o 49 (.ZX (t 48) (i 0)),m 6 49]) (Q (O [m 50 1,o 51
 (.ZX (t 50) (i 1)),m 7 51]) (Q (O [mc 8 (i 0)]) (Q (Q (O [m 52 0,lt 53 52,m 54 5,ar 55 .sub 53 54,ad 56 55,m 9 56]) (Y [0,1,5,6,7,8,9])) (Q (O [mc 10 (i 0)]) (Q (Q
 (.block 1 (lo [0,1,5,6,7,8,9,10] tZ)) (Y [])) (rt 4 (i (-1))))))))))))
def gz:Zj:=⟨eK,143,[.t 4],.drop,[],none⟩
theorem gA:qf gz [.t 4] .drop:=⟨rfl,rfl,rfl⟩
def xZ:AC:=
 (Q (O [mc 4 (s []),mc 5 (s []),mc 6 F]) (Q (Q (O [m 7 0,m 8 1,k2 9 kM 7 8,ex 10 9 0,ex 11 9 1,ex 12 9 2,m 4 10,m 5 11,m 6 12]) (Y [4,5,6])) R))
def ur:Zj:=⟨xZ,13,[.t 4,.t 5,.t 6],.drop,[],none⟩
theorem JG:qf ur [.t 4,.t 5,.t 6] .drop:=⟨rfl,rfl,rfl⟩
def iO:AC:=
 (Q (Q (Q (O [m 12 3,m 13 0,lt 14 13,bl 15 12 14]) (Y [0,3,15])) (C 15 X (.exit 0))) (Q (.block 1 (Q (Q (O [m 18 0,m 19 3,o 20 (.ZX (t 18) (t 19)),ac 21 .lss 20 (u 33),m 22
 21,h 23 22 (.mv (t 0)),h 24 22 (.mv (t 3)),h 25 22 (.ZX (t 23) (t 24)),h 26 22 (.ar .gtr (t 25) (u 126)),pt 27 22 26]) (Y [0,3,27])) (C 27 (rt 2 F) X))) (ic 16 3 17)))
def ql:AC:=
 (Q (O [mc 2 F]) (Q (Q (Q (O [m 4 0,lt 5 4,ac 6 .lss 5 (i 1),m 7 6,h 8 7 (.mv (t 0)),h 9 7 (.len .str (t 8)),h 10 7 (.ar .gtr (t 9) (i 24)),pt 11 7 10]) (Y [0,11])) (C 11 (rt
 2 F) X)) (Q (Q (O [mc 3 (i 0)]) (Q (.block 0 (lo [0,3] iO)) (Y []))) (rt 2 T))))
def ca:Zj:=⟨ql,28,[.t 2],.drop,[],none⟩
def nR:AC:=
 (Q (Q (D [Pm 5 0,P (o 6 (.nc (t 5))),Pf 7 1 6,Wl 8 7,P (o 9 (.cap (t 8))),P (o 10 (.ar .mul (i 2) (t 9))),Pm 11 1,P (ar 12 .add 10 11),Pm 14 0,P (o 15 (.nc (t 14))),Pf 16
 1 15,Wl 17 16,W (ls 18 17),K (k1 13 dA 12),P (o 19 (.sll 1 (t 13) none (some (t 18)) none)),Pm 4 19]) (Y [0,4])) (Q (Q (O [m 20 4,m 21 0,o 22 (.nc
 (t 21)),fa 23 1 22,ld 24 23,o 25 (.cp 1 false (t 20) (t 24))]) (Y [0,4])) (Q (O [m 26 0,m 27 4,o 28 (.nc (t 26)),fa 29 1 28,n (.st 1 (t 29) (t 27))]) (Y []))))
def ku:Zj:=⟨nR,30,[],.Zn,[],none⟩
theorem zV:qf ku [] .Zn:=⟨rfl,rfl,rfl⟩
def wG:AC:=
 (Q (O [mc 2 F]) (Q (Q (O [m 3 0,ac 4 .geq 3 (u 33),m 5 4,g 6 5 (.mv (t 0)),g 7 5 (.ar .leq (t 6) (u 126)),pf 8 5 7,m 2 8]) (Y [2])) R))
def kT:Zj:=⟨wG,9,[.t 2],.drop,[],none⟩
def cS:AC:=
 (Q (O [bl 9 8 7]) (Q (C 9 X (.exit 0)) (Q (.block 1 (Q (O [m 10 8,m 5 10]) (Q (Q (O [m 11 1,m 12 0,m 13 5,ia 14 2 12 13,la 15 2 14,k 16 (t 11) [(t 15)]]) (Y [0,1,5,7,8,
 16])) (C 16 (Q (O [m 17 5,m 4 17]) R) X)))) (O [ad 18 8,m 8 18]))))
def gb:AC:=
 (Q (O [mc 4 (i 0)]) (Q (Q (O [m 6 0,ls 7 6,mc 8 (i 0)]) (Q (.block 0 (lo [0,1,7,8] cS)) (Y []))) (rt 4 (i (-1)))))
def bG:Zj:=⟨gb,19,[.t 4],.drop,[],none⟩
theorem gf:qf bG [.t 4] .drop:=⟨rfl,rfl,rfl⟩
def qJ:AC:=
 (Q (O [mc 2 (.c (.int .i32 0)),mc 3 (i 0)]) (Q (O [m 13 0,lt 14 13,m 4 14]) (Q (Q (O [m 15 4,ac 16 .lss 15 (i 1)]) (C 16 (Q (O [mc 2 (.c (.int .i32 65533)),mc 3 (i 0)]) R) X))
 (Q (O [m 17 0,o 18 (.ZX (t 17) (i 0)),m 5 18]) (Q (Q (O [m 19 5,o 20 (.iaa 256 1 (.c .ZW) (t 19)),ld 21 20,m 6 21]) (Y [0,4,5,6])) (Q (Q (O [m 22 6,ac 23 .geq 22 (u
 240)]) (C 23 (Q (Q (O [m 24 6,o 25 (.cvi .i32 (t 24)),o 26 (.sh .shl (t 25) (.c (.int .u64 31))),o 27 (.sh .shr (t 26) (.c (.int .u64 31))),m 7 27]) (Y [0,7])) (Q (Q (O [m 28
 0,o 29 (.ZX (t 28) (i 0)),o 30 (.cvi .i32 (t 29)),m 31 7,o 32 (.an (t 30) (t 31)),m 33 7,o 34 (.ar .and (.c (.int .i32 65533)) (t 33)),ar 35 .or 32 34,m 2 35,mc 3 (i 1)])
 (Y [2,3])) R)) X)) (Q (Q (O [m 36 6,ac 37 .and 36 (u 7),o 38 (.cvi .i64 (t 37)),m 8 38]) (Y [0,4,5,6,8])) (Q (Q (O [m 39 6,o 40 (.sh .shr (t 39) (.c (.int .u64 4))),o 41
 (.iaa 16 2 (.c .ZW) (t 40)),la 42 2 41,o 9 (.nw [(.int .u8 0),(.int .u8 0)] C5),n (.st 2 (t 9) (t 42))]) (Y [0,4,5,8,9])) (Q (Q (O [m 43 4,m 44 8,bl 45 43
 44]) (C 45 (Q (O [mc 2 (.c (.int .i32 65533)),mc 3 (i 1)]) R) X)) (Q (O [m 46 0,o 47 (.ZX (t 46) (i 1)),m 10 47]) (Q (Q (Q (O [m 48 10,fa 49 0 9,ld 50 49,bl 51 48 50,m 52
 51,h 53 52 (.fa 1 (t 9)),h 54 52 (.ld none (t 53)),h 55 52 (.mv (t 10)),h 56 52 (.ar .lss (t 54) (t 55)),pt 57 52 56]) (Y [0,5,8,10,57])) (C 57 (Q (O [mc 2 (.c (.int .i32
 65533)),mc 3 (i 1)]) R) X)) (Q (Q (O [m 58 8,ac 59 .leq 58 (i 2)]) (C 59 (Q (Q (O [m 60 5,ac 61 .and 60 (u 31),o 62 (.cvi .i32 (t 61)),o 63 (.sh .shl (t 62) (.c (.int .u64
 6))),m 64 10,ac 65 .and 64 (u 63),o 66 (.cvi .i32 (t 65)),ar 67 .or 63 66,m 2 67,mc 3 (i 2)]) (Y [2,3])) R) X)) (Q (O [m 68 0,o 69 (.ZX (t 68) (i 2)),m 11 69]) (Q (Q (Q (O
 [m 70 11,ac 71 .lss 70 (u 128),m 72 71,h 73 72 (.mv (t 11)),h 74 72 (.ar .lss (u 191) (t 73)),pt 75 72 74]) (Y [0,5,8,10,11,75])) (C 75 (Q (O [mc 2 (.c (.int .i32 65533)),
 mc 3 (i 1)]) R) X)) (Q (Q (O [m 76 8,ac 77 .leq 76 (i 3)]) (C 77 (Q (Q (O [m 78 5,ac 79 .and 78 (u 15),o 80 (.cvi .i32 (t 79)),o 81 (.sh .shl (t 80) (.c (.int .u64 12))),m 82
 10,ac 83 .and 82 (u 63),o 84 (.cvi .i32 (t 83)),o 85 (.sh .shl (t 84) (.c (.int .u64 6))),ar 86 .or 81 85,m 87 11,ac 88 .and 87 (u 63),o 89 (.cvi .i32 (t 88)),ar 90 .or 86
 89,m 2 90,mc 3 (i 3)]) (Y [2,3])) R) X)) (Q (O [m 91 0,o 92 (.ZX (t 91) (i 3)),m 12 92]) (Q (Q (Q (O [m 93 12,ac 94 .lss 93 (u 128),m 95 94,h 96 95 (.mv (t 12)),h 97 95
 (.ar .lss (u 191) (t 96)),pt 98 95 97]) (Y [5,10,11,12,98])) (C 98 (Q (O [mc 2 (.c (.int .i32 65533)),mc 3 (i 1)]) R) X)) (Q (Q (O [m 99 5,ac 100 .and 99 (u 7),o 101 (.cvi
 .i32 (t 100)),o 102 (.sh .shl (t 101) (.c (.int .u64 18))),m 103 10,ac 104 .and 103 (u 63),o 105 (.cvi .i32 (t 104)),o 106 (.sh .shl (t 105) (.c (.int .u64 12))),ar 107 .or
 102 106,m 108 11,ac 109 .and 108 (u 63),o 110 (.cvi .i32 (t 109)),o 111 (.sh .shl (t 110) (.c (.int .u64 6))),ar 112 .or 107 111,m 113 12,ac 114 .and 113 (u 63),o 115 (.cvi
 .i32 (t 114)),ar 116 .or 112 115,m 2 116,mc 3 (i 4)]) (Y [2,3])) R))))))))))))))))))
def jV:Zj:=⟨qJ,117,[.t 2,.t 3],.drop,[],none⟩
def iP:AC:=
 (Q (O [mc 4 (i 0)]) (Q (Q (O [m 5 0,m 6 1,k2 7 dw 5 6,m 4 7]) (Y [4])) R))
def fg:Zj:=⟨iP,8,[.t 4],.drop,[],none⟩
theorem tl:qf fg [.t 4] .drop:=⟨rfl,rfl,rfl⟩
def wH:AC:=
 (Q (O [mc 2 (i 0)]) (Q (Q (O [m 3 0,ac 4 .add 3 (i 16),ac 5 .quo 4 (i 8),m 2 5]) (Y [2])) R))
def qm:Zj:=⟨wH,6,[.t 2],.drop,[],none⟩
def nS:AC:=
 (Q (Q (O [m 18 9,m 19 7,bl 20 18 19]) (C 20 X (.exit 0))) (Q (.block 1 (Q (O [m 23 8,o 24 (.ar .mul (t 23) (.c (.int .u32 16777619))),m 25 0,m 26 9,o 27 (.ZX (t 25) (t 26)),
 o 28 (.cvi .u32 (t 27)),ar 29 .add 24 28,m 8 29]) (Y [0,1,5,6,7,8,9]))) (ic 21 9 22)))
def nT:AC:=
 (Q (Q (Q (O [m 41 10,m 42 0,lt 43 42,bl 44 41 43]) (Y [0,1,5,6,7,8,10,44])) (C 44 X (.exit 2))) (.block 3 (Q (O [m 45 8,o 46 (.ar .mul (t 45) (.c (.int .u32 16777619))),
 m 8 46]) (Q (Q (O [m 47 8,m 48 0,m 49 10,o 50 (.ZX (t 48) (t 49)),o 51 (.cvi .u32 (t 50)),ar 52 .add 47 51,m 8 52]) (Y [0,1,5,6,7,8,10])) (Q (Q (O [m 53 8,m 54 6,m 55
 0,m 56 10,m 57 7,ar 58 .sub 56 57,o 59 (.ZX (t 55) (t 58)),o 60 (.cvi .u32 (t 59)),ar 61 .mul 54 60,ar 62 .sub 53 61,m 8 62]) (Y [0,1,5,6,7,8,10])) (Q (ic 63 10 64)
 (Q (Q (O [m 65 8,m 66 5,ar 67 .eql 65 66,m 68 67,g 69 68 (.mv (t 0)),g 70 68 (.mv (t 10)),g 71 68 (.mv (t 7)),g 72 68 (.ar .sub (t 70) (t 71)),g 73 68 (.mv (t 10)),g 74 68
 (.sls (t 69) (some (t 72)) (some (t 73))),g 75 68 (.mv (t 1)),g 76 68 (.ar .eql (t 74) (t 75)),pf 77 68 76]) (Y [0,1,5,6,7,8,10,77])) (C 77 (Q (Q (O [m 78 10,m 79 7,ar
 80 .sub 78 79,m 4 80]) (Y [4])) R) X))))))))
def pz:AC:=
 (Q (O [mc 4 (i 0)]) (Q (Q (O [m 12 1,k1 13 sD 12,m 11 13,ex 14 11 0,ex 15 11 1,m 5 14,m 6 15]) (Y [0,1,5,6])) (Q (O [m 16 1,lt 17 16,m 7
 17]) (Q (O [mc 8 (.c (.int .u32 0))]) (Q (Q (O [mc 9 (i 0)]) (Q (.block 0 (lo [0,1,5,6,7,8,9] nS)) (Y [0,1,5,6,7,8]))) (Q (Q (Q (O
 [m 30 8,m 31 5,ar 32 .eql 30 31,m 33 32,g 34 33 (.mv (t 0)),g 35 33 (.mv (t 7)),g 36 33 (.sls (t 34) none (some (t 35))),g 37 33 (.mv (t 1)),g 38 33 (.ar .eql (t 36) (t
 37)),pf 39 33 38]) (Y [0,1,5,6,7,8,39])) (C 39 (rt 4 (i 0)) X)) (Q (Q (O [m 40 7,m 10 40]) (Q (.block 2 (lo [0,1,5,6,7,8,10]
 nT)) (Y []))) (rt 4 (i (-1))))))))))
def jk:Zj:=⟨pz,81,[.t 4],.drop,[],none⟩
def kU:AC:=
 (Q (O [mc 4 (s []),mc 5 (s []),mc 6 F]) (Q (Q (Q (O [m 8 0,m 9 1,k2 10 eF 8 9,m 7 10]) (Y [0,1,7])) (Q (O [m 11 7,ac 12 .geq 11 (i 0)]) (C 12 (Q (Q
 (D [Pm 13 0,Pm 14 7,P (o 15 (.sls (t 13) none (some (t 14)))),Pm 16 0,Pm 17 7,Pm 18 1,W (lt 19 18),P (ar 20 .add 17 19),P (o 21 (.sls (t 16) (some (t 20)) none)),Pm 4 15,
 Pm 5 21,P (mc 6 T)]) (Y [4,5,6])) R) X))) (Q (Q (O [m 22 0,m 4 22,mc 5 (s []),mc 6 F]) (Y [4,5,6])) R)))
def iQ:Zj:=⟨kU,23,[.t 4,.t 5,.t 6],.drop,[],none⟩
theorem wI:qf iQ [.t 4,.t 5,.t 6] .drop:=⟨rfl,rfl,rfl⟩
def rB:AC:=
 (Q (Q (Q (O [m 9 5,m 10 0,lt 11 10,bl 12 9 11]) (Y [0,4,5,12])) (C 12 X (.exit 0))) (Q (.block 1 (Q (O [m 15 4,o 16 (.ar .mul (t 15) (.c (.int .u32 16777619))),m 17 0,m 18
 5,o 19 (.ZX (t 17) (t 18)),o 20 (.cvi .u32 (t 19)),ar 21 .add 16 20,m 4 21]) (Y [0,4,5]))) (ic 13 5 14)))
def rC:AC:=
 (Q (Q (O [m 24 8,ac 25 .gtr 24 (i 0)]) (C 25 X (.exit 2))) (Q (.block 3 (Q (Q (O [m 28 8,ac 29 .and 28 (i 1),ac 30 .neq 29 (i 0)]) (C 30 (Q (O [m 31 6,m 32 7,ar 33 .mul 31 32,
 m 6 33]) (Y [4,6,7,8])) X)) (Q (O [m 34 7,m 35 7,ar 36 .mul 34 35,m 7 36]) (Y [4,6,7,8])))) (O [m 26 8,o 27 (.sh .shr (t 26) (.c (.int .u64 1))),m 8 27])))
def sF:AC:=
 (Q (O [mc 2 (.c (.int .u32 0)),mc 3 (.c (.int .u32 0))]) (Q (O [mc 4 (.c (.int .u32 0))]) (Q (Q (O [mc 5 (i 0)]) (Q (.block 0 (lo [0,4,5] rB)) (Y
 [0,4]))) (Q (O [mc 6 (.c (.int .u32 1)),mc 7 (.c (.int .u32 16777619))]) (Q (Q (O [m 22 0,lt 23 22,m 8 23]) (Q (.block 2 (lo [4,6,7,8] rC))
 (Y [4,6]))) (Q (Q (O [m 37 4,m 38 6,m 2 37,m 3 38]) (Y [2,3])) R))))))
def lF:Zj:=⟨sF,39,[.t 2,.t 3],.drop,[],none⟩
end
section
open Sh
def zW:AC:=
 (Q (O [mc 0 F]) (Q (O [k 7 (f js) [(s [118,111,119,101,108,115,32,97,101,105,111,117,10,116,114,97,105,116,32,110,117,109,32,115,103,32,112,
 108,10,99,108,97,115,115,32,110,111,117,110,10,115,108,111,116,32,48,32,45,32,45,32,110,117,109,61,115,103,10,115,108,111,116,32,48,32,45,32,
 115,32,110,117,109,61,112,108,10,99,108,97,115,115,32,118,101,114,98,10,115,108,111,116,32,48,32,45,32,45,10,115,108,111,116,32,48,32,45,32,
 101,100,10,101,110,116,114,121,32,99,105,116,121,32,110,111,117,110,10,101,110,116,114,121,32,99,97,114,32,110,111,117,110,10,101,110,116,114,
 121,32,98,117,115,32,110,111,117,110,10,102,111,114,109,32,49,32,98,117,115,101,115,10,101,110,116,114,121,32,112,108,97,110,32,118,101,114,98,
 10,115,112,101,108,108,32,121,43,32,105,43,101,32,67,32,115,10,115,112,101,108,108,32,110,43,32,110,110,43,32,86,32,101,100,10,108,105,110,
 107,32,110,111,117,110,32,45,32,110,117,109,61,115,103,10])],m 6 7,ex 8 6 0,ex 9 6 1,ex 10 6 2,o 1 (.nw [(.str []),(.slice .nil 2 []),(.slice .nil 2 []),
 (.slice .nil 4 []),(.slice .nil 4 []),(.slice .nil 3 [])] ab),n (.st 6 (t 1) (t 8)),m 2 9,m 3 10]) (Q (O [la 12 6 1,k 13 (f LO) [(t 12),(i 0),(i 1)],m
 11 13,ex 14 11 0,ex 15 11 1,m 4 14,m 5 15]) (Q (O [m 16 3,ac 17 .eql 16 (u 0),m 18 17,g 19 18 (.mv (t 5)),g 20 18 (.ar .eql (t 19) (u 0)),pf 21 18 20,m 22 21,g 23 22 (.mv
 (t 4)),g 24 22 (.ar .eql (t 23) (s [99,105,116,105,101,115])),pf 25 22 24,m 0 25]) R))))
def zX:Zj:=⟨zW,26,[.t 0],.Zn,[],none⟩
def E9:AC:=
 (Q (O [bl 31 30 29]) (Q (C 31 X (.exit 0)) (Q (.block 1 (Q (O [m 32 30,ia 33 1 28 30,ld 34 33,m 7 32,m 8 34]) (Q (Q (O [m 35 8,ac 36 .eql 35 (s []),m 37 36,h 38 37 (.mv (t
 8)),h 39 37 (.ZX (t 38) (i 0)),h 40 37 (.ar .eql (t 39) (u 59)),pt 41 37 40]) (C 41 (.exit 1) X)) (Q (O [m 42 8,k2 43 fY 6 42,no 44 43]) (C 44 (Q (O [o 45
 (.bd [(.str []),(.slice .nil 2 []),(.slice .nil 2 []),(.slice .nil 4 []),(.slice .nil 4 []),(.slice .nil 3 [])] [(0,1),(1,1),(2,1),(3,1),(4,1),(5,1)] []),m 46 7,ad
 47 46,n (.st 6 (t 2) (t 45)),m 3 47,mc 4 (u 4)]) R) X))))) (O [ad 48 30,m 30 48]))))
def IB:AC:=
 (Q (O [o 2 (.nw [(.str []),(.slice .nil 2 []),(.slice .nil 2 []),(.slice .nil 4 []),(.slice .nil 4 []),(.slice .nil 3 [])] ab),mc 3 (i 0),mc 4 (u 0)]) (Q (Q (O [m
 10 0,lt 11 10,ac 12 .gtr 11 (i 65536)]) (C 12 (Q (O [o 13 (.bd [(.str []),(.slice .nil 2 []),(.slice .nil 2 []),(.slice .nil 4 []),(.slice .nil 4 []),(.slice .nil 3 [])] [(0,
 1),(1,1),(2,1),(3,1),(4,1),(5,1)] []),n (.st 6 (t 2) (t 13)),mc 3 (i 0),mc 4 (u 3)]) R) X)) (Q (O [m 14 0,k 15 (f lJ) [(t 14),(s [10])],m 5 15]) (Q (Q
 (O [m 16 5,m 17 5,ls 18 17,ac 19 .sub 18 (i 1),ia 20 1 16 19,ld 21 20,ac 22 .eql 21 (s [])]) (C 22 (O [m 23 5,m 24 5,ls 25 24,ac 26 .sub 25 (i 1),o 27 (.sll 1 (t 23) none
 (some (t 26)) none),m 5 27]) X)) (Q (O [o 6 (.nw [(.str []),(.slice .nil 2 []),(.slice .nil 2 []),(.slice .nil 4 []),(.slice .nil 4 []),(.slice .nil 3 []),(.str []),(.int
 .i64 0)] da)]) (Q (Q (O [m 28 5,ls 29 28,mc 30 (i 0)]) (.block 0 (.loop ⟨none,[],false⟩ E9))) (Q (Q (O [fa 49 6 6,ld 50 49,ac 51 .eql 50 (s [])]) (C
 51 (Q (O [o 52 (.bd [(.str []),(.slice .nil 2 []),(.slice .nil 2 []),(.slice .nil 4 []),(.slice .nil 4 []),(.slice .nil 3 [])] [(0,1),(1,1),(2,1),(3,1),(4,1),(5,1)]
 []),n (.st 6 (t 2) (t 52)),mc 3 (i 0),mc 4 (u 4)]) R) X)) (Q (Q (O [fa 53 0 6,la 54 6 53,k1 55 ml 54,m 9 55]) (Q (O [m 56 9,ac 57 .neq 56 (u 0)]) (C 57 (Q (O [o 58
 (.bd [(.str []),(.slice .nil 2 []),(.slice .nil 2 []),(.slice .nil 4 []),(.slice .nil 4 []),(.slice .nil 3 [])] [(0,1),(1,1),(2,1),(3,1),(4,1),(5,1)] []),m 59 9,n
 (.st 6 (t 2) (t 58)),mc 3 (i 0),m 4 59]) R) X))) (Q (O [fa 60 0 6,la 61 6 60,n (.st 6 (t 2) (t 61)),mc 3 (i 0),mc 4 (u 0)]) R)))))))))
def IC:Zj:=⟨IB,62,[.cell 2 (some 6),.t 3,.t 4],.Zn,[],none⟩
def ID:Zj:=uk.k
def JH:AC:=
 (Q (O [o 3 (.bx ab (t 0)),mc 6 (s []),mc 7 (u 0)]) (Q (O [la 13 6 3,m 14 1,m 15 2,k 16 (f JB) [(t 13),(t 14),(t 15)],m 12 16,ex 17 12 0,ex 18 12 1,
 ex 19 12 2,o 8 (.nw [(.str []),(.slice .nil 2 []),(.slice .nil 2 []),(.slice .nil 4 []),(.slice .nil 4 []),(.slice .nil 3 [])] dZ),o 9 (.nw [(.int .i64 0),
 (.str []),(.str []),(.slice .nil 2 [])] bX),n (.st 6 (t 8) (t 17)),n (.st 4 (t 9) (t 18)),m 10 19]) (Q (Q (O [m 20 10,ac 21 .neq 20 (u 0)]) (C 21 (Q (O [m 22 10,mc 6
 (s []),m 7 22]) R) X)) (Q (O [la 23 6 8,m 24 1,m 25 2,k 26 (f AR) [(t 23),(t 24),(t 25)],m 11 26]) (Q (Q (O [m 27 11,ac 28 .eql 27 (s [])]) (C 28 (Q (O
 [mc 6 (s []),mc 7 (u 7)]) R) X)) (Q (O [m 29 11,m 6 29,mc 7 (u 0)]) R))))))
def JI:Zj:=⟨JH,30,[.t 6,.t 7],.Zn,[],none⟩
def Fa:Zj:=rS.k
def zY:AC:=
 (Q (O [bl 26 25 24]) (Q (C 26 X (.exit 0)) (Q (.block 1 (Q (O [ia 27 1 23 25,ld 28 27,m 9 28]) (O [m 29 9,ac 30 .neq 29 (s []),k1 31 c6 30]))) (O [ad 32 25,m 25
 32]))))
def BN:AC:=
 (Q (O [m 11 1,k 12 (f lJ) [(t 11),(s [32])],m 5 12]) (Q (D [W (k 14 (f ru) []),Pm 15 5,P (o 16 (.ias 1 (t 15) (i 0))),Wl 17 16,W (o 18 (.lk .str (some
 (.agg [(.int .i64 0),(.int .i64 0),(.bool false),.Zw])) true (t 14) (t 17))),Pm 13 18,P (ex 19 13 0),P (ex 20 13 1),K (o 6 (.nw [(.int .i64 0),(.int .i64 0),(.bool
 false),.Zw] ep)),E (n (.st 4 (t 6) (t 19))),Pm 7 20]) (Q (O [m 21 7,k1 22 c6 21]) (Q (Q (O [m 23 5,ls 24 23,mc 25 (i 0)]) (.block 0 (.loop ⟨none,[],
 false⟩ zY))) (Q (O [m 33 5,o 34 (.sll 1 (t 33) (some (i 1)) none none),m 5 34]) (Q (O [m 35 5,ls 36 35,fa 37 1 6,ld 38 37,ar 39 .geq 36 38,m 40 39,g 41
 40 (.fa 2 (t 6)),g 42 40 (.ld none (t 41)),g 43 40 (.mv (t 42)),h 44 43 (.mv (t 5)),h 45 43 (.len .sl (t 44)),h 46 43 (.fa 1 (t 6)),h 47 43 (.ld none (t 46)),h 48 43 (.ar
 .eql (t 45) (t 47)),g 49 40 (.pk (t 43) T (t 48)),pf 50 40 49,k1 51 c6 50]) (Q (D [Pm 52 0,P (o 53 (.nc (t 52))),Pf 54 6 53,Wl 55 54,P (ac 56 .eql 55 (s [])),Pf
 57 0 6,Wl 58 57,P (ac 59 .eql 58 (i 0)),P (o 60 (.eq false .bool (t 56) (t 59))),Pm 61 60,P (g 62 61 (.fa 0 (t 6))),W (g 63 61 (.ld none (t 62))),P (g 64 61 (.mv (t 0))),P
 (g 65 61 (.nc (t 64))),P (g 66 61 (.fa 7 (t 65))),W (g 67 61 (.ld none (t 66))),P (g 68 61 (.ar .geq (t 63) (t 67))),P (pf 69 61 68),E (k1 70 c6 69)]) (Q (O [fa 71
 3 6,ld 72 71,m 73 0,m 74 5,k 75 (t 72) [(t 73),(t 74)]]) (Q (.Z0 true [] [] [Pm 76 0,Pm 77 0,Pm 78 1,W (k 79 (f kF) [(t 78),(s [32]),(i 2)]),P (o 80 (.ias
 1 (t 79) (i 0))),Wl 81 80,Pf 82 0 6,Wl 83 82,P (o 84 (.nc (t 76))),Pf 85 6 84,K (n (.st 1 (t 85) (t 81))),P (o 86 (.nc (t 77))),Pf 87 7 86,K (n (.st 1 (t 87) (t 83)))]) (Q
 (O [n (.st 1 (t 4) T)]) R))))))))))
def BO:AC:=
 (O [o 4 (.nw [(.bool false)] el)])
def BP:Zj:=⟨BO,88,[.cell 4 none],.Zn,[],(some ([⟨(some 10),none,(.op (.mf (.func aq) [] [(.t 4)]))⟩],(.t 10),BN))⟩
def GH:Zj:=s6.k
def zZ:Zj:=ln.k
def w8:Zj:=jw.k
def IE:Zj:=oG.k
def yJ:Zj:=fL.k
def Fb:Zj:=rT.k
def yK:Zj:=eu.k
def z8:Zj:=gl.k
def Fc:Zj:=rU.k
def yL:Zj:=ew.k
def Aa:Zj:=lq.k
def Fe:Zj:=rV.k
def yM:Zj:=ey.k
def Ab:Zj:=gm.k
def Ff:Zj:=rW.k
def yN:Zj:=ez.k
def Ac:Zj:=lA.k
def Fg:Zj:=rX.k
def Ad:Zj:=eV.k
def AY:Zj:=lY.k
def IF:AC:=
 (Q (O [o 3 (.bx ab (t 0)),o 6 (.nw [(.str []),(.slice .nil 2 []),(.slice .nil 2 []),(.slice .nil 4 []),(.slice .nil 4 []),(.slice .nil 3 [])] dZ),o 7
 (.nw [(.int .i64 0),(.str []),(.str []),(.slice .nil 2 [])] bX),mc 8 (u 0)]) (Q (Q (O [la 13 6 3,k1 14 ml 13,m 9 14]) (Q (O [m 15 9,ac 16 .neq 15 (u 0)])
 (C 16 (Q (O [o 17 (.bd [(.str []),(.slice .nil 2 []),(.slice .nil 2 []),(.slice .nil 4 []),(.slice .nil 4 []),(.slice .nil 3 [])] [(0,6)] []),o 18 (.bd [(.int .i64 0),(.str
 []),(.str []),(.slice .nil 2 [])] [(0,1),(1,1),(2,1),(3,1)] []),m 19 9,n (.st 6 (t 6) (t 17)),n (.st 4 (t 7) (t 18)),m 8 19]) R) X))) (Q (O [la 20 6 3,o 21 (.bd [(.str
 []),(.slice .nil 2 []),(.slice .nil 2 []),(.slice .nil 4 []),(.slice .nil 4 []),(.slice .nil 3 [])] [(0,6)] [(0,(t 20))]),o 10 (.nw [(.str []),(.slice .nil 2 []),(.slice
 .nil 2 []),(.slice .nil 4 []),(.slice .nil 4 []),(.slice .nil 3 [])] dZ),n (.st 6 (t 10) (t 21))]) (Q (O [la 23 6 10,m 24 1,m 25 2,k 26 (f
 tR) [(t 23),(t 24),(t 25)],m 22 26,ex 27 22 0,ex 28 22 1,o 11 (.nw [(.int .i64 0),(.str []),(.str []),(.slice .nil 2 [])] bX),n (.st 4 (t 11) (t
 27)),m 12 28]) (Q (Q (O [m 29 12,no 30 29]) (C 30 (Q (O [o 31 (.bd [(.str []),(.slice .nil 2 []),(.slice .nil 2 []),(.slice .nil 4 []),(.slice .nil 4 []),(.slice .nil 3 [])]
 [(0,6)] []),o 32 (.bd [(.int .i64 0),(.str []),(.str []),(.slice .nil 2 [])] [(0,1),(1,1),(2,1),(3,1)] []),n (.st 6 (t 6) (t 31)),n (.st 4 (t 7) (t 32)),mc 8 (u 7)])
 R) X)) (Q (.Z0 true [] [] [W (la 33 6 10),W (la 34 4 11),K (n (.st 6 (t 6) (t 33))),K (n (.st 4 (t 7) (t 34))),P (mc 8 (u 0))]) R))))))
def IG:Zj:=⟨IF,35,[.cell 6 (some 6),.cell 7 (some 4),.t 8],.Zn,[],none⟩
def x4:AC:=
 (Q (O [bl 23 22 21]) (Q (C 23 X (.exit 0)) (Q (.block 1 (Q (O [ia 24 2 20 22,la 25 2 24,o 8 (.nw [(.int .i64 0),(.str [])] bk),n (.st 2 (t 8) (t 25))]) (Q (O [fa 26
 0 8,ld 27 26,m 28 2,ar 29 .eql 27 28]) (C 29 (Q (O [fa 30 1 8,ld 31 30,m 6 31]) R) X)))) (O [ad 32 22,m 22 32]))))
def Ae:AC:=
 (Q (O [o 3 (.bx dZ (t 0)),mc 6 (s [])]) (Q (Q (O [fa 14 0 3,fa 15 3 14,ld 16 15,m 17 1,ia 18 4 16 17,fa 19 3 18,ld 20 19,ls 21 20,mc 22 (i 0)]) (.block 0
 (.loop ⟨none,[],false⟩ x4))) (Q (O [la 34 6 3,m 35 1,m 36 2,k 37 (f tR) [(t 34),(t 35),(t 36)],m 33 37,ex 38 33 0,ex 39 33 1,o 9
 (.nw [(.int .i64 0),(.str []),(.str []),(.slice .nil 2 [])] bX),n (.st 4 (t 9) (t 38)),m 10 39]) (Q (O [la 41 6 3,m 42 1,la 43 4 9,k 44 (f zH)
 [(t 41),(t 42),(t 43)],m 40 44,ex 45 40 0,ex 46 40 1,m 11 45,m 12 46]) (Q (Q (O [m 47 12,no 48 47]) (C 48 (rt 6 (s [])) X)) (Q (O [m 49 11,m 50 11,ls 51 50,ac 52 .sub 51
 (i 1),ia 53 1 49 52,ld 54 53,k 55 (f BG) [(t 54),(s [43]),(s [])],m 13 55]) (Q (Q (O [m 56 13,lt 57 56,ac 58 .gtr 57 (i 24)]) (C 58 (rt 6 (s [])) X)) (Q (O
 [m 59 13,m 6 59]) R))))))))
def Af:Zj:=⟨Ae,60,[.t 6],.Zn,[],none⟩
def AZ:AC:=
 (Q (Q (O [m 34 10,m 35 3,bl 36 34 35]) (C 36 X (.exit 0))) (.block 1 (Q (O [m 37 0,m 38 1,k2 39 lM 37 38,m 11 39]) (Q (Q (O [m 40 11,ac 41 .lss 40 (i 0)]) (C 41
 (.exit 0) X)) (Q (O [m 42 9,m 43 10,m 44 0,m 45 11,m 46 2,ar 47 .add 45 46,o 48 (.sls (t 44) none (some (t 47))),ia 49 1 42 43,n (.st 1 (t 49) (t 48))]) (Q (O [m 50 0,m 51
 11,m 52 1,lt 53 52,ar 54 .add 51 53,o 55 (.sls (t 50) (some (t 54)) none),m 0 55]) (ic 56 10 57)))))))
def Ct:AC:=
 (Q (O [mc 8 (.c (.slice .nil 1 []))]) (Q (Q (O [m 12 3,ac 13 .eql 12 (i 0)]) (C 13 (Q (O [mc 8 (.c (.slice .nil 1 []))]) R) X)) (Q (Q (O [m 14 1,ac 15 .eql 14 (s [])]) (C 15 (Q (O
 [m 16 0,m 17 3,k2 18 xw 16 17,m 8 18]) R) X)) (Q (Q (O [m 19 3,ac 20 .lss 19 (i 0)]) (C 20 (O [m 21 0,m 22 1,k2 23 lL 21 22,ad 24 23,m 3 24]) X))
 (Q (O [m 25 3,m 26 0,lt 27 26,ad 28 27,o 29 (.mn (t 25) (t 28)),m 3 29]) (Q (O [m 30 3,o 31 (.ms aI 16 [(.str [])] (t 30) (t 30)),m 9 31]) (Q (O [m 32 3,ac 33 .sub 32
 (i 1),m 3 33]) (Q (O [mc 10 (i 0)]) (Q (.block 0 (.loop ⟨none,[],false⟩ AZ)) (Q (O [m 58 9,m 59 10,m 60 0,ia 61 1 58 59,n (.st 1 (t 61) (t 60))]) (Q (O [m
 62 9,m 63 10,ad 64 63,o 65 (.sll 1 (t 62) none (some (t 64)) none),m 8 65]) R)))))))))))
def Cu:Zj:=⟨Ct,66,[.t 8],.Zn,[],none⟩
def yO:AC:=
 (.block 0 (Q (O [o 6 (.eq false (.ifc true) (t 4) (.c .Zr))]) (C 6 (O [m 1 4]) (Q (O [o 7 (.ta dN (some (.agg [])) true (t 4)),ex 8 7 1,ex 9 7 0]) (C 8 (Q (O [o 2
 (.nw [] dN),n (.st 0 (t 2) (t 9))]) (O [n (.st 1 (t 0) F)])) (Q (O [m 3 4]) (O [m 5 3,⟨none,none,(.panic (.t 5))⟩])))))))
def sB:Zj:=⟨yO,10,[],.Zn,[],none⟩
def II:Zj:=um.k
def GI:Zj:=s7.k
def Em:Zj:=qH.k
def ua:Zj:=gg.k
def vv:Zj:=ij.k
def x5:Zj:=jO.k
def GJ:Zj:=iL.k
def JJ:Zj:=kq.k
def nV:Zj:=cr.k
def x6:Zj:=jP.k
def tp:Zj:=fv.k
def nW:Zj:=ct.k
def x7:Zj:=jQ.k
def Ag:Zj:=eW.k
def x8:Zj:=jR.k
def IJ:Zj:=uo.k
def yP:Zj:=kr.k
def Fh:Zj:=rY.k
def IK:Zj:=oH.k
def nX:Zj:=cu.k
def ya:Zj:=jS.k
def pA:Zj:=cJ.k
def yb:Zj:=jT.k
def IL:Zj:=uq.k
def kV:Zj:=bP.k
def yc:Zj:=jU.k
def GK:Zj:=s9.k
def GL:Zj:=tc.k
def Ah:AC:=
 (Q (O [o 3 (.bx dZ (t 0)),o 6 (.nw [(.int .i64 0),(.str []),(.str []),(.slice .nil 2 [])] bX),mc 7 F]) (Q (Q (O [m 10 1,ac 11 .lss 10 (i 0),m 12 11,h
 13 12 (.mv (t 1)),h 14 12 (.fa 0 (t 3)),h 15 12 (.fa 3 (t 14)),h 16 12 (.ld none (t 15)),h 17 12 (.len .sl (t 16)),h 18 12 (.ar .geq (t 13) (t 17)),pt 19 12 18]) (C 19 (Q (O
 [o 20 (.bd [(.int .i64 0),(.str []),(.str []),(.slice .nil 2 [])] [(0,1),(1,1),(2,1),(3,1)] []),n (.st 4 (t 6) (t 20)),mc 7 F]) R) X)) (Q (D [Pf 22 0 3,W (la 23 6 22),
 Pf 24 0 3,Pf 25 3 24,Wl 26 25,Pm 27 1,P (ia 28 4 26 27),Pf 29 1 28,Wl 30 29,W (k2 31 lK 23 30),Pm 21 31,P (ex 32 21 0),P (ex 33 21 1),K (o 8 (.nw [(.str []),
 (.slice .nil 4 [])] aJ)),E (n (.st 2 (t 8) (t 32))),Pm 9 33]) (Q (Q (O [m 34 2,ac 35 .lss 34 (i 0),m 36 35,h 37 36 (.mv (t 2)),h 38 36 (.fa 1 (t 8)),h 39 36 (.ld
 none (t 38)),h 40 36 (.len .sl (t 39)),h 41 36 (.ar .geq (t 37) (t 40)),pt 42 36 41]) (C 42 (Q (O [o 43 (.bd [(.int .i64 0),(.str []),(.str []),(.slice .nil 2 [])] [(0,1),
 (1,1),(2,1),(3,1)] []),n (.st 4 (t 6) (t 43)),mc 7 F]) R) X)) (Q (O [fa 44 1 8,ld 45 44,m 46 2,ia 47 4 45 46,la 48 4 47,n (.st 4 (t 6) (t 48)),mc 7 T]) R)))))
def Ai:Zj:=⟨Ah,49,[.cell 6 (some 4),.t 7],.Zn,[],none⟩
def w9:AC:=
 (Q (O [bl 29 28 27]) (Q (C 29 X (.exit 0)) (Q (.block 1 (Q (O [ia 30 4 26 28,la 31 4 30,o 12 (.nw [(.str []),(.str []),(.str []),(.str [])] di),n (.st 4 (t 12) (t
 31))]) (Q (Q (O [la 33 6 3,la 34 4 12,m 35 8,k 36 (f zJ) [(t 33),(t 34),(t 35)],m 32 36,ex 37 32 0,ex 38 32 1,m 8 37,m 9 38]) (Q (O [m 39 9,no 40 39])
 (C 40 (Q (O [mc 6 (.c (.slice .nil 1 [])),mc 7 F]) R) X))) (O [m 41 10,m 42 8,o 43 (.bs 1 [(.str [])] 1 [(0,(t 42))]),o 44 (.ap false aI 1 16 false (t 41) (t 43)),m 10
 44])))) (O [ad 45 28,m 28 45]))))
def yQ:AC:=
 (Q (O [o 3 (.bx dZ (t 0)),o 5 (.bx bX (t 2)),mc 6 (.c (.slice .nil 1 [])),mc 7 F]) (Q (O [la 14 6 3,m 15 1,la 16 4 5,k 17 (f vO)
 [(t 14),(t 15),(t 16)],m 13 17,ex 18 13 0,ex 19 13 1,m 8 18,m 9 19]) (Q (Q (O [m 20 9,no 21 20]) (C 21 (Q (O [mc 6 (.c (.slice .nil 1 [])),mc 7 F]) R) X)) (Q (O [m 22 8,o
 23 (.bs 1 [(.str [])] 1 [(0,(t 22))]),m 10 23]) (Q (Q (O [fa 24 0 3,fa 25 4 24,ld 26 25,ls 27 26,mc 28 (i 0)]) (.block 0 (.loop ⟨none,[],false⟩ w9)))
 (Q (O [m 46 10,m 6 46,mc 7 T]) R))))))
def yR:Zj:=⟨yQ,47,[.t 6,.t 7],.Zn,[],none⟩
def A1:AC:=
 (Q (O [mc 6 (s [])]) (Q (O [m 7 0,m 8 1,m 9 2,k 10 (f Ed) [(t 7),(t 8),(t 9),(i (-1))],m 6 10]) R))
def A3:Zj:=⟨A1,11,[.t 6],.Zn,[],none⟩
def C6:Zj:=xy.k
def Fi:Zj:=rZ.k
def Fj:Zj:=r7.k
def Fk:Zj:=r8.k
def JK:Zj:=vT.k
def Fl:Zj:=r9.k
def Fm:Zj:=sa.k
def Fp:AC:=
 (Q (O [m 5 0,o 6 (.nc (t 5)),fa 7 6 6,ld 8 7,ac 9 .eql 8 (s [99,108,97,115,115]),m 10 9,h 11 10 (.mv (t 0)),h 12 10 (.nc (t 11)),h 13 10 (.fa 6 (t 12)),h 14 10 (.ld
 none (t 13)),h 15 10 (.ar .eql (t 14) (s [115,108,111,116])),pt 16 10 15,k1 17 c6 16]) (Q (D [Pm 18 0,P (o 19 (.nc (t 18))),Pf 20 0 19,Pf 21 2 20,Wl 22 21,Pm
 23 0,P (o 24 (.nc (t 23))),Pf 25 0 24,Pf 26 2 25,Wl 27 26,W (ls 28 27),P (ac 29 .sub 28 (i 1)),P (ia 30 2 22 29),Pm 4 30]) (D [Pm 31 4,Pm 32 4,P (o 33 (.nc (t 32))),Pf 34
 1 33,Wl 35 34,Pm 36 1,P (o 37 (.ias 1 (t 36) (i 0))),Wl 38 37,Pm 40 1,P (o 41 (.ias 1 (t 40) (i 1))),Wl 42 41,Pm 44 1,P (o 45 (.ias 1 (t 44) (i 2))),Wl 46 45,Pm 48 1,P
 (o 49 (.sll 1 (t 48) (some (i 3)) none none)),K (k1 39 mK 38),K (k1 43 ek 42),K (k1 47 ek 46),K (k1 50 kB 49),P (o 51 (.bd [(.int
 .i64 0),(.str []),(.str []),(.slice .nil 2 [])] [(0,1),(1,1),(2,1),(3,1)] [(0,(t 39)),(1,(t 43)),(2,(t 47)),(3,(t 50))])),P (o 52 (.bs 4 [(.int .i64 0),(.str []),
 (.str []),(.slice .nil 0 [])] 1 [(0,(t 51))])),E (o 53 (.ap false bX 4 64 false (t 35) (t 52))),P (o 54 (.nc (t 31))),Pf 55 1 54,E (n (.st 1 (t 55) (t 53)))])))
def Fq:Zj:=⟨Fp,56,[],.Zn,[],none⟩
def GM:Zj:=td.k
def IM:Zj:=oI.k
def Fs:AC:=
 (D [Pm 4 0,Pm 5 0,P (o 6 (.nc (t 5))),Pf 7 0 6,Pf 8 3 7,Wl 9 8,Pm 10 1,P (o 11 (.ias 1 (t 10) (i 0))),Wl 12 11,Pm 13 1,P (o 14 (.ias 1 (t 13) (i 1))),Wl 15 14,Pm 16 1,P
 (o 17 (.sll 1 (t 16) (some (i 2)) none none)),K (k1 18 kB 17),P (o 19 (.bd [(.str []),(.str []),(.slice .nil 2 []),(.slice .nil 2 [])] [(0,1),(1,1),(2,1),(3,
 1)] [(0,(t 12)),(1,(t 15)),(2,(t 18))])),P (o 20 (.bs 4 [(.str []),(.str []),(.slice .nil 0 []),(.slice .nil 0 [])] 1 [(0,(t 19))])),E (o 21 (.ap true aD 4 80
 false (t 9) (t 20))),P (o 22 (.nc (t 4))),Pf 23 0 22,Pf 24 3 23,E (n (.st 1 (t 24) (t 21)))])
def Ft:Zj:=⟨Fs,25,[],.Zn,[0],none⟩
def Fu:AC:=
 (Q (O [m 5 0,o 6 (.nc (t 5)),fa 7 6 6,ld 8 7,ac 9 .eql 8 (s [101,110,116,114,121]),m 10 9,h 11 10 (.mv (t 0)),h 12 10 (.nc (t 11)),h 13 10 (.fa 6 (t 12)),h 14 10 (.ld
 none (t 13)),h 15 10 (.ar .eql (t 14) (s [102,111,114,109])),pt 16 10 15,k1 17 c6 16]) (Q (D [Pm 18 0,P (o 19 (.nc (t 18))),Pf 20 0 19,Pf 21 3 20,Wl 22 21,Pm
 23 0,P (o 24 (.nc (t 23))),Pf 25 0 24,Pf 26 3 25,Wl 27 26,W (ls 28 27),P (ac 29 .sub 28 (i 1)),P (ia 30 4 22 29),Pm 4 30]) (D [Pm 31 4,Pm 32 4,P (o 33 (.nc (t 32))),Pf 34
 3 33,Wl 35 34,Pm 36 1,P (o 37 (.ias 1 (t 36) (i 0))),Wl 38 37,Pm 40 1,P (o 41 (.ias 1 (t 40) (i 1))),Wl 42 41,K (k1 39 mK 38),K (k1 43 ek 42),P (o 44
 (.bd [(.int .i64 0),(.str [])] [(0,1),(1,1)] [(0,(t 39)),(1,(t 43))])),P (o 45 (.bs 2 [(.int .i64 0),(.str [])] 1 [(0,(t 44))])),E (o 46 (.ap false bk 2 24
 false (t 35) (t 45))),P (o 47 (.nc (t 31))),Pf 48 3 47,E (n (.st 1 (t 48) (t 46)))])))
def Fv:Zj:=⟨Fu,49,[],.Zn,[],none⟩
def Fw:Zj:=sb.k
def Fx:AC:=
 (D [Pm 4 0,Pm 5 0,P (o 6 (.nc (t 5))),Pf 7 0 6,Pf 8 5 7,Wl 9 8,Pm 10 1,P (o 11 (.ias 1 (t 10) (i 0))),Wl 12 11,Pm 13 1,P (o 14 (.ias 1 (t 13) (i 1))),Wl 15 14,K (k1 16
 ek 15),Pm 17 1,P (o 18 (.sll 1 (t 17) (some (i 2)) none none)),K (k1 19 kB 18),P (o 20 (.bd [(.str []),(.str []),(.slice .nil 2 [])] [(0,1),(1,1),(2,
 1)] [(0,(t 12)),(1,(t 16)),(2,(t 19))])),P (o 21 (.bs 3 [(.str []),(.str []),(.slice .nil 0 [])] 1 [(0,(t 20))])),E (o 22 (.ap false eo 3 56 false (t 9) (t 21))),
 P (o 23 (.nc (t 4))),Pf 24 0 23,Pf 25 5 24,E (n (.st 1 (t 25) (t 22)))])
def Fy:Zj:=⟨Fx,26,[],.Zn,[],none⟩
def vw:Zj:=ik.k
def yS:Zj:=ks.k
def uD:AC:=
 (Q (O [mc 4 (s [])]) (Q (Q (O [m 10 1,ac 11 .eql 10 (i 10)]) (C 11 (Q (Q (O [m 12 0,o 13 (.ar .leq (i 0) (t 12)),m 14 13,g 15 14 (.mv (t 0)),g 16 14 (.ar .lss (t 15) (i 100)),
 pf 17 14 16]) (C 17 (Q (O [m 18 0,k1 19 xP 18,m 4 19]) R) X)) (Q (O [o 5 (.nw [(.int .u8 0),(.int .u8 0),(.int .u8 0),(.int .u8 0),(.int .u8 0),(.int
 .u8 0),(.int .u8 0),(.int .u8 0),(.int .u8 0),(.int .u8 0),(.int .u8 0),(.int .u8 0),(.int .u8 0),(.int .u8 0),(.int .u8 0),(.int .u8 0),(.int .u8 0),(.int .u8 0),(.int
 .u8 0),(.int .u8 0),(.int .u8 0),(.int .u8 0),(.int .u8 0),(.int .u8 0)] OC)]) (Q (O [m 20 0,o 21 (.cvi .u64 (t 20)),m 6 21]) (Q (Q (O [m 22 0,ac 23 .lss 22 (i 0)])
 (C 23 (O [m 24 6,o 25 (.un .neg (t 24)),m 6 25]) X)) (Q (O [m 26 6,k1 27 u6 26,m 7 27]) (Q (O [m 28 7,o 29 (.ar .add (i 1) (t 28)),o 30 (.sla 24 1 (t
 5) (some (i 1)) (some (t 29))),m 31 6,k2 32 tJ 30 31]) (Q (Q (O [m 33 0,ac 34 .lss 33 (i 0)]) (C 34 (Q (O [o 35 (.iaa 24 1 (t 5) (i 0)),n (.st 1 (t
 35) (u 45))]) (Q (O [m 36 7,o 37 (.ar .add (i 1) (t 36)),o 38 (.sla 24 1 (t 5) none (some (t 37))),o 39 (.adh (t 38)),m 4 39]) R)) X)) (Q (O [m 40 7,o 41 (.ar .add (i 1) (t
 40)),o 42 (.sla 24 1 (t 5) (some (i 1)) (some (t 41))),o 43 (.adh (t 42)),m 4 43]) R)))))))) X)) (Q (O [m 45 0,o 46 (.cvi .u64 (t 45)),m 47 1,m 48 0,ac 49 .lss 48 (i 0),k
 50 (f uA) [(.c (.slice .nil 1 [])),(t 46),(t 47),(t 49),F],m 44 50,ex 51 44 0,ex 52 44 1,m 8 51,m 9 52]) (Q (O [m 53 9,m 4 53]) R))))
def uE:Zj:=⟨uD,54,[.t 4],.Zn,[],none⟩
def GN:Zj:=jG.k
def LR:Zj:=fA.k
def GO:Zj:=kR.k
def pP:Zj:=bz.k
def uF:Zj:=dI.k
def pQ:Zj:=bA.k
def Aj:Zj:=eX.k
def xa:Zj:=jx.k
def vU:Zj:=iN.k
def C7:Zj:=pI.k
def JL:Zj:=qI.k
def pR:Zj:=bB.k
def qL:Zj:=bF.k
def pB:Zj:=cK.k
def FA:Zj:=sd.k
def C8:Zj:=pJ.k
def l7:Zj:=aU.k
def vx:AC:=
 (Q (O [o 3 (.bx dZ (t 0)),o 5 (.bx bX (t 2)),mc 6 (s []),mc 7 F]) (Q (O [fa 10 0 3,fa 11 3 10,ld 12 11,m 13 1,ia 14 4 12 13,fa 15 0 14,ld 16 15,m 8
 16]) (Q (Q (O [m 17 8,lt 18 17,fa 19 0 5,ld 20 19,bl 21 18 20]) (C 21 (Q (O [mc 6 (s []),mc 7 F]) R) X)) (Q (O [m 22 8,m 23 8,lt 24 23,fa 25 0 5,ld 26 25,ar 27 .sub 24 26,
 o 28 (.sls (t 22) none (some (t 27))),m 9 28]) (Q (Q (O [fa 29 1 5,ld 30 29,ac 31 .neq 30 (s [])]) (C 31 (O [fa 32 1 5,ld 33 32,ac 34 .add 33 (s [43]),m 35 9,ar 36 .add 34
 35,m 9 36]) X)) (Q (Q (O [fa 37 2 5,ld 38 37,ac 39 .neq 38 (s [])]) (C 39 (O [m 40 9,fa 41 2 5,ld 42 41,o 43 (.ar .add (s [43]) (t 42)),ar 44 .add 40 43,m 9 44]) X)) (Q (O
 [m 45 9,m 6 45,mc 7 T]) R)))))))
def vy:Zj:=⟨vx,46,[.t 6,.t 7],.Zn,[],none⟩
def xb:AC:=
 (Q (Q (O [m 10 9,m 11 2,lt 12 11,bl 13 10 12]) (C 13 X (.exit 0))) (.block 1 (Q (D [Pm 14 2,Pm 15 9,P (o 16 (.sls (t 14) (some (t 15)) none)),Pf 17 0 4,Wl 18 17,E (k2 19
 Cp 16 18),Pm 20 19,W (g 21 20 (.ld (some 6) (t 3))),P (g 22 20 (.fa 2 (t 4))),W (g 23 20 (.ld none (t 22))),P (g 24 20 (.mv (t 2))),P (g 25 20 (.mv (t 9))),E
 (⟨(some 26),(some (20,true)),(.call (.c (.fn (.func AS) [] [])) [(.t 21),(.t 23),(.t 24),(.t 25)])⟩),P (pf 27 20 26),Pm 28 27,W (g 29 28 (.ld (some 6) (t
 3))),P (g 30 28 (.fa 3 (t 4))),W (g 31 28 (.ld none (t 30))),P (g 32 28 (.mv (t 2))),P (g 33 28 (.mv (t 9))),P (g 34 28 (.fa 0 (t 4))),W (g 35 28 (.ld none (t 34))),W (g 36
 28 (.len .str (t 35))),P (g 37 28 (.ar .add (t 33) (t 36))),E (⟨(some 38),(some (28,true)),(.call (.c (.fn (.func zK) [] [])) [(.t 29),(.t 31),(.t 32),
 (.t 37)])⟩),P (pf 39 28 38)]) (C 39 (Q (O [fa 40 1 4,ld 41 40,k2 42 aQ 8 41]) (O [m 43 9,fa 44 0 4,ld 45 44,lt 46 45,ar 47 .add 43 46,m 9 47])) (Q
 (O [m 48 2,m 49 9,o 50 (.ZX (t 48) (t 49)),k2 51 eZ 8 50]) (ic 52 9 53))))))
def yT:AC:=
 (Q (O [o 3 (.bx dZ (t 0)),o 4 (.bx di (t 1)),mc 6 (s []),mc 7 F]) (Q (O [o 8 (.nwb [.ZB,(.slice .nil 1 [])] cT 1 cq)]) (Q (Q (O [mc
 9 (i 0)]) (.block 0 (.loop ⟨none,[],false⟩ xb))) (Q (O [k1 54 eM 8,k1 55 kZ 8,ac 56 .leq 55 (i 512),m 6 54,m 7
 56]) R))))
def yU:Zj:=⟨yT,57,[.t 6,.t 7],.Zn,[],none⟩
def BQ:AC:=
 (Q (O [bl 54 53 52]) (Q (C 54 X (.exit 0)) (Q (.block 1 (Q (O [m 55 11,m 56 0,m 57 11,o 58 (.sls (t 56) (some (t 57)) none),m 59 1,k2 60 lM 58 59,ar 61 .add 55
 60,m 12 61]) (Q (O [m 62 0,m 63 11,m 64 12,o 65 (.sls (t 62) (some (t 63)) (some (t 64))),k2 66 aQ 10 65]) (Q (O [m 67 2,k2 68
 aQ 10 67]) (O [m 69 12,m 70 1,lt 71 70,ar 72 .add 69 71,m 11 72]))))) (O [ad 73 53,m 53 73]))))
def BR:AC:=
 (Q (O [bl 79 78 77]) (Q (C 79 X (.exit 2)) (Q (.block 3 (Q (O [m 81 0,m 82 11,o 83 (.sls (t 81) (some (t 82)) none),k1 84 lD 83,m 80 84,ex 85 80
 0,ex 86 80 1,m 13 85,m 14 86]) (Q (O [m 87 11,m 88 14,ar 89 .add 87 88,m 15 89]) (Q (O [m 90 0,m 91 11,m 92 15,o 93 (.sls (t 90) (some (t 91)) (some (t 92))),k2 94
 aQ 10 93]) (Q (O [m 95 2,k2 96 aQ 10 95]) (O [m 97 15,m 11 97])))))) (O [ad 98 78,m 78 98]))))
def C9:AC:=
 (Q (O [mc 8 (s [])]) (Q (Q (O [m 16 1,m 17 2,ar 18 .eql 16 17,m 19 18,h 20 19 (.mv (t 3)),h 21 19 (.ar .eql (t 20) (i 0)),pt 22 19 21]) (C 22 (Q (O [m 23 0,m 8 23]) R) X)) (Q
 (Q (O [m 24 0,m 25 1,k2 26 lL 24 25,m 9 26]) (Q (O [m 27 9,ac 28 .eql 27 (i 0)]) (C 28 (Q (O [m 29 0,m 8 29]) R) (Q (O [m 30 3,ac 31 .lss 30 (i 0),m 32 31,h 33
 32 (.mv (t 9)),h 34 32 (.mv (t 3)),h 35 32 (.ar .lss (t 33) (t 34)),pt 36 32 35]) (C 36 (O [m 37 9,m 3 37]) X))))) (Q (O [o 10 (.nw [.ZB,(.slice .nil 1 [])]
 cT)]) (Q (O [m 38 0,lt 39 38,m 40 3,m 41 2,lt 42 41,m 43 1,lt 44 43,ar 45 .sub 42 44,ar 46 .mul 40 45,ar 47 .add 39 46,k2 48 km 10 47])
 (Q (O [mc 11 (i 0)]) (Q (Q (O [m 49 1,lt 50 49,ac 51 .gtr 50 (i 0)]) (C 51 (Q (O [m 52 3,mc 53 (i 0)]) (.block 0 (.loop ⟨none,[],false⟩ BQ))) (Q (O [m 74 2,
 k2 75 aQ 10 74]) (Q (O [m 76 3,ac 77 .sub 76 (i 1),mc 78 (i 0)]) (.block 2 (.loop ⟨none,[],false⟩ BR)))))) (Q (O [m 99 0,m 100 11,
 o 101 (.sls (t 99) (some (t 100)) none),k2 102 aQ 10 101]) (Q (O [k1 103 eM 10,m 8 103]) R)))))))))
def Da:Zj:=⟨C9,104,[.t 8],.Zn,[8],none⟩
def sG:Zj:=lZ.k
def sq:Zj:=lE.k
def uG:Zj:=gz.k
def GQ:AC:=
 (Q (O [mc 2 (i 0),mc 3 (.c .Zr)]) (Q (O [m 7 0,k1 8 yA 7,m 6 8,ex 9 6 0,ex 10 6 1,m 4 9,m 5 10]) (Q (Q (O [m 11 5,o 12 (.eq true (.ifc true) (t 11)
 (.c .Zr))]) (C 12 (Q (O [m 13 4,m 14 0,m 15 5,k 16 (f Ee) [(s [65,116,111,105]),(t 14),(i 0),(i 0),(t 15)],m 2 13,m 3 16]) R) X)) (Q (O [m 17 4,m 2
 17,mc 3 (.c .Zr)]) R))))
def GR:Zj:=⟨GQ,18,[.t 2,.t 3],.Zn,[],none⟩
def IN:Zj:=ur.k
def yV:Zj:=ku.k
def xc:AC:=
 (Q (O [mc 2 (s [])]) (Q (Q (O [m 3 0,ac 4 .lss 3 (i 10)]) (C 4 (Q (O [m 5 0,m 6 0,ad 7 6,o 8 (.sls (s [48,49,50,51,52,53,54,55,56,57,97,98,99,100,101,102,103,
 104,105,106,107,108,109,110,111,112,113,114,115,116,117,118,119,120,121,122]) (some (t 5)) (some (t 7))),m 2 8]) R) X)) (Q (O [m 9 0,ac 10 .mul 9 (i 2),m 11 0,
 ac 12 .mul 11 (i 2),ac 13 .add 12 (i 2),o 14 (.sls (s [48,48,48,49,48,50,48,51,48,52,48,53,48,54,48,55,48,56,48,57,49,48,49,49,49,50,49,51,49,52,49,
 53,49,54,49,55,49,56,49,57,50,48,50,49,50,50,50,51,50,52,50,53,50,54,50,55,50,56,50,57,51,48,51,49,51,50,51,51,51,52,51,53,51,54,51,55,
 51,56,51,57,52,48,52,49,52,50,52,51,52,52,52,53,52,54,52,55,52,56,52,57,53,48,53,49,53,50,53,51,53,52,53,53,53,54,53,55,53,56,53,57,54,
 48,54,49,54,50,54,51,54,52,54,53,54,54,54,55,54,56,54,57,55,48,55,49,55,50,55,51,55,52,55,53,55,54,55,55,55,56,55,57,56,48,56,49,56,50,
 56,51,56,52,56,53,56,54,56,55,56,56,56,57,57,48,57,49,57,50,57,51,57,52,57,53,57,54,57,55,57,56,57,57]) (some (t 10)) (some (t 13))),m 2 14]) R)))
def xd:Zj:=⟨xc,15,[.t 2],.Zn,[],none⟩
def uH:AC:=
 (Q (O [mc 2 (i 0)]) (Q (O [m 4 0,k1 5 Ef 4,k1 6 u7 5,m 3 6]) (Q (O [m 7 3,m 8 0,m 9 3,o 10 (.iaa 20 1 (.c (.Zu 20 [[(.int .u64 1),
 (.int .u64 10),(.int .u64 100),(.int .u64 1000),(.int .u64 10000),(.int .u64 100000),(.int .u64 1000000),(.int .u64 10000000),(.int .u64 100000000),(.int .u64 1000000000),
 (.int .u64 10000000000),(.int .u64 100000000000),(.int .u64 1000000000000),(.int .u64 10000000000000),(.int .u64 100000000000000),(.int .u64 1000000000000000),(.int .u64
 10000000000000000),(.int .u64 100000000000000000),(.int .u64 1000000000000000000),(.int .u64 10000000000000000000)]] 0 0)) (t 9)),ld 11 10,ar 12 .geq 8 11,k1 13
 u9 12,ar 14 .add 7 13,m 2 14]) R)))
def uI:Zj:=⟨uH,15,[.t 2],.Zn,[],none⟩
def sr:AC:=
 (Q (Q (O [m 19 4,ac 20 .geq 19 (i 8)]) (C 20 X (.exit 0))) (.block 1 (Q (O [m 21 1,o 22 (.ar .rem (t 21) (.c (.int .u64 100000000))),o 23 (.cvi .u32 (t 22)),m 5 23]) (Q (O [m 24
 1,o 25 (.ar .quo (t 24) (.c (.int .u64 100000000))),m 1 25]) (Q (O [m 26 5,o 27 (.ar .quo (t 26) (.c (.int .u32 10000))),m 28 5,o 29 (.ar .rem (t 28) (.c (.int .u32 10000))),m
 6 27,m 7 29]) (Q (O [m 30 7,o 31 (.ar .quo (t 30) (.c (.int .u32 100))),o 32 (.ar .mul (t 31) (.c (.int .u32 2))),m 33 7,o 34 (.ar .rem (t 33) (.c (.int .u32 100))),o 35 (.ar
 .mul (t 34) (.c (.int .u32 2))),m 8 32,m 9 35]) (Q (O [m 36 6,o 37 (.ar .quo (t 36) (.c (.int .u32 100))),o 38 (.ar .mul (t 37) (.c (.int .u32 2))),m 39 6,o 40 (.ar .rem (t
 39) (.c (.int .u32 100))),o 41 (.ar .mul (t 40) (.c (.int .u32 2))),m 10 38,m 11 41]) (Q (D [Pm 42 0,Pm 43 4,P (ac 44 .sub 43 (i 1)),Pm 45 0,Pm 46 4,P (ac 47 .sub 46 (i 2)),
 Pm 48 9,P (o 49 (.ar .add (t 48) (.c (.int .u32 1)))),P (o 50 (.ZX (s [48,48,48,49,48,50,48,51,48,52,48,53,48,54,48,55,48,56,48,57,49,48,49,49,49,50,49,
 51,49,52,49,53,49,54,49,55,49,56,49,57,50,48,50,49,50,50,50,51,50,52,50,53,50,54,50,55,50,56,50,57,51,48,51,49,51,50,51,51,51,52,51,53,
 51,54,51,55,51,56,51,57,52,48,52,49,52,50,52,51,52,52,52,53,52,54,52,55,52,56,52,57,53,48,53,49,53,50,53,51,53,52,53,53,53,54,53,55,53,
 56,53,57,54,48,54,49,54,50,54,51,54,52,54,53,54,54,54,55,54,56,54,57,55,48,55,49,55,50,55,51,55,52,55,53,55,54,55,55,55,56,55,57,56,48,
 56,49,56,50,56,51,56,52,56,53,56,54,56,55,56,56,56,57,57,48,57,49,57,50,57,51,57,52,57,53,57,54,57,55,57,56,57,57]) (t 49))),Pm 51 9,P (o 52
 (.ZX (s [48,48,48,49,48,50,48,51,48,52,48,53,48,54,48,55,48,56,48,57,49,48,49,49,49,50,49,51,49,52,49,53,49,54,49,55,49,56,49,57,50,48,50,
 49,50,50,50,51,50,52,50,53,50,54,50,55,50,56,50,57,51,48,51,49,51,50,51,51,51,52,51,53,51,54,51,55,51,56,51,57,52,48,52,49,52,50,52,51,
 52,52,52,53,52,54,52,55,52,56,52,57,53,48,53,49,53,50,53,51,53,52,53,53,53,54,53,55,53,56,53,57,54,48,54,49,54,50,54,51,54,52,54,53,54,
 54,54,55,54,56,54,57,55,48,55,49,55,50,55,51,55,52,55,53,55,54,55,55,55,56,55,57,56,48,56,49,56,50,56,51,56,52,56,53,56,54,56,55,56,56,
 56,57,57,48,57,49,57,50,57,51,57,52,57,53,57,54,57,55,57,56,57,57]) (t 51))),P (ia 53 1 42 44),E (n (.st 1 (t 53) (t 50))),P (ia 54 1 45 47),E (n (.st 1 (t
 54) (t 52)))]) (Q (D [Pm 55 0,Pm 56 4,P (ac 57 .sub 56 (i 3)),Pm 58 0,Pm 59 4,P (ac 60 .sub 59 (i 4)),Pm 61 8,P (o 62 (.ar .add (t 61) (.c (.int .u32 1)))),P (o 63 (.ZX (s
 [48,48,48,49,48,50,48,51,48,52,48,53,48,54,48,55,48,56,48,57,49,48,49,49,49,50,49,51,49,52,49,53,49,54,49,55,49,56,49,57,50,48,50,49,50,
 50,50,51,50,52,50,53,50,54,50,55,50,56,50,57,51,48,51,49,51,50,51,51,51,52,51,53,51,54,51,55,51,56,51,57,52,48,52,49,52,50,52,51,52,52,
 52,53,52,54,52,55,52,56,52,57,53,48,53,49,53,50,53,51,53,52,53,53,53,54,53,55,53,56,53,57,54,48,54,49,54,50,54,51,54,52,54,53,54,54,54,
 55,54,56,54,57,55,48,55,49,55,50,55,51,55,52,55,53,55,54,55,55,55,56,55,57,56,48,56,49,56,50,56,51,56,52,56,53,56,54,56,55,56,56,56,57,
 57,48,57,49,57,50,57,51,57,52,57,53,57,54,57,55,57,56,57,57]) (t 62))),Pm 64 8,P (o 65 (.ZX (s [48,48,48,49,48,50,48,51,48,52,48,53,48,54,48,55,
 48,56,48,57,49,48,49,49,49,50,49,51,49,52,49,53,49,54,49,55,49,56,49,57,50,48,50,49,50,50,50,51,50,52,50,53,50,54,50,55,50,56,50,57,51,
 48,51,49,51,50,51,51,51,52,51,53,51,54,51,55,51,56,51,57,52,48,52,49,52,50,52,51,52,52,52,53,52,54,52,55,52,56,52,57,53,48,53,49,53,50,
 53,51,53,52,53,53,53,54,53,55,53,56,53,57,54,48,54,49,54,50,54,51,54,52,54,53,54,54,54,55,54,56,54,57,55,48,55,49,55,50,55,51,55,52,55,
 53,55,54,55,55,55,56,55,57,56,48,56,49,56,50,56,51,56,52,56,53,56,54,56,55,56,56,56,57,57,48,57,49,57,50,57,51,57,52,57,53,57,54,57,55,
 57,56,57,57]) (t 64))),P (ia 66 1 55 57),E (n (.st 1 (t 66) (t 63))),P (ia 67 1 58 60),E (n (.st 1 (t 67) (t 65)))]) (Q (D [Pm 68 0,Pm 69 4,P (ac 70 .sub 69 (i 5)),Pm 71
 0,Pm 72 4,P (ac 73 .sub 72 (i 6)),Pm 74 11,P (o 75 (.ar .add (t 74) (.c (.int .u32 1)))),P (o 76 (.ZX (s [48,48,48,49,48,50,48,51,48,52,48,53,48,54,48,55,48,
 56,48,57,49,48,49,49,49,50,49,51,49,52,49,53,49,54,49,55,49,56,49,57,50,48,50,49,50,50,50,51,50,52,50,53,50,54,50,55,50,56,50,57,51,48,
 51,49,51,50,51,51,51,52,51,53,51,54,51,55,51,56,51,57,52,48,52,49,52,50,52,51,52,52,52,53,52,54,52,55,52,56,52,57,53,48,53,49,53,50,53,
 51,53,52,53,53,53,54,53,55,53,56,53,57,54,48,54,49,54,50,54,51,54,52,54,53,54,54,54,55,54,56,54,57,55,48,55,49,55,50,55,51,55,52,55,53,
 55,54,55,55,55,56,55,57,56,48,56,49,56,50,56,51,56,52,56,53,56,54,56,55,56,56,56,57,57,48,57,49,57,50,57,51,57,52,57,53,57,54,57,55,57,
 56,57,57]) (t 75))),Pm 77 11,P (o 78 (.ZX (s [48,48,48,49,48,50,48,51,48,52,48,53,48,54,48,55,48,56,48,57,49,48,49,49,49,50,49,51,49,52,49,53,
 49,54,49,55,49,56,49,57,50,48,50,49,50,50,50,51,50,52,50,53,50,54,50,55,50,56,50,57,51,48,51,49,51,50,51,51,51,52,51,53,51,54,51,55,51,
 56,51,57,52,48,52,49,52,50,52,51,52,52,52,53,52,54,52,55,52,56,52,57,53,48,53,49,53,50,53,51,53,52,53,53,53,54,53,55,53,56,53,57,54,48,
 54,49,54,50,54,51,54,52,54,53,54,54,54,55,54,56,54,57,55,48,55,49,55,50,55,51,55,52,55,53,55,54,55,55,55,56,55,57,56,48,56,49,56,50,56,
 51,56,52,56,53,56,54,56,55,56,56,56,57,57,48,57,49,57,50,57,51,57,52,57,53,57,54,57,55,57,56,57,57]) (t 77))),P (ia 79 1 68 70),E (n (.st 1 (t 79)
 (t 76))),P (ia 80 1 71 73),E (n (.st 1 (t 80) (t 78)))]) (Q (D [Pm 81 0,Pm 82 4,P (ac 83 .sub 82 (i 7)),Pm 84 0,Pm 85 4,P (ac 86 .sub 85 (i 8)),Pm 87 10,P (o 88 (.ar .add
 (t 87) (.c (.int .u32 1)))),P (o 89 (.ZX (s [48,48,48,49,48,50,48,51,48,52,48,53,48,54,48,55,48,56,48,57,49,48,49,49,49,50,49,51,49,52,49,53,49,
 54,49,55,49,56,49,57,50,48,50,49,50,50,50,51,50,52,50,53,50,54,50,55,50,56,50,57,51,48,51,49,51,50,51,51,51,52,51,53,51,54,51,55,51,56,
 51,57,52,48,52,49,52,50,52,51,52,52,52,53,52,54,52,55,52,56,52,57,53,48,53,49,53,50,53,51,53,52,53,53,53,54,53,55,53,56,53,57,54,48,54,
 49,54,50,54,51,54,52,54,53,54,54,54,55,54,56,54,57,55,48,55,49,55,50,55,51,55,52,55,53,55,54,55,55,55,56,55,57,56,48,56,49,56,50,56,51,
 56,52,56,53,56,54,56,55,56,56,56,57,57,48,57,49,57,50,57,51,57,52,57,53,57,54,57,55,57,56,57,57]) (t 88))),Pm 90 10,P (o 91 (.ZX (s [48,48,48,
 49,48,50,48,51,48,52,48,53,48,54,48,55,48,56,48,57,49,48,49,49,49,50,49,51,49,52,49,53,49,54,49,55,49,56,49,57,50,48,50,49,50,50,50,51,
 50,52,50,53,50,54,50,55,50,56,50,57,51,48,51,49,51,50,51,51,51,52,51,53,51,54,51,55,51,56,51,57,52,48,52,49,52,50,52,51,52,52,52,53,52,
 54,52,55,52,56,52,57,53,48,53,49,53,50,53,51,53,52,53,53,53,54,53,55,53,56,53,57,54,48,54,49,54,50,54,51,54,52,54,53,54,54,54,55,54,56,
 54,57,55,48,55,49,55,50,55,51,55,52,55,53,55,54,55,55,55,56,55,57,56,48,56,49,56,50,56,51,56,52,56,53,56,54,56,55,56,56,56,57,57,48,57,
 49,57,50,57,51,57,52,57,53,57,54,57,55,57,56,57,57]) (t 90))),P (ia 92 1 81 83),E (n (.st 1 (t 92) (t 89))),P (ia 93 1 84 86),E (n (.st 1 (t 93) (t 91)))]) (O [m
 94 4,ac 95 .sub 94 (i 8),m 4 95]))))))))))))
def tq:AC:=
 (Q (O [m 17 0,ls 18 17,m 4 18]) (Q (.block 0 (.loop ⟨none,[],false⟩ sr)) (Q (O [m 96 1,o 97 (.cvi .u32 (t 96)),m 12 97]) (Q (Q (O [m 98 4,ac
 99 .geq 98 (i 4)]) (C 99 (Q (O [m 100 12,o 101 (.ar .rem (t 100) (.c (.int .u32 10000))),m 13 101]) (Q (O [m 102 12,o 103 (.ar .quo (t 102) (.c (.int .u32 10000))),m 12 103]) (Q
 (O [m 104 13,o 105 (.ar .quo (t 104) (.c (.int .u32 100))),o 106 (.ar .mul (t 105) (.c (.int .u32 2))),m 107 13,o 108 (.ar .rem (t 107) (.c (.int .u32 100))),o 109 (.ar .mul (t
 108) (.c (.int .u32 2))),m 14 106,m 15 109]) (Q (D [Pm 110 0,Pm 111 4,P (ac 112 .sub 111 (i 1)),Pm 113 0,Pm 114 4,P (ac 115 .sub 114 (i 2)),Pm 116 15,P (o 117 (.ar .add (t
 116) (.c (.int .u32 1)))),P (o 118 (.ZX (s [48,48,48,49,48,50,48,51,48,52,48,53,48,54,48,55,48,56,48,57,49,48,49,49,49,50,49,51,49,52,49,53,49,54,
 49,55,49,56,49,57,50,48,50,49,50,50,50,51,50,52,50,53,50,54,50,55,50,56,50,57,51,48,51,49,51,50,51,51,51,52,51,53,51,54,51,55,51,56,51,
 57,52,48,52,49,52,50,52,51,52,52,52,53,52,54,52,55,52,56,52,57,53,48,53,49,53,50,53,51,53,52,53,53,53,54,53,55,53,56,53,57,54,48,54,49,
 54,50,54,51,54,52,54,53,54,54,54,55,54,56,54,57,55,48,55,49,55,50,55,51,55,52,55,53,55,54,55,55,55,56,55,57,56,48,56,49,56,50,56,51,56,
 52,56,53,56,54,56,55,56,56,56,57,57,48,57,49,57,50,57,51,57,52,57,53,57,54,57,55,57,56,57,57]) (t 117))),Pm 119 15,P (o 120 (.ZX (s [48,48,48,49,
 48,50,48,51,48,52,48,53,48,54,48,55,48,56,48,57,49,48,49,49,49,50,49,51,49,52,49,53,49,54,49,55,49,56,49,57,50,48,50,49,50,50,50,51,50,
 52,50,53,50,54,50,55,50,56,50,57,51,48,51,49,51,50,51,51,51,52,51,53,51,54,51,55,51,56,51,57,52,48,52,49,52,50,52,51,52,52,52,53,52,54,
 52,55,52,56,52,57,53,48,53,49,53,50,53,51,53,52,53,53,53,54,53,55,53,56,53,57,54,48,54,49,54,50,54,51,54,52,54,53,54,54,54,55,54,56,54,
 57,55,48,55,49,55,50,55,51,55,52,55,53,55,54,55,55,55,56,55,57,56,48,56,49,56,50,56,51,56,52,56,53,56,54,56,55,56,56,56,57,57,48,57,49,
 57,50,57,51,57,52,57,53,57,54,57,55,57,56,57,57]) (t 119))),P (ia 121 1 110 112),E (n (.st 1 (t 121) (t 118))),P (ia 122 1 113 115),E (n (.st 1 (t 122) (t
 120)))]) (Q (D [Pm 123 0,Pm 124 4,P (ac 125 .sub 124 (i 3)),Pm 126 0,Pm 127 4,P (ac 128 .sub 127 (i 4)),Pm 129 14,P (o 130 (.ar .add (t 129) (.c (.int .u32 1)))),P (o 131
 (.ZX (s [48,48,48,49,48,50,48,51,48,52,48,53,48,54,48,55,48,56,48,57,49,48,49,49,49,50,49,51,49,52,49,53,49,54,49,55,49,56,49,57,50,48,50,
 49,50,50,50,51,50,52,50,53,50,54,50,55,50,56,50,57,51,48,51,49,51,50,51,51,51,52,51,53,51,54,51,55,51,56,51,57,52,48,52,49,52,50,52,51,
 52,52,52,53,52,54,52,55,52,56,52,57,53,48,53,49,53,50,53,51,53,52,53,53,53,54,53,55,53,56,53,57,54,48,54,49,54,50,54,51,54,52,54,53,54,
 54,54,55,54,56,54,57,55,48,55,49,55,50,55,51,55,52,55,53,55,54,55,55,55,56,55,57,56,48,56,49,56,50,56,51,56,52,56,53,56,54,56,55,56,56,
 56,57,57,48,57,49,57,50,57,51,57,52,57,53,57,54,57,55,57,56,57,57]) (t 130))),Pm 132 14,P (o 133 (.ZX (s [48,48,48,49,48,50,48,51,48,52,48,53,48,
 54,48,55,48,56,48,57,49,48,49,49,49,50,49,51,49,52,49,53,49,54,49,55,49,56,49,57,50,48,50,49,50,50,50,51,50,52,50,53,50,54,50,55,50,56,
 50,57,51,48,51,49,51,50,51,51,51,52,51,53,51,54,51,55,51,56,51,57,52,48,52,49,52,50,52,51,52,52,52,53,52,54,52,55,52,56,52,57,53,48,53,
 49,53,50,53,51,53,52,53,53,53,54,53,55,53,56,53,57,54,48,54,49,54,50,54,51,54,52,54,53,54,54,54,55,54,56,54,57,55,48,55,49,55,50,55,51,
 55,52,55,53,55,54,55,55,55,56,55,57,56,48,56,49,56,50,56,51,56,52,56,53,56,54,56,55,56,56,56,57,57,48,57,49,57,50,57,51,57,52,57,53,57,
 54,57,55,57,56,57,57]) (t 132))),P (ia 134 1 123 125),E (n (.st 1 (t 134) (t 131))),P (ia 135 1 126 128),E (n (.st 1 (t 135) (t 133)))]) (O [m 136 4,ac 137 .sub 136 (i
 4),m 4 137])))))) X)) (Q (Q (O [m 138 4,ac 139 .geq 138 (i 2)]) (C 139 (Q (O [m 140 12,o 141 (.ar .rem (t 140) (.c (.int .u32 100))),o 142 (.ar .mul (t 141) (.c (.int .u32 2))),
 m 16 142]) (Q (O [m 143 12,o 144 (.ar .quo (t 143) (.c (.int .u32 100))),m 12 144]) (Q (D [Pm 145 0,Pm 146 4,P (ac 147 .sub 146 (i 1)),Pm 148 0,Pm 149 4,P (ac 150 .sub 149 (i
 2)),Pm 151 16,P (o 152 (.ar .add (t 151) (.c (.int .u32 1)))),P (o 153 (.ZX (s [48,48,48,49,48,50,48,51,48,52,48,53,48,54,48,55,48,56,48,57,49,48,49,49,
 49,50,49,51,49,52,49,53,49,54,49,55,49,56,49,57,50,48,50,49,50,50,50,51,50,52,50,53,50,54,50,55,50,56,50,57,51,48,51,49,51,50,51,51,51,
 52,51,53,51,54,51,55,51,56,51,57,52,48,52,49,52,50,52,51,52,52,52,53,52,54,52,55,52,56,52,57,53,48,53,49,53,50,53,51,53,52,53,53,53,54,
 53,55,53,56,53,57,54,48,54,49,54,50,54,51,54,52,54,53,54,54,54,55,54,56,54,57,55,48,55,49,55,50,55,51,55,52,55,53,55,54,55,55,55,56,55,
 57,56,48,56,49,56,50,56,51,56,52,56,53,56,54,56,55,56,56,56,57,57,48,57,49,57,50,57,51,57,52,57,53,57,54,57,55,57,56,57,57]) (t 152))),Pm
 154 16,P (o 155 (.ZX (s [48,48,48,49,48,50,48,51,48,52,48,53,48,54,48,55,48,56,48,57,49,48,49,49,49,50,49,51,49,52,49,53,49,54,49,55,49,56,
 49,57,50,48,50,49,50,50,50,51,50,52,50,53,50,54,50,55,50,56,50,57,51,48,51,49,51,50,51,51,51,52,51,53,51,54,51,55,51,56,51,57,52,48,52,
 49,52,50,52,51,52,52,52,53,52,54,52,55,52,56,52,57,53,48,53,49,53,50,53,51,53,52,53,53,53,54,53,55,53,56,53,57,54,48,54,49,54,50,54,51,
 54,52,54,53,54,54,54,55,54,56,54,57,55,48,55,49,55,50,55,51,55,52,55,53,55,54,55,55,55,56,55,57,56,48,56,49,56,50,56,51,56,52,56,53,56,
 54,56,55,56,56,56,57,57,48,57,49,57,50,57,51,57,52,57,53,57,54,57,55,57,56,57,57]) (t 154))),P (ia 156 1 145 147),E (n (.st 1 (t 156) (t 153))),P (ia
 157 1 148 150),E (n (.st 1 (t 157) (t 155)))]) (O [m 158 4,ac 159 .sub 158 (i 2),m 4 159])))) X)) (Q (O [m 160 4,ac 161 .gtr 160 (i 0)]) (C 161 (O [m 162 0,m 163 12,o 164 (.ar
 .add (.c (.int .u32 48)) (t 163)),o 165 (.cvi .u8 (t 164)),o 166 (.ias 1 (t 162) (i 0)),n (.st 1 (t 166) (t 165))]) X)))))))
def tu:Zj:=⟨tq,167,[],.Zn,[],none⟩
def tz:AC:=
 (Q (Q (O [m 44 1,m 45 15,ar 46 .geq 44 45]) (C 46 X (.exit 0))) (.block 1 (Q (O [m 47 13,ac 48 .sub 47 (i 1),m 13 48]) (Q (O [m 49 13,m 50 1,m 51 16,ar 52 .and 50 51,o 53
 (.ZX (s [48,49,50,51,52,53,54,55,56,57,97,98,99,100,101,102,103,104,105,106,107,108,109,110,111,112,113,114,115,116,117,118,119,120,121,122]) (t
 52)),o 54 (.iaa 65 1 (t 12) (t 49)),n (.st 1 (t 54) (t 53))]) (O [m 55 1,m 56 14,o 57 (.sh .shr (t 55) (t 56)),m 1 57])))))
def tA:AC:=
 (Q (Q (O [m 66 1,m 67 17,ar 68 .geq 66 67]) (C 68 X (.exit 2))) (.block 3 (Q (O [m 69 13,ac 70 .sub 69 (i 1),m 13 70]) (Q (O [m 71 1,m 72 17,ar 73 .quo 71 72,m 18 73]) (Q (O
 [m 74 13,m 75 1,m 76 18,m 77 17,ar 78 .mul 76 77,ar 79 .sub 75 78,o 80 (.ZX (s [48,49,50,51,52,53,54,55,56,57,97,98,99,100,101,102,103,104,105,106,107,
 108,109,110,111,112,113,114,115,116,117,118,119,120,121,122]) (t 79)),o 81 (.iaa 65 1 (t 12) (t 74)),n (.st 1 (t 81) (t 80))]) (O [m 82 18,m 1 82]))))))
def ub:AC:=
 (Q (O [mc 10 (.c (.slice .nil 1 [])),mc 11 (s [])]) (Q (Q (O [m 19 2,ac 20 .lss 19 (i 2),m 21 20,h 22 21 (.mv (t 2)),h 23 21 (.ar .eql (t 22) (i 10)),pt 24 21 23,m 25 24,h
 26 25 (.mv (t 2)),h 27 25 (.ar .gtr (t 26) (i 36)),pt 28 25 27]) (C 28 (O [o 29 (.mi aI (s [115,116,114,99,111,110,118,58,32,105,108,108,101,103,97,108,32,
 65,112,112,101,110,100,73,110,116,47,70,111,114,109,97,116,73,110,116,32,98,97,115,101])),⟨none,none,(.panic (.t 29))⟩]) X)) (Q (O [o 12 (.nw
 (List.replicate 65 (.int .u8 0)) OD)]) (Q (O [mc 13 (i 65)]) (Q (Q (O [m 30 3]) (C 30 (O [m 31 1,o 32 (.un .neg (t 31)),m 1 32]) X)) (Q (Q (O [m 33 2,k1 34
 tK 33]) (C 34 (Q (O [m 35 2,o 36 (.cvi .u64 (t 35)),k1 37 w5 36,o 38 (.cvi .u64 (t 37)),m 14 38]) (Q (O [m 39 2,o 40 (.cvi
 .u64 (t 39)),m 15 40]) (Q (O [m 41 2,o 42 (.cvi .u64 (t 41)),o 43 (.ar .sub (t 42) (.c (.int .u64 1))),m 16 43]) (Q (.block 0 (.loop ⟨none,[],false⟩
 tz)) (Q (O [m 58 13,ac 59 .sub 58 (i 1),m 13 59]) (O [m 60 13,m 61 1,o 62 (.ZX (s [48,49,50,51,52,53,54,55,56,57,97,98,99,100,101,
 102,103,104,105,106,107,108,109,110,111,112,113,114,115,116,117,118,119,120,121,122]) (t 61)),o 63 (.iaa 65 1 (t 12) (t 60)),n (.st 1 (t 63) (t 62))])))))) (Q
 (O [m 64 2,o 65 (.cvi .u64 (t 64)),m 17 65]) (Q (.block 2 (.loop ⟨none,[],false⟩ tA)) (Q (O [m 83 13,ac 84 .sub 83 (i 1),m 13 84]) (O [m 85 13,m
 86 1,o 87 (.ZX (s [48,49,50,51,52,53,54,55,56,57,97,98,99,100,101,102,103,104,105,106,107,108,109,110,111,112,113,114,115,116,117,118,119,120,
 121,122]) (t 86)),o 88 (.iaa 65 1 (t 12) (t 85)),n (.st 1 (t 88) (t 87))])))))) (Q (Q (O [m 89 3]) (C 89 (Q (O [m 90 13,ac 91 .sub 90 (i 1),m 13 91]) (O [m 92 13,o 93 (.iaa 65
 1 (t 12) (t 92)),n (.st 1 (t 93) (u 45))])) X)) (Q (Q (O [m 94 4]) (C 94 (Q (O [m 95 0,m 96 13,o 97 (.sla 65 1 (t 12) (some (t 96)) none),o 98 (.ap false cq 1 1 false (t
 95) (t 97)),m 10 98]) R) X)) (Q (O [m 99 13,o 100 (.sla 65 1 (t 12) (some (t 99)) none),o 101 (.adh (t 100)),m 11 101]) R)))))))))
def uc:Zj:=⟨ub,102,[.t 10,.t 11],.Zn,[],none⟩
def GS:Zj:=kT.k
def qM:Zj:=bG.k
def BS:AC:=
 (Q (O [mc 4 F]) (Q (O [m 5 0,m 6 1,k2 7 sX 5 6,m 4 7]) R))
def BT:Zj:=⟨BS,8,[.t 4],.Zn,[],none⟩
def yd:AC:=
 (Q (O [bl 13 12 11]) (Q (C 13 X (.exit 0)) (Q (.block 1 (Q (O [m 14 12,m 9 14]) (Q (D [W (la 15 6 4),Pm 16 1,Pm 17 1,W (lt 18 17),P (ac 19 .sub 18 (i 1)),Pm 20 9,P (ar 21
 .sub 19 20),P (o 22 (.ZX (t 16) (t 21))),Pm 23 2,Pm 24 3,P (ac 25 .sub 24 (i 1)),Pm 26 9,P (ar 27 .sub 25 26),E (k 28 (f sY) [(t 15),(t 22),(t 23),(t
 27)]),P (no 29 28)]) (C 29 (rt 8 F) X)))) (O [ad 30 12,m 12 30]))))
def Ak:AC:=
 (Q (O [o 4 (.bx dZ (t 0)),mc 8 F]) (Q (Q (O [m 10 1,lt 11 10,mc 12 (i 0)]) (.block 0 (.loop ⟨none,[],false⟩ yd))) (rt 8 T)))
def Al:Zj:=⟨Ak,31,[.t 8],.Zn,[],none⟩
def xf:AC:=
 (Q (O [bl 13 12 11]) (Q (C 13 X (.exit 0)) (Q (.block 1 (Q (O [m 14 12,m 9 14]) (Q (D [W (la 15 6 4),Pm 16 1,Pm 17 9,P (o 18 (.ZX (t 16) (t 17))),Pm 19 2,Pm 20 3,Pm 21 9,P
 (ar 22 .add 20 21),E (k 23 (f sY) [(t 15),(t 18),(t 19),(t 22)]),P (no 24 23)]) (C 24 (rt 8 F) X)))) (O [ad 25 12,m 12 25]))))
def yW:AC:=
 (Q (O [o 4 (.bx dZ (t 0)),mc 8 F]) (Q (Q (O [m 10 1,lt 11 10,mc 12 (i 0)]) (.block 0 (.loop ⟨none,[],false⟩ xf))) (rt 8 T)))
def yX:Zj:=⟨yW,26,[.t 8],.Zn,[],none⟩
def qn:Zj:=jV.k
def sH:Zj:=fg.k
def vV:Zj:=qm.k
def ou:Zj:=jk.k
def wJ:AC:=
 (Q (O [bl 50 49 48]) (Q (C 50 X (.exit 0)) (Q (.block 1 (Q (O [ia 51 1 47 49,ld 52 51,m 8 52]) (Q (O [m 53 8,ac 54 .sub 53 (u 48),m 8 54]) (Q (Q (O [m 55 8,ac 56 .gtr 55 (u
 9)]) (C 56 (Q (O [o 57 (.mi cb (i 2)),mc 2 (i 0),m 3 57]) R) X)) (O [m 58 6,ac 59 .mul 58 (i 10),m 60 8,o 61 (.cvi .i64 (t 60)),ar 62 .add 59 61,m 6 62]))))) (O
 [ad 63 49,m 49 63]))))
def ye:AC:=
 (Q (O [mc 2 (i 0),mc 3 (.c .Zr)]) (Q (O [m 11 0,lt 12 11,m 4 12]) (Q (Q (O [mc 13 F,g 14 13 (.mv (t 4)),g 15 13 (.ar .lss (i 0) (t 14)),g 16 13 (.mv (t 15)),g 17 16 (.mv
 (t 4)),g 18 16 (.ar .lss (t 17) (i 10)),g 19 13 (.pk (t 16) (t 18) F),pf 20 13 19,m 21 20,h 22 21 (.mv T),g 23 22 (.mv (t 4)),g 24 22 (.ar .lss (i 0) (t 23)),g 25 22 (.mv (t
 24)),g 26 25 (.mv (t 4)),g 27 25 (.ar .lss (t 26) (i 19)),g 28 22 (.pk (t 25) (t 27) F),h 29 21 (.pk (t 22) (t 28) F),pt 30 21 29]) (C 30 (Q (O [m 31 0,m 5 31]) (Q (Q (O [m 32
 0,o 33 (.ZX (t 32) (i 0)),ac 34 .eql 33 (u 45),m 35 34,h 36 35 (.mv (t 0)),h 37 35 (.ZX (t 36) (i 0)),h 38 35 (.ar .eql (t 37) (u 43)),pt 39 35 38]) (C 39 (Q (O [m 40 0,o
 41 (.sls (t 40) (some (i 1)) none),m 0 41]) (Q (O [m 42 0,lt 43 42,ac 44 .lss 43 (i 1)]) (C 44 (Q (O [o 45 (.mi cb (i 2)),mc 2 (i 0),m 3 45]) R) X))) X)) (Q (O [mc
 6 (i 0)]) (Q (Q (O [m 46 0,o 47 (.aeF (t 46)),ls 48 47,mc 49 (i 0)]) (.block 0 (.loop ⟨none,[],false⟩ wJ))) (Q (Q (O [m 64 5,o 65 (.ZX (t 64) (i 0)),
 ac 66 .eql 65 (u 45)]) (C 66 (O [m 67 6,o 68 (.un .neg (t 67)),m 6 68]) X)) (Q (O [m 69 6,m 2 69,mc 3 (.c .Zr)]) R)))))) X)) (Q (O [m 71 0,k 72 (f
 vP) [(t 71),(i 10),(i 0)],m 70 72,ex 73 70 0,ex 74 70 1,m 9 73,m 10 74]) (Q (O [m 75 9,m 76 10,m 2 75,m 3 76]) R)))))
def yf:Zj:=⟨ye,77,[.t 2,.t 3],.Zn,[],none⟩
def Db:AC:=
 (Q (O [mc 10 (.c .Zr)]) (Q (Q (O [m 11 4]) (.block 0 (Q (O [o 13 (.mi cb (i 2)),o 14 (.eq false (.ifc false) (t 11) (t 13)),m 12 14]) (C 12 (Q (O [m 15 0,m 16 1,
 k2 17 AT 15 16,o 18 (.mi gH (t 17)),m 10 18]) R) (Q (O [o 20 (.mi cb (i 1)),o 21 (.eq false (.ifc false) (t 11) (t 20)),m 19
 21]) (C 19 (Q (O [m 22 0,m 23 1,k2 24 BH 22 23,o 25 (.mi gH (t 24)),m 10 25]) R) (Q (O [o 27 (.mi cb (i 3)),o 28 (.eq false
 (.ifc false) (t 11) (t 27)),m 26 28]) (C 26 (Q (O [m 29 0,m 30 1,m 31 2,k 32 (f Cq) [(t 29),(t 30),(t 31)],o 33 (.mi gH (t 32)),m 10 33])
 R) (Q (O [o 35 (.mi cb (i 4)),o 36 (.eq false (.ifc false) (t 11) (t 35)),m 34 36]) (C 34 (Q (O [m 37 0,m 38 1,m 39 3,k 40 (f zM) [(t 37),(t
 38),(t 39)],o 41 (.mi gH (t 40)),m 10 41]) R) X)))))))))) (Q (O [m 42 4,m 10 42]) R)))
def Dc:Zj:=⟨Db,43,[.t 10],.Zn,[],none⟩
def vW:Zj:=iQ.k
def uJ:AC:=
 (Q (O [mc 2 (i 0)]) (Q (O [m 3 0,ac 4 .mul 3 (i 78913),o 5 (.sh .shr (t 4) (.c (.int .u64 18))),m 2 5]) R))
def uK:Zj:=⟨uJ,6,[.t 2],.Zn,[],none⟩
def Dd:AC:=
 (Q (O [mc 2 (i 0)]) (Q (Q (O [m 3 0,o 4 (.ar .geq (t 3) (.c (.int .u64 4294967296)))]) (C 4 (Q (O [m 5 0,o 6 (.sh .shr (t 5) (.c (.int .u64 32))),m 0 6]) (O [mc 2 (i 32)])) X))
 (Q (Q (O [m 7 0,o 8 (.ar .geq (t 7) (.c (.int .u64 65536)))]) (C 8 (Q (O [m 9 0,o 10 (.sh .shr (t 9) (.c (.int .u64 16))),m 0 10]) (O [m 11 2,ac 12 .add 11 (i 16),m 2 12])) X))
 (Q (Q (O [m 13 0,o 14 (.ar .geq (t 13) (.c (.int .u64 256)))]) (C 14 (Q (O [m 15 0,o 16 (.sh .shr (t 15) (.c (.int .u64 8))),m 0 16]) (O [m 17 2,ac 18 .add 17 (i 8),m 2 18]))
 X)) (Q (O [m 19 2,m 20 0,o 21 (.cvi .u8 (t 20)),o 22 (.ZX (s [0,1,2,2,3,3,3,3,4,4,4,4,4,4,4,4,5,5,5,5,5,5,5,5,5,5,5,5,5,5,5,5,6,6,6,6,6,6,
 6,6,6,6,6,6,6,6,6,6,6,6,6,6,6,6,6,6,6,6,6,6,6,6,6,6,7,7,7,7,7,7,7,7,7,7,7,7,7,7,7,7,7,7,7,7,7,7,7,7,7,7,7,7,7,7,7,7,7,7,
 7,7,7,7,7,7,7,7,7,7,7,7,7,7,7,7,7,7,7,7,7,7,7,7,7,7,7,7,7,7,8,8,8,8,8,8,8,8,8,8,8,8,8,8,8,8,8,8,8,8,8,8,8,8,8,8,8,8,8,8,
 8,8,8,8,8,8,8,8,8,8,8,8,8,8,8,8,8,8,8,8,8,8,8,8,8,8,8,8,8,8,8,8,8,8,8,8,8,8,8,8,8,8,8,8,8,8,8,8,8,8,8,8,8,8,8,8,8,8,8,8,
 8,8,8,8,8,8,8,8,8,8,8,8,8,8,8,8,8,8,8,8,8,8,8,8,8,8,8,8,8,8,8,8,8,8,8,8,8,8]) (t 21)),o 23 (.cvi .i64 (t 22)),ar 24 .add 19 23,m 2 24])
 R)))))
def De:Zj:=⟨Dd,25,[.t 2],.Zn,[],none⟩
def uL:AC:=
 (Q (O [mc 2 (i 0)]) (Q (Q (O [m 3 0]) (C 3 (rt 2 (i 1)) X)) (rt 2 (i 0))))
def uM:Zj:=⟨uL,4,[.t 2],.Zn,[],none⟩
def tB:AC:=
 (Q (O [mc 2 F]) (Q (O [m 3 0,m 4 0,ac 5 .sub 4 (i 1),ar 6 .and 3 5,ac 7 .eql 6 (i 0),m 2 7]) R))
def tC:Zj:=⟨tB,8,[.t 2],.Zn,[],none⟩
def wK:AC:=
 (Q (O [mc 2 (i 0)]) (Q (.cond (.c (.bool false)) (Q (O [m 3 0,o 4 (.cvi .u32 (t 3)),k1 5 vQ 4,m 2 5]) R) X) (Q (O [m 6 0,k1 7
 vR 6,m 2 7]) R)))
def wL:Zj:=⟨wK,8,[.t 2],.Zn,[],none⟩
def sI:AC:=
 (Q (O [mc 4 F]) (Q (O [m 5 0,lt 6 5,m 7 1,lt 8 7,ar 9 .geq 6 8,m 10 9,g 11 10 (.mv (t 0)),g 12 10 (.mv (t 1)),g 13 10 (.len .str (t 12)),g 14 10 (.sls (t 11) none (some (t
 13))),g 15 10 (.mv (t 1)),g 16 10 (.ar .eql (t 14) (t 15)),pf 17 10 16,m 4 17]) R))
def sJ:Zj:=⟨sI,18,[.t 4],.Zn,[],none⟩
def yY:AC:=
 (Q (O [o 4 (.bx dZ (t 0)),mc 8 F]) (Q (Q (O [m 11 3,ac 12 .lss 11 (i 0),m 13 12,h 14 13 (.mv (t 3)),h 15 13 (.mv (t 2)),h 16 13 (.len .str (t 15)),h 17 13 (.ar
 .geq (t 14) (t 16)),pt 18 13 17]) (C 18 (Q (O [m 19 1,ac 20 .eql 19 (u 35),m 21 20,g 22 21 (.mv (t 3)),g 23 21 (.ar .eql (t 22) (i (-1))),g 24 21 (.mv (t 23)),h 25 24 (.mv (t
 3)),h 26 24 (.mv (t 2)),h 27 24 (.len .str (t 26)),h 28 24 (.ar .eql (t 25) (t 27)),g 29 21 (.pk (t 24) T (t 28)),pf 30 21 29,m 8 30]) R) X)) (Q (O [m 31 2,m 32 3,o 33 (.ZX
 (t 31) (t 32)),m 9 33]) (Q (O [fa 34 0 4,fa 35 0 34,ld 36 35,m 37 9,k2 38 Cr 36 37,ac 39 .geq 38 (i 0),m 10 39]) (Q (Q (O [m 40 1]) (.block 0 (Q (.block 2 (Q
 (.block 1 (Q (Q (Q (O [ac 42 .eql 40 (u 67),m 41 42]) (C 41 (.exit 1) X)) (Q (O [ac 44 .eql 40 (u 86),m 43 44]) (C 43 (.exit 2) X))) (.exit 0))) (O [m 45 10,no 46 45,m 10 46])))
 (Q (Q (O [m 47 9,k1 48 cP 47,m 49 48,g 50 49 (.mv (t 10)),pf 51 49 50,m 8 51]) R) (.exit 0))))) (Q (O [m 52 1,m 53 9,ar 54 .eql 52 53,m 8 54]) R))))))
def yZ:Zj:=⟨yY,55,[.t 8],.Zn,[],none⟩
def ss:Zj:=lF.k
def vz:AC:=
 (Q (O [mc 6 (i 0),mc 7 (.c .Zr)]) (Q (Q (O [m 12 0,ac 13 .eql 12 (s [])]) (C 13 (Q (O [o 14 (.mi cb (i 2)),mc 6 (i 0),m 7 14]) R) X)) (Q (O [mc 8 F]) (Q (Q (O [m
 15 0,o 16 (.ZX (t 15) (i 0))]) (.block 0 (Q (O [ac 18 .eql 16 (u 43),m 17 18]) (C 17 (O [m 19 0,o 20 (.sls (t 19) (some (i 1)) none),m 0 20]) (Q (O [ac 22 .eql 16 (u 45),m 21
 22]) (C 21 (Q (O [m 23 0,o 24 (.sls (t 23) (some (i 1)) none),m 0 24]) (O [mc 8 T])) X)))))) (Q (O [mc 9 (.c (.int .u64 0))]) (Q (O [m 26 0,m 27 1,m 28 2,k 29 (f
 vc) [(t 26),(t 27),(t 28)],m 25 29,ex 30 25 0,ex 31 25 1,m 9 30,m 7 31]) (Q (Q (O [m 32 7,o 33 (.eq true (.ifc true) (t 32) (.c .Zr)),m 34 33,
 g 35 34 (.mv (t 7)),g 36 34 (.mi cb (i 1)),g 37 34 (.eq true (.ifc false) (t 35) (t 36)),pf 38 34 37]) (C 38 (Q (O [m 39 7,mc 6 (i 0),m 7 39]) R) X)) (Q (Q (O [m
 40 2,ac 41 .eql 40 (i 0)]) (C 41 (O [mc 2 (i 64)]) X)) (Q (O [m 42 2,ac 43 .sub 42 (i 1),o 44 (.cvi .u64 (t 43)),o 45 (.sh .shl (.c (.int .u64 1)) (t 44)),m 10 45]) (Q (Q (O [m
 46 8,no 47 46,m 48 47,g 49 48 (.mv (t 9)),g 50 48 (.mv (t 10)),g 51 48 (.ar .geq (t 49) (t 50)),pf 52 48 51]) (C 52 (Q (O [m 53 10,o 54 (.ar .sub (t 53) (.c (.int .u64 1))),
 o 55 (.cvi .i64 (t 54)),o 56 (.mi cb (i 1)),m 6 55,m 7 56]) R) X)) (Q (Q (O [m 57 8,m 58 57,g 59 58 (.mv (t 9)),g 60 58 (.mv (t 10)),g 61 58 (.ar .gtr (t 59) (t
 60)),pf 62 58 61]) (C 62 (Q (O [m 63 10,o 64 (.cvi .i64 (t 63)),o 65 (.un .neg (t 64)),o 66 (.mi cb (i 1)),m 6 65,m 7 66]) R) X)) (Q (O [m 67 9,o 68 (.cvi .i64
 (t 67)),m 11 68]) (Q (Q (O [m 69 8]) (C 69 (O [m 70 11,o 71 (.un .neg (t 70)),m 11 71]) X)) (Q (O [m 72 11,m 6 72,mc 7 (.c .Zr)]) R))))))))))))))
def vA:Zj:=⟨vz,73,[.t 6,.t 7],.Zn,[],none⟩
def BU:AC:=
 (Q (O [mc 6 (.c .ZB)]) (Q (O [m 7 0,m 8 1,k1 9 n4 8,m 10 2,k1 11 im 10,o 12 (.ar .add (s [105,110,118,97,108,105,100,32,98,97,
 115,101,32]) (t 11)),k1 13 Eg 12,o 14 (.bd [(.str []),(.str []),.Zr] [(0,1),(1,1),(2,1)] [(0,(t 7)),(1,(t 9)),(2,(t 13))]),o 15 (.bx wv
 (t 14)),m 6 15]) R))
def BV:Zj:=⟨BU,16,[.t 6],.Zn,[],none⟩
def y0:AC:=
 (Q (O [mc 6 (.c .ZB)]) (Q (O [m 7 0,m 8 1,k1 9 n4 8,m 10 2,k1 11 im 10,o 12 (.ar .add (s [105,110,118,97,108,105,100,32,98,105,
 116,32,115,105,122,101,32]) (t 11)),k1 13 Eg 12,o 14 (.bd [(.str []),(.str []),.Zr] [(0,1),(1,1),(2,1)] [(0,(t 7)),(1,(t 9)),(2,(t 13))]),o 15 (.bx
 wv (t 14)),m 6 15]) R))
def y9:Zj:=⟨y0,16,[.t 6],.Zn,[],none⟩
def vB:AC:=
 (Q (O [mc 2 (i 0)]) (Q (Q (O [m 3 0,o 4 (.ar .eql (t 3) (.c (.int .u32 0)))]) (C 4 (rt 2 (i 32)) X)) (Q (O [m 5 0,m 6 0,o 7 (.un .neg (t 6)),ar 8 .and 5 7,o 9 (.ar .mul (t 8)
 (.c (.int .u32 125613361))),o 10 (.sh .shr (t 9) (.c (.int .u64 27))),o 11 (.iaa 32 1 (.c .ZW) (t 10)),ld 12 11,o 13 (.cvi .i64 (t 12)),m 2 13]) R)))
def vC:Zj:=⟨vB,14,[.t 2],.Zn,[],none⟩
def vD:AC:=
 (Q (O [mc 2 (i 0)]) (Q (Q (O [m 3 0,o 4 (.ar .eql (t 3) (.c (.int .u64 0)))]) (C 4 (rt 2 (i 64)) X)) (Q (O [m 5 0,m 6 0,o 7 (.un .neg (t 6)),ar 8 .and 5 7,o 9 (.ar .mul (t 8)
 (.c (.int .u64 285870213051353865))),o 10 (.sh .shr (t 9) (.c (.int .u64 58))),o 11 (.iaa 64 1 (.c .ZW) (t 10)),ld 12 11,o 13 (.cvi .i64 (t 12)),m 2 13]) R)))
def vE:Zj:=⟨vD,14,[.t 2],.Zn,[],none⟩
def BW:AC:=
 (Q (O [mc 4 (i 0)]) (Q (O [m 5 0,m 6 1,k2 7 dJ 5 6,m 4 7]) R))
def BX:Zj:=⟨BW,8,[.t 4],.Zn,[],none⟩
def tN:AC:=
 (Q (O [bl 102 101 100]) (Q (C 102 X (.exit 3)) (Q (.block 4 (Q (O [ia 103 1 99 101,ld 104 103,m 15 104]) (Q (O [mc 16 (u 0)]) (Q (.block 5 (Q (O [m 107 15,ac 108 .eql 107 (u 95),
 m 109 108,g 110 109 (.mv (t 8)),pf 111 109 110,m 106 111]) (C 106 (Q (O [mc 12 T]) (.exit 4)) (Q (O [m 113 15,o 114 (.ar .leq (u 48) (t 113)),m 115 114,g 116 115 (.mv (t 15)),
 g 117 115 (.ar .leq (t 116) (u 57)),pf 118 115 117,m 112 118]) (C 112 (O [m 119 15,ac 120 .sub 119 (u 48),m 16 120]) (Q (O [m 122 15,k1 123 bN 122,o 124
 (.ar .leq (u 97) (t 123)),m 125 124,g 126 125 (.mv (t 15)),⟨(some 127),(some (125,true)),(.call (.c (.fn (.func bN) [] [])) [(.t 126)])⟩,g 128 125 (.ar
 .leq (t 127) (u 122)),pf 129 125 128,m 121 129]) (C 121 (O [m 130 15,k1 131 bN 130,ac 132 .sub 131 (u 97),ac 133 .add 132 (u 10),m 16 133]) (Q (O [o 105
 (.mi cb (i 2)),mc 6 (.c (.int .u64 0)),m 7 105]) R)))))))) (Q (Q (O [m 134 16,m 135 1,o 136 (.cvi .u8 (t 135)),ar 137 .geq 134 136]) (C 137 (Q (O [o 138 (.mi
 cb (i 2)),mc 6 (.c (.int .u64 0)),m 7 138]) R) X)) (Q (Q (O [m 139 13,m 140 10,ar 141 .geq 139 140]) (C 141 (Q (O [m 142 11,o 143 (.mi cb (i 1)),m 6
 142,m 7 143]) R) X)) (Q (O [m 144 13,m 145 1,o 146 (.cvi .u64 (t 145)),ar 147 .mul 144 146,m 13 147]) (Q (O [m 148 13,m 149 16,o 150 (.cvi .u64 (t 149)),ar 151 .add 148 150,
 m 17 151]) (Q (Q (O [m 152 17,m 153 13,bl 154 152 153,m 155 154,h 156 155 (.mv (t 17)),h 157 155 (.mv (t 11)),h 158 155 (.ar .gtr (t 156) (t 157)),pt 159 155 158]) (C 159 (Q
 (O [m 160 11,o 161 (.mi cb (i 1)),m 6 160,m 7 161]) R) X)) (O [m 162 17,m 13 162])))))))))) (O [ad 163 101,m 101 163]))))
def uN:AC:=
 (Q (O [mc 6 (.c (.int .u64 0)),mc 7 (.c .Zr)]) (Q (Q (O [m 18 0,ac 19 .eql 18 (s [])]) (C 19 (Q (O [o 20 (.mi cb (i 2)),mc 6 (.c (.int .u64 0)),m 7 20]) R) X))
 (Q (O [m 21 1,ac 22 .eql 21 (i 0),m 8 22]) (Q (O [m 23 0,m 9 23]) (Q (.block 0 (Q (O [m 26 1,o 27 (.ar .leq (i 2) (t 26)),m 28 27,g 29 28 (.mv (t 1)),g 30 28 (.ar .leq (t 29)
 (i 36)),pf 31 28 30,m 25 31]) (C 25 X (Q (O [m 33 1,ac 34 .eql 33 (i 0),m 32 34]) (C 32 (Q (O [mc 1 (i 10)]) (Q (O [m 35 0,o 36 (.ZX (t 35) (i 0)),ac 37 .eql 36 (u 48)]) (C
 37 (.block 1 (Q (O [m 41 0,lt 42 41,ac 43 .geq 42 (i 3),m 44 43,g 45 44 (.mv (t 0)),g 46 44 (.ZX (t 45) (i 1)),⟨(some 47),(some (44,true)),(.call (.c (.fn (.func
 bN) [] [])) [(.t 46)])⟩,g 48 44 (.ar .eql (t 47) (u 98)),pf 49 44 48,m 40 49]) (C 40 (Q (O [mc 1 (i 2)]) (O [m 50 0,o 51 (.sls (t 50) (some (i 2)) none),m
 0 51])) (Q (O [m 53 0,lt 54 53,ac 55 .geq 54 (i 3),m 56 55,g 57 56 (.mv (t 0)),g 58 56 (.ZX (t 57) (i 1)),⟨(some 59),(some (56,true)),(.call (.c (.fn (.func
 bN) [] [])) [(.t 58)])⟩,g 60 56 (.ar .eql (t 59) (u 111)),pf 61 56 60,m 52 61]) (C 52 (Q (O [mc 1 (i 8)]) (O [m 62 0,o 63 (.sls (t 62) (some (i 2)) none),
 m 0 63])) (Q (O [m 65 0,lt 66 65,ac 67 .geq 66 (i 3),m 68 67,g 69 68 (.mv (t 0)),g 70 68 (.ZX (t 69) (i 1)),⟨(some 71),(some (68,true)),(.call (.c (.fn (.func
 bN) [] [])) [(.t 70)])⟩,g 72 68 (.ar .eql (t 71) (u 120)),pf 73 68 72,m 64 73]) (C 64 (Q (O [mc 1 (i 16)]) (O [m 74 0,o 75 (.sls (t 74) (some (i 2)) none),
 m 0 75])) (Q (O [mc 1 (i 8)]) (O [m 38 0,o 39 (.sls (t 38) (some (i 1)) none),m 0 39]))))))))) X))) (Q (O [o 24 (.mi cb (i 3)),mc 6 (.c (.int .u64 0)),m 7 24])
 R)))))) (Q (Q (O [m 76 2,ac 77 .eql 76 (i 0)]) (C 77 (O [mc 2 (i 64)]) (Q (O [m 78 2,ac 79 .lss 78 (i 0),m 80 79,h 81 80 (.mv (t 2)),h 82 80 (.ar .gtr (t 81) (i 64)),pt 83 80
 82]) (C 83 (Q (O [o 84 (.mi cb (i 4)),mc 6 (.c (.int .u64 0)),m 7 84]) R) X)))) (Q (O [mc 10 (.c (.int .u64 0))]) (Q (Q (O [m 85 1]) (.block 2 (Q (O [ac 91 .eql 85 (i
 10),m 90 91]) (C 90 (O [mc 10 (.c (.int .u64 1844674407370955162))]) (Q (O [ac 93 .eql 85 (i 16),m 92 93]) (C 92 (O [mc 10 (.c (.int .u64 1152921504606846976))]) (O [m 86 1,o 87
 (.cvi .u64 (t 86)),o 88 (.ar .quo (.c (.int .u64 18446744073709551615)) (t 87)),o 89 (.ar .add (t 88) (.c (.int .u64 1))),m 10 89]))))))) (Q (O [m 94 2,o 95 (.cvi .u64 (t 94)),
 o 96 (.sh .shl (.c (.int .u64 1)) (t 95)),o 97 (.ar .sub (t 96) (.c (.int .u64 1))),m 11 97]) (Q (O [mc 12 F]) (Q (O [mc 13 (.c (.int .u64 0))]) (Q (Q (O [m 98 0,o 99 (.aeF (t
 98)),ls 100 99,mc 101 (i 0)]) (.block 3 (.loop ⟨none,[],false⟩ tN))) (Q (Q (O [m 164 12,m 165 164,g 166 165 (.mv (t 9)),⟨(some 167),(some (165,
 true)),(.call (.c (.fn (.func tL) [] [])) [(.t 166)])⟩,g 168 165 (.un .not (t 167)),pf 169 165 168]) (C 169 (Q (O [o 170 (.mi cb (i 2)),
 mc 6 (.c (.int .u64 0)),m 7 170]) R) X)) (Q (O [m 171 13,m 6 171,mc 7 (.c .Zr)]) R))))))))))))))
def uO:Zj:=⟨uN,172,[.t 6,.t 7],.Zn,[],none⟩
def uP:AC:=
 (Q (O [mc 2 (s [])]) (Q (Q (O [m 4 0,lt 5 4,ac 6 .eql 5 (i 0)]) (C 6 (rt 2 (s [])) X)) (Q (O [m 7 0,lt 8 7,o 9 (.ms cq 1 [(.int .u8 0)] (t 8) (t 8)),m 3 9]) (Q (O [m 10 3,
 m 11 0,o 12 (.cp 1 true (t 10) (t 11))]) (Q (O [m 13 3,o 14 (.ias 1 (t 13) (i 0)),m 15 3,ls 16 15,o 17 (.ust cq (t 14) (t 16)),m 2 17]) R)))))
def uQ:Zj:=⟨uP,18,[.t 2],.Zn,[],none⟩
def JM:AC:=
 (Q (O [mc 2 (.c .Zr)]) (Q (O [m 3 0,o 4 (.bd [(.str [])] [(0,1)] [(0,(t 3))]),o 5 (.bx BI (t 4)),o 6 (.mi zN (t 5)),m 2 6]) R))
def JN:Zj:=⟨JM,7,[.t 2],.Zn,[],none⟩
def xg:AC:=
 (Q (O [mc 2 (u 0)]) (Q (O [m 3 0,ac 4 .or 3 (u 32),m 2 4]) R))
def xh:Zj:=⟨xg,5,[.t 2],.Zn,[],none⟩
def su:AC:=
 (Q (Q (O [m 51 4,m 52 0,lt 53 52,bl 54 51 53]) (C 54 X (.exit 0))) (Q (.block 1 (Q (Q (O [m 57 0,m 58 4,o 59 (.ZX (t 57) (t 58)),o 60 (.ar .leq (u 48) (t 59)),m 61 60,g 62
 61 (.mv (t 0)),g 63 61 (.mv (t 4)),g 64 61 (.ZX (t 62) (t 63)),g 65 61 (.ar .leq (t 64) (u 57)),pf 66 61 65,m 67 66,h 68 67 (.mv (t 5)),h 69 67 (.mv (t 68)),g 70 69 (.mv (t
 0)),g 71 69 (.mv (t 4)),g 72 69 (.ZX (t 70) (t 71)),⟨(some 73),(some (69,true)),(.call (.c (.fn (.func bN) [] [])) [(.t 72)])⟩,g 74 69 (.ar .leq (u 97)
 (t 73)),h 75 67 (.pk (t 69) (t 74) F),h 76 67 (.mv (t 75)),g 77 76 (.mv (t 0)),g 78 76 (.mv (t 4)),g 79 76 (.ZX (t 77) (t 78)),⟨(some 80),(some (76,true)),(.call (.c (.fn
 (.func bN) [] [])) [(.t 79)])⟩,g 81 76 (.ar .leq (t 80) (u 102)),h 82 67 (.pk (t 76) (t 81) F),pt 83 67 82]) (C 83 (Q (O [mc 3 (.c (.int .i32 48))]) (.exit
 1)) X)) (Q (Q (O [m 84 0,m 85 4,o 86 (.ZX (t 84) (t 85)),ac 87 .eql 86 (u 95)]) (C 87 (Q (Q (O [m 88 3,o 89 (.ar .neq (t 88) (.c (.int .i32 48)))]) (C 89 (rt 2 F) X)) (Q (O [mc
 3 (.c (.int .i32 95))]) (.exit 1))) X)) (Q (Q (O [m 90 3,o 91 (.ar .eql (t 90) (.c (.int .i32 95)))]) (C 91 (rt 2 F) X)) (O [mc 3 (.c (.int .i32 33))]))))) (ic 55 4 56)))
def tD:AC:=
 (Q (O [mc 2 F]) (Q (O [mc 3 (.c (.int .i32 94))]) (Q (O [mc 4 (i 0)]) (Q (Q (O [m 6 0,lt 7 6,ac 8 .geq 7 (i 1),m 9 8,g 10 9 (.mv (t 0)),g 11 9 (.ZX (t 10) (i 0)),g 12 9 (.ar
 .eql (t 11) (u 45)),g 13 9 (.mv (t 12)),h 14 13 (.mv (t 0)),h 15 13 (.ZX (t 14) (i 0)),h 16 13 (.ar .eql (t 15) (u 43)),g 17 9 (.pk (t 13) T (t 16)),pf 18 9 17]) (C 18 (O [m
 19 0,o 20 (.sls (t 19) (some (i 1)) none),m 0 20]) X)) (Q (O [mc 5 F]) (Q (Q (O [m 21 0,lt 22 21,ac 23 .geq 22 (i 2),m 24 23,g 25 24 (.mv (t 0)),g 26 24 (.ZX (t 25) (i 0)),
 g 27 24 (.ar .eql (t 26) (u 48)),pf 28 24 27,m 29 28,g 30 29 (.mv (t 0)),g 31 29 (.ZX (t 30) (i 1)),⟨(some 32),(some (29,true)),(.call (.c (.fn (.func
 bN) [] [])) [(.t 31)])⟩,g 33 29 (.ar .eql (t 32) (u 98)),g 34 29 (.mv (t 33)),h 35 34 (.mv (t 0)),h 36 34 (.ZX (t 35) (i 1)),⟨(some 37),(some (34,
 false)),(.call (.c (.fn (.func bN) [] [])) [(.t 36)])⟩,h 38 34 (.ar .eql (t 37) (u 111)),g 39 29 (.pk (t 34) T (t 38)),g 40 29 (.mv (t 39)),h 41 40 (.mv
 (t 0)),h 42 40 (.ZX (t 41) (i 1)),⟨(some 43),(some (40,false)),(.call (.c (.fn (.func bN) [] [])) [(.t 42)])⟩,h 44 40 (.ar .eql (t 43) (u 120)),g 45 29
 (.pk (t 40) T (t 44)),pf 46 29 45]) (C 46 (Q (O [mc 4 (i 2)]) (Q (O [mc 3 (.c (.int .i32 48))]) (O [m 47 0,o 48 (.ZX (t 47) (i 1)),k1 49 bN 48,ac 50 .eql
 49 (u 120),m 5 50]))) X)) (Q (.block 0 (.loop ⟨none,[],false⟩ su)) (Q (O [m 92 3,o 93 (.ar .neq (t 92) (.c (.int .i32 95))),m 2 93]) R))))))))
def tE:Zj:=⟨tD,94,[.t 2],.Zn,[],none⟩
def SW(f:FuncId):Option (Nat×Zj):=(bif Nat.beq f 50 then some (4,sB) else none)
end
section
open Go.Proofs
def G0:Nat→Option (List AV):=AH 4 5 1 222
def SX:List (Nat×Zj):=[(6,zX),(7,IC),(12,ID),(14,JI),(15,Fa),(16,BP),(24,GH),(25,zZ),(26,w8),(30,IE),(31,yJ),(32,Fb)]
theorem W0:mF (cZ Tryz.prog G0) SX:=by repeat' first | (unfold cZ;kernel_rfl) | exact trivial | refine ⟨?_, ?_⟩
def SY:List (Nat×Zj):=[(33,yK),(34,z8),(35,Fc),(36,yL),(37,Aa),(38,Fe),(39,yM),(40,Ab),(41,Ff),(42,yN),(43,Ac),(44,Fg)]
theorem W1:mF (cZ Tryz.prog G0) SY:=by repeat' first | (unfold cZ;kernel_rfl) | exact trivial | refine ⟨?_, ?_⟩
def SZ:List (Nat×Zj):=[(45,Ad),(46,AY),(47,IG),(48,Af),(49,Cu),(51,II),(52,GI),(53,Em),(63,ua),(65,vv),(66,x5),(68,GJ)]
theorem W2:mF (cZ Tryz.prog G0) SZ:=by repeat' first | (unfold cZ;kernel_rfl) | exact trivial | refine ⟨?_, ?_⟩
def S0:List (Nat×Zj):=[(69,JJ),(70,nV),(71,x6),(72,tp),(73,nW),(74,x7),(75,Ag),(76,x8),(77,IJ),(78,yP),(79,Fh),(80,IK)]
theorem W3:mF (cZ Tryz.prog G0) S0:=by repeat' first | (unfold cZ;kernel_rfl) | exact trivial | refine ⟨?_, ?_⟩
def S1:List (Nat×Zj):=[(81,nX),(82,ya),(83,pA),(84,yb),(85,IL),(86,kV),(87,yc),(88,GK),(89,GL),(90,Ai),(91,yR),(92,A3)]
theorem W4:mF (cZ Tryz.prog G0) S1:=by repeat' first | (unfold cZ;kernel_rfl) | exact trivial | refine ⟨?_, ?_⟩
def S2:List (Nat×Zj):=[(93,C6),(94,Fi),(95,Fj),(96,Fk),(97,JK),(98,Fl),(99,Fm),(100,Fq),(101,GM),(102,IM),(103,Ft),(104,Fv)]
theorem W5:mF (cZ Tryz.prog G0) S2:=by repeat' first | (unfold cZ;kernel_rfl) | exact trivial | refine ⟨?_, ?_⟩
def S3:List (Nat×Zj):=[(105,Fw),(106,Fy),(113,vw),(114,yS),(115,uE),(116,GN),(117,LR),(118,GO),(119,pP),(120,uF),(121,pQ),(122,Aj)]
theorem W6:mF (cZ Tryz.prog G0) S3:=by repeat' first | (unfold cZ;kernel_rfl) | exact trivial | refine ⟨?_, ?_⟩
def S4:List (Nat×Zj):=[(123,xa),(124,vU),(125,C7),(126,JL),(127,pR),(128,qL),(129,pB),(130,FA),(131,C8),(132,l7),(133,vy),(134,yU)]
theorem W7:mF (cZ Tryz.prog G0) S4:=by repeat' first | (unfold cZ;kernel_rfl) | exact trivial | refine ⟨?_, ?_⟩
def S5:List (Nat×Zj):=[(135,Da),(136,sG),(137,sq),(139,uG),(140,GR),(141,IN),(144,yV),(145,xd),(146,uI),(147,tu),(148,uc),(149,GS)]
theorem W8:mF (cZ Tryz.prog G0) S5:=by repeat' first | (unfold cZ;kernel_rfl) | exact trivial | refine ⟨?_, ?_⟩
def S6:List (Nat×Zj):=[(150,qM),(151,BT),(152,Al),(153,yX),(154,qn),(155,sH),(157,vV),(158,ou),(159,yf),(160,Dc),(161,vW),(163,uK)]
theorem W9:mF (cZ Tryz.prog G0) S6:=by repeat' first | (unfold cZ;kernel_rfl) | exact trivial | refine ⟨?_, ?_⟩
def PQ:List (Nat×Zj):=[(164,De),(165,uM),(166,tC),(167,wL),(168,sJ),(169,yZ),(171,ss),(172,vA),(175,BV),(176,y9),(177,vC),(178,vE)]
theorem U4:mF (cZ Tryz.prog G0) PQ:=by repeat' first | (unfold cZ;kernel_rfl) | exact trivial | refine ⟨?_, ?_⟩
def PR:List (Nat×Zj):=[(179,BX),(180,uO),(181,uQ),(182,JN),(183,xh),(184,tE)]
theorem U5:mF (cZ Tryz.prog G0) PR:=by repeat' first | (unfold cZ;kernel_rfl) | exact trivial | refine ⟨?_, ?_⟩
def S7:List (Nat×List (Nat×Zj)):=[(32,SX),(44,SY),(68,SZ),(80,S0),(92,S1),(104,S2),(122,S3),(134,S4),(149,S5),(163,S6),(178,PQ),(184,PR)]
def Yj(f:FuncId):Option Zj:=M3 S7 f
theorem U6:∀ f af,Yj f=some af→cZ Tryz.prog G0 f af:=fun f af h=>It (show LI _ S7 from ⟨W0,W1,W2,W3,W4,W5,W6,W7,W8,W9,U4,U5,trivial⟩) h
theorem vX:LG Tryz.prog G0 50 (4,sB):=⟨by kernel_rfl,rfl⟩
theorem S8:∀ f d af,SW f=some (d,af)→LG Tryz.prog G0 f (d,af):=fun f d af h=>by
 unfold SW at h;revert h;exact (SL (C:=_) vX)
end
section
open Go.Proofs
def Q3(g:FuncId)(xs:List AV)(H:List Y4):Option Out:=
 match xs with
 |[.str s,.int .u8 c]=>bif Nat.beq g dY then some (.ret (.int .i64 (Lib.countByte s c.toNat.toUInt8:Nat)),H)
  else bif Nat.beq g dw then some (.ret (.int .i64 (Lib.indexByte s c.toNat.toUInt8)),H)
  else none
 |[.int .i64 (.ofNat n)]=>bif Nat.beq g dA&&Nat.ble n 281474976710656 then some (.ret (.Za H.length 0 n 1 true),H++[.cells (List.replicate n .ZW) 5]) else none
 |[.fn _ _ _]=>none
 |[x]=>bif Nat.beq g gG then some (.ret x,H) else none
 |_=>none
theorem U7:AG Tryz.prog dY Extern.BytealgCount.count:=.of Tryz.func138 (by kernel_rfl) (by kernel_rfl) (by kernel_rfl) (by kernel_rfl)
theorem U8:AG Tryz.prog dw Extern.BytealgIndexByte.indexByte:=.of Tryz.func170 (by kernel_rfl) (by kernel_rfl) (by kernel_rfl) (by kernel_rfl)
theorem Xa:AG Tryz.prog gG Extern.AbiNoEscape.same:=.of Tryz.func143 (by kernel_rfl) (by kernel_rfl) (by kernel_rfl) (by kernel_rfl)
theorem S9:AG Tryz.prog dA (Extern.BytealgMakeNoZero.makeNoZero #[3] #[72]):=.of Tryz.func162 (by kernel_rfl) (by kernel_rfl) (by kernel_rfl) (by kernel_rfl)
theorem Q4:Tryz.prog.underlying 72=some (.slice 5):=by kernel_rfl
theorem LS{g:FuncId}{xs:List AV}{H H':List Y4}{r:uY}(h:Q3 g xs H=some (r,H')):dL Tryz.prog G0 g xs H fun r2 H2=>r2=r∧H2=H':=by
 unfold Q3 at h;split at h
 ·rename_i s c
  cases h1:Nat.beq g dY with
  |true=>rw [h1] at h;cases h;rw [amv h1];exact QW U7 s c H
  |false=>
   rw [h1,cond_false] at h;cases h2:Nat.beq g dw with
   |true=>rw [h2] at h;cases h;rw [amv h2];exact QX U8 s c H
   |false=>rw [h2] at h;cases h
 ·rename_i n
  cases h1:(Nat.beq g dA&&Nat.ble n 281474976710656) with
  |true=>
   rw [h1] at h;cases h;simp only [amb] at h1;rw [amv h1.1];exact Oy S9 Q4 n (anO h1.2) H
  |false=>rw [h1] at h;cases h
 ·cases h
 ·rename_i x _ _
  cases h1:Nat.beq g gG with
  |true=>rw [h1] at h;cases h;rw [amv h1];exact SJ Xa x H
  |false=>rw [h1] at h;cases h
 ·cases h
theorem PS:Tryz.prog.follows .mixedOrders=true:=by kernel_rfl
theorem g0:∀ (n g:Nat) (cs:List AV),G0 g=some cs→aaM n cs=true:=SO
noncomputable def E0:br := { P:=Tryz.prog,G:=G0,fn:=Yj,orc:=Q3,dfn:=SW }
theorem Nb:E0.Ok:=br.ok5 PS (fun f af h=>U6 f af h) (fun f d af h=>S8 f d af h) (fun _ _ _ _ _ h=>by cases h) (fun _ _ _ _ _ h=>LS h)
end
section
open Go.Proofs
theorem U9:∀ f args H,E0.wo f args H=none:=fun _ _ _=>rfl
def ps0:List RPc:=[]
theorem ok0:∀ p∈ps0,p.Ok E0.P E0.G:=fun p h=>by cases h
def p1:RPc:=⟨12,[(.agg [(.str [97,101,105,111,117]),(.slice (.own 9) 2 [[(.str [110,117,109]),(.Za 7 2 2 1 true)]]),(.Za 26 0 2 2 true),(.Za 53 0 4 4 true),(.slice (.own 57) 4 [[(.str [121,43]),(.str [105,43,101]),(.str [67]),(.str [115])],[(.str [110,43]),(.str [110,110,43]),(.str [86]),(.str [101,100])]]),(.slice (.own 65) 3 [[(.str [110,111,117,110]),(.str []),(.slice .any 2 [[(.str [110,117,109]),(.str [115,103])]])]])])],(dd 7 ([.cells [(.str [116,114,97,105,116]),(.str [110,117,109]),(.str [115,103]),(.str [112,108])] 9]++(dd 1 ([.tok 2 45]++(dd 7 ([.tok 2 41,.tok 8 50]++(dd 3 ([.tok 2 41]++(dd 3 ([.cells [(.str [110,111,117,110]),(.slice (.own 18) 4 [[(.int .i64 0),(.str []),(.str []),(.slice .any 2 [[(.str [110,117,109]),(.str [115,103])]])],[(.int .i64 0),(.str []),(.str [115]),(.slice .any 2 [[(.str [110,117,109]),(.str [112,108])]])]]),(.str [118,101,114,98]),(.slice (.own 30) 4 [[(.int .i64 0),(.str []),(.str []),(.slice .nil 2 [])],[(.int .i64 0),(.str []),(.str [101,100]),(.slice .nil 2 [])]])] 48]++(dd 3 ([.tok 8 50]++(dd 18 ([.tok 2 55]++(dd 3 ([.cells [(.str [99,105,116,121]),(.str [110,111,117,110]),(.slice .nil 2 []),(.slice .nil 2 []),(.str [99,97,114]),(.str [110,111,117,110]),(.slice .nil 2 []),(.slice .nil 2 []),(.str [98,117,115]),(.str [110,111,117,110]),(.slice .nil 2 []),(.slice (.own 49) 2 [[(.int .i64 1),(.str [98,117,115,101,115])]]),(.str [112,108,97,110]),(.str [118,101,114,98]),(.slice .nil 2 []),(.slice .nil 2 [])] 53]++(dd 3 ([.tok 8 57]++(dd 6 [.tok 2 41,.tok 3 59]))))))))))))))))))),(.int .u8 0)⟩
def ps1:List RPc:=p1::ps0
theorem ok1:∀ p∈ps1,p.Ok E0.P E0.G:=BD Nb g0 ok0 U9 (by kernel_rfl)
def p2:RPc:=⟨7,[(.str [118,111,119,101,108,115,32,97,101,105,111,117,10,116,114,97,105,116,32,110,117,109,32,115,103,32,112,108,10,99,108,97,115,115,32,110,111,117,110,10,115,108,111,116,32,48,32,45,32,45,32,110,117,109,61,115,103,10,115,108,111,116,32,48,32,45,32,115,32,110,117,109,61,112,108,10,99,108,97,115,115,32,118,101,114,98,10,115,108,111,116,32,48,32,45,32,45,10,115,108,111,116,32,48,32,45,32,101,100,10,101,110,116,114,121,32,99,105,116,121,32,110,111,117,110,10,101,110,116,114,121,32,99,97,114,32,110,111,117,110,10,101,110,116,114,121,32,98,117,115,32,110,111,117,110,10,102,111,114,109,32,49,32,98,117,115,101,115,10,101,110,116,114,121,32,112,108,97,110,32,118,101,114,98,10,115,112,101,108,108,32,121,43,32,105,43,101,32,67,32,115,10,115,112,101,108,108,32,110,43,32,110,110,43,32,86,32,101,100,10,108,105,110,107,32,110,111,117,110,32,45,32,110,117,109,61,115,103,10])],[],(.tuple [(.agg [(.str [97,101,105,111,117]),(.slice .any 2 [[(.str [110,117,109]),(.slice .any 1 [[(.str [115,103])],[(.str [112,108])]])]]),(.slice .any 2 [[(.str [110,111,117,110]),(.slice .any 4 [[(.int .i64 0),(.str []),(.str []),(.slice .any 2 [[(.str [110,117,109]),(.str [115,103])]])],[(.int .i64 0),(.str []),(.str [115]),(.slice .any 2 [[(.str [110,117,109]),(.str [112,108])]])]])],[(.str [118,101,114,98]),(.slice .any 4 [[(.int .i64 0),(.str []),(.str []),(.slice .nil 2 [])],[(.int .i64 0),(.str []),(.str [101,100]),(.slice .nil 2 [])]])]]),(.slice .any 4 [[(.str [99,105,116,121]),(.str [110,111,117,110]),(.slice .nil 2 []),(.slice .nil 2 [])],[(.str [99,97,114]),(.str [110,111,117,110]),(.slice .nil 2 []),(.slice .nil 2 [])],[(.str [98,117,115]),(.str [110,111,117,110]),(.slice .nil 2 []),(.slice .any 2 [[(.int .i64 1),(.str [98,117,115,101,115])]])],[(.str [112,108,97,110]),(.str [118,101,114,98]),(.slice .nil 2 []),(.slice .nil 2 [])]]),(.slice .any 4 [[(.str [121,43]),(.str [105,43,101]),(.str [67]),(.str [115])],[(.str [110,43]),(.str [110,110,43]),(.str [86]),(.str [101,100])]]),(.slice .any 3 [[(.str [110,111,117,110]),(.str []),(.slice .any 2 [[(.str [110,117,109]),(.str [115,103])]])]])]),(.int .i64 0),(.int .u8 0)])⟩
def ps2:List RPc:=p2::ps1
theorem ok2:∀ p∈ps2,p.Ok E0.P E0.G:=BD Nb g0 ok1 U9 (by kernel_rfl)
def p3:RPc:=⟨12,[(.agg [(.str [97,101,105,111,117]),(.slice .any 2 [[(.str [110,117,109]),(.slice .any 1 [[(.str [115,103])],[(.str [112,108])]])]]),(.slice .any 2 [[(.str [110,111,117,110]),(.slice .any 4 [[(.int .i64 0),(.str []),(.str []),(.slice .any 2 [[(.str [110,117,109]),(.str [115,103])]])],[(.int .i64 0),(.str []),(.str [115]),(.slice .any 2 [[(.str [110,117,109]),(.str [112,108])]])]])],[(.str [118,101,114,98]),(.slice .any 4 [[(.int .i64 0),(.str []),(.str []),(.slice .nil 2 [])],[(.int .i64 0),(.str []),(.str [101,100]),(.slice .nil 2 [])]])]]),(.slice .any 4 [[(.str [99,105,116,121]),(.str [110,111,117,110]),(.slice .nil 2 []),(.slice .nil 2 [])],[(.str [99,97,114]),(.str [110,111,117,110]),(.slice .nil 2 []),(.slice .nil 2 [])],[(.str [98,117,115]),(.str [110,111,117,110]),(.slice .nil 2 []),(.slice .any 2 [[(.int .i64 1),(.str [98,117,115,101,115])]])],[(.str [112,108,97,110]),(.str [118,101,114,98]),(.slice .nil 2 []),(.slice .nil 2 [])]]),(.slice .any 4 [[(.str [121,43]),(.str [105,43,101]),(.str [67]),(.str [115])],[(.str [110,43]),(.str [110,110,43]),(.str [86]),(.str [101,100])]]),(.slice .any 3 [[(.str [110,111,117,110]),(.str []),(.slice .any 2 [[(.str [110,117,109]),(.str [115,103])]])]])])],[],(.int .u8 0)⟩
def ps3:List RPc:=p3::ps2
theorem ok3:∀ p∈ps3,p.Ok E0.P E0.G:=BD Nb g0 ok2 U9 (by kernel_rfl)
theorem Q5:M1 (EP E0 ps3) 1000000 cU [] []=some (.bool true):=by kernel_rfl
theorem Ta(H:List Y4):dL Tryz.prog G0 cU [] H fun r H'=>r = .ret (.bool true)∧H'=H:=Is (Wo Nb g0 ok3 U9) g0 Q5 rfl
end
end Go.Am
