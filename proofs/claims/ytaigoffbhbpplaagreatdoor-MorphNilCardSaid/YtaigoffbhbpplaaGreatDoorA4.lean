import Derived.Test.YtaigoffbhbpplaaGreatDoorA3
import Derived.Test.YtaigoffbhbpplaaGreatDoorChecked
import Derived.KernelRfl
import Derived.RangeFuncNested
import Derived.RangeFuncBound
import Derived.RangeFuncCalls
import Derived.RangeFuncLeaves
import Derived.Shelf.Abstract
import Derived.WalkKit
import Derived.OwnWalkIn
import Derived.TacticsInMore
import Derived.LoopNIn
import Derived.LoopIn
/-
  Part 4 of the tool: an abstract machine over the model, proved sound, and what it says of the functions that the law reaches. Condition: none but those that each theorem names.
-/
set_option linter.unusedVariables false
set_option linter.unusedSimpArgs false
set_option maxRecDepth 100000
set_option maxHeartbeats 4000000
namespace Go.Am
open Go.RowKit
section
open Sh
def iB:AC:=
 (Q (O [bl 12 11 10]) (Q (C 12 X (.exit 0)) (Q (.block 1 (Q (O [ia 13 1 9 11,ld 14 13,m 2 14]) (Q (O [m 16 2,k 17 (f j9) [(t 16),(s [99,97,114])],m 15
 17,ex 18 15 0,ex 19 15 1,m 3 18,m 4 19]) (Q (O [m 21 2,k 22 (f mH) [(t 21),(s [])],m 20 22,ex 23 20 0,ex 24 20 1,m 5 23,m 6 24]) (Q (O [m 25 3,ls 26
 25,ac 27 .gtr 26 (i 0),m 28 27,h 29 28 (.mv (t 4)),h 30 28 (.ar .neq (t 29) (u 2)),pt 31 28 30,m 32 31,h 33 32 (.mv (t 5)),h 34 32 (.ar .neq (t 33) (s [])),pt 35 32 34,m
 36 35,h 37 36 (.mv (t 6)),pt 38 36 37,m 39 38,h 40 39 (.mv (t 2)),⟨(some 41),(some (39,false)),(.call (.c (.fn (.func mI) [] [])) [(.t 40)])⟩,h 42 39
 (.len .sl (t 41)),h 43 39 (.ar .gtr (t 42) (i 0)),pt 44 39 43,m 45 44,h 46 45 (.mv (t 2)),⟨(some 47),(some (45,false)),(.call (.c (.fn (.func iY) []
 [])) [(.t 46)])⟩,h 48 45 (.len .sl (t 47)),h 49 45 (.ar .gtr (t 48) (i 0)),pt 50 45 49]) (C 50 (rt 0 F) X)))))) (O [ad 51 11,m 11 51]))))
def js:AC:=
 (Q (O [mc 0 F]) (Q (Q (O [o 7 (.bd [(.str []),(.slice .nil 2 []),(.slice .nil 2 []),(.slice .nil 4 []),(.slice .nil 4 []),(.slice .nil 3 []),.nilp] [(0,6),(6,1)] []),o 8
 (.bx rI (t 7)),o 9 (.bs 1 [.nilp] 2 [(0,(.c .nilp)),(1,(t 8))]),ls 10 9,mc 11 (i 0)]) (.block 0 (.loop ⟨none,[],false⟩ iB))) (Q (O [k
 52 (f nV) [],m 0 52]) R)))
def jt:AFn:=⟨js,53,[.t 0],.keep,[],none⟩
def nb:AC:=
 (Q (O [mc 0 F]) (Q (O [k 7 (f vo) [(s [118,111,119,101,108,115,32,97,101,105,111,117,10,116,114,97,105,116,32,110,117,109,32,115,103,32,112,
 108,10,99,108,97,115,115,32,110,111,117,110,10,115,108,111,116,32,48,32,45,32,45,32,110,117,109,61,115,103,10,115,108,111,116,32,48,32,45,32,
 115,32,110,117,109,61,112,108,10,99,108,97,115,115,32,118,101,114,98,10,115,108,111,116,32,48,32,45,32,45,10,115,108,111,116,32,48,32,45,32,
 101,100,10,101,110,116,114,121,32,99,105,116,121,32,110,111,117,110,10,101,110,116,114,121,32,99,97,114,32,110,111,117,110,10,101,110,116,114,
 121,32,98,117,115,32,110,111,117,110,10,102,111,114,109,32,49,32,98,117,115,101,115,10,101,110,116,114,121,32,112,108,97,110,32,118,101,114,98,
 10,115,112,101,108,108,32,121,43,32,105,43,101,32,67,32,115,10,115,112,101,108,108,32,110,43,32,110,110,43,32,86,32,101,100,10,108,105,110,
 107,32,110,111,117,110,32,45,32,110,117,109,61,115,103,10])],m 6 7,ex 8 6 0,ex 9 6 1,ex 10 6 2,o 1 (.nw [(.str []),(.slice .nil 2 []),(.slice .nil 2 []),
 (.slice .nil 4 []),(.slice .nil 4 []),(.slice .nil 3 [])] cH),n (.st 6 (t 1) (t 8)),m 2 9,m 3 10]) (Q (O [la 12 6 1,k 13 (f wN) [(t 12),(i 0),(i 1)],m
 11 13,ex 14 11 0,ex 15 11 1,m 4 14,m 5 15]) (Q (O [m 16 3,ac 17 .eql 16 (u 0),m 18 17,g 19 18 (.mv (t 5)),g 20 18 (.ar .eql (t 19) (u 0)),pf 21 18 20,m 22 21,g 23 22 (.mv
 (t 4)),g 24 22 (.ar .eql (t 23) (s [99,105,116,105,101,115])),pf 25 22 24,m 0 25]) R))))
def nd:AFn:=⟨nb,26,[.t 0],.keep,[],none⟩
def rJ:AC:=
 (Q (O [bl 31 30 29]) (Q (C 31 X (.exit 0)) (Q (.block 1 (Q (O [m 32 30,ia 33 1 28 30,ld 34 33,m 7 32,m 8 34]) (Q (Q (O [m 35 8,ac 36 .eql 35 (s []),m 37 36,h 38 37 (.mv (t
 8)),h 39 37 (.ixs (t 38) (i 0)),h 40 37 (.ar .eql (t 39) (u 59)),pt 41 37 40]) (C 41 (.exit 1) X)) (Q (O [m 42 8,k2 43 pD 6 42,no 44 43]) (C 44 (Q (O [o 45
 (.bd [(.str []),(.slice .nil 2 []),(.slice .nil 2 []),(.slice .nil 4 []),(.slice .nil 4 []),(.slice .nil 3 [])] [(0,1),(1,1),(2,1),(3,1),(4,1),(5,1)] []),m 46 7,ad
 47 46,n (.st 6 (t 2) (t 45)),m 3 47,mc 4 (u 4)]) R) X))))) (O [ad 48 30,m 30 48]))))
def uP:AC:=
 (Q (O [o 2 (.nw [(.str []),(.slice .nil 2 []),(.slice .nil 2 []),(.slice .nil 4 []),(.slice .nil 4 []),(.slice .nil 3 [])] cH),mc 3 (i 0),mc 4 (u 0)]) (Q (Q (O [m
 10 0,lt 11 10,ac 12 .gtr 11 (i 65536)]) (C 12 (Q (O [o 13 (.bd [(.str []),(.slice .nil 2 []),(.slice .nil 2 []),(.slice .nil 4 []),(.slice .nil 4 []),(.slice .nil 3 [])] [(0,
 1),(1,1),(2,1),(3,1),(4,1),(5,1)] []),n (.st 6 (t 2) (t 13)),mc 3 (i 0),mc 4 (u 3)]) R) X)) (Q (O [m 14 0,k 15 (f nR) [(t 14),(s [10])],m 5 15]) (Q (Q
 (O [m 16 5,m 17 5,ls 18 17,ac 19 .sub 18 (i 1),ia 20 1 16 19,ld 21 20,ac 22 .eql 21 (s [])]) (C 22 (O [m 23 5,m 24 5,ls 25 24,ac 26 .sub 25 (i 1),o 27 (.sll 1 (t 23) none
 (some (t 26)) none),m 5 27]) X)) (Q (O [o 6 (.nw [(.str []),(.slice .nil 2 []),(.slice .nil 2 []),(.slice .nil 4 []),(.slice .nil 4 []),(.slice .nil 3 []),(.str []),(.int
 .i64 0)] uO)]) (Q (Q (O [m 28 5,ls 29 28,mc 30 (i 0)]) (.block 0 (.loop ⟨none,[],false⟩ rJ))) (Q (Q (O [fa 49 6 6,ld 50 49,ac 51 .eql 50 (s [])]) (C
 51 (Q (O [o 52 (.bd [(.str []),(.slice .nil 2 []),(.slice .nil 2 []),(.slice .nil 4 []),(.slice .nil 4 []),(.slice .nil 3 [])] [(0,1),(1,1),(2,1),(3,1),(4,1),(5,1)]
 []),n (.st 6 (t 2) (t 52)),mc 3 (i 0),mc 4 (u 4)]) R) X)) (Q (Q (O [fa 53 0 6,la 54 6 53,k1 55 pX 54,m 9 55]) (Q (O [m 56 9,ac 57 .neq 56 (u 0)]) (C 57 (Q (O [o 58
 (.bd [(.str []),(.slice .nil 2 []),(.slice .nil 2 []),(.slice .nil 4 []),(.slice .nil 4 []),(.slice .nil 3 [])] [(0,1),(1,1),(2,1),(3,1),(4,1),(5,1)] []),m 59 9,n
 (.st 6 (t 2) (t 58)),mc 3 (i 0),m 4 59]) R) X))) (Q (O [fa 60 0 6,la 61 6 60,n (.st 6 (t 2) (t 61)),mc 3 (i 0),mc 4 (u 0)]) R)))))))))
def uQ:AFn:=⟨uP,62,[.cell 2 (some 6),.t 3,.t 4],.keep,[],none⟩
def uR:AC:=
 (Q (O [o 1 (.bx cH (t 0)),mc 2 (u 0)]) (Q (O [la 4 6 1,o 5 (.bd [(.str []),(.slice .nil 2 []),(.slice .nil 2 []),(.slice .nil 4 []),(.slice .nil 4 []),(.slice .nil
 3 [])] [(0,6)] [(0,(t 4))]),o 3 (.nw [(.str []),(.slice .nil 2 []),(.slice .nil 2 []),(.slice .nil 4 []),(.slice .nil 4 []),(.slice .nil 3 [])] aN),n (.st 6 (t
 3) (t 5))]) (Q (O [la 6 6 3,o 7 (.mf (.func mJ) [(t 6)] []),o 8 (.mf (.func sU) [] [(t 1),(t 3)]),o 9 (.mf (.func sV) [] [(t 1),(t
 3)]),o 10 (.mf (.func sW) [] [(t 1),(t 3)]),o 11 (.mf (.func sX) [] [(t 1),(t 3)]),o 12 (.mf (.func sY) [] [(t 1),(t 3)]),o 13 (.bs 1
 [.nilfn] 6 [(0,(t 7)),(1,(t 8)),(2,(t 9)),(3,(t 10)),(4,(t 11)),(5,(t 12))]),k1 14 vp 13,m 2 14]) R)))
def uS:AFn:=⟨uR,15,[.t 2],.keep,[],none⟩
def ju:AC:=
 (.block 1 (Q (O [m 11 6,ld 12 3,ar 13 .gtr 11 12]) (C 13 (Q (O [m 14 6,n (.st 1 (t 4) (t 14)),n (.st 1 (t 5) T)]) R) X)))
def lq:AC:=
 (Q (O [o 3 (.bx ct (t 1)),o 4 (.nw [(.str [])] ct),o 5 (.nw [(.bool false)] x8)]) (Q (Q (O [m 7 0,k1 8 bV 7]) (.block 0 (.rfn (.t 8) [9,10]
 [[m 6 9]] ju))) (Q (O [n (.st 1 (t 4) (s [])),n (.st 1 (t 5) F)]) R)))
def lr:AFn:=⟨lq,15,[.cell 4 none,.cell 5 none],.keep,[],none⟩
def jv:AC:=
 (.block 1 (O [ld 9 3,m 10 4,o 11 (.bs 1 [(.str [])] 1 [(0,(t 10))]),o 12 (.ap false ct 1 16 false (t 9) (t 11)),n (.st 1 (t 3) (t 12))]))
def lu:AC:=
 (Q (O [mc 2 (.c (.slice .nil 1 []))]) (Q (O [o 3 (.nw [(.slice .nil 1 [])] sO)]) (Q (Q (O [m 5 0,k1 6 bV 5]) (.block 0 (.rfn (.t 6) [7,8] [[m 4 7]]
 jv))) (Q (O [ld 13 3,m 2 13]) R))))
def lA:AFn:=⟨lu,14,[.t 2],.keep,[],none⟩
def gz:AC:=
 (.block 1 (Q (O [m 10 5,ac 11 .gtr 10 (i 1)]) (C 11 (O [ld 12 3,m 13 4,o 14 (.bs 1 [(.str [])] 1 [(0,(t 13))]),o 15 (.ap false ct 1 16 false (t 12) (t 14)),n (.st 1 (t
 3) (t 15))]) X)))
def iC:AC:=
 (Q (O [mc 2 (.c (.slice .nil 1 []))]) (Q (O [o 3 (.nw [(.slice .nil 1 [])] sO)]) (Q (Q (O [m 6 0,k1 7 bV 6]) (.block 0 (.rfn (.t 7) [8,9] [[m 4 8],[m
 5 9]] gz))) (Q (O [ld 16 3,m 2 16]) R))))
def iD:AFn:=⟨iC,17,[.t 2],.keep,[],none⟩
def jw:AC:=
 (Q (O [mc 4 (.c (.slice .nil 3 [])),mc 5 (u 0)]) (Q (.block 0 (Q (O [m 7 0,k1 8 fY 7,no 9 8,m 6 9]) (C 6 (Q (O [mc 4 (.c (.slice .nil 3 [])),mc 5 (u 2)]) R)
 (Q (O [m 11 1,k1 12 q4 11,no 13 12,m 10 13]) (C 10 (Q (O [mc 4 (.c (.slice .nil 3 [])),mc 5 (u 1)]) R) X))))) (Q (O [m 14 0,o 15 (.nc (t 14)),fa 16 0 15,la 17 6 16,
 m 18 1,k2 19 ka 17 18,m 4 19,mc 5 (u 0)]) R)))
def jx:AFn:=⟨jw,20,[.t 4,.t 5],.keep,[],none⟩
def vw:AC:=
 (Q (O [o 3 (.bx cH (t 0)),mc 6 (s []),mc 7 (u 0)]) (Q (O [la 13 6 3,m 14 1,m 15 2,k 16 (f vq) [(t 13),(t 14),(t 15)],m 12 16,ex 17 12 0,ex 18 12 1,
 ex 19 12 2,o 8 (.nw [(.str []),(.slice .nil 2 []),(.slice .nil 2 []),(.slice .nil 4 []),(.slice .nil 4 []),(.slice .nil 3 [])] ag),o 9 (.nw [(.int .i64 0),
 (.str []),(.str []),(.slice .nil 2 [])] aM),n (.st 6 (t 8) (t 17)),n (.st 4 (t 9) (t 18)),m 10 19]) (Q (Q (O [m 20 10,ac 21 .neq 20 (u 0)]) (C 21 (Q (O [m 22 10,mc 6
 (s []),m 7 22]) R) X)) (Q (O [la 23 6 8,m 24 1,m 25 2,k 26 (f fZ) [(t 23),(t 24),(t 25)],m 11 26]) (Q (Q (O [m 27 11,ac 28 .eql 27 (s [])]) (C 28 (Q (O
 [mc 6 (s []),mc 7 (u 7)]) R) X)) (Q (O [m 29 11,m 6 29,mc 7 (u 0)]) R))))))
def vx:AFn:=⟨vw,30,[.t 6,.t 7],.keep,[],none⟩
def rK:AC:=
 (Q (O [mc 4 (.c (.slice .nil 1 []))]) (Q (O [m 5 0,m 6 1,k 7 (f ja) [(t 5),(t 6),(i 0),(i (-1))],m 4 7]) R))
def rL:AFn:=⟨rK,8,[.t 4],.keep,[],none⟩
def nf:AC:=
 (Q (O [bl 26 25 24]) (Q (C 26 X (.exit 0)) (Q (.block 1 (Q (O [ia 27 1 23 25,ld 28 27,m 9 28]) (O [m 29 9,ac 30 .neq 29 (s []),k1 31 aR 30]))) (O [ad 32 25,m 25
 32]))))
def o4:AC:=
 (Q (O [m 11 1,k 12 (f nR) [(t 11),(s [32])],m 5 12]) (Q (D [W (k 14 (f vr) []),Pm 15 5,P (o 16 (.ias 1 (t 15) (i 0))),Wl 17 16,W (o 18 (.lk .str (some
 (.agg [(.int .i64 0),(.int .i64 0),(.bool false),.nilfn])) true (t 14) (t 17))),Pm 13 18,P (ex 19 13 0),P (ex 20 13 1),K (o 6 (.nw [(.int .i64 0),(.int .i64 0),(.bool
 false),.nilfn] wO)),E (n (.st 4 (t 6) (t 19))),Pm 7 20]) (Q (O [m 21 7,k1 22 aR 21]) (Q (Q (O [m 23 5,ls 24 23,mc 25 (i 0)]) (.block 0 (.loop ⟨none,[],
 false⟩ nf))) (Q (O [m 33 5,o 34 (.sll 1 (t 33) (some (i 1)) none none),m 5 34]) (Q (O [m 35 5,ls 36 35,fa 37 1 6,ld 38 37,ar 39 .geq 36 38,m 40 39,g 41
 40 (.fa 2 (t 6)),g 42 40 (.ld none (t 41)),g 43 40 (.mv (t 42)),h 44 43 (.mv (t 5)),h 45 43 (.len .sl (t 44)),h 46 43 (.fa 1 (t 6)),h 47 43 (.ld none (t 46)),h 48 43 (.ar
 .eql (t 45) (t 47)),g 49 40 (.pk (t 43) T (t 48)),pf 50 40 49,k1 51 aR 50]) (Q (D [Pm 52 0,P (o 53 (.nc (t 52))),Pf 54 6 53,Wl 55 54,P (ac 56 .eql 55 (s [])),Pf
 57 0 6,Wl 58 57,P (ac 59 .eql 58 (i 0)),P (o 60 (.eq false .bool (t 56) (t 59))),Pm 61 60,P (g 62 61 (.fa 0 (t 6))),W (g 63 61 (.ld none (t 62))),P (g 64 61 (.mv (t 0))),P
 (g 65 61 (.nc (t 64))),P (g 66 61 (.fa 7 (t 65))),W (g 67 61 (.ld none (t 66))),P (g 68 61 (.ar .geq (t 63) (t 67))),P (pf 69 61 68),E (k1 70 aR 69)]) (Q (O [fa 71
 3 6,ld 72 71,m 73 0,m 74 5,k 75 (t 72) [(t 73),(t 74)]]) (Q (.dops true [] [] [Pm 76 0,Pm 77 0,Pm 78 1,W (k 79 (f rG) [(t 78),(s [32]),(i 2)]),P (o 80 (.ias
 1 (t 79) (i 0))),Wl 81 80,Pf 82 0 6,Wl 83 82,P (o 84 (.nc (t 76))),Pf 85 6 84,K (n (.st 1 (t 85) (t 81))),P (o 86 (.nc (t 77))),Pf 87 7 86,K (n (.st 1 (t 87) (t 83)))]) (Q
 (O [n (.st 1 (t 4) T)]) R))))))))))
def o5:AC:=
 (O [o 4 (.nw [(.bool false)] x8)])
def o6:AFn:=⟨o5,88,[.cell 4 none],.keep,[],(some ([⟨(some 10),none,(.op (.mf (.func n5) [] [(.t 4)]))⟩],(.t 10),o4))⟩
def td:AC:=
 (Q (O [mc 2 (s [])]) (Q (O [m 3 0,k1 4 kZ 3,m 2 4]) R))
def te:AFn:=⟨td,5,[.t 2],.keep,[],none⟩
def ng:AC:=
 (Q (O [mc 2 (i 0)]) (Q (O [m 3 0,o 4 (.nc (t 3)),fa 5 1 4,ld 6 5,ls 7 6,m 2 7]) R))
def nh:AFn:=⟨ng,8,[.t 2],.keep,[],none⟩
def jy:AC:=
 (Q (O [mc 2 (s [])]) (Q (D [Pm 3 0,P (o 4 (.nc (t 3))),Pf 5 1 4,Wl 6 5,P (o 7 (.usl (t 6))),Pm 8 0,P (o 9 (.nc (t 8))),Pf 10 1 9,Wl 11 10,W (ls 12 11),E (o 13 (.ust
 mZ (t 7) (t 12))),Pm 2 13]) R))
def jz:AFn:=⟨jy,14,[.t 2],.keep,[],none⟩
def rM:AC:=
 (Q (O [bl 9 8 7]) (Q (C 9 X (.exit 0)) (Q (.block 1 (Q (O [ia 10 1 6 8,ld 11 10,m 4 11]) (Q (O [m 12 4,k 13 (t 12) [],m 5 13]) (Q (O [m 14 5,ac 15 .neq 14 (u 0)]) (C 15 (Q (O
 [m 16 5,m 2 16]) R) X))))) (O [ad 17 8,m 8 17]))))
def uT:AC:=
 (Q (O [mc 2 (u 0)]) (Q (Q (O [m 6 0,ls 7 6,mc 8 (i 0)]) (.block 0 (.loop ⟨none,[],false⟩ rM))) (rt 2 (u 0))))
def uU:AFn:=⟨uT,18,[.t 2],.keep,[],none⟩
def jA:AC:=
 (Q (O [bl 11 10 9]) (Q (C 11 X (.exit 0)) (Q (.block 1 (Q (O [m 12 10,m 4 12]) (Q (D [Pm 13 3,Pm 14 4,P (o 15 (.ixs (t 13) (t 14))),E (k1 16 aS 15),P (no 17 16),Pm
 18 17,P (h 19 18 (.mv (t 4))),P (h 20 18 (.ar .gtr (t 19) (i 0))),P (h 21 18 (.mv (t 20))),P (g 22 21 (.mv (t 3))),P (g 23 21 (.mv (t 4))),P (g 24 21 (.ar .sub (t 23) (i 1))),
 P (g 25 21 (.ixs (t 22) (t 24))),P (g 26 21 (.mv (t 3))),P (g 27 21 (.mv (t 4))),P (g 28 21 (.ixs (t 26) (t 27))),P (g 29 21 (.ar .geq (t 25) (t 28))),P (h 30 18 (.pk (t 21) (t
 29) F)),P (pt 31 18 30)]) (C 31 (rt 2 (u 1)) X)))) (O [ad 32 10,m 10 32]))))
def lB:AC:=
 (Q (O [o 1 (.bx aN (t 0)),mc 2 (u 0)]) (Q (O [fa 5 0 1,fa 6 0 5,ld 7 6,m 3 7]) (Q (Q (O [m 8 3,lt 9 8,mc 10 (i 0)]) (.block 0 (.loop ⟨none,[],false⟩
 jA))) (rt 2 (u 0)))))
def lC:AFn:=⟨lB,33,[.t 2],.keep,[],none⟩
def rN:AC:=
 (Q (O [mc 2 (u 0)]) (Q (O [fa 3 1 0,ld 4 3,la 5 6 1,o 6 (.mf (.func nX) [(t 5)] []),k 7 (f mK) [(t 4),(i 8),(t 6)],m 2 7]) R))
def rO:AFn:=⟨rN,8,[.t 2],.keep,[],none⟩
def jB:AC:=
 (Q (O [bl 17 16 15]) (Q (C 17 X (.exit 0)) (Q (.block 1 (Q (O [m 18 16,ia 19 2 14 16,la 20 2 19,o 8 (.nw [(.str []),(.slice .nil 1 [])] gv),m 7 18,n (.st 2 (t 8) (t
 20))]) (Q (O [m 21 2,m 22 7,la 23 2 8,k 24 (t 21) [(t 22),(t 23)],m 9 24]) (Q (O [m 25 9,ac 26 .neq 25 (u 0)]) (C 26 (Q (O [m 27 9,m 6 27]) R) X))))) (O [ad 28 16,m 16
 28]))))
def lD:AC:=
 (Q (O [mc 6 (u 0)]) (Q (Q (O [m 10 0,ls 11 10,m 12 1,ar 13 .gtr 11 12]) (C 13 (rt 6 (u 3)) X)) (Q (Q (O [m 14 0,ls 15 14,mc 16 (i 0)]) (.block 0 (.loop ⟨none,[],false⟩
 jB))) (rt 6 (u 0)))))
def lE:AFn:=⟨lD,29,[.t 6],.keep,[],none⟩
def kj:AC:=
 (Q (O [bl 36 35 34]) (Q (C 36 X (.exit 1)) (Q (.block 2 (Q (O [m 37 35,ia 38 1 33 35,ld 39 38,m 7 37,m 8 39]) (Q (Q (O [m 40 8,k1 41 mO 40,no 42 41]) (C 42 (rt 6 (u
 5)) X)) (Q (O [fa 43 1 5,ld 44 43,m 45 7,o 46 (.sll 1 (t 44) none (some (t 45)) none),m 47 8,k2 48 bM 46 47]) (C 48 (rt 6 (u 6)) X))))) (O [ad 49
 35,m 35 49]))))
def ni:AC:=
 (Q (O [o 3 (.bx aN (t 0)),o 5 (.bx gv (t 2)),mc 6 (u 0)]) (Q (.block 0 (Q (O [fa 10 0 5,ld 11 10,k1 12 mO 11,no 13 12,m 9 13]) (C 9 (rt 6 (u
 5)) (Q (O [fa 15 0 3,fa 16 1 15,ld 17 16,m 18 1,o 19 (.sll 2 (t 17) none (some (t 18)) none),o 20 (.mf (.func k6) [] [(t 5)]),k2 21
 cg 19 20,m 14 21]) (C 14 (rt 6 (u 6)) (Q (O [fa 23 1 5,ld 24 23,ls 25 24,ac 26 .gtr 25 (i 8),m 22 26]) (C 22 (rt 6 (u 3)) (Q (O [fa 28 1
 5,ld 29 28,ls 30 29,ac 31 .eql 30 (i 0),m 27 31]) (C 27 (rt 6 (u 1)) X))))))))) (Q (Q (O [fa 32 1 5,ld 33 32,ls 34 33,mc 35 (i 0)]) (.block 1 (.loop ⟨none,[],false⟩
 kj))) (rt 6 (u 0)))))
def nj:AFn:=⟨ni,50,[.t 6],.keep,[],none⟩
def rP:AC:=
 (Q (O [mc 2 (u 0)]) (Q (O [fa 3 2 0,ld 4 3,la 5 6 1,o 6 (.mf (.func nY) [(t 5)] []),k 7 (f mL) [(t 4),(i 16),(t 6)],m 2 7]) R))
def rQ:AFn:=⟨rP,8,[.t 2],.keep,[],none⟩
def jC:AC:=
 (Q (O [bl 17 16 15]) (Q (C 17 X (.exit 0)) (Q (.block 1 (Q (O [m 18 16,ia 19 2 14 16,la 20 2 19,o 8 (.nw [(.str []),(.slice .nil 4 [])] bc),m 7 18,n (.st 2 (t 8) (t
 20))]) (Q (O [m 21 2,m 22 7,la 23 2 8,k 24 (t 21) [(t 22),(t 23)],m 9 24]) (Q (O [m 25 9,ac 26 .neq 25 (u 0)]) (C 26 (Q (O [m 27 9,m 6 27]) R) X))))) (O [ad 28 16,m 16
 28]))))
def lF:AC:=
 (Q (O [mc 6 (u 0)]) (Q (Q (O [m 10 0,ls 11 10,m 12 1,ar 13 .gtr 11 12]) (C 13 (rt 6 (u 3)) X)) (Q (Q (O [m 14 0,ls 15 14,mc 16 (i 0)]) (.block 0 (.loop ⟨none,[],false⟩
 jC))) (rt 6 (u 0)))))
def lG:AFn:=⟨lF,29,[.t 6],.keep,[],none⟩
def nk:AC:=
 (Q (O [o 3 (.bx aN (t 0)),o 5 (.bx bc (t 2)),mc 6 (u 0)]) (Q (.block 0 (Q (O [fa 8 0 5,ld 9 8,k1 10 mO 9,no 11 10,m 7 11]) (C 7 (rt 6 (u 5)) (Q
 (O [fa 13 0 3,fa 14 2 13,ld 15 14,m 16 1,o 17 (.sll 2 (t 15) none (some (t 16)) none),o 18 (.mf (.func k7) [] [(t 5)]),k2 19
 cj 17 18,m 12 19]) (C 12 (rt 6 (u 6)) (Q (O [fa 21 1 5,ld 22 21,ls 23 22,ac 24 .gtr 23 (i 24),m 20 24]) (C 20 (rt 6 (u 3)) (Q (O [fa 26 1
 5,ld 27 26,ls 28 27,ac 29 .eql 28 (i 0),m 25 29]) (C 25 (rt 6 (u 1)) X))))))))) (Q (O [fa 30 1 5,ld 31 30,o 32 (.mf (.func k8) [] [(t 3)]),k 33 (f
 n9) [(t 31),(i 24),(t 32)],m 6 33]) R)))
def nm:AFn:=⟨nk,34,[.t 6],.keep,[],none⟩
def rR:AC:=
 (Q (O [mc 2 (u 0)]) (Q (O [fa 3 3 0,ld 4 3,la 5 6 1,o 6 (.mf (.func nZ) [(t 5)] []),k 7 (f mM) [(t 4),(i 128),(t 6)],m 2 7]) R))
def rS:AFn:=⟨rR,8,[.t 2],.keep,[],none⟩
def jD:AC:=
 (Q (O [bl 17 16 15]) (Q (C 17 X (.exit 0)) (Q (.block 1 (Q (O [m 18 16,ia 19 4 14 16,la 20 4 19,o 8 (.nw [(.str []),(.str []),(.slice .nil 2 []),(.slice .nil 2 [])]
 j0),m 7 18,n (.st 4 (t 8) (t 20))]) (Q (O [m 21 2,m 22 7,la 23 4 8,k 24 (t 21) [(t 22),(t 23)],m 9 24]) (Q (O [m 25 9,ac 26 .neq 25 (u 0)]) (C 26 (Q (O [m 27 9,m 6
 27]) R) X))))) (O [ad 28 16,m 16 28]))))
def lH:AC:=
 (Q (O [mc 6 (u 0)]) (Q (Q (O [m 10 0,ls 11 10,m 12 1,ar 13 .gtr 11 12]) (C 13 (rt 6 (u 3)) X)) (Q (Q (O [m 14 0,ls 15 14,mc 16 (i 0)]) (.block 0 (.loop ⟨none,[],false⟩
 jD))) (rt 6 (u 0)))))
def lI:AFn:=⟨lH,29,[.t 6],.keep,[],none⟩
def km:AC:=
 (Q (O [bl 51 50 49]) (Q (C 51 X (.exit 1)) (Q (.block 2 (Q (O [m 52 50,ia 53 2 48 50,la 54 2 53,o 11 (.nw [(.int .i64 0),(.str [])] ez),m 10 52,n (.st 2 (t 11) (t
 54))]) (.block 3 (Q (O [fa 56 0 11,ld 57 56,ac 58 .lss 57 (i 0),m 59 58,h 60 59 (.fa 0 (t 11)),h 61 59 (.ld none (t 60)),h 62 59 (.fa 1 (t 7)),h 63 59 (.ld none (t 62)),h 64
 59 (.len .sl (t 63)),h 65 59 (.ar .geq (t 61) (t 64)),pt 66 59 65,m 55 66]) (C 55 (rt 6 (u 7)) (Q (O [fa 68 3 5,ld 69 68,m 70 10,o 71 (.sll 2 (t 69) none (some (t 70)) none),
 o 72 (.mf (.func lg) [] [(t 11)]),k2 73 bk 71 72,m 67 73]) (C 67 (rt 6 (u 6)) (Q (O [fa 75 1 11,ld 76 75,ac
 77 .neq 76 (s []),m 78 77,g 79 78 (.fa 1 (t 11)),g 80 78 (.ld none (t 79)),⟨(some 81),(some (78,true)),(.call (.c (.fn (.func pY) [] [])) [(.t 80)])⟩,g 82 78 (.un
 .not (t 81)),pf 83 78 82,m 74 83]) (C 74 (rt 6 (u 1)) X))))))))) (O [ad 84 50,m 50 84]))))
def nn:AC:=
 (Q (O [o 3 (.bx aN (t 0)),o 5 (.bx j0 (t 2)),mc 6 (u 0)]) (Q (O [fa 13 0 3,la 14 6 13,fa 15 1 5,ld 16 15,k2 17 ey 14 16,m 12 17,ex 18 12
 0,ex 19 12 1,o 7 (.nw [(.str []),(.slice .nil 4 [])] bc),n (.st 2 (t 7) (t 18)),m 8 19]) (Q (.block 0 (Q (O [fa 21 0 5,ld 22 21,k1 23 pY 22,no 24 23,m
 20 24]) (C 20 (rt 6 (u 1)) (Q (O [m 26 8,no 27 26,m 25 27]) (C 25 (rt 6 (u 5)) (Q (O [fa 29 0 3,fa 30 3 29,ld 31 30,m 32 1,o 33 (.sll 4 (t 31) none (some (t 32)) none),o 34
 (.mf (.func k9) [] [(t 5)]),k2 35 cq 33 34,m 28 35]) (C 28 (rt 6 (u 6)) X))))))) (Q (Q (O [la 36 6 3,fa 37 2 5,ld 38
 37,k2 39 bW 36 38,m 9 39]) (Q (O [m 40 9,ac 41 .neq 40 (u 0)]) (C 41 (Q (O [m 42 9,m 6 42]) R) X))) (Q (Q (O [fa 43 1 7,ld 44 43,o 45 (.mf (.func
 lf) [] [(t 5)]),k2 46 cU 44 45]) (C 46 (rt 6 (u 10)) X)) (Q (Q (O [fa 47 3 5,ld 48 47,ls 49 48,mc 50 (i 0)]) (.block 1
 (.loop ⟨none,[],false⟩ km))) (rt 6 (u 0))))))))
def np:AFn:=⟨nn,85,[.t 6],.keep,[],none⟩
def rT:AC:=
 (Q (O [mc 2 (u 0)]) (Q (O [fa 3 4 0,ld 4 3,la 5 6 1,o 6 (.mf (.func n0) [(t 5)] []),k 7 (f mN) [(t 4),(i 16),(t 6)],m 2 7]) R))
def rU:AFn:=⟨rT,8,[.t 2],.keep,[],none⟩
def jE:AC:=
 (Q (O [bl 17 16 15]) (Q (C 17 X (.exit 0)) (Q (.block 1 (Q (O [m 18 16,ia 19 4 14 16,la 20 4 19,o 8 (.nw [(.str []),(.str []),(.str []),(.str [])] gy),m 7 18,n (.st
 4 (t 8) (t 20))]) (Q (O [m 21 2,m 22 7,la 23 4 8,k 24 (t 21) [(t 22),(t 23)],m 9 24]) (Q (O [m 25 9,ac 26 .neq 25 (u 0)]) (C 26 (Q (O [m 27 9,m 6 27]) R) X))))) (O [ad 28 16,
 m 16 28]))))
def lJ:AC:=
 (Q (O [mc 6 (u 0)]) (Q (Q (O [m 10 0,ls 11 10,m 12 1,ar 13 .gtr 11 12]) (C 13 (rt 6 (u 3)) X)) (Q (Q (O [m 14 0,ls 15 14,mc 16 (i 0)]) (.block 0 (.loop ⟨none,[],false⟩
 jE))) (rt 6 (u 0)))))
def lK:AFn:=⟨lJ,29,[.t 6],.keep,[],none⟩
def nq:AC:=
 (Q (O [o 3 (.bx aN (t 0)),o 5 (.bx gy (t 2)),mc 6 (u 0)]) (Q (Q (O [fa 7 0 5,ld 8 7,ac 9 .eql 8 (s []),m 10 9,h 11 10 (.fa 0 (t 5)),h 12 10 (.ld none (t
 11)),⟨(some 13),(some (10,false)),(.call (.c (.fn (.func bI) [] [])) [(.t 12),(.c (.fn (.func jb) [] []))])⟩,h 14 10 (.un .not (t 13)),pt 15 10 14,m
 16 15,h 17 16 (.fa 1 (t 5)),h 18 16 (.ld none (t 17)),⟨(some 19),(some (16,false)),(.call (.c (.fn (.func bI) [] [])) [(.t 18),(.c (.fn (.func jb) []
 []))])⟩,h 20 16 (.un .not (t 19)),pt 21 16 20,m 22 21,h 23 22 (.fa 2 (t 5)),h 24 22 (.ld none (t 23)),⟨(some 25),(some (22,false)),(.call (.c (.fn (.func bI) []
 [])) [(.t 24),(.c (.fn (.func oX) [] []))])⟩,h 26 22 (.un .not (t 25)),pt 27 22 26,m 28 27,h 29 28 (.fa 3 (t 5)),h 30 28 (.ld none (t 29)),⟨(some 31),(some (28,
 false)),(.call (.c (.fn (.func bI) [] [])) [(.t 30),(.c (.fn (.func oX) [] []))])⟩,h 32 28 (.un .not (t 31)),pt 33 28 32]) (C 33 (rt 6 (u 1)) X)) (rt 6 (u
 0))))
def nr:AFn:=⟨nq,34,[.t 6],.keep,[],none⟩
def rV:AC:=
 (Q (O [mc 2 (u 0)]) (Q (O [fa 3 5 0,ld 4 3,la 5 6 1,o 6 (.mf (.func oW) [(t 5)] []),k 7 (f n4) [(t 4),(i 8),(t 6)],m 2 7]) R))
def rW:AFn:=⟨rV,8,[.t 2],.keep,[],none⟩
def kn:AC:=
 (Q (O [bl 17 16 15]) (Q (C 17 X (.exit 0)) (Q (.block 1 (Q (O [m 18 16,ia 19 3 14 16,la 20 3 19,o 8 (.nw [(.str []),(.str []),(.slice .nil 2 [])] jg),m 7 18,n (.st 3
 (t 8) (t 20))]) (Q (O [m 21 2,m 22 7,la 23 3 8,k 24 (t 21) [(t 22),(t 23)],m 9 24]) (Q (O [m 25 9,ac 26 .neq 25 (u 0)]) (C 26 (Q (O [m 27 9,m 6 27]) R) X))))) (O [ad 28 16,m
 16 28]))))
def nu:AC:=
 (Q (O [mc 6 (u 0)]) (Q (Q (O [m 10 0,ls 11 10,m 12 1,ar 13 .gtr 11 12]) (C 13 (rt 6 (u 3)) X)) (Q (Q (O [m 14 0,ls 15 14,mc 16 (i 0)]) (.block 0 (.loop ⟨none,[],false⟩
 kn))) (rt 6 (u 0)))))
def nv:AFn:=⟨nu,29,[.t 6],.keep,[],none⟩
def oe:AC:=
 (Q (O [o 3 (.bx aN (t 0)),o 5 (.bx jg (t 2)),mc 6 (u 0)]) (Q (Q (O [fa 10 0 3,la 11 6 10,fa 12 0 5,ld 13 12,k2 14 ey 11 13,m 9 14,ex 15 9
 0,ex 16 9 1,o 7 (.nw [(.str []),(.slice .nil 4 [])] bc),n (.st 2 (t 7) (t 15)),m 8 16]) (Q (O [m 17 8,no 18 17]) (C 18 (rt 6 (u 5)) X))) (Q (Q (O [fa 19 1 5,ld 20
 19,k 21 (f bI) [(t 20),(f aS)],no 22 21]) (C 22 (rt 6 (u 1)) X)) (Q (O [la 23 6 3,fa 24 2 5,ld 25 24,k2 26 bW 23 25,m 6 26]) R))))
def og:AFn:=⟨oe,27,[.t 6],.keep,[],none⟩
def ji:AC:=
 (Q (O [bl 18 17 16]) (Q (C 18 X (.exit 2)) (Q (.block 3 (Q (O [m 19 17,m 5 19]) (Q (O [la 20 6 1,m 21 4,m 22 5,k 23 (f fZ) [(t 20),(t 21),(t 22)],m 6 23])
 (Q (O [m 24 6,ac 25 .neq 24 (s [])]) (C 25 (O [m 26 3,m 27 4,m 28 5,m 29 6,o 30 (.bd [(.int .i64 0),(.int .i64 0),(.str [])] [(0,1),(1,1),(2,1)] [(0,(t 27)),(1,(t
 28)),(2,(t 29))]),o 31 (.bs 3 [(.int .i64 0),(.int .i64 0),(.str [])] 1 [(0,(t 30))]),o 32 (.ap false kh 3 32 false (t 26) (t 31)),m 3 32]) X))))) (O [ad 33 17,m
 17 33]))))
def jj:AC:=
 (Q (O [bl 12 11 10]) (Q (C 12 X (.exit 0)) (Q (.block 1 (Q (O [m 13 11,m 4 13]) (Q (O [la 14 6 1,m 15 4,k2 16 mP 14 15,mc 17 (i 0)]) (.block 2 (.loop ⟨none,
 [],false⟩ ji))))) (O [ad 34 11,m 11 34]))))
def ko:AC:=
 (Q (O [o 1 (.bx ag (t 0)),mc 2 (.c (.slice .nil 3 []))]) (Q (O [mc 3 (.c (.slice .nil 3 []))]) (Q (Q (O [fa 7 0 1,fa 8 3 7,ld 9 8,ls 10 9,mc 11 (i 0)]) (.block 0
 (.loop ⟨none,[],false⟩ jj))) (Q (O [m 35 3,m 2 35]) R))))
def kp:AFn:=⟨ko,36,[.t 2],.keep,[],none⟩
def lL:AC:=
 (Q (O [o 1 (.bx qc (t 0)),mc 2 (.c .nilfn)]) (Q (O [o 3 (.mf (.func kb) [] [(t 1)]),m 2 3]) R))
def lM:AFn:=⟨lL,4,[.t 2],.keep,[],none⟩
def ny:AC:=
 (Q (O [mc 2 F]) (Q (O [m 3 0,o 4 (.eq true .ptr (t 3) (.c .nilp)),m 5 4,g 6 5 (.mv (t 0)),g 7 5 (.nc (t 6)),g 8 5 (.fa 6 (t 7)),g 9 5 (.ld none (t 8)),g 10 5 (.eq true .ptr
 (t 9) (.c .nilp)),pf 11 5 10,m 2 11]) R))
def nz:AFn:=⟨ny,12,[.t 2],.keep,[],none⟩
def vy:AC:=
 (Q (O [mc 2 F]) (Q (O [m 3 0,lt 4 3,ac 5 .geq 4 (i 1),m 6 5,g 7 6 (.mv (t 0)),g 8 6 (.len .str (t 7)),g 9 6 (.ar .leq (t 8) (i 24)),pf 10 6 9,m 11 10,g 12 11 (.mv (t 0)),
 ⟨(some 13),(some (11,true)),(.call (.c (.fn (.func jY) [] [])) [(.t 12),(.c (.fn (.func uK) [] []))])⟩,pf 14 11 13,m 2 14]) R))
def vz:AFn:=⟨vy,15,[.t 2],.keep,[],none⟩
def iE:AC:=
 (Q (O [ac 15 .lss 14 (i 3)]) (Q (C 15 X (.exit 0)) (Q (.block 1 (Q (O [m 16 14,m 8 16]) (O [m 17 7,m 18 5,m 19 6,m 20 1,m 21 8,k 22 (f lj) [(t 18),(t 19),(t
 20),(t 21),(.c (.slice .nil 3 []))],o 23 (.ap false jh 3 40 false (t 17) (t 22)),m 7 23]))) (O [ad 24 14,m 14 24]))))
def jF:AC:=
 (Q (O [o 2 (.bx ag (t 0)),mc 4 (.c (.slice .nil 3 []))]) (Q (O [la 9 6 2,k1 10 kY 9,m 5 10]) (Q (O [la 11 6 2,m 12 5,k2 13
 jq 11 12,m 6 13]) (Q (O [mc 7 (.c (.slice .nil 3 []))]) (Q (Q (O [mc 14 (i 0)]) (.block 0 (.loop ⟨none,[],false⟩ iE))) (Q (O [m 25
 7,m 4 25]) R))))))
def jG:AFn:=⟨jF,26,[.t 4],.keep,[],none⟩
def uV:AC:=
 (Q (O [o 3 (.bx cH (t 0)),o 6 (.nw [(.str []),(.slice .nil 2 []),(.slice .nil 2 []),(.slice .nil 4 []),(.slice .nil 4 []),(.slice .nil 3 [])] ag),o 7
 (.nw [(.int .i64 0),(.str []),(.str []),(.slice .nil 2 [])] aM),mc 8 (u 0)]) (Q (Q (O [la 13 6 3,k1 14 pX 13,m 9 14]) (Q (O [m 15 9,ac 16 .neq 15 (u 0)])
 (C 16 (Q (O [o 17 (.bd [(.str []),(.slice .nil 2 []),(.slice .nil 2 []),(.slice .nil 4 []),(.slice .nil 4 []),(.slice .nil 3 [])] [(0,6)] []),o 18 (.bd [(.int .i64 0),(.str
 []),(.str []),(.slice .nil 2 [])] [(0,1),(1,1),(2,1),(3,1)] []),m 19 9,n (.st 6 (t 6) (t 17)),n (.st 4 (t 7) (t 18)),m 8 19]) R) X))) (Q (O [la 20 6 3,o 21 (.bd [(.str
 []),(.slice .nil 2 []),(.slice .nil 2 []),(.slice .nil 4 []),(.slice .nil 4 []),(.slice .nil 3 [])] [(0,6)] [(0,(t 20))]),o 10 (.nw [(.str []),(.slice .nil 2 []),(.slice
 .nil 2 []),(.slice .nil 4 []),(.slice .nil 4 []),(.slice .nil 3 [])] ag),n (.st 6 (t 10) (t 21))]) (Q (O [la 23 6 10,m 24 1,m 25 2,k 26 (f
 cI) [(t 23),(t 24),(t 25)],m 22 26,ex 27 22 0,ex 28 22 1,o 11 (.nw [(.int .i64 0),(.str []),(.str []),(.slice .nil 2 [])] aM),n (.st 4 (t 11) (t
 27)),m 12 28]) (Q (Q (O [m 29 12,no 30 29]) (C 30 (Q (O [o 31 (.bd [(.str []),(.slice .nil 2 []),(.slice .nil 2 []),(.slice .nil 4 []),(.slice .nil 4 []),(.slice .nil 3 [])]
 [(0,6)] []),o 32 (.bd [(.int .i64 0),(.str []),(.str []),(.slice .nil 2 [])] [(0,1),(1,1),(2,1),(3,1)] []),n (.st 6 (t 6) (t 31)),n (.st 4 (t 7) (t 32)),mc 8 (u 7)])
 R) X)) (Q (.dops true [] [] [W (la 33 6 10),W (la 34 4 11),K (n (.st 6 (t 6) (t 33))),K (n (.st 4 (t 7) (t 34))),P (mc 8 (u 0))]) R))))))
def uW:AFn:=⟨uV,35,[.cell 6 (some 6),.cell 7 (some 4),.t 8],.keep,[],none⟩
def kq:AC:=
 (Q (O [bl 23 22 21]) (Q (C 23 X (.exit 0)) (Q (.block 1 (Q (O [ia 24 2 20 22,la 25 2 24,o 8 (.nw [(.int .i64 0),(.str [])] ez),n (.st 2 (t 8) (t 25))]) (Q (O [fa 26
 0 8,ld 27 26,m 28 2,ar 29 .eql 27 28]) (C 29 (Q (O [fa 30 1 8,ld 31 30,m 6 31]) R) X)))) (O [ad 32 22,m 22 32]))))
def nA:AC:=
 (Q (O [o 3 (.bx ag (t 0)),mc 6 (s [])]) (Q (Q (O [fa 14 0 3,fa 15 3 14,ld 16 15,m 17 1,ia 18 4 16 17,fa 19 3 18,ld 20 19,ls 21 20,mc 22 (i 0)]) (.block 0
 (.loop ⟨none,[],false⟩ kq))) (Q (O [la 34 6 3,m 35 1,m 36 2,k 37 (f cI) [(t 34),(t 35),(t 36)],m 33 37,ex 38 33 0,ex 39 33 1,o 9
 (.nw [(.int .i64 0),(.str []),(.str []),(.slice .nil 2 [])] aM),n (.st 4 (t 9) (t 38)),m 10 39]) (Q (O [la 41 6 3,m 42 1,la 43 4 9,k 44 (f mQ)
 [(t 41),(t 42),(t 43)],m 40 44,ex 45 40 0,ex 46 40 1,m 11 45,m 12 46]) (Q (Q (O [m 47 12,no 48 47]) (C 48 (rt 6 (s [])) X)) (Q (O [m 49 11,m 50 11,ls 51 50,ac 52 .sub 51
 (i 1),ia 53 1 49 52,ld 54 53,k 55 (f oY) [(t 54),(s [43]),(s [])],m 13 55]) (Q (Q (O [m 56 13,lt 57 56,ac 58 .gtr 57 (i 24)]) (C 58 (rt 6 (s [])) X)) (Q (O
 [m 59 13,m 6 59]) R))))))))
def nB:AFn:=⟨nA,60,[.t 6],.keep,[],none⟩
def oh:AC:=
 (Q (Q (O [m 34 10,m 35 3,bl 36 34 35]) (C 36 X (.exit 0))) (.block 1 (Q (O [m 37 0,m 38 1,k2 39 gR 37 38,m 11 39]) (Q (Q (O [m 40 11,ac 41 .lss 40 (i 0)]) (C 41
 (.exit 0) X)) (Q (O [m 42 9,m 43 10,m 44 0,m 45 11,m 46 2,ar 47 .add 45 46,o 48 (.sls (t 44) none (some (t 47))),ia 49 1 42 43,n (.st 1 (t 49) (t 48))]) (Q (O [m 50 0,m 51
 11,m 52 1,lt 53 52,ar 54 .add 51 53,o 55 (.sls (t 50) (some (t 54)) none),m 0 55]) (ic 56 10 57)))))))
def pI:AC:=
 (Q (O [mc 8 (.c (.slice .nil 1 []))]) (Q (Q (O [m 12 3,ac 13 .eql 12 (i 0)]) (C 13 (Q (O [mc 8 (.c (.slice .nil 1 []))]) R) X)) (Q (Q (O [m 14 1,ac 15 .eql 14 (s [])]) (C 15 (Q (O
 [m 16 0,m 17 3,k2 18 q5 16 17,m 8 18]) R) X)) (Q (Q (O [m 19 3,ac 20 .lss 19 (i 0)]) (C 20 (O [m 21 0,m 22 1,k2 23 gQ 21 22,ad 24 23,m 3 24]) X))
 (Q (O [m 25 3,m 26 0,lt 27 26,ad 28 27,o 29 (.mn (t 25) (t 28)),m 3 29]) (Q (O [m 30 3,o 31 (.ms ct 16 [(.str [])] (t 30) (t 30)),m 9 31]) (Q (O [m 32 3,ac 33 .sub 32
 (i 1),m 3 33]) (Q (O [mc 10 (i 0)]) (Q (.block 0 (.loop ⟨none,[],false⟩ oh)) (Q (O [m 58 9,m 59 10,m 60 0,ia 61 1 58 59,n (.st 1 (t 61) (t 60))]) (Q (O [m
 62 9,m 63 10,ad 64 63,o 65 (.sll 1 (t 62) none (some (t 64)) none),m 8 65]) R)))))))))))
def pJ:AFn:=⟨pI,66,[.t 8],.keep,[],none⟩
def lN:AC:=
 (.block 0 (Q (O [o 6 (.eq false (.ifc true) (t 4) (.c .nilif))]) (C 6 (O [m 1 4]) (Q (O [o 7 (.ta ki (some (.agg [])) true (t 4)),ex 8 7 1,ex 9 7 0]) (C 8 (Q (O [o 2
 (.nw [] ki),n (.st 0 (t 2) (t 9))]) (O [n (.st 1 (t 0) F)])) (Q (O [m 3 4]) (O [m 5 3,⟨none,none,(.panic (.t 5))⟩])))))))
def eQ:AFn:=⟨lN,10,[],.keep,[],none⟩
def uX:AC:=
 (Q (O [mc 0 (.c .nilmap)]) (Q (O [o 1 .mm,o 2 (.bd [(.int .i64 0),(.int .i64 0),(.bool false),.nilfn] [(0,1),(1,1),(2,1),(3,1)] [(0,(i 0)),(1,(i 1)),(2,F),(3,(f
 sZ))]),n (.mu .str (t 1) (s [118,111,119,101,108,115]) (t 2)),o 3 (.bd [(.int .i64 0),(.int .i64 0),(.bool false),.nilfn] [(0,1),(1,1),(2,1),(3,1)]
 [(0,(i 1)),(1,(i 1)),(2,T),(3,(f s3))]),n (.mu .str (t 1) (s [116,114,97,105,116]) (t 3)),o 4 (.bd [(.int .i64 0),(.int .i64 0),(.bool false),.nilfn]
 [(0,1),(1,1),(2,1),(3,1)] [(0,(i 2)),(1,(i 1)),(2,F),(3,(f s4))]),n (.mu .str (t 1) (s [99,108,97,115,115]) (t 4)),o 5 (.bd [(.int .i64 0),(.int
 .i64 0),(.bool false),.nilfn] [(0,1),(1,1),(2,1),(3,1)] [(0,(i 2)),(1,(i 3)),(2,T),(3,(f s5))]),n (.mu .str (t 1) (s [115,108,111,116]) (t 5)),o 6
 (.bd [(.int .i64 0),(.int .i64 0),(.bool false),.nilfn] [(0,1),(1,1),(2,1),(3,1)] [(0,(i 3)),(1,(i 2)),(2,T),(3,(f s6))]),n (.mu .str (t 1) (s [101,
 110,116,114,121]) (t 6)),o 7 (.bd [(.int .i64 0),(.int .i64 0),(.bool false),.nilfn] [(0,1),(1,1),(2,1),(3,1)] [(0,(i 3)),(1,(i 2)),(2,F),(3,(f
 s7))]),n (.mu .str (t 1) (s [102,111,114,109]) (t 7)),o 8 (.bd [(.int .i64 0),(.int .i64 0),(.bool false),.nilfn] [(0,1),(1,1),(2,1),(3,1)] [(0,(i 4)),
 (1,(i 4)),(2,F),(3,(f s8))]),n (.mu .str (t 1) (s [115,112,101,108,108]) (t 8)),o 9 (.bd [(.int .i64 0),(.int .i64 0),(.bool false),.nilfn] [(0,1),(1,
 1),(2,1),(3,1)] [(0,(i 5)),(1,(i 2)),(2,T),(3,(f s9))]),n (.mu .str (t 1) (s [108,105,110,107]) (t 9)),m 10 1,m 0 10]) R))
def uY:AFn:=⟨uX,11,[.t 0],.keep,[],none⟩
def tf:AC:=
 (Q (O [m 2 0,no 3 2]) (C 3 (O [o 4 (.bd [] [] []),o 5 (.mi ki (t 4)),⟨none,none,(.panic (.t 5))⟩]) X))
def tg:AFn:=⟨tf,6,[],.keep,[],none⟩
def rl:AC:=
 (Q (O [mc 6 (.c (.slice .nil 1 []))]) (Q (O [m 7 0,m 8 1,m 9 2,k 10 (f ja) [(t 7),(t 8),(i 0),(t 9)],m 6 10]) R))
def rm:AFn:=⟨rl,11,[.t 6],.keep,[],none⟩
def gh:AC:=
 (Q (O [mc 4 (i 0),mc 5 (.c .nilif)]) (Q (O [m 6 0,k1 7 bb 6]) (Q (O [m 8 0,m 9 0,o 10 (.nc (t 9)),fa 11 1 10,ld 12 11,m 13 1,o 14 (.ap false mZ
 1 1 true (t 12) (t 13)),o 15 (.nc (t 8)),fa 16 1 15,n (.st 1 (t 16) (t 14))]) (Q (O [m 17 1,lt 18 17,m 4 18,mc 5 (.c .nilif)]) R))))
def gi:AFn:=⟨gh,19,[.t 4,.t 5],.keep,[],none⟩
def gY:AC:=
 (Q (O [mc 4 (.c .nilif)]) (Q (O [m 5 0,k1 6 bb 5]) (Q (O [m 7 0,m 8 0,o 9 (.nc (t 8)),fa 10 1 9,ld 11 10,m 12 1,o 13 (.bs 1 [(.int .u8 0)] 1 [(0,(t
 12))]),o 14 (.ap false mZ 1 1 false (t 11) (t 13)),o 15 (.nc (t 7)),fa 16 1 15,n (.st 1 (t 16) (t 14))]) (Q (O [mc 4 (.c .nilif)]) R))))
def gZ:AFn:=⟨gY,17,[.t 4],.keep,[],none⟩
def kr:AC:=
 (Q (O [mc 2 (s [])]) (Q (O [m 3 0,k 4 (f gS) [(t 3),(i 10)],m 2 4]) R))
def ks:AFn:=⟨kr,5,[.t 2],.keep,[],none⟩
def th:AC:=
 (Q (O [mc 2 F]) (Q (O [m 3 0,ac 4 .geq 3 (u 97),m 5 4,g 6 5 (.mv (t 0)),g 7 5 (.ar .leq (t 6) (u 122)),pf 8 5 7,m 2 8]) R))
def ti:AFn:=⟨th,9,[.t 2],.keep,[],none⟩
def vA:AC:=
 (Q (O [mc 2 F]) (Q (O [o 3 (.nw [.nilfn] rj),n (.st 1 (t 3) (f uL))]) (Q (D [Pm 4 0,W (lt 5 4),P (ac 6 .geq 5 (i 1)),Pm 7 6,P (g 8 7 (.mv (t 0))),W
 (g 9 7 (.len .str (t 8))),P (g 10 7 (.ar .leq (t 9) (i 12))),P (pf 11 7 10),Pm 12 11,W (g 13 12 (.ld none (t 3))),P (g 14 12 (.mv (t 0))),P (g 15 12 (.ixs (t 14) (i 0))),E
 (⟨(some 16),(some (12,true)),(.call (.t 13) [(.t 15)])⟩),P (pf 17 12 16),Pm 18 17,P (g 19 18 (.mv (t 0))),P (g 20 18 (.mf (.func uM) [] [(t 3)])),E (⟨(some 21),
 (some (18,true)),(.call (.c (.fn (.func jY) [] [])) [(.t 19),(.t 20)])⟩),P (pf 22 18 21),Pm 2 22]) R)))
def vB:AFn:=⟨vA,23,[.t 2],.keep,[],none⟩
def bY:AC:=
 (Q (O [mc 4 F]) (Q (O [m 5 0,m 6 1,k2 7 aT 5 6,ac 8 .geq 7 (i 0),m 4 8]) R))
def bZ:AFn:=⟨bY,9,[.t 4],.keep,[],none⟩
def ku:AC:=
 (Q (O [o 2 (.bx gv (t 0)),mc 3 F]) (Q (O [fa 4 0 2,ld 5 4,fa 6 0 1,ld 7 6,ar 8 .eql 5 7,m 3 8]) R))
def kx:AFn:=⟨ku,9,[.t 3],.keep,[],none⟩
def fB:AC:=
 (Q (O [mc 4 F]) (Q (O [m 5 0,m 6 1,k2 7 gT 5 6,ac 8 .geq 7 (i 0),m 4 8]) R))
def fC:AFn:=⟨fB,9,[.t 4],.keep,[],none⟩
def b4:AC:=
 (Q (O [mc 4 F]) (Q (O [m 5 0,m 6 1,k2 7 aU 5 6,ac 8 .geq 7 (i 0),m 4 8]) R))
def b5:AFn:=⟨b4,9,[.t 4],.keep,[],none⟩
def ky:AC:=
 (Q (O [o 2 (.bx bc (t 0)),mc 3 F]) (Q (O [fa 4 0 2,ld 5 4,fa 6 0 1,ld 7 6,ar 8 .eql 5 7,m 3 8]) R))
def kz:AFn:=⟨ky,9,[.t 3],.keep,[],none⟩
def kA:AC:=
 (Q (O [bl 17 16 15]) (Q (C 17 X (.exit 0)) (Q (.block 1 (Q (O [m 18 16,ia 19 4 14 16,la 20 4 19,o 8 (.nw [(.int .i64 0),(.str []),(.str []),(.slice .nil 2 [])] aM),m
 7 18,n (.st 4 (t 8) (t 20))]) (Q (O [m 21 2,m 22 7,la 23 4 8,k 24 (t 21) [(t 22),(t 23)],m 9 24]) (Q (O [m 25 9,ac 26 .neq 25 (u 0)]) (C 26 (Q (O [m 27 9,m 6 27]) R) X)))))
 (O [ad 28 16,m 16 28]))))
def nC:AC:=
 (Q (O [mc 6 (u 0)]) (Q (Q (O [m 10 0,ls 11 10,m 12 1,ar 13 .gtr 11 12]) (C 13 (rt 6 (u 3)) X)) (Q (Q (O [m 14 0,ls 15 14,mc 16 (i 0)]) (.block 0 (.loop ⟨none,[],false⟩
 kA))) (rt 6 (u 0)))))
def nD:AFn:=⟨nC,29,[.t 6],.keep,[],none⟩
def kB:AC:=
 (Q (O [o 4 (.bx aM (t 1)),mc 5 (u 0)]) (Q (Q (O [fa 6 0 4,ld 7 6,ac 8 .lss 7 (i 0),m 9 8,h 10 9 (.fa 0 (t 4)),h 11 9 (.ld none (t 10)),h 12 9 (.ar .gtr (t 11) (i
 24)),pt 13 9 12,m 14 13,h 15 14 (.fa 1 (t 4)),h 16 14 (.ld none (t 15)),⟨(some 17),(some (14,false)),(.call (.c (.fn (.func bI) [] [])) [(.t 16),(.c (.fn (.func
 aS) [] []))])⟩,h 18 14 (.un .not (t 17)),pt 19 14 18,m 20 19,h 21 20 (.fa 2 (t 4)),h 22 20 (.ld none (t 21)),⟨(some 23),(some (20,false)),(.call (.c (.fn (.func
 bI) [] [])) [(.t 22),(.c (.fn (.func aS) [] []))])⟩,h 24 20 (.un .not (t 23)),pt 25 20 24]) (C 25 (rt 5 (u 1)) X)) (Q (O [la 26 6 2,fa 27 3 4,ld 28 27,
 k2 29 bW 26 28,m 5 29]) R)))
def kC:AFn:=⟨kB,30,[.t 5],.keep,[],none⟩
def uZ:AC:=
 (Q (O [mc 4 F]) (Q (O [m 5 0,lt 6 5,ac 7 .leq 6 (i 6),m 8 7,g 9 8 (.mv (t 0)),g 10 8 (.mv (t 1)),⟨(some 11),(some (8,true)),(.call (.c (.fn (.func jY) [] [])) [(.t
 9),(.t 10)])⟩,pf 12 8 11,m 4 12]) R))
def u0:AFn:=⟨uZ,13,[.t 4],.keep,[],none⟩
def lO:AC:=
 (Q (O [o 2 (.bx aN (t 0)),o 3 (.bx kg (t 1)),mc 4 (u 0)]) (Q (O [ld 5 3,o 6 (.mf (.func ke) [] [(t 2),(t 3)]),k 7 (f
 oa) [(t 5),(i 8),(t 6)],m 4 7]) R))
def lP:AFn:=⟨lO,8,[.t 4],.keep,[],none⟩
def rX:AC:=
 (Q (O [o 2 (.bx cH (t 0)),o 3 (.bx ct (t 1)),o 4 (.nw [(.str []),(.slice .nil 4 [])] bc),mc 5 F]) (Q (O [fa 7 2 2,ld 8 7,o 9 (.mf (.func
 q6) [] [(t 3)]),k2 10 aU 8 9,m 6 10]) (Q (Q (O [m 11 6,ac 12 .lss 11 (i 0)]) (C 12 (Q (O [o 13 (.bd [(.str []),(.slice .nil 4
 [])] [(0,1),(1,1)] []),n (.st 2 (t 4) (t 13)),mc 5 F]) R) X)) (Q (O [fa 14 2 2,ld 15 14,m 16 6,ia 17 2 15 16,la 18 2 17,n (.st 2 (t 4) (t 18)),mc 5 T]) R))))
def rY:AFn:=⟨rX,19,[.cell 4 (some 2),.t 5],.keep,[],none⟩
def u1:AC:=
 (Q (O [mc 2 F]) (Q (O [m 3 0,k1 4 q4 3,m 5 4,g 6 5 (.mv (t 0)),⟨(some 7),(some (5,true)),(.call (.c (.fn (.func jY) [] [])) [(.t 6),(.c (.fn (.func
 aS) [] []))])⟩,pf 8 5 7,m 2 8]) R))
def u3:AFn:=⟨u1,9,[.t 2],.keep,[],none⟩
def b6:AC:=
 (Q (O [mc 4 F]) (Q (O [m 5 0,m 6 1,k2 7 de 5 6,ac 8 .geq 7 (i 0),m 4 8]) R))
def b7:AFn:=⟨b6,9,[.t 4],.keep,[],none⟩
def kD:AC:=
 (Q (O [o 2 (.bx j0 (t 0)),mc 3 F]) (Q (O [fa 4 0 2,ld 5 4,fa 6 0 1,ld 7 6,ar 8 .eql 5 7,m 9 8,g 10 9 (.fa 1 (t 2)),g 11 9 (.ld none (t 10)),g 12 9 (.fa 1 (t 1)),g
 13 9 (.ld none (t 12)),g 14 9 (.ar .eql (t 11) (t 13)),pf 15 9 14,m 3 15]) R))
def kE:AFn:=⟨kD,16,[.t 3],.keep,[],none⟩
def cK:AC:=
 (Q (O [mc 4 F]) (Q (O [m 5 0,m 6 1,k2 7 dL 5 6,ac 8 .geq 7 (i 0),m 4 8]) R))
def cL:AFn:=⟨cK,9,[.t 4],.keep,[],none⟩
def kF:AC:=
 (Q (O [o 2 (.bx aM (t 0)),mc 3 F]) (Q (O [fa 4 2 1,ld 5 4,fa 6 3 2,ld 7 6,k2 8 vt 5 7,m 3 8]) R))
def kG:AFn:=⟨kF,9,[.t 3],.keep,[],none⟩
def u4:AC:=
 (Q (O [o 3 (.bx kg (t 1)),mc 4 F]) (Q (O [m 5 0,o 6 (.mf (.func tb) [] [(t 3)]),k2 7 aw 5 6,m 4 7]) R))
def u5:AFn:=⟨u4,8,[.t 4],.keep,[],none⟩
def bh:AC:=
 (Q (O [mc 4 F]) (Q (O [m 5 0,m 6 1,k2 7 bJ 5 6,ac 8 .geq 7 (i 0),m 4 8]) R))
def bj:AFn:=⟨bh,9,[.t 4],.keep,[],none⟩
def kH:AC:=
 (Q (O [o 2 (.bx ez (t 0)),mc 3 F]) (Q (O [fa 4 0 2,ld 5 4,fa 6 0 1,ld 7 6,ar 8 .eql 5 7,m 3 8]) R))
def kI:AFn:=⟨kH,9,[.t 3],.keep,[],none⟩
def tj:AC:=
 (Q (O [mc 2 F]) (Q (O [m 3 0,k1 4 aS 3,m 5 4,h 6 5 (.mv (t 0)),h 7 5 (.ar .eql (t 6) (u 43)),pt 8 5 7,m 2 8]) R))
def tk:AFn:=⟨tj,9,[.t 2],.keep,[],none⟩
def tl:AC:=
 (Q (O [mc 2 F]) (Q (O [m 3 0,k1 4 jb 3,m 5 4,h 6 5 (.mv (t 0)),h 7 5 (.ar .eql (t 6) (u 35)),pt 8 5 7,m 9 8,h 10 9 (.mv (t 0)),h 11 9 (.ar .eql (t 10) (u 86)),
 pt 12 9 11,m 13 12,h 14 13 (.mv (t 0)),h 15 13 (.ar .eql (t 14) (u 67)),pt 16 13 15,m 2 16]) R))
def tm:AFn:=⟨tl,17,[.t 2],.keep,[],none⟩
def lQ:AC:=
 (Q (O [o 2 (.bx ag (t 0)),mc 4 (i 0)]) (Q (D [Pf 8 0 2,W (la 9 6 8),Pf 10 0 2,Pf 11 3 10,Wl 12 11,Pm 13 1,P (ia 14 4 12 13),Pf 15 1 14,Wl 16 15,W (k2 17
 ey 9 16),Pm 7 17,P (ex 18 7 0),P (ex 19 7 1),K (o 5 (.nw [(.str []),(.slice .nil 4 [])] bc)),E (n (.st 2 (t 5) (t 18))),Pm 6 19]) (Q (O [fa 20 1 5,ld
 21 20,ls 22 21,m 4 22]) R)))
def lR:AFn:=⟨lQ,23,[.t 4],.keep,[],none⟩
def jH:AC:=
 (Q (O [ld 3 1,k1 4 fY 3]) (C 4 (O [ld 5 1,o 6 (.nc (t 5)),fa 7 6 6,ld 8 7,m 9 0,k 10 (f jX) [(t 8),(s []),(t 9)]]) X))
def jI:AFn:=⟨jH,11,[],.keep,[],none⟩
def o7:AC:=
 (Q (O [ac 29 .lss 28 (i 26)]) (Q (C 29 X (.exit 0)) (Q (.block 1 (Q (O [m 30 28,o 31 (.ixa 26 none 1 (t 27) (t 28)),m 7 30,m 8 31]) (Q (O [m 32 8,o 33 (.eq true .ptr (t 32) (.c
 .nilp)),m 34 33,g 35 34 (.mv (t 8)),g 36 34 (.mv (t 1)),g 37 34 (.mv (t 7)),g 38 34 (.ar .add (i 97) (t 37)),g 39 34 (.cvi .i32 (t 38)),g 40 34 (.cvs (t 39)),g 41 34 (.ar
 .add (t 36) (t 40)),g 42 34 (.mv (t 2)),⟨(some 43),(some (34,true)),(.call (.c (.fn (.func jX) [] [])) [(.t 35),(.t 41),(.t 42)])⟩,g 44 34 (.un .not (t 43)),
 pf 45 34 44]) (C 45 (rt 6 F) X)))) (O [ad 46 28,m 28 46]))))
def qe:AC:=
 (Q (O [mc 6 F]) (Q (Q (O [m 9 0,o 10 (.nc (t 9)),fa 11 26 10,ld 12 11,ac 13 .gtr 12 (i 0),m 14 13,g 15 14 (.mv (t 2)),g 16 14 (.mv (t 1)),g 17 14 (.mv (t 0)),g 18 14 (.nc
 (t 17)),g 19 14 (.fa 26 (t 18)),g 20 14 (.ld none (t 19)),⟨(some 21),(some (14,true)),(.call (.t 15) [(.t 16),(.t 20)])⟩,g 22 14 (.un .not (t 21)),pf 23 14 22]) (C 23 (rt 6
 F) X)) (Q (Q (O [m 24 0,o 25 (.nc (t 24)),fa 26 0 25,la 27 26 26,mc 28 (i 0)]) (.block 0 (.loop ⟨none,[],false⟩ o7))) (rt 6 T))))
def qf:AFn:=⟨qe,47,[.t 6],.keep,[],none⟩
def u6:AC:=
 (Q (O [bl 9 8 7]) (Q (C 9 X (.exit 0)) (Q (.block 1 (Q (O [m 10 8,m 5 10]) (Q (O [m 11 1,m 12 0,m 13 5,o 14 (.ixs (t 12) (t 13)),k 15 (t 11) [(t 14)],no 16 15]) (C 16 (rt 4 F)
 X)))) (O [ad 17 8,m 8 17]))))
def wP:AC:=
 (Q (O [mc 4 F]) (Q (Q (O [m 6 0,lt 7 6,mc 8 (i 0)]) (.block 0 (.loop ⟨none,[],false⟩ u6))) (rt 4 T)))
def wQ:AFn:=⟨wP,18,[.t 4],.keep,[],none⟩
def tn:AC:=
 (Q (O [mc 2 F]) (Q (O [m 3 0,ac 4 .geq 3 (u 33),m 5 4,g 6 5 (.mv (t 0)),g 7 5 (.ar .leq (t 6) (u 126)),pf 8 5 7,m 2 8]) R))
def tp:AFn:=⟨tn,9,[.t 2],.keep,[],none⟩
def hL:AC:=
 (Q (O [bl 32 31 30]) (Q (C 32 X (.exit 2)) (Q (.block 3 (Q (O [m 33 31,ia 34 3 29 31,la 35 3 34,o 11 (.nw [(.str []),(.str []),(.slice .nil 2 [])] jg),m 10 33,n (.st
 3 (t 11) (t 35))]) (Q (O [la 36 6 2,fa 37 0 7,ld 38 37,la 39 4 8,la 40 3 11,k 41 (f mS) [(t 36),(t 38),(t 39),(t 40)]]) (C 41 (O [m 42 5,fa 43 0 7,ld
 44 43,fa 45 1 7,ld 46 45,m 47 10,o 48 (.bd [(.int .i64 0),(.int .i64 0),(.int .i64 0)] [(0,1),(1,1),(2,1)] [(0,(t 44)),(1,(t 46)),(2,(t 47))]),fa 49 2 7,ld 50 49,
 fa 51 1 11,ld 52 51,ar 53 .add 50 52,o 54 (.bd [(.int .i64 0),(.int .i64 0),(.int .i64 0),(.str [])] [(0,3),(3,1)] [(0,(t 48)),(1,(t 53))]),o 55 (.bs 4 [(.int .i64 0),
 (.int .i64 0),(.int .i64 0),(.str [])] 1 [(0,(t 54))]),o 56 (.ap false nT 4 40 false (t 42) (t 55)),m 5 56]) X)))) (O [ad 57 31,m 31 57]))))
def hP:AC:=
 (Q (O [bl 15 14 13]) (Q (C 15 X (.exit 0)) (Q (.block 1 (Q (O [ia 16 3 12 14,la 17 3 16,o 7 (.nw [(.int .i64 0),(.int .i64 0),(.str [])] kh),n (.st 3 (t 7) (t 17))])
 (Q (O [la 19 6 2,fa 20 0 7,ld 21 20,fa 22 1 7,ld 23 22,k 24 (f cI) [(t 19),(t 21),(t 23)],m 18 24,ex 25 18 0,ex 26 18 1,o 8 (.nw [(.int .i64 0),(.str
 []),(.str []),(.slice .nil 2 [])] aM),n (.st 4 (t 8) (t 25)),m 9 26]) (Q (O [fa 27 0 2,fa 28 5 27,ld 29 28,ls 30 29,mc 31 (i 0)]) (.block 2 (.loop ⟨none,[],false⟩
 hL)))))) (O [ad 58 14,m 14 58]))))
def jk:AC:=
 (Q (O [o 2 (.bx ag (t 0)),mc 4 (.c (.slice .nil 4 []))]) (Q (O [mc 5 (.c (.slice .nil 4 []))]) (Q (Q (O [m 12 1,ls 13 12,mc 14 (i 0)]) (.block 0 (.loop ⟨none,[],
 false⟩ hP))) (Q (O [m 59 5,m 4 59]) R))))
def jl:AFn:=⟨jk,60,[.t 4],.keep,[],none⟩
def pK:AC:=
 (Q (O [bl 23 22 21]) (Q (C 23 X (.exit 0)) (Q (.block 1 (Q (O [ia 24 3 20 22,la 25 3 24,o 13 (.nw [(.int .i64 0),(.int .i64 0),(.str [])] kh),n (.st 3 (t 13) (t
 25))]) (Q (O [fa 26 2 13,ld 27 26,m 28 2,ar 29 .eql 27 28]) (C 29 (D [Pm 30 11,Pm 31 4,Pf 33 0 13,Wl 34 33,Pf 35 1 13,Wl 36 35,K (k1 32 bg
 31),P (o 37 (.bd [(.slice .nil 3 []),(.int .i64 0),(.int .i64 0)] [(0,1),(1,1),(2,1)] [(0,(t 32)),(1,(t 34)),(2,(t 36))])),P (o 38 (.bs 3 [(.slice .nil 0 []),(.int
 .i64 0),(.int .i64 0)] 1 [(0,(t 37))])),E (o 39 (.ap false jh 3 40 false (t 30) (t 38))),Pm 11 39]) X)))) (O [ad 40 22,m 22 40]))))
def pL:AC:=
 (Q (O [bl 45 44 43]) (Q (C 45 X (.exit 2)) (Q (.block 3 (Q (O [ia 46 4 42 44,la 47 4 46,o 15 (.nw [(.int .i64 0),(.int .i64 0),(.int .i64 0),(.str [])] nT),n (.st
 4 (t 15) (t 47))]) (Q (O [m 49 2,fa 50 3 15,ld 51 50,k2 52 pE 49 51,m 48 52,ex 53 48 0,ex 54 48 1,m 16 53,m 17 54]) (Q (O [m 55 17]) (C 55 (D [Pm 56 11,Pm
 57 0,Pm 58 1,Pm 59 16,Pm 60 3,P (ac 61 .sub 60 (i 1)),Pm 62 4,Pf 64 0 15,W (la 65 3 64),P (o 66 (.bs 3 [(.int .i64 0),(.int .i64 0),(.int .i64 0)] 1 [(0,(t 65))])),K (k1
 63 bg 62),E (o 67 (.ap false sP 3 24 false (t 63) (t 66))),K (k 68 (f lj) [(t 57),(t 58),(t 59),(t 61),(t 67)]),E (o 69
 (.ap false jh 3 40 false (t 56) (t 68))),Pm 11 69]) X))))) (O [ad 70 44,m 44 70]))))
def rn:AC:=
 (Q (O [mc 10 (.c (.slice .nil 3 []))]) (Q (O [mc 11 (.c (.slice .nil 3 []))]) (Q (Q (O [m 18 3,ac 19 .eql 18 (i 0)]) (C 19 (Q (Q (O [m 20 0,ls 21 20,mc 22 (i 0)]) (.block 0
 (.loop ⟨none,[],false⟩ pK))) (Q (O [m 41 11,m 10 41]) R)) X)) (Q (Q (O [m 42 1,ls 43 42,mc 44 (i 0)]) (.block 2 (.loop ⟨none,[],false⟩ pL)))
 (Q (O [m 71 11,m 10 71]) R)))))
def rp:AFn:=⟨rn,72,[.t 10],.keep,[],none⟩
def nE:AC:=
 (Q (O [o 3 (.bx ag (t 0)),o 6 (.nw [(.int .i64 0),(.str []),(.str []),(.slice .nil 2 [])] aM),mc 7 F]) (Q (Q (O [m 10 1,ac 11 .lss 10 (i 0),m 12 11,h
 13 12 (.mv (t 1)),h 14 12 (.fa 0 (t 3)),h 15 12 (.fa 3 (t 14)),h 16 12 (.ld none (t 15)),h 17 12 (.len .sl (t 16)),h 18 12 (.ar .geq (t 13) (t 17)),pt 19 12 18]) (C 19 (Q (O
 [o 20 (.bd [(.int .i64 0),(.str []),(.str []),(.slice .nil 2 [])] [(0,1),(1,1),(2,1),(3,1)] []),n (.st 4 (t 6) (t 20)),mc 7 F]) R) X)) (Q (D [Pf 22 0 3,W (la 23 6 22),
 Pf 24 0 3,Pf 25 3 24,Wl 26 25,Pm 27 1,P (ia 28 4 26 27),Pf 29 1 28,Wl 30 29,W (k2 31 ey 23 30),Pm 21 31,P (ex 32 21 0),P (ex 33 21 1),K (o 8 (.nw [(.str []),
 (.slice .nil 4 [])] bc)),E (n (.st 2 (t 8) (t 32))),Pm 9 33]) (Q (Q (O [m 34 2,ac 35 .lss 34 (i 0),m 36 35,h 37 36 (.mv (t 2)),h 38 36 (.fa 1 (t 8)),h 39 36 (.ld
 none (t 38)),h 40 36 (.len .sl (t 39)),h 41 36 (.ar .geq (t 37) (t 40)),pt 42 36 41]) (C 42 (Q (O [o 43 (.bd [(.int .i64 0),(.str []),(.str []),(.slice .nil 2 [])] [(0,1),
 (1,1),(2,1),(3,1)] []),n (.st 4 (t 6) (t 43)),mc 7 F]) R) X)) (Q (O [fa 44 1 8,ld 45 44,m 46 2,ia 47 4 45 46,la 48 4 47,n (.st 4 (t 6) (t 48)),mc 7 T]) R)))))
def nF:AFn:=⟨nE,49,[.cell 6 (some 4),.t 7],.keep,[],none⟩
def jJ:AC:=
 (Q (O [bl 29 28 27]) (Q (C 29 X (.exit 0)) (Q (.block 1 (Q (O [ia 30 4 26 28,la 31 4 30,o 12 (.nw [(.str []),(.str []),(.str []),(.str [])] gy),n (.st 4 (t 12) (t
 31))]) (Q (Q (O [la 33 6 3,la 34 4 12,m 35 8,k 36 (f mT) [(t 33),(t 34),(t 35)],m 32 36,ex 37 32 0,ex 38 32 1,m 8 37,m 9 38]) (Q (O [m 39 9,no 40 39])
 (C 40 (Q (O [mc 6 (.c (.slice .nil 1 [])),mc 7 F]) R) X))) (O [m 41 10,m 42 8,o 43 (.bs 1 [(.str [])] 1 [(0,(t 42))]),o 44 (.ap false ct 1 16 false (t 41) (t 43)),m 10
 44])))) (O [ad 45 28,m 28 45]))))
def lS:AC:=
 (Q (O [o 3 (.bx ag (t 0)),o 5 (.bx aM (t 2)),mc 6 (.c (.slice .nil 1 [])),mc 7 F]) (Q (O [la 14 6 3,m 15 1,la 16 4 5,k 17 (f iw)
 [(t 14),(t 15),(t 16)],m 13 17,ex 18 13 0,ex 19 13 1,m 8 18,m 9 19]) (Q (Q (O [m 20 9,no 21 20]) (C 21 (Q (O [mc 6 (.c (.slice .nil 1 [])),mc 7 F]) R) X)) (Q (O [m 22 8,o
 23 (.bs 1 [(.str [])] 1 [(0,(t 22))]),m 10 23]) (Q (Q (O [fa 24 0 3,fa 25 4 24,ld 26 25,ls 27 26,mc 28 (i 0)]) (.block 0 (.loop ⟨none,[],false⟩ jJ)))
 (Q (O [m 46 10,m 6 46,mc 7 T]) R))))))
def lT:AFn:=⟨lS,47,[.t 6,.t 7],.keep,[],none⟩
def om:AC:=
 (Q (O [mc 6 (s [])]) (Q (O [m 7 0,m 8 1,m 9 2,k 10 (f q8) [(t 7),(t 8),(t 9),(i (-1))],m 6 10]) R))
def oo:AFn:=⟨om,11,[.t 6],.keep,[],none⟩
def o8:AC:=
 (Q (Q (O [m 22 7,m 23 1,ac 24 .sub 23 (i 1),bl 25 22 24]) (C 25 X (.exit 0))) (Q (.block 1 (Q (O [m 29 0,k1 30 bp 29,m 28 30,ex 31 28 0,ex 32
 28 1,m 8 31,m 9 32]) (Q (O [m 33 6,m 34 7,m 35 0,m 36 9,o 37 (.sls (t 35) none (some (t 36))),ia 38 1 33 34,n (.st 1 (t 38) (t 37))]) (O [m 39 0,m 40 9,o 41 (.sls (t 39)
 (some (t 40)) none),m 0 41])))) (ic 26 7 27)))
def qg:AC:=
 (Q (O [mc 4 (.c (.slice .nil 1 []))]) (Q (O [m 10 0,k1 11 bB 10,m 5 11]) (Q (Q (O [m 12 1,ac 13 .lss 12 (i 0),m 14 13,h 15 14 (.mv (t 1)),h 16 14
 (.mv (t 5)),h 17 14 (.ar .gtr (t 15) (t 16)),pt 18 14 17]) (C 18 (O [m 19 5,m 1 19]) X)) (Q (O [m 20 1,o 21 (.ms ct 16 [(.str [])] (t 20) (t 20)),m 6 21]) (Q (Q (O [mc 7
 (i 0)]) (.block 0 (.loop ⟨none,[],false⟩ o8))) (Q (Q (O [m 42 1,ac 43 .gtr 42 (i 0)]) (C 43 (O [m 44 6,m 45 1,ac 46 .sub 45 (i 1),m 47 0,ia 48 1 44 46,n
 (.st 1 (t 48) (t 47))]) X)) (Q (O [m 49 6,m 4 49]) R)))))))
def qh:AFn:=⟨qg,50,[.t 4],.keep,[],none⟩
def qi:AC:=
 (.block 1 (Q (O [m 20 0,m 21 1,k2 22 gR 20 21,m 6 22]) (Q (Q (O [m 23 6,ac 24 .eql 23 (i (-1))]) (C 24 (Q (O [m 25 5,m 4 25]) R) X)) (Q (ic 26 5 27) (O [m 28 0,m
 29 6,m 30 1,lt 31 30,ar 32 .add 29 31,o 33 (.sls (t 28) (some (t 32)) none),m 0 33])))))
def rZ:AC:=
 (Q (O [mc 4 (i 0)]) (Q (Q (O [m 7 1,lt 8 7,ac 9 .eql 8 (i 0)]) (C 9 (Q (O [m 10 0,k1 11 bB 10,ad 12 11,m 4 12]) R) X)) (Q (Q (O [m 13 1,lt 14 13,
 ac 15 .eql 14 (i 1)]) (C 15 (Q (O [m 16 0,m 17 1,o 18 (.ixs (t 17) (i 0)),k2 19 aE 16 18,m 4 19]) R) X)) (Q (O [mc 5 (i 0)]) (.block 0 (.loop ⟨none,
 [],false⟩ qi))))))
def r1:AFn:=⟨rZ,34,[.t 4],.keep,[],none⟩
def r3:AC:=
 (Q (O [mc 4 (i 0)]) (Q (O [m 5 0,m 6 1,k2 7 cr 5 6,m 4 7]) R))
def r4:AFn:=⟨r3,8,[.t 4],.keep,[],none⟩
def r5:AC:=
 (O [m 4 0,m 5 1,o 6 (.ias 1 (t 5) (i 0)),ld 7 6,k1 8 a8 7,o 9 (.nc (t 4)),fa 10 0 9,fa 11 0 10,n (.st 1 (t 11) (t 8))])
def r6:AFn:=⟨r5,12,[],.keep,[],none⟩
def vC:AC:=
 (Q (O [mc 2 (s [])]) (Q (Q (O [m 3 0,ac 4 .eql 3 (s [45])]) (C 4 (rt 2 (s [])) X)) (Q (O [m 5 0,m 2 5]) R)))
def vD:AFn:=⟨vC,6,[.t 2],.keep,[],none⟩
def r7:AC:=
 (D [Pm 4 0,Pm 5 0,P (o 6 (.nc (t 5))),Pf 7 0 6,Pf 8 1 7,Wl 9 8,Pm 10 1,P (o 11 (.ias 1 (t 10) (i 0))),Wl 12 11,Pm 13 1,P (o 14 (.sll 1 (t 13) (some (i 1)) none none)),P
 (o 15 (.bd [(.str []),(.slice .nil 1 [])] [(0,1),(1,1)] [(0,(t 12)),(1,(t 14))])),P (o 16 (.bs 2 [(.str []),(.slice .nil 0 [])] 1 [(0,(t 15))])),E (o 17 (.ap false
 gv 2 40 false (t 9) (t 16))),P (o 18 (.nc (t 4))),Pf 19 0 18,Pf 20 1 19,E (n (.st 1 (t 20) (t 17)))])
def r8:AFn:=⟨r7,21,[],.keep,[],none⟩
def r9:AC:=
 (D [Pm 4 0,Pm 5 0,P (o 6 (.nc (t 5))),Pf 7 0 6,Pf 8 2 7,Wl 9 8,Pm 10 1,P (o 11 (.ias 1 (t 10) (i 0))),Wl 12 11,P (o 13 (.bd [(.str []),(.slice .nil 4 [])] [(0,1),(1,1)]
 [(0,(t 12))])),P (o 14 (.bs 2 [(.str []),(.slice .nil 0 [])] 1 [(0,(t 13))])),E (o 15 (.ap true bc 2 40 false (t 9) (t 14))),P (o 16 (.nc (t 4))),Pf 17 0 16,Pf 18 2
 17,E (n (.st 1 (t 18) (t 15)))])
def sa:AFn:=⟨r9,19,[],.keep,[0],none⟩
def sb:AC:=
 (Q (O [m 5 0,o 6 (.nc (t 5)),fa 7 6 6,ld 8 7,ac 9 .eql 8 (s [99,108,97,115,115]),m 10 9,h 11 10 (.mv (t 0)),h 12 10 (.nc (t 11)),h 13 10 (.fa 6 (t 12)),h 14 10 (.ld
 none (t 13)),h 15 10 (.ar .eql (t 14) (s [115,108,111,116])),pt 16 10 15,k1 17 aR 16]) (Q (D [Pm 18 0,P (o 19 (.nc (t 18))),Pf 20 0 19,Pf 21 2 20,Wl 22 21,Pm
 23 0,P (o 24 (.nc (t 23))),Pf 25 0 24,Pf 26 2 25,Wl 27 26,W (ls 28 27),P (ac 29 .sub 28 (i 1)),P (ia 30 2 22 29),Pm 4 30]) (D [Pm 31 4,Pm 32 4,P (o 33 (.nc (t 32))),Pf 34
 1 33,Wl 35 34,Pm 36 1,P (o 37 (.ias 1 (t 36) (i 0))),Wl 38 37,Pm 40 1,P (o 41 (.ias 1 (t 40) (i 1))),Wl 42 41,Pm 44 1,P (o 45 (.ias 1 (t 44) (i 2))),Wl 46 45,Pm 48 1,P
 (o 49 (.sll 1 (t 48) (some (i 3)) none none)),K (k1 39 oZ 38),K (k1 43 a8 42),K (k1 47 a8 46),K (k1 50 kd 49),P (o 51 (.bd [(.int
 .i64 0),(.str []),(.str []),(.slice .nil 2 [])] [(0,1),(1,1),(2,1),(3,1)] [(0,(t 39)),(1,(t 43)),(2,(t 47)),(3,(t 50))])),P (o 52 (.bs 4 [(.int .i64 0),(.str []),
 (.str []),(.slice .nil 0 [])] 1 [(0,(t 51))])),E (o 53 (.ap false aM 4 64 false (t 35) (t 52))),P (o 54 (.nc (t 31))),Pf 55 1 54,E (n (.st 1 (t 55) (t 53)))])))
def sd:AFn:=⟨sb,56,[],.keep,[],none⟩
def tq:AC:=
 (Q (O [mc 2 (i 0)]) (Q (O [m 6 0,k1 7 uN 6,m 5 7,ex 8 5 0,ex 9 5 1,m 3 8,m 4 9]) (Q (O [m 10 4,o 11 (.eq false (.ifc true) (t 10) (.c .nilif)),m 12 11,g 13 12
 (.mv (t 3)),g 14 12 (.ar .geq (t 13) (i 0)),pf 15 12 14,m 16 15,g 17 16 (.mv (t 3)),g 18 16 (.ar .leq (t 17) (i 999)),pf 19 16 18,m 20 19,g 21 20 (.mv (t 3)),⟨(some 22),
 (some (20,true)),(.call (.c (.fn (.func iZ) [] [])) [(.t 21)])⟩,g 23 20 (.mv (t 0)),g 24 20 (.ar .eql (t 22) (t 23)),pf 25 20 24,k1 26 aR 25]) (Q (O [m
 27 3,m 2 27]) R))))
def tr:AFn:=⟨tq,28,[.t 2],.keep,[],none⟩
def se:AC:=
 (Q (O [bl 12 11 10]) (Q (C 12 X (.exit 0)) (Q (.block 1 (Q (O [ia 13 1 9 11,ld 14 13,m 5 14]) (Q (O [m 15 5,k 16 (f gQ) [(t 15),(s [61])],ac 17 .eql 16 (i 1),k1
 18 aR 17]) (Q (O [m 20 5,k 21 (f vu) [(t 20),(s [61])],m 19 21,ex 22 19 0,ex 23 19 1,ex 24 19 2,m 6 22,m 7 23,m 8 24]) (O [m 25 3,m 26 6,m 27 7,o
 28 (.bd [(.str []),(.str [])] [(0,1),(1,1)] [(0,(t 26)),(1,(t 27))]),o 29 (.bs 2 [(.str []),(.str [])] 1 [(0,(t 28))]),o 30 (.ap false aY 2 32 false (t 25) (t
 29)),m 3 30]))))) (O [ad 31 11,m 11 31]))))
def u7:AC:=
 (Q (O [mc 2 (.c (.slice .nil 2 []))]) (Q (O [mc 3 (.c (.slice .nil 2 []))]) (Q (Q (O [m 9 0,ls 10 9,mc 11 (i 0)]) (.block 0 (.loop ⟨none,[],false⟩ se))) (Q (O [m
 32 3,m 2 32]) R))))
def u9:AFn:=⟨u7,33,[.t 2],.keep,[],none⟩
def sf:AC:=
 (D [Pm 4 0,Pm 5 0,P (o 6 (.nc (t 5))),Pf 7 0 6,Pf 8 3 7,Wl 9 8,Pm 10 1,P (o 11 (.ias 1 (t 10) (i 0))),Wl 12 11,Pm 13 1,P (o 14 (.ias 1 (t 13) (i 1))),Wl 15 14,Pm 16 1,P
 (o 17 (.sll 1 (t 16) (some (i 2)) none none)),K (k1 18 kd 17),P (o 19 (.bd [(.str []),(.str []),(.slice .nil 2 []),(.slice .nil 2 [])] [(0,1),(1,1),(2,1),(3,
 1)] [(0,(t 12)),(1,(t 15)),(2,(t 18))])),P (o 20 (.bs 4 [(.str []),(.str []),(.slice .nil 0 []),(.slice .nil 0 [])] 1 [(0,(t 19))])),E (o 21 (.ap true j0 4 80
 false (t 9) (t 20))),P (o 22 (.nc (t 4))),Pf 23 0 22,Pf 24 3 23,E (n (.st 1 (t 24) (t 21)))])
def sg:AFn:=⟨sf,25,[],.keep,[0],none⟩
def si:AC:=
 (Q (O [m 5 0,o 6 (.nc (t 5)),fa 7 6 6,ld 8 7,ac 9 .eql 8 (s [101,110,116,114,121]),m 10 9,h 11 10 (.mv (t 0)),h 12 10 (.nc (t 11)),h 13 10 (.fa 6 (t 12)),h 14 10 (.ld
 none (t 13)),h 15 10 (.ar .eql (t 14) (s [102,111,114,109])),pt 16 10 15,k1 17 aR 16]) (Q (D [Pm 18 0,P (o 19 (.nc (t 18))),Pf 20 0 19,Pf 21 3 20,Wl 22 21,Pm
 23 0,P (o 24 (.nc (t 23))),Pf 25 0 24,Pf 26 3 25,Wl 27 26,W (ls 28 27),P (ac 29 .sub 28 (i 1)),P (ia 30 4 22 29),Pm 4 30]) (D [Pm 31 4,Pm 32 4,P (o 33 (.nc (t 32))),Pf 34
 3 33,Wl 35 34,Pm 36 1,P (o 37 (.ias 1 (t 36) (i 0))),Wl 38 37,Pm 40 1,P (o 41 (.ias 1 (t 40) (i 1))),Wl 42 41,K (k1 39 oZ 38),K (k1 43 a8 42),P (o 44
 (.bd [(.int .i64 0),(.str [])] [(0,1),(1,1)] [(0,(t 39)),(1,(t 43))])),P (o 45 (.bs 2 [(.int .i64 0),(.str [])] 1 [(0,(t 44))])),E (o 46 (.ap false ez 2 24
 false (t 35) (t 45))),P (o 47 (.nc (t 31))),Pf 48 3 47,E (n (.st 1 (t 48) (t 46)))])))
def sj:AFn:=⟨si,49,[],.keep,[],none⟩
def sk:AC:=
 (D [Pm 4 0,Pm 5 0,P (o 6 (.nc (t 5))),Pf 7 0 6,Pf 8 4 7,Wl 9 8,Pm 10 1,P (o 11 (.ias 1 (t 10) (i 0))),Wl 12 11,Pm 14 1,P (o 15 (.ias 1 (t 14) (i 1))),Wl 16 15,Pm 18 1,P
 (o 19 (.ias 1 (t 18) (i 2))),Wl 20 19,Pm 22 1,P (o 23 (.ias 1 (t 22) (i 3))),Wl 24 23,K (k1 13 a8 12),K (k1 17 a8 16),K (k1 21 a8 20),K (k1 25
 a8 24),P (o 26 (.bd [(.str []),(.str []),(.str []),(.str [])] [(0,1),(1,1),(2,1),(3,1)] [(0,(t 13)),(1,(t 17)),(2,(t 21)),(3,(t 25))])),P (o 27 (.bs 4
 [(.str []),(.str []),(.str []),(.str [])] 1 [(0,(t 26))])),E (o 28 (.ap false gy 4 64 false (t 9) (t 27))),P (o 29 (.nc (t 4))),Pf 30 0 29,Pf 31 4 30,E (n (.st 1
 (t 31) (t 28)))])
def sm:AFn:=⟨sk,32,[],.keep,[],none⟩
def sn:AC:=
 (D [Pm 4 0,Pm 5 0,P (o 6 (.nc (t 5))),Pf 7 0 6,Pf 8 5 7,Wl 9 8,Pm 10 1,P (o 11 (.ias 1 (t 10) (i 0))),Wl 12 11,Pm 13 1,P (o 14 (.ias 1 (t 13) (i 1))),Wl 15 14,K (k1 16
 a8 15),Pm 17 1,P (o 18 (.sll 1 (t 17) (some (i 2)) none none)),K (k1 19 kd 18),P (o 20 (.bd [(.str []),(.str []),(.slice .nil 2 [])] [(0,1),(1,1),(2,
 1)] [(0,(t 12)),(1,(t 16)),(2,(t 19))])),P (o 21 (.bs 3 [(.str []),(.str []),(.slice .nil 0 [])] 1 [(0,(t 20))])),E (o 22 (.ap false jg 3 56 false (t 9) (t 21))),
 P (o 23 (.nc (t 4))),Pf 24 0 23,Pf 25 5 24,E (n (.st 1 (t 25) (t 22)))])
def so:AFn:=⟨sn,26,[],.keep,[],none⟩
def hQ:AC:=
 (Q (O [m 2 0,o 3 (.nc (t 2)),fa 4 0 3,ld 5 4,o 6 (.eq false .ptr (t 5) (.c .nilp))]) (C 6 (O [m 7 0,m 8 0,o 9 (.cvu (t 8)),k1 10 aW 9,o 11 (.cvf
 fA 2 (t 10)),o 12 (.nc (t 7)),fa 13 0 12,n (.st 1 (t 13) (t 11))]) (Q (O [m 14 0,o 15 (.nc (t 14)),fa 16 0 15,ld 17 16,m 18 0,o 19 (.eq true .ptr (t 17) (t
 18))]) (C 19 .bad X))))
def hT:AFn:=⟨hQ,20,[],.keep,[],none⟩
def lU:AC:=
 (Q (O [m 4 0,k1 5 bb 4]) (Q (Q (O [m 6 1,ac 7 .lss 6 (i 0)]) (C 7 (O [o 8 (.mi ct (s [115,116,114,105,110,103,115,46,66,117,105,108,100,
 101,114,46,71,114,111,119,58,32,110,101,103,97,116,105,118,101,32,99,111,117,110,116])),⟨none,none,(.panic (.t 8))⟩]) X)) (Q (D [Pm 9 0,P (o 10 (.nc (t
 9))),Pf 11 1 10,Wl 12 11,P (o 13 (.cap (t 12))),Pm 14 0,P (o 15 (.nc (t 14))),Pf 16 1 15,Wl 17 16,W (ls 18 17),P (ar 19 .sub 13 18),Pm 20 1,P (bl 21 19 20)]) (C 21 (O [m
 22 0,m 23 1,k2 24 mU 22 23]) X))))
def lV:AFn:=⟨lU,25,[],.keep,[],none⟩
def gA:AC:=
 (Q (O [mc 4 (s [])]) (Q (Q (O [m 10 1,ac 11 .eql 10 (i 10)]) (C 11 (Q (Q (O [m 12 0,o 13 (.ar .leq (i 0) (t 12)),m 14 13,g 15 14 (.mv (t 0)),g 16 14 (.ar .lss (t 15) (i 100)),
 pf 17 14 16]) (C 17 (Q (O [m 18 0,k1 19 kf 18,m 4 19]) R) X)) (Q (O [o 5 (.nw [(.int .u8 0),(.int .u8 0),(.int .u8 0),(.int .u8 0),(.int .u8 0),(.int
 .u8 0),(.int .u8 0),(.int .u8 0),(.int .u8 0),(.int .u8 0),(.int .u8 0),(.int .u8 0),(.int .u8 0),(.int .u8 0),(.int .u8 0),(.int .u8 0),(.int .u8 0),(.int .u8 0),(.int
 .u8 0),(.int .u8 0),(.int .u8 0),(.int .u8 0),(.int .u8 0),(.int .u8 0)] x9)]) (Q (O [m 20 0,o 21 (.cvi .u64 (t 20)),m 6 21]) (Q (Q (O [m 22 0,ac 23 .lss 22 (i 0)])
 (C 23 (O [m 24 6,o 25 (.un .neg (t 24)),m 6 25]) X)) (Q (O [m 26 6,k1 27 gU 26,m 7 27]) (Q (O [m 28 7,o 29 (.ar .add (i 1) (t 28)),o 30 (.sla 24 1 (t
 5) (some (i 1)) (some (t 29))),m 31 6,k2 32 fR 30 31]) (Q (Q (O [m 33 0,ac 34 .lss 33 (i 0)]) (C 34 (Q (O [o 35 (.iaa 24 1 (t 5) (i 0)),n (.st 1 (t
 35) (u 45))]) (Q (O [m 36 7,o 37 (.ar .add (i 1) (t 36)),o 38 (.sla 24 1 (t 5) none (some (t 37))),o 39 (.cvbs (t 38)),m 4 39]) R)) X)) (Q (O [m 40 7,o 41 (.ar .add (i 1) (t
 40)),o 42 (.sla 24 1 (t 5) (some (i 1)) (some (t 41))),o 43 (.cvbs (t 42)),m 4 43]) R)))))))) X)) (Q (O [m 45 0,o 46 (.cvi .u64 (t 45)),m 47 1,m 48 0,ac 49 .lss 48 (i 0),k
 50 (f gu) [(.c (.slice .nil 1 [])),(t 46),(t 47),(t 49),F],m 44 50,ex 51 44 0,ex 52 44 1,m 8 51,m 9 52]) (Q (O [m 53 9,m 4 53]) R))))
def gB:AFn:=⟨gA,54,[.t 4],.keep,[],none⟩
def tt:AC:=
 (Q (O [mc 2 F]) (Q (O [m 3 0,k1 4 aS 3,m 5 4,h 6 5 (.mv (t 0)),h 7 5 (.ar .geq (t 6) (u 65)),h 8 5 (.mv (t 7)),g 9 8 (.mv (t 0)),g 10 8 (.ar .leq (t 9) (u 90)),h
 11 5 (.pk (t 8) (t 10) F),pt 12 5 11,m 2 12]) R))
def tu:AFn:=⟨tt,13,[.t 2],.keep,[],none⟩
def tv:AC:=
 (Q (O [mc 3 F]) (Q (O [ld 4 1,m 5 0,k 6 (t 4) [(t 5)],m 7 6,h 8 7 (.mv (t 0)),h 9 7 (.ar .geq (t 8) (u 48)),h 10 7 (.mv (t 9)),g 11 10 (.mv (t 0)),g 12 10 (.ar .leq (t 11)
 (u 57)),h 13 7 (.pk (t 10) (t 12) F),pt 14 7 13,m 15 14,h 16 15 (.mv (t 0)),h 17 15 (.ar .eql (t 16) (u 95)),pt 18 15 17,m 3 18]) R))
def tw:AFn:=⟨tv,19,[.t 3],.keep,[],none⟩
def cu:AC:=
 (Q (O [bl 9 8 7]) (Q (C 9 X (.exit 0)) (Q (.block 1 (Q (O [m 10 8,m 5 10]) (Q (O [m 11 1,m 12 0,m 13 5,ia 14 2 12 13,la 15 2 14,k 16 (t 11) [(t 15)]]) (C 16 (Q (O [m 17 5,m 4
 17]) R) X)))) (O [ad 18 8,m 8 18]))))
def cW:AC:=
 (Q (O [mc 4 (i 0)]) (Q (Q (O [m 6 0,ls 7 6,mc 8 (i 0)]) (.block 0 (.loop ⟨none,[],false⟩ cu))) (rt 4 (i (-1)))))
def cX:AFn:=⟨cW,19,[.t 4],.keep,[],none⟩
def fV:AC:=
 (Q (O [bl 9 8 7]) (Q (C 9 X (.exit 0)) (Q (.block 1 (Q (O [m 10 8,m 5 10]) (Q (O [m 11 1,m 12 0,m 13 5,ia 14 1 12 13,ld 15 14,ar 16 .eql 11 15]) (C 16 (Q (O [m 17 5,m 4 17])
 R) X)))) (O [ad 18 8,m 8 18]))))
def gC:AC:=
 (Q (O [mc 4 (i 0)]) (Q (Q (O [m 6 0,ls 7 6,mc 8 (i 0)]) (.block 0 (.loop ⟨none,[],false⟩ fV))) (rt 4 (i (-1)))))
def gD:AFn:=⟨gC,19,[.t 4],.keep,[],none⟩
def cw:AC:=
 (Q (O [bl 9 8 7]) (Q (C 9 X (.exit 0)) (Q (.block 1 (Q (O [m 10 8,m 5 10]) (Q (O [m 11 1,m 12 0,m 13 5,ia 14 2 12 13,la 15 2 14,k 16 (t 11) [(t 15)]]) (C 16 (Q (O [m 17 5,m 4
 17]) R) X)))) (O [ad 18 8,m 8 18]))))
def cY:AC:=
 (Q (O [mc 4 (i 0)]) (Q (Q (O [m 6 0,ls 7 6,mc 8 (i 0)]) (.block 0 (.loop ⟨none,[],false⟩ cw))) (rt 4 (i (-1)))))
def cZ:AFn:=⟨cY,19,[.t 4],.keep,[],none⟩
def kJ:AC:=
 (Q (O [bl 17 16 15]) (Q (C 17 X (.exit 0)) (Q (.block 1 (Q (O [m 18 16,ia 19 2 14 16,la 20 2 19,o 8 (.nw [(.str []),(.str [])] aY),m 7 18,n (.st 2 (t 8) (t 20))]) (Q
 (O [m 21 2,m 22 7,la 23 2 8,k 24 (t 21) [(t 22),(t 23)],m 9 24]) (Q (O [m 25 9,ac 26 .neq 25 (u 0)]) (C 26 (Q (O [m 27 9,m 6 27]) R) X))))) (O [ad 28 16,m 16 28]))))
def nG:AC:=
 (Q (O [mc 6 (u 0)]) (Q (Q (O [m 10 0,ls 11 10,m 12 1,ar 13 .gtr 11 12]) (C 13 (rt 6 (u 3)) X)) (Q (Q (O [m 14 0,ls 15 14,mc 16 (i 0)]) (.block 0 (.loop ⟨none,[],false⟩
 kJ))) (rt 6 (u 0)))))
def nH:AFn:=⟨nG,29,[.t 6],.keep,[],none⟩
def jK:AC:=
 (Q (O [o 5 (.bx aY (t 1)),mc 6 (u 0)]) (Q (O [fa 8 0 2,fa 9 1 8,ld 10 9,o 11 (.mf (.func jd) [] [(t 5)]),k2 12
 aT 10 11,m 7 12]) (Q (.block 0 (Q (O [m 14 7,ac 15 .lss 14 (i 0),m 13 15]) (C 13 (rt 6 (u 5)) (Q (D [Pf 17 0 2,Pf 18 1 17,Wl 19 18,Pm 20 7,
 P (ia 21 2 19 20),Pf 22 1 21,Wl 23 22,Pf 24 1 5,Wl 25 24,E (k2 26 bM 23 25),P (no 27 26),Pm 16 27]) (C 16 (rt 6 (u 1)) (Q (D [Pm 29 0,P (ac 30
 .gtr 29 (i 0)),Pm 31 30,W (g 32 31 (.ld none (t 3))),P (g 33 31 (.mv (t 0))),P (g 34 31 (.ar .sub (t 33) (i 1))),P (g 35 31 (.ias 2 (t 32) (t 34))),P (g 36 31 (.fa 0 (t 35))),
 W (g 37 31 (.ld none (t 36))),P (g 38 31 (.fa 0 (t 5))),W (g 39 31 (.ld none (t 38))),P (g 40 31 (.ar .eql (t 37) (t 39))),P (pf 41 31 40),Pm 28 41]) (C 28 (rt 6 (u 6)) (Q (D
 [Pm 43 0,P (ac 44 .gtr 43 (i 0)),Pm 45 44,W (g 46 45 (.ld none (t 3))),P (g 47 45 (.mv (t 0))),P (g 48 45 (.ar .sub (t 47) (i 1))),P (g 49 45 (.ias 2 (t 46) (t 48))),P (g 50
 45 (.fa 0 (t 49))),W (g 51 45 (.ld none (t 50))),P (g 52 45 (.fa 0 (t 5))),W (g 53 45 (.ld none (t 52))),P (g 54 45 (.ar .gtr (t 51) (t 53))),P (pf 55 45 54),Pm 42 55]) (C 42
 (rt 6 (u 1)) X))))))))) (rt 6 (u 0)))))
def jL:AFn:=⟨jK,56,[.t 6],.keep,[],none⟩
def iF:AC:=
 (Q (O [o 2 (.bx gv (t 0)),mc 3 F]) (Q (O [fa 4 0 2,ld 5 4,fa 6 0 1,ld 7 6,ar 8 .eql 5 7,m 3 8]) R))
def iG:AFn:=⟨iF,9,[.t 3],.keep,[],none⟩
def qj:AC:=
 (Q (O [o 2 (.bx bc (t 0)),mc 3 F]) (Q (O [fa 4 0 2,ld 5 4,ld 6 1,ar 7 .eql 5 6,m 3 7]) R))
def qk:AFn:=⟨qj,8,[.t 3],.keep,[],none⟩
def cA:AC:=
 (Q (O [bl 9 8 7]) (Q (C 9 X (.exit 0)) (Q (.block 1 (Q (O [m 10 8,m 5 10]) (Q (O [m 11 1,m 12 0,m 13 5,ia 14 4 12 13,la 15 4 14,k 16 (t 11) [(t 15)]]) (C 16 (Q (O [m 17 5,m 4
 17]) R) X)))) (O [ad 18 8,m 8 18]))))
def c3:AC:=
 (Q (O [mc 4 (i 0)]) (Q (Q (O [m 6 0,ls 7 6,mc 8 (i 0)]) (.block 0 (.loop ⟨none,[],false⟩ cA))) (rt 4 (i (-1)))))
def c4:AFn:=⟨c3,19,[.t 4],.keep,[],none⟩
def c5:AC:=
 (Q (O [bl 9 8 7]) (Q (C 9 X (.exit 0)) (Q (.block 1 (Q (O [m 10 8,m 5 10]) (Q (O [m 11 1,m 12 0,m 13 5,ia 14 4 12 13,la 15 4 14,k 16 (t 11) [(t 15)]]) (C 16 (Q (O [m 17 5,m 4
 17]) R) X)))) (O [ad 18 8,m 8 18]))))
def dx:AC:=
 (Q (O [mc 4 (i 0)]) (Q (Q (O [m 6 0,ls 7 6,mc 8 (i 0)]) (.block 0 (.loop ⟨none,[],false⟩ c5))) (rt 4 (i (-1)))))
def dy:AFn:=⟨dx,19,[.t 4],.keep,[],none⟩
def cM:AC:=
 (Q (O [mc 4 F]) (Q (O [m 5 0,m 6 1,k2 7 dM 5 6,ac 8 .geq 7 (i 0),m 4 8]) R))
def cN:AFn:=⟨cM,9,[.t 4],.keep,[],none⟩
def sq:AC:=
 (Q (O [o 2 (.bx aY (t 0)),mc 3 F]) (Q (O [ld 4 1,o 5 (.mf (.func q7) [] [(t 2)]),k2 6 aw 4 5,m 3 6]) R))
def sr:AFn:=⟨sq,7,[.t 3],.keep,[],none⟩
def ql:AC:=
 (Q (O [o 2 (.bx aY (t 0)),mc 3 F]) (Q (O [fa 4 0 1,ld 5 4,fa 6 0 2,ld 7 6,ar 8 .eql 5 7,m 9 8,g 10 9 (.fa 1 (t 1)),g 11 9 (.ld none (t 10)),g 12 9 (.fa 1 (t 2)),g
 13 9 (.ld none (t 12)),g 14 9 (.ar .neq (t 11) (t 13)),pf 15 9 14,m 3 15]) R))
def qm:AFn:=⟨ql,16,[.t 3],.keep,[],none⟩
def bn:AC:=
 (Q (O [bl 9 8 7]) (Q (C 9 X (.exit 0)) (Q (.block 1 (Q (O [m 10 8,m 5 10]) (Q (O [m 11 1,m 12 0,m 13 5,ia 14 2 12 13,la 15 2 14,k 16 (t 11) [(t 15)]]) (C 16 (Q (O [m 17 5,m 4
 17]) R) X)))) (O [ad 18 8,m 8 18]))))
def bE:AC:=
 (Q (O [mc 4 (i 0)]) (Q (Q (O [m 6 0,ls 7 6,mc 8 (i 0)]) (.block 0 (.loop ⟨none,[],false⟩ bn))) (rt 4 (i (-1)))))
def bF:AFn:=⟨bE,19,[.t 4],.keep,[],none⟩
def lW:AC:=
 (Q (O [o 4 (.bx ag (t 0)),o 6 (.bx aM (t 2)),o 7 (.bx jg (t 3)),mc 8 F]) (Q (D [Pf 9 0 4,Pf 10 3 9,Wl 11 10,Pm 12 1,P (ia 13 4 11 12),Pf 14 1
 13,Wl 15 14,Pf 16 0 7,Wl 17 16,P (ar 18 .eql 15 17),Pm 19 18,P (g 20 19 (.fa 2 (t 7))),W (g 21 19 (.ld none (t 20))),W (g 22 19 (.ld (some 6) (t 4))),P (g 23 19 (.mv (t
 1))),W (g 24 19 (.ld (some 4) (t 6))),K (⟨(some 25),(some (19,true)),(.call (.c (.fn (.func mV) [] [])) [(.t 22),(.t 23),(.t 24)])⟩),K (⟨(some 26),(some
 (19,true)),(.call (.c (.fn (.func rH) [] [])) [(.t 21),(.t 25)])⟩),P (pf 27 19 26),Pm 8 27]) R))
def lX:AFn:=⟨lW,28,[.t 8],.keep,[],none⟩
def ei:AC:=
 (Q (O [mc 2 (.c (.slice .nil 3 []))]) (Q (Q (O [m 3 0,o 4 (.eq false .sl (t 3) (.c (.slice .nil 0 [])))]) (C 4 (Q (O [mc 2 (.c (.slice .nil 3 []))]) R) X)) (Q (O [o 5 (.bs 3 [(.int
 .i64 0),(.int .i64 0),(.int .i64 0)] 0 []),m 6 0,o 7 (.ap false sP 3 24 false (t 5) (t 6)),m 2 7]) R)))
def ej:AFn:=⟨ei,8,[.t 2],.keep,[],none⟩
def o9:AC:=
 (Q (O [mc 4 (s []),mc 5 F]) (Q (O [m 6 0,m 7 1,k2 8 fv 6 7,ex 9 8 0,ex 10 8 1,m 4 9,m 5 10]) R))
def pa:AFn:=⟨o9,11,[.t 4,.t 5],.keep,[],none⟩
def hU:AC:=
 (Q (O [o 3 (.bx ag (t 0)),o 5 (.bx aM (t 2)),mc 6 (s []),mc 7 F]) (Q (O [fa 10 0 3,fa 11 3 10,ld 12 11,m 13 1,ia 14 4 12 13,fa 15 0 14,ld 16 15,m 8
 16]) (Q (Q (O [m 17 8,lt 18 17,fa 19 0 5,ld 20 19,bl 21 18 20]) (C 21 (Q (O [mc 6 (s []),mc 7 F]) R) X)) (Q (O [m 22 8,m 23 8,lt 24 23,fa 25 0 5,ld 26 25,ar 27 .sub 24 26,
 o 28 (.sls (t 22) none (some (t 27))),m 9 28]) (Q (Q (O [fa 29 1 5,ld 30 29,ac 31 .neq 30 (s [])]) (C 31 (O [fa 32 1 5,ld 33 32,ac 34 .add 33 (s [43]),m 35 9,ar 36 .add 34
 35,m 9 36]) X)) (Q (Q (O [fa 37 2 5,ld 38 37,ac 39 .neq 38 (s [])]) (C 39 (O [m 40 9,fa 41 2 5,ld 42 41,o 43 (.ar .add (s [43]) (t 42)),ar 44 .add 40 43,m 9 44]) X)) (Q (O
 [m 45 9,m 6 45,mc 7 T]) R)))))))
def hX:AFn:=⟨hU,46,[.t 6,.t 7],.keep,[],none⟩
def jM:AC:=
 (Q (Q (O [m 10 9,m 11 2,lt 12 11,bl 13 10 12]) (C 13 X (.exit 0))) (.block 1 (Q (D [Pm 14 2,Pm 15 9,P (o 16 (.sls (t 14) (some (t 15)) none)),Pf 17 0 4,Wl 18 17,E (k2 19
 pF 16 18),Pm 20 19,W (g 21 20 (.ld (some 6) (t 3))),P (g 22 20 (.fa 2 (t 4))),W (g 23 20 (.ld none (t 22))),P (g 24 20 (.mv (t 2))),P (g 25 20 (.mv (t 9))),E
 (⟨(some 26),(some (20,true)),(.call (.c (.fn (.func oc) [] [])) [(.t 21),(.t 23),(.t 24),(.t 25)])⟩),P (pf 27 20 26),Pm 28 27,W (g 29 28 (.ld (some 6) (t
 3))),P (g 30 28 (.fa 3 (t 4))),W (g 31 28 (.ld none (t 30))),P (g 32 28 (.mv (t 2))),P (g 33 28 (.mv (t 9))),P (g 34 28 (.fa 0 (t 4))),W (g 35 28 (.ld none (t 34))),W (g 36
 28 (.len .str (t 35))),P (g 37 28 (.ar .add (t 33) (t 36))),E (⟨(some 38),(some (28,true)),(.call (.c (.fn (.func mW) [] [])) [(.t 29),(.t 31),(.t 32),
 (.t 37)])⟩),P (pf 39 28 38)]) (C 39 (Q (O [fa 40 1 4,ld 41 40,k2 42 ai 8 41]) (O [m 43 9,fa 44 0 4,ld 45 44,lt 46 45,ar 47 .add 43 46,m 9 47])) (Q
 (O [m 48 2,m 49 9,o 50 (.ixs (t 48) (t 49)),k2 51 iv 8 50]) (ic 52 9 53))))))
def lY:AC:=
 (Q (O [o 3 (.bx ag (t 0)),o 4 (.bx gy (t 1)),mc 6 (s []),mc 7 F]) (Q (O [o 8 (.nwb [.nilp,(.slice .nil 1 [])] fA 1 mZ)]) (Q (Q (O [mc
 9 (i 0)]) (.block 0 (.loop ⟨none,[],false⟩ jM))) (Q (O [k1 54 ee 8,k1 55 nW 8,ac 56 .leq 55 (i 512),m 6 54,m 7
 56]) R))))
def lZ:AFn:=⟨lY,57,[.t 6,.t 7],.keep,[],none⟩
def pb:AC:=
 (Q (O [bl 54 53 52]) (Q (C 54 X (.exit 0)) (Q (.block 1 (Q (O [m 55 11,m 56 0,m 57 11,o 58 (.sls (t 56) (some (t 57)) none),m 59 1,k2 60 gR 58 59,ar 61 .add 55
 60,m 12 61]) (Q (O [m 62 0,m 63 11,m 64 12,o 65 (.sls (t 62) (some (t 63)) (some (t 64))),k2 66 ai 10 65]) (Q (O [m 67 2,k2 68
 ai 10 67]) (O [m 69 12,m 70 1,lt 71 70,ar 72 .add 69 71,m 11 72]))))) (O [ad 73 53,m 53 73]))))
def pc:AC:=
 (Q (O [bl 79 78 77]) (Q (C 79 X (.exit 2)) (Q (.block 3 (Q (O [m 81 0,m 82 11,o 83 (.sls (t 81) (some (t 82)) none),k1 84 bp 83,m 80 84,ex 85 80
 0,ex 86 80 1,m 13 85,m 14 86]) (Q (O [m 87 11,m 88 14,ar 89 .add 87 88,m 15 89]) (Q (O [m 90 0,m 91 11,m 92 15,o 93 (.sls (t 90) (some (t 91)) (some (t 92))),k2 94
 ai 10 93]) (Q (O [m 95 2,k2 96 ai 10 95]) (O [m 97 15,m 11 97])))))) (O [ad 98 78,m 78 98]))))
def qn:AC:=
 (Q (O [mc 8 (s [])]) (Q (Q (O [m 16 1,m 17 2,ar 18 .eql 16 17,m 19 18,h 20 19 (.mv (t 3)),h 21 19 (.ar .eql (t 20) (i 0)),pt 22 19 21]) (C 22 (Q (O [m 23 0,m 8 23]) R) X)) (Q
 (Q (O [m 24 0,m 25 1,k2 26 gQ 24 25,m 9 26]) (Q (O [m 27 9,ac 28 .eql 27 (i 0)]) (C 28 (Q (O [m 29 0,m 8 29]) R) (Q (O [m 30 3,ac 31 .lss 30 (i 0),m 32 31,h 33
 32 (.mv (t 9)),h 34 32 (.mv (t 3)),h 35 32 (.ar .lss (t 33) (t 34)),pt 36 32 35]) (C 36 (O [m 37 9,m 3 37]) X))))) (Q (O [o 10 (.nw [.nilp,(.slice .nil 1 [])]
 fA)]) (Q (O [m 38 0,lt 39 38,m 40 3,m 41 2,lt 42 41,m 43 1,lt 44 43,ar 45 .sub 42 44,ar 46 .mul 40 45,ar 47 .add 39 46,k2 48 mR 10 47])
 (Q (O [mc 11 (i 0)]) (Q (Q (O [m 49 1,lt 50 49,ac 51 .gtr 50 (i 0)]) (C 51 (Q (O [m 52 3,mc 53 (i 0)]) (.block 0 (.loop ⟨none,[],false⟩ pb))) (Q (O [m 74 2,
 k2 75 ai 10 74]) (Q (O [m 76 3,ac 77 .sub 76 (i 1),mc 78 (i 0)]) (.block 2 (.loop ⟨none,[],false⟩ pc)))))) (Q (O [m 99 0,m 100 11,
 o 101 (.sls (t 99) (some (t 100)) none),k2 102 ai 10 101]) (Q (O [k1 103 ee 10,m 8 103]) R)))))))))
def qo:AFn:=⟨qn,104,[.t 8],.keep,[8],none⟩
def ek:AC:=
 (Q (O [o 5 (.nx (t 4)),ex 6 5 0]) (Q (C 6 X (.exit 0)) (.block 1 (ic 7 2 8))))
def eU:AC:=
 (Q (O [mc 2 (i 0)]) (Q (Q (O [m 3 0,o 4 (.rg (t 3))]) (.block 0 (.loop ⟨none,[],false⟩ ek))) (Q (O [m 9 2,m 2 9]) R)))
def eV:AFn:=⟨eU,10,[.t 2],.keep,[],none⟩
def eD:AC:=
 (Q (O [mc 2 (.c (.int .i32 0)),mc 3 (i 0)]) (Q (Q (O [m 4 0,ac 5 .neq 4 (s []),m 6 5,g 7 6 (.mv (t 0)),g 8 6 (.ixs (t 7) (i 0)),g 9 6 (.ar .lss (t 8) (u 128)),pf 10 6 9]) (C
 10 (Q (O [m 11 0,o 12 (.ixs (t 11) (i 0)),o 13 (.cvi .i32 (t 12)),m 2 13,mc 3 (i 1)]) R) (O [m 15 0,k1 16 dv 15,m 14 16,ex 17 14 0,ex 18
 14 1,m 2 17,m 3 18]))) R))
def eE:AFn:=⟨eD,19,[.t 2,.t 3],.keep,[],none⟩
def fW:AC:=
 (Q (Q (O [m 57 8,m 58 9,bl 59 57 58]) (C 59 X (.exit 1))) (.block 2 (Q (Q (O [m 60 0,m 61 8,o 62 (.ixs (t 60) (t 61)),m 63 6,ar 64 .neq 62 63]) (C 64 (Q (O [m 65 0,m 66 8,ad
 67 66,m 68 9,o 69 (.sls (t 65) (some (t 67)) (some (t 68))),m 70 6,k2 71 aK 69 70,m 11 71]) (Q (Q (O [m 72 11,ac 73 .lss 72 (i 0)]) (C 73 (rt 4
 (i (-1))) X)) (O [m 74 8,m 75 11,ad 76 75,ar 77 .add 74 76,m 8 77]))) X)) (Q (Q (O [m 78 0,m 79 8,ad 80 79,o 81 (.ixs (t 78) (t 80)),m 82 7,ar 83 .eql 81 82,m 84 83,g 85
 84 (.mv (t 0)),g 86 84 (.mv (t 8)),g 87 84 (.mv (t 8)),g 88 84 (.mv (t 5)),g 89 84 (.ar .add (t 87) (t 88)),g 90 84 (.sls (t 85) (some (t 86)) (some (t 89))),g 91 84 (.mv (t
 1)),g 92 84 (.ar .eql (t 90) (t 91)),pf 93 84 92]) (C 93 (Q (O [m 94 8,m 4 94]) R) X)) (Q (ic 95 8 96) (Q (ic 97 10 98) (Q (O [m 99 5,o 100 (.ld none (.c .unk)),ar 101 .leq 99
 100,m 102 101,g 103 102 (.mv (t 10)),g 104 102 (.mv (t 8)),⟨(some 105),(some (102,true)),(.call (.c (.fn (.func je) [] [])) [(.t 104)])⟩,g 106 102
 (.ar .gtr (t 103) (t 105)),pf 107 102 106]) (C 107 (Q (O [m 108 0,m 109 8,o 110 (.sls (t 108) (some (t 109)) none),m 111 1,k2 112 bQ 110 111,m 12
 112]) (Q (Q (O [m 113 12,ac 114 .geq 113 (i 0)]) (C 114 (Q (O [m 115 12,m 116 8,ar 117 .add 115 116,m 4 117]) R) X)) (rt 4 (i (-1))))) (Q (O [m 118 5,o 119 (.ld none (.c
 .unk)),ar 120 .gtr 118 119,m 121 120,g 122 121 (.mv (t 10)),g 123 121 (.mv (t 8)),g 124 121 (.sh .shr (t 123) (.c (.int .u64 4))),g 125 121 (.ar .add (i 4) (t 124)),g 126 121
 (.ar .geq (t 122) (t 125)),pf 127 121 126,m 128 127,g 129 128 (.mv (t 8)),g 130 128 (.mv (t 9)),g 131 128 (.ar .lss (t 129) (t 130)),pf 132 128 131]) (C 132 (Q (O [m 133 0,m
 134 8,o 135 (.sls (t 133) (some (t 134)) none),m 136 1,k2 137 cJ 135 136,m 13 137]) (Q (Q (O [m 138 13,ac 139 .lss 138 (i 0)]) (C 139 (rt
 4 (i (-1))) X)) (Q (O [m 140 8,m 141 13,ar 142 .add 140 141,m 4 142]) R))) X))))))))))
def gE:AC:=
 (Q (O [mc 4 (i 0)]) (Q (O [m 14 1,lt 15 14,m 5 15]) (Q (.block 0 (Q (O [m 17 5,ac 18 .eql 17 (i 0),m 19 18,h 20 19 (.mv (t 1)),h 21 19 (.mv (t 0)),h 22 19 (.ar .eql (t 20) (t
 21)),pt 23 19 22,m 16 23]) (C 16 (rt 4 (i 0)) (Q (O [m 25 5,ac 26 .eql 25 (i 1),m 24 26]) (C 24 (Q (O [m 27 0,m 28 1,o 29 (.ixs (t 28) (i 0)),k2 30
 aK 27 29,m 4 30]) R) (Q (O [m 32 5,m 33 0,lt 34 33,ar 35 .geq 32 34,m 31 35]) (C 31 (rt 4 (i (-1))) (Q (O [m 37 5,o 38 (.ld none (.c .unk)),ar
 39 .leq 37 38,m 40 39,g 41 40 (.mv (t 0)),g 42 40 (.len .str (t 41)),g 43 40 (.ar .leq (t 42) (i 64)),pf 44 40 43,m 36 44]) (C 36 (Q (O [m 45 0,m 46 1,k2 47
 bQ 45 46,m 4 47]) R) X))))))))) (Q (O [m 48 1,o 49 (.ixs (t 48) (i 0)),m 6 49]) (Q (O [m 50 1,o 51 (.ixs (t 50) (i 1)),m 7 51]) (Q (O [mc 8 (i 0)])
 (Q (O [m 52 0,lt 53 52,m 54 5,ar 55 .sub 53 54,ad 56 55,m 9 56]) (Q (O [mc 10 (i 0)]) (Q (.block 1 (.loop ⟨none,[],false⟩ fW)) (rt 4 (i
 (-1))))))))))))
def gF:AFn:=⟨gE,143,[.t 4],.keep,[],none⟩
def tx:AC:=
 (Q (O [mc 2 (i 0),mc 3 (.c .nilif)]) (Q (O [m 7 0,k1 8 ll 7,m 6 8,ex 9 6 0,ex 10 6 1,m 4 9,m 5 10]) (Q (Q (O [m 11 5,o 12 (.eq true (.ifc true) (t 11)
 (.c .nilif))]) (C 12 (Q (O [m 13 4,m 14 0,m 15 5,k 16 (f q9) [(s [65,116,111,105]),(t 14),(i 0),(i 0),(t 15)],m 2 13,m 3 16]) R) X)) (Q (O [m 17 4,m 2
 17,mc 3 (.c .nilif)]) R))))
def tz:AFn:=⟨tx,18,[.t 2,.t 3],.keep,[],none⟩
def va:AC:=
 (Q (O [mc 4 (s []),mc 5 (s []),mc 6 F]) (Q (O [m 7 0,m 8 1,k2 9 jf 7 8,ex 10 9 0,ex 11 9 1,ex 12 9 2,m 4 10,m 5 11,m 6 12]) R))
def vb:AFn:=⟨va,13,[.t 4,.t 5,.t 6],.keep,[],none⟩
def l0:AC:=
 (Q (D [Pm 5 0,P (o 6 (.nc (t 5))),Pf 7 1 6,Wl 8 7,P (o 9 (.cap (t 8))),P (o 10 (.ar .mul (i 2) (t 9))),Pm 11 1,P (ar 12 .add 10 11),Pm 14 0,P (o 15 (.nc (t 14))),Pf 16 1
 15,Wl 17 16,W (ls 18 17),K (k1 13 aH 12),P (o 19 (.sll 1 (t 13) none (some (t 18)) none)),Pm 4 19]) (Q (O [m 20 4,m 21 0,o 22 (.nc (t 21)),fa 23 1
 22,ld 24 23,o 25 (.cp 1 false (t 20) (t 24))]) (O [m 26 0,m 27 4,o 28 (.nc (t 26)),fa 29 1 28,n (.st 1 (t 29) (t 27))])))
def l3:AFn:=⟨l0,30,[],.keep,[],none⟩
def jN:AC:=
 (Q (O [mc 2 (s [])]) (Q (Q (O [m 3 0,ac 4 .lss 3 (i 10)]) (C 4 (Q (O [m 5 0,m 6 0,ad 7 6,o 8 (.sls (s [48,49,50,51,52,53,54,55,56,57,97,98,99,100,101,102,103,
 104,105,106,107,108,109,110,111,112,113,114,115,116,117,118,119,120,121,122]) (some (t 5)) (some (t 7))),m 2 8]) R) X)) (Q (O [m 9 0,ac 10 .mul 9 (i 2),m 11 0,
 ac 12 .mul 11 (i 2),ac 13 .add 12 (i 2),o 14 (.sls (s [48,48,48,49,48,50,48,51,48,52,48,53,48,54,48,55,48,56,48,57,49,48,49,49,49,50,49,51,49,52,49,
 53,49,54,49,55,49,56,49,57,50,48,50,49,50,50,50,51,50,52,50,53,50,54,50,55,50,56,50,57,51,48,51,49,51,50,51,51,51,52,51,53,51,54,51,55,
 51,56,51,57,52,48,52,49,52,50,52,51,52,52,52,53,52,54,52,55,52,56,52,57,53,48,53,49,53,50,53,51,53,52,53,53,53,54,53,55,53,56,53,57,54,
 48,54,49,54,50,54,51,54,52,54,53,54,54,54,55,54,56,54,57,55,48,55,49,55,50,55,51,55,52,55,53,55,54,55,55,55,56,55,57,56,48,56,49,56,50,
 56,51,56,52,56,53,56,54,56,55,56,56,56,57,57,48,57,49,57,50,57,51,57,52,57,53,57,54,57,55,57,56,57,57]) (some (t 10)) (some (t 13))),m 2 14]) R)))
def jO:AFn:=⟨jN,15,[.t 2],.keep,[],none⟩
def gG:AC:=
 (Q (O [mc 2 (i 0)]) (Q (O [m 4 0,k1 5 jZ 4,k1 6 gV 5,m 3 6]) (Q (O [m 7 3,m 8 0,m 9 3,o 10 (.iaa 20 1 (.c .unk) (t 9)),ld 11 10,ar
 12 .geq 8 11,k1 13 gW 12,ar 14 .add 7 13,m 2 14]) R)))
def gH:AFn:=⟨gG,15,[.t 2],.keep,[],none⟩
def eF:AC:=
 (Q (Q (O [m 19 4,ac 20 .geq 19 (i 8)]) (C 20 X (.exit 0))) (.block 1 (Q (O [m 21 1,o 22 (.ar .rem (t 21) (.c (.int .u64 100000000))),o 23 (.cvi .u32 (t 22)),m 5 23]) (Q (O [m 24
 1,o 25 (.ar .quo (t 24) (.c (.int .u64 100000000))),m 1 25]) (Q (O [m 26 5,o 27 (.ar .quo (t 26) (.c (.int .u32 10000))),m 28 5,o 29 (.ar .rem (t 28) (.c (.int .u32 10000))),m
 6 27,m 7 29]) (Q (O [m 30 7,o 31 (.ar .quo (t 30) (.c (.int .u32 100))),o 32 (.ar .mul (t 31) (.c (.int .u32 2))),m 33 7,o 34 (.ar .rem (t 33) (.c (.int .u32 100))),o 35 (.ar
 .mul (t 34) (.c (.int .u32 2))),m 8 32,m 9 35]) (Q (O [m 36 6,o 37 (.ar .quo (t 36) (.c (.int .u32 100))),o 38 (.ar .mul (t 37) (.c (.int .u32 2))),m 39 6,o 40 (.ar .rem (t
 39) (.c (.int .u32 100))),o 41 (.ar .mul (t 40) (.c (.int .u32 2))),m 10 38,m 11 41]) (Q (D [Pm 42 0,Pm 43 4,P (ac 44 .sub 43 (i 1)),Pm 45 0,Pm 46 4,P (ac 47 .sub 46 (i 2)),
 Pm 48 9,P (o 49 (.ar .add (t 48) (.c (.int .u32 1)))),P (o 50 (.ixs (s [48,48,48,49,48,50,48,51,48,52,48,53,48,54,48,55,48,56,48,57,49,48,49,49,49,50,49,
 51,49,52,49,53,49,54,49,55,49,56,49,57,50,48,50,49,50,50,50,51,50,52,50,53,50,54,50,55,50,56,50,57,51,48,51,49,51,50,51,51,51,52,51,53,
 51,54,51,55,51,56,51,57,52,48,52,49,52,50,52,51,52,52,52,53,52,54,52,55,52,56,52,57,53,48,53,49,53,50,53,51,53,52,53,53,53,54,53,55,53,
 56,53,57,54,48,54,49,54,50,54,51,54,52,54,53,54,54,54,55,54,56,54,57,55,48,55,49,55,50,55,51,55,52,55,53,55,54,55,55,55,56,55,57,56,48,
 56,49,56,50,56,51,56,52,56,53,56,54,56,55,56,56,56,57,57,48,57,49,57,50,57,51,57,52,57,53,57,54,57,55,57,56,57,57]) (t 49))),Pm 51 9,P (o 52
 (.ixs (s [48,48,48,49,48,50,48,51,48,52,48,53,48,54,48,55,48,56,48,57,49,48,49,49,49,50,49,51,49,52,49,53,49,54,49,55,49,56,49,57,50,48,50,
 49,50,50,50,51,50,52,50,53,50,54,50,55,50,56,50,57,51,48,51,49,51,50,51,51,51,52,51,53,51,54,51,55,51,56,51,57,52,48,52,49,52,50,52,51,
 52,52,52,53,52,54,52,55,52,56,52,57,53,48,53,49,53,50,53,51,53,52,53,53,53,54,53,55,53,56,53,57,54,48,54,49,54,50,54,51,54,52,54,53,54,
 54,54,55,54,56,54,57,55,48,55,49,55,50,55,51,55,52,55,53,55,54,55,55,55,56,55,57,56,48,56,49,56,50,56,51,56,52,56,53,56,54,56,55,56,56,
 56,57,57,48,57,49,57,50,57,51,57,52,57,53,57,54,57,55,57,56,57,57]) (t 51))),P (ia 53 1 42 44),E (n (.st 1 (t 53) (t 50))),P (ia 54 1 45 47),E (n (.st 1 (t
 54) (t 52)))]) (Q (D [Pm 55 0,Pm 56 4,P (ac 57 .sub 56 (i 3)),Pm 58 0,Pm 59 4,P (ac 60 .sub 59 (i 4)),Pm 61 8,P (o 62 (.ar .add (t 61) (.c (.int .u32 1)))),P (o 63 (.ixs (s
 [48,48,48,49,48,50,48,51,48,52,48,53,48,54,48,55,48,56,48,57,49,48,49,49,49,50,49,51,49,52,49,53,49,54,49,55,49,56,49,57,50,48,50,49,50,
 50,50,51,50,52,50,53,50,54,50,55,50,56,50,57,51,48,51,49,51,50,51,51,51,52,51,53,51,54,51,55,51,56,51,57,52,48,52,49,52,50,52,51,52,52,
 52,53,52,54,52,55,52,56,52,57,53,48,53,49,53,50,53,51,53,52,53,53,53,54,53,55,53,56,53,57,54,48,54,49,54,50,54,51,54,52,54,53,54,54,54,
 55,54,56,54,57,55,48,55,49,55,50,55,51,55,52,55,53,55,54,55,55,55,56,55,57,56,48,56,49,56,50,56,51,56,52,56,53,56,54,56,55,56,56,56,57,
 57,48,57,49,57,50,57,51,57,52,57,53,57,54,57,55,57,56,57,57]) (t 62))),Pm 64 8,P (o 65 (.ixs (s [48,48,48,49,48,50,48,51,48,52,48,53,48,54,48,55,
 48,56,48,57,49,48,49,49,49,50,49,51,49,52,49,53,49,54,49,55,49,56,49,57,50,48,50,49,50,50,50,51,50,52,50,53,50,54,50,55,50,56,50,57,51,
 48,51,49,51,50,51,51,51,52,51,53,51,54,51,55,51,56,51,57,52,48,52,49,52,50,52,51,52,52,52,53,52,54,52,55,52,56,52,57,53,48,53,49,53,50,
 53,51,53,52,53,53,53,54,53,55,53,56,53,57,54,48,54,49,54,50,54,51,54,52,54,53,54,54,54,55,54,56,54,57,55,48,55,49,55,50,55,51,55,52,55,
 53,55,54,55,55,55,56,55,57,56,48,56,49,56,50,56,51,56,52,56,53,56,54,56,55,56,56,56,57,57,48,57,49,57,50,57,51,57,52,57,53,57,54,57,55,
 57,56,57,57]) (t 64))),P (ia 66 1 55 57),E (n (.st 1 (t 66) (t 63))),P (ia 67 1 58 60),E (n (.st 1 (t 67) (t 65)))]) (Q (D [Pm 68 0,Pm 69 4,P (ac 70 .sub 69 (i 5)),Pm 71
 0,Pm 72 4,P (ac 73 .sub 72 (i 6)),Pm 74 11,P (o 75 (.ar .add (t 74) (.c (.int .u32 1)))),P (o 76 (.ixs (s [48,48,48,49,48,50,48,51,48,52,48,53,48,54,48,55,48,
 56,48,57,49,48,49,49,49,50,49,51,49,52,49,53,49,54,49,55,49,56,49,57,50,48,50,49,50,50,50,51,50,52,50,53,50,54,50,55,50,56,50,57,51,48,
 51,49,51,50,51,51,51,52,51,53,51,54,51,55,51,56,51,57,52,48,52,49,52,50,52,51,52,52,52,53,52,54,52,55,52,56,52,57,53,48,53,49,53,50,53,
 51,53,52,53,53,53,54,53,55,53,56,53,57,54,48,54,49,54,50,54,51,54,52,54,53,54,54,54,55,54,56,54,57,55,48,55,49,55,50,55,51,55,52,55,53,
 55,54,55,55,55,56,55,57,56,48,56,49,56,50,56,51,56,52,56,53,56,54,56,55,56,56,56,57,57,48,57,49,57,50,57,51,57,52,57,53,57,54,57,55,57,
 56,57,57]) (t 75))),Pm 77 11,P (o 78 (.ixs (s [48,48,48,49,48,50,48,51,48,52,48,53,48,54,48,55,48,56,48,57,49,48,49,49,49,50,49,51,49,52,49,53,
 49,54,49,55,49,56,49,57,50,48,50,49,50,50,50,51,50,52,50,53,50,54,50,55,50,56,50,57,51,48,51,49,51,50,51,51,51,52,51,53,51,54,51,55,51,
 56,51,57,52,48,52,49,52,50,52,51,52,52,52,53,52,54,52,55,52,56,52,57,53,48,53,49,53,50,53,51,53,52,53,53,53,54,53,55,53,56,53,57,54,48,
 54,49,54,50,54,51,54,52,54,53,54,54,54,55,54,56,54,57,55,48,55,49,55,50,55,51,55,52,55,53,55,54,55,55,55,56,55,57,56,48,56,49,56,50,56,
 51,56,52,56,53,56,54,56,55,56,56,56,57,57,48,57,49,57,50,57,51,57,52,57,53,57,54,57,55,57,56,57,57]) (t 77))),P (ia 79 1 68 70),E (n (.st 1 (t 79)
 (t 76))),P (ia 80 1 71 73),E (n (.st 1 (t 80) (t 78)))]) (Q (D [Pm 81 0,Pm 82 4,P (ac 83 .sub 82 (i 7)),Pm 84 0,Pm 85 4,P (ac 86 .sub 85 (i 8)),Pm 87 10,P (o 88 (.ar .add
 (t 87) (.c (.int .u32 1)))),P (o 89 (.ixs (s [48,48,48,49,48,50,48,51,48,52,48,53,48,54,48,55,48,56,48,57,49,48,49,49,49,50,49,51,49,52,49,53,49,
 54,49,55,49,56,49,57,50,48,50,49,50,50,50,51,50,52,50,53,50,54,50,55,50,56,50,57,51,48,51,49,51,50,51,51,51,52,51,53,51,54,51,55,51,56,
 51,57,52,48,52,49,52,50,52,51,52,52,52,53,52,54,52,55,52,56,52,57,53,48,53,49,53,50,53,51,53,52,53,53,53,54,53,55,53,56,53,57,54,48,54,
 49,54,50,54,51,54,52,54,53,54,54,54,55,54,56,54,57,55,48,55,49,55,50,55,51,55,52,55,53,55,54,55,55,55,56,55,57,56,48,56,49,56,50,56,51,
 56,52,56,53,56,54,56,55,56,56,56,57,57,48,57,49,57,50,57,51,57,52,57,53,57,54,57,55,57,56,57,57]) (t 88))),Pm 90 10,P (o 91 (.ixs (s [48,48,48,
 49,48,50,48,51,48,52,48,53,48,54,48,55,48,56,48,57,49,48,49,49,49,50,49,51,49,52,49,53,49,54,49,55,49,56,49,57,50,48,50,49,50,50,50,51,
 50,52,50,53,50,54,50,55,50,56,50,57,51,48,51,49,51,50,51,51,51,52,51,53,51,54,51,55,51,56,51,57,52,48,52,49,52,50,52,51,52,52,52,53,52,
 54,52,55,52,56,52,57,53,48,53,49,53,50,53,51,53,52,53,53,53,54,53,55,53,56,53,57,54,48,54,49,54,50,54,51,54,52,54,53,54,54,54,55,54,56,
 54,57,55,48,55,49,55,50,55,51,55,52,55,53,55,54,55,55,55,56,55,57,56,48,56,49,56,50,56,51,56,52,56,53,56,54,56,55,56,56,56,57,57,48,57,
 49,57,50,57,51,57,52,57,53,57,54,57,55,57,56,57,57]) (t 90))),P (ia 92 1 81 83),E (n (.st 1 (t 92) (t 89))),P (ia 93 1 84 86),E (n (.st 1 (t 93) (t 91)))]) (O [m
 94 4,ac 95 .sub 94 (i 8),m 4 95]))))))))))))
def fD:AC:=
 (Q (O [m 17 0,ls 18 17,m 4 18]) (Q (.block 0 (.loop ⟨none,[],false⟩ eF)) (Q (O [m 96 1,o 97 (.cvi .u32 (t 96)),m 12 97]) (Q (Q (O [m 98 4,ac
 99 .geq 98 (i 4)]) (C 99 (Q (O [m 100 12,o 101 (.ar .rem (t 100) (.c (.int .u32 10000))),m 13 101]) (Q (O [m 102 12,o 103 (.ar .quo (t 102) (.c (.int .u32 10000))),m 12 103]) (Q
 (O [m 104 13,o 105 (.ar .quo (t 104) (.c (.int .u32 100))),o 106 (.ar .mul (t 105) (.c (.int .u32 2))),m 107 13,o 108 (.ar .rem (t 107) (.c (.int .u32 100))),o 109 (.ar .mul (t
 108) (.c (.int .u32 2))),m 14 106,m 15 109]) (Q (D [Pm 110 0,Pm 111 4,P (ac 112 .sub 111 (i 1)),Pm 113 0,Pm 114 4,P (ac 115 .sub 114 (i 2)),Pm 116 15,P (o 117 (.ar .add (t
 116) (.c (.int .u32 1)))),P (o 118 (.ixs (s [48,48,48,49,48,50,48,51,48,52,48,53,48,54,48,55,48,56,48,57,49,48,49,49,49,50,49,51,49,52,49,53,49,54,
 49,55,49,56,49,57,50,48,50,49,50,50,50,51,50,52,50,53,50,54,50,55,50,56,50,57,51,48,51,49,51,50,51,51,51,52,51,53,51,54,51,55,51,56,51,
 57,52,48,52,49,52,50,52,51,52,52,52,53,52,54,52,55,52,56,52,57,53,48,53,49,53,50,53,51,53,52,53,53,53,54,53,55,53,56,53,57,54,48,54,49,
 54,50,54,51,54,52,54,53,54,54,54,55,54,56,54,57,55,48,55,49,55,50,55,51,55,52,55,53,55,54,55,55,55,56,55,57,56,48,56,49,56,50,56,51,56,
 52,56,53,56,54,56,55,56,56,56,57,57,48,57,49,57,50,57,51,57,52,57,53,57,54,57,55,57,56,57,57]) (t 117))),Pm 119 15,P (o 120 (.ixs (s [48,48,48,49,
 48,50,48,51,48,52,48,53,48,54,48,55,48,56,48,57,49,48,49,49,49,50,49,51,49,52,49,53,49,54,49,55,49,56,49,57,50,48,50,49,50,50,50,51,50,
 52,50,53,50,54,50,55,50,56,50,57,51,48,51,49,51,50,51,51,51,52,51,53,51,54,51,55,51,56,51,57,52,48,52,49,52,50,52,51,52,52,52,53,52,54,
 52,55,52,56,52,57,53,48,53,49,53,50,53,51,53,52,53,53,53,54,53,55,53,56,53,57,54,48,54,49,54,50,54,51,54,52,54,53,54,54,54,55,54,56,54,
 57,55,48,55,49,55,50,55,51,55,52,55,53,55,54,55,55,55,56,55,57,56,48,56,49,56,50,56,51,56,52,56,53,56,54,56,55,56,56,56,57,57,48,57,49,
 57,50,57,51,57,52,57,53,57,54,57,55,57,56,57,57]) (t 119))),P (ia 121 1 110 112),E (n (.st 1 (t 121) (t 118))),P (ia 122 1 113 115),E (n (.st 1 (t 122) (t
 120)))]) (Q (D [Pm 123 0,Pm 124 4,P (ac 125 .sub 124 (i 3)),Pm 126 0,Pm 127 4,P (ac 128 .sub 127 (i 4)),Pm 129 14,P (o 130 (.ar .add (t 129) (.c (.int .u32 1)))),P (o 131
 (.ixs (s [48,48,48,49,48,50,48,51,48,52,48,53,48,54,48,55,48,56,48,57,49,48,49,49,49,50,49,51,49,52,49,53,49,54,49,55,49,56,49,57,50,48,50,
 49,50,50,50,51,50,52,50,53,50,54,50,55,50,56,50,57,51,48,51,49,51,50,51,51,51,52,51,53,51,54,51,55,51,56,51,57,52,48,52,49,52,50,52,51,
 52,52,52,53,52,54,52,55,52,56,52,57,53,48,53,49,53,50,53,51,53,52,53,53,53,54,53,55,53,56,53,57,54,48,54,49,54,50,54,51,54,52,54,53,54,
 54,54,55,54,56,54,57,55,48,55,49,55,50,55,51,55,52,55,53,55,54,55,55,55,56,55,57,56,48,56,49,56,50,56,51,56,52,56,53,56,54,56,55,56,56,
 56,57,57,48,57,49,57,50,57,51,57,52,57,53,57,54,57,55,57,56,57,57]) (t 130))),Pm 132 14,P (o 133 (.ixs (s [48,48,48,49,48,50,48,51,48,52,48,53,48,
 54,48,55,48,56,48,57,49,48,49,49,49,50,49,51,49,52,49,53,49,54,49,55,49,56,49,57,50,48,50,49,50,50,50,51,50,52,50,53,50,54,50,55,50,56,
 50,57,51,48,51,49,51,50,51,51,51,52,51,53,51,54,51,55,51,56,51,57,52,48,52,49,52,50,52,51,52,52,52,53,52,54,52,55,52,56,52,57,53,48,53,
 49,53,50,53,51,53,52,53,53,53,54,53,55,53,56,53,57,54,48,54,49,54,50,54,51,54,52,54,53,54,54,54,55,54,56,54,57,55,48,55,49,55,50,55,51,
 55,52,55,53,55,54,55,55,55,56,55,57,56,48,56,49,56,50,56,51,56,52,56,53,56,54,56,55,56,56,56,57,57,48,57,49,57,50,57,51,57,52,57,53,57,
 54,57,55,57,56,57,57]) (t 132))),P (ia 134 1 123 125),E (n (.st 1 (t 134) (t 131))),P (ia 135 1 126 128),E (n (.st 1 (t 135) (t 133)))]) (O [m 136 4,ac 137 .sub 136 (i
 4),m 4 137])))))) X)) (Q (Q (O [m 138 4,ac 139 .geq 138 (i 2)]) (C 139 (Q (O [m 140 12,o 141 (.ar .rem (t 140) (.c (.int .u32 100))),o 142 (.ar .mul (t 141) (.c (.int .u32 2))),
 m 16 142]) (Q (O [m 143 12,o 144 (.ar .quo (t 143) (.c (.int .u32 100))),m 12 144]) (Q (D [Pm 145 0,Pm 146 4,P (ac 147 .sub 146 (i 1)),Pm 148 0,Pm 149 4,P (ac 150 .sub 149 (i
 2)),Pm 151 16,P (o 152 (.ar .add (t 151) (.c (.int .u32 1)))),P (o 153 (.ixs (s [48,48,48,49,48,50,48,51,48,52,48,53,48,54,48,55,48,56,48,57,49,48,49,49,
 49,50,49,51,49,52,49,53,49,54,49,55,49,56,49,57,50,48,50,49,50,50,50,51,50,52,50,53,50,54,50,55,50,56,50,57,51,48,51,49,51,50,51,51,51,
 52,51,53,51,54,51,55,51,56,51,57,52,48,52,49,52,50,52,51,52,52,52,53,52,54,52,55,52,56,52,57,53,48,53,49,53,50,53,51,53,52,53,53,53,54,
 53,55,53,56,53,57,54,48,54,49,54,50,54,51,54,52,54,53,54,54,54,55,54,56,54,57,55,48,55,49,55,50,55,51,55,52,55,53,55,54,55,55,55,56,55,
 57,56,48,56,49,56,50,56,51,56,52,56,53,56,54,56,55,56,56,56,57,57,48,57,49,57,50,57,51,57,52,57,53,57,54,57,55,57,56,57,57]) (t 152))),Pm
 154 16,P (o 155 (.ixs (s [48,48,48,49,48,50,48,51,48,52,48,53,48,54,48,55,48,56,48,57,49,48,49,49,49,50,49,51,49,52,49,53,49,54,49,55,49,56,
 49,57,50,48,50,49,50,50,50,51,50,52,50,53,50,54,50,55,50,56,50,57,51,48,51,49,51,50,51,51,51,52,51,53,51,54,51,55,51,56,51,57,52,48,52,
 49,52,50,52,51,52,52,52,53,52,54,52,55,52,56,52,57,53,48,53,49,53,50,53,51,53,52,53,53,53,54,53,55,53,56,53,57,54,48,54,49,54,50,54,51,
 54,52,54,53,54,54,54,55,54,56,54,57,55,48,55,49,55,50,55,51,55,52,55,53,55,54,55,55,55,56,55,57,56,48,56,49,56,50,56,51,56,52,56,53,56,
 54,56,55,56,56,56,57,57,48,57,49,57,50,57,51,57,52,57,53,57,54,57,55,57,56,57,57]) (t 154))),P (ia 156 1 145 147),E (n (.st 1 (t 156) (t 153))),P (ia
 157 1 148 150),E (n (.st 1 (t 157) (t 155)))]) (O [m 158 4,ac 159 .sub 158 (i 2),m 4 159])))) X)) (Q (O [m 160 4,ac 161 .gtr 160 (i 0)]) (C 161 (O [m 162 0,m 163 12,o 164 (.ar
 .add (.c (.int .u32 48)) (t 163)),o 165 (.cvi .u8 (t 164)),o 166 (.ias 1 (t 162) (i 0)),n (.st 1 (t 166) (t 165))]) X)))))))
def fE:AFn:=⟨fD,167,[],.keep,[],none⟩
def fF:AC:=
 (Q (Q (O [m 44 1,m 45 15,ar 46 .geq 44 45]) (C 46 X (.exit 0))) (.block 1 (Q (O [m 47 13,ac 48 .sub 47 (i 1),m 13 48]) (Q (O [m 49 13,m 50 1,m 51 16,ar 52 .and 50 51,o 53
 (.ixs (s [48,49,50,51,52,53,54,55,56,57,97,98,99,100,101,102,103,104,105,106,107,108,109,110,111,112,113,114,115,116,117,118,119,120,121,122]) (t
 52)),o 54 (.iaa 65 1 (t 12) (t 49)),n (.st 1 (t 54) (t 53))]) (O [m 55 1,m 56 14,o 57 (.sh .shr (t 55) (t 56)),m 1 57])))))
def fG:AC:=
 (Q (Q (O [m 66 1,m 67 17,ar 68 .geq 66 67]) (C 68 X (.exit 2))) (.block 3 (Q (O [m 69 13,ac 70 .sub 69 (i 1),m 13 70]) (Q (O [m 71 1,m 72 17,ar 73 .quo 71 72,m 18 73]) (Q (O
 [m 74 13,m 75 1,m 76 18,m 77 17,ar 78 .mul 76 77,ar 79 .sub 75 78,o 80 (.ixs (s [48,49,50,51,52,53,54,55,56,57,97,98,99,100,101,102,103,104,105,106,107,
 108,109,110,111,112,113,114,115,116,117,118,119,120,121,122]) (t 79)),o 81 (.iaa 65 1 (t 12) (t 74)),n (.st 1 (t 81) (t 80))]) (O [m 82 18,m 1 82]))))))
def gj:AC:=
 (Q (O [mc 10 (.c (.slice .nil 1 [])),mc 11 (s [])]) (Q (Q (O [m 19 2,ac 20 .lss 19 (i 2),m 21 20,h 22 21 (.mv (t 2)),h 23 21 (.ar .eql (t 22) (i 10)),pt 24 21 23,m 25 24,h
 26 25 (.mv (t 2)),h 27 25 (.ar .gtr (t 26) (i 36)),pt 28 25 27]) (C 28 (O [o 29 (.mi ct (s [115,116,114,99,111,110,118,58,32,105,108,108,101,103,97,108,32,
 65,112,112,101,110,100,73,110,116,47,70,111,114,109,97,116,73,110,116,32,98,97,115,101])),⟨none,none,(.panic (.t 29))⟩]) X)) (Q (O [o 12 (.nw [(.int .u8
 0),(.int .u8 0),(.int .u8 0),(.int .u8 0),(.int .u8 0),(.int .u8 0),(.int .u8 0),(.int .u8 0),(.int .u8 0),(.int .u8 0),(.int .u8 0),(.int .u8 0),(.int .u8 0),(.int .u8
 0),(.int .u8 0),(.int .u8 0),(.int .u8 0),(.int .u8 0),(.int .u8 0),(.int .u8 0),(.int .u8 0),(.int .u8 0),(.int .u8 0),(.int .u8 0),(.int .u8 0),(.int .u8 0),(.int .u8
 0),(.int .u8 0),(.int .u8 0),(.int .u8 0),(.int .u8 0),(.int .u8 0),(.int .u8 0),(.int .u8 0),(.int .u8 0),(.int .u8 0),(.int .u8 0),(.int .u8 0),(.int .u8 0),(.int .u8
 0),(.int .u8 0),(.int .u8 0),(.int .u8 0),(.int .u8 0),(.int .u8 0),(.int .u8 0),(.int .u8 0),(.int .u8 0),(.int .u8 0),(.int .u8 0),(.int .u8 0),(.int .u8 0),(.int .u8
 0),(.int .u8 0),(.int .u8 0),(.int .u8 0),(.int .u8 0),(.int .u8 0),(.int .u8 0),(.int .u8 0),(.int .u8 0),(.int .u8 0),(.int .u8 0),(.int .u8 0),(.int .u8 0)]
 ya)]) (Q (O [mc 13 (i 65)]) (Q (Q (O [m 30 3]) (C 30 (O [m 31 1,o 32 (.un .neg (t 31)),m 1 32]) X)) (Q (Q (O [m 33 2,k1 34 fS 33]) (C 34 (Q
 (O [m 35 2,o 36 (.cvi .u64 (t 35)),k1 37 jr 36,o 38 (.cvi .u64 (t 37)),m 14 38]) (Q (O [m 39 2,o 40 (.cvi .u64 (t 39)),m 15 40]) (Q (O [m 41 2,o 42
 (.cvi .u64 (t 41)),o 43 (.ar .sub (t 42) (.c (.int .u64 1))),m 16 43]) (Q (.block 0 (.loop ⟨none,[],false⟩ fF)) (Q (O [m 58 13,ac 59 .sub 58 (i
 1),m 13 59]) (O [m 60 13,m 61 1,o 62 (.ixs (s [48,49,50,51,52,53,54,55,56,57,97,98,99,100,101,102,103,104,105,106,107,108,109,110,111,112,113,114,115,
 116,117,118,119,120,121,122]) (t 61)),o 63 (.iaa 65 1 (t 12) (t 60)),n (.st 1 (t 63) (t 62))])))))) (Q (O [m 64 2,o 65 (.cvi .u64 (t 64)),m 17 65]) (Q (.block 2 (.loop
 ⟨none,[],false⟩ fG)) (Q (O [m 83 13,ac 84 .sub 83 (i 1),m 13 84]) (O [m 85 13,m 86 1,o 87 (.ixs (s [48,49,50,51,52,53,54,55,56,57,97,
 98,99,100,101,102,103,104,105,106,107,108,109,110,111,112,113,114,115,116,117,118,119,120,121,122]) (t 86)),o 88 (.iaa 65 1 (t 12) (t 85)),n (.st 1 (t 88)
 (t 87))])))))) (Q (Q (O [m 89 3]) (C 89 (Q (O [m 90 13,ac 91 .sub 90 (i 1),m 13 91]) (O [m 92 13,o 93 (.iaa 65 1 (t 12) (t 92)),n (.st 1 (t 93) (u 45))])) X)) (Q (Q (O [m 94 4])
 (C 94 (Q (O [m 95 0,m 96 13,o 97 (.sla 65 1 (t 12) (some (t 96)) none),o 98 (.ap false mZ 1 1 false (t 95) (t 97)),m 10 98]) R) X)) (Q (O [m 99 13,o 100 (.sla 65 1 (t 12)
 (some (t 99)) none),o 101 (.cvbs (t 100)),m 11 101]) R)))))))))
def gk:AFn:=⟨gj,102,[.t 10,.t 11],.keep,[],none⟩
def c6:AC:=
 (Q (O [bl 9 8 7]) (Q (C 9 X (.exit 0)) (Q (.block 1 (Q (O [m 10 8,m 5 10]) (Q (O [m 11 1,m 12 0,m 13 5,ia 14 2 12 13,la 15 2 14,k 16 (t 11) [(t 15)]]) (C 16 (Q (O [m 17 5,m 4
 17]) R) X)))) (O [ad 18 8,m 8 18]))))
def dz:AC:=
 (Q (O [mc 4 (i 0)]) (Q (Q (O [m 6 0,ls 7 6,mc 8 (i 0)]) (.block 0 (.loop ⟨none,[],false⟩ c6))) (rt 4 (i (-1)))))
def dA:AFn:=⟨dz,19,[.t 4],.keep,[],none⟩
def rq:AC:=
 (Q (O [o 3 (.bx kg (t 1)),mc 4 F]) (Q (O [m 5 0,o 6 (.mf (.func qb) [] [(t 3)]),k2 7 aw 5 6,no 8 7,m 4 8]) R))
def rr:AFn:=⟨rq,9,[.t 4],.keep,[],none⟩
def l4:AC:=
 (Q (O [o 3 (.bx ag (t 0)),o 5 (.bx aM (t 2)),mc 6 (.c (.slice .nil 2 []))]) (Q (D [Pf 7 0 3,Pf 8 3 7,Wl 9 8,Pm 10 1,P (ia 11 4 9 10),Pf 12 2 11,Wl 13
 12,Pf 14 3 5,Wl 15 14,E (k2 16 vv 13 15),Pm 6 16]) R))
def l5:AFn:=⟨l4,17,[.t 6],.keep,[],none⟩
def eW:AC:=
 (Q (O [mc 4 (s []),mc 5 F]) (Q (Q (O [m 6 0,m 7 1,k2 8 bC 6 7,no 9 8]) (C 9 (Q (O [m 10 0,m 4 10,mc 5 F]) R) X)) (Q (O [m 11 0,m 12 1,lt 13 12,
 o 14 (.sls (t 11) (some (t 13)) none),m 4 14,mc 5 T]) R)))
def eX:AFn:=⟨eW,15,[.t 4,.t 5],.keep,[],none⟩
def pd:AC:=
 (Q (O [mc 4 F]) (Q (O [m 5 0,m 6 1,k2 7 bC 5 6,m 4 7]) R))
def pg:AFn:=⟨pd,8,[.t 4],.keep,[],none⟩
def kK:AC:=
 (Q (O [bl 13 12 11]) (Q (C 13 X (.exit 0)) (Q (.block 1 (Q (O [m 14 12,m 9 14]) (Q (D [W (la 15 6 4),Pm 16 1,Pm 17 1,W (lt 18 17),P (ac 19 .sub 18 (i 1)),Pm 20 9,P (ar 21
 .sub 19 20),P (o 22 (.ixs (t 16) (t 21))),Pm 23 2,Pm 24 3,P (ac 25 .sub 24 (i 1)),Pm 26 9,P (ar 27 .sub 25 26),E (k 28 (f fw) [(t 15),(t 22),(t 23),(t
 27)]),P (no 29 28)]) (C 29 (rt 8 F) X)))) (O [ad 30 12,m 12 30]))))
def nI:AC:=
 (Q (O [o 4 (.bx ag (t 0)),mc 8 F]) (Q (Q (O [m 10 1,lt 11 10,mc 12 (i 0)]) (.block 0 (.loop ⟨none,[],false⟩ kK))) (rt 8 T)))
def nJ:AFn:=⟨nI,31,[.t 8],.keep,[],none⟩
def jP:AC:=
 (Q (O [bl 13 12 11]) (Q (C 13 X (.exit 0)) (Q (.block 1 (Q (O [m 14 12,m 9 14]) (Q (D [W (la 15 6 4),Pm 16 1,Pm 17 9,P (o 18 (.ixs (t 16) (t 17))),Pm 19 2,Pm 20 3,Pm 21 9,P
 (ar 22 .add 20 21),E (k 23 (f fw) [(t 15),(t 18),(t 19),(t 22)]),P (no 24 23)]) (C 24 (rt 8 F) X)))) (O [ad 25 12,m 12 25]))))
def l6:AC:=
 (Q (O [o 4 (.bx ag (t 0)),mc 8 F]) (Q (Q (O [m 10 1,lt 11 10,mc 12 (i 0)]) (.block 0 (.loop ⟨none,[],false⟩ jP))) (rt 8 T)))
def l7:AFn:=⟨l6,26,[.t 8],.keep,[],none⟩
def di:AC:=
 (Q (O [mc 2 (.c (.int .i32 0)),mc 3 (i 0)]) (Q (O [m 13 0,lt 14 13,m 4 14]) (Q (Q (O [m 15 4,ac 16 .lss 15 (i 1)]) (C 16 (Q (O [mc 2 (.c (.int .i32 65533)),mc 3 (i 0)]) R) X))
 (Q (O [m 17 0,o 18 (.ixs (t 17) (i 0)),m 5 18]) (Q (O [m 19 5,o 20 (.iaa 256 1 (.c .unk) (t 19)),ld 21 20,m 6 21]) (Q (Q (O [m 22 6,ac 23 .geq 22 (u 240)]) (C 23 (Q (O [m 24
 6,o 25 (.cvi .i32 (t 24)),o 26 (.sh .shl (t 25) (.c (.int .u64 31))),o 27 (.sh .shr (t 26) (.c (.int .u64 31))),m 7 27]) (Q (O [m 28 0,o 29 (.ixs (t 28) (i 0)),o 30 (.cvi .i32
 (t 29)),m 31 7,o 32 (.an (t 30) (t 31)),m 33 7,o 34 (.ar .and (.c (.int .i32 65533)) (t 33)),ar 35 .or 32 34,m 2 35,mc 3 (i 1)]) R)) X)) (Q (O [m 36 6,ac 37 .and 36 (u 7),o
 38 (.cvi .i64 (t 37)),m 8 38]) (Q (O [m 39 6,o 40 (.sh .shr (t 39) (.c (.int .u64 4))),o 41 (.iaa 16 2 (.c .unk) (t 40)),la 42 2 41,o 9 (.nw [(.int .u8 0),(.int .u8 0)]
 qd),n (.st 2 (t 9) (t 42))]) (Q (Q (O [m 43 4,m 44 8,bl 45 43 44]) (C 45 (Q (O [mc 2 (.c (.int .i32 65533)),mc 3 (i 1)]) R) X)) (Q (O [m 46 0,o 47 (.ixs (t 46)
 (i 1)),m 10 47]) (Q (Q (O [m 48 10,fa 49 0 9,ld 50 49,bl 51 48 50,m 52 51,h 53 52 (.fa 1 (t 9)),h 54 52 (.ld none (t 53)),h 55 52 (.mv (t 10)),h 56 52 (.ar .lss (t 54) (t
 55)),pt 57 52 56]) (C 57 (Q (O [mc 2 (.c (.int .i32 65533)),mc 3 (i 1)]) R) X)) (Q (Q (O [m 58 8,ac 59 .leq 58 (i 2)]) (C 59 (Q (O [m 60 5,ac 61 .and 60 (u 31),o 62 (.cvi .i32
 (t 61)),o 63 (.sh .shl (t 62) (.c (.int .u64 6))),m 64 10,ac 65 .and 64 (u 63),o 66 (.cvi .i32 (t 65)),ar 67 .or 63 66,m 2 67,mc 3 (i 2)]) R) X)) (Q (O [m 68 0,o 69 (.ixs (t
 68) (i 2)),m 11 69]) (Q (Q (O [m 70 11,ac 71 .lss 70 (u 128),m 72 71,h 73 72 (.mv (t 11)),h 74 72 (.ar .lss (u 191) (t 73)),pt 75 72 74]) (C 75 (Q (O [mc 2 (.c (.int .i32
 65533)),mc 3 (i 1)]) R) X)) (Q (Q (O [m 76 8,ac 77 .leq 76 (i 3)]) (C 77 (Q (O [m 78 5,ac 79 .and 78 (u 15),o 80 (.cvi .i32 (t 79)),o 81 (.sh .shl (t 80) (.c (.int .u64 12))),
 m 82 10,ac 83 .and 82 (u 63),o 84 (.cvi .i32 (t 83)),o 85 (.sh .shl (t 84) (.c (.int .u64 6))),ar 86 .or 81 85,m 87 11,ac 88 .and 87 (u 63),o 89 (.cvi .i32 (t 88)),ar 90 .or
 86 89,m 2 90,mc 3 (i 3)]) R) X)) (Q (O [m 91 0,o 92 (.ixs (t 91) (i 3)),m 12 92]) (Q (Q (O [m 93 12,ac 94 .lss 93 (u 128),m 95 94,h 96 95 (.mv (t 12)),h 97 95 (.ar .lss (u
 191) (t 96)),pt 98 95 97]) (C 98 (Q (O [mc 2 (.c (.int .i32 65533)),mc 3 (i 1)]) R) X)) (Q (O [m 99 5,ac 100 .and 99 (u 7),o 101 (.cvi .i32 (t 100)),o 102 (.sh .shl (t 101) (.c
 (.int .u64 18))),m 103 10,ac 104 .and 103 (u 63),o 105 (.cvi .i32 (t 104)),o 106 (.sh .shl (t 105) (.c (.int .u64 12))),ar 107 .or 102 106,m 108 11,ac 109 .and 108 (u 63),o
 110 (.cvi .i32 (t 109)),o 111 (.sh .shl (t 110) (.c (.int .u64 6))),ar 112 .or 107 111,m 113 12,ac 114 .and 113 (u 63),o 115 (.cvi .i32 (t 114)),ar 116 .or 112 115,m 2 116,
 mc 3 (i 4)]) R))))))))))))))))))
def dj:AFn:=⟨di,117,[.t 2,.t 3],.keep,[],none⟩
def eY:AC:=
 (Q (O [mc 4 (i 0)]) (Q (O [m 5 0,m 6 1,k2 7 aq 5 6,m 4 7]) R))
def eZ:AFn:=⟨eY,8,[.t 4],.keep,[],none⟩
def iH:AC:=
 (Q (O [mc 2 (i 0)]) (Q (O [m 3 0,ac 4 .add 3 (i 16),ac 5 .quo 4 (i 8),m 2 5]) R))
def iI:AFn:=⟨iH,6,[.t 2],.keep,[],none⟩
def bT:AC:=
 (Q (Q (O [m 18 9,m 19 7,bl 20 18 19]) (C 20 X (.exit 0))) (Q (.block 1 (O [m 23 8,o 24 (.ar .mul (t 23) (.c (.int .u32 16777619))),m 25 0,m 26 9,o 27 (.ixs (t 25) (t 26)),o
 28 (.cvi .u32 (t 27)),ar 29 .add 24 28,m 8 29])) (ic 21 9 22)))
def bU:AC:=
 (Q (Q (O [m 41 10,m 42 0,lt 43 42,bl 44 41 43]) (C 44 X (.exit 2))) (.block 3 (Q (O [m 45 8,o 46 (.ar .mul (t 45) (.c (.int .u32 16777619))),m 8 46]) (Q (O [m 47 8,m 48 0,m
 49 10,o 50 (.ixs (t 48) (t 49)),o 51 (.cvi .u32 (t 50)),ar 52 .add 47 51,m 8 52]) (Q (O [m 53 8,m 54 6,m 55 0,m 56 10,m 57 7,ar 58 .sub 56 57,o 59 (.ixs (t 55) (t 58)),o
 60 (.cvi .u32 (t 59)),ar 61 .mul 54 60,ar 62 .sub 53 61,m 8 62]) (Q (ic 63 10 64) (Q (O [m 65 8,m 66 5,ar 67 .eql 65 66,m 68 67,g 69 68 (.mv (t 0)),g 70 68 (.mv (t 10)),g
 71 68 (.mv (t 7)),g 72 68 (.ar .sub (t 70) (t 71)),g 73 68 (.mv (t 10)),g 74 68 (.sls (t 69) (some (t 72)) (some (t 73))),g 75 68 (.mv (t 1)),g 76 68 (.ar .eql (t 74) (t 75)),
 pf 77 68 76]) (C 77 (Q (O [m 78 10,m 79 7,ar 80 .sub 78 79,m 4 80]) R) X))))))))
def cB:AC:=
 (Q (O [mc 4 (i 0)]) (Q (O [m 12 1,k1 13 eR 12,m 11 13,ex 14 11 0,ex 15 11 1,m 5 14,m 6 15]) (Q (O [m 16 1,lt 17 16,m 7 17]) (Q (O [mc 8 (.c
 (.int .u32 0))]) (Q (Q (O [mc 9 (i 0)]) (.block 0 (.loop ⟨none,[],false⟩ bT))) (Q (Q (O [m 30 8,m 31 5,ar 32 .eql 30 31,m 33 32,g 34
 33 (.mv (t 0)),g 35 33 (.mv (t 7)),g 36 33 (.sls (t 34) none (some (t 35))),g 37 33 (.mv (t 1)),g 38 33 (.ar .eql (t 36) (t 37)),pf 39 33 38]) (C 39 (rt 4 (i 0)) X)) (Q (Q (O
 [m 40 7,m 10 40]) (.block 2 (.loop ⟨none,[],false⟩ bU))) (rt 4 (i (-1))))))))))
def cC:AFn:=⟨cB,81,[.t 4],.keep,[],none⟩
def jm:AC:=
 (Q (O [bl 50 49 48]) (Q (C 50 X (.exit 0)) (Q (.block 1 (Q (O [ia 51 1 47 49,ld 52 51,m 8 52]) (Q (O [m 53 8,ac 54 .sub 53 (u 48),m 8 54]) (Q (Q (O [m 55 8,ac 56 .gtr 55 (u
 9)]) (C 56 (Q (O [o 57 (.mi ah (i 2)),mc 2 (i 0),m 3 57]) R) X)) (O [m 58 6,ac 59 .mul 58 (i 10),m 60 8,o 61 (.cvi .i64 (t 60)),ar 62 .add 59 61,m 6 62]))))) (O
 [ad 63 49,m 49 63]))))
def kL:AC:=
 (Q (O [mc 2 (i 0),mc 3 (.c .nilif)]) (Q (O [m 11 0,lt 12 11,m 4 12]) (Q (Q (O [mc 13 F,g 14 13 (.mv (t 4)),g 15 13 (.ar .lss (i 0) (t 14)),g 16 13 (.mv (t 15)),g 17 16 (.mv
 (t 4)),g 18 16 (.ar .lss (t 17) (i 10)),g 19 13 (.pk (t 16) (t 18) F),pf 20 13 19,m 21 20,h 22 21 (.mv T),g 23 22 (.mv (t 4)),g 24 22 (.ar .lss (i 0) (t 23)),g 25 22 (.mv (t
 24)),g 26 25 (.mv (t 4)),g 27 25 (.ar .lss (t 26) (i 19)),g 28 22 (.pk (t 25) (t 27) F),h 29 21 (.pk (t 22) (t 28) F),pt 30 21 29]) (C 30 (Q (O [m 31 0,m 5 31]) (Q (Q (O [m 32
 0,o 33 (.ixs (t 32) (i 0)),ac 34 .eql 33 (u 45),m 35 34,h 36 35 (.mv (t 0)),h 37 35 (.ixs (t 36) (i 0)),h 38 35 (.ar .eql (t 37) (u 43)),pt 39 35 38]) (C 39 (Q (O [m 40 0,o
 41 (.sls (t 40) (some (i 1)) none),m 0 41]) (Q (O [m 42 0,lt 43 42,ac 44 .lss 43 (i 1)]) (C 44 (Q (O [o 45 (.mi ah (i 2)),mc 2 (i 0),m 3 45]) R) X))) X)) (Q (O [mc
 6 (i 0)]) (Q (Q (O [m 46 0,o 47 (.cvsb (t 46)),ls 48 47,mc 49 (i 0)]) (.block 0 (.loop ⟨none,[],false⟩ jm))) (Q (Q (O [m 64 5,o 65 (.ixs (t 64) (i 0)),
 ac 66 .eql 65 (u 45)]) (C 66 (O [m 67 6,o 68 (.un .neg (t 67)),m 6 68]) X)) (Q (O [m 69 6,m 2 69,mc 3 (.c .nilif)]) R)))))) X)) (Q (O [m 71 0,k 72 (f
 iy) [(t 71),(i 10),(i 0)],m 70 72,ex 73 70 0,ex 74 70 1,m 9 73,m 10 74]) (Q (O [m 75 9,m 76 10,m 2 75,m 3 76]) R)))))
def kM:AFn:=⟨kL,77,[.t 2,.t 3],.keep,[],none⟩
def qp:AC:=
 (Q (O [mc 10 (.c .nilif)]) (Q (Q (O [m 11 4]) (.block 0 (Q (O [o 13 (.mi ah (i 2)),o 14 (.eq false (.ifc false) (t 11) (t 13)),m 12 14]) (C 12 (Q (O [m 15 0,m 16 1,
 k2 17 od 15 16,o 18 (.mi bD (t 17)),m 10 18]) R) (Q (O [o 20 (.mi ah (i 1)),o 21 (.eq false (.ifc false) (t 11) (t 20)),m 19
 21]) (C 19 (Q (O [m 22 0,m 23 1,k2 24 o1 22 23,o 25 (.mi bD (t 24)),m 10 25]) R) (Q (O [o 27 (.mi ah (i 3)),o 28 (.eq false
 (.ifc false) (t 11) (t 27)),m 26 28]) (C 26 (Q (O [m 29 0,m 30 1,m 31 2,k 32 (f pG) [(t 29),(t 30),(t 31)],o 33 (.mi bD (t 32)),m 10 33])
 R) (Q (O [o 35 (.mi ah (i 4)),o 36 (.eq false (.ifc false) (t 11) (t 35)),m 34 36]) (C 34 (Q (O [m 37 0,m 38 1,m 39 3,k 40 (f mX) [(t 37),(t
 38),(t 39)],o 41 (.mi bD (t 40)),m 10 41]) R) X)))))))))) (Q (O [m 42 4,m 10 42]) R)))
def qq:AFn:=⟨qp,43,[.t 10],.keep,[],none⟩
def iJ:AC:=
 (Q (O [mc 4 (s []),mc 5 (s []),mc 6 F]) (Q (Q (O [m 8 0,m 9 1,k2 10 cr 8 9,m 7 10]) (Q (O [m 11 7,ac 12 .geq 11 (i 0)]) (C 12 (Q (D [Pm 13 0,Pm 14
 7,P (o 15 (.sls (t 13) none (some (t 14)))),Pm 16 0,Pm 17 7,Pm 18 1,W (lt 19 18),P (ar 20 .add 17 19),P (o 21 (.sls (t 16) (some (t 20)) none)),Pm 4 15,Pm 5 21,P (mc 6
 T)]) R) X))) (Q (O [m 22 0,m 4 22,mc 5 (s []),mc 6 F]) R)))
def iK:AFn:=⟨iJ,23,[.t 4,.t 5,.t 6],.keep,[],none⟩
def gI:AC:=
 (Q (O [mc 2 (i 0)]) (Q (O [m 3 0,ac 4 .mul 3 (i 78913),o 5 (.sh .shr (t 4) (.c (.int .u64 18))),m 2 5]) R))
def gJ:AFn:=⟨gI,6,[.t 2],.keep,[],none⟩
def qs:AC:=
 (Q (O [mc 2 (i 0)]) (Q (Q (O [m 3 0,o 4 (.ar .geq (t 3) (.c (.int .u64 4294967296)))]) (C 4 (Q (O [m 5 0,o 6 (.sh .shr (t 5) (.c (.int .u64 32))),m 0 6]) (O [mc 2 (i 32)])) X))
 (Q (Q (O [m 7 0,o 8 (.ar .geq (t 7) (.c (.int .u64 65536)))]) (C 8 (Q (O [m 9 0,o 10 (.sh .shr (t 9) (.c (.int .u64 16))),m 0 10]) (O [m 11 2,ac 12 .add 11 (i 16),m 2 12])) X))
 (Q (Q (O [m 13 0,o 14 (.ar .geq (t 13) (.c (.int .u64 256)))]) (C 14 (Q (O [m 15 0,o 16 (.sh .shr (t 15) (.c (.int .u64 8))),m 0 16]) (O [m 17 2,ac 18 .add 17 (i 8),m 2 18]))
 X)) (Q (O [m 19 2,m 20 0,o 21 (.cvi .u8 (t 20)),o 22 (.ixs (s [0,1,2,2,3,3,3,3,4,4,4,4,4,4,4,4,5,5,5,5,5,5,5,5,5,5,5,5,5,5,5,5,6,6,6,6,6,6,
 6,6,6,6,6,6,6,6,6,6,6,6,6,6,6,6,6,6,6,6,6,6,6,6,6,6,7,7,7,7,7,7,7,7,7,7,7,7,7,7,7,7,7,7,7,7,7,7,7,7,7,7,7,7,7,7,7,7,7,7,
 7,7,7,7,7,7,7,7,7,7,7,7,7,7,7,7,7,7,7,7,7,7,7,7,7,7,7,7,7,7,8,8,8,8,8,8,8,8,8,8,8,8,8,8,8,8,8,8,8,8,8,8,8,8,8,8,8,8,8,8,
 8,8,8,8,8,8,8,8,8,8,8,8,8,8,8,8,8,8,8,8,8,8,8,8,8,8,8,8,8,8,8,8,8,8,8,8,8,8,8,8,8,8,8,8,8,8,8,8,8,8,8,8,8,8,8,8,8,8,8,8,
 8,8,8,8,8,8,8,8,8,8,8,8,8,8,8,8,8,8,8,8,8,8,8,8,8,8,8,8,8,8,8,8,8,8,8,8,8,8]) (t 21)),o 23 (.cvi .i64 (t 22)),ar 24 .add 19 23,m 2 24])
 R)))))
def qt:AFn:=⟨qs,25,[.t 2],.keep,[],none⟩
def gK:AC:=
 (Q (O [mc 2 (i 0)]) (Q (Q (O [m 3 0]) (C 3 (rt 2 (i 1)) X)) (rt 2 (i 0))))
def gL:AFn:=⟨gK,4,[.t 2],.keep,[],none⟩
def fH:AC:=
 (Q (O [mc 2 F]) (Q (O [m 3 0,m 4 0,ac 5 .sub 4 (i 1),ar 6 .and 3 5,ac 7 .eql 6 (i 0),m 2 7]) R))
def fI:AFn:=⟨fH,8,[.t 2],.keep,[],none⟩
def jn:AC:=
 (Q (O [mc 2 (i 0)]) (Q (.cond (.c (.bool false)) (Q (O [m 3 0,o 4 (.cvi .u32 (t 3)),k1 5 iz 4,m 2 5]) R) X) (Q (O [m 6 0,k1 7
 iA 6,m 2 7]) R)))
def jo:AFn:=⟨jn,8,[.t 2],.keep,[],none⟩
def pM:AC:=
 (Q (O [o 2 (.bx aY (t 0)),mc 3 F]) (Q (O [ld 4 1,la 5 2 2,k2 6 ef 4 5,no 7 6,m 3 7]) R))
def pN:AFn:=⟨pM,8,[.t 3],.keep,[],none⟩
def dO:AC:=
 (Q (O [o 3 (.bx aY (t 1)),mc 4 F]) (Q (O [m 5 0,la 6 2 3,k2 7 fx 5 6,ac 8 .geq 7 (i 0),m 4 8]) R))
def dP:AFn:=⟨dO,9,[.t 4],.keep,[],none⟩
def vc:AC:=
 (Q (O [mc 4 (.c (.slice .nil 2 []))]) (Q (O [m 6 0,m 7 1,o 8 (.bs 1 [(.slice .nil 0 [])] 2 [(0,(t 6)),(1,(t 7))]),k1 9 eS 8,m 5 9]) (Q (O [m 10
 5,k 11 (f eh) [(t 10),(f tc)]]) (Q (O [m 12 5,k1 13 eB 12,m 4 13]) R))))
def vd:AFn:=⟨vc,14,[.t 4],.keep,[],none⟩
def fb:AC:=
 (Q (O [mc 4 F]) (Q (O [m 5 0,lt 6 5,m 7 1,lt 8 7,ar 9 .geq 6 8,m 10 9,g 11 10 (.mv (t 0)),g 12 10 (.mv (t 1)),g 13 10 (.len .str (t 12)),g 14 10 (.sls (t 11) none (some (t
 13))),g 15 10 (.mv (t 1)),g 16 10 (.ar .eql (t 14) (t 15)),pf 17 10 16,m 4 17]) R))
def fc:AFn:=⟨fb,18,[.t 4],.keep,[],none⟩
def l8:AC:=
 (Q (O [o 4 (.bx ag (t 0)),mc 8 F]) (Q (Q (O [m 11 3,ac 12 .lss 11 (i 0),m 13 12,h 14 13 (.mv (t 3)),h 15 13 (.mv (t 2)),h 16 13 (.len .str (t 15)),h 17 13 (.ar
 .geq (t 14) (t 16)),pt 18 13 17]) (C 18 (Q (O [m 19 1,ac 20 .eql 19 (u 35),m 21 20,g 22 21 (.mv (t 3)),g 23 21 (.ar .eql (t 22) (i (-1))),g 24 21 (.mv (t 23)),h 25 24 (.mv (t
 3)),h 26 24 (.mv (t 2)),h 27 24 (.len .str (t 26)),h 28 24 (.ar .eql (t 25) (t 27)),g 29 21 (.pk (t 24) T (t 28)),pf 30 21 29,m 8 30]) R) X)) (Q (O [m 31 2,m 32 3,o 33 (.ixs
 (t 31) (t 32)),m 9 33]) (Q (O [fa 34 0 4,fa 35 0 34,ld 36 35,m 37 9,k2 38 pH 36 37,ac 39 .geq 38 (i 0),m 10 39]) (Q (Q (O [m 40 1]) (.block 0 (Q (.block 2 (Q
 (.block 1 (Q (Q (Q (O [ac 42 .eql 40 (u 67),m 41 42]) (C 41 (.exit 1) X)) (Q (O [ac 44 .eql 40 (u 86),m 43 44]) (C 43 (.exit 2) X))) (.exit 0))) (O [m 45 10,no 46 45,m 10 46])))
 (Q (Q (O [m 47 9,k1 48 aS 47,m 49 48,g 50 49 (.mv (t 10)),pf 51 49 50,m 8 51]) R) (.exit 0))))) (Q (O [m 52 1,m 53 9,ar 54 .eql 52 53,m 8 54]) R))))))
def l9:AFn:=⟨l8,55,[.t 8],.keep,[],none⟩
def dQ:AC:=
 (Q (Q (O [m 9 5,m 10 0,lt 11 10,bl 12 9 11]) (C 12 X (.exit 0))) (Q (.block 1 (O [m 15 4,o 16 (.ar .mul (t 15) (.c (.int .u32 16777619))),m 17 0,m 18 5,o 19 (.ixs (t 17) (t
 18)),o 20 (.cvi .u32 (t 19)),ar 21 .add 16 20,m 4 21])) (ic 13 5 14)))
def dR:AC:=
 (Q (Q (O [m 24 8,ac 25 .gtr 24 (i 0)]) (C 25 X (.exit 2))) (Q (.block 3 (Q (Q (O [m 28 8,ac 29 .and 28 (i 1),ac 30 .neq 29 (i 0)]) (C 30 (O [m 31 6,m 32 7,ar 33 .mul 31 32,m 6
 33]) X)) (O [m 34 7,m 35 7,ar 36 .mul 34 35,m 7 36]))) (O [m 26 8,o 27 (.sh .shr (t 26) (.c (.int .u64 1))),m 8 27])))
def eG:AC:=
 (Q (O [mc 2 (.c (.int .u32 0)),mc 3 (.c (.int .u32 0))]) (Q (O [mc 4 (.c (.int .u32 0))]) (Q (Q (O [mc 5 (i 0)]) (.block 0 (.loop ⟨none,[],false⟩
 dQ))) (Q (O [mc 6 (.c (.int .u32 1)),mc 7 (.c (.int .u32 16777619))]) (Q (Q (O [m 22 0,lt 23 22,m 8 23]) (.block 2 (.loop ⟨none,[],false⟩
 dR))) (Q (O [m 37 4,m 38 6,m 2 37,m 3 38]) R))))))
def eH:AFn:=⟨eG,39,[.t 2,.t 3],.keep,[],none⟩
def hZ:AC:=
 (Q (O [mc 6 (i 0),mc 7 (.c .nilif)]) (Q (Q (O [m 12 0,ac 13 .eql 12 (s [])]) (C 13 (Q (O [o 14 (.mi ah (i 2)),mc 6 (i 0),m 7 14]) R) X)) (Q (O [mc 8 F]) (Q (Q (O [m
 15 0,o 16 (.ixs (t 15) (i 0))]) (.block 0 (Q (O [ac 18 .eql 16 (u 43),m 17 18]) (C 17 (O [m 19 0,o 20 (.sls (t 19) (some (i 1)) none),m 0 20]) (Q (O [ac 22 .eql 16 (u 45),m 21
 22]) (C 21 (Q (O [m 23 0,o 24 (.sls (t 23) (some (i 1)) none),m 0 24]) (O [mc 8 T])) X)))))) (Q (O [mc 9 (.c (.int .u64 0))]) (Q (O [m 26 0,m 27 1,m 28 2,k 29 (f
 gX) [(t 26),(t 27),(t 28)],m 25 29,ex 30 25 0,ex 31 25 1,m 9 30,m 7 31]) (Q (Q (O [m 32 7,o 33 (.eq true (.ifc true) (t 32) (.c .nilif)),m 34 33,
 g 35 34 (.mv (t 7)),g 36 34 (.mi ah (i 1)),g 37 34 (.eq true (.ifc false) (t 35) (t 36)),pf 38 34 37]) (C 38 (Q (O [m 39 7,mc 6 (i 0),m 7 39]) R) X)) (Q (Q (O [m
 40 2,ac 41 .eql 40 (i 0)]) (C 41 (O [mc 2 (i 64)]) X)) (Q (O [m 42 2,ac 43 .sub 42 (i 1),o 44 (.cvi .u64 (t 43)),o 45 (.sh .shl (.c (.int .u64 1)) (t 44)),m 10 45]) (Q (Q (O [m
 46 8,no 47 46,m 48 47,g 49 48 (.mv (t 9)),g 50 48 (.mv (t 10)),g 51 48 (.ar .geq (t 49) (t 50)),pf 52 48 51]) (C 52 (Q (O [m 53 10,o 54 (.ar .sub (t 53) (.c (.int .u64 1))),
 o 55 (.cvi .i64 (t 54)),o 56 (.mi ah (i 1)),m 6 55,m 7 56]) R) X)) (Q (Q (O [m 57 8,m 58 57,g 59 58 (.mv (t 9)),g 60 58 (.mv (t 10)),g 61 58 (.ar .gtr (t 59) (t
 60)),pf 62 58 61]) (C 62 (Q (O [m 63 10,o 64 (.cvi .i64 (t 63)),o 65 (.un .neg (t 64)),o 66 (.mi ah (i 1)),m 6 65,m 7 66]) R) X)) (Q (O [m 67 9,o 68 (.cvi .i64
 (t 67)),m 11 68]) (Q (Q (O [m 69 8]) (C 69 (O [m 70 11,o 71 (.un .neg (t 70)),m 11 71]) X)) (Q (O [m 72 11,m 6 72,mc 7 (.c .nilif)]) R))))))))))))))
def ib:AFn:=⟨hZ,73,[.t 6,.t 7],.keep,[],none⟩
def nK:AC:=
 (Q (O [mc 4 (.c .nilp)]) (Q (D [Pm 5 0,Pm 6 1,W (o 8 (.ld none (.c .unk))),K (k1 7 aI 6),P (o 9 (.bd [(.str []),(.str []),.nilif] [(0,1),(1,1),
 (2,1)] [(0,(t 5)),(1,(t 7)),(2,(t 8))])),K (o 10 (.bx bX (t 9))),Pm 4 10]) R))
def nL:AFn:=⟨nK,11,[.t 4],.keep,[],none⟩
def oq:AC:=
 (Q (O [mc 4 (.c .nilp)]) (Q (D [Pm 5 0,Pm 6 1,W (o 8 (.ld none (.c .unk))),K (k1 7 aI 6),P (o 9 (.bd [(.str []),(.str []),.nilif] [(0,1),(1,1),
 (2,1)] [(0,(t 5)),(1,(t 7)),(2,(t 8))])),K (o 10 (.bx bX (t 9))),Pm 4 10]) R))
def ot:AFn:=⟨oq,11,[.t 4],.keep,[],none⟩
def ph:AC:=
 (Q (O [mc 6 (.c .nilp)]) (Q (O [m 7 0,m 8 1,k1 9 aI 8,m 10 2,k1 11 iZ 10,o 12 (.ar .add (s [105,110,118,97,108,105,100,32,98,97,
 115,101,32]) (t 11)),k1 13 rh 12,o 14 (.bd [(.str []),(.str []),.nilif] [(0,1),(1,1),(2,1)] [(0,(t 7)),(1,(t 9)),(2,(t 13))]),o 15 (.bx bX
 (t 14)),m 6 15]) R))
def pj:AFn:=⟨ph,16,[.t 6],.keep,[],none⟩
def ma:AC:=
 (Q (O [mc 6 (.c .nilp)]) (Q (O [m 7 0,m 8 1,k1 9 aI 8,m 10 2,k1 11 iZ 10,o 12 (.ar .add (s [105,110,118,97,108,105,100,32,98,105,
 116,32,115,105,122,101,32]) (t 11)),k1 13 rh 12,o 14 (.bd [(.str []),(.str []),.nilif] [(0,1),(1,1),(2,1)] [(0,(t 7)),(1,(t 9)),(2,(t 13))]),o 15 (.bx
 bX (t 14)),m 6 15]) R))
def mb:AFn:=⟨ma,16,[.t 6],.keep,[],none⟩
def ie:AC:=
 (Q (O [mc 2 (i 0)]) (Q (Q (O [m 3 0,o 4 (.ar .eql (t 3) (.c (.int .u32 0)))]) (C 4 (rt 2 (i 32)) X)) (Q (O [m 5 0,m 6 0,o 7 (.un .neg (t 6)),ar 8 .and 5 7,o 9 (.ar .mul (t 8)
 (.c (.int .u32 125613361))),o 10 (.sh .shr (t 9) (.c (.int .u64 27))),o 11 (.iaa 32 1 (.c .unk) (t 10)),ld 12 11,o 13 (.cvi .i64 (t 12)),m 2 13]) R)))
def ig:AFn:=⟨ie,14,[.t 2],.keep,[],none⟩
def ij:AC:=
 (Q (O [mc 2 (i 0)]) (Q (Q (O [m 3 0,o 4 (.ar .eql (t 3) (.c (.int .u64 0)))]) (C 4 (rt 2 (i 64)) X)) (Q (O [m 5 0,m 6 0,o 7 (.un .neg (t 6)),ar 8 .and 5 7,o 9 (.ar .mul (t 8)
 (.c (.int .u64 285870213051353865))),o 10 (.sh .shr (t 9) (.c (.int .u64 58))),o 11 (.iaa 64 1 (.c .unk) (t 10)),ld 12 11,o 13 (.cvi .i64 (t 12)),m 2 13]) R)))
def ik:AFn:=⟨ij,14,[.t 2],.keep,[],none⟩
def el:AC:=
 (Q (O [bl 9 8 7]) (Q (C 9 X (.exit 0)) (Q (.block 1 (Q (O [m 10 8,m 5 10]) (Q (D [W (la 11 2 3),Pm 12 0,Pm 13 5,P (ia 14 2 12 13),W (la 15 2 14),P (o 16 (.eq false (.st [(0,
 .str),(1,.str)]) (t 11) (t 15)))]) (C 16 (Q (O [m 17 5,m 4 17]) R) X)))) (O [ad 18 8,m 8 18]))))
def fe:AC:=
 (Q (O [o 3 (.bx aY (t 1)),mc 4 (i 0)]) (Q (Q (O [m 6 0,ls 7 6,mc 8 (i 0)]) (.block 0 (.loop ⟨none,[],false⟩ el))) (rt 4 (i (-1)))))
def ff:AFn:=⟨fe,19,[.t 4],.keep,[],none⟩
def dS:AC:=
 (Q (O [bl 12 11 10]) (Q (C 12 X (.exit 0)) (Q (.block 1 (Q (O [ia 13 1 9 11,ld 14 13,m 5 14]) (Q (O [m 15 3,m 16 5,ls 17 16,ar 18 .add 15 17,m 3 18]) (Q (O [m 19 3,ac 20 .lss
 19 (i 0)]) (C 20 (O [o 21 (.mi ct (s [108,101,110,32,111,117,116,32,111,102,32,114,97,110,103,101])),⟨none,none,(.panic (.t 21))⟩]) X))))) (O [ad 22 11,m 11
 22]))))
def dU:AC:=
 (Q (O [bl 28 27 26]) (Q (C 28 X (.exit 2)) (Q (.block 3 (Q (O [ia 29 1 25 27,ld 30 29,m 8 30]) (O [m 31 6,m 32 8,o 33 (.ap false aY 2 32 false (t 31) (t 32)),m 6 33])))
 (O [ad 34 27,m 27 34]))))
def eI:AC:=
 (Q (O [mc 2 (.c (.slice .nil 2 []))]) (Q (O [mc 3 (i 0)]) (Q (Q (O [m 9 0,ls 10 9,mc 11 (i 0)]) (.block 0 (.loop ⟨none,[],false⟩ dS))) (Q (O [m
 23 3,k 24 (f fT) [(.c (.slice .nil 2 [])),(t 23)],m 6 24]) (Q (Q (O [m 25 0,ls 26 25,mc 27 (i 0)]) (.block 2 (.loop ⟨none,[],false⟩
 dU))) (Q (O [m 35 6,m 2 35]) R))))))
def eJ:AFn:=⟨eI,36,[.t 2],.keep,[],none⟩
def dV:AC:=
 (Q (O [m 5 0,ls 6 5,m 4 6]) (O [m 7 0,m 8 4,m 9 4,o 10 (.cvi .u64 (t 9)),k1 11 nS 10,m 12 1,k 13 (f aL) [(t 7),(i 0),(t 8),(t
 11),(t 12)]]))
def dW:AFn:=⟨dV,14,[],.keep,[],none⟩
def ss:AC:=
 (Q (O [o 2 (.bx aY (t 0)),o 3 (.bx aY (t 1)),mc 4 (i 0)]) (Q (O [fa 5 0 2,ld 6 5,fa 7 0 3,ld 8 7,k2 9 re 6 8,m 4 9]) R))
def su:AFn:=⟨ss,10,[.t 4],.keep,[],none⟩
def qu:AC:=
 (Q (O [mc 4 (i 0)]) (Q (O [m 5 0,m 6 1,k2 7 fy 5 6,m 4 7]) R))
def qv:AFn:=⟨qu,8,[.t 4],.keep,[],none⟩
def dB:AC:=
 (Q (Q (O [m 29 5,m 30 4,ls 31 30,bl 32 29 31]) (C 32 X (.exit 2))) (Q (.block 3 (Q (D [Pm 35 4,Pm 36 5,P (ia 37 2 35 36),W (la 38 2 37),Pm 39 4,Pm 40 5,P (ac 41 .sub 40 (i
 1)),P (ia 42 2 39 41),W (la 43 2 42),P (o 44 (.eq true (.st [(0,.str),(1,.str)]) (t 38) (t 43)))]) (C 44 (Q (O [m 45 0,m 46 3,m 47 4,m 48 5,ia 49 2 47 48,la 50 2 49,ia
 51 2 45 46,n (.st 2 (t 51) (t 50))]) (ic 52 3 53)) X))) (ic 33 5 34)))
def dC:AC:=
 (Q (Q (O [m 10 3,m 11 0,ls 12 11,bl 13 10 12]) (C 13 X (.exit 0))) (Q (.block 1 (Q (D [Pm 16 0,Pm 17 3,P (ia 18 2 16 17),W (la 19 2 18),Pm 20 0,Pm 21 3,P (ac 22 .sub 21 (i
 1)),P (ia 23 2 20 22),W (la 24 2 23),P (o 25 (.eq false (.st [(0,.str),(1,.str)]) (t 19) (t 24)))]) (C 25 (Q (O [m 26 0,m 27 3,o 28 (.sll 2 (t 26) (some (t 27)) none none),
 m 4 28]) (Q (Q (O [mc 5 (i 1)]) (.block 2 (.loop ⟨none,[],false⟩ dB))) (Q (O [m 54 0,m 55 3,o 56 (.sll 2 (t 54) (some (t 55)) none none),n
 (.cl 2 [(.str []),(.str [])] (t 56))]) (Q (O [m 57 0,m 58 3,o 59 (.sll 2 (t 57) none (some (t 58)) none),m 2 59]) R)))) X))) (ic 14 3 15)))
def en:AC:=
 (Q (O [mc 2 (.c (.slice .nil 2 []))]) (Q (Q (O [m 6 0,ls 7 6,ac 8 .lss 7 (i 2)]) (C 8 (Q (O [m 9 0,m 2 9]) R) X)) (Q (Q (O [mc 3 (i 1)]) (.block 0 (.loop ⟨none,[],false⟩
 dC))) (Q (O [m 60 0,m 2 60]) R))))
def eo:AFn:=⟨en,61,[.t 2],.keep,[],none⟩
def pn:AC:=
 (Q (O [mc 4 (i 0)]) (Q (O [m 5 0,m 6 1,k2 7 aK 5 6,m 4 7]) R))
def po:AFn:=⟨pn,8,[.t 4],.keep,[],none⟩
def fX:AC:=
 (Q (O [bl 102 101 100]) (Q (C 102 X (.exit 3)) (Q (.block 4 (Q (O [ia 103 1 99 101,ld 104 103,m 15 104]) (Q (O [mc 16 (u 0)]) (Q (.block 5 (Q (O [m 107 15,ac 108 .eql 107 (u 95),
 m 109 108,g 110 109 (.mv (t 8)),pf 111 109 110,m 106 111]) (C 106 (Q (O [mc 12 T]) (.exit 4)) (Q (O [m 113 15,o 114 (.ar .leq (u 48) (t 113)),m 115 114,g 116 115 (.mv (t 15)),
 g 117 115 (.ar .leq (t 116) (u 57)),pf 118 115 117,m 112 118]) (C 112 (O [m 119 15,ac 120 .sub 119 (u 48),m 16 120]) (Q (O [m 122 15,k1 123 ae 122,o 124
 (.ar .leq (u 97) (t 123)),m 125 124,g 126 125 (.mv (t 15)),⟨(some 127),(some (125,true)),(.call (.c (.fn (.func ae) [] [])) [(.t 126)])⟩,g 128 125 (.ar
 .leq (t 127) (u 122)),pf 129 125 128,m 121 129]) (C 121 (O [m 130 15,k1 131 ae 130,ac 132 .sub 131 (u 97),ac 133 .add 132 (u 10),m 16 133]) (Q (O [o 105
 (.mi ah (i 2)),mc 6 (.c (.int .u64 0)),m 7 105]) R)))))))) (Q (Q (O [m 134 16,m 135 1,o 136 (.cvi .u8 (t 135)),ar 137 .geq 134 136]) (C 137 (Q (O [o 138 (.mi
 ah (i 2)),mc 6 (.c (.int .u64 0)),m 7 138]) R) X)) (Q (Q (O [m 139 13,m 140 10,ar 141 .geq 139 140]) (C 141 (Q (O [m 142 11,o 143 (.mi ah (i 1)),m 6
 142,m 7 143]) R) X)) (Q (O [m 144 13,m 145 1,o 146 (.cvi .u64 (t 145)),ar 147 .mul 144 146,m 13 147]) (Q (O [m 148 13,m 149 16,o 150 (.cvi .u64 (t 149)),ar 151 .add 148 150,
 m 17 151]) (Q (Q (O [m 152 17,m 153 13,bl 154 152 153,m 155 154,h 156 155 (.mv (t 17)),h 157 155 (.mv (t 11)),h 158 155 (.ar .gtr (t 156) (t 157)),pt 159 155 158]) (C 159 (Q
 (O [m 160 11,o 161 (.mi ah (i 1)),m 6 160,m 7 161]) R) X)) (O [m 162 17,m 13 162])))))))))) (O [ad 163 101,m 101 163]))))
def gM:AC:=
 (Q (O [mc 6 (.c (.int .u64 0)),mc 7 (.c .nilif)]) (Q (Q (O [m 18 0,ac 19 .eql 18 (s [])]) (C 19 (Q (O [o 20 (.mi ah (i 2)),mc 6 (.c (.int .u64 0)),m 7 20]) R) X))
 (Q (O [m 21 1,ac 22 .eql 21 (i 0),m 8 22]) (Q (O [m 23 0,m 9 23]) (Q (.block 0 (Q (O [m 26 1,o 27 (.ar .leq (i 2) (t 26)),m 28 27,g 29 28 (.mv (t 1)),g 30 28 (.ar .leq (t 29)
 (i 36)),pf 31 28 30,m 25 31]) (C 25 X (Q (O [m 33 1,ac 34 .eql 33 (i 0),m 32 34]) (C 32 (Q (O [mc 1 (i 10)]) (Q (O [m 35 0,o 36 (.ixs (t 35) (i 0)),ac 37 .eql 36 (u 48)]) (C
 37 (.block 1 (Q (O [m 41 0,lt 42 41,ac 43 .geq 42 (i 3),m 44 43,g 45 44 (.mv (t 0)),g 46 44 (.ixs (t 45) (i 1)),⟨(some 47),(some (44,true)),(.call (.c (.fn (.func
 ae) [] [])) [(.t 46)])⟩,g 48 44 (.ar .eql (t 47) (u 98)),pf 49 44 48,m 40 49]) (C 40 (Q (O [mc 1 (i 2)]) (O [m 50 0,o 51 (.sls (t 50) (some (i 2)) none),m
 0 51])) (Q (O [m 53 0,lt 54 53,ac 55 .geq 54 (i 3),m 56 55,g 57 56 (.mv (t 0)),g 58 56 (.ixs (t 57) (i 1)),⟨(some 59),(some (56,true)),(.call (.c (.fn (.func
 ae) [] [])) [(.t 58)])⟩,g 60 56 (.ar .eql (t 59) (u 111)),pf 61 56 60,m 52 61]) (C 52 (Q (O [mc 1 (i 8)]) (O [m 62 0,o 63 (.sls (t 62) (some (i 2)) none),
 m 0 63])) (Q (O [m 65 0,lt 66 65,ac 67 .geq 66 (i 3),m 68 67,g 69 68 (.mv (t 0)),g 70 68 (.ixs (t 69) (i 1)),⟨(some 71),(some (68,true)),(.call (.c (.fn (.func
 ae) [] [])) [(.t 70)])⟩,g 72 68 (.ar .eql (t 71) (u 120)),pf 73 68 72,m 64 73]) (C 64 (Q (O [mc 1 (i 16)]) (O [m 74 0,o 75 (.sls (t 74) (some (i 2)) none),
 m 0 75])) (Q (O [mc 1 (i 8)]) (O [m 38 0,o 39 (.sls (t 38) (some (i 1)) none),m 0 39]))))))))) X))) (Q (O [o 24 (.mi ah (i 3)),mc 6 (.c (.int .u64 0)),m 7 24])
 R)))))) (Q (Q (O [m 76 2,ac 77 .eql 76 (i 0)]) (C 77 (O [mc 2 (i 64)]) (Q (O [m 78 2,ac 79 .lss 78 (i 0),m 80 79,h 81 80 (.mv (t 2)),h 82 80 (.ar .gtr (t 81) (i 64)),pt 83 80
 82]) (C 83 (Q (O [o 84 (.mi ah (i 4)),mc 6 (.c (.int .u64 0)),m 7 84]) R) X)))) (Q (O [mc 10 (.c (.int .u64 0))]) (Q (Q (O [m 85 1]) (.block 2 (Q (O [ac 91 .eql 85 (i
 10),m 90 91]) (C 90 (O [mc 10 (.c (.int .u64 1844674407370955162))]) (Q (O [ac 93 .eql 85 (i 16),m 92 93]) (C 92 (O [mc 10 (.c (.int .u64 1152921504606846976))]) (O [m 86 1,o 87
 (.cvi .u64 (t 86)),o 88 (.ar .quo (.c (.int .u64 18446744073709551615)) (t 87)),o 89 (.ar .add (t 88) (.c (.int .u64 1))),m 10 89]))))))) (Q (O [m 94 2,o 95 (.cvi .u64 (t 94)),
 o 96 (.sh .shl (.c (.int .u64 1)) (t 95)),o 97 (.ar .sub (t 96) (.c (.int .u64 1))),m 11 97]) (Q (O [mc 12 F]) (Q (O [mc 13 (.c (.int .u64 0))]) (Q (Q (O [m 98 0,o 99 (.cvsb (t
 98)),ls 100 99,mc 101 (i 0)]) (.block 3 (.loop ⟨none,[],false⟩ fX))) (Q (Q (O [m 164 12,m 165 164,g 166 165 (.mv (t 9)),⟨(some 167),(some (165,
 true)),(.call (.c (.fn (.func fU) [] [])) [(.t 166)])⟩,g 168 165 (.un .not (t 167)),pf 169 165 168]) (C 169 (Q (O [o 170 (.mi ah (i 2)),
 mc 6 (.c (.int .u64 0)),m 7 170]) R) X)) (Q (O [m 171 13,m 6 171,mc 7 (.c .nilif)]) R))))))))))))))
def gN:AFn:=⟨gM,172,[.t 6,.t 7],.keep,[],none⟩
def gO:AC:=
 (Q (O [mc 2 (s [])]) (Q (Q (O [m 4 0,lt 5 4,ac 6 .eql 5 (i 0)]) (C 6 (rt 2 (s [])) X)) (Q (O [m 7 0,lt 8 7,o 9 (.ms mZ 1 [(.int .u8 0)] (t 8) (t 8)),m 3 9]) (Q (O [m 10 3,
 m 11 0,o 12 (.cp 1 true (t 10) (t 11))]) (Q (O [m 13 3,o 14 (.ias 1 (t 13) (i 0)),m 15 3,ls 16 15,o 17 (.ust mZ (t 14) (t 16)),m 2 17]) R)))))
def gP:AFn:=⟨gO,18,[.t 2],.keep,[],none⟩
def vE:AC:=
 (Q (O [mc 2 (.c .nilif)]) (Q (O [m 3 0,o 4 (.bd [(.str [])] [(0,1)] [(0,(t 3))]),o 5 (.bx o3 (t 4)),o 6 (.mi na (t 5)),m 2 6]) R))
def vF:AFn:=⟨vE,7,[.t 2],.keep,[],none⟩
def fJ:AC:=
 (Q (O [mc 4 (.c (.slice .nil 2 []))]) (Q (Q (O [m 5 1,ac 6 .lss 5 (i 0)]) (C 6 (O [o 7 (.mi ct (s [99,97,110,110,111,116,32,98,101,32,110,101,103,97,116,105,
 118,101])),⟨none,none,(.panic (.t 7))⟩]) X)) (Q (Q (O [m 8 1,m 9 0,o 10 (.cap (t 9)),m 11 0,ls 12 11,ar 13 .sub 10 12,ar 14 .sub 8 13,m 1 14]) (Q (O [m 15 1,ac 16 .gtr
 15 (i 0)]) (C 16 (O [m 17 0,m 18 0,o 19 (.cap (t 18)),o 20 (.sll 2 (t 17) none (some (t 19)) none),m 21 1,o 22 (.apz aY 2 32 [(.str []),(.str [])] (t 20) (t 21)),m 23
 0,ls 24 23,o 25 (.sll 2 (t 22) none (some (t 24)) none),m 0 25]) X))) (Q (O [m 26 0,m 4 26]) R))))
def fK:AFn:=⟨fJ,27,[.t 4],.keep,[],none⟩
def ep:AC:=
 (.block 1 (Q (O [m 21 2,m 22 1,ar 23 .sub 21 22,m 12 23]) (Q (Q (O [m 24 12,ac 25 .leq 24 (i 12)]) (C 25 (Q (O [m 26 0,m 27 1,m 28 2,m 29 4,k 30 (f
 dg) [(t 26),(t 27),(t 28),(t 29)]]) R) X)) (Q (Q (O [m 31 3,ac 32 .eql 31 (i 0)]) (C 32 (Q (O [m 33 0,m 34 1,m 35 2,m 36 4,k 37 (f
 eT) [(t 33),(t 34),(t 35),(t 36)]]) R) X)) (Q (Q (O [m 38 10,no 39 38]) (C 39 (Q (O [m 40 0,m 41 1,m 42 2,m 43 4,k 44 (f
 dh) [(t 40),(t 41),(t 42),(t 43)]]) (O [m 45 3,ac 46 .sub 45 (i 1),m 3 46])) X)) (Q (O [m 48 0,m 49 1,m 50 2,m 51 4,k 52 (f
 dN) [(t 48),(t 49),(t 50),(t 51)],m 47 52,ex 53 47 0,ex 54 47 1,m 13 53,m 14 54]) (Q (Q (O [m 55 14,ac 56 .eql 55 (i 2)]) (C 56 (Q (O [m
 57 0,m 58 1,m 59 2,m 60 4,k 61 (f dw) [(t 57),(t 58),(t 59),(t 60)]]) (Q (O [m 62 2,ac 63 .sub 62 (i 1),m 64 13,m 65 1,ar 66 .sub 64
 65,ar 67 .sub 63 66,m 13 67]) (O [mc 14 (i 1)]))) X)) (Q (Q (O [m 68 10,m 69 68,g 70 69 (.mv (t 11)),pf 71 69 70,m 72 71,g 73 72 (.mv (t 14)),g 74 72 (.ar .eql (t 73) (i
 1)),pf 75 72 74]) (C 75 (Q (O [m 76 0,m 77 1,m 78 2,m 79 4,k 80 (f bO) [(t 76),(t 77),(t 78),(t 79)]]) (C 80 R X)) X)) (Q (Q (D
 [Pm 81 1,P (ac 82 .gtr 81 (i 0)),Pm 83 82,P (g 84 83 (.mv (t 4))),P (g 85 83 (.mv (t 0))),P (g 86 83 (.mv (t 1))),P (g 87 83 (.ar .sub (t 86) (i 1))),P (g 88 83 (.ias 2 (t
 85) (t 87))),W (g 89 83 (.ld (some 2) (t 88))),P (g 90 83 (.mv (t 0))),P (g 91 83 (.mv (t 13))),P (g 92 83 (.ias 2 (t 90) (t 91))),W (g 93 83 (.ld (some 2) (t 92))),E (⟨(some
 94),(some (83,true)),(.call (.t 84) [(.t 89),(.t 93)])⟩),P (g 95 83 (.ar .lss (t 94) (i 0))),P (g 96 83 (.un .not (t 95))),P (pf 97 83 96)]) (C 97 (Q (O [m 98 0,m 99 1,m
 100 2,m 101 13,m 102 4,k 103 (f cV) [(t 98),(t 99),(t 100),(t 101),(t 102)],m 15 103]) (Q (O [m 104 15,m 1 104]) (.exit 1))) X)) (Q (O
 [m 106 0,m 107 1,m 108 2,m 109 13,m 110 4,k 111 (f eC) [(t 106),(t 107),(t 108),(t 109),(t 110)],m 105 111,ex 112 105 0,ex 113 105 1,m
 16 112,m 17 113]) (Q (O [m 114 17,m 11 114]) (Q (O [m 115 16,m 116 1,ar 117 .sub 115 116,m 118 2,m 119 16,ar 120 .sub 118 119,m 18 117,m 19 120]) (Q (O [m 121 12,ac 122
 .quo 121 (i 8),m 20 122]) (Q (O [m 123 18,m 124 19,bl 125 123 124]) (C 125 (Q (O [m 126 18,m 127 20,ar 128 .geq 126 127,m 10 128]) (Q (O [m 129 0,m 130 1,m 131 16,m 132 3,
 m 133 4,k 134 (f aL) [(t 129),(t 130),(t 131),(t 132),(t 133)]]) (O [m 135 16,ad 136 135,m 1 136]))) (Q (O [m 137 19,m 138 20,ar 139 .geq 137
 138,m 10 139]) (Q (O [m 140 0,m 141 16,ad 142 141,m 143 2,m 144 3,m 145 4,k 146 (f aL) [(t 140),(t 142),(t 143),(t 144),(t 145)]]) (O [m 147
 16,m 2 147]))))))))))))))))))
def fg:AC:=
 (Q (O [mc 10 T]) (Q (O [mc 11 T]) (.block 0 (.loop ⟨none,[],false⟩ ep))))
def fh:AFn:=⟨fg,148,[],.keep,[],none⟩
def sv:AC:=
 (Q (O [mc 2 (i 0)]) (Q (.cond (.c (.bool false)) (Q (O [m 3 0,o 4 (.cvi .u32 (t 3)),k1 5 ri 4,m 2 5]) R) X) (Q (O [m 6 0,k1 7 jZ 6,m 2 7]) R)))
def sw:AFn:=⟨sv,8,[.t 2],.keep,[],none⟩
def fi:AC:=
 (Q (O [mc 4 (i 0)]) (Q (O [m 5 0,m 6 1,k2 7 bS 5 6,m 4 7]) R))
def fj:AFn:=⟨fi,8,[.t 4],.keep,[],none⟩
def jQ:AC:=
 (Q (O [mc 2 (u 0)]) (Q (O [m 3 0,ac 4 .or 3 (u 32),m 2 4]) R))
def jR:AFn:=⟨jQ,5,[.t 2],.keep,[],none⟩
def eK:AC:=
 (Q (Q (O [m 51 4,m 52 0,lt 53 52,bl 54 51 53]) (C 54 X (.exit 0))) (Q (.block 1 (Q (Q (O [m 57 0,m 58 4,o 59 (.ixs (t 57) (t 58)),o 60 (.ar .leq (u 48) (t 59)),m 61 60,g 62
 61 (.mv (t 0)),g 63 61 (.mv (t 4)),g 64 61 (.ixs (t 62) (t 63)),g 65 61 (.ar .leq (t 64) (u 57)),pf 66 61 65,m 67 66,h 68 67 (.mv (t 5)),h 69 67 (.mv (t 68)),g 70 69 (.mv (t
 0)),g 71 69 (.mv (t 4)),g 72 69 (.ixs (t 70) (t 71)),⟨(some 73),(some (69,true)),(.call (.c (.fn (.func ae) [] [])) [(.t 72)])⟩,g 74 69 (.ar .leq (u 97)
 (t 73)),h 75 67 (.pk (t 69) (t 74) F),h 76 67 (.mv (t 75)),g 77 76 (.mv (t 0)),g 78 76 (.mv (t 4)),g 79 76 (.ixs (t 77) (t 78)),⟨(some 80),(some (76,true)),(.call (.c (.fn
 (.func ae) [] [])) [(.t 79)])⟩,g 81 76 (.ar .leq (t 80) (u 102)),h 82 67 (.pk (t 76) (t 81) F),pt 83 67 82]) (C 83 (Q (O [mc 3 (.c (.int .i32 48))]) (.exit
 1)) X)) (Q (Q (O [m 84 0,m 85 4,o 86 (.ixs (t 84) (t 85)),ac 87 .eql 86 (u 95)]) (C 87 (Q (Q (O [m 88 3,o 89 (.ar .neq (t 88) (.c (.int .i32 48)))]) (C 89 (rt 2 F) X)) (Q (O [mc
 3 (.c (.int .i32 95))]) (.exit 1))) X)) (Q (Q (O [m 90 3,o 91 (.ar .eql (t 90) (.c (.int .i32 95)))]) (C 91 (rt 2 F) X)) (O [mc 3 (.c (.int .i32 33))]))))) (ic 55 4 56)))
def fL:AC:=
 (Q (O [mc 2 F]) (Q (O [mc 3 (.c (.int .i32 94))]) (Q (O [mc 4 (i 0)]) (Q (Q (O [m 6 0,lt 7 6,ac 8 .geq 7 (i 1),m 9 8,g 10 9 (.mv (t 0)),g 11 9 (.ixs (t 10) (i 0)),g 12 9 (.ar
 .eql (t 11) (u 45)),g 13 9 (.mv (t 12)),h 14 13 (.mv (t 0)),h 15 13 (.ixs (t 14) (i 0)),h 16 13 (.ar .eql (t 15) (u 43)),g 17 9 (.pk (t 13) T (t 16)),pf 18 9 17]) (C 18 (O [m
 19 0,o 20 (.sls (t 19) (some (i 1)) none),m 0 20]) X)) (Q (O [mc 5 F]) (Q (Q (O [m 21 0,lt 22 21,ac 23 .geq 22 (i 2),m 24 23,g 25 24 (.mv (t 0)),g 26 24 (.ixs (t 25) (i 0)),
 g 27 24 (.ar .eql (t 26) (u 48)),pf 28 24 27,m 29 28,g 30 29 (.mv (t 0)),g 31 29 (.ixs (t 30) (i 1)),⟨(some 32),(some (29,true)),(.call (.c (.fn (.func
 ae) [] [])) [(.t 31)])⟩,g 33 29 (.ar .eql (t 32) (u 98)),g 34 29 (.mv (t 33)),h 35 34 (.mv (t 0)),h 36 34 (.ixs (t 35) (i 1)),⟨(some 37),(some (34,
 false)),(.call (.c (.fn (.func ae) [] [])) [(.t 36)])⟩,h 38 34 (.ar .eql (t 37) (u 111)),g 39 29 (.pk (t 34) T (t 38)),g 40 29 (.mv (t 39)),h 41 40 (.mv
 (t 0)),h 42 40 (.ixs (t 41) (i 1)),⟨(some 43),(some (40,false)),(.call (.c (.fn (.func ae) [] [])) [(.t 42)])⟩,h 44 40 (.ar .eql (t 43) (u 120)),g 45 29
 (.pk (t 40) T (t 44)),pf 46 29 45]) (C 46 (Q (O [mc 4 (i 2)]) (Q (O [mc 3 (.c (.int .i32 48))]) (O [m 47 0,o 48 (.ixs (t 47) (i 1)),k1 49 ae 48,ac 50 .eql
 49 (u 120),m 5 50]))) X)) (Q (.block 0 (.loop ⟨none,[],false⟩ eK)) (Q (O [m 92 3,o 93 (.ar .neq (t 92) (.c (.int .i32 95))),m 2 93]) R))))))))
def fM:AFn:=⟨fL,94,[.t 2],.keep,[],none⟩
def cD:AC:=
 (Q (Q (D [Pm 18 9,Pm 19 1,P (ar 20 .gtr 18 19),Pm 21 20,P (g 22 21 (.mv (t 3))),P (g 23 21 (.mv (t 0))),P (g 24 21 (.mv (t 9))),P (g 25 21 (.ias 2 (t 23) (t 24))),W (g 26 21
 (.ld (some 2) (t 25))),P (g 27 21 (.mv (t 0))),P (g 28 21 (.mv (t 9))),P (g 29 21 (.ar .sub (t 28) (i 1))),P (g 30 21 (.ias 2 (t 27) (t 29))),W (g 31 21 (.ld (some 2) (t 30))),
 E (⟨(some 32),(some (21,true)),(.call (.t 22) [(.t 26),(.t 31)])⟩),P (g 33 21 (.ar .lss (t 32) (i 0))),P (pf 34 21 33)]) (C 34 X (.exit 2))) (Q (.block 3 (D [Pm 37 0,Pm 38 9,
 Pm 39 0,Pm 40 9,P (ac 41 .sub 40 (i 1)),Pm 42 0,Pm 43 9,P (ac 44 .sub 43 (i 1)),P (ia 45 2 42 44),W (la 46 2 45),Pm 47 0,Pm 48 9,P (ia 49 2 47 48),W (la 50 2 49),P (ia
 51 2 37 38),E (n (.st 2 (t 51) (t 46))),P (ia 52 2 39 41),E (n (.st 2 (t 52) (t 50)))])) (O [m 35 9,ac 36 .sub 35 (i 1),m 9 36])))
def cE:AC:=
 (Q (Q (O [m 12 8,m 13 2,bl 14 12 13]) (C 14 X (.exit 0))) (Q (.block 1 (Q (O [m 17 8,m 9 17]) (.block 2 (.loop ⟨none,[],false⟩ cD)))) (ic
 15 8 16)))
def c7:AC:=
 (Q (O [m 10 1,ad 11 10,m 8 11]) (.block 0 (.loop ⟨none,[],false⟩ cE)))
def c8:AFn:=⟨c7,53,[],.keep,[],none⟩
def dX:AC:=
 (Q (Q (O [m 20 11,ac 21 .geq 20 (i 0)]) (C 21 X (.exit 0))) (Q (.block 1 (O [m 24 0,m 25 11,m 26 10,m 27 8,m 28 3,k 29 (f bq) [(t 24),(t 25),
 (t 26),(t 27),(t 28)]])) (O [m 22 11,ac 23 .sub 22 (i 1),m 11 23])))
def dY:AC:=
 (Q (Q (O [m 32 12,ac 33 .geq 32 (i 0)]) (C 33 X (.exit 2))) (Q (.block 3 (Q (D [Pm 36 0,Pm 37 8,Pm 38 0,Pm 39 8,Pm 40 12,P (ar 41 .add 39 40),Pm 42 0,Pm 43 8,Pm 44 12,P
 (ar 45 .add 43 44),P (ia 46 2 42 45),W (la 47 2 46),Pm 48 0,Pm 49 8,P (ia 50 2 48 49),W (la 51 2 50),P (ia 52 2 36 37),E (n (.st 2 (t 52) (t 47))),P (ia 53 2 38 41),E (n
 (.st 2 (t 53) (t 51)))]) (O [m 54 0,m 55 9,m 56 12,m 57 8,m 58 3,k 59 (f bq) [(t 54),(t 55),(t 56),(t 57),(t 58)]]))) (O [m 34 12,ac 35 .sub
 34 (i 1),m 12 35])))
def eL:AC:=
 (Q (O [m 13 1,m 8 13]) (Q (O [mc 9 (i 0)]) (Q (O [m 14 2,m 15 1,ar 16 .sub 14 15,m 10 16]) (Q (Q (O [m 17 10,ac 18 .sub 17 (i 1),ac 19 .quo 18 (i 2),m 11 19]) (.block 0
 (.loop ⟨none,[],false⟩ dX))) (Q (O [m 30 10,ac 31 .sub 30 (i 1),m 12 31]) (.block 2 (.loop ⟨none,[],false⟩
 dY)))))))
def eM:AFn:=⟨eL,60,[],.keep,[],none⟩
def cF:AC:=
 (Q (Q (O [m 28 11,m 29 1,m 30 8,ac 31 .quo 30 (i 4),ac 32 .mul 31 (i 2),ar 33 .add 29 32,ad 34 33,ar 35 .leq 28 34]) (C 35 X (.exit 0))) (Q (.block 1 (Q (O [k1 38
 mY 9,m 39 10,o 40 (.ar .sub (t 39) (.c (.int .u64 1))),ar 41 .and 38 40,o 42 (.cvi .i64 (t 41)),m 12 42]) (Q (Q (O [m 43 12,m 44 8,ar 45 .geq 43 44]) (C
 45 (O [m 46 12,m 47 8,ar 48 .sub 46 47,m 12 48]) X)) (D [Pm 49 0,Pm 50 11,Pm 51 0,Pm 52 1,Pm 53 12,P (ar 54 .add 52 53),Pm 55 0,Pm 56 1,Pm 57 12,P (ar 58 .add 56 57),P
 (ia 59 2 55 58),W (la 60 2 59),Pm 61 0,Pm 62 11,P (ia 63 2 61 62),W (la 64 2 63),P (ia 65 2 49 50),E (n (.st 2 (t 65) (t 60))),P (ia 66 2 51 54),E (n (.st 2 (t 66) (t
 64)))])))) (ic 36 11 37)))
def c9:AC:=
 (Q (O [m 13 2,m 14 1,ar 15 .sub 13 14,m 8 15]) (Q (O [m 16 8,ac 17 .geq 16 (i 8)]) (C 17 (Q (O [m 18 8,o 19 (.cvi .u64 (t 18)),o 9 (.nw [(.int .u64 0)] rk),n
 (.st 1 (t 9) (t 19))]) (Q (O [m 20 8,k1 21 ln 20,m 10 21]) (Q (O [m 22 1,m 23 8,ac 24 .quo 23 (i 4),ac 25 .mul 24 (i 2),ar 26 .add 22 25,ac 27 .sub 26 (i
 1),m 11 27]) (.block 0 (.loop ⟨none,[],false⟩ cF))))) X)))
def da:AFn:=⟨c9,67,[],.keep,[],none⟩
def dD:AC:=
 (Q (O [mc 8 (i 0),mc 9 (i 0)]) (Q (O [m 15 2,m 16 1,ar 17 .sub 15 16,m 10 17]) (Q (O [o 11 (.nw [(.int .i64 0)] Cd)]) (Q (O [m 18 1,m 19 10,ac 20 .quo 19 (i 4),ac 21 .mul
 20 (i 1),ar 22 .add 18 21,m 12 22]) (Q (O [m 23 1,m 24 10,ac 25 .quo 24 (i 4),ac 26 .mul 25 (i 2),ar 27 .add 23 26,m 13 27]) (Q (O [m 28 1,m 29 10,ac 30 .quo 29 (i 4),ac
 31 .mul 30 (i 3),ar 32 .add 28 31,m 14 32]) (Q (Q (O [m 33 10,ac 34 .geq 33 (i 8)]) (C 34 (Q (Q (O [m 35 10,ac 36 .geq 35 (i 50)]) (C 36 (Q (O [m 37 0,m 38 12,m 39 3,k 40 (f
 aA) [(t 37),(t 38),(t 11),(t 39)],m 12 40]) (Q (O [m 41 0,m 42 13,m 43 3,k 44 (f aA) [(t 41),(t
 42),(t 11),(t 43)],m 13 44]) (O [m 45 0,m 46 14,m 47 3,k 48 (f aA) [(t 45),(t 46),(t 11),(t 47)],m 14 48]))) X)) (O [m 49 0,m 50 12,
 m 51 13,m 52 14,m 53 3,k 54 (f bN) [(t 49),(t 50),(t 51),(t 52),(t 11),(t 53)],m 13 54])) X)) (Q (O [ld 55 11]) (.block 0 (Q (O [ac 58 .eql 55
 (i 0),m 57 58]) (C 57 (Q (O [m 59 13,m 8 59,mc 9 (i 1)]) R) (Q (O [ac 61 .eql 55 (i 12),m 60 61]) (C 60 (Q (O [m 62 13,m 8 62,mc 9 (i 2)]) R) (Q (O [m 56 13,m 8 56,mc 9 (i
 0)]) R))))))))))))))
def dE:AFn:=⟨dD,63,[.t 8,.t 9],.keep,[],none⟩
def cO:AC:=
 (Q (Q (O [m 13 8,m 14 9,bl 15 13 14]) (C 15 X (.exit 0))) (.block 1 (Q (D [Pm 16 0,Pm 17 8,Pm 18 0,Pm 19 9,Pm 20 0,Pm 21 9,P (ia 22 2 20 21),W (la 23 2 22),Pm 24 0,Pm 25
 8,P (ia 26 2 24 25),W (la 27 2 26),P (ia 28 2 16 17),E (n (.st 2 (t 28) (t 23))),P (ia 29 2 18 19),E (n (.st 2 (t 29) (t 27)))]) (Q (ic 30 8 31) (O [m 32 9,ac 33 .sub 32 (i
 1),m 9 33])))))
def dk:AC:=
 (Q (O [m 10 1,m 8 10]) (Q (O [m 11 2,ac 12 .sub 11 (i 1),m 9 12]) (.block 0 (.loop ⟨none,[],false⟩ cO))))
def dm:AFn:=⟨dk,34,[],.keep,[],none⟩
def bt:AC:=
 (Q (Q (D [Pm 19 9,Pm 20 2,P (bl 21 19 20),Pm 22 21,P (g 23 22 (.mv (t 3))),P (g 24 22 (.mv (t 0))),P (g 25 22 (.mv (t 9))),P (g 26 22 (.ias 2 (t 24) (t 25))),W (g 27 22 (.ld
 (some 2) (t 26))),P (g 28 22 (.mv (t 0))),P (g 29 22 (.mv (t 9))),P (g 30 22 (.ar .sub (t 29) (i 1))),P (g 31 22 (.ias 2 (t 28) (t 30))),W (g 32 22 (.ld (some 2) (t 31))),E
 (⟨(some 33),(some (22,true)),(.call (.t 23) [(.t 27),(.t 32)])⟩),P (g 34 22 (.ar .lss (t 33) (i 0))),P (g 35 22 (.un .not (t 34))),P (pf 36 22 35)]) (C 36 X (.exit 2)))
 (.block 3 (ic 37 9 38)))
def bu:AC:=
 (Q (Q (O [m 68 11,ac 69 .geq 68 (i 1)]) (C 69 X (.exit 4))) (Q (.block 5 (Q (Q (D [Pm 72 3,Pm 73 0,Pm 74 11,P (ia 75 2 73 74),W (la 76 2 75),Pm 77 0,Pm 78 11,P (ac 79 .sub
 78 (i 1)),P (ia 80 2 77 79),W (la 81 2 80),E (k 82 (t 72) [(t 76),(t 81)]),P (ac 83 .lss 82 (i 0)),P (no 84 83)]) (C 84 (.exit 4) X)) (D [Pm 85 0,Pm 86 11,Pm 87 0,Pm 88 11,
 P (ac 89 .sub 88 (i 1)),Pm 90 0,Pm 91 11,P (ac 92 .sub 91 (i 1)),P (ia 93 2 90 92),W (la 94 2 93),Pm 95 0,Pm 96 11,P (ia 97 2 95 96),W (la 98 2 97),P (ia 99 2 85 86),E (n
 (.st 2 (t 99) (t 94))),P (ia 100 2 87 89),E (n (.st 2 (t 100) (t 98)))]))) (O [m 70 11,ac 71 .sub 70 (i 1),m 11 71])))
def bw:AC:=
 (Q (Q (O [m 107 12,m 108 2,bl 109 107 108]) (C 109 X (.exit 6))) (Q (.block 7 (Q (Q (D [Pm 112 3,Pm 113 0,Pm 114 12,P (ia 115 2 113 114),W (la 116 2 115),Pm 117 0,Pm 118 12,
 P (ac 119 .sub 118 (i 1)),P (ia 120 2 117 119),W (la 121 2 120),E (k 122 (t 112) [(t 116),(t 121)]),P (ac 123 .lss 122 (i 0)),P (no 124 123)]) (C 124 (.exit 6) X)) (D [Pm 125
 0,Pm 126 12,Pm 127 0,Pm 128 12,P (ac 129 .sub 128 (i 1)),Pm 130 0,Pm 131 12,P (ac 132 .sub 131 (i 1)),P (ia 133 2 130 132),W (la 134 2 133),Pm 135 0,Pm 136 12,P (ia 137
 2 135 136),W (la 138 2 137),P (ia 139 2 125 126),E (n (.st 2 (t 139) (t 134))),P (ia 140 2 127 129),E (n (.st 2 (t 140) (t 138)))]))) (ic 110 12 111)))
def bz:AC:=
 (Q (Q (O [m 15 10,ac 16 .lss 15 (i 5)]) (C 16 X (.exit 0))) (Q (.block 1 (Q (.block 2 (.loop ⟨none,[],false⟩ bt)) (Q (Q (O [m 39 9,
 m 40 2,ar 41 .eql 39 40]) (C 41 (rt 8 T) X)) (Q (Q (O [m 42 2,m 43 1,ar 44 .sub 42 43,ac 45 .lss 44 (i 50)]) (C 45 (rt 8 F) X)) (Q (D [Pm 46 0,Pm 47 9,Pm 48 0,Pm 49 9,P (ac
 50 .sub 49 (i 1)),Pm 51 0,Pm 52 9,P (ac 53 .sub 52 (i 1)),P (ia 54 2 51 53),W (la 55 2 54),Pm 56 0,Pm 57 9,P (ia 58 2 56 57),W (la 59 2 58),P (ia 60 2 46 47),E (n (.st 2
 (t 60) (t 55))),P (ia 61 2 48 50),E (n (.st 2 (t 61) (t 59)))]) (Q (Q (O [m 62 9,m 63 1,ar 64 .sub 62 63,ac 65 .geq 64 (i 2)]) (C 65 (Q (O [m 66 9,ac 67 .sub 66 (i 1),m 11
 67]) (.block 4 (.loop ⟨none,[],false⟩ bu))) X)) (Q (O [m 101 2,m 102 9,ar 103 .sub 101 102,ac 104 .geq 103 (i 2)]) (C 104 (Q (O [m
 105 9,ad 106 105,m 12 106]) (.block 6 (.loop ⟨none,[],false⟩ bw))) X)))))))) (ic 17 10 18)))
def bK:AC:=
 (Q (O [mc 8 F]) (Q (O [m 13 1,ad 14 13,m 9 14]) (Q (Q (O [mc 10 (i 0)]) (.block 0 (.loop ⟨none,[],false⟩ bz))) (rt 8 F))))
def bL:AFn:=⟨bK,141,[.t 8],.keep,[],none⟩
def b8:AC:=
 (Q (Q (D [Pm 31 11,Pm 32 12,P (ar 33 .leq 31 32),Pm 34 33,P (g 35 34 (.mv (t 4))),P (g 36 34 (.mv (t 0))),P (g 37 34 (.mv (t 1))),P (g 38 34 (.ias 2 (t 36) (t 37))),W (g 39
 34 (.ld (some 2) (t 38))),P (g 40 34 (.mv (t 0))),P (g 41 34 (.mv (t 11))),P (g 42 34 (.ias 2 (t 40) (t 41))),W (g 43 34 (.ld (some 2) (t 42))),E (⟨(some 44),(some (34,
 true)),(.call (.t 35) [(.t 39),(.t 43)])⟩),P (g 45 34 (.ar .lss (t 44) (i 0))),P (g 46 34 (.un .not (t 45))),P (pf 47 34 46)]) (C 47 X (.exit 2))) (.block 3 (ic 48 11 49)))
def b9:AC:=
 (Q (Q (D [Pm 50 11,Pm 51 12,P (ar 52 .leq 50 51),Pm 53 52,P (g 54 53 (.mv (t 4))),P (g 55 53 (.mv (t 0))),P (g 56 53 (.mv (t 1))),P (g 57 53 (.ias 2 (t 55) (t 56))),W (g 58
 53 (.ld (some 2) (t 57))),P (g 59 53 (.mv (t 0))),P (g 60 53 (.mv (t 12))),P (g 61 53 (.ias 2 (t 59) (t 60))),W (g 62 53 (.ld (some 2) (t 61))),E (⟨(some 63),(some (53,
 true)),(.call (.t 54) [(.t 58),(.t 62)])⟩),P (g 64 53 (.ar .lss (t 63) (i 0))),P (pf 65 53 64)]) (C 65 X (.exit 4))) (.block 5 (O [m 66 12,ac 67 .sub 66 (i 1),m 12 67])))
def ca:AC:=
 (.block 1 (Q (.block 2 (.loop ⟨none,[],false⟩ b8)) (Q (.block 4 (.loop ⟨none,[],false⟩ b9)) (Q (Q
 (O [m 68 11,m 69 12,ar 70 .gtr 68 69]) (C 70 (.exit 0) X)) (Q (D [Pm 71 0,Pm 72 11,Pm 73 0,Pm 74 12,Pm 75 0,Pm 76 12,P (ia 77 2 75 76),W (la 78 2 77),Pm 79 0,Pm 80 11,P
 (ia 81 2 79 80),W (la 82 2 81),P (ia 83 2 71 72),E (n (.st 2 (t 83) (t 78))),P (ia 84 2 73 74),E (n (.st 2 (t 84) (t 82)))]) (Q (ic 85 11 86) (O [m 87 12,ac 88 .sub 87 (i 1),
 m 12 88])))))))
def cP:AC:=
 (Q (O [mc 10 (i 0)]) (Q (D [Pm 13 0,Pm 14 1,Pm 15 0,Pm 16 3,Pm 17 0,Pm 18 3,P (ia 19 2 17 18),W (la 20 2 19),Pm 21 0,Pm 22 1,P (ia 23 2 21 22),W (la 24 2 23),P (ia 25 2
 13 14),E (n (.st 2 (t 25) (t 20))),P (ia 26 2 15 16),E (n (.st 2 (t 26) (t 24)))]) (Q (O [m 27 1,ad 28 27,m 29 2,ac 30 .sub 29 (i 1),m 11 28,m 12 30]) (Q (.block 0 (.loop
 ⟨none,[],false⟩ ca)) (Q (O [m 89 11,m 10 89]) R)))))
def cQ:AFn:=⟨cP,90,[.t 10],.keep,[],none⟩
def dF:AC:=
 (Q (Q (D [Pm 32 12,Pm 33 13,P (ar 34 .leq 32 33),Pm 35 34,P (g 36 35 (.mv (t 4))),P (g 37 35 (.mv (t 0))),P (g 38 35 (.mv (t 12))),P (g 39 35 (.ias 2 (t 37) (t 38))),W (g 40
 35 (.ld (some 2) (t 39))),P (g 41 35 (.mv (t 0))),P (g 42 35 (.mv (t 1))),P (g 43 35 (.ias 2 (t 41) (t 42))),W (g 44 35 (.ld (some 2) (t 43))),E (⟨(some 45),(some (35,true)),
 (.call (.t 36) [(.t 40),(.t 44)])⟩),P (g 46 35 (.ar .lss (t 45) (i 0))),P (pf 47 35 46)]) (C 47 X (.exit 0))) (.block 1 (ic 48 12 49)))
def dG:AC:=
 (Q (Q (D [Pm 50 12,Pm 51 13,P (ar 52 .leq 50 51),Pm 53 52,P (g 54 53 (.mv (t 4))),P (g 55 53 (.mv (t 0))),P (g 56 53 (.mv (t 13))),P (g 57 53 (.ias 2 (t 55) (t 56))),W (g 58
 53 (.ld (some 2) (t 57))),P (g 59 53 (.mv (t 0))),P (g 60 53 (.mv (t 1))),P (g 61 53 (.ias 2 (t 59) (t 60))),W (g 62 53 (.ld (some 2) (t 61))),E (⟨(some 63),(some (53,true)),
 (.call (.t 54) [(.t 58),(.t 62)])⟩),P (g 64 53 (.ar .lss (t 63) (i 0))),P (g 65 53 (.un .not (t 64))),P (pf 66 53 65)]) (C 66 X (.exit 2))) (.block 3 (O [m 67 13,ac 68 .sub 67
 (i 1),m 13 68])))
def dH:AC:=
 (Q (Q (D [Pm 105 12,Pm 106 13,P (ar 107 .leq 105 106),Pm 108 107,P (g 109 108 (.mv (t 4))),P (g 110 108 (.mv (t 0))),P (g 111 108 (.mv (t 12))),P (g 112 108 (.ias 2 (t 110)
 (t 111))),W (g 113 108 (.ld (some 2) (t 112))),P (g 114 108 (.mv (t 0))),P (g 115 108 (.mv (t 1))),P (g 116 108 (.ias 2 (t 114) (t 115))),W (g 117 108 (.ld (some 2) (t 116))),
 E (⟨(some 118),(some (108,true)),(.call (.t 109) [(.t 113),(.t 117)])⟩),P (g 119 108 (.ar .lss (t 118) (i 0))),P (pf 120 108 119)]) (C 120 X (.exit 6))) (.block 7 (ic 121 12
 122)))
def dI:AC:=
 (Q (Q (D [Pm 123 12,Pm 124 13,P (ar 125 .leq 123 124),Pm 126 125,P (g 127 126 (.mv (t 4))),P (g 128 126 (.mv (t 0))),P (g 129 126 (.mv (t 13))),P (g 130 126 (.ias 2 (t 128)
 (t 129))),W (g 131 126 (.ld (some 2) (t 130))),P (g 132 126 (.mv (t 0))),P (g 133 126 (.mv (t 1))),P (g 134 126 (.ias 2 (t 132) (t 133))),W (g 135 126 (.ld (some 2) (t 134))),
 E (⟨(some 136),(some (126,true)),(.call (.t 127) [(.t 131),(.t 135)])⟩),P (g 137 126 (.ar .lss (t 136) (i 0))),P (g 138 126 (.un .not (t 137))),P (pf 139 126 138)]) (C 139 X
 (.exit 8))) (.block 9 (O [m 140 13,ac 141 .sub 140 (i 1),m 13 141])))
def dJ:AC:=
 (.block 5 (Q (.block 6 (.loop ⟨none,[],false⟩ dH)) (Q (.block 8 (.loop ⟨none,[],false⟩ dI)) (Q (Q (O [m 142
 12,m 143 13,ar 144 .gtr 142 143]) (C 144 (.exit 4) X)) (Q (D [Pm 145 0,Pm 146 12,Pm 147 0,Pm 148 13,Pm 149 0,Pm 150 13,P (ia 151 2 149 150),W (la 152 2 151),Pm 153 0,Pm
 154 12,P (ia 155 2 153 154),W (la 156 2 155),P (ia 157 2 145 146),E (n (.st 2 (t 157) (t 152))),P (ia 158 2 147 148),E (n (.st 2 (t 158) (t 156)))]) (Q (ic 159 12 160) (O [m
 161 13,ac 162 .sub 161 (i 1),m 13 162])))))))
def er:AC:=
 (Q (O [mc 10 (i 0),mc 11 F]) (Q (D [Pm 14 0,Pm 15 1,Pm 16 0,Pm 17 3,Pm 18 0,Pm 19 3,P (ia 20 2 18 19),W (la 21 2 20),Pm 22 0,Pm 23 1,P (ia 24 2 22 23),W (la 25 2 24),P
 (ia 26 2 14 15),E (n (.st 2 (t 26) (t 21))),P (ia 27 2 16 17),E (n (.st 2 (t 27) (t 25)))]) (Q (O [m 28 1,ad 29 28,m 30 2,ac 31 .sub 30 (i 1),m 12 29,m 13 31]) (Q (.block 0
 (.loop ⟨none,[],false⟩ dF)) (Q (.block 2 (.loop ⟨none,[],false⟩ dG)) (Q (Q (O [m 69 12,m 70 13,ar 71 .gtr
 69 70]) (C 71 (Q (D [Pm 72 0,Pm 73 13,Pm 74 0,Pm 75 1,Pm 76 0,Pm 77 1,P (ia 78 2 76 77),W (la 79 2 78),Pm 80 0,Pm 81 13,P (ia 82 2 80 81),W (la 83 2 82),P (ia 84 2 72
 73),E (n (.st 2 (t 84) (t 79))),P (ia 85 2 74 75),E (n (.st 2 (t 85) (t 83)))]) (Q (O [m 86 13,m 10 86,mc 11 T]) R)) X)) (Q (D [Pm 87 0,Pm 88 12,Pm 89 0,Pm 90 13,Pm 91 0,
 Pm 92 13,P (ia 93 2 91 92),W (la 94 2 93),Pm 95 0,Pm 96 12,P (ia 97 2 95 96),W (la 98 2 97),P (ia 99 2 87 88),E (n (.st 2 (t 99) (t 94))),P (ia 100 2 89 90),E (n (.st 2 (t
 100) (t 98)))]) (Q (ic 101 12 102) (Q (O [m 103 13,ac 104 .sub 103 (i 1),m 13 104]) (Q (.block 4 (.loop ⟨none,[],false⟩ dJ)) (Q (D [Pm 163 0,
 Pm 164 13,Pm 165 0,Pm 166 1,Pm 167 0,Pm 168 1,P (ia 169 2 167 168),W (la 170 2 169),Pm 171 0,Pm 172 13,P (ia 173 2 171 172),W (la 174 2 173),P (ia 175 2 163 164),E (n
 (.st 2 (t 175) (t 170))),P (ia 176 2 165 166),E (n (.st 2 (t 176) (t 174)))]) (Q (O [m 177 13,m 10 177,mc 11 F]) R))))))))))))
def eu:AFn:=⟨er,178,[.t 10,.t 11],.keep,[],none⟩
def qw:AC:=
 (Q (O [mc 2 (i 0)]) (Q (Q (O [m 3 0,o 4 (.ar .geq (t 3) (.c (.int .u32 65536)))]) (C 4 (Q (O [m 5 0,o 6 (.sh .shr (t 5) (.c (.int .u64 16))),m 0 6]) (O [mc 2 (i 16)])) X)) (Q (Q
 (O [m 7 0,o 8 (.ar .geq (t 7) (.c (.int .u32 256)))]) (C 8 (Q (O [m 9 0,o 10 (.sh .shr (t 9) (.c (.int .u64 8))),m 0 10]) (O [m 11 2,ac 12 .add 11 (i 8),m 2 12])) X)) (Q (O [m
 13 2,m 14 0,o 15 (.cvi .u8 (t 14)),o 16 (.ixs (s [0,1,2,2,3,3,3,3,4,4,4,4,4,4,4,4,5,5,5,5,5,5,5,5,5,5,5,5,5,5,5,5,6,6,6,6,6,6,6,6,6,6,6,
 6,6,6,6,6,6,6,6,6,6,6,6,6,6,6,6,6,6,6,6,6,7,7,7,7,7,7,7,7,7,7,7,7,7,7,7,7,7,7,7,7,7,7,7,7,7,7,7,7,7,7,7,7,7,7,7,7,7,7,7,
 7,7,7,7,7,7,7,7,7,7,7,7,7,7,7,7,7,7,7,7,7,7,7,7,7,8,8,8,8,8,8,8,8,8,8,8,8,8,8,8,8,8,8,8,8,8,8,8,8,8,8,8,8,8,8,8,8,8,8,8,
 8,8,8,8,8,8,8,8,8,8,8,8,8,8,8,8,8,8,8,8,8,8,8,8,8,8,8,8,8,8,8,8,8,8,8,8,8,8,8,8,8,8,8,8,8,8,8,8,8,8,8,8,8,8,8,8,8,8,8,8,
 8,8,8,8,8,8,8,8,8,8,8,8,8,8,8,8,8,8,8,8,8,8,8,8,8,8,8,8,8,8,8,8,8]) (t 15)),o 17 (.cvi .i64 (t 16)),ar 18 .add 13 17,m 2 18]) R))))
def qx:AFn:=⟨qw,19,[.t 2],.keep,[],none⟩
def dZ:AC:=
 (.block 1 (Q (O [m 13 10,o 14 (.ar .mul (i 2) (t 13)),ad 15 14,m 11 15]) (Q (Q (O [m 16 11,m 17 2,ar 18 .geq 16 17]) (C 18 (.exit 0) X)) (Q (Q (D [Pm 19 11,P (ad 20 19),Pm 21
 2,P (bl 22 20 21),Pm 23 22,P (g 24 23 (.mv (t 4))),P (g 25 23 (.mv (t 0))),P (g 26 23 (.mv (t 3))),P (g 27 23 (.mv (t 11))),P (g 28 23 (.ar .add (t 26) (t 27))),P (g 29 23
 (.ias 2 (t 25) (t 28))),W (g 30 23 (.ld (some 2) (t 29))),P (g 31 23 (.mv (t 0))),P (g 32 23 (.mv (t 3))),P (g 33 23 (.mv (t 11))),P (g 34 23 (.ar .add (t 32) (t 33))),P (g 35
 23 (.ar .add (t 34) (i 1))),P (g 36 23 (.ias 2 (t 31) (t 35))),W (g 37 23 (.ld (some 2) (t 36))),E (⟨(some 38),(some (23,true)),(.call (.t 24) [(.t 30),(.t 37)])⟩),P (g 39
 23 (.ar .lss (t 38) (i 0))),P (pf 40 23 39)]) (C 40 (ic 41 11 42) X)) (Q (Q (D [Pm 43 4,Pm 44 0,Pm 45 3,Pm 46 10,P (ar 47 .add 45 46),P (ia 48 2 44 47),W (la 49 2 48),Pm 50
 0,Pm 51 3,Pm 52 11,P (ar 53 .add 51 52),P (ia 54 2 50 53),W (la 55 2 54),E (k 56 (t 43) [(t 49),(t 55)]),P (ac 57 .lss 56 (i 0)),P (no 58 57)]) (C 58 R X)) (Q (D [Pm 59 0,
 Pm 60 3,Pm 61 10,P (ar 62 .add 60 61),Pm 63 0,Pm 64 3,Pm 65 11,P (ar 66 .add 64 65),Pm 67 0,Pm 68 3,Pm 69 11,P (ar 70 .add 68 69),P (ia 71 2 67 70),W (la 72 2 71),Pm 73
 0,Pm 74 3,Pm 75 10,P (ar 76 .add 74 75),P (ia 77 2 73 76),W (la 78 2 77),P (ia 79 2 59 62),E (n (.st 2 (t 79) (t 72))),P (ia 80 2 63 66),E (n (.st 2 (t 80) (t 78)))]) (O [m
 81 11,m 10 81])))))))
def eN:AC:=
 (Q (O [m 12 1,m 10 12]) (.block 0 (.loop ⟨none,[],false⟩ dZ)))
def eO:AFn:=⟨eN,82,[],.keep,[],none⟩
def kN:AC:=
 (Q (O [mc 2 (.c (.int .u64 0))]) (Q (O [m 3 0,o 4 (.cvi .u64 (t 3)),k1 5 nS 4,o 6 (.sh .shl (.c (.int .u64 1)) (t 5)),m 2 6]) R))
def kO:AFn:=⟨kN,7,[.t 2],.keep,[],none⟩
def mg:AC:=
 (Q (O [mc 2 (.c (.int .u64 0))]) (Q (D [Pm 3 0,P (o 4 (.nc (t 3))),Wl 5 4,Pm 6 0,P (o 7 (.nc (t 6))),Wl 8 7,P (o 9 (.sh .shl (t 8) (.c (.int .u64 13)))),P (ar 10 .xor 5 9),P
 (o 11 (.nc (t 3))),E (n (.st 1 (t 11) (t 10)))]) (Q (D [Pm 12 0,P (o 13 (.nc (t 12))),Wl 14 13,Pm 15 0,P (o 16 (.nc (t 15))),Wl 17 16,P (o 18 (.sh .shr (t 17) (.c (.int .u64
 7)))),P (ar 19 .xor 14 18),P (o 20 (.nc (t 12))),E (n (.st 1 (t 20) (t 19)))]) (Q (D [Pm 21 0,P (o 22 (.nc (t 21))),Wl 23 22,Pm 24 0,P (o 25 (.nc (t 24))),Wl 26 25,P (o 27
 (.sh .shl (t 26) (.c (.int .u64 17)))),P (ar 28 .xor 23 27),P (o 29 (.nc (t 21))),E (n (.st 1 (t 29) (t 28)))]) (Q (O [m 30 0,o 31 (.nc (t 30)),ld 32 31,m 2 32]) R)))))
def mh:AFn:=⟨mg,33,[.t 2],.keep,[],none⟩
def cR:AC:=
 (Q (O [mc 8 (i 0)]) (Q (O [m 9 0,m 10 1,ac 11 .sub 10 (i 1),m 12 1,m 13 1,ad 14 13,m 15 2,m 16 3,k 17 (f bN) [(t 9),(t 11),(t 12),(t 14),(t
 15),(t 16)],m 8 17]) R))
def cS:AFn:=⟨cR,18,[.t 8],.keep,[],none⟩
def fN:AC:=
 (Q (O [mc 12 (i 0)]) (Q (O [m 14 0,m 15 1,m 16 2,m 17 4,m 18 5,k 19 (f aO) [(t 14),(t 15),(t 16),(t 17),(t 18)],m 13 19,ex 20 13 0,ex 21 13
 1,m 1 20,m 2 21]) (Q (O [m 23 0,m 24 2,m 25 3,m 26 4,m 27 5,k 28 (f aO) [(t 23),(t 24),(t 25),(t 26),(t 27)],m 22 28,ex 29 22 0,ex 30 22
 1,m 2 29,m 3 30]) (Q (O [m 32 0,m 33 1,m 34 2,m 35 4,m 36 5,k 37 (f aO) [(t 32),(t 33),(t 34),(t 35),(t 36)],m 31 37,ex 38 31 0,ex 39 31
 1,m 1 38,m 2 39]) (Q (O [m 40 2,m 12 40]) R)))))
def fO:AFn:=⟨fN,41,[.t 12],.keep,[],none⟩
def fP:AC:=
 (Q (O [mc 10 (i 0),mc 11 (i 0)]) (Q (Q (D [Pm 12 4,Pm 13 0,Pm 14 2,P (ia 15 2 13 14),W (la 16 2 15),Pm 17 0,Pm 18 1,P (ia 19 2 17 18),W (la 20 2 19),E (k 21 (t 12) [(t
 16),(t 20)]),P (ac 22 .lss 21 (i 0))]) (C 22 (Q (O [m 23 3,o 24 (.nc (t 23)),ld 25 24,ad 26 25,o 27 (.nc (t 23)),n (.st 1 (t 27) (t 26))]) (Q (O [m 28 2,m 29 1,m 10 28,m
 11 29]) R)) X)) (Q (O [m 30 1,m 31 2,m 10 30,m 11 31]) R)))
def fQ:AFn:=⟨fP,32,[.t 10,.t 11],.keep,[],none⟩
def zY(f:FuncId):Option (Nat×AFn):=(bif Nat.beq f 79 then some (4,eQ) else none)
end
section
open Go.Proofs
def G0:Nat→Option (List AV):=fun _=>none
def zZ:List (Nat×AFn):=[(6,jt),(9,nd),(10,uQ),(15,uS),(19,lr),(21,lA),(22,iD),(23,jx),(28,vx),(29,rL),(30,o6),(37,te)]
theorem By:ft (aG Tryz.prog G0) zZ:=by repeat' first | (unfold aG;kernel_rfl) | exact trivial | refine ⟨?_, ?_⟩
def z6:List (Nat×AFn):=[(38,nh),(39,jz),(43,uU),(44,lC),(45,rO),(46,lE),(47,nj),(48,rQ),(49,lG),(50,nm),(51,rS),(52,lI)]
theorem Bz:ft (aG Tryz.prog G0) z6:=by repeat' first | (unfold aG;kernel_rfl) | exact trivial | refine ⟨?_, ?_⟩
def z7:List (Nat×AFn):=[(53,np),(54,rU),(55,lK),(56,nr),(57,rW),(58,nv),(59,og),(67,kp),(69,lM),(70,nz),(71,vz),(72,jG)]
theorem BA:ft (aG Tryz.prog G0) z7:=by repeat' first | (unfold aG;kernel_rfl) | exact trivial | refine ⟨?_, ?_⟩
def z8:List (Nat×AFn):=[(76,uW),(77,nB),(78,pJ),(80,uY),(81,tg),(82,rm),(86,gi),(88,gZ),(89,ks),(91,ti),(92,vB),(93,bZ)]
theorem BB:ft (aG Tryz.prog G0) z8:=by repeat' first | (unfold aG;kernel_rfl) | exact trivial | refine ⟨?_, ?_⟩
def Aa:List (Nat×AFn):=[(94,kx),(95,fC),(96,b5),(97,kz),(98,nD),(99,kC),(100,u0),(101,lP),(102,rY),(103,u3),(104,b7),(105,kE)]
theorem BC:ft (aG Tryz.prog G0) Aa:=by repeat' first | (unfold aG;kernel_rfl) | exact trivial | refine ⟨?_, ?_⟩
def Ab:List (Nat×AFn):=[(106,cL),(107,kG),(108,u5),(109,bj),(110,kI),(111,tk),(112,tm),(128,lR),(131,jI),(132,qf),(133,wQ),(134,tp)]
theorem BD:ft (aG Tryz.prog G0) Ab:=by repeat' first | (unfold aG;kernel_rfl) | exact trivial | refine ⟨?_, ?_⟩
def Ac:List (Nat×AFn):=[(135,jl),(136,rp),(138,nF),(139,lT),(140,oo),(141,qh),(142,r1),(143,r4),(144,r6),(145,vD),(146,r8),(147,sa)]
theorem BE:ft (aG Tryz.prog G0) Ac:=by repeat' first | (unfold aG;kernel_rfl) | exact trivial | refine ⟨?_, ?_⟩
def Ad:List (Nat×AFn):=[(148,sd),(149,tr),(150,u9),(151,sg),(152,sj),(153,sm),(154,so),(155,hT),(156,lV),(157,gB),(158,tu),(159,tw)]
theorem BF:ft (aG Tryz.prog G0) Ad:=by repeat' first | (unfold aG;kernel_rfl) | exact trivial | refine ⟨?_, ?_⟩
def Ae:List (Nat×AFn):=[(160,cX),(161,gD),(162,cZ),(163,nH),(164,jL),(165,iG),(166,qk),(167,c4),(168,dy),(169,cN),(170,sr),(171,qm)]
theorem BG:ft (aG Tryz.prog G0) Ae:=by repeat' first | (unfold aG;kernel_rfl) | exact trivial | refine ⟨?_, ?_⟩
def Af:List (Nat×AFn):=[(172,bF),(175,lX),(176,ej),(177,pa),(180,hX),(181,lZ),(182,qo),(183,eV),(184,eE),(186,gF),(187,tz),(188,vb)]
theorem BH:ft (aG Tryz.prog G0) Af:=by repeat' first | (unfold aG;kernel_rfl) | exact trivial | refine ⟨?_, ?_⟩
def yC:List (Nat×AFn):=[(190,l3),(191,jO),(192,gH),(193,fE),(194,gk),(195,dA),(197,rr),(198,l5),(199,eX),(201,pg),(202,nJ),(203,l7)]
theorem AQ:ft (aG Tryz.prog G0) yC:=by repeat' first | (unfold aG;kernel_rfl) | exact trivial | refine ⟨?_, ?_⟩
def yD:List (Nat×AFn):=[(204,dj),(205,eZ),(207,iI),(208,cC),(209,kM),(210,qq),(211,iK),(213,gJ),(214,qt),(215,gL),(216,fI),(217,jo)]
theorem AR:ft (aG Tryz.prog G0) yD:=by repeat' first | (unfold aG;kernel_rfl) | exact trivial | refine ⟨?_, ?_⟩
def yE:List (Nat×AFn):=[(219,pN),(220,dP),(221,vd),(222,fc),(223,l9),(225,eH),(226,ib),(227,nL),(228,ot),(229,pj),(230,mb),(231,ig)]
theorem AS:ft (aG Tryz.prog G0) yE:=by repeat' first | (unfold aG;kernel_rfl) | exact trivial | refine ⟨?_, ?_⟩
def yF:List (Nat×AFn):=[(232,ik),(234,ff),(235,eJ),(236,dW),(237,su),(238,qv),(239,eo),(240,po),(241,gN),(242,gP),(243,vF),(244,fK)]
theorem AT:ft (aG Tryz.prog G0) yF:=by repeat' first | (unfold aG;kernel_rfl) | exact trivial | refine ⟨?_, ?_⟩
def yG:List (Nat×AFn):=[(245,fh),(246,sw),(247,fj),(248,jR),(249,fM),(250,c8),(251,eM),(252,da),(253,dE),(254,dm),(255,bL),(256,cQ)]
theorem AU:ft (aG Tryz.prog G0) yG:=by repeat' first | (unfold aG;kernel_rfl) | exact trivial | refine ⟨?_, ?_⟩
def yH:List (Nat×AFn):=[(257,eu),(258,qx),(260,eO),(261,kO),(262,mh),(263,cS),(264,fO),(265,fQ)]
theorem AW:ft (aG Tryz.prog G0) yH:=by repeat' first | (unfold aG;kernel_rfl) | exact trivial | refine ⟨?_, ?_⟩
def Ag:List (Nat×List (Nat×AFn)):=[(37,zZ),(52,z6),(72,z7),(93,z8),(105,Aa),(134,Ab),(147,Ac),(159,Ad),(171,Ae),(188,Af),(203,yC),(217,yD),(231,yE),(244,yF),(256,yG),(265,yH)]
def Ce(f:FuncId):Option AFn:=yz Ag f
theorem AX:∀ f af,Ce f=some af→aG Tryz.prog G0 f af:=fun f af h=>xz (show x6 _ Ag from ⟨By,Bz,BA,BB,BC,BD,BE,BF,BG,BH,AQ,AR,AS,AT,AU,AW,trivial⟩) h
theorem iL:yy Tryz.prog G0 79 (4,eQ):=⟨by kernel_rfl,rfl⟩
theorem Ah:∀ f d af,zY f=some (d,af)→yy Tryz.prog G0 f (d,af):=fun f d af h=>by
 unfold zY at h;revert h;exact (zX (C:=_) iL)
end
section
open Go.Shelf Go.Proofs
attribute [local go_sem] Oper.semAt_some
theorem Ai(W:World):CallsIn Fence.wide 0 Tryz.prog 70 #[.pointer none] W fun e W'=>e = .returned (.bool false)∧W'=W:=by
 refine callsIn_of_wp Tryz.func70 rfl trivial ?_ rfl;simp only [Tryz.ntmps70,List.size_toArray,List.length_cons,List.length_nil,Nat.reduceAdd,Nat.reduceSub,Array.replicate_succ,Array.replicate_zero,List.push_toArray,List.append_toArray,List.nil_append,List.cons_append]
 gi_wp2
 exact bodyPost_ret (results_tmp rfl _ _ _) rfl ⟨rfl,rfl⟩
theorem zb(W:World)(b:Nat)(h:W.cell? ⟨b,6,none⟩=some (.pointer none)):CallsIn Fence.wide 0 Tryz.prog 70 #[.pointer (some ⟨b,0,none⟩)] W fun e W'=>e = .returned (.bool false)∧W'=W:=by
 refine callsIn_of_wp Tryz.func70 rfl trivial ?_ rfl;simp only [Tryz.ntmps70,List.size_toArray,List.length_cons,List.length_nil,Nat.reduceAdd,Nat.reduceSub,Array.replicate_succ,Array.replicate_zero,List.push_toArray,List.append_toArray,List.nil_append,List.cons_append]
 gi_wp2
 exact bodyPost_ret (results_tmp rfl _ _ _) rfl ⟨rfl,rfl⟩
theorem zd(l cb:Nat)(W:World)(h:W.cell? ⟨cb,0,none⟩=some (.pointer none)):CallsIn Fence.wide 0 Tryz.prog 131 #[.func (.yield l) #[] #[],.pointer (some ⟨cb,0,none⟩)] W fun e W'=>(∃ v,e = .returned v)∧W'=W:=by
 refine callsIn_of_wp Tryz.func131 rfl trivial ?_ rfl;simp only [Tryz.ntmps131,List.size_toArray,List.length_cons,List.length_nil,Nat.reduceAdd,Nat.reduceSub,Array.replicate_succ,Array.replicate_zero,List.push_toArray,List.append_toArray,List.nil_append,List.cons_append]
 gi_wp2
 refine ⟨trivial,rfl,(Ai _).mono ?_⟩;rintro e w' ⟨rfl,rfl⟩
 gi_wp2
 go_end0
 exact ⟨⟨_,rfl⟩,rfl⟩
theorem yb(l cb b:Nat)(W:World)(h:W.cell? ⟨cb,0,none⟩=some (.pointer (some ⟨b,0,none⟩)))(h2:W.cell? ⟨b,6,none⟩=some (.pointer none)):CallsIn Fence.wide 0 Tryz.prog 131 #[.func (.yield l) #[] #[],.pointer (some ⟨cb,0,none⟩)] W fun e W'=>(∃ v,e = .returned v)∧W'=W:=by
 refine callsIn_of_wp Tryz.func131 rfl trivial ?_ rfl;simp only [Tryz.ntmps131,List.size_toArray,List.length_cons,List.length_nil,Nat.reduceAdd,Nat.reduceSub,Array.replicate_succ,Array.replicate_zero,List.push_toArray,List.append_toArray,List.nil_append,List.cons_append]
 gi_wp2
 refine ⟨trivial,rfl,(zb _ _ h2).mono ?_⟩;rintro e w' ⟨rfl,rfl⟩
 gi_wp2
 go_end0
 exact ⟨⟨_,rfl⟩,rfl⟩
theorem wR{w:World}{b:Nat}{vs:Array Value}{T:TypeId}{f:Nat×Nat}(h:w.heap[b]?=some (.cells vs T f)){i:Nat}(hi:i<vs.size):w.cell? ⟨b,i,none⟩=some (vs.getD i undef):=by
 simp only [World.cell?,h];simp [Array.getD,hi]
theorem AY{G:Nat→Option (List AV)}{cap:List AV}{H:List AObj}{xs:List (List AV)}{L:List Nat}(h:x7 cap H=some (xs,L)) :
  (∀ x∈xs,x.length=2∧∀ v∈x,uy v=true)∧(∀ args w,(callFunc 131 args).run Tryz.prog w = .ok (.enter 131 args) w) ∧
  ∀ K w lb,K.glob=G→Inv K H w→Vs K cap lb→AJ Tryz.prog 131 lb (xs.map fun x=>(x.map oP).toArray) L K H:=by
 have key:∀ id,cap=[.ptr id 0]→(∀ (K:aa) (W:World) (cb:Nat),Inv K H W→K.loc[id]?=some cb→∀ l,CallsIn Fence.wide 0 Tryz.prog 131 #[.func (.yield l) #[] #[],.pointer (some ⟨cb,0,none⟩)] W fun e W'=>(∃ v,e = .returned v)∧W'=W) →
   ∀ K w lb,K.glob=G→Inv K H w→Vs K cap lb→AJ Tryz.prog 131 lb [] [] K H:=by
  rintro id rfl hc K w lb _ hi hv;obtain ⟨x0,rfl,hx0⟩:=qK hv;cases hx0 with
  |ptr _ _ cb hcb=>
   intro l W J Jx hiW hJ hJx hsz hY h0;refine (hc K W cb hiW hcb l).mono ?_;rintro e W' ⟨h1,rfl⟩;exact ⟨h1,.inl h0⟩
 have hent:∀ args w,(callFunc 131 args).run Tryz.prog w = .ok (.enter 131 args) w:=fun args w=>db Tryz.func131 (by kernel_rfl) (by kernel_rfl) args w
 unfold x7 at h;split at h
 ·rename_i id
  split at h
  ·rename_i T ho
   cases h;refine ⟨fun x hx=>by simp at hx,hent,key id rfl fun K W cb hi hcb l => ?_⟩;obtain ⟨b,vs,T',hb,hbase,hheap,hlen,hcs,_⟩:=hi.obj id _ ho;rw [hcb] at hb;cases hb;have hv0:=hcs 0 _ rfl;have hc0:=wR hheap (i:=0) (by simp at hlen;omega);generalize vs.getD 0 undef=y at hv0 hc0;cases hv0;exact zd l cb W hc0
  ·rename_i id2 T ho
   split at h
   ·rename_i a0 a1 a2 a3 a4 a5 T2 ho2
    cases h;refine ⟨fun x hx=>by simp at hx,hent,key id rfl fun K W cb hi hcb l => ?_⟩;obtain ⟨b,vs,T',hb,hbase,hheap,hlen,hcs,_⟩:=hi.obj id _ ho;rw [hcb] at hb;cases hb;have hv0:=hcs 0 _ rfl;have hc0:=wR hheap (i:=0) (by simp at hlen;omega);generalize vs.getD 0 undef=y at hv0 hc0;cases hv0 with
    |ptr _ _ b2 hb2=>
     obtain ⟨b3,vs2,T3,hb3,_,hheap2,hlen2,hcs2,_⟩:=hi.obj id2 _ ho2;rw [hb2] at hb3;cases hb3;have hv6:=hcs2 6 _ rfl;have hc6:=wR hheap2 (i:=6) (by simp at hlen2;omega);generalize vs2.getD 6 undef=y6 at hv6 hc6;cases hv6;exact yb l cb b2 W hc0 hc6
   ·cases h
  ·cases h
 ·cases h
end
section
open Go.Proofs
def BI(g:FuncId)(xs:List AV)(H:List AObj):Option Out:=
 match xs with
 |[.str s,.int .u8 c]=>bif Nat.beq g aE then some (.ret (.int .i64 (Lib.countByte s c.toNat.toUInt8:Nat)),H)
  else bif Nat.beq g aq then some (.ret (.int .i64 (Lib.indexByte s c.toNat.toUInt8)),H)
  else none
 |[.int .i64 (.ofNat n)]=>bif Nat.beq g aH&&Nat.ble n 281474976710656 then some (.ret (.rslice H.length 0 n 1 true),H++[.cells (List.replicate n .unk) 5]) else none
 |[.fn _ _ _]=>none
 |[x]=>bif Nat.beq g aW then some (.ret x,H) else none
 |_=>none
theorem AZ:nQ Tryz.prog aE Extern.BytealgCount.count:=.of Tryz.func185 (by kernel_rfl) (by kernel_rfl) (by kernel_rfl) (by kernel_rfl)
theorem A1:nQ Tryz.prog aq Extern.BytealgIndexByte.indexByte:=.of Tryz.func224 (by kernel_rfl) (by kernel_rfl) (by kernel_rfl) (by kernel_rfl)
theorem BJ:nQ Tryz.prog aW Extern.AbiNoEscape.same:=.of Tryz.func189 (by kernel_rfl) (by kernel_rfl) (by kernel_rfl) (by kernel_rfl)
theorem Aj:nQ Tryz.prog aH (Extern.BytealgMakeNoZero.makeNoZero #[3] #[94]):=.of Tryz.func212 (by kernel_rfl) (by kernel_rfl) (by kernel_rfl) (by kernel_rfl)
theorem ze:Tryz.prog.underlying 94=some (.slice 5):=by kernel_rfl
theorem A2{g:FuncId}{xs:List AV}{H H':List AObj}{r:ou}(h:BI g xs H=some (r,H')):aC Tryz.prog G0 g xs H fun r2 H2=>r2=r∧H2=H':=by
 unfold BI at h;split at h
 ·rename_i s c
  cases h1:Nat.beq g aE with
  |true=>rw [h1] at h;cases h;rw [Nat.eq_of_beq_eq_true h1];exact y7 AZ s c H
  |false=>
   rw [h1,cond_false] at h;cases h2:Nat.beq g aq with
   |true=>rw [h2] at h;cases h;rw [Nat.eq_of_beq_eq_true h2];exact y8 A1 s c H
   |false=>rw [h2] at h;cases h
 ·rename_i n
  cases h1:(Nat.beq g aH&&Nat.ble n 281474976710656) with
  |true=>
   rw [h1] at h;cases h;simp only [Bool.and_eq_true] at h1;rw [Nat.eq_of_beq_eq_true h1.1];exact x5 Aj ze n (Nat.le_of_ble_eq_true h1.2) H
  |false=>rw [h1] at h;cases h
 ·cases h
 ·rename_i x _ _
  cases h1:Nat.beq g aW with
  |true=>rw [h1] at h;cases h;rw [Nat.eq_of_beq_eq_true h1];exact zV BJ x H
  |false=>rw [h1] at h;cases h
 ·cases h
theorem A3:Tryz.prog.follows .mixedOrders=true:=by kernel_rfl
theorem g0:∀ (n g:Nat) (cs:List AV),G0 g=some cs→wkbL n cs=true:=fun _ _ _ h=>by cases h
def BK:FuncId→List AV→List AObj→Option (List (List AV)×List Nat):=fun g cap H=>bif Nat.beq g 131 then x7 cap H else none
theorem A4(g:FuncId)(cap:List AV)(H:List AObj)(xs:List (List AV))(L:List Nat)(h:BK g cap H=some (xs,L)):(∀ x∈xs,x.length=2∧∀ v∈x,uy v=true)∧(∀ args w,(callFunc g args).run Tryz.prog w = .ok (.enter g args) w) ∧
  ∀ K w lb,K.glob=G0→Inv K H w→Vs K cap lb→AJ Tryz.prog g lb (xs.map fun x=>(x.map oP).toArray) L K H:=by
 unfold BK at h;cases hb:Nat.beq g 131 with
 |true=>rw [hb] at h;rw [Nat.eq_of_beq_eq_true hb];exact AY h
 |false=>rw [hb] at h;cases h
noncomputable def E0:du := { P:=Tryz.prog,G:=G0,fn:=Ce,orc:=BI,dfn:=zY,seq:=BK,sar:=fun _=>2 }
theorem yI:E0.Ok:=⟨A3,fun f af h=>AX f af h,fun f d af h=>Ah f d af h,(fun _ _ _ _ _ h=>by cases h),fun _ _ _ _ _ h=>A2 h,(fun _ _ _ h=>by cases h),A4⟩
end
section
open Go.Proofs
theorem A5:∀ f args H,E0.wo f args H=none:=fun _ _ _=>rfl
def ps0:List fu:=[]
theorem ok0:∀ p∈ps0,p.Ok E0.P E0.G:=fun p h=>by cases h
def p1:fu:=⟨15,[(.agg [(.str [97,101,105,111,117]),(.slice (.own 26) 2 [[(.str [110,117,109]),(.rslice 24 2 2 1 true)]]),(.rslice 43 0 2 2 true),(.rslice 70 0 4 4 true),(.slice (.own 74) 4 [[(.str [121,43]),(.str [105,43,101]),(.str [67]),(.str [115])],[(.str [110,43]),(.str [110,110,43]),(.str [86]),(.str [101,100])]]),(.slice (.own 82) 3 [[(.str [110,111,117,110]),(.str []),(.slice .any 2 [[(.str [110,117,109]),(.str [115,103])]])]])])],(dd 24 ([.cells [(.str [116,114,97,105,116]),(.str [110,117,109]),(.str [115,103]),(.str [112,108])] 9]++(dd 1 ([.tok 2 67]++(dd 7 ([.tok 2 64,.tok 8 72]++(dd 3 ([.tok 2 64]++(dd 3 ([.cells [(.str [110,111,117,110]),(.slice (.own 35) 4 [[(.int .i64 0),(.str []),(.str []),(.slice .any 2 [[(.str [110,117,109]),(.str [115,103])]])],[(.int .i64 0),(.str []),(.str [115]),(.slice .any 2 [[(.str [110,117,109]),(.str [112,108])]])]]),(.str [118,101,114,98]),(.slice (.own 47) 4 [[(.int .i64 0),(.str []),(.str []),(.slice .nil 2 [])],[(.int .i64 0),(.str []),(.str [101,100]),(.slice .nil 2 [])]])] 70]++(dd 3 ([.tok 8 72]++(dd 18 ([.tok 2 77]++(dd 3 ([.cells [(.str [99,105,116,121]),(.str [110,111,117,110]),(.slice .nil 2 []),(.slice .nil 2 []),(.str [99,97,114]),(.str [110,111,117,110]),(.slice .nil 2 []),(.slice .nil 2 []),(.str [98,117,115]),(.str [110,111,117,110]),(.slice .nil 2 []),(.slice (.own 66) 2 [[(.int .i64 1),(.str [98,117,115,101,115])]]),(.str [112,108,97,110]),(.str [118,101,114,98]),(.slice .nil 2 []),(.slice .nil 2 [])] 75]++(dd 3 ([.tok 8 79]++(dd 6 [.tok 2 64,.tok 3 81]))))))))))))))))))),(.int .u8 0)⟩
def ps1:List fu:=p1::ps0
theorem ok1:∀ p∈ps1,p.Ok E0.P E0.G:=oV yI g0 ok0 A5 (by kernel_rfl)
def p2:fu:=⟨10,[(.str [118,111,119,101,108,115,32,97,101,105,111,117,10,116,114,97,105,116,32,110,117,109,32,115,103,32,112,108,10,99,108,97,115,115,32,110,111,117,110,10,115,108,111,116,32,48,32,45,32,45,32,110,117,109,61,115,103,10,115,108,111,116,32,48,32,45,32,115,32,110,117,109,61,112,108,10,99,108,97,115,115,32,118,101,114,98,10,115,108,111,116,32,48,32,45,32,45,10,115,108,111,116,32,48,32,45,32,101,100,10,101,110,116,114,121,32,99,105,116,121,32,110,111,117,110,10,101,110,116,114,121,32,99,97,114,32,110,111,117,110,10,101,110,116,114,121,32,98,117,115,32,110,111,117,110,10,102,111,114,109,32,49,32,98,117,115,101,115,10,101,110,116,114,121,32,112,108,97,110,32,118,101,114,98,10,115,112,101,108,108,32,121,43,32,105,43,101,32,67,32,115,10,115,112,101,108,108,32,110,43,32,110,110,43,32,86,32,101,100,10,108,105,110,107,32,110,111,117,110,32,45,32,110,117,109,61,115,103,10])],[],(.tuple [(.agg [(.str [97,101,105,111,117]),(.slice .any 2 [[(.str [110,117,109]),(.slice .any 1 [[(.str [115,103])],[(.str [112,108])]])]]),(.slice .any 2 [[(.str [110,111,117,110]),(.slice .any 4 [[(.int .i64 0),(.str []),(.str []),(.slice .any 2 [[(.str [110,117,109]),(.str [115,103])]])],[(.int .i64 0),(.str []),(.str [115]),(.slice .any 2 [[(.str [110,117,109]),(.str [112,108])]])]])],[(.str [118,101,114,98]),(.slice .any 4 [[(.int .i64 0),(.str []),(.str []),(.slice .nil 2 [])],[(.int .i64 0),(.str []),(.str [101,100]),(.slice .nil 2 [])]])]]),(.slice .any 4 [[(.str [99,105,116,121]),(.str [110,111,117,110]),(.slice .nil 2 []),(.slice .nil 2 [])],[(.str [99,97,114]),(.str [110,111,117,110]),(.slice .nil 2 []),(.slice .nil 2 [])],[(.str [98,117,115]),(.str [110,111,117,110]),(.slice .nil 2 []),(.slice .any 2 [[(.int .i64 1),(.str [98,117,115,101,115])]])],[(.str [112,108,97,110]),(.str [118,101,114,98]),(.slice .nil 2 []),(.slice .nil 2 [])]]),(.slice .any 4 [[(.str [121,43]),(.str [105,43,101]),(.str [67]),(.str [115])],[(.str [110,43]),(.str [110,110,43]),(.str [86]),(.str [101,100])]]),(.slice .any 3 [[(.str [110,111,117,110]),(.str []),(.slice .any 2 [[(.str [110,117,109]),(.str [115,103])]])]])]),(.int .i64 0),(.int .u8 0)])⟩
def ps2:List fu:=p2::ps1
theorem ok2:∀ p∈ps2,p.Ok E0.P E0.G:=oV yI g0 ok1 A5 (by kernel_rfl)
def p3:fu:=⟨15,[(.agg [(.str [97,101,105,111,117]),(.slice .any 2 [[(.str [110,117,109]),(.slice .any 1 [[(.str [115,103])],[(.str [112,108])]])]]),(.slice .any 2 [[(.str [110,111,117,110]),(.slice .any 4 [[(.int .i64 0),(.str []),(.str []),(.slice .any 2 [[(.str [110,117,109]),(.str [115,103])]])],[(.int .i64 0),(.str []),(.str [115]),(.slice .any 2 [[(.str [110,117,109]),(.str [112,108])]])]])],[(.str [118,101,114,98]),(.slice .any 4 [[(.int .i64 0),(.str []),(.str []),(.slice .nil 2 [])],[(.int .i64 0),(.str []),(.str [101,100]),(.slice .nil 2 [])]])]]),(.slice .any 4 [[(.str [99,105,116,121]),(.str [110,111,117,110]),(.slice .nil 2 []),(.slice .nil 2 [])],[(.str [99,97,114]),(.str [110,111,117,110]),(.slice .nil 2 []),(.slice .nil 2 [])],[(.str [98,117,115]),(.str [110,111,117,110]),(.slice .nil 2 []),(.slice .any 2 [[(.int .i64 1),(.str [98,117,115,101,115])]])],[(.str [112,108,97,110]),(.str [118,101,114,98]),(.slice .nil 2 []),(.slice .nil 2 [])]]),(.slice .any 4 [[(.str [121,43]),(.str [105,43,101]),(.str [67]),(.str [115])],[(.str [110,43]),(.str [110,110,43]),(.str [86]),(.str [101,100])]]),(.slice .any 3 [[(.str [110,111,117,110]),(.str []),(.slice .any 2 [[(.str [110,117,109]),(.str [115,103])]])]])])],[],(.int .u8 0)⟩
def ps3:List fu:=p3::ps2
theorem ok3:∀ p∈ps3,p.Ok E0.P E0.G:=oV yI g0 ok2 A5 (by kernel_rfl)
theorem zf:yx (EP E0 ps3) 1000000 bH [] []=some (.bool true):=by kernel_rfl
theorem Ak(H:List AObj):aC Tryz.prog G0 bH [] H fun r H'=>r = .ret (.bool true)∧H'=H:=xy (Bg yI g0 ok3 A5) g0 zf rfl
end
end Go.Am
