import Derived.Test.YthkkaomegnnieaaGreatDoorA4
/-
  Part 5 of the tool: an abstract machine over the model, proved sound, and what it says of the functions that the law reaches. Condition: none but those that each theorem names.
-/
set_option linter.unusedVariables false
set_option linter.unusedSimpArgs false
section
set_option maxRecDepth 1000000
namespace Go.Am
open Go.RowKit Go.Proofs

theorem e0wo : ∀ f args H, E0.wo f args H = none := fun _ _ _ => rfl
def ps0 : List Piece := []
theorem ok0 : ∀ p ∈ ps0, p.Ok E0.P E0.G := fun p h => by cases h
def p1 : Piece := ⟨33, [(.agg [(.str [97, 101, 105, 111, 117]), (.slice (.own 9) 2 [[(.str [110, 117, 109]), (.rslice 7 2 2 1 true)]]), (.rslice 26 0 2 2 true), (.rslice 53 0 4 4 true), (.slice (.own 57) 4 [[(.str [121, 43]), (.str [105, 43, 101]), (.str [67]), (.str [115])], [(.str [110, 43]), (.str [110, 110, 43]), (.str [86]), (.str [101, 100])]]), (.slice (.own 65) 3 [[(.str [110, 111, 117, 110]), (.str []), (.slice .any 2 [[(.str [110, 117, 109]), (.str [115, 103])]])]])])], (dd 7 ([.cells [(.str [116, 114, 97, 105, 116]), (.str [110, 117, 109]), (.str [115, 103]), (.str [112, 108])] 9] ++ (dd 1 ([.tok 2 99] ++ (dd 7 ([.tok 2 49, .tok 8 72] ++ (dd 3 ([.tok 2 49] ++ (dd 3 ([.cells [(.str [110, 111, 117, 110]), (.slice (.own 18) 4 [[(.int .i64 0), (.str []), (.str []), (.slice .any 2 [[(.str [110, 117, 109]), (.str [115, 103])]])], [(.int .i64 0), (.str []), (.str [115]), (.slice .any 2 [[(.str [110, 117, 109]), (.str [112, 108])]])]]), (.str [118, 101, 114, 98]), (.slice (.own 30) 4 [[(.int .i64 0), (.str []), (.str []), (.slice .nil 2 [])], [(.int .i64 0), (.str []), (.str [101, 100]), (.slice .nil 2 [])]])] 102] ++ (dd 3 ([.tok 8 72] ++ (dd 18 ([.tok 2 104] ++ (dd 3 ([.cells [(.str [99, 105, 116, 121]), (.str [110, 111, 117, 110]), (.slice .nil 2 []), (.slice .nil 2 []), (.str [99, 97, 114]), (.str [110, 111, 117, 110]), (.slice .nil 2 []), (.slice .nil 2 []), (.str [98, 117, 115]), (.str [110, 111, 117, 110]), (.slice .nil 2 []), (.slice (.own 49) 2 [[(.int .i64 1), (.str [98, 117, 115, 101, 115])]]), (.str [112, 108, 97, 110]), (.str [118, 101, 114, 98]), (.slice .nil 2 []), (.slice .nil 2 [])] 82] ++ (dd 3 ([.tok 8 52] ++ (dd 6 [.tok 2 49, .tok 3 106]))))))))))))))))))), (.int .u8 0)⟩
def ps1 : List Piece := p1 :: ps0
theorem ok1 : ∀ p ∈ ps1, p.Ok E0.P E0.G := pieces_cons E0_ok g0 ok0 e0wo (by kernel_rfl)
def p2 : Piece := ⟨7, [(.str [118, 111, 119, 101, 108, 115, 32, 97, 101, 105, 111, 117, 10, 116, 114, 97, 105, 116, 32, 110, 117, 109, 32, 115, 103, 32, 112, 108, 10, 99, 108, 97, 115, 115, 32, 110, 111, 117, 110, 10, 115, 108, 111, 116, 32, 48, 32, 45, 32, 45, 32, 110, 117, 109, 61, 115, 103, 10, 115, 108, 111, 116, 32, 48, 32, 45, 32, 115, 32, 110, 117, 109, 61, 112, 108, 10, 99, 108, 97, 115, 115, 32, 118, 101, 114, 98, 10, 115, 108, 111, 116, 32, 48, 32, 45, 32, 45, 10, 115, 108, 111, 116, 32, 48, 32, 45, 32, 101, 100, 10, 101, 110, 116, 114, 121, 32, 99, 105, 116, 121, 32, 110, 111, 117, 110, 10, 101, 110, 116, 114, 121, 32, 99, 97, 114, 32, 110, 111, 117, 110, 10, 101, 110, 116, 114, 121, 32, 98, 117, 115, 32, 110, 111, 117, 110, 10, 102, 111, 114, 109, 32, 49, 32, 98, 117, 115, 101, 115, 10, 101, 110, 116, 114, 121, 32, 112, 108, 97, 110, 32, 118, 101, 114, 98, 10, 115, 112, 101, 108, 108, 32, 121, 43, 32, 105, 43, 101, 32, 67, 32, 115, 10, 115, 112, 101, 108, 108, 32, 110, 43, 32, 110, 110, 43, 32, 86, 32, 101, 100, 10, 108, 105, 110, 107, 32, 110, 111, 117, 110, 32, 45, 32, 110, 117, 109, 61, 115, 103, 10])], [], (.tuple [(.agg [(.str [97, 101, 105, 111, 117]), (.slice .any 2 [[(.str [110, 117, 109]), (.slice .any 1 [[(.str [115, 103])], [(.str [112, 108])]])]]), (.slice .any 2 [[(.str [110, 111, 117, 110]), (.slice .any 4 [[(.int .i64 0), (.str []), (.str []), (.slice .any 2 [[(.str [110, 117, 109]), (.str [115, 103])]])], [(.int .i64 0), (.str []), (.str [115]), (.slice .any 2 [[(.str [110, 117, 109]), (.str [112, 108])]])]])], [(.str [118, 101, 114, 98]), (.slice .any 4 [[(.int .i64 0), (.str []), (.str []), (.slice .nil 2 [])], [(.int .i64 0), (.str []), (.str [101, 100]), (.slice .nil 2 [])]])]]), (.slice .any 4 [[(.str [99, 105, 116, 121]), (.str [110, 111, 117, 110]), (.slice .nil 2 []), (.slice .nil 2 [])], [(.str [99, 97, 114]), (.str [110, 111, 117, 110]), (.slice .nil 2 []), (.slice .nil 2 [])], [(.str [98, 117, 115]), (.str [110, 111, 117, 110]), (.slice .nil 2 []), (.slice .any 2 [[(.int .i64 1), (.str [98, 117, 115, 101, 115])]])], [(.str [112, 108, 97, 110]), (.str [118, 101, 114, 98]), (.slice .nil 2 []), (.slice .nil 2 [])]]), (.slice .any 4 [[(.str [121, 43]), (.str [105, 43, 101]), (.str [67]), (.str [115])], [(.str [110, 43]), (.str [110, 110, 43]), (.str [86]), (.str [101, 100])]]), (.slice .any 3 [[(.str [110, 111, 117, 110]), (.str []), (.slice .any 2 [[(.str [110, 117, 109]), (.str [115, 103])]])]])]), (.int .i64 0), (.int .u8 0)])⟩
def ps2 : List Piece := p2 :: ps1
theorem ok2 : ∀ p ∈ ps2, p.Ok E0.P E0.G := pieces_cons E0_ok g0 ok1 e0wo (by kernel_rfl)
def p3 : Piece := ⟨33, [(.agg [(.str [97, 101, 105, 111, 117]), (.slice .any 2 [[(.str [110, 117, 109]), (.slice .any 1 [[(.str [115, 103])], [(.str [112, 108])]])]]), (.slice .any 2 [[(.str [110, 111, 117, 110]), (.slice .any 4 [[(.int .i64 0), (.str []), (.str []), (.slice .any 2 [[(.str [110, 117, 109]), (.str [115, 103])]])], [(.int .i64 0), (.str []), (.str [115]), (.slice .any 2 [[(.str [110, 117, 109]), (.str [112, 108])]])]])], [(.str [118, 101, 114, 98]), (.slice .any 4 [[(.int .i64 0), (.str []), (.str []), (.slice .nil 2 [])], [(.int .i64 0), (.str []), (.str [101, 100]), (.slice .nil 2 [])]])]]), (.slice .any 4 [[(.str [99, 105, 116, 121]), (.str [110, 111, 117, 110]), (.slice .nil 2 []), (.slice .nil 2 [])], [(.str [99, 97, 114]), (.str [110, 111, 117, 110]), (.slice .nil 2 []), (.slice .nil 2 [])], [(.str [98, 117, 115]), (.str [110, 111, 117, 110]), (.slice .nil 2 []), (.slice .any 2 [[(.int .i64 1), (.str [98, 117, 115, 101, 115])]])], [(.str [112, 108, 97, 110]), (.str [118, 101, 114, 98]), (.slice .nil 2 []), (.slice .nil 2 [])]]), (.slice .any 4 [[(.str [121, 43]), (.str [105, 43, 101]), (.str [67]), (.str [115])], [(.str [110, 43]), (.str [110, 110, 43]), (.str [86]), (.str [101, 100])]]), (.slice .any 3 [[(.str [110, 111, 117, 110]), (.str []), (.slice .any 2 [[(.str [110, 117, 109]), (.str [115, 103])]])]])])], [], (.int .u8 0)⟩
def ps3 : List Piece := p3 :: ps2
theorem ok3 : ∀ p ∈ ps3, p.Ok E0.P E0.G := pieces_cons E0_ok g0 ok2 e0wo (by kernel_rfl)
theorem lives_run : alone (EP E0 ps3) 1000000 f_truchmanlaw02_lives [] [] = some (.bool true) := by kernel_rfl
theorem lives_ok (H : List AObj) : ACalls Tryz.prog G0 f_truchmanlaw02_lives [] H fun r H' => r = .ret (.bool true) ∧ H' = H := piece_ok (EP_ok E0_ok g0 ok3 e0wo) g0 lives_run rfl

end Go.Am
end

section
set_option maxRecDepth 100000
namespace Go.Am
open Go.RowKit Sh
def c_truchmanlaw02_MorphUnifies : AC :=
  (Q (O [mc 4 F]) (Q (Q (Q (O [m 9 0, ls 10 9, o 11 (.ar .gtr (t 10) (i 100)), m 12 11, h 13 12 (.mv (t 1)), h 14 12 (.len .sl (t 13)), h 15 12 (.ar .gtr (t 14) (i 100)), o 16 (.pk (t
  12) T (t 15))]) (Y [0, 1, 16])) (C 16 (Q (O [k 17 (f f_truchmanlaw02_lives) [], m 4 17]) R) X)) (Q (Q (O [m 19 0, m 20 1, k 21 (f f_morph_Unify) [(t 19), (t 20)], m 18 21, ex 22 18
  0, ex 23 18 1, m 5 22, m 6 23]) (Y [0, 1, 5, 6])) (Q (Q (O [m 25 0, m 26 1, k 27 (f f_truchmanref02_Unify) [(t 25), (t 26)], m 24 27, ex 28 24 0, ex 29 24 1, m 7 28, m 8 29]) (Y [0,
  1, 5, 6, 7, 8])) (Q (Q (O [m 30 6, m 31 8, o 32 (.eq false .bool (t 30) (t 31)), m 33 32, g 34 33 (.mv (t 5)), g 35 33 (.mv (t 7)), ⟨(some 36), (some (33, true)), (.call (.c (.fn
  (.func f_truchmanlaw02_SameFeats) [] [])) [(.t 34), (.t 35)])⟩, o 37 (.pk (t 33) (t 36) F), m 38 37, g 39 38 (.mv (t 0)), g 40 38 (.mv (t 1)), ⟨(some 41), (some (38, true)), (.call
  (.c (.fn (.func f_morph_Subsumes) [] [])) [(.t 39), (.t 40)])⟩, g 42 38 (.mv (t 0)), g 43 38 (.mv (t 1)), ⟨(some 44), (some (38, true)), (.call (.c (.fn (.func
  f_truchmanref02_Subsumes) [] [])) [(.t 42), (.t 43)])⟩, g 45 38 (.eq false .bool (t 41) (t 44)), o 46 (.pk (t 38) (t 45) F), m 47 46, ⟨(some 48), (some (47, true)), (.call (.c (.fn
  (.func f_truchmanlaw02_lives) [] [])) [])⟩, o 49 (.pk (t 47) (t 48) F), m 4 49]) (Y [4])) R)))))
def a_truchmanlaw02_MorphUnifies : AFn := ⟨c_truchmanlaw02_MorphUnifies, 50, [.t 4], .drop, [], none⟩
theorem q_truchmanlaw02_MorphUnifies : a_truchmanlaw02_MorphUnifies.res = [.t 4] ∧ a_truchmanlaw02_MorphUnifies.mode = .drop ∧ a_truchmanlaw02_MorphUnifies.dfr = none := ⟨rfl, rfl, rfl⟩
def c_truchmanlaw02_MorphOrder : AC :=
  (Q (O [mc 6 F]) (Q (Q (Q (O [m 19 0, ls 20 19, o 21 (.ar .gtr (t 20) (i 100)), m 22 21, h 23 22 (.mv (t 1)), h 24 22 (.len .sl (t 23)), h 25 22 (.ar .gtr (t 24) (i 100)), o 26 (.pk
  (t 22) T (t 25)), m 27 26, h 28 27 (.mv (t 2)), h 29 27 (.len .sl (t 28)), h 30 27 (.ar .gtr (t 29) (i 100)), o 31 (.pk (t 27) T (t 30))]) (Y [0, 1, 2, 31])) (C 31 (Q (O [k 32 (f
  f_truchmanlaw02_lives) [], m 6 32]) R) X)) (Q (Q (O [m 34 0, m 35 1, k 36 (f f_morph_Unify) [(t 34), (t 35)], m 33 36, ex 37 33 0, ex 38 33 1, m 7 37, m 8 38]) (Y [0, 1, 2, 7, 8]))
  (Q (Q (O [m 40 1, m 41 0, k 42 (f f_morph_Unify) [(t 40), (t 41)], m 39 42, ex 43 39 0, ex 44 39 1, m 9 43, m 10 44]) (Y [0, 1, 2, 7, 8, 9, 10])) (Q (Q (Q (O [m 45 8, m 46 10, o 47
  (.eq true .bool (t 45) (t 46)), m 48 47, h 49 48 (.mv (t 7)), h 50 48 (.mv (t 9)), ⟨(some 51), (some (48, false)), (.call (.c (.fn (.func f_truchmanlaw02_SameFeats) [] [])) [(.t
  49), (.t 50)])⟩, h 52 48 (.un .not (t 51)), o 53 (.pk (t 48) T (t 52))]) (Y [0, 1, 2, 7, 8, 53])) (C 53 (Q (O [mc 6 F]) R) X)) (Q (Q (O [m 54 8, no 55 54]) (C 55 (Q (Q (O [m 56 7,
  ls 57 56, o 58 (.ar .eql (t 57) (i 0)), m 59 58, ⟨(some 60), (some (59, true)), (.call (.c (.fn (.func f_truchmanlaw02_lives) [] [])) [])⟩, o 61 (.pk (t 59) (t 60) F), m 6 61]) (Y
  [6])) R) X)) (Q (Q (Q (O [m 62 0, m 63 7, k 64 (f f_morph_Subsumes) [(t 62), (t 63)], no 65 64, m 66 65, h 67 66 (.mv (t 1)), h 68 66 (.mv (t 7)), ⟨(some 69), (some (66, false)),
  (.call (.c (.fn (.func f_morph_Subsumes) [] [])) [(.t 67), (.t 68)])⟩, h 70 66 (.un .not (t 69)), o 71 (.pk (t 66) T (t 70))]) (Y [0, 1, 2, 7, 71])) (C 71 (Q (O [mc 6 F]) R) X)) (Q
  (Q (Q (O [m 73 2, k 74 (f f_morph_Unify) [(t 73), (.c (.slice .nil 2 []))], m 72 74, ex 75 72 0, ex 76 72 1, m 11 75, m 12 76]) (Y [0, 1, 2, 7, 12])) (Q (Q (O [m 77 12, m 78 77, g
  79 78 (.mv (t 0)), g 80 78 (.mv (t 2)), ⟨(some 81), (some (78, true)), (.call (.c (.fn (.func f_morph_Subsumes) [] [])) [(.t 79), (.t 80)])⟩, o 82 (.pk (t 78) (t 81) F), m 83 82, g
  84 83 (.mv (t 1)), g 85 83 (.mv (t 2)), ⟨(some 86), (some (83, true)), (.call (.c (.fn (.func f_morph_Subsumes) [] [])) [(.t 84), (.t 85)])⟩, o 87 (.pk (t 83) (t 86) F), m 88 87, g
  89 88 (.mv (t 7)), g 90 88 (.mv (t 2)), ⟨(some 91), (some (88, true)), (.call (.c (.fn (.func f_morph_Subsumes) [] [])) [(.t 89), (.t 90)])⟩, g 92 88 (.un .not (t 91)), o 93 (.pk (t
  88) (t 92) F)]) (Y [0, 1, 2, 7, 93])) (C 93 (Q (O [mc 6 F]) R) X))) (Q (Q (O [m 95 7, m 96 2, k 97 (f f_morph_Unify) [(t 95), (t 96)], m 94 97, ex 98 94 0, ex 99 94 1, m 13 98, m 14
  99]) (Y [0, 1, 2, 13, 14])) (Q (Q (O [m 101 1, m 102 2, k 103 (f f_morph_Unify) [(t 101), (t 102)], m 100 103, ex 104 100 0, ex 105 100 1, m 15 104, m 16 105]) (Y [0, 13, 14, 15,
  16])) (Q (Q (O [m 106 16, no 107 106]) (C 107 (Q (Q (O [m 108 14, no 109 108, m 110 109, ⟨(some 111), (some (110, true)), (.call (.c (.fn (.func f_truchmanlaw02_lives) [] [])) [])⟩,
  o 112 (.pk (t 110) (t 111) F), m 6 112]) (Y [6])) R) X)) (Q (Q (O [m 114 0, m 115 15, k 116 (f f_morph_Unify) [(t 114), (t 115)], m 113 116, ex 117 113 0, ex 118 113 1, m 17 117, m
  18 118]) (Y [13, 14, 17, 18])) (Q (Q (O [m 119 14, m 120 18, o 121 (.eq false .bool (t 119) (t 120)), m 122 121, g 123 122 (.mv (t 13)), g 124 122 (.mv (t 17)), ⟨(some 125), (some
  (122, true)), (.call (.c (.fn (.func f_truchmanlaw02_SameFeats) [] [])) [(.t 123), (.t 124)])⟩, o 126 (.pk (t 122) (t 125) F), m 127 126, ⟨(some 128), (some (127, true)), (.call (.c
  (.fn (.func f_truchmanlaw02_lives) [] [])) [])⟩, o 129 (.pk (t 127) (t 128) F), m 6 129]) (Y [6])) R)))))))))))))
def a_truchmanlaw02_MorphOrder : AFn := ⟨c_truchmanlaw02_MorphOrder, 130, [.t 6], .drop, [], none⟩
theorem q_truchmanlaw02_MorphOrder : a_truchmanlaw02_MorphOrder.res = [.t 6] ∧ a_truchmanlaw02_MorphOrder.mode = .drop ∧ a_truchmanlaw02_MorphOrder.dfr = none := ⟨rfl, rfl, rfl⟩
def c_morph_Unify : AC :=
  (Q (O [mc 4 (.c (.slice .nil 2 [])), mc 5 F]) (Q (Q (Q (O [m 6 0, k 7 (f f_morph_increasing) [(t 6)], no 8 7, m 9 8, h 10 9 (.mv (t 1)), ⟨(some 11), (some (9, false)), (.call (.c
  (.fn (.func f_morph_increasing) [] [])) [(.t 10)])⟩, h 12 9 (.un .not (t 11)), o 13 (.pk (t 9) T (t 12)), m 14 13, h 15 14 (.mv (t 0)), h 16 14 (.mv (t 1)), ⟨(some 17), (some (14,
  false)), (.call (.c (.fn (.func f_morph_clash) [] [])) [(.t 15), (.t 16)])⟩, o 18 (.pk (t 14) T (t 17))]) (Y [0, 1, 18])) (C 18 (Q (O [mc 4 (.c (.slice .nil 2 [])), mc 5 F]) R) X))
  (Q (Q (O [m 19 0, m 20 1, k 21 (f f_morph_union) [(t 19), (t 20)], m 4 21, mc 5 T]) (Y [4, 5])) R)))
def a_morph_Unify : AFn := ⟨c_morph_Unify, 22, [.t 4, .t 5], .drop, [], none⟩
theorem q_morph_Unify : a_morph_Unify.res = [.t 4, .t 5] ∧ a_morph_Unify.mode = .drop ∧ a_morph_Unify.dfr = none := ⟨rfl, rfl, rfl⟩
def c_morph_Name : AC :=
  (Q (O [mc 2 F]) (Q (O [o 3 (.nw [.nilfn] t_func_uint8_bool), n (.st 1 (t 3) (f f_morph_Name_1))]) (Q (Q (D [P (m 4 0), W (lt 5 4), P (o 6 (.ar .geq (t 5) (i 1))), P (m 7 6), P (g 8
  7 (.mv (t 0))), W (g 9 7 (.len .str (t 8))), P (g 10 7 (.ar .leq (t 9) (i 12))), P (o 11 (.pk (t 7) (t 10) F)), P (m 12 11), W (g 13 12 (.ld none (t 3))), P (g 14 12 (.mv (t 0))), P
  (g 15 12 (.ixs (t 14) (i 0))), E (⟨(some 16), (some (12, true)), (.call (.t 13) [(.t 15)])⟩), P (o 17 (.pk (t 12) (t 16) F)), P (m 18 17), P (g 19 18 (.mv (t 0))), P (g 20 18 (.mf
  (.func f_morph_Name_2) [] [(t 3)])), E (⟨(some 21), (some (18, true)), (.call (.c (.fn (.func f_morph_all) [] [])) [(.t 19), (.t 20)])⟩), P (o 22 (.pk (t 18) (t 21) F)), P (m 2
  22)]) (Y [2])) R)))
def a_morph_Name : AFn := ⟨c_morph_Name, 23, [.t 2], .drop, [], none⟩
theorem q_morph_Name : a_morph_Name.res = [.t 2] ∧ a_morph_Name.mode = .drop ∧ a_morph_Name.dfr = none := ⟨rfl, rfl, rfl⟩
def c_morph_Word : AC :=
  (Q (O [mc 2 F]) (Q (Q (O [m 3 0, lt 4 3, o 5 (.ar .geq (t 4) (i 1)), m 6 5, g 7 6 (.mv (t 0)), g 8 6 (.len .str (t 7)), g 9 6 (.ar .leq (t 8) (i 24)), o 10 (.pk (t 6) (t 9) F), m 11
  10, g 12 11 (.mv (t 0)), ⟨(some 13), (some (11, true)), (.call (.c (.fn (.func f_morph_all) [] [])) [(.t 12), (.c (.fn (.func f_morph_Word_1) [] []))])⟩, o 14 (.pk (t 11) (t 13) F),
  m 2 14]) (Y [2])) R))
def a_morph_Word : AFn := ⟨c_morph_Word, 15, [.t 2], .drop, [], none⟩
theorem q_morph_Word : a_morph_Word.res = [.t 2] ∧ a_morph_Word.mode = .drop ∧ a_morph_Word.dfr = none := ⟨rfl, rfl, rfl⟩
def c_morph_Plain : AC :=
  (Q (O [mc 2 F]) (Q (Q (O [m 3 0, k 4 (f f_morph_Word) [(t 3)], m 5 4, g 6 5 (.mv (t 0)), ⟨(some 7), (some (5, true)), (.call (.c (.fn (.func f_morph_all) [] [])) [(.t 6), (.c (.fn
  (.func f_morph_letter) [] []))])⟩, o 8 (.pk (t 5) (t 7) F), m 2 8]) (Y [2])) R))
def a_morph_Plain : AFn := ⟨c_morph_Plain, 9, [.t 2], .drop, [], none⟩
theorem q_morph_Plain : a_morph_Plain.res = [.t 2] ∧ a_morph_Plain.mode = .drop ∧ a_morph_Plain.dfr = none := ⟨rfl, rfl, rfl⟩
def l_truchmanref02_Unify_0 : AC :=
  (Q (Q (Q (O [m 11 6, m 12 0, ls 13 12, bl 14 11 13]) (Y [0, 1, 6, 14])) (C 14 X (.exit 0))) (Q (.block 1 (Q (Q (D [P (m 17 0), P (m 18 6), P (o 19 (.ar .sub (t 18) (i 1))), P (ia 20
  2 17 19), P (fa 21 0 20), W (ld 22 21), P (m 23 0), P (m 24 6), P (ia 25 2 23 24), P (fa 26 0 25), W (ld 27 26), P (o 28 (.ar .geq (t 22) (t 27)))]) (Y [0, 1, 6, 28])) (C 28 (Q (O
  [mc 4 (.c (.slice .nil 2 [])), mc 5 F]) R) X))) (O [m 15 6, ad 16 15, m 6 16])))
def l_truchmanref02_Unify_1 : AC :=
  (Q (Q (Q (O [m 29 7, m 30 1, ls 31 30, bl 32 29 31]) (Y [0, 1, 7, 32])) (C 32 X (.exit 2))) (Q (.block 3 (Q (Q (D [P (m 35 1), P (m 36 7), P (o 37 (.ar .sub (t 36) (i 1))), P (ia 38
  2 35 37), P (fa 39 0 38), W (ld 40 39), P (m 41 1), P (m 42 7), P (ia 43 2 41 42), P (fa 44 0 43), W (ld 45 44), P (o 46 (.ar .geq (t 40) (t 45)))]) (Y [0, 1, 7, 46])) (C 46 (Q (O
  [mc 4 (.c (.slice .nil 2 [])), mc 5 F]) R) X))) (O [m 33 7, ad 34 33, m 7 34])))
def l_truchmanref02_Unify_2 : AC :=
  (Q (Q (Q (O [m 47 9, m 48 0, ls 49 48, bl 50 47 49, m 51 50, h 52 51 (.mv (t 10)), h 53 51 (.mv (t 1)), h 54 51 (.len .sl (t 53)), h 55 51 (.ar .lss (t 52) (t 54)), o 56 (.pk (t 51)
  T (t 55))]) (Y [0, 1, 8, 9, 10, 56])) (C 56 X (.exit 4))) (.block 5 (.block 6 (Q (Q (D [P (m 69 10), P (m 70 1), W (ls 71 70), P (o 72 (.ar .eql (t 69) (t 71))), P (m 73 72), P (h
  74 73 (.mv (t 9))), P (h 75 73 (.mv (t 0))), W (h 76 73 (.len .sl (t 75))), P (h 77 73 (.ar .lss (t 74) (t 76))), P (h 78 73 (.mv (t 77))), P (g 79 78 (.mv (t 0))), P (g 80 78 (.mv
  (t 9))), P (g 81 78 (.ias 2 (t 79) (t 80))), P (g 82 78 (.fa 0 (t 81))), W (g 83 78 (.ld none (t 82))), P (g 84 78 (.mv (t 1))), P (g 85 78 (.mv (t 10))), P (g 86 78 (.ias 2 (t 84)
  (t 85))), P (g 87 78 (.fa 0 (t 86))), W (g 88 78 (.ld none (t 87))), P (g 89 78 (.ar .lss (t 83) (t 88))), P (h 90 73 (.pk (t 78) (t 89) F)), P (o 91 (.pk (t 73) T (t 90))), P (m 68
  91)]) (Y [0, 1, 8, 9, 10, 68])) (C 68 (Q (Q (O [m 92 8, m 93 0, m 94 9, ia 95 2 93 94, la 96 2 95, o 97 (.bs 2 [(.str []), (.str [])] 1 [(0, (t 96))]), o 98 (.ap false t_api_Feat 2
  32 false (t 92) (t 97)), m 8 98]) (Y [0, 1, 8, 9, 10])) (O [m 99 9, ad 100 99, m 9 100])) (Q (Q (D [P (m 102 9), P (m 103 0), W (ls 104 103), P (o 105 (.ar .eql (t 102) (t 104))), P
  (m 106 105), P (h 107 106 (.mv (t 1))), P (h 108 106 (.mv (t 10))), P (h 109 106 (.ias 2 (t 107) (t 108))), P (h 110 106 (.fa 0 (t 109))), W (h 111 106 (.ld none (t 110))), P (h 112
  106 (.mv (t 0))), P (h 113 106 (.mv (t 9))), P (h 114 106 (.ias 2 (t 112) (t 113))), P (h 115 106 (.fa 0 (t 114))), W (h 116 106 (.ld none (t 115))), P (h 117 106 (.ar .lss (t 111)
  (t 116))), P (o 118 (.pk (t 106) T (t 117))), P (m 101 118)]) (Y [0, 1, 8, 9, 10, 101])) (C 101 (Q (Q (O [m 119 8, m 120 1, m 121 10, ia 122 2 120 121, la 123 2 122, o 124 (.bs 2
  [(.str []), (.str [])] 1 [(0, (t 123))]), o 125 (.ap false t_api_Feat 2 32 false (t 119) (t 124)), m 8 125]) (Y [0, 1, 8, 9, 10])) (O [m 126 10, ad 127 126, m 10 127])) (Q (Q (D [P
  (m 129 0), P (m 130 9), P (ia 131 2 129 130), W (la 132 2 131), P (m 133 1), P (m 134 10), P (ia 135 2 133 134), W (la 136 2 135), P (o 137 (.eq true (.st [(0, .str), (1, .str)]) (t
  132) (t 136))), P (m 128 137)]) (Y [0, 1, 8, 9, 10, 128])) (C 128 (Q (O [mc 4 (.c (.slice .nil 2 [])), mc 5 F]) R) (Q (Q (O [m 57 8, m 58 0, m 59 9, ia 60 2 58 59, la 61 2 60, o 62
  (.bs 2 [(.str []), (.str [])] 1 [(0, (t 61))]), o 63 (.ap false t_api_Feat 2 32 false (t 57) (t 62)), m 8 63]) (Y [0, 1, 8, 9, 10])) (Q (O [m 64 9, ad 65 64, m 9 65]) (O [m 66 10,
  ad 67 66, m 10 67]))))))))))))
def c_truchmanref02_Unify : AC :=
  (Q (O [mc 4 (.c (.slice .nil 2 [])), mc 5 F]) (Q (Q (O [mc 6 (i 1)]) (Q (.block 0 (.loop ⟨(some [0, 1, 6]), [], false⟩ l_truchmanref02_Unify_0)) (Y [0, 1]))) (Q (Q (O [mc 7 (i 1)])
  (Q (.block 2 (.loop ⟨(some [0, 1, 7]), [], false⟩ l_truchmanref02_Unify_1)) (Y [0, 1]))) (Q (O [mc 8 (.c (.slice .nil 2 []))]) (Q (O [mc 9 (i 0), mc 10 (i 0)]) (Q (Q (.block 4
  (.loop ⟨(some [0, 1, 8, 9, 10]), [(8, 2, t_api_Feat)], false⟩ l_truchmanref02_Unify_2)) (Y [8])) (Q (O [m 138 8, m 4 138, mc 5 T]) R)))))))
def a_truchmanref02_Unify : AFn := ⟨c_truchmanref02_Unify, 139, [.t 4, .t 5], .drop, [], none⟩
theorem q_truchmanref02_Unify : a_truchmanref02_Unify.res = [.t 4, .t 5] ∧ a_truchmanref02_Unify.mode = .drop ∧ a_truchmanref02_Unify.dfr = none := ⟨rfl, rfl, rfl⟩
def l_truchmanlaw02_SameFeats_0 : AC :=
  (Q (Q (Q (O [m 11 5, m 12 0, ls 13 12, bl 14 11 13]) (Y [0, 1, 5, 14])) (C 14 X (.exit 0))) (Q (.block 1 (Q (Q (D [P (m 17 0), P (m 18 5), P (ia 19 2 17 18), W (la 20 2 19), P (m 21
  1), P (m 22 5), P (ia 23 2 21 22), W (la 24 2 23), P (o 25 (.eq true (.st [(0, .str), (1, .str)]) (t 20) (t 24)))]) (Y [0, 1, 5, 25])) (C 25 (Q (O [mc 4 F]) R) X))) (O [m 15 5, ad
  16 15, m 5 16])))
def c_truchmanlaw02_SameFeats : AC :=
  (Q (O [mc 4 F]) (Q (Q (Q (O [m 6 0, ls 7 6, m 8 1, ls 9 8, o 10 (.ar .neq (t 7) (t 9))]) (Y [0, 1, 10])) (C 10 (Q (O [mc 4 F]) R) X)) (Q (Q (O [mc 5 (i 0)]) (Q (.block 0 (.loop
  ⟨(some [0, 1, 5]), [], false⟩ l_truchmanlaw02_SameFeats_0)) (Y []))) (Q (O [mc 4 T]) R))))
def a_truchmanlaw02_SameFeats : AFn := ⟨c_truchmanlaw02_SameFeats, 26, [.t 4], .drop, [], none⟩
theorem q_truchmanlaw02_SameFeats : a_truchmanlaw02_SameFeats.res = [.t 4] ∧ a_truchmanlaw02_SameFeats.mode = .drop ∧ a_truchmanlaw02_SameFeats.dfr = none := ⟨rfl, rfl, rfl⟩
def c_morph_Subsumes : AC :=
  (Q (O [o 3 (.bx t_sl_api_Feat (t 1)), mc 4 F]) (Q (Q (O [m 5 0, o 6 (.mf (.func f_morph_Subsumes_1) [] [(t 3)]), k 7 (f f_slices_ContainsFunc_api_Feat_api_Feat) [(t 5), (t 6)], no 8
  7, m 4 8]) (Y [4])) R))
def a_morph_Subsumes : AFn := ⟨c_morph_Subsumes, 9, [.t 4], .drop, [], none⟩
theorem q_morph_Subsumes : a_morph_Subsumes.res = [.t 4] ∧ a_morph_Subsumes.mode = .drop ∧ a_morph_Subsumes.dfr = none := ⟨rfl, rfl, rfl⟩
def l_truchmanref02_Subsumes_0 : AC :=
  (Q (Q (Q (O [m 14 7, m 15 1, ls 16 15, bl 17 14 16]) (Y [0, 1, 5, 6, 7, 17])) (C 17 X (.exit 2))) (Q (.block 3 (Q (D [P (m 20 6), P (m 21 20), P (h 22 21 (.mv (t 0))), P (h 23 21
  (.mv (t 5))), P (h 24 21 (.ias 2 (t 22) (t 23))), W (h 25 21 (.ld (some 2) (t 24))), P (h 26 21 (.mv (t 1))), P (h 27 21 (.mv (t 7))), P (h 28 21 (.ias 2 (t 26) (t 27))), W (h 29 21
  (.ld (some 2) (t 28))), P (h 30 21 (.eq false (.st [(0, .str), (1, .str)]) (t 25) (t 29))), P (o 31 (.pk (t 21) T (t 30))), P (m 6 31)]) (Y [0, 1, 5, 6, 7]))) (O [m 18 7, ad 19 18,
  m 7 19])))
def l_truchmanref02_Subsumes_1 : AC :=
  (Q (Q (Q (O [m 8 5, m 9 0, ls 10 9, bl 11 8 10]) (Y [0, 1, 5, 11])) (C 11 X (.exit 0))) (Q (Q (.block 1 (Q (O [mc 6 F]) (Q (Q (O [mc 7 (i 0)]) (Q (.block 2 (.loop ⟨(some [0, 1, 5,
  6, 7]), [], false⟩ l_truchmanref02_Subsumes_0)) (Y [0, 1, 5, 6]))) (Q (O [m 32 6, no 33 32]) (C 33 (Q (O [mc 4 F]) R) X))))) (Y [0, 1, 5])) (O [m 12 5, ad 13 12, m 5 13])))
def c_truchmanref02_Subsumes : AC :=
  (Q (O [mc 4 F]) (Q (Q (O [mc 5 (i 0)]) (Q (.block 0 (.loop ⟨(some [0, 1, 5]), [], false⟩ l_truchmanref02_Subsumes_1)) (Y []))) (Q (O [mc 4 T]) R)))
def a_truchmanref02_Subsumes : AFn := ⟨c_truchmanref02_Subsumes, 34, [.t 4], .drop, [], none⟩
theorem q_truchmanref02_Subsumes : a_truchmanref02_Subsumes.res = [.t 4] ∧ a_truchmanref02_Subsumes.mode = .drop ∧ a_truchmanref02_Subsumes.dfr = none := ⟨rfl, rfl, rfl⟩
def c_morph_Check : AC :=
  (Q (O [o 1 (.bx t_api_Lexicon (t 0)), mc 2 (u 0)]) (Q (Q (O [la 4 6 1, o 5 (.bd [(.str []), (.slice .nil 2 []), (.slice .nil 2 []), (.slice .nil 4 []), (.slice .nil 4 []), (.slice
  .nil 3 [])] [(0, 6)] [(0, (t 4))]), o 3 (.nw [(.str []), (.slice .nil 2 []), (.slice .nil 2 []), (.slice .nil 4 []), (.slice .nil 4 []), (.slice .nil 3 [])] t_morph_checker), n (.st
  6 (t 3) (t 5))]) (Y [1, 3])) (Q (Q (O [la 6 6 3, o 7 (.mf (.func f_morph_checker_vowels) [(t 6)] []), o 8 (.mf (.func f_morph_Check_1) [] [(t 1), (t 3)]), o 9 (.mf (.func
  f_morph_Check_2) [] [(t 1), (t 3)]), o 10 (.mf (.func f_morph_Check_3) [] [(t 1), (t 3)]), o 11 (.mf (.func f_morph_Check_4) [] [(t 1), (t 3)]), o 12 (.mf (.func f_morph_Check_5) []
  [(t 1), (t 3)]), o 13 (.bs 1 [.nilfn] 6 [(0, (t 7)), (1, (t 8)), (2, (t 9)), (3, (t 10)), (4, (t 11)), (5, (t 12))]), k 14 (f f_morph_first) [(t 13)], m 2 14]) (Y [2])) R)))
def a_morph_Check : AFn := ⟨c_morph_Check, 15, [.t 2], .drop, [], none⟩
theorem q_morph_Check : a_morph_Check.res = [.t 2] ∧ a_morph_Check.mode = .drop ∧ a_morph_Check.dfr = none := ⟨rfl, rfl, rfl⟩
def c_slices_Contains_string_string : AC :=
  (Q (O [mc 4 F]) (Q (Q (O [m 5 0, m 6 1, k 7 (f f_slices_Index_string_string) [(t 5), (t 6)], o 8 (.ar .geq (t 7) (i 0)), m 4 8]) (Y [4])) R))
def a_slices_Contains_string_string : AFn := ⟨c_slices_Contains_string_string, 9, [.t 4], .drop, [], none⟩
theorem q_slices_Contains_string_string : a_slices_Contains_string_string.res = [.t 4] ∧ a_slices_Contains_string_string.mode = .drop ∧ a_slices_Contains_string_string.dfr = none := ⟨rfl, rfl, rfl⟩
def l_morph_all_0 : AC :=
  (Q (O [bl 9 8 7]) (Q (C 9 X (.exit 0)) (Q (.block 1 (Q (O [m 10 8, m 5 10]) (Q (Q (O [m 11 1, m 12 0, m 13 5, o 14 (.ixs (t 12) (t 13)), k 15 (t 11) [(t 14)], no 16 15]) (Y [0, 1,
  7, 8, 16])) (C 16 (Q (O [mc 4 F]) R) X)))) (O [ad 17 8, m 8 17]))))
def c_morph_all : AC :=
  (Q (O [mc 4 F]) (Q (Q (O [m 6 0, lt 7 6, mc 8 (i 0)]) (Q (.block 0 (.loop ⟨(some [0, 1, 7, 8]), [], false⟩ l_morph_all_0)) (Y []))) (Q (O [mc 4 T]) R)))
def a_morph_all : AFn := ⟨c_morph_all, 18, [.t 4], .drop, [], none⟩
theorem q_morph_all : a_morph_all.res = [.t 4] ∧ a_morph_all.mode = .drop ∧ a_morph_all.dfr = none := ⟨rfl, rfl, rfl⟩
def c_morph_symbol : AC :=
  (Q (O [mc 2 F]) (Q (Q (O [m 3 0, k 4 (f f_morph_letter) [(t 3)], m 5 4, h 6 5 (.mv (t 0)), h 7 5 (.ar .eql (t 6) (u 43)), o 8 (.pk (t 5) T (t 7)), m 2 8]) (Y [2])) R))
def a_morph_symbol : AFn := ⟨c_morph_symbol, 9, [.t 2], .drop, [], none⟩
theorem q_morph_symbol : a_morph_symbol.res = [.t 2] ∧ a_morph_symbol.mode = .drop ∧ a_morph_symbol.dfr = none := ⟨rfl, rfl, rfl⟩
def l_morph_increasing_0 : AC :=
  (Q (Q (Q (O [m 4 3, m 5 0, ls 6 5, bl 7 4 6]) (Y [0, 3, 7])) (C 7 X (.exit 0))) (Q (.block 1 (Q (Q (D [P (m 10 0), P (m 11 3), P (o 12 (.ar .sub (t 11) (i 1))), P (ia 13 2 10 12), P
  (fa 14 0 13), W (ld 15 14), P (m 16 0), P (m 17 3), P (ia 18 2 16 17), P (fa 19 0 18), W (ld 20 19), P (o 21 (.ar .geq (t 15) (t 20)))]) (Y [0, 3, 21])) (C 21 (Q (O [mc 2 F]) R)
  X))) (O [m 8 3, ad 9 8, m 3 9])))
def c_morph_increasing : AC :=
  (Q (O [mc 2 F]) (Q (Q (O [mc 3 (i 1)]) (Q (.block 0 (.loop ⟨(some [0, 3]), [], false⟩ l_morph_increasing_0)) (Y []))) (Q (O [mc 2 T]) R)))
def a_morph_increasing : AFn := ⟨c_morph_increasing, 22, [.t 2], .drop, [], none⟩
theorem q_morph_increasing : a_morph_increasing.res = [.t 2] ∧ a_morph_increasing.mode = .drop ∧ a_morph_increasing.dfr = none := ⟨rfl, rfl, rfl⟩
def c_morph_clash : AC :=
  (Q (O [o 3 (.bx t_sl_api_Feat (t 1)), mc 4 F]) (Q (Q (O [m 5 0, o 6 (.mf (.func f_morph_clash_1) [] [(t 3)]), k 7 (f f_slices_ContainsFunc_api_Feat_api_Feat) [(t 5), (t 6)], m 4 7])
  (Y [4])) R))
def a_morph_clash : AFn := ⟨c_morph_clash, 8, [.t 4], .drop, [], none⟩
theorem q_morph_clash : a_morph_clash.res = [.t 4] ∧ a_morph_clash.mode = .drop ∧ a_morph_clash.dfr = none := ⟨rfl, rfl, rfl⟩
def c_morph_union : AC :=
  (Q (O [mc 4 (.c (.slice .nil 2 []))]) (Q (Q (O [m 6 0, m 7 1, o 8 (.bs 1 [(.slice .nil 0 [])] 2 [(0, (t 6)), (1, (t 7))]), k 9 (f f_slices_Concat_api_Feat_api_Feat) [(t 8)], m 5 9])
  (Y [5])) (Q (O [m 10 5, k 11 (f f_slices_SortFunc_api_Feat_api_Feat) [(t 10), (f f_morph_union_1)]]) (Q (O [m 12 5, k 13 (f f_slices_Compact_api_Feat_api_Feat) [(t 12)], m 4 13])
  R))))
def a_morph_union : AFn := ⟨c_morph_union, 14, [.t 4], .frz, [], none⟩
theorem q_morph_union : a_morph_union.res = [.t 4] ∧ a_morph_union.mode = .frz ∧ a_morph_union.dfr = none := ⟨rfl, rfl, rfl⟩
def c_morph_Name_1 : AC :=
  (Q (O [mc 2 F]) (Q (Q (O [m 3 0, k 4 (f f_morph_letter) [(t 3)], m 5 4, h 6 5 (.mv (t 0)), h 7 5 (.ar .geq (t 6) (u 65)), h 8 5 (.mv (t 7)), g 9 8 (.mv (t 0)), g 10 8 (.ar .leq (t
  9) (u 90)), h 11 5 (.pk (t 8) (t 10) F), o 12 (.pk (t 5) T (t 11)), m 2 12]) (Y [2])) R))
def a_morph_Name_1 : AFn := ⟨c_morph_Name_1, 13, [.t 2], .drop, [], none⟩
theorem q_morph_Name_1 : a_morph_Name_1.res = [.t 2] ∧ a_morph_Name_1.mode = .drop ∧ a_morph_Name_1.dfr = none := ⟨rfl, rfl, rfl⟩
def c_morph_letter : AC :=
  (Q (O [mc 2 F]) (Q (Q (O [m 3 0, o 4 (.ar .geq (t 3) (u 97)), m 5 4, g 6 5 (.mv (t 0)), g 7 5 (.ar .leq (t 6) (u 122)), o 8 (.pk (t 5) (t 7) F), m 2 8]) (Y [2])) R))
def a_morph_letter : AFn := ⟨c_morph_letter, 9, [.t 2], .drop, [], none⟩
theorem q_morph_letter : a_morph_letter.res = [.t 2] ∧ a_morph_letter.mode = .drop ∧ a_morph_letter.dfr = none := ⟨rfl, rfl, rfl⟩
def c_morph_Name_2 : AC :=
  (Q (O [mc 3 F]) (Q (Q (O [ld 4 1, m 5 0, k 6 (t 4) [(t 5)], m 7 6, h 8 7 (.mv (t 0)), h 9 7 (.ar .geq (t 8) (u 48)), h 10 7 (.mv (t 9)), g 11 10 (.mv (t 0)), g 12 10 (.ar .leq (t
  11) (u 57)), h 13 7 (.pk (t 10) (t 12) F), o 14 (.pk (t 7) T (t 13)), m 15 14, h 16 15 (.mv (t 0)), h 17 15 (.ar .eql (t 16) (u 95)), o 18 (.pk (t 15) T (t 17)), m 3 18]) (Y [3]))
  R))
def a_morph_Name_2 : AFn := ⟨c_morph_Name_2, 19, [.t 3], .drop, [], none⟩
theorem q_morph_Name_2 : a_morph_Name_2.res = [.t 3] ∧ a_morph_Name_2.mode = .drop ∧ a_morph_Name_2.dfr = none := ⟨rfl, rfl, rfl⟩
def c_morph_Word_1 : AC :=
  (Q (O [mc 2 F]) (Q (Q (O [m 3 0, o 4 (.ar .geq (t 3) (u 33)), m 5 4, g 6 5 (.mv (t 0)), g 7 5 (.ar .leq (t 6) (u 126)), o 8 (.pk (t 5) (t 7) F), m 2 8]) (Y [2])) R))
def a_morph_Word_1 : AFn := ⟨c_morph_Word_1, 9, [.t 2], .drop, [], none⟩
theorem q_morph_Word_1 : a_morph_Word_1.res = [.t 2] ∧ a_morph_Word_1.mode = .drop ∧ a_morph_Word_1.dfr = none := ⟨rfl, rfl, rfl⟩
def c_slices_ContainsFunc_api_Feat_api_Feat : AC :=
  (Q (O [mc 4 F]) (Q (Q (O [m 5 0, m 6 1, k 7 (f f_slices_IndexFunc_api_Feat_api_Feat) [(t 5), (t 6)], o 8 (.ar .geq (t 7) (i 0)), m 4 8]) (Y [4])) R))
def a_slices_ContainsFunc_api_Feat_api_Feat : AFn := ⟨c_slices_ContainsFunc_api_Feat_api_Feat, 9, [.t 4], .drop, [], none⟩
theorem q_slices_ContainsFunc_api_Feat_api_Feat : a_slices_ContainsFunc_api_Feat_api_Feat.res = [.t 4] ∧ a_slices_ContainsFunc_api_Feat_api_Feat.mode = .drop ∧ a_slices_ContainsFunc_api_Feat_api_Feat.dfr = none := ⟨rfl, rfl, rfl⟩
def c_morph_Subsumes_1 : AC :=
  (Q (O [o 2 (.bx t_api_Feat (t 0)), mc 3 F]) (Q (Q (O [ld 4 1, la 5 2 2, k 6 (f f_slices_Contains_api_Feat_api_Feat) [(t 4), (t 5)], no 7 6, m 3 7]) (Y [3])) R))
def a_morph_Subsumes_1 : AFn := ⟨c_morph_Subsumes_1, 8, [.t 3], .drop, [], none⟩
theorem q_morph_Subsumes_1 : a_morph_Subsumes_1.res = [.t 3] ∧ a_morph_Subsumes_1.mode = .drop ∧ a_morph_Subsumes_1.dfr = none := ⟨rfl, rfl, rfl⟩
def c_slices_Contains_api_Feat_api_Feat : AC :=
  (Q (O [o 3 (.bx t_api_Feat (t 1)), mc 4 F]) (Q (Q (O [m 5 0, la 6 2 3, k 7 (f f_slices_Index_api_Feat_api_Feat) [(t 5), (t 6)], o 8 (.ar .geq (t 7) (i 0)), m 4 8]) (Y [4])) R))
def a_slices_Contains_api_Feat_api_Feat : AFn := ⟨c_slices_Contains_api_Feat_api_Feat, 9, [.t 4], .drop, [], none⟩
theorem q_slices_Contains_api_Feat_api_Feat : a_slices_Contains_api_Feat_api_Feat.res = [.t 4] ∧ a_slices_Contains_api_Feat_api_Feat.mode = .drop ∧ a_slices_Contains_api_Feat_api_Feat.dfr = none := ⟨rfl, rfl, rfl⟩
def l_truchmanref02_Check_0 : AC :=
  (Q (Q (Q (O [m 16 3, fa 17 0 1, ld 18 17, lt 19 18, bl 20 16 19]) (Y [1, 3, 20])) (C 20 X (.exit 0))) (Q (.block 1 (Q (Q (D [P (fa 23 0 1), W (ld 24 23), P (m 25 3), P (o 26 (.ar
  .sub (t 25) (i 1))), P (o 27 (.ixs (t 24) (t 26))), P (fa 28 0 1), W (ld 29 28), P (m 30 3), P (o 31 (.ixs (t 29) (t 30))), P (o 32 (.ar .geq (t 27) (t 31)))]) (Y [1, 3, 32])) (C 32
  (Q (O [mc 2 (u 1)]) R) X))) (O [m 21 3, ad 22 21, m 3 22])))
def l_truchmanref02_Check_1 : AC :=
  (Q (Q (Q (O [m 52 7, fa 53 4 1, ld 54 53, ls 55 54, bl 56 52 55]) (Y [1, 7, 56])) (C 56 X (.exit 2))) (Q (.block 3 (Q (Q (O [fa 59 4 1, ld 60 59, m 61 7, ia 62 4 60 61, la 63 4 62,
  o 8 (.nw [(.str []), (.str []), (.str []), (.str [])] t_api_Spell), n (.st 4 (t 8) (t 63))]) (Y [1, 7, 8])) (Q (Q (Q (O [fa 64 0 8, ld 65 64, o 66 (.ar .eql (t 65) (s [])), m 67 66,
  h 68 67 (.fa 0 (t 8)), h 69 67 (.ld none (t 68)), ⟨(some 70), (some (67, false)), (.call (.c (.fn (.func f_truchmanref02_of) [] [])) [(.t 69), (.c (.str [43]))])⟩, h 71 67 (.un .not
  (t 70)), o 72 (.pk (t 67) T (t 71)), m 73 72, h 74 73 (.fa 1 (t 8)), h 75 73 (.ld none (t 74)), ⟨(some 76), (some (73, false)), (.call (.c (.fn (.func f_truchmanref02_of) [] []))
  [(.t 75), (.c (.str [43]))])⟩, h 77 73 (.un .not (t 76)), o 78 (.pk (t 73) T (t 77)), m 79 78, h 80 79 (.fa 2 (t 8)), h 81 79 (.ld none (t 80)), ⟨(some 82), (some (79, false)),
  (.call (.c (.fn (.func f_truchmanref02_of) [] [])) [(.t 81), (.c (.str [43, 35, 86, 67]))])⟩, h 83 79 (.un .not (t 82)), o 84 (.pk (t 79) T (t 83)), m 85 84, h 86 85 (.fa 3 (t 8)),
  h 87 85 (.ld none (t 86)), ⟨(some 88), (some (85, false)), (.call (.c (.fn (.func f_truchmanref02_of) [] [])) [(.t 87), (.c (.str [43, 35, 86, 67]))])⟩, h 89 85 (.un .not (t 88)), o
  90 (.pk (t 85) T (t 89))]) (Y [1, 7, 8, 90])) (C 90 (Q (O [mc 2 (u 1)]) R) X)) (Q (Q (O [fa 91 0 8, ld 92 91, lt 93 92, o 94 (.ar .gtr (t 93) (i 6)), m 95 94, h 96 95 (.fa 1 (t 8)),
  h 97 95 (.ld none (t 96)), h 98 95 (.len .str (t 97)), h 99 95 (.ar .gtr (t 98) (i 6)), o 100 (.pk (t 95) T (t 99)), m 101 100, h 102 101 (.fa 2 (t 8)), h 103 101 (.ld none (t
  102)), h 104 101 (.len .str (t 103)), h 105 101 (.ar .gtr (t 104) (i 6)), o 106 (.pk (t 101) T (t 105)), m 107 106, h 108 107 (.fa 3 (t 8)), h 109 107 (.ld none (t 108)), h 110 107
  (.len .str (t 109)), h 111 107 (.ar .gtr (t 110) (i 6)), o 112 (.pk (t 107) T (t 111))]) (Y [1, 7, 112])) (C 112 (Q (O [mc 2 (u 1)]) R) X))))) (O [m 57 7, ad 58 57, m 7 58])))
def l_truchmanref02_Check_2 : AC :=
  (Q (Q (Q (O [m 117 9, fa 118 5 1, ld 119 118, ls 120 119, bl 121 117 120]) (Y [1, 9, 121])) (C 121 X (.exit 4))) (Q (.block 5 (Q (Q (O [fa 124 5 1, ld 125 124, m 126 9, ia 127 3 125
  126, la 128 3 127, o 10 (.nw [(.str []), (.str []), (.slice .nil 2 [])] t_api_Link), n (.st 3 (t 10) (t 128))]) (Y [1, 9, 10])) (Q (Q (Q (O [la 129 6 1, fa 130 0 10, ld 131 130, k
  132 (f f_truchmanref02_Class) [(t 129), (t 131)], o 133 (.ar .lss (t 132) (i 0))]) (Y [1, 9, 10, 133])) (C 133 (Q (O [mc 2 (u 5)]) R) X)) (Q (Q (Q (O [fa 134 1 10, ld 135 134, k 136
  (f f_truchmanref02_of) [(t 135), (s [])], no 137 136, m 138 137, h 139 138 (.fa 1 (t 10)), h 140 138 (.ld none (t 139)), h 141 138 (.len .str (t 140)), h 142 138 (.ar .gtr (t 141)
  (i 6)), o 143 (.pk (t 138) T (t 142))]) (Y [1, 9, 10, 143])) (C 143 (Q (O [mc 2 (u 1)]) R) X)) (Q (Q (O [la 144 6 1, fa 145 2 10, ld 146 145, k 147 (f f_truchmanref02_bundle) [(t
  144), (t 146)], m 11 147]) (Y [1, 9, 11])) (Q (O [m 148 11, o 149 (.ar .neq (t 148) (u 0))]) (C 149 (Q (O [m 150 11, m 2 150]) R) X))))))) (O [m 122 9, ad 123 122, m 9 123])))
def c_truchmanref02_Check : AC :=
  (Q (O [o 1 (.bx t_api_Lexicon (t 0)), mc 2 (u 0)]) (Q (Q (Q (O [fa 12 0 1, ld 13 12, k 14 (f f_truchmanref02_of) [(t 13), (s [])], no 15 14]) (Y [1, 15])) (C 15 (Q (O [mc 2 (u 1)])
  R) X)) (Q (Q (O [mc 3 (i 1)]) (Q (.block 0 (.loop ⟨(some [1, 3]), [], false⟩ l_truchmanref02_Check_0)) (Y [1]))) (Q (Q (O [la 33 6 1, k 34 (f f_truchmanref02_traits) [(t 33)], m 4
  34]) (Q (O [m 35 4, o 36 (.ar .neq (t 35) (u 0))]) (C 36 (Q (O [m 37 4, m 2 37]) R) X))) (Q (Q (O [la 38 6 1, k 39 (f f_truchmanref02_classes) [(t 38)], m 5 39]) (Q (O [m 40 5, o 41
  (.ar .neq (t 40) (u 0))]) (C 41 (Q (O [m 42 5, m 2 42]) R) X))) (Q (Q (O [la 43 6 1, k 44 (f f_truchmanref02_entries) [(t 43)], m 6 44]) (Q (O [m 45 6, o 46 (.ar .neq (t 45) (u
  0))]) (C 46 (Q (O [m 47 6, m 2 47]) R) X))) (Q (Q (Q (O [fa 48 4 1, ld 49 48, ls 50 49, o 51 (.ar .gtr (t 50) (i 16))]) (Y [1, 51])) (C 51 (Q (O [mc 2 (u 3)]) R) X)) (Q (Q (O [mc 7
  (i 0)]) (Q (.block 2 (.loop ⟨(some [1, 7]), [], true⟩ l_truchmanref02_Check_1)) (Y [1]))) (Q (Q (Q (O [fa 113 5 1, ld 114 113, ls 115 114, o 116 (.ar .gtr (t 115) (i 8))]) (Y [1,
  116])) (C 116 (Q (O [mc 2 (u 3)]) R) X)) (Q (Q (O [mc 9 (i 0)]) (Q (.block 4 (.loop ⟨(some [1, 9]), [], true⟩ l_truchmanref02_Check_2)) (Y []))) (Q (O [mc 2 (u 0)]) R)))))))))))
def a_truchmanref02_Check : AFn := ⟨c_truchmanref02_Check, 151, [.t 2], .drop, [], none⟩
theorem q_truchmanref02_Check : a_truchmanref02_Check.res = [.t 2] ∧ a_truchmanref02_Check.mode = .drop ∧ a_truchmanref02_Check.dfr = none := ⟨rfl, rfl, rfl⟩
def l_morph_first_0 : AC :=
  (Q (O [bl 9 8 7]) (Q (C 9 X (.exit 0)) (Q (.block 1 (Q (O [ia 10 1 6 8, ld 11 10, m 4 11]) (Q (O [m 12 4, k 13 (t 12) [], m 5 13]) (Q (O [m 14 5, o 15 (.ar .neq (t 14) (u 0))]) (C
  15 (Q (O [m 16 5, m 2 16]) R) X))))) (O [ad 17 8, m 8 17]))))
def c_morph_first : AC :=
  (Q (O [mc 2 (u 0)]) (Q (Q (O [m 6 0, ls 7 6, mc 8 (i 0)]) (Q (.block 0 (.loop ⟨(some [6, 7, 8]), [], false⟩ l_morph_first_0)) (Y []))) (Q (O [mc 2 (u 0)]) R)))
def a_morph_first : AFn := ⟨c_morph_first, 18, [.t 2], .drop, [], none⟩
theorem q_morph_first : a_morph_first.res = [.t 2] ∧ a_morph_first.mode = .drop ∧ a_morph_first.dfr = none := ⟨rfl, rfl, rfl⟩
def l_morph_checker_vowels_0 : AC :=
  (Q (O [bl 11 10 9]) (Q (C 11 X (.exit 0)) (Q (.block 1 (Q (O [m 12 10, m 4 12]) (Q (Q (D [P (m 13 3), P (m 14 4), P (o 15 (.ixs (t 13) (t 14))), E (k 16 (f f_morph_letter) [(t
  15)]), P (no 17 16), P (m 18 17), P (h 19 18 (.mv (t 4))), P (h 20 18 (.ar .gtr (t 19) (i 0))), P (h 21 18 (.mv (t 20))), P (g 22 21 (.mv (t 3))), P (g 23 21 (.mv (t 4))), P (g 24
  21 (.ar .sub (t 23) (i 1))), P (g 25 21 (.ixs (t 22) (t 24))), P (g 26 21 (.mv (t 3))), P (g 27 21 (.mv (t 4))), P (g 28 21 (.ixs (t 26) (t 27))), P (g 29 21 (.ar .geq (t 25) (t
  28))), P (h 30 18 (.pk (t 21) (t 29) F)), P (o 31 (.pk (t 18) T (t 30)))]) (Y [3, 9, 10, 31])) (C 31 (Q (O [mc 2 (u 1)]) R) X)))) (O [ad 32 10, m 10 32]))))
def c_morph_checker_vowels : AC :=
  (Q (O [o 1 (.bx t_morph_checker (t 0)), mc 2 (u 0)]) (Q (Q (O [fa 5 0 1, fa 6 0 5, ld 7 6, m 3 7]) (Y [3])) (Q (Q (O [m 8 3, lt 9 8, mc 10 (i 0)]) (Q (.block 0 (.loop ⟨(some [3, 9,
  10]), [], false⟩ l_morph_checker_vowels_0)) (Y []))) (Q (O [mc 2 (u 0)]) R))))
def a_morph_checker_vowels : AFn := ⟨c_morph_checker_vowels, 33, [.t 2], .drop, [], none⟩
theorem q_morph_checker_vowels : a_morph_checker_vowels.res = [.t 2] ∧ a_morph_checker_vowels.mode = .drop ∧ a_morph_checker_vowels.dfr = none := ⟨rfl, rfl, rfl⟩
def c_morph_Check_1 : AC :=
  (Q (O [mc 2 (u 0)]) (Q (Q (O [fa 3 1 0, ld 4 3, la 5 6 1, o 6 (.mf (.func f_morph_checker_trait) [(t 5)] []), k 7 (f f_morph_each_api_Trait) [(t 4), (i 8), (t 6)], m 2 7]) (Y [2]))
  R))
def a_morph_Check_1 : AFn := ⟨c_morph_Check_1, 8, [.t 2], .drop, [], none⟩
theorem q_morph_Check_1 : a_morph_Check_1.res = [.t 2] ∧ a_morph_Check_1.mode = .drop ∧ a_morph_Check_1.dfr = none := ⟨rfl, rfl, rfl⟩
def l_morph_each_api_Trait_0 : AC :=
  (Q (O [bl 17 16 15]) (Q (C 17 X (.exit 0)) (Q (.block 1 (Q (Q (O [m 18 16, ia 19 2 14 16, la 20 2 19, o 8 (.nw [(.str []), (.slice .nil 1 [])] t_api_Trait), m 7 18, n (.st 2 (t 8)
  (t 20))]) (Y [2, 7, 8, 14, 15, 16])) (Q (Q (O [m 21 2, m 22 7, la 23 2 8, k 24 (t 21) [(t 22), (t 23)], m 9 24]) (Y [2, 9, 14, 15, 16])) (Q (O [m 25 9, o 26 (.ar .neq (t 25) (u
  0))]) (C 26 (Q (O [m 27 9, m 6 27]) R) X))))) (O [ad 28 16, m 16 28]))))
def c_morph_each_api_Trait : AC :=
  (Q (O [mc 6 (u 0)]) (Q (Q (Q (O [m 10 0, ls 11 10, m 12 1, o 13 (.ar .gtr (t 11) (t 12))]) (Y [0, 2, 13])) (C 13 (Q (O [mc 6 (u 3)]) R) X)) (Q (Q (O [m 14 0, ls 15 14, mc 16 (i 0)])
  (Q (.block 0 (.loop ⟨(some [2, 14, 15, 16]), [], true⟩ l_morph_each_api_Trait_0)) (Y []))) (Q (O [mc 6 (u 0)]) R))))
def a_morph_each_api_Trait : AFn := ⟨c_morph_each_api_Trait, 29, [.t 6], .drop, [], none⟩
theorem q_morph_each_api_Trait : a_morph_each_api_Trait.res = [.t 6] ∧ a_morph_each_api_Trait.mode = .drop ∧ a_morph_each_api_Trait.dfr = none := ⟨rfl, rfl, rfl⟩
def l_morph_checker_trait_0 : AC :=
  (Q (O [bl 36 35 34]) (Q (C 36 X (.exit 1)) (Q (.block 2 (Q (Q (O [m 37 35, ia 38 1 33 35, ld 39 38, m 7 37, m 8 39]) (Y [5, 7, 8, 33, 34, 35])) (Q (Q (O [m 40 8, k 41 (f
  f_morph_Name) [(t 40)], no 42 41]) (C 42 (Q (O [mc 6 (u 5)]) R) X)) (Q (Q (O [fa 43 1 5, ld 44 43, m 45 7, o 46 (.sll 1 (t 44) none (some (t 45)) none), m 47 8, k 48 (f
  f_slices_Contains_string_string) [(t 46), (t 47)]]) (Y [5, 33, 34, 35, 48])) (C 48 (Q (O [mc 6 (u 6)]) R) X))))) (O [ad 49 35, m 35 49]))))
def c_morph_checker_trait : AC :=
  (Q (O [o 3 (.bx t_morph_checker (t 0)), o 5 (.bx t_api_Trait (t 2)), mc 6 (u 0)]) (Q (.block 0 (Q (Q (O [fa 10 0 5, ld 11 10, k 12 (f f_morph_Name) [(t 11)], no 13 12, m 9 13]) (Y
  [1, 3, 5, 9])) (C 9 (Q (O [mc 6 (u 5)]) R) (Q (Q (O [fa 15 0 3, fa 16 1 15, ld 17 16, m 18 1, o 19 (.sll 2 (t 17) none (some (t 18)) none), o 20 (.mf (.func f_morph_checker_trait_1)
  [] [(t 5)]), k 21 (f f_slices_ContainsFunc_api_Trait_api_Trait) [(t 19), (t 20)], m 14 21]) (Y [5, 14])) (C 14 (Q (O [mc 6 (u 6)]) R) (Q (Q (O [fa 23 1 5, ld 24 23, ls 25 24, o 26
  (.ar .gtr (t 25) (i 8)), m 22 26]) (Y [5, 22])) (C 22 (Q (O [mc 6 (u 3)]) R) (Q (Q (O [fa 28 1 5, ld 29 28, ls 30 29, o 31 (.ar .eql (t 30) (i 0)), m 27 31]) (Y [5, 27])) (C 27 (Q
  (O [mc 6 (u 1)]) R) X))))))))) (Q (Q (Q (O [fa 32 1 5, ld 33 32, ls 34 33, mc 35 (i 0)]) (Y [5, 33, 34, 35])) (Q (.block 1 (.loop ⟨(some [5, 33, 34, 35]), [], false⟩
  l_morph_checker_trait_0)) (Y []))) (Q (O [mc 6 (u 0)]) R))))
def a_morph_checker_trait : AFn := ⟨c_morph_checker_trait, 50, [.t 6], .drop, [], none⟩
theorem q_morph_checker_trait : a_morph_checker_trait.res = [.t 6] ∧ a_morph_checker_trait.mode = .drop ∧ a_morph_checker_trait.dfr = none := ⟨rfl, rfl, rfl⟩
def c_morph_Check_2 : AC :=
  (Q (O [mc 2 (u 0)]) (Q (Q (O [fa 3 2 0, ld 4 3, la 5 6 1, o 6 (.mf (.func f_morph_checker_class) [(t 5)] []), k 7 (f f_morph_each_api_Class) [(t 4), (i 16), (t 6)], m 2 7]) (Y [2]))
  R))
def a_morph_Check_2 : AFn := ⟨c_morph_Check_2, 8, [.t 2], .drop, [], none⟩
theorem q_morph_Check_2 : a_morph_Check_2.res = [.t 2] ∧ a_morph_Check_2.mode = .drop ∧ a_morph_Check_2.dfr = none := ⟨rfl, rfl, rfl⟩
def l_morph_each_api_Class_0 : AC :=
  (Q (O [bl 17 16 15]) (Q (C 17 X (.exit 0)) (Q (.block 1 (Q (Q (O [m 18 16, ia 19 2 14 16, la 20 2 19, o 8 (.nw [(.str []), (.slice .nil 4 [])] t_api_Class), m 7 18, n (.st 2 (t 8)
  (t 20))]) (Y [2, 7, 8, 14, 15, 16])) (Q (Q (O [m 21 2, m 22 7, la 23 2 8, k 24 (t 21) [(t 22), (t 23)], m 9 24]) (Y [2, 9, 14, 15, 16])) (Q (O [m 25 9, o 26 (.ar .neq (t 25) (u
  0))]) (C 26 (Q (O [m 27 9, m 6 27]) R) X))))) (O [ad 28 16, m 16 28]))))
def c_morph_each_api_Class : AC :=
  (Q (O [mc 6 (u 0)]) (Q (Q (Q (O [m 10 0, ls 11 10, m 12 1, o 13 (.ar .gtr (t 11) (t 12))]) (Y [0, 2, 13])) (C 13 (Q (O [mc 6 (u 3)]) R) X)) (Q (Q (O [m 14 0, ls 15 14, mc 16 (i 0)])
  (Q (.block 0 (.loop ⟨(some [2, 14, 15, 16]), [], true⟩ l_morph_each_api_Class_0)) (Y []))) (Q (O [mc 6 (u 0)]) R))))
def a_morph_each_api_Class : AFn := ⟨c_morph_each_api_Class, 29, [.t 6], .drop, [], none⟩
theorem q_morph_each_api_Class : a_morph_each_api_Class.res = [.t 6] ∧ a_morph_each_api_Class.mode = .drop ∧ a_morph_each_api_Class.dfr = none := ⟨rfl, rfl, rfl⟩
def c_morph_checker_class : AC :=
  (Q (O [o 3 (.bx t_morph_checker (t 0)), o 5 (.bx t_api_Class (t 2)), mc 6 (u 0)]) (Q (.block 0 (Q (Q (O [fa 8 0 5, ld 9 8, k 10 (f f_morph_Name) [(t 9)], no 11 10, m 7 11]) (Y [1,
  3, 5, 7])) (C 7 (Q (O [mc 6 (u 5)]) R) (Q (Q (O [fa 13 0 3, fa 14 2 13, ld 15 14, m 16 1, o 17 (.sll 2 (t 15) none (some (t 16)) none), o 18 (.mf (.func f_morph_checker_class_1) []
  [(t 5)]), k 19 (f f_slices_ContainsFunc_api_Class_api_Class) [(t 17), (t 18)], m 12 19]) (Y [3, 5, 12])) (C 12 (Q (O [mc 6 (u 6)]) R) (Q (Q (O [fa 21 1 5, ld 22 21, ls 23 22, o 24
  (.ar .gtr (t 23) (i 24)), m 20 24]) (Y [3, 5, 20])) (C 20 (Q (O [mc 6 (u 3)]) R) (Q (Q (O [fa 26 1 5, ld 27 26, ls 28 27, o 29 (.ar .eql (t 28) (i 0)), m 25 29]) (Y [3, 5, 25])) (C
  25 (Q (O [mc 6 (u 1)]) R) X))))))))) (Q (Q (O [fa 30 1 5, ld 31 30, o 32 (.mf (.func f_morph_checker_class_2) [] [(t 3)]), k 33 (f f_morph_each_api_Slot) [(t 31), (i 24), (t 32)], m
  6 33]) (Y [6])) R)))
def a_morph_checker_class : AFn := ⟨c_morph_checker_class, 34, [.t 6], .drop, [], none⟩
theorem q_morph_checker_class : a_morph_checker_class.res = [.t 6] ∧ a_morph_checker_class.mode = .drop ∧ a_morph_checker_class.dfr = none := ⟨rfl, rfl, rfl⟩
def c_morph_Check_3 : AC :=
  (Q (O [mc 2 (u 0)]) (Q (Q (O [fa 3 3 0, ld 4 3, la 5 6 1, o 6 (.mf (.func f_morph_checker_entry) [(t 5)] []), k 7 (f f_morph_each_api_Entry) [(t 4), (i 128), (t 6)], m 2 7]) (Y
  [2])) R))
def a_morph_Check_3 : AFn := ⟨c_morph_Check_3, 8, [.t 2], .drop, [], none⟩
theorem q_morph_Check_3 : a_morph_Check_3.res = [.t 2] ∧ a_morph_Check_3.mode = .drop ∧ a_morph_Check_3.dfr = none := ⟨rfl, rfl, rfl⟩
def l_morph_each_api_Entry_0 : AC :=
  (Q (O [bl 17 16 15]) (Q (C 17 X (.exit 0)) (Q (.block 1 (Q (Q (O [m 18 16, ia 19 4 14 16, la 20 4 19, o 8 (.nw [(.str []), (.str []), (.slice .nil 2 []), (.slice .nil 2 [])]
  t_api_Entry), m 7 18, n (.st 4 (t 8) (t 20))]) (Y [2, 7, 8, 14, 15, 16])) (Q (Q (O [m 21 2, m 22 7, la 23 4 8, k 24 (t 21) [(t 22), (t 23)], m 9 24]) (Y [2, 9, 14, 15, 16])) (Q (O
  [m 25 9, o 26 (.ar .neq (t 25) (u 0))]) (C 26 (Q (O [m 27 9, m 6 27]) R) X))))) (O [ad 28 16, m 16 28]))))
def c_morph_each_api_Entry : AC :=
  (Q (O [mc 6 (u 0)]) (Q (Q (Q (O [m 10 0, ls 11 10, m 12 1, o 13 (.ar .gtr (t 11) (t 12))]) (Y [0, 2, 13])) (C 13 (Q (O [mc 6 (u 3)]) R) X)) (Q (Q (O [m 14 0, ls 15 14, mc 16 (i 0)])
  (Q (.block 0 (.loop ⟨(some [2, 14, 15, 16]), [], true⟩ l_morph_each_api_Entry_0)) (Y []))) (Q (O [mc 6 (u 0)]) R))))
def a_morph_each_api_Entry : AFn := ⟨c_morph_each_api_Entry, 29, [.t 6], .drop, [], none⟩
theorem q_morph_each_api_Entry : a_morph_each_api_Entry.res = [.t 6] ∧ a_morph_each_api_Entry.mode = .drop ∧ a_morph_each_api_Entry.dfr = none := ⟨rfl, rfl, rfl⟩
def l_morph_checker_entry_0 : AC :=
  (Q (O [bl 51 50 49]) (Q (C 51 X (.exit 1)) (Q (.block 2 (Q (Q (O [m 52 50, ia 53 2 48 50, la 54 2 53, o 11 (.nw [(.int .i64 0), (.str [])] t_api_Irregular), m 10 52, n (.st 2 (t 11)
  (t 54))]) (Y [5, 7, 10, 11, 48, 49, 50])) (.block 3 (Q (Q (O [fa 56 0 11, ld 57 56, o 58 (.ar .lss (t 57) (i 0)), m 59 58, h 60 59 (.fa 0 (t 11)), h 61 59 (.ld none (t 60)), h 62 59
  (.fa 1 (t 7)), h 63 59 (.ld none (t 62)), h 64 59 (.len .sl (t 63)), h 65 59 (.ar .geq (t 61) (t 64)), o 66 (.pk (t 59) T (t 65)), m 55 66]) (Y [5, 7, 10, 11, 48, 49, 50, 55])) (C
  55 (Q (O [mc 6 (u 7)]) R) (Q (Q (O [fa 68 3 5, ld 69 68, m 70 10, o 71 (.sll 2 (t 69) none (some (t 70)) none), o 72 (.mf (.func f_morph_checker_entry_3) [] [(t 11)]), k 73 (f
  f_slices_ContainsFunc_api_Irregular_api_Irregular) [(t 71), (t 72)], m 67 73]) (Y [5, 7, 11, 48, 49, 50, 67])) (C 67 (Q (O [mc 6 (u 6)]) R) (Q (Q (O [fa 75 1 11, ld 76 75, o 77 (.ar
  .neq (t 76) (s [])), m 78 77, g 79 78 (.fa 1 (t 11)), g 80 78 (.ld none (t 79)), ⟨(some 81), (some (78, true)), (.call (.c (.fn (.func f_morph_Plain) [] [])) [(.t 80)])⟩, g 82 78
  (.un .not (t 81)), o 83 (.pk (t 78) (t 82) F), m 74 83]) (Y [5, 7, 48, 49, 50, 74])) (C 74 (Q (O [mc 6 (u 1)]) R) X))))))))) (O [ad 84 50, m 50 84]))))
def c_morph_checker_entry : AC :=
  (Q (O [o 3 (.bx t_morph_checker (t 0)), o 5 (.bx t_api_Entry (t 2)), mc 6 (u 0)]) (Q (Q (O [fa 13 0 3, la 14 6 13, fa 15 1 5, ld 16 15, k 17 (f f_morph_classOf) [(t 14), (t 16)], m
  12 17, ex 18 12 0, ex 19 12 1, o 7 (.nw [(.str []), (.slice .nil 4 [])] t_api_Class), n (.st 2 (t 7) (t 18)), m 8 19]) (Y [1, 3, 5, 7, 8])) (Q (.block 0 (Q (Q (O [fa 21 0 5, ld 22
  21, k 23 (f f_morph_Plain) [(t 22)], no 24 23, m 20 24]) (Y [1, 3, 5, 7, 8, 20])) (C 20 (Q (O [mc 6 (u 1)]) R) (Q (O [m 26 8, no 27 26, m 25 27]) (C 25 (Q (O [mc 6 (u 5)]) R) (Q (Q
  (O [fa 29 0 3, fa 30 3 29, ld 31 30, m 32 1, o 33 (.sll 4 (t 31) none (some (t 32)) none), o 34 (.mf (.func f_morph_checker_entry_1) [] [(t 5)]), k 35 (f
  f_slices_ContainsFunc_api_Entry_api_Entry) [(t 33), (t 34)], m 28 35]) (Y [3, 5, 7, 28])) (C 28 (Q (O [mc 6 (u 6)]) R) X))))))) (Q (Q (Q (O [la 36 6 3, fa 37 2 5, ld 38 37, k 39 (f
  f_morph_checker_bundle) [(t 36), (t 38)], m 9 39]) (Y [5, 7, 9])) (Q (O [m 40 9, o 41 (.ar .neq (t 40) (u 0))]) (C 41 (Q (O [m 42 9, m 6 42]) R) X))) (Q (Q (Q (O [fa 43 1 7, ld 44
  43, o 45 (.mf (.func f_morph_checker_entry_2) [] [(t 5)]), k 46 (f f_slices_ContainsFunc_api_Slot_api_Slot) [(t 44), (t 45)]]) (Y [5, 7, 46])) (C 46 (Q (O [mc 6 (u 10)]) R) X)) (Q
  (Q (Q (O [fa 47 3 5, ld 48 47, ls 49 48, mc 50 (i 0)]) (Y [5, 7, 48, 49, 50])) (Q (.block 1 (.loop ⟨(some [5, 7, 48, 49, 50]), [], true⟩ l_morph_checker_entry_0)) (Y []))) (Q (O [mc
  6 (u 0)]) R)))))))
def a_morph_checker_entry : AFn := ⟨c_morph_checker_entry, 85, [.t 6], .drop, [], none⟩
theorem q_morph_checker_entry : a_morph_checker_entry.res = [.t 6] ∧ a_morph_checker_entry.mode = .drop ∧ a_morph_checker_entry.dfr = none := ⟨rfl, rfl, rfl⟩
def c_morph_Check_4 : AC :=
  (Q (O [mc 2 (u 0)]) (Q (Q (O [fa 3 4 0, ld 4 3, la 5 6 1, o 6 (.mf (.func f_morph_checker_spell) [(t 5)] []), k 7 (f f_morph_each_api_Spell) [(t 4), (i 16), (t 6)], m 2 7]) (Y [2]))
  R))
def a_morph_Check_4 : AFn := ⟨c_morph_Check_4, 8, [.t 2], .drop, [], none⟩
theorem q_morph_Check_4 : a_morph_Check_4.res = [.t 2] ∧ a_morph_Check_4.mode = .drop ∧ a_morph_Check_4.dfr = none := ⟨rfl, rfl, rfl⟩
def l_morph_each_api_Spell_0 : AC :=
  (Q (O [bl 17 16 15]) (Q (C 17 X (.exit 0)) (Q (.block 1 (Q (Q (O [m 18 16, ia 19 4 14 16, la 20 4 19, o 8 (.nw [(.str []), (.str []), (.str []), (.str [])] t_api_Spell), m 7 18, n
  (.st 4 (t 8) (t 20))]) (Y [2, 7, 8, 14, 15, 16])) (Q (Q (O [m 21 2, m 22 7, la 23 4 8, k 24 (t 21) [(t 22), (t 23)], m 9 24]) (Y [2, 9, 14, 15, 16])) (Q (O [m 25 9, o 26 (.ar .neq
  (t 25) (u 0))]) (C 26 (Q (O [m 27 9, m 6 27]) R) X))))) (O [ad 28 16, m 16 28]))))
def c_morph_each_api_Spell : AC :=
  (Q (O [mc 6 (u 0)]) (Q (Q (Q (O [m 10 0, ls 11 10, m 12 1, o 13 (.ar .gtr (t 11) (t 12))]) (Y [0, 2, 13])) (C 13 (Q (O [mc 6 (u 3)]) R) X)) (Q (Q (O [m 14 0, ls 15 14, mc 16 (i 0)])
  (Q (.block 0 (.loop ⟨(some [2, 14, 15, 16]), [], true⟩ l_morph_each_api_Spell_0)) (Y []))) (Q (O [mc 6 (u 0)]) R))))
def a_morph_each_api_Spell : AFn := ⟨c_morph_each_api_Spell, 29, [.t 6], .drop, [], none⟩
theorem q_morph_each_api_Spell : a_morph_each_api_Spell.res = [.t 6] ∧ a_morph_each_api_Spell.mode = .drop ∧ a_morph_each_api_Spell.dfr = none := ⟨rfl, rfl, rfl⟩
def c_morph_checker_spell : AC :=
  (Q (O [o 3 (.bx t_morph_checker (t 0)), o 5 (.bx t_api_Spell (t 2)), mc 6 (u 0)]) (Q (Q (Q (O [fa 7 0 5, ld 8 7, o 9 (.ar .eql (t 8) (s [])), m 10 9, h 11 10 (.fa 0 (t 5)), h 12 10
  (.ld none (t 11)), ⟨(some 13), (some (10, false)), (.call (.c (.fn (.func f_morph_short) [] [])) [(.t 12), (.c (.fn (.func f_morph_symbol) [] []))])⟩, h 14 10 (.un .not (t 13)), o
  15 (.pk (t 10) T (t 14)), m 16 15, h 17 16 (.fa 1 (t 5)), h 18 16 (.ld none (t 17)), ⟨(some 19), (some (16, false)), (.call (.c (.fn (.func f_morph_short) [] [])) [(.t 18), (.c (.fn
  (.func f_morph_symbol) [] []))])⟩, h 20 16 (.un .not (t 19)), o 21 (.pk (t 16) T (t 20)), m 22 21, h 23 22 (.fa 2 (t 5)), h 24 22 (.ld none (t 23)), ⟨(some 25), (some (22, false)),
  (.call (.c (.fn (.func f_morph_short) [] [])) [(.t 24), (.c (.fn (.func f_morph_around) [] []))])⟩, h 26 22 (.un .not (t 25)), o 27 (.pk (t 22) T (t 26)), m 28 27, h 29 28 (.fa 3 (t
  5)), h 30 28 (.ld none (t 29)), ⟨(some 31), (some (28, false)), (.call (.c (.fn (.func f_morph_short) [] [])) [(.t 30), (.c (.fn (.func f_morph_around) [] []))])⟩, h 32 28 (.un .not
  (t 31)), o 33 (.pk (t 28) T (t 32))]) (Y [33])) (C 33 (Q (O [mc 6 (u 1)]) R) X)) (Q (O [mc 6 (u 0)]) R)))
def a_morph_checker_spell : AFn := ⟨c_morph_checker_spell, 34, [.t 6], .drop, [], none⟩
theorem q_morph_checker_spell : a_morph_checker_spell.res = [.t 6] ∧ a_morph_checker_spell.mode = .drop ∧ a_morph_checker_spell.dfr = none := ⟨rfl, rfl, rfl⟩
def c_morph_Check_5 : AC :=
  (Q (O [mc 2 (u 0)]) (Q (Q (O [fa 3 5 0, ld 4 3, la 5 6 1, o 6 (.mf (.func f_morph_checker_link) [(t 5)] []), k 7 (f f_morph_each_api_Link) [(t 4), (i 8), (t 6)], m 2 7]) (Y [2]))
  R))
def a_morph_Check_5 : AFn := ⟨c_morph_Check_5, 8, [.t 2], .drop, [], none⟩
theorem q_morph_Check_5 : a_morph_Check_5.res = [.t 2] ∧ a_morph_Check_5.mode = .drop ∧ a_morph_Check_5.dfr = none := ⟨rfl, rfl, rfl⟩
def l_morph_each_api_Link_0 : AC :=
  (Q (O [bl 17 16 15]) (Q (C 17 X (.exit 0)) (Q (.block 1 (Q (Q (O [m 18 16, ia 19 3 14 16, la 20 3 19, o 8 (.nw [(.str []), (.str []), (.slice .nil 2 [])] t_api_Link), m 7 18, n (.st
  3 (t 8) (t 20))]) (Y [2, 7, 8, 14, 15, 16])) (Q (Q (O [m 21 2, m 22 7, la 23 3 8, k 24 (t 21) [(t 22), (t 23)], m 9 24]) (Y [2, 9, 14, 15, 16])) (Q (O [m 25 9, o 26 (.ar .neq (t 25)
  (u 0))]) (C 26 (Q (O [m 27 9, m 6 27]) R) X))))) (O [ad 28 16, m 16 28]))))
def c_morph_each_api_Link : AC :=
  (Q (O [mc 6 (u 0)]) (Q (Q (Q (O [m 10 0, ls 11 10, m 12 1, o 13 (.ar .gtr (t 11) (t 12))]) (Y [0, 2, 13])) (C 13 (Q (O [mc 6 (u 3)]) R) X)) (Q (Q (O [m 14 0, ls 15 14, mc 16 (i 0)])
  (Q (.block 0 (.loop ⟨(some [2, 14, 15, 16]), [], true⟩ l_morph_each_api_Link_0)) (Y []))) (Q (O [mc 6 (u 0)]) R))))
def a_morph_each_api_Link : AFn := ⟨c_morph_each_api_Link, 29, [.t 6], .drop, [], none⟩
theorem q_morph_each_api_Link : a_morph_each_api_Link.res = [.t 6] ∧ a_morph_each_api_Link.mode = .drop ∧ a_morph_each_api_Link.dfr = none := ⟨rfl, rfl, rfl⟩
def c_morph_checker_link : AC :=
  (Q (O [o 3 (.bx t_morph_checker (t 0)), o 5 (.bx t_api_Link (t 2)), mc 6 (u 0)]) (Q (Q (Q (O [fa 10 0 3, la 11 6 10, fa 12 0 5, ld 13 12, k 14 (f f_morph_classOf) [(t 11), (t 13)],
  m 9 14, ex 15 9 0, ex 16 9 1, o 7 (.nw [(.str []), (.slice .nil 4 [])] t_api_Class), n (.st 2 (t 7) (t 15)), m 8 16]) (Y [3, 5, 8])) (Q (O [m 17 8, no 18 17]) (C 18 (Q (O [mc 6 (u
  5)]) R) X))) (Q (Q (Q (O [fa 19 1 5, ld 20 19, k 21 (f f_morph_short) [(t 20), (f f_morph_letter)], no 22 21]) (Y [3, 5, 22])) (C 22 (Q (O [mc 6 (u 1)]) R) X)) (Q (Q (O [la 23 6 3,
  fa 24 2 5, ld 25 24, k 26 (f f_morph_checker_bundle) [(t 23), (t 25)], m 6 26]) (Y [6])) R))))
def a_morph_checker_link : AFn := ⟨c_morph_checker_link, 27, [.t 6], .drop, [], none⟩
theorem q_morph_checker_link : a_morph_checker_link.res = [.t 6] ∧ a_morph_checker_link.mode = .drop ∧ a_morph_checker_link.dfr = none := ⟨rfl, rfl, rfl⟩
def c_morph_checker_bundle : AC :=
  (Q (O [o 2 (.bx t_morph_checker (t 0)), o 3 (.bx t_sl_api_Feat (t 1)), mc 4 (u 0)]) (Q (Q (O [ld 5 3, o 6 (.mf (.func f_morph_checker_bundle_1) [] [(t 2), (t 3)]), k 7 (f
  f_morph_each_api_Feat) [(t 5), (i 8), (t 6)], m 4 7]) (Y [4])) R))
def a_morph_checker_bundle : AFn := ⟨c_morph_checker_bundle, 8, [.t 4], .drop, [], none⟩
theorem q_morph_checker_bundle : a_morph_checker_bundle.res = [.t 4] ∧ a_morph_checker_bundle.mode = .drop ∧ a_morph_checker_bundle.dfr = none := ⟨rfl, rfl, rfl⟩
def c_morph_classOf : AC :=
  (Q (Q (O [o 2 (.bx t_api_Lexicon (t 0)), o 3 (.bx t_string (t 1)), o 4 (.nw [(.str []), (.slice .nil 4 [])] t_api_Class), mc 5 F]) (Y [2, 3, 4])) (Q (Q (O [fa 7 2 2, ld 8 7, o 9
  (.mf (.func f_morph_classOf_1) [] [(t 3)]), k 10 (f f_slices_IndexFunc_api_Class_api_Class) [(t 8), (t 9)], m 6 10]) (Y [2, 4, 6])) (Q (Q (O [m 11 6, o 12 (.ar .lss (t 11) (i 0))])
  (C 12 (Q (O [o 13 (.bd [(.str []), (.slice .nil 4 [])] [(0, 1), (1, 1)] []), n (.st 2 (t 4) (t 13)), mc 5 F]) R) X)) (Q (Q (O [fa 14 2 2, ld 15 14, m 16 6, ia 17 2 15 16, la 18 2
  17, n (.st 2 (t 4) (t 18)), mc 5 T]) (Y [4, 5])) R))))
def a_morph_classOf : AFn := ⟨c_morph_classOf, 19, [.cell 4 (some 2), .t 5], .drop, [], none⟩
theorem q_morph_classOf : a_morph_classOf.res = [.cell 4 (some 2), .t 5] ∧ a_morph_classOf.mode = .drop ∧ a_morph_classOf.dfr = none := ⟨rfl, rfl, rfl⟩
def l_slices_Index_string_string_0 : AC :=
  (Q (O [bl 9 8 7]) (Q (C 9 X (.exit 0)) (Q (.block 1 (Q (O [m 10 8, m 5 10]) (Q (Q (O [m 11 1, m 12 0, m 13 5, ia 14 1 12 13, ld 15 14, o 16 (.ar .eql (t 11) (t 15))]) (Y [0, 1, 5,
  7, 8, 16])) (C 16 (Q (O [m 17 5, m 4 17]) R) X)))) (O [ad 18 8, m 8 18]))))
def c_slices_Index_string_string : AC :=
  (Q (O [mc 4 (i 0)]) (Q (Q (O [m 6 0, ls 7 6, mc 8 (i 0)]) (Q (.block 0 (.loop ⟨(some [0, 1, 7, 8]), [], false⟩ l_slices_Index_string_string_0)) (Y []))) (Q (O [mc 4 (i (-1))]) R)))
def a_slices_Index_string_string : AFn := ⟨c_slices_Index_string_string, 19, [.t 4], .drop, [], none⟩
theorem q_slices_Index_string_string : a_slices_Index_string_string.res = [.t 4] ∧ a_slices_Index_string_string.mode = .drop ∧ a_slices_Index_string_string.dfr = none := ⟨rfl, rfl, rfl⟩
def c_morph_clash_1 : AC :=
  (Q (O [o 2 (.bx t_api_Feat (t 0)), mc 3 F]) (Q (Q (O [ld 4 1, o 5 (.mf (.func f_morph_clash_1_1) [] [(t 2)]), k 6 (f f_slices_ContainsFunc_api_Feat_api_Feat) [(t 4), (t 5)], m 3 6])
  (Y [3])) R))
def a_morph_clash_1 : AFn := ⟨c_morph_clash_1, 7, [.t 3], .drop, [], none⟩
theorem q_morph_clash_1 : a_morph_clash_1.res = [.t 3] ∧ a_morph_clash_1.mode = .drop ∧ a_morph_clash_1.dfr = none := ⟨rfl, rfl, rfl⟩
def c_morph_clash_1_1 : AC :=
  (Q (O [o 2 (.bx t_api_Feat (t 0)), mc 3 F]) (Q (Q (O [fa 4 0 1, ld 5 4, fa 6 0 2, ld 7 6, o 8 (.ar .eql (t 5) (t 7)), m 9 8, g 10 9 (.fa 1 (t 1)), g 11 9 (.ld none (t 10)), g 12 9
  (.fa 1 (t 2)), g 13 9 (.ld none (t 12)), g 14 9 (.ar .neq (t 11) (t 13)), o 15 (.pk (t 9) (t 14) F), m 3 15]) (Y [3])) R))
def a_morph_clash_1_1 : AFn := ⟨c_morph_clash_1_1, 16, [.t 3], .drop, [], none⟩
theorem q_morph_clash_1_1 : a_morph_clash_1_1.res = [.t 3] ∧ a_morph_clash_1_1.mode = .drop ∧ a_morph_clash_1_1.dfr = none := ⟨rfl, rfl, rfl⟩
def l_slices_Concat_api_Feat_api_Feat_0 : AC :=
  (Q (O [bl 12 11 10]) (Q (C 12 X (.exit 0)) (Q (.block 1 (Q (O [ia 13 1 9 11, ld 14 13, m 5 14]) (Q (Q (O [m 15 3, m 16 5, ls 17 16, o 18 (.ar .add (t 15) (t 17)), m 3 18]) (Y [0, 3,
  9, 10, 11])) (Q (O [m 19 3, o 20 (.ar .lss (t 19) (i 0))]) (C 20 (O [o 21 (.mi t_string (s [108, 101, 110, 32, 111, 117, 116, 32, 111, 102, 32, 114, 97, 110, 103, 101])), ⟨none,
  none, (.panic (.t 21))⟩]) X))))) (O [ad 22 11, m 11 22]))))
def l_slices_Concat_api_Feat_api_Feat_1 : AC :=
  (Q (O [bl 28 27 26]) (Q (C 28 X (.exit 2)) (Q (.block 3 (Q (O [ia 29 1 25 27, ld 30 29, m 8 30]) (Q (O [m 31 6, m 32 8, o 33 (.ap true t_api_Feat 2 32 false (t 31) (t 32)), m 6 33])
  (Y [6, 25, 26, 27])))) (O [ad 34 27, m 27 34]))))
def c_slices_Concat_api_Feat_api_Feat : AC :=
  (Q (O [mc 2 (.c (.slice .nil 2 []))]) (Q (O [mc 3 (i 0)]) (Q (Q (O [m 9 0, ls 10 9, mc 11 (i 0)]) (Q (.block 0 (.loop ⟨(some [0, 3, 9, 10, 11]), [], false⟩
  l_slices_Concat_api_Feat_api_Feat_0)) (Y [0, 3]))) (Q (O [m 23 3, k 24 (f f_slices_Grow_api_Feat_api_Feat) [(.c (.slice .nil 2 [])), (t 23)], m 6 24]) (Q (Q (O [m 25 0, ls 26 25, mc
  27 (i 0)]) (Q (.block 2 (.loop ⟨(some [6, 25, 26, 27]), [], false⟩ l_slices_Concat_api_Feat_api_Feat_1)) (Y [6]))) (Q (O [m 35 6, m 2 35]) R))))))
def a_slices_Concat_api_Feat_api_Feat : AFn := ⟨c_slices_Concat_api_Feat_api_Feat, 36, [.t 2], .keep, [13], none⟩
theorem q_slices_Concat_api_Feat_api_Feat : a_slices_Concat_api_Feat_api_Feat.res = [.t 2] ∧ a_slices_Concat_api_Feat_api_Feat.mode = .keep ∧ a_slices_Concat_api_Feat_api_Feat.dfr = none := ⟨rfl, rfl, rfl⟩
def c_morph_union_1 : AC :=
  (Q (O [o 2 (.bx t_api_Feat (t 0)), o 3 (.bx t_api_Feat (t 1)), mc 4 (i 0)]) (Q (Q (O [fa 5 0 2, ld 6 5, fa 7 0 3, ld 8 7, k 9 (f f_strings_Compare) [(t 6), (t 8)], m 4 9]) (Y [4]))
  R))
def a_morph_union_1 : AFn := ⟨c_morph_union_1, 10, [.t 4], .drop, [], none⟩
theorem q_morph_union_1 : a_morph_union_1.res = [.t 4] ∧ a_morph_union_1.mode = .drop ∧ a_morph_union_1.dfr = none := ⟨rfl, rfl, rfl⟩
def c_strings_Compare : AC :=
  (Q (O [mc 4 (i 0)]) (Q (Q (O [m 5 0, m 6 1, k 7 (f f_internal_bytealg_CompareString) [(t 5), (t 6)], m 4 7]) (Y [4])) R))
def a_strings_Compare : AFn := ⟨c_strings_Compare, 8, [.t 4], .drop, [], none⟩
theorem q_strings_Compare : a_strings_Compare.res = [.t 4] ∧ a_strings_Compare.mode = .drop ∧ a_strings_Compare.dfr = none := ⟨rfl, rfl, rfl⟩
def l_slices_Compact_api_Feat_api_Feat_0 : AC :=
  (Q (Q (Q (O [m 29 5, m 30 4, ls 31 30, bl 32 29 31]) (Y [0, 3, 4, 5, 32])) (C 32 X (.exit 2))) (Q (.block 3 (Q (Q (D [P (m 35 4), P (m 36 5), P (ia 37 2 35 36), W (la 38 2 37), P (m
  39 4), P (m 40 5), P (o 41 (.ar .sub (t 40) (i 1))), P (ia 42 2 39 41), W (la 43 2 42), P (o 44 (.eq true (.st [(0, .str), (1, .str)]) (t 38) (t 43)))]) (Y [0, 3, 4, 5, 44])) (C 44
  (Q (Q (O [m 45 0, m 46 3, m 47 4, m 48 5, ia 49 2 47 48, la 50 2 49, ia 51 2 45 46, n (.st 2 (t 51) (t 50))]) (Y [0, 3, 4, 5])) (O [m 52 3, ad 53 52, m 3 53])) X))) (O [m 33 5, ad
  34 33, m 5 34])))
def l_slices_Compact_api_Feat_api_Feat_1 : AC :=
  (Q (Q (Q (O [m 10 3, m 11 0, ls 12 11, bl 13 10 12]) (Y [0, 3, 13])) (C 13 X (.exit 0))) (Q (Q (.block 1 (Q (Q (D [P (m 16 0), P (m 17 3), P (ia 18 2 16 17), W (la 19 2 18), P (m 20
  0), P (m 21 3), P (o 22 (.ar .sub (t 21) (i 1))), P (ia 23 2 20 22), W (la 24 2 23), P (o 25 (.eq false (.st [(0, .str), (1, .str)]) (t 19) (t 24)))]) (Y [0, 3, 25])) (C 25 (Q (Q (O
  [m 26 0, m 27 3, o 28 (.sll 2 (t 26) (some (t 27)) none none), m 4 28]) (Y [0, 3, 4])) (Q (Q (O [mc 5 (i 1)]) (Q (.block 2 (.loop ⟨(some [0, 3, 4, 5]), [], false⟩
  l_slices_Compact_api_Feat_api_Feat_0)) (Y [0, 3]))) (Q (Q (O [m 54 0, m 55 3, o 56 (.sll 2 (t 54) (some (t 55)) none none), n (.cl 2 [(.str []), (.str [])] (t 56))]) (Y [0, 3])) (Q
  (Q (O [m 57 0, m 58 3, o 59 (.sll 2 (t 57) none (some (t 58)) none), m 2 59]) (Y [2])) R)))) X))) (Y [0, 3])) (O [m 14 3, ad 15 14, m 3 15])))
def c_slices_Compact_api_Feat_api_Feat : AC :=
  (Q (O [mc 2 (.c (.slice .nil 2 []))]) (Q (Q (O [m 6 0, ls 7 6, o 8 (.ar .lss (t 7) (i 2))]) (C 8 (Q (O [m 9 0, m 2 9]) R) X)) (Q (Q (O [mc 3 (i 1)]) (Q (.block 0 (.loop ⟨(some [0,
  3]), [], false⟩ l_slices_Compact_api_Feat_api_Feat_1)) (Y [0]))) (Q (O [m 60 0, m 2 60]) R))))
def a_slices_Compact_api_Feat_api_Feat : AFn := ⟨c_slices_Compact_api_Feat_api_Feat, 61, [.t 2], .drop, [], none⟩
theorem q_slices_Compact_api_Feat_api_Feat : a_slices_Compact_api_Feat_api_Feat.res = [.t 2] ∧ a_slices_Compact_api_Feat_api_Feat.mode = .drop ∧ a_slices_Compact_api_Feat_api_Feat.dfr = none := ⟨rfl, rfl, rfl⟩
def l_slices_IndexFunc_api_Feat_api_Feat_0 : AC :=
  (Q (O [bl 9 8 7]) (Q (C 9 X (.exit 0)) (Q (.block 1 (Q (O [m 10 8, m 5 10]) (Q (Q (O [m 11 1, m 12 0, m 13 5, ia 14 2 12 13, la 15 2 14, k 16 (t 11) [(t 15)]]) (Y [0, 1, 5, 7, 8,
  16])) (C 16 (Q (O [m 17 5, m 4 17]) R) X)))) (O [ad 18 8, m 8 18]))))
def c_slices_IndexFunc_api_Feat_api_Feat : AC :=
  (Q (O [mc 4 (i 0)]) (Q (Q (O [m 6 0, ls 7 6, mc 8 (i 0)]) (Q (.block 0 (.loop ⟨(some [0, 1, 7, 8]), [], false⟩ l_slices_IndexFunc_api_Feat_api_Feat_0)) (Y []))) (Q (O [mc 4 (i
  (-1))]) R)))
def a_slices_IndexFunc_api_Feat_api_Feat : AFn := ⟨c_slices_IndexFunc_api_Feat_api_Feat, 19, [.t 4], .drop, [], none⟩
theorem q_slices_IndexFunc_api_Feat_api_Feat : a_slices_IndexFunc_api_Feat_api_Feat.res = [.t 4] ∧ a_slices_IndexFunc_api_Feat_api_Feat.mode = .drop ∧ a_slices_IndexFunc_api_Feat_api_Feat.dfr = none := ⟨rfl, rfl, rfl⟩
def l_slices_Index_api_Feat_api_Feat_0 : AC :=
  (Q (O [bl 9 8 7]) (Q (C 9 X (.exit 0)) (Q (.block 1 (Q (O [m 10 8, m 5 10]) (Q (Q (D [W (la 11 2 3), P (m 12 0), P (m 13 5), P (ia 14 2 12 13), W (la 15 2 14), P (o 16 (.eq false
  (.st [(0, .str), (1, .str)]) (t 11) (t 15)))]) (Y [0, 3, 5, 7, 8, 16])) (C 16 (Q (O [m 17 5, m 4 17]) R) X)))) (O [ad 18 8, m 8 18]))))
def c_slices_Index_api_Feat_api_Feat : AC :=
  (Q (O [o 3 (.bx t_api_Feat (t 1)), mc 4 (i 0)]) (Q (Q (O [m 6 0, ls 7 6, mc 8 (i 0)]) (Q (.block 0 (.loop ⟨(some [0, 3, 7, 8]), [], false⟩ l_slices_Index_api_Feat_api_Feat_0)) (Y
  []))) (Q (O [mc 4 (i (-1))]) R)))
def a_slices_Index_api_Feat_api_Feat : AFn := ⟨c_slices_Index_api_Feat_api_Feat, 19, [.t 4], .drop, [], none⟩
theorem q_slices_Index_api_Feat_api_Feat : a_slices_Index_api_Feat_api_Feat.res = [.t 4] ∧ a_slices_Index_api_Feat_api_Feat.mode = .drop ∧ a_slices_Index_api_Feat_api_Feat.dfr = none := ⟨rfl, rfl, rfl⟩
def l_truchmanref02_of_0 : AC :=
  (Q (Q (Q (O [m 18 7, m 19 1, lt 20 19, bl 21 18 20]) (Y [0, 1, 5, 6, 7, 21])) (C 21 X (.exit 2))) (Q (.block 3 (Q (D [P (m 24 6), P (m 25 24), P (h 26 25 (.mv (t 0))), P (h 27 25
  (.mv (t 5))), P (h 28 25 (.ixs (t 26) (t 27))), P (h 29 25 (.mv (t 1))), P (h 30 25 (.mv (t 7))), P (h 31 25 (.ixs (t 29) (t 30))), P (h 32 25 (.ar .eql (t 28) (t 31))), P (o 33
  (.pk (t 25) T (t 32))), P (m 6 33)]) (Y [0, 1, 5, 6, 7]))) (O [m 22 7, ad 23 22, m 7 23])))
def l_truchmanref02_of_1 : AC :=
  (Q (Q (Q (O [m 8 5, m 9 0, lt 10 9, bl 11 8 10]) (Y [0, 1, 5, 11])) (C 11 X (.exit 0))) (Q (Q (.block 1 (Q (Q (O [m 14 0, m 15 5, o 16 (.ixs (t 14) (t 15)), k 17 (f
  f_truchmanref02_Letter) [(t 16)], m 6 17]) (Y [0, 1, 5, 6])) (Q (Q (O [mc 7 (i 0)]) (Q (.block 2 (.loop ⟨(some [0, 1, 5, 6, 7]), [], false⟩ l_truchmanref02_of_0)) (Y [0, 1, 5, 6])))
  (Q (O [m 34 6, no 35 34]) (C 35 (Q (O [mc 4 F]) R) X))))) (Y [0, 1, 5])) (O [m 12 5, ad 13 12, m 5 13])))
def c_truchmanref02_of : AC :=
  (Q (O [mc 4 F]) (Q (Q (O [mc 5 (i 0)]) (Q (.block 0 (.loop ⟨(some [0, 1, 5]), [], false⟩ l_truchmanref02_of_1)) (Y []))) (Q (O [mc 4 T]) R)))
def a_truchmanref02_of : AFn := ⟨c_truchmanref02_of, 36, [.t 4], .drop, [], none⟩
theorem q_truchmanref02_of : a_truchmanref02_of.res = [.t 4] ∧ a_truchmanref02_of.mode = .drop ∧ a_truchmanref02_of.dfr = none := ⟨rfl, rfl, rfl⟩
def l_truchmanref02_traits_0 : AC :=
  (Q (Q (Q (O [m 44 5, fa 45 1 4, ld 46 45, ls 47 46, bl 48 44 47]) (Y [1, 3, 4, 5, 48])) (C 48 X (.exit 3))) (Q (.block 4 (Q (Q (Q (O [fa 51 1 4, ld 52 51, m 53 5, ia 54 1 52 53, ld
  55 54, k 56 (f f_truchmanref02_Name) [(t 55)], no 57 56]) (Y [1, 3, 4, 5, 57])) (C 57 (Q (O [mc 2 (u 5)]) R) X)) (Q (Q (D [P (fa 58 1 4), W (ld 59 58), P (m 60 5), P (o 61 (.sll 1
  (t 59) none (some (t 60)) none)), P (fa 62 1 4), W (ld 63 62), P (m 64 5), P (ia 65 1 63 64), W (ld 66 65), E (k 67 (f f_truchmanref02_in) [(t 61), (t 66)])]) (Y [1, 3, 4, 5, 67]))
  (C 67 (Q (O [mc 2 (u 6)]) R) X)))) (O [m 49 5, ad 50 49, m 5 50])))
def l_truchmanref02_traits_1 : AC :=
  (Q (Q (Q (O [m 10 3, fa 11 1 1, ld 12 11, ls 13 12, bl 14 10 13]) (Y [1, 3, 14])) (C 14 X (.exit 0))) (Q (Q (.block 1 (Q (Q (O [fa 17 1 1, ld 18 17, m 19 3, ia 20 2 18 19, la 21 2
  20, o 4 (.nw [(.str []), (.slice .nil 1 [])] t_api_Trait), n (.st 2 (t 4) (t 21))]) (Y [1, 3, 4])) (Q (.block 2 (Q (Q (O [fa 23 0 4, ld 24 23, k 25 (f f_truchmanref02_Name) [(t
  24)], no 26 25, m 22 26]) (Y [1, 3, 4, 22])) (C 22 (Q (O [mc 2 (u 5)]) R) (Q (Q (O [la 28 6 1, fa 29 0 4, ld 30 29, k 31 (f f_truchmanref02_trait) [(t 28), (t 30)], m 32 3, bl 33 31
  32, m 27 33]) (Y [1, 3, 4, 27])) (C 27 (Q (O [mc 2 (u 6)]) R) (Q (Q (O [fa 35 1 4, ld 36 35, ls 37 36, o 38 (.ar .gtr (t 37) (i 8)), m 34 38]) (Y [1, 3, 4, 34])) (C 34 (Q (O [mc 2
  (u 3)]) R) (Q (Q (O [fa 40 1 4, ld 41 40, ls 42 41, o 43 (.ar .eql (t 42) (i 0)), m 39 43]) (Y [1, 3, 4, 39])) (C 39 (Q (O [mc 2 (u 1)]) R) X))))))))) (Q (O [mc 5 (i 0)]) (Q (.block
  3 (.loop ⟨(some [1, 3, 4, 5]), [], false⟩ l_truchmanref02_traits_0)) (Y [1, 3])))))) (Y [1, 3])) (O [m 15 3, ad 16 15, m 3 16])))
def c_truchmanref02_traits : AC :=
  (Q (O [o 1 (.bx t_api_Lexicon (t 0)), mc 2 (u 0)]) (Q (Q (Q (O [fa 6 1 1, ld 7 6, ls 8 7, o 9 (.ar .gtr (t 8) (i 8))]) (Y [1, 9])) (C 9 (Q (O [mc 2 (u 3)]) R) X)) (Q (Q (O [mc 3 (i
  0)]) (Q (.block 0 (.loop ⟨(some [1, 3]), [], true⟩ l_truchmanref02_traits_1)) (Y []))) (Q (O [mc 2 (u 0)]) R))))
def a_truchmanref02_traits : AFn := ⟨c_truchmanref02_traits, 68, [.t 2], .drop, [], none⟩
theorem q_truchmanref02_traits : a_truchmanref02_traits.res = [.t 2] ∧ a_truchmanref02_traits.mode = .drop ∧ a_truchmanref02_traits.dfr = none := ⟨rfl, rfl, rfl⟩
def l_truchmanref02_classes_0 : AC :=
  (Q (Q (Q (O [m 46 5, fa 47 1 4, ld 48 47, ls 49 48, bl 50 46 49]) (Y [1, 3, 4, 5, 50])) (C 50 X (.exit 3))) (Q (.block 4 (Q (Q (O [fa 53 1 4, ld 54 53, m 55 5, ia 56 4 54 55, la 57
  4 56, o 6 (.nw [(.int .i64 0), (.str []), (.str []), (.slice .nil 2 [])] t_api_Slot), n (.st 4 (t 6) (t 57))]) (Y [1, 3, 4, 5, 6])) (Q (Q (Q (O [fa 58 0 6, ld 59 58, o 60 (.ar .lss
  (t 59) (i 0)), m 61 60, h 62 61 (.fa 0 (t 6)), h 63 61 (.ld none (t 62)), h 64 61 (.ar .gtr (t 63) (i 24)), o 65 (.pk (t 61) T (t 64)), m 66 65, h 67 66 (.fa 1 (t 6)), h 68 66 (.ld
  none (t 67)), ⟨(some 69), (some (66, false)), (.call (.c (.fn (.func f_truchmanref02_of) [] [])) [(.t 68), (.c (.str []))])⟩, h 70 66 (.un .not (t 69)), o 71 (.pk (t 66) T (t 70)),
  m 72 71, h 73 72 (.fa 1 (t 6)), h 74 72 (.ld none (t 73)), h 75 72 (.len .str (t 74)), h 76 72 (.ar .gtr (t 75) (i 6)), o 77 (.pk (t 72) T (t 76)), m 78 77, h 79 78 (.fa 2 (t 6)), h
  80 78 (.ld none (t 79)), ⟨(some 81), (some (78, false)), (.call (.c (.fn (.func f_truchmanref02_of) [] [])) [(.t 80), (.c (.str []))])⟩, h 82 78 (.un .not (t 81)), o 83 (.pk (t 78)
  T (t 82)), m 84 83, h 85 84 (.fa 2 (t 6)), h 86 84 (.ld none (t 85)), h 87 84 (.len .str (t 86)), h 88 84 (.ar .gtr (t 87) (i 6)), o 89 (.pk (t 84) T (t 88))]) (Y [1, 3, 4, 5, 6,
  89])) (C 89 (Q (O [mc 2 (u 1)]) R) X)) (Q (Q (O [la 90 6 1, fa 91 3 6, ld 92 91, k 93 (f f_truchmanref02_bundle) [(t 90), (t 92)], m 7 93]) (Y [1, 3, 4, 5, 7])) (Q (O [m 94 7, o 95
  (.ar .neq (t 94) (u 0))]) (C 95 (Q (O [m 96 7, m 2 96]) R) X)))))) (O [m 51 5, ad 52 51, m 5 52])))
def l_truchmanref02_classes_1 : AC :=
  (Q (Q (Q (O [m 12 3, fa 13 2 1, ld 14 13, ls 15 14, bl 16 12 15]) (Y [1, 3, 16])) (C 16 X (.exit 0))) (Q (Q (.block 1 (Q (Q (O [fa 19 2 1, ld 20 19, m 21 3, ia 22 2 20 21, la 23 2
  22, o 4 (.nw [(.str []), (.slice .nil 4 [])] t_api_Class), n (.st 2 (t 4) (t 23))]) (Y [1, 3, 4])) (Q (.block 2 (Q (Q (O [fa 25 0 4, ld 26 25, k 27 (f f_truchmanref02_Name) [(t
  26)], no 28 27, m 24 28]) (Y [1, 3, 4, 24])) (C 24 (Q (O [mc 2 (u 5)]) R) (Q (Q (O [la 30 6 1, fa 31 0 4, ld 32 31, k 33 (f f_truchmanref02_Class) [(t 30), (t 32)], m 34 3, bl 35 33
  34, m 29 35]) (Y [1, 3, 4, 29])) (C 29 (Q (O [mc 2 (u 6)]) R) (Q (Q (O [fa 37 1 4, ld 38 37, ls 39 38, o 40 (.ar .gtr (t 39) (i 24)), m 36 40]) (Y [1, 3, 4, 36])) (C 36 (Q (O [mc 2
  (u 3)]) R) (Q (Q (O [fa 42 1 4, ld 43 42, ls 44 43, o 45 (.ar .eql (t 44) (i 0)), m 41 45]) (Y [1, 3, 4, 41])) (C 41 (Q (O [mc 2 (u 1)]) R) X))))))))) (Q (O [mc 5 (i 0)]) (Q (.block
  3 (.loop ⟨(some [1, 3, 4, 5]), [], true⟩ l_truchmanref02_classes_0)) (Y [1, 3])))))) (Y [1, 3])) (O [m 17 3, ad 18 17, m 3 18])))
def c_truchmanref02_classes : AC :=
  (Q (O [o 1 (.bx t_api_Lexicon (t 0)), mc 2 (u 0)]) (Q (Q (Q (O [fa 8 2 1, ld 9 8, ls 10 9, o 11 (.ar .gtr (t 10) (i 16))]) (Y [1, 11])) (C 11 (Q (O [mc 2 (u 3)]) R) X)) (Q (Q (O [mc
  3 (i 0)]) (Q (.block 0 (.loop ⟨(some [1, 3]), [], true⟩ l_truchmanref02_classes_1)) (Y []))) (Q (O [mc 2 (u 0)]) R))))
def a_truchmanref02_classes : AFn := ⟨c_truchmanref02_classes, 97, [.t 2], .drop, [], none⟩
theorem q_truchmanref02_classes : a_truchmanref02_classes.res = [.t 2] ∧ a_truchmanref02_classes.mode = .drop ∧ a_truchmanref02_classes.dfr = none := ⟨rfl, rfl, rfl⟩
def l_truchmanref02_entries_0 : AC :=
  (Q (Q (O [m 41 6, m 42 3, bl 43 41 42]) (C 43 X (.exit 2))) (Q (.block 3 (Q (Q (D [P (fa 46 3 1), W (ld 47 46), P (m 48 6), P (ia 49 4 47 48), P (fa 50 0 49), W (ld 51 50), P (fa 52
  0 4), W (ld 53 52), P (o 54 (.ar .eql (t 51) (t 53))), P (m 55 54), P (g 56 55 (.fa 3 (t 1))), W (g 57 55 (.ld none (t 56))), P (g 58 55 (.mv (t 6))), P (g 59 55 (.ias 4 (t 57) (t
  58))), P (g 60 55 (.fa 1 (t 59))), W (g 61 55 (.ld none (t 60))), P (g 62 55 (.fa 1 (t 4))), W (g 63 55 (.ld none (t 62))), P (g 64 55 (.ar .eql (t 61) (t 63))), P (o 65 (.pk (t 55)
  (t 64) F))]) (Y [1, 3, 4, 5, 6, 65])) (C 65 (Q (O [mc 2 (u 6)]) R) X))) (O [m 44 6, ad 45 44, m 6 45])))
def l_truchmanref02_entries_1 : AC :=
  (Q (Q (Q (O [m 79 9, m 80 8, ls 81 80, bl 82 79 81]) (Y [1, 3, 4, 8, 9, 82])) (C 82 X (.exit 4))) (Q (.block 5 (Q (Q (D [P (fa 86 2 4), W (ld 87 86), P (m 88 8), P (m 89 9), P (ia
  90 4 88 89), P (fa 91 3 90), W (ld 92 91), E (k 93 (f f_truchmanref02_Unify) [(t 87), (t 92)]), P (m 85 93), P (ex 94 85 0), P (ex 95 85 1), P (m 10 94), P (m 11 95)]) (Y [1, 3, 4,
  8, 9, 11])) (Q (O [m 96 11, no 97 96]) (C 97 (Q (O [mc 2 (u 10)]) R) X)))) (O [m 83 9, ad 84 83, m 9 84])))
def l_truchmanref02_entries_2 : AC :=
  (Q (Q (O [m 120 14, m 121 12, bl 122 120 121]) (C 122 X (.exit 8))) (Q (.block 9 (Q (Q (D [P (fa 125 3 4), W (ld 126 125), P (m 127 14), P (ia 128 2 126 127), P (fa 129 0 128), W
  (ld 130 129), P (fa 131 0 13), W (ld 132 131), P (o 133 (.ar .eql (t 130) (t 132)))]) (Y [1, 3, 4, 8, 12, 13, 14, 133])) (C 133 (Q (O [mc 2 (u 6)]) R) X))) (O [m 123 14, ad 124 123,
  m 14 124])))
def l_truchmanref02_entries_3 : AC :=
  (Q (Q (Q (O [m 98 12, fa 99 3 4, ld 100 99, ls 101 100, bl 102 98 101]) (Y [1, 3, 4, 8, 12, 102])) (C 102 X (.exit 6))) (Q (Q (.block 7 (Q (Q (O [fa 105 3 4, ld 106 105, m 107 12,
  ia 108 2 106 107, la 109 2 108, o 13 (.nw [(.int .i64 0), (.str [])] t_api_Irregular), n (.st 2 (t 13) (t 109))]) (Y [1, 3, 4, 8, 12, 13])) (Q (Q (Q (O [fa 110 0 13, ld 111 110, o
  112 (.ar .lss (t 111) (i 0)), m 113 112, h 114 113 (.fa 0 (t 13)), h 115 113 (.ld none (t 114)), h 116 113 (.mv (t 8)), h 117 113 (.len .sl (t 116)), h 118 113 (.ar .geq (t 115) (t
  117)), o 119 (.pk (t 113) T (t 118))]) (Y [1, 3, 4, 8, 12, 13, 119])) (C 119 (Q (O [mc 2 (u 7)]) R) X)) (Q (Q (O [mc 14 (i 0)]) (Q (.block 8 (.loop ⟨(some [1, 3, 4, 8, 12, 13, 14]),
  [], false⟩ l_truchmanref02_entries_2)) (Y [1, 3, 4, 8, 12, 13]))) (Q (Q (O [fa 134 1 13, ld 135 134, o 136 (.ar .neq (t 135) (s [])), m 137 136, g 138 137 (.fa 1 (t 13)), g 139 137
  (.ld none (t 138)), ⟨(some 140), (some (137, true)), (.call (.c (.fn (.func f_truchmanref02_Plain) [] [])) [(.t 139)])⟩, g 141 137 (.un .not (t 140)), o 142 (.pk (t 137) (t 141)
  F)]) (Y [1, 3, 4, 8, 12, 142])) (C 142 (Q (O [mc 2 (u 1)]) R) X)))))) (Y [1, 3, 4, 8, 12])) (O [m 103 12, ad 104 103, m 12 104])))
def l_truchmanref02_entries_4 : AC :=
  (Q (Q (Q (O [m 19 3, fa 20 3 1, ld 21 20, ls 22 21, bl 23 19 22]) (Y [1, 3, 23])) (C 23 X (.exit 0))) (Q (Q (.block 1 (Q (Q (O [fa 26 3 1, ld 27 26, m 28 3, ia 29 4 27 28, la 30 4
  29, o 4 (.nw [(.str []), (.str []), (.slice .nil 2 []), (.slice .nil 2 [])] t_api_Entry), n (.st 4 (t 4) (t 30))]) (Y [1, 3, 4])) (Q (Q (Q (O [fa 31 0 4, ld 32 31, k 33 (f
  f_truchmanref02_Plain) [(t 32)], no 34 33]) (Y [1, 3, 4, 34])) (C 34 (Q (O [mc 2 (u 1)]) R) X)) (Q (Q (O [la 35 6 1, fa 36 1 4, ld 37 36, k 38 (f f_truchmanref02_Class) [(t 35), (t
  37)], m 5 38]) (Y [1, 3, 4, 5])) (Q (Q (O [m 39 5, o 40 (.ar .lss (t 39) (i 0))]) (C 40 (Q (O [mc 2 (u 5)]) R) X)) (Q (Q (O [mc 6 (i 0)]) (Q (.block 2 (.loop ⟨(some [1, 3, 4, 5,
  6]), [], false⟩ l_truchmanref02_entries_0)) (Y [1, 3, 4, 5]))) (Q (Q (Q (O [la 66 6 1, fa 67 2 4, ld 68 67, k 69 (f f_truchmanref02_bundle) [(t 66), (t 68)], m 7 69]) (Y [1, 3, 4,
  5, 7])) (Q (O [m 70 7, o 71 (.ar .neq (t 70) (u 0))]) (C 71 (Q (O [m 72 7, m 2 72]) R) X))) (Q (Q (O [fa 73 2 1, ld 74 73, m 75 5, ia 76 2 74 75, fa 77 1 76, ld 78 77, m 8 78]) (Y
  [1, 3, 4, 8])) (Q (Q (O [mc 9 (i 0)]) (Q (.block 4 (.loop ⟨(some [1, 3, 4, 8, 9]), [], false⟩ l_truchmanref02_entries_1)) (Y [1, 3, 4, 8]))) (Q (O [mc 12 (i 0)]) (Q (.block 6 (.loop
  ⟨(some [1, 3, 4, 8, 12]), [], true⟩ l_truchmanref02_entries_3)) (Y [1, 3])))))))))))) (Y [1, 3])) (O [m 24 3, ad 25 24, m 3 25])))
def c_truchmanref02_entries : AC :=
  (Q (O [o 1 (.bx t_api_Lexicon (t 0)), mc 2 (u 0)]) (Q (Q (Q (O [fa 15 3 1, ld 16 15, ls 17 16, o 18 (.ar .gtr (t 17) (i 128))]) (Y [1, 18])) (C 18 (Q (O [mc 2 (u 3)]) R) X)) (Q (Q
  (O [mc 3 (i 0)]) (Q (.block 0 (.loop ⟨(some [1, 3]), [], true⟩ l_truchmanref02_entries_4)) (Y []))) (Q (O [mc 2 (u 0)]) R))))
def a_truchmanref02_entries : AFn := ⟨c_truchmanref02_entries, 143, [.t 2], .drop, [], none⟩
theorem q_truchmanref02_entries : a_truchmanref02_entries.res = [.t 2] ∧ a_truchmanref02_entries.mode = .drop ∧ a_truchmanref02_entries.dfr = none := ⟨rfl, rfl, rfl⟩
def l_truchmanref02_Class_0 : AC :=
  (Q (Q (Q (O [m 6 5, fa 7 2 2, ld 8 7, ls 9 8, bl 10 6 9]) (Y [1, 2, 5, 10])) (C 10 X (.exit 0))) (Q (.block 1 (Q (Q (O [fa 13 2 2, ld 14 13, m 15 5, ia 16 2 14 15, fa 17 0 16, ld 18
  17, m 19 1, o 20 (.ar .eql (t 18) (t 19))]) (Y [1, 2, 5, 20])) (C 20 (Q (O [m 21 5, m 4 21]) R) X))) (O [m 11 5, ad 12 11, m 5 12])))
def c_truchmanref02_Class : AC :=
  (Q (O [o 2 (.bx t_api_Lexicon (t 0)), mc 4 (i 0)]) (Q (Q (O [mc 5 (i 0)]) (Q (.block 0 (.loop ⟨(some [1, 2, 5]), [], false⟩ l_truchmanref02_Class_0)) (Y []))) (Q (O [mc 4 (i (-1))])
  R)))
def a_truchmanref02_Class : AFn := ⟨c_truchmanref02_Class, 22, [.t 4], .drop, [], none⟩
theorem q_truchmanref02_Class : a_truchmanref02_Class.res = [.t 4] ∧ a_truchmanref02_Class.mode = .drop ∧ a_truchmanref02_Class.dfr = none := ⟨rfl, rfl, rfl⟩
def l_truchmanref02_bundle_0 : AC :=
  (Q (Q (Q (O [m 10 5, m 11 1, ls 12 11, bl 13 10 12]) (Y [1, 2, 5, 13])) (C 13 X (.exit 0))) (Q (.block 1 (Q (Q (D [W (la 16 6 2), P (m 17 1), P (m 18 5), P (ia 19 2 17 18), P (fa 20
  0 19), W (ld 21 20), E (k 22 (f f_truchmanref02_trait) [(t 16), (t 21)]), P (m 6 22)]) (Y [1, 2, 5, 6])) (.block 2 (Q (O [m 24 6, o 25 (.ar .lss (t 24) (i 0)), m 23 25]) (C 23 (Q (O
  [mc 4 (u 5)]) R) (Q (Q (D [P (fa 27 1 2), W (ld 28 27), P (m 29 6), P (ia 30 2 28 29), P (fa 31 1 30), W (ld 32 31), P (m 33 1), P (m 34 5), P (ia 35 2 33 34), P (fa 36 1 35), W (ld
  37 36), E (k 38 (f f_truchmanref02_in) [(t 32), (t 37)]), P (no 39 38), P (m 26 39)]) (Y [1, 2, 5, 26])) (C 26 (Q (O [mc 4 (u 1)]) R) (Q (Q (D [P (m 41 5), P (o 42 (.ar .gtr (t 41)
  (i 0))), P (m 43 42), P (g 44 43 (.mv (t 1))), P (g 45 43 (.mv (t 5))), P (g 46 43 (.ar .sub (t 45) (i 1))), P (g 47 43 (.ias 2 (t 44) (t 46))), P (g 48 43 (.fa 0 (t 47))), W (g 49
  43 (.ld none (t 48))), P (g 50 43 (.mv (t 1))), P (g 51 43 (.mv (t 5))), P (g 52 43 (.ias 2 (t 50) (t 51))), P (g 53 43 (.fa 0 (t 52))), W (g 54 43 (.ld none (t 53))), P (g 55 43
  (.ar .eql (t 49) (t 54))), P (o 56 (.pk (t 43) (t 55) F)), P (m 40 56)]) (Y [1, 2, 5, 40])) (C 40 (Q (O [mc 4 (u 6)]) R) (Q (Q (D [P (m 58 5), P (o 59 (.ar .gtr (t 58) (i 0))), P (m
  60 59), P (g 61 60 (.mv (t 1))), P (g 62 60 (.mv (t 5))), P (g 63 60 (.ar .sub (t 62) (i 1))), P (g 64 60 (.ias 2 (t 61) (t 63))), P (g 65 60 (.fa 0 (t 64))), W (g 66 60 (.ld none
  (t 65))), P (g 67 60 (.mv (t 1))), P (g 68 60 (.mv (t 5))), P (g 69 60 (.ias 2 (t 67) (t 68))), P (g 70 60 (.fa 0 (t 69))), W (g 71 60 (.ld none (t 70))), P (g 72 60 (.ar .gtr (t
  66) (t 71))), P (o 73 (.pk (t 60) (t 72) F)), P (m 57 73)]) (Y [1, 2, 5, 57])) (C 57 (Q (O [mc 4 (u 1)]) R) X))))))))))) (O [m 14 5, ad 15 14, m 5 15])))
def c_truchmanref02_bundle : AC :=
  (Q (O [o 2 (.bx t_api_Lexicon (t 0)), mc 4 (u 0)]) (Q (Q (O [m 7 1, ls 8 7, o 9 (.ar .gtr (t 8) (i 8))]) (C 9 (Q (O [mc 4 (u 3)]) R) X)) (Q (Q (O [mc 5 (i 0)]) (Q (.block 0 (.loop
  ⟨(some [1, 2, 5]), [], false⟩ l_truchmanref02_bundle_0)) (Y []))) (Q (O [mc 4 (u 0)]) R))))
def a_truchmanref02_bundle : AFn := ⟨c_truchmanref02_bundle, 74, [.t 4], .drop, [], none⟩
theorem q_truchmanref02_bundle : a_truchmanref02_bundle.res = [.t 4] ∧ a_truchmanref02_bundle.mode = .drop ∧ a_truchmanref02_bundle.dfr = none := ⟨rfl, rfl, rfl⟩
def c_slices_ContainsFunc_api_Trait_api_Trait : AC :=
  (Q (O [mc 4 F]) (Q (Q (O [m 5 0, m 6 1, k 7 (f f_slices_IndexFunc_api_Trait_api_Trait) [(t 5), (t 6)], o 8 (.ar .geq (t 7) (i 0)), m 4 8]) (Y [4])) R))
def a_slices_ContainsFunc_api_Trait_api_Trait : AFn := ⟨c_slices_ContainsFunc_api_Trait_api_Trait, 9, [.t 4], .drop, [], none⟩
theorem q_slices_ContainsFunc_api_Trait_api_Trait : a_slices_ContainsFunc_api_Trait_api_Trait.res = [.t 4] ∧ a_slices_ContainsFunc_api_Trait_api_Trait.mode = .drop ∧ a_slices_ContainsFunc_api_Trait_api_Trait.dfr = none := ⟨rfl, rfl, rfl⟩
def c_morph_checker_trait_1 : AC :=
  (Q (O [o 2 (.bx t_api_Trait (t 0)), mc 3 F]) (Q (Q (O [fa 4 0 2, ld 5 4, fa 6 0 1, ld 7 6, o 8 (.ar .eql (t 5) (t 7)), m 3 8]) (Y [3])) R))
def a_morph_checker_trait_1 : AFn := ⟨c_morph_checker_trait_1, 9, [.t 3], .drop, [], none⟩
theorem q_morph_checker_trait_1 : a_morph_checker_trait_1.res = [.t 3] ∧ a_morph_checker_trait_1.mode = .drop ∧ a_morph_checker_trait_1.dfr = none := ⟨rfl, rfl, rfl⟩
def c_slices_ContainsFunc_api_Class_api_Class : AC :=
  (Q (O [mc 4 F]) (Q (Q (O [m 5 0, m 6 1, k 7 (f f_slices_IndexFunc_api_Class_api_Class) [(t 5), (t 6)], o 8 (.ar .geq (t 7) (i 0)), m 4 8]) (Y [4])) R))
def a_slices_ContainsFunc_api_Class_api_Class : AFn := ⟨c_slices_ContainsFunc_api_Class_api_Class, 9, [.t 4], .drop, [], none⟩
theorem q_slices_ContainsFunc_api_Class_api_Class : a_slices_ContainsFunc_api_Class_api_Class.res = [.t 4] ∧ a_slices_ContainsFunc_api_Class_api_Class.mode = .drop ∧ a_slices_ContainsFunc_api_Class_api_Class.dfr = none := ⟨rfl, rfl, rfl⟩
def c_morph_checker_class_1 : AC :=
  (Q (O [o 2 (.bx t_api_Class (t 0)), mc 3 F]) (Q (Q (O [fa 4 0 2, ld 5 4, fa 6 0 1, ld 7 6, o 8 (.ar .eql (t 5) (t 7)), m 3 8]) (Y [3])) R))
def a_morph_checker_class_1 : AFn := ⟨c_morph_checker_class_1, 9, [.t 3], .drop, [], none⟩
theorem q_morph_checker_class_1 : a_morph_checker_class_1.res = [.t 3] ∧ a_morph_checker_class_1.mode = .drop ∧ a_morph_checker_class_1.dfr = none := ⟨rfl, rfl, rfl⟩
def l_morph_each_api_Slot_0 : AC :=
  (Q (O [bl 17 16 15]) (Q (C 17 X (.exit 0)) (Q (.block 1 (Q (Q (O [m 18 16, ia 19 4 14 16, la 20 4 19, o 8 (.nw [(.int .i64 0), (.str []), (.str []), (.slice .nil 2 [])] t_api_Slot),
  m 7 18, n (.st 4 (t 8) (t 20))]) (Y [2, 7, 8, 14, 15, 16])) (Q (Q (O [m 21 2, m 22 7, la 23 4 8, k 24 (t 21) [(t 22), (t 23)], m 9 24]) (Y [2, 9, 14, 15, 16])) (Q (O [m 25 9, o 26
  (.ar .neq (t 25) (u 0))]) (C 26 (Q (O [m 27 9, m 6 27]) R) X))))) (O [ad 28 16, m 16 28]))))
def c_morph_each_api_Slot : AC :=
  (Q (O [mc 6 (u 0)]) (Q (Q (Q (O [m 10 0, ls 11 10, m 12 1, o 13 (.ar .gtr (t 11) (t 12))]) (Y [0, 2, 13])) (C 13 (Q (O [mc 6 (u 3)]) R) X)) (Q (Q (O [m 14 0, ls 15 14, mc 16 (i 0)])
  (Q (.block 0 (.loop ⟨(some [2, 14, 15, 16]), [], true⟩ l_morph_each_api_Slot_0)) (Y []))) (Q (O [mc 6 (u 0)]) R))))
def a_morph_each_api_Slot : AFn := ⟨c_morph_each_api_Slot, 29, [.t 6], .drop, [], none⟩
theorem q_morph_each_api_Slot : a_morph_each_api_Slot.res = [.t 6] ∧ a_morph_each_api_Slot.mode = .drop ∧ a_morph_each_api_Slot.dfr = none := ⟨rfl, rfl, rfl⟩
def c_morph_checker_class_2 : AC :=
  (Q (O [o 4 (.bx t_api_Slot (t 1)), mc 5 (u 0)]) (Q (Q (Q (O [fa 6 0 4, ld 7 6, o 8 (.ar .lss (t 7) (i 0)), m 9 8, h 10 9 (.fa 0 (t 4)), h 11 9 (.ld none (t 10)), h 12 9 (.ar .gtr (t
  11) (i 24)), o 13 (.pk (t 9) T (t 12)), m 14 13, h 15 14 (.fa 1 (t 4)), h 16 14 (.ld none (t 15)), ⟨(some 17), (some (14, false)), (.call (.c (.fn (.func f_morph_short) [] [])) [(.t
  16), (.c (.fn (.func f_morph_letter) [] []))])⟩, h 18 14 (.un .not (t 17)), o 19 (.pk (t 14) T (t 18)), m 20 19, h 21 20 (.fa 2 (t 4)), h 22 20 (.ld none (t 21)), ⟨(some 23), (some
  (20, false)), (.call (.c (.fn (.func f_morph_short) [] [])) [(.t 22), (.c (.fn (.func f_morph_letter) [] []))])⟩, h 24 20 (.un .not (t 23)), o 25 (.pk (t 20) T (t 24))]) (Y [2, 4,
  25])) (C 25 (Q (O [mc 5 (u 1)]) R) X)) (Q (Q (O [la 26 6 2, fa 27 3 4, ld 28 27, k 29 (f f_morph_checker_bundle) [(t 26), (t 28)], m 5 29]) (Y [5])) R)))
def a_morph_checker_class_2 : AFn := ⟨c_morph_checker_class_2, 30, [.t 5], .drop, [], none⟩
theorem q_morph_checker_class_2 : a_morph_checker_class_2.res = [.t 5] ∧ a_morph_checker_class_2.mode = .drop ∧ a_morph_checker_class_2.dfr = none := ⟨rfl, rfl, rfl⟩
def c_morph_short : AC :=
  (Q (O [mc 4 F]) (Q (Q (O [m 5 0, lt 6 5, o 7 (.ar .leq (t 6) (i 6)), m 8 7, g 9 8 (.mv (t 0)), g 10 8 (.mv (t 1)), ⟨(some 11), (some (8, true)), (.call (.c (.fn (.func f_morph_all)
  [] [])) [(.t 9), (.t 10)])⟩, o 12 (.pk (t 8) (t 11) F), m 4 12]) (Y [4])) R))
def a_morph_short : AFn := ⟨c_morph_short, 13, [.t 4], .drop, [], none⟩
theorem q_morph_short : a_morph_short.res = [.t 4] ∧ a_morph_short.mode = .drop ∧ a_morph_short.dfr = none := ⟨rfl, rfl, rfl⟩
def c_slices_ContainsFunc_api_Entry_api_Entry : AC :=
  (Q (O [mc 4 F]) (Q (Q (O [m 5 0, m 6 1, k 7 (f f_slices_IndexFunc_api_Entry_api_Entry) [(t 5), (t 6)], o 8 (.ar .geq (t 7) (i 0)), m 4 8]) (Y [4])) R))
def a_slices_ContainsFunc_api_Entry_api_Entry : AFn := ⟨c_slices_ContainsFunc_api_Entry_api_Entry, 9, [.t 4], .drop, [], none⟩
theorem q_slices_ContainsFunc_api_Entry_api_Entry : a_slices_ContainsFunc_api_Entry_api_Entry.res = [.t 4] ∧ a_slices_ContainsFunc_api_Entry_api_Entry.mode = .drop ∧ a_slices_ContainsFunc_api_Entry_api_Entry.dfr = none := ⟨rfl, rfl, rfl⟩
def c_morph_checker_entry_1 : AC :=
  (Q (O [o 2 (.bx t_api_Entry (t 0)), mc 3 F]) (Q (Q (O [fa 4 0 2, ld 5 4, fa 6 0 1, ld 7 6, o 8 (.ar .eql (t 5) (t 7)), m 9 8, g 10 9 (.fa 1 (t 2)), g 11 9 (.ld none (t 10)), g 12 9
  (.fa 1 (t 1)), g 13 9 (.ld none (t 12)), g 14 9 (.ar .eql (t 11) (t 13)), o 15 (.pk (t 9) (t 14) F), m 3 15]) (Y [3])) R))
def a_morph_checker_entry_1 : AFn := ⟨c_morph_checker_entry_1, 16, [.t 3], .drop, [], none⟩
theorem q_morph_checker_entry_1 : a_morph_checker_entry_1.res = [.t 3] ∧ a_morph_checker_entry_1.mode = .drop ∧ a_morph_checker_entry_1.dfr = none := ⟨rfl, rfl, rfl⟩
def c_slices_ContainsFunc_api_Slot_api_Slot : AC :=
  (Q (O [mc 4 F]) (Q (Q (O [m 5 0, m 6 1, k 7 (f f_slices_IndexFunc_api_Slot_api_Slot) [(t 5), (t 6)], o 8 (.ar .geq (t 7) (i 0)), m 4 8]) (Y [4])) R))
def a_slices_ContainsFunc_api_Slot_api_Slot : AFn := ⟨c_slices_ContainsFunc_api_Slot_api_Slot, 9, [.t 4], .drop, [], none⟩
theorem q_slices_ContainsFunc_api_Slot_api_Slot : a_slices_ContainsFunc_api_Slot_api_Slot.res = [.t 4] ∧ a_slices_ContainsFunc_api_Slot_api_Slot.mode = .drop ∧ a_slices_ContainsFunc_api_Slot_api_Slot.dfr = none := ⟨rfl, rfl, rfl⟩
def c_morph_checker_entry_2 : AC :=
  (Q (O [o 2 (.bx t_api_Slot (t 0)), mc 3 F]) (Q (Q (O [fa 4 2 1, ld 5 4, fa 6 3 2, ld 7 6, k 8 (f f_morph_clash) [(t 5), (t 7)], m 3 8]) (Y [3])) R))
def a_morph_checker_entry_2 : AFn := ⟨c_morph_checker_entry_2, 9, [.t 3], .drop, [], none⟩
theorem q_morph_checker_entry_2 : a_morph_checker_entry_2.res = [.t 3] ∧ a_morph_checker_entry_2.mode = .drop ∧ a_morph_checker_entry_2.dfr = none := ⟨rfl, rfl, rfl⟩
def c_slices_ContainsFunc_api_Irregular_api_Irregular : AC :=
  (Q (O [mc 4 F]) (Q (Q (O [m 5 0, m 6 1, k 7 (f f_slices_IndexFunc_api_Irregular_api_Irregular) [(t 5), (t 6)], o 8 (.ar .geq (t 7) (i 0)), m 4 8]) (Y [4])) R))
def a_slices_ContainsFunc_api_Irregular_api_Irregular : AFn := ⟨c_slices_ContainsFunc_api_Irregular_api_Irregular, 9, [.t 4], .drop, [], none⟩
theorem q_slices_ContainsFunc_api_Irregular_api_Irregular : a_slices_ContainsFunc_api_Irregular_api_Irregular.res = [.t 4] ∧ a_slices_ContainsFunc_api_Irregular_api_Irregular.mode = .drop ∧ a_slices_ContainsFunc_api_Irregular_api_Irregular.dfr = none := ⟨rfl, rfl, rfl⟩
def c_morph_checker_entry_3 : AC :=
  (Q (O [o 2 (.bx t_api_Irregular (t 0)), mc 3 F]) (Q (Q (O [fa 4 0 2, ld 5 4, fa 6 0 1, ld 7 6, o 8 (.ar .eql (t 5) (t 7)), m 3 8]) (Y [3])) R))
def a_morph_checker_entry_3 : AFn := ⟨c_morph_checker_entry_3, 9, [.t 3], .drop, [], none⟩
theorem q_morph_checker_entry_3 : a_morph_checker_entry_3.res = [.t 3] ∧ a_morph_checker_entry_3.mode = .drop ∧ a_morph_checker_entry_3.dfr = none := ⟨rfl, rfl, rfl⟩
def c_morph_around : AC :=
  (Q (O [mc 2 F]) (Q (Q (O [m 3 0, k 4 (f f_morph_symbol) [(t 3)], m 5 4, h 6 5 (.mv (t 0)), h 7 5 (.ar .eql (t 6) (u 35)), o 8 (.pk (t 5) T (t 7)), m 9 8, h 10 9 (.mv (t 0)), h 11 9
  (.ar .eql (t 10) (u 86)), o 12 (.pk (t 9) T (t 11)), m 13 12, h 14 13 (.mv (t 0)), h 15 13 (.ar .eql (t 14) (u 67)), o 16 (.pk (t 13) T (t 15)), m 2 16]) (Y [2])) R))
def a_morph_around : AFn := ⟨c_morph_around, 17, [.t 2], .drop, [], none⟩
theorem q_morph_around : a_morph_around.res = [.t 2] ∧ a_morph_around.mode = .drop ∧ a_morph_around.dfr = none := ⟨rfl, rfl, rfl⟩
def l_morph_each_api_Feat_0 : AC :=
  (Q (O [bl 17 16 15]) (Q (C 17 X (.exit 0)) (Q (.block 1 (Q (Q (O [m 18 16, ia 19 2 14 16, la 20 2 19, o 8 (.nw [(.str []), (.str [])] t_api_Feat), m 7 18, n (.st 2 (t 8) (t 20))])
  (Y [2, 7, 8, 14, 15, 16])) (Q (Q (O [m 21 2, m 22 7, la 23 2 8, k 24 (t 21) [(t 22), (t 23)], m 9 24]) (Y [2, 9, 14, 15, 16])) (Q (O [m 25 9, o 26 (.ar .neq (t 25) (u 0))]) (C 26 (Q
  (O [m 27 9, m 6 27]) R) X))))) (O [ad 28 16, m 16 28]))))
def c_morph_each_api_Feat : AC :=
  (Q (O [mc 6 (u 0)]) (Q (Q (Q (O [m 10 0, ls 11 10, m 12 1, o 13 (.ar .gtr (t 11) (t 12))]) (Y [0, 2, 13])) (C 13 (Q (O [mc 6 (u 3)]) R) X)) (Q (Q (O [m 14 0, ls 15 14, mc 16 (i 0)])
  (Q (.block 0 (.loop ⟨(some [2, 14, 15, 16]), [], true⟩ l_morph_each_api_Feat_0)) (Y []))) (Q (O [mc 6 (u 0)]) R))))
def a_morph_each_api_Feat : AFn := ⟨c_morph_each_api_Feat, 29, [.t 6], .drop, [], none⟩
theorem q_morph_each_api_Feat : a_morph_each_api_Feat.res = [.t 6] ∧ a_morph_each_api_Feat.mode = .drop ∧ a_morph_each_api_Feat.dfr = none := ⟨rfl, rfl, rfl⟩
def c_morph_checker_bundle_1 : AC :=
  (Q (O [o 5 (.bx t_api_Feat (t 1)), mc 6 (u 0)]) (Q (Q (O [fa 8 0 2, fa 9 1 8, ld 10 9, o 11 (.mf (.func f_morph_checker_bundle_1_1) [] [(t 5)]), k 12 (f
  f_slices_IndexFunc_api_Trait_api_Trait) [(t 10), (t 11)], m 7 12]) (Y [0, 2, 3, 5, 7])) (Q (.block 0 (Q (O [m 14 7, o 15 (.ar .lss (t 14) (i 0)), m 13 15]) (C 13 (Q (O [mc 6 (u 5)])
  R) (Q (Q (D [P (fa 17 0 2), P (fa 18 1 17), W (ld 19 18), P (m 20 7), P (ia 21 2 19 20), P (fa 22 1 21), W (ld 23 22), P (fa 24 1 5), W (ld 25 24), E (k 26 (f
  f_slices_Contains_string_string) [(t 23), (t 25)]), P (no 27 26), P (m 16 27)]) (Y [0, 3, 5, 16])) (C 16 (Q (O [mc 6 (u 1)]) R) (Q (Q (D [P (m 29 0), P (o 30 (.ar .gtr (t 29) (i
  0))), P (m 31 30), W (g 32 31 (.ld none (t 3))), P (g 33 31 (.mv (t 0))), P (g 34 31 (.ar .sub (t 33) (i 1))), P (g 35 31 (.ias 2 (t 32) (t 34))), P (g 36 31 (.fa 0 (t 35))), W (g
  37 31 (.ld none (t 36))), P (g 38 31 (.fa 0 (t 5))), W (g 39 31 (.ld none (t 38))), P (g 40 31 (.ar .eql (t 37) (t 39))), P (o 41 (.pk (t 31) (t 40) F)), P (m 28 41)]) (Y [0, 3, 5,
  28])) (C 28 (Q (O [mc 6 (u 6)]) R) (Q (Q (D [P (m 43 0), P (o 44 (.ar .gtr (t 43) (i 0))), P (m 45 44), W (g 46 45 (.ld none (t 3))), P (g 47 45 (.mv (t 0))), P (g 48 45 (.ar .sub
  (t 47) (i 1))), P (g 49 45 (.ias 2 (t 46) (t 48))), P (g 50 45 (.fa 0 (t 49))), W (g 51 45 (.ld none (t 50))), P (g 52 45 (.fa 0 (t 5))), W (g 53 45 (.ld none (t 52))), P (g 54 45
  (.ar .gtr (t 51) (t 53))), P (o 55 (.pk (t 45) (t 54) F)), P (m 42 55)]) (Y [42])) (C 42 (Q (O [mc 6 (u 1)]) R) X))))))))) (Q (O [mc 6 (u 0)]) R))))
def a_morph_checker_bundle_1 : AFn := ⟨c_morph_checker_bundle_1, 56, [.t 6], .drop, [], none⟩
theorem q_morph_checker_bundle_1 : a_morph_checker_bundle_1.res = [.t 6] ∧ a_morph_checker_bundle_1.mode = .drop ∧ a_morph_checker_bundle_1.dfr = none := ⟨rfl, rfl, rfl⟩
def l_slices_IndexFunc_api_Trait_api_Trait_0 : AC :=
  (Q (O [bl 9 8 7]) (Q (C 9 X (.exit 0)) (Q (.block 1 (Q (O [m 10 8, m 5 10]) (Q (Q (O [m 11 1, m 12 0, m 13 5, ia 14 2 12 13, la 15 2 14, k 16 (t 11) [(t 15)]]) (Y [0, 1, 5, 7, 8,
  16])) (C 16 (Q (O [m 17 5, m 4 17]) R) X)))) (O [ad 18 8, m 8 18]))))
def c_slices_IndexFunc_api_Trait_api_Trait : AC :=
  (Q (O [mc 4 (i 0)]) (Q (Q (O [m 6 0, ls 7 6, mc 8 (i 0)]) (Q (.block 0 (.loop ⟨(some [0, 1, 7, 8]), [], false⟩ l_slices_IndexFunc_api_Trait_api_Trait_0)) (Y []))) (Q (O [mc 4 (i
  (-1))]) R)))
def a_slices_IndexFunc_api_Trait_api_Trait : AFn := ⟨c_slices_IndexFunc_api_Trait_api_Trait, 19, [.t 4], .drop, [], none⟩
theorem q_slices_IndexFunc_api_Trait_api_Trait : a_slices_IndexFunc_api_Trait_api_Trait.res = [.t 4] ∧ a_slices_IndexFunc_api_Trait_api_Trait.mode = .drop ∧ a_slices_IndexFunc_api_Trait_api_Trait.dfr = none := ⟨rfl, rfl, rfl⟩
def c_morph_checker_bundle_1_1 : AC :=
  (Q (O [o 2 (.bx t_api_Trait (t 0)), mc 3 F]) (Q (Q (O [fa 4 0 2, ld 5 4, fa 6 0 1, ld 7 6, o 8 (.ar .eql (t 5) (t 7)), m 3 8]) (Y [3])) R))
def a_morph_checker_bundle_1_1 : AFn := ⟨c_morph_checker_bundle_1_1, 9, [.t 3], .drop, [], none⟩
theorem q_morph_checker_bundle_1_1 : a_morph_checker_bundle_1_1.res = [.t 3] ∧ a_morph_checker_bundle_1_1.mode = .drop ∧ a_morph_checker_bundle_1_1.dfr = none := ⟨rfl, rfl, rfl⟩
def l_slices_IndexFunc_api_Class_api_Class_0 : AC :=
  (Q (O [bl 9 8 7]) (Q (C 9 X (.exit 0)) (Q (.block 1 (Q (O [m 10 8, m 5 10]) (Q (Q (O [m 11 1, m 12 0, m 13 5, ia 14 2 12 13, la 15 2 14, k 16 (t 11) [(t 15)]]) (Y [0, 1, 5, 7, 8,
  16])) (C 16 (Q (O [m 17 5, m 4 17]) R) X)))) (O [ad 18 8, m 8 18]))))
def c_slices_IndexFunc_api_Class_api_Class : AC :=
  (Q (O [mc 4 (i 0)]) (Q (Q (O [m 6 0, ls 7 6, mc 8 (i 0)]) (Q (.block 0 (.loop ⟨(some [0, 1, 7, 8]), [], false⟩ l_slices_IndexFunc_api_Class_api_Class_0)) (Y []))) (Q (O [mc 4 (i
  (-1))]) R)))
def a_slices_IndexFunc_api_Class_api_Class : AFn := ⟨c_slices_IndexFunc_api_Class_api_Class, 19, [.t 4], .drop, [], none⟩
theorem q_slices_IndexFunc_api_Class_api_Class : a_slices_IndexFunc_api_Class_api_Class.res = [.t 4] ∧ a_slices_IndexFunc_api_Class_api_Class.mode = .drop ∧ a_slices_IndexFunc_api_Class_api_Class.dfr = none := ⟨rfl, rfl, rfl⟩
def c_morph_classOf_1 : AC :=
  (Q (O [o 2 (.bx t_api_Class (t 0)), mc 3 F]) (Q (Q (O [fa 4 0 2, ld 5 4, ld 6 1, o 7 (.ar .eql (t 5) (t 6)), m 3 7]) (Y [3])) R))
def a_morph_classOf_1 : AFn := ⟨c_morph_classOf_1, 8, [.t 3], .drop, [], none⟩
theorem q_morph_classOf_1 : a_morph_classOf_1.res = [.t 3] ∧ a_morph_classOf_1.mode = .drop ∧ a_morph_classOf_1.dfr = none := ⟨rfl, rfl, rfl⟩
def c_slices_Grow_api_Feat_api_Feat : AC :=
  (Q (O [mc 4 (.c (.slice .nil 2 []))]) (Q (Q (O [m 5 1, o 6 (.ar .lss (t 5) (i 0))]) (C 6 (O [o 7 (.mi t_string (s [99, 97, 110, 110, 111, 116, 32, 98, 101, 32, 110, 101, 103, 97,
  116, 105, 118, 101])), ⟨none, none, (.panic (.t 7))⟩]) X)) (Q (Q (Q (O [m 8 1, m 9 0, o 10 (.cap (t 9)), m 11 0, ls 12 11, o 13 (.ar .sub (t 10) (t 12)), o 14 (.ar .sub (t 8) (t
  13)), m 1 14]) (Y [0, 1])) (Q (O [m 15 1, o 16 (.ar .gtr (t 15) (i 0))]) (C 16 (Q (O [m 17 0, m 18 0, o 19 (.cap (t 18)), o 20 (.sll 2 (t 17) none (some (t 19)) none), m 21 1, o 22
  (.apz t_api_Feat 2 32 [(.str []), (.str [])] (t 20) (t 21)), m 23 0, ls 24 23, o 25 (.sll 2 (t 22) none (some (t 24)) none), m 0 25]) (Y [0])) X))) (Q (O [m 26 0, m 4 26]) R))))
def a_slices_Grow_api_Feat_api_Feat : AFn := ⟨c_slices_Grow_api_Feat_api_Feat, 27, [.t 4], .keep, [], none⟩
theorem q_slices_Grow_api_Feat_api_Feat : a_slices_Grow_api_Feat_api_Feat.res = [.t 4] ∧ a_slices_Grow_api_Feat_api_Feat.mode = .keep ∧ a_slices_Grow_api_Feat_api_Feat.dfr = none := ⟨rfl, rfl, rfl⟩
def c_internal_bytealg_CompareString : AC :=
  (Q (O [mc 4 (i 0)]) (Q (Q (O [m 5 0, m 6 1, k 7 (f f_internal_bytealg_abigen_runtime_cmpstring) [(t 5), (t 6)], m 4 7]) (Y [4])) R))
def a_internal_bytealg_CompareString : AFn := ⟨c_internal_bytealg_CompareString, 8, [.t 4], .drop, [], none⟩
theorem q_internal_bytealg_CompareString : a_internal_bytealg_CompareString.res = [.t 4] ∧ a_internal_bytealg_CompareString.mode = .drop ∧ a_internal_bytealg_CompareString.dfr = none := ⟨rfl, rfl, rfl⟩
def c_truchmanref02_Letter : AC :=
  (Q (O [mc 2 F]) (Q (Q (O [m 3 0, o 4 (.ar .geq (t 3) (u 97)), m 5 4, g 6 5 (.mv (t 0)), g 7 5 (.ar .leq (t 6) (u 122)), o 8 (.pk (t 5) (t 7) F), m 2 8]) (Y [2])) R))
def a_truchmanref02_Letter : AFn := ⟨c_truchmanref02_Letter, 9, [.t 2], .drop, [], none⟩
theorem q_truchmanref02_Letter : a_truchmanref02_Letter.res = [.t 2] ∧ a_truchmanref02_Letter.mode = .drop ∧ a_truchmanref02_Letter.dfr = none := ⟨rfl, rfl, rfl⟩
def l_truchmanref02_Name_0 : AC :=
  (Q (Q (Q (O [m 14 3, m 15 0, lt 16 15, bl 17 14 16]) (Y [0, 3, 17])) (C 17 X (.exit 0))) (Q (.block 1 (Q (Q (O [m 20 0, m 21 3, o 22 (.ixs (t 20) (t 21)), o 23 (.ar .geq (t 22) (u
  65)), m 24 23, g 25 24 (.mv (t 0)), g 26 24 (.mv (t 3)), g 27 24 (.ixs (t 25) (t 26)), g 28 24 (.ar .leq (t 27) (u 90)), o 29 (.pk (t 24) (t 28) F), m 4 29]) (Y [0, 3, 4])) (Q (Q (O
  [m 30 0, m 31 3, o 32 (.ixs (t 30) (t 31)), o 33 (.ar .geq (t 32) (u 48)), m 34 33, g 35 34 (.mv (t 0)), g 36 34 (.mv (t 3)), g 37 34 (.ixs (t 35) (t 36)), g 38 34 (.ar .leq (t 37)
  (u 57)), o 39 (.pk (t 34) (t 38) F), m 5 39]) (Y [0, 3, 4, 5])) (Q (Q (O [m 40 0, m 41 3, o 42 (.ixs (t 40) (t 41)), k 43 (f f_truchmanref02_Letter) [(t 42)], no 44 43, m 45 44, g
  46 45 (.mv (t 4)), g 47 45 (.un .not (t 46)), o 48 (.pk (t 45) (t 47) F), m 49 48, g 50 49 (.mv (t 3)), g 51 49 (.ar .eql (t 50) (i 0)), g 52 49 (.mv (t 51)), h 53 52 (.mv (t 5)), h
  54 52 (.un .not (t 53)), h 55 52 (.mv (t 54)), g 56 55 (.mv (t 0)), g 57 55 (.mv (t 3)), g 58 55 (.ixs (t 56) (t 57)), g 59 55 (.ar .neq (t 58) (u 95)), h 60 52 (.pk (t 55) (t 59)
  F), g 61 49 (.pk (t 52) T (t 60)), o 62 (.pk (t 49) (t 61) F)]) (Y [0, 3, 62])) (C 62 (Q (O [mc 2 F]) R) X))))) (O [m 18 3, ad 19 18, m 3 19])))
def c_truchmanref02_Name : AC :=
  (Q (O [mc 2 F]) (Q (Q (Q (O [m 6 0, lt 7 6, o 8 (.ar .lss (t 7) (i 1)), m 9 8, h 10 9 (.mv (t 0)), h 11 9 (.len .str (t 10)), h 12 9 (.ar .gtr (t 11) (i 12)), o 13 (.pk (t 9) T (t
  12))]) (Y [0, 13])) (C 13 (Q (O [mc 2 F]) R) X)) (Q (Q (O [mc 3 (i 0)]) (Q (.block 0 (.loop ⟨(some [0, 3]), [], false⟩ l_truchmanref02_Name_0)) (Y []))) (Q (O [mc 2 T]) R))))
def a_truchmanref02_Name : AFn := ⟨c_truchmanref02_Name, 63, [.t 2], .drop, [], none⟩
theorem q_truchmanref02_Name : a_truchmanref02_Name.res = [.t 2] ∧ a_truchmanref02_Name.mode = .drop ∧ a_truchmanref02_Name.dfr = none := ⟨rfl, rfl, rfl⟩
def l_truchmanref02_trait_0 : AC :=
  (Q (Q (Q (O [m 6 5, fa 7 1 2, ld 8 7, ls 9 8, bl 10 6 9]) (Y [1, 2, 5, 10])) (C 10 X (.exit 0))) (Q (.block 1 (Q (Q (O [fa 13 1 2, ld 14 13, m 15 5, ia 16 2 14 15, fa 17 0 16, ld 18
  17, m 19 1, o 20 (.ar .eql (t 18) (t 19))]) (Y [1, 2, 5, 20])) (C 20 (Q (O [m 21 5, m 4 21]) R) X))) (O [m 11 5, ad 12 11, m 5 12])))
def c_truchmanref02_trait : AC :=
  (Q (O [o 2 (.bx t_api_Lexicon (t 0)), mc 4 (i 0)]) (Q (Q (O [mc 5 (i 0)]) (Q (.block 0 (.loop ⟨(some [1, 2, 5]), [], false⟩ l_truchmanref02_trait_0)) (Y []))) (Q (O [mc 4 (i (-1))])
  R)))
def a_truchmanref02_trait : AFn := ⟨c_truchmanref02_trait, 22, [.t 4], .drop, [], none⟩
theorem q_truchmanref02_trait : a_truchmanref02_trait.res = [.t 4] ∧ a_truchmanref02_trait.mode = .drop ∧ a_truchmanref02_trait.dfr = none := ⟨rfl, rfl, rfl⟩
def l_truchmanref02_in_0 : AC :=
  (Q (Q (Q (O [m 6 5, m 7 0, ls 8 7, bl 9 6 8]) (Y [0, 1, 5, 9])) (C 9 X (.exit 0))) (Q (.block 1 (Q (Q (O [m 12 0, m 13 5, ia 14 1 12 13, ld 15 14, m 16 1, o 17 (.ar .eql (t 15) (t
  16))]) (Y [0, 1, 5, 17])) (C 17 (Q (O [mc 4 T]) R) X))) (O [m 10 5, ad 11 10, m 5 11])))
def c_truchmanref02_in : AC :=
  (Q (O [mc 4 F]) (Q (Q (O [mc 5 (i 0)]) (Q (.block 0 (.loop ⟨(some [0, 1, 5]), [], false⟩ l_truchmanref02_in_0)) (Y []))) (Q (O [mc 4 F]) R)))
def a_truchmanref02_in : AFn := ⟨c_truchmanref02_in, 18, [.t 4], .drop, [], none⟩
theorem q_truchmanref02_in : a_truchmanref02_in.res = [.t 4] ∧ a_truchmanref02_in.mode = .drop ∧ a_truchmanref02_in.dfr = none := ⟨rfl, rfl, rfl⟩
def c_truchmanref02_Plain : AC :=
  (Q (O [mc 2 F]) (Q (Q (O [m 3 0, k 4 (f f_truchmanref02_Word) [(t 3)], m 5 4, g 6 5 (.mv (t 0)), ⟨(some 7), (some (5, true)), (.call (.c (.fn (.func f_truchmanref02_of) [] [])) [(.t
  6), (.c (.str []))])⟩, o 8 (.pk (t 5) (t 7) F), m 2 8]) (Y [2])) R))
def a_truchmanref02_Plain : AFn := ⟨c_truchmanref02_Plain, 9, [.t 2], .drop, [], none⟩
theorem q_truchmanref02_Plain : a_truchmanref02_Plain.res = [.t 2] ∧ a_truchmanref02_Plain.mode = .drop ∧ a_truchmanref02_Plain.dfr = none := ⟨rfl, rfl, rfl⟩
def l_slices_IndexFunc_api_Entry_api_Entry_0 : AC :=
  (Q (O [bl 9 8 7]) (Q (C 9 X (.exit 0)) (Q (.block 1 (Q (O [m 10 8, m 5 10]) (Q (Q (O [m 11 1, m 12 0, m 13 5, ia 14 4 12 13, la 15 4 14, k 16 (t 11) [(t 15)]]) (Y [0, 1, 5, 7, 8,
  16])) (C 16 (Q (O [m 17 5, m 4 17]) R) X)))) (O [ad 18 8, m 8 18]))))
def c_slices_IndexFunc_api_Entry_api_Entry : AC :=
  (Q (O [mc 4 (i 0)]) (Q (Q (O [m 6 0, ls 7 6, mc 8 (i 0)]) (Q (.block 0 (.loop ⟨(some [0, 1, 7, 8]), [], false⟩ l_slices_IndexFunc_api_Entry_api_Entry_0)) (Y []))) (Q (O [mc 4 (i
  (-1))]) R)))
def a_slices_IndexFunc_api_Entry_api_Entry : AFn := ⟨c_slices_IndexFunc_api_Entry_api_Entry, 19, [.t 4], .drop, [], none⟩
theorem q_slices_IndexFunc_api_Entry_api_Entry : a_slices_IndexFunc_api_Entry_api_Entry.res = [.t 4] ∧ a_slices_IndexFunc_api_Entry_api_Entry.mode = .drop ∧ a_slices_IndexFunc_api_Entry_api_Entry.dfr = none := ⟨rfl, rfl, rfl⟩
def l_slices_IndexFunc_api_Slot_api_Slot_0 : AC :=
  (Q (O [bl 9 8 7]) (Q (C 9 X (.exit 0)) (Q (.block 1 (Q (O [m 10 8, m 5 10]) (Q (Q (O [m 11 1, m 12 0, m 13 5, ia 14 4 12 13, la 15 4 14, k 16 (t 11) [(t 15)]]) (Y [0, 1, 5, 7, 8,
  16])) (C 16 (Q (O [m 17 5, m 4 17]) R) X)))) (O [ad 18 8, m 8 18]))))
def c_slices_IndexFunc_api_Slot_api_Slot : AC :=
  (Q (O [mc 4 (i 0)]) (Q (Q (O [m 6 0, ls 7 6, mc 8 (i 0)]) (Q (.block 0 (.loop ⟨(some [0, 1, 7, 8]), [], false⟩ l_slices_IndexFunc_api_Slot_api_Slot_0)) (Y []))) (Q (O [mc 4 (i
  (-1))]) R)))
def a_slices_IndexFunc_api_Slot_api_Slot : AFn := ⟨c_slices_IndexFunc_api_Slot_api_Slot, 19, [.t 4], .drop, [], none⟩
theorem q_slices_IndexFunc_api_Slot_api_Slot : a_slices_IndexFunc_api_Slot_api_Slot.res = [.t 4] ∧ a_slices_IndexFunc_api_Slot_api_Slot.mode = .drop ∧ a_slices_IndexFunc_api_Slot_api_Slot.dfr = none := ⟨rfl, rfl, rfl⟩
def l_slices_IndexFunc_api_Irregular_api_Irregular_0 : AC :=
  (Q (O [bl 9 8 7]) (Q (C 9 X (.exit 0)) (Q (.block 1 (Q (O [m 10 8, m 5 10]) (Q (Q (O [m 11 1, m 12 0, m 13 5, ia 14 2 12 13, la 15 2 14, k 16 (t 11) [(t 15)]]) (Y [0, 1, 5, 7, 8,
  16])) (C 16 (Q (O [m 17 5, m 4 17]) R) X)))) (O [ad 18 8, m 8 18]))))
def c_slices_IndexFunc_api_Irregular_api_Irregular : AC :=
  (Q (O [mc 4 (i 0)]) (Q (Q (O [m 6 0, ls 7 6, mc 8 (i 0)]) (Q (.block 0 (.loop ⟨(some [0, 1, 7, 8]), [], false⟩ l_slices_IndexFunc_api_Irregular_api_Irregular_0)) (Y []))) (Q (O [mc
  4 (i (-1))]) R)))
def a_slices_IndexFunc_api_Irregular_api_Irregular : AFn := ⟨c_slices_IndexFunc_api_Irregular_api_Irregular, 19, [.t 4], .drop, [], none⟩
theorem q_slices_IndexFunc_api_Irregular_api_Irregular : a_slices_IndexFunc_api_Irregular_api_Irregular.res = [.t 4] ∧ a_slices_IndexFunc_api_Irregular_api_Irregular.mode = .drop ∧ a_slices_IndexFunc_api_Irregular_api_Irregular.dfr = none := ⟨rfl, rfl, rfl⟩
def l_truchmanref02_Word_0 : AC :=
  (Q (Q (Q (O [m 12 3, m 13 0, lt 14 13, bl 15 12 14]) (Y [0, 3, 15])) (C 15 X (.exit 0))) (Q (.block 1 (Q (Q (O [m 18 0, m 19 3, o 20 (.ixs (t 18) (t 19)), o 21 (.ar .lss (t 20) (u
  33)), m 22 21, h 23 22 (.mv (t 0)), h 24 22 (.mv (t 3)), h 25 22 (.ixs (t 23) (t 24)), h 26 22 (.ar .gtr (t 25) (u 126)), o 27 (.pk (t 22) T (t 26))]) (Y [0, 3, 27])) (C 27 (Q (O
  [mc 2 F]) R) X))) (O [m 16 3, ad 17 16, m 3 17])))
def c_truchmanref02_Word : AC :=
  (Q (O [mc 2 F]) (Q (Q (Q (O [m 4 0, lt 5 4, o 6 (.ar .lss (t 5) (i 1)), m 7 6, h 8 7 (.mv (t 0)), h 9 7 (.len .str (t 8)), h 10 7 (.ar .gtr (t 9) (i 24)), o 11 (.pk (t 7) T (t
  10))]) (Y [0, 11])) (C 11 (Q (O [mc 2 F]) R) X)) (Q (Q (O [mc 3 (i 0)]) (Q (.block 0 (.loop ⟨(some [0, 3]), [], false⟩ l_truchmanref02_Word_0)) (Y []))) (Q (O [mc 2 T]) R))))
def a_truchmanref02_Word : AFn := ⟨c_truchmanref02_Word, 28, [.t 2], .drop, [], none⟩
theorem q_truchmanref02_Word : a_truchmanref02_Word.res = [.t 2] ∧ a_truchmanref02_Word.mode = .drop ∧ a_truchmanref02_Word.dfr = none := ⟨rfl, rfl, rfl⟩
end Go.Am
end

section

end

section
set_option linter.unusedSimpArgs false
namespace Go.Am
open Go.RowKit
attribute [local congr] dsel_congr sel_congr gsel_congr go_congr aft_congr aftD_congr condR_congr backR_congr inR_congr at2_congr
variable {E : REnv} (M : Mach cdec E)

/-- A small letter. -/
def isLo (c : UInt8) : Bool := decide (97 ≤ (c.toNat : Int)) && decide ((c.toNat : Int) ≤ 122)

theorem run_letter (h : E.fn f_morph_letter = some a_morph_letter) (c : UInt8) (H : List AObj) : M.run f_morph_letter [.int .u8 c.toNat] H = some (.ret (.bool (isLo c)), H) := by
  rw [run_c M h rfl (c := c_morph_letter) rfl, c_morph_letter]
  simp +contextual -implicitDefEqProofs only [am1 M, am2, am3, am4, ↓fget_at, Nat.reduceBEq, Nat.reduceAdd, env, fargs, (show a_morph_letter.res = [.t 2] from rfl), (show a_morph_letter.mode = .drop from rfl), (show a_morph_letter.dfr = none from rfl), beq_true, beq_false, Bool.and_true, Bool.true_and, Bool.and_false, Bool.false_and, isLo]

theorem run_Letter (h : E.fn f_truchmanref02_Letter = some a_truchmanref02_Letter) (c : UInt8) (H : List AObj) : M.run f_truchmanref02_Letter [.int .u8 c.toNat] H = some (.ret (.bool (isLo c)), H) := by
  rw [run_c M h rfl (c := c_truchmanref02_Letter) rfl, c_truchmanref02_Letter]
  simp +contextual -implicitDefEqProofs only [am1 M, am2, am3, am4, ↓fget_at, Nat.reduceBEq, Nat.reduceAdd, env, fargs, (show a_truchmanref02_Letter.res = [.t 2] from rfl), (show a_truchmanref02_Letter.mode = .drop from rfl), (show a_truchmanref02_Letter.dfr = none from rfl), beq_true, beq_false, Bool.and_true, Bool.true_and, Bool.and_false, Bool.false_and, isLo]

def isVis (c : UInt8) : Bool := decide (33 ≤ (c.toNat : Int)) && decide ((c.toNat : Int) ≤ 126)

theorem run_Word1 (h : E.fn f_morph_Word_1 = some a_morph_Word_1) (c : UInt8) (H : List AObj) : M.run f_morph_Word_1 [.int .u8 c.toNat] H = some (.ret (.bool (isVis c)), H) := by
  rw [run_c M h rfl (c := c_morph_Word_1) rfl, c_morph_Word_1]
  simp +contextual -implicitDefEqProofs only [am1 M, am2, am3, am4, ↓fget_at, Nat.reduceBEq, Nat.reduceAdd, env, fargs, (show a_morph_Word_1.res = [.t 2] from rfl), (show a_morph_Word_1.mode = .drop from rfl), (show a_morph_Word_1.dfr = none from rfl), beq_true, beq_false, Bool.and_true, Bool.true_and, Bool.and_false, Bool.false_and, isVis]

def isUp (c : UInt8) : Bool := decide (65 ≤ (c.toNat : Int)) && decide ((c.toNat : Int) ≤ 90)
def isDg (c : UInt8) : Bool := decide (48 ≤ (c.toNat : Int)) && decide ((c.toNat : Int) ≤ 57)

theorem run_Name1 (hl : E.fn f_morph_letter = some a_morph_letter) (h : E.fn f_morph_Name_1 = some a_morph_Name_1) (c : UInt8) (H : List AObj) : M.run f_morph_Name_1 [.int .u8 c.toNat] H = some (.ret (.bool (isLo c || isUp c)), H) := by
  rw [run_c M h rfl (c := c_morph_Name_1) rfl, c_morph_Name_1]
  simp +contextual -implicitDefEqProofs only [am1 M, am2, am3, am4, ↓fget_at, Nat.reduceBEq, Nat.reduceAdd, env, fargs, (show a_morph_Name_1.res = [.t 2] from rfl), (show a_morph_Name_1.mode = .drop from rfl), (show a_morph_Name_1.dfr = none from rfl), beq_true, beq_false, Bool.and_true, Bool.true_and, Bool.and_false, Bool.false_and, run_letter M hl]
  cases isLo c <;> simp [sel, isUp]
end Go.Am
end

section
set_option linter.unusedSimpArgs false
namespace Go.Am
open Go.RowKit
attribute [local congr] dsel_congr sel_congr gsel_congr go_congr aft_congr aftD_congr condR_congr backR_congr inR_congr at2_congr
variable {E : REnv} (M : Mach cdec E)

theorem run_Name2 (hl : E.fn f_morph_letter = some a_morph_letter) (h1 : E.fn f_morph_Name_1 = some a_morph_Name_1) (h : E.fn f_morph_Name_2 = some a_morph_Name_2) (c : UInt8) {H : List AObj} {T : TypeId} :
    M.run f_morph_Name_2 [.int .u8 c.toNat, .ptr H.length 0] (H ++ [.cells [.fn (.func f_morph_Name_1) [] []] T]) = some (.ret (.bool (isLo c || isUp c || isDg c || ((c.toNat : Int) == 95))), H ++ [.cells [.fn (.func f_morph_Name_1) [] []] T]) := by
  rw [run_c M h rfl (c := c_morph_Name_2) rfl, c_morph_Name_2]
  simp +contextual -implicitDefEqProofs only [am1 M, am2, am3, am4, ↓fget_at, Nat.reduceBEq, Nat.reduceAdd, env, fargs, (show a_morph_Name_2.res = [.t 3] from rfl), (show a_morph_Name_2.mode = .drop from rfl), (show a_morph_Name_2.dfr = none from rfl), beq_true, beq_false, Bool.and_true, Bool.true_and, Bool.and_false, Bool.false_and, run_Name1 M hl h1, List.nil_append, List.append_nil]
  rw [show H.length + 1 = (H ++ [AObj.cells [AV.fn (Fn.func f_morph_Name_1) [] []] T]).length by simp, List.take_length]
  rfl

theorem all_loop {g : Nat} {fr cap : List AV} {p : UInt8 → Bool} {s : List UInt8} (hs : s.length ≤ maxL) {H : List AObj} (hp : ∀ c : UInt8, M.run g (fr ++ .int .u8 c.toNat :: cap) H = some (.ret (.bool (p c)), H))
    {H0 : List AObj} (hc : CutOk H0 H) (k : List Fra) : ∀ (n i : Nat) (He : List AObj), i + n = s.length →
    M.go a_morph_all H0 (.c l_morph_all_0 :: .lp ⟨some [0, 1, 7, 8], [], false⟩ l_morph_all_0 He :: .blk 0 :: .c (.lv []) :: k) (kv [(0, .str s), (1, .fn (.func g) fr cap), (7, .int .i64 s.length), (8, .int .i64 i)]) H =
      sel ((s.drop i).all p) (M.go a_morph_all H0 k .leaf H) (some (.ret (.bool false), H.take H0.length))
  | 0, i, He, h => by
    have e : i = s.length := by omega
    subst e
    rw [go_head M l_morph_all_0.eq_1]
    simp +contextual -implicitDefEqProofs only [am1 M, am2, am3, am4, ↓fget_at, Nat.reduceBEq, Nat.reduceAdd, (show a_morph_all.res = [.t 4] from rfl), (show a_morph_all.mode = .drop from rfl), (show a_morph_all.dfr = none from rfl), beq_true, beq_false, decide_true, decide_false, Nat.lt_irrefl, List.drop_length, List.all_nil]
  | n + 1, i, He, h => by
    have hi : i < s.length := by omega
    have hx : s[i]? = some s[i] := List.getElem?_eq_getElem hi
    have hd : (s.drop i) = s[i] :: s.drop (i + 1) := List.drop_eq_getElem_cons hi
    have ih := all_loop hs hp hc k n (i + 1) H (by omega)
    simp only [kv_cons, kv_nil] at ih
    rw [go_head M l_morph_all_0.eq_1]
    simp +contextual -implicitDefEqProofs only [am1 M, am2, am3, am4, ↓fget_at, Nat.reduceBEq, Nat.reduceAdd, (show a_morph_all.res = [.t 4] from rfl), (show a_morph_all.mode = .drop from rfl), (show a_morph_all.dfr = none from rfl), beq_true, beq_false, decide_true, decide_false, hx, hp, wrap_s hi hs, hi, hc, ih, hd, List.all_cons]

theorem run_all (hf : E.fn f_morph_all = some a_morph_all) {g : Nat} {fr cap : List AV} {p : UInt8 → Bool} {s : List UInt8} (hs : s.length ≤ maxL) {H : List AObj} (hp : ∀ c : UInt8, M.run g (fr ++ .int .u8 c.toNat :: cap) H = some (.ret (.bool (p c)), H)) :
    M.run f_morph_all [.str s, .fn (.func g) fr cap] H = some (.ret (.bool (s.all p)), H) := by
  rw [run_c M hf rfl (c := c_morph_all) rfl, c_morph_all]
  have hl := fun k He => all_loop M hs hp (cut_refl H) k s.length 0 He (by omega)
  simp only [kv_cons, kv_nil, Int.ofNat_zero, List.drop_zero] at hl
  simp +contextual -implicitDefEqProofs only [am1 M, am2, am3, am4, ↓fget_at, Nat.reduceBEq, Nat.reduceAdd, env, fargs, (show a_morph_all.res = [.t 4] from rfl), (show a_morph_all.mode = .drop from rfl), (show a_morph_all.dfr = none from rfl), hl]
  rw [Bool.and_true]

structure NamesE (E : REnv) : Prop where
  letter : E.fn f_morph_letter = some a_morph_letter
  Letter : E.fn f_truchmanref02_Letter = some a_truchmanref02_Letter
  name1 : E.fn f_morph_Name_1 = some a_morph_Name_1
  name2 : E.fn f_morph_Name_2 = some a_morph_Name_2
  word1 : E.fn f_morph_Word_1 = some a_morph_Word_1
  all : E.fn f_morph_all = some a_morph_all
  name : E.fn f_morph_Name = some a_morph_Name
  word : E.fn f_morph_Word = some a_morph_Word
  plain : E.fn f_morph_Plain = some a_morph_Plain
  rname : E.fn f_truchmanref02_Name = some a_truchmanref02_Name
  rword : E.fn f_truchmanref02_Word = some a_truchmanref02_Word
  rplain : E.fn f_truchmanref02_Plain = some a_truchmanref02_Plain
  rof : E.fn f_truchmanref02_of = some a_truchmanref02_of

def wordF (s : List UInt8) : Bool := decide (1 ≤ (s.length : Int)) && decide ((s.length : Int) ≤ 24) && s.all isVis

theorem run_Word (hE : NamesE E) {s : List UInt8} (hs : s.length ≤ maxL) (H : List AObj) : M.run f_morph_Word [.str s] H = some (.ret (.bool (wordF s)), H) := by
  rw [run_c M hE.word rfl (c := c_morph_Word) rfl, c_morph_Word]
  have ha := run_all M hE.all (g := f_morph_Word_1) (fr := []) (cap := []) hs (H := H) (fun c => run_Word1 M hE.word1 c H)
  simp +contextual -implicitDefEqProofs only [am1 M, am2, am3, am4, ↓fget_at, Nat.reduceBEq, Nat.reduceAdd, env, fargs, beq_true, beq_false, decide_true, decide_false, Bool.and_true, Bool.true_and, Bool.and_false, Bool.false_and, List.nil_append, List.append_nil, (show a_morph_Word.res = [.t 2] from rfl), (show a_morph_Word.mode = .drop from rfl), (show a_morph_Word.dfr = none from rfl), ha, wordF]

def plainF (s : List UInt8) : Bool := wordF s && s.all isLo

theorem run_Plain (hE : NamesE E) {s : List UInt8} (hs : s.length ≤ maxL) (H : List AObj) : M.run f_morph_Plain [.str s] H = some (.ret (.bool (plainF s)), H) := by
  rw [run_c M hE.plain rfl (c := c_morph_Plain) rfl, c_morph_Plain]
  have ha := run_all M hE.all (g := f_morph_letter) (fr := []) (cap := []) hs (H := H) (fun c => run_letter M hE.letter c H)
  simp +contextual -implicitDefEqProofs only [am1 M, am2, am3, am4, ↓fget_at, Nat.reduceBEq, Nat.reduceAdd, env, fargs, beq_true, beq_false, decide_true, decide_false, Bool.and_true, Bool.true_and, Bool.and_false, Bool.false_and, List.nil_append, List.append_nil, (show a_morph_Plain.res = [.t 2] from rfl), (show a_morph_Plain.mode = .drop from rfl), (show a_morph_Plain.dfr = none from rfl), ha, run_Word M hE hs, plainF]
end Go.Am
end

section
set_option linter.unusedSimpArgs false
namespace Go.Am
open Go.RowKit
attribute [local congr] dsel_congr sel_congr gsel_congr go_congr aft_congr aftD_congr condR_congr backR_congr inR_congr at2_congr
variable {E : REnv} (M : Mach cdec E)

def isIn (c : UInt8) : Bool := isLo c || isUp c || isDg c || ((c.toNat : Int) == 95)

def nameF (s : List UInt8) : Bool := match s with
  | [] => false
  | c :: t => decide ((((c :: t).length : Nat) : Int) ≤ 12) && (isLo c || isUp c) && (c :: t).all isIn

theorem run_Name (hE : NamesE E) {s : List UInt8} (hs : s.length ≤ maxL) (H : List AObj) : M.run f_morph_Name [.str s] H = some (.ret (.bool (nameF s)), H) := by
  rw [run_c M hE.name rfl (c := c_morph_Name) rfl, c_morph_Name]
  have h2 : ∀ (T : TypeId) (c : UInt8), M.run f_morph_Name_2 ([] ++ .int .u8 c.toNat :: [.ptr H.length 0]) (H ++ [.cells [.fn (.func f_morph_Name_1) [] []] T]) = some (.ret (.bool (isIn c)), H ++ [.cells [.fn (.func f_morph_Name_1) [] []] T]) := fun T c => run_Name2 M hE.letter hE.name1 hE.name2 c
  have ha := fun T => run_all M hE.all (g := f_morph_Name_2) (fr := []) (cap := [.ptr H.length 0]) hs (h2 T)
  cases s with
  | nil =>
    simp +contextual -implicitDefEqProofs only [am1 M, am2, am3, am4, am5, setRow_nil, setRow_cons, List.set_cons_zero, List.length_cons, List.length_nil, Nat.zero_add, Nat.le_refl, List.all_cons, List.all_nil, AV.cell, List.cons_append, ↓fget_at, Nat.reduceBEq, Nat.reduceAdd, env, fargs, beq_true, beq_false, decide_true, decide_false, Bool.and_true, Bool.true_and, Bool.and_false, Bool.false_and, List.nil_append, List.append_nil, (show a_morph_Name.res = [.t 2] from rfl), (show a_morph_Name.mode = .drop from rfl), (show a_morph_Name.dfr = none from rfl), ha, run_Name1 M hE.letter hE.name1, nameF, List.length_nil, List.getElem?_nil, (show decide ((1 : Int) ≤ ((0 : Nat) : Int)) = false from rfl)]
  | cons c t =>
    have hlen : decide ((1 : Int) ≤ ((t.length + 1 : Nat) : Int)) = true := decide_eq_true (by omega)
    simp +contextual -implicitDefEqProofs only [am1 M, am2, am3, am4, am5, setRow_nil, setRow_cons, List.set_cons_zero, List.length_cons, List.length_nil, Nat.zero_add, Nat.le_refl, List.all_cons, List.all_nil, AV.cell, List.cons_append, ↓fget_at, Nat.reduceBEq, Nat.reduceAdd, env, fargs, beq_true, beq_false, decide_true, decide_false, Bool.and_true, Bool.true_and, Bool.and_false, Bool.false_and, List.nil_append, List.append_nil, (show a_morph_Name.res = [.t 2] from rfl), (show a_morph_Name.mode = .drop from rfl), (show a_morph_Name.dfr = none from rfl), ha, run_Name1 M hE.letter hE.name1, nameF, List.getElem?_cons_zero, hlen]
end Go.Am
end

section
set_option linter.unusedSimpArgs false
namespace Go.Am
open Go.RowKit
attribute [local congr] dsel_congr sel_congr gsel_congr go_congr aft_congr aftD_congr condR_congr backR_congr inR_congr at2_congr
variable {E : REnv} (M : Mach cdec E)

/-- As the reference says it: no byte lies outside. -/
def isInvis (c : UInt8) : Bool := decide ((c.toNat : Int) < 33) || decide (126 < (c.toNat : Int))

theorem not_invis : (fun c => !isInvis c) = isVis := by
  funext c
  rw [Bool.eq_iff_iff]
  simp [isInvis, isVis]

theorem rword_loop {s : List UInt8} (hs : s.length ≤ maxL) {H H0 : List AObj} (hc : CutOk H0 H) (k : List Fra) : ∀ (n i : Nat) (He : List AObj), i + n = s.length →
    M.go a_truchmanref02_Word H0 (.c l_truchmanref02_Word_0 :: .lp ⟨some [0, 3], [], false⟩ l_truchmanref02_Word_0 He :: .blk 0 :: .c (.lv []) :: k) (kv [(0, .str s), (3, .int .i64 i)]) H =
      sel ((s.drop i).all fun c => !isInvis c) (M.go a_truchmanref02_Word H0 k .leaf H) (some (.ret (.bool false), H.take H0.length))
  | 0, i, He, h => by
    have e : i = s.length := by omega
    subst e
    rw [go_head M l_truchmanref02_Word_0.eq_1]
    simp +contextual -implicitDefEqProofs only [am1 M, am2, am3, am4, ↓fget_at, Nat.reduceBEq, Nat.reduceAdd, (show a_truchmanref02_Word.res = [.t 2] from rfl), (show a_truchmanref02_Word.mode = .drop from rfl), (show a_truchmanref02_Word.dfr = none from rfl), beq_true, beq_false, decide_true, decide_false, Nat.lt_irrefl, List.drop_length, List.all_nil]
  | n + 1, i, He, h => by
    have hi : i < s.length := by omega
    have hx : s[i]? = some s[i] := List.getElem?_eq_getElem hi
    have hd : (s.drop i) = s[i] :: s.drop (i + 1) := List.drop_eq_getElem_cons hi
    have ih := rword_loop hs hc k n (i + 1) H (by omega)
    simp only [kv_cons, kv_nil] at ih
    rw [go_head M l_truchmanref02_Word_0.eq_1]
    simp +contextual -implicitDefEqProofs only [am1 M, am2, am3, am4, ↓fget_at, Nat.reduceBEq, Nat.reduceAdd, (show a_truchmanref02_Word.res = [.t 2] from rfl), (show a_truchmanref02_Word.mode = .drop from rfl), (show a_truchmanref02_Word.dfr = none from rfl), beq_true, beq_false, decide_true, decide_false, hx, wrap_s hi hs, hi, hc, ih, hd, List.all_cons, isInvis]
    generalize (decide ((s[i].toNat : Int) < 33) || decide ((126 : Int) < (s[i].toNat : Int))) = b
    cases b <;> simp only [sel, Bool.not_false, Bool.not_true, Bool.true_and, Bool.false_and]

theorem run_rWord (hE : NamesE E) {s : List UInt8} (hs : s.length ≤ maxL) (H : List AObj) : M.run f_truchmanref02_Word [.str s] H = some (.ret (.bool (wordF s)), H) := by
  rw [run_c M hE.rword rfl (c := c_truchmanref02_Word) rfl, c_truchmanref02_Word]
  have hl := fun k He => rword_loop M hs (cut_refl H) k s.length 0 He (by omega)
  simp only [kv_cons, kv_nil, Int.ofNat_zero, List.drop_zero] at hl
  simp +contextual -implicitDefEqProofs only [am1 M, am2, am3, am4, ↓fget_at, Nat.reduceBEq, Nat.reduceAdd, env, fargs, (show a_truchmanref02_Word.res = [.t 2] from rfl), (show a_truchmanref02_Word.mode = .drop from rfl), (show a_truchmanref02_Word.dfr = none from rfl), beq_true, beq_false, decide_true, decide_false, hl]
  rw [Bool.and_true, not_invis, wordF]
  have e : (!(decide ((s.length : Int) < 1) || decide ((24 : Int) < (s.length : Int)))) = (decide ((1 : Int) ≤ (s.length : Int)) && decide ((s.length : Int) ≤ 24)) := by
    rw [Bool.eq_iff_iff]; simp
  rw [e]

theorem run_rPlain (hE : NamesE E) {s : List UInt8} (hs : s.length ≤ maxL) (H : List AObj) (hof : M.run f_truchmanref02_of [.str s, .str []] H = some (.ret (.bool (s.all isLo)), H)) : M.run f_truchmanref02_Plain [.str s] H = some (.ret (.bool (plainF s)), H) := by
  rw [run_c M hE.rplain rfl (c := c_truchmanref02_Plain) rfl, c_truchmanref02_Plain]
  simp +contextual -implicitDefEqProofs only [am1 M, am2, am3, am4, ↓fget_at, Nat.reduceBEq, Nat.reduceAdd, env, fargs, (show a_truchmanref02_Plain.res = [.t 2] from rfl), (show a_truchmanref02_Plain.mode = .drop from rfl), (show a_truchmanref02_Plain.dfr = none from rfl), beq_true, beq_false, decide_true, decide_false, Bool.and_true, Bool.true_and, Bool.and_false, Bool.false_and, List.nil_append, List.append_nil, run_rWord M hE hs, hof, plainF]
end Go.Am
end

section
set_option linter.unusedSimpArgs false
namespace Go.Am
open Go.RowKit
attribute [local congr] dsel_congr sel_congr gsel_congr go_congr aft_congr aftD_congr condR_congr backR_congr inR_congr at2_congr
variable {E : REnv} (M : Mach cdec E)

theorem of_in {s more : List UInt8} (hs : s.length ≤ maxL) (hm : more.length ≤ maxL) {j : Nat} (hj : j < s.length) {H H0 : List AObj} (k : List Fra) : ∀ (n i : Nat) (b : Bool) (He : List AObj), i + n = more.length →
    M.go a_truchmanref02_of H0 (.c l_truchmanref02_of_0 :: .lp ⟨some [0, 1, 5, 6, 7], [], false⟩ l_truchmanref02_of_0 He :: .blk 2 :: .c (.lv [0, 1, 5, 6]) :: k) (kv [(0, .str s), (1, .str more), (5, .int .i64 j), (6, .bool b), (7, .int .i64 i)]) H =
      M.go a_truchmanref02_of H0 k (kv [(0, .str s), (1, .str more), (5, .int .i64 j), (6, .bool (b || (more.drop i).any fun c => ((s[j].toNat : Int) == (c.toNat : Int))))]) H
  | 0, i, b, He, h => by
    have e : i = more.length := by omega
    subst e
    rw [go_head M l_truchmanref02_of_0.eq_1]
    simp +contextual -implicitDefEqProofs only [am1 M, am2, am3, am4, am5, ↓fget_at, Nat.reduceBEq, Nat.reduceAdd, (show a_truchmanref02_of.res = [.t 4] from rfl), (show a_truchmanref02_of.mode = .drop from rfl), (show a_truchmanref02_of.dfr = none from rfl), beq_true, beq_false, decide_true, decide_false, Nat.lt_irrefl, List.drop_length, List.any_nil, Bool.or_false]
  | n + 1, i, b, He, h => by
    have hi : i < more.length := by omega
    have hx : more[i]? = some more[i] := List.getElem?_eq_getElem hi
    have hxj : s[j]? = some s[j] := List.getElem?_eq_getElem hj
    have hd : (more.drop i) = more[i] :: more.drop (i + 1) := List.drop_eq_getElem_cons hi
    have ih := fun b => of_in hs hm hj (H := H) (H0 := H0) k n (i + 1) b H (by omega)
    simp only [kv_cons, kv_nil] at ih
    rw [go_head M l_truchmanref02_of_0.eq_1]
    simp +contextual -implicitDefEqProofs only [am1 M, am2, am3, am4, am5, ↓fget_at, Nat.reduceBEq, Nat.reduceAdd, (show a_truchmanref02_of.res = [.t 4] from rfl), (show a_truchmanref02_of.mode = .drop from rfl), (show a_truchmanref02_of.dfr = none from rfl), beq_true, beq_false, decide_true, decide_false, hx, hxj, wrap_s hi hm, hi, ih, hd, List.any_cons, Bool.or_assoc]

def ofF (more : List UInt8) (s : List UInt8) : Bool := s.all fun c => isLo c || more.any fun d => c.toNat == d.toNat

theorem ofF_cons (more : List UInt8) (c : UInt8) (l : List UInt8) : ofF more (c :: l) = ((isLo c || more.any fun d => c.toNat == d.toNat) && ofF more l) := by
  simp only [ofF, List.all_cons]

theorem of_out (hE : NamesE E) {s more : List UInt8} (hs : s.length ≤ maxL) (hm : more.length ≤ maxL) {H H0 : List AObj} (hc : CutOk H0 H) (k : List Fra) : ∀ (n i : Nat) (He : List AObj), i + n = s.length →
    M.go a_truchmanref02_of H0 (.c l_truchmanref02_of_1 :: .lp ⟨some [0, 1, 5], [], false⟩ l_truchmanref02_of_1 He :: .blk 0 :: .c (.lv []) :: k) (kv [(0, .str s), (1, .str more), (5, .int .i64 i)]) H =
      sel (ofF more (s.drop i)) (M.go a_truchmanref02_of H0 k .leaf H) (some (.ret (.bool false), H.take H0.length))
  | 0, i, He, h => by
    have e : i = s.length := by omega
    subst e
    rw [go_head M l_truchmanref02_of_1.eq_1]
    simp +contextual -implicitDefEqProofs only [am1 M, am2, am3, am4, am5, ↓fget_at, Nat.reduceBEq, Nat.reduceAdd, (show a_truchmanref02_of.res = [.t 4] from rfl), (show a_truchmanref02_of.mode = .drop from rfl), (show a_truchmanref02_of.dfr = none from rfl), beq_true, beq_false, decide_true, decide_false, Nat.lt_irrefl, List.drop_length, ofF, List.all_nil]
  | n + 1, i, He, h => by
    have hi : i < s.length := by omega
    have hx : s[i]? = some s[i] := List.getElem?_eq_getElem hi
    have hd : (s.drop i) = s[i] :: s.drop (i + 1) := List.drop_eq_getElem_cons hi
    have ih := of_out hE hs hm hc k n (i + 1) H (by omega)
    have hin := fun k b He => of_in M hs hm hi (H := H) (H0 := H0) k more.length 0 b He (by omega)
    simp only [kv_cons, kv_nil, Int.ofNat_zero, List.drop_zero] at ih hin
    rw [go_head M l_truchmanref02_of_1.eq_1]
    simp +contextual -implicitDefEqProofs only [am1 M, am2, am3, am4, am5, ↓fget_at, Nat.reduceBEq, Nat.reduceAdd, (show a_truchmanref02_of.res = [.t 4] from rfl), (show a_truchmanref02_of.mode = .drop from rfl), (show a_truchmanref02_of.dfr = none from rfl), beq_true, beq_false, decide_true, decide_false, hx, wrap_s hi hs, hi, hin, ih, hd, hc, List.nil_append, List.append_nil, run_Letter M hE.Letter]
    rw [ofF_cons]

theorem run_of (hE : NamesE E) {s more : List UInt8} (hs : s.length ≤ maxL) (hm : more.length ≤ maxL) (H : List AObj) : M.run f_truchmanref02_of [.str s, .str more] H = some (.ret (.bool (ofF more s)), H) := by
  rw [run_c M hE.rof rfl (c := c_truchmanref02_of) rfl, c_truchmanref02_of]
  have hl := fun k He => of_out M hE hs hm (cut_refl H) k s.length 0 He (by omega)
  simp only [kv_cons, kv_nil, Int.ofNat_zero, List.drop_zero] at hl
  simp +contextual -implicitDefEqProofs only [am1 M, am2, am3, am4, ↓fget_at, Nat.reduceBEq, Nat.reduceAdd, env, fargs, (show a_truchmanref02_of.res = [.t 4] from rfl), (show a_truchmanref02_of.mode = .drop from rfl), (show a_truchmanref02_of.dfr = none from rfl), beq_true, beq_false, decide_true, decide_false, hl, Bool.and_true]

theorem ofF_nil (s : List UInt8) : ofF [] s = s.all isLo := by
  simp only [ofF, List.any_nil, Bool.or_false]

theorem run_rPlain' (hE : NamesE E) {s : List UInt8} (hs : s.length ≤ maxL) (H : List AObj) : M.run f_truchmanref02_Plain [.str s] H = some (.ret (.bool (plainF s)), H) :=
  run_rPlain M hE hs H (by rw [run_of M hE hs (by simp) H, ofF_nil])
end Go.Am
end

section
set_option linter.unusedSimpArgs false
namespace Go.Am
open Go.RowKit
attribute [local congr] dsel_congr sel_congr gsel_congr go_congr aft_congr aftD_congr condR_congr backR_congr inR_congr at2_congr
variable {E : REnv} (M : Mach cdec E)

/-- As the reference refuses a byte at a place. -/
def badC (i : Nat) (c : UInt8) : Bool := !isLo c && !isUp c && (((i : Int) == 0) || (!isDg c && !((c.toNat : Int) == 95)))

def okR : Nat → List UInt8 → Bool
  | _, [] => true
  | i, c :: l => !badC i c && okR (i + 1) l

theorem rname_loop (hE : NamesE E) {s : List UInt8} (hs : s.length ≤ maxL) {H H0 : List AObj} (hc : CutOk H0 H) (k : List Fra) : ∀ (n i : Nat) (He : List AObj), i + n = s.length →
    M.go a_truchmanref02_Name H0 (.c l_truchmanref02_Name_0 :: .lp ⟨some [0, 3], [], false⟩ l_truchmanref02_Name_0 He :: .blk 0 :: .c (.lv []) :: k) (kv [(0, .str s), (3, .int .i64 i)]) H =
      sel (okR i (s.drop i)) (M.go a_truchmanref02_Name H0 k .leaf H) (some (.ret (.bool false), H.take H0.length))
  | 0, i, He, h => by
    have e : i = s.length := by omega
    subst e
    rw [go_head M l_truchmanref02_Name_0.eq_1]
    simp +contextual -implicitDefEqProofs only [am1 M, am2, am3, am4, ↓fget_at, Nat.reduceBEq, Nat.reduceAdd, (show a_truchmanref02_Name.res = [.t 2] from rfl), (show a_truchmanref02_Name.mode = .drop from rfl), (show a_truchmanref02_Name.dfr = none from rfl), beq_true, beq_false, decide_true, decide_false, Nat.lt_irrefl, List.drop_length, okR]
  | n + 1, i, He, h => by
    have hi : i < s.length := by omega
    have hx : s[i]? = some s[i] := List.getElem?_eq_getElem hi
    have hd : (s.drop i) = s[i] :: s.drop (i + 1) := List.drop_eq_getElem_cons hi
    have ih := rname_loop hE hs hc k n (i + 1) H (by omega)
    simp only [kv_cons, kv_nil] at ih
    rw [go_head M l_truchmanref02_Name_0.eq_1]
    simp (maxSteps := 3000000) +contextual -implicitDefEqProofs only [am1 M, am2, am3, am4, ↓fget_at, Nat.reduceBEq, Nat.reduceAdd, (show a_truchmanref02_Name.res = [.t 2] from rfl), (show a_truchmanref02_Name.mode = .drop from rfl), (show a_truchmanref02_Name.dfr = none from rfl), beq_true, beq_false, decide_true, decide_false, hx, wrap_s hi hs, hi, hc, ih, hd, okR, List.nil_append, List.append_nil, run_Letter M hE.Letter]
    change sel (badC i s[i]) _ _ = _
    generalize badC i s[i] = b
    cases b <;> simp only [sel, Bool.not_false, Bool.not_true, Bool.true_and, Bool.false_and]

theorem badC_succ (i : Nat) (c : UInt8) : badC (i + 1) c = !isIn c := by
  have h : (((i + 1 : Nat) : Int) == 0) = false := by simp; omega
  unfold badC isIn
  rw [h]
  cases isLo c <;> cases isUp c <;> cases isDg c <;> cases ((c.toNat : Int) == 95) <;> rfl

theorem okR_succ : ∀ (l : List UInt8) (i : Nat), okR (i + 1) l = l.all isIn
  | [], _ => rfl
  | c :: l, i => by rw [okR, okR_succ l, badC_succ, Bool.not_not, List.all_cons]

theorem okR_zero (c : UInt8) (l : List UInt8) : okR 0 (c :: l) = ((isLo c || isUp c) && (c :: l).all isIn) := by
  rw [okR, okR_succ, List.all_cons]
  have h : badC 0 c = !(isLo c || isUp c) := by
    unfold badC
    cases isLo c <;> cases isUp c <;> rfl
  have h2 : ∀ b : Bool, isIn c = (isLo c || isUp c || isDg c || ((c.toNat : Int) == 95)) := fun _ => rfl
  rw [h, h2 true]
  cases isLo c <;> cases isUp c <;> simp

theorem run_rName (hE : NamesE E) {s : List UInt8} (hs : s.length ≤ maxL) (H : List AObj) : M.run f_truchmanref02_Name [.str s] H = some (.ret (.bool (nameF s)), H) := by
  rw [run_c M hE.rname rfl (c := c_truchmanref02_Name) rfl, c_truchmanref02_Name]
  have hl := fun k He => rname_loop M hE hs (cut_refl H) k s.length 0 He (by omega)
  simp only [kv_cons, kv_nil, Int.ofNat_zero, List.drop_zero] at hl
  simp +contextual -implicitDefEqProofs only [am1 M, am2, am3, am4, ↓fget_at, Nat.reduceBEq, Nat.reduceAdd, env, fargs, (show a_truchmanref02_Name.res = [.t 2] from rfl), (show a_truchmanref02_Name.mode = .drop from rfl), (show a_truchmanref02_Name.dfr = none from rfl), beq_true, beq_false, decide_true, decide_false, hl, Bool.and_true]
  have e : (!(decide ((s.length : Int) < 1) || decide ((12 : Int) < (s.length : Int))) && okR 0 s) = nameF s := by
    cases s with
    | nil => rfl
    | cons c t =>
      rw [okR_zero, nameF]
      have h1 : decide (((c :: t).length : Int) < 1) = false := decide_eq_false (by simp only [List.length_cons]; omega)
      have h2 : (!decide ((12 : Int) < ((c :: t).length : Int))) = decide (((c :: t).length : Int) ≤ 12) := by
        rw [Bool.eq_iff_iff]; simp
      rw [h1, Bool.false_or, h2, Bool.and_assoc]
  rw [e]
end Go.Am
end

section
set_option linter.unusedSimpArgs false
set_option linter.unusedVariables false
set_option maxRecDepth 100000
set_option maxHeartbeats 4000000
namespace Go.Am
open Go.RowKit
attribute [local congr] dsel_congr sel_c1 slc_cong gsel_congr go_congr aft_congr aftD_congr condR_congr backR_congr inR_congr at2_congr
variable {E : REnv} (M : Mach cdec E)

/-- The first element of a kind. -/
def idxF {α : Type} (p : α → Bool) : Nat → α → Option AV := fun i x => sel (p x) (some (.int .i64 (i : Int))) none
/-- Its place, or -1. -/
def idxI {α : Type} (p : α → Bool) : Nat → List α → Int
  | _, [] => -1
  | i, x :: l => sel (p x) (i : Int) (idxI p (i + 1) l)
theorem idx_first {α : Type} (p : α → Bool) : ∀ (l : List α) (i : Nat) (H : List AObj), orE (firstE (idxF p) i l) H (some (.ret (.int .i64 (-1)), H)) = some (.ret (.int .i64 (idxI p i l)), H)
  | [], i, H => rfl
  | x :: l, i, H => by
    rw [firstE_cons, idxF, idxI, orO_sel, orE_sel, orO_some, orO_none, orE_some, idx_first p l]
    cases p x <;> rfl
theorem idx_any {α : Type} (p : α → Bool) : ∀ (l : List α) (i : Nat), decide ((0 : Int) ≤ idxI p i l) = l.any p
  | [], i => rfl
  | x :: l, i => by
    rw [idxI, List.any_cons, ← idx_any p l (i + 1)]
    cases p x with
    | true => simp only [sel, Bool.true_or]; exact decide_eq_true (by omega)
    | false => simp only [sel, Bool.false_or]; rfl

theorem ixf_Trait {H H0 : List AObj} {g : Nat} {fr cap : List AV} {p : Trait → Bool} {tg : Tag} {l : List Trait} (hs : l.length ≤ maxL) (hp : ∀ x ∈ l, M.run g (fr ++ .agg (Trait.row x) :: cap) H = some (.ret (.bool (p x)), H)) (hc : CutOk H0 H) (k : List Fra) : ∀ (n i : Nat) (He : List AObj), i + n = l.length →
    M.go a_slices_IndexFunc_api_Trait_api_Trait H0 (.c l_slices_IndexFunc_api_Trait_api_Trait_0 :: .lp ⟨(some [0, 1, 7, 8]), [], false⟩ l_slices_IndexFunc_api_Trait_api_Trait_0 He :: .blk 0 :: .c (.lv []) :: k) (kv [(0, .slice tg 2 (l.map Trait.row)), (1, .fn (.func g) fr cap), (7, .int .i64 l.length), (8, .int .i64 i)]) H =
      orE (firstE (idxF p) i (l.drop i)) (H.take H0.length) (M.go a_slices_IndexFunc_api_Trait_api_Trait H0 k .leaf H)
  | 0, i, He, h => by
    have e : i = l.length := by omega
    subst e
    rw [go_head M l_slices_IndexFunc_api_Trait_api_Trait_0.eq_1]
    simp (maxSteps := 3000000) (maxDischargeDepth := 6) +contextual -implicitDefEqProofs only [amA M, amB, ↓slc_true, ↓slc_false, ↓slc_not, ↓fget_at, Nat.reduceBEq, Nat.reduceAdd, env, fargs, q_slices_IndexFunc_api_Trait_api_Trait, Nat.lt_irrefl, List.drop_length]
  | n + 1, i, He, h => by
    have hi : i < l.length := by omega
    have hx : l[i]? = some l[i] := List.getElem?_eq_getElem hi
    have hd : (l.drop i) = l[i] :: l.drop (i + 1) := List.drop_eq_getElem_cons hi
    have hm : l[i] ∈ l := List.getElem_mem hi
    have ih := fun He => ixf_Trait (H := H) (H0 := H0) (g := g) (fr := fr) (cap := cap) (p := p) (tg := tg) (l := l) (hs := hs) (hp := hp) hc k n (i + 1)  He (by omega)
    simp only [kv_cons, kv_nil] at ih
    rw [go_head M l_slices_IndexFunc_api_Trait_api_Trait_0.eq_1]
    simp (maxSteps := 3000000) (maxDischargeDepth := 6) +contextual -implicitDefEqProofs only [amA M, amB, ↓slc_true, ↓slc_false, ↓slc_not, ↓fget_at, Nat.reduceBEq, Nat.reduceAdd, env, fargs, q_slices_IndexFunc_api_Trait_api_Trait, hx, hd, hi, ih, hp, hm, wrap_s hi hs, ias_row hi, qTrait, idxF, hc]

theorem run_IndexFunc_Trait (hf : E.fn f_slices_IndexFunc_api_Trait_api_Trait = some a_slices_IndexFunc_api_Trait_api_Trait) {g : Nat} {fr cap : List AV} {p : Trait → Bool} {tg : Tag} {l : List Trait} (hs : l.length ≤ maxL) {H : List AObj}
    (hp : ∀ x ∈ l, M.run g (fr ++ .agg (Trait.row x) :: cap) H = some (.ret (.bool (p x)), H)) :
    M.run f_slices_IndexFunc_api_Trait_api_Trait [.slice tg 2 (l.map Trait.row), .fn (.func g) fr cap] H = some (.ret (.int .i64 (idxI p 0 l)), H) := by
  rw [run_c M hf rfl (c := c_slices_IndexFunc_api_Trait_api_Trait) rfl, c_slices_IndexFunc_api_Trait_api_Trait]
  have hl := fun k He => ixf_Trait M (tg := tg) hs hp (cut_refl H) k l.length 0 He (by omega)
  simp only [kv_cons, kv_nil, Int.ofNat_zero, List.drop_zero] at hl
  simp (maxSteps := 3000000) (maxDischargeDepth := 6) +contextual -implicitDefEqProofs only [amA M, amB, ↓slc_true, ↓slc_false, ↓slc_not, ↓fget_at, Nat.reduceBEq, Nat.reduceAdd, env, fargs, q_slices_IndexFunc_api_Trait_api_Trait, hl]
  exact idx_first p l 0 H

theorem run_ContainsFunc_Trait (hf : E.fn f_slices_IndexFunc_api_Trait_api_Trait = some a_slices_IndexFunc_api_Trait_api_Trait) (hg : E.fn f_slices_ContainsFunc_api_Trait_api_Trait = some a_slices_ContainsFunc_api_Trait_api_Trait) {g : Nat} {fr cap : List AV} {p : Trait → Bool} {tg : Tag} {l : List Trait} (hs : l.length ≤ maxL) {H : List AObj}
    (hp : ∀ x ∈ l, M.run g (fr ++ .agg (Trait.row x) :: cap) H = some (.ret (.bool (p x)), H)) :
    M.run f_slices_ContainsFunc_api_Trait_api_Trait [.slice tg 2 (l.map Trait.row), .fn (.func g) fr cap] H = some (.ret (.bool (l.any p)), H) := by
  rw [run_c M hg rfl (c := c_slices_ContainsFunc_api_Trait_api_Trait) rfl, c_slices_ContainsFunc_api_Trait_api_Trait]
  simp (maxSteps := 3000000) (maxDischargeDepth := 6) +contextual -implicitDefEqProofs only [amA M, amB, ↓slc_true, ↓slc_false, ↓slc_not, ↓fget_at, Nat.reduceBEq, Nat.reduceAdd, env, fargs, q_slices_ContainsFunc_api_Trait_api_Trait, run_IndexFunc_Trait M hf hs hp, idx_any]

theorem ixf_Class {H H0 : List AObj} {g : Nat} {fr cap : List AV} {p : Class → Bool} {tg : Tag} {l : List Class} (hs : l.length ≤ maxL) (hp : ∀ x ∈ l, M.run g (fr ++ .agg (Class.row x) :: cap) H = some (.ret (.bool (p x)), H)) (hc : CutOk H0 H) (k : List Fra) : ∀ (n i : Nat) (He : List AObj), i + n = l.length →
    M.go a_slices_IndexFunc_api_Class_api_Class H0 (.c l_slices_IndexFunc_api_Class_api_Class_0 :: .lp ⟨(some [0, 1, 7, 8]), [], false⟩ l_slices_IndexFunc_api_Class_api_Class_0 He :: .blk 0 :: .c (.lv []) :: k) (kv [(0, .slice tg 2 (l.map Class.row)), (1, .fn (.func g) fr cap), (7, .int .i64 l.length), (8, .int .i64 i)]) H =
      orE (firstE (idxF p) i (l.drop i)) (H.take H0.length) (M.go a_slices_IndexFunc_api_Class_api_Class H0 k .leaf H)
  | 0, i, He, h => by
    have e : i = l.length := by omega
    subst e
    rw [go_head M l_slices_IndexFunc_api_Class_api_Class_0.eq_1]
    simp (maxSteps := 3000000) (maxDischargeDepth := 6) +contextual -implicitDefEqProofs only [amA M, amB, ↓slc_true, ↓slc_false, ↓slc_not, ↓fget_at, Nat.reduceBEq, Nat.reduceAdd, env, fargs, q_slices_IndexFunc_api_Class_api_Class, Nat.lt_irrefl, List.drop_length]
  | n + 1, i, He, h => by
    have hi : i < l.length := by omega
    have hx : l[i]? = some l[i] := List.getElem?_eq_getElem hi
    have hd : (l.drop i) = l[i] :: l.drop (i + 1) := List.drop_eq_getElem_cons hi
    have hm : l[i] ∈ l := List.getElem_mem hi
    have ih := fun He => ixf_Class (H := H) (H0 := H0) (g := g) (fr := fr) (cap := cap) (p := p) (tg := tg) (l := l) (hs := hs) (hp := hp) hc k n (i + 1)  He (by omega)
    simp only [kv_cons, kv_nil] at ih
    rw [go_head M l_slices_IndexFunc_api_Class_api_Class_0.eq_1]
    simp (maxSteps := 3000000) (maxDischargeDepth := 6) +contextual -implicitDefEqProofs only [amA M, amB, ↓slc_true, ↓slc_false, ↓slc_not, ↓fget_at, Nat.reduceBEq, Nat.reduceAdd, env, fargs, q_slices_IndexFunc_api_Class_api_Class, hx, hd, hi, ih, hp, hm, wrap_s hi hs, ias_row hi, qClass, idxF, hc]

theorem run_IndexFunc_Class (hf : E.fn f_slices_IndexFunc_api_Class_api_Class = some a_slices_IndexFunc_api_Class_api_Class) {g : Nat} {fr cap : List AV} {p : Class → Bool} {tg : Tag} {l : List Class} (hs : l.length ≤ maxL) {H : List AObj}
    (hp : ∀ x ∈ l, M.run g (fr ++ .agg (Class.row x) :: cap) H = some (.ret (.bool (p x)), H)) :
    M.run f_slices_IndexFunc_api_Class_api_Class [.slice tg 2 (l.map Class.row), .fn (.func g) fr cap] H = some (.ret (.int .i64 (idxI p 0 l)), H) := by
  rw [run_c M hf rfl (c := c_slices_IndexFunc_api_Class_api_Class) rfl, c_slices_IndexFunc_api_Class_api_Class]
  have hl := fun k He => ixf_Class M (tg := tg) hs hp (cut_refl H) k l.length 0 He (by omega)
  simp only [kv_cons, kv_nil, Int.ofNat_zero, List.drop_zero] at hl
  simp (maxSteps := 3000000) (maxDischargeDepth := 6) +contextual -implicitDefEqProofs only [amA M, amB, ↓slc_true, ↓slc_false, ↓slc_not, ↓fget_at, Nat.reduceBEq, Nat.reduceAdd, env, fargs, q_slices_IndexFunc_api_Class_api_Class, hl]
  exact idx_first p l 0 H

theorem run_ContainsFunc_Class (hf : E.fn f_slices_IndexFunc_api_Class_api_Class = some a_slices_IndexFunc_api_Class_api_Class) (hg : E.fn f_slices_ContainsFunc_api_Class_api_Class = some a_slices_ContainsFunc_api_Class_api_Class) {g : Nat} {fr cap : List AV} {p : Class → Bool} {tg : Tag} {l : List Class} (hs : l.length ≤ maxL) {H : List AObj}
    (hp : ∀ x ∈ l, M.run g (fr ++ .agg (Class.row x) :: cap) H = some (.ret (.bool (p x)), H)) :
    M.run f_slices_ContainsFunc_api_Class_api_Class [.slice tg 2 (l.map Class.row), .fn (.func g) fr cap] H = some (.ret (.bool (l.any p)), H) := by
  rw [run_c M hg rfl (c := c_slices_ContainsFunc_api_Class_api_Class) rfl, c_slices_ContainsFunc_api_Class_api_Class]
  simp (maxSteps := 3000000) (maxDischargeDepth := 6) +contextual -implicitDefEqProofs only [amA M, amB, ↓slc_true, ↓slc_false, ↓slc_not, ↓fget_at, Nat.reduceBEq, Nat.reduceAdd, env, fargs, q_slices_ContainsFunc_api_Class_api_Class, run_IndexFunc_Class M hf hs hp, idx_any]

theorem ixf_Irreg {H H0 : List AObj} {g : Nat} {fr cap : List AV} {p : Irreg → Bool} {tg : Tag} {l : List Irreg} (hs : l.length ≤ maxL) (hp : ∀ x ∈ l, M.run g (fr ++ .agg (Irreg.row x) :: cap) H = some (.ret (.bool (p x)), H)) (hc : CutOk H0 H) (k : List Fra) : ∀ (n i : Nat) (He : List AObj), i + n = l.length →
    M.go a_slices_IndexFunc_api_Irregular_api_Irregular H0 (.c l_slices_IndexFunc_api_Irregular_api_Irregular_0 :: .lp ⟨(some [0, 1, 7, 8]), [], false⟩ l_slices_IndexFunc_api_Irregular_api_Irregular_0 He :: .blk 0 :: .c (.lv []) :: k) (kv [(0, .slice tg 2 (l.map Irreg.row)), (1, .fn (.func g) fr cap), (7, .int .i64 l.length), (8, .int .i64 i)]) H =
      orE (firstE (idxF p) i (l.drop i)) (H.take H0.length) (M.go a_slices_IndexFunc_api_Irregular_api_Irregular H0 k .leaf H)
  | 0, i, He, h => by
    have e : i = l.length := by omega
    subst e
    rw [go_head M l_slices_IndexFunc_api_Irregular_api_Irregular_0.eq_1]
    simp (maxSteps := 3000000) (maxDischargeDepth := 6) +contextual -implicitDefEqProofs only [amA M, amB, ↓slc_true, ↓slc_false, ↓slc_not, ↓fget_at, Nat.reduceBEq, Nat.reduceAdd, env, fargs, q_slices_IndexFunc_api_Irregular_api_Irregular, Nat.lt_irrefl, List.drop_length]
  | n + 1, i, He, h => by
    have hi : i < l.length := by omega
    have hx : l[i]? = some l[i] := List.getElem?_eq_getElem hi
    have hd : (l.drop i) = l[i] :: l.drop (i + 1) := List.drop_eq_getElem_cons hi
    have hm : l[i] ∈ l := List.getElem_mem hi
    have ih := fun He => ixf_Irreg (H := H) (H0 := H0) (g := g) (fr := fr) (cap := cap) (p := p) (tg := tg) (l := l) (hs := hs) (hp := hp) hc k n (i + 1)  He (by omega)
    simp only [kv_cons, kv_nil] at ih
    rw [go_head M l_slices_IndexFunc_api_Irregular_api_Irregular_0.eq_1]
    simp (maxSteps := 3000000) (maxDischargeDepth := 6) +contextual -implicitDefEqProofs only [amA M, amB, ↓slc_true, ↓slc_false, ↓slc_not, ↓fget_at, Nat.reduceBEq, Nat.reduceAdd, env, fargs, q_slices_IndexFunc_api_Irregular_api_Irregular, hx, hd, hi, ih, hp, hm, wrap_s hi hs, ias_row hi, qIrreg, idxF, hc]

theorem run_IndexFunc_Irreg (hf : E.fn f_slices_IndexFunc_api_Irregular_api_Irregular = some a_slices_IndexFunc_api_Irregular_api_Irregular) {g : Nat} {fr cap : List AV} {p : Irreg → Bool} {tg : Tag} {l : List Irreg} (hs : l.length ≤ maxL) {H : List AObj}
    (hp : ∀ x ∈ l, M.run g (fr ++ .agg (Irreg.row x) :: cap) H = some (.ret (.bool (p x)), H)) :
    M.run f_slices_IndexFunc_api_Irregular_api_Irregular [.slice tg 2 (l.map Irreg.row), .fn (.func g) fr cap] H = some (.ret (.int .i64 (idxI p 0 l)), H) := by
  rw [run_c M hf rfl (c := c_slices_IndexFunc_api_Irregular_api_Irregular) rfl, c_slices_IndexFunc_api_Irregular_api_Irregular]
  have hl := fun k He => ixf_Irreg M (tg := tg) hs hp (cut_refl H) k l.length 0 He (by omega)
  simp only [kv_cons, kv_nil, Int.ofNat_zero, List.drop_zero] at hl
  simp (maxSteps := 3000000) (maxDischargeDepth := 6) +contextual -implicitDefEqProofs only [amA M, amB, ↓slc_true, ↓slc_false, ↓slc_not, ↓fget_at, Nat.reduceBEq, Nat.reduceAdd, env, fargs, q_slices_IndexFunc_api_Irregular_api_Irregular, hl]
  exact idx_first p l 0 H

theorem run_ContainsFunc_Irreg (hf : E.fn f_slices_IndexFunc_api_Irregular_api_Irregular = some a_slices_IndexFunc_api_Irregular_api_Irregular) (hg : E.fn f_slices_ContainsFunc_api_Irregular_api_Irregular = some a_slices_ContainsFunc_api_Irregular_api_Irregular) {g : Nat} {fr cap : List AV} {p : Irreg → Bool} {tg : Tag} {l : List Irreg} (hs : l.length ≤ maxL) {H : List AObj}
    (hp : ∀ x ∈ l, M.run g (fr ++ .agg (Irreg.row x) :: cap) H = some (.ret (.bool (p x)), H)) :
    M.run f_slices_ContainsFunc_api_Irregular_api_Irregular [.slice tg 2 (l.map Irreg.row), .fn (.func g) fr cap] H = some (.ret (.bool (l.any p)), H) := by
  rw [run_c M hg rfl (c := c_slices_ContainsFunc_api_Irregular_api_Irregular) rfl, c_slices_ContainsFunc_api_Irregular_api_Irregular]
  simp (maxSteps := 3000000) (maxDischargeDepth := 6) +contextual -implicitDefEqProofs only [amA M, amB, ↓slc_true, ↓slc_false, ↓slc_not, ↓fget_at, Nat.reduceBEq, Nat.reduceAdd, env, fargs, q_slices_ContainsFunc_api_Irregular_api_Irregular, run_IndexFunc_Irreg M hf hs hp, idx_any]

theorem ixf_Entry {H H0 : List AObj} {g : Nat} {fr cap : List AV} {p : Entry → Bool} {tg : Tag} {l : List Entry} (hs : l.length ≤ maxL) (hp : ∀ x ∈ l, M.run g (fr ++ .agg (Entry.row x) :: cap) H = some (.ret (.bool (p x)), H)) (hc : CutOk H0 H) (k : List Fra) : ∀ (n i : Nat) (He : List AObj), i + n = l.length →
    M.go a_slices_IndexFunc_api_Entry_api_Entry H0 (.c l_slices_IndexFunc_api_Entry_api_Entry_0 :: .lp ⟨(some [0, 1, 7, 8]), [], false⟩ l_slices_IndexFunc_api_Entry_api_Entry_0 He :: .blk 0 :: .c (.lv []) :: k) (kv [(0, .slice tg 4 (l.map Entry.row)), (1, .fn (.func g) fr cap), (7, .int .i64 l.length), (8, .int .i64 i)]) H =
      orE (firstE (idxF p) i (l.drop i)) (H.take H0.length) (M.go a_slices_IndexFunc_api_Entry_api_Entry H0 k .leaf H)
  | 0, i, He, h => by
    have e : i = l.length := by omega
    subst e
    rw [go_head M l_slices_IndexFunc_api_Entry_api_Entry_0.eq_1]
    simp (maxSteps := 3000000) (maxDischargeDepth := 6) +contextual -implicitDefEqProofs only [amA M, amB, ↓slc_true, ↓slc_false, ↓slc_not, ↓fget_at, Nat.reduceBEq, Nat.reduceAdd, env, fargs, q_slices_IndexFunc_api_Entry_api_Entry, Nat.lt_irrefl, List.drop_length]
  | n + 1, i, He, h => by
    have hi : i < l.length := by omega
    have hx : l[i]? = some l[i] := List.getElem?_eq_getElem hi
    have hd : (l.drop i) = l[i] :: l.drop (i + 1) := List.drop_eq_getElem_cons hi
    have hm : l[i] ∈ l := List.getElem_mem hi
    have ih := fun He => ixf_Entry (H := H) (H0 := H0) (g := g) (fr := fr) (cap := cap) (p := p) (tg := tg) (l := l) (hs := hs) (hp := hp) hc k n (i + 1)  He (by omega)
    simp only [kv_cons, kv_nil] at ih
    rw [go_head M l_slices_IndexFunc_api_Entry_api_Entry_0.eq_1]
    simp (maxSteps := 3000000) (maxDischargeDepth := 6) +contextual -implicitDefEqProofs only [amA M, amB, ↓slc_true, ↓slc_false, ↓slc_not, ↓fget_at, Nat.reduceBEq, Nat.reduceAdd, env, fargs, q_slices_IndexFunc_api_Entry_api_Entry, hx, hd, hi, ih, hp, hm, wrap_s hi hs, ias_row hi, qEntry, idxF, hc]

theorem run_IndexFunc_Entry (hf : E.fn f_slices_IndexFunc_api_Entry_api_Entry = some a_slices_IndexFunc_api_Entry_api_Entry) {g : Nat} {fr cap : List AV} {p : Entry → Bool} {tg : Tag} {l : List Entry} (hs : l.length ≤ maxL) {H : List AObj}
    (hp : ∀ x ∈ l, M.run g (fr ++ .agg (Entry.row x) :: cap) H = some (.ret (.bool (p x)), H)) :
    M.run f_slices_IndexFunc_api_Entry_api_Entry [.slice tg 4 (l.map Entry.row), .fn (.func g) fr cap] H = some (.ret (.int .i64 (idxI p 0 l)), H) := by
  rw [run_c M hf rfl (c := c_slices_IndexFunc_api_Entry_api_Entry) rfl, c_slices_IndexFunc_api_Entry_api_Entry]
  have hl := fun k He => ixf_Entry M (tg := tg) hs hp (cut_refl H) k l.length 0 He (by omega)
  simp only [kv_cons, kv_nil, Int.ofNat_zero, List.drop_zero] at hl
  simp (maxSteps := 3000000) (maxDischargeDepth := 6) +contextual -implicitDefEqProofs only [amA M, amB, ↓slc_true, ↓slc_false, ↓slc_not, ↓fget_at, Nat.reduceBEq, Nat.reduceAdd, env, fargs, q_slices_IndexFunc_api_Entry_api_Entry, hl]
  exact idx_first p l 0 H

theorem run_ContainsFunc_Entry (hf : E.fn f_slices_IndexFunc_api_Entry_api_Entry = some a_slices_IndexFunc_api_Entry_api_Entry) (hg : E.fn f_slices_ContainsFunc_api_Entry_api_Entry = some a_slices_ContainsFunc_api_Entry_api_Entry) {g : Nat} {fr cap : List AV} {p : Entry → Bool} {tg : Tag} {l : List Entry} (hs : l.length ≤ maxL) {H : List AObj}
    (hp : ∀ x ∈ l, M.run g (fr ++ .agg (Entry.row x) :: cap) H = some (.ret (.bool (p x)), H)) :
    M.run f_slices_ContainsFunc_api_Entry_api_Entry [.slice tg 4 (l.map Entry.row), .fn (.func g) fr cap] H = some (.ret (.bool (l.any p)), H) := by
  rw [run_c M hg rfl (c := c_slices_ContainsFunc_api_Entry_api_Entry) rfl, c_slices_ContainsFunc_api_Entry_api_Entry]
  simp (maxSteps := 3000000) (maxDischargeDepth := 6) +contextual -implicitDefEqProofs only [amA M, amB, ↓slc_true, ↓slc_false, ↓slc_not, ↓fget_at, Nat.reduceBEq, Nat.reduceAdd, env, fargs, q_slices_ContainsFunc_api_Entry_api_Entry, run_IndexFunc_Entry M hf hs hp, idx_any]

theorem ixf_Feat {H H0 : List AObj} {g : Nat} {fr cap : List AV} {p : Feat → Bool} {tg : Tag} {l : List Feat} (hs : l.length ≤ maxL) (hp : ∀ x ∈ l, M.run g (fr ++ .agg (Feat.row x) :: cap) H = some (.ret (.bool (p x)), H)) (hc : CutOk H0 H) (k : List Fra) : ∀ (n i : Nat) (He : List AObj), i + n = l.length →
    M.go a_slices_IndexFunc_api_Feat_api_Feat H0 (.c l_slices_IndexFunc_api_Feat_api_Feat_0 :: .lp ⟨(some [0, 1, 7, 8]), [], false⟩ l_slices_IndexFunc_api_Feat_api_Feat_0 He :: .blk 0 :: .c (.lv []) :: k) (kv [(0, .slice tg 2 (l.map Feat.row)), (1, .fn (.func g) fr cap), (7, .int .i64 l.length), (8, .int .i64 i)]) H =
      orE (firstE (idxF p) i (l.drop i)) (H.take H0.length) (M.go a_slices_IndexFunc_api_Feat_api_Feat H0 k .leaf H)
  | 0, i, He, h => by
    have e : i = l.length := by omega
    subst e
    rw [go_head M l_slices_IndexFunc_api_Feat_api_Feat_0.eq_1]
    simp (maxSteps := 3000000) (maxDischargeDepth := 6) +contextual -implicitDefEqProofs only [amA M, amB, ↓slc_true, ↓slc_false, ↓slc_not, ↓fget_at, Nat.reduceBEq, Nat.reduceAdd, env, fargs, q_slices_IndexFunc_api_Feat_api_Feat, Nat.lt_irrefl, List.drop_length]
  | n + 1, i, He, h => by
    have hi : i < l.length := by omega
    have hx : l[i]? = some l[i] := List.getElem?_eq_getElem hi
    have hd : (l.drop i) = l[i] :: l.drop (i + 1) := List.drop_eq_getElem_cons hi
    have hm : l[i] ∈ l := List.getElem_mem hi
    have ih := fun He => ixf_Feat (H := H) (H0 := H0) (g := g) (fr := fr) (cap := cap) (p := p) (tg := tg) (l := l) (hs := hs) (hp := hp) hc k n (i + 1)  He (by omega)
    simp only [kv_cons, kv_nil] at ih
    rw [go_head M l_slices_IndexFunc_api_Feat_api_Feat_0.eq_1]
    simp (maxSteps := 3000000) (maxDischargeDepth := 6) +contextual -implicitDefEqProofs only [amA M, amB, ↓slc_true, ↓slc_false, ↓slc_not, ↓fget_at, Nat.reduceBEq, Nat.reduceAdd, env, fargs, q_slices_IndexFunc_api_Feat_api_Feat, hx, hd, hi, ih, hp, hm, wrap_s hi hs, ias_row hi, qFeat, idxF, hc]

theorem run_IndexFunc_Feat (hf : E.fn f_slices_IndexFunc_api_Feat_api_Feat = some a_slices_IndexFunc_api_Feat_api_Feat) {g : Nat} {fr cap : List AV} {p : Feat → Bool} {tg : Tag} {l : List Feat} (hs : l.length ≤ maxL) {H : List AObj}
    (hp : ∀ x ∈ l, M.run g (fr ++ .agg (Feat.row x) :: cap) H = some (.ret (.bool (p x)), H)) :
    M.run f_slices_IndexFunc_api_Feat_api_Feat [.slice tg 2 (l.map Feat.row), .fn (.func g) fr cap] H = some (.ret (.int .i64 (idxI p 0 l)), H) := by
  rw [run_c M hf rfl (c := c_slices_IndexFunc_api_Feat_api_Feat) rfl, c_slices_IndexFunc_api_Feat_api_Feat]
  have hl := fun k He => ixf_Feat M (tg := tg) hs hp (cut_refl H) k l.length 0 He (by omega)
  simp only [kv_cons, kv_nil, Int.ofNat_zero, List.drop_zero] at hl
  simp (maxSteps := 3000000) (maxDischargeDepth := 6) +contextual -implicitDefEqProofs only [amA M, amB, ↓slc_true, ↓slc_false, ↓slc_not, ↓fget_at, Nat.reduceBEq, Nat.reduceAdd, env, fargs, q_slices_IndexFunc_api_Feat_api_Feat, hl]
  exact idx_first p l 0 H

theorem run_ContainsFunc_Feat (hf : E.fn f_slices_IndexFunc_api_Feat_api_Feat = some a_slices_IndexFunc_api_Feat_api_Feat) (hg : E.fn f_slices_ContainsFunc_api_Feat_api_Feat = some a_slices_ContainsFunc_api_Feat_api_Feat) {g : Nat} {fr cap : List AV} {p : Feat → Bool} {tg : Tag} {l : List Feat} (hs : l.length ≤ maxL) {H : List AObj}
    (hp : ∀ x ∈ l, M.run g (fr ++ .agg (Feat.row x) :: cap) H = some (.ret (.bool (p x)), H)) :
    M.run f_slices_ContainsFunc_api_Feat_api_Feat [.slice tg 2 (l.map Feat.row), .fn (.func g) fr cap] H = some (.ret (.bool (l.any p)), H) := by
  rw [run_c M hg rfl (c := c_slices_ContainsFunc_api_Feat_api_Feat) rfl, c_slices_ContainsFunc_api_Feat_api_Feat]
  simp (maxSteps := 3000000) (maxDischargeDepth := 6) +contextual -implicitDefEqProofs only [amA M, amB, ↓slc_true, ↓slc_false, ↓slc_not, ↓fget_at, Nat.reduceBEq, Nat.reduceAdd, env, fargs, q_slices_ContainsFunc_api_Feat_api_Feat, run_IndexFunc_Feat M hf hs hp, idx_any]

theorem ixf_Slot {H H0 : List AObj} {g : Nat} {fr cap : List AV} {p : Slot → Bool} {tg : Tag} {l : List Slot} (hs : l.length ≤ maxL) (hp : ∀ x ∈ l, M.run g (fr ++ .agg (Slot.row x) :: cap) H = some (.ret (.bool (p x)), H)) (hc : CutOk H0 H) (k : List Fra) : ∀ (n i : Nat) (He : List AObj), i + n = l.length →
    M.go a_slices_IndexFunc_api_Slot_api_Slot H0 (.c l_slices_IndexFunc_api_Slot_api_Slot_0 :: .lp ⟨(some [0, 1, 7, 8]), [], false⟩ l_slices_IndexFunc_api_Slot_api_Slot_0 He :: .blk 0 :: .c (.lv []) :: k) (kv [(0, .slice tg 4 (l.map Slot.row)), (1, .fn (.func g) fr cap), (7, .int .i64 l.length), (8, .int .i64 i)]) H =
      orE (firstE (idxF p) i (l.drop i)) (H.take H0.length) (M.go a_slices_IndexFunc_api_Slot_api_Slot H0 k .leaf H)
  | 0, i, He, h => by
    have e : i = l.length := by omega
    subst e
    rw [go_head M l_slices_IndexFunc_api_Slot_api_Slot_0.eq_1]
    simp (maxSteps := 3000000) (maxDischargeDepth := 6) +contextual -implicitDefEqProofs only [amA M, amB, ↓slc_true, ↓slc_false, ↓slc_not, ↓fget_at, Nat.reduceBEq, Nat.reduceAdd, env, fargs, q_slices_IndexFunc_api_Slot_api_Slot, Nat.lt_irrefl, List.drop_length]
  | n + 1, i, He, h => by
    have hi : i < l.length := by omega
    have hx : l[i]? = some l[i] := List.getElem?_eq_getElem hi
    have hd : (l.drop i) = l[i] :: l.drop (i + 1) := List.drop_eq_getElem_cons hi
    have hm : l[i] ∈ l := List.getElem_mem hi
    have ih := fun He => ixf_Slot (H := H) (H0 := H0) (g := g) (fr := fr) (cap := cap) (p := p) (tg := tg) (l := l) (hs := hs) (hp := hp) hc k n (i + 1)  He (by omega)
    simp only [kv_cons, kv_nil] at ih
    rw [go_head M l_slices_IndexFunc_api_Slot_api_Slot_0.eq_1]
    simp (maxSteps := 3000000) (maxDischargeDepth := 6) +contextual -implicitDefEqProofs only [amA M, amB, ↓slc_true, ↓slc_false, ↓slc_not, ↓fget_at, Nat.reduceBEq, Nat.reduceAdd, env, fargs, q_slices_IndexFunc_api_Slot_api_Slot, hx, hd, hi, ih, hp, hm, wrap_s hi hs, ias_row hi, qSlot, idxF, hc]

theorem run_IndexFunc_Slot (hf : E.fn f_slices_IndexFunc_api_Slot_api_Slot = some a_slices_IndexFunc_api_Slot_api_Slot) {g : Nat} {fr cap : List AV} {p : Slot → Bool} {tg : Tag} {l : List Slot} (hs : l.length ≤ maxL) {H : List AObj}
    (hp : ∀ x ∈ l, M.run g (fr ++ .agg (Slot.row x) :: cap) H = some (.ret (.bool (p x)), H)) :
    M.run f_slices_IndexFunc_api_Slot_api_Slot [.slice tg 4 (l.map Slot.row), .fn (.func g) fr cap] H = some (.ret (.int .i64 (idxI p 0 l)), H) := by
  rw [run_c M hf rfl (c := c_slices_IndexFunc_api_Slot_api_Slot) rfl, c_slices_IndexFunc_api_Slot_api_Slot]
  have hl := fun k He => ixf_Slot M (tg := tg) hs hp (cut_refl H) k l.length 0 He (by omega)
  simp only [kv_cons, kv_nil, Int.ofNat_zero, List.drop_zero] at hl
  simp (maxSteps := 3000000) (maxDischargeDepth := 6) +contextual -implicitDefEqProofs only [amA M, amB, ↓slc_true, ↓slc_false, ↓slc_not, ↓fget_at, Nat.reduceBEq, Nat.reduceAdd, env, fargs, q_slices_IndexFunc_api_Slot_api_Slot, hl]
  exact idx_first p l 0 H

theorem run_ContainsFunc_Slot (hf : E.fn f_slices_IndexFunc_api_Slot_api_Slot = some a_slices_IndexFunc_api_Slot_api_Slot) (hg : E.fn f_slices_ContainsFunc_api_Slot_api_Slot = some a_slices_ContainsFunc_api_Slot_api_Slot) {g : Nat} {fr cap : List AV} {p : Slot → Bool} {tg : Tag} {l : List Slot} (hs : l.length ≤ maxL) {H : List AObj}
    (hp : ∀ x ∈ l, M.run g (fr ++ .agg (Slot.row x) :: cap) H = some (.ret (.bool (p x)), H)) :
    M.run f_slices_ContainsFunc_api_Slot_api_Slot [.slice tg 4 (l.map Slot.row), .fn (.func g) fr cap] H = some (.ret (.bool (l.any p)), H) := by
  rw [run_c M hg rfl (c := c_slices_ContainsFunc_api_Slot_api_Slot) rfl, c_slices_ContainsFunc_api_Slot_api_Slot]
  simp (maxSteps := 3000000) (maxDischargeDepth := 6) +contextual -implicitDefEqProofs only [amA M, amB, ↓slc_true, ↓slc_false, ↓slc_not, ↓fget_at, Nat.reduceBEq, Nat.reduceAdd, env, fargs, q_slices_ContainsFunc_api_Slot_api_Slot, run_IndexFunc_Slot M hf hs hp, idx_any]

end Go.Am
end

section
set_option linter.unusedSimpArgs false
set_option linter.unusedVariables false
set_option maxRecDepth 100000
set_option maxHeartbeats 4000000
namespace Go.Am
open Go.RowKit
attribute [local congr] dsel_congr sel_c1 slc_cong gsel_congr go_congr aft_congr aftD_congr condR_congr backR_congr inR_congr at2_congr
variable {E : REnv} (M : Mach cdec E)

/-- The first error of a list's elements. -/
def errF {α : Type} (F : Nat → α → Int) : Nat → α → Option AV := fun i x => sel (!(F i x == 0)) (some (.int .u8 (F i x))) none
def errI {α : Type} (F : Nat → α → Int) : Nat → List α → Int
  | _, [] => 0
  | i, x :: l => sel (!(F i x == 0)) (F i x) (errI F (i + 1) l)
theorem err_first {α : Type} (F : Nat → α → Int) : ∀ (l : List α) (i : Nat) (H : List AObj), orE (firstE (errF F) i l) H (some (.ret (.int .u8 0), H)) = some (.ret (.int .u8 (errI F i l)), H)
  | [], i, H => rfl
  | x :: l, i, H => by
    rw [firstE_cons, errF, errI, orO_sel, orE_sel, orO_some, orO_none, orE_some, err_first F l]
    cases (!(F i x == 0)) <;> rfl
def eachF {α : Type} (most : Int) (F : Nat → α → Int) (l : List α) : Int := sel (decide (most < (l.length : Int))) 3 (errI F 0 l)

theorem each_Trait {H H0 : List AObj} {g : Nat} {fr cap : List AV} {F : Nat → Trait → Int} {tg : Tag} {l : List Trait} (hs : l.length ≤ maxL) (hfw : Wk H.length (.fn (.func g) fr cap) (.fn (.func g) fr cap)) (hlw : Wk H.length (.slice tg 2 (l.map Trait.row)) (.slice tg 2 (l.map Trait.row))) (hp : ∀ (L : List AObj) (i : Nat) (x : Trait), l[i]? = some x → M.run g (fr ++ .int .i64 i :: .agg (Trait.row x) :: cap) (H ++ L) = some (.ret (.int .u8 (F i x)), H ++ L)) (hc : CutOk H0 H) (k : List Fra) : ∀ (n i : Nat), i + n = l.length →
    M.go a_morph_each_api_Trait H0 (.c l_morph_each_api_Trait_0 :: .lp ⟨(some [2, 14, 15, 16]), [], true⟩ l_morph_each_api_Trait_0 H :: .blk 0 :: .c (.lv []) :: k) (kv [(2, .fn (.func g) fr cap), (14, .slice tg 2 (l.map Trait.row)), (15, .int .i64 l.length), (16, .int .i64 i)]) H =
      orE (firstE (errF F) i (l.drop i)) (H.take H0.length) (M.go a_morph_each_api_Trait H0 k .leaf H)
  | 0, i, h => by
    have e : i = l.length := by omega
    subst e
    rw [go_head M l_morph_each_api_Trait_0.eq_1]
    simp (maxSteps := 3000000) (maxDischargeDepth := 6) +contextual -implicitDefEqProofs only [amA M, amB, ↓slc_true, ↓slc_false, ↓slc_not, ↓fget_at, Nat.reduceBEq, Nat.reduceAdd, env, fargs, q_morph_each_api_Trait, Nat.lt_irrefl, List.drop_length]
  | n + 1, i, h => by
    have hi : i < l.length := by omega
    have hx : l[i]? = some l[i] := List.getElem?_eq_getElem hi
    have hd : (l.drop i) = l[i] :: l.drop (i + 1) := List.drop_eq_getElem_cons hi
    have hm : l[i] ∈ l := List.getElem_mem hi
    have ih := each_Trait (H := H) (H0 := H0) (g := g) (fr := fr) (cap := cap) (F := F) (tg := tg) (l := l) (hs := hs) (hfw := hfw) (hlw := hlw) (hp := hp) hc k n (i + 1)  (by omega)
    simp only [kv_cons, kv_nil] at ih
    have hp := fun L => hp L i l[i] hx
    rw [go_head M l_morph_each_api_Trait_0.eq_1]
    simp (maxSteps := 3000000) (maxDischargeDepth := 6) +contextual -implicitDefEqProofs only [amA M, amB, ↓slc_true, ↓slc_false, ↓slc_not, ↓fget_at, Nat.reduceBEq, Nat.reduceAdd, env, fargs, q_morph_each_api_Trait, hx, hd, hi, ih, amG, AV.cell, hp, hfw, hlw, wrap_s hi hs, ias_row hi, qTrait, errF, hc]

theorem run_each_Trait (hf : E.fn f_morph_each_api_Trait = some a_morph_each_api_Trait) {g : Nat} {fr cap : List AV} {F : Nat → Trait → Int} {tg : Tag} {l : List Trait} {H : List AObj} (hs : l.length ≤ maxL) (hfw : Wk H.length (.fn (.func g) fr cap) (.fn (.func g) fr cap)) (hlw : Wk H.length (.slice tg 2 (l.map Trait.row)) (.slice tg 2 (l.map Trait.row)))
    (hp : ∀ (L : List AObj) (i : Nat) (x : Trait), l[i]? = some x → M.run g (fr ++ .int .i64 i :: .agg (Trait.row x) :: cap) (H ++ L) = some (.ret (.int .u8 (F i x)), H ++ L)) (most : Int) :
    M.run f_morph_each_api_Trait [.slice tg 2 (l.map Trait.row), .int .i64 most, .fn (.func g) fr cap] H = some (.ret (.int .u8 (eachF most F l)), H) := by
  rw [run_c M hf rfl (c := c_morph_each_api_Trait) rfl, c_morph_each_api_Trait]
  have hl := fun k => each_Trait M (tg := tg) hs hfw hlw hp (cut_refl H) k l.length 0 (by omega)
  simp only [kv_cons, kv_nil, Int.ofNat_zero, List.drop_zero] at hl
  simp (maxSteps := 3000000) (maxDischargeDepth := 6) +contextual -implicitDefEqProofs only [amA M, amB, ↓slc_true, ↓slc_false, ↓slc_not, ↓fget_at, Nat.reduceBEq, Nat.reduceAdd, env, fargs, q_morph_each_api_Trait, hl]
  rw [err_first, eachF]
  cases decide (most < (l.length : Int)) <;> rfl

theorem each_Feat {H H0 : List AObj} {g : Nat} {fr cap : List AV} {F : Nat → Feat → Int} {tg : Tag} {l : List Feat} (hs : l.length ≤ maxL) (hfw : Wk H.length (.fn (.func g) fr cap) (.fn (.func g) fr cap)) (hlw : Wk H.length (.slice tg 2 (l.map Feat.row)) (.slice tg 2 (l.map Feat.row))) (hp : ∀ (L : List AObj) (i : Nat) (x : Feat), l[i]? = some x → M.run g (fr ++ .int .i64 i :: .agg (Feat.row x) :: cap) (H ++ L) = some (.ret (.int .u8 (F i x)), H ++ L)) (hc : CutOk H0 H) (k : List Fra) : ∀ (n i : Nat), i + n = l.length →
    M.go a_morph_each_api_Feat H0 (.c l_morph_each_api_Feat_0 :: .lp ⟨(some [2, 14, 15, 16]), [], true⟩ l_morph_each_api_Feat_0 H :: .blk 0 :: .c (.lv []) :: k) (kv [(2, .fn (.func g) fr cap), (14, .slice tg 2 (l.map Feat.row)), (15, .int .i64 l.length), (16, .int .i64 i)]) H =
      orE (firstE (errF F) i (l.drop i)) (H.take H0.length) (M.go a_morph_each_api_Feat H0 k .leaf H)
  | 0, i, h => by
    have e : i = l.length := by omega
    subst e
    rw [go_head M l_morph_each_api_Feat_0.eq_1]
    simp (maxSteps := 3000000) (maxDischargeDepth := 6) +contextual -implicitDefEqProofs only [amA M, amB, ↓slc_true, ↓slc_false, ↓slc_not, ↓fget_at, Nat.reduceBEq, Nat.reduceAdd, env, fargs, q_morph_each_api_Feat, Nat.lt_irrefl, List.drop_length]
  | n + 1, i, h => by
    have hi : i < l.length := by omega
    have hx : l[i]? = some l[i] := List.getElem?_eq_getElem hi
    have hd : (l.drop i) = l[i] :: l.drop (i + 1) := List.drop_eq_getElem_cons hi
    have hm : l[i] ∈ l := List.getElem_mem hi
    have ih := each_Feat (H := H) (H0 := H0) (g := g) (fr := fr) (cap := cap) (F := F) (tg := tg) (l := l) (hs := hs) (hfw := hfw) (hlw := hlw) (hp := hp) hc k n (i + 1)  (by omega)
    simp only [kv_cons, kv_nil] at ih
    have hp := fun L => hp L i l[i] hx
    rw [go_head M l_morph_each_api_Feat_0.eq_1]
    simp (maxSteps := 3000000) (maxDischargeDepth := 6) +contextual -implicitDefEqProofs only [amA M, amB, ↓slc_true, ↓slc_false, ↓slc_not, ↓fget_at, Nat.reduceBEq, Nat.reduceAdd, env, fargs, q_morph_each_api_Feat, hx, hd, hi, ih, amG, AV.cell, hp, hfw, hlw, wrap_s hi hs, ias_row hi, qFeat, errF, hc]

theorem run_each_Feat (hf : E.fn f_morph_each_api_Feat = some a_morph_each_api_Feat) {g : Nat} {fr cap : List AV} {F : Nat → Feat → Int} {tg : Tag} {l : List Feat} {H : List AObj} (hs : l.length ≤ maxL) (hfw : Wk H.length (.fn (.func g) fr cap) (.fn (.func g) fr cap)) (hlw : Wk H.length (.slice tg 2 (l.map Feat.row)) (.slice tg 2 (l.map Feat.row)))
    (hp : ∀ (L : List AObj) (i : Nat) (x : Feat), l[i]? = some x → M.run g (fr ++ .int .i64 i :: .agg (Feat.row x) :: cap) (H ++ L) = some (.ret (.int .u8 (F i x)), H ++ L)) (most : Int) :
    M.run f_morph_each_api_Feat [.slice tg 2 (l.map Feat.row), .int .i64 most, .fn (.func g) fr cap] H = some (.ret (.int .u8 (eachF most F l)), H) := by
  rw [run_c M hf rfl (c := c_morph_each_api_Feat) rfl, c_morph_each_api_Feat]
  have hl := fun k => each_Feat M (tg := tg) hs hfw hlw hp (cut_refl H) k l.length 0 (by omega)
  simp only [kv_cons, kv_nil, Int.ofNat_zero, List.drop_zero] at hl
  simp (maxSteps := 3000000) (maxDischargeDepth := 6) +contextual -implicitDefEqProofs only [amA M, amB, ↓slc_true, ↓slc_false, ↓slc_not, ↓fget_at, Nat.reduceBEq, Nat.reduceAdd, env, fargs, q_morph_each_api_Feat, hl]
  rw [err_first, eachF]
  cases decide (most < (l.length : Int)) <;> rfl

theorem each_Slot {H H0 : List AObj} {g : Nat} {fr cap : List AV} {F : Nat → Slot → Int} {tg : Tag} {l : List Slot} (hs : l.length ≤ maxL) (hfw : Wk H.length (.fn (.func g) fr cap) (.fn (.func g) fr cap)) (hlw : Wk H.length (.slice tg 4 (l.map Slot.row)) (.slice tg 4 (l.map Slot.row))) (hp : ∀ (L : List AObj) (i : Nat) (x : Slot), l[i]? = some x → M.run g (fr ++ .int .i64 i :: .agg (Slot.row x) :: cap) (H ++ L) = some (.ret (.int .u8 (F i x)), H ++ L)) (hc : CutOk H0 H) (k : List Fra) : ∀ (n i : Nat), i + n = l.length →
    M.go a_morph_each_api_Slot H0 (.c l_morph_each_api_Slot_0 :: .lp ⟨(some [2, 14, 15, 16]), [], true⟩ l_morph_each_api_Slot_0 H :: .blk 0 :: .c (.lv []) :: k) (kv [(2, .fn (.func g) fr cap), (14, .slice tg 4 (l.map Slot.row)), (15, .int .i64 l.length), (16, .int .i64 i)]) H =
      orE (firstE (errF F) i (l.drop i)) (H.take H0.length) (M.go a_morph_each_api_Slot H0 k .leaf H)
  | 0, i, h => by
    have e : i = l.length := by omega
    subst e
    rw [go_head M l_morph_each_api_Slot_0.eq_1]
    simp (maxSteps := 3000000) (maxDischargeDepth := 6) +contextual -implicitDefEqProofs only [amA M, amB, ↓slc_true, ↓slc_false, ↓slc_not, ↓fget_at, Nat.reduceBEq, Nat.reduceAdd, env, fargs, q_morph_each_api_Slot, Nat.lt_irrefl, List.drop_length]
  | n + 1, i, h => by
    have hi : i < l.length := by omega
    have hx : l[i]? = some l[i] := List.getElem?_eq_getElem hi
    have hd : (l.drop i) = l[i] :: l.drop (i + 1) := List.drop_eq_getElem_cons hi
    have hm : l[i] ∈ l := List.getElem_mem hi
    have ih := each_Slot (H := H) (H0 := H0) (g := g) (fr := fr) (cap := cap) (F := F) (tg := tg) (l := l) (hs := hs) (hfw := hfw) (hlw := hlw) (hp := hp) hc k n (i + 1)  (by omega)
    simp only [kv_cons, kv_nil] at ih
    have hp := fun L => hp L i l[i] hx
    rw [go_head M l_morph_each_api_Slot_0.eq_1]
    simp (maxSteps := 3000000) (maxDischargeDepth := 6) +contextual -implicitDefEqProofs only [amA M, amB, ↓slc_true, ↓slc_false, ↓slc_not, ↓fget_at, Nat.reduceBEq, Nat.reduceAdd, env, fargs, q_morph_each_api_Slot, hx, hd, hi, ih, amG, AV.cell, hp, hfw, hlw, wrap_s hi hs, ias_row hi, qSlot, errF, hc]

theorem run_each_Slot (hf : E.fn f_morph_each_api_Slot = some a_morph_each_api_Slot) {g : Nat} {fr cap : List AV} {F : Nat → Slot → Int} {tg : Tag} {l : List Slot} {H : List AObj} (hs : l.length ≤ maxL) (hfw : Wk H.length (.fn (.func g) fr cap) (.fn (.func g) fr cap)) (hlw : Wk H.length (.slice tg 4 (l.map Slot.row)) (.slice tg 4 (l.map Slot.row)))
    (hp : ∀ (L : List AObj) (i : Nat) (x : Slot), l[i]? = some x → M.run g (fr ++ .int .i64 i :: .agg (Slot.row x) :: cap) (H ++ L) = some (.ret (.int .u8 (F i x)), H ++ L)) (most : Int) :
    M.run f_morph_each_api_Slot [.slice tg 4 (l.map Slot.row), .int .i64 most, .fn (.func g) fr cap] H = some (.ret (.int .u8 (eachF most F l)), H) := by
  rw [run_c M hf rfl (c := c_morph_each_api_Slot) rfl, c_morph_each_api_Slot]
  have hl := fun k => each_Slot M (tg := tg) hs hfw hlw hp (cut_refl H) k l.length 0 (by omega)
  simp only [kv_cons, kv_nil, Int.ofNat_zero, List.drop_zero] at hl
  simp (maxSteps := 3000000) (maxDischargeDepth := 6) +contextual -implicitDefEqProofs only [amA M, amB, ↓slc_true, ↓slc_false, ↓slc_not, ↓fget_at, Nat.reduceBEq, Nat.reduceAdd, env, fargs, q_morph_each_api_Slot, hl]
  rw [err_first, eachF]
  cases decide (most < (l.length : Int)) <;> rfl

theorem each_Class {H H0 : List AObj} {g : Nat} {fr cap : List AV} {F : Nat → Class → Int} {tg : Tag} {l : List Class} (hs : l.length ≤ maxL) (hfw : Wk H.length (.fn (.func g) fr cap) (.fn (.func g) fr cap)) (hlw : Wk H.length (.slice tg 2 (l.map Class.row)) (.slice tg 2 (l.map Class.row))) (hp : ∀ (L : List AObj) (i : Nat) (x : Class), l[i]? = some x → M.run g (fr ++ .int .i64 i :: .agg (Class.row x) :: cap) (H ++ L) = some (.ret (.int .u8 (F i x)), H ++ L)) (hc : CutOk H0 H) (k : List Fra) : ∀ (n i : Nat), i + n = l.length →
    M.go a_morph_each_api_Class H0 (.c l_morph_each_api_Class_0 :: .lp ⟨(some [2, 14, 15, 16]), [], true⟩ l_morph_each_api_Class_0 H :: .blk 0 :: .c (.lv []) :: k) (kv [(2, .fn (.func g) fr cap), (14, .slice tg 2 (l.map Class.row)), (15, .int .i64 l.length), (16, .int .i64 i)]) H =
      orE (firstE (errF F) i (l.drop i)) (H.take H0.length) (M.go a_morph_each_api_Class H0 k .leaf H)
  | 0, i, h => by
    have e : i = l.length := by omega
    subst e
    rw [go_head M l_morph_each_api_Class_0.eq_1]
    simp (maxSteps := 3000000) (maxDischargeDepth := 6) +contextual -implicitDefEqProofs only [amA M, amB, ↓slc_true, ↓slc_false, ↓slc_not, ↓fget_at, Nat.reduceBEq, Nat.reduceAdd, env, fargs, q_morph_each_api_Class, Nat.lt_irrefl, List.drop_length]
  | n + 1, i, h => by
    have hi : i < l.length := by omega
    have hx : l[i]? = some l[i] := List.getElem?_eq_getElem hi
    have hd : (l.drop i) = l[i] :: l.drop (i + 1) := List.drop_eq_getElem_cons hi
    have hm : l[i] ∈ l := List.getElem_mem hi
    have ih := each_Class (H := H) (H0 := H0) (g := g) (fr := fr) (cap := cap) (F := F) (tg := tg) (l := l) (hs := hs) (hfw := hfw) (hlw := hlw) (hp := hp) hc k n (i + 1)  (by omega)
    simp only [kv_cons, kv_nil] at ih
    have hp := fun L => hp L i l[i] hx
    rw [go_head M l_morph_each_api_Class_0.eq_1]
    simp (maxSteps := 3000000) (maxDischargeDepth := 6) +contextual -implicitDefEqProofs only [amA M, amB, ↓slc_true, ↓slc_false, ↓slc_not, ↓fget_at, Nat.reduceBEq, Nat.reduceAdd, env, fargs, q_morph_each_api_Class, hx, hd, hi, ih, amG, AV.cell, hp, hfw, hlw, wrap_s hi hs, ias_row hi, qClass, errF, hc]

theorem run_each_Class (hf : E.fn f_morph_each_api_Class = some a_morph_each_api_Class) {g : Nat} {fr cap : List AV} {F : Nat → Class → Int} {tg : Tag} {l : List Class} {H : List AObj} (hs : l.length ≤ maxL) (hfw : Wk H.length (.fn (.func g) fr cap) (.fn (.func g) fr cap)) (hlw : Wk H.length (.slice tg 2 (l.map Class.row)) (.slice tg 2 (l.map Class.row)))
    (hp : ∀ (L : List AObj) (i : Nat) (x : Class), l[i]? = some x → M.run g (fr ++ .int .i64 i :: .agg (Class.row x) :: cap) (H ++ L) = some (.ret (.int .u8 (F i x)), H ++ L)) (most : Int) :
    M.run f_morph_each_api_Class [.slice tg 2 (l.map Class.row), .int .i64 most, .fn (.func g) fr cap] H = some (.ret (.int .u8 (eachF most F l)), H) := by
  rw [run_c M hf rfl (c := c_morph_each_api_Class) rfl, c_morph_each_api_Class]
  have hl := fun k => each_Class M (tg := tg) hs hfw hlw hp (cut_refl H) k l.length 0 (by omega)
  simp only [kv_cons, kv_nil, Int.ofNat_zero, List.drop_zero] at hl
  simp (maxSteps := 3000000) (maxDischargeDepth := 6) +contextual -implicitDefEqProofs only [amA M, amB, ↓slc_true, ↓slc_false, ↓slc_not, ↓fget_at, Nat.reduceBEq, Nat.reduceAdd, env, fargs, q_morph_each_api_Class, hl]
  rw [err_first, eachF]
  cases decide (most < (l.length : Int)) <;> rfl

theorem each_Entry {H H0 : List AObj} {g : Nat} {fr cap : List AV} {F : Nat → Entry → Int} {tg : Tag} {l : List Entry} (hs : l.length ≤ maxL) (hfw : Wk H.length (.fn (.func g) fr cap) (.fn (.func g) fr cap)) (hlw : Wk H.length (.slice tg 4 (l.map Entry.row)) (.slice tg 4 (l.map Entry.row))) (hp : ∀ (L : List AObj) (i : Nat) (x : Entry), l[i]? = some x → M.run g (fr ++ .int .i64 i :: .agg (Entry.row x) :: cap) (H ++ L) = some (.ret (.int .u8 (F i x)), H ++ L)) (hc : CutOk H0 H) (k : List Fra) : ∀ (n i : Nat), i + n = l.length →
    M.go a_morph_each_api_Entry H0 (.c l_morph_each_api_Entry_0 :: .lp ⟨(some [2, 14, 15, 16]), [], true⟩ l_morph_each_api_Entry_0 H :: .blk 0 :: .c (.lv []) :: k) (kv [(2, .fn (.func g) fr cap), (14, .slice tg 4 (l.map Entry.row)), (15, .int .i64 l.length), (16, .int .i64 i)]) H =
      orE (firstE (errF F) i (l.drop i)) (H.take H0.length) (M.go a_morph_each_api_Entry H0 k .leaf H)
  | 0, i, h => by
    have e : i = l.length := by omega
    subst e
    rw [go_head M l_morph_each_api_Entry_0.eq_1]
    simp (maxSteps := 3000000) (maxDischargeDepth := 6) +contextual -implicitDefEqProofs only [amA M, amB, ↓slc_true, ↓slc_false, ↓slc_not, ↓fget_at, Nat.reduceBEq, Nat.reduceAdd, env, fargs, q_morph_each_api_Entry, Nat.lt_irrefl, List.drop_length]
  | n + 1, i, h => by
    have hi : i < l.length := by omega
    have hx : l[i]? = some l[i] := List.getElem?_eq_getElem hi
    have hd : (l.drop i) = l[i] :: l.drop (i + 1) := List.drop_eq_getElem_cons hi
    have hm : l[i] ∈ l := List.getElem_mem hi
    have ih := each_Entry (H := H) (H0 := H0) (g := g) (fr := fr) (cap := cap) (F := F) (tg := tg) (l := l) (hs := hs) (hfw := hfw) (hlw := hlw) (hp := hp) hc k n (i + 1)  (by omega)
    simp only [kv_cons, kv_nil] at ih
    have hp := fun L => hp L i l[i] hx
    rw [go_head M l_morph_each_api_Entry_0.eq_1]
    simp (maxSteps := 3000000) (maxDischargeDepth := 6) +contextual -implicitDefEqProofs only [amA M, amB, ↓slc_true, ↓slc_false, ↓slc_not, ↓fget_at, Nat.reduceBEq, Nat.reduceAdd, env, fargs, q_morph_each_api_Entry, hx, hd, hi, ih, amG, AV.cell, hp, hfw, hlw, wrap_s hi hs, ias_row hi, qEntry, errF, hc]

theorem run_each_Entry (hf : E.fn f_morph_each_api_Entry = some a_morph_each_api_Entry) {g : Nat} {fr cap : List AV} {F : Nat → Entry → Int} {tg : Tag} {l : List Entry} {H : List AObj} (hs : l.length ≤ maxL) (hfw : Wk H.length (.fn (.func g) fr cap) (.fn (.func g) fr cap)) (hlw : Wk H.length (.slice tg 4 (l.map Entry.row)) (.slice tg 4 (l.map Entry.row)))
    (hp : ∀ (L : List AObj) (i : Nat) (x : Entry), l[i]? = some x → M.run g (fr ++ .int .i64 i :: .agg (Entry.row x) :: cap) (H ++ L) = some (.ret (.int .u8 (F i x)), H ++ L)) (most : Int) :
    M.run f_morph_each_api_Entry [.slice tg 4 (l.map Entry.row), .int .i64 most, .fn (.func g) fr cap] H = some (.ret (.int .u8 (eachF most F l)), H) := by
  rw [run_c M hf rfl (c := c_morph_each_api_Entry) rfl, c_morph_each_api_Entry]
  have hl := fun k => each_Entry M (tg := tg) hs hfw hlw hp (cut_refl H) k l.length 0 (by omega)
  simp only [kv_cons, kv_nil, Int.ofNat_zero, List.drop_zero] at hl
  simp (maxSteps := 3000000) (maxDischargeDepth := 6) +contextual -implicitDefEqProofs only [amA M, amB, ↓slc_true, ↓slc_false, ↓slc_not, ↓fget_at, Nat.reduceBEq, Nat.reduceAdd, env, fargs, q_morph_each_api_Entry, hl]
  rw [err_first, eachF]
  cases decide (most < (l.length : Int)) <;> rfl

theorem each_Spell {H H0 : List AObj} {g : Nat} {fr cap : List AV} {F : Nat → Spell → Int} {tg : Tag} {l : List Spell} (hs : l.length ≤ maxL) (hfw : Wk H.length (.fn (.func g) fr cap) (.fn (.func g) fr cap)) (hlw : Wk H.length (.slice tg 4 (l.map Spell.row)) (.slice tg 4 (l.map Spell.row))) (hp : ∀ (L : List AObj) (i : Nat) (x : Spell), l[i]? = some x → M.run g (fr ++ .int .i64 i :: .agg (Spell.row x) :: cap) (H ++ L) = some (.ret (.int .u8 (F i x)), H ++ L)) (hc : CutOk H0 H) (k : List Fra) : ∀ (n i : Nat), i + n = l.length →
    M.go a_morph_each_api_Spell H0 (.c l_morph_each_api_Spell_0 :: .lp ⟨(some [2, 14, 15, 16]), [], true⟩ l_morph_each_api_Spell_0 H :: .blk 0 :: .c (.lv []) :: k) (kv [(2, .fn (.func g) fr cap), (14, .slice tg 4 (l.map Spell.row)), (15, .int .i64 l.length), (16, .int .i64 i)]) H =
      orE (firstE (errF F) i (l.drop i)) (H.take H0.length) (M.go a_morph_each_api_Spell H0 k .leaf H)
  | 0, i, h => by
    have e : i = l.length := by omega
    subst e
    rw [go_head M l_morph_each_api_Spell_0.eq_1]
    simp (maxSteps := 3000000) (maxDischargeDepth := 6) +contextual -implicitDefEqProofs only [amA M, amB, ↓slc_true, ↓slc_false, ↓slc_not, ↓fget_at, Nat.reduceBEq, Nat.reduceAdd, env, fargs, q_morph_each_api_Spell, Nat.lt_irrefl, List.drop_length]
  | n + 1, i, h => by
    have hi : i < l.length := by omega
    have hx : l[i]? = some l[i] := List.getElem?_eq_getElem hi
    have hd : (l.drop i) = l[i] :: l.drop (i + 1) := List.drop_eq_getElem_cons hi
    have hm : l[i] ∈ l := List.getElem_mem hi
    have ih := each_Spell (H := H) (H0 := H0) (g := g) (fr := fr) (cap := cap) (F := F) (tg := tg) (l := l) (hs := hs) (hfw := hfw) (hlw := hlw) (hp := hp) hc k n (i + 1)  (by omega)
    simp only [kv_cons, kv_nil] at ih
    have hp := fun L => hp L i l[i] hx
    rw [go_head M l_morph_each_api_Spell_0.eq_1]
    simp (maxSteps := 3000000) (maxDischargeDepth := 6) +contextual -implicitDefEqProofs only [amA M, amB, ↓slc_true, ↓slc_false, ↓slc_not, ↓fget_at, Nat.reduceBEq, Nat.reduceAdd, env, fargs, q_morph_each_api_Spell, hx, hd, hi, ih, amG, AV.cell, hp, hfw, hlw, wrap_s hi hs, ias_row hi, qSpell, errF, hc]

theorem run_each_Spell (hf : E.fn f_morph_each_api_Spell = some a_morph_each_api_Spell) {g : Nat} {fr cap : List AV} {F : Nat → Spell → Int} {tg : Tag} {l : List Spell} {H : List AObj} (hs : l.length ≤ maxL) (hfw : Wk H.length (.fn (.func g) fr cap) (.fn (.func g) fr cap)) (hlw : Wk H.length (.slice tg 4 (l.map Spell.row)) (.slice tg 4 (l.map Spell.row)))
    (hp : ∀ (L : List AObj) (i : Nat) (x : Spell), l[i]? = some x → M.run g (fr ++ .int .i64 i :: .agg (Spell.row x) :: cap) (H ++ L) = some (.ret (.int .u8 (F i x)), H ++ L)) (most : Int) :
    M.run f_morph_each_api_Spell [.slice tg 4 (l.map Spell.row), .int .i64 most, .fn (.func g) fr cap] H = some (.ret (.int .u8 (eachF most F l)), H) := by
  rw [run_c M hf rfl (c := c_morph_each_api_Spell) rfl, c_morph_each_api_Spell]
  have hl := fun k => each_Spell M (tg := tg) hs hfw hlw hp (cut_refl H) k l.length 0 (by omega)
  simp only [kv_cons, kv_nil, Int.ofNat_zero, List.drop_zero] at hl
  simp (maxSteps := 3000000) (maxDischargeDepth := 6) +contextual -implicitDefEqProofs only [amA M, amB, ↓slc_true, ↓slc_false, ↓slc_not, ↓fget_at, Nat.reduceBEq, Nat.reduceAdd, env, fargs, q_morph_each_api_Spell, hl]
  rw [err_first, eachF]
  cases decide (most < (l.length : Int)) <;> rfl

theorem each_Link {H H0 : List AObj} {g : Nat} {fr cap : List AV} {F : Nat → Link → Int} {tg : Tag} {l : List Link} (hs : l.length ≤ maxL) (hfw : Wk H.length (.fn (.func g) fr cap) (.fn (.func g) fr cap)) (hlw : Wk H.length (.slice tg 3 (l.map Link.row)) (.slice tg 3 (l.map Link.row))) (hp : ∀ (L : List AObj) (i : Nat) (x : Link), l[i]? = some x → M.run g (fr ++ .int .i64 i :: .agg (Link.row x) :: cap) (H ++ L) = some (.ret (.int .u8 (F i x)), H ++ L)) (hc : CutOk H0 H) (k : List Fra) : ∀ (n i : Nat), i + n = l.length →
    M.go a_morph_each_api_Link H0 (.c l_morph_each_api_Link_0 :: .lp ⟨(some [2, 14, 15, 16]), [], true⟩ l_morph_each_api_Link_0 H :: .blk 0 :: .c (.lv []) :: k) (kv [(2, .fn (.func g) fr cap), (14, .slice tg 3 (l.map Link.row)), (15, .int .i64 l.length), (16, .int .i64 i)]) H =
      orE (firstE (errF F) i (l.drop i)) (H.take H0.length) (M.go a_morph_each_api_Link H0 k .leaf H)
  | 0, i, h => by
    have e : i = l.length := by omega
    subst e
    rw [go_head M l_morph_each_api_Link_0.eq_1]
    simp (maxSteps := 3000000) (maxDischargeDepth := 6) +contextual -implicitDefEqProofs only [amA M, amB, ↓slc_true, ↓slc_false, ↓slc_not, ↓fget_at, Nat.reduceBEq, Nat.reduceAdd, env, fargs, q_morph_each_api_Link, Nat.lt_irrefl, List.drop_length]
  | n + 1, i, h => by
    have hi : i < l.length := by omega
    have hx : l[i]? = some l[i] := List.getElem?_eq_getElem hi
    have hd : (l.drop i) = l[i] :: l.drop (i + 1) := List.drop_eq_getElem_cons hi
    have hm : l[i] ∈ l := List.getElem_mem hi
    have ih := each_Link (H := H) (H0 := H0) (g := g) (fr := fr) (cap := cap) (F := F) (tg := tg) (l := l) (hs := hs) (hfw := hfw) (hlw := hlw) (hp := hp) hc k n (i + 1)  (by omega)
    simp only [kv_cons, kv_nil] at ih
    have hp := fun L => hp L i l[i] hx
    rw [go_head M l_morph_each_api_Link_0.eq_1]
    simp (maxSteps := 3000000) (maxDischargeDepth := 6) +contextual -implicitDefEqProofs only [amA M, amB, ↓slc_true, ↓slc_false, ↓slc_not, ↓fget_at, Nat.reduceBEq, Nat.reduceAdd, env, fargs, q_morph_each_api_Link, hx, hd, hi, ih, amG, AV.cell, hp, hfw, hlw, wrap_s hi hs, ias_row hi, qLink, errF, hc]

theorem run_each_Link (hf : E.fn f_morph_each_api_Link = some a_morph_each_api_Link) {g : Nat} {fr cap : List AV} {F : Nat → Link → Int} {tg : Tag} {l : List Link} {H : List AObj} (hs : l.length ≤ maxL) (hfw : Wk H.length (.fn (.func g) fr cap) (.fn (.func g) fr cap)) (hlw : Wk H.length (.slice tg 3 (l.map Link.row)) (.slice tg 3 (l.map Link.row)))
    (hp : ∀ (L : List AObj) (i : Nat) (x : Link), l[i]? = some x → M.run g (fr ++ .int .i64 i :: .agg (Link.row x) :: cap) (H ++ L) = some (.ret (.int .u8 (F i x)), H ++ L)) (most : Int) :
    M.run f_morph_each_api_Link [.slice tg 3 (l.map Link.row), .int .i64 most, .fn (.func g) fr cap] H = some (.ret (.int .u8 (eachF most F l)), H) := by
  rw [run_c M hf rfl (c := c_morph_each_api_Link) rfl, c_morph_each_api_Link]
  have hl := fun k => each_Link M (tg := tg) hs hfw hlw hp (cut_refl H) k l.length 0 (by omega)
  simp only [kv_cons, kv_nil, Int.ofNat_zero, List.drop_zero] at hl
  simp (maxSteps := 3000000) (maxDischargeDepth := 6) +contextual -implicitDefEqProofs only [amA M, amB, ↓slc_true, ↓slc_false, ↓slc_not, ↓fget_at, Nat.reduceBEq, Nat.reduceAdd, env, fargs, q_morph_each_api_Link, hl]
  rw [err_first, eachF]
  cases decide (most < (l.length : Int)) <;> rfl

end Go.Am
end

section
set_option linter.unusedSimpArgs false
set_option linter.unusedVariables false
set_option maxRecDepth 100000
set_option maxHeartbeats 4000000
namespace Go.Am
open Go.RowKit
attribute [local congr] dsel_congr sel_c1 slc_cong gsel_congr go_congr aft_congr aftD_congr condR_congr backR_congr inR_congr at2_congr
variable {E : REnv} (M : Mach cdec E)

structure ChkE (E : REnv) : Prop where
  morph_checker_vowels : E.fn f_morph_checker_vowels = some a_morph_checker_vowels
  slices_Index_string_string : E.fn f_slices_Index_string_string = some a_slices_Index_string_string
  slices_Contains_string_string : E.fn f_slices_Contains_string_string = some a_slices_Contains_string_string
  morph_checker_trait_1 : E.fn f_morph_checker_trait_1 = some a_morph_checker_trait_1
  slices_IndexFunc_api_Trait_api_Trait : E.fn f_slices_IndexFunc_api_Trait_api_Trait = some a_slices_IndexFunc_api_Trait_api_Trait
  slices_ContainsFunc_api_Trait_api_Trait : E.fn f_slices_ContainsFunc_api_Trait_api_Trait = some a_slices_ContainsFunc_api_Trait_api_Trait
  morph_checker_trait : E.fn f_morph_checker_trait = some a_morph_checker_trait
  morph_each_api_Trait : E.fn f_morph_each_api_Trait = some a_morph_each_api_Trait
  morph_Check_1 : E.fn f_morph_Check_1 = some a_morph_Check_1
  morph_checker_class_1 : E.fn f_morph_checker_class_1 = some a_morph_checker_class_1
  slices_IndexFunc_api_Class_api_Class : E.fn f_slices_IndexFunc_api_Class_api_Class = some a_slices_IndexFunc_api_Class_api_Class
  slices_ContainsFunc_api_Class_api_Class : E.fn f_slices_ContainsFunc_api_Class_api_Class = some a_slices_ContainsFunc_api_Class_api_Class
  morph_short : E.fn f_morph_short = some a_morph_short
  morph_checker_bundle_1_1 : E.fn f_morph_checker_bundle_1_1 = some a_morph_checker_bundle_1_1
  morph_checker_bundle_1 : E.fn f_morph_checker_bundle_1 = some a_morph_checker_bundle_1
  morph_each_api_Feat : E.fn f_morph_each_api_Feat = some a_morph_each_api_Feat
  morph_checker_bundle : E.fn f_morph_checker_bundle = some a_morph_checker_bundle
  morph_checker_class_2 : E.fn f_morph_checker_class_2 = some a_morph_checker_class_2
  morph_each_api_Slot : E.fn f_morph_each_api_Slot = some a_morph_each_api_Slot
  morph_checker_class : E.fn f_morph_checker_class = some a_morph_checker_class
  morph_each_api_Class : E.fn f_morph_each_api_Class = some a_morph_each_api_Class
  morph_Check_2 : E.fn f_morph_Check_2 = some a_morph_Check_2
  morph_checker_entry_3 : E.fn f_morph_checker_entry_3 = some a_morph_checker_entry_3
  slices_IndexFunc_api_Irregular_api_Irregular : E.fn f_slices_IndexFunc_api_Irregular_api_Irregular = some a_slices_IndexFunc_api_Irregular_api_Irregular
  slices_ContainsFunc_api_Irregular_api_Irregular : E.fn f_slices_ContainsFunc_api_Irregular_api_Irregular = some a_slices_ContainsFunc_api_Irregular_api_Irregular
  morph_classOf_1 : E.fn f_morph_classOf_1 = some a_morph_classOf_1
  morph_classOf : E.fn f_morph_classOf = some a_morph_classOf
  morph_checker_entry_1 : E.fn f_morph_checker_entry_1 = some a_morph_checker_entry_1
  slices_IndexFunc_api_Entry_api_Entry : E.fn f_slices_IndexFunc_api_Entry_api_Entry = some a_slices_IndexFunc_api_Entry_api_Entry
  slices_ContainsFunc_api_Entry_api_Entry : E.fn f_slices_ContainsFunc_api_Entry_api_Entry = some a_slices_ContainsFunc_api_Entry_api_Entry
  morph_clash_1_1 : E.fn f_morph_clash_1_1 = some a_morph_clash_1_1
  slices_IndexFunc_api_Feat_api_Feat : E.fn f_slices_IndexFunc_api_Feat_api_Feat = some a_slices_IndexFunc_api_Feat_api_Feat
  slices_ContainsFunc_api_Feat_api_Feat : E.fn f_slices_ContainsFunc_api_Feat_api_Feat = some a_slices_ContainsFunc_api_Feat_api_Feat
  morph_clash_1 : E.fn f_morph_clash_1 = some a_morph_clash_1
  morph_clash : E.fn f_morph_clash = some a_morph_clash
  morph_checker_entry_2 : E.fn f_morph_checker_entry_2 = some a_morph_checker_entry_2
  slices_IndexFunc_api_Slot_api_Slot : E.fn f_slices_IndexFunc_api_Slot_api_Slot = some a_slices_IndexFunc_api_Slot_api_Slot
  slices_ContainsFunc_api_Slot_api_Slot : E.fn f_slices_ContainsFunc_api_Slot_api_Slot = some a_slices_ContainsFunc_api_Slot_api_Slot
  morph_checker_entry : E.fn f_morph_checker_entry = some a_morph_checker_entry
  morph_each_api_Entry : E.fn f_morph_each_api_Entry = some a_morph_each_api_Entry
  morph_Check_3 : E.fn f_morph_Check_3 = some a_morph_Check_3
  morph_symbol : E.fn f_morph_symbol = some a_morph_symbol
  morph_around : E.fn f_morph_around = some a_morph_around
  morph_checker_spell : E.fn f_morph_checker_spell = some a_morph_checker_spell
  morph_each_api_Spell : E.fn f_morph_each_api_Spell = some a_morph_each_api_Spell
  morph_Check_4 : E.fn f_morph_Check_4 = some a_morph_Check_4
  morph_checker_link : E.fn f_morph_checker_link = some a_morph_checker_link
  morph_each_api_Link : E.fn f_morph_each_api_Link = some a_morph_each_api_Link
  morph_Check_5 : E.fn f_morph_Check_5 = some a_morph_Check_5
  morph_first : E.fn f_morph_first = some a_morph_first
  morph_Check : E.fn f_morph_Check = some a_morph_Check

/-- An error's number as what a loop returns by it. -/
def eO (e : Int) : Option AV := sel (!(e == 0)) (some (.int .u8 e)) none
theorem errF_eO {α : Type} (F : Nat → α → Int) (i : Nat) (x : α) : errF F i x = eO (F i x) := rfl
theorem eO_sel (b : Bool) (e e' : Int) : eO (sel b e e') = sel b (eO e) (eO e') := by cases b <;> rfl
theorem eO_errI {α : Type} (F : Nat → α → Int) : ∀ (l : List α) (i : Nat), eO (errI F i l) = firstE (errF F) i l
  | [], _ => rfl
  | x :: l, i => by
    rw [errI, firstE_cons, ← eO_errI F l, eO_sel]
    unfold errF eO
    cases h : (F i x == 0) <;> simp [sel, orO, h]
theorem orE_eO (e : Int) (H : List AObj) (x : Option Out) : orE (eO e) H x = sel (e == 0) x (some (.ret (.int .u8 e), H)) := by
  unfold eO; cases e == 0 <;> rfl
theorem qE : (∀ (b : Bool) (e e' : Int), eO (slc b e e') = slc b (eO e) (eO e')) ∧ eO 0 = none ∧ eO 1 = some (.int .u8 1) ∧ eO 3 = some (.int .u8 3) ∧ eO 5 = some (.int .u8 5) ∧ eO 6 = some (.int .u8 6) ∧ eO 7 = some (.int .u8 7) ∧ eO 10 = some (.int .u8 10) :=
  ⟨eO_sel, rfl, rfl, rfl, rfl, rfl, rfl, rfl⟩

/-- What is found, and where. -/
theorem idxI_cases {α : Type} (p : α → Bool) : ∀ (l : List α) (i : Nat), (idxI p i l = -1 ∧ l.find? p = none) ∨ ∃ (j : Nat) (x : α), idxI p i l = ((i + j : Nat) : Int) ∧ l[j]? = some x ∧ l.find? p = some x
  | [], _ => .inl ⟨rfl, rfl⟩
  | x :: l, i => by
    cases h : p x with
    | true => exact .inr ⟨0, x, by simp [idxI, h, sel], rfl, by simp [h]⟩
    | false =>
      rcases idxI_cases p l (i + 1) with ⟨h1, h2⟩ | ⟨j, y, h1, h2, h3⟩
      · exact .inl ⟨by simp [idxI, h, sel, h1], by simp [h, h2]⟩
      · exact .inr ⟨j + 1, y, by simp [idxI, h, sel, h1]; omega, by simpa using h2, by simp [h, h3]⟩

/-! Strings in lists -/
theorem ixs {H H0 : List AObj} {v : Str} {tg : Tag} {l : List Str} (hs : l.length ≤ maxL) (hc : CutOk H0 H) (k : List Fra) : ∀ (n i : Nat) (He : List AObj), i + n = l.length →
    M.go a_slices_Index_string_string H0 (.c l_slices_Index_string_string_0 :: .lp ⟨(some [0, 1, 7, 8]), [], false⟩ l_slices_Index_string_string_0 He :: .blk 0 :: .c (.lv []) :: k) (kv [(0, .slice tg 1 (l.map strRow)), (1, .str v), (7, .int .i64 l.length), (8, .int .i64 i)]) H =
      orE (firstE (idxF fun s => v == s) i (l.drop i)) (H.take H0.length) (M.go a_slices_Index_string_string H0 k .leaf H)
  | 0, i, He, h => by
    have e : i = l.length := by omega
    subst e
    rw [go_head M l_slices_Index_string_string_0.eq_1]
    simp (maxSteps := 3000000) (maxDischargeDepth := 6) +contextual -implicitDefEqProofs only [amA M, amB, ↓slc_true, ↓slc_false, ↓slc_not, ↓fget_at, Nat.reduceBEq, Nat.reduceAdd, env, fargs, q_slices_Index_string_string, Nat.lt_irrefl, List.drop_length]
  | n + 1, i, He, h => by
    have hi : i < l.length := by omega
    have hx : l[i]? = some l[i] := List.getElem?_eq_getElem hi
    have hd : (l.drop i) = l[i] :: l.drop (i + 1) := List.drop_eq_getElem_cons hi
    have hm : l[i] ∈ l := List.getElem_mem hi
    have ih := fun He => ixs (H := H) (H0 := H0) (v := v) (tg := tg) (l := l) (hs := hs) hc k n (i + 1)  He (by omega)
    simp only [kv_cons, kv_nil] at ih
    rw [go_head M l_slices_Index_string_string_0.eq_1]
    simp (maxSteps := 3000000) (maxDischargeDepth := 6) +contextual -implicitDefEqProofs only [amA M, amB, ↓slc_true, ↓slc_false, ↓slc_not, ↓fget_at, Nat.reduceBEq, Nat.reduceAdd, env, fargs, q_slices_Index_string_string, hx, hd, hi, ih, wrap_s hi hs, ias_row hi, qStr, idxF, hc]

theorem run_Contains (hE : ChkE E) {v : Str} {tg : Tag} {l : List Str} (hs : l.length ≤ maxL) (H : List AObj) : M.run f_slices_Contains_string_string [.slice tg 1 (l.map strRow), .str v] H = some (.ret (.bool (l.any fun s => v == s)), H) := by
  have h1 : M.run f_slices_Index_string_string [.slice tg 1 (l.map strRow), .str v] H = some (.ret (.int .i64 (idxI (fun s => v == s) 0 l)), H) := by
    rw [run_c M hE.slices_Index_string_string rfl (c := c_slices_Index_string_string) rfl, c_slices_Index_string_string]
    have hl := fun k He => ixs M (tg := tg) (v := v) hs (cut_refl H) k l.length 0 He (by omega)
    simp only [kv_cons, kv_nil, Int.ofNat_zero, List.drop_zero] at hl
    simp (maxSteps := 3000000) (maxDischargeDepth := 6) +contextual -implicitDefEqProofs only [amA M, amB, ↓slc_true, ↓slc_false, ↓slc_not, ↓fget_at, Nat.reduceBEq, Nat.reduceAdd, env, fargs, q_slices_Index_string_string, hl]
    exact idx_first _ l 0 H
  rw [run_c M hE.slices_Contains_string_string rfl (c := c_slices_Contains_string_string) rfl, c_slices_Contains_string_string]
  simp (maxSteps := 3000000) (maxDischargeDepth := 6) +contextual -implicitDefEqProofs only [amA M, amB, ↓slc_true, ↓slc_false, ↓slc_not, ↓fget_at, Nat.reduceBEq, Nat.reduceAdd, env, fargs, q_slices_Contains_string_string, h1, idx_any]

/-! Kinds of bytes -/
def isSym (c : UInt8) : Bool := isLo c || ((c.toNat : Int) == 43)
def isAro (c : UInt8) : Bool := isSym c || ((c.toNat : Int) == 35) || ((c.toNat : Int) == 86) || ((c.toNat : Int) == 67)
theorem run_symbol (hN : NamesE E) (hE : ChkE E) (c : UInt8) (H : List AObj) : M.run f_morph_symbol [.int .u8 c.toNat] H = some (.ret (.bool (isSym c)), H) := by
  rw [run_c M hE.morph_symbol rfl (c := c_morph_symbol) rfl, c_morph_symbol]
  simp (maxSteps := 3000000) (maxDischargeDepth := 6) +contextual -implicitDefEqProofs only [amA M, amB, ↓slc_true, ↓slc_false, ↓slc_not, ↓fget_at, Nat.reduceBEq, Nat.reduceAdd, env, fargs, q_morph_symbol, run_letter M hN.letter, isSym]
theorem run_around (hN : NamesE E) (hE : ChkE E) (c : UInt8) (H : List AObj) : M.run f_morph_around [.int .u8 c.toNat] H = some (.ret (.bool (isAro c)), H) := by
  rw [run_c M hE.morph_around rfl (c := c_morph_around) rfl, c_morph_around]
  simp (maxSteps := 3000000) (maxDischargeDepth := 6) +contextual -implicitDefEqProofs only [amA M, amB, ↓slc_true, ↓slc_false, ↓slc_not, ↓fget_at, Nat.reduceBEq, Nat.reduceAdd, env, fargs, q_morph_around, run_symbol M hN hE, isAro, Bool.or_assoc]

def shortF (p : UInt8 → Bool) (s : Str) : Bool := decide ((s.length : Int) ≤ 6) && s.all p
theorem run_short (hN : NamesE E) (hE : ChkE E) {g : Nat} {fr cap : List AV} {p : UInt8 → Bool} {s : Str} (hs : s.length ≤ maxL) {H : List AObj} (hp : ∀ c : UInt8, M.run g (fr ++ .int .u8 c.toNat :: cap) H = some (.ret (.bool (p c)), H)) :
    M.run f_morph_short [.str s, .fn (.func g) fr cap] H = some (.ret (.bool (shortF p s)), H) := by
  rw [run_c M hE.morph_short rfl (c := c_morph_short) rfl, c_morph_short]
  simp (maxSteps := 3000000) (maxDischargeDepth := 6) +contextual -implicitDefEqProofs only [amA M, amB, ↓slc_true, ↓slc_false, ↓slc_not, ↓fget_at, Nat.reduceBEq, Nat.reduceAdd, env, fargs, q_morph_short, run_all M hN.all hs hp, shortF]

/-! Vowels -/
/-- A byte that may not stand at a place. -/
def badV (v : Str) : Nat → UInt8 → Bool
  | 0, c => !isLo c
  | i + 1, c => !isLo c || (match v[i]? with
    | some d => decide ((c.toNat : Int) ≤ (d.toNat : Int))
    | none => false)
theorem badV_zero (v : Str) (c : UInt8) : badV v 0 c = !isLo c := rfl
theorem badV_succ {v : Str} {i : Nat} {d : UInt8} (h : v[i]? = some d) (c : UInt8) : badV v (i + 1) c = (!isLo c || decide ((c.toNat : Int) ≤ (d.toNat : Int))) := by simp only [badV, h]
theorem vow {H H0 : List AObj} (hN : NamesE E) {v : Str} (hs : v.length ≤ maxL) (hc : CutOk H0 H) (k : List Fra) : ∀ (n i : Nat) (He : List AObj), i + n = v.length →
    M.go a_morph_checker_vowels H0 (.c l_morph_checker_vowels_0 :: .lp ⟨(some [3, 9, 10]), [], false⟩ l_morph_checker_vowels_0 He :: .blk 0 :: .c (.lv []) :: k) (kv [(3, .str v), (9, .int .i64 v.length), (10, .int .i64 i)]) H =
      orE (firstE (errF fun i c => sel (badV v i c) 1 0) i (v.drop i)) (H.take H0.length) (M.go a_morph_checker_vowels H0 k .leaf H)
  | 0, i, He, h => by
    have e : i = v.length := by omega
    subst e
    rw [go_head M l_morph_checker_vowels_0.eq_1]
    simp (maxSteps := 3000000) (maxDischargeDepth := 6) +contextual -implicitDefEqProofs only [amA M, amB, ↓slc_true, ↓slc_false, ↓slc_not, ↓fget_at, Nat.reduceBEq, Nat.reduceAdd, env, fargs, q_morph_checker_vowels, Nat.lt_irrefl, List.drop_length]
  | n + 1, i, He, h => by
    have hi : i < v.length := by omega
    have hx : v[i]? = some v[i] := List.getElem?_eq_getElem hi
    have hd : (v.drop i) = v[i] :: v.drop (i + 1) := List.drop_eq_getElem_cons hi
    have hm : v[i] ∈ v := List.getElem_mem hi
    have ih := fun He => vow (H := H) (H0 := H0) (hN := hN) (v := v) (hs := hs) hc k n (i + 1)  He (by omega)
    simp only [kv_cons, kv_nil] at ih
    cases i with
    | zero =>
      rw [go_head M l_morph_checker_vowels_0.eq_1]
      simp (maxSteps := 3000000) (maxDischargeDepth := 6) +contextual -implicitDefEqProofs only [amA M, amB, ↓slc_true, ↓slc_false, ↓slc_not, ↓fget_at, Nat.reduceBEq, Nat.reduceAdd, env, fargs, q_morph_checker_vowels, hx, hd, hi, ih, wrap_s hi hs, run_letter M hN.letter, hc, errF_eO, qE, badV_zero, (show decide ((0 : Int) < ((0 : Nat) : Int)) = false from rfl)]
    | succ j =>
      have hj : j < v.length := by omega
      have hxj : v[j]? = some v[j] := List.getElem?_eq_getElem hj
      rw [go_head M l_morph_checker_vowels_0.eq_1]
      simp (maxSteps := 3000000) (maxDischargeDepth := 6) +contextual -implicitDefEqProofs only [amA M, amB, ↓slc_true, ↓slc_false, ↓slc_not, ↓fget_at, Nat.reduceBEq, Nat.reduceAdd, env, fargs, q_morph_checker_vowels, hx, hd, hi, ih, wrap_s hi hs, wrap_p (show j + 1 ≤ maxL by omega), hxj, run_letter M hN.letter, hc, errF_eO, qE, badV_succ hxj, (show decide ((0 : Int) < ((j + 1 : Nat) : Int)) = true from decide_eq_true (by omega))]

def vowF (l : Lex) : Int := errI (fun i c => sel (badV l.vowels i c) 1 0) 0 l.vowels
theorem run_vowels (hN : NamesE E) (hE : ChkE E) {l : Lex} {n : Nat} (hl : l.ok n) (H : List AObj) : M.run f_morph_checker_vowels [.agg l.row] H = some (.ret (.int .u8 (vowF l)), H) := by
  rw [run_c M hE.morph_checker_vowels rfl (c := c_morph_checker_vowels) rfl, c_morph_checker_vowels]
  have hl := fun k L He => vow M hN hl.vowels (cut_app H L) k l.vowels.length 0 He (by omega)
  simp only [kv_cons, kv_nil, Int.ofNat_zero, List.drop_zero] at hl
  simp (maxSteps := 3000000) (maxDischargeDepth := 6) +contextual -implicitDefEqProofs only [amA M, amB, ↓slc_true, ↓slc_false, ↓slc_not, ↓fget_at, Nat.reduceBEq, Nat.reduceAdd, env, fargs, q_morph_checker_vowels, hl, qLex, cut_app]
  exact err_first _ _ 0 H

end Go.Am
end

section
set_option linter.unusedSimpArgs false
set_option linter.unusedVariables false
set_option maxRecDepth 100000
set_option maxHeartbeats 4000000
namespace Go.Am
open Go.RowKit
attribute [local congr] dsel_congr sel_c1 slc_cong gsel_congr go_congr aft_congr aftD_congr condR_congr backR_congr inR_congr at2_congr
variable {E : REnv} (M : Mach cdec E)

/-! Traits -/
theorem run_trait_1 (hE : ChkE E) (o t : Trait) {H : List AObj} {q : Nat} {T : TypeId} (hq : H[q]? = some (.cells t.row T)) : M.run f_morph_checker_trait_1 [.agg o.row, .ptr q 0] H = some (.ret (.bool (o.name == t.name)), H) := by
  rw [run_c M hE.morph_checker_trait_1 rfl (c := c_morph_checker_trait_1) rfl, c_morph_checker_trait_1]
  simp (maxSteps := 3000000) (maxDischargeDepth := 6) +contextual -implicitDefEqProofs only [amA M, amB, ↓slc_true, ↓slc_false, ↓slc_not, ↓fget_at, Nat.reduceBEq, Nat.reduceAdd, env, fargs, q_morph_checker_trait_1, qTrait, hq, hp_getl hq]

def valF (t : Trait) (k : Nat) (v : Str) : Int := sel (!nameF v) 5 (sel ((t.values.l.take k).any fun s => v == s) 6 0)
theorem trl {H H0 : List AObj} (hN : NamesE E) (hE : ChkE E) {t : Trait} {n0 : Nat} (ht : t.ok n0) {p : Nat} {T : TypeId} (hp : H[p]? = some (.cells t.row T)) (hc : CutOk H0 H) (k : List Fra) : ∀ (n i : Nat) (He : List AObj), i + n = (t.values.l).length →
    M.go a_morph_checker_trait H0 (.c l_morph_checker_trait_0 :: .lp ⟨(some [5, 33, 34, 35]), [], false⟩ l_morph_checker_trait_0 He :: .blk 1 :: .c (.lv []) :: k) (kv [(5, .ptr p 0), (33, .slice t.values.tag 1 (t.values.l.map strRow)), (34, .int .i64 t.values.l.length), (35, .int .i64 i)]) H =
      orE (firstE (errF (valF t)) i (t.values.l.drop i)) (H.take H0.length) (M.go a_morph_checker_trait H0 k .leaf H)
  | 0, i, He, h => by
    have e : i = (t.values.l).length := by omega
    subst e
    rw [go_head M l_morph_checker_trait_0.eq_1]
    simp (maxSteps := 3000000) (maxDischargeDepth := 6) +contextual -implicitDefEqProofs only [amA M, amB, ↓slc_true, ↓slc_false, ↓slc_not, ↓fget_at, Nat.reduceBEq, Nat.reduceAdd, env, fargs, q_morph_checker_trait, Nat.lt_irrefl, List.drop_length]
  | n + 1, i, He, h => by
    have hi : i < (t.values.l).length := by omega
    have hx : (t.values.l)[i]? = some (t.values.l)[i] := List.getElem?_eq_getElem hi
    have hd : ((t.values.l).drop i) = (t.values.l)[i] :: (t.values.l).drop (i + 1) := List.drop_eq_getElem_cons hi
    have hm : (t.values.l)[i] ∈ (t.values.l) := List.getElem_mem hi
    have ih := fun He => trl (H := H) (H0 := H0) (hN := hN) (hE := hE) (t := t) (n0 := n0) (ht := ht) (p := p) (T := T) (hp := hp) hc k n (i + 1)  He (by omega)
    simp only [kv_cons, kv_nil] at ih
    rw [go_head M l_morph_checker_trait_0.eq_1]
    simp (maxSteps := 3000000) (maxDischargeDepth := 6) +contextual -implicitDefEqProofs only [amA M, amB, ↓slc_true, ↓slc_false, ↓slc_not, ↓fget_at, Nat.reduceBEq, Nat.reduceAdd, env, fargs, q_morph_checker_trait, hx, hd, hi, ih, wrap_s hi ht.values.len, ias_row hi, qStr, qTrait, hp, run_Name M hN (ht.values.all _ hm), sll_to hi, run_Contains M hE (take_len ht.values.len i), hc, errF_eO, valF, qE]

def traitF (l : Lex) (i : Nat) (t : Trait) : Int :=
  sel (!nameF t.name) 5 (sel ((l.traits.l.take i).any fun o => o.name == t.name) 6 (sel (decide ((8 : Int) < (t.values.l.length : Int))) 3 (sel ((t.values.l.length : Int) == 0) 1 (errI (valF t) 0 t.values.l))))
theorem err_first0 {α : Type} (F : Nat → α → Int) (l : List α) (H : List AObj) : orE (firstE (errF F) 0 l) H (some (.ret (.int .u8 0), H)) = some (.ret (.int .u8 (errI F 0 l)), H) := err_first F l 0 H
theorem sel_int (b : Bool) (x y : Int) : sel b (AV.int .u8 x) (AV.int .u8 y) = .int .u8 (sel b x y) := by cases b <;> rfl
theorem run_trait (hN : NamesE E) (hE : ChkE E) {l : Lex} {t : Trait} {n : Nat} (hl : l.ok n) (ht : t.ok n) {i : Nat} (hi : i < l.traits.l.length) (H : List AObj) :
    M.run f_morph_checker_trait [.agg l.row, .int .i64 i, .agg t.row] H = some (.ret (.int .u8 (traitF l i t)), H) := by
  rw [run_c M hE.morph_checker_trait rfl (c := c_morph_checker_trait) rfl, c_morph_checker_trait]
  have hq : (H ++ [AObj.cells l.row t_morph_checker, .cells t.row t_api_Trait])[H.length + 1]? = some (.cells t.row t_api_Trait) := by rw [hp_getk]; rfl
  have hcf := run_ContainsFunc_Trait M hE.slices_IndexFunc_api_Trait_api_Trait hE.slices_ContainsFunc_api_Trait_api_Trait (g := f_morph_checker_trait_1) (fr := []) (cap := [.ptr (H.length + 1) 0]) (p := fun o => o.name == t.name) (tg := .any) (take_len hl.traits.len i) (fun x _ => run_trait_1 M hE x t hq)
  have hlp := fun k He => trl M hN hE ht hq (cut_app H _) k t.values.l.length 0 He (by omega)
  simp only [kv_cons, kv_nil, Int.ofNat_zero, List.drop_zero] at hlp
  simp (maxSteps := 3000000) (maxDischargeDepth := 6) +contextual -implicitDefEqProofs only [amA M, amB, ↓slc_true, ↓slc_false, ↓slc_not, ↓fget_at, Nat.reduceBEq, Nat.reduceAdd, env, fargs, q_morph_checker_trait, hlp, hcf, qLex, qTrait, sll_to hi, run_Name M hN ht.name, cut_app, err_first0, sel_int, traitF]

/-! Bundles -/
theorem run_bundle_1_1 (hE : ChkE E) (t : Trait) (f : Feat) {H : List AObj} {q : Nat} {T : TypeId} (hq : H[q]? = some (.cells f.row T)) : M.run f_morph_checker_bundle_1_1 [.agg t.row, .ptr q 0] H = some (.ret (.bool (t.name == f.name)), H) := by
  rw [run_c M hE.morph_checker_bundle_1_1 rfl (c := c_morph_checker_bundle_1_1) rfl, c_morph_checker_bundle_1_1]
  simp (maxSteps := 3000000) (maxDischargeDepth := 6) +contextual -implicitDefEqProofs only [amA M, amB, ↓slc_true, ↓slc_false, ↓slc_not, ↓fget_at, Nat.reduceBEq, Nat.reduceAdd, env, fargs, q_morph_checker_bundle_1_1, qTrait, qFeat, hq, hp_getl hq]

end Go.Am
end

section
set_option linter.unusedSimpArgs false
set_option linter.unusedVariables false
set_option maxRecDepth 100000
set_option maxHeartbeats 4000000
namespace Go.Am
open Go.RowKit
attribute [local congr] dsel_congr sel_c1 slc_cong gsel_congr go_congr aft_congr aftD_congr condR_congr backR_congr inR_congr at2_congr
variable {E : REnv} (M : Mach cdec E)

/-- What is said of the element ahead. -/
def prevIs {α : Type} (l : List α) (q : α → Bool) : Nat → Bool
  | 0 => false
  | i + 1 => match l[i]? with
    | some g => q g
    | none => false
theorem prevIs_succ {α : Type} {l : List α} {i : Nat} {g : α} (h : l[i]? = some g) (q : α → Bool) : prevIs l q (i + 1) = q g := by simp only [prevIs, h]
theorem pos0 : decide ((0 : Int) < ((0 : Nat) : Int)) = false := rfl
theorem pos1 (j : Nat) : decide ((0 : Int) < ((j + 1 : Nat) : Int)) = true := decide_eq_true (by omega)
theorem neg0 (j : Nat) : decide (((j : Nat) : Int) < 0) = false := decide_eq_false (by omega)
theorem neg1 : decide ((-1 : Int) < 0) = true := rfl

def bunF (l : Lex) (b : List Feat) (i : Nat) (f : Feat) : Int :=
  match l.traits.l.find? fun t => t.name == f.name with
  | none => 5
  | some t => sel (!(t.values.l.any fun s => f.value == s)) 1 (sel (prevIs b (fun g => g.name == f.name) i) 6 (sel (prevIs b (fun g => !(Op.bytesLess g.name f.name || g.name == f.name)) i) 1 0))

theorem run_bundle_1 (hE : ChkE E) {l : Lex} {b : List Feat} {tg : Tag} {n : Nat} (hl : l.ok n) (hb : b.length ≤ maxL) {i : Nat} {f : Feat} (hf : b[i]? = some f) {H : List AObj} {p q : Nat} {T T2 : TypeId}
    (hp : H[p]? = some (.cells l.row T)) (hq : H[q]? = some (.cells [.slice tg 2 (b.map Feat.row)] T2)) :
    M.run f_morph_checker_bundle_1 [.int .i64 i, .agg f.row, .ptr p 0, .ptr q 0] H = some (.ret (.int .u8 (bunF l b i f)), H) := by
  rw [run_c M hE.morph_checker_bundle_1 rfl (c := c_morph_checker_bundle_1) rfl, c_morph_checker_bundle_1]
  have hi : i < b.length := (List.getElem?_eq_some_iff.1 hf).1
  have hr : (H ++ [AObj.cells f.row t_api_Feat])[H.length]? = some (.cells f.row t_api_Feat) := by rw [hp_get0]; rfl
  have hp' := fun L => hp_getl (L := L) hp
  have hq' := fun L => hp_getl (L := L) hq
  have hcf := run_IndexFunc_Trait M hE.slices_IndexFunc_api_Trait_api_Trait (g := f_morph_checker_bundle_1_1) (fr := []) (cap := [.ptr H.length 0]) (p := fun t => t.name == f.name) (tg := l.traits.tag) hl.traits.len (fun x _ => run_bundle_1_1 M hE x f hr)
  rcases idxI_cases (fun t : Trait => t.name == f.name) l.traits.l 0 with ⟨h1, h2⟩ | ⟨j, t, h1, h2, h3⟩
  · rw [h1] at hcf
    simp (maxSteps := 3000000) (maxDischargeDepth := 6) +contextual -implicitDefEqProofs only [amA M, amB, ↓slc_true, ↓slc_false, ↓slc_not, ↓fget_at, Nat.reduceBEq, Nat.reduceAdd, env, fargs, q_morph_checker_bundle_1, hcf, qLex, qFeat, hp', hq', bunF, h2, neg1]
  · rw [h1, Nat.zero_add] at hcf
    have hj : j < l.traits.l.length := (List.getElem?_eq_some_iff.1 h2).1
    have hm : t ∈ l.traits.l := List.mem_of_getElem? h2
    cases i with
    | zero =>
      simp (maxSteps := 3000000) (maxDischargeDepth := 6) +contextual -implicitDefEqProofs only [amA M, amB, ↓slc_true, ↓slc_false, ↓slc_not, ↓fget_at, Nat.reduceBEq, Nat.reduceAdd, env, fargs, q_morph_checker_bundle_1, hcf, qLex, qFeat, qTrait, hp', hq', bunF, h2, h3, neg0, pos0, prevIs, ias_row hj, run_Contains M hE (hl.traits.all t hm).values.len, sel_int]
    | succ i =>
      have hx : b[i]? = some b[i] := List.getElem?_eq_getElem (by omega)
      simp (maxSteps := 3000000) (maxDischargeDepth := 6) +contextual -implicitDefEqProofs only [amA M, amB, ↓slc_true, ↓slc_false, ↓slc_not, ↓fget_at, Nat.reduceBEq, Nat.reduceAdd, env, fargs, q_morph_checker_bundle_1, hcf, qLex, qFeat, qTrait, hp', hq', bunF, h2, h3, neg0, pos1, prevIs_succ hx, hx, hf, ias_row hj, ias_row (show i < b.length by omega), wrap_p (show i + 1 ≤ maxL by omega), run_Contains M hE (hl.traits.all t hm).values.len, sel_int]

end Go.Am
end

section
set_option linter.unusedSimpArgs false
set_option linter.unusedVariables false
set_option maxRecDepth 100000
set_option maxHeartbeats 4000000
namespace Go.Am
open Go.RowKit
attribute [local congr] dsel_congr sel_c1 slc_cong gsel_congr go_congr aft_congr aftD_congr condR_congr backR_congr inR_congr at2_congr
variable {E : REnv} (M : Mach cdec E)

theorem featsWk {b : Sl Feat} {n m : Nat} (h : b.ok n (Feat.ok n)) (hm : n ≤ m) : Wk m (.slice b.tag 2 (b.l.map Feat.row)) (.slice b.tag 2 (b.l.map Feat.row)) :=
  (h.mono hm (fun _ h => h)).wk (fun _ h => (h.mono hm).wk)

def bundleF (l : Lex) (b : List Feat) : Int := eachF 8 (bunF l b) b
theorem run_bundle (hE : ChkE E) {l : Lex} {b : Sl Feat} {n : Nat} (hl : l.ok n) (hb : b.ok n (Feat.ok n)) {H : List AObj} (hn : n ≤ H.length) :
    M.run f_morph_checker_bundle [.agg l.row, .slice b.tag 2 (b.l.map Feat.row)] H = some (.ret (.int .u8 (bundleF l b.l)), H) := by
  rw [run_c M hE.morph_checker_bundle rfl (c := c_morph_checker_bundle) rfl, c_morph_checker_bundle]
  have he := run_each_Feat M hE.morph_each_api_Feat (g := f_morph_checker_bundle_1) (fr := []) (cap := [.ptr H.length 0, .ptr (H.length + 1) 0]) (F := bunF l b.l) (tg := b.tag) (l := b.l) (H := H ++ [.cells l.row t_morph_checker, .cells [.slice b.tag 2 (b.l.map Feat.row)] t_sl_api_Feat]) hb.len
    (wk_fn trivial ⟨wk_ptr (by simp), wk_ptr (by simp), trivial⟩) (featsWk hb (by simp; omega))
    (fun L i x hx => run_bundle_1 M hE hl hb.len hx (T := t_morph_checker) (T2 := t_sl_api_Feat) (by rw [List.append_assoc, hp_get0]; rfl) (by rw [List.append_assoc, hp_getk]; rfl))
  simp (maxSteps := 3000000) (maxDischargeDepth := 6) +contextual -implicitDefEqProofs only [amA M, amB, ↓slc_true, ↓slc_false, ↓slc_not, ↓fget_at, Nat.reduceBEq, Nat.reduceAdd, env, fargs, q_morph_checker_bundle, he 8, qLex, bundleF]

/-! Classes -/
theorem run_class_1 (hE : ChkE E) (o t : Class) {H : List AObj} {q : Nat} {T : TypeId} (hq : H[q]? = some (.cells t.row T)) : M.run f_morph_checker_class_1 [.agg o.row, .ptr q 0] H = some (.ret (.bool (o.name == t.name)), H) := by
  rw [run_c M hE.morph_checker_class_1 rfl (c := c_morph_checker_class_1) rfl, c_morph_checker_class_1]
  simp (maxSteps := 3000000) (maxDischargeDepth := 6) +contextual -implicitDefEqProofs only [amA M, amB, ↓slc_true, ↓slc_false, ↓slc_not, ↓fget_at, Nat.reduceBEq, Nat.reduceAdd, env, fargs, q_morph_checker_class_1, qClass, hq, hp_getl hq]

def slotF (l : Lex) (s : Slot) : Int :=
  sel (decide (s.cut < 0) || decide (24 < s.cut) || !shortF isLo s.pre || !shortF isLo s.add) 1 (bundleF l s.feats.l)
theorem run_class_2 (hN : NamesE E) (hE : ChkE E) {l : Lex} {s : Slot} {n : Nat} (hl : l.ok n) (hs : s.ok n) {H : List AObj} (hn : n ≤ H.length) {p : Nat} {T : TypeId} (hp : H[p]? = some (.cells l.row T)) (i : Int) :
    M.run f_morph_checker_class_2 [.int .i64 i, .agg s.row, .ptr p 0] H = some (.ret (.int .u8 (slotF l s)), H) := by
  rw [run_c M hE.morph_checker_class_2 rfl (c := c_morph_checker_class_2) rfl, c_morph_checker_class_2]
  have hp' := fun L => hp_getl (L := L) hp
  have h1 := fun (H : List AObj) => run_short M hN hE (g := f_morph_letter) (fr := []) (cap := []) hs.pre (fun c => run_letter M hN.letter c H)
  have h2 := fun (H : List AObj) => run_short M hN hE (g := f_morph_letter) (fr := []) (cap := []) hs.add (fun c => run_letter M hN.letter c H)
  simp (maxSteps := 3000000) (maxDischargeDepth := 6) +contextual -implicitDefEqProofs only [amA M, amB, ↓slc_true, ↓slc_false, ↓slc_not, ↓fget_at, Nat.reduceBEq, Nat.reduceAdd, env, fargs, q_morph_checker_class_2, h1, h2, hp', qSlot, qLex, hn, run_bundle M hE hl hs.feats, slotF, sel_int, Bool.or_assoc]

def classF (l : Lex) (i : Nat) (c : Class) : Int :=
  sel (!nameF c.name) 5 (sel ((l.classes.l.take i).any fun o => o.name == c.name) 6 (sel (decide ((24 : Int) < (c.slots.l.length : Int))) 3 (sel ((c.slots.l.length : Int) == 0) 1 (eachF 24 (fun _ s => slotF l s) c.slots.l))))
theorem run_class (hN : NamesE E) (hE : ChkE E) {l : Lex} {c : Class} {n : Nat} (hl : l.ok n) (hc : c.ok n) {i : Nat} (hi : i < l.classes.l.length) {H : List AObj} (hn : n ≤ H.length) :
    M.run f_morph_checker_class [.agg l.row, .int .i64 i, .agg c.row] H = some (.ret (.int .u8 (classF l i c)), H) := by
  rw [run_c M hE.morph_checker_class rfl (c := c_morph_checker_class) rfl, c_morph_checker_class]
  have hq : (H ++ [AObj.cells l.row t_morph_checker, .cells c.row t_api_Class])[H.length + 1]? = some (.cells c.row t_api_Class) := by rw [hp_getk]; rfl
  have hcf := run_ContainsFunc_Class M hE.slices_IndexFunc_api_Class_api_Class hE.slices_ContainsFunc_api_Class_api_Class (g := f_morph_checker_class_1) (fr := []) (cap := [.ptr (H.length + 1) 0]) (p := fun o => o.name == c.name) (tg := .any) (take_len hl.classes.len i) (fun x _ => run_class_1 M hE x c hq)
  have he := run_each_Slot M hE.morph_each_api_Slot (g := f_morph_checker_class_2) (fr := []) (cap := [.ptr H.length 0]) (F := fun _ s => slotF l s) (tg := c.slots.tag) (l := c.slots.l) (H := H ++ [.cells l.row t_morph_checker, .cells c.row t_api_Class]) hc.slots.len
    (wk_fn trivial ⟨wk_ptr (by simp), trivial⟩) ((hc.slots.mono (by simp; omega) (fun _ h => h)).wk (fun _ h => (h.mono (by simp; omega)).wk))
    (fun L i x hx => run_class_2 M hN hE hl (hc.slots.all x (List.mem_of_getElem? hx)) (by simp; omega) (T := t_morph_checker) (by rw [List.append_assoc, hp_get0]; rfl) i)
  simp (maxSteps := 3000000) (maxDischargeDepth := 6) +contextual -implicitDefEqProofs only [amA M, amB, ↓slc_true, ↓slc_false, ↓slc_not, ↓fget_at, Nat.reduceBEq, Nat.reduceAdd, env, fargs, q_morph_checker_class, hcf, he 24, qLex, qClass, sll_to hi, run_Name M hN hc.name, cut_app, sel_int, classF]

end Go.Am
end

section
set_option linter.unusedSimpArgs false
set_option linter.unusedVariables false
set_option maxRecDepth 100000
set_option maxHeartbeats 4000000
namespace Go.Am
open Go.RowKit
attribute [local congr] dsel_congr sel_c1 slc_cong gsel_congr go_congr aft_congr aftD_congr condR_congr backR_congr inR_congr at2_congr
variable {E : REnv} (M : Mach cdec E)

theorem run_classOf_1 (hE : ChkE E) (o : Class) (s : Str) {H : List AObj} {q : Nat} {T : TypeId} (hq : H[q]? = some (.cells [.str s] T)) : M.run f_morph_classOf_1 [.agg o.row, .ptr q 0] H = some (.ret (.bool (o.name == s)), H) := by
  rw [run_c M hE.morph_classOf_1 rfl (c := c_morph_classOf_1) rfl, c_morph_classOf_1]
  simp (maxSteps := 3000000) (maxDischargeDepth := 6) +contextual -implicitDefEqProofs only [amA M, amB, ↓slc_true, ↓slc_false, ↓slc_not, ↓fget_at, Nat.reduceBEq, Nat.reduceAdd, env, fargs, q_morph_classOf_1, qClass, hq, hp_getl hq]

/-- The class of a name. -/
def clsOf (l : Lex) (s : Str) : Option Class := l.classes.l.find? fun c => c.name == s
def noClass : Class := ⟨[], ⟨.nil, []⟩⟩
theorem noClass_row : [AV.str [], .slice .nil 4 []] = noClass.row := rfl
theorem run_classOf_none (hE : ChkE E) {l : Lex} {s : Str} {n : Nat} (hl : l.ok n) (hf : clsOf l s = none) (H : List AObj) :
    M.run f_morph_classOf [.agg l.row, .str s] H = some (.ret (.tuple [.agg noClass.row, .bool false]), H) := by
  rw [run_c M hE.morph_classOf rfl (c := c_morph_classOf) rfl, c_morph_classOf]
  have hcf := run_IndexFunc_Class M hE.slices_IndexFunc_api_Class_api_Class (g := f_morph_classOf_1) (fr := []) (cap := [.ptr (H.length + 1) 0]) (p := fun c => c.name == s) (tg := l.classes.tag) hl.classes.len
    (H := H ++ [.cells l.row t_api_Lexicon, .cells [.str s] t_string, .cells noClass.row t_api_Class]) (fun x _ => run_classOf_1 M hE x s (T := t_string) (by rw [hp_getk]; rfl))
  rcases idxI_cases (fun c : Class => c.name == s) l.classes.l 0 with ⟨h1, h2⟩ | ⟨j, t, h1, h2, h3⟩
  · rw [h1] at hcf
    simp (maxSteps := 3000000) (maxDischargeDepth := 6) +contextual -implicitDefEqProofs only [amA M, amB, ↓slc_true, ↓slc_false, ↓slc_not, ↓fget_at, Nat.reduceBEq, Nat.reduceAdd, env, fargs, q_morph_classOf, amG, AV.cell, Nat.reduceMul, Nat.reduceLeDiff, noClass_row, hcf, qLex, qClass, neg1, afill, (show WkL H.length noClass.row noClass.row from ⟨wk_str _ _, wk_slice trivial (rowsWk_nil _), trivial⟩)]
  · exact absurd (hf.symm.trans h3) (by simp)
theorem run_classOf_some (hE : ChkE E) {l : Lex} {s : Str} {n : Nat} (hl : l.ok n) {c : Class} (hf : clsOf l s = some c) {H : List AObj} (hn : n ≤ H.length) :
    M.run f_morph_classOf [.agg l.row, .str s] H = some (.ret (.tuple [.agg c.row, .bool true]), H) := by
  rw [run_c M hE.morph_classOf rfl (c := c_morph_classOf) rfl, c_morph_classOf]
  have hcf := run_IndexFunc_Class M hE.slices_IndexFunc_api_Class_api_Class (g := f_morph_classOf_1) (fr := []) (cap := [.ptr (H.length + 1) 0]) (p := fun c => c.name == s) (tg := l.classes.tag) hl.classes.len
    (H := H ++ [.cells l.row t_api_Lexicon, .cells [.str s] t_string, .cells noClass.row t_api_Class]) (fun x _ => run_classOf_1 M hE x s (T := t_string) (by rw [hp_getk]; rfl))
  rcases idxI_cases (fun c : Class => c.name == s) l.classes.l 0 with ⟨h1, h2⟩ | ⟨j, t, h1, h2, h3⟩
  · exact absurd (hf.symm.trans h2) (by simp)
  · obtain rfl : c = t := by have := hf.symm.trans h3; simpa using this
    rw [h1, Nat.zero_add] at hcf
    have hj : j < l.classes.l.length := (List.getElem?_eq_some_iff.1 h2).1
    have hw : WkL H.length c.row c.row := ((hl.classes.all c (List.mem_of_getElem? h2)).mono hn).wk
    simp (maxSteps := 3000000) (maxDischargeDepth := 6) +contextual -implicitDefEqProofs only [amA M, amB, ↓slc_true, ↓slc_false, ↓slc_not, ↓fget_at, Nat.reduceBEq, Nat.reduceAdd, env, fargs, q_morph_classOf, amG, AV.cell, Nat.reduceMul, Nat.reduceLeDiff, noClass_row, hcf, qLex, qClass, neg0, ias_row hj, h2, hw]

end Go.Am
end

section
set_option linter.unusedSimpArgs false
set_option linter.unusedVariables false
set_option maxRecDepth 100000
set_option maxHeartbeats 4000000
namespace Go.Am
open Go.RowKit
attribute [local congr] dsel_congr sel_c1 slc_cong gsel_congr go_congr aft_congr aftD_congr condR_congr backR_congr inR_congr at2_congr
variable {E : REnv} (M : Mach cdec E)

/-! Clashes -/
def clashes (f g : Feat) : Bool := f.name == g.name && !(f.value == g.value)
def clashF (a b : List Feat) : Bool := a.any fun f => b.any fun g => clashes f g
theorem run_clash_1_1 (hE : ChkE E) (g f : Feat) {H : List AObj} {q : Nat} {T : TypeId} (hq : H[q]? = some (.cells f.row T)) : M.run f_morph_clash_1_1 [.agg g.row, .ptr q 0] H = some (.ret (.bool (clashes f g)), H) := by
  rw [run_c M hE.morph_clash_1_1 rfl (c := c_morph_clash_1_1) rfl, c_morph_clash_1_1]
  simp (maxSteps := 3000000) (maxDischargeDepth := 6) +contextual -implicitDefEqProofs only [amA M, amB, ↓slc_true, ↓slc_false, ↓slc_not, ↓fget_at, Nat.reduceBEq, Nat.reduceAdd, env, fargs, q_morph_clash_1_1, qFeat, hq, hp_getl hq, clashes]
theorem run_clash_1 (hE : ChkE E) (f : Feat) {b : Sl Feat} {n : Nat} (hb : b.l.length ≤ maxL) {H : List AObj} {q : Nat} {T : TypeId} (hq : H[q]? = some (.cells [.slice b.tag 2 (b.l.map Feat.row)] T)) :
    M.run f_morph_clash_1 [.agg f.row, .ptr q 0] H = some (.ret (.bool (b.l.any fun g => clashes f g)), H) := by
  rw [run_c M hE.morph_clash_1 rfl (c := c_morph_clash_1) rfl, c_morph_clash_1]
  have hcf := run_ContainsFunc_Feat M hE.slices_IndexFunc_api_Feat_api_Feat hE.slices_ContainsFunc_api_Feat_api_Feat (g := f_morph_clash_1_1) (fr := []) (cap := [.ptr H.length 0]) (p := fun g => clashes f g) (tg := b.tag) hb (H := H ++ [.cells f.row t_api_Feat]) (fun x _ => run_clash_1_1 M hE x f (T := t_api_Feat) (by rw [hp_get0]; rfl))
  simp (maxSteps := 3000000) (maxDischargeDepth := 6) +contextual -implicitDefEqProofs only [amA M, amB, ↓slc_true, ↓slc_false, ↓slc_not, ↓fget_at, Nat.reduceBEq, Nat.reduceAdd, env, fargs, q_morph_clash_1, hcf, qFeat, hp_getl hq]
theorem run_clash (hE : ChkE E) {a b : Sl Feat} (ha : a.l.length ≤ maxL) (hb : b.l.length ≤ maxL) (H : List AObj) :
    M.run f_morph_clash [.slice a.tag 2 (a.l.map Feat.row), .slice b.tag 2 (b.l.map Feat.row)] H = some (.ret (.bool (clashF a.l b.l)), H) := by
  rw [run_c M hE.morph_clash rfl (c := c_morph_clash) rfl, c_morph_clash]
  have hcf := run_ContainsFunc_Feat M hE.slices_IndexFunc_api_Feat_api_Feat hE.slices_ContainsFunc_api_Feat_api_Feat (g := f_morph_clash_1) (fr := []) (cap := [.ptr H.length 0]) (p := fun f => b.l.any fun g => clashes f g) (tg := a.tag) ha (H := H ++ [.cells [.slice b.tag 2 (b.l.map Feat.row)] t_sl_api_Feat]) (fun x _ => run_clash_1 M hE x (n := 0) hb (T := t_sl_api_Feat) (by rw [hp_get0]; rfl))
  simp (maxSteps := 3000000) (maxDischargeDepth := 6) +contextual -implicitDefEqProofs only [amA M, amB, ↓slc_true, ↓slc_false, ↓slc_not, ↓fget_at, Nat.reduceBEq, Nat.reduceAdd, env, fargs, q_morph_clash, hcf, clashF]

/-! Entries -/
theorem run_entry_1 (hE : ChkE E) (o x : Entry) {H : List AObj} {q : Nat} {T : TypeId} (hq : H[q]? = some (.cells x.row T)) : M.run f_morph_checker_entry_1 [.agg o.row, .ptr q 0] H = some (.ret (.bool (o.lem == x.lem && o.cls == x.cls)), H) := by
  rw [run_c M hE.morph_checker_entry_1 rfl (c := c_morph_checker_entry_1) rfl, c_morph_checker_entry_1]
  simp (maxSteps := 3000000) (maxDischargeDepth := 6) +contextual -implicitDefEqProofs only [amA M, amB, ↓slc_true, ↓slc_false, ↓slc_not, ↓fget_at, Nat.reduceBEq, Nat.reduceAdd, env, fargs, q_morph_checker_entry_1, qEntry, hq, hp_getl hq]
theorem run_entry_2 (hE : ChkE E) {s : Slot} {x : Entry} {n m : Nat} (hs : s.ok n) (hx : x.ok m) {H : List AObj} {q : Nat} {T : TypeId} (hq : H[q]? = some (.cells x.row T)) : M.run f_morph_checker_entry_2 [.agg s.row, .ptr q 0] H = some (.ret (.bool (clashF x.feats.l s.feats.l)), H) := by
  rw [run_c M hE.morph_checker_entry_2 rfl (c := c_morph_checker_entry_2) rfl, c_morph_checker_entry_2]
  simp (maxSteps := 3000000) (maxDischargeDepth := 6) +contextual -implicitDefEqProofs only [amA M, amB, ↓slc_true, ↓slc_false, ↓slc_not, ↓fget_at, Nat.reduceBEq, Nat.reduceAdd, env, fargs, q_morph_checker_entry_2, qEntry, qSlot, hq, hp_getl hq, run_clash M hE hx.feats.len hs.feats.len]
theorem run_entry_3 (hE : ChkE E) (o x : Irreg) {H : List AObj} {q : Nat} {T : TypeId} (hq : H[q]? = some (.cells x.row T)) : M.run f_morph_checker_entry_3 [.agg o.row, .ptr q 0] H = some (.ret (.bool (o.slot == x.slot)), H) := by
  rw [run_c M hE.morph_checker_entry_3 rfl (c := c_morph_checker_entry_3) rfl, c_morph_checker_entry_3]
  simp (maxSteps := 3000000) (maxDischargeDepth := 6) +contextual -implicitDefEqProofs only [amA M, amB, ↓slc_true, ↓slc_false, ↓slc_not, ↓fget_at, Nat.reduceBEq, Nat.reduceAdd, env, fargs, q_morph_checker_entry_3, qIrreg, hq, hp_getl hq]

def formF (n : Nat) (l : List Irreg) (k : Nat) (f : Irreg) : Int :=
  sel (decide (f.slot < 0) || decide ((n : Int) ≤ f.slot)) 7 (sel ((l.take k).any fun o => o.slot == f.slot) 6 (sel (!(f.word == []) && !plainF f.word) 1 0))
theorem enl {H H0 : List AObj} (hN : NamesE E) (hE : ChkE E) {x : Entry} {c : Class} {n0 : Nat} (hx0 : x.ok n0) (hn : n0 ≤ H.length) {p q : Nat} {T T2 : TypeId} (hp : H[p]? = some (.cells x.row T)) (hq : H[q]? = some (.cells c.row T2)) (hc : CutOk H0 H) (k : List Fra) : ∀ (n i : Nat), i + n = (x.forms.l).length →
    M.go a_morph_checker_entry H0 (.c l_morph_checker_entry_0 :: .lp ⟨(some [5, 7, 48, 49, 50]), [], true⟩ l_morph_checker_entry_0 H :: .blk 1 :: .c (.lv []) :: k) (kv [(5, .ptr p 0), (7, .ptr q 0), (48, .slice x.forms.tag 2 (x.forms.l.map Irreg.row)), (49, .int .i64 x.forms.l.length), (50, .int .i64 i)]) H =
      orE (firstE (errF (formF c.slots.l.length x.forms.l)) i (x.forms.l.drop i)) (H.take H0.length) (M.go a_morph_checker_entry H0 k .leaf H)
  | 0, i, h => by
    have e : i = (x.forms.l).length := by omega
    subst e
    rw [go_head M l_morph_checker_entry_0.eq_1]
    simp (maxSteps := 3000000) (maxDischargeDepth := 6) +contextual -implicitDefEqProofs only [amA M, amB, ↓slc_true, ↓slc_false, ↓slc_not, ↓fget_at, Nat.reduceBEq, Nat.reduceAdd, env, fargs, q_morph_checker_entry, Nat.lt_irrefl, List.drop_length]
  | n + 1, i, h => by
    have hi : i < (x.forms.l).length := by omega
    have hx : (x.forms.l)[i]? = some (x.forms.l)[i] := List.getElem?_eq_getElem hi
    have hd : ((x.forms.l).drop i) = (x.forms.l)[i] :: (x.forms.l).drop (i + 1) := List.drop_eq_getElem_cons hi
    have hm : (x.forms.l)[i] ∈ (x.forms.l) := List.getElem_mem hi
    have ih := enl (H := H) (H0 := H0) (hN := hN) (hE := hE) (x := x) (c := c) (n0 := n0) (hx0 := hx0) (hn := hn) (p := p) (q := q) (T := T) (T2 := T2) (hp := hp) (hq := hq) hc k n (i + 1)  (by omega)
    simp only [kv_cons, kv_nil] at ih
    have hp' := fun L => hp_getl (L := L) hp
    have hq' := fun L => hp_getl (L := L) hq
    have w1 : Wk H.length (.ptr p 0) (.ptr p 0) := wk_ptr (List.getElem?_eq_some_iff.1 hp).1
    have w2 : Wk H.length (.ptr q 0) (.ptr q 0) := wk_ptr (List.getElem?_eq_some_iff.1 hq).1
    have w3 : Wk H.length (.slice x.forms.tag 2 (x.forms.l.map Irreg.row)) (.slice x.forms.tag 2 (x.forms.l.map Irreg.row)) := (hx0.forms.mono hn (fun _ h => h.mono hn)).wk (fun _ h => h.wk)
    have hcf := run_ContainsFunc_Irreg M hE.slices_IndexFunc_api_Irregular_api_Irregular hE.slices_ContainsFunc_api_Irregular_api_Irregular (g := f_morph_checker_entry_3) (fr := []) (cap := [.ptr H.length 0]) (p := fun o => o.slot == x.forms.l[i].slot) (tg := .any) (take_len hx0.forms.len i) (H := H ++ [.cells x.forms.l[i].row t_api_Irregular]) (fun o _ => run_entry_3 M hE o _ (T := t_api_Irregular) (by rw [hp_get0]; rfl))
    rw [go_head M l_morph_checker_entry_0.eq_1]
    simp (maxSteps := 3000000) (maxDischargeDepth := 6) +contextual -implicitDefEqProofs only [amA M, amB, ↓slc_true, ↓slc_false, ↓slc_not, ↓fget_at, Nat.reduceBEq, Nat.reduceAdd, env, fargs, q_morph_checker_entry, hx, hd, hi, ih, amG, AV.cell, hp', hq', w1, w2, w3, hcf, wrap_s hi hx0.forms.len, ias_row hi, qIrreg, qEntry, qClass, run_Plain M hN (hx0.forms.all _ hm).word, sll_to hi, hc, errF_eO, formF, qE]

end Go.Am
end

section
set_option linter.unusedSimpArgs false
set_option linter.unusedVariables false
set_option maxRecDepth 100000
set_option maxHeartbeats 4000000
namespace Go.Am
open Go.RowKit
attribute [local congr] dsel_congr sel_c1 slc_cong gsel_congr go_congr aft_congr aftD_congr condR_congr backR_congr inR_congr at2_congr
variable {E : REnv} (M : Mach cdec E)

def entryF (l : Lex) (i : Nat) (x : Entry) : Int :=
  match clsOf l x.cls with
  | none => sel (!plainF x.lem) 1 5
  | some c => sel (!plainF x.lem) 1 (sel ((l.entries.l.take i).any fun o => o.lem == x.lem && o.cls == x.cls) 6 (sel (!(bundleF l x.feats.l == 0)) (bundleF l x.feats.l)
      (sel (c.slots.l.any fun s => clashF x.feats.l s.feats.l) 10 (errI (formF c.slots.l.length x.forms.l) 0 x.forms.l))))
theorem run_entry (hN : NamesE E) (hE : ChkE E) {l : Lex} {x : Entry} {n : Nat} (hl : l.ok n) (hx : x.ok n) {i : Nat} (hi : i < l.entries.l.length) {H : List AObj} (hn : n ≤ H.length) :
    M.run f_morph_checker_entry [.agg l.row, .int .i64 i, .agg x.row] H = some (.ret (.int .u8 (entryF l i x)), H) := by
  rw [run_c M hE.morph_checker_entry rfl (c := c_morph_checker_entry) rfl, c_morph_checker_entry]
  cases hc : clsOf l x.cls with
  | none =>
    have h1 := fun H => run_classOf_none M hE hl hc H
    simp (maxSteps := 3000000) (maxDischargeDepth := 6) +contextual -implicitDefEqProofs only [amA M, amB, ↓slc_true, ↓slc_false, ↓slc_not, ↓fget_at, Nat.reduceBEq, Nat.reduceAdd, env, fargs, q_morph_checker_entry, amG, AV.cell, Nat.reduceMul, Nat.reduceLeDiff, h1, qLex, qEntry, qClass, noClass_row, run_Plain M hN hx.lem, entryF, hc, sel_int]
  | some c =>
    have hcm : c ∈ l.classes.l := List.mem_of_find?_eq_some hc
    have hco := hl.classes.all c hcm
    have h2 := run_ContainsFunc_Entry M hE.slices_IndexFunc_api_Entry_api_Entry hE.slices_ContainsFunc_api_Entry_api_Entry (g := f_morph_checker_entry_1) (fr := []) (cap := [.ptr (H.length + 1) 0]) (p := fun o => o.lem == x.lem && o.cls == x.cls) (tg := .any) (take_len hl.entries.len i) (H := H ++ [.cells l.row t_morph_checker, .cells x.row t_api_Entry, .cells c.row t_api_Class]) (fun o _ => run_entry_1 M hE o x (T := t_api_Entry) (by rw [hp_getk]; rfl))
    have h3 := run_ContainsFunc_Slot M hE.slices_IndexFunc_api_Slot_api_Slot hE.slices_ContainsFunc_api_Slot_api_Slot (g := f_morph_checker_entry_2) (fr := []) (cap := [.ptr (H.length + 1) 0]) (p := fun s => clashF x.feats.l s.feats.l) (tg := c.slots.tag) hco.slots.len (H := H ++ [.cells l.row t_morph_checker, .cells x.row t_api_Entry, .cells c.row t_api_Class]) (fun s hs => run_entry_2 M hE (hco.slots.all s hs) hx (T := t_api_Entry) (by rw [hp_getk]; rfl))
    have h4 := fun k => enl M hN hE (H := H ++ [.cells l.row t_morph_checker, .cells x.row t_api_Entry, .cells c.row t_api_Class]) (H0 := H) hx (by simp; omega) (c := c) (p := H.length + 1) (q := H.length + 2) (T := t_api_Entry) (T2 := t_api_Class) (by rw [hp_getk]; rfl) (by rw [hp_getk]; rfl) (cut_app H _) k x.forms.l.length 0 (by omega)
    simp only [kv_cons, kv_nil, Int.ofNat_zero, List.drop_zero] at h4
    simp (maxSteps := 3000000) (maxDischargeDepth := 6) +contextual -implicitDefEqProofs only [amA M, amB, ↓slc_true, ↓slc_false, ↓slc_not, ↓fget_at, Nat.reduceBEq, Nat.reduceAdd, env, fargs, q_morph_checker_entry, amG, AV.cell, Nat.reduceMul, Nat.reduceLeDiff, run_classOf_some M hE hl hc, hn, h2, h3, h4, qLex, qEntry, qClass, run_Plain M hN hx.lem, run_bundle M hE hl hx.feats, sll_to hi, entryF, hc, sel_int, err_first0]

/-! Spelling rules, links -/
def spellF (x : Spell) : Int :=
  sel (x.frm == [] || !shortF isSym x.frm || !shortF isSym x.to || !shortF isAro x.left || !shortF isAro x.right) 1 0
theorem run_spell_c (hN : NamesE E) (hE : ChkE E) {l : Lex} {x : Spell} {n : Nat} (hx : x.ok n) (i : Int) (H : List AObj) :
    M.run f_morph_checker_spell [.agg l.row, .int .i64 i, .agg x.row] H = some (.ret (.int .u8 (spellF x)), H) := by
  rw [run_c M hE.morph_checker_spell rfl (c := c_morph_checker_spell) rfl, c_morph_checker_spell]
  have h1 := fun (H : List AObj) (s : Str) hs => run_short M hN hE (g := f_morph_symbol) (fr := []) (cap := []) (s := s) hs (fun c => run_symbol M hN hE c H)
  have h2 := fun (H : List AObj) (s : Str) hs => run_short M hN hE (g := f_morph_around) (fr := []) (cap := []) (s := s) hs (fun c => run_around M hN hE c H)
  simp (maxSteps := 3000000) (maxDischargeDepth := 6) +contextual -implicitDefEqProofs only [amA M, amB, ↓slc_true, ↓slc_false, ↓slc_not, ↓fget_at, Nat.reduceBEq, Nat.reduceAdd, env, fargs, q_morph_checker_spell, h1, h2, hx.frm, hx.to, hx.left, hx.right, qLex, qSpell, spellF, sel_int, Bool.or_assoc]

def linkF (l : Lex) (x : Link) : Int :=
  match clsOf l x.cls with
  | none => 5
  | some _ => sel (!shortF isLo x.glue) 1 (bundleF l x.feats.l)
theorem run_link_c (hN : NamesE E) (hE : ChkE E) {l : Lex} {x : Link} {n : Nat} (hl : l.ok n) (hx : x.ok n) (i : Int) {H : List AObj} (hn : n ≤ H.length) :
    M.run f_morph_checker_link [.agg l.row, .int .i64 i, .agg x.row] H = some (.ret (.int .u8 (linkF l x)), H) := by
  rw [run_c M hE.morph_checker_link rfl (c := c_morph_checker_link) rfl, c_morph_checker_link]
  have h1 := fun (H : List AObj) => run_short M hN hE (g := f_morph_letter) (fr := []) (cap := []) hx.glue (fun c => run_letter M hN.letter c H)
  cases hc : clsOf l x.cls with
  | none =>
    have h2 := fun H => run_classOf_none M hE hl hc H
    simp (maxSteps := 3000000) (maxDischargeDepth := 6) +contextual -implicitDefEqProofs only [amA M, amB, ↓slc_true, ↓slc_false, ↓slc_not, ↓fget_at, Nat.reduceBEq, Nat.reduceAdd, env, fargs, q_morph_checker_link, amG, AV.cell, Nat.reduceMul, Nat.reduceLeDiff, h2, qLex, qLink, qClass, noClass_row, linkF, hc, sel_int]
  | some c =>
    simp (maxSteps := 3000000) (maxDischargeDepth := 6) +contextual -implicitDefEqProofs only [amA M, amB, ↓slc_true, ↓slc_false, ↓slc_not, ↓fget_at, Nat.reduceBEq, Nat.reduceAdd, env, fargs, q_morph_checker_link, amG, AV.cell, Nat.reduceMul, Nat.reduceLeDiff, run_classOf_some M hE hl hc, hn, h1, qLex, qLink, qClass, run_bundle M hE hl hx.feats, linkF, hc, sel_int]

end Go.Am
end

section
set_option linter.unusedSimpArgs false
set_option linter.unusedVariables false
set_option maxRecDepth 100000
set_option maxHeartbeats 4000000
namespace Go.Am
open Go.RowKit
attribute [local congr] dsel_congr sel_c1 slc_cong gsel_congr go_congr aft_congr aftD_congr condR_congr backR_congr inR_congr at2_congr
variable {E : REnv} (M : Mach cdec E)

/-! The whole check -/

def check1 (l : Lex) : Int := eachF 8 (traitF l) l.traits.l
theorem run_Check_1 (hN : NamesE E) (hE : ChkE E) {l : Lex} {n : Nat} (hl : l.ok n) {H : List AObj} (hn : n ≤ H.length) {p q : Nat} {T T2 : TypeId} (hp : H[p]? = some (.cells l.row T)) (hq : H[q]? = some (.cells l.row T2)) :
    M.run f_morph_Check_1 [.ptr p 0, .ptr q 0] H = some (.ret (.int .u8 (check1 l)), H) := by
  rw [run_c M hE.morph_Check_1 rfl (c := c_morph_Check_1) rfl, c_morph_Check_1]
  have he := run_each_Trait M hE.morph_each_api_Trait (g := f_morph_checker_trait) (fr := [.agg l.row]) (cap := []) (F := traitF l) (tg := l.traits.tag) (l := l.traits.l) (H := H) hl.traits.len
    (wk_fn ⟨wk_agg (hl.mono hn).wk, trivial⟩ trivial) ((hl.traits.mono hn (fun _ h => h.mono hn)).wk (fun _ h => h.wk))
    (fun L i x hx => run_trait M hN hE hl (hl.traits.all x (List.mem_of_getElem? hx)) (List.getElem?_eq_some_iff.1 hx).1 _)
  simp (maxSteps := 3000000) (maxDischargeDepth := 6) +contextual -implicitDefEqProofs only [amA M, amB, ↓slc_true, ↓slc_false, ↓slc_not, ↓fget_at, Nat.reduceBEq, Nat.reduceAdd, env, fargs, q_morph_Check_1, he 8, qLex, hp, hq, check1]

def check2 (l : Lex) : Int := eachF 16 (classF l) l.classes.l
theorem run_Check_2 (hN : NamesE E) (hE : ChkE E) {l : Lex} {n : Nat} (hl : l.ok n) {H : List AObj} (hn : n ≤ H.length) {p q : Nat} {T T2 : TypeId} (hp : H[p]? = some (.cells l.row T)) (hq : H[q]? = some (.cells l.row T2)) :
    M.run f_morph_Check_2 [.ptr p 0, .ptr q 0] H = some (.ret (.int .u8 (check2 l)), H) := by
  rw [run_c M hE.morph_Check_2 rfl (c := c_morph_Check_2) rfl, c_morph_Check_2]
  have he := run_each_Class M hE.morph_each_api_Class (g := f_morph_checker_class) (fr := [.agg l.row]) (cap := []) (F := classF l) (tg := l.classes.tag) (l := l.classes.l) (H := H) hl.classes.len
    (wk_fn ⟨wk_agg (hl.mono hn).wk, trivial⟩ trivial) ((hl.classes.mono hn (fun _ h => h.mono hn)).wk (fun _ h => h.wk))
    (fun L i x hx => run_class M hN hE hl (hl.classes.all x (List.mem_of_getElem? hx)) (List.getElem?_eq_some_iff.1 hx).1 (by simp; omega))
  simp (maxSteps := 3000000) (maxDischargeDepth := 6) +contextual -implicitDefEqProofs only [amA M, amB, ↓slc_true, ↓slc_false, ↓slc_not, ↓fget_at, Nat.reduceBEq, Nat.reduceAdd, env, fargs, q_morph_Check_2, he 16, qLex, hp, hq, check2]

def check3 (l : Lex) : Int := eachF 128 (entryF l) l.entries.l
theorem run_Check_3 (hN : NamesE E) (hE : ChkE E) {l : Lex} {n : Nat} (hl : l.ok n) {H : List AObj} (hn : n ≤ H.length) {p q : Nat} {T T2 : TypeId} (hp : H[p]? = some (.cells l.row T)) (hq : H[q]? = some (.cells l.row T2)) :
    M.run f_morph_Check_3 [.ptr p 0, .ptr q 0] H = some (.ret (.int .u8 (check3 l)), H) := by
  rw [run_c M hE.morph_Check_3 rfl (c := c_morph_Check_3) rfl, c_morph_Check_3]
  have he := run_each_Entry M hE.morph_each_api_Entry (g := f_morph_checker_entry) (fr := [.agg l.row]) (cap := []) (F := entryF l) (tg := l.entries.tag) (l := l.entries.l) (H := H) hl.entries.len
    (wk_fn ⟨wk_agg (hl.mono hn).wk, trivial⟩ trivial) ((hl.entries.mono hn (fun _ h => h.mono hn)).wk (fun _ h => h.wk))
    (fun L i x hx => run_entry M hN hE hl (hl.entries.all x (List.mem_of_getElem? hx)) (List.getElem?_eq_some_iff.1 hx).1 (by simp; omega))
  simp (maxSteps := 3000000) (maxDischargeDepth := 6) +contextual -implicitDefEqProofs only [amA M, amB, ↓slc_true, ↓slc_false, ↓slc_not, ↓fget_at, Nat.reduceBEq, Nat.reduceAdd, env, fargs, q_morph_Check_3, he 128, qLex, hp, hq, check3]

def check4 (l : Lex) : Int := eachF 16 (fun _ x => spellF x) l.spells.l
theorem run_Check_4 (hN : NamesE E) (hE : ChkE E) {l : Lex} {n : Nat} (hl : l.ok n) {H : List AObj} (hn : n ≤ H.length) {p q : Nat} {T T2 : TypeId} (hp : H[p]? = some (.cells l.row T)) (hq : H[q]? = some (.cells l.row T2)) :
    M.run f_morph_Check_4 [.ptr p 0, .ptr q 0] H = some (.ret (.int .u8 (check4 l)), H) := by
  rw [run_c M hE.morph_Check_4 rfl (c := c_morph_Check_4) rfl, c_morph_Check_4]
  have he := run_each_Spell M hE.morph_each_api_Spell (g := f_morph_checker_spell) (fr := [.agg l.row]) (cap := []) (F := fun _ x => spellF x) (tg := l.spells.tag) (l := l.spells.l) (H := H) hl.spells.len
    (wk_fn ⟨wk_agg (hl.mono hn).wk, trivial⟩ trivial) ((hl.spells.mono hn (fun _ h => h.mono hn)).wk (fun _ h => h.wk))
    (fun L i x hx => run_spell_c M hN hE (hl.spells.all x (List.mem_of_getElem? hx)) i _)
  simp (maxSteps := 3000000) (maxDischargeDepth := 6) +contextual -implicitDefEqProofs only [amA M, amB, ↓slc_true, ↓slc_false, ↓slc_not, ↓fget_at, Nat.reduceBEq, Nat.reduceAdd, env, fargs, q_morph_Check_4, he 16, qLex, hp, hq, check4]

def check5 (l : Lex) : Int := eachF 8 (fun _ x => linkF l x) l.links.l
theorem run_Check_5 (hN : NamesE E) (hE : ChkE E) {l : Lex} {n : Nat} (hl : l.ok n) {H : List AObj} (hn : n ≤ H.length) {p q : Nat} {T T2 : TypeId} (hp : H[p]? = some (.cells l.row T)) (hq : H[q]? = some (.cells l.row T2)) :
    M.run f_morph_Check_5 [.ptr p 0, .ptr q 0] H = some (.ret (.int .u8 (check5 l)), H) := by
  rw [run_c M hE.morph_Check_5 rfl (c := c_morph_Check_5) rfl, c_morph_Check_5]
  have he := run_each_Link M hE.morph_each_api_Link (g := f_morph_checker_link) (fr := [.agg l.row]) (cap := []) (F := fun _ x => linkF l x) (tg := l.links.tag) (l := l.links.l) (H := H) hl.links.len
    (wk_fn ⟨wk_agg (hl.mono hn).wk, trivial⟩ trivial) ((hl.links.mono hn (fun _ h => h.mono hn)).wk (fun _ h => h.wk))
    (fun L i x hx => run_link_c M hN hE hl (hl.links.all x (List.mem_of_getElem? hx)) i (by simp; omega))
  simp (maxSteps := 3000000) (maxDischargeDepth := 6) +contextual -implicitDefEqProofs only [amA M, amB, ↓slc_true, ↓slc_false, ↓slc_not, ↓fget_at, Nat.reduceBEq, Nat.reduceAdd, env, fargs, q_morph_Check_5, he 8, qLex, hp, hq, check5]

/-- A function that is called with nothing, and the error that it gives. -/
structure Clo where
  g : Nat
  fr : List AV
  cap : List AV
  e : Int
def Clo.row (x : Clo) : List AV := [.fn (.func x.g) x.fr x.cap]
theorem qClo : (∀ x : Clo, rload none x.row 0 = some (.fn (.func x.g) x.fr x.cap)) := fun _ => rfl
theorem fst {H H0 : List AObj} {tg : Tag} {l : List Clo} (hs : l.length ≤ maxL) (hp : ∀ x ∈ l, M.run x.g (x.fr ++ x.cap) H = some (.ret (.int .u8 x.e), H)) (hc : CutOk H0 H) (k : List Fra) : ∀ (n i : Nat) (He : List AObj), i + n = l.length →
    M.go a_morph_first H0 (.c l_morph_first_0 :: .lp ⟨(some [6, 7, 8]), [], false⟩ l_morph_first_0 He :: .blk 0 :: .c (.lv []) :: k) (kv [(6, .slice tg 1 (l.map Clo.row)), (7, .int .i64 l.length), (8, .int .i64 i)]) H =
      orE (firstE (errF fun _ x => x.e) i (l.drop i)) (H.take H0.length) (M.go a_morph_first H0 k .leaf H)
  | 0, i, He, h => by
    have e : i = l.length := by omega
    subst e
    rw [go_head M l_morph_first_0.eq_1]
    simp (maxSteps := 3000000) (maxDischargeDepth := 6) +contextual -implicitDefEqProofs only [amA M, amB, ↓slc_true, ↓slc_false, ↓slc_not, ↓fget_at, Nat.reduceBEq, Nat.reduceAdd, env, fargs, q_morph_first, Nat.lt_irrefl, List.drop_length]
  | n + 1, i, He, h => by
    have hi : i < l.length := by omega
    have hx : l[i]? = some l[i] := List.getElem?_eq_getElem hi
    have hd : (l.drop i) = l[i] :: l.drop (i + 1) := List.drop_eq_getElem_cons hi
    have hm : l[i] ∈ l := List.getElem_mem hi
    have ih := fun He => fst (H := H) (H0 := H0) (tg := tg) (l := l) (hs := hs) (hp := hp) hc k n (i + 1)  He (by omega)
    simp only [kv_cons, kv_nil] at ih
    rw [go_head M l_morph_first_0.eq_1]
    simp (maxSteps := 3000000) (maxDischargeDepth := 6) +contextual -implicitDefEqProofs only [amA M, amB, ↓slc_true, ↓slc_false, ↓slc_not, ↓fget_at, Nat.reduceBEq, Nat.reduceAdd, env, fargs, q_morph_first, hx, hd, hi, ih, hp _ hm, wrap_s hi hs, ias_row hi, qClo, hc, errF]
theorem run_first (hE : ChkE E) {tg : Tag} {l : List Clo} (hs : l.length ≤ maxL) {H : List AObj} (hp : ∀ x ∈ l, M.run x.g (x.fr ++ x.cap) H = some (.ret (.int .u8 x.e), H)) :
    M.run f_morph_first [.slice tg 1 (l.map Clo.row)] H = some (.ret (.int .u8 (errI (fun _ x => x.e) 0 l)), H) := by
  rw [run_c M hE.morph_first rfl (c := c_morph_first) rfl, c_morph_first]
  have hl := fun k He => fst M (tg := tg) hs hp (cut_refl H) k l.length 0 He (by omega)
  simp only [kv_cons, kv_nil, Int.ofNat_zero, List.drop_zero] at hl
  simp (maxSteps := 3000000) (maxDischargeDepth := 6) +contextual -implicitDefEqProofs only [amA M, amB, ↓slc_true, ↓slc_false, ↓slc_not, ↓fget_at, Nat.reduceBEq, Nat.reduceAdd, env, fargs, q_morph_first, hl]
  exact err_first _ l 0 H

/-- The error of a lexicon. -/
def checkF (l : Lex) : Int :=
  errI (fun _ e => e) 0 [vowF l, check1 l, check2 l, check3 l, check4 l, check5 l]
theorem run_Check (hN : NamesE E) (hE : ChkE E) {l : Lex} {n : Nat} (hl : l.ok n) {H : List AObj} (hn : n ≤ H.length) :
    M.run f_morph_Check [.agg l.row] H = some (.ret (.int .u8 (checkF l)), H) := by
  rw [run_c M hE.morph_Check rfl (c := c_morph_Check) rfl, c_morph_Check]
  have hf := run_first M hE (tg := .full) (H := H ++ [.cells l.row t_api_Lexicon, .cells l.row t_morph_checker])
    (l := [⟨f_morph_checker_vowels, [.agg l.row], [], vowF l⟩, ⟨f_morph_Check_1, [], [.ptr H.length 0, .ptr (H.length + 1) 0], check1 l⟩, ⟨f_morph_Check_2, [], [.ptr H.length 0, .ptr (H.length + 1) 0], check2 l⟩,
      ⟨f_morph_Check_3, [], [.ptr H.length 0, .ptr (H.length + 1) 0], check3 l⟩, ⟨f_morph_Check_4, [], [.ptr H.length 0, .ptr (H.length + 1) 0], check4 l⟩, ⟨f_morph_Check_5, [], [.ptr H.length 0, .ptr (H.length + 1) 0], check5 l⟩]) (by simp [maxL]) (by
    have h0 : (H ++ [AObj.cells l.row t_api_Lexicon, .cells l.row t_morph_checker])[H.length]? = some (.cells l.row t_api_Lexicon) := by rw [hp_get0]; rfl
    have h1 : (H ++ [AObj.cells l.row t_api_Lexicon, .cells l.row t_morph_checker])[H.length + 1]? = some (.cells l.row t_morph_checker) := by rw [hp_getk]; rfl
    have h2 : n ≤ (H ++ [AObj.cells l.row t_api_Lexicon, .cells l.row t_morph_checker]).length := by simp; omega
    intro x hx
    simp only [List.mem_cons, List.not_mem_nil, or_false] at hx
    rcases hx with rfl | rfl | rfl | rfl | rfl | rfl
    · exact run_vowels M hN hE hl _
    · exact run_Check_1 M hN hE hl h2 h0 h1
    · exact run_Check_2 M hN hE hl h2 h0 h1
    · exact run_Check_3 M hN hE hl h2 h0 h1
    · exact run_Check_4 M hN hE hl h2 h0 h1
    · exact run_Check_5 M hN hE hl h2 h0 h1)
  simp only [List.map_cons, List.map_nil, Clo.row] at hf
  simp (maxSteps := 3000000) (maxDischargeDepth := 6) +contextual -implicitDefEqProofs only [amA M, amB, ↓slc_true, ↓slc_false, ↓slc_not, ↓fget_at, Nat.reduceBEq, Nat.reduceAdd, env, fargs, q_morph_Check, amG, AV.cell, Nat.reduceMul, Nat.reduceLeDiff, hf, qLex]
  rfl

end Go.Am
end

section
set_option linter.unusedSimpArgs false
set_option linter.unusedVariables false
set_option maxRecDepth 100000
set_option maxHeartbeats 4000000
namespace Go.Am
open Go.RowKit
attribute [local congr] dsel_congr sel_c1 slc_cong gsel_congr go_congr aft_congr aftD_congr condR_congr backR_congr inR_congr at2_congr
variable {E : REnv} (M : Mach cdec E)

structure RefE (E : REnv) : Prop where
  truchmanref02_trait : E.fn f_truchmanref02_trait = some a_truchmanref02_trait
  truchmanref02_Class : E.fn f_truchmanref02_Class = some a_truchmanref02_Class
  truchmanref02_in : E.fn f_truchmanref02_in = some a_truchmanref02_in
  truchmanref02_bundle : E.fn f_truchmanref02_bundle = some a_truchmanref02_bundle
  truchmanref02_traits : E.fn f_truchmanref02_traits = some a_truchmanref02_traits
  truchmanref02_classes : E.fn f_truchmanref02_classes = some a_truchmanref02_classes
  truchmanref02_Unify : E.fn f_truchmanref02_Unify = some a_truchmanref02_Unify
  truchmanref02_entries : E.fn f_truchmanref02_entries = some a_truchmanref02_entries
  truchmanref02_Check : E.fn f_truchmanref02_Check = some a_truchmanref02_Check

theorem rtraitl {H H0 : List AObj} {l : Lex} {n0 : Nat} (hl : l.ok n0) {v : Str} {p : Nat} {T : TypeId} (hp : H[p]? = some (.cells l.row T)) (hc : CutOk H0 H) (k : List Fra) : ∀ (n i : Nat) (He : List AObj), i + n = (l.traits.l).length →
    M.go a_truchmanref02_trait H0 (.c l_truchmanref02_trait_0 :: .lp ⟨(some [1, 2, 5]), [], false⟩ l_truchmanref02_trait_0 He :: .blk 0 :: .c (.lv []) :: k) (kv [(1, .str v), (2, .ptr p 0), (5, .int .i64 i)]) H =
      orE (firstE (idxF fun t => t.name == v) i (l.traits.l.drop i)) (H.take H0.length) (M.go a_truchmanref02_trait H0 k .leaf H)
  | 0, i, He, h => by
    have e : i = (l.traits.l).length := by omega
    subst e
    rw [go_head M l_truchmanref02_trait_0.eq_1]
    simp (maxSteps := 3000000) (maxDischargeDepth := 6) +contextual -implicitDefEqProofs only [amA M, amB, ↓slc_true, ↓slc_false, ↓slc_not, ↓fget_at, Nat.reduceBEq, Nat.reduceAdd, env, fargs, q_truchmanref02_trait, Nat.lt_irrefl, List.drop_length, qLex, hp]
  | n + 1, i, He, h => by
    have hi : i < (l.traits.l).length := by omega
    have hx : (l.traits.l)[i]? = some (l.traits.l)[i] := List.getElem?_eq_getElem hi
    have hd : ((l.traits.l).drop i) = (l.traits.l)[i] :: (l.traits.l).drop (i + 1) := List.drop_eq_getElem_cons hi
    have hm : (l.traits.l)[i] ∈ (l.traits.l) := List.getElem_mem hi
    have ih := fun He => rtraitl (H := H) (H0 := H0) (l := l) (n0 := n0) (hl := hl) (v := v) (p := p) (T := T) (hp := hp) hc k n (i + 1)  He (by omega)
    simp only [kv_cons, kv_nil] at ih
    rw [go_head M l_truchmanref02_trait_0.eq_1]
    simp (maxSteps := 3000000) (maxDischargeDepth := 6) +contextual -implicitDefEqProofs only [amA M, amB, ↓slc_true, ↓slc_false, ↓slc_not, ↓fget_at, Nat.reduceBEq, Nat.reduceAdd, env, fargs, q_truchmanref02_trait, hx, hd, hi, ih, wrap_s hi hl.traits.len, ias_row hi, qLex, qTrait, hp, idxF, hc]
theorem run_rtrait (hR : RefE E) {l : Lex} {n : Nat} (hl : l.ok n) (v : Str) (H : List AObj) : M.run f_truchmanref02_trait [.agg l.row, .str v] H = some (.ret (.int .i64 (idxI (fun t => t.name == v) 0 l.traits.l)), H) := by
  rw [run_c M hR.truchmanref02_trait rfl (c := c_truchmanref02_trait) rfl, c_truchmanref02_trait]
  have h1 := fun k He => rtraitl M (H := H ++ [.cells l.row t_api_Lexicon]) hl (v := v) (p := H.length) (T := t_api_Lexicon) (by rw [hp_get0]; rfl) (cut_app H _) k l.traits.l.length 0 He (by omega)
  simp only [kv_cons, kv_nil, Int.ofNat_zero, List.drop_zero] at h1
  simp (maxSteps := 3000000) (maxDischargeDepth := 6) +contextual -implicitDefEqProofs only [amA M, amB, ↓slc_true, ↓slc_false, ↓slc_not, ↓fget_at, Nat.reduceBEq, Nat.reduceAdd, env, fargs, q_truchmanref02_trait, h1, cut_app]
  exact idx_first _ _ 0 H

theorem rClassl {H H0 : List AObj} {l : Lex} {n0 : Nat} (hl : l.ok n0) {v : Str} {p : Nat} {T : TypeId} (hp : H[p]? = some (.cells l.row T)) (hc : CutOk H0 H) (k : List Fra) : ∀ (n i : Nat) (He : List AObj), i + n = (l.classes.l).length →
    M.go a_truchmanref02_Class H0 (.c l_truchmanref02_Class_0 :: .lp ⟨(some [1, 2, 5]), [], false⟩ l_truchmanref02_Class_0 He :: .blk 0 :: .c (.lv []) :: k) (kv [(1, .str v), (2, .ptr p 0), (5, .int .i64 i)]) H =
      orE (firstE (idxF fun t => t.name == v) i (l.classes.l.drop i)) (H.take H0.length) (M.go a_truchmanref02_Class H0 k .leaf H)
  | 0, i, He, h => by
    have e : i = (l.classes.l).length := by omega
    subst e
    rw [go_head M l_truchmanref02_Class_0.eq_1]
    simp (maxSteps := 3000000) (maxDischargeDepth := 6) +contextual -implicitDefEqProofs only [amA M, amB, ↓slc_true, ↓slc_false, ↓slc_not, ↓fget_at, Nat.reduceBEq, Nat.reduceAdd, env, fargs, q_truchmanref02_Class, Nat.lt_irrefl, List.drop_length, qLex, hp]
  | n + 1, i, He, h => by
    have hi : i < (l.classes.l).length := by omega
    have hx : (l.classes.l)[i]? = some (l.classes.l)[i] := List.getElem?_eq_getElem hi
    have hd : ((l.classes.l).drop i) = (l.classes.l)[i] :: (l.classes.l).drop (i + 1) := List.drop_eq_getElem_cons hi
    have hm : (l.classes.l)[i] ∈ (l.classes.l) := List.getElem_mem hi
    have ih := fun He => rClassl (H := H) (H0 := H0) (l := l) (n0 := n0) (hl := hl) (v := v) (p := p) (T := T) (hp := hp) hc k n (i + 1)  He (by omega)
    simp only [kv_cons, kv_nil] at ih
    rw [go_head M l_truchmanref02_Class_0.eq_1]
    simp (maxSteps := 3000000) (maxDischargeDepth := 6) +contextual -implicitDefEqProofs only [amA M, amB, ↓slc_true, ↓slc_false, ↓slc_not, ↓fget_at, Nat.reduceBEq, Nat.reduceAdd, env, fargs, q_truchmanref02_Class, hx, hd, hi, ih, wrap_s hi hl.classes.len, ias_row hi, qLex, qClass, hp, idxF, hc]
theorem run_rClass (hR : RefE E) {l : Lex} {n : Nat} (hl : l.ok n) (v : Str) (H : List AObj) : M.run f_truchmanref02_Class [.agg l.row, .str v] H = some (.ret (.int .i64 (idxI (fun t => t.name == v) 0 l.classes.l)), H) := by
  rw [run_c M hR.truchmanref02_Class rfl (c := c_truchmanref02_Class) rfl, c_truchmanref02_Class]
  have h1 := fun k He => rClassl M (H := H ++ [.cells l.row t_api_Lexicon]) hl (v := v) (p := H.length) (T := t_api_Lexicon) (by rw [hp_get0]; rfl) (cut_app H _) k l.classes.l.length 0 He (by omega)
  simp only [kv_cons, kv_nil, Int.ofNat_zero, List.drop_zero] at h1
  simp (maxSteps := 3000000) (maxDischargeDepth := 6) +contextual -implicitDefEqProofs only [amA M, amB, ↓slc_true, ↓slc_false, ↓slc_not, ↓fget_at, Nat.reduceBEq, Nat.reduceAdd, env, fargs, q_truchmanref02_Class, h1, cut_app]
  exact idx_first _ _ 0 H


def inF (v : Str) : Nat → Str → Option AV := fun _ s => sel (v == s) (some (.bool true)) none
theorem in_first (v : Str) : ∀ (l : List Str) (i : Nat) (H : List AObj), orE (firstE (inF v) i l) H (some (.ret (.bool false), H)) = some (.ret (.bool (l.any fun s => v == s)), H)
  | [], _, _ => rfl
  | s :: l, i, H => by
    rw [firstE_cons, inF, List.any_cons, orO_sel, orE_sel, orO_some, orO_none, orE_some, in_first v l]
    cases v == s <;> rfl
theorem str_beq_comm (a b : Str) : (a == b) = (b == a) := BEq.comm
theorem rinl {H H0 : List AObj} {v : Str} {tg : Tag} {l : List Str} (hs : l.length ≤ maxL) (hc : CutOk H0 H) (k : List Fra) : ∀ (n i : Nat) (He : List AObj), i + n = l.length →
    M.go a_truchmanref02_in H0 (.c l_truchmanref02_in_0 :: .lp ⟨(some [0, 1, 5]), [], false⟩ l_truchmanref02_in_0 He :: .blk 0 :: .c (.lv []) :: k) (kv [(0, .slice tg 1 (l.map strRow)), (1, .str v), (5, .int .i64 i)]) H =
      orE (firstE (inF v) i (l.drop i)) (H.take H0.length) (M.go a_truchmanref02_in H0 k .leaf H)
  | 0, i, He, h => by
    have e : i = l.length := by omega
    subst e
    rw [go_head M l_truchmanref02_in_0.eq_1]
    simp (maxSteps := 3000000) (maxDischargeDepth := 6) +contextual -implicitDefEqProofs only [amA M, amB, ↓slc_true, ↓slc_false, ↓slc_not, ↓fget_at, Nat.reduceBEq, Nat.reduceAdd, env, fargs, q_truchmanref02_in, Nat.lt_irrefl, List.drop_length]
  | n + 1, i, He, h => by
    have hi : i < l.length := by omega
    have hx : l[i]? = some l[i] := List.getElem?_eq_getElem hi
    have hd : (l.drop i) = l[i] :: l.drop (i + 1) := List.drop_eq_getElem_cons hi
    have hm : l[i] ∈ l := List.getElem_mem hi
    have ih := fun He => rinl (H := H) (H0 := H0) (v := v) (tg := tg) (l := l) (hs := hs) hc k n (i + 1)  He (by omega)
    simp only [kv_cons, kv_nil] at ih
    rw [go_head M l_truchmanref02_in_0.eq_1]
    simp (maxSteps := 3000000) (maxDischargeDepth := 6) +contextual -implicitDefEqProofs only [amA M, amB, ↓slc_true, ↓slc_false, ↓slc_not, ↓fget_at, Nat.reduceBEq, Nat.reduceAdd, env, fargs, q_truchmanref02_in, hx, hd, hi, ih, wrap_s hi hs, ias_row hi, qStr, inF, hc, str_beq_comm v]
theorem run_rin (hR : RefE E) {v : Str} {tg : Tag} {l : List Str} (hs : l.length ≤ maxL) (H : List AObj) : M.run f_truchmanref02_in [.slice tg 1 (l.map strRow), .str v] H = some (.ret (.bool (l.any fun s => v == s)), H) := by
  rw [run_c M hR.truchmanref02_in rfl (c := c_truchmanref02_in) rfl, c_truchmanref02_in]
  have h1 := fun k He => rinl M (tg := tg) (v := v) hs (cut_refl H) k l.length 0 He (by omega)
  simp only [kv_cons, kv_nil, Int.ofNat_zero, List.drop_zero] at h1
  simp (maxSteps := 3000000) (maxDischargeDepth := 6) +contextual -implicitDefEqProofs only [amA M, amB, ↓slc_true, ↓slc_false, ↓slc_not, ↓fget_at, Nat.reduceBEq, Nat.reduceAdd, env, fargs, q_truchmanref02_in, h1]
  exact in_first _ _ 0 H

/-! Bundles -/
theorem rbl {H H0 : List AObj} (hR : RefE E) {l : Lex} {n0 : Nat} (hl : l.ok n0) {b : List Feat} {tg : Tag} (hb : b.length ≤ maxL) {p : Nat} {T : TypeId} (hp : H[p]? = some (.cells l.row T)) (hc : CutOk H0 H) (k : List Fra) : ∀ (n i : Nat) (He : List AObj), i + n = b.length →
    M.go a_truchmanref02_bundle H0 (.c l_truchmanref02_bundle_0 :: .lp ⟨(some [1, 2, 5]), [], false⟩ l_truchmanref02_bundle_0 He :: .blk 0 :: .c (.lv []) :: k) (kv [(1, .slice tg 2 (b.map Feat.row)), (2, .ptr p 0), (5, .int .i64 i)]) H =
      orE (firstE (errF (bunF l b)) i (b.drop i)) (H.take H0.length) (M.go a_truchmanref02_bundle H0 k .leaf H)
  | 0, i, He, h => by
    have e : i = b.length := by omega
    subst e
    rw [go_head M l_truchmanref02_bundle_0.eq_1]
    simp (maxSteps := 3000000) (maxDischargeDepth := 6) +contextual -implicitDefEqProofs only [amA M, amB, ↓slc_true, ↓slc_false, ↓slc_not, ↓fget_at, Nat.reduceBEq, Nat.reduceAdd, env, fargs, q_truchmanref02_bundle, Nat.lt_irrefl, List.drop_length]
  | n + 1, i, He, h => by
    have hi : i < b.length := by omega
    have hx : b[i]? = some b[i] := List.getElem?_eq_getElem hi
    have hd : (b.drop i) = b[i] :: b.drop (i + 1) := List.drop_eq_getElem_cons hi
    have hm : b[i] ∈ b := List.getElem_mem hi
    have ih := fun He => rbl (H := H) (H0 := H0) (hR := hR) (l := l) (n0 := n0) (hl := hl) (b := b) (tg := tg) (hb := hb) (p := p) (T := T) (hp := hp) hc k n (i + 1)  He (by omega)
    simp only [kv_cons, kv_nil] at ih
    have hcf := fun H => run_rtrait M hR hl b[i].name H
    rcases idxI_cases (fun t : Trait => t.name == b[i].name) l.traits.l 0 with ⟨h1, h2⟩ | ⟨j, t, h1, h2, h3⟩
    · rw [h1] at hcf
      rw [go_head M l_truchmanref02_bundle_0.eq_1]
      simp (maxSteps := 3000000) (maxDischargeDepth := 6) +contextual -implicitDefEqProofs only [amA M, amB, ↓slc_true, ↓slc_false, ↓slc_not, ↓fget_at, Nat.reduceBEq, Nat.reduceAdd, env, fargs, q_truchmanref02_bundle, hx, hd, hi, ih, hcf, qLex, qFeat, hp, ias_row hi, errF_eO, bunF, h2, neg1, qE, hc]
    · rw [h1, Nat.zero_add] at hcf
      have hj : j < l.traits.l.length := (List.getElem?_eq_some_iff.1 h2).1
      have htm : t ∈ l.traits.l := List.mem_of_getElem? h2
      cases i with
      | zero =>
        rw [go_head M l_truchmanref02_bundle_0.eq_1]
        simp (maxSteps := 3000000) (maxDischargeDepth := 6) +contextual -implicitDefEqProofs only [amA M, amB, ↓slc_true, ↓slc_false, ↓slc_not, ↓fget_at, Nat.reduceBEq, Nat.reduceAdd, env, fargs, q_truchmanref02_bundle, hx, hd, hi, ih, hcf, qLex, qFeat, qTrait, hp, ias_row hi, ias_row0 hi, errF_eO, bunF, h2, h3, neg0, pos0, prevIs, qE, hc, ias_row hj, run_rin M hR (hl.traits.all t htm).values.len, wrap_s hi hb]
      | succ i =>
        have hx1 : b[i]? = some b[i] := List.getElem?_eq_getElem (by omega)
        rw [go_head M l_truchmanref02_bundle_0.eq_1]
        simp (maxSteps := 3000000) (maxDischargeDepth := 6) +contextual -implicitDefEqProofs only [amA M, amB, ↓slc_true, ↓slc_false, ↓slc_not, ↓fget_at, Nat.reduceBEq, Nat.reduceAdd, env, fargs, q_truchmanref02_bundle, hx, hd, hi, ih, hcf, qLex, qFeat, qTrait, hp, ias_row hi, errF_eO, bunF, h2, h3, neg0, pos1, prevIs_succ hx1, hx1, ias_row (show i < b.length by omega), wrap_p (show i + 1 ≤ maxL by omega), qE, hc, ias_row hj, run_rin M hR (hl.traits.all t htm).values.len, wrap_s hi hb]
theorem run_rbundle (hR : RefE E) {l : Lex} {b : List Feat} {tg : Tag} {n : Nat} (hl : l.ok n) (hb : b.length ≤ maxL) (H : List AObj) :
    M.run f_truchmanref02_bundle [.agg l.row, .slice tg 2 (b.map Feat.row)] H = some (.ret (.int .u8 (bundleF l b)), H) := by
  rw [run_c M hR.truchmanref02_bundle rfl (c := c_truchmanref02_bundle) rfl, c_truchmanref02_bundle]
  have h1 := fun k He => rbl M hR (H := H ++ [.cells l.row t_api_Lexicon]) hl (tg := tg) hb (p := H.length) (T := t_api_Lexicon) (by rw [hp_get0]; rfl) (cut_app H _) k b.length 0 He (by omega)
  simp only [kv_cons, kv_nil, Int.ofNat_zero, List.drop_zero] at h1
  simp (maxSteps := 3000000) (maxDischargeDepth := 6) +contextual -implicitDefEqProofs only [amA M, amB, ↓slc_true, ↓slc_false, ↓slc_not, ↓fget_at, Nat.reduceBEq, Nat.reduceAdd, env, fargs, q_truchmanref02_bundle, h1, cut_app, err_first0, sel_int, bundleF, eachF]

end Go.Am
end

