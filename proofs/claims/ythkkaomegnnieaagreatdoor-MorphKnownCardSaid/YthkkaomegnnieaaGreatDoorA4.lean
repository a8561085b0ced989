import Derived.Test.YthkkaomegnnieaaGreatDoorA3
import Derived.Test.YthkkaomegnnieaaGreatDoorChecked
import Derived.KernelRfl
/-
  Part 4 of the tool: an abstract machine over the model, proved sound, and what it says of the functions that the law reaches. Condition: none but those that each theorem names.
-/
set_option linter.unusedVariables false
set_option linter.unusedSimpArgs false
section
set_option maxRecDepth 100000
namespace Go.Am
open Go.RowKit Sh
def l_ktruchmanlaw02_MorphKnown_0 : AC :=
  (Q (O [bl 114 113 112]) (Q (C 114 X (.exit 0)) (Q (.block 1 (Q (O [m 115 113, ia 116 1 111 113, ld 117 116, m 11 115, m 12 117]) (Q (O [la 119 6 1, m 120 11, k 121 (f f_morph_Spell)
  [(t 119), (t 120), (s [97, 97, 97])], m 118 121, ex 122 118 0, ex 123 118 1, m 13 122, m 14 123]) (Q (O [m 124 14, o 125 (.ar .neq (t 124) (u 0)), m 126 125, h 127 126 (.mv (t 13)),
  h 128 126 (.mv (t 12)), h 129 126 (.ar .neq (t 127) (t 128)), o 130 (.pk (t 126) T (t 129))]) (C 130 (Q (O [mc 0 F]) R) X))))) (O [ad 131 113, m 113 131]))))
def kc_truchmanlaw02_MorphKnown : AC :=
  (Q (O [mc 0 F]) (Q (O [k 24 (f f_morph_Parse) [(s [118, 111, 119, 101, 108, 115, 32, 97, 101, 105, 111, 117, 10, 116, 114, 97, 105, 116, 32, 110, 117, 109, 32, 115, 103, 32, 112,
  108, 10, 99, 108, 97, 115, 115, 32, 110, 111, 117, 110, 10, 115, 108, 111, 116, 32, 48, 32, 45, 32, 45, 32, 110, 117, 109, 61, 115, 103, 10, 115, 108, 111, 116, 32, 48, 32, 45, 32,
  115, 32, 110, 117, 109, 61, 112, 108, 10, 99, 108, 97, 115, 115, 32, 118, 101, 114, 98, 10, 115, 108, 111, 116, 32, 48, 32, 45, 32, 45, 10, 115, 108, 111, 116, 32, 48, 32, 45, 32,
  101, 100, 10, 101, 110, 116, 114, 121, 32, 99, 105, 116, 121, 32, 110, 111, 117, 110, 10, 101, 110, 116, 114, 121, 32, 99, 97, 114, 32, 110, 111, 117, 110, 10, 101, 110, 116, 114,
  121, 32, 98, 117, 115, 32, 110, 111, 117, 110, 10, 102, 111, 114, 109, 32, 49, 32, 98, 117, 115, 101, 115, 10, 101, 110, 116, 114, 121, 32, 112, 108, 97, 110, 32, 118, 101, 114, 98,
  10, 115, 112, 101, 108, 108, 32, 121, 43, 32, 105, 43, 101, 32, 67, 32, 115, 10, 115, 112, 101, 108, 108, 32, 110, 43, 32, 110, 110, 43, 32, 86, 32, 101, 100, 10, 108, 105, 110,
  107, 32, 110, 111, 117, 110, 32, 45, 32, 110, 117, 109, 61, 115, 103, 10])], m 23 24, ex 25 23 0, ex 26 23 1, ex 27 23 2, o 1 (.nw [(.str []), (.slice .nil 2 []), (.slice .nil 2
  []), (.slice .nil 4 []), (.slice .nil 4 []), (.slice .nil 3 [])] t_api_Lexicon), n (.st 6 (t 1) (t 25)), m 2 26, m 3 27]) (Q (Q (O [m 28 3, o 29 (.ar .neq (t 28) (u 0))]) (C 29 (Q
  (O [mc 0 F]) R) X)) (Q (O [la 31 6 1, k 32 (f f_morph_Steps) [(t 31), (i 0), (i 1)], m 30 32, ex 33 30 0, ex 34 30 1, m 4 33, m 3 34]) (Q (O [la 36 6 1, k 37 (f f_morph_Form) [(t
  36), (i 2), (i 1)], m 35 37, ex 38 35 0, ex 39 35 1, m 5 38, m 6 39]) (Q (O [la 41 6 1, k 42 (f f_morph_Form) [(t 41), (i 3), (i 1)], m 40 42, ex 43 40 0, ex 44 40 1, m 7 43, m 8
  44]) (Q (Q (O [m 45 3, o 46 (.ar .neq (t 45) (u 0)), m 47 46, h 48 47 (.mv (t 6)), h 49 47 (.ar .neq (t 48) (u 0)), o 50 (.pk (t 47) T (t 49)), m 51 50, h 52 51 (.mv (t 8)), h 53 51
  (.ar .neq (t 52) (u 0)), o 54 (.pk (t 51) T (t 53)), m 55 54, h 56 55 (.mv (t 4)), h 57 55 (.bs 1 [(.str [])] 3 [(0, (s [99, 105, 116, 121, 43, 115])), (1, (s [99, 105, 116, 105,
  43, 101, 115])), (2, (s [99, 105, 116, 105, 43, 101, 115]))]), ⟨(some 58), (some (55, false)), (.call (.c (.fn (.func f_truchmanlaw02_SameStrings) [] [])) [(.t 56), (.t 57)])⟩, h 59
  55 (.un .not (t 58)), o 60 (.pk (t 55) T (t 59)), m 61 60, h 62 61 (.mv (t 5)), h 63 61 (.ar .neq (t 62) (s [98, 117, 115, 101, 115])), o 64 (.pk (t 61) T (t 63)), m 65 64, h 66 65
  (.mv (t 7)), h 67 65 (.ar .neq (t 66) (s [112, 108, 97, 110, 110, 101, 100])), o 68 (.pk (t 65) T (t 67))]) (C 68 (Q (O [mc 0 F]) R) X)) (Q (O [la 70 6 1, k 71 (f f_morph_Analyze)
  [(t 70), (s [99, 97, 114, 99, 105, 116, 121])], m 69 71, ex 72 69 0, ex 73 69 1, m 9 72, m 3 73]) (Q (Q (O [m 74 3, o 75 (.ar .neq (t 74) (u 0)), m 76 75, h 77 76 (.mv (t 9)), h 78
  76 (.len .sl (t 77)), h 79 76 (.ar .neq (t 78) (i 1)), o 80 (.pk (t 76) T (t 79)), m 81 80, h 82 81 (.mv (t 9)), h 83 81 (.ias 3 (t 82) (i 0)), h 84 81 (.ld (some 3) (t 83)), h 85
  81 (.bd [(.int .i64 0), (.int .i64 0), (.int .i64 0)] [(0, 1), (1, 1), (2, 1)] [(0, (i 1))]), h 86 81 (.bs 3 [(.int .i64 0), (.int .i64 0), (.int .i64 0)] 1 [(0, (t 85))]), h 87 81
  (.bd [(.slice .nil 3 []), (.int .i64 0), (.int .i64 0)] [(0, 1), (1, 1), (2, 1)] [(0, (t 86))]), ⟨(some 88), (some (81, false)), (.call (.c (.fn (.func f_truchmanlaw02_SameAnalysis)
  [] [])) [(.t 84), (.t 87)])⟩, h 89 81 (.un .not (t 88)), o 90 (.pk (t 81) T (t 89))]) (C 90 (Q (O [mc 0 F]) R) X)) (Q (O [la 92 6 1, o 93 (.bd [(.str []), (.str [])] [(0, 1), (1,
  1)] [(0, (s [110, 117, 109])), (1, (s [112, 108]))]), o 94 (.bs 2 [(.str []), (.str [])] 1 [(0, (t 93))]), k 95 (f f_morph_Generate) [(t 92), (s [99, 105, 116, 121]), (t 94)], m 91
  95, ex 96 91 0, ex 97 91 1, m 10 96, m 3 97]) (Q (Q (O [m 98 3, o 99 (.ar .neq (t 98) (u 0)), m 100 99, h 101 100 (.mv (t 10)), h 102 100 (.bs 1 [(.str [])] 1 [(0, (s [99, 105, 116,
  105, 101, 115]))]), ⟨(some 103), (some (100, false)), (.call (.c (.fn (.func f_truchmanlaw02_SameStrings) [] [])) [(.t 101), (.t 102)])⟩, h 104 100 (.un .not (t 103)), o 105 (.pk (t
  100) T (t 104))]) (C 105 (Q (O [mc 0 F]) R) X)) (Q (O [o 106 (.bd [(.str []), (.str []), (.str []), (.str [])] [(0, 1), (1, 1), (2, 1), (3, 1)] [(0, (s [97])), (1, (s [98])), (2, (s
  [35]))]), o 107 (.bd [(.str []), (.str []), (.str []), (.str [])] [(0, 1), (1, 1), (2, 1), (3, 1)] [(0, (s [97])), (1, (s [])), (3, (s [35]))]), o 108 (.bd [(.str []), (.str []),
  (.str []), (.str [])] [(0, 1), (1, 1), (2, 1), (3, 1)] [(0, (s [97])), (1, (s [97, 97])), (2, (s [97]))]), o 109 (.bs 4 [(.str []), (.str []), (.str []), (.str [])] 3 [(0, (t 106)),
  (1, (t 107)), (2, (t 108))]), fa 110 4 1, n (.st 1 (t 110) (t 109))]) (Q (Q (O [o 111 (.bs 1 [(.str [])] 3 [(0, (s [98, 97, 97])), (1, (s [97, 97])), (2, (s [97, 97, 97, 97,
  97]))]), ls 112 111, mc 113 (i 0)]) (.block 0 (.loop ⟨none, [], false⟩ l_ktruchmanlaw02_MorphKnown_0))) (Q (O [k 133 (f f_morph_Parse) [(s [118, 111, 119, 101, 108, 115, 32, 97, 10,
  59, 32, 110, 111, 116, 104, 105, 110, 103, 10, 10, 116, 114, 97, 105, 116, 32, 120, 10, 99, 108, 97, 115, 115, 32, 121, 32, 122, 10])], m 132 133, ex 134 132 0, ex 135 132 1, ex 136
  132 2, o 15 (.nw [(.str []), (.slice .nil 2 []), (.slice .nil 2 []), (.slice .nil 4 []), (.slice .nil 4 []), (.slice .nil 3 [])] t_api_Lexicon), n (.st 6 (t 15) (t 134)), m 16 135,
  m 3 136]) (Q (O [k 138 (f f_morph_Parse) [(s [118, 111, 119, 101, 108, 115, 32, 97, 10, 116, 114, 97, 105, 116, 32, 120, 10])], m 137 138, ex 139 137 0, ex 140 137 1, ex 141 137 2,
  o 17 (.nw [(.str []), (.slice .nil 2 []), (.slice .nil 2 []), (.slice .nil 4 []), (.slice .nil 4 []), (.slice .nil 3 [])] t_api_Lexicon), n (.st 6 (t 17) (t 139)), m 18 140, m 6
  141]) (Q (O [k 143 (f f_morph_Parse) [(s [])], m 142 143, ex 144 142 0, ex 145 142 1, ex 146 142 2, o 19 (.nw [(.str []), (.slice .nil 2 []), (.slice .nil 2 []), (.slice .nil 4 []),
  (.slice .nil 4 []), (.slice .nil 3 [])] t_api_Lexicon), n (.st 6 (t 19) (t 144)), m 20 145, m 8 146]) (Q (O [o 148 (.bd [(.str []), (.str [])] [(0, 1), (1, 1)] [(0, (s [97])), (1,
  (s [120]))]), o 149 (.bs 2 [(.str []), (.str [])] 1 [(0, (t 148))]), o 150 (.bd [(.str []), (.str [])] [(0, 1), (1, 1)] [(0, (s [97])), (1, (s [121]))]), o 151 (.bs 2 [(.str []),
  (.str [])] 1 [(0, (t 150))]), k 152 (f f_morph_Unify) [(t 149), (t 151)], m 147 152, ex 153 147 0, ex 154 147 1, m 21 153, m 22 154]) (Q (O [m 155 16, o 156 (.ar .eql (t 155) (i
  5)), m 157 156, g 158 157 (.mv (t 3)), g 159 157 (.ar .eql (t 158) (u 4)), o 160 (.pk (t 157) (t 159) F), m 161 160, g 162 161 (.mv (t 18)), g 163 161 (.ar .eql (t 162) (i 0)), o
  164 (.pk (t 161) (t 163) F), m 165 164, g 166 165 (.mv (t 6)), g 167 165 (.ar .eql (t 166) (u 1)), o 168 (.pk (t 165) (t 167) F), m 169 168, g 170 169 (.mv (t 20)), g 171 169 (.ar
  .eql (t 170) (i 0)), o 172 (.pk (t 169) (t 171) F), m 173 172, g 174 173 (.mv (t 8)), g 175 173 (.ar .eql (t 174) (u 4)), o 176 (.pk (t 173) (t 175) F), m 177 176, g 178 177 (.mv (t
  22)), g 179 177 (.un .not (t 178)), o 180 (.pk (t 177) (t 179) F), m 181 180, ⟨(some 182), (some (181, true)), (.call (.c (.fn (.func f_morph_Name) [] [])) [(.c (.str [65, 95,
  57]))])⟩, o 183 (.pk (t 181) (t 182) F), m 184 183, ⟨(some 185), (some (184, true)), (.call (.c (.fn (.func f_morph_Name) [] [])) [(.c (.str [57, 65]))])⟩, g 186 184 (.un .not (t
  185)), o 187 (.pk (t 184) (t 186) F), m 188 187, ⟨(some 189), (some (188, true)), (.call (.c (.fn (.func f_morph_Word) [] [])) [(.c (.str [65, 44, 98]))])⟩, o 190 (.pk (t 188) (t
  189) F), m 191 190, ⟨(some 192), (some (191, true)), (.call (.c (.fn (.func f_morph_Plain) [] [])) [(.c (.str [65]))])⟩, g 193 191 (.un .not (t 192)), o 194 (.pk (t 191) (t 193) F),
  m 195 194, ⟨(some 196), (some (195, true)), (.call (.c (.fn (.func f_truchmanlaw02_lives) [] [])) [])⟩, o 197 (.pk (t 195) (t 196) F), m 0 197]) R))))))))))))))))))
def ka_truchmanlaw02_MorphKnown : AFn := ⟨kc_truchmanlaw02_MorphKnown, 198, [.t 0], .keep, [], none⟩
def l_kmorph_Parse_0 : AC :=
  (Q (O [bl 31 30 29]) (Q (C 31 X (.exit 0)) (Q (.block 1 (Q (O [m 32 30, ia 33 1 28 30, ld 34 33, m 7 32, m 8 34]) (Q (Q (O [m 35 8, o 36 (.ar .eql (t 35) (s [])), m 37 36, h 38 37
  (.mv (t 8)), h 39 37 (.ixs (t 38) (i 0)), h 40 37 (.ar .eql (t 39) (u 59)), o 41 (.pk (t 37) T (t 40))]) (C 41 (.exit 1) X)) (Q (O [m 42 8, k 43 (f f_morph_reader_read) [(t 6), (t
  42)], no 44 43]) (C 44 (Q (O [o 45 (.bd [(.str []), (.slice .nil 2 []), (.slice .nil 2 []), (.slice .nil 4 []), (.slice .nil 4 []), (.slice .nil 3 [])] [(0, 1), (1, 1), (2, 1), (3,
  1), (4, 1), (5, 1)] []), m 46 7, ad 47 46, n (.st 6 (t 2) (t 45)), m 3 47, mc 4 (u 4)]) R) X))))) (O [ad 48 30, m 30 48]))))
def kc_morph_Parse : AC :=
  (Q (O [o 2 (.nw [(.str []), (.slice .nil 2 []), (.slice .nil 2 []), (.slice .nil 4 []), (.slice .nil 4 []), (.slice .nil 3 [])] t_api_Lexicon), mc 3 (i 0), mc 4 (u 0)]) (Q (Q (O [m
  10 0, lt 11 10, o 12 (.ar .gtr (t 11) (i 65536))]) (C 12 (Q (O [o 13 (.bd [(.str []), (.slice .nil 2 []), (.slice .nil 2 []), (.slice .nil 4 []), (.slice .nil 4 []), (.slice .nil 3
  [])] [(0, 1), (1, 1), (2, 1), (3, 1), (4, 1), (5, 1)] []), n (.st 6 (t 2) (t 13)), mc 3 (i 0), mc 4 (u 3)]) R) X)) (Q (O [m 14 0, k 15 (f f_strings_Split) [(t 14), (s [10])], m 5
  15]) (Q (Q (O [m 16 5, m 17 5, ls 18 17, o 19 (.ar .sub (t 18) (i 1)), ia 20 1 16 19, ld 21 20, o 22 (.ar .eql (t 21) (s []))]) (C 22 (O [m 23 5, m 24 5, ls 25 24, o 26 (.ar .sub (t
  25) (i 1)), o 27 (.sll 1 (t 23) none (some (t 26)) none), m 5 27]) X)) (Q (O [o 6 (.nw [(.str []), (.slice .nil 2 []), (.slice .nil 2 []), (.slice .nil 4 []), (.slice .nil 4 []),
  (.slice .nil 3 []), (.str []), (.int .i64 0)] t_morph_reader)]) (Q (Q (O [m 28 5, ls 29 28, mc 30 (i 0)]) (.block 0 (.loop ⟨none, [], false⟩ l_kmorph_Parse_0))) (Q (Q (O [fa 49 6 6,
  ld 50 49, o 51 (.ar .eql (t 50) (s []))]) (C 51 (Q (O [o 52 (.bd [(.str []), (.slice .nil 2 []), (.slice .nil 2 []), (.slice .nil 4 []), (.slice .nil 4 []), (.slice .nil 3 [])] [(0,
  1), (1, 1), (2, 1), (3, 1), (4, 1), (5, 1)] []), n (.st 6 (t 2) (t 52)), mc 3 (i 0), mc 4 (u 4)]) R) X)) (Q (Q (O [fa 53 0 6, la 54 6 53, k 55 (f f_morph_Check) [(t 54)], m 9 55])
  (Q (O [m 56 9, o 57 (.ar .neq (t 56) (u 0))]) (C 57 (Q (O [o 58 (.bd [(.str []), (.slice .nil 2 []), (.slice .nil 2 []), (.slice .nil 4 []), (.slice .nil 4 []), (.slice .nil 3 [])]
  [(0, 1), (1, 1), (2, 1), (3, 1), (4, 1), (5, 1)] []), m 59 9, n (.st 6 (t 2) (t 58)), mc 3 (i 0), m 4 59]) R) X))) (Q (O [fa 60 0 6, la 61 6 60, n (.st 6 (t 2) (t 61)), mc 3 (i 0),
  mc 4 (u 0)]) R)))))))))
def ka_morph_Parse : AFn := ⟨kc_morph_Parse, 62, [.cell 2 (some 6), .t 3, .t 4], .keep, [], none⟩
def kc_morph_Steps : AC :=
  (Q (O [o 3 (.bx t_api_Lexicon (t 0)), mc 6 (.c (.slice .nil 1 [])), mc 7 (u 0)]) (Q (O [la 14 6 3, m 15 1, m 16 2, k 17 (f f_morph_asked) [(t 14), (t 15), (t 16)], m 13 17, ex 18 13
  0, ex 19 13 1, ex 20 13 2, o 8 (.nw [(.str []), (.slice .nil 2 []), (.slice .nil 2 []), (.slice .nil 4 []), (.slice .nil 4 []), (.slice .nil 3 [])] t_morph_language), o 9 (.nw
  [(.int .i64 0), (.str []), (.str []), (.slice .nil 2 [])] t_api_Slot), n (.st 6 (t 8) (t 18)), n (.st 4 (t 9) (t 19)), m 10 20]) (Q (Q (O [m 21 10, o 22 (.ar .neq (t 21) (u 0))]) (C
  22 (Q (O [m 23 10, mc 6 (.c (.slice .nil 1 [])), m 7 23]) R) X)) (Q (O [la 25 6 8, m 26 1, la 27 4 9, k 28 (f f_morph_language_steps) [(t 25), (t 26), (t 27)], m 24 28, ex 29 24 0,
  ex 30 24 1, m 11 29, m 12 30]) (Q (Q (O [m 31 12, no 32 31]) (C 32 (Q (O [mc 6 (.c (.slice .nil 1 [])), mc 7 (u 7)]) R) X)) (Q (O [m 33 11, m 6 33, mc 7 (u 0)]) R))))))
def ka_morph_Steps : AFn := ⟨kc_morph_Steps, 34, [.t 6, .t 7], .keep, [], none⟩
def kc_morph_Form : AC :=
  (Q (O [o 3 (.bx t_api_Lexicon (t 0)), mc 6 (s []), mc 7 (u 0)]) (Q (O [la 13 6 3, m 14 1, m 15 2, k 16 (f f_morph_asked) [(t 13), (t 14), (t 15)], m 12 16, ex 17 12 0, ex 18 12 1,
  ex 19 12 2, o 8 (.nw [(.str []), (.slice .nil 2 []), (.slice .nil 2 []), (.slice .nil 4 []), (.slice .nil 4 []), (.slice .nil 3 [])] t_morph_language), o 9 (.nw [(.int .i64 0),
  (.str []), (.str []), (.slice .nil 2 [])] t_api_Slot), n (.st 6 (t 8) (t 17)), n (.st 4 (t 9) (t 18)), m 10 19]) (Q (Q (O [m 20 10, o 21 (.ar .neq (t 20) (u 0))]) (C 21 (Q (O [m 22
  10, mc 6 (s []), m 7 22]) R) X)) (Q (O [la 23 6 8, m 24 1, m 25 2, k 26 (f f_morph_language_form) [(t 23), (t 24), (t 25)], m 11 26]) (Q (Q (O [m 27 11, o 28 (.ar .eql (t 27) (s
  []))]) (C 28 (Q (O [mc 6 (s []), mc 7 (u 7)]) R) X)) (Q (O [m 29 11, m 6 29, mc 7 (u 0)]) R))))))
def ka_morph_Form : AFn := ⟨kc_morph_Form, 30, [.t 6, .t 7], .keep, [], none⟩
def l_ktruchmanlaw02_SameStrings_0 : AC :=
  (Q (Q (O [m 11 5, m 12 0, ls 13 12, bl 14 11 13]) (C 14 X (.exit 0))) (Q (.block 1 (Q (D [P (m 17 0), P (m 18 5), P (ia 19 1 17 18), W (ld 20 19), P (m 21 1), P (m 22 5), P (ia 23 1
  21 22), W (ld 24 23), P (o 25 (.ar .neq (t 20) (t 24)))]) (C 25 (Q (O [mc 4 F]) R) X))) (O [m 15 5, ad 16 15, m 5 16])))
def kc_truchmanlaw02_SameStrings : AC :=
  (Q (O [mc 4 F]) (Q (Q (O [m 6 0, ls 7 6, m 8 1, ls 9 8, o 10 (.ar .neq (t 7) (t 9))]) (C 10 (Q (O [mc 4 F]) R) X)) (Q (Q (O [mc 5 (i 0)]) (.block 0 (.loop ⟨none, [], false⟩
  l_ktruchmanlaw02_SameStrings_0))) (Q (O [mc 4 T]) R))))
def ka_truchmanlaw02_SameStrings : AFn := ⟨kc_truchmanlaw02_SameStrings, 26, [.t 4], .keep, [], none⟩
def kc_morph_Analyze : AC :=
  (Q (O [o 2 (.bx t_api_Lexicon (t 0)), mc 4 (.c (.slice .nil 3 [])), mc 5 (u 0)]) (Q (Q (O [la 7 6 2, k 8 (f f_morph_Check) [(t 7)], m 6 8]) (Q (O [m 9 6, o 10 (.ar .neq (t 9) (u
  0))]) (C 10 (Q (O [m 11 6, mc 4 (.c (.slice .nil 3 [])), m 5 11]) R) X))) (Q (Q (O [m 12 1, k 13 (f f_morph_Word) [(t 12)], no 14 13]) (C 14 (Q (O [mc 4 (.c (.slice .nil 3 [])), mc
  5 (u 1)]) R) X)) (Q (O [la 15 6 2, o 16 (.bd [(.str []), (.slice .nil 2 []), (.slice .nil 2 []), (.slice .nil 4 []), (.slice .nil 4 []), (.slice .nil 3 [])] [(0, 6)] [(0, (t 15))]),
  m 17 1, k 18 (f f_morph_language_analyze) [(t 16), (t 17)], m 4 18, mc 5 (u 0)]) R))))
def ka_morph_Analyze : AFn := ⟨kc_morph_Analyze, 19, [.t 4, .t 5], .keep, [], none⟩
def l_ktruchmanlaw02_SameAnalysis_0 : AC :=
  (Q (Q (O [m 27 5, fa 28 0 2, ld 29 28, ls 30 29, bl 31 27 30]) (C 31 X (.exit 0))) (Q (.block 1 (Q (D [P (fa 34 0 2), W (ld 35 34), P (m 36 5), P (ia 37 3 35 36), W (la 38 3 37), P
  (fa 39 0 3), W (ld 40 39), P (m 41 5), P (ia 42 3 40 41), W (la 43 3 42), P (o 44 (.eq true (.st [(0, (.int .i64)), (1, (.int .i64)), (2, (.int .i64))]) (t 38) (t 43)))]) (C 44 (Q
  (O [mc 4 F]) R) X))) (O [m 32 5, ad 33 32, m 5 33])))
def kc_truchmanlaw02_SameAnalysis : AC :=
  (Q (O [o 2 (.bx t_api_Analysis (t 0)), o 3 (.bx t_api_Analysis (t 1)), mc 4 F]) (Q (Q (O [fa 6 1 2, ld 7 6, fa 8 1 3, ld 9 8, o 10 (.ar .neq (t 7) (t 9)), m 11 10, h 12 11 (.fa 2 (t
  2)), h 13 11 (.ld none (t 12)), h 14 11 (.fa 2 (t 3)), h 15 11 (.ld none (t 14)), h 16 11 (.ar .neq (t 13) (t 15)), o 17 (.pk (t 11) T (t 16)), m 18 17, h 19 18 (.fa 0 (t 2)), h 20
  18 (.ld none (t 19)), h 21 18 (.len .sl (t 20)), h 22 18 (.fa 0 (t 3)), h 23 18 (.ld none (t 22)), h 24 18 (.len .sl (t 23)), h 25 18 (.ar .neq (t 21) (t 24)), o 26 (.pk (t 18) T (t
  25))]) (C 26 (Q (O [mc 4 F]) R) X)) (Q (Q (O [mc 5 (i 0)]) (.block 0 (.loop ⟨none, [], false⟩ l_ktruchmanlaw02_SameAnalysis_0))) (Q (O [mc 4 T]) R))))
def ka_truchmanlaw02_SameAnalysis : AFn := ⟨kc_truchmanlaw02_SameAnalysis, 45, [.t 4], .keep, [], none⟩
def l_kmorph_Generate_0 : AC :=
  (Q (O [bl 42 41 40]) (Q (C 42 X (.exit 2)) (Q (.block 3 (Q (O [m 43 41, m 14 43]) (Q (O [la 45 6 9, m 46 12, m 47 14, k 48 (f f_morph_language_slot) [(t 45), (t 46), (t 47)], m 44
  48, ex 49 44 0, ex 50 44 1, o 15 (.nw [(.int .i64 0), (.str []), (.str []), (.slice .nil 2 [])] t_api_Slot), n (.st 4 (t 15) (t 49)), m 16 50]) (Q (O [la 51 6 9, m 52 12, m 53 14, k
  54 (f f_morph_language_form) [(t 51), (t 52), (t 53)], m 17 54]) (Q (O [m 55 17, o 56 (.ar .neq (t 55) (s [])), m 57 56, g 58 57 (.mv (t 2)), g 59 57 (.ld (some 6) (t 9)), g 60 57
  (.mv (t 12)), g 61 57 (.ld (some 4) (t 15)), ⟨(some 62), (some (57, true)), (.call (.c (.fn (.func f_morph_language_feats) [] [])) [(.t 59), (.t 60), (.t 61)])⟩, ⟨(some 63), (some
  (57, true)), (.call (.c (.fn (.func f_morph_Subsumes) [] [])) [(.t 58), (.t 62)])⟩, o 64 (.pk (t 57) (t 63) F), m 65 64, g 66 65 (.mv (t 10)), g 67 65 (.mv (t 17)), ⟨(some 68),
  (some (65, true)), (.call (.c (.fn (.func f_slices_Contains_string_string) [] [])) [(.t 66), (.t 67)])⟩, g 69 65 (.un .not (t 68)), o 70 (.pk (t 65) (t 69) F)]) (C 70 (O [m 71 10, m
  72 17, o 73 (.bs 1 [(.str [])] 1 [(0, (t 72))]), o 74 (.ap false t_string 1 16 false (t 71) (t 73)), m 10 74]) X)))))) (O [ad 75 41, m 41 75]))))
def l_kmorph_Generate_1 : AC :=
  (Q (O [bl 30 29 28]) (Q (C 30 X (.exit 0)) (Q (.block 1 (Q (O [m 31 29, ia 32 4 27 29, la 33 4 32, o 13 (.nw [(.str []), (.str []), (.slice .nil 2 []), (.slice .nil 2 [])]
  t_api_Entry), m 12 31, n (.st 4 (t 13) (t 33))]) (Q (Q (O [fa 34 0 13, ld 35 34, m 36 1, o 37 (.ar .neq (t 35) (t 36))]) (C 37 (.exit 1) X)) (Q (O [mc 11 T]) (Q (O [la 38 6 9, m 39
  12, k 40 (f f_morph_language_slots) [(t 38), (t 39)], mc 41 (i 0)]) (.block 2 (.loop ⟨none, [], false⟩ l_kmorph_Generate_0))))))) (O [ad 76 29, m 29 76]))))
def kc_morph_Generate : AC :=
  (Q (O [o 3 (.bx t_api_Lexicon (t 0)), mc 6 (.c (.slice .nil 1 [])), mc 7 (u 0)]) (Q (Q (O [la 18 6 3, m 19 2, k 20 (f f_morph_Bundle) [(t 18), (t 19)], m 8 20]) (Q (O [m 21 8, o 22
  (.ar .neq (t 21) (u 0))]) (C 22 (Q (O [m 23 8, mc 6 (.c (.slice .nil 1 [])), m 7 23]) R) X))) (Q (O [la 24 6 3, o 25 (.bd [(.str []), (.slice .nil 2 []), (.slice .nil 2 []), (.slice
  .nil 4 []), (.slice .nil 4 []), (.slice .nil 3 [])] [(0, 6)] [(0, (t 24))]), o 9 (.nw [(.str []), (.slice .nil 2 []), (.slice .nil 2 []), (.slice .nil 4 []), (.slice .nil 4 []),
  (.slice .nil 3 [])] t_morph_language), n (.st 6 (t 9) (t 25))]) (Q (O [mc 10 (.c (.slice .nil 1 []))]) (Q (O [mc 11 F]) (Q (Q (O [fa 26 3 3, ld 27 26, ls 28 27, mc 29 (i 0)])
  (.block 0 (.loop ⟨none, [], false⟩ l_kmorph_Generate_1))) (Q (Q (O [m 77 11, no 78 77]) (C 78 (Q (O [mc 6 (.c (.slice .nil 1 [])), mc 7 (u 7)]) R) X)) (Q (O [m 79 10, m 6 79, mc 7
  (u 0)]) R))))))))
def ka_morph_Generate : AFn := ⟨kc_morph_Generate, 80, [.t 6, .t 7], .keep, [], none⟩
def kc_morph_Spell : AC :=
  (Q (O [o 3 (.bx t_api_Lexicon (t 0)), mc 6 (s []), mc 7 (u 0)]) (Q (Q (O [la 11 6 3, k 12 (f f_morph_Check) [(t 11)], m 8 12]) (Q (O [m 13 8, o 14 (.ar .neq (t 13) (u 0))]) (C 14 (Q
  (O [m 15 8, mc 6 (s []), m 7 15]) R) X))) (Q (.block 0 (Q (O [m 17 1, o 18 (.ar .lss (t 17) (i 0)), m 19 18, h 20 19 (.mv (t 1)), h 21 19 (.fa 4 (t 3)), h 22 19 (.ld none (t 21)), h
  23 19 (.len .sl (t 22)), h 24 19 (.ar .geq (t 20) (t 23)), o 25 (.pk (t 19) T (t 24)), m 16 25]) (C 16 (Q (O [mc 6 (s []), mc 7 (u 7)]) R) (Q (O [m 27 2, k 28 (f f_morph_all) [(t
  27), (f f_morph_symbol)], no 29 28, m 26 29]) (C 26 (Q (O [mc 6 (s []), mc 7 (u 1)]) R) (Q (O [m 31 2, lt 32 31, o 33 (.ar .gtr (t 32) (i 512)), m 30 33]) (C 30 (Q (O [mc 6 (s []),
  mc 7 (u 3)]) R) X))))))) (Q (D [W (la 35 6 3), P (o 36 (.bd [(.str []), (.slice .nil 2 []), (.slice .nil 2 []), (.slice .nil 4 []), (.slice .nil 4 []), (.slice .nil 3 [])] [(0, 6)]
  [(0, (t 35))])), P (fa 37 4 3), W (ld 38 37), P (m 39 1), P (ia 40 4 38 39), W (la 41 4 40), P (m 42 2), E (k 43 (f f_morph_language_spell) [(t 36), (t 41), (t 42)]), P (m 34 43), P
  (ex 44 34 0), P (ex 45 34 1), P (m 9 44), P (m 10 45)]) (Q (Q (O [m 46 10, no 47 46]) (C 47 (Q (O [mc 6 (s []), mc 7 (u 3)]) R) X)) (Q (O [m 48 9, m 6 48, mc 7 (u 0)]) R))))))
def ka_morph_Spell : AFn := ⟨kc_morph_Spell, 49, [.t 6, .t 7], .keep, [], none⟩
def kc_morph_Unify : AC :=
  (Q (O [mc 4 (.c (.slice .nil 2 [])), mc 5 F]) (Q (Q (O [m 6 0, k 7 (f f_morph_increasing) [(t 6)], no 8 7, m 9 8, h 10 9 (.mv (t 1)), ⟨(some 11), (some (9, false)), (.call (.c (.fn
  (.func f_morph_increasing) [] [])) [(.t 10)])⟩, h 12 9 (.un .not (t 11)), o 13 (.pk (t 9) T (t 12)), m 14 13, h 15 14 (.mv (t 0)), h 16 14 (.mv (t 1)), ⟨(some 17), (some (14,
  false)), (.call (.c (.fn (.func f_morph_clash) [] [])) [(.t 15), (.t 16)])⟩, o 18 (.pk (t 14) T (t 17))]) (C 18 (Q (O [mc 4 (.c (.slice .nil 2 [])), mc 5 F]) R) X)) (Q (O [m 19 0, m
  20 1, k 21 (f f_morph_union) [(t 19), (t 20)], m 4 21, mc 5 T]) R)))
def ka_morph_Unify : AFn := ⟨kc_morph_Unify, 22, [.t 4, .t 5], .keep, [], none⟩
def kc_morph_Name : AC :=
  (Q (O [mc 2 F]) (Q (O [o 3 (.nw [.nilfn] t_func_uint8_bool), n (.st 1 (t 3) (f f_morph_Name_1))]) (Q (D [P (m 4 0), W (lt 5 4), P (o 6 (.ar .geq (t 5) (i 1))), P (m 7 6), P (g 8 7
  (.mv (t 0))), W (g 9 7 (.len .str (t 8))), P (g 10 7 (.ar .leq (t 9) (i 12))), P (o 11 (.pk (t 7) (t 10) F)), P (m 12 11), W (g 13 12 (.ld none (t 3))), P (g 14 12 (.mv (t 0))), P
  (g 15 12 (.ixs (t 14) (i 0))), E (⟨(some 16), (some (12, true)), (.call (.t 13) [(.t 15)])⟩), P (o 17 (.pk (t 12) (t 16) F)), P (m 18 17), P (g 19 18 (.mv (t 0))), P (g 20 18 (.mf
  (.func f_morph_Name_2) [] [(t 3)])), E (⟨(some 21), (some (18, true)), (.call (.c (.fn (.func f_morph_all) [] [])) [(.t 19), (.t 20)])⟩), P (o 22 (.pk (t 18) (t 21) F)), P (m 2
  22)]) R)))
def ka_morph_Name : AFn := ⟨kc_morph_Name, 23, [.t 2], .keep, [], none⟩
def kc_morph_Word : AC :=
  (Q (O [mc 2 F]) (Q (O [m 3 0, lt 4 3, o 5 (.ar .geq (t 4) (i 1)), m 6 5, g 7 6 (.mv (t 0)), g 8 6 (.len .str (t 7)), g 9 6 (.ar .leq (t 8) (i 24)), o 10 (.pk (t 6) (t 9) F), m 11
  10, g 12 11 (.mv (t 0)), ⟨(some 13), (some (11, true)), (.call (.c (.fn (.func f_morph_all) [] [])) [(.t 12), (.c (.fn (.func f_morph_Word_1) [] []))])⟩, o 14 (.pk (t 11) (t 13) F),
  m 2 14]) R))
def ka_morph_Word : AFn := ⟨kc_morph_Word, 15, [.t 2], .keep, [], none⟩
def kc_morph_Plain : AC :=
  (Q (O [mc 2 F]) (Q (O [m 3 0, k 4 (f f_morph_Word) [(t 3)], m 5 4, g 6 5 (.mv (t 0)), ⟨(some 7), (some (5, true)), (.call (.c (.fn (.func f_morph_all) [] [])) [(.t 6), (.c (.fn
  (.func f_morph_letter) [] []))])⟩, o 8 (.pk (t 5) (t 7) F), m 2 8]) R))
def ka_morph_Plain : AFn := ⟨kc_morph_Plain, 9, [.t 2], .keep, [], none⟩
def kc_truchmanlaw02_lives : AC :=
  (Q (O [mc 0 F]) (Q (O [k 7 (f f_morph_Parse) [(s [118, 111, 119, 101, 108, 115, 32, 97, 101, 105, 111, 117, 10, 116, 114, 97, 105, 116, 32, 110, 117, 109, 32, 115, 103, 32, 112,
  108, 10, 99, 108, 97, 115, 115, 32, 110, 111, 117, 110, 10, 115, 108, 111, 116, 32, 48, 32, 45, 32, 45, 32, 110, 117, 109, 61, 115, 103, 10, 115, 108, 111, 116, 32, 48, 32, 45, 32,
  115, 32, 110, 117, 109, 61, 112, 108, 10, 99, 108, 97, 115, 115, 32, 118, 101, 114, 98, 10, 115, 108, 111, 116, 32, 48, 32, 45, 32, 45, 10, 115, 108, 111, 116, 32, 48, 32, 45, 32,
  101, 100, 10, 101, 110, 116, 114, 121, 32, 99, 105, 116, 121, 32, 110, 111, 117, 110, 10, 101, 110, 116, 114, 121, 32, 99, 97, 114, 32, 110, 111, 117, 110, 10, 101, 110, 116, 114,
  121, 32, 98, 117, 115, 32, 110, 111, 117, 110, 10, 102, 111, 114, 109, 32, 49, 32, 98, 117, 115, 101, 115, 10, 101, 110, 116, 114, 121, 32, 112, 108, 97, 110, 32, 118, 101, 114, 98,
  10, 115, 112, 101, 108, 108, 32, 121, 43, 32, 105, 43, 101, 32, 67, 32, 115, 10, 115, 112, 101, 108, 108, 32, 110, 43, 32, 110, 110, 43, 32, 86, 32, 101, 100, 10, 108, 105, 110,
  107, 32, 110, 111, 117, 110, 32, 45, 32, 110, 117, 109, 61, 115, 103, 10])], m 6 7, ex 8 6 0, ex 9 6 1, ex 10 6 2, o 1 (.nw [(.str []), (.slice .nil 2 []), (.slice .nil 2 []),
  (.slice .nil 4 []), (.slice .nil 4 []), (.slice .nil 3 [])] t_api_Lexicon), n (.st 6 (t 1) (t 8)), m 2 9, m 3 10]) (Q (O [la 12 6 1, k 13 (f f_morph_Form) [(t 12), (i 0), (i 1)], m
  11 13, ex 14 11 0, ex 15 11 1, m 4 14, m 5 15]) (Q (O [m 16 3, o 17 (.ar .eql (t 16) (u 0)), m 18 17, g 19 18 (.mv (t 5)), g 20 18 (.ar .eql (t 19) (u 0)), o 21 (.pk (t 18) (t 20)
  F), m 22 21, g 23 22 (.mv (t 4)), g 24 22 (.ar .eql (t 23) (s [99, 105, 116, 105, 101, 115])), o 25 (.pk (t 22) (t 24) F), m 0 25]) R))))
def ka_truchmanlaw02_lives : AFn := ⟨kc_truchmanlaw02_lives, 26, [.t 0], .keep, [], none⟩
def kc_morph_Subsumes : AC :=
  (Q (O [o 3 (.bx t_sl_api_Feat (t 1)), mc 4 F]) (Q (O [m 5 0, o 6 (.mf (.func f_morph_Subsumes_1) [] [(t 3)]), k 7 (f f_slices_ContainsFunc_api_Feat_api_Feat) [(t 5), (t 6)], no 8 7,
  m 4 8]) R))
def ka_morph_Subsumes : AFn := ⟨kc_morph_Subsumes, 9, [.t 4], .keep, [], none⟩
def kc_strings_Split : AC :=
  (Q (O [mc 4 (.c (.slice .nil 1 []))]) (Q (O [m 5 0, m 6 1, k 7 (f f_strings_genSplit) [(t 5), (t 6), (i 0), (i (-1))], m 4 7]) R))
def ka_strings_Split : AFn := ⟨kc_strings_Split, 8, [.t 4], .keep, [], none⟩
def l_kmorph_reader_read_0 : AC :=
  (Q (O [bl 26 25 24]) (Q (C 26 X (.exit 0)) (Q (.block 1 (Q (O [ia 27 1 23 25, ld 28 27, m 9 28]) (O [m 29 9, o 30 (.ar .neq (t 29) (s [])), k 31 (f f_morph_demand) [(t 30)]]))) (O
  [ad 32 25, m 25 32]))))
def kb_morph_reader_read : AC :=
  (Q (O [m 11 1, k 12 (f f_strings_Split) [(t 11), (s [32])], m 5 12]) (Q (D [W (k 14 (f f_morph_kinds) []), P (m 15 5), P (o 16 (.ias 1 (t 15) (i 0))), W (ld 17 16), W (o 18 (.lk
  .str (some (.agg [(.int .i64 0), (.int .i64 0), (.bool false), .nilfn])) true (t 14) (t 17))), P (m 13 18), P (ex 19 13 0), P (ex 20 13 1), K (o 6 (.nw [(.int .i64 0), (.int .i64
  0), (.bool false), .nilfn] t_morph_kind)), E (n (.st 4 (t 6) (t 19))), P (m 7 20)]) (Q (O [m 21 7, k 22 (f f_morph_demand) [(t 21)]]) (Q (Q (O [m 23 5, ls 24 23, mc 25 (i 0)])
  (.block 0 (.loop ⟨none, [], false⟩ l_kmorph_reader_read_0))) (Q (O [m 33 5, o 34 (.sll 1 (t 33) (some (i 1)) none none), m 5 34]) (Q (O [m 35 5, ls 36 35, fa 37 1 6, ld 38 37, o 39
  (.ar .geq (t 36) (t 38)), m 40 39, g 41 40 (.fa 2 (t 6)), g 42 40 (.ld none (t 41)), g 43 40 (.mv (t 42)), h 44 43 (.mv (t 5)), h 45 43 (.len .sl (t 44)), h 46 43 (.fa 1 (t 6)), h
  47 43 (.ld none (t 46)), h 48 43 (.ar .eql (t 45) (t 47)), g 49 40 (.pk (t 43) T (t 48)), o 50 (.pk (t 40) (t 49) F), k 51 (f f_morph_demand) [(t 50)]]) (Q (D [P (m 52 0), P (o 53
  (.nc (t 52))), P (fa 54 6 53), W (ld 55 54), P (o 56 (.ar .eql (t 55) (s []))), P (fa 57 0 6), W (ld 58 57), P (o 59 (.ar .eql (t 58) (i 0))), P (o 60 (.eq false .bool (t 56) (t
  59))), P (m 61 60), P (g 62 61 (.fa 0 (t 6))), W (g 63 61 (.ld none (t 62))), P (g 64 61 (.mv (t 0))), P (g 65 61 (.nc (t 64))), P (g 66 61 (.fa 7 (t 65))), W (g 67 61 (.ld none (t
  66))), P (g 68 61 (.ar .geq (t 63) (t 67))), P (o 69 (.pk (t 61) (t 68) F)), E (k 70 (f f_morph_demand) [(t 69)])]) (Q (O [fa 71 3 6, ld 72 71, m 73 0, m 74 5, k 75 (t 72) [(t 73),
  (t 74)]]) (Q (.dops true [] [] [P (m 76 0), P (m 77 0), P (m 78 1), W (k 79 (f f_strings_SplitN) [(t 78), (s [32]), (i 2)]), P (o 80 (.ias 1 (t 79) (i 0))), W (ld 81 80), P (fa 82 0
  6), W (ld 83 82), P (o 84 (.nc (t 76))), P (fa 85 6 84), K (n (.st 1 (t 85) (t 81))), P (o 86 (.nc (t 77))), P (fa 87 7 86), K (n (.st 1 (t 87) (t 83)))]) (Q (O [n (.st 1 (t 4) T)])
  R))))))))))
def kc_morph_reader_read : AC :=
  (O [o 4 (.nw [(.bool false)] t_bool)])
def ka_morph_reader_read : AFn := ⟨kc_morph_reader_read, 88, [.cell 4 none], .keep, [], (some ([⟨(some 10), none, (.op (.mf (.func f_morph_reader_read_1) [] [(.t 4)]))⟩], (.t 10), kb_morph_reader_read))⟩
def kc_morph_Check : AC :=
  (Q (O [o 1 (.bx t_api_Lexicon (t 0)), mc 2 (u 0)]) (Q (O [la 4 6 1, o 5 (.bd [(.str []), (.slice .nil 2 []), (.slice .nil 2 []), (.slice .nil 4 []), (.slice .nil 4 []), (.slice .nil
  3 [])] [(0, 6)] [(0, (t 4))]), o 3 (.nw [(.str []), (.slice .nil 2 []), (.slice .nil 2 []), (.slice .nil 4 []), (.slice .nil 4 []), (.slice .nil 3 [])] t_morph_checker), n (.st 6 (t
  3) (t 5))]) (Q (O [la 6 6 3, o 7 (.mf (.func f_morph_checker_vowels) [(t 6)] []), o 8 (.mf (.func f_morph_Check_1) [] [(t 1), (t 3)]), o 9 (.mf (.func f_morph_Check_2) [] [(t 1), (t
  3)]), o 10 (.mf (.func f_morph_Check_3) [] [(t 1), (t 3)]), o 11 (.mf (.func f_morph_Check_4) [] [(t 1), (t 3)]), o 12 (.mf (.func f_morph_Check_5) [] [(t 1), (t 3)]), o 13 (.bs 1
  [.nilfn] 6 [(0, (t 7)), (1, (t 8)), (2, (t 9)), (3, (t 10)), (4, (t 11)), (5, (t 12))]), k 14 (f f_morph_first) [(t 13)], m 2 14]) R)))
def ka_morph_Check : AFn := ⟨kc_morph_Check, 15, [.t 2], .keep, [], none⟩
def kc_morph_asked : AC :=
  (Q (O [o 3 (.bx t_api_Lexicon (t 0)), o 6 (.nw [(.str []), (.slice .nil 2 []), (.slice .nil 2 []), (.slice .nil 4 []), (.slice .nil 4 []), (.slice .nil 3 [])] t_morph_language), o 7
  (.nw [(.int .i64 0), (.str []), (.str []), (.slice .nil 2 [])] t_api_Slot), mc 8 (u 0)]) (Q (Q (O [la 13 6 3, k 14 (f f_morph_Check) [(t 13)], m 9 14]) (Q (O [m 15 9, o 16 (.ar .neq
  (t 15) (u 0))]) (C 16 (Q (O [o 17 (.bd [(.str []), (.slice .nil 2 []), (.slice .nil 2 []), (.slice .nil 4 []), (.slice .nil 4 []), (.slice .nil 3 [])] [(0, 6)] []), o 18 (.bd [(.int
  .i64 0), (.str []), (.str []), (.slice .nil 2 [])] [(0, 1), (1, 1), (2, 1), (3, 1)] []), m 19 9, n (.st 6 (t 6) (t 17)), n (.st 4 (t 7) (t 18)), m 8 19]) R) X))) (Q (O [la 20 6 3, o
  21 (.bd [(.str []), (.slice .nil 2 []), (.slice .nil 2 []), (.slice .nil 4 []), (.slice .nil 4 []), (.slice .nil 3 [])] [(0, 6)] [(0, (t 20))]), o 10 (.nw [(.str []), (.slice .nil 2
  []), (.slice .nil 2 []), (.slice .nil 4 []), (.slice .nil 4 []), (.slice .nil 3 [])] t_morph_language), n (.st 6 (t 10) (t 21))]) (Q (O [la 23 6 10, m 24 1, m 25 2, k 26 (f
  f_morph_language_slot) [(t 23), (t 24), (t 25)], m 22 26, ex 27 22 0, ex 28 22 1, o 11 (.nw [(.int .i64 0), (.str []), (.str []), (.slice .nil 2 [])] t_api_Slot), n (.st 4 (t 11) (t
  27)), m 12 28]) (Q (Q (O [m 29 12, no 30 29]) (C 30 (Q (O [o 31 (.bd [(.str []), (.slice .nil 2 []), (.slice .nil 2 []), (.slice .nil 4 []), (.slice .nil 4 []), (.slice .nil 3 [])]
  [(0, 6)] []), o 32 (.bd [(.int .i64 0), (.str []), (.str []), (.slice .nil 2 [])] [(0, 1), (1, 1), (2, 1), (3, 1)] []), n (.st 6 (t 6) (t 31)), n (.st 4 (t 7) (t 32)), mc 8 (u 7)])
  R) X)) (Q (.dops true [] [] [W (la 33 6 10), W (la 34 4 11), K (n (.st 6 (t 6) (t 33))), K (n (.st 4 (t 7) (t 34))), P (mc 8 (u 0))]) R))))))
def ka_morph_asked : AFn := ⟨kc_morph_asked, 35, [.cell 6 (some 6), .cell 7 (some 4), .t 8], .keep, [], none⟩
def l_kmorph_language_steps_0 : AC :=
  (Q (O [bl 29 28 27]) (Q (C 29 X (.exit 0)) (Q (.block 1 (Q (O [ia 30 4 26 28, la 31 4 30, o 12 (.nw [(.str []), (.str []), (.str []), (.str [])] t_api_Spell), n (.st 4 (t 12) (t
  31))]) (Q (Q (O [la 33 6 3, la 34 4 12, m 35 8, k 36 (f f_morph_language_spell) [(t 33), (t 34), (t 35)], m 32 36, ex 37 32 0, ex 38 32 1, m 8 37, m 9 38]) (Q (O [m 39 9, no 40 39])
  (C 40 (Q (O [mc 6 (.c (.slice .nil 1 [])), mc 7 F]) R) X))) (O [m 41 10, m 42 8, o 43 (.bs 1 [(.str [])] 1 [(0, (t 42))]), o 44 (.ap false t_string 1 16 false (t 41) (t 43)), m 10
  44])))) (O [ad 45 28, m 28 45]))))
def kc_morph_language_steps : AC :=
  (Q (O [o 3 (.bx t_morph_language (t 0)), o 5 (.bx t_api_Slot (t 2)), mc 6 (.c (.slice .nil 1 [])), mc 7 F]) (Q (O [la 14 6 3, m 15 1, la 16 4 5, k 17 (f f_morph_language_underlying)
  [(t 14), (t 15), (t 16)], m 13 17, ex 18 13 0, ex 19 13 1, m 8 18, m 9 19]) (Q (Q (O [m 20 9, no 21 20]) (C 21 (Q (O [mc 6 (.c (.slice .nil 1 [])), mc 7 F]) R) X)) (Q (O [m 22 8, o
  23 (.bs 1 [(.str [])] 1 [(0, (t 22))]), m 10 23]) (Q (Q (O [fa 24 0 3, fa 25 4 24, ld 26 25, ls 27 26, mc 28 (i 0)]) (.block 0 (.loop ⟨none, [], false⟩ l_kmorph_language_steps_0)))
  (Q (O [m 46 10, m 6 46, mc 7 T]) R))))))
def ka_morph_language_steps : AFn := ⟨kc_morph_language_steps, 47, [.t 6, .t 7], .keep, [], none⟩
def l_kmorph_language_form_0 : AC :=
  (Q (O [bl 23 22 21]) (Q (C 23 X (.exit 0)) (Q (.block 1 (Q (O [ia 24 2 20 22, la 25 2 24, o 8 (.nw [(.int .i64 0), (.str [])] t_api_Irregular), n (.st 2 (t 8) (t 25))]) (Q (O [fa 26
  0 8, ld 27 26, m 28 2, o 29 (.ar .eql (t 27) (t 28))]) (C 29 (Q (O [fa 30 1 8, ld 31 30, m 6 31]) R) X)))) (O [ad 32 22, m 22 32]))))
def kc_morph_language_form : AC :=
  (Q (O [o 3 (.bx t_morph_language (t 0)), mc 6 (s [])]) (Q (Q (O [fa 14 0 3, fa 15 3 14, ld 16 15, m 17 1, ia 18 4 16 17, fa 19 3 18, ld 20 19, ls 21 20, mc 22 (i 0)]) (.block 0
  (.loop ⟨none, [], false⟩ l_kmorph_language_form_0))) (Q (O [la 34 6 3, m 35 1, m 36 2, k 37 (f f_morph_language_slot) [(t 34), (t 35), (t 36)], m 33 37, ex 38 33 0, ex 39 33 1, o 9
  (.nw [(.int .i64 0), (.str []), (.str []), (.slice .nil 2 [])] t_api_Slot), n (.st 4 (t 9) (t 38)), m 10 39]) (Q (O [la 41 6 3, m 42 1, la 43 4 9, k 44 (f f_morph_language_steps)
  [(t 41), (t 42), (t 43)], m 40 44, ex 45 40 0, ex 46 40 1, m 11 45, m 12 46]) (Q (Q (O [m 47 12, no 48 47]) (C 48 (Q (O [mc 6 (s [])]) R) X)) (Q (O [m 49 11, m 50 11, ls 51 50, o 52
  (.ar .sub (t 51) (i 1)), ia 53 1 49 52, ld 54 53, k 55 (f f_strings_ReplaceAll) [(t 54), (s [43]), (s [])], m 13 55]) (Q (Q (O [m 56 13, lt 57 56, o 58 (.ar .gtr (t 57) (i 24))]) (C
  58 (Q (O [mc 6 (s [])]) R) X)) (Q (O [m 59 13, m 6 59]) R))))))))
def ka_morph_language_form : AFn := ⟨kc_morph_language_form, 60, [.t 6], .keep, [], none⟩
def l_kmorph_language_analyze_0 : AC :=
  (Q (O [o 15 (.ar .lss (t 14) (i 3))]) (Q (C 15 X (.exit 0)) (Q (.block 1 (Q (O [m 16 14, m 8 16]) (O [m 17 7, m 18 5, m 19 6, m 20 1, m 21 8, k 22 (f f_morph_analyses) [(t 18), (t
  19), (t 20), (t 21), (.c (.slice .nil 3 []))], o 23 (.ap false t_api_Analysis 3 40 false (t 17) (t 22)), m 7 23]))) (O [ad 24 14, m 14 24]))))
def kc_morph_language_analyze : AC :=
  (Q (O [o 2 (.bx t_morph_language (t 0)), mc 4 (.c (.slice .nil 3 []))]) (Q (O [la 9 6 2, k 10 (f f_morph_language_shapes) [(t 9)], m 5 10]) (Q (O [la 11 6 2, m 12 5, k 13 (f
  f_morph_language_openings) [(t 11), (t 12)], m 6 13]) (Q (O [mc 7 (.c (.slice .nil 3 []))]) (Q (Q (O [mc 14 (i 0)]) (.block 0 (.loop ⟨none, [], false⟩ l_kmorph_language_analyze_0)))
  (Q (O [m 25 7, m 4 25]) R))))))
def ka_morph_language_analyze : AFn := ⟨kc_morph_language_analyze, 26, [.t 4], .keep, [], none⟩
def kc_morph_Bundle : AC :=
  (Q (O [o 2 (.bx t_api_Lexicon (t 0)), mc 4 (u 0)]) (Q (Q (O [la 6 6 2, k 7 (f f_morph_Check) [(t 6)], m 5 7]) (Q (O [m 8 5, o 9 (.ar .neq (t 8) (u 0))]) (C 9 (Q (O [m 10 5, m 4 10])
  R) X))) (Q (O [la 11 6 2, o 12 (.bd [(.str []), (.slice .nil 2 []), (.slice .nil 2 []), (.slice .nil 4 []), (.slice .nil 4 []), (.slice .nil 3 [])] [(0, 6)] [(0, (t 11))]), m 13 1,
  k 14 (f f_morph_checker_bundle) [(t 12), (t 13)], m 4 14]) R)))
def ka_morph_Bundle : AFn := ⟨kc_morph_Bundle, 15, [.t 4], .keep, [], none⟩
def kc_morph_language_slots : AC :=
  (Q (O [o 2 (.bx t_morph_language (t 0)), mc 4 (i 0)]) (Q (D [P (fa 8 0 2), W (la 9 6 8), P (fa 10 0 2), P (fa 11 3 10), W (ld 12 11), P (m 13 1), P (ia 14 4 12 13), P (fa 15 1 14),
  W (ld 16 15), W (k 17 (f f_morph_classOf) [(t 9), (t 16)]), P (m 7 17), P (ex 18 7 0), P (ex 19 7 1), K (o 5 (.nw [(.str []), (.slice .nil 4 [])] t_api_Class)), E (n (.st 2 (t 5) (t
  18))), P (m 6 19)]) (Q (O [fa 20 1 5, ld 21 20, ls 22 21, m 4 22]) R)))
def ka_morph_language_slots : AFn := ⟨kc_morph_language_slots, 23, [.t 4], .keep, [], none⟩
def kc_morph_language_slot : AC :=
  (Q (O [o 3 (.bx t_morph_language (t 0)), o 6 (.nw [(.int .i64 0), (.str []), (.str []), (.slice .nil 2 [])] t_api_Slot), mc 7 F]) (Q (Q (O [m 10 1, o 11 (.ar .lss (t 10) (i 0)), m
  12 11, h 13 12 (.mv (t 1)), h 14 12 (.fa 0 (t 3)), h 15 12 (.fa 3 (t 14)), h 16 12 (.ld none (t 15)), h 17 12 (.len .sl (t 16)), h 18 12 (.ar .geq (t 13) (t 17)), o 19 (.pk (t 12) T
  (t 18))]) (C 19 (Q (O [o 20 (.bd [(.int .i64 0), (.str []), (.str []), (.slice .nil 2 [])] [(0, 1), (1, 1), (2, 1), (3, 1)] []), n (.st 4 (t 6) (t 20)), mc 7 F]) R) X)) (Q (D [P (fa
  22 0 3), W (la 23 6 22), P (fa 24 0 3), P (fa 25 3 24), W (ld 26 25), P (m 27 1), P (ia 28 4 26 27), P (fa 29 1 28), W (ld 30 29), W (k 31 (f f_morph_classOf) [(t 23), (t 30)]), P
  (m 21 31), P (ex 32 21 0), P (ex 33 21 1), K (o 8 (.nw [(.str []), (.slice .nil 4 [])] t_api_Class)), E (n (.st 2 (t 8) (t 32))), P (m 9 33)]) (Q (Q (O [m 34 2, o 35 (.ar .lss (t
  34) (i 0)), m 36 35, h 37 36 (.mv (t 2)), h 38 36 (.fa 1 (t 8)), h 39 36 (.ld none (t 38)), h 40 36 (.len .sl (t 39)), h 41 36 (.ar .geq (t 37) (t 40)), o 42 (.pk (t 36) T (t 41))])
  (C 42 (Q (O [o 43 (.bd [(.int .i64 0), (.str []), (.str []), (.slice .nil 2 [])] [(0, 1), (1, 1), (2, 1), (3, 1)] []), n (.st 4 (t 6) (t 43)), mc 7 F]) R) X)) (Q (O [fa 44 1 8, ld
  45 44, m 46 2, ia 47 4 45 46, la 48 4 47, n (.st 4 (t 6) (t 48)), mc 7 T]) R)))))
def ka_morph_language_slot : AFn := ⟨kc_morph_language_slot, 49, [.cell 6 (some 4), .t 7], .keep, [], none⟩
def kc_morph_language_feats : AC :=
  (Q (O [o 3 (.bx t_morph_language (t 0)), o 5 (.bx t_api_Slot (t 2)), mc 6 (.c (.slice .nil 2 []))]) (Q (D [P (fa 7 0 3), P (fa 8 3 7), W (ld 9 8), P (m 10 1), P (ia 11 4 9 10), P
  (fa 12 2 11), W (ld 13 12), P (fa 14 3 5), W (ld 15 14), E (k 16 (f f_morph_union) [(t 13), (t 15)]), P (m 6 16)]) R))
def ka_morph_language_feats : AFn := ⟨kc_morph_language_feats, 17, [.t 6], .keep, [], none⟩
def kc_slices_Contains_string_string : AC :=
  (Q (O [mc 4 F]) (Q (O [m 5 0, m 6 1, k 7 (f f_slices_Index_string_string) [(t 5), (t 6)], o 8 (.ar .geq (t 7) (i 0)), m 4 8]) R))
def ka_slices_Contains_string_string : AFn := ⟨kc_slices_Contains_string_string, 9, [.t 4], .keep, [], none⟩
def l_kmorph_all_0 : AC :=
  (Q (O [bl 9 8 7]) (Q (C 9 X (.exit 0)) (Q (.block 1 (Q (O [m 10 8, m 5 10]) (Q (O [m 11 1, m 12 0, m 13 5, o 14 (.ixs (t 12) (t 13)), k 15 (t 11) [(t 14)], no 16 15]) (C 16 (Q (O
  [mc 4 F]) R) X)))) (O [ad 17 8, m 8 17]))))
def kc_morph_all : AC :=
  (Q (O [mc 4 F]) (Q (Q (O [m 6 0, lt 7 6, mc 8 (i 0)]) (.block 0 (.loop ⟨none, [], false⟩ l_kmorph_all_0))) (Q (O [mc 4 T]) R)))
def ka_morph_all : AFn := ⟨kc_morph_all, 18, [.t 4], .keep, [], none⟩
def kc_morph_symbol : AC :=
  (Q (O [mc 2 F]) (Q (O [m 3 0, k 4 (f f_morph_letter) [(t 3)], m 5 4, h 6 5 (.mv (t 0)), h 7 5 (.ar .eql (t 6) (u 43)), o 8 (.pk (t 5) T (t 7)), m 2 8]) R))
def ka_morph_symbol : AFn := ⟨kc_morph_symbol, 9, [.t 2], .keep, [], none⟩
def l_kmorph_language_spell_0 : AC :=
  (Q (Q (O [m 10 9, m 11 2, lt 12 11, bl 13 10 12]) (C 13 X (.exit 0))) (.block 1 (Q (D [P (m 14 2), P (m 15 9), P (o 16 (.sls (t 14) (some (t 15)) none)), P (fa 17 0 4), W (ld 18
  17), E (k 19 (f f_strings_HasPrefix) [(t 16), (t 18)]), P (m 20 19), W (g 21 20 (.ld (some 6) (t 3))), P (g 22 20 (.fa 2 (t 4))), W (g 23 20 (.ld none (t 22))), P (g 24 20 (.mv (t
  2))), P (g 25 20 (.mv (t 9))), E (⟨(some 26), (some (20, true)), (.call (.c (.fn (.func f_morph_language_left) [] [])) [(.t 21), (.t 23), (.t 24), (.t 25)])⟩), P (o 27 (.pk (t 20)
  (t 26) F)), P (m 28 27), W (g 29 28 (.ld (some 6) (t 3))), P (g 30 28 (.fa 3 (t 4))), W (g 31 28 (.ld none (t 30))), P (g 32 28 (.mv (t 2))), P (g 33 28 (.mv (t 9))), P (g 34 28
  (.fa 0 (t 4))), W (g 35 28 (.ld none (t 34))), W (g 36 28 (.len .str (t 35))), P (g 37 28 (.ar .add (t 33) (t 36))), E (⟨(some 38), (some (28, true)), (.call (.c (.fn (.func
  f_morph_language_right) [] [])) [(.t 29), (.t 31), (.t 32), (.t 37)])⟩), P (o 39 (.pk (t 28) (t 38) F))]) (C 39 (Q (O [fa 40 1 4, ld 41 40, k 42 (f f_strings_Builder_WriteString)
  [(t 8), (t 41)]]) (O [m 43 9, fa 44 0 4, ld 45 44, lt 46 45, o 47 (.ar .add (t 43) (t 46)), m 9 47])) (Q (O [m 48 2, m 49 9, o 50 (.ixs (t 48) (t 49)), k 51 (f
  f_strings_Builder_WriteByte) [(t 8), (t 50)]]) (O [m 52 9, ad 53 52, m 9 53]))))))
def kc_morph_language_spell : AC :=
  (Q (O [o 3 (.bx t_morph_language (t 0)), o 4 (.bx t_api_Spell (t 1)), mc 6 (s []), mc 7 F]) (Q (O [o 8 (.nwb [.nilp, (.slice .nil 1 [])] t_strings_Builder 1 t_uint8)]) (Q (Q (O [mc
  9 (i 0)]) (.block 0 (.loop ⟨none, [], false⟩ l_kmorph_language_spell_0))) (Q (O [k 54 (f f_strings_Builder_String) [(t 8)], k 55 (f f_strings_Builder_Len) [(t 8)], o 56 (.ar .leq (t
  55) (i 512)), m 6 54, m 7 56]) R))))
def ka_morph_language_spell : AFn := ⟨kc_morph_language_spell, 57, [.t 6, .t 7], .keep, [], none⟩
def l_kmorph_increasing_0 : AC :=
  (Q (Q (O [m 4 3, m 5 0, ls 6 5, bl 7 4 6]) (C 7 X (.exit 0))) (Q (.block 1 (Q (D [P (m 10 0), P (m 11 3), P (o 12 (.ar .sub (t 11) (i 1))), P (ia 13 2 10 12), P (fa 14 0 13), W (ld
  15 14), P (m 16 0), P (m 17 3), P (ia 18 2 16 17), P (fa 19 0 18), W (ld 20 19), P (o 21 (.ar .geq (t 15) (t 20)))]) (C 21 (Q (O [mc 2 F]) R) X))) (O [m 8 3, ad 9 8, m 3 9])))
def kc_morph_increasing : AC :=
  (Q (O [mc 2 F]) (Q (Q (O [mc 3 (i 1)]) (.block 0 (.loop ⟨none, [], false⟩ l_kmorph_increasing_0))) (Q (O [mc 2 T]) R)))
def ka_morph_increasing : AFn := ⟨kc_morph_increasing, 22, [.t 2], .keep, [], none⟩
def kc_morph_clash : AC :=
  (Q (O [o 3 (.bx t_sl_api_Feat (t 1)), mc 4 F]) (Q (O [m 5 0, o 6 (.mf (.func f_morph_clash_1) [] [(t 3)]), k 7 (f f_slices_ContainsFunc_api_Feat_api_Feat) [(t 5), (t 6)], m 4 7])
  R))
def ka_morph_clash : AFn := ⟨kc_morph_clash, 8, [.t 4], .keep, [], none⟩
def kc_morph_union : AC :=
  (Q (O [mc 4 (.c (.slice .nil 2 []))]) (Q (O [m 6 0, m 7 1, o 8 (.bs 1 [(.slice .nil 0 [])] 2 [(0, (t 6)), (1, (t 7))]), k 9 (f f_slices_Concat_api_Feat_api_Feat) [(t 8)], m 5 9]) (Q
  (O [m 10 5, k 11 (f f_slices_SortFunc_api_Feat_api_Feat) [(t 10), (f f_morph_union_1)]]) (Q (O [m 12 5, k 13 (f f_slices_Compact_api_Feat_api_Feat) [(t 12)], m 4 13]) R))))
def ka_morph_union : AFn := ⟨kc_morph_union, 14, [.t 4], .keep, [], none⟩
def kc_morph_Name_1 : AC :=
  (Q (O [mc 2 F]) (Q (O [m 3 0, k 4 (f f_morph_letter) [(t 3)], m 5 4, h 6 5 (.mv (t 0)), h 7 5 (.ar .geq (t 6) (u 65)), h 8 5 (.mv (t 7)), g 9 8 (.mv (t 0)), g 10 8 (.ar .leq (t 9)
  (u 90)), h 11 5 (.pk (t 8) (t 10) F), o 12 (.pk (t 5) T (t 11)), m 2 12]) R))
def ka_morph_Name_1 : AFn := ⟨kc_morph_Name_1, 13, [.t 2], .keep, [], none⟩
def kc_morph_letter : AC :=
  (Q (O [mc 2 F]) (Q (O [m 3 0, o 4 (.ar .geq (t 3) (u 97)), m 5 4, g 6 5 (.mv (t 0)), g 7 5 (.ar .leq (t 6) (u 122)), o 8 (.pk (t 5) (t 7) F), m 2 8]) R))
def ka_morph_letter : AFn := ⟨kc_morph_letter, 9, [.t 2], .keep, [], none⟩
def kc_morph_Name_2 : AC :=
  (Q (O [mc 3 F]) (Q (O [ld 4 1, m 5 0, k 6 (t 4) [(t 5)], m 7 6, h 8 7 (.mv (t 0)), h 9 7 (.ar .geq (t 8) (u 48)), h 10 7 (.mv (t 9)), g 11 10 (.mv (t 0)), g 12 10 (.ar .leq (t 11)
  (u 57)), h 13 7 (.pk (t 10) (t 12) F), o 14 (.pk (t 7) T (t 13)), m 15 14, h 16 15 (.mv (t 0)), h 17 15 (.ar .eql (t 16) (u 95)), o 18 (.pk (t 15) T (t 17)), m 3 18]) R))
def ka_morph_Name_2 : AFn := ⟨kc_morph_Name_2, 19, [.t 3], .keep, [], none⟩
def kc_morph_Word_1 : AC :=
  (Q (O [mc 2 F]) (Q (O [m 3 0, o 4 (.ar .geq (t 3) (u 33)), m 5 4, g 6 5 (.mv (t 0)), g 7 5 (.ar .leq (t 6) (u 126)), o 8 (.pk (t 5) (t 7) F), m 2 8]) R))
def ka_morph_Word_1 : AFn := ⟨kc_morph_Word_1, 9, [.t 2], .keep, [], none⟩
def kc_slices_ContainsFunc_api_Feat_api_Feat : AC :=
  (Q (O [mc 4 F]) (Q (O [m 5 0, m 6 1, k 7 (f f_slices_IndexFunc_api_Feat_api_Feat) [(t 5), (t 6)], o 8 (.ar .geq (t 7) (i 0)), m 4 8]) R))
def ka_slices_ContainsFunc_api_Feat_api_Feat : AFn := ⟨kc_slices_ContainsFunc_api_Feat_api_Feat, 9, [.t 4], .keep, [], none⟩
def kc_morph_Subsumes_1 : AC :=
  (Q (O [o 2 (.bx t_api_Feat (t 0)), mc 3 F]) (Q (O [ld 4 1, la 5 2 2, k 6 (f f_slices_Contains_api_Feat_api_Feat) [(t 4), (t 5)], no 7 6, m 3 7]) R))
def ka_morph_Subsumes_1 : AFn := ⟨kc_morph_Subsumes_1, 8, [.t 3], .keep, [], none⟩
def kc_slices_Contains_api_Feat_api_Feat : AC :=
  (Q (O [o 3 (.bx t_api_Feat (t 1)), mc 4 F]) (Q (O [m 5 0, la 6 2 3, k 7 (f f_slices_Index_api_Feat_api_Feat) [(t 5), (t 6)], o 8 (.ar .geq (t 7) (i 0)), m 4 8]) R))
def ka_slices_Contains_api_Feat_api_Feat : AFn := ⟨kc_slices_Contains_api_Feat_api_Feat, 9, [.t 4], .keep, [], none⟩
def l_kstrings_genSplit_0 : AC :=
  (Q (Q (O [m 34 10, m 35 3, bl 36 34 35]) (C 36 X (.exit 0))) (.block 1 (Q (O [m 37 0, m 38 1, k 39 (f f_strings_Index) [(t 37), (t 38)], m 11 39]) (Q (Q (O [m 40 11, o 41 (.ar .lss
  (t 40) (i 0))]) (C 41 (.exit 0) X)) (Q (O [m 42 9, m 43 10, m 44 0, m 45 11, m 46 2, o 47 (.ar .add (t 45) (t 46)), o 48 (.sls (t 44) none (some (t 47))), ia 49 1 42 43, n (.st 1 (t
  49) (t 48))]) (Q (O [m 50 0, m 51 11, m 52 1, lt 53 52, o 54 (.ar .add (t 51) (t 53)), o 55 (.sls (t 50) (some (t 54)) none), m 0 55]) (O [m 56 10, ad 57 56, m 10 57])))))))
def kc_strings_genSplit : AC :=
  (Q (O [mc 8 (.c (.slice .nil 1 []))]) (Q (Q (O [m 12 3, o 13 (.ar .eql (t 12) (i 0))]) (C 13 (Q (O [mc 8 (.c (.slice .nil 1 []))]) R) X)) (Q (Q (O [m 14 1, o 15 (.ar .eql (t 14) (s
  []))]) (C 15 (Q (O [m 16 0, m 17 3, k 18 (f f_strings_explode) [(t 16), (t 17)], m 8 18]) R) X)) (Q (Q (O [m 19 3, o 20 (.ar .lss (t 19) (i 0))]) (C 20 (O [m 21 0, m 22 1, k 23 (f
  f_strings_Count) [(t 21), (t 22)], ad 24 23, m 3 24]) X)) (Q (O [m 25 3, m 26 0, lt 27 26, ad 28 27, o 29 (.mn (t 25) (t 28)), m 3 29]) (Q (O [m 30 3, o 31 (.ms t_string 16 [(.str
  [])] (t 30) (t 30)), m 9 31]) (Q (O [m 32 3, o 33 (.ar .sub (t 32) (i 1)), m 3 33]) (Q (O [mc 10 (i 0)]) (Q (.block 0 (.loop ⟨none, [], false⟩ l_kstrings_genSplit_0)) (Q (O [m 58 9,
  m 59 10, m 60 0, ia 61 1 58 59, n (.st 1 (t 61) (t 60))]) (Q (O [m 62 9, m 63 10, ad 64 63, o 65 (.sll 1 (t 62) none (some (t 64)) none), m 8 65]) R)))))))))))
def ka_strings_genSplit : AFn := ⟨kc_strings_genSplit, 66, [.t 8], .keep, [], none⟩
-- FAIL fn63 morph_reader_read_1
def kdc_morph_reader_read_1 : AC :=
  (.block 0 (Q (O [o 6 (.eq false (.ifc true) (t 4) (.c .nilif))]) (C 6 (O [m 1 4]) (Q (O [o 7 (.ta t_morph_wrong (some (.agg [])) true (t 4)), ex 8 7 1, ex 9 7 0]) (C 8 (Q (O [o 2
  (.nw [] t_morph_wrong), n (.st 0 (t 2) (t 9))]) (O [n (.st 1 (t 0) F)])) (Q (O [m 3 4]) (O [m 5 3, ⟨none, none, (.panic (.t 5))⟩])))))))
def kda_morph_reader_read_1 : AFn := ⟨kdc_morph_reader_read_1, 10, [], .keep, [], none⟩
def kc_morph_kinds : AC :=
  (Q (O [mc 0 (.c .nilmap)]) (Q (O [o 1 .mm, o 2 (.bd [(.int .i64 0), (.int .i64 0), (.bool false), .nilfn] [(0, 1), (1, 1), (2, 1), (3, 1)] [(0, (i 0)), (1, (i 1)), (2, F), (3, (f
  f_morph_kinds_1))]), n (.mu .str (t 1) (s [118, 111, 119, 101, 108, 115]) (t 2)), o 3 (.bd [(.int .i64 0), (.int .i64 0), (.bool false), .nilfn] [(0, 1), (1, 1), (2, 1), (3, 1)]
  [(0, (i 1)), (1, (i 1)), (2, T), (3, (f f_morph_kinds_2))]), n (.mu .str (t 1) (s [116, 114, 97, 105, 116]) (t 3)), o 4 (.bd [(.int .i64 0), (.int .i64 0), (.bool false), .nilfn]
  [(0, 1), (1, 1), (2, 1), (3, 1)] [(0, (i 2)), (1, (i 1)), (2, F), (3, (f f_morph_kinds_3))]), n (.mu .str (t 1) (s [99, 108, 97, 115, 115]) (t 4)), o 5 (.bd [(.int .i64 0), (.int
  .i64 0), (.bool false), .nilfn] [(0, 1), (1, 1), (2, 1), (3, 1)] [(0, (i 2)), (1, (i 3)), (2, T), (3, (f f_morph_kinds_4))]), n (.mu .str (t 1) (s [115, 108, 111, 116]) (t 5)), o 6
  (.bd [(.int .i64 0), (.int .i64 0), (.bool false), .nilfn] [(0, 1), (1, 1), (2, 1), (3, 1)] [(0, (i 3)), (1, (i 2)), (2, T), (3, (f f_morph_kinds_5))]), n (.mu .str (t 1) (s [101,
  110, 116, 114, 121]) (t 6)), o 7 (.bd [(.int .i64 0), (.int .i64 0), (.bool false), .nilfn] [(0, 1), (1, 1), (2, 1), (3, 1)] [(0, (i 3)), (1, (i 2)), (2, F), (3, (f
  f_morph_kinds_6))]), n (.mu .str (t 1) (s [102, 111, 114, 109]) (t 7)), o 8 (.bd [(.int .i64 0), (.int .i64 0), (.bool false), .nilfn] [(0, 1), (1, 1), (2, 1), (3, 1)] [(0, (i 4)),
  (1, (i 4)), (2, F), (3, (f f_morph_kinds_7))]), n (.mu .str (t 1) (s [115, 112, 101, 108, 108]) (t 8)), o 9 (.bd [(.int .i64 0), (.int .i64 0), (.bool false), .nilfn] [(0, 1), (1,
  1), (2, 1), (3, 1)] [(0, (i 5)), (1, (i 2)), (2, T), (3, (f f_morph_kinds_8))]), n (.mu .str (t 1) (s [108, 105, 110, 107]) (t 9)), m 10 1, m 0 10]) R))
def ka_morph_kinds : AFn := ⟨kc_morph_kinds, 11, [.t 0], .keep, [], none⟩
def kc_morph_demand : AC :=
  (Q (O [m 2 0, no 3 2]) (C 3 (O [o 4 (.bd [] [] []), o 5 (.mi t_morph_wrong (t 4)), ⟨none, none, (.panic (.t 5))⟩]) X))
def ka_morph_demand : AFn := ⟨kc_morph_demand, 6, [], .keep, [], none⟩
def kc_strings_SplitN : AC :=
  (Q (O [mc 6 (.c (.slice .nil 1 []))]) (Q (O [m 7 0, m 8 1, m 9 2, k 10 (f f_strings_genSplit) [(t 7), (t 8), (i 0), (t 9)], m 6 10]) R))
def ka_strings_SplitN : AFn := ⟨kc_strings_SplitN, 11, [.t 6], .keep, [], none⟩
def l_kmorph_first_0 : AC :=
  (Q (O [bl 9 8 7]) (Q (C 9 X (.exit 0)) (Q (.block 1 (Q (O [ia 10 1 6 8, ld 11 10, m 4 11]) (Q (O [m 12 4, k 13 (t 12) [], m 5 13]) (Q (O [m 14 5, o 15 (.ar .neq (t 14) (u 0))]) (C
  15 (Q (O [m 16 5, m 2 16]) R) X))))) (O [ad 17 8, m 8 17]))))
def kc_morph_first : AC :=
  (Q (O [mc 2 (u 0)]) (Q (Q (O [m 6 0, ls 7 6, mc 8 (i 0)]) (.block 0 (.loop ⟨none, [], false⟩ l_kmorph_first_0))) (Q (O [mc 2 (u 0)]) R)))
def ka_morph_first : AFn := ⟨kc_morph_first, 18, [.t 2], .keep, [], none⟩
def l_kmorph_checker_vowels_0 : AC :=
  (Q (O [bl 11 10 9]) (Q (C 11 X (.exit 0)) (Q (.block 1 (Q (O [m 12 10, m 4 12]) (Q (D [P (m 13 3), P (m 14 4), P (o 15 (.ixs (t 13) (t 14))), E (k 16 (f f_morph_letter) [(t 15)]), P
  (no 17 16), P (m 18 17), P (h 19 18 (.mv (t 4))), P (h 20 18 (.ar .gtr (t 19) (i 0))), P (h 21 18 (.mv (t 20))), P (g 22 21 (.mv (t 3))), P (g 23 21 (.mv (t 4))), P (g 24 21 (.ar
  .sub (t 23) (i 1))), P (g 25 21 (.ixs (t 22) (t 24))), P (g 26 21 (.mv (t 3))), P (g 27 21 (.mv (t 4))), P (g 28 21 (.ixs (t 26) (t 27))), P (g 29 21 (.ar .geq (t 25) (t 28))), P (h
  30 18 (.pk (t 21) (t 29) F)), P (o 31 (.pk (t 18) T (t 30)))]) (C 31 (Q (O [mc 2 (u 1)]) R) X)))) (O [ad 32 10, m 10 32]))))
def kc_morph_checker_vowels : AC :=
  (Q (O [o 1 (.bx t_morph_checker (t 0)), mc 2 (u 0)]) (Q (O [fa 5 0 1, fa 6 0 5, ld 7 6, m 3 7]) (Q (Q (O [m 8 3, lt 9 8, mc 10 (i 0)]) (.block 0 (.loop ⟨none, [], false⟩
  l_kmorph_checker_vowels_0))) (Q (O [mc 2 (u 0)]) R))))
def ka_morph_checker_vowels : AFn := ⟨kc_morph_checker_vowels, 33, [.t 2], .keep, [], none⟩
def kc_morph_Check_1 : AC :=
  (Q (O [mc 2 (u 0)]) (Q (O [fa 3 1 0, ld 4 3, la 5 6 1, o 6 (.mf (.func f_morph_checker_trait) [(t 5)] []), k 7 (f f_morph_each_api_Trait) [(t 4), (i 8), (t 6)], m 2 7]) R))
def ka_morph_Check_1 : AFn := ⟨kc_morph_Check_1, 8, [.t 2], .keep, [], none⟩
def l_kmorph_each_api_Trait_0 : AC :=
  (Q (O [bl 17 16 15]) (Q (C 17 X (.exit 0)) (Q (.block 1 (Q (O [m 18 16, ia 19 2 14 16, la 20 2 19, o 8 (.nw [(.str []), (.slice .nil 1 [])] t_api_Trait), m 7 18, n (.st 2 (t 8) (t
  20))]) (Q (O [m 21 2, m 22 7, la 23 2 8, k 24 (t 21) [(t 22), (t 23)], m 9 24]) (Q (O [m 25 9, o 26 (.ar .neq (t 25) (u 0))]) (C 26 (Q (O [m 27 9, m 6 27]) R) X))))) (O [ad 28 16, m
  16 28]))))
def kc_morph_each_api_Trait : AC :=
  (Q (O [mc 6 (u 0)]) (Q (Q (O [m 10 0, ls 11 10, m 12 1, o 13 (.ar .gtr (t 11) (t 12))]) (C 13 (Q (O [mc 6 (u 3)]) R) X)) (Q (Q (O [m 14 0, ls 15 14, mc 16 (i 0)]) (.block 0 (.loop
  ⟨none, [], false⟩ l_kmorph_each_api_Trait_0))) (Q (O [mc 6 (u 0)]) R))))
def ka_morph_each_api_Trait : AFn := ⟨kc_morph_each_api_Trait, 29, [.t 6], .keep, [], none⟩
def l_kmorph_checker_trait_0 : AC :=
  (Q (O [bl 36 35 34]) (Q (C 36 X (.exit 1)) (Q (.block 2 (Q (O [m 37 35, ia 38 1 33 35, ld 39 38, m 7 37, m 8 39]) (Q (Q (O [m 40 8, k 41 (f f_morph_Name) [(t 40)], no 42 41]) (C 42
  (Q (O [mc 6 (u 5)]) R) X)) (Q (O [fa 43 1 5, ld 44 43, m 45 7, o 46 (.sll 1 (t 44) none (some (t 45)) none), m 47 8, k 48 (f f_slices_Contains_string_string) [(t 46), (t 47)]]) (C
  48 (Q (O [mc 6 (u 6)]) R) X))))) (O [ad 49 35, m 35 49]))))
def kc_morph_checker_trait : AC :=
  (Q (O [o 3 (.bx t_morph_checker (t 0)), o 5 (.bx t_api_Trait (t 2)), mc 6 (u 0)]) (Q (.block 0 (Q (O [fa 10 0 5, ld 11 10, k 12 (f f_morph_Name) [(t 11)], no 13 12, m 9 13]) (C 9 (Q
  (O [mc 6 (u 5)]) R) (Q (O [fa 15 0 3, fa 16 1 15, ld 17 16, m 18 1, o 19 (.sll 2 (t 17) none (some (t 18)) none), o 20 (.mf (.func f_morph_checker_trait_1) [] [(t 5)]), k 21 (f
  f_slices_ContainsFunc_api_Trait_api_Trait) [(t 19), (t 20)], m 14 21]) (C 14 (Q (O [mc 6 (u 6)]) R) (Q (O [fa 23 1 5, ld 24 23, ls 25 24, o 26 (.ar .gtr (t 25) (i 8)), m 22 26]) (C
  22 (Q (O [mc 6 (u 3)]) R) (Q (O [fa 28 1 5, ld 29 28, ls 30 29, o 31 (.ar .eql (t 30) (i 0)), m 27 31]) (C 27 (Q (O [mc 6 (u 1)]) R) X))))))))) (Q (Q (O [fa 32 1 5, ld 33 32, ls 34
  33, mc 35 (i 0)]) (.block 1 (.loop ⟨none, [], false⟩ l_kmorph_checker_trait_0))) (Q (O [mc 6 (u 0)]) R))))
def ka_morph_checker_trait : AFn := ⟨kc_morph_checker_trait, 50, [.t 6], .keep, [], none⟩
def kc_morph_Check_2 : AC :=
  (Q (O [mc 2 (u 0)]) (Q (O [fa 3 2 0, ld 4 3, la 5 6 1, o 6 (.mf (.func f_morph_checker_class) [(t 5)] []), k 7 (f f_morph_each_api_Class) [(t 4), (i 16), (t 6)], m 2 7]) R))
def ka_morph_Check_2 : AFn := ⟨kc_morph_Check_2, 8, [.t 2], .keep, [], none⟩
def l_kmorph_each_api_Class_0 : AC :=
  (Q (O [bl 17 16 15]) (Q (C 17 X (.exit 0)) (Q (.block 1 (Q (O [m 18 16, ia 19 2 14 16, la 20 2 19, o 8 (.nw [(.str []), (.slice .nil 4 [])] t_api_Class), m 7 18, n (.st 2 (t 8) (t
  20))]) (Q (O [m 21 2, m 22 7, la 23 2 8, k 24 (t 21) [(t 22), (t 23)], m 9 24]) (Q (O [m 25 9, o 26 (.ar .neq (t 25) (u 0))]) (C 26 (Q (O [m 27 9, m 6 27]) R) X))))) (O [ad 28 16, m
  16 28]))))
def kc_morph_each_api_Class : AC :=
  (Q (O [mc 6 (u 0)]) (Q (Q (O [m 10 0, ls 11 10, m 12 1, o 13 (.ar .gtr (t 11) (t 12))]) (C 13 (Q (O [mc 6 (u 3)]) R) X)) (Q (Q (O [m 14 0, ls 15 14, mc 16 (i 0)]) (.block 0 (.loop
  ⟨none, [], false⟩ l_kmorph_each_api_Class_0))) (Q (O [mc 6 (u 0)]) R))))
def ka_morph_each_api_Class : AFn := ⟨kc_morph_each_api_Class, 29, [.t 6], .keep, [], none⟩
def kc_morph_checker_class : AC :=
  (Q (O [o 3 (.bx t_morph_checker (t 0)), o 5 (.bx t_api_Class (t 2)), mc 6 (u 0)]) (Q (.block 0 (Q (O [fa 8 0 5, ld 9 8, k 10 (f f_morph_Name) [(t 9)], no 11 10, m 7 11]) (C 7 (Q (O
  [mc 6 (u 5)]) R) (Q (O [fa 13 0 3, fa 14 2 13, ld 15 14, m 16 1, o 17 (.sll 2 (t 15) none (some (t 16)) none), o 18 (.mf (.func f_morph_checker_class_1) [] [(t 5)]), k 19 (f
  f_slices_ContainsFunc_api_Class_api_Class) [(t 17), (t 18)], m 12 19]) (C 12 (Q (O [mc 6 (u 6)]) R) (Q (O [fa 21 1 5, ld 22 21, ls 23 22, o 24 (.ar .gtr (t 23) (i 24)), m 20 24]) (C
  20 (Q (O [mc 6 (u 3)]) R) (Q (O [fa 26 1 5, ld 27 26, ls 28 27, o 29 (.ar .eql (t 28) (i 0)), m 25 29]) (C 25 (Q (O [mc 6 (u 1)]) R) X))))))))) (Q (O [fa 30 1 5, ld 31 30, o 32 (.mf
  (.func f_morph_checker_class_2) [] [(t 3)]), k 33 (f f_morph_each_api_Slot) [(t 31), (i 24), (t 32)], m 6 33]) R)))
def ka_morph_checker_class : AFn := ⟨kc_morph_checker_class, 34, [.t 6], .keep, [], none⟩
def kc_morph_Check_3 : AC :=
  (Q (O [mc 2 (u 0)]) (Q (O [fa 3 3 0, ld 4 3, la 5 6 1, o 6 (.mf (.func f_morph_checker_entry) [(t 5)] []), k 7 (f f_morph_each_api_Entry) [(t 4), (i 128), (t 6)], m 2 7]) R))
def ka_morph_Check_3 : AFn := ⟨kc_morph_Check_3, 8, [.t 2], .keep, [], none⟩
def l_kmorph_each_api_Entry_0 : AC :=
  (Q (O [bl 17 16 15]) (Q (C 17 X (.exit 0)) (Q (.block 1 (Q (O [m 18 16, ia 19 4 14 16, la 20 4 19, o 8 (.nw [(.str []), (.str []), (.slice .nil 2 []), (.slice .nil 2 [])]
  t_api_Entry), m 7 18, n (.st 4 (t 8) (t 20))]) (Q (O [m 21 2, m 22 7, la 23 4 8, k 24 (t 21) [(t 22), (t 23)], m 9 24]) (Q (O [m 25 9, o 26 (.ar .neq (t 25) (u 0))]) (C 26 (Q (O [m
  27 9, m 6 27]) R) X))))) (O [ad 28 16, m 16 28]))))
def kc_morph_each_api_Entry : AC :=
  (Q (O [mc 6 (u 0)]) (Q (Q (O [m 10 0, ls 11 10, m 12 1, o 13 (.ar .gtr (t 11) (t 12))]) (C 13 (Q (O [mc 6 (u 3)]) R) X)) (Q (Q (O [m 14 0, ls 15 14, mc 16 (i 0)]) (.block 0 (.loop
  ⟨none, [], false⟩ l_kmorph_each_api_Entry_0))) (Q (O [mc 6 (u 0)]) R))))
def ka_morph_each_api_Entry : AFn := ⟨kc_morph_each_api_Entry, 29, [.t 6], .keep, [], none⟩
def l_kmorph_checker_entry_0 : AC :=
  (Q (O [bl 51 50 49]) (Q (C 51 X (.exit 1)) (Q (.block 2 (Q (O [m 52 50, ia 53 2 48 50, la 54 2 53, o 11 (.nw [(.int .i64 0), (.str [])] t_api_Irregular), m 10 52, n (.st 2 (t 11) (t
  54))]) (.block 3 (Q (O [fa 56 0 11, ld 57 56, o 58 (.ar .lss (t 57) (i 0)), m 59 58, h 60 59 (.fa 0 (t 11)), h 61 59 (.ld none (t 60)), h 62 59 (.fa 1 (t 7)), h 63 59 (.ld none (t
  62)), h 64 59 (.len .sl (t 63)), h 65 59 (.ar .geq (t 61) (t 64)), o 66 (.pk (t 59) T (t 65)), m 55 66]) (C 55 (Q (O [mc 6 (u 7)]) R) (Q (O [fa 68 3 5, ld 69 68, m 70 10, o 71 (.sll
  2 (t 69) none (some (t 70)) none), o 72 (.mf (.func f_morph_checker_entry_3) [] [(t 11)]), k 73 (f f_slices_ContainsFunc_api_Irregular_api_Irregular) [(t 71), (t 72)], m 67 73]) (C
  67 (Q (O [mc 6 (u 6)]) R) (Q (O [fa 75 1 11, ld 76 75, o 77 (.ar .neq (t 76) (s [])), m 78 77, g 79 78 (.fa 1 (t 11)), g 80 78 (.ld none (t 79)), ⟨(some 81), (some (78, true)),
  (.call (.c (.fn (.func f_morph_Plain) [] [])) [(.t 80)])⟩, g 82 78 (.un .not (t 81)), o 83 (.pk (t 78) (t 82) F), m 74 83]) (C 74 (Q (O [mc 6 (u 1)]) R) X))))))))) (O [ad 84 50, m
  50 84]))))
def kc_morph_checker_entry : AC :=
  (Q (O [o 3 (.bx t_morph_checker (t 0)), o 5 (.bx t_api_Entry (t 2)), mc 6 (u 0)]) (Q (O [fa 13 0 3, la 14 6 13, fa 15 1 5, ld 16 15, k 17 (f f_morph_classOf) [(t 14), (t 16)], m 12
  17, ex 18 12 0, ex 19 12 1, o 7 (.nw [(.str []), (.slice .nil 4 [])] t_api_Class), n (.st 2 (t 7) (t 18)), m 8 19]) (Q (.block 0 (Q (O [fa 21 0 5, ld 22 21, k 23 (f f_morph_Plain)
  [(t 22)], no 24 23, m 20 24]) (C 20 (Q (O [mc 6 (u 1)]) R) (Q (O [m 26 8, no 27 26, m 25 27]) (C 25 (Q (O [mc 6 (u 5)]) R) (Q (O [fa 29 0 3, fa 30 3 29, ld 31 30, m 32 1, o 33 (.sll
  4 (t 31) none (some (t 32)) none), o 34 (.mf (.func f_morph_checker_entry_1) [] [(t 5)]), k 35 (f f_slices_ContainsFunc_api_Entry_api_Entry) [(t 33), (t 34)], m 28 35]) (C 28 (Q (O
  [mc 6 (u 6)]) R) X))))))) (Q (Q (O [la 36 6 3, fa 37 2 5, ld 38 37, k 39 (f f_morph_checker_bundle) [(t 36), (t 38)], m 9 39]) (Q (O [m 40 9, o 41 (.ar .neq (t 40) (u 0))]) (C 41 (Q
  (O [m 42 9, m 6 42]) R) X))) (Q (Q (O [fa 43 1 7, ld 44 43, o 45 (.mf (.func f_morph_checker_entry_2) [] [(t 5)]), k 46 (f f_slices_ContainsFunc_api_Slot_api_Slot) [(t 44), (t
  45)]]) (C 46 (Q (O [mc 6 (u 10)]) R) X)) (Q (Q (O [fa 47 3 5, ld 48 47, ls 49 48, mc 50 (i 0)]) (.block 1 (.loop ⟨none, [], false⟩ l_kmorph_checker_entry_0))) (Q (O [mc 6 (u 0)])
  R)))))))
def ka_morph_checker_entry : AFn := ⟨kc_morph_checker_entry, 85, [.t 6], .keep, [], none⟩
def kc_morph_Check_4 : AC :=
  (Q (O [mc 2 (u 0)]) (Q (O [fa 3 4 0, ld 4 3, la 5 6 1, o 6 (.mf (.func f_morph_checker_spell) [(t 5)] []), k 7 (f f_morph_each_api_Spell) [(t 4), (i 16), (t 6)], m 2 7]) R))
def ka_morph_Check_4 : AFn := ⟨kc_morph_Check_4, 8, [.t 2], .keep, [], none⟩
def l_kmorph_each_api_Spell_0 : AC :=
  (Q (O [bl 17 16 15]) (Q (C 17 X (.exit 0)) (Q (.block 1 (Q (O [m 18 16, ia 19 4 14 16, la 20 4 19, o 8 (.nw [(.str []), (.str []), (.str []), (.str [])] t_api_Spell), m 7 18, n (.st
  4 (t 8) (t 20))]) (Q (O [m 21 2, m 22 7, la 23 4 8, k 24 (t 21) [(t 22), (t 23)], m 9 24]) (Q (O [m 25 9, o 26 (.ar .neq (t 25) (u 0))]) (C 26 (Q (O [m 27 9, m 6 27]) R) X))))) (O
  [ad 28 16, m 16 28]))))
def kc_morph_each_api_Spell : AC :=
  (Q (O [mc 6 (u 0)]) (Q (Q (O [m 10 0, ls 11 10, m 12 1, o 13 (.ar .gtr (t 11) (t 12))]) (C 13 (Q (O [mc 6 (u 3)]) R) X)) (Q (Q (O [m 14 0, ls 15 14, mc 16 (i 0)]) (.block 0 (.loop
  ⟨none, [], false⟩ l_kmorph_each_api_Spell_0))) (Q (O [mc 6 (u 0)]) R))))
def ka_morph_each_api_Spell : AFn := ⟨kc_morph_each_api_Spell, 29, [.t 6], .keep, [], none⟩
def kc_morph_checker_spell : AC :=
  (Q (O [o 3 (.bx t_morph_checker (t 0)), o 5 (.bx t_api_Spell (t 2)), mc 6 (u 0)]) (Q (Q (O [fa 7 0 5, ld 8 7, o 9 (.ar .eql (t 8) (s [])), m 10 9, h 11 10 (.fa 0 (t 5)), h 12 10
  (.ld none (t 11)), ⟨(some 13), (some (10, false)), (.call (.c (.fn (.func f_morph_short) [] [])) [(.t 12), (.c (.fn (.func f_morph_symbol) [] []))])⟩, h 14 10 (.un .not (t 13)), o
  15 (.pk (t 10) T (t 14)), m 16 15, h 17 16 (.fa 1 (t 5)), h 18 16 (.ld none (t 17)), ⟨(some 19), (some (16, false)), (.call (.c (.fn (.func f_morph_short) [] [])) [(.t 18), (.c (.fn
  (.func f_morph_symbol) [] []))])⟩, h 20 16 (.un .not (t 19)), o 21 (.pk (t 16) T (t 20)), m 22 21, h 23 22 (.fa 2 (t 5)), h 24 22 (.ld none (t 23)), ⟨(some 25), (some (22, false)),
  (.call (.c (.fn (.func f_morph_short) [] [])) [(.t 24), (.c (.fn (.func f_morph_around) [] []))])⟩, h 26 22 (.un .not (t 25)), o 27 (.pk (t 22) T (t 26)), m 28 27, h 29 28 (.fa 3 (t
  5)), h 30 28 (.ld none (t 29)), ⟨(some 31), (some (28, false)), (.call (.c (.fn (.func f_morph_short) [] [])) [(.t 30), (.c (.fn (.func f_morph_around) [] []))])⟩, h 32 28 (.un .not
  (t 31)), o 33 (.pk (t 28) T (t 32))]) (C 33 (Q (O [mc 6 (u 1)]) R) X)) (Q (O [mc 6 (u 0)]) R)))
def ka_morph_checker_spell : AFn := ⟨kc_morph_checker_spell, 34, [.t 6], .keep, [], none⟩
def kc_morph_Check_5 : AC :=
  (Q (O [mc 2 (u 0)]) (Q (O [fa 3 5 0, ld 4 3, la 5 6 1, o 6 (.mf (.func f_morph_checker_link) [(t 5)] []), k 7 (f f_morph_each_api_Link) [(t 4), (i 8), (t 6)], m 2 7]) R))
def ka_morph_Check_5 : AFn := ⟨kc_morph_Check_5, 8, [.t 2], .keep, [], none⟩
def l_kmorph_each_api_Link_0 : AC :=
  (Q (O [bl 17 16 15]) (Q (C 17 X (.exit 0)) (Q (.block 1 (Q (O [m 18 16, ia 19 3 14 16, la 20 3 19, o 8 (.nw [(.str []), (.str []), (.slice .nil 2 [])] t_api_Link), m 7 18, n (.st 3
  (t 8) (t 20))]) (Q (O [m 21 2, m 22 7, la 23 3 8, k 24 (t 21) [(t 22), (t 23)], m 9 24]) (Q (O [m 25 9, o 26 (.ar .neq (t 25) (u 0))]) (C 26 (Q (O [m 27 9, m 6 27]) R) X))))) (O [ad
  28 16, m 16 28]))))
def kc_morph_each_api_Link : AC :=
  (Q (O [mc 6 (u 0)]) (Q (Q (O [m 10 0, ls 11 10, m 12 1, o 13 (.ar .gtr (t 11) (t 12))]) (C 13 (Q (O [mc 6 (u 3)]) R) X)) (Q (Q (O [m 14 0, ls 15 14, mc 16 (i 0)]) (.block 0 (.loop
  ⟨none, [], false⟩ l_kmorph_each_api_Link_0))) (Q (O [mc 6 (u 0)]) R))))
def ka_morph_each_api_Link : AFn := ⟨kc_morph_each_api_Link, 29, [.t 6], .keep, [], none⟩
def kc_morph_checker_link : AC :=
  (Q (O [o 3 (.bx t_morph_checker (t 0)), o 5 (.bx t_api_Link (t 2)), mc 6 (u 0)]) (Q (Q (O [fa 10 0 3, la 11 6 10, fa 12 0 5, ld 13 12, k 14 (f f_morph_classOf) [(t 11), (t 13)], m 9
  14, ex 15 9 0, ex 16 9 1, o 7 (.nw [(.str []), (.slice .nil 4 [])] t_api_Class), n (.st 2 (t 7) (t 15)), m 8 16]) (Q (O [m 17 8, no 18 17]) (C 18 (Q (O [mc 6 (u 5)]) R) X))) (Q (Q
  (O [fa 19 1 5, ld 20 19, k 21 (f f_morph_short) [(t 20), (f f_morph_letter)], no 22 21]) (C 22 (Q (O [mc 6 (u 1)]) R) X)) (Q (O [la 23 6 3, fa 24 2 5, ld 25 24, k 26 (f
  f_morph_checker_bundle) [(t 23), (t 25)], m 6 26]) R))))
def ka_morph_checker_link : AFn := ⟨kc_morph_checker_link, 27, [.t 6], .keep, [], none⟩
def kc_morph_language_underlying : AC :=
  (Q (O [o 3 (.bx t_morph_language (t 0)), o 5 (.bx t_api_Slot (t 2)), mc 6 (s []), mc 7 F]) (Q (O [fa 10 0 3, fa 11 3 10, ld 12 11, m 13 1, ia 14 4 12 13, fa 15 0 14, ld 16 15, m 8
  16]) (Q (Q (O [m 17 8, lt 18 17, fa 19 0 5, ld 20 19, bl 21 18 20]) (C 21 (Q (O [mc 6 (s []), mc 7 F]) R) X)) (Q (O [m 22 8, m 23 8, lt 24 23, fa 25 0 5, ld 26 25, o 27 (.ar .sub (t
  24) (t 26)), o 28 (.sls (t 22) none (some (t 27))), m 9 28]) (Q (Q (O [fa 29 1 5, ld 30 29, o 31 (.ar .neq (t 30) (s []))]) (C 31 (O [fa 32 1 5, ld 33 32, o 34 (.ar .add (t 33) (s
  [43])), m 35 9, o 36 (.ar .add (t 34) (t 35)), m 9 36]) X)) (Q (Q (O [fa 37 2 5, ld 38 37, o 39 (.ar .neq (t 38) (s []))]) (C 39 (O [m 40 9, fa 41 2 5, ld 42 41, o 43 (.ar .add (s
  [43]) (t 42)), o 44 (.ar .add (t 40) (t 43)), m 9 44]) X)) (Q (O [m 45 9, m 6 45, mc 7 T]) R)))))))
def ka_morph_language_underlying : AFn := ⟨kc_morph_language_underlying, 46, [.t 6, .t 7], .keep, [], none⟩
def kc_strings_ReplaceAll : AC :=
  (Q (O [mc 6 (s [])]) (Q (O [m 7 0, m 8 1, m 9 2, k 10 (f f_strings_Replace) [(t 7), (t 8), (t 9), (i (-1))], m 6 10]) R))
def ka_strings_ReplaceAll : AFn := ⟨kc_strings_ReplaceAll, 11, [.t 6], .keep, [], none⟩
def l_kmorph_language_shapes_0 : AC :=
  (Q (O [bl 18 17 16]) (Q (C 18 X (.exit 2)) (Q (.block 3 (Q (O [m 19 17, m 5 19]) (Q (O [la 20 6 1, m 21 4, m 22 5, k 23 (f f_morph_language_form) [(t 20), (t 21), (t 22)], m 6 23])
  (Q (O [m 24 6, o 25 (.ar .neq (t 24) (s []))]) (C 25 (O [m 26 3, m 27 4, m 28 5, m 29 6, o 30 (.bd [(.int .i64 0), (.int .i64 0), (.str [])] [(0, 1), (1, 1), (2, 1)] [(0, (t 27)),
  (1, (t 28)), (2, (t 29))]), o 31 (.bs 3 [(.int .i64 0), (.int .i64 0), (.str [])] 1 [(0, (t 30))]), o 32 (.ap false t_morph_shape 3 32 false (t 26) (t 31)), m 3 32]) X))))) (O [ad
  33 17, m 17 33]))))
def l_kmorph_language_shapes_1 : AC :=
  (Q (O [bl 12 11 10]) (Q (C 12 X (.exit 0)) (Q (.block 1 (Q (O [m 13 11, m 4 13]) (Q (O [la 14 6 1, m 15 4, k 16 (f f_morph_language_slots) [(t 14), (t 15)], mc 17 (i 0)]) (.block 2
  (.loop ⟨none, [], false⟩ l_kmorph_language_shapes_0))))) (O [ad 34 11, m 11 34]))))
def kc_morph_language_shapes : AC :=
  (Q (O [o 1 (.bx t_morph_language (t 0)), mc 2 (.c (.slice .nil 3 []))]) (Q (O [mc 3 (.c (.slice .nil 3 []))]) (Q (Q (O [fa 7 0 1, fa 8 3 7, ld 9 8, ls 10 9, mc 11 (i 0)]) (.block 0
  (.loop ⟨none, [], false⟩ l_kmorph_language_shapes_1))) (Q (O [m 35 3, m 2 35]) R))))
def ka_morph_language_shapes : AFn := ⟨kc_morph_language_shapes, 36, [.t 2], .keep, [], none⟩
def l_kmorph_language_openings_0 : AC :=
  (Q (O [bl 32 31 30]) (Q (C 32 X (.exit 2)) (Q (.block 3 (Q (O [m 33 31, ia 34 3 29 31, la 35 3 34, o 11 (.nw [(.str []), (.str []), (.slice .nil 2 [])] t_api_Link), m 10 33, n (.st
  3 (t 11) (t 35))]) (Q (O [la 36 6 2, fa 37 0 7, ld 38 37, la 39 4 8, la 40 3 11, k 41 (f f_morph_language_opens) [(t 36), (t 38), (t 39), (t 40)]]) (C 41 (O [m 42 5, fa 43 0 7, ld
  44 43, fa 45 1 7, ld 46 45, m 47 10, o 48 (.bd [(.int .i64 0), (.int .i64 0), (.int .i64 0)] [(0, 1), (1, 1), (2, 1)] [(0, (t 44)), (1, (t 46)), (2, (t 47))]), fa 49 2 7, ld 50 49,
  fa 51 1 11, ld 52 51, o 53 (.ar .add (t 50) (t 52)), o 54 (.bd [(.int .i64 0), (.int .i64 0), (.int .i64 0), (.str [])] [(0, 3), (3, 1)] [(0, (t 48)), (1, (t 53))]), o 55 (.bs 4
  [(.int .i64 0), (.int .i64 0), (.int .i64 0), (.str [])] 1 [(0, (t 54))]), o 56 (.ap false t_morph_opening 4 40 false (t 42) (t 55)), m 5 56]) X)))) (O [ad 57 31, m 31 57]))))
def l_kmorph_language_openings_1 : AC :=
  (Q (O [bl 15 14 13]) (Q (C 15 X (.exit 0)) (Q (.block 1 (Q (O [ia 16 3 12 14, la 17 3 16, o 7 (.nw [(.int .i64 0), (.int .i64 0), (.str [])] t_morph_shape), n (.st 3 (t 7) (t 17))])
  (Q (O [la 19 6 2, fa 20 0 7, ld 21 20, fa 22 1 7, ld 23 22, k 24 (f f_morph_language_slot) [(t 19), (t 21), (t 23)], m 18 24, ex 25 18 0, ex 26 18 1, o 8 (.nw [(.int .i64 0), (.str
  []), (.str []), (.slice .nil 2 [])] t_api_Slot), n (.st 4 (t 8) (t 25)), m 9 26]) (Q (O [fa 27 0 2, fa 28 5 27, ld 29 28, ls 30 29, mc 31 (i 0)]) (.block 2 (.loop ⟨none, [], false⟩
  l_kmorph_language_openings_0)))))) (O [ad 58 14, m 14 58]))))
def kc_morph_language_openings : AC :=
  (Q (O [o 2 (.bx t_morph_language (t 0)), mc 4 (.c (.slice .nil 4 []))]) (Q (O [mc 5 (.c (.slice .nil 4 []))]) (Q (Q (O [m 12 1, ls 13 12, mc 14 (i 0)]) (.block 0 (.loop ⟨none, [],
  false⟩ l_kmorph_language_openings_1))) (Q (O [m 59 5, m 4 59]) R))))
def ka_morph_language_openings : AFn := ⟨kc_morph_language_openings, 60, [.t 4], .keep, [], none⟩
def l_kmorph_analyses_0 : AC :=
  (Q (O [bl 23 22 21]) (Q (C 23 X (.exit 0)) (Q (.block 1 (Q (O [ia 24 3 20 22, la 25 3 24, o 13 (.nw [(.int .i64 0), (.int .i64 0), (.str [])] t_morph_shape), n (.st 3 (t 13) (t
  25))]) (Q (O [fa 26 2 13, ld 27 26, m 28 2, o 29 (.ar .eql (t 27) (t 28))]) (C 29 (D [P (m 30 11), P (m 31 4), P (fa 33 0 13), W (ld 34 33), P (fa 35 1 13), W (ld 36 35), K (k 32 (f
  f_slices_Clone_api_First_api_First) [(t 31)]), P (o 37 (.bd [(.slice .nil 3 []), (.int .i64 0), (.int .i64 0)] [(0, 1), (1, 1), (2, 1)] [(0, (t 32)), (1, (t 34)), (2, (t 36))])), P
  (o 38 (.bs 3 [(.slice .nil 0 []), (.int .i64 0), (.int .i64 0)] 1 [(0, (t 37))])), E (o 39 (.ap false t_api_Analysis 3 40 false (t 30) (t 38))), P (m 11 39)]) X)))) (O [ad 40 22, m
  22 40]))))
def l_kmorph_analyses_1 : AC :=
  (Q (O [bl 45 44 43]) (Q (C 45 X (.exit 2)) (Q (.block 3 (Q (O [ia 46 4 42 44, la 47 4 46, o 15 (.nw [(.int .i64 0), (.int .i64 0), (.int .i64 0), (.str [])] t_morph_opening), n (.st
  4 (t 15) (t 47))]) (Q (O [m 49 2, fa 50 3 15, ld 51 50, k 52 (f f_strings_CutPrefix) [(t 49), (t 51)], m 48 52, ex 53 48 0, ex 54 48 1, m 16 53, m 17 54]) (Q (O [m 55 17]) (C 55 (D
  [P (m 56 11), P (m 57 0), P (m 58 1), P (m 59 16), P (m 60 3), P (o 61 (.ar .sub (t 60) (i 1))), P (m 62 4), P (fa 64 0 15), W (la 65 3 64), P (o 66 (.bs 3 [(.int .i64 0), (.int
  .i64 0), (.int .i64 0)] 1 [(0, (t 65))])), K (k 63 (f f_slices_Clone_api_First_api_First) [(t 62)]), E (o 67 (.ap false t_api_First 3 24 false (t 63) (t 66))), K (k 68 (f
  f_morph_analyses) [(t 57), (t 58), (t 59), (t 61), (t 67)]), E (o 69 (.ap false t_api_Analysis 3 40 false (t 56) (t 68))), P (m 11 69)]) X))))) (O [ad 70 44, m 44 70]))))
def kc_morph_analyses : AC :=
  (Q (O [mc 10 (.c (.slice .nil 3 []))]) (Q (O [mc 11 (.c (.slice .nil 3 []))]) (Q (Q (O [m 18 3, o 19 (.ar .eql (t 18) (i 0))]) (C 19 (Q (Q (O [m 20 0, ls 21 20, mc 22 (i 0)])
  (.block 0 (.loop ⟨none, [], false⟩ l_kmorph_analyses_0))) (Q (O [m 41 11, m 10 41]) R)) X)) (Q (Q (O [m 42 1, ls 43 42, mc 44 (i 0)]) (.block 2 (.loop ⟨none, [], false⟩
  l_kmorph_analyses_1))) (Q (O [m 71 11, m 10 71]) R)))))
def ka_morph_analyses : AFn := ⟨kc_morph_analyses, 72, [.t 10], .keep, [], none⟩
def kc_morph_checker_bundle : AC :=
  (Q (O [o 2 (.bx t_morph_checker (t 0)), o 3 (.bx t_sl_api_Feat (t 1)), mc 4 (u 0)]) (Q (O [ld 5 3, o 6 (.mf (.func f_morph_checker_bundle_1) [] [(t 2), (t 3)]), k 7 (f
  f_morph_each_api_Feat) [(t 5), (i 8), (t 6)], m 4 7]) R))
def ka_morph_checker_bundle : AFn := ⟨kc_morph_checker_bundle, 8, [.t 4], .keep, [], none⟩
def kc_morph_classOf : AC :=
  (Q (O [o 2 (.bx t_api_Lexicon (t 0)), o 3 (.bx t_string (t 1)), o 4 (.nw [(.str []), (.slice .nil 4 [])] t_api_Class), mc 5 F]) (Q (O [fa 7 2 2, ld 8 7, o 9 (.mf (.func
  f_morph_classOf_1) [] [(t 3)]), k 10 (f f_slices_IndexFunc_api_Class_api_Class) [(t 8), (t 9)], m 6 10]) (Q (Q (O [m 11 6, o 12 (.ar .lss (t 11) (i 0))]) (C 12 (Q (O [o 13 (.bd
  [(.str []), (.slice .nil 4 [])] [(0, 1), (1, 1)] []), n (.st 2 (t 4) (t 13)), mc 5 F]) R) X)) (Q (O [fa 14 2 2, ld 15 14, m 16 6, ia 17 2 15 16, la 18 2 17, n (.st 2 (t 4) (t 18)),
  mc 5 T]) R))))
def ka_morph_classOf : AFn := ⟨kc_morph_classOf, 19, [.cell 4 (some 2), .t 5], .keep, [], none⟩
def l_kslices_Index_string_string_0 : AC :=
  (Q (O [bl 9 8 7]) (Q (C 9 X (.exit 0)) (Q (.block 1 (Q (O [m 10 8, m 5 10]) (Q (O [m 11 1, m 12 0, m 13 5, ia 14 1 12 13, ld 15 14, o 16 (.ar .eql (t 11) (t 15))]) (C 16 (Q (O [m 17
  5, m 4 17]) R) X)))) (O [ad 18 8, m 8 18]))))
def kc_slices_Index_string_string : AC :=
  (Q (O [mc 4 (i 0)]) (Q (Q (O [m 6 0, ls 7 6, mc 8 (i 0)]) (.block 0 (.loop ⟨none, [], false⟩ l_kslices_Index_string_string_0))) (Q (O [mc 4 (i (-1))]) R)))
def ka_slices_Index_string_string : AFn := ⟨kc_slices_Index_string_string, 19, [.t 4], .keep, [], none⟩
def kc_strings_HasPrefix : AC :=
  (Q (O [mc 4 F]) (Q (O [m 5 0, m 6 1, k 7 (f f_internal_stringslite_HasPrefix) [(t 5), (t 6)], m 4 7]) R))
def ka_strings_HasPrefix : AFn := ⟨kc_strings_HasPrefix, 8, [.t 4], .keep, [], none⟩
def l_kmorph_language_left_0 : AC :=
  (Q (O [bl 13 12 11]) (Q (C 13 X (.exit 0)) (Q (.block 1 (Q (O [m 14 12, m 9 14]) (Q (D [W (la 15 6 4), P (m 16 1), P (m 17 1), W (lt 18 17), P (o 19 (.ar .sub (t 18) (i 1))), P (m
  20 9), P (o 21 (.ar .sub (t 19) (t 20))), P (o 22 (.ixs (t 16) (t 21))), P (m 23 2), P (m 24 3), P (o 25 (.ar .sub (t 24) (i 1))), P (m 26 9), P (o 27 (.ar .sub (t 25) (t 26))), E
  (k 28 (f f_morph_language_match) [(t 15), (t 22), (t 23), (t 27)]), P (no 29 28)]) (C 29 (Q (O [mc 8 F]) R) X)))) (O [ad 30 12, m 12 30]))))
def kc_morph_language_left : AC :=
  (Q (O [o 4 (.bx t_morph_language (t 0)), mc 8 F]) (Q (Q (O [m 10 1, lt 11 10, mc 12 (i 0)]) (.block 0 (.loop ⟨none, [], false⟩ l_kmorph_language_left_0))) (Q (O [mc 8 T]) R)))
def ka_morph_language_left : AFn := ⟨kc_morph_language_left, 31, [.t 8], .keep, [], none⟩
def l_kmorph_language_right_0 : AC :=
  (Q (O [bl 13 12 11]) (Q (C 13 X (.exit 0)) (Q (.block 1 (Q (O [m 14 12, m 9 14]) (Q (D [W (la 15 6 4), P (m 16 1), P (m 17 9), P (o 18 (.ixs (t 16) (t 17))), P (m 19 2), P (m 20 3),
  P (m 21 9), P (o 22 (.ar .add (t 20) (t 21))), E (k 23 (f f_morph_language_match) [(t 15), (t 18), (t 19), (t 22)]), P (no 24 23)]) (C 24 (Q (O [mc 8 F]) R) X)))) (O [ad 25 12, m 12
  25]))))
def kc_morph_language_right : AC :=
  (Q (O [o 4 (.bx t_morph_language (t 0)), mc 8 F]) (Q (Q (O [m 10 1, lt 11 10, mc 12 (i 0)]) (.block 0 (.loop ⟨none, [], false⟩ l_kmorph_language_right_0))) (Q (O [mc 8 T]) R)))
def ka_morph_language_right : AFn := ⟨kc_morph_language_right, 26, [.t 8], .keep, [], none⟩
def kc_strings_Builder_WriteString : AC :=
  (Q (O [mc 4 (i 0), mc 5 (.c .nilif)]) (Q (O [m 6 0, k 7 (f f_strings_Builder_copyCheck) [(t 6)]]) (Q (O [m 8 0, m 9 0, o 10 (.nc (t 9)), fa 11 1 10, ld 12 11, m 13 1, o 14 (.ap
  false t_uint8 1 1 true (t 12) (t 13)), o 15 (.nc (t 8)), fa 16 1 15, n (.st 1 (t 16) (t 14))]) (Q (O [m 17 1, lt 18 17, m 4 18, mc 5 (.c .nilif)]) R))))
def ka_strings_Builder_WriteString : AFn := ⟨kc_strings_Builder_WriteString, 19, [.t 4, .t 5], .keep, [], none⟩
def kc_strings_Builder_WriteByte : AC :=
  (Q (O [mc 4 (.c .nilif)]) (Q (O [m 5 0, k 6 (f f_strings_Builder_copyCheck) [(t 5)]]) (Q (O [m 7 0, m 8 0, o 9 (.nc (t 8)), fa 10 1 9, ld 11 10, m 12 1, o 13 (.bs 1 [(.int .u8 0)] 1
  [(0, (t 12))]), o 14 (.ap false t_uint8 1 1 false (t 11) (t 13)), o 15 (.nc (t 7)), fa 16 1 15, n (.st 1 (t 16) (t 14))]) (Q (O [mc 4 (.c .nilif)]) R))))
def ka_strings_Builder_WriteByte : AFn := ⟨kc_strings_Builder_WriteByte, 17, [.t 4], .keep, [], none⟩
def kc_strings_Builder_String : AC :=
  (Q (O [mc 2 (s [])]) (Q (D [P (m 3 0), P (o 4 (.nc (t 3))), P (fa 5 1 4), W (ld 6 5), P (o 7 (.usl (t 6))), P (m 8 0), P (o 9 (.nc (t 8))), P (fa 10 1 9), W (ld 11 10), W (ls 12
  11), E (o 13 (.ust t_uint8 (t 7) (t 12))), P (m 2 13)]) R))
def ka_strings_Builder_String : AFn := ⟨kc_strings_Builder_String, 14, [.t 2], .keep, [], none⟩
def kc_strings_Builder_Len : AC :=
  (Q (O [mc 2 (i 0)]) (Q (O [m 3 0, o 4 (.nc (t 3)), fa 5 1 4, ld 6 5, ls 7 6, m 2 7]) R))
def ka_strings_Builder_Len : AFn := ⟨kc_strings_Builder_Len, 8, [.t 2], .keep, [], none⟩
def kc_morph_clash_1 : AC :=
  (Q (O [o 2 (.bx t_api_Feat (t 0)), mc 3 F]) (Q (O [ld 4 1, o 5 (.mf (.func f_morph_clash_1_1) [] [(t 2)]), k 6 (f f_slices_ContainsFunc_api_Feat_api_Feat) [(t 4), (t 5)], m 3 6])
  R))
def ka_morph_clash_1 : AFn := ⟨kc_morph_clash_1, 7, [.t 3], .keep, [], none⟩
def kc_morph_clash_1_1 : AC :=
  (Q (O [o 2 (.bx t_api_Feat (t 0)), mc 3 F]) (Q (O [fa 4 0 1, ld 5 4, fa 6 0 2, ld 7 6, o 8 (.ar .eql (t 5) (t 7)), m 9 8, g 10 9 (.fa 1 (t 1)), g 11 9 (.ld none (t 10)), g 12 9 (.fa
  1 (t 2)), g 13 9 (.ld none (t 12)), g 14 9 (.ar .neq (t 11) (t 13)), o 15 (.pk (t 9) (t 14) F), m 3 15]) R))
def ka_morph_clash_1_1 : AFn := ⟨kc_morph_clash_1_1, 16, [.t 3], .keep, [], none⟩
def l_kslices_Concat_api_Feat_api_Feat_0 : AC :=
  (Q (O [bl 12 11 10]) (Q (C 12 X (.exit 0)) (Q (.block 1 (Q (O [ia 13 1 9 11, ld 14 13, m 5 14]) (Q (O [m 15 3, m 16 5, ls 17 16, o 18 (.ar .add (t 15) (t 17)), m 3 18]) (Q (O [m 19
  3, o 20 (.ar .lss (t 19) (i 0))]) (C 20 (O [o 21 (.mi t_string (s [108, 101, 110, 32, 111, 117, 116, 32, 111, 102, 32, 114, 97, 110, 103, 101])), ⟨none, none, (.panic (.t 21))⟩])
  X))))) (O [ad 22 11, m 11 22]))))
def l_kslices_Concat_api_Feat_api_Feat_1 : AC :=
  (Q (O [bl 28 27 26]) (Q (C 28 X (.exit 2)) (Q (.block 3 (Q (O [ia 29 1 25 27, ld 30 29, m 8 30]) (O [m 31 6, m 32 8, o 33 (.ap true t_api_Feat 2 32 false (t 31) (t 32)), m 6 33])))
  (O [ad 34 27, m 27 34]))))
def kc_slices_Concat_api_Feat_api_Feat : AC :=
  (Q (O [mc 2 (.c (.slice .nil 2 []))]) (Q (O [mc 3 (i 0)]) (Q (Q (O [m 9 0, ls 10 9, mc 11 (i 0)]) (.block 0 (.loop ⟨none, [], false⟩ l_kslices_Concat_api_Feat_api_Feat_0))) (Q (O [m
  23 3, k 24 (f f_slices_Grow_api_Feat_api_Feat) [(.c (.slice .nil 2 [])), (t 23)], m 6 24]) (Q (Q (O [m 25 0, ls 26 25, mc 27 (i 0)]) (.block 2 (.loop ⟨none, [], false⟩
  l_kslices_Concat_api_Feat_api_Feat_1))) (Q (O [m 35 6, m 2 35]) R))))))
def ka_slices_Concat_api_Feat_api_Feat : AFn := ⟨kc_slices_Concat_api_Feat_api_Feat, 36, [.t 2], .keep, [13], none⟩
def kc_slices_SortFunc_api_Feat_api_Feat : AC :=
  (Q (O [m 5 0, ls 6 5, m 4 6]) (O [m 7 0, m 8 4, m 9 4, o 10 (.cvi .u64 (t 9)), k 11 (f f_math_bits_Len) [(t 10)], m 12 1, k 13 (f f_slices_pdqsortCmpFunc_api_Feat) [(t 7), (i 0), (t
  8), (t 11), (t 12)]]))
def ka_slices_SortFunc_api_Feat_api_Feat : AFn := ⟨kc_slices_SortFunc_api_Feat_api_Feat, 14, [], .keep, [], none⟩
def kc_morph_union_1 : AC :=
  (Q (O [o 2 (.bx t_api_Feat (t 0)), o 3 (.bx t_api_Feat (t 1)), mc 4 (i 0)]) (Q (O [fa 5 0 2, ld 6 5, fa 7 0 3, ld 8 7, k 9 (f f_strings_Compare) [(t 6), (t 8)], m 4 9]) R))
def ka_morph_union_1 : AFn := ⟨kc_morph_union_1, 10, [.t 4], .keep, [], none⟩
def kc_strings_Compare : AC :=
  (Q (O [mc 4 (i 0)]) (Q (O [m 5 0, m 6 1, k 7 (f f_internal_bytealg_CompareString) [(t 5), (t 6)], m 4 7]) R))
def ka_strings_Compare : AFn := ⟨kc_strings_Compare, 8, [.t 4], .keep, [], none⟩
def l_kslices_Compact_api_Feat_api_Feat_0 : AC :=
  (Q (Q (O [m 29 5, m 30 4, ls 31 30, bl 32 29 31]) (C 32 X (.exit 2))) (Q (.block 3 (Q (D [P (m 35 4), P (m 36 5), P (ia 37 2 35 36), W (la 38 2 37), P (m 39 4), P (m 40 5), P (o 41
  (.ar .sub (t 40) (i 1))), P (ia 42 2 39 41), W (la 43 2 42), P (o 44 (.eq true (.st [(0, .str), (1, .str)]) (t 38) (t 43)))]) (C 44 (Q (O [m 45 0, m 46 3, m 47 4, m 48 5, ia 49 2 47
  48, la 50 2 49, ia 51 2 45 46, n (.st 2 (t 51) (t 50))]) (O [m 52 3, ad 53 52, m 3 53])) X))) (O [m 33 5, ad 34 33, m 5 34])))
def l_kslices_Compact_api_Feat_api_Feat_1 : AC :=
  (Q (Q (O [m 10 3, m 11 0, ls 12 11, bl 13 10 12]) (C 13 X (.exit 0))) (Q (.block 1 (Q (D [P (m 16 0), P (m 17 3), P (ia 18 2 16 17), W (la 19 2 18), P (m 20 0), P (m 21 3), P (o 22
  (.ar .sub (t 21) (i 1))), P (ia 23 2 20 22), W (la 24 2 23), P (o 25 (.eq false (.st [(0, .str), (1, .str)]) (t 19) (t 24)))]) (C 25 (Q (O [m 26 0, m 27 3, o 28 (.sll 2 (t 26) (some
  (t 27)) none none), m 4 28]) (Q (Q (O [mc 5 (i 1)]) (.block 2 (.loop ⟨none, [], false⟩ l_kslices_Compact_api_Feat_api_Feat_0))) (Q (O [m 54 0, m 55 3, o 56 (.sll 2 (t 54) (some (t
  55)) none none), n (.cl 2 [(.str []), (.str [])] (t 56))]) (Q (O [m 57 0, m 58 3, o 59 (.sll 2 (t 57) none (some (t 58)) none), m 2 59]) R)))) X))) (O [m 14 3, ad 15 14, m 3 15])))
def kc_slices_Compact_api_Feat_api_Feat : AC :=
  (Q (O [mc 2 (.c (.slice .nil 2 []))]) (Q (Q (O [m 6 0, ls 7 6, o 8 (.ar .lss (t 7) (i 2))]) (C 8 (Q (O [m 9 0, m 2 9]) R) X)) (Q (Q (O [mc 3 (i 1)]) (.block 0 (.loop ⟨none, [],
  false⟩ l_kslices_Compact_api_Feat_api_Feat_1))) (Q (O [m 60 0, m 2 60]) R))))
def ka_slices_Compact_api_Feat_api_Feat : AFn := ⟨kc_slices_Compact_api_Feat_api_Feat, 61, [.t 2], .keep, [], none⟩
def l_kslices_IndexFunc_api_Feat_api_Feat_0 : AC :=
  (Q (O [bl 9 8 7]) (Q (C 9 X (.exit 0)) (Q (.block 1 (Q (O [m 10 8, m 5 10]) (Q (O [m 11 1, m 12 0, m 13 5, ia 14 2 12 13, la 15 2 14, k 16 (t 11) [(t 15)]]) (C 16 (Q (O [m 17 5, m 4
  17]) R) X)))) (O [ad 18 8, m 8 18]))))
def kc_slices_IndexFunc_api_Feat_api_Feat : AC :=
  (Q (O [mc 4 (i 0)]) (Q (Q (O [m 6 0, ls 7 6, mc 8 (i 0)]) (.block 0 (.loop ⟨none, [], false⟩ l_kslices_IndexFunc_api_Feat_api_Feat_0))) (Q (O [mc 4 (i (-1))]) R)))
def ka_slices_IndexFunc_api_Feat_api_Feat : AFn := ⟨kc_slices_IndexFunc_api_Feat_api_Feat, 19, [.t 4], .keep, [], none⟩
def l_kslices_Index_api_Feat_api_Feat_0 : AC :=
  (Q (O [bl 9 8 7]) (Q (C 9 X (.exit 0)) (Q (.block 1 (Q (O [m 10 8, m 5 10]) (Q (D [W (la 11 2 3), P (m 12 0), P (m 13 5), P (ia 14 2 12 13), W (la 15 2 14), P (o 16 (.eq false (.st
  [(0, .str), (1, .str)]) (t 11) (t 15)))]) (C 16 (Q (O [m 17 5, m 4 17]) R) X)))) (O [ad 18 8, m 8 18]))))
def kc_slices_Index_api_Feat_api_Feat : AC :=
  (Q (O [o 3 (.bx t_api_Feat (t 1)), mc 4 (i 0)]) (Q (Q (O [m 6 0, ls 7 6, mc 8 (i 0)]) (.block 0 (.loop ⟨none, [], false⟩ l_kslices_Index_api_Feat_api_Feat_0))) (Q (O [mc 4 (i
  (-1))]) R)))
def ka_slices_Index_api_Feat_api_Feat : AFn := ⟨kc_slices_Index_api_Feat_api_Feat, 19, [.t 4], .keep, [], none⟩
def l_kstrings_explode_0 : AC :=
  (Q (Q (O [m 22 7, m 23 1, o 24 (.ar .sub (t 23) (i 1)), bl 25 22 24]) (C 25 X (.exit 0))) (Q (.block 1 (Q (O [m 29 0, k 30 (f f_unicode_utf8_DecodeRuneInString) [(t 29)], m 28 30,
  ex 31 28 0, ex 32 28 1, m 8 31, m 9 32]) (Q (O [m 33 6, m 34 7, m 35 0, m 36 9, o 37 (.sls (t 35) none (some (t 36))), ia 38 1 33 34, n (.st 1 (t 38) (t 37))]) (O [m 39 0, m 40 9, o
  41 (.sls (t 39) (some (t 40)) none), m 0 41])))) (O [m 26 7, ad 27 26, m 7 27])))
def kc_strings_explode : AC :=
  (Q (O [mc 4 (.c (.slice .nil 1 []))]) (Q (O [m 10 0, k 11 (f f_unicode_utf8_RuneCountInString) [(t 10)], m 5 11]) (Q (Q (O [m 12 1, o 13 (.ar .lss (t 12) (i 0)), m 14 13, h 15 14
  (.mv (t 1)), h 16 14 (.mv (t 5)), h 17 14 (.ar .gtr (t 15) (t 16)), o 18 (.pk (t 14) T (t 17))]) (C 18 (O [m 19 5, m 1 19]) X)) (Q (O [m 20 1, o 21 (.ms t_string 16 [(.str [])] (t
  20) (t 20)), m 6 21]) (Q (Q (O [mc 7 (i 0)]) (.block 0 (.loop ⟨none, [], false⟩ l_kstrings_explode_0))) (Q (Q (O [m 42 1, o 43 (.ar .gtr (t 42) (i 0))]) (C 43 (O [m 44 6, m 45 1, o
  46 (.ar .sub (t 45) (i 1)), m 47 0, ia 48 1 44 46, n (.st 1 (t 48) (t 47))]) X)) (Q (O [m 49 6, m 4 49]) R)))))))
def ka_strings_explode : AFn := ⟨kc_strings_explode, 50, [.t 4], .keep, [], none⟩
def l_kstrings_Count_0 : AC :=
  (.block 1 (Q (O [m 20 0, m 21 1, k 22 (f f_strings_Index) [(t 20), (t 21)], m 6 22]) (Q (Q (O [m 23 6, o 24 (.ar .eql (t 23) (i (-1)))]) (C 24 (Q (O [m 25 5, m 4 25]) R) X)) (Q (O
  [m 26 5, ad 27 26, m 5 27]) (O [m 28 0, m 29 6, m 30 1, lt 31 30, o 32 (.ar .add (t 29) (t 31)), o 33 (.sls (t 28) (some (t 32)) none), m 0 33])))))
def kc_strings_Count : AC :=
  (Q (O [mc 4 (i 0)]) (Q (Q (O [m 7 1, lt 8 7, o 9 (.ar .eql (t 8) (i 0))]) (C 9 (Q (O [m 10 0, k 11 (f f_unicode_utf8_RuneCountInString) [(t 10)], ad 12 11, m 4 12]) R) X)) (Q (Q (O
  [m 13 1, lt 14 13, o 15 (.ar .eql (t 14) (i 1))]) (C 15 (Q (O [m 16 0, m 17 1, o 18 (.ixs (t 17) (i 0)), k 19 (f f_internal_bytealg_CountString) [(t 16), (t 18)], m 4 19]) R) X)) (Q
  (O [mc 5 (i 0)]) (.block 0 (.loop ⟨none, [], false⟩ l_kstrings_Count_0))))))
def ka_strings_Count : AFn := ⟨kc_strings_Count, 34, [.t 4], .keep, [], none⟩
def kc_strings_Index : AC :=
  (Q (O [mc 4 (i 0)]) (Q (O [m 5 0, m 6 1, k 7 (f f_internal_stringslite_Index) [(t 5), (t 6)], m 4 7]) R))
def ka_strings_Index : AFn := ⟨kc_strings_Index, 8, [.t 4], .keep, [], none⟩
def kc_morph_kinds_1 : AC :=
  (O [m 4 0, m 5 1, o 6 (.ias 1 (t 5) (i 0)), ld 7 6, k 8 (f f_morph_text) [(t 7)], o 9 (.nc (t 4)), fa 10 0 9, fa 11 0 10, n (.st 1 (t 11) (t 8))])
def ka_morph_kinds_1 : AFn := ⟨kc_morph_kinds_1, 12, [], .keep, [], none⟩
def kc_morph_text : AC :=
  (Q (O [mc 2 (s [])]) (Q (Q (O [m 3 0, o 4 (.ar .eql (t 3) (s [45]))]) (C 4 (Q (O [mc 2 (s [])]) R) X)) (Q (O [m 5 0, m 2 5]) R)))
def ka_morph_text : AFn := ⟨kc_morph_text, 6, [.t 2], .keep, [], none⟩
def kc_morph_kinds_2 : AC :=
  (D [P (m 4 0), P (m 5 0), P (o 6 (.nc (t 5))), P (fa 7 0 6), P (fa 8 1 7), W (ld 9 8), P (m 10 1), P (o 11 (.ias 1 (t 10) (i 0))), W (ld 12 11), P (m 13 1), P (o 14 (.sll 1 (t 13)
  (some (i 1)) none none)), P (o 15 (.bd [(.str []), (.slice .nil 1 [])] [(0, 1), (1, 1)] [(0, (t 12)), (1, (t 14))])), P (o 16 (.bs 2 [(.str []), (.slice .nil 0 [])] 1 [(0, (t
  15))])), E (o 17 (.ap false t_api_Trait 2 40 false (t 9) (t 16))), P (o 18 (.nc (t 4))), P (fa 19 0 18), P (fa 20 1 19), E (n (.st 1 (t 20) (t 17)))])
def ka_morph_kinds_2 : AFn := ⟨kc_morph_kinds_2, 21, [], .keep, [], none⟩
def kc_morph_kinds_3 : AC :=
  (D [P (m 4 0), P (m 5 0), P (o 6 (.nc (t 5))), P (fa 7 0 6), P (fa 8 2 7), W (ld 9 8), P (m 10 1), P (o 11 (.ias 1 (t 10) (i 0))), W (ld 12 11), P (o 13 (.bd [(.str []), (.slice
  .nil 4 [])] [(0, 1), (1, 1)] [(0, (t 12))])), P (o 14 (.bs 2 [(.str []), (.slice .nil 0 [])] 1 [(0, (t 13))])), E (o 15 (.ap true t_api_Class 2 40 false (t 9) (t 14))), P (o 16 (.nc
  (t 4))), P (fa 17 0 16), P (fa 18 2 17), E (n (.st 1 (t 18) (t 15)))])
def ka_morph_kinds_3 : AFn := ⟨kc_morph_kinds_3, 19, [], .keep, [0], none⟩
def kc_morph_kinds_4 : AC :=
  (Q (O [m 5 0, o 6 (.nc (t 5)), fa 7 6 6, ld 8 7, o 9 (.ar .eql (t 8) (s [99, 108, 97, 115, 115])), m 10 9, h 11 10 (.mv (t 0)), h 12 10 (.nc (t 11)), h 13 10 (.fa 6 (t 12)), h 14 10
  (.ld none (t 13)), h 15 10 (.ar .eql (t 14) (s [115, 108, 111, 116])), o 16 (.pk (t 10) T (t 15)), k 17 (f f_morph_demand) [(t 16)]]) (Q (D [P (m 18 0), P (o 19 (.nc (t 18))), P (fa
  20 0 19), P (fa 21 2 20), W (ld 22 21), P (m 23 0), P (o 24 (.nc (t 23))), P (fa 25 0 24), P (fa 26 2 25), W (ld 27 26), W (ls 28 27), P (o 29 (.ar .sub (t 28) (i 1))), P (ia 30 2
  22 29), P (m 4 30)]) (D [P (m 31 4), P (m 32 4), P (o 33 (.nc (t 32))), P (fa 34 1 33), W (ld 35 34), P (m 36 1), P (o 37 (.ias 1 (t 36) (i 0))), W (ld 38 37), P (m 40 1), P (o 41
  (.ias 1 (t 40) (i 1))), W (ld 42 41), P (m 44 1), P (o 45 (.ias 1 (t 44) (i 2))), W (ld 46 45), P (m 48 1), P (o 49 (.sll 1 (t 48) (some (i 3)) none none)), K (k 39 (f
  f_morph_number) [(t 38)]), K (k 43 (f f_morph_text) [(t 42)]), K (k 47 (f f_morph_text) [(t 46)]), K (k 50 (f f_morph_feats) [(t 49)]), P (o 51 (.bd [(.int .i64 0), (.str []), (.str
  []), (.slice .nil 2 [])] [(0, 1), (1, 1), (2, 1), (3, 1)] [(0, (t 39)), (1, (t 43)), (2, (t 47)), (3, (t 50))])), P (o 52 (.bs 4 [(.int .i64 0), (.str []), (.str []), (.slice .nil 0
  [])] 1 [(0, (t 51))])), E (o 53 (.ap false t_api_Slot 4 64 false (t 35) (t 52))), P (o 54 (.nc (t 31))), P (fa 55 1 54), E (n (.st 1 (t 55) (t 53)))])))
def ka_morph_kinds_4 : AFn := ⟨kc_morph_kinds_4, 56, [], .keep, [], none⟩
def kc_morph_number : AC :=
  (Q (O [mc 2 (i 0)]) (Q (O [m 6 0, k 7 (f f_strconv_Atoi) [(t 6)], m 5 7, ex 8 5 0, ex 9 5 1, m 3 8, m 4 9]) (Q (O [m 10 4, o 11 (.eq false (.ifc true) (t 10) (.c .nilif)), m 12 11,
  g 13 12 (.mv (t 3)), g 14 12 (.ar .geq (t 13) (i 0)), o 15 (.pk (t 12) (t 14) F), m 16 15, g 17 16 (.mv (t 3)), g 18 16 (.ar .leq (t 17) (i 999)), o 19 (.pk (t 16) (t 18) F), m 20
  19, g 21 20 (.mv (t 3)), ⟨(some 22), (some (20, true)), (.call (.c (.fn (.func f_strconv_Itoa) [] [])) [(.t 21)])⟩, g 23 20 (.mv (t 0)), g 24 20 (.ar .eql (t 22) (t 23)), o 25 (.pk
  (t 20) (t 24) F), k 26 (f f_morph_demand) [(t 25)]]) (Q (O [m 27 3, m 2 27]) R))))
def ka_morph_number : AFn := ⟨kc_morph_number, 28, [.t 2], .keep, [], none⟩
def l_kmorph_feats_0 : AC :=
  (Q (O [bl 12 11 10]) (Q (C 12 X (.exit 0)) (Q (.block 1 (Q (O [ia 13 1 9 11, ld 14 13, m 5 14]) (Q (O [m 15 5, k 16 (f f_strings_Count) [(t 15), (s [61])], o 17 (.ar .eql (t 16) (i
  1)), k 18 (f f_morph_demand) [(t 17)]]) (Q (O [m 20 5, k 21 (f f_strings_Cut) [(t 20), (s [61])], m 19 21, ex 22 19 0, ex 23 19 1, ex 24 19 2, m 6 22, m 7 23, m 8 24]) (O [m 25 3, m
  26 6, m 27 7, o 28 (.bd [(.str []), (.str [])] [(0, 1), (1, 1)] [(0, (t 26)), (1, (t 27))]), o 29 (.bs 2 [(.str []), (.str [])] 1 [(0, (t 28))]), o 30 (.ap false t_api_Feat 2 32
  false (t 25) (t 29)), m 3 30]))))) (O [ad 31 11, m 11 31]))))
def kc_morph_feats : AC :=
  (Q (O [mc 2 (.c (.slice .nil 2 []))]) (Q (O [mc 3 (.c (.slice .nil 2 []))]) (Q (Q (O [m 9 0, ls 10 9, mc 11 (i 0)]) (.block 0 (.loop ⟨none, [], false⟩ l_kmorph_feats_0))) (Q (O [m
  32 3, m 2 32]) R))))
def ka_morph_feats : AFn := ⟨kc_morph_feats, 33, [.t 2], .keep, [], none⟩
def kc_morph_kinds_5 : AC :=
  (D [P (m 4 0), P (m 5 0), P (o 6 (.nc (t 5))), P (fa 7 0 6), P (fa 8 3 7), W (ld 9 8), P (m 10 1), P (o 11 (.ias 1 (t 10) (i 0))), W (ld 12 11), P (m 13 1), P (o 14 (.ias 1 (t 13)
  (i 1))), W (ld 15 14), P (m 16 1), P (o 17 (.sll 1 (t 16) (some (i 2)) none none)), K (k 18 (f f_morph_feats) [(t 17)]), P (o 19 (.bd [(.str []), (.str []), (.slice .nil 2 []),
  (.slice .nil 2 [])] [(0, 1), (1, 1), (2, 1), (3, 1)] [(0, (t 12)), (1, (t 15)), (2, (t 18))])), P (o 20 (.bs 4 [(.str []), (.str []), (.slice .nil 0 []), (.slice .nil 0 [])] 1 [(0,
  (t 19))])), E (o 21 (.ap true t_api_Entry 4 80 false (t 9) (t 20))), P (o 22 (.nc (t 4))), P (fa 23 0 22), P (fa 24 3 23), E (n (.st 1 (t 24) (t 21)))])
def ka_morph_kinds_5 : AFn := ⟨kc_morph_kinds_5, 25, [], .keep, [0], none⟩
def kc_morph_kinds_6 : AC :=
  (Q (O [m 5 0, o 6 (.nc (t 5)), fa 7 6 6, ld 8 7, o 9 (.ar .eql (t 8) (s [101, 110, 116, 114, 121])), m 10 9, h 11 10 (.mv (t 0)), h 12 10 (.nc (t 11)), h 13 10 (.fa 6 (t 12)), h 14
  10 (.ld none (t 13)), h 15 10 (.ar .eql (t 14) (s [102, 111, 114, 109])), o 16 (.pk (t 10) T (t 15)), k 17 (f f_morph_demand) [(t 16)]]) (Q (D [P (m 18 0), P (o 19 (.nc (t 18))), P
  (fa 20 0 19), P (fa 21 3 20), W (ld 22 21), P (m 23 0), P (o 24 (.nc (t 23))), P (fa 25 0 24), P (fa 26 3 25), W (ld 27 26), W (ls 28 27), P (o 29 (.ar .sub (t 28) (i 1))), P (ia 30
  4 22 29), P (m 4 30)]) (D [P (m 31 4), P (m 32 4), P (o 33 (.nc (t 32))), P (fa 34 3 33), W (ld 35 34), P (m 36 1), P (o 37 (.ias 1 (t 36) (i 0))), W (ld 38 37), P (m 40 1), P (o 41
  (.ias 1 (t 40) (i 1))), W (ld 42 41), K (k 39 (f f_morph_number) [(t 38)]), K (k 43 (f f_morph_text) [(t 42)]), P (o 44 (.bd [(.int .i64 0), (.str [])] [(0, 1), (1, 1)] [(0, (t
  39)), (1, (t 43))])), P (o 45 (.bs 2 [(.int .i64 0), (.str [])] 1 [(0, (t 44))])), E (o 46 (.ap false t_api_Irregular 2 24 false (t 35) (t 45))), P (o 47 (.nc (t 31))), P (fa 48 3
  47), E (n (.st 1 (t 48) (t 46)))])))
def ka_morph_kinds_6 : AFn := ⟨kc_morph_kinds_6, 49, [], .keep, [], none⟩
def kc_morph_kinds_7 : AC :=
  (D [P (m 4 0), P (m 5 0), P (o 6 (.nc (t 5))), P (fa 7 0 6), P (fa 8 4 7), W (ld 9 8), P (m 10 1), P (o 11 (.ias 1 (t 10) (i 0))), W (ld 12 11), P (m 14 1), P (o 15 (.ias 1 (t 14)
  (i 1))), W (ld 16 15), P (m 18 1), P (o 19 (.ias 1 (t 18) (i 2))), W (ld 20 19), P (m 22 1), P (o 23 (.ias 1 (t 22) (i 3))), W (ld 24 23), K (k 13 (f f_morph_text) [(t 12)]), K (k
  17 (f f_morph_text) [(t 16)]), K (k 21 (f f_morph_text) [(t 20)]), K (k 25 (f f_morph_text) [(t 24)]), P (o 26 (.bd [(.str []), (.str []), (.str []), (.str [])] [(0, 1), (1, 1), (2,
  1), (3, 1)] [(0, (t 13)), (1, (t 17)), (2, (t 21)), (3, (t 25))])), P (o 27 (.bs 4 [(.str []), (.str []), (.str []), (.str [])] 1 [(0, (t 26))])), E (o 28 (.ap false t_api_Spell 4
  64 false (t 9) (t 27))), P (o 29 (.nc (t 4))), P (fa 30 0 29), P (fa 31 4 30), E (n (.st 1 (t 31) (t 28)))])
def ka_morph_kinds_7 : AFn := ⟨kc_morph_kinds_7, 32, [], .keep, [], none⟩
def kc_morph_kinds_8 : AC :=
  (D [P (m 4 0), P (m 5 0), P (o 6 (.nc (t 5))), P (fa 7 0 6), P (fa 8 5 7), W (ld 9 8), P (m 10 1), P (o 11 (.ias 1 (t 10) (i 0))), W (ld 12 11), P (m 13 1), P (o 14 (.ias 1 (t 13)
  (i 1))), W (ld 15 14), K (k 16 (f f_morph_text) [(t 15)]), P (m 17 1), P (o 18 (.sll 1 (t 17) (some (i 2)) none none)), K (k 19 (f f_morph_feats) [(t 18)]), P (o 20 (.bd [(.str []),
  (.str []), (.slice .nil 2 [])] [(0, 1), (1, 1), (2, 1)] [(0, (t 12)), (1, (t 16)), (2, (t 19))])), P (o 21 (.bs 3 [(.str []), (.str []), (.slice .nil 0 [])] 1 [(0, (t 20))])), E (o
  22 (.ap false t_api_Link 3 56 false (t 9) (t 21))), P (o 23 (.nc (t 4))), P (fa 24 0 23), P (fa 25 5 24), E (n (.st 1 (t 25) (t 22)))])
def ka_morph_kinds_8 : AFn := ⟨kc_morph_kinds_8, 26, [], .keep, [], none⟩
def kc_slices_ContainsFunc_api_Trait_api_Trait : AC :=
  (Q (O [mc 4 F]) (Q (O [m 5 0, m 6 1, k 7 (f f_slices_IndexFunc_api_Trait_api_Trait) [(t 5), (t 6)], o 8 (.ar .geq (t 7) (i 0)), m 4 8]) R))
def ka_slices_ContainsFunc_api_Trait_api_Trait : AFn := ⟨kc_slices_ContainsFunc_api_Trait_api_Trait, 9, [.t 4], .keep, [], none⟩
def kc_morph_checker_trait_1 : AC :=
  (Q (O [o 2 (.bx t_api_Trait (t 0)), mc 3 F]) (Q (O [fa 4 0 2, ld 5 4, fa 6 0 1, ld 7 6, o 8 (.ar .eql (t 5) (t 7)), m 3 8]) R))
def ka_morph_checker_trait_1 : AFn := ⟨kc_morph_checker_trait_1, 9, [.t 3], .keep, [], none⟩
def kc_slices_ContainsFunc_api_Class_api_Class : AC :=
  (Q (O [mc 4 F]) (Q (O [m 5 0, m 6 1, k 7 (f f_slices_IndexFunc_api_Class_api_Class) [(t 5), (t 6)], o 8 (.ar .geq (t 7) (i 0)), m 4 8]) R))
def ka_slices_ContainsFunc_api_Class_api_Class : AFn := ⟨kc_slices_ContainsFunc_api_Class_api_Class, 9, [.t 4], .keep, [], none⟩
def kc_morph_checker_class_1 : AC :=
  (Q (O [o 2 (.bx t_api_Class (t 0)), mc 3 F]) (Q (O [fa 4 0 2, ld 5 4, fa 6 0 1, ld 7 6, o 8 (.ar .eql (t 5) (t 7)), m 3 8]) R))
def ka_morph_checker_class_1 : AFn := ⟨kc_morph_checker_class_1, 9, [.t 3], .keep, [], none⟩
def l_kmorph_each_api_Slot_0 : AC :=
  (Q (O [bl 17 16 15]) (Q (C 17 X (.exit 0)) (Q (.block 1 (Q (O [m 18 16, ia 19 4 14 16, la 20 4 19, o 8 (.nw [(.int .i64 0), (.str []), (.str []), (.slice .nil 2 [])] t_api_Slot), m
  7 18, n (.st 4 (t 8) (t 20))]) (Q (O [m 21 2, m 22 7, la 23 4 8, k 24 (t 21) [(t 22), (t 23)], m 9 24]) (Q (O [m 25 9, o 26 (.ar .neq (t 25) (u 0))]) (C 26 (Q (O [m 27 9, m 6 27])
  R) X))))) (O [ad 28 16, m 16 28]))))
def kc_morph_each_api_Slot : AC :=
  (Q (O [mc 6 (u 0)]) (Q (Q (O [m 10 0, ls 11 10, m 12 1, o 13 (.ar .gtr (t 11) (t 12))]) (C 13 (Q (O [mc 6 (u 3)]) R) X)) (Q (Q (O [m 14 0, ls 15 14, mc 16 (i 0)]) (.block 0 (.loop
  ⟨none, [], false⟩ l_kmorph_each_api_Slot_0))) (Q (O [mc 6 (u 0)]) R))))
def ka_morph_each_api_Slot : AFn := ⟨kc_morph_each_api_Slot, 29, [.t 6], .keep, [], none⟩
def kc_morph_checker_class_2 : AC :=
  (Q (O [o 4 (.bx t_api_Slot (t 1)), mc 5 (u 0)]) (Q (Q (O [fa 6 0 4, ld 7 6, o 8 (.ar .lss (t 7) (i 0)), m 9 8, h 10 9 (.fa 0 (t 4)), h 11 9 (.ld none (t 10)), h 12 9 (.ar .gtr (t
  11) (i 24)), o 13 (.pk (t 9) T (t 12)), m 14 13, h 15 14 (.fa 1 (t 4)), h 16 14 (.ld none (t 15)), ⟨(some 17), (some (14, false)), (.call (.c (.fn (.func f_morph_short) [] [])) [(.t
  16), (.c (.fn (.func f_morph_letter) [] []))])⟩, h 18 14 (.un .not (t 17)), o 19 (.pk (t 14) T (t 18)), m 20 19, h 21 20 (.fa 2 (t 4)), h 22 20 (.ld none (t 21)), ⟨(some 23), (some
  (20, false)), (.call (.c (.fn (.func f_morph_short) [] [])) [(.t 22), (.c (.fn (.func f_morph_letter) [] []))])⟩, h 24 20 (.un .not (t 23)), o 25 (.pk (t 20) T (t 24))]) (C 25 (Q (O
  [mc 5 (u 1)]) R) X)) (Q (O [la 26 6 2, fa 27 3 4, ld 28 27, k 29 (f f_morph_checker_bundle) [(t 26), (t 28)], m 5 29]) R)))
def ka_morph_checker_class_2 : AFn := ⟨kc_morph_checker_class_2, 30, [.t 5], .keep, [], none⟩
def kc_morph_short : AC :=
  (Q (O [mc 4 F]) (Q (O [m 5 0, lt 6 5, o 7 (.ar .leq (t 6) (i 6)), m 8 7, g 9 8 (.mv (t 0)), g 10 8 (.mv (t 1)), ⟨(some 11), (some (8, true)), (.call (.c (.fn (.func f_morph_all) []
  [])) [(.t 9), (.t 10)])⟩, o 12 (.pk (t 8) (t 11) F), m 4 12]) R))
def ka_morph_short : AFn := ⟨kc_morph_short, 13, [.t 4], .keep, [], none⟩
def kc_slices_ContainsFunc_api_Entry_api_Entry : AC :=
  (Q (O [mc 4 F]) (Q (O [m 5 0, m 6 1, k 7 (f f_slices_IndexFunc_api_Entry_api_Entry) [(t 5), (t 6)], o 8 (.ar .geq (t 7) (i 0)), m 4 8]) R))
def ka_slices_ContainsFunc_api_Entry_api_Entry : AFn := ⟨kc_slices_ContainsFunc_api_Entry_api_Entry, 9, [.t 4], .keep, [], none⟩
def kc_morph_checker_entry_1 : AC :=
  (Q (O [o 2 (.bx t_api_Entry (t 0)), mc 3 F]) (Q (O [fa 4 0 2, ld 5 4, fa 6 0 1, ld 7 6, o 8 (.ar .eql (t 5) (t 7)), m 9 8, g 10 9 (.fa 1 (t 2)), g 11 9 (.ld none (t 10)), g 12 9
  (.fa 1 (t 1)), g 13 9 (.ld none (t 12)), g 14 9 (.ar .eql (t 11) (t 13)), o 15 (.pk (t 9) (t 14) F), m 3 15]) R))
def ka_morph_checker_entry_1 : AFn := ⟨kc_morph_checker_entry_1, 16, [.t 3], .keep, [], none⟩
def kc_slices_ContainsFunc_api_Slot_api_Slot : AC :=
  (Q (O [mc 4 F]) (Q (O [m 5 0, m 6 1, k 7 (f f_slices_IndexFunc_api_Slot_api_Slot) [(t 5), (t 6)], o 8 (.ar .geq (t 7) (i 0)), m 4 8]) R))
def ka_slices_ContainsFunc_api_Slot_api_Slot : AFn := ⟨kc_slices_ContainsFunc_api_Slot_api_Slot, 9, [.t 4], .keep, [], none⟩
def kc_morph_checker_entry_2 : AC :=
  (Q (O [o 2 (.bx t_api_Slot (t 0)), mc 3 F]) (Q (O [fa 4 2 1, ld 5 4, fa 6 3 2, ld 7 6, k 8 (f f_morph_clash) [(t 5), (t 7)], m 3 8]) R))
def ka_morph_checker_entry_2 : AFn := ⟨kc_morph_checker_entry_2, 9, [.t 3], .keep, [], none⟩
def kc_slices_ContainsFunc_api_Irregular_api_Irregular : AC :=
  (Q (O [mc 4 F]) (Q (O [m 5 0, m 6 1, k 7 (f f_slices_IndexFunc_api_Irregular_api_Irregular) [(t 5), (t 6)], o 8 (.ar .geq (t 7) (i 0)), m 4 8]) R))
def ka_slices_ContainsFunc_api_Irregular_api_Irregular : AFn := ⟨kc_slices_ContainsFunc_api_Irregular_api_Irregular, 9, [.t 4], .keep, [], none⟩
def kc_morph_checker_entry_3 : AC :=
  (Q (O [o 2 (.bx t_api_Irregular (t 0)), mc 3 F]) (Q (O [fa 4 0 2, ld 5 4, fa 6 0 1, ld 7 6, o 8 (.ar .eql (t 5) (t 7)), m 3 8]) R))
def ka_morph_checker_entry_3 : AFn := ⟨kc_morph_checker_entry_3, 9, [.t 3], .keep, [], none⟩
def kc_morph_around : AC :=
  (Q (O [mc 2 F]) (Q (O [m 3 0, k 4 (f f_morph_symbol) [(t 3)], m 5 4, h 6 5 (.mv (t 0)), h 7 5 (.ar .eql (t 6) (u 35)), o 8 (.pk (t 5) T (t 7)), m 9 8, h 10 9 (.mv (t 0)), h 11 9
  (.ar .eql (t 10) (u 86)), o 12 (.pk (t 9) T (t 11)), m 13 12, h 14 13 (.mv (t 0)), h 15 13 (.ar .eql (t 14) (u 67)), o 16 (.pk (t 13) T (t 15)), m 2 16]) R))
def ka_morph_around : AFn := ⟨kc_morph_around, 17, [.t 2], .keep, [], none⟩
def l_kstrings_Replace_0 : AC :=
  (Q (O [bl 54 53 52]) (Q (C 54 X (.exit 0)) (Q (.block 1 (Q (O [m 55 11, m 56 0, m 57 11, o 58 (.sls (t 56) (some (t 57)) none), m 59 1, k 60 (f f_strings_Index) [(t 58), (t 59)], o
  61 (.ar .add (t 55) (t 60)), m 12 61]) (Q (O [m 62 0, m 63 11, m 64 12, o 65 (.sls (t 62) (some (t 63)) (some (t 64))), k 66 (f f_strings_Builder_WriteString) [(t 10), (t 65)]]) (Q
  (O [m 67 2, k 68 (f f_strings_Builder_WriteString) [(t 10), (t 67)]]) (O [m 69 12, m 70 1, lt 71 70, o 72 (.ar .add (t 69) (t 71)), m 11 72]))))) (O [ad 73 53, m 53 73]))))
def l_kstrings_Replace_1 : AC :=
  (Q (O [bl 79 78 77]) (Q (C 79 X (.exit 2)) (Q (.block 3 (Q (O [m 81 0, m 82 11, o 83 (.sls (t 81) (some (t 82)) none), k 84 (f f_unicode_utf8_DecodeRuneInString) [(t 83)], m 80 84,
  ex 85 80 0, ex 86 80 1, m 13 85, m 14 86]) (Q (O [m 87 11, m 88 14, o 89 (.ar .add (t 87) (t 88)), m 15 89]) (Q (O [m 90 0, m 91 11, m 92 15, o 93 (.sls (t 90) (some (t 91)) (some
  (t 92))), k 94 (f f_strings_Builder_WriteString) [(t 10), (t 93)]]) (Q (O [m 95 2, k 96 (f f_strings_Builder_WriteString) [(t 10), (t 95)]]) (O [m 97 15, m 11 97])))))) (O [ad 98
  78, m 78 98]))))
def kc_strings_Replace : AC :=
  (Q (O [mc 8 (s [])]) (Q (Q (O [m 16 1, m 17 2, o 18 (.ar .eql (t 16) (t 17)), m 19 18, h 20 19 (.mv (t 3)), h 21 19 (.ar .eql (t 20) (i 0)), o 22 (.pk (t 19) T (t 21))]) (C 22 (Q (O
  [m 23 0, m 8 23]) R) X)) (Q (Q (O [m 24 0, m 25 1, k 26 (f f_strings_Count) [(t 24), (t 25)], m 9 26]) (Q (O [m 27 9, o 28 (.ar .eql (t 27) (i 0))]) (C 28 (Q (O [m 29 0, m 8 29]) R)
  (Q (O [m 30 3, o 31 (.ar .lss (t 30) (i 0)), m 32 31, h 33 32 (.mv (t 9)), h 34 32 (.mv (t 3)), h 35 32 (.ar .lss (t 33) (t 34)), o 36 (.pk (t 32) T (t 35))]) (C 36 (O [m 37 9, m 3
  37]) X))))) (Q (O [o 10 (.nw [.nilp, (.slice .nil 1 [])] t_strings_Builder)]) (Q (O [m 38 0, lt 39 38, m 40 3, m 41 2, lt 42 41, m 43 1, lt 44 43, o 45 (.ar .sub (t 42) (t 44)), o
  46 (.ar .mul (t 40) (t 45)), o 47 (.ar .add (t 39) (t 46)), k 48 (f f_strings_Builder_Grow) [(t 10), (t 47)]]) (Q (O [mc 11 (i 0)]) (Q (Q (O [m 49 1, lt 50 49, o 51 (.ar .gtr (t 50)
  (i 0))]) (C 51 (Q (O [m 52 3, mc 53 (i 0)]) (.block 0 (.loop ⟨none, [], false⟩ l_kstrings_Replace_0))) (Q (O [m 74 2, k 75 (f f_strings_Builder_WriteString) [(t 10), (t 74)]]) (Q (O
  [m 76 3, o 77 (.ar .sub (t 76) (i 1)), mc 78 (i 0)]) (.block 2 (.loop ⟨none, [], false⟩ l_kstrings_Replace_1)))))) (Q (O [m 99 0, m 100 11, o 101 (.sls (t 99) (some (t 100)) none),
  k 102 (f f_strings_Builder_WriteString) [(t 10), (t 101)]]) (Q (O [k 103 (f f_strings_Builder_String) [(t 10)], m 8 103]) R)))))))))
def ka_strings_Replace : AFn := ⟨kc_strings_Replace, 104, [.t 8], .keep, [8], none⟩
def kc_morph_language_opens : AC :=
  (Q (O [o 4 (.bx t_morph_language (t 0)), o 6 (.bx t_api_Slot (t 2)), o 7 (.bx t_api_Link (t 3)), mc 8 F]) (Q (D [P (fa 9 0 4), P (fa 10 3 9), W (ld 11 10), P (m 12 1), P (ia 13 4 11
  12), P (fa 14 1 13), W (ld 15 14), P (fa 16 0 7), W (ld 17 16), P (o 18 (.ar .eql (t 15) (t 17))), P (m 19 18), P (g 20 19 (.fa 2 (t 7))), W (g 21 19 (.ld none (t 20))), W (g 22 19
  (.ld (some 6) (t 4))), P (g 23 19 (.mv (t 1))), W (g 24 19 (.ld (some 4) (t 6))), K (⟨(some 25), (some (19, true)), (.call (.c (.fn (.func f_morph_language_feats) [] [])) [(.t 22),
  (.t 23), (.t 24)])⟩), K (⟨(some 26), (some (19, true)), (.call (.c (.fn (.func f_morph_Subsumes) [] [])) [(.t 21), (.t 25)])⟩), P (o 27 (.pk (t 19) (t 26) F)), P (m 8 27)]) R))
def ka_morph_language_opens : AFn := ⟨kc_morph_language_opens, 28, [.t 8], .keep, [], none⟩
def kc_slices_Clone_api_First_api_First : AC :=
  (Q (O [mc 2 (.c (.slice .nil 3 []))]) (Q (Q (O [m 3 0, o 4 (.eq false .sl (t 3) (.c (.slice .nil 0 [])))]) (C 4 (Q (O [mc 2 (.c (.slice .nil 3 []))]) R) X)) (Q (O [o 5 (.bs 3 [(.int
  .i64 0), (.int .i64 0), (.int .i64 0)] 0 []), m 6 0, o 7 (.ap false t_api_First 3 24 false (t 5) (t 6)), m 2 7]) R)))
def ka_slices_Clone_api_First_api_First : AFn := ⟨kc_slices_Clone_api_First_api_First, 8, [.t 2], .keep, [], none⟩
def kc_strings_CutPrefix : AC :=
  (Q (O [mc 4 (s []), mc 5 F]) (Q (O [m 6 0, m 7 1, k 8 (f f_internal_stringslite_CutPrefix) [(t 6), (t 7)], ex 9 8 0, ex 10 8 1, m 4 9, m 5 10]) R))
def ka_strings_CutPrefix : AFn := ⟨kc_strings_CutPrefix, 11, [.t 4, .t 5], .keep, [], none⟩
def l_kmorph_each_api_Feat_0 : AC :=
  (Q (O [bl 17 16 15]) (Q (C 17 X (.exit 0)) (Q (.block 1 (Q (O [m 18 16, ia 19 2 14 16, la 20 2 19, o 8 (.nw [(.str []), (.str [])] t_api_Feat), m 7 18, n (.st 2 (t 8) (t 20))]) (Q
  (O [m 21 2, m 22 7, la 23 2 8, k 24 (t 21) [(t 22), (t 23)], m 9 24]) (Q (O [m 25 9, o 26 (.ar .neq (t 25) (u 0))]) (C 26 (Q (O [m 27 9, m 6 27]) R) X))))) (O [ad 28 16, m 16
  28]))))
def kc_morph_each_api_Feat : AC :=
  (Q (O [mc 6 (u 0)]) (Q (Q (O [m 10 0, ls 11 10, m 12 1, o 13 (.ar .gtr (t 11) (t 12))]) (C 13 (Q (O [mc 6 (u 3)]) R) X)) (Q (Q (O [m 14 0, ls 15 14, mc 16 (i 0)]) (.block 0 (.loop
  ⟨none, [], false⟩ l_kmorph_each_api_Feat_0))) (Q (O [mc 6 (u 0)]) R))))
def ka_morph_each_api_Feat : AFn := ⟨kc_morph_each_api_Feat, 29, [.t 6], .keep, [], none⟩
def kc_morph_checker_bundle_1 : AC :=
  (Q (O [o 5 (.bx t_api_Feat (t 1)), mc 6 (u 0)]) (Q (O [fa 8 0 2, fa 9 1 8, ld 10 9, o 11 (.mf (.func f_morph_checker_bundle_1_1) [] [(t 5)]), k 12 (f
  f_slices_IndexFunc_api_Trait_api_Trait) [(t 10), (t 11)], m 7 12]) (Q (.block 0 (Q (O [m 14 7, o 15 (.ar .lss (t 14) (i 0)), m 13 15]) (C 13 (Q (O [mc 6 (u 5)]) R) (Q (D [P (fa 17 0
  2), P (fa 18 1 17), W (ld 19 18), P (m 20 7), P (ia 21 2 19 20), P (fa 22 1 21), W (ld 23 22), P (fa 24 1 5), W (ld 25 24), E (k 26 (f f_slices_Contains_string_string) [(t 23), (t
  25)]), P (no 27 26), P (m 16 27)]) (C 16 (Q (O [mc 6 (u 1)]) R) (Q (D [P (m 29 0), P (o 30 (.ar .gtr (t 29) (i 0))), P (m 31 30), W (g 32 31 (.ld none (t 3))), P (g 33 31 (.mv (t
  0))), P (g 34 31 (.ar .sub (t 33) (i 1))), P (g 35 31 (.ias 2 (t 32) (t 34))), P (g 36 31 (.fa 0 (t 35))), W (g 37 31 (.ld none (t 36))), P (g 38 31 (.fa 0 (t 5))), W (g 39 31 (.ld
  none (t 38))), P (g 40 31 (.ar .eql (t 37) (t 39))), P (o 41 (.pk (t 31) (t 40) F)), P (m 28 41)]) (C 28 (Q (O [mc 6 (u 6)]) R) (Q (D [P (m 43 0), P (o 44 (.ar .gtr (t 43) (i 0))),
  P (m 45 44), W (g 46 45 (.ld none (t 3))), P (g 47 45 (.mv (t 0))), P (g 48 45 (.ar .sub (t 47) (i 1))), P (g 49 45 (.ias 2 (t 46) (t 48))), P (g 50 45 (.fa 0 (t 49))), W (g 51 45
  (.ld none (t 50))), P (g 52 45 (.fa 0 (t 5))), W (g 53 45 (.ld none (t 52))), P (g 54 45 (.ar .gtr (t 51) (t 53))), P (o 55 (.pk (t 45) (t 54) F)), P (m 42 55)]) (C 42 (Q (O [mc 6
  (u 1)]) R) X))))))))) (Q (O [mc 6 (u 0)]) R))))
def ka_morph_checker_bundle_1 : AFn := ⟨kc_morph_checker_bundle_1, 56, [.t 6], .keep, [], none⟩
def l_kslices_IndexFunc_api_Trait_api_Trait_0 : AC :=
  (Q (O [bl 9 8 7]) (Q (C 9 X (.exit 0)) (Q (.block 1 (Q (O [m 10 8, m 5 10]) (Q (O [m 11 1, m 12 0, m 13 5, ia 14 2 12 13, la 15 2 14, k 16 (t 11) [(t 15)]]) (C 16 (Q (O [m 17 5, m 4
  17]) R) X)))) (O [ad 18 8, m 8 18]))))
def kc_slices_IndexFunc_api_Trait_api_Trait : AC :=
  (Q (O [mc 4 (i 0)]) (Q (Q (O [m 6 0, ls 7 6, mc 8 (i 0)]) (.block 0 (.loop ⟨none, [], false⟩ l_kslices_IndexFunc_api_Trait_api_Trait_0))) (Q (O [mc 4 (i (-1))]) R)))
def ka_slices_IndexFunc_api_Trait_api_Trait : AFn := ⟨kc_slices_IndexFunc_api_Trait_api_Trait, 19, [.t 4], .keep, [], none⟩
def kc_morph_checker_bundle_1_1 : AC :=
  (Q (O [o 2 (.bx t_api_Trait (t 0)), mc 3 F]) (Q (O [fa 4 0 2, ld 5 4, fa 6 0 1, ld 7 6, o 8 (.ar .eql (t 5) (t 7)), m 3 8]) R))
def ka_morph_checker_bundle_1_1 : AFn := ⟨kc_morph_checker_bundle_1_1, 9, [.t 3], .keep, [], none⟩
def l_kslices_IndexFunc_api_Class_api_Class_0 : AC :=
  (Q (O [bl 9 8 7]) (Q (C 9 X (.exit 0)) (Q (.block 1 (Q (O [m 10 8, m 5 10]) (Q (O [m 11 1, m 12 0, m 13 5, ia 14 2 12 13, la 15 2 14, k 16 (t 11) [(t 15)]]) (C 16 (Q (O [m 17 5, m 4
  17]) R) X)))) (O [ad 18 8, m 8 18]))))
def kc_slices_IndexFunc_api_Class_api_Class : AC :=
  (Q (O [mc 4 (i 0)]) (Q (Q (O [m 6 0, ls 7 6, mc 8 (i 0)]) (.block 0 (.loop ⟨none, [], false⟩ l_kslices_IndexFunc_api_Class_api_Class_0))) (Q (O [mc 4 (i (-1))]) R)))
def ka_slices_IndexFunc_api_Class_api_Class : AFn := ⟨kc_slices_IndexFunc_api_Class_api_Class, 19, [.t 4], .keep, [], none⟩
def kc_morph_classOf_1 : AC :=
  (Q (O [o 2 (.bx t_api_Class (t 0)), mc 3 F]) (Q (O [fa 4 0 2, ld 5 4, ld 6 1, o 7 (.ar .eql (t 5) (t 6)), m 3 7]) R))
def ka_morph_classOf_1 : AFn := ⟨kc_morph_classOf_1, 8, [.t 3], .keep, [], none⟩
def kc_internal_stringslite_HasPrefix : AC :=
  (Q (O [mc 4 F]) (Q (O [m 5 0, lt 6 5, m 7 1, lt 8 7, o 9 (.ar .geq (t 6) (t 8)), m 10 9, g 11 10 (.mv (t 0)), g 12 10 (.mv (t 1)), g 13 10 (.len .str (t 12)), g 14 10 (.sls (t 11)
  none (some (t 13))), g 15 10 (.mv (t 1)), g 16 10 (.ar .eql (t 14) (t 15)), o 17 (.pk (t 10) (t 16) F), m 4 17]) R))
def ka_internal_stringslite_HasPrefix : AFn := ⟨kc_internal_stringslite_HasPrefix, 18, [.t 4], .keep, [], none⟩
def kc_morph_language_match : AC :=
  (Q (O [o 4 (.bx t_morph_language (t 0)), mc 8 F]) (Q (Q (O [m 11 3, o 12 (.ar .lss (t 11) (i 0)), m 13 12, h 14 13 (.mv (t 3)), h 15 13 (.mv (t 2)), h 16 13 (.len .str (t 15)), h 17
  13 (.ar .geq (t 14) (t 16)), o 18 (.pk (t 13) T (t 17))]) (C 18 (Q (O [m 19 1, o 20 (.ar .eql (t 19) (u 35)), m 21 20, g 22 21 (.mv (t 3)), g 23 21 (.ar .eql (t 22) (i (-1))), g 24
  21 (.mv (t 23)), h 25 24 (.mv (t 3)), h 26 24 (.mv (t 2)), h 27 24 (.len .str (t 26)), h 28 24 (.ar .eql (t 25) (t 27)), g 29 21 (.pk (t 24) T (t 28)), o 30 (.pk (t 21) (t 29) F), m
  8 30]) R) X)) (Q (O [m 31 2, m 32 3, o 33 (.ixs (t 31) (t 32)), m 9 33]) (Q (O [fa 34 0 4, fa 35 0 34, ld 36 35, m 37 9, k 38 (f f_strings_IndexByte) [(t 36), (t 37)], o 39 (.ar
  .geq (t 38) (i 0)), m 10 39]) (Q (Q (O [m 40 1]) (.block 0 (Q (.block 2 (Q (.block 1 (Q (Q (Q (O [o 42 (.ar .eql (t 40) (u 67)), m 41 42]) (C 41 (.exit 1) X)) (Q (O [o 44 (.ar .eql
  (t 40) (u 86)), m 43 44]) (C 43 (.exit 2) X))) (.exit 0))) (O [m 45 10, no 46 45, m 10 46]))) (Q (Q (O [m 47 9, k 48 (f f_morph_letter) [(t 47)], m 49 48, g 50 49 (.mv (t 10)), o 51
  (.pk (t 49) (t 50) F), m 8 51]) R) (.exit 0))))) (Q (O [m 52 1, m 53 9, o 54 (.ar .eql (t 52) (t 53)), m 8 54]) R))))))
def ka_morph_language_match : AFn := ⟨kc_morph_language_match, 55, [.t 8], .keep, [], none⟩
def kc_strings_Builder_copyCheck : AC :=
  (Q (O [m 2 0, o 3 (.nc (t 2)), fa 4 0 3, ld 5 4, o 6 (.eq false .ptr (t 5) (.c .nilp))]) (C 6 (O [m 7 0, m 8 0, o 9 (.cvu (t 8)), k 10 (f f_internal_abi_NoEscape) [(t 9)], o 11
  (.cvf t_strings_Builder 2 (t 10)), o 12 (.nc (t 7)), fa 13 0 12, n (.st 1 (t 13) (t 11))]) (Q (O [m 14 0, o 15 (.nc (t 14)), fa 16 0 15, ld 17 16, m 18 0, o 19 (.eq true .ptr (t 17)
  (t 18))]) (C 19 .bad X))))
def ka_strings_Builder_copyCheck : AFn := ⟨kc_strings_Builder_copyCheck, 20, [], .keep, [], none⟩
def kc_slices_Grow_api_Feat_api_Feat : AC :=
  (Q (O [mc 4 (.c (.slice .nil 2 []))]) (Q (Q (O [m 5 1, o 6 (.ar .lss (t 5) (i 0))]) (C 6 (O [o 7 (.mi t_string (s [99, 97, 110, 110, 111, 116, 32, 98, 101, 32, 110, 101, 103, 97,
  116, 105, 118, 101])), ⟨none, none, (.panic (.t 7))⟩]) X)) (Q (Q (O [m 8 1, m 9 0, o 10 (.cap (t 9)), m 11 0, ls 12 11, o 13 (.ar .sub (t 10) (t 12)), o 14 (.ar .sub (t 8) (t 13)),
  m 1 14]) (Q (O [m 15 1, o 16 (.ar .gtr (t 15) (i 0))]) (C 16 (O [m 17 0, m 18 0, o 19 (.cap (t 18)), o 20 (.sll 2 (t 17) none (some (t 19)) none), m 21 1, o 22 (.apz t_api_Feat 2 32
  [(.str []), (.str [])] (t 20) (t 21)), m 23 0, ls 24 23, o 25 (.sll 2 (t 22) none (some (t 24)) none), m 0 25]) X))) (Q (O [m 26 0, m 4 26]) R))))
def ka_slices_Grow_api_Feat_api_Feat : AFn := ⟨kc_slices_Grow_api_Feat_api_Feat, 27, [.t 4], .keep, [], none⟩
def l_kslices_pdqsortCmpFunc_api_Feat_0 : AC :=
  (.block 1 (Q (O [m 21 2, m 22 1, o 23 (.ar .sub (t 21) (t 22)), m 12 23]) (Q (Q (O [m 24 12, o 25 (.ar .leq (t 24) (i 12))]) (C 25 (Q (O [m 26 0, m 27 1, m 28 2, m 29 4, k 30 (f
  f_slices_insertionSortCmpFunc_api_Feat) [(t 26), (t 27), (t 28), (t 29)]]) R) X)) (Q (Q (O [m 31 3, o 32 (.ar .eql (t 31) (i 0))]) (C 32 (Q (O [m 33 0, m 34 1, m 35 2, m 36 4, k 37
  (f f_slices_heapSortCmpFunc_api_Feat) [(t 33), (t 34), (t 35), (t 36)]]) R) X)) (Q (Q (O [m 38 10, no 39 38]) (C 39 (Q (O [m 40 0, m 41 1, m 42 2, m 43 4, k 44 (f
  f_slices_breakPatternsCmpFunc_api_Feat) [(t 40), (t 41), (t 42), (t 43)]]) (O [m 45 3, o 46 (.ar .sub (t 45) (i 1)), m 3 46])) X)) (Q (O [m 48 0, m 49 1, m 50 2, m 51 4, k 52 (f
  f_slices_choosePivotCmpFunc_api_Feat) [(t 48), (t 49), (t 50), (t 51)], m 47 52, ex 53 47 0, ex 54 47 1, m 13 53, m 14 54]) (Q (Q (O [m 55 14, o 56 (.ar .eql (t 55) (i 2))]) (C 56
  (Q (O [m 57 0, m 58 1, m 59 2, m 60 4, k 61 (f f_slices_reverseRangeCmpFunc_api_Feat) [(t 57), (t 58), (t 59), (t 60)]]) (Q (O [m 62 2, o 63 (.ar .sub (t 62) (i 1)), m 64 13, m 65
  1, o 66 (.ar .sub (t 64) (t 65)), o 67 (.ar .sub (t 63) (t 66)), m 13 67]) (O [mc 14 (i 1)]))) X)) (Q (Q (O [m 68 10, m 69 68, g 70 69 (.mv (t 11)), o 71 (.pk (t 69) (t 70) F), m 72
  71, g 73 72 (.mv (t 14)), g 74 72 (.ar .eql (t 73) (i 1)), o 75 (.pk (t 72) (t 74) F)]) (C 75 (Q (O [m 76 0, m 77 1, m 78 2, m 79 4, k 80 (f
  f_slices_partialInsertionSortCmpFunc_api_Feat) [(t 76), (t 77), (t 78), (t 79)]]) (C 80 R X)) X)) (Q (Q (D [P (m 81 1), P (o 82 (.ar .gtr (t 81) (i 0))), P (m 83 82), P (g 84 83
  (.mv (t 4))), P (g 85 83 (.mv (t 0))), P (g 86 83 (.mv (t 1))), P (g 87 83 (.ar .sub (t 86) (i 1))), P (g 88 83 (.ias 2 (t 85) (t 87))), W (g 89 83 (.ld (some 2) (t 88))), P (g 90
  83 (.mv (t 0))), P (g 91 83 (.mv (t 13))), P (g 92 83 (.ias 2 (t 90) (t 91))), W (g 93 83 (.ld (some 2) (t 92))), E (⟨(some 94), (some (83, true)), (.call (.t 84) [(.t 89), (.t
  93)])⟩), P (g 95 83 (.ar .lss (t 94) (i 0))), P (g 96 83 (.un .not (t 95))), P (o 97 (.pk (t 83) (t 96) F))]) (C 97 (Q (O [m 98 0, m 99 1, m 100 2, m 101 13, m 102 4, k 103 (f
  f_slices_partitionEqualCmpFunc_api_Feat) [(t 98), (t 99), (t 100), (t 101), (t 102)], m 15 103]) (Q (O [m 104 15, m 1 104]) (.exit 1))) X)) (Q (O [m 106 0, m 107 1, m 108 2, m 109
  13, m 110 4, k 111 (f f_slices_partitionCmpFunc_api_Feat) [(t 106), (t 107), (t 108), (t 109), (t 110)], m 105 111, ex 112 105 0, ex 113 105 1, m 16 112, m 17 113]) (Q (O [m 114 17,
  m 11 114]) (Q (O [m 115 16, m 116 1, o 117 (.ar .sub (t 115) (t 116)), m 118 2, m 119 16, o 120 (.ar .sub (t 118) (t 119)), m 18 117, m 19 120]) (Q (O [m 121 12, o 122 (.ar .quo (t
  121) (i 8)), m 20 122]) (Q (O [m 123 18, m 124 19, bl 125 123 124]) (C 125 (Q (O [m 126 18, m 127 20, o 128 (.ar .geq (t 126) (t 127)), m 10 128]) (Q (O [m 129 0, m 130 1, m 131 16,
  m 132 3, m 133 4, k 134 (f f_slices_pdqsortCmpFunc_api_Feat) [(t 129), (t 130), (t 131), (t 132), (t 133)]]) (O [m 135 16, ad 136 135, m 1 136]))) (Q (O [m 137 19, m 138 20, o 139
  (.ar .geq (t 137) (t 138)), m 10 139]) (Q (O [m 140 0, m 141 16, ad 142 141, m 143 2, m 144 3, m 145 4, k 146 (f f_slices_pdqsortCmpFunc_api_Feat) [(t 140), (t 142), (t 143), (t
  144), (t 145)]]) (O [m 147 16, m 2 147]))))))))))))))))))
def kc_slices_pdqsortCmpFunc_api_Feat : AC :=
  (Q (O [mc 10 T]) (Q (O [mc 11 T]) (.block 0 (.loop ⟨none, [], false⟩ l_kslices_pdqsortCmpFunc_api_Feat_0))))
def ka_slices_pdqsortCmpFunc_api_Feat : AFn := ⟨kc_slices_pdqsortCmpFunc_api_Feat, 148, [], .keep, [], none⟩
def kc_math_bits_Len : AC :=
  (Q (O [mc 2 (i 0)]) (Q (.cond (.c (.bool false)) (Q (O [m 3 0, o 4 (.cvi .u32 (t 3)), k 5 (f f_math_bits_Len32) [(t 4)], m 2 5]) R) X) (Q (O [m 6 0, k 7 (f f_math_bits_Len64) [(t
  6)], m 2 7]) R)))
def ka_math_bits_Len : AFn := ⟨kc_math_bits_Len, 8, [.t 2], .keep, [], none⟩
def kc_internal_bytealg_CompareString : AC :=
  (Q (O [mc 4 (i 0)]) (Q (O [m 5 0, m 6 1, k 7 (f f_internal_bytealg_abigen_runtime_cmpstring) [(t 5), (t 6)], m 4 7]) R))
def ka_internal_bytealg_CompareString : AFn := ⟨kc_internal_bytealg_CompareString, 8, [.t 4], .keep, [], none⟩
def l_kunicode_utf8_RuneCountInString_0 : AC :=
  (Q (O [o 5 (.nx (t 4)), ex 6 5 0]) (Q (C 6 X (.exit 0)) (.block 1 (O [m 7 2, ad 8 7, m 2 8]))))
def kc_unicode_utf8_RuneCountInString : AC :=
  (Q (O [mc 2 (i 0)]) (Q (Q (O [m 3 0, o 4 (.rg (t 3))]) (.block 0 (.loop ⟨none, [], false⟩ l_kunicode_utf8_RuneCountInString_0))) (Q (O [m 9 2, m 2 9]) R)))
def ka_unicode_utf8_RuneCountInString : AFn := ⟨kc_unicode_utf8_RuneCountInString, 10, [.t 2], .keep, [], none⟩
def kc_unicode_utf8_DecodeRuneInString : AC :=
  (Q (O [mc 2 (.c (.int .i32 0)), mc 3 (i 0)]) (Q (Q (O [m 4 0, o 5 (.ar .neq (t 4) (s [])), m 6 5, g 7 6 (.mv (t 0)), g 8 6 (.ixs (t 7) (i 0)), g 9 6 (.ar .lss (t 8) (u 128)), o 10
  (.pk (t 6) (t 9) F)]) (C 10 (Q (O [m 11 0, o 12 (.ixs (t 11) (i 0)), o 13 (.cvi .i32 (t 12)), m 2 13, mc 3 (i 1)]) R) (O [m 15 0, k 16 (f f_unicode_utf8_decodeRuneInStringSlow) [(t
  15)], m 14 16, ex 17 14 0, ex 18 14 1, m 2 17, m 3 18]))) R))
def ka_unicode_utf8_DecodeRuneInString : AFn := ⟨kc_unicode_utf8_DecodeRuneInString, 19, [.t 2, .t 3], .keep, [], none⟩
def l_kinternal_stringslite_Index_0 : AC :=
  (Q (Q (O [m 57 8, m 58 9, bl 59 57 58]) (C 59 X (.exit 1))) (.block 2 (Q (Q (O [m 60 0, m 61 8, o 62 (.ixs (t 60) (t 61)), m 63 6, o 64 (.ar .neq (t 62) (t 63))]) (C 64 (Q (O [m 65
  0, m 66 8, ad 67 66, m 68 9, o 69 (.sls (t 65) (some (t 67)) (some (t 68))), m 70 6, k 71 (f f_internal_stringslite_IndexByte) [(t 69), (t 70)], m 11 71]) (Q (Q (O [m 72 11, o 73
  (.ar .lss (t 72) (i 0))]) (C 73 (Q (O [mc 4 (i (-1))]) R) X)) (O [m 74 8, m 75 11, ad 76 75, o 77 (.ar .add (t 74) (t 76)), m 8 77]))) X)) (Q (Q (O [m 78 0, m 79 8, ad 80 79, o 81
  (.ixs (t 78) (t 80)), m 82 7, o 83 (.ar .eql (t 81) (t 82)), m 84 83, g 85 84 (.mv (t 0)), g 86 84 (.mv (t 8)), g 87 84 (.mv (t 8)), g 88 84 (.mv (t 5)), g 89 84 (.ar .add (t 87) (t
  88)), g 90 84 (.sls (t 85) (some (t 86)) (some (t 89))), g 91 84 (.mv (t 1)), g 92 84 (.ar .eql (t 90) (t 91)), o 93 (.pk (t 84) (t 92) F)]) (C 93 (Q (O [m 94 8, m 4 94]) R) X)) (Q
  (O [m 95 8, ad 96 95, m 8 96]) (Q (O [m 97 10, ad 98 97, m 10 98]) (Q (O [m 99 5, o 100 (.ld none (.c .unk)), o 101 (.ar .leq (t 99) (t 100)), m 102 101, g 103 102 (.mv (t 10)), g
  104 102 (.mv (t 8)), ⟨(some 105), (some (102, true)), (.call (.c (.fn (.func f_internal_bytealg_Cutover) [] [])) [(.t 104)])⟩, g 106 102 (.ar .gtr (t 103) (t 105)), o 107 (.pk (t
  102) (t 106) F)]) (C 107 (Q (O [m 108 0, m 109 8, o 110 (.sls (t 108) (some (t 109)) none), m 111 1, k 112 (f f_internal_bytealg_IndexString) [(t 110), (t 111)], m 12 112]) (Q (Q (O
  [m 113 12, o 114 (.ar .geq (t 113) (i 0))]) (C 114 (Q (O [m 115 12, m 116 8, o 117 (.ar .add (t 115) (t 116)), m 4 117]) R) X)) (Q (O [mc 4 (i (-1))]) R))) (Q (O [m 118 5, o 119
  (.ld none (.c .unk)), o 120 (.ar .gtr (t 118) (t 119)), m 121 120, g 122 121 (.mv (t 10)), g 123 121 (.mv (t 8)), g 124 121 (.sh .shr (t 123) (.c (.int .u64 4))), g 125 121 (.ar
  .add (i 4) (t 124)), g 126 121 (.ar .geq (t 122) (t 125)), o 127 (.pk (t 121) (t 126) F), m 128 127, g 129 128 (.mv (t 8)), g 130 128 (.mv (t 9)), g 131 128 (.ar .lss (t 129) (t
  130)), o 132 (.pk (t 128) (t 131) F)]) (C 132 (Q (O [m 133 0, m 134 8, o 135 (.sls (t 133) (some (t 134)) none), m 136 1, k 137 (f f_internal_bytealg_IndexRabinKarp_string) [(t
  135), (t 136)], m 13 137]) (Q (Q (O [m 138 13, o 139 (.ar .lss (t 138) (i 0))]) (C 139 (Q (O [mc 4 (i (-1))]) R) X)) (Q (O [m 140 8, m 141 13, o 142 (.ar .add (t 140) (t 141)), m 4
  142]) R))) X))))))))))
def kc_internal_stringslite_Index : AC :=
  (Q (O [mc 4 (i 0)]) (Q (O [m 14 1, lt 15 14, m 5 15]) (Q (.block 0 (Q (O [m 17 5, o 18 (.ar .eql (t 17) (i 0)), m 19 18, h 20 19 (.mv (t 1)), h 21 19 (.mv (t 0)), h 22 19 (.ar .eql
  (t 20) (t 21)), o 23 (.pk (t 19) T (t 22)), m 16 23]) (C 16 (Q (O [mc 4 (i 0)]) R) (Q (O [m 25 5, o 26 (.ar .eql (t 25) (i 1)), m 24 26]) (C 24 (Q (O [m 27 0, m 28 1, o 29 (.ixs (t
  28) (i 0)), k 30 (f f_internal_stringslite_IndexByte) [(t 27), (t 29)], m 4 30]) R) (Q (O [m 32 5, m 33 0, lt 34 33, o 35 (.ar .geq (t 32) (t 34)), m 31 35]) (C 31 (Q (O [mc 4 (i
  (-1))]) R) (Q (O [m 37 5, o 38 (.ld none (.c .unk)), o 39 (.ar .leq (t 37) (t 38)), m 40 39, g 41 40 (.mv (t 0)), g 42 40 (.len .str (t 41)), g 43 40 (.ar .leq (t 42) (i 64)), o 44
  (.pk (t 40) (t 43) F), m 36 44]) (C 36 (Q (O [m 45 0, m 46 1, k 47 (f f_internal_bytealg_IndexString) [(t 45), (t 46)], m 4 47]) R) X))))))))) (Q (O [m 48 1, o 49 (.ixs (t 48) (i
  0)), m 6 49]) (Q (O [m 50 1, o 51 (.ixs (t 50) (i 1)), m 7 51]) (Q (O [mc 8 (i 0)]) (Q (O [m 52 0, lt 53 52, m 54 5, o 55 (.ar .sub (t 53) (t 54)), ad 56 55, m 9 56]) (Q (O [mc 10
  (i 0)]) (Q (.block 1 (.loop ⟨none, [], false⟩ l_kinternal_stringslite_Index_0)) (Q (O [mc 4 (i (-1))]) R))))))))))
def ka_internal_stringslite_Index : AFn := ⟨kc_internal_stringslite_Index, 143, [.t 4], .keep, [], none⟩
def kc_strconv_Atoi : AC :=
  (Q (O [mc 2 (i 0), mc 3 (.c .nilif)]) (Q (O [m 7 0, k 8 (f f_internal_strconv_Atoi) [(t 7)], m 6 8, ex 9 6 0, ex 10 6 1, m 4 9, m 5 10]) (Q (Q (O [m 11 5, o 12 (.eq true (.ifc true)
  (t 11) (.c .nilif))]) (C 12 (Q (O [m 13 4, m 14 0, m 15 5, k 16 (f f_strconv_toError) [(s [65, 116, 111, 105]), (t 14), (i 0), (i 0), (t 15)], m 2 13, m 3 16]) R) X)) (Q (O [m 17 4,
  m 2 17, mc 3 (.c .nilif)]) R))))
def ka_strconv_Atoi : AFn := ⟨kc_strconv_Atoi, 18, [.t 2, .t 3], .keep, [], none⟩
def kc_strconv_Itoa : AC :=
  (Q (O [mc 2 (s [])]) (Q (O [m 3 0, k 4 (f f_internal_strconv_Itoa) [(t 3)], m 2 4]) R))
def ka_strconv_Itoa : AFn := ⟨kc_strconv_Itoa, 5, [.t 2], .keep, [], none⟩
def kc_strings_Cut : AC :=
  (Q (O [mc 4 (s []), mc 5 (s []), mc 6 F]) (Q (O [m 7 0, m 8 1, k 9 (f f_internal_stringslite_Cut) [(t 7), (t 8)], ex 10 9 0, ex 11 9 1, ex 12 9 2, m 4 10, m 5 11, m 6 12]) R))
def ka_strings_Cut : AFn := ⟨kc_strings_Cut, 13, [.t 4, .t 5, .t 6], .keep, [], none⟩
def l_kslices_IndexFunc_api_Entry_api_Entry_0 : AC :=
  (Q (O [bl 9 8 7]) (Q (C 9 X (.exit 0)) (Q (.block 1 (Q (O [m 10 8, m 5 10]) (Q (O [m 11 1, m 12 0, m 13 5, ia 14 4 12 13, la 15 4 14, k 16 (t 11) [(t 15)]]) (C 16 (Q (O [m 17 5, m 4
  17]) R) X)))) (O [ad 18 8, m 8 18]))))
def kc_slices_IndexFunc_api_Entry_api_Entry : AC :=
  (Q (O [mc 4 (i 0)]) (Q (Q (O [m 6 0, ls 7 6, mc 8 (i 0)]) (.block 0 (.loop ⟨none, [], false⟩ l_kslices_IndexFunc_api_Entry_api_Entry_0))) (Q (O [mc 4 (i (-1))]) R)))
def ka_slices_IndexFunc_api_Entry_api_Entry : AFn := ⟨kc_slices_IndexFunc_api_Entry_api_Entry, 19, [.t 4], .keep, [], none⟩
def l_kslices_IndexFunc_api_Slot_api_Slot_0 : AC :=
  (Q (O [bl 9 8 7]) (Q (C 9 X (.exit 0)) (Q (.block 1 (Q (O [m 10 8, m 5 10]) (Q (O [m 11 1, m 12 0, m 13 5, ia 14 4 12 13, la 15 4 14, k 16 (t 11) [(t 15)]]) (C 16 (Q (O [m 17 5, m 4
  17]) R) X)))) (O [ad 18 8, m 8 18]))))
def kc_slices_IndexFunc_api_Slot_api_Slot : AC :=
  (Q (O [mc 4 (i 0)]) (Q (Q (O [m 6 0, ls 7 6, mc 8 (i 0)]) (.block 0 (.loop ⟨none, [], false⟩ l_kslices_IndexFunc_api_Slot_api_Slot_0))) (Q (O [mc 4 (i (-1))]) R)))
def ka_slices_IndexFunc_api_Slot_api_Slot : AFn := ⟨kc_slices_IndexFunc_api_Slot_api_Slot, 19, [.t 4], .keep, [], none⟩
def l_kslices_IndexFunc_api_Irregular_api_Irregular_0 : AC :=
  (Q (O [bl 9 8 7]) (Q (C 9 X (.exit 0)) (Q (.block 1 (Q (O [m 10 8, m 5 10]) (Q (O [m 11 1, m 12 0, m 13 5, ia 14 2 12 13, la 15 2 14, k 16 (t 11) [(t 15)]]) (C 16 (Q (O [m 17 5, m 4
  17]) R) X)))) (O [ad 18 8, m 8 18]))))
def kc_slices_IndexFunc_api_Irregular_api_Irregular : AC :=
  (Q (O [mc 4 (i 0)]) (Q (Q (O [m 6 0, ls 7 6, mc 8 (i 0)]) (.block 0 (.loop ⟨none, [], false⟩ l_kslices_IndexFunc_api_Irregular_api_Irregular_0))) (Q (O [mc 4 (i (-1))]) R)))
def ka_slices_IndexFunc_api_Irregular_api_Irregular : AFn := ⟨kc_slices_IndexFunc_api_Irregular_api_Irregular, 19, [.t 4], .keep, [], none⟩
def kc_strings_Builder_Grow : AC :=
  (Q (O [m 4 0, k 5 (f f_strings_Builder_copyCheck) [(t 4)]]) (Q (Q (O [m 6 1, o 7 (.ar .lss (t 6) (i 0))]) (C 7 (O [o 8 (.mi t_string (s [115, 116, 114, 105, 110, 103, 115, 46, 66,
  117, 105, 108, 100, 101, 114, 46, 71, 114, 111, 119, 58, 32, 110, 101, 103, 97, 116, 105, 118, 101, 32, 99, 111, 117, 110, 116])), ⟨none, none, (.panic (.t 8))⟩]) X)) (Q (D [P (m 9
  0), P (o 10 (.nc (t 9))), P (fa 11 1 10), W (ld 12 11), P (o 13 (.cap (t 12))), P (m 14 0), P (o 15 (.nc (t 14))), P (fa 16 1 15), W (ld 17 16), W (ls 18 17), P (o 19 (.ar .sub (t
  13) (t 18))), P (m 20 1), P (bl 21 19 20)]) (C 21 (O [m 22 0, m 23 1, k 24 (f f_strings_Builder_grow) [(t 22), (t 23)]]) X))))
def ka_strings_Builder_Grow : AFn := ⟨kc_strings_Builder_Grow, 25, [], .keep, [], none⟩
def kc_internal_stringslite_CutPrefix : AC :=
  (Q (O [mc 4 (s []), mc 5 F]) (Q (Q (O [m 6 0, m 7 1, k 8 (f f_internal_stringslite_HasPrefix) [(t 6), (t 7)], no 9 8]) (C 9 (Q (O [m 10 0, m 4 10, mc 5 F]) R) X)) (Q (O [m 11 0, m
  12 1, lt 13 12, o 14 (.sls (t 11) (some (t 13)) none), m 4 14, mc 5 T]) R)))
def ka_internal_stringslite_CutPrefix : AFn := ⟨kc_internal_stringslite_CutPrefix, 15, [.t 4, .t 5], .keep, [], none⟩
def kc_strings_IndexByte : AC :=
  (Q (O [mc 4 (i 0)]) (Q (O [m 5 0, m 6 1, k 7 (f f_internal_stringslite_IndexByte) [(t 5), (t 6)], m 4 7]) R))
def ka_strings_IndexByte : AFn := ⟨kc_strings_IndexByte, 8, [.t 4], .keep, [], none⟩
def l_kslices_insertionSortCmpFunc_api_Feat_0 : AC :=
  (Q (Q (D [P (m 18 9), P (m 19 1), P (o 20 (.ar .gtr (t 18) (t 19))), P (m 21 20), P (g 22 21 (.mv (t 3))), P (g 23 21 (.mv (t 0))), P (g 24 21 (.mv (t 9))), P (g 25 21 (.ias 2 (t
  23) (t 24))), W (g 26 21 (.ld (some 2) (t 25))), P (g 27 21 (.mv (t 0))), P (g 28 21 (.mv (t 9))), P (g 29 21 (.ar .sub (t 28) (i 1))), P (g 30 21 (.ias 2 (t 27) (t 29))), W (g 31
  21 (.ld (some 2) (t 30))), E (⟨(some 32), (some (21, true)), (.call (.t 22) [(.t 26), (.t 31)])⟩), P (g 33 21 (.ar .lss (t 32) (i 0))), P (o 34 (.pk (t 21) (t 33) F))]) (C 34 X
  (.exit 2))) (Q (.block 3 (D [P (m 37 0), P (m 38 9), P (m 39 0), P (m 40 9), P (o 41 (.ar .sub (t 40) (i 1))), P (m 42 0), P (m 43 9), P (o 44 (.ar .sub (t 43) (i 1))), P (ia 45 2
  42 44), W (la 46 2 45), P (m 47 0), P (m 48 9), P (ia 49 2 47 48), W (la 50 2 49), P (ia 51 2 37 38), E (n (.st 2 (t 51) (t 46))), P (ia 52 2 39 41), E (n (.st 2 (t 52) (t 50)))]))
  (O [m 35 9, o 36 (.ar .sub (t 35) (i 1)), m 9 36])))
def l_kslices_insertionSortCmpFunc_api_Feat_1 : AC :=
  (Q (Q (O [m 12 8, m 13 2, bl 14 12 13]) (C 14 X (.exit 0))) (Q (.block 1 (Q (O [m 17 8, m 9 17]) (.block 2 (.loop ⟨none, [], false⟩ l_kslices_insertionSortCmpFunc_api_Feat_0)))) (O
  [m 15 8, ad 16 15, m 8 16])))
def kc_slices_insertionSortCmpFunc_api_Feat : AC :=
  (Q (O [m 10 1, ad 11 10, m 8 11]) (.block 0 (.loop ⟨none, [], false⟩ l_kslices_insertionSortCmpFunc_api_Feat_1)))
def ka_slices_insertionSortCmpFunc_api_Feat : AFn := ⟨kc_slices_insertionSortCmpFunc_api_Feat, 53, [], .keep, [], none⟩
def l_kslices_heapSortCmpFunc_api_Feat_0 : AC :=
  (Q (Q (O [m 20 11, o 21 (.ar .geq (t 20) (i 0))]) (C 21 X (.exit 0))) (Q (.block 1 (O [m 24 0, m 25 11, m 26 10, m 27 8, m 28 3, k 29 (f f_slices_siftDownCmpFunc_api_Feat) [(t 24),
  (t 25), (t 26), (t 27), (t 28)]])) (O [m 22 11, o 23 (.ar .sub (t 22) (i 1)), m 11 23])))
def l_kslices_heapSortCmpFunc_api_Feat_1 : AC :=
  (Q (Q (O [m 32 12, o 33 (.ar .geq (t 32) (i 0))]) (C 33 X (.exit 2))) (Q (.block 3 (Q (D [P (m 36 0), P (m 37 8), P (m 38 0), P (m 39 8), P (m 40 12), P (o 41 (.ar .add (t 39) (t
  40))), P (m 42 0), P (m 43 8), P (m 44 12), P (o 45 (.ar .add (t 43) (t 44))), P (ia 46 2 42 45), W (la 47 2 46), P (m 48 0), P (m 49 8), P (ia 50 2 48 49), W (la 51 2 50), P (ia 52
  2 36 37), E (n (.st 2 (t 52) (t 47))), P (ia 53 2 38 41), E (n (.st 2 (t 53) (t 51)))]) (O [m 54 0, m 55 9, m 56 12, m 57 8, m 58 3, k 59 (f f_slices_siftDownCmpFunc_api_Feat) [(t
  54), (t 55), (t 56), (t 57), (t 58)]]))) (O [m 34 12, o 35 (.ar .sub (t 34) (i 1)), m 12 35])))
def kc_slices_heapSortCmpFunc_api_Feat : AC :=
  (Q (O [m 13 1, m 8 13]) (Q (O [mc 9 (i 0)]) (Q (O [m 14 2, m 15 1, o 16 (.ar .sub (t 14) (t 15)), m 10 16]) (Q (Q (O [m 17 10, o 18 (.ar .sub (t 17) (i 1)), o 19 (.ar .quo (t 18) (i
  2)), m 11 19]) (.block 0 (.loop ⟨none, [], false⟩ l_kslices_heapSortCmpFunc_api_Feat_0))) (Q (O [m 30 10, o 31 (.ar .sub (t 30) (i 1)), m 12 31]) (.block 2 (.loop ⟨none, [], false⟩
  l_kslices_heapSortCmpFunc_api_Feat_1)))))))
def ka_slices_heapSortCmpFunc_api_Feat : AFn := ⟨kc_slices_heapSortCmpFunc_api_Feat, 60, [], .keep, [], none⟩
def l_kslices_breakPatternsCmpFunc_api_Feat_0 : AC :=
  (Q (Q (O [m 28 11, m 29 1, m 30 8, o 31 (.ar .quo (t 30) (i 4)), o 32 (.ar .mul (t 31) (i 2)), o 33 (.ar .add (t 29) (t 32)), ad 34 33, o 35 (.ar .leq (t 28) (t 34))]) (C 35 X
  (.exit 0))) (Q (.block 1 (Q (O [k 38 (f f_slices_xorshift_Next) [(t 9)], m 39 10, o 40 (.ar .sub (t 39) (.c (.int .u64 1))), o 41 (.ar .and (t 38) (t 40)), o 42 (.cvi .i64 (t 41)),
  m 12 42]) (Q (Q (O [m 43 12, m 44 8, o 45 (.ar .geq (t 43) (t 44))]) (C 45 (O [m 46 12, m 47 8, o 48 (.ar .sub (t 46) (t 47)), m 12 48]) X)) (D [P (m 49 0), P (m 50 11), P (m 51 0),
  P (m 52 1), P (m 53 12), P (o 54 (.ar .add (t 52) (t 53))), P (m 55 0), P (m 56 1), P (m 57 12), P (o 58 (.ar .add (t 56) (t 57))), P (ia 59 2 55 58), W (la 60 2 59), P (m 61 0), P
  (m 62 11), P (ia 63 2 61 62), W (la 64 2 63), P (ia 65 2 49 50), E (n (.st 2 (t 65) (t 60))), P (ia 66 2 51 54), E (n (.st 2 (t 66) (t 64)))])))) (O [m 36 11, ad 37 36, m 11 37])))
def kc_slices_breakPatternsCmpFunc_api_Feat : AC :=
  (Q (O [m 13 2, m 14 1, o 15 (.ar .sub (t 13) (t 14)), m 8 15]) (Q (O [m 16 8, o 17 (.ar .geq (t 16) (i 8))]) (C 17 (Q (O [m 18 8, o 19 (.cvi .u64 (t 18)), o 9 (.nw [(.int .u64 0)]
  t_slices_xorshift), n (.st 1 (t 9) (t 19))]) (Q (O [m 20 8, k 21 (f f_slices_nextPowerOfTwo) [(t 20)], m 10 21]) (Q (O [m 22 1, m 23 8, o 24 (.ar .quo (t 23) (i 4)), o 25 (.ar .mul
  (t 24) (i 2)), o 26 (.ar .add (t 22) (t 25)), o 27 (.ar .sub (t 26) (i 1)), m 11 27]) (.block 0 (.loop ⟨none, [], false⟩ l_kslices_breakPatternsCmpFunc_api_Feat_0))))) X)))
def ka_slices_breakPatternsCmpFunc_api_Feat : AFn := ⟨kc_slices_breakPatternsCmpFunc_api_Feat, 67, [], .keep, [], none⟩
def kc_slices_choosePivotCmpFunc_api_Feat : AC :=
  (Q (O [mc 8 (i 0), mc 9 (i 0)]) (Q (O [m 15 2, m 16 1, o 17 (.ar .sub (t 15) (t 16)), m 10 17]) (Q (O [o 11 (.nw [(.int .i64 0)] t_int)]) (Q (O [m 18 1, m 19 10, o 20 (.ar .quo (t
  19) (i 4)), o 21 (.ar .mul (t 20) (i 1)), o 22 (.ar .add (t 18) (t 21)), m 12 22]) (Q (O [m 23 1, m 24 10, o 25 (.ar .quo (t 24) (i 4)), o 26 (.ar .mul (t 25) (i 2)), o 27 (.ar .add
  (t 23) (t 26)), m 13 27]) (Q (O [m 28 1, m 29 10, o 30 (.ar .quo (t 29) (i 4)), o 31 (.ar .mul (t 30) (i 3)), o 32 (.ar .add (t 28) (t 31)), m 14 32]) (Q (Q (O [m 33 10, o 34 (.ar
  .geq (t 33) (i 8))]) (C 34 (Q (Q (O [m 35 10, o 36 (.ar .geq (t 35) (i 50))]) (C 36 (Q (O [m 37 0, m 38 12, m 39 3, k 40 (f f_slices_medianAdjacentCmpFunc_api_Feat) [(t 37), (t 38),
  (t 11), (t 39)], m 12 40]) (Q (O [m 41 0, m 42 13, m 43 3, k 44 (f f_slices_medianAdjacentCmpFunc_api_Feat) [(t 41), (t 42), (t 11), (t 43)], m 13 44]) (O [m 45 0, m 46 14, m 47 3,
  k 48 (f f_slices_medianAdjacentCmpFunc_api_Feat) [(t 45), (t 46), (t 11), (t 47)], m 14 48]))) X)) (O [m 49 0, m 50 12, m 51 13, m 52 14, m 53 3, k 54 (f
  f_slices_medianCmpFunc_api_Feat) [(t 49), (t 50), (t 51), (t 52), (t 11), (t 53)], m 13 54])) X)) (Q (O [ld 55 11]) (.block 0 (Q (O [o 58 (.ar .eql (t 55) (i 0)), m 57 58]) (C 57 (Q
  (O [m 59 13, m 8 59, mc 9 (i 1)]) R) (Q (O [o 61 (.ar .eql (t 55) (i 12)), m 60 61]) (C 60 (Q (O [m 62 13, m 8 62, mc 9 (i 2)]) R) (Q (O [m 56 13, m 8 56, mc 9 (i 0)])
  R))))))))))))))
def ka_slices_choosePivotCmpFunc_api_Feat : AFn := ⟨kc_slices_choosePivotCmpFunc_api_Feat, 63, [.t 8, .t 9], .keep, [], none⟩
def l_kslices_reverseRangeCmpFunc_api_Feat_0 : AC :=
  (Q (Q (O [m 13 8, m 14 9, bl 15 13 14]) (C 15 X (.exit 0))) (.block 1 (Q (D [P (m 16 0), P (m 17 8), P (m 18 0), P (m 19 9), P (m 20 0), P (m 21 9), P (ia 22 2 20 21), W (la 23 2
  22), P (m 24 0), P (m 25 8), P (ia 26 2 24 25), W (la 27 2 26), P (ia 28 2 16 17), E (n (.st 2 (t 28) (t 23))), P (ia 29 2 18 19), E (n (.st 2 (t 29) (t 27)))]) (Q (O [m 30 8, ad 31
  30, m 8 31]) (O [m 32 9, o 33 (.ar .sub (t 32) (i 1)), m 9 33])))))
def kc_slices_reverseRangeCmpFunc_api_Feat : AC :=
  (Q (O [m 10 1, m 8 10]) (Q (O [m 11 2, o 12 (.ar .sub (t 11) (i 1)), m 9 12]) (.block 0 (.loop ⟨none, [], false⟩ l_kslices_reverseRangeCmpFunc_api_Feat_0))))
def ka_slices_reverseRangeCmpFunc_api_Feat : AFn := ⟨kc_slices_reverseRangeCmpFunc_api_Feat, 34, [], .keep, [], none⟩
def l_kslices_partialInsertionSortCmpFunc_api_Feat_0 : AC :=
  (Q (Q (D [P (m 19 9), P (m 20 2), P (bl 21 19 20), P (m 22 21), P (g 23 22 (.mv (t 3))), P (g 24 22 (.mv (t 0))), P (g 25 22 (.mv (t 9))), P (g 26 22 (.ias 2 (t 24) (t 25))), W (g
  27 22 (.ld (some 2) (t 26))), P (g 28 22 (.mv (t 0))), P (g 29 22 (.mv (t 9))), P (g 30 22 (.ar .sub (t 29) (i 1))), P (g 31 22 (.ias 2 (t 28) (t 30))), W (g 32 22 (.ld (some 2) (t
  31))), E (⟨(some 33), (some (22, true)), (.call (.t 23) [(.t 27), (.t 32)])⟩), P (g 34 22 (.ar .lss (t 33) (i 0))), P (g 35 22 (.un .not (t 34))), P (o 36 (.pk (t 22) (t 35) F))])
  (C 36 X (.exit 2))) (.block 3 (O [m 37 9, ad 38 37, m 9 38])))
def l_kslices_partialInsertionSortCmpFunc_api_Feat_1 : AC :=
  (Q (Q (O [m 68 11, o 69 (.ar .geq (t 68) (i 1))]) (C 69 X (.exit 4))) (Q (.block 5 (Q (Q (D [P (m 72 3), P (m 73 0), P (m 74 11), P (ia 75 2 73 74), W (la 76 2 75), P (m 77 0), P (m
  78 11), P (o 79 (.ar .sub (t 78) (i 1))), P (ia 80 2 77 79), W (la 81 2 80), E (k 82 (t 72) [(t 76), (t 81)]), P (o 83 (.ar .lss (t 82) (i 0))), P (no 84 83)]) (C 84 (.exit 4) X))
  (D [P (m 85 0), P (m 86 11), P (m 87 0), P (m 88 11), P (o 89 (.ar .sub (t 88) (i 1))), P (m 90 0), P (m 91 11), P (o 92 (.ar .sub (t 91) (i 1))), P (ia 93 2 90 92), W (la 94 2 93),
  P (m 95 0), P (m 96 11), P (ia 97 2 95 96), W (la 98 2 97), P (ia 99 2 85 86), E (n (.st 2 (t 99) (t 94))), P (ia 100 2 87 89), E (n (.st 2 (t 100) (t 98)))]))) (O [m 70 11, o 71
  (.ar .sub (t 70) (i 1)), m 11 71])))
def l_kslices_partialInsertionSortCmpFunc_api_Feat_2 : AC :=
  (Q (Q (O [m 107 12, m 108 2, bl 109 107 108]) (C 109 X (.exit 6))) (Q (.block 7 (Q (Q (D [P (m 112 3), P (m 113 0), P (m 114 12), P (ia 115 2 113 114), W (la 116 2 115), P (m 117
  0), P (m 118 12), P (o 119 (.ar .sub (t 118) (i 1))), P (ia 120 2 117 119), W (la 121 2 120), E (k 122 (t 112) [(t 116), (t 121)]), P (o 123 (.ar .lss (t 122) (i 0))), P (no 124
  123)]) (C 124 (.exit 6) X)) (D [P (m 125 0), P (m 126 12), P (m 127 0), P (m 128 12), P (o 129 (.ar .sub (t 128) (i 1))), P (m 130 0), P (m 131 12), P (o 132 (.ar .sub (t 131) (i
  1))), P (ia 133 2 130 132), W (la 134 2 133), P (m 135 0), P (m 136 12), P (ia 137 2 135 136), W (la 138 2 137), P (ia 139 2 125 126), E (n (.st 2 (t 139) (t 134))), P (ia 140 2 127
  129), E (n (.st 2 (t 140) (t 138)))]))) (O [m 110 12, ad 111 110, m 12 111])))
def l_kslices_partialInsertionSortCmpFunc_api_Feat_3 : AC :=
  (Q (Q (O [m 15 10, o 16 (.ar .lss (t 15) (i 5))]) (C 16 X (.exit 0))) (Q (.block 1 (Q (.block 2 (.loop ⟨none, [], false⟩ l_kslices_partialInsertionSortCmpFunc_api_Feat_0)) (Q (Q (O
  [m 39 9, m 40 2, o 41 (.ar .eql (t 39) (t 40))]) (C 41 (Q (O [mc 8 T]) R) X)) (Q (Q (O [m 42 2, m 43 1, o 44 (.ar .sub (t 42) (t 43)), o 45 (.ar .lss (t 44) (i 50))]) (C 45 (Q (O
  [mc 8 F]) R) X)) (Q (D [P (m 46 0), P (m 47 9), P (m 48 0), P (m 49 9), P (o 50 (.ar .sub (t 49) (i 1))), P (m 51 0), P (m 52 9), P (o 53 (.ar .sub (t 52) (i 1))), P (ia 54 2 51
  53), W (la 55 2 54), P (m 56 0), P (m 57 9), P (ia 58 2 56 57), W (la 59 2 58), P (ia 60 2 46 47), E (n (.st 2 (t 60) (t 55))), P (ia 61 2 48 50), E (n (.st 2 (t 61) (t 59)))]) (Q
  (Q (O [m 62 9, m 63 1, o 64 (.ar .sub (t 62) (t 63)), o 65 (.ar .geq (t 64) (i 2))]) (C 65 (Q (O [m 66 9, o 67 (.ar .sub (t 66) (i 1)), m 11 67]) (.block 4 (.loop ⟨none, [], false⟩
  l_kslices_partialInsertionSortCmpFunc_api_Feat_1))) X)) (Q (O [m 101 2, m 102 9, o 103 (.ar .sub (t 101) (t 102)), o 104 (.ar .geq (t 103) (i 2))]) (C 104 (Q (O [m 105 9, ad 106
  105, m 12 106]) (.block 6 (.loop ⟨none, [], false⟩ l_kslices_partialInsertionSortCmpFunc_api_Feat_2))) X)))))))) (O [m 17 10, ad 18 17, m 10 18])))
def kc_slices_partialInsertionSortCmpFunc_api_Feat : AC :=
  (Q (O [mc 8 F]) (Q (O [m 13 1, ad 14 13, m 9 14]) (Q (Q (O [mc 10 (i 0)]) (.block 0 (.loop ⟨none, [], false⟩ l_kslices_partialInsertionSortCmpFunc_api_Feat_3))) (Q (O [mc 8 F])
  R))))
def ka_slices_partialInsertionSortCmpFunc_api_Feat : AFn := ⟨kc_slices_partialInsertionSortCmpFunc_api_Feat, 141, [.t 8], .keep, [], none⟩
def l_kslices_partitionEqualCmpFunc_api_Feat_0 : AC :=
  (Q (Q (D [P (m 31 11), P (m 32 12), P (o 33 (.ar .leq (t 31) (t 32))), P (m 34 33), P (g 35 34 (.mv (t 4))), P (g 36 34 (.mv (t 0))), P (g 37 34 (.mv (t 1))), P (g 38 34 (.ias 2 (t
  36) (t 37))), W (g 39 34 (.ld (some 2) (t 38))), P (g 40 34 (.mv (t 0))), P (g 41 34 (.mv (t 11))), P (g 42 34 (.ias 2 (t 40) (t 41))), W (g 43 34 (.ld (some 2) (t 42))), E (⟨(some
  44), (some (34, true)), (.call (.t 35) [(.t 39), (.t 43)])⟩), P (g 45 34 (.ar .lss (t 44) (i 0))), P (g 46 34 (.un .not (t 45))), P (o 47 (.pk (t 34) (t 46) F))]) (C 47 X (.exit
  2))) (.block 3 (O [m 48 11, ad 49 48, m 11 49])))
def l_kslices_partitionEqualCmpFunc_api_Feat_1 : AC :=
  (Q (Q (D [P (m 50 11), P (m 51 12), P (o 52 (.ar .leq (t 50) (t 51))), P (m 53 52), P (g 54 53 (.mv (t 4))), P (g 55 53 (.mv (t 0))), P (g 56 53 (.mv (t 1))), P (g 57 53 (.ias 2 (t
  55) (t 56))), W (g 58 53 (.ld (some 2) (t 57))), P (g 59 53 (.mv (t 0))), P (g 60 53 (.mv (t 12))), P (g 61 53 (.ias 2 (t 59) (t 60))), W (g 62 53 (.ld (some 2) (t 61))), E (⟨(some
  63), (some (53, true)), (.call (.t 54) [(.t 58), (.t 62)])⟩), P (g 64 53 (.ar .lss (t 63) (i 0))), P (o 65 (.pk (t 53) (t 64) F))]) (C 65 X (.exit 4))) (.block 5 (O [m 66 12, o 67
  (.ar .sub (t 66) (i 1)), m 12 67])))
def l_kslices_partitionEqualCmpFunc_api_Feat_2 : AC :=
  (.block 1 (Q (.block 2 (.loop ⟨none, [], false⟩ l_kslices_partitionEqualCmpFunc_api_Feat_0)) (Q (.block 4 (.loop ⟨none, [], false⟩ l_kslices_partitionEqualCmpFunc_api_Feat_1)) (Q (Q
  (O [m 68 11, m 69 12, o 70 (.ar .gtr (t 68) (t 69))]) (C 70 (.exit 0) X)) (Q (D [P (m 71 0), P (m 72 11), P (m 73 0), P (m 74 12), P (m 75 0), P (m 76 12), P (ia 77 2 75 76), W (la
  78 2 77), P (m 79 0), P (m 80 11), P (ia 81 2 79 80), W (la 82 2 81), P (ia 83 2 71 72), E (n (.st 2 (t 83) (t 78))), P (ia 84 2 73 74), E (n (.st 2 (t 84) (t 82)))]) (Q (O [m 85
  11, ad 86 85, m 11 86]) (O [m 87 12, o 88 (.ar .sub (t 87) (i 1)), m 12 88])))))))
def kc_slices_partitionEqualCmpFunc_api_Feat : AC :=
  (Q (O [mc 10 (i 0)]) (Q (D [P (m 13 0), P (m 14 1), P (m 15 0), P (m 16 3), P (m 17 0), P (m 18 3), P (ia 19 2 17 18), W (la 20 2 19), P (m 21 0), P (m 22 1), P (ia 23 2 21 22), W
  (la 24 2 23), P (ia 25 2 13 14), E (n (.st 2 (t 25) (t 20))), P (ia 26 2 15 16), E (n (.st 2 (t 26) (t 24)))]) (Q (O [m 27 1, ad 28 27, m 29 2, o 30 (.ar .sub (t 29) (i 1)), m 11
  28, m 12 30]) (Q (.block 0 (.loop ⟨none, [], false⟩ l_kslices_partitionEqualCmpFunc_api_Feat_2)) (Q (O [m 89 11, m 10 89]) R)))))
def ka_slices_partitionEqualCmpFunc_api_Feat : AFn := ⟨kc_slices_partitionEqualCmpFunc_api_Feat, 90, [.t 10], .keep, [], none⟩
def l_kslices_partitionCmpFunc_api_Feat_0 : AC :=
  (Q (Q (D [P (m 32 12), P (m 33 13), P (o 34 (.ar .leq (t 32) (t 33))), P (m 35 34), P (g 36 35 (.mv (t 4))), P (g 37 35 (.mv (t 0))), P (g 38 35 (.mv (t 12))), P (g 39 35 (.ias 2 (t
  37) (t 38))), W (g 40 35 (.ld (some 2) (t 39))), P (g 41 35 (.mv (t 0))), P (g 42 35 (.mv (t 1))), P (g 43 35 (.ias 2 (t 41) (t 42))), W (g 44 35 (.ld (some 2) (t 43))), E (⟨(some
  45), (some (35, true)), (.call (.t 36) [(.t 40), (.t 44)])⟩), P (g 46 35 (.ar .lss (t 45) (i 0))), P (o 47 (.pk (t 35) (t 46) F))]) (C 47 X (.exit 0))) (.block 1 (O [m 48 12, ad 49
  48, m 12 49])))
def l_kslices_partitionCmpFunc_api_Feat_1 : AC :=
  (Q (Q (D [P (m 50 12), P (m 51 13), P (o 52 (.ar .leq (t 50) (t 51))), P (m 53 52), P (g 54 53 (.mv (t 4))), P (g 55 53 (.mv (t 0))), P (g 56 53 (.mv (t 13))), P (g 57 53 (.ias 2 (t
  55) (t 56))), W (g 58 53 (.ld (some 2) (t 57))), P (g 59 53 (.mv (t 0))), P (g 60 53 (.mv (t 1))), P (g 61 53 (.ias 2 (t 59) (t 60))), W (g 62 53 (.ld (some 2) (t 61))), E (⟨(some
  63), (some (53, true)), (.call (.t 54) [(.t 58), (.t 62)])⟩), P (g 64 53 (.ar .lss (t 63) (i 0))), P (g 65 53 (.un .not (t 64))), P (o 66 (.pk (t 53) (t 65) F))]) (C 66 X (.exit
  2))) (.block 3 (O [m 67 13, o 68 (.ar .sub (t 67) (i 1)), m 13 68])))
def l_kslices_partitionCmpFunc_api_Feat_2 : AC :=
  (Q (Q (D [P (m 105 12), P (m 106 13), P (o 107 (.ar .leq (t 105) (t 106))), P (m 108 107), P (g 109 108 (.mv (t 4))), P (g 110 108 (.mv (t 0))), P (g 111 108 (.mv (t 12))), P (g 112
  108 (.ias 2 (t 110) (t 111))), W (g 113 108 (.ld (some 2) (t 112))), P (g 114 108 (.mv (t 0))), P (g 115 108 (.mv (t 1))), P (g 116 108 (.ias 2 (t 114) (t 115))), W (g 117 108 (.ld
  (some 2) (t 116))), E (⟨(some 118), (some (108, true)), (.call (.t 109) [(.t 113), (.t 117)])⟩), P (g 119 108 (.ar .lss (t 118) (i 0))), P (o 120 (.pk (t 108) (t 119) F))]) (C 120 X
  (.exit 6))) (.block 7 (O [m 121 12, ad 122 121, m 12 122])))
def l_kslices_partitionCmpFunc_api_Feat_3 : AC :=
  (Q (Q (D [P (m 123 12), P (m 124 13), P (o 125 (.ar .leq (t 123) (t 124))), P (m 126 125), P (g 127 126 (.mv (t 4))), P (g 128 126 (.mv (t 0))), P (g 129 126 (.mv (t 13))), P (g 130
  126 (.ias 2 (t 128) (t 129))), W (g 131 126 (.ld (some 2) (t 130))), P (g 132 126 (.mv (t 0))), P (g 133 126 (.mv (t 1))), P (g 134 126 (.ias 2 (t 132) (t 133))), W (g 135 126 (.ld
  (some 2) (t 134))), E (⟨(some 136), (some (126, true)), (.call (.t 127) [(.t 131), (.t 135)])⟩), P (g 137 126 (.ar .lss (t 136) (i 0))), P (g 138 126 (.un .not (t 137))), P (o 139
  (.pk (t 126) (t 138) F))]) (C 139 X (.exit 8))) (.block 9 (O [m 140 13, o 141 (.ar .sub (t 140) (i 1)), m 13 141])))
def l_kslices_partitionCmpFunc_api_Feat_4 : AC :=
  (.block 5 (Q (.block 6 (.loop ⟨none, [], false⟩ l_kslices_partitionCmpFunc_api_Feat_2)) (Q (.block 8 (.loop ⟨none, [], false⟩ l_kslices_partitionCmpFunc_api_Feat_3)) (Q (Q (O [m 142
  12, m 143 13, o 144 (.ar .gtr (t 142) (t 143))]) (C 144 (.exit 4) X)) (Q (D [P (m 145 0), P (m 146 12), P (m 147 0), P (m 148 13), P (m 149 0), P (m 150 13), P (ia 151 2 149 150), W
  (la 152 2 151), P (m 153 0), P (m 154 12), P (ia 155 2 153 154), W (la 156 2 155), P (ia 157 2 145 146), E (n (.st 2 (t 157) (t 152))), P (ia 158 2 147 148), E (n (.st 2 (t 158) (t
  156)))]) (Q (O [m 159 12, ad 160 159, m 12 160]) (O [m 161 13, o 162 (.ar .sub (t 161) (i 1)), m 13 162])))))))
def kc_slices_partitionCmpFunc_api_Feat : AC :=
  (Q (O [mc 10 (i 0), mc 11 F]) (Q (D [P (m 14 0), P (m 15 1), P (m 16 0), P (m 17 3), P (m 18 0), P (m 19 3), P (ia 20 2 18 19), W (la 21 2 20), P (m 22 0), P (m 23 1), P (ia 24 2 22
  23), W (la 25 2 24), P (ia 26 2 14 15), E (n (.st 2 (t 26) (t 21))), P (ia 27 2 16 17), E (n (.st 2 (t 27) (t 25)))]) (Q (O [m 28 1, ad 29 28, m 30 2, o 31 (.ar .sub (t 30) (i 1)),
  m 12 29, m 13 31]) (Q (.block 0 (.loop ⟨none, [], false⟩ l_kslices_partitionCmpFunc_api_Feat_0)) (Q (.block 2 (.loop ⟨none, [], false⟩ l_kslices_partitionCmpFunc_api_Feat_1)) (Q (Q
  (O [m 69 12, m 70 13, o 71 (.ar .gtr (t 69) (t 70))]) (C 71 (Q (D [P (m 72 0), P (m 73 13), P (m 74 0), P (m 75 1), P (m 76 0), P (m 77 1), P (ia 78 2 76 77), W (la 79 2 78), P (m
  80 0), P (m 81 13), P (ia 82 2 80 81), W (la 83 2 82), P (ia 84 2 72 73), E (n (.st 2 (t 84) (t 79))), P (ia 85 2 74 75), E (n (.st 2 (t 85) (t 83)))]) (Q (O [m 86 13, m 10 86, mc
  11 T]) R)) X)) (Q (D [P (m 87 0), P (m 88 12), P (m 89 0), P (m 90 13), P (m 91 0), P (m 92 13), P (ia 93 2 91 92), W (la 94 2 93), P (m 95 0), P (m 96 12), P (ia 97 2 95 96), W (la
  98 2 97), P (ia 99 2 87 88), E (n (.st 2 (t 99) (t 94))), P (ia 100 2 89 90), E (n (.st 2 (t 100) (t 98)))]) (Q (O [m 101 12, ad 102 101, m 12 102]) (Q (O [m 103 13, o 104 (.ar .sub
  (t 103) (i 1)), m 13 104]) (Q (.block 4 (.loop ⟨none, [], false⟩ l_kslices_partitionCmpFunc_api_Feat_4)) (Q (D [P (m 163 0), P (m 164 13), P (m 165 0), P (m 166 1), P (m 167 0), P
  (m 168 1), P (ia 169 2 167 168), W (la 170 2 169), P (m 171 0), P (m 172 13), P (ia 173 2 171 172), W (la 174 2 173), P (ia 175 2 163 164), E (n (.st 2 (t 175) (t 170))), P (ia 176
  2 165 166), E (n (.st 2 (t 176) (t 174)))]) (Q (O [m 177 13, m 10 177, mc 11 F]) R))))))))))))
def ka_slices_partitionCmpFunc_api_Feat : AFn := ⟨kc_slices_partitionCmpFunc_api_Feat, 178, [.t 10, .t 11], .keep, [], none⟩
def kc_math_bits_Len32 : AC :=
  (Q (O [mc 2 (i 0)]) (Q (Q (O [m 3 0, o 4 (.ar .geq (t 3) (.c (.int .u32 65536)))]) (C 4 (Q (O [m 5 0, o 6 (.sh .shr (t 5) (.c (.int .u64 16))), m 0 6]) (O [mc 2 (i 16)])) X)) (Q (Q
  (O [m 7 0, o 8 (.ar .geq (t 7) (.c (.int .u32 256)))]) (C 8 (Q (O [m 9 0, o 10 (.sh .shr (t 9) (.c (.int .u64 8))), m 0 10]) (O [m 11 2, o 12 (.ar .add (t 11) (i 8)), m 2 12])) X))
  (Q (O [m 13 2, m 14 0, o 15 (.cvi .u8 (t 14)), o 16 (.ixs (s [0, 1, 2, 2, 3, 3, 3, 3, 4, 4, 4, 4, 4, 4, 4, 4, 5, 5, 5, 5, 5, 5, 5, 5, 5, 5, 5, 5, 5, 5, 5, 5, 6, 6, 6, 6, 6, 6, 6, 6,
  6, 6, 6, 6, 6, 6, 6, 6, 6, 6, 6, 6, 6, 6, 6, 6, 6, 6, 6, 6, 6, 6, 6, 6, 7, 7, 7, 7, 7, 7, 7, 7, 7, 7, 7, 7, 7, 7, 7, 7, 7, 7, 7, 7, 7, 7, 7, 7, 7, 7, 7, 7, 7, 7, 7, 7, 7, 7, 7, 7,
  7, 7, 7, 7, 7, 7, 7, 7, 7, 7, 7, 7, 7, 7, 7, 7, 7, 7, 7, 7, 7, 7, 7, 7, 7, 7, 7, 7, 8, 8, 8, 8, 8, 8, 8, 8, 8, 8, 8, 8, 8, 8, 8, 8, 8, 8, 8, 8, 8, 8, 8, 8, 8, 8, 8, 8, 8, 8, 8, 8,
  8, 8, 8, 8, 8, 8, 8, 8, 8, 8, 8, 8, 8, 8, 8, 8, 8, 8, 8, 8, 8, 8, 8, 8, 8, 8, 8, 8, 8, 8, 8, 8, 8, 8, 8, 8, 8, 8, 8, 8, 8, 8, 8, 8, 8, 8, 8, 8, 8, 8, 8, 8, 8, 8, 8, 8, 8, 8, 8, 8,
  8, 8, 8, 8, 8, 8, 8, 8, 8, 8, 8, 8, 8, 8, 8, 8, 8, 8, 8, 8, 8, 8, 8, 8, 8, 8, 8, 8, 8, 8, 8, 8, 8, 8, 8, 8]) (t 15)), o 17 (.cvi .i64 (t 16)), o 18 (.ar .add (t 13) (t 17)), m 2
  18]) R))))
def ka_math_bits_Len32 : AFn := ⟨kc_math_bits_Len32, 19, [.t 2], .keep, [], none⟩
def kc_math_bits_Len64 : AC :=
  (Q (O [mc 2 (i 0)]) (Q (Q (O [m 3 0, o 4 (.ar .geq (t 3) (.c (.int .u64 4294967296)))]) (C 4 (Q (O [m 5 0, o 6 (.sh .shr (t 5) (.c (.int .u64 32))), m 0 6]) (O [mc 2 (i 32)])) X))
  (Q (Q (O [m 7 0, o 8 (.ar .geq (t 7) (.c (.int .u64 65536)))]) (C 8 (Q (O [m 9 0, o 10 (.sh .shr (t 9) (.c (.int .u64 16))), m 0 10]) (O [m 11 2, o 12 (.ar .add (t 11) (i 16)), m 2
  12])) X)) (Q (Q (O [m 13 0, o 14 (.ar .geq (t 13) (.c (.int .u64 256)))]) (C 14 (Q (O [m 15 0, o 16 (.sh .shr (t 15) (.c (.int .u64 8))), m 0 16]) (O [m 17 2, o 18 (.ar .add (t 17)
  (i 8)), m 2 18])) X)) (Q (O [m 19 2, m 20 0, o 21 (.cvi .u8 (t 20)), o 22 (.ixs (s [0, 1, 2, 2, 3, 3, 3, 3, 4, 4, 4, 4, 4, 4, 4, 4, 5, 5, 5, 5, 5, 5, 5, 5, 5, 5, 5, 5, 5, 5, 5, 5,
  6, 6, 6, 6, 6, 6, 6, 6, 6, 6, 6, 6, 6, 6, 6, 6, 6, 6, 6, 6, 6, 6, 6, 6, 6, 6, 6, 6, 6, 6, 6, 6, 7, 7, 7, 7, 7, 7, 7, 7, 7, 7, 7, 7, 7, 7, 7, 7, 7, 7, 7, 7, 7, 7, 7, 7, 7, 7, 7, 7,
  7, 7, 7, 7, 7, 7, 7, 7, 7, 7, 7, 7, 7, 7, 7, 7, 7, 7, 7, 7, 7, 7, 7, 7, 7, 7, 7, 7, 7, 7, 7, 7, 7, 7, 7, 7, 8, 8, 8, 8, 8, 8, 8, 8, 8, 8, 8, 8, 8, 8, 8, 8, 8, 8, 8, 8, 8, 8, 8, 8,
  8, 8, 8, 8, 8, 8, 8, 8, 8, 8, 8, 8, 8, 8, 8, 8, 8, 8, 8, 8, 8, 8, 8, 8, 8, 8, 8, 8, 8, 8, 8, 8, 8, 8, 8, 8, 8, 8, 8, 8, 8, 8, 8, 8, 8, 8, 8, 8, 8, 8, 8, 8, 8, 8, 8, 8, 8, 8, 8, 8,
  8, 8, 8, 8, 8, 8, 8, 8, 8, 8, 8, 8, 8, 8, 8, 8, 8, 8, 8, 8, 8, 8, 8, 8, 8, 8, 8, 8, 8, 8, 8, 8, 8, 8, 8, 8, 8, 8, 8, 8, 8, 8, 8, 8]) (t 21)), o 23 (.cvi .i64 (t 22)), o 24 (.ar .add
  (t 19) (t 23)), m 2 24]) R)))))
def ka_math_bits_Len64 : AFn := ⟨kc_math_bits_Len64, 25, [.t 2], .keep, [], none⟩
def kc_unicode_utf8_decodeRuneInStringSlow : AC :=
  (Q (O [mc 2 (.c (.int .i32 0)), mc 3 (i 0)]) (Q (O [m 13 0, lt 14 13, m 4 14]) (Q (Q (O [m 15 4, o 16 (.ar .lss (t 15) (i 1))]) (C 16 (Q (O [mc 2 (.c (.int .i32 65533)), mc 3 (i
  0)]) R) X)) (Q (O [m 17 0, o 18 (.ixs (t 17) (i 0)), m 5 18]) (Q (O [m 19 5, o 20 (.iaa 256 1 (.c .unk) (t 19)), ld 21 20, m 6 21]) (Q (Q (O [m 22 6, o 23 (.ar .geq (t 22) (u
  240))]) (C 23 (Q (O [m 24 6, o 25 (.cvi .i32 (t 24)), o 26 (.sh .shl (t 25) (.c (.int .u64 31))), o 27 (.sh .shr (t 26) (.c (.int .u64 31))), m 7 27]) (Q (O [m 28 0, o 29 (.ixs (t
  28) (i 0)), o 30 (.cvi .i32 (t 29)), m 31 7, o 32 (.an (t 30) (t 31)), m 33 7, o 34 (.ar .and (.c (.int .i32 65533)) (t 33)), o 35 (.ar .or (t 32) (t 34)), m 2 35, mc 3 (i 1)]) R))
  X)) (Q (O [m 36 6, o 37 (.ar .and (t 36) (u 7)), o 38 (.cvi .i64 (t 37)), m 8 38]) (Q (O [m 39 6, o 40 (.sh .shr (t 39) (.c (.int .u64 4))), o 41 (.iaa 16 2 (.c .unk) (t 40)), la 42
  2 41, o 9 (.nw [(.int .u8 0), (.int .u8 0)] t_utf8_acceptRange), n (.st 2 (t 9) (t 42))]) (Q (Q (O [m 43 4, m 44 8, bl 45 43 44]) (C 45 (Q (O [mc 2 (.c (.int .i32 65533)), mc 3 (i
  1)]) R) X)) (Q (O [m 46 0, o 47 (.ixs (t 46) (i 1)), m 10 47]) (Q (Q (O [m 48 10, fa 49 0 9, ld 50 49, bl 51 48 50, m 52 51, h 53 52 (.fa 1 (t 9)), h 54 52 (.ld none (t 53)), h 55
  52 (.mv (t 10)), h 56 52 (.ar .lss (t 54) (t 55)), o 57 (.pk (t 52) T (t 56))]) (C 57 (Q (O [mc 2 (.c (.int .i32 65533)), mc 3 (i 1)]) R) X)) (Q (Q (O [m 58 8, o 59 (.ar .leq (t 58)
  (i 2))]) (C 59 (Q (O [m 60 5, o 61 (.ar .and (t 60) (u 31)), o 62 (.cvi .i32 (t 61)), o 63 (.sh .shl (t 62) (.c (.int .u64 6))), m 64 10, o 65 (.ar .and (t 64) (u 63)), o 66 (.cvi
  .i32 (t 65)), o 67 (.ar .or (t 63) (t 66)), m 2 67, mc 3 (i 2)]) R) X)) (Q (O [m 68 0, o 69 (.ixs (t 68) (i 2)), m 11 69]) (Q (Q (O [m 70 11, o 71 (.ar .lss (t 70) (u 128)), m 72
  71, h 73 72 (.mv (t 11)), h 74 72 (.ar .lss (u 191) (t 73)), o 75 (.pk (t 72) T (t 74))]) (C 75 (Q (O [mc 2 (.c (.int .i32 65533)), mc 3 (i 1)]) R) X)) (Q (Q (O [m 76 8, o 77 (.ar
  .leq (t 76) (i 3))]) (C 77 (Q (O [m 78 5, o 79 (.ar .and (t 78) (u 15)), o 80 (.cvi .i32 (t 79)), o 81 (.sh .shl (t 80) (.c (.int .u64 12))), m 82 10, o 83 (.ar .and (t 82) (u 63)),
  o 84 (.cvi .i32 (t 83)), o 85 (.sh .shl (t 84) (.c (.int .u64 6))), o 86 (.ar .or (t 81) (t 85)), m 87 11, o 88 (.ar .and (t 87) (u 63)), o 89 (.cvi .i32 (t 88)), o 90 (.ar .or (t
  86) (t 89)), m 2 90, mc 3 (i 3)]) R) X)) (Q (O [m 91 0, o 92 (.ixs (t 91) (i 3)), m 12 92]) (Q (Q (O [m 93 12, o 94 (.ar .lss (t 93) (u 128)), m 95 94, h 96 95 (.mv (t 12)), h 97 95
  (.ar .lss (u 191) (t 96)), o 98 (.pk (t 95) T (t 97))]) (C 98 (Q (O [mc 2 (.c (.int .i32 65533)), mc 3 (i 1)]) R) X)) (Q (O [m 99 5, o 100 (.ar .and (t 99) (u 7)), o 101 (.cvi .i32
  (t 100)), o 102 (.sh .shl (t 101) (.c (.int .u64 18))), m 103 10, o 104 (.ar .and (t 103) (u 63)), o 105 (.cvi .i32 (t 104)), o 106 (.sh .shl (t 105) (.c (.int .u64 12))), o 107
  (.ar .or (t 102) (t 106)), m 108 11, o 109 (.ar .and (t 108) (u 63)), o 110 (.cvi .i32 (t 109)), o 111 (.sh .shl (t 110) (.c (.int .u64 6))), o 112 (.ar .or (t 107) (t 111)), m 113
  12, o 114 (.ar .and (t 113) (u 63)), o 115 (.cvi .i32 (t 114)), o 116 (.ar .or (t 112) (t 115)), m 2 116, mc 3 (i 4)]) R))))))))))))))))))
def ka_unicode_utf8_decodeRuneInStringSlow : AFn := ⟨kc_unicode_utf8_decodeRuneInStringSlow, 117, [.t 2, .t 3], .keep, [], none⟩
def kc_internal_stringslite_IndexByte : AC :=
  (Q (O [mc 4 (i 0)]) (Q (O [m 5 0, m 6 1, k 7 (f f_internal_bytealg_IndexByteString) [(t 5), (t 6)], m 4 7]) R))
def ka_internal_stringslite_IndexByte : AFn := ⟨kc_internal_stringslite_IndexByte, 8, [.t 4], .keep, [], none⟩
def kc_internal_bytealg_Cutover : AC :=
  (Q (O [mc 2 (i 0)]) (Q (O [m 3 0, o 4 (.ar .add (t 3) (i 16)), o 5 (.ar .quo (t 4) (i 8)), m 2 5]) R))
def ka_internal_bytealg_Cutover : AFn := ⟨kc_internal_bytealg_Cutover, 6, [.t 2], .keep, [], none⟩
def l_kinternal_bytealg_IndexRabinKarp_string_0 : AC :=
  (Q (Q (O [m 18 9, m 19 7, bl 20 18 19]) (C 20 X (.exit 0))) (Q (.block 1 (O [m 23 8, o 24 (.ar .mul (t 23) (.c (.int .u32 16777619))), m 25 0, m 26 9, o 27 (.ixs (t 25) (t 26)), o
  28 (.cvi .u32 (t 27)), o 29 (.ar .add (t 24) (t 28)), m 8 29])) (O [m 21 9, ad 22 21, m 9 22])))
def l_kinternal_bytealg_IndexRabinKarp_string_1 : AC :=
  (Q (Q (O [m 41 10, m 42 0, lt 43 42, bl 44 41 43]) (C 44 X (.exit 2))) (.block 3 (Q (O [m 45 8, o 46 (.ar .mul (t 45) (.c (.int .u32 16777619))), m 8 46]) (Q (O [m 47 8, m 48 0, m
  49 10, o 50 (.ixs (t 48) (t 49)), o 51 (.cvi .u32 (t 50)), o 52 (.ar .add (t 47) (t 51)), m 8 52]) (Q (O [m 53 8, m 54 6, m 55 0, m 56 10, m 57 7, o 58 (.ar .sub (t 56) (t 57)), o
  59 (.ixs (t 55) (t 58)), o 60 (.cvi .u32 (t 59)), o 61 (.ar .mul (t 54) (t 60)), o 62 (.ar .sub (t 53) (t 61)), m 8 62]) (Q (O [m 63 10, ad 64 63, m 10 64]) (Q (O [m 65 8, m 66 5, o
  67 (.ar .eql (t 65) (t 66)), m 68 67, g 69 68 (.mv (t 0)), g 70 68 (.mv (t 10)), g 71 68 (.mv (t 7)), g 72 68 (.ar .sub (t 70) (t 71)), g 73 68 (.mv (t 10)), g 74 68 (.sls (t 69)
  (some (t 72)) (some (t 73))), g 75 68 (.mv (t 1)), g 76 68 (.ar .eql (t 74) (t 75)), o 77 (.pk (t 68) (t 76) F)]) (C 77 (Q (O [m 78 10, m 79 7, o 80 (.ar .sub (t 78) (t 79)), m 4
  80]) R) X))))))))
def kc_internal_bytealg_IndexRabinKarp_string : AC :=
  (Q (O [mc 4 (i 0)]) (Q (O [m 12 1, k 13 (f f_internal_bytealg_hashStr_string) [(t 12)], m 11 13, ex 14 11 0, ex 15 11 1, m 5 14, m 6 15]) (Q (O [m 16 1, lt 17 16, m 7 17]) (Q (O [mc
  8 (.c (.int .u32 0))]) (Q (Q (O [mc 9 (i 0)]) (.block 0 (.loop ⟨none, [], false⟩ l_kinternal_bytealg_IndexRabinKarp_string_0))) (Q (Q (O [m 30 8, m 31 5, o 32 (.ar .eql (t 30) (t
  31)), m 33 32, g 34 33 (.mv (t 0)), g 35 33 (.mv (t 7)), g 36 33 (.sls (t 34) none (some (t 35))), g 37 33 (.mv (t 1)), g 38 33 (.ar .eql (t 36) (t 37)), o 39 (.pk (t 33) (t 38)
  F)]) (C 39 (Q (O [mc 4 (i 0)]) R) X)) (Q (Q (O [m 40 7, m 10 40]) (.block 2 (.loop ⟨none, [], false⟩ l_kinternal_bytealg_IndexRabinKarp_string_1))) (Q (O [mc 4 (i (-1))]) R))))))))
def ka_internal_bytealg_IndexRabinKarp_string : AFn := ⟨kc_internal_bytealg_IndexRabinKarp_string, 81, [.t 4], .keep, [], none⟩
def l_kinternal_strconv_Atoi_0 : AC :=
  (Q (O [bl 50 49 48]) (Q (C 50 X (.exit 0)) (Q (.block 1 (Q (O [ia 51 1 47 49, ld 52 51, m 8 52]) (Q (O [m 53 8, o 54 (.ar .sub (t 53) (u 48)), m 8 54]) (Q (Q (O [m 55 8, o 56 (.ar
  .gtr (t 55) (u 9))]) (C 56 (Q (O [o 57 (.mi t_strconv_Error (i 2)), mc 2 (i 0), m 3 57]) R) X)) (O [m 58 6, o 59 (.ar .mul (t 58) (i 10)), m 60 8, o 61 (.cvi .i64 (t 60)), o 62 (.ar
  .add (t 59) (t 61)), m 6 62]))))) (O [ad 63 49, m 49 63]))))
def kc_internal_strconv_Atoi : AC :=
  (Q (O [mc 2 (i 0), mc 3 (.c .nilif)]) (Q (O [m 11 0, lt 12 11, m 4 12]) (Q (Q (O [mc 13 F, g 14 13 (.mv (t 4)), g 15 13 (.ar .lss (i 0) (t 14)), g 16 13 (.mv (t 15)), g 17 16 (.mv
  (t 4)), g 18 16 (.ar .lss (t 17) (i 10)), g 19 13 (.pk (t 16) (t 18) F), o 20 (.pk (t 13) (t 19) F), m 21 20, h 22 21 (.mv T), g 23 22 (.mv (t 4)), g 24 22 (.ar .lss (i 0) (t 23)),
  g 25 22 (.mv (t 24)), g 26 25 (.mv (t 4)), g 27 25 (.ar .lss (t 26) (i 19)), g 28 22 (.pk (t 25) (t 27) F), h 29 21 (.pk (t 22) (t 28) F), o 30 (.pk (t 21) T (t 29))]) (C 30 (Q (O
  [m 31 0, m 5 31]) (Q (Q (O [m 32 0, o 33 (.ixs (t 32) (i 0)), o 34 (.ar .eql (t 33) (u 45)), m 35 34, h 36 35 (.mv (t 0)), h 37 35 (.ixs (t 36) (i 0)), h 38 35 (.ar .eql (t 37) (u
  43)), o 39 (.pk (t 35) T (t 38))]) (C 39 (Q (O [m 40 0, o 41 (.sls (t 40) (some (i 1)) none), m 0 41]) (Q (O [m 42 0, lt 43 42, o 44 (.ar .lss (t 43) (i 1))]) (C 44 (Q (O [o 45 (.mi
  t_strconv_Error (i 2)), mc 2 (i 0), m 3 45]) R) X))) X)) (Q (O [mc 6 (i 0)]) (Q (Q (O [m 46 0, o 47 (.cvsb (t 46)), ls 48 47, mc 49 (i 0)]) (.block 0 (.loop ⟨none, [], false⟩
  l_kinternal_strconv_Atoi_0))) (Q (Q (O [m 64 5, o 65 (.ixs (t 64) (i 0)), o 66 (.ar .eql (t 65) (u 45))]) (C 66 (O [m 67 6, o 68 (.un .neg (t 67)), m 6 68]) X)) (Q (O [m 69 6, m 2
  69, mc 3 (.c .nilif)]) R)))))) X)) (Q (O [m 71 0, k 72 (f f_internal_strconv_ParseInt) [(t 71), (i 10), (i 0)], m 70 72, ex 73 70 0, ex 74 70 1, m 9 73, m 10 74]) (Q (O [m 75 9, m
  76 10, m 2 75, m 3 76]) R)))))
def ka_internal_strconv_Atoi : AFn := ⟨kc_internal_strconv_Atoi, 77, [.t 2, .t 3], .keep, [], none⟩
def kc_strconv_toError : AC :=
  (Q (O [mc 10 (.c .nilif)]) (Q (Q (O [m 11 4]) (.block 0 (Q (O [o 13 (.mi t_strconv_Error (i 2)), o 14 (.eq false (.ifc false) (t 11) (t 13)), m 12 14]) (C 12 (Q (O [m 15 0, m 16 1,
  k 17 (f f_strconv_syntaxError) [(t 15), (t 16)], o 18 (.mi t_p_strconv_NumError (t 17)), m 10 18]) R) (Q (O [o 20 (.mi t_strconv_Error (i 1)), o 21 (.eq false (.ifc false) (t 11) (t
  20)), m 19 21]) (C 19 (Q (O [m 22 0, m 23 1, k 24 (f f_strconv_rangeError) [(t 22), (t 23)], o 25 (.mi t_p_strconv_NumError (t 24)), m 10 25]) R) (Q (O [o 27 (.mi t_strconv_Error (i
  3)), o 28 (.eq false (.ifc false) (t 11) (t 27)), m 26 28]) (C 26 (Q (O [m 29 0, m 30 1, m 31 2, k 32 (f f_strconv_baseError) [(t 29), (t 30), (t 31)], o 33 (.mi
  t_p_strconv_NumError (t 32)), m 10 33]) R) (Q (O [o 35 (.mi t_strconv_Error (i 4)), o 36 (.eq false (.ifc false) (t 11) (t 35)), m 34 36]) (C 34 (Q (O [m 37 0, m 38 1, m 39 3, k 40
  (f f_strconv_bitSizeError) [(t 37), (t 38), (t 39)], o 41 (.mi t_p_strconv_NumError (t 40)), m 10 41]) R) X)))))))))) (Q (O [m 42 4, m 10 42]) R)))
def ka_strconv_toError : AFn := ⟨kc_strconv_toError, 43, [.t 10], .keep, [], none⟩
def kc_internal_strconv_Itoa : AC :=
  (Q (O [mc 2 (s [])]) (Q (O [m 3 0, k 4 (f f_internal_strconv_FormatInt) [(t 3), (i 10)], m 2 4]) R))
def ka_internal_strconv_Itoa : AFn := ⟨kc_internal_strconv_Itoa, 5, [.t 2], .keep, [], none⟩
def kc_internal_stringslite_Cut : AC :=
  (Q (O [mc 4 (s []), mc 5 (s []), mc 6 F]) (Q (Q (O [m 8 0, m 9 1, k 10 (f f_internal_stringslite_Index) [(t 8), (t 9)], m 7 10]) (Q (O [m 11 7, o 12 (.ar .geq (t 11) (i 0))]) (C 12
  (Q (D [P (m 13 0), P (m 14 7), P (o 15 (.sls (t 13) none (some (t 14)))), P (m 16 0), P (m 17 7), P (m 18 1), W (lt 19 18), P (o 20 (.ar .add (t 17) (t 19))), P (o 21 (.sls (t 16)
  (some (t 20)) none)), P (m 4 15), P (m 5 21), P (mc 6 T)]) R) X))) (Q (O [m 22 0, m 4 22, mc 5 (s []), mc 6 F]) R)))
def ka_internal_stringslite_Cut : AFn := ⟨kc_internal_stringslite_Cut, 23, [.t 4, .t 5, .t 6], .keep, [], none⟩
def kc_strings_Builder_grow : AC :=
  (Q (D [P (m 5 0), P (o 6 (.nc (t 5))), P (fa 7 1 6), W (ld 8 7), P (o 9 (.cap (t 8))), P (o 10 (.ar .mul (i 2) (t 9))), P (m 11 1), P (o 12 (.ar .add (t 10) (t 11))), P (m 14 0), P
  (o 15 (.nc (t 14))), P (fa 16 1 15), W (ld 17 16), W (ls 18 17), K (k 13 (f f_internal_bytealg_MakeNoZero) [(t 12)]), P (o 19 (.sll 1 (t 13) none (some (t 18)) none)), P (m 4 19)])
  (Q (O [m 20 4, m 21 0, o 22 (.nc (t 21)), fa 23 1 22, ld 24 23, o 25 (.cp 1 false (t 20) (t 24))]) (O [m 26 0, m 27 4, o 28 (.nc (t 26)), fa 29 1 28, n (.st 1 (t 29) (t 27))])))
def ka_strings_Builder_grow : AFn := ⟨kc_strings_Builder_grow, 30, [], .keep, [], none⟩
def l_kslices_siftDownCmpFunc_api_Feat_0 : AC :=
  (.block 1 (Q (O [m 13 10, o 14 (.ar .mul (i 2) (t 13)), ad 15 14, m 11 15]) (Q (Q (O [m 16 11, m 17 2, o 18 (.ar .geq (t 16) (t 17))]) (C 18 (.exit 0) X)) (Q (Q (D [P (m 19 11), P
  (ad 20 19), P (m 21 2), P (bl 22 20 21), P (m 23 22), P (g 24 23 (.mv (t 4))), P (g 25 23 (.mv (t 0))), P (g 26 23 (.mv (t 3))), P (g 27 23 (.mv (t 11))), P (g 28 23 (.ar .add (t
  26) (t 27))), P (g 29 23 (.ias 2 (t 25) (t 28))), W (g 30 23 (.ld (some 2) (t 29))), P (g 31 23 (.mv (t 0))), P (g 32 23 (.mv (t 3))), P (g 33 23 (.mv (t 11))), P (g 34 23 (.ar .add
  (t 32) (t 33))), P (g 35 23 (.ar .add (t 34) (i 1))), P (g 36 23 (.ias 2 (t 31) (t 35))), W (g 37 23 (.ld (some 2) (t 36))), E (⟨(some 38), (some (23, true)), (.call (.t 24) [(.t
  30), (.t 37)])⟩), P (g 39 23 (.ar .lss (t 38) (i 0))), P (o 40 (.pk (t 23) (t 39) F))]) (C 40 (O [m 41 11, ad 42 41, m 11 42]) X)) (Q (Q (D [P (m 43 4), P (m 44 0), P (m 45 3), P (m
  46 10), P (o 47 (.ar .add (t 45) (t 46))), P (ia 48 2 44 47), W (la 49 2 48), P (m 50 0), P (m 51 3), P (m 52 11), P (o 53 (.ar .add (t 51) (t 52))), P (ia 54 2 50 53), W (la 55 2
  54), E (k 56 (t 43) [(t 49), (t 55)]), P (o 57 (.ar .lss (t 56) (i 0))), P (no 58 57)]) (C 58 R X)) (Q (D [P (m 59 0), P (m 60 3), P (m 61 10), P (o 62 (.ar .add (t 60) (t 61))), P
  (m 63 0), P (m 64 3), P (m 65 11), P (o 66 (.ar .add (t 64) (t 65))), P (m 67 0), P (m 68 3), P (m 69 11), P (o 70 (.ar .add (t 68) (t 69))), P (ia 71 2 67 70), W (la 72 2 71), P (m
  73 0), P (m 74 3), P (m 75 10), P (o 76 (.ar .add (t 74) (t 75))), P (ia 77 2 73 76), W (la 78 2 77), P (ia 79 2 59 62), E (n (.st 2 (t 79) (t 72))), P (ia 80 2 63 66), E (n (.st 2
  (t 80) (t 78)))]) (O [m 81 11, m 10 81])))))))
def kc_slices_siftDownCmpFunc_api_Feat : AC :=
  (Q (O [m 12 1, m 10 12]) (.block 0 (.loop ⟨none, [], false⟩ l_kslices_siftDownCmpFunc_api_Feat_0)))
def ka_slices_siftDownCmpFunc_api_Feat : AFn := ⟨kc_slices_siftDownCmpFunc_api_Feat, 82, [], .keep, [], none⟩
def kc_slices_nextPowerOfTwo : AC :=
  (Q (O [mc 2 (.c (.int .u64 0))]) (Q (O [m 3 0, o 4 (.cvi .u64 (t 3)), k 5 (f f_math_bits_Len) [(t 4)], o 6 (.sh .shl (.c (.int .u64 1)) (t 5)), m 2 6]) R))
def ka_slices_nextPowerOfTwo : AFn := ⟨kc_slices_nextPowerOfTwo, 7, [.t 2], .keep, [], none⟩
def kc_slices_xorshift_Next : AC :=
  (Q (O [mc 2 (.c (.int .u64 0))]) (Q (D [P (m 3 0), P (o 4 (.nc (t 3))), W (ld 5 4), P (m 6 0), P (o 7 (.nc (t 6))), W (ld 8 7), P (o 9 (.sh .shl (t 8) (.c (.int .u64 13)))), P (o 10
  (.ar .xor (t 5) (t 9))), P (o 11 (.nc (t 3))), E (n (.st 1 (t 11) (t 10)))]) (Q (D [P (m 12 0), P (o 13 (.nc (t 12))), W (ld 14 13), P (m 15 0), P (o 16 (.nc (t 15))), W (ld 17 16),
  P (o 18 (.sh .shr (t 17) (.c (.int .u64 7)))), P (o 19 (.ar .xor (t 14) (t 18))), P (o 20 (.nc (t 12))), E (n (.st 1 (t 20) (t 19)))]) (Q (D [P (m 21 0), P (o 22 (.nc (t 21))), W
  (ld 23 22), P (m 24 0), P (o 25 (.nc (t 24))), W (ld 26 25), P (o 27 (.sh .shl (t 26) (.c (.int .u64 17)))), P (o 28 (.ar .xor (t 23) (t 27))), P (o 29 (.nc (t 21))), E (n (.st 1 (t
  29) (t 28)))]) (Q (O [m 30 0, o 31 (.nc (t 30)), ld 32 31, m 2 32]) R)))))
def ka_slices_xorshift_Next : AFn := ⟨kc_slices_xorshift_Next, 33, [.t 2], .keep, [], none⟩
def kc_slices_medianAdjacentCmpFunc_api_Feat : AC :=
  (Q (O [mc 8 (i 0)]) (Q (O [m 9 0, m 10 1, o 11 (.ar .sub (t 10) (i 1)), m 12 1, m 13 1, ad 14 13, m 15 2, m 16 3, k 17 (f f_slices_medianCmpFunc_api_Feat) [(t 9), (t 11), (t 12), (t
  14), (t 15), (t 16)], m 8 17]) R))
def ka_slices_medianAdjacentCmpFunc_api_Feat : AFn := ⟨kc_slices_medianAdjacentCmpFunc_api_Feat, 18, [.t 8], .keep, [], none⟩
def kc_slices_medianCmpFunc_api_Feat : AC :=
  (Q (O [mc 12 (i 0)]) (Q (O [m 14 0, m 15 1, m 16 2, m 17 4, m 18 5, k 19 (f f_slices_order2CmpFunc_api_Feat) [(t 14), (t 15), (t 16), (t 17), (t 18)], m 13 19, ex 20 13 0, ex 21 13
  1, m 1 20, m 2 21]) (Q (O [m 23 0, m 24 2, m 25 3, m 26 4, m 27 5, k 28 (f f_slices_order2CmpFunc_api_Feat) [(t 23), (t 24), (t 25), (t 26), (t 27)], m 22 28, ex 29 22 0, ex 30 22
  1, m 2 29, m 3 30]) (Q (O [m 32 0, m 33 1, m 34 2, m 35 4, m 36 5, k 37 (f f_slices_order2CmpFunc_api_Feat) [(t 32), (t 33), (t 34), (t 35), (t 36)], m 31 37, ex 38 31 0, ex 39 31
  1, m 1 38, m 2 39]) (Q (O [m 40 2, m 12 40]) R)))))
def ka_slices_medianCmpFunc_api_Feat : AFn := ⟨kc_slices_medianCmpFunc_api_Feat, 41, [.t 12], .keep, [], none⟩
def l_kinternal_bytealg_hashStr_string_0 : AC :=
  (Q (Q (O [m 9 5, m 10 0, lt 11 10, bl 12 9 11]) (C 12 X (.exit 0))) (Q (.block 1 (O [m 15 4, o 16 (.ar .mul (t 15) (.c (.int .u32 16777619))), m 17 0, m 18 5, o 19 (.ixs (t 17) (t
  18)), o 20 (.cvi .u32 (t 19)), o 21 (.ar .add (t 16) (t 20)), m 4 21])) (O [m 13 5, ad 14 13, m 5 14])))
def l_kinternal_bytealg_hashStr_string_1 : AC :=
  (Q (Q (O [m 24 8, o 25 (.ar .gtr (t 24) (i 0))]) (C 25 X (.exit 2))) (Q (.block 3 (Q (Q (O [m 28 8, o 29 (.ar .and (t 28) (i 1)), o 30 (.ar .neq (t 29) (i 0))]) (C 30 (O [m 31 6, m
  32 7, o 33 (.ar .mul (t 31) (t 32)), m 6 33]) X)) (O [m 34 7, m 35 7, o 36 (.ar .mul (t 34) (t 35)), m 7 36]))) (O [m 26 8, o 27 (.sh .shr (t 26) (.c (.int .u64 1))), m 8 27])))
def kc_internal_bytealg_hashStr_string : AC :=
  (Q (O [mc 2 (.c (.int .u32 0)), mc 3 (.c (.int .u32 0))]) (Q (O [mc 4 (.c (.int .u32 0))]) (Q (Q (O [mc 5 (i 0)]) (.block 0 (.loop ⟨none, [], false⟩
  l_kinternal_bytealg_hashStr_string_0))) (Q (O [mc 6 (.c (.int .u32 1)), mc 7 (.c (.int .u32 16777619))]) (Q (Q (O [m 22 0, lt 23 22, m 8 23]) (.block 2 (.loop ⟨none, [], false⟩
  l_kinternal_bytealg_hashStr_string_1))) (Q (O [m 37 4, m 38 6, m 2 37, m 3 38]) R))))))
def ka_internal_bytealg_hashStr_string : AFn := ⟨kc_internal_bytealg_hashStr_string, 39, [.t 2, .t 3], .keep, [], none⟩
def kc_internal_strconv_ParseInt : AC :=
  (Q (O [mc 6 (i 0), mc 7 (.c .nilif)]) (Q (Q (O [m 12 0, o 13 (.ar .eql (t 12) (s []))]) (C 13 (Q (O [o 14 (.mi t_strconv_Error (i 2)), mc 6 (i 0), m 7 14]) R) X)) (Q (O [mc 8 F]) (Q
  (Q (O [m 15 0, o 16 (.ixs (t 15) (i 0))]) (.block 0 (Q (O [o 18 (.ar .eql (t 16) (u 43)), m 17 18]) (C 17 (O [m 19 0, o 20 (.sls (t 19) (some (i 1)) none), m 0 20]) (Q (O [o 22 (.ar
  .eql (t 16) (u 45)), m 21 22]) (C 21 (Q (O [m 23 0, o 24 (.sls (t 23) (some (i 1)) none), m 0 24]) (O [mc 8 T])) X)))))) (Q (O [mc 9 (.c (.int .u64 0))]) (Q (O [m 26 0, m 27 1, m 28
  2, k 29 (f f_internal_strconv_ParseUint) [(t 26), (t 27), (t 28)], m 25 29, ex 30 25 0, ex 31 25 1, m 9 30, m 7 31]) (Q (Q (O [m 32 7, o 33 (.eq true (.ifc true) (t 32) (.c
  .nilif)), m 34 33, g 35 34 (.mv (t 7)), g 36 34 (.mi t_strconv_Error (i 1)), g 37 34 (.eq true (.ifc false) (t 35) (t 36)), o 38 (.pk (t 34) (t 37) F)]) (C 38 (Q (O [m 39 7, mc 6 (i
  0), m 7 39]) R) X)) (Q (Q (O [m 40 2, o 41 (.ar .eql (t 40) (i 0))]) (C 41 (O [mc 2 (i 64)]) X)) (Q (O [m 42 2, o 43 (.ar .sub (t 42) (i 1)), o 44 (.cvi .u64 (t 43)), o 45 (.sh .shl
  (.c (.int .u64 1)) (t 44)), m 10 45]) (Q (Q (O [m 46 8, no 47 46, m 48 47, g 49 48 (.mv (t 9)), g 50 48 (.mv (t 10)), g 51 48 (.ar .geq (t 49) (t 50)), o 52 (.pk (t 48) (t 51) F)])
  (C 52 (Q (O [m 53 10, o 54 (.ar .sub (t 53) (.c (.int .u64 1))), o 55 (.cvi .i64 (t 54)), o 56 (.mi t_strconv_Error (i 1)), m 6 55, m 7 56]) R) X)) (Q (Q (O [m 57 8, m 58 57, g 59
  58 (.mv (t 9)), g 60 58 (.mv (t 10)), g 61 58 (.ar .gtr (t 59) (t 60)), o 62 (.pk (t 58) (t 61) F)]) (C 62 (Q (O [m 63 10, o 64 (.cvi .i64 (t 63)), o 65 (.un .neg (t 64)), o 66 (.mi
  t_strconv_Error (i 1)), m 6 65, m 7 66]) R) X)) (Q (O [m 67 9, o 68 (.cvi .i64 (t 67)), m 11 68]) (Q (Q (O [m 69 8]) (C 69 (O [m 70 11, o 71 (.un .neg (t 70)), m 11 71]) X)) (Q (O
  [m 72 11, m 6 72, mc 7 (.c .nilif)]) R))))))))))))))
def ka_internal_strconv_ParseInt : AFn := ⟨kc_internal_strconv_ParseInt, 73, [.t 6, .t 7], .keep, [], none⟩
def kc_strconv_syntaxError : AC :=
  (Q (O [mc 4 (.c .nilp)]) (Q (D [P (m 5 0), P (m 6 1), W (o 8 (.ld none (.c .unk))), K (k 7 (f f_internal_stringslite_Clone) [(t 6)]), P (o 9 (.bd [(.str []), (.str []), .nilif] [(0,
  1), (1, 1), (2, 1)] [(0, (t 5)), (1, (t 7)), (2, (t 8))])), K (o 10 (.bx t_strconv_NumError (t 9))), P (m 4 10)]) R))
def ka_strconv_syntaxError : AFn := ⟨kc_strconv_syntaxError, 11, [.t 4], .keep, [], none⟩
def kc_strconv_rangeError : AC :=
  (Q (O [mc 4 (.c .nilp)]) (Q (D [P (m 5 0), P (m 6 1), W (o 8 (.ld none (.c .unk))), K (k 7 (f f_internal_stringslite_Clone) [(t 6)]), P (o 9 (.bd [(.str []), (.str []), .nilif] [(0,
  1), (1, 1), (2, 1)] [(0, (t 5)), (1, (t 7)), (2, (t 8))])), K (o 10 (.bx t_strconv_NumError (t 9))), P (m 4 10)]) R))
def ka_strconv_rangeError : AFn := ⟨kc_strconv_rangeError, 11, [.t 4], .keep, [], none⟩
def kc_strconv_baseError : AC :=
  (Q (O [mc 6 (.c .nilp)]) (Q (O [m 7 0, m 8 1, k 9 (f f_internal_stringslite_Clone) [(t 8)], m 10 2, k 11 (f f_strconv_Itoa) [(t 10)], o 12 (.ar .add (s [105, 110, 118, 97, 108, 105,
  100, 32, 98, 97, 115, 101, 32]) (t 11)), k 13 (f f_errors_New) [(t 12)], o 14 (.bd [(.str []), (.str []), .nilif] [(0, 1), (1, 1), (2, 1)] [(0, (t 7)), (1, (t 9)), (2, (t 13))]), o
  15 (.bx t_strconv_NumError (t 14)), m 6 15]) R))
def ka_strconv_baseError : AFn := ⟨kc_strconv_baseError, 16, [.t 6], .keep, [], none⟩
def kc_strconv_bitSizeError : AC :=
  (Q (O [mc 6 (.c .nilp)]) (Q (O [m 7 0, m 8 1, k 9 (f f_internal_stringslite_Clone) [(t 8)], m 10 2, k 11 (f f_strconv_Itoa) [(t 10)], o 12 (.ar .add (s [105, 110, 118, 97, 108, 105,
  100, 32, 98, 105, 116, 32, 115, 105, 122, 101, 32]) (t 11)), k 13 (f f_errors_New) [(t 12)], o 14 (.bd [(.str []), (.str []), .nilif] [(0, 1), (1, 1), (2, 1)] [(0, (t 7)), (1, (t
  9)), (2, (t 13))]), o 15 (.bx t_strconv_NumError (t 14)), m 6 15]) R))
def ka_strconv_bitSizeError : AFn := ⟨kc_strconv_bitSizeError, 16, [.t 6], .keep, [], none⟩
def kc_internal_strconv_FormatInt : AC :=
  (Q (O [mc 4 (s [])]) (Q (Q (O [m 10 1, o 11 (.ar .eql (t 10) (i 10))]) (C 11 (Q (Q (O [m 12 0, o 13 (.ar .leq (i 0) (t 12)), m 14 13, g 15 14 (.mv (t 0)), g 16 14 (.ar .lss (t 15)
  (i 100)), o 17 (.pk (t 14) (t 16) F)]) (C 17 (Q (O [m 18 0, k 19 (f f_internal_strconv_small) [(t 18)], m 4 19]) R) X)) (Q (O [o 5 (.nw [(.int .u8 0), (.int .u8 0), (.int .u8 0),
  (.int .u8 0), (.int .u8 0), (.int .u8 0), (.int .u8 0), (.int .u8 0), (.int .u8 0), (.int .u8 0), (.int .u8 0), (.int .u8 0), (.int .u8 0), (.int .u8 0), (.int .u8 0), (.int .u8 0),
  (.int .u8 0), (.int .u8 0), (.int .u8 0), (.int .u8 0), (.int .u8 0), (.int .u8 0), (.int .u8 0), (.int .u8 0)] t_24_uint8)]) (Q (O [m 20 0, o 21 (.cvi .u64 (t 20)), m 6 21]) (Q (Q
  (O [m 22 0, o 23 (.ar .lss (t 22) (i 0))]) (C 23 (O [m 24 6, o 25 (.un .neg (t 24)), m 6 25]) X)) (Q (O [m 26 6, k 27 (f f_internal_strconv_numDigits) [(t 26)], m 7 27]) (Q (O [m 28
  7, o 29 (.ar .add (i 1) (t 28)), o 30 (.sla 24 1 (t 5) (some (i 1)) (some (t 29))), m 31 6, k 32 (f f_internal_strconv_formatBase10) [(t 30), (t 31)]]) (Q (Q (O [m 33 0, o 34 (.ar
  .lss (t 33) (i 0))]) (C 34 (Q (O [o 35 (.iaa 24 1 (t 5) (i 0)), n (.st 1 (t 35) (u 45))]) (Q (O [m 36 7, o 37 (.ar .add (i 1) (t 36)), o 38 (.sla 24 1 (t 5) none (some (t 37))), o
  39 (.cvbs (t 38)), m 4 39]) R)) X)) (Q (O [m 40 7, o 41 (.ar .add (i 1) (t 40)), o 42 (.sla 24 1 (t 5) (some (i 1)) (some (t 41))), o 43 (.cvbs (t 42)), m 4 43]) R)))))))) X)) (Q (O
  [m 45 0, o 46 (.cvi .u64 (t 45)), m 47 1, m 48 0, o 49 (.ar .lss (t 48) (i 0)), k 50 (f f_internal_strconv_formatBits) [(.c (.slice .nil 1 [])), (t 46), (t 47), (t 49), F], m 44 50,
  ex 51 44 0, ex 52 44 1, m 8 51, m 9 52]) (Q (O [m 53 9, m 4 53]) R))))
def ka_internal_strconv_FormatInt : AFn := ⟨kc_internal_strconv_FormatInt, 54, [.t 4], .keep, [], none⟩
def kc_slices_order2CmpFunc_api_Feat : AC :=
  (Q (O [mc 10 (i 0), mc 11 (i 0)]) (Q (Q (D [P (m 12 4), P (m 13 0), P (m 14 2), P (ia 15 2 13 14), W (la 16 2 15), P (m 17 0), P (m 18 1), P (ia 19 2 17 18), W (la 20 2 19), E (k 21
  (t 12) [(t 16), (t 20)]), P (o 22 (.ar .lss (t 21) (i 0)))]) (C 22 (Q (O [m 23 3, o 24 (.nc (t 23)), ld 25 24, ad 26 25, o 27 (.nc (t 23)), n (.st 1 (t 27) (t 26))]) (Q (O [m 28 2,
  m 29 1, m 10 28, m 11 29]) R)) X)) (Q (O [m 30 1, m 31 2, m 10 30, m 11 31]) R)))
def ka_slices_order2CmpFunc_api_Feat : AFn := ⟨kc_slices_order2CmpFunc_api_Feat, 32, [.t 10, .t 11], .keep, [], none⟩
def l_kinternal_strconv_ParseUint_0 : AC :=
  (Q (O [bl 102 101 100]) (Q (C 102 X (.exit 3)) (Q (.block 4 (Q (O [ia 103 1 99 101, ld 104 103, m 15 104]) (Q (O [mc 16 (u 0)]) (Q (.block 5 (Q (O [m 107 15, o 108 (.ar .eql (t 107)
  (u 95)), m 109 108, g 110 109 (.mv (t 8)), o 111 (.pk (t 109) (t 110) F), m 106 111]) (C 106 (Q (O [mc 12 T]) (.exit 4)) (Q (O [m 113 15, o 114 (.ar .leq (u 48) (t 113)), m 115 114,
  g 116 115 (.mv (t 15)), g 117 115 (.ar .leq (t 116) (u 57)), o 118 (.pk (t 115) (t 117) F), m 112 118]) (C 112 (O [m 119 15, o 120 (.ar .sub (t 119) (u 48)), m 16 120]) (Q (O [m 122
  15, k 123 (f f_internal_strconv_lower) [(t 122)], o 124 (.ar .leq (u 97) (t 123)), m 125 124, g 126 125 (.mv (t 15)), ⟨(some 127), (some (125, true)), (.call (.c (.fn (.func
  f_internal_strconv_lower) [] [])) [(.t 126)])⟩, g 128 125 (.ar .leq (t 127) (u 122)), o 129 (.pk (t 125) (t 128) F), m 121 129]) (C 121 (O [m 130 15, k 131 (f
  f_internal_strconv_lower) [(t 130)], o 132 (.ar .sub (t 131) (u 97)), o 133 (.ar .add (t 132) (u 10)), m 16 133]) (Q (O [o 105 (.mi t_strconv_Error (i 2)), mc 6 (.c (.int .u64 0)),
  m 7 105]) R)))))))) (Q (Q (O [m 134 16, m 135 1, o 136 (.cvi .u8 (t 135)), o 137 (.ar .geq (t 134) (t 136))]) (C 137 (Q (O [o 138 (.mi t_strconv_Error (i 2)), mc 6 (.c (.int .u64
  0)), m 7 138]) R) X)) (Q (Q (O [m 139 13, m 140 10, o 141 (.ar .geq (t 139) (t 140))]) (C 141 (Q (O [m 142 11, o 143 (.mi t_strconv_Error (i 1)), m 6 142, m 7 143]) R) X)) (Q (O [m
  144 13, m 145 1, o 146 (.cvi .u64 (t 145)), o 147 (.ar .mul (t 144) (t 146)), m 13 147]) (Q (O [m 148 13, m 149 16, o 150 (.cvi .u64 (t 149)), o 151 (.ar .add (t 148) (t 150)), m 17
  151]) (Q (Q (O [m 152 17, m 153 13, bl 154 152 153, m 155 154, h 156 155 (.mv (t 17)), h 157 155 (.mv (t 11)), h 158 155 (.ar .gtr (t 156) (t 157)), o 159 (.pk (t 155) T (t 158))])
  (C 159 (Q (O [m 160 11, o 161 (.mi t_strconv_Error (i 1)), m 6 160, m 7 161]) R) X)) (O [m 162 17, m 13 162])))))))))) (O [ad 163 101, m 101 163]))))
def kc_internal_strconv_ParseUint : AC :=
  (Q (O [mc 6 (.c (.int .u64 0)), mc 7 (.c .nilif)]) (Q (Q (O [m 18 0, o 19 (.ar .eql (t 18) (s []))]) (C 19 (Q (O [o 20 (.mi t_strconv_Error (i 2)), mc 6 (.c (.int .u64 0)), m 7 20])
  R) X)) (Q (O [m 21 1, o 22 (.ar .eql (t 21) (i 0)), m 8 22]) (Q (O [m 23 0, m 9 23]) (Q (.block 0 (Q (O [m 26 1, o 27 (.ar .leq (i 2) (t 26)), m 28 27, g 29 28 (.mv (t 1)), g 30 28
  (.ar .leq (t 29) (i 36)), o 31 (.pk (t 28) (t 30) F), m 25 31]) (C 25 X (Q (O [m 33 1, o 34 (.ar .eql (t 33) (i 0)), m 32 34]) (C 32 (Q (O [mc 1 (i 10)]) (Q (O [m 35 0, o 36 (.ixs
  (t 35) (i 0)), o 37 (.ar .eql (t 36) (u 48))]) (C 37 (.block 1 (Q (O [m 41 0, lt 42 41, o 43 (.ar .geq (t 42) (i 3)), m 44 43, g 45 44 (.mv (t 0)), g 46 44 (.ixs (t 45) (i 1)),
  ⟨(some 47), (some (44, true)), (.call (.c (.fn (.func f_internal_strconv_lower) [] [])) [(.t 46)])⟩, g 48 44 (.ar .eql (t 47) (u 98)), o 49 (.pk (t 44) (t 48) F), m 40 49]) (C 40 (Q
  (O [mc 1 (i 2)]) (O [m 50 0, o 51 (.sls (t 50) (some (i 2)) none), m 0 51])) (Q (O [m 53 0, lt 54 53, o 55 (.ar .geq (t 54) (i 3)), m 56 55, g 57 56 (.mv (t 0)), g 58 56 (.ixs (t
  57) (i 1)), ⟨(some 59), (some (56, true)), (.call (.c (.fn (.func f_internal_strconv_lower) [] [])) [(.t 58)])⟩, g 60 56 (.ar .eql (t 59) (u 111)), o 61 (.pk (t 56) (t 60) F), m 52
  61]) (C 52 (Q (O [mc 1 (i 8)]) (O [m 62 0, o 63 (.sls (t 62) (some (i 2)) none), m 0 63])) (Q (O [m 65 0, lt 66 65, o 67 (.ar .geq (t 66) (i 3)), m 68 67, g 69 68 (.mv (t 0)), g 70
  68 (.ixs (t 69) (i 1)), ⟨(some 71), (some (68, true)), (.call (.c (.fn (.func f_internal_strconv_lower) [] [])) [(.t 70)])⟩, g 72 68 (.ar .eql (t 71) (u 120)), o 73 (.pk (t 68) (t
  72) F), m 64 73]) (C 64 (Q (O [mc 1 (i 16)]) (O [m 74 0, o 75 (.sls (t 74) (some (i 2)) none), m 0 75])) (Q (O [mc 1 (i 8)]) (O [m 38 0, o 39 (.sls (t 38) (some (i 1)) none), m 0
  39]))))))))) X))) (Q (O [o 24 (.mi t_strconv_Error (i 3)), mc 6 (.c (.int .u64 0)), m 7 24]) R)))))) (Q (Q (O [m 76 2, o 77 (.ar .eql (t 76) (i 0))]) (C 77 (O [mc 2 (i 64)]) (Q (O
  [m 78 2, o 79 (.ar .lss (t 78) (i 0)), m 80 79, h 81 80 (.mv (t 2)), h 82 80 (.ar .gtr (t 81) (i 64)), o 83 (.pk (t 80) T (t 82))]) (C 83 (Q (O [o 84 (.mi t_strconv_Error (i 4)), mc
  6 (.c (.int .u64 0)), m 7 84]) R) X)))) (Q (O [mc 10 (.c (.int .u64 0))]) (Q (Q (O [m 85 1]) (.block 2 (Q (O [o 91 (.ar .eql (t 85) (i 10)), m 90 91]) (C 90 (O [mc 10 (.c (.int .u64
  1844674407370955162))]) (Q (O [o 93 (.ar .eql (t 85) (i 16)), m 92 93]) (C 92 (O [mc 10 (.c (.int .u64 1152921504606846976))]) (O [m 86 1, o 87 (.cvi .u64 (t 86)), o 88 (.ar .quo
  (.c (.int .u64 18446744073709551615)) (t 87)), o 89 (.ar .add (t 88) (.c (.int .u64 1))), m 10 89]))))))) (Q (O [m 94 2, o 95 (.cvi .u64 (t 94)), o 96 (.sh .shl (.c (.int .u64 1))
  (t 95)), o 97 (.ar .sub (t 96) (.c (.int .u64 1))), m 11 97]) (Q (O [mc 12 F]) (Q (O [mc 13 (.c (.int .u64 0))]) (Q (Q (O [m 98 0, o 99 (.cvsb (t 98)), ls 100 99, mc 101 (i 0)])
  (.block 3 (.loop ⟨none, [], false⟩ l_kinternal_strconv_ParseUint_0))) (Q (Q (O [m 164 12, m 165 164, g 166 165 (.mv (t 9)), ⟨(some 167), (some (165, true)), (.call (.c (.fn (.func
  f_internal_strconv_underscoreOK) [] [])) [(.t 166)])⟩, g 168 165 (.un .not (t 167)), o 169 (.pk (t 165) (t 168) F)]) (C 169 (Q (O [o 170 (.mi t_strconv_Error (i 2)), mc 6 (.c (.int
  .u64 0)), m 7 170]) R) X)) (Q (O [m 171 13, m 6 171, mc 7 (.c .nilif)]) R))))))))))))))
def ka_internal_strconv_ParseUint : AFn := ⟨kc_internal_strconv_ParseUint, 172, [.t 6, .t 7], .keep, [], none⟩
def kc_internal_stringslite_Clone : AC :=
  (Q (O [mc 2 (s [])]) (Q (Q (O [m 4 0, lt 5 4, o 6 (.ar .eql (t 5) (i 0))]) (C 6 (Q (O [mc 2 (s [])]) R) X)) (Q (O [m 7 0, lt 8 7, o 9 (.ms t_uint8 1 [(.int .u8 0)] (t 8) (t 8)), m 3
  9]) (Q (O [m 10 3, m 11 0, o 12 (.cp 1 true (t 10) (t 11))]) (Q (O [m 13 3, o 14 (.ias 1 (t 13) (i 0)), m 15 3, ls 16 15, o 17 (.ust t_uint8 (t 14) (t 16)), m 2 17]) R)))))
def ka_internal_stringslite_Clone : AFn := ⟨kc_internal_stringslite_Clone, 18, [.t 2], .keep, [], none⟩
def kc_errors_New : AC :=
  (Q (O [mc 2 (.c .nilif)]) (Q (O [m 3 0, o 4 (.bd [(.str [])] [(0, 1)] [(0, (t 3))]), o 5 (.bx t_errors_errorString (t 4)), o 6 (.mi t_p_errors_errorString (t 5)), m 2 6]) R))
def ka_errors_New : AFn := ⟨kc_errors_New, 7, [.t 2], .keep, [], none⟩
def kc_internal_strconv_small : AC :=
  (Q (O [mc 2 (s [])]) (Q (Q (O [m 3 0, o 4 (.ar .lss (t 3) (i 10))]) (C 4 (Q (O [m 5 0, m 6 0, ad 7 6, o 8 (.sls (s [48, 49, 50, 51, 52, 53, 54, 55, 56, 57, 97, 98, 99, 100, 101,
  102, 103, 104, 105, 106, 107, 108, 109, 110, 111, 112, 113, 114, 115, 116, 117, 118, 119, 120, 121, 122]) (some (t 5)) (some (t 7))), m 2 8]) R) X)) (Q (O [m 9 0, o 10 (.ar .mul (t
  9) (i 2)), m 11 0, o 12 (.ar .mul (t 11) (i 2)), o 13 (.ar .add (t 12) (i 2)), o 14 (.sls (s [48, 48, 48, 49, 48, 50, 48, 51, 48, 52, 48, 53, 48, 54, 48, 55, 48, 56, 48, 57, 49, 48,
  49, 49, 49, 50, 49, 51, 49, 52, 49, 53, 49, 54, 49, 55, 49, 56, 49, 57, 50, 48, 50, 49, 50, 50, 50, 51, 50, 52, 50, 53, 50, 54, 50, 55, 50, 56, 50, 57, 51, 48, 51, 49, 51, 50, 51,
  51, 51, 52, 51, 53, 51, 54, 51, 55, 51, 56, 51, 57, 52, 48, 52, 49, 52, 50, 52, 51, 52, 52, 52, 53, 52, 54, 52, 55, 52, 56, 52, 57, 53, 48, 53, 49, 53, 50, 53, 51, 53, 52, 53, 53,
  53, 54, 53, 55, 53, 56, 53, 57, 54, 48, 54, 49, 54, 50, 54, 51, 54, 52, 54, 53, 54, 54, 54, 55, 54, 56, 54, 57, 55, 48, 55, 49, 55, 50, 55, 51, 55, 52, 55, 53, 55, 54, 55, 55, 55,
  56, 55, 57, 56, 48, 56, 49, 56, 50, 56, 51, 56, 52, 56, 53, 56, 54, 56, 55, 56, 56, 56, 57, 57, 48, 57, 49, 57, 50, 57, 51, 57, 52, 57, 53, 57, 54, 57, 55, 57, 56, 57, 57]) (some (t
  10)) (some (t 13))), m 2 14]) R)))
def ka_internal_strconv_small : AFn := ⟨kc_internal_strconv_small, 15, [.t 2], .keep, [], none⟩
def kc_internal_strconv_numDigits : AC :=
  (Q (O [mc 2 (i 0)]) (Q (O [m 4 0, k 5 (f f_math_bits_Len64) [(t 4)], k 6 (f f_internal_strconv_log10Pow2) [(t 5)], m 3 6]) (Q (O [m 7 3, m 8 0, m 9 3, o 10 (.iaa 20 1 (.c .unk) (t
  9)), ld 11 10, o 12 (.ar .geq (t 8) (t 11)), k 13 (f f_internal_strconv_bool2_int) [(t 12)], o 14 (.ar .add (t 7) (t 13)), m 2 14]) R)))
def ka_internal_strconv_numDigits : AFn := ⟨kc_internal_strconv_numDigits, 15, [.t 2], .keep, [], none⟩
def l_kinternal_strconv_formatBase10_0 : AC :=
  (Q (Q (O [m 19 4, o 20 (.ar .geq (t 19) (i 8))]) (C 20 X (.exit 0))) (.block 1 (Q (O [m 21 1, o 22 (.ar .rem (t 21) (.c (.int .u64 100000000))), o 23 (.cvi .u32 (t 22)), m 5 23]) (Q
  (O [m 24 1, o 25 (.ar .quo (t 24) (.c (.int .u64 100000000))), m 1 25]) (Q (O [m 26 5, o 27 (.ar .quo (t 26) (.c (.int .u32 10000))), m 28 5, o 29 (.ar .rem (t 28) (.c (.int .u32
  10000))), m 6 27, m 7 29]) (Q (O [m 30 7, o 31 (.ar .quo (t 30) (.c (.int .u32 100))), o 32 (.ar .mul (t 31) (.c (.int .u32 2))), m 33 7, o 34 (.ar .rem (t 33) (.c (.int .u32
  100))), o 35 (.ar .mul (t 34) (.c (.int .u32 2))), m 8 32, m 9 35]) (Q (O [m 36 6, o 37 (.ar .quo (t 36) (.c (.int .u32 100))), o 38 (.ar .mul (t 37) (.c (.int .u32 2))), m 39 6, o
  40 (.ar .rem (t 39) (.c (.int .u32 100))), o 41 (.ar .mul (t 40) (.c (.int .u32 2))), m 10 38, m 11 41]) (Q (D [P (m 42 0), P (m 43 4), P (o 44 (.ar .sub (t 43) (i 1))), P (m 45 0),
  P (m 46 4), P (o 47 (.ar .sub (t 46) (i 2))), P (m 48 9), P (o 49 (.ar .add (t 48) (.c (.int .u32 1)))), P (o 50 (.ixs (s [48, 48, 48, 49, 48, 50, 48, 51, 48, 52, 48, 53, 48, 54,
  48, 55, 48, 56, 48, 57, 49, 48, 49, 49, 49, 50, 49, 51, 49, 52, 49, 53, 49, 54, 49, 55, 49, 56, 49, 57, 50, 48, 50, 49, 50, 50, 50, 51, 50, 52, 50, 53, 50, 54, 50, 55, 50, 56, 50,
  57, 51, 48, 51, 49, 51, 50, 51, 51, 51, 52, 51, 53, 51, 54, 51, 55, 51, 56, 51, 57, 52, 48, 52, 49, 52, 50, 52, 51, 52, 52, 52, 53, 52, 54, 52, 55, 52, 56, 52, 57, 53, 48, 53, 49,
  53, 50, 53, 51, 53, 52, 53, 53, 53, 54, 53, 55, 53, 56, 53, 57, 54, 48, 54, 49, 54, 50, 54, 51, 54, 52, 54, 53, 54, 54, 54, 55, 54, 56, 54, 57, 55, 48, 55, 49, 55, 50, 55, 51, 55,
  52, 55, 53, 55, 54, 55, 55, 55, 56, 55, 57, 56, 48, 56, 49, 56, 50, 56, 51, 56, 52, 56, 53, 56, 54, 56, 55, 56, 56, 56, 57, 57, 48, 57, 49, 57, 50, 57, 51, 57, 52, 57, 53, 57, 54,
  57, 55, 57, 56, 57, 57]) (t 49))), P (m 51 9), P (o 52 (.ixs (s [48, 48, 48, 49, 48, 50, 48, 51, 48, 52, 48, 53, 48, 54, 48, 55, 48, 56, 48, 57, 49, 48, 49, 49, 49, 50, 49, 51, 49,
  52, 49, 53, 49, 54, 49, 55, 49, 56, 49, 57, 50, 48, 50, 49, 50, 50, 50, 51, 50, 52, 50, 53, 50, 54, 50, 55, 50, 56, 50, 57, 51, 48, 51, 49, 51, 50, 51, 51, 51, 52, 51, 53, 51, 54,
  51, 55, 51, 56, 51, 57, 52, 48, 52, 49, 52, 50, 52, 51, 52, 52, 52, 53, 52, 54, 52, 55, 52, 56, 52, 57, 53, 48, 53, 49, 53, 50, 53, 51, 53, 52, 53, 53, 53, 54, 53, 55, 53, 56, 53,
  57, 54, 48, 54, 49, 54, 50, 54, 51, 54, 52, 54, 53, 54, 54, 54, 55, 54, 56, 54, 57, 55, 48, 55, 49, 55, 50, 55, 51, 55, 52, 55, 53, 55, 54, 55, 55, 55, 56, 55, 57, 56, 48, 56, 49,
  56, 50, 56, 51, 56, 52, 56, 53, 56, 54, 56, 55, 56, 56, 56, 57, 57, 48, 57, 49, 57, 50, 57, 51, 57, 52, 57, 53, 57, 54, 57, 55, 57, 56, 57, 57]) (t 51))), P (ia 53 1 42 44), E (n
  (.st 1 (t 53) (t 50))), P (ia 54 1 45 47), E (n (.st 1 (t 54) (t 52)))]) (Q (D [P (m 55 0), P (m 56 4), P (o 57 (.ar .sub (t 56) (i 3))), P (m 58 0), P (m 59 4), P (o 60 (.ar .sub
  (t 59) (i 4))), P (m 61 8), P (o 62 (.ar .add (t 61) (.c (.int .u32 1)))), P (o 63 (.ixs (s [48, 48, 48, 49, 48, 50, 48, 51, 48, 52, 48, 53, 48, 54, 48, 55, 48, 56, 48, 57, 49, 48,
  49, 49, 49, 50, 49, 51, 49, 52, 49, 53, 49, 54, 49, 55, 49, 56, 49, 57, 50, 48, 50, 49, 50, 50, 50, 51, 50, 52, 50, 53, 50, 54, 50, 55, 50, 56, 50, 57, 51, 48, 51, 49, 51, 50, 51,
  51, 51, 52, 51, 53, 51, 54, 51, 55, 51, 56, 51, 57, 52, 48, 52, 49, 52, 50, 52, 51, 52, 52, 52, 53, 52, 54, 52, 55, 52, 56, 52, 57, 53, 48, 53, 49, 53, 50, 53, 51, 53, 52, 53, 53,
  53, 54, 53, 55, 53, 56, 53, 57, 54, 48, 54, 49, 54, 50, 54, 51, 54, 52, 54, 53, 54, 54, 54, 55, 54, 56, 54, 57, 55, 48, 55, 49, 55, 50, 55, 51, 55, 52, 55, 53, 55, 54, 55, 55, 55,
  56, 55, 57, 56, 48, 56, 49, 56, 50, 56, 51, 56, 52, 56, 53, 56, 54, 56, 55, 56, 56, 56, 57, 57, 48, 57, 49, 57, 50, 57, 51, 57, 52, 57, 53, 57, 54, 57, 55, 57, 56, 57, 57]) (t
  62))), P (m 64 8), P (o 65 (.ixs (s [48, 48, 48, 49, 48, 50, 48, 51, 48, 52, 48, 53, 48, 54, 48, 55, 48, 56, 48, 57, 49, 48, 49, 49, 49, 50, 49, 51, 49, 52, 49, 53, 49, 54, 49, 55,
  49, 56, 49, 57, 50, 48, 50, 49, 50, 50, 50, 51, 50, 52, 50, 53, 50, 54, 50, 55, 50, 56, 50, 57, 51, 48, 51, 49, 51, 50, 51, 51, 51, 52, 51, 53, 51, 54, 51, 55, 51, 56, 51, 57, 52,
  48, 52, 49, 52, 50, 52, 51, 52, 52, 52, 53, 52, 54, 52, 55, 52, 56, 52, 57, 53, 48, 53, 49, 53, 50, 53, 51, 53, 52, 53, 53, 53, 54, 53, 55, 53, 56, 53, 57, 54, 48, 54, 49, 54, 50,
  54, 51, 54, 52, 54, 53, 54, 54, 54, 55, 54, 56, 54, 57, 55, 48, 55, 49, 55, 50, 55, 51, 55, 52, 55, 53, 55, 54, 55, 55, 55, 56, 55, 57, 56, 48, 56, 49, 56, 50, 56, 51, 56, 52, 56,
  53, 56, 54, 56, 55, 56, 56, 56, 57, 57, 48, 57, 49, 57, 50, 57, 51, 57, 52, 57, 53, 57, 54, 57, 55, 57, 56, 57, 57]) (t 64))), P (ia 66 1 55 57), E (n (.st 1 (t 66) (t 63))), P (ia
  67 1 58 60), E (n (.st 1 (t 67) (t 65)))]) (Q (D [P (m 68 0), P (m 69 4), P (o 70 (.ar .sub (t 69) (i 5))), P (m 71 0), P (m 72 4), P (o 73 (.ar .sub (t 72) (i 6))), P (m 74 11), P
  (o 75 (.ar .add (t 74) (.c (.int .u32 1)))), P (o 76 (.ixs (s [48, 48, 48, 49, 48, 50, 48, 51, 48, 52, 48, 53, 48, 54, 48, 55, 48, 56, 48, 57, 49, 48, 49, 49, 49, 50, 49, 51, 49,
  52, 49, 53, 49, 54, 49, 55, 49, 56, 49, 57, 50, 48, 50, 49, 50, 50, 50, 51, 50, 52, 50, 53, 50, 54, 50, 55, 50, 56, 50, 57, 51, 48, 51, 49, 51, 50, 51, 51, 51, 52, 51, 53, 51, 54,
  51, 55, 51, 56, 51, 57, 52, 48, 52, 49, 52, 50, 52, 51, 52, 52, 52, 53, 52, 54, 52, 55, 52, 56, 52, 57, 53, 48, 53, 49, 53, 50, 53, 51, 53, 52, 53, 53, 53, 54, 53, 55, 53, 56, 53,
  57, 54, 48, 54, 49, 54, 50, 54, 51, 54, 52, 54, 53, 54, 54, 54, 55, 54, 56, 54, 57, 55, 48, 55, 49, 55, 50, 55, 51, 55, 52, 55, 53, 55, 54, 55, 55, 55, 56, 55, 57, 56, 48, 56, 49,
  56, 50, 56, 51, 56, 52, 56, 53, 56, 54, 56, 55, 56, 56, 56, 57, 57, 48, 57, 49, 57, 50, 57, 51, 57, 52, 57, 53, 57, 54, 57, 55, 57, 56, 57, 57]) (t 75))), P (m 77 11), P (o 78 (.ixs
  (s [48, 48, 48, 49, 48, 50, 48, 51, 48, 52, 48, 53, 48, 54, 48, 55, 48, 56, 48, 57, 49, 48, 49, 49, 49, 50, 49, 51, 49, 52, 49, 53, 49, 54, 49, 55, 49, 56, 49, 57, 50, 48, 50, 49,
  50, 50, 50, 51, 50, 52, 50, 53, 50, 54, 50, 55, 50, 56, 50, 57, 51, 48, 51, 49, 51, 50, 51, 51, 51, 52, 51, 53, 51, 54, 51, 55, 51, 56, 51, 57, 52, 48, 52, 49, 52, 50, 52, 51, 52,
  52, 52, 53, 52, 54, 52, 55, 52, 56, 52, 57, 53, 48, 53, 49, 53, 50, 53, 51, 53, 52, 53, 53, 53, 54, 53, 55, 53, 56, 53, 57, 54, 48, 54, 49, 54, 50, 54, 51, 54, 52, 54, 53, 54, 54,
  54, 55, 54, 56, 54, 57, 55, 48, 55, 49, 55, 50, 55, 51, 55, 52, 55, 53, 55, 54, 55, 55, 55, 56, 55, 57, 56, 48, 56, 49, 56, 50, 56, 51, 56, 52, 56, 53, 56, 54, 56, 55, 56, 56, 56,
  57, 57, 48, 57, 49, 57, 50, 57, 51, 57, 52, 57, 53, 57, 54, 57, 55, 57, 56, 57, 57]) (t 77))), P (ia 79 1 68 70), E (n (.st 1 (t 79) (t 76))), P (ia 80 1 71 73), E (n (.st 1 (t 80)
  (t 78)))]) (Q (D [P (m 81 0), P (m 82 4), P (o 83 (.ar .sub (t 82) (i 7))), P (m 84 0), P (m 85 4), P (o 86 (.ar .sub (t 85) (i 8))), P (m 87 10), P (o 88 (.ar .add (t 87) (.c (.int
  .u32 1)))), P (o 89 (.ixs (s [48, 48, 48, 49, 48, 50, 48, 51, 48, 52, 48, 53, 48, 54, 48, 55, 48, 56, 48, 57, 49, 48, 49, 49, 49, 50, 49, 51, 49, 52, 49, 53, 49, 54, 49, 55, 49, 56,
  49, 57, 50, 48, 50, 49, 50, 50, 50, 51, 50, 52, 50, 53, 50, 54, 50, 55, 50, 56, 50, 57, 51, 48, 51, 49, 51, 50, 51, 51, 51, 52, 51, 53, 51, 54, 51, 55, 51, 56, 51, 57, 52, 48, 52,
  49, 52, 50, 52, 51, 52, 52, 52, 53, 52, 54, 52, 55, 52, 56, 52, 57, 53, 48, 53, 49, 53, 50, 53, 51, 53, 52, 53, 53, 53, 54, 53, 55, 53, 56, 53, 57, 54, 48, 54, 49, 54, 50, 54, 51,
  54, 52, 54, 53, 54, 54, 54, 55, 54, 56, 54, 57, 55, 48, 55, 49, 55, 50, 55, 51, 55, 52, 55, 53, 55, 54, 55, 55, 55, 56, 55, 57, 56, 48, 56, 49, 56, 50, 56, 51, 56, 52, 56, 53, 56,
  54, 56, 55, 56, 56, 56, 57, 57, 48, 57, 49, 57, 50, 57, 51, 57, 52, 57, 53, 57, 54, 57, 55, 57, 56, 57, 57]) (t 88))), P (m 90 10), P (o 91 (.ixs (s [48, 48, 48, 49, 48, 50, 48, 51,
  48, 52, 48, 53, 48, 54, 48, 55, 48, 56, 48, 57, 49, 48, 49, 49, 49, 50, 49, 51, 49, 52, 49, 53, 49, 54, 49, 55, 49, 56, 49, 57, 50, 48, 50, 49, 50, 50, 50, 51, 50, 52, 50, 53, 50,
  54, 50, 55, 50, 56, 50, 57, 51, 48, 51, 49, 51, 50, 51, 51, 51, 52, 51, 53, 51, 54, 51, 55, 51, 56, 51, 57, 52, 48, 52, 49, 52, 50, 52, 51, 52, 52, 52, 53, 52, 54, 52, 55, 52, 56,
  52, 57, 53, 48, 53, 49, 53, 50, 53, 51, 53, 52, 53, 53, 53, 54, 53, 55, 53, 56, 53, 57, 54, 48, 54, 49, 54, 50, 54, 51, 54, 52, 54, 53, 54, 54, 54, 55, 54, 56, 54, 57, 55, 48, 55,
  49, 55, 50, 55, 51, 55, 52, 55, 53, 55, 54, 55, 55, 55, 56, 55, 57, 56, 48, 56, 49, 56, 50, 56, 51, 56, 52, 56, 53, 56, 54, 56, 55, 56, 56, 56, 57, 57, 48, 57, 49, 57, 50, 57, 51,
  57, 52, 57, 53, 57, 54, 57, 55, 57, 56, 57, 57]) (t 90))), P (ia 92 1 81 83), E (n (.st 1 (t 92) (t 89))), P (ia 93 1 84 86), E (n (.st 1 (t 93) (t 91)))]) (O [m 94 4, o 95 (.ar
  .sub (t 94) (i 8)), m 4 95]))))))))))))
def kc_internal_strconv_formatBase10 : AC :=
  (Q (O [m 17 0, ls 18 17, m 4 18]) (Q (.block 0 (.loop ⟨none, [], false⟩ l_kinternal_strconv_formatBase10_0)) (Q (O [m 96 1, o 97 (.cvi .u32 (t 96)), m 12 97]) (Q (Q (O [m 98 4, o 99
  (.ar .geq (t 98) (i 4))]) (C 99 (Q (O [m 100 12, o 101 (.ar .rem (t 100) (.c (.int .u32 10000))), m 13 101]) (Q (O [m 102 12, o 103 (.ar .quo (t 102) (.c (.int .u32 10000))), m 12
  103]) (Q (O [m 104 13, o 105 (.ar .quo (t 104) (.c (.int .u32 100))), o 106 (.ar .mul (t 105) (.c (.int .u32 2))), m 107 13, o 108 (.ar .rem (t 107) (.c (.int .u32 100))), o 109
  (.ar .mul (t 108) (.c (.int .u32 2))), m 14 106, m 15 109]) (Q (D [P (m 110 0), P (m 111 4), P (o 112 (.ar .sub (t 111) (i 1))), P (m 113 0), P (m 114 4), P (o 115 (.ar .sub (t 114)
  (i 2))), P (m 116 15), P (o 117 (.ar .add (t 116) (.c (.int .u32 1)))), P (o 118 (.ixs (s [48, 48, 48, 49, 48, 50, 48, 51, 48, 52, 48, 53, 48, 54, 48, 55, 48, 56, 48, 57, 49, 48,
  49, 49, 49, 50, 49, 51, 49, 52, 49, 53, 49, 54, 49, 55, 49, 56, 49, 57, 50, 48, 50, 49, 50, 50, 50, 51, 50, 52, 50, 53, 50, 54, 50, 55, 50, 56, 50, 57, 51, 48, 51, 49, 51, 50, 51,
  51, 51, 52, 51, 53, 51, 54, 51, 55, 51, 56, 51, 57, 52, 48, 52, 49, 52, 50, 52, 51, 52, 52, 52, 53, 52, 54, 52, 55, 52, 56, 52, 57, 53, 48, 53, 49, 53, 50, 53, 51, 53, 52, 53, 53,
  53, 54, 53, 55, 53, 56, 53, 57, 54, 48, 54, 49, 54, 50, 54, 51, 54, 52, 54, 53, 54, 54, 54, 55, 54, 56, 54, 57, 55, 48, 55, 49, 55, 50, 55, 51, 55, 52, 55, 53, 55, 54, 55, 55, 55,
  56, 55, 57, 56, 48, 56, 49, 56, 50, 56, 51, 56, 52, 56, 53, 56, 54, 56, 55, 56, 56, 56, 57, 57, 48, 57, 49, 57, 50, 57, 51, 57, 52, 57, 53, 57, 54, 57, 55, 57, 56, 57, 57]) (t
  117))), P (m 119 15), P (o 120 (.ixs (s [48, 48, 48, 49, 48, 50, 48, 51, 48, 52, 48, 53, 48, 54, 48, 55, 48, 56, 48, 57, 49, 48, 49, 49, 49, 50, 49, 51, 49, 52, 49, 53, 49, 54, 49,
  55, 49, 56, 49, 57, 50, 48, 50, 49, 50, 50, 50, 51, 50, 52, 50, 53, 50, 54, 50, 55, 50, 56, 50, 57, 51, 48, 51, 49, 51, 50, 51, 51, 51, 52, 51, 53, 51, 54, 51, 55, 51, 56, 51, 57,
  52, 48, 52, 49, 52, 50, 52, 51, 52, 52, 52, 53, 52, 54, 52, 55, 52, 56, 52, 57, 53, 48, 53, 49, 53, 50, 53, 51, 53, 52, 53, 53, 53, 54, 53, 55, 53, 56, 53, 57, 54, 48, 54, 49, 54,
  50, 54, 51, 54, 52, 54, 53, 54, 54, 54, 55, 54, 56, 54, 57, 55, 48, 55, 49, 55, 50, 55, 51, 55, 52, 55, 53, 55, 54, 55, 55, 55, 56, 55, 57, 56, 48, 56, 49, 56, 50, 56, 51, 56, 52,
  56, 53, 56, 54, 56, 55, 56, 56, 56, 57, 57, 48, 57, 49, 57, 50, 57, 51, 57, 52, 57, 53, 57, 54, 57, 55, 57, 56, 57, 57]) (t 119))), P (ia 121 1 110 112), E (n (.st 1 (t 121) (t
  118))), P (ia 122 1 113 115), E (n (.st 1 (t 122) (t 120)))]) (Q (D [P (m 123 0), P (m 124 4), P (o 125 (.ar .sub (t 124) (i 3))), P (m 126 0), P (m 127 4), P (o 128 (.ar .sub (t
  127) (i 4))), P (m 129 14), P (o 130 (.ar .add (t 129) (.c (.int .u32 1)))), P (o 131 (.ixs (s [48, 48, 48, 49, 48, 50, 48, 51, 48, 52, 48, 53, 48, 54, 48, 55, 48, 56, 48, 57, 49,
  48, 49, 49, 49, 50, 49, 51, 49, 52, 49, 53, 49, 54, 49, 55, 49, 56, 49, 57, 50, 48, 50, 49, 50, 50, 50, 51, 50, 52, 50, 53, 50, 54, 50, 55, 50, 56, 50, 57, 51, 48, 51, 49, 51, 50,
  51, 51, 51, 52, 51, 53, 51, 54, 51, 55, 51, 56, 51, 57, 52, 48, 52, 49, 52, 50, 52, 51, 52, 52, 52, 53, 52, 54, 52, 55, 52, 56, 52, 57, 53, 48, 53, 49, 53, 50, 53, 51, 53, 52, 53,
  53, 53, 54, 53, 55, 53, 56, 53, 57, 54, 48, 54, 49, 54, 50, 54, 51, 54, 52, 54, 53, 54, 54, 54, 55, 54, 56, 54, 57, 55, 48, 55, 49, 55, 50, 55, 51, 55, 52, 55, 53, 55, 54, 55, 55,
  55, 56, 55, 57, 56, 48, 56, 49, 56, 50, 56, 51, 56, 52, 56, 53, 56, 54, 56, 55, 56, 56, 56, 57, 57, 48, 57, 49, 57, 50, 57, 51, 57, 52, 57, 53, 57, 54, 57, 55, 57, 56, 57, 57]) (t
  130))), P (m 132 14), P (o 133 (.ixs (s [48, 48, 48, 49, 48, 50, 48, 51, 48, 52, 48, 53, 48, 54, 48, 55, 48, 56, 48, 57, 49, 48, 49, 49, 49, 50, 49, 51, 49, 52, 49, 53, 49, 54, 49,
  55, 49, 56, 49, 57, 50, 48, 50, 49, 50, 50, 50, 51, 50, 52, 50, 53, 50, 54, 50, 55, 50, 56, 50, 57, 51, 48, 51, 49, 51, 50, 51, 51, 51, 52, 51, 53, 51, 54, 51, 55, 51, 56, 51, 57,
  52, 48, 52, 49, 52, 50, 52, 51, 52, 52, 52, 53, 52, 54, 52, 55, 52, 56, 52, 57, 53, 48, 53, 49, 53, 50, 53, 51, 53, 52, 53, 53, 53, 54, 53, 55, 53, 56, 53, 57, 54, 48, 54, 49, 54,
  50, 54, 51, 54, 52, 54, 53, 54, 54, 54, 55, 54, 56, 54, 57, 55, 48, 55, 49, 55, 50, 55, 51, 55, 52, 55, 53, 55, 54, 55, 55, 55, 56, 55, 57, 56, 48, 56, 49, 56, 50, 56, 51, 56, 52,
  56, 53, 56, 54, 56, 55, 56, 56, 56, 57, 57, 48, 57, 49, 57, 50, 57, 51, 57, 52, 57, 53, 57, 54, 57, 55, 57, 56, 57, 57]) (t 132))), P (ia 134 1 123 125), E (n (.st 1 (t 134) (t
  131))), P (ia 135 1 126 128), E (n (.st 1 (t 135) (t 133)))]) (O [m 136 4, o 137 (.ar .sub (t 136) (i 4)), m 4 137])))))) X)) (Q (Q (O [m 138 4, o 139 (.ar .geq (t 138) (i 2))]) (C
  139 (Q (O [m 140 12, o 141 (.ar .rem (t 140) (.c (.int .u32 100))), o 142 (.ar .mul (t 141) (.c (.int .u32 2))), m 16 142]) (Q (O [m 143 12, o 144 (.ar .quo (t 143) (.c (.int .u32
  100))), m 12 144]) (Q (D [P (m 145 0), P (m 146 4), P (o 147 (.ar .sub (t 146) (i 1))), P (m 148 0), P (m 149 4), P (o 150 (.ar .sub (t 149) (i 2))), P (m 151 16), P (o 152 (.ar
  .add (t 151) (.c (.int .u32 1)))), P (o 153 (.ixs (s [48, 48, 48, 49, 48, 50, 48, 51, 48, 52, 48, 53, 48, 54, 48, 55, 48, 56, 48, 57, 49, 48, 49, 49, 49, 50, 49, 51, 49, 52, 49, 53,
  49, 54, 49, 55, 49, 56, 49, 57, 50, 48, 50, 49, 50, 50, 50, 51, 50, 52, 50, 53, 50, 54, 50, 55, 50, 56, 50, 57, 51, 48, 51, 49, 51, 50, 51, 51, 51, 52, 51, 53, 51, 54, 51, 55, 51,
  56, 51, 57, 52, 48, 52, 49, 52, 50, 52, 51, 52, 52, 52, 53, 52, 54, 52, 55, 52, 56, 52, 57, 53, 48, 53, 49, 53, 50, 53, 51, 53, 52, 53, 53, 53, 54, 53, 55, 53, 56, 53, 57, 54, 48,
  54, 49, 54, 50, 54, 51, 54, 52, 54, 53, 54, 54, 54, 55, 54, 56, 54, 57, 55, 48, 55, 49, 55, 50, 55, 51, 55, 52, 55, 53, 55, 54, 55, 55, 55, 56, 55, 57, 56, 48, 56, 49, 56, 50, 56,
  51, 56, 52, 56, 53, 56, 54, 56, 55, 56, 56, 56, 57, 57, 48, 57, 49, 57, 50, 57, 51, 57, 52, 57, 53, 57, 54, 57, 55, 57, 56, 57, 57]) (t 152))), P (m 154 16), P (o 155 (.ixs (s [48,
  48, 48, 49, 48, 50, 48, 51, 48, 52, 48, 53, 48, 54, 48, 55, 48, 56, 48, 57, 49, 48, 49, 49, 49, 50, 49, 51, 49, 52, 49, 53, 49, 54, 49, 55, 49, 56, 49, 57, 50, 48, 50, 49, 50, 50,
  50, 51, 50, 52, 50, 53, 50, 54, 50, 55, 50, 56, 50, 57, 51, 48, 51, 49, 51, 50, 51, 51, 51, 52, 51, 53, 51, 54, 51, 55, 51, 56, 51, 57, 52, 48, 52, 49, 52, 50, 52, 51, 52, 52, 52,
  53, 52, 54, 52, 55, 52, 56, 52, 57, 53, 48, 53, 49, 53, 50, 53, 51, 53, 52, 53, 53, 53, 54, 53, 55, 53, 56, 53, 57, 54, 48, 54, 49, 54, 50, 54, 51, 54, 52, 54, 53, 54, 54, 54, 55,
  54, 56, 54, 57, 55, 48, 55, 49, 55, 50, 55, 51, 55, 52, 55, 53, 55, 54, 55, 55, 55, 56, 55, 57, 56, 48, 56, 49, 56, 50, 56, 51, 56, 52, 56, 53, 56, 54, 56, 55, 56, 56, 56, 57, 57,
  48, 57, 49, 57, 50, 57, 51, 57, 52, 57, 53, 57, 54, 57, 55, 57, 56, 57, 57]) (t 154))), P (ia 156 1 145 147), E (n (.st 1 (t 156) (t 153))), P (ia 157 1 148 150), E (n (.st 1 (t
  157) (t 155)))]) (O [m 158 4, o 159 (.ar .sub (t 158) (i 2)), m 4 159])))) X)) (Q (O [m 160 4, o 161 (.ar .gtr (t 160) (i 0))]) (C 161 (O [m 162 0, m 163 12, o 164 (.ar .add (.c
  (.int .u32 48)) (t 163)), o 165 (.cvi .u8 (t 164)), o 166 (.ias 1 (t 162) (i 0)), n (.st 1 (t 166) (t 165))]) X)))))))
def ka_internal_strconv_formatBase10 : AFn := ⟨kc_internal_strconv_formatBase10, 167, [], .keep, [], none⟩
def l_kinternal_strconv_formatBits_0 : AC :=
  (Q (Q (O [m 44 1, m 45 15, o 46 (.ar .geq (t 44) (t 45))]) (C 46 X (.exit 0))) (.block 1 (Q (O [m 47 13, o 48 (.ar .sub (t 47) (i 1)), m 13 48]) (Q (O [m 49 13, m 50 1, m 51 16, o
  52 (.ar .and (t 50) (t 51)), o 53 (.ixs (s [48, 49, 50, 51, 52, 53, 54, 55, 56, 57, 97, 98, 99, 100, 101, 102, 103, 104, 105, 106, 107, 108, 109, 110, 111, 112, 113, 114, 115, 116,
  117, 118, 119, 120, 121, 122]) (t 52)), o 54 (.iaa 65 1 (t 12) (t 49)), n (.st 1 (t 54) (t 53))]) (O [m 55 1, m 56 14, o 57 (.sh .shr (t 55) (t 56)), m 1 57])))))
def l_kinternal_strconv_formatBits_1 : AC :=
  (Q (Q (O [m 66 1, m 67 17, o 68 (.ar .geq (t 66) (t 67))]) (C 68 X (.exit 2))) (.block 3 (Q (O [m 69 13, o 70 (.ar .sub (t 69) (i 1)), m 13 70]) (Q (O [m 71 1, m 72 17, o 73 (.ar
  .quo (t 71) (t 72)), m 18 73]) (Q (O [m 74 13, m 75 1, m 76 18, m 77 17, o 78 (.ar .mul (t 76) (t 77)), o 79 (.ar .sub (t 75) (t 78)), o 80 (.ixs (s [48, 49, 50, 51, 52, 53, 54, 55,
  56, 57, 97, 98, 99, 100, 101, 102, 103, 104, 105, 106, 107, 108, 109, 110, 111, 112, 113, 114, 115, 116, 117, 118, 119, 120, 121, 122]) (t 79)), o 81 (.iaa 65 1 (t 12) (t 74)), n
  (.st 1 (t 81) (t 80))]) (O [m 82 18, m 1 82]))))))
def kc_internal_strconv_formatBits : AC :=
  (Q (O [mc 10 (.c (.slice .nil 1 [])), mc 11 (s [])]) (Q (Q (O [m 19 2, o 20 (.ar .lss (t 19) (i 2)), m 21 20, h 22 21 (.mv (t 2)), h 23 21 (.ar .eql (t 22) (i 10)), o 24 (.pk (t 21)
  T (t 23)), m 25 24, h 26 25 (.mv (t 2)), h 27 25 (.ar .gtr (t 26) (i 36)), o 28 (.pk (t 25) T (t 27))]) (C 28 (O [o 29 (.mi t_string (s [115, 116, 114, 99, 111, 110, 118, 58, 32,
  105, 108, 108, 101, 103, 97, 108, 32, 65, 112, 112, 101, 110, 100, 73, 110, 116, 47, 70, 111, 114, 109, 97, 116, 73, 110, 116, 32, 98, 97, 115, 101])), ⟨none, none, (.panic (.t
  29))⟩]) X)) (Q (O [o 12 (.nw [(.int .u8 0), (.int .u8 0), (.int .u8 0), (.int .u8 0), (.int .u8 0), (.int .u8 0), (.int .u8 0), (.int .u8 0), (.int .u8 0), (.int .u8 0), (.int .u8
  0), (.int .u8 0), (.int .u8 0), (.int .u8 0), (.int .u8 0), (.int .u8 0), (.int .u8 0), (.int .u8 0), (.int .u8 0), (.int .u8 0), (.int .u8 0), (.int .u8 0), (.int .u8 0), (.int .u8
  0), (.int .u8 0), (.int .u8 0), (.int .u8 0), (.int .u8 0), (.int .u8 0), (.int .u8 0), (.int .u8 0), (.int .u8 0), (.int .u8 0), (.int .u8 0), (.int .u8 0), (.int .u8 0), (.int .u8
  0), (.int .u8 0), (.int .u8 0), (.int .u8 0), (.int .u8 0), (.int .u8 0), (.int .u8 0), (.int .u8 0), (.int .u8 0), (.int .u8 0), (.int .u8 0), (.int .u8 0), (.int .u8 0), (.int .u8
  0), (.int .u8 0), (.int .u8 0), (.int .u8 0), (.int .u8 0), (.int .u8 0), (.int .u8 0), (.int .u8 0), (.int .u8 0), (.int .u8 0), (.int .u8 0), (.int .u8 0), (.int .u8 0), (.int .u8
  0), (.int .u8 0), (.int .u8 0)] t_65_uint8)]) (Q (O [mc 13 (i 65)]) (Q (Q (O [m 30 3]) (C 30 (O [m 31 1, o 32 (.un .neg (t 31)), m 1 32]) X)) (Q (Q (O [m 33 2, k 34 (f
  f_internal_strconv_isPowerOfTwo) [(t 33)]]) (C 34 (Q (O [m 35 2, o 36 (.cvi .u64 (t 35)), k 37 (f f_math_bits_TrailingZeros) [(t 36)], o 38 (.cvi .u64 (t 37)), m 14 38]) (Q (O [m 39
  2, o 40 (.cvi .u64 (t 39)), m 15 40]) (Q (O [m 41 2, o 42 (.cvi .u64 (t 41)), o 43 (.ar .sub (t 42) (.c (.int .u64 1))), m 16 43]) (Q (.block 0 (.loop ⟨none, [], false⟩
  l_kinternal_strconv_formatBits_0)) (Q (O [m 58 13, o 59 (.ar .sub (t 58) (i 1)), m 13 59]) (O [m 60 13, m 61 1, o 62 (.ixs (s [48, 49, 50, 51, 52, 53, 54, 55, 56, 57, 97, 98, 99,
  100, 101, 102, 103, 104, 105, 106, 107, 108, 109, 110, 111, 112, 113, 114, 115, 116, 117, 118, 119, 120, 121, 122]) (t 61)), o 63 (.iaa 65 1 (t 12) (t 60)), n (.st 1 (t 63) (t
  62))])))))) (Q (O [m 64 2, o 65 (.cvi .u64 (t 64)), m 17 65]) (Q (.block 2 (.loop ⟨none, [], false⟩ l_kinternal_strconv_formatBits_1)) (Q (O [m 83 13, o 84 (.ar .sub (t 83) (i 1)),
  m 13 84]) (O [m 85 13, m 86 1, o 87 (.ixs (s [48, 49, 50, 51, 52, 53, 54, 55, 56, 57, 97, 98, 99, 100, 101, 102, 103, 104, 105, 106, 107, 108, 109, 110, 111, 112, 113, 114, 115,
  116, 117, 118, 119, 120, 121, 122]) (t 86)), o 88 (.iaa 65 1 (t 12) (t 85)), n (.st 1 (t 88) (t 87))])))))) (Q (Q (O [m 89 3]) (C 89 (Q (O [m 90 13, o 91 (.ar .sub (t 90) (i 1)), m
  13 91]) (O [m 92 13, o 93 (.iaa 65 1 (t 12) (t 92)), n (.st 1 (t 93) (u 45))])) X)) (Q (Q (O [m 94 4]) (C 94 (Q (O [m 95 0, m 96 13, o 97 (.sla 65 1 (t 12) (some (t 96)) none), o 98
  (.ap false t_uint8 1 1 false (t 95) (t 97)), m 10 98]) R) X)) (Q (O [m 99 13, o 100 (.sla 65 1 (t 12) (some (t 99)) none), o 101 (.cvbs (t 100)), m 11 101]) R)))))))))
def ka_internal_strconv_formatBits : AFn := ⟨kc_internal_strconv_formatBits, 102, [.t 10, .t 11], .keep, [], none⟩
def kc_internal_strconv_lower : AC :=
  (Q (O [mc 2 (u 0)]) (Q (O [m 3 0, o 4 (.ar .or (t 3) (u 32)), m 2 4]) R))
def ka_internal_strconv_lower : AFn := ⟨kc_internal_strconv_lower, 5, [.t 2], .keep, [], none⟩
def l_kinternal_strconv_underscoreOK_0 : AC :=
  (Q (Q (O [m 51 4, m 52 0, lt 53 52, bl 54 51 53]) (C 54 X (.exit 0))) (Q (.block 1 (Q (Q (O [m 57 0, m 58 4, o 59 (.ixs (t 57) (t 58)), o 60 (.ar .leq (u 48) (t 59)), m 61 60, g 62
  61 (.mv (t 0)), g 63 61 (.mv (t 4)), g 64 61 (.ixs (t 62) (t 63)), g 65 61 (.ar .leq (t 64) (u 57)), o 66 (.pk (t 61) (t 65) F), m 67 66, h 68 67 (.mv (t 5)), h 69 67 (.mv (t 68)),
  g 70 69 (.mv (t 0)), g 71 69 (.mv (t 4)), g 72 69 (.ixs (t 70) (t 71)), ⟨(some 73), (some (69, true)), (.call (.c (.fn (.func f_internal_strconv_lower) [] [])) [(.t 72)])⟩, g 74 69
  (.ar .leq (u 97) (t 73)), h 75 67 (.pk (t 69) (t 74) F), h 76 67 (.mv (t 75)), g 77 76 (.mv (t 0)), g 78 76 (.mv (t 4)), g 79 76 (.ixs (t 77) (t 78)), ⟨(some 80), (some (76, true)),
  (.call (.c (.fn (.func f_internal_strconv_lower) [] [])) [(.t 79)])⟩, g 81 76 (.ar .leq (t 80) (u 102)), h 82 67 (.pk (t 76) (t 81) F), o 83 (.pk (t 67) T (t 82))]) (C 83 (Q (O [mc
  3 (.c (.int .i32 48))]) (.exit 1)) X)) (Q (Q (O [m 84 0, m 85 4, o 86 (.ixs (t 84) (t 85)), o 87 (.ar .eql (t 86) (u 95))]) (C 87 (Q (Q (O [m 88 3, o 89 (.ar .neq (t 88) (.c (.int
  .i32 48)))]) (C 89 (Q (O [mc 2 F]) R) X)) (Q (O [mc 3 (.c (.int .i32 95))]) (.exit 1))) X)) (Q (Q (O [m 90 3, o 91 (.ar .eql (t 90) (.c (.int .i32 95)))]) (C 91 (Q (O [mc 2 F]) R)
  X)) (O [mc 3 (.c (.int .i32 33))]))))) (O [m 55 4, ad 56 55, m 4 56])))
def kc_internal_strconv_underscoreOK : AC :=
  (Q (O [mc 2 F]) (Q (O [mc 3 (.c (.int .i32 94))]) (Q (O [mc 4 (i 0)]) (Q (Q (O [m 6 0, lt 7 6, o 8 (.ar .geq (t 7) (i 1)), m 9 8, g 10 9 (.mv (t 0)), g 11 9 (.ixs (t 10) (i 0)), g
  12 9 (.ar .eql (t 11) (u 45)), g 13 9 (.mv (t 12)), h 14 13 (.mv (t 0)), h 15 13 (.ixs (t 14) (i 0)), h 16 13 (.ar .eql (t 15) (u 43)), g 17 9 (.pk (t 13) T (t 16)), o 18 (.pk (t 9)
  (t 17) F)]) (C 18 (O [m 19 0, o 20 (.sls (t 19) (some (i 1)) none), m 0 20]) X)) (Q (O [mc 5 F]) (Q (Q (O [m 21 0, lt 22 21, o 23 (.ar .geq (t 22) (i 2)), m 24 23, g 25 24 (.mv (t
  0)), g 26 24 (.ixs (t 25) (i 0)), g 27 24 (.ar .eql (t 26) (u 48)), o 28 (.pk (t 24) (t 27) F), m 29 28, g 30 29 (.mv (t 0)), g 31 29 (.ixs (t 30) (i 1)), ⟨(some 32), (some (29,
  true)), (.call (.c (.fn (.func f_internal_strconv_lower) [] [])) [(.t 31)])⟩, g 33 29 (.ar .eql (t 32) (u 98)), g 34 29 (.mv (t 33)), h 35 34 (.mv (t 0)), h 36 34 (.ixs (t 35) (i
  1)), ⟨(some 37), (some (34, false)), (.call (.c (.fn (.func f_internal_strconv_lower) [] [])) [(.t 36)])⟩, h 38 34 (.ar .eql (t 37) (u 111)), g 39 29 (.pk (t 34) T (t 38)), g 40 29
  (.mv (t 39)), h 41 40 (.mv (t 0)), h 42 40 (.ixs (t 41) (i 1)), ⟨(some 43), (some (40, false)), (.call (.c (.fn (.func f_internal_strconv_lower) [] [])) [(.t 42)])⟩, h 44 40 (.ar
  .eql (t 43) (u 120)), g 45 29 (.pk (t 40) T (t 44)), o 46 (.pk (t 29) (t 45) F)]) (C 46 (Q (O [mc 4 (i 2)]) (Q (O [mc 3 (.c (.int .i32 48))]) (O [m 47 0, o 48 (.ixs (t 47) (i 1)), k
  49 (f f_internal_strconv_lower) [(t 48)], o 50 (.ar .eql (t 49) (u 120)), m 5 50]))) X)) (Q (.block 0 (.loop ⟨none, [], false⟩ l_kinternal_strconv_underscoreOK_0)) (Q (O [m 92 3, o
  93 (.ar .neq (t 92) (.c (.int .i32 95))), m 2 93]) R))))))))
def ka_internal_strconv_underscoreOK : AFn := ⟨kc_internal_strconv_underscoreOK, 94, [.t 2], .keep, [], none⟩
def kc_internal_strconv_log10Pow2 : AC :=
  (Q (O [mc 2 (i 0)]) (Q (O [m 3 0, o 4 (.ar .mul (t 3) (i 78913)), o 5 (.sh .shr (t 4) (.c (.int .u64 18))), m 2 5]) R))
def ka_internal_strconv_log10Pow2 : AFn := ⟨kc_internal_strconv_log10Pow2, 6, [.t 2], .keep, [], none⟩
def kc_internal_strconv_bool2_int : AC :=
  (Q (O [mc 2 (i 0)]) (Q (Q (O [m 3 0]) (C 3 (Q (O [mc 2 (i 1)]) R) X)) (Q (O [mc 2 (i 0)]) R)))
def ka_internal_strconv_bool2_int : AFn := ⟨kc_internal_strconv_bool2_int, 4, [.t 2], .keep, [], none⟩
def kc_internal_strconv_isPowerOfTwo : AC :=
  (Q (O [mc 2 F]) (Q (O [m 3 0, m 4 0, o 5 (.ar .sub (t 4) (i 1)), o 6 (.ar .and (t 3) (t 5)), o 7 (.ar .eql (t 6) (i 0)), m 2 7]) R))
def ka_internal_strconv_isPowerOfTwo : AFn := ⟨kc_internal_strconv_isPowerOfTwo, 8, [.t 2], .keep, [], none⟩
def kc_math_bits_TrailingZeros : AC :=
  (Q (O [mc 2 (i 0)]) (Q (.cond (.c (.bool false)) (Q (O [m 3 0, o 4 (.cvi .u32 (t 3)), k 5 (f f_math_bits_TrailingZeros32) [(t 4)], m 2 5]) R) X) (Q (O [m 6 0, k 7 (f
  f_math_bits_TrailingZeros64) [(t 6)], m 2 7]) R)))
def ka_math_bits_TrailingZeros : AFn := ⟨kc_math_bits_TrailingZeros, 8, [.t 2], .keep, [], none⟩
def kc_math_bits_TrailingZeros32 : AC :=
  (Q (O [mc 2 (i 0)]) (Q (Q (O [m 3 0, o 4 (.ar .eql (t 3) (.c (.int .u32 0)))]) (C 4 (Q (O [mc 2 (i 32)]) R) X)) (Q (O [m 5 0, m 6 0, o 7 (.un .neg (t 6)), o 8 (.ar .and (t 5) (t
  7)), o 9 (.ar .mul (t 8) (.c (.int .u32 125613361))), o 10 (.sh .shr (t 9) (.c (.int .u64 27))), o 11 (.iaa 32 1 (.c .unk) (t 10)), ld 12 11, o 13 (.cvi .i64 (t 12)), m 2 13]) R)))
def ka_math_bits_TrailingZeros32 : AFn := ⟨kc_math_bits_TrailingZeros32, 14, [.t 2], .keep, [], none⟩
def kc_math_bits_TrailingZeros64 : AC :=
  (Q (O [mc 2 (i 0)]) (Q (Q (O [m 3 0, o 4 (.ar .eql (t 3) (.c (.int .u64 0)))]) (C 4 (Q (O [mc 2 (i 64)]) R) X)) (Q (O [m 5 0, m 6 0, o 7 (.un .neg (t 6)), o 8 (.ar .and (t 5) (t
  7)), o 9 (.ar .mul (t 8) (.c (.int .u64 285870213051353865))), o 10 (.sh .shr (t 9) (.c (.int .u64 58))), o 11 (.iaa 64 1 (.c .unk) (t 10)), ld 12 11, o 13 (.cvi .i64 (t 12)), m 2
  13]) R)))
def ka_math_bits_TrailingZeros64 : AFn := ⟨kc_math_bits_TrailingZeros64, 14, [.t 2], .keep, [], none⟩
def ktab (f : FuncId) : Option AFn := (bif Nat.blt f 124 then (bif Nat.blt f 70 then (bif Nat.blt f 39 then (bif Nat.blt f 17 then (bif Nat.blt f 11 then (bif Nat.blt f 8 then (bif Nat.blt f 7 then (bif Nat.beq f 3 then some ka_truchmanlaw02_MorphKnown else none) else (bif Nat.beq f 7 then some ka_morph_Parse else none)) else (bif Nat.blt f 9 then (bif Nat.beq f 8 then some ka_morph_Steps else none) else (bif Nat.blt f 10 then (bif Nat.beq f 9 then some ka_morph_Form else none) else (bif Nat.beq f 10 then some ka_truchmanlaw02_SameStrings else none)))) else (bif Nat.blt f 14 then (bif Nat.blt f 12 then (bif Nat.beq f 11 then some ka_morph_Analyze else none) else (bif Nat.blt f 13 then (bif Nat.beq f 12 then some ka_truchmanlaw02_SameAnalysis else none) else (bif Nat.beq f 13 then some ka_morph_Generate else none))) else (bif Nat.blt f 15 then (bif Nat.beq f 14 then some ka_morph_Spell else none) else (bif Nat.blt f 16 then (bif Nat.beq f 15 then some ka_morph_Unify else none) else (bif Nat.beq f 16 then some ka_morph_Name else none))))) else (bif Nat.blt f 33 then (bif Nat.blt f 22 then (bif Nat.blt f 18 then (bif Nat.beq f 17 then some ka_morph_Word else none) else (bif Nat.blt f 19 then (bif Nat.beq f 18 then some ka_morph_Plain else none) else (bif Nat.beq f 19 then some ka_truchmanlaw02_lives else none))) else (bif Nat.blt f 31 then (bif Nat.beq f 22 then some ka_morph_Subsumes else none) else (bif Nat.blt f 32 then (bif Nat.beq f 31 then some ka_strings_Split else none) else (bif Nat.beq f 32 then some ka_morph_reader_read else none)))) else (bif Nat.blt f 36 then (bif Nat.blt f 34 then (bif Nat.beq f 33 then some ka_morph_Check else none) else (bif Nat.blt f 35 then (bif Nat.beq f 34 then some ka_morph_asked else none) else (bif Nat.beq f 35 then some ka_morph_language_steps else none))) else (bif Nat.blt f 37 then (bif Nat.beq f 36 then some ka_morph_language_form else none) else (bif Nat.blt f 38 then (bif Nat.beq f 37 then some ka_morph_language_analyze else none) else (bif Nat.beq f 38 then some ka_morph_Bundle else none)))))) else (bif Nat.blt f 51 then (bif Nat.blt f 45 then (bif Nat.blt f 42 then (bif Nat.blt f 40 then (bif Nat.beq f 39 then some ka_morph_language_slots else none) else (bif Nat.blt f 41 then (bif Nat.beq f 40 then some ka_morph_language_slot else none) else (bif Nat.beq f 41 then some ka_morph_language_feats else none))) else (bif Nat.blt f 43 then (bif Nat.beq f 42 then some ka_slices_Contains_string_string else none) else (bif Nat.blt f 44 then (bif Nat.beq f 43 then some ka_morph_all else none) else (bif Nat.beq f 44 then some ka_morph_symbol else none)))) else (bif Nat.blt f 48 then (bif Nat.blt f 46 then (bif Nat.beq f 45 then some ka_morph_language_spell else none) else (bif Nat.blt f 47 then (bif Nat.beq f 46 then some ka_morph_increasing else none) else (bif Nat.beq f 47 then some ka_morph_clash else none))) else (bif Nat.blt f 49 then (bif Nat.beq f 48 then some ka_morph_union else none) else (bif Nat.blt f 50 then (bif Nat.beq f 49 then some ka_morph_Name_1 else none) else (bif Nat.beq f 50 then some ka_morph_letter else none))))) else (bif Nat.blt f 64 then (bif Nat.blt f 54 then (bif Nat.blt f 52 then (bif Nat.beq f 51 then some ka_morph_Name_2 else none) else (bif Nat.blt f 53 then (bif Nat.beq f 52 then some ka_morph_Word_1 else none) else (bif Nat.beq f 53 then some ka_slices_ContainsFunc_api_Feat_api_Feat else none))) else (bif Nat.blt f 55 then (bif Nat.beq f 54 then some ka_morph_Subsumes_1 else none) else (bif Nat.blt f 62 then (bif Nat.beq f 55 then some ka_slices_Contains_api_Feat_api_Feat else none) else (bif Nat.beq f 62 then some ka_strings_genSplit else none)))) else (bif Nat.blt f 67 then (bif Nat.blt f 65 then (bif Nat.beq f 64 then some ka_morph_kinds else none) else (bif Nat.blt f 66 then (bif Nat.beq f 65 then some ka_morph_demand else none) else (bif Nat.beq f 66 then some ka_strings_SplitN else none))) else (bif Nat.blt f 68 then (bif Nat.beq f 67 then some ka_morph_first else none) else (bif Nat.blt f 69 then (bif Nat.beq f 68 then some ka_morph_checker_vowels else none) else (bif Nat.beq f 69 then some ka_morph_Check_1 else none))))))) else (bif Nat.blt f 93 then (bif Nat.blt f 81 then (bif Nat.blt f 75 then (bif Nat.blt f 72 then (bif Nat.blt f 71 then (bif Nat.beq f 70 then some ka_morph_each_api_Trait else none) else (bif Nat.beq f 71 then some ka_morph_checker_trait else none)) else (bif Nat.blt f 73 then (bif Nat.beq f 72 then some ka_morph_Check_2 else none) else (bif Nat.blt f 74 then (bif Nat.beq f 73 then some ka_morph_each_api_Class else none) else (bif Nat.beq f 74 then some ka_morph_checker_class else none)))) else (bif Nat.blt f 78 then (bif Nat.blt f 76 then (bif Nat.beq f 75 then some ka_morph_Check_3 else none) else (bif Nat.blt f 77 then (bif Nat.beq f 76 then some ka_morph_each_api_Entry else none) else (bif Nat.beq f 77 then some ka_morph_checker_entry else none))) else (bif Nat.blt f 79 then (bif Nat.beq f 78 then some ka_morph_Check_4 else none) else (bif Nat.blt f 80 then (bif Nat.beq f 79 then some ka_morph_each_api_Spell else none) else (bif Nat.beq f 80 then some ka_morph_checker_spell else none))))) else (bif Nat.blt f 87 then (bif Nat.blt f 84 then (bif Nat.blt f 82 then (bif Nat.beq f 81 then some ka_morph_Check_5 else none) else (bif Nat.blt f 83 then (bif Nat.beq f 82 then some ka_morph_each_api_Link else none) else (bif Nat.beq f 83 then some ka_morph_checker_link else none))) else (bif Nat.blt f 85 then (bif Nat.beq f 84 then some ka_morph_language_underlying else none) else (bif Nat.blt f 86 then (bif Nat.beq f 85 then some ka_strings_ReplaceAll else none) else (bif Nat.beq f 86 then some ka_morph_language_shapes else none)))) else (bif Nat.blt f 90 then (bif Nat.blt f 88 then (bif Nat.beq f 87 then some ka_morph_language_openings else none) else (bif Nat.blt f 89 then (bif Nat.beq f 88 then some ka_morph_analyses else none) else (bif Nat.beq f 89 then some ka_morph_checker_bundle else none))) else (bif Nat.blt f 91 then (bif Nat.beq f 90 then some ka_morph_classOf else none) else (bif Nat.blt f 92 then (bif Nat.beq f 91 then some ka_slices_Index_string_string else none) else (bif Nat.beq f 92 then some ka_strings_HasPrefix else none)))))) else (bif Nat.blt f 105 then (bif Nat.blt f 99 then (bif Nat.blt f 96 then (bif Nat.blt f 94 then (bif Nat.beq f 93 then some ka_morph_language_left else none) else (bif Nat.blt f 95 then (bif Nat.beq f 94 then some ka_morph_language_right else none) else (bif Nat.beq f 95 then some ka_strings_Builder_WriteString else none))) else (bif Nat.blt f 97 then (bif Nat.beq f 96 then some ka_strings_Builder_WriteByte else none) else (bif Nat.blt f 98 then (bif Nat.beq f 97 then some ka_strings_Builder_String else none) else (bif Nat.beq f 98 then some ka_strings_Builder_Len else none)))) else (bif Nat.blt f 102 then (bif Nat.blt f 100 then (bif Nat.beq f 99 then some ka_morph_clash_1 else none) else (bif Nat.blt f 101 then (bif Nat.beq f 100 then some ka_morph_clash_1_1 else none) else (bif Nat.beq f 101 then some ka_slices_Concat_api_Feat_api_Feat else none))) else (bif Nat.blt f 103 then (bif Nat.beq f 102 then some ka_slices_SortFunc_api_Feat_api_Feat else none) else (bif Nat.blt f 104 then (bif Nat.beq f 103 then some ka_morph_union_1 else none) else (bif Nat.beq f 104 then some ka_strings_Compare else none))))) else (bif Nat.blt f 118 then (bif Nat.blt f 115 then (bif Nat.blt f 106 then (bif Nat.beq f 105 then some ka_slices_Compact_api_Feat_api_Feat else none) else (bif Nat.blt f 107 then (bif Nat.beq f 106 then some ka_slices_IndexFunc_api_Feat_api_Feat else none) else (bif Nat.beq f 107 then some ka_slices_Index_api_Feat_api_Feat else none))) else (bif Nat.blt f 116 then (bif Nat.beq f 115 then some ka_strings_explode else none) else (bif Nat.blt f 117 then (bif Nat.beq f 116 then some ka_strings_Count else none) else (bif Nat.beq f 117 then some ka_strings_Index else none)))) else (bif Nat.blt f 121 then (bif Nat.blt f 119 then (bif Nat.beq f 118 then some ka_morph_kinds_1 else none) else (bif Nat.blt f 120 then (bif Nat.beq f 119 then some ka_morph_text else none) else (bif Nat.beq f 120 then some ka_morph_kinds_2 else none))) else (bif Nat.blt f 122 then (bif Nat.beq f 121 then some ka_morph_kinds_3 else none) else (bif Nat.blt f 123 then (bif Nat.beq f 122 then some ka_morph_kinds_4 else none) else (bif Nat.beq f 123 then some ka_morph_number else none)))))))) else (bif Nat.blt f 178 then (bif Nat.blt f 147 then (bif Nat.blt f 135 then (bif Nat.blt f 129 then (bif Nat.blt f 126 then (bif Nat.blt f 125 then (bif Nat.beq f 124 then some ka_morph_feats else none) else (bif Nat.beq f 125 then some ka_morph_kinds_5 else none)) else (bif Nat.blt f 127 then (bif Nat.beq f 126 then some ka_morph_kinds_6 else none) else (bif Nat.blt f 128 then (bif Nat.beq f 127 then some ka_morph_kinds_7 else none) else (bif Nat.beq f 128 then some ka_morph_kinds_8 else none)))) else (bif Nat.blt f 132 then (bif Nat.blt f 130 then (bif Nat.beq f 129 then some ka_slices_ContainsFunc_api_Trait_api_Trait else none) else (bif Nat.blt f 131 then (bif Nat.beq f 130 then some ka_morph_checker_trait_1 else none) else (bif Nat.beq f 131 then some ka_slices_ContainsFunc_api_Class_api_Class else none))) else (bif Nat.blt f 133 then (bif Nat.beq f 132 then some ka_morph_checker_class_1 else none) else (bif Nat.blt f 134 then (bif Nat.beq f 133 then some ka_morph_each_api_Slot else none) else (bif Nat.beq f 134 then some ka_morph_checker_class_2 else none))))) else (bif Nat.blt f 141 then (bif Nat.blt f 138 then (bif Nat.blt f 136 then (bif Nat.beq f 135 then some ka_morph_short else none) else (bif Nat.blt f 137 then (bif Nat.beq f 136 then some ka_slices_ContainsFunc_api_Entry_api_Entry else none) else (bif Nat.beq f 137 then some ka_morph_checker_entry_1 else none))) else (bif Nat.blt f 139 then (bif Nat.beq f 138 then some ka_slices_ContainsFunc_api_Slot_api_Slot else none) else (bif Nat.blt f 140 then (bif Nat.beq f 139 then some ka_morph_checker_entry_2 else none) else (bif Nat.beq f 140 then some ka_slices_ContainsFunc_api_Irregular_api_Irregular else none)))) else (bif Nat.blt f 144 then (bif Nat.blt f 142 then (bif Nat.beq f 141 then some ka_morph_checker_entry_3 else none) else (bif Nat.blt f 143 then (bif Nat.beq f 142 then some ka_morph_around else none) else (bif Nat.beq f 143 then some ka_strings_Replace else none))) else (bif Nat.blt f 145 then (bif Nat.beq f 144 then some ka_morph_language_opens else none) else (bif Nat.blt f 146 then (bif Nat.beq f 145 then some ka_slices_Clone_api_First_api_First else none) else (bif Nat.beq f 146 then some ka_strings_CutPrefix else none)))))) else (bif Nat.blt f 159 then (bif Nat.blt f 153 then (bif Nat.blt f 150 then (bif Nat.blt f 148 then (bif Nat.beq f 147 then some ka_morph_each_api_Feat else none) else (bif Nat.blt f 149 then (bif Nat.beq f 148 then some ka_morph_checker_bundle_1 else none) else (bif Nat.beq f 149 then some ka_slices_IndexFunc_api_Trait_api_Trait else none))) else (bif Nat.blt f 151 then (bif Nat.beq f 150 then some ka_morph_checker_bundle_1_1 else none) else (bif Nat.blt f 152 then (bif Nat.beq f 151 then some ka_slices_IndexFunc_api_Class_api_Class else none) else (bif Nat.beq f 152 then some ka_morph_classOf_1 else none)))) else (bif Nat.blt f 156 then (bif Nat.blt f 154 then (bif Nat.beq f 153 then some ka_internal_stringslite_HasPrefix else none) else (bif Nat.blt f 155 then (bif Nat.beq f 154 then some ka_morph_language_match else none) else (bif Nat.beq f 155 then some ka_strings_Builder_copyCheck else none))) else (bif Nat.blt f 157 then (bif Nat.beq f 156 then some ka_slices_Grow_api_Feat_api_Feat else none) else (bif Nat.blt f 158 then (bif Nat.beq f 157 then some ka_slices_pdqsortCmpFunc_api_Feat else none) else (bif Nat.beq f 158 then some ka_math_bits_Len else none))))) else (bif Nat.blt f 172 then (bif Nat.blt f 169 then (bif Nat.blt f 166 then (bif Nat.beq f 159 then some ka_internal_bytealg_CompareString else none) else (bif Nat.blt f 167 then (bif Nat.beq f 166 then some ka_unicode_utf8_RuneCountInString else none) else (bif Nat.beq f 167 then some ka_unicode_utf8_DecodeRuneInString else none))) else (bif Nat.blt f 170 then (bif Nat.beq f 169 then some ka_internal_stringslite_Index else none) else (bif Nat.blt f 171 then (bif Nat.beq f 170 then some ka_strconv_Atoi else none) else (bif Nat.beq f 171 then some ka_strconv_Itoa else none)))) else (bif Nat.blt f 175 then (bif Nat.blt f 173 then (bif Nat.beq f 172 then some ka_strings_Cut else none) else (bif Nat.blt f 174 then (bif Nat.beq f 173 then some ka_slices_IndexFunc_api_Entry_api_Entry else none) else (bif Nat.beq f 174 then some ka_slices_IndexFunc_api_Slot_api_Slot else none))) else (bif Nat.blt f 176 then (bif Nat.beq f 175 then some ka_slices_IndexFunc_api_Irregular_api_Irregular else none) else (bif Nat.blt f 177 then (bif Nat.beq f 176 then some ka_strings_Builder_Grow else none) else (bif Nat.beq f 177 then some ka_internal_stringslite_CutPrefix else none))))))) else (bif Nat.blt f 207 then (bif Nat.blt f 194 then (bif Nat.blt f 185 then (bif Nat.blt f 182 then (bif Nat.blt f 180 then (bif Nat.beq f 178 then some ka_strings_IndexByte else none) else (bif Nat.blt f 181 then (bif Nat.beq f 180 then some ka_slices_insertionSortCmpFunc_api_Feat else none) else (bif Nat.beq f 181 then some ka_slices_heapSortCmpFunc_api_Feat else none))) else (bif Nat.blt f 183 then (bif Nat.beq f 182 then some ka_slices_breakPatternsCmpFunc_api_Feat else none) else (bif Nat.blt f 184 then (bif Nat.beq f 183 then some ka_slices_choosePivotCmpFunc_api_Feat else none) else (bif Nat.beq f 184 then some ka_slices_reverseRangeCmpFunc_api_Feat else none)))) else (bif Nat.blt f 188 then (bif Nat.blt f 186 then (bif Nat.beq f 185 then some ka_slices_partialInsertionSortCmpFunc_api_Feat else none) else (bif Nat.blt f 187 then (bif Nat.beq f 186 then some ka_slices_partitionEqualCmpFunc_api_Feat else none) else (bif Nat.beq f 187 then some ka_slices_partitionCmpFunc_api_Feat else none))) else (bif Nat.blt f 189 then (bif Nat.beq f 188 then some ka_math_bits_Len32 else none) else (bif Nat.blt f 193 then (bif Nat.beq f 189 then some ka_math_bits_Len64 else none) else (bif Nat.beq f 193 then some ka_unicode_utf8_decodeRuneInStringSlow else none))))) else (bif Nat.blt f 201 then (bif Nat.blt f 198 then (bif Nat.blt f 196 then (bif Nat.beq f 194 then some ka_internal_stringslite_IndexByte else none) else (bif Nat.blt f 197 then (bif Nat.beq f 196 then some ka_internal_bytealg_Cutover else none) else (bif Nat.beq f 197 then some ka_internal_bytealg_IndexRabinKarp_string else none))) else (bif Nat.blt f 199 then (bif Nat.beq f 198 then some ka_internal_strconv_Atoi else none) else (bif Nat.blt f 200 then (bif Nat.beq f 199 then some ka_strconv_toError else none) else (bif Nat.beq f 200 then some ka_internal_strconv_Itoa else none)))) else (bif Nat.blt f 204 then (bif Nat.blt f 202 then (bif Nat.beq f 201 then some ka_internal_stringslite_Cut else none) else (bif Nat.blt f 203 then (bif Nat.beq f 202 then some ka_strings_Builder_grow else none) else (bif Nat.beq f 203 then some ka_slices_siftDownCmpFunc_api_Feat else none))) else (bif Nat.blt f 205 then (bif Nat.beq f 204 then some ka_slices_nextPowerOfTwo else none) else (bif Nat.blt f 206 then (bif Nat.beq f 205 then some ka_slices_xorshift_Next else none) else (bif Nat.beq f 206 then some ka_slices_medianAdjacentCmpFunc_api_Feat else none)))))) else (bif Nat.blt f 221 then (bif Nat.blt f 214 then (bif Nat.blt f 211 then (bif Nat.blt f 209 then (bif Nat.beq f 207 then some ka_slices_medianCmpFunc_api_Feat else none) else (bif Nat.blt f 210 then (bif Nat.beq f 209 then some ka_internal_bytealg_hashStr_string else none) else (bif Nat.beq f 210 then some ka_internal_strconv_ParseInt else none))) else (bif Nat.blt f 212 then (bif Nat.beq f 211 then some ka_strconv_syntaxError else none) else (bif Nat.blt f 213 then (bif Nat.beq f 212 then some ka_strconv_rangeError else none) else (bif Nat.beq f 213 then some ka_strconv_baseError else none)))) else (bif Nat.blt f 218 then (bif Nat.blt f 215 then (bif Nat.beq f 214 then some ka_strconv_bitSizeError else none) else (bif Nat.blt f 217 then (bif Nat.beq f 215 then some ka_internal_strconv_FormatInt else none) else (bif Nat.beq f 217 then some ka_slices_order2CmpFunc_api_Feat else none))) else (bif Nat.blt f 219 then (bif Nat.beq f 218 then some ka_internal_strconv_ParseUint else none) else (bif Nat.blt f 220 then (bif Nat.beq f 219 then some ka_internal_stringslite_Clone else none) else (bif Nat.beq f 220 then some ka_errors_New else none))))) else (bif Nat.blt f 227 then (bif Nat.blt f 224 then (bif Nat.blt f 222 then (bif Nat.beq f 221 then some ka_internal_strconv_small else none) else (bif Nat.blt f 223 then (bif Nat.beq f 222 then some ka_internal_strconv_numDigits else none) else (bif Nat.beq f 223 then some ka_internal_strconv_formatBase10 else none))) else (bif Nat.blt f 225 then (bif Nat.beq f 224 then some ka_internal_strconv_formatBits else none) else (bif Nat.blt f 226 then (bif Nat.beq f 225 then some ka_internal_strconv_lower else none) else (bif Nat.beq f 226 then some ka_internal_strconv_underscoreOK else none)))) else (bif Nat.blt f 230 then (bif Nat.blt f 228 then (bif Nat.beq f 227 then some ka_internal_strconv_log10Pow2 else none) else (bif Nat.blt f 229 then (bif Nat.beq f 228 then some ka_internal_strconv_bool2_int else none) else (bif Nat.beq f 229 then some ka_internal_strconv_isPowerOfTwo else none))) else (bif Nat.blt f 231 then (bif Nat.beq f 230 then some ka_math_bits_TrailingZeros else none) else (bif Nat.blt f 232 then (bif Nat.beq f 231 then some ka_math_bits_TrailingZeros32 else none) else (bif Nat.beq f 232 then some ka_math_bits_TrailingZeros64 else none)))))))))

def kdtab (f : FuncId) : Option (Nat × AFn) := (bif Nat.beq f 63 then some (4, kda_morph_reader_read_1) else none)

end Go.Am
end

section
set_option maxRecDepth 1000000
namespace Go.Am
open Go.RowKit Go.Proofs
def G0 : Nat → Option (List AV) := fun _ => none
theorem ok_ka_truchmanlaw02_MorphKnown : CompOk Tryz.prog G0 3 ka_truchmanlaw02_MorphKnown := by unfold CompOk; kernel_rfl
theorem ok_ka_morph_Parse : CompOk Tryz.prog G0 7 ka_morph_Parse := by unfold CompOk; kernel_rfl
theorem ok_ka_morph_Steps : CompOk Tryz.prog G0 8 ka_morph_Steps := by unfold CompOk; kernel_rfl
theorem ok_ka_morph_Form : CompOk Tryz.prog G0 9 ka_morph_Form := by unfold CompOk; kernel_rfl
theorem ok_ka_truchmanlaw02_SameStrings : CompOk Tryz.prog G0 10 ka_truchmanlaw02_SameStrings := by unfold CompOk; kernel_rfl
theorem ok_ka_morph_Analyze : CompOk Tryz.prog G0 11 ka_morph_Analyze := by unfold CompOk; kernel_rfl
theorem ok_ka_truchmanlaw02_SameAnalysis : CompOk Tryz.prog G0 12 ka_truchmanlaw02_SameAnalysis := by unfold CompOk; kernel_rfl
theorem ok_ka_morph_Generate : CompOk Tryz.prog G0 13 ka_morph_Generate := by unfold CompOk; kernel_rfl
theorem ok_ka_morph_Spell : CompOk Tryz.prog G0 14 ka_morph_Spell := by unfold CompOk; kernel_rfl
theorem ok_ka_morph_Unify : CompOk Tryz.prog G0 15 ka_morph_Unify := by unfold CompOk; kernel_rfl
theorem ok_ka_morph_Name : CompOk Tryz.prog G0 16 ka_morph_Name := by unfold CompOk; kernel_rfl
theorem ok_ka_morph_Word : CompOk Tryz.prog G0 17 ka_morph_Word := by unfold CompOk; kernel_rfl
theorem ok_ka_morph_Plain : CompOk Tryz.prog G0 18 ka_morph_Plain := by unfold CompOk; kernel_rfl
theorem ok_ka_truchmanlaw02_lives : CompOk Tryz.prog G0 19 ka_truchmanlaw02_lives := by unfold CompOk; kernel_rfl
theorem ok_ka_morph_Subsumes : CompOk Tryz.prog G0 22 ka_morph_Subsumes := by unfold CompOk; kernel_rfl
theorem ok_ka_strings_Split : CompOk Tryz.prog G0 31 ka_strings_Split := by unfold CompOk; kernel_rfl
theorem ok_ka_morph_reader_read : CompOk Tryz.prog G0 32 ka_morph_reader_read := by unfold CompOk; kernel_rfl
theorem ok_ka_morph_Check : CompOk Tryz.prog G0 33 ka_morph_Check := by unfold CompOk; kernel_rfl
theorem ok_ka_morph_asked : CompOk Tryz.prog G0 34 ka_morph_asked := by unfold CompOk; kernel_rfl
theorem ok_ka_morph_language_steps : CompOk Tryz.prog G0 35 ka_morph_language_steps := by unfold CompOk; kernel_rfl
theorem ok_ka_morph_language_form : CompOk Tryz.prog G0 36 ka_morph_language_form := by unfold CompOk; kernel_rfl
theorem ok_ka_morph_language_analyze : CompOk Tryz.prog G0 37 ka_morph_language_analyze := by unfold CompOk; kernel_rfl
theorem ok_ka_morph_Bundle : CompOk Tryz.prog G0 38 ka_morph_Bundle := by unfold CompOk; kernel_rfl
theorem ok_ka_morph_language_slots : CompOk Tryz.prog G0 39 ka_morph_language_slots := by unfold CompOk; kernel_rfl
theorem ok_ka_morph_language_slot : CompOk Tryz.prog G0 40 ka_morph_language_slot := by unfold CompOk; kernel_rfl
theorem ok_ka_morph_language_feats : CompOk Tryz.prog G0 41 ka_morph_language_feats := by unfold CompOk; kernel_rfl
theorem ok_ka_slices_Contains_string_string : CompOk Tryz.prog G0 42 ka_slices_Contains_string_string := by unfold CompOk; kernel_rfl
theorem ok_ka_morph_all : CompOk Tryz.prog G0 43 ka_morph_all := by unfold CompOk; kernel_rfl
theorem ok_ka_morph_symbol : CompOk Tryz.prog G0 44 ka_morph_symbol := by unfold CompOk; kernel_rfl
theorem ok_ka_morph_language_spell : CompOk Tryz.prog G0 45 ka_morph_language_spell := by unfold CompOk; kernel_rfl
theorem ok_ka_morph_increasing : CompOk Tryz.prog G0 46 ka_morph_increasing := by unfold CompOk; kernel_rfl
theorem ok_ka_morph_clash : CompOk Tryz.prog G0 47 ka_morph_clash := by unfold CompOk; kernel_rfl
theorem ok_ka_morph_union : CompOk Tryz.prog G0 48 ka_morph_union := by unfold CompOk; kernel_rfl
theorem ok_ka_morph_Name_1 : CompOk Tryz.prog G0 49 ka_morph_Name_1 := by unfold CompOk; kernel_rfl
theorem ok_ka_morph_letter : CompOk Tryz.prog G0 50 ka_morph_letter := by unfold CompOk; kernel_rfl
theorem ok_ka_morph_Name_2 : CompOk Tryz.prog G0 51 ka_morph_Name_2 := by unfold CompOk; kernel_rfl
theorem ok_ka_morph_Word_1 : CompOk Tryz.prog G0 52 ka_morph_Word_1 := by unfold CompOk; kernel_rfl
theorem ok_ka_slices_ContainsFunc_api_Feat_api_Feat : CompOk Tryz.prog G0 53 ka_slices_ContainsFunc_api_Feat_api_Feat := by unfold CompOk; kernel_rfl
theorem ok_ka_morph_Subsumes_1 : CompOk Tryz.prog G0 54 ka_morph_Subsumes_1 := by unfold CompOk; kernel_rfl
theorem ok_ka_slices_Contains_api_Feat_api_Feat : CompOk Tryz.prog G0 55 ka_slices_Contains_api_Feat_api_Feat := by unfold CompOk; kernel_rfl
theorem ok_ka_strings_genSplit : CompOk Tryz.prog G0 62 ka_strings_genSplit := by unfold CompOk; kernel_rfl
theorem ok_ka_morph_kinds : CompOk Tryz.prog G0 64 ka_morph_kinds := by unfold CompOk; kernel_rfl
theorem ok_ka_morph_demand : CompOk Tryz.prog G0 65 ka_morph_demand := by unfold CompOk; kernel_rfl
theorem ok_ka_strings_SplitN : CompOk Tryz.prog G0 66 ka_strings_SplitN := by unfold CompOk; kernel_rfl
theorem ok_ka_morph_first : CompOk Tryz.prog G0 67 ka_morph_first := by unfold CompOk; kernel_rfl
theorem ok_ka_morph_checker_vowels : CompOk Tryz.prog G0 68 ka_morph_checker_vowels := by unfold CompOk; kernel_rfl
theorem ok_ka_morph_Check_1 : CompOk Tryz.prog G0 69 ka_morph_Check_1 := by unfold CompOk; kernel_rfl
theorem ok_ka_morph_each_api_Trait : CompOk Tryz.prog G0 70 ka_morph_each_api_Trait := by unfold CompOk; kernel_rfl
theorem ok_ka_morph_checker_trait : CompOk Tryz.prog G0 71 ka_morph_checker_trait := by unfold CompOk; kernel_rfl
theorem ok_ka_morph_Check_2 : CompOk Tryz.prog G0 72 ka_morph_Check_2 := by unfold CompOk; kernel_rfl
theorem ok_ka_morph_each_api_Class : CompOk Tryz.prog G0 73 ka_morph_each_api_Class := by unfold CompOk; kernel_rfl
theorem ok_ka_morph_checker_class : CompOk Tryz.prog G0 74 ka_morph_checker_class := by unfold CompOk; kernel_rfl
theorem ok_ka_morph_Check_3 : CompOk Tryz.prog G0 75 ka_morph_Check_3 := by unfold CompOk; kernel_rfl
theorem ok_ka_morph_each_api_Entry : CompOk Tryz.prog G0 76 ka_morph_each_api_Entry := by unfold CompOk; kernel_rfl
theorem ok_ka_morph_checker_entry : CompOk Tryz.prog G0 77 ka_morph_checker_entry := by unfold CompOk; kernel_rfl
theorem ok_ka_morph_Check_4 : CompOk Tryz.prog G0 78 ka_morph_Check_4 := by unfold CompOk; kernel_rfl
theorem ok_ka_morph_each_api_Spell : CompOk Tryz.prog G0 79 ka_morph_each_api_Spell := by unfold CompOk; kernel_rfl
theorem ok_ka_morph_checker_spell : CompOk Tryz.prog G0 80 ka_morph_checker_spell := by unfold CompOk; kernel_rfl
theorem ok_ka_morph_Check_5 : CompOk Tryz.prog G0 81 ka_morph_Check_5 := by unfold CompOk; kernel_rfl
theorem ok_ka_morph_each_api_Link : CompOk Tryz.prog G0 82 ka_morph_each_api_Link := by unfold CompOk; kernel_rfl
theorem ok_ka_morph_checker_link : CompOk Tryz.prog G0 83 ka_morph_checker_link := by unfold CompOk; kernel_rfl
theorem ok_ka_morph_language_underlying : CompOk Tryz.prog G0 84 ka_morph_language_underlying := by unfold CompOk; kernel_rfl
theorem ok_ka_strings_ReplaceAll : CompOk Tryz.prog G0 85 ka_strings_ReplaceAll := by unfold CompOk; kernel_rfl
theorem ok_ka_morph_language_shapes : CompOk Tryz.prog G0 86 ka_morph_language_shapes := by unfold CompOk; kernel_rfl
theorem ok_ka_morph_language_openings : CompOk Tryz.prog G0 87 ka_morph_language_openings := by unfold CompOk; kernel_rfl
theorem ok_ka_morph_analyses : CompOk Tryz.prog G0 88 ka_morph_analyses := by unfold CompOk; kernel_rfl
theorem ok_ka_morph_checker_bundle : CompOk Tryz.prog G0 89 ka_morph_checker_bundle := by unfold CompOk; kernel_rfl
theorem ok_ka_morph_classOf : CompOk Tryz.prog G0 90 ka_morph_classOf := by unfold CompOk; kernel_rfl
theorem ok_ka_slices_Index_string_string : CompOk Tryz.prog G0 91 ka_slices_Index_string_string := by unfold CompOk; kernel_rfl
theorem ok_ka_strings_HasPrefix : CompOk Tryz.prog G0 92 ka_strings_HasPrefix := by unfold CompOk; kernel_rfl
theorem ok_ka_morph_language_left : CompOk Tryz.prog G0 93 ka_morph_language_left := by unfold CompOk; kernel_rfl
theorem ok_ka_morph_language_right : CompOk Tryz.prog G0 94 ka_morph_language_right := by unfold CompOk; kernel_rfl
theorem ok_ka_strings_Builder_WriteString : CompOk Tryz.prog G0 95 ka_strings_Builder_WriteString := by unfold CompOk; kernel_rfl
theorem ok_ka_strings_Builder_WriteByte : CompOk Tryz.prog G0 96 ka_strings_Builder_WriteByte := by unfold CompOk; kernel_rfl
theorem ok_ka_strings_Builder_String : CompOk Tryz.prog G0 97 ka_strings_Builder_String := by unfold CompOk; kernel_rfl
theorem ok_ka_strings_Builder_Len : CompOk Tryz.prog G0 98 ka_strings_Builder_Len := by unfold CompOk; kernel_rfl
theorem ok_ka_morph_clash_1 : CompOk Tryz.prog G0 99 ka_morph_clash_1 := by unfold CompOk; kernel_rfl
theorem ok_ka_morph_clash_1_1 : CompOk Tryz.prog G0 100 ka_morph_clash_1_1 := by unfold CompOk; kernel_rfl
theorem ok_ka_slices_Concat_api_Feat_api_Feat : CompOk Tryz.prog G0 101 ka_slices_Concat_api_Feat_api_Feat := by unfold CompOk; kernel_rfl
theorem ok_ka_slices_SortFunc_api_Feat_api_Feat : CompOk Tryz.prog G0 102 ka_slices_SortFunc_api_Feat_api_Feat := by unfold CompOk; kernel_rfl
theorem ok_ka_morph_union_1 : CompOk Tryz.prog G0 103 ka_morph_union_1 := by unfold CompOk; kernel_rfl
theorem ok_ka_strings_Compare : CompOk Tryz.prog G0 104 ka_strings_Compare := by unfold CompOk; kernel_rfl
theorem ok_ka_slices_Compact_api_Feat_api_Feat : CompOk Tryz.prog G0 105 ka_slices_Compact_api_Feat_api_Feat := by unfold CompOk; kernel_rfl
theorem ok_ka_slices_IndexFunc_api_Feat_api_Feat : CompOk Tryz.prog G0 106 ka_slices_IndexFunc_api_Feat_api_Feat := by unfold CompOk; kernel_rfl
theorem ok_ka_slices_Index_api_Feat_api_Feat : CompOk Tryz.prog G0 107 ka_slices_Index_api_Feat_api_Feat := by unfold CompOk; kernel_rfl
theorem ok_ka_strings_explode : CompOk Tryz.prog G0 115 ka_strings_explode := by unfold CompOk; kernel_rfl
theorem ok_ka_strings_Count : CompOk Tryz.prog G0 116 ka_strings_Count := by unfold CompOk; kernel_rfl
theorem ok_ka_strings_Index : CompOk Tryz.prog G0 117 ka_strings_Index := by unfold CompOk; kernel_rfl
theorem ok_ka_morph_kinds_1 : CompOk Tryz.prog G0 118 ka_morph_kinds_1 := by unfold CompOk; kernel_rfl
theorem ok_ka_morph_text : CompOk Tryz.prog G0 119 ka_morph_text := by unfold CompOk; kernel_rfl
theorem ok_ka_morph_kinds_2 : CompOk Tryz.prog G0 120 ka_morph_kinds_2 := by unfold CompOk; kernel_rfl
theorem ok_ka_morph_kinds_3 : CompOk Tryz.prog G0 121 ka_morph_kinds_3 := by unfold CompOk; kernel_rfl
theorem ok_ka_morph_kinds_4 : CompOk Tryz.prog G0 122 ka_morph_kinds_4 := by unfold CompOk; kernel_rfl
theorem ok_ka_morph_number : CompOk Tryz.prog G0 123 ka_morph_number := by unfold CompOk; kernel_rfl
theorem ok_ka_morph_feats : CompOk Tryz.prog G0 124 ka_morph_feats := by unfold CompOk; kernel_rfl
theorem ok_ka_morph_kinds_5 : CompOk Tryz.prog G0 125 ka_morph_kinds_5 := by unfold CompOk; kernel_rfl
theorem ok_ka_morph_kinds_6 : CompOk Tryz.prog G0 126 ka_morph_kinds_6 := by unfold CompOk; kernel_rfl
theorem ok_ka_morph_kinds_7 : CompOk Tryz.prog G0 127 ka_morph_kinds_7 := by unfold CompOk; kernel_rfl
theorem ok_ka_morph_kinds_8 : CompOk Tryz.prog G0 128 ka_morph_kinds_8 := by unfold CompOk; kernel_rfl
theorem ok_ka_slices_ContainsFunc_api_Trait_api_Trait : CompOk Tryz.prog G0 129 ka_slices_ContainsFunc_api_Trait_api_Trait := by unfold CompOk; kernel_rfl
theorem ok_ka_morph_checker_trait_1 : CompOk Tryz.prog G0 130 ka_morph_checker_trait_1 := by unfold CompOk; kernel_rfl
theorem ok_ka_slices_ContainsFunc_api_Class_api_Class : CompOk Tryz.prog G0 131 ka_slices_ContainsFunc_api_Class_api_Class := by unfold CompOk; kernel_rfl
theorem ok_ka_morph_checker_class_1 : CompOk Tryz.prog G0 132 ka_morph_checker_class_1 := by unfold CompOk; kernel_rfl
theorem ok_ka_morph_each_api_Slot : CompOk Tryz.prog G0 133 ka_morph_each_api_Slot := by unfold CompOk; kernel_rfl
theorem ok_ka_morph_checker_class_2 : CompOk Tryz.prog G0 134 ka_morph_checker_class_2 := by unfold CompOk; kernel_rfl
theorem ok_ka_morph_short : CompOk Tryz.prog G0 135 ka_morph_short := by unfold CompOk; kernel_rfl
theorem ok_ka_slices_ContainsFunc_api_Entry_api_Entry : CompOk Tryz.prog G0 136 ka_slices_ContainsFunc_api_Entry_api_Entry := by unfold CompOk; kernel_rfl
theorem ok_ka_morph_checker_entry_1 : CompOk Tryz.prog G0 137 ka_morph_checker_entry_1 := by unfold CompOk; kernel_rfl
theorem ok_ka_slices_ContainsFunc_api_Slot_api_Slot : CompOk Tryz.prog G0 138 ka_slices_ContainsFunc_api_Slot_api_Slot := by unfold CompOk; kernel_rfl
theorem ok_ka_morph_checker_entry_2 : CompOk Tryz.prog G0 139 ka_morph_checker_entry_2 := by unfold CompOk; kernel_rfl
theorem ok_ka_slices_ContainsFunc_api_Irregular_api_Irregular : CompOk Tryz.prog G0 140 ka_slices_ContainsFunc_api_Irregular_api_Irregular := by unfold CompOk; kernel_rfl
theorem ok_ka_morph_checker_entry_3 : CompOk Tryz.prog G0 141 ka_morph_checker_entry_3 := by unfold CompOk; kernel_rfl
theorem ok_ka_morph_around : CompOk Tryz.prog G0 142 ka_morph_around := by unfold CompOk; kernel_rfl
theorem ok_ka_strings_Replace : CompOk Tryz.prog G0 143 ka_strings_Replace := by unfold CompOk; kernel_rfl
theorem ok_ka_morph_language_opens : CompOk Tryz.prog G0 144 ka_morph_language_opens := by unfold CompOk; kernel_rfl
theorem ok_ka_slices_Clone_api_First_api_First : CompOk Tryz.prog G0 145 ka_slices_Clone_api_First_api_First := by unfold CompOk; kernel_rfl
theorem ok_ka_strings_CutPrefix : CompOk Tryz.prog G0 146 ka_strings_CutPrefix := by unfold CompOk; kernel_rfl
theorem ok_ka_morph_each_api_Feat : CompOk Tryz.prog G0 147 ka_morph_each_api_Feat := by unfold CompOk; kernel_rfl
theorem ok_ka_morph_checker_bundle_1 : CompOk Tryz.prog G0 148 ka_morph_checker_bundle_1 := by unfold CompOk; kernel_rfl
theorem ok_ka_slices_IndexFunc_api_Trait_api_Trait : CompOk Tryz.prog G0 149 ka_slices_IndexFunc_api_Trait_api_Trait := by unfold CompOk; kernel_rfl
theorem ok_ka_morph_checker_bundle_1_1 : CompOk Tryz.prog G0 150 ka_morph_checker_bundle_1_1 := by unfold CompOk; kernel_rfl
theorem ok_ka_slices_IndexFunc_api_Class_api_Class : CompOk Tryz.prog G0 151 ka_slices_IndexFunc_api_Class_api_Class := by unfold CompOk; kernel_rfl
theorem ok_ka_morph_classOf_1 : CompOk Tryz.prog G0 152 ka_morph_classOf_1 := by unfold CompOk; kernel_rfl
theorem ok_ka_internal_stringslite_HasPrefix : CompOk Tryz.prog G0 153 ka_internal_stringslite_HasPrefix := by unfold CompOk; kernel_rfl
theorem ok_ka_morph_language_match : CompOk Tryz.prog G0 154 ka_morph_language_match := by unfold CompOk; kernel_rfl
theorem ok_ka_strings_Builder_copyCheck : CompOk Tryz.prog G0 155 ka_strings_Builder_copyCheck := by unfold CompOk; kernel_rfl
theorem ok_ka_slices_Grow_api_Feat_api_Feat : CompOk Tryz.prog G0 156 ka_slices_Grow_api_Feat_api_Feat := by unfold CompOk; kernel_rfl
theorem ok_ka_slices_pdqsortCmpFunc_api_Feat : CompOk Tryz.prog G0 157 ka_slices_pdqsortCmpFunc_api_Feat := by unfold CompOk; kernel_rfl
theorem ok_ka_math_bits_Len : CompOk Tryz.prog G0 158 ka_math_bits_Len := by unfold CompOk; kernel_rfl
theorem ok_ka_internal_bytealg_CompareString : CompOk Tryz.prog G0 159 ka_internal_bytealg_CompareString := by unfold CompOk; kernel_rfl
theorem ok_ka_unicode_utf8_RuneCountInString : CompOk Tryz.prog G0 166 ka_unicode_utf8_RuneCountInString := by unfold CompOk; kernel_rfl
theorem ok_ka_unicode_utf8_DecodeRuneInString : CompOk Tryz.prog G0 167 ka_unicode_utf8_DecodeRuneInString := by unfold CompOk; kernel_rfl
theorem ok_ka_internal_stringslite_Index : CompOk Tryz.prog G0 169 ka_internal_stringslite_Index := by unfold CompOk; kernel_rfl
theorem ok_ka_strconv_Atoi : CompOk Tryz.prog G0 170 ka_strconv_Atoi := by unfold CompOk; kernel_rfl
theorem ok_ka_strconv_Itoa : CompOk Tryz.prog G0 171 ka_strconv_Itoa := by unfold CompOk; kernel_rfl
theorem ok_ka_strings_Cut : CompOk Tryz.prog G0 172 ka_strings_Cut := by unfold CompOk; kernel_rfl
theorem ok_ka_slices_IndexFunc_api_Entry_api_Entry : CompOk Tryz.prog G0 173 ka_slices_IndexFunc_api_Entry_api_Entry := by unfold CompOk; kernel_rfl
theorem ok_ka_slices_IndexFunc_api_Slot_api_Slot : CompOk Tryz.prog G0 174 ka_slices_IndexFunc_api_Slot_api_Slot := by unfold CompOk; kernel_rfl
theorem ok_ka_slices_IndexFunc_api_Irregular_api_Irregular : CompOk Tryz.prog G0 175 ka_slices_IndexFunc_api_Irregular_api_Irregular := by unfold CompOk; kernel_rfl
theorem ok_ka_strings_Builder_Grow : CompOk Tryz.prog G0 176 ka_strings_Builder_Grow := by unfold CompOk; kernel_rfl
theorem ok_ka_internal_stringslite_CutPrefix : CompOk Tryz.prog G0 177 ka_internal_stringslite_CutPrefix := by unfold CompOk; kernel_rfl
theorem ok_ka_strings_IndexByte : CompOk Tryz.prog G0 178 ka_strings_IndexByte := by unfold CompOk; kernel_rfl
theorem ok_ka_slices_insertionSortCmpFunc_api_Feat : CompOk Tryz.prog G0 180 ka_slices_insertionSortCmpFunc_api_Feat := by unfold CompOk; kernel_rfl
theorem ok_ka_slices_heapSortCmpFunc_api_Feat : CompOk Tryz.prog G0 181 ka_slices_heapSortCmpFunc_api_Feat := by unfold CompOk; kernel_rfl
theorem ok_ka_slices_breakPatternsCmpFunc_api_Feat : CompOk Tryz.prog G0 182 ka_slices_breakPatternsCmpFunc_api_Feat := by unfold CompOk; kernel_rfl
theorem ok_ka_slices_choosePivotCmpFunc_api_Feat : CompOk Tryz.prog G0 183 ka_slices_choosePivotCmpFunc_api_Feat := by unfold CompOk; kernel_rfl
theorem ok_ka_slices_reverseRangeCmpFunc_api_Feat : CompOk Tryz.prog G0 184 ka_slices_reverseRangeCmpFunc_api_Feat := by unfold CompOk; kernel_rfl
theorem ok_ka_slices_partialInsertionSortCmpFunc_api_Feat : CompOk Tryz.prog G0 185 ka_slices_partialInsertionSortCmpFunc_api_Feat := by unfold CompOk; kernel_rfl
theorem ok_ka_slices_partitionEqualCmpFunc_api_Feat : CompOk Tryz.prog G0 186 ka_slices_partitionEqualCmpFunc_api_Feat := by unfold CompOk; kernel_rfl
theorem ok_ka_slices_partitionCmpFunc_api_Feat : CompOk Tryz.prog G0 187 ka_slices_partitionCmpFunc_api_Feat := by unfold CompOk; kernel_rfl
theorem ok_ka_math_bits_Len32 : CompOk Tryz.prog G0 188 ka_math_bits_Len32 := by unfold CompOk; kernel_rfl
theorem ok_ka_math_bits_Len64 : CompOk Tryz.prog G0 189 ka_math_bits_Len64 := by unfold CompOk; kernel_rfl
theorem ok_ka_unicode_utf8_decodeRuneInStringSlow : CompOk Tryz.prog G0 193 ka_unicode_utf8_decodeRuneInStringSlow := by unfold CompOk; kernel_rfl
theorem ok_ka_internal_stringslite_IndexByte : CompOk Tryz.prog G0 194 ka_internal_stringslite_IndexByte := by unfold CompOk; kernel_rfl
theorem ok_ka_internal_bytealg_Cutover : CompOk Tryz.prog G0 196 ka_internal_bytealg_Cutover := by unfold CompOk; kernel_rfl
theorem ok_ka_internal_bytealg_IndexRabinKarp_string : CompOk Tryz.prog G0 197 ka_internal_bytealg_IndexRabinKarp_string := by unfold CompOk; kernel_rfl
theorem ok_ka_internal_strconv_Atoi : CompOk Tryz.prog G0 198 ka_internal_strconv_Atoi := by unfold CompOk; kernel_rfl
theorem ok_ka_strconv_toError : CompOk Tryz.prog G0 199 ka_strconv_toError := by unfold CompOk; kernel_rfl
theorem ok_ka_internal_strconv_Itoa : CompOk Tryz.prog G0 200 ka_internal_strconv_Itoa := by unfold CompOk; kernel_rfl
theorem ok_ka_internal_stringslite_Cut : CompOk Tryz.prog G0 201 ka_internal_stringslite_Cut := by unfold CompOk; kernel_rfl
theorem ok_ka_strings_Builder_grow : CompOk Tryz.prog G0 202 ka_strings_Builder_grow := by unfold CompOk; kernel_rfl
theorem ok_ka_slices_siftDownCmpFunc_api_Feat : CompOk Tryz.prog G0 203 ka_slices_siftDownCmpFunc_api_Feat := by unfold CompOk; kernel_rfl
theorem ok_ka_slices_nextPowerOfTwo : CompOk Tryz.prog G0 204 ka_slices_nextPowerOfTwo := by unfold CompOk; kernel_rfl
theorem ok_ka_slices_xorshift_Next : CompOk Tryz.prog G0 205 ka_slices_xorshift_Next := by unfold CompOk; kernel_rfl
theorem ok_ka_slices_medianAdjacentCmpFunc_api_Feat : CompOk Tryz.prog G0 206 ka_slices_medianAdjacentCmpFunc_api_Feat := by unfold CompOk; kernel_rfl
theorem ok_ka_slices_medianCmpFunc_api_Feat : CompOk Tryz.prog G0 207 ka_slices_medianCmpFunc_api_Feat := by unfold CompOk; kernel_rfl
theorem ok_ka_internal_bytealg_hashStr_string : CompOk Tryz.prog G0 209 ka_internal_bytealg_hashStr_string := by unfold CompOk; kernel_rfl
theorem ok_ka_internal_strconv_ParseInt : CompOk Tryz.prog G0 210 ka_internal_strconv_ParseInt := by unfold CompOk; kernel_rfl
theorem ok_ka_strconv_syntaxError : CompOk Tryz.prog G0 211 ka_strconv_syntaxError := by unfold CompOk; kernel_rfl
theorem ok_ka_strconv_rangeError : CompOk Tryz.prog G0 212 ka_strconv_rangeError := by unfold CompOk; kernel_rfl
theorem ok_ka_strconv_baseError : CompOk Tryz.prog G0 213 ka_strconv_baseError := by unfold CompOk; kernel_rfl
theorem ok_ka_strconv_bitSizeError : CompOk Tryz.prog G0 214 ka_strconv_bitSizeError := by unfold CompOk; kernel_rfl
theorem ok_ka_internal_strconv_FormatInt : CompOk Tryz.prog G0 215 ka_internal_strconv_FormatInt := by unfold CompOk; kernel_rfl
theorem ok_ka_slices_order2CmpFunc_api_Feat : CompOk Tryz.prog G0 217 ka_slices_order2CmpFunc_api_Feat := by unfold CompOk; kernel_rfl
theorem ok_ka_internal_strconv_ParseUint : CompOk Tryz.prog G0 218 ka_internal_strconv_ParseUint := by unfold CompOk; kernel_rfl
theorem ok_ka_internal_stringslite_Clone : CompOk Tryz.prog G0 219 ka_internal_stringslite_Clone := by unfold CompOk; kernel_rfl
theorem ok_ka_errors_New : CompOk Tryz.prog G0 220 ka_errors_New := by unfold CompOk; kernel_rfl
theorem ok_ka_internal_strconv_small : CompOk Tryz.prog G0 221 ka_internal_strconv_small := by unfold CompOk; kernel_rfl
theorem ok_ka_internal_strconv_numDigits : CompOk Tryz.prog G0 222 ka_internal_strconv_numDigits := by unfold CompOk; kernel_rfl
theorem ok_ka_internal_strconv_formatBase10 : CompOk Tryz.prog G0 223 ka_internal_strconv_formatBase10 := by unfold CompOk; kernel_rfl
theorem ok_ka_internal_strconv_formatBits : CompOk Tryz.prog G0 224 ka_internal_strconv_formatBits := by unfold CompOk; kernel_rfl
theorem ok_ka_internal_strconv_lower : CompOk Tryz.prog G0 225 ka_internal_strconv_lower := by unfold CompOk; kernel_rfl
theorem ok_ka_internal_strconv_underscoreOK : CompOk Tryz.prog G0 226 ka_internal_strconv_underscoreOK := by unfold CompOk; kernel_rfl
theorem ok_ka_internal_strconv_log10Pow2 : CompOk Tryz.prog G0 227 ka_internal_strconv_log10Pow2 := by unfold CompOk; kernel_rfl
theorem ok_ka_internal_strconv_bool2_int : CompOk Tryz.prog G0 228 ka_internal_strconv_bool2_int := by unfold CompOk; kernel_rfl
theorem ok_ka_internal_strconv_isPowerOfTwo : CompOk Tryz.prog G0 229 ka_internal_strconv_isPowerOfTwo := by unfold CompOk; kernel_rfl
theorem ok_ka_math_bits_TrailingZeros : CompOk Tryz.prog G0 230 ka_math_bits_TrailingZeros := by unfold CompOk; kernel_rfl
theorem ok_ka_math_bits_TrailingZeros32 : CompOk Tryz.prog G0 231 ka_math_bits_TrailingZeros32 := by unfold CompOk; kernel_rfl
theorem ok_ka_math_bits_TrailingZeros64 : CompOk Tryz.prog G0 232 ka_math_bits_TrailingZeros64 := by unfold CompOk; kernel_rfl
theorem okd_kda_morph_reader_read_1 : CompOkD Tryz.prog G0 63 (4, kda_morph_reader_read_1) := ⟨by kernel_rfl, rfl⟩
theorem ktab_ok : ∀ f af, ktab f = some af → CompOk Tryz.prog G0 f af := fun f af h => by
  unfold ktab at h
  revert h
  exact (tab_node (tab_node (tab_node (tab_node (tab_node (tab_node (tab_node (tab_leaf (C := _) ok_ka_truchmanlaw02_MorphKnown) (tab_leaf (C := _) ok_ka_morph_Parse)) (tab_node (tab_leaf (C := _) ok_ka_morph_Steps) (tab_node (tab_leaf (C := _) ok_ka_morph_Form) (tab_leaf (C := _) ok_ka_truchmanlaw02_SameStrings)))) (tab_node (tab_node (tab_leaf (C := _) ok_ka_morph_Analyze) (tab_node (tab_leaf (C := _) ok_ka_truchmanlaw02_SameAnalysis) (tab_leaf (C := _) ok_ka_morph_Generate))) (tab_node (tab_leaf (C := _) ok_ka_morph_Spell) (tab_node (tab_leaf (C := _) ok_ka_morph_Unify) (tab_leaf (C := _) ok_ka_morph_Name))))) (tab_node (tab_node (tab_node (tab_leaf (C := _) ok_ka_morph_Word) (tab_node (tab_leaf (C := _) ok_ka_morph_Plain) (tab_leaf (C := _) ok_ka_truchmanlaw02_lives))) (tab_node (tab_leaf (C := _) ok_ka_morph_Subsumes) (tab_node (tab_leaf (C := _) ok_ka_strings_Split) (tab_leaf (C := _) ok_ka_morph_reader_read)))) (tab_node (tab_node (tab_leaf (C := _) ok_ka_morph_Check) (tab_node (tab_leaf (C := _) ok_ka_morph_asked) (tab_leaf (C := _) ok_ka_morph_language_steps))) (tab_node (tab_leaf (C := _) ok_ka_morph_language_form) (tab_node (tab_leaf (C := _) ok_ka_morph_language_analyze) (tab_leaf (C := _) ok_ka_morph_Bundle)))))) (tab_node (tab_node (tab_node (tab_node (tab_leaf (C := _) ok_ka_morph_language_slots) (tab_node (tab_leaf (C := _) ok_ka_morph_language_slot) (tab_leaf (C := _) ok_ka_morph_language_feats))) (tab_node (tab_leaf (C := _) ok_ka_slices_Contains_string_string) (tab_node (tab_leaf (C := _) ok_ka_morph_all) (tab_leaf (C := _) ok_ka_morph_symbol)))) (tab_node (tab_node (tab_leaf (C := _) ok_ka_morph_language_spell) (tab_node (tab_leaf (C := _) ok_ka_morph_increasing) (tab_leaf (C := _) ok_ka_morph_clash))) (tab_node (tab_leaf (C := _) ok_ka_morph_union) (tab_node (tab_leaf (C := _) ok_ka_morph_Name_1) (tab_leaf (C := _) ok_ka_morph_letter))))) (tab_node (tab_node (tab_node (tab_leaf (C := _) ok_ka_morph_Name_2) (tab_node (tab_leaf (C := _) ok_ka_morph_Word_1) (tab_leaf (C := _) ok_ka_slices_ContainsFunc_api_Feat_api_Feat))) (tab_node (tab_leaf (C := _) ok_ka_morph_Subsumes_1) (tab_node (tab_leaf (C := _) ok_ka_slices_Contains_api_Feat_api_Feat) (tab_leaf (C := _) ok_ka_strings_genSplit)))) (tab_node (tab_node (tab_leaf (C := _) ok_ka_morph_kinds) (tab_node (tab_leaf (C := _) ok_ka_morph_demand) (tab_leaf (C := _) ok_ka_strings_SplitN))) (tab_node (tab_leaf (C := _) ok_ka_morph_first) (tab_node (tab_leaf (C := _) ok_ka_morph_checker_vowels) (tab_leaf (C := _) ok_ka_morph_Check_1))))))) (tab_node (tab_node (tab_node (tab_node (tab_node (tab_leaf (C := _) ok_ka_morph_each_api_Trait) (tab_leaf (C := _) ok_ka_morph_checker_trait)) (tab_node (tab_leaf (C := _) ok_ka_morph_Check_2) (tab_node (tab_leaf (C := _) ok_ka_morph_each_api_Class) (tab_leaf (C := _) ok_ka_morph_checker_class)))) (tab_node (tab_node (tab_leaf (C := _) ok_ka_morph_Check_3) (tab_node (tab_leaf (C := _) ok_ka_morph_each_api_Entry) (tab_leaf (C := _) ok_ka_morph_checker_entry))) (tab_node (tab_leaf (C := _) ok_ka_morph_Check_4) (tab_node (tab_leaf (C := _) ok_ka_morph_each_api_Spell) (tab_leaf (C := _) ok_ka_morph_checker_spell))))) (tab_node (tab_node (tab_node (tab_leaf (C := _) ok_ka_morph_Check_5) (tab_node (tab_leaf (C := _) ok_ka_morph_each_api_Link) (tab_leaf (C := _) ok_ka_morph_checker_link))) (tab_node (tab_leaf (C := _) ok_ka_morph_language_underlying) (tab_node (tab_leaf (C := _) ok_ka_strings_ReplaceAll) (tab_leaf (C := _) ok_ka_morph_language_shapes)))) (tab_node (tab_node (tab_leaf (C := _) ok_ka_morph_language_openings) (tab_node (tab_leaf (C := _) ok_ka_morph_analyses) (tab_leaf (C := _) ok_ka_morph_checker_bundle))) (tab_node (tab_leaf (C := _) ok_ka_morph_classOf) (tab_node (tab_leaf (C := _) ok_ka_slices_Index_string_string) (tab_leaf (C := _) ok_ka_strings_HasPrefix)))))) (tab_node (tab_node (tab_node (tab_node (tab_leaf (C := _) ok_ka_morph_language_left) (tab_node (tab_leaf (C := _) ok_ka_morph_language_right) (tab_leaf (C := _) ok_ka_strings_Builder_WriteString))) (tab_node (tab_leaf (C := _) ok_ka_strings_Builder_WriteByte) (tab_node (tab_leaf (C := _) ok_ka_strings_Builder_String) (tab_leaf (C := _) ok_ka_strings_Builder_Len)))) (tab_node (tab_node (tab_leaf (C := _) ok_ka_morph_clash_1) (tab_node (tab_leaf (C := _) ok_ka_morph_clash_1_1) (tab_leaf (C := _) ok_ka_slices_Concat_api_Feat_api_Feat))) (tab_node (tab_leaf (C := _) ok_ka_slices_SortFunc_api_Feat_api_Feat) (tab_node (tab_leaf (C := _) ok_ka_morph_union_1) (tab_leaf (C := _) ok_ka_strings_Compare))))) (tab_node (tab_node (tab_node (tab_leaf (C := _) ok_ka_slices_Compact_api_Feat_api_Feat) (tab_node (tab_leaf (C := _) ok_ka_slices_IndexFunc_api_Feat_api_Feat) (tab_leaf (C := _) ok_ka_slices_Index_api_Feat_api_Feat))) (tab_node (tab_leaf (C := _) ok_ka_strings_explode) (tab_node (tab_leaf (C := _) ok_ka_strings_Count) (tab_leaf (C := _) ok_ka_strings_Index)))) (tab_node (tab_node (tab_leaf (C := _) ok_ka_morph_kinds_1) (tab_node (tab_leaf (C := _) ok_ka_morph_text) (tab_leaf (C := _) ok_ka_morph_kinds_2))) (tab_node (tab_leaf (C := _) ok_ka_morph_kinds_3) (tab_node (tab_leaf (C := _) ok_ka_morph_kinds_4) (tab_leaf (C := _) ok_ka_morph_number)))))))) (tab_node (tab_node (tab_node (tab_node (tab_node (tab_node (tab_leaf (C := _) ok_ka_morph_feats) (tab_leaf (C := _) ok_ka_morph_kinds_5)) (tab_node (tab_leaf (C := _) ok_ka_morph_kinds_6) (tab_node (tab_leaf (C := _) ok_ka_morph_kinds_7) (tab_leaf (C := _) ok_ka_morph_kinds_8)))) (tab_node (tab_node (tab_leaf (C := _) ok_ka_slices_ContainsFunc_api_Trait_api_Trait) (tab_node (tab_leaf (C := _) ok_ka_morph_checker_trait_1) (tab_leaf (C := _) ok_ka_slices_ContainsFunc_api_Class_api_Class))) (tab_node (tab_leaf (C := _) ok_ka_morph_checker_class_1) (tab_node (tab_leaf (C := _) ok_ka_morph_each_api_Slot) (tab_leaf (C := _) ok_ka_morph_checker_class_2))))) (tab_node (tab_node (tab_node (tab_leaf (C := _) ok_ka_morph_short) (tab_node (tab_leaf (C := _) ok_ka_slices_ContainsFunc_api_Entry_api_Entry) (tab_leaf (C := _) ok_ka_morph_checker_entry_1))) (tab_node (tab_leaf (C := _) ok_ka_slices_ContainsFunc_api_Slot_api_Slot) (tab_node (tab_leaf (C := _) ok_ka_morph_checker_entry_2) (tab_leaf (C := _) ok_ka_slices_ContainsFunc_api_Irregular_api_Irregular)))) (tab_node (tab_node (tab_leaf (C := _) ok_ka_morph_checker_entry_3) (tab_node (tab_leaf (C := _) ok_ka_morph_around) (tab_leaf (C := _) ok_ka_strings_Replace))) (tab_node (tab_leaf (C := _) ok_ka_morph_language_opens) (tab_node (tab_leaf (C := _) ok_ka_slices_Clone_api_First_api_First) (tab_leaf (C := _) ok_ka_strings_CutPrefix)))))) (tab_node (tab_node (tab_node (tab_node (tab_leaf (C := _) ok_ka_morph_each_api_Feat) (tab_node (tab_leaf (C := _) ok_ka_morph_checker_bundle_1) (tab_leaf (C := _) ok_ka_slices_IndexFunc_api_Trait_api_Trait))) (tab_node (tab_leaf (C := _) ok_ka_morph_checker_bundle_1_1) (tab_node (tab_leaf (C := _) ok_ka_slices_IndexFunc_api_Class_api_Class) (tab_leaf (C := _) ok_ka_morph_classOf_1)))) (tab_node (tab_node (tab_leaf (C := _) ok_ka_internal_stringslite_HasPrefix) (tab_node (tab_leaf (C := _) ok_ka_morph_language_match) (tab_leaf (C := _) ok_ka_strings_Builder_copyCheck))) (tab_node (tab_leaf (C := _) ok_ka_slices_Grow_api_Feat_api_Feat) (tab_node (tab_leaf (C := _) ok_ka_slices_pdqsortCmpFunc_api_Feat) (tab_leaf (C := _) ok_ka_math_bits_Len))))) (tab_node (tab_node (tab_node (tab_leaf (C := _) ok_ka_internal_bytealg_CompareString) (tab_node (tab_leaf (C := _) ok_ka_unicode_utf8_RuneCountInString) (tab_leaf (C := _) ok_ka_unicode_utf8_DecodeRuneInString))) (tab_node (tab_leaf (C := _) ok_ka_internal_stringslite_Index) (tab_node (tab_leaf (C := _) ok_ka_strconv_Atoi) (tab_leaf (C := _) ok_ka_strconv_Itoa)))) (tab_node (tab_node (tab_leaf (C := _) ok_ka_strings_Cut) (tab_node (tab_leaf (C := _) ok_ka_slices_IndexFunc_api_Entry_api_Entry) (tab_leaf (C := _) ok_ka_slices_IndexFunc_api_Slot_api_Slot))) (tab_node (tab_leaf (C := _) ok_ka_slices_IndexFunc_api_Irregular_api_Irregular) (tab_node (tab_leaf (C := _) ok_ka_strings_Builder_Grow) (tab_leaf (C := _) ok_ka_internal_stringslite_CutPrefix))))))) (tab_node (tab_node (tab_node (tab_node (tab_node (tab_leaf (C := _) ok_ka_strings_IndexByte) (tab_node (tab_leaf (C := _) ok_ka_slices_insertionSortCmpFunc_api_Feat) (tab_leaf (C := _) ok_ka_slices_heapSortCmpFunc_api_Feat))) (tab_node (tab_leaf (C := _) ok_ka_slices_breakPatternsCmpFunc_api_Feat) (tab_node (tab_leaf (C := _) ok_ka_slices_choosePivotCmpFunc_api_Feat) (tab_leaf (C := _) ok_ka_slices_reverseRangeCmpFunc_api_Feat)))) (tab_node (tab_node (tab_leaf (C := _) ok_ka_slices_partialInsertionSortCmpFunc_api_Feat) (tab_node (tab_leaf (C := _) ok_ka_slices_partitionEqualCmpFunc_api_Feat) (tab_leaf (C := _) ok_ka_slices_partitionCmpFunc_api_Feat))) (tab_node (tab_leaf (C := _) ok_ka_math_bits_Len32) (tab_node (tab_leaf (C := _) ok_ka_math_bits_Len64) (tab_leaf (C := _) ok_ka_unicode_utf8_decodeRuneInStringSlow))))) (tab_node (tab_node (tab_node (tab_leaf (C := _) ok_ka_internal_stringslite_IndexByte) (tab_node (tab_leaf (C := _) ok_ka_internal_bytealg_Cutover) (tab_leaf (C := _) ok_ka_internal_bytealg_IndexRabinKarp_string))) (tab_node (tab_leaf (C := _) ok_ka_internal_strconv_Atoi) (tab_node (tab_leaf (C := _) ok_ka_strconv_toError) (tab_leaf (C := _) ok_ka_internal_strconv_Itoa)))) (tab_node (tab_node (tab_leaf (C := _) ok_ka_internal_stringslite_Cut) (tab_node (tab_leaf (C := _) ok_ka_strings_Builder_grow) (tab_leaf (C := _) ok_ka_slices_siftDownCmpFunc_api_Feat))) (tab_node (tab_leaf (C := _) ok_ka_slices_nextPowerOfTwo) (tab_node (tab_leaf (C := _) ok_ka_slices_xorshift_Next) (tab_leaf (C := _) ok_ka_slices_medianAdjacentCmpFunc_api_Feat)))))) (tab_node (tab_node (tab_node (tab_node (tab_leaf (C := _) ok_ka_slices_medianCmpFunc_api_Feat) (tab_node (tab_leaf (C := _) ok_ka_internal_bytealg_hashStr_string) (tab_leaf (C := _) ok_ka_internal_strconv_ParseInt))) (tab_node (tab_leaf (C := _) ok_ka_strconv_syntaxError) (tab_node (tab_leaf (C := _) ok_ka_strconv_rangeError) (tab_leaf (C := _) ok_ka_strconv_baseError)))) (tab_node (tab_node (tab_leaf (C := _) ok_ka_strconv_bitSizeError) (tab_node (tab_leaf (C := _) ok_ka_internal_strconv_FormatInt) (tab_leaf (C := _) ok_ka_slices_order2CmpFunc_api_Feat))) (tab_node (tab_leaf (C := _) ok_ka_internal_strconv_ParseUint) (tab_node (tab_leaf (C := _) ok_ka_internal_stringslite_Clone) (tab_leaf (C := _) ok_ka_errors_New))))) (tab_node (tab_node (tab_node (tab_leaf (C := _) ok_ka_internal_strconv_small) (tab_node (tab_leaf (C := _) ok_ka_internal_strconv_numDigits) (tab_leaf (C := _) ok_ka_internal_strconv_formatBase10))) (tab_node (tab_leaf (C := _) ok_ka_internal_strconv_formatBits) (tab_node (tab_leaf (C := _) ok_ka_internal_strconv_lower) (tab_leaf (C := _) ok_ka_internal_strconv_underscoreOK)))) (tab_node (tab_node (tab_leaf (C := _) ok_ka_internal_strconv_log10Pow2) (tab_node (tab_leaf (C := _) ok_ka_internal_strconv_bool2_int) (tab_leaf (C := _) ok_ka_internal_strconv_isPowerOfTwo))) (tab_node (tab_leaf (C := _) ok_ka_math_bits_TrailingZeros) (tab_node (tab_leaf (C := _) ok_ka_math_bits_TrailingZeros32) (tab_leaf (C := _) ok_ka_math_bits_TrailingZeros64)))))))))
theorem kdtab_ok : ∀ f d af, kdtab f = some (d, af) → CompOkD Tryz.prog G0 f (d, af) := fun f d af h => by
  unfold kdtab at h
  revert h
  exact (tab_leaf (C := _) okd_kda_morph_reader_read_1)
end Go.Am
end

section
set_option maxRecDepth 1000000
namespace Go.Am
open Go.RowKit Go.Proofs

/-- The functions without bodies. -/
def xorc (g : FuncId) (xs : List AV) (H : List AObj) : Option Out :=
  match xs with
  | [.str s, .int .u8 c] => bif Nat.beq g f_internal_bytealg_CountString then some (.ret (.int .i64 (Lib.countByte s c.toNat.toUInt8 : Nat)), H)
    else bif Nat.beq g f_internal_bytealg_IndexByteString then some (.ret (.int .i64 (Lib.indexByte s c.toNat.toUInt8)), H)
    else none
  | [.int .i64 (.ofNat n)] => bif Nat.beq g f_internal_bytealg_MakeNoZero && Nat.ble n 281474976710656 then some (.ret (.rslice H.length 0 n 1 true), H ++ [.cells (List.replicate n .unk) 5]) else none
  | [.fn _ _ _] => none
  | [x] => bif Nat.beq g f_internal_abi_NoEscape then some (.ret x, H) else none
  | _ => none

theorem x_count : ExtAt Tryz.prog f_internal_bytealg_CountString Extern.BytealgCount.count := .of Tryz.func168 (by kernel_rfl) (by kernel_rfl) (by kernel_rfl) (by kernel_rfl)
theorem x_index : ExtAt Tryz.prog f_internal_bytealg_IndexByteString Extern.BytealgIndexByte.indexByte := .of Tryz.func208 (by kernel_rfl) (by kernel_rfl) (by kernel_rfl) (by kernel_rfl)
theorem x_same : ExtAt Tryz.prog f_internal_abi_NoEscape Extern.AbiNoEscape.same := .of Tryz.func179 (by kernel_rfl) (by kernel_rfl) (by kernel_rfl) (by kernel_rfl)
theorem x_noZero : ExtAt Tryz.prog f_internal_bytealg_MakeNoZero (Extern.BytealgMakeNoZero.makeNoZero #[3] #[148]) := .of Tryz.func216 (by kernel_rfl) (by kernel_rfl) (by kernel_rfl) (by kernel_rfl)
theorem x_noZeroT : Tryz.prog.underlying 148 = some (.slice 5) := by kernel_rfl

theorem xorc_ok {g : FuncId} {xs : List AV} {H H' : List AObj} {r : ARes} (h : xorc g xs H = some (r, H')) : ACalls Tryz.prog G0 g xs H fun r2 H2 => r2 = r ∧ H2 = H' := by
  unfold xorc at h
  split at h
  · rename_i s c
    cases h1 : Nat.beq g f_internal_bytealg_CountString with
    | true => rw [h1] at h; cases h; rw [Nat.eq_of_beq_eq_true h1]; exact ext_count x_count s c H
    | false =>
      rw [h1, cond_false] at h
      cases h2 : Nat.beq g f_internal_bytealg_IndexByteString with
      | true => rw [h2] at h; cases h; rw [Nat.eq_of_beq_eq_true h2]; exact ext_index x_index s c H
      | false => rw [h2] at h; cases h
  · rename_i n
    cases h1 : (Nat.beq g f_internal_bytealg_MakeNoZero && Nat.ble n 281474976710656) with
    | true =>
      rw [h1] at h; cases h
      simp only [Bool.and_eq_true] at h1
      rw [Nat.eq_of_beq_eq_true h1.1]; exact ext_noZero x_noZero x_noZeroT n (Nat.le_of_ble_eq_true h1.2) H
    | false => rw [h1] at h; cases h
  · cases h
  · rename_i x _ _
    cases h1 : Nat.beq g f_internal_abi_NoEscape with
    | true => rw [h1] at h; cases h; rw [Nat.eq_of_beq_eq_true h1]; exact ext_same x_same x H
    | false => rw [h1] at h; cases h
  · cases h

theorem x_mixed : Tryz.prog.follows .mixedOrders = true := by kernel_rfl
theorem g0 : ∀ (n g : Nat) (cs : List AV), G0 g = some cs → wkbL n cs = true := fun _ _ _ h => by cases h

noncomputable def E0 : REnv := { P := Tryz.prog, G := G0, fn := ktab, orc := xorc, dfn := kdtab }
theorem E0_ok : E0.Ok := ⟨x_mixed, fun f af h => ktab_ok f af h, fun f d af h => kdtab_ok f d af h, (fun _ _ _ _ _ h => by cases h), fun _ _ _ _ _ h => xorc_ok h⟩
noncomputable def E1 : REnv := { E0 with wo := woK E0 100000 }
theorem E1_ok : E1.Ok := ⟨x_mixed, fun f af h => ktab_ok f af h, fun f d af h => kdtab_ok f d af h, fun _ _ _ _ _ h => woK_ok E0_ok g0 h, fun _ _ _ _ _ h => xorc_ok h⟩

theorem t1 : alone E1 100000 f_morph_number [.str [48]] [] = some (.int .i64 0) := by kernel_rfl
theorem t2 : alone E1 100000 f_strings_Count [.str [48, 50, 48], .str [48]] [] = some (.int .i64 2) := by kernel_rfl

end Go.Am
end

