import Derived.Test.YtpbhjnfiecmlhaaGreatDoorA3
/-
  Part 4 of the tool: an abstract machine over the model, proved sound, and what it says of the functions that the law reaches. Condition: none but those that each theorem names.
-/
set_option linter.unusedVariables false
set_option linter.unusedSimpArgs false
section
set_option maxRecDepth 100000
namespace Go.Am
open Go.RowKit
def kc_gosem_cut_init : AC :=
  (.ops [⟨(some 0), none, (.call (.c (.fn (.func f_gosem_cut) [] [])) [])⟩])
def ka_gosem_cut_init : AFn := ⟨kc_gosem_cut_init, 1, [], .keep, [], none⟩

def kc_truchmanlaw02_MorphNames : AC :=
  (.seq (.ops [⟨(some 2), none, (.op (.mv (.c (.bool false))))⟩])
  (.seq (.seq (.ops [⟨(some 3), none, (.op (.mv (.t 0)))⟩,
    ⟨(some 4), none, (.op (.len .str (.t 3)))⟩,
    ⟨(some 5), none, (.op (.ar .gtr (.t 4) (.c (.int .i64 1000))))⟩])
  (.cond (.t 5)
    (.seq (.ops [⟨(some 6), none, (.call (.c (.fn (.func f_truchmanlaw02_lives) [] [])) [])⟩,
      ⟨(some 2), none, (.op (.mv (.t 6)))⟩])
    .ret)
    .skip))
  (.seq (.ops [⟨(some 7), none, (.op (.mv (.t 0)))⟩,
    ⟨(some 8), none, (.call (.c (.fn (.func f_morph_Name) [] [])) [(.t 7)])⟩,
    ⟨(some 9), none, (.op (.mv (.t 0)))⟩,
    ⟨(some 10), none, (.call (.c (.fn (.func f_truchmanref02_Name) [] [])) [(.t 9)])⟩,
    ⟨(some 11), none, (.op (.eq false .bool (.t 8) (.t 10)))⟩,
    ⟨(some 12), none, (.op (.mv (.t 11)))⟩,
    ⟨(some 13), (some (12, true)), (.op (.mv (.t 0)))⟩,
    ⟨(some 14), (some (12, true)), (.call (.c (.fn (.func f_morph_Word) [] [])) [(.t 13)])⟩,
    ⟨(some 15), (some (12, true)), (.op (.mv (.t 0)))⟩,
    ⟨(some 16), (some (12, true)), (.call (.c (.fn (.func f_truchmanref02_Word) [] [])) [(.t 15)])⟩,
    ⟨(some 17), (some (12, true)), (.op (.eq false .bool (.t 14) (.t 16)))⟩,
    ⟨(some 18), none, (.op (.pk (.t 12) (.t 17) (.c (.bool false))))⟩,
    ⟨(some 19), none, (.op (.mv (.t 18)))⟩,
    ⟨(some 20), (some (19, true)), (.op (.mv (.t 0)))⟩,
    ⟨(some 21), (some (19, true)), (.call (.c (.fn (.func f_morph_Plain) [] [])) [(.t 20)])⟩,
    ⟨(some 22), (some (19, true)), (.op (.mv (.t 0)))⟩,
    ⟨(some 23), (some (19, true)), (.call (.c (.fn (.func f_truchmanref02_Plain) [] [])) [(.t 22)])⟩,
    ⟨(some 24), (some (19, true)), (.op (.eq false .bool (.t 21) (.t 23)))⟩,
    ⟨(some 25), none, (.op (.pk (.t 19) (.t 24) (.c (.bool false))))⟩,
    ⟨(some 26), none, (.op (.mv (.t 25)))⟩,
    ⟨(some 27), (some (26, true)), (.call (.c (.fn (.func f_truchmanlaw02_lives) [] [])) [])⟩,
    ⟨(some 28), none, (.op (.pk (.t 26) (.t 27) (.c (.bool false))))⟩,
    ⟨(some 2), none, (.op (.mv (.t 28)))⟩])
  .ret)))
def ka_truchmanlaw02_MorphNames : AFn := ⟨kc_truchmanlaw02_MorphNames, 29, [.t 2], .keep, [], none⟩

def kc_truchmanlaw02_lives : AC :=
  (.seq (.ops [⟨(some 0), none, (.op (.mv (.c (.bool false))))⟩])
  (.seq (.ops [⟨(some 7), none, (.call (.c (.fn (.func f_morph_Parse) [] [])) [(.c (.str [118, 111, 119, 101, 108, 115, 32, 97, 101, 105, 111, 117, 10, 116, 114, 97, 105, 116, 32, 110, 117, 109, 32, 115, 103, 32, 112, 108, 10, 99, 108, 97, 115, 115, 32, 110, 111, 117, 110, 10, 115, 108, 111, 116, 32, 48, 32, 45, 32, 45, 32, 110, 117, 109, 61, 115, 103, 10, 115, 108, 111, 116, 32, 48, 32, 45, 32, 115, 32, 110, 117, 109, 61, 112, 108, 10, 99, 108, 97, 115, 115, 32, 118, 101, 114, 98, 10, 115, 108, 111, 116, 32, 48, 32, 45, 32, 45, 10, 115, 108, 111, 116, 32, 48, 32, 45, 32, 101, 100, 10, 101, 110, 116, 114, 121, 32, 99, 105, 116, 121, 32, 110, 111, 117, 110, 10, 101, 110, 116, 114, 121, 32, 99, 97, 114, 32, 110, 111, 117, 110, 10, 101, 110, 116, 114, 121, 32, 98, 117, 115, 32, 110, 111, 117, 110, 10, 102, 111, 114, 109, 32, 49, 32, 98, 117, 115, 101, 115, 10, 101, 110, 116, 114, 121, 32, 112, 108, 97, 110, 32, 118, 101, 114, 98, 10, 115, 112, 101, 108, 108, 32, 121, 43, 32, 105, 43, 101, 32, 67, 32, 115, 10, 115, 112, 101, 108, 108, 32, 110, 43, 32, 110, 110, 43, 32, 86, 32, 101, 100, 10, 108, 105, 110, 107, 32, 110, 111, 117, 110, 32, 45, 32, 110, 117, 109, 61, 115, 103, 10]))])⟩,
    ⟨(some 6), none, (.op (.mv (.t 7)))⟩,
    ⟨(some 8), none, (.op (.ex (.t 6) 0))⟩,
    ⟨(some 9), none, (.op (.ex (.t 6) 1))⟩,
    ⟨(some 10), none, (.op (.ex (.t 6) 2))⟩,
    ⟨(some 1), none, (.op (.nw [(.str []), (.slice .nil 2 []), (.slice .nil 2 []), (.slice .nil 4 []), (.slice .nil 4 []), (.slice .nil 3 [])] t_api_Lexicon))⟩,
    ⟨none, none, (.op (.st 6 (.t 1) (.t 8)))⟩,
    ⟨(some 2), none, (.op (.mv (.t 9)))⟩,
    ⟨(some 3), none, (.op (.mv (.t 10)))⟩])
  (.seq (.ops [⟨(some 12), none, (.op (.ld (some 6) (.t 1)))⟩,
    ⟨(some 13), none, (.call (.c (.fn (.func f_morph_Form) [] [])) [(.t 12), (.c (.int .i64 0)), (.c (.int .i64 1))])⟩,
    ⟨(some 11), none, (.op (.mv (.t 13)))⟩,
    ⟨(some 14), none, (.op (.ex (.t 11) 0))⟩,
    ⟨(some 15), none, (.op (.ex (.t 11) 1))⟩,
    ⟨(some 4), none, (.op (.mv (.t 14)))⟩,
    ⟨(some 5), none, (.op (.mv (.t 15)))⟩])
  (.seq (.ops [⟨(some 16), none, (.op (.mv (.t 3)))⟩,
    ⟨(some 17), none, (.op (.ar .eql (.t 16) (.c (.int .u8 0))))⟩,
    ⟨(some 18), none, (.op (.mv (.t 17)))⟩,
    ⟨(some 19), (some (18, true)), (.op (.mv (.t 5)))⟩,
    ⟨(some 20), (some (18, true)), (.op (.ar .eql (.t 19) (.c (.int .u8 0))))⟩,
    ⟨(some 21), none, (.op (.pk (.t 18) (.t 20) (.c (.bool false))))⟩,
    ⟨(some 22), none, (.op (.mv (.t 21)))⟩,
    ⟨(some 23), (some (22, true)), (.op (.mv (.t 4)))⟩,
    ⟨(some 24), (some (22, true)), (.op (.ar .eql (.t 23) (.c (.str [99, 105, 116, 105, 101, 115]))))⟩,
    ⟨(some 25), none, (.op (.pk (.t 22) (.t 24) (.c (.bool false))))⟩,
    ⟨(some 0), none, (.op (.mv (.t 25)))⟩])
  .ret))))
def ka_truchmanlaw02_lives : AFn := ⟨kc_truchmanlaw02_lives, 26, [.t 0], .keep, [], none⟩

def kc_morph_Name : AC :=
  (.seq (.ops [⟨(some 2), none, (.op (.mv (.c (.bool false))))⟩])
  (.seq (.ops [⟨(some 3), none, (.op (.nw [.nilfn] t_func_uint8_bool))⟩,
    ⟨none, none, (.op (.st 1 (.t 3) (.c (.fn (.func f_morph_Name_1) [] []))))⟩])
  (.seq (.dops false [] [] [(⟨(some 4), none, (.op (.mv (.t 0)))⟩, .pure),
    (⟨(some 5), none, (.op (.len .str (.t 4)))⟩, .wide),
    (⟨(some 6), none, (.op (.ar .geq (.t 5) (.c (.int .i64 1))))⟩, .pure),
    (⟨(some 7), none, (.op (.mv (.t 6)))⟩, .pure),
    (⟨(some 8), (some (7, true)), (.op (.mv (.t 0)))⟩, .pure),
    (⟨(some 9), (some (7, true)), (.op (.len .str (.t 8)))⟩, .wide),
    (⟨(some 10), (some (7, true)), (.op (.ar .leq (.t 9) (.c (.int .i64 12))))⟩, .pure),
    (⟨(some 11), none, (.op (.pk (.t 7) (.t 10) (.c (.bool false))))⟩, .pure),
    (⟨(some 12), none, (.op (.mv (.t 11)))⟩, .pure),
    (⟨(some 13), (some (12, true)), (.op (.ld none (.t 3)))⟩, .wide),
    (⟨(some 14), (some (12, true)), (.op (.mv (.t 0)))⟩, .pure),
    (⟨(some 15), (some (12, true)), (.op (.ixs (.t 14) (.c (.int .i64 0))))⟩, .pure),
    (⟨(some 16), (some (12, true)), (.call (.t 13) [(.t 15)])⟩, .eff),
    (⟨(some 17), none, (.op (.pk (.t 12) (.t 16) (.c (.bool false))))⟩, .pure),
    (⟨(some 18), none, (.op (.mv (.t 17)))⟩, .pure),
    (⟨(some 19), (some (18, true)), (.op (.mv (.t 0)))⟩, .pure),
    (⟨(some 20), (some (18, true)), (.op (.mf (.func f_morph_Name_2) [] [(.t 3)]))⟩, .pure),
    (⟨(some 21), (some (18, true)), (.call (.c (.fn (.func f_morph_all) [] [])) [(.t 19), (.t 20)])⟩, .eff),
    (⟨(some 22), none, (.op (.pk (.t 18) (.t 21) (.c (.bool false))))⟩, .pure),
    (⟨(some 2), none, (.op (.mv (.t 22)))⟩, .pure)])
  .ret)))
def ka_morph_Name : AFn := ⟨kc_morph_Name, 23, [.t 2], .keep, [], none⟩

def l_ktruchmanref02_Name_0 : AC :=
  (.seq (.seq (.ops [⟨(some 14), none, (.op (.mv (.t 3)))⟩,
    ⟨(some 15), none, (.op (.mv (.t 0)))⟩,
    ⟨(some 16), none, (.op (.len .str (.t 15)))⟩,
    ⟨(some 17), none, (.op (.ar .lss (.t 14) (.t 16)))⟩])
  (.cond (.t 17)
    .skip
    (.exit 0)))
  (.seq (.block 1 (.seq (.ops [⟨(some 20), none, (.op (.mv (.t 0)))⟩,
    ⟨(some 21), none, (.op (.mv (.t 3)))⟩,
    ⟨(some 22), none, (.op (.ixs (.t 20) (.t 21)))⟩,
    ⟨(some 23), none, (.op (.ar .geq (.t 22) (.c (.int .u8 65))))⟩,
    ⟨(some 24), none, (.op (.mv (.t 23)))⟩,
    ⟨(some 25), (some (24, true)), (.op (.mv (.t 0)))⟩,
    ⟨(some 26), (some (24, true)), (.op (.mv (.t 3)))⟩,
    ⟨(some 27), (some (24, true)), (.op (.ixs (.t 25) (.t 26)))⟩,
    ⟨(some 28), (some (24, true)), (.op (.ar .leq (.t 27) (.c (.int .u8 90))))⟩,
    ⟨(some 29), none, (.op (.pk (.t 24) (.t 28) (.c (.bool false))))⟩,
    ⟨(some 4), none, (.op (.mv (.t 29)))⟩])
  (.seq (.ops [⟨(some 30), none, (.op (.mv (.t 0)))⟩,
    ⟨(some 31), none, (.op (.mv (.t 3)))⟩,
    ⟨(some 32), none, (.op (.ixs (.t 30) (.t 31)))⟩,
    ⟨(some 33), none, (.op (.ar .geq (.t 32) (.c (.int .u8 48))))⟩,
    ⟨(some 34), none, (.op (.mv (.t 33)))⟩,
    ⟨(some 35), (some (34, true)), (.op (.mv (.t 0)))⟩,
    ⟨(some 36), (some (34, true)), (.op (.mv (.t 3)))⟩,
    ⟨(some 37), (some (34, true)), (.op (.ixs (.t 35) (.t 36)))⟩,
    ⟨(some 38), (some (34, true)), (.op (.ar .leq (.t 37) (.c (.int .u8 57))))⟩,
    ⟨(some 39), none, (.op (.pk (.t 34) (.t 38) (.c (.bool false))))⟩,
    ⟨(some 5), none, (.op (.mv (.t 39)))⟩])
  (.seq (.ops [⟨(some 40), none, (.op (.mv (.t 0)))⟩,
    ⟨(some 41), none, (.op (.mv (.t 3)))⟩,
    ⟨(some 42), none, (.op (.ixs (.t 40) (.t 41)))⟩,
    ⟨(some 43), none, (.call (.c (.fn (.func f_truchmanref02_Letter) [] [])) [(.t 42)])⟩,
    ⟨(some 44), none, (.op (.un .not (.t 43)))⟩,
    ⟨(some 45), none, (.op (.mv (.t 44)))⟩,
    ⟨(some 46), (some (45, true)), (.op (.mv (.t 4)))⟩,
    ⟨(some 47), (some (45, true)), (.op (.un .not (.t 46)))⟩,
    ⟨(some 48), none, (.op (.pk (.t 45) (.t 47) (.c (.bool false))))⟩,
    ⟨(some 49), none, (.op (.mv (.t 48)))⟩,
    ⟨(some 50), (some (49, true)), (.op (.mv (.t 3)))⟩,
    ⟨(some 51), (some (49, true)), (.op (.ar .eql (.t 50) (.c (.int .i64 0))))⟩,
    ⟨(some 52), (some (49, true)), (.op (.mv (.t 51)))⟩,
    ⟨(some 53), (some (52, false)), (.op (.mv (.t 5)))⟩,
    ⟨(some 54), (some (52, false)), (.op (.un .not (.t 53)))⟩,
    ⟨(some 55), (some (52, false)), (.op (.mv (.t 54)))⟩,
    ⟨(some 56), (some (55, true)), (.op (.mv (.t 0)))⟩,
    ⟨(some 57), (some (55, true)), (.op (.mv (.t 3)))⟩,
    ⟨(some 58), (some (55, true)), (.op (.ixs (.t 56) (.t 57)))⟩,
    ⟨(some 59), (some (55, true)), (.op (.ar .neq (.t 58) (.c (.int .u8 95))))⟩,
    ⟨(some 60), (some (52, false)), (.op (.pk (.t 55) (.t 59) (.c (.bool false))))⟩,
    ⟨(some 61), (some (49, true)), (.op (.pk (.t 52) (.c (.bool true)) (.t 60)))⟩,
    ⟨(some 62), none, (.op (.pk (.t 49) (.t 61) (.c (.bool false))))⟩])
  (.cond (.t 62)
    (.seq (.ops [⟨(some 2), none, (.op (.mv (.c (.bool false))))⟩])
    .ret)
    .skip)))))
  (.ops [⟨(some 18), none, (.op (.mv (.t 3)))⟩,
    ⟨(some 19), none, (.op (.ar .add (.t 18) (.c (.int .i64 1))))⟩,
    ⟨(some 3), none, (.op (.mv (.t 19)))⟩])))

def kc_truchmanref02_Name : AC :=
  (.seq (.ops [⟨(some 2), none, (.op (.mv (.c (.bool false))))⟩])
  (.seq (.seq (.ops [⟨(some 6), none, (.op (.mv (.t 0)))⟩,
    ⟨(some 7), none, (.op (.len .str (.t 6)))⟩,
    ⟨(some 8), none, (.op (.ar .lss (.t 7) (.c (.int .i64 1))))⟩,
    ⟨(some 9), none, (.op (.mv (.t 8)))⟩,
    ⟨(some 10), (some (9, false)), (.op (.mv (.t 0)))⟩,
    ⟨(some 11), (some (9, false)), (.op (.len .str (.t 10)))⟩,
    ⟨(some 12), (some (9, false)), (.op (.ar .gtr (.t 11) (.c (.int .i64 12))))⟩,
    ⟨(some 13), none, (.op (.pk (.t 9) (.c (.bool true)) (.t 12)))⟩])
  (.cond (.t 13)
    (.seq (.ops [⟨(some 2), none, (.op (.mv (.c (.bool false))))⟩])
    .ret)
    .skip))
  (.seq (.seq (.ops [⟨(some 3), none, (.op (.mv (.c (.int .i64 0))))⟩])
  (.block 0 (.loop ⟨none, [], false⟩ l_ktruchmanref02_Name_0)))
  (.seq (.ops [⟨(some 2), none, (.op (.mv (.c (.bool true))))⟩])
  .ret))))
def ka_truchmanref02_Name : AFn := ⟨kc_truchmanref02_Name, 63, [.t 2], .keep, [], none⟩

def kc_morph_Word : AC :=
  (.seq (.ops [⟨(some 2), none, (.op (.mv (.c (.bool false))))⟩])
  (.seq (.ops [⟨(some 3), none, (.op (.mv (.t 0)))⟩,
    ⟨(some 4), none, (.op (.len .str (.t 3)))⟩,
    ⟨(some 5), none, (.op (.ar .geq (.t 4) (.c (.int .i64 1))))⟩,
    ⟨(some 6), none, (.op (.mv (.t 5)))⟩,
    ⟨(some 7), (some (6, true)), (.op (.mv (.t 0)))⟩,
    ⟨(some 8), (some (6, true)), (.op (.len .str (.t 7)))⟩,
    ⟨(some 9), (some (6, true)), (.op (.ar .leq (.t 8) (.c (.int .i64 24))))⟩,
    ⟨(some 10), none, (.op (.pk (.t 6) (.t 9) (.c (.bool false))))⟩,
    ⟨(some 11), none, (.op (.mv (.t 10)))⟩,
    ⟨(some 12), (some (11, true)), (.op (.mv (.t 0)))⟩,
    ⟨(some 13), (some (11, true)), (.call (.c (.fn (.func f_morph_all) [] [])) [(.t 12), (.c (.fn (.func f_morph_Word_1) [] []))])⟩,
    ⟨(some 14), none, (.op (.pk (.t 11) (.t 13) (.c (.bool false))))⟩,
    ⟨(some 2), none, (.op (.mv (.t 14)))⟩])
  .ret))
def ka_morph_Word : AFn := ⟨kc_morph_Word, 15, [.t 2], .keep, [], none⟩

def l_ktruchmanref02_Word_0 : AC :=
  (.seq (.seq (.ops [⟨(some 12), none, (.op (.mv (.t 3)))⟩,
    ⟨(some 13), none, (.op (.mv (.t 0)))⟩,
    ⟨(some 14), none, (.op (.len .str (.t 13)))⟩,
    ⟨(some 15), none, (.op (.ar .lss (.t 12) (.t 14)))⟩])
  (.cond (.t 15)
    .skip
    (.exit 0)))
  (.seq (.block 1 (.seq (.ops [⟨(some 18), none, (.op (.mv (.t 0)))⟩,
    ⟨(some 19), none, (.op (.mv (.t 3)))⟩,
    ⟨(some 20), none, (.op (.ixs (.t 18) (.t 19)))⟩,
    ⟨(some 21), none, (.op (.ar .lss (.t 20) (.c (.int .u8 33))))⟩,
    ⟨(some 22), none, (.op (.mv (.t 21)))⟩,
    ⟨(some 23), (some (22, false)), (.op (.mv (.t 0)))⟩,
    ⟨(some 24), (some (22, false)), (.op (.mv (.t 3)))⟩,
    ⟨(some 25), (some (22, false)), (.op (.ixs (.t 23) (.t 24)))⟩,
    ⟨(some 26), (some (22, false)), (.op (.ar .gtr (.t 25) (.c (.int .u8 126))))⟩,
    ⟨(some 27), none, (.op (.pk (.t 22) (.c (.bool true)) (.t 26)))⟩])
  (.cond (.t 27)
    (.seq (.ops [⟨(some 2), none, (.op (.mv (.c (.bool false))))⟩])
    .ret)
    .skip)))
  (.ops [⟨(some 16), none, (.op (.mv (.t 3)))⟩,
    ⟨(some 17), none, (.op (.ar .add (.t 16) (.c (.int .i64 1))))⟩,
    ⟨(some 3), none, (.op (.mv (.t 17)))⟩])))

def kc_truchmanref02_Word : AC :=
  (.seq (.ops [⟨(some 2), none, (.op (.mv (.c (.bool false))))⟩])
  (.seq (.seq (.ops [⟨(some 4), none, (.op (.mv (.t 0)))⟩,
    ⟨(some 5), none, (.op (.len .str (.t 4)))⟩,
    ⟨(some 6), none, (.op (.ar .lss (.t 5) (.c (.int .i64 1))))⟩,
    ⟨(some 7), none, (.op (.mv (.t 6)))⟩,
    ⟨(some 8), (some (7, false)), (.op (.mv (.t 0)))⟩,
    ⟨(some 9), (some (7, false)), (.op (.len .str (.t 8)))⟩,
    ⟨(some 10), (some (7, false)), (.op (.ar .gtr (.t 9) (.c (.int .i64 24))))⟩,
    ⟨(some 11), none, (.op (.pk (.t 7) (.c (.bool true)) (.t 10)))⟩])
  (.cond (.t 11)
    (.seq (.ops [⟨(some 2), none, (.op (.mv (.c (.bool false))))⟩])
    .ret)
    .skip))
  (.seq (.seq (.ops [⟨(some 3), none, (.op (.mv (.c (.int .i64 0))))⟩])
  (.block 0 (.loop ⟨none, [], false⟩ l_ktruchmanref02_Word_0)))
  (.seq (.ops [⟨(some 2), none, (.op (.mv (.c (.bool true))))⟩])
  .ret))))
def ka_truchmanref02_Word : AFn := ⟨kc_truchmanref02_Word, 28, [.t 2], .keep, [], none⟩

def kc_morph_Plain : AC :=
  (.seq (.ops [⟨(some 2), none, (.op (.mv (.c (.bool false))))⟩])
  (.seq (.ops [⟨(some 3), none, (.op (.mv (.t 0)))⟩,
    ⟨(some 4), none, (.call (.c (.fn (.func f_morph_Word) [] [])) [(.t 3)])⟩,
    ⟨(some 5), none, (.op (.mv (.t 4)))⟩,
    ⟨(some 6), (some (5, true)), (.op (.mv (.t 0)))⟩,
    ⟨(some 7), (some (5, true)), (.call (.c (.fn (.func f_morph_all) [] [])) [(.t 6), (.c (.fn (.func f_morph_letter) [] []))])⟩,
    ⟨(some 8), none, (.op (.pk (.t 5) (.t 7) (.c (.bool false))))⟩,
    ⟨(some 2), none, (.op (.mv (.t 8)))⟩])
  .ret))
def ka_morph_Plain : AFn := ⟨kc_morph_Plain, 9, [.t 2], .keep, [], none⟩

def kc_truchmanref02_Plain : AC :=
  (.seq (.ops [⟨(some 2), none, (.op (.mv (.c (.bool false))))⟩])
  (.seq (.ops [⟨(some 3), none, (.op (.mv (.t 0)))⟩,
    ⟨(some 4), none, (.call (.c (.fn (.func f_truchmanref02_Word) [] [])) [(.t 3)])⟩,
    ⟨(some 5), none, (.op (.mv (.t 4)))⟩,
    ⟨(some 6), (some (5, true)), (.op (.mv (.t 0)))⟩,
    ⟨(some 7), (some (5, true)), (.call (.c (.fn (.func f_truchmanref02_of) [] [])) [(.t 6), (.c (.str []))])⟩,
    ⟨(some 8), none, (.op (.pk (.t 5) (.t 7) (.c (.bool false))))⟩,
    ⟨(some 2), none, (.op (.mv (.t 8)))⟩])
  .ret))
def ka_truchmanref02_Plain : AFn := ⟨kc_truchmanref02_Plain, 9, [.t 2], .keep, [], none⟩

def l_kmorph_Parse_0 : AC :=
  (.seq (.ops [⟨(some 31), none, (.op (.ar .lss (.t 30) (.t 29)))⟩])
  (.seq (.cond (.t 31)
    .skip
    (.exit 0))
  (.seq (.block 1 (.seq (.ops [⟨(some 32), none, (.op (.mv (.t 30)))⟩,
    ⟨(some 33), none, (.op (.ias 1 (.t 28) (.t 30)))⟩,
    ⟨(some 34), none, (.op (.ld none (.t 33)))⟩,
    ⟨(some 7), none, (.op (.mv (.t 32)))⟩,
    ⟨(some 8), none, (.op (.mv (.t 34)))⟩])
  (.seq (.seq (.ops [⟨(some 35), none, (.op (.mv (.t 8)))⟩,
    ⟨(some 36), none, (.op (.ar .eql (.t 35) (.c (.str []))))⟩,
    ⟨(some 37), none, (.op (.mv (.t 36)))⟩,
    ⟨(some 38), (some (37, false)), (.op (.mv (.t 8)))⟩,
    ⟨(some 39), (some (37, false)), (.op (.ixs (.t 38) (.c (.int .i64 0))))⟩,
    ⟨(some 40), (some (37, false)), (.op (.ar .eql (.t 39) (.c (.int .u8 59))))⟩,
    ⟨(some 41), none, (.op (.pk (.t 37) (.c (.bool true)) (.t 40)))⟩])
  (.cond (.t 41)
    (.exit 1)
    .skip))
  (.seq (.ops [⟨(some 42), none, (.op (.mv (.t 8)))⟩,
    ⟨(some 43), none, (.call (.c (.fn (.func f_morph_reader_read) [] [])) [(.t 6), (.t 42)])⟩,
    ⟨(some 44), none, (.op (.un .not (.t 43)))⟩])
  (.cond (.t 44)
    (.seq (.ops [⟨(some 45), none, (.op (.bd [(.str []), (.slice .nil 2 []), (.slice .nil 2 []), (.slice .nil 4 []), (.slice .nil 4 []), (.slice .nil 3 [])] [(0, 1), (1, 1), (2, 1), (3, 1), (4, 1), (5, 1)] []))⟩,
      ⟨(some 46), none, (.op (.mv (.t 7)))⟩,
      ⟨(some 47), none, (.op (.ar .add (.t 46) (.c (.int .i64 1))))⟩,
      ⟨none, none, (.op (.st 6 (.t 2) (.t 45)))⟩,
      ⟨(some 3), none, (.op (.mv (.t 47)))⟩,
      ⟨(some 4), none, (.op (.mv (.c (.int .u8 4))))⟩])
    .ret)
    .skip)))))
  (.ops [⟨(some 48), none, (.op (.ar .add (.t 30) (.c (.int .i64 1))))⟩,
    ⟨(some 30), none, (.op (.mv (.t 48)))⟩]))))

def kc_morph_Parse : AC :=
  (.seq (.ops [⟨(some 2), none, (.op (.nw [(.str []), (.slice .nil 2 []), (.slice .nil 2 []), (.slice .nil 4 []), (.slice .nil 4 []), (.slice .nil 3 [])] t_api_Lexicon))⟩,
    ⟨(some 3), none, (.op (.mv (.c (.int .i64 0))))⟩,
    ⟨(some 4), none, (.op (.mv (.c (.int .u8 0))))⟩])
  (.seq (.seq (.ops [⟨(some 10), none, (.op (.mv (.t 0)))⟩,
    ⟨(some 11), none, (.op (.len .str (.t 10)))⟩,
    ⟨(some 12), none, (.op (.ar .gtr (.t 11) (.c (.int .i64 65536))))⟩])
  (.cond (.t 12)
    (.seq (.ops [⟨(some 13), none, (.op (.bd [(.str []), (.slice .nil 2 []), (.slice .nil 2 []), (.slice .nil 4 []), (.slice .nil 4 []), (.slice .nil 3 [])] [(0, 1), (1, 1), (2, 1), (3, 1), (4, 1), (5, 1)] []))⟩,
      ⟨none, none, (.op (.st 6 (.t 2) (.t 13)))⟩,
      ⟨(some 3), none, (.op (.mv (.c (.int .i64 0))))⟩,
      ⟨(some 4), none, (.op (.mv (.c (.int .u8 3))))⟩])
    .ret)
    .skip))
  (.seq (.ops [⟨(some 14), none, (.op (.mv (.t 0)))⟩,
    ⟨(some 15), none, (.call (.c (.fn (.func f_strings_Split) [] [])) [(.t 14), (.c (.str [10]))])⟩,
    ⟨(some 5), none, (.op (.mv (.t 15)))⟩])
  (.seq (.seq (.ops [⟨(some 16), none, (.op (.mv (.t 5)))⟩,
    ⟨(some 17), none, (.op (.mv (.t 5)))⟩,
    ⟨(some 18), none, (.op (.len .sl (.t 17)))⟩,
    ⟨(some 19), none, (.op (.ar .sub (.t 18) (.c (.int .i64 1))))⟩,
    ⟨(some 20), none, (.op (.ias 1 (.t 16) (.t 19)))⟩,
    ⟨(some 21), none, (.op (.ld none (.t 20)))⟩,
    ⟨(some 22), none, (.op (.ar .eql (.t 21) (.c (.str []))))⟩])
  (.cond (.t 22)
    (.ops [⟨(some 23), none, (.op (.mv (.t 5)))⟩,
      ⟨(some 24), none, (.op (.mv (.t 5)))⟩,
      ⟨(some 25), none, (.op (.len .sl (.t 24)))⟩,
      ⟨(some 26), none, (.op (.ar .sub (.t 25) (.c (.int .i64 1))))⟩,
      ⟨(some 27), none, (.op (.sll 1 (.t 23) none (some (.t 26)) none))⟩,
      ⟨(some 5), none, (.op (.mv (.t 27)))⟩])
    .skip))
  (.seq (.ops [⟨(some 6), none, (.op (.nw [(.str []), (.slice .nil 2 []), (.slice .nil 2 []), (.slice .nil 4 []), (.slice .nil 4 []), (.slice .nil 3 []), (.str []), (.int .i64 0)] t_morph_reader))⟩])
  (.seq (.seq (.ops [⟨(some 28), none, (.op (.mv (.t 5)))⟩,
    ⟨(some 29), none, (.op (.len .sl (.t 28)))⟩,
    ⟨(some 30), none, (.op (.mv (.c (.int .i64 0))))⟩])
  (.block 0 (.loop ⟨none, [], false⟩ l_kmorph_Parse_0)))
  (.seq (.seq (.ops [⟨(some 49), none, (.op (.fa 6 (.t 6)))⟩,
    ⟨(some 50), none, (.op (.ld none (.t 49)))⟩,
    ⟨(some 51), none, (.op (.ar .eql (.t 50) (.c (.str []))))⟩])
  (.cond (.t 51)
    (.seq (.ops [⟨(some 52), none, (.op (.bd [(.str []), (.slice .nil 2 []), (.slice .nil 2 []), (.slice .nil 4 []), (.slice .nil 4 []), (.slice .nil 3 [])] [(0, 1), (1, 1), (2, 1), (3, 1), (4, 1), (5, 1)] []))⟩,
      ⟨none, none, (.op (.st 6 (.t 2) (.t 52)))⟩,
      ⟨(some 3), none, (.op (.mv (.c (.int .i64 0))))⟩,
      ⟨(some 4), none, (.op (.mv (.c (.int .u8 4))))⟩])
    .ret)
    .skip))
  (.seq (.seq (.ops [⟨(some 53), none, (.op (.fa 0 (.t 6)))⟩,
    ⟨(some 54), none, (.op (.ld (some 6) (.t 53)))⟩,
    ⟨(some 55), none, (.call (.c (.fn (.func f_morph_Check) [] [])) [(.t 54)])⟩,
    ⟨(some 9), none, (.op (.mv (.t 55)))⟩])
  (.seq (.ops [⟨(some 56), none, (.op (.mv (.t 9)))⟩,
    ⟨(some 57), none, (.op (.ar .neq (.t 56) (.c (.int .u8 0))))⟩])
  (.cond (.t 57)
    (.seq (.ops [⟨(some 58), none, (.op (.bd [(.str []), (.slice .nil 2 []), (.slice .nil 2 []), (.slice .nil 4 []), (.slice .nil 4 []), (.slice .nil 3 [])] [(0, 1), (1, 1), (2, 1), (3, 1), (4, 1), (5, 1)] []))⟩,
      ⟨(some 59), none, (.op (.mv (.t 9)))⟩,
      ⟨none, none, (.op (.st 6 (.t 2) (.t 58)))⟩,
      ⟨(some 3), none, (.op (.mv (.c (.int .i64 0))))⟩,
      ⟨(some 4), none, (.op (.mv (.t 59)))⟩])
    .ret)
    .skip)))
  (.seq (.ops [⟨(some 60), none, (.op (.fa 0 (.t 6)))⟩,
    ⟨(some 61), none, (.op (.ld (some 6) (.t 60)))⟩,
    ⟨none, none, (.op (.st 6 (.t 2) (.t 61)))⟩,
    ⟨(some 3), none, (.op (.mv (.c (.int .i64 0))))⟩,
    ⟨(some 4), none, (.op (.mv (.c (.int .u8 0))))⟩])
  .ret)))))))))
def ka_morph_Parse : AFn := ⟨kc_morph_Parse, 62, [.cell 2 (some 6), .t 3, .t 4], .keep, [], none⟩

def kc_morph_Form : AC :=
  (.seq (.ops [⟨(some 3), none, (.op (.bx t_api_Lexicon (.t 0)))⟩,
    ⟨(some 6), none, (.op (.mv (.c (.str []))))⟩,
    ⟨(some 7), none, (.op (.mv (.c (.int .u8 0))))⟩])
  (.seq (.ops [⟨(some 13), none, (.op (.ld (some 6) (.t 3)))⟩,
    ⟨(some 14), none, (.op (.mv (.t 1)))⟩,
    ⟨(some 15), none, (.op (.mv (.t 2)))⟩,
    ⟨(some 16), none, (.call (.c (.fn (.func f_morph_asked) [] [])) [(.t 13), (.t 14), (.t 15)])⟩,
    ⟨(some 12), none, (.op (.mv (.t 16)))⟩,
    ⟨(some 17), none, (.op (.ex (.t 12) 0))⟩,
    ⟨(some 18), none, (.op (.ex (.t 12) 1))⟩,
    ⟨(some 19), none, (.op (.ex (.t 12) 2))⟩,
    ⟨(some 8), none, (.op (.nw [(.str []), (.slice .nil 2 []), (.slice .nil 2 []), (.slice .nil 4 []), (.slice .nil 4 []), (.slice .nil 3 [])] t_morph_language))⟩,
    ⟨(some 9), none, (.op (.nw [(.int .i64 0), (.str []), (.str []), (.slice .nil 2 [])] t_api_Slot))⟩,
    ⟨none, none, (.op (.st 6 (.t 8) (.t 17)))⟩,
    ⟨none, none, (.op (.st 4 (.t 9) (.t 18)))⟩,
    ⟨(some 10), none, (.op (.mv (.t 19)))⟩])
  (.seq (.seq (.ops [⟨(some 20), none, (.op (.mv (.t 10)))⟩,
    ⟨(some 21), none, (.op (.ar .neq (.t 20) (.c (.int .u8 0))))⟩])
  (.cond (.t 21)
    (.seq (.ops [⟨(some 22), none, (.op (.mv (.t 10)))⟩,
      ⟨(some 6), none, (.op (.mv (.c (.str []))))⟩,
      ⟨(some 7), none, (.op (.mv (.t 22)))⟩])
    .ret)
    .skip))
  (.seq (.ops [⟨(some 23), none, (.op (.ld (some 6) (.t 8)))⟩,
    ⟨(some 24), none, (.op (.mv (.t 1)))⟩,
    ⟨(some 25), none, (.op (.mv (.t 2)))⟩,
    ⟨(some 26), none, (.call (.c (.fn (.func f_morph_language_form) [] [])) [(.t 23), (.t 24), (.t 25)])⟩,
    ⟨(some 11), none, (.op (.mv (.t 26)))⟩])
  (.seq (.seq (.ops [⟨(some 27), none, (.op (.mv (.t 11)))⟩,
    ⟨(some 28), none, (.op (.ar .eql (.t 27) (.c (.str []))))⟩])
  (.cond (.t 28)
    (.seq (.ops [⟨(some 6), none, (.op (.mv (.c (.str []))))⟩,
      ⟨(some 7), none, (.op (.mv (.c (.int .u8 7))))⟩])
    .ret)
    .skip))
  (.seq (.ops [⟨(some 29), none, (.op (.mv (.t 11)))⟩,
    ⟨(some 6), none, (.op (.mv (.t 29)))⟩,
    ⟨(some 7), none, (.op (.mv (.c (.int .u8 0))))⟩])
  .ret))))))
def ka_morph_Form : AFn := ⟨kc_morph_Form, 30, [.t 6, .t 7], .keep, [], none⟩

def kc_morph_Name_1 : AC :=
  (.seq (.ops [⟨(some 2), none, (.op (.mv (.c (.bool false))))⟩])
  (.seq (.ops [⟨(some 3), none, (.op (.mv (.t 0)))⟩,
    ⟨(some 4), none, (.call (.c (.fn (.func f_morph_letter) [] [])) [(.t 3)])⟩,
    ⟨(some 5), none, (.op (.mv (.t 4)))⟩,
    ⟨(some 6), (some (5, false)), (.op (.mv (.t 0)))⟩,
    ⟨(some 7), (some (5, false)), (.op (.ar .geq (.t 6) (.c (.int .u8 65))))⟩,
    ⟨(some 8), (some (5, false)), (.op (.mv (.t 7)))⟩,
    ⟨(some 9), (some (8, true)), (.op (.mv (.t 0)))⟩,
    ⟨(some 10), (some (8, true)), (.op (.ar .leq (.t 9) (.c (.int .u8 90))))⟩,
    ⟨(some 11), (some (5, false)), (.op (.pk (.t 8) (.t 10) (.c (.bool false))))⟩,
    ⟨(some 12), none, (.op (.pk (.t 5) (.c (.bool true)) (.t 11)))⟩,
    ⟨(some 2), none, (.op (.mv (.t 12)))⟩])
  .ret))
def ka_morph_Name_1 : AFn := ⟨kc_morph_Name_1, 13, [.t 2], .keep, [], none⟩

def kc_morph_letter : AC :=
  (.seq (.ops [⟨(some 2), none, (.op (.mv (.c (.bool false))))⟩])
  (.seq (.ops [⟨(some 3), none, (.op (.mv (.t 0)))⟩,
    ⟨(some 4), none, (.op (.ar .geq (.t 3) (.c (.int .u8 97))))⟩,
    ⟨(some 5), none, (.op (.mv (.t 4)))⟩,
    ⟨(some 6), (some (5, true)), (.op (.mv (.t 0)))⟩,
    ⟨(some 7), (some (5, true)), (.op (.ar .leq (.t 6) (.c (.int .u8 122))))⟩,
    ⟨(some 8), none, (.op (.pk (.t 5) (.t 7) (.c (.bool false))))⟩,
    ⟨(some 2), none, (.op (.mv (.t 8)))⟩])
  .ret))
def ka_morph_letter : AFn := ⟨kc_morph_letter, 9, [.t 2], .keep, [], none⟩

def l_kmorph_all_0 : AC :=
  (.seq (.ops [⟨(some 9), none, (.op (.ar .lss (.t 8) (.t 7)))⟩])
  (.seq (.cond (.t 9)
    .skip
    (.exit 0))
  (.seq (.block 1 (.seq (.ops [⟨(some 10), none, (.op (.mv (.t 8)))⟩,
    ⟨(some 5), none, (.op (.mv (.t 10)))⟩])
  (.seq (.ops [⟨(some 11), none, (.op (.mv (.t 1)))⟩,
    ⟨(some 12), none, (.op (.mv (.t 0)))⟩,
    ⟨(some 13), none, (.op (.mv (.t 5)))⟩,
    ⟨(some 14), none, (.op (.ixs (.t 12) (.t 13)))⟩,
    ⟨(some 15), none, (.call (.t 11) [(.t 14)])⟩,
    ⟨(some 16), none, (.op (.un .not (.t 15)))⟩])
  (.cond (.t 16)
    (.seq (.ops [⟨(some 4), none, (.op (.mv (.c (.bool false))))⟩])
    .ret)
    .skip))))
  (.ops [⟨(some 17), none, (.op (.ar .add (.t 8) (.c (.int .i64 1))))⟩,
    ⟨(some 8), none, (.op (.mv (.t 17)))⟩]))))

def kc_morph_all : AC :=
  (.seq (.ops [⟨(some 4), none, (.op (.mv (.c (.bool false))))⟩])
  (.seq (.seq (.ops [⟨(some 6), none, (.op (.mv (.t 0)))⟩,
    ⟨(some 7), none, (.op (.len .str (.t 6)))⟩,
    ⟨(some 8), none, (.op (.mv (.c (.int .i64 0))))⟩])
  (.block 0 (.loop ⟨none, [], false⟩ l_kmorph_all_0)))
  (.seq (.ops [⟨(some 4), none, (.op (.mv (.c (.bool true))))⟩])
  .ret)))
def ka_morph_all : AFn := ⟨kc_morph_all, 18, [.t 4], .keep, [], none⟩

def kc_morph_Name_2 : AC :=
  (.seq (.ops [⟨(some 3), none, (.op (.mv (.c (.bool false))))⟩])
  (.seq (.ops [⟨(some 4), none, (.op (.ld none (.t 1)))⟩,
    ⟨(some 5), none, (.op (.mv (.t 0)))⟩,
    ⟨(some 6), none, (.call (.t 4) [(.t 5)])⟩,
    ⟨(some 7), none, (.op (.mv (.t 6)))⟩,
    ⟨(some 8), (some (7, false)), (.op (.mv (.t 0)))⟩,
    ⟨(some 9), (some (7, false)), (.op (.ar .geq (.t 8) (.c (.int .u8 48))))⟩,
    ⟨(some 10), (some (7, false)), (.op (.mv (.t 9)))⟩,
    ⟨(some 11), (some (10, true)), (.op (.mv (.t 0)))⟩,
    ⟨(some 12), (some (10, true)), (.op (.ar .leq (.t 11) (.c (.int .u8 57))))⟩,
    ⟨(some 13), (some (7, false)), (.op (.pk (.t 10) (.t 12) (.c (.bool false))))⟩,
    ⟨(some 14), none, (.op (.pk (.t 7) (.c (.bool true)) (.t 13)))⟩,
    ⟨(some 15), none, (.op (.mv (.t 14)))⟩,
    ⟨(some 16), (some (15, false)), (.op (.mv (.t 0)))⟩,
    ⟨(some 17), (some (15, false)), (.op (.ar .eql (.t 16) (.c (.int .u8 95))))⟩,
    ⟨(some 18), none, (.op (.pk (.t 15) (.c (.bool true)) (.t 17)))⟩,
    ⟨(some 3), none, (.op (.mv (.t 18)))⟩])
  .ret))
def ka_morph_Name_2 : AFn := ⟨kc_morph_Name_2, 19, [.t 3], .keep, [], none⟩

def kc_truchmanref02_Letter : AC :=
  (.seq (.ops [⟨(some 2), none, (.op (.mv (.c (.bool false))))⟩])
  (.seq (.ops [⟨(some 3), none, (.op (.mv (.t 0)))⟩,
    ⟨(some 4), none, (.op (.ar .geq (.t 3) (.c (.int .u8 97))))⟩,
    ⟨(some 5), none, (.op (.mv (.t 4)))⟩,
    ⟨(some 6), (some (5, true)), (.op (.mv (.t 0)))⟩,
    ⟨(some 7), (some (5, true)), (.op (.ar .leq (.t 6) (.c (.int .u8 122))))⟩,
    ⟨(some 8), none, (.op (.pk (.t 5) (.t 7) (.c (.bool false))))⟩,
    ⟨(some 2), none, (.op (.mv (.t 8)))⟩])
  .ret))
def ka_truchmanref02_Letter : AFn := ⟨kc_truchmanref02_Letter, 9, [.t 2], .keep, [], none⟩

def kc_morph_Word_1 : AC :=
  (.seq (.ops [⟨(some 2), none, (.op (.mv (.c (.bool false))))⟩])
  (.seq (.ops [⟨(some 3), none, (.op (.mv (.t 0)))⟩,
    ⟨(some 4), none, (.op (.ar .geq (.t 3) (.c (.int .u8 33))))⟩,
    ⟨(some 5), none, (.op (.mv (.t 4)))⟩,
    ⟨(some 6), (some (5, true)), (.op (.mv (.t 0)))⟩,
    ⟨(some 7), (some (5, true)), (.op (.ar .leq (.t 6) (.c (.int .u8 126))))⟩,
    ⟨(some 8), none, (.op (.pk (.t 5) (.t 7) (.c (.bool false))))⟩,
    ⟨(some 2), none, (.op (.mv (.t 8)))⟩])
  .ret))
def ka_morph_Word_1 : AFn := ⟨kc_morph_Word_1, 9, [.t 2], .keep, [], none⟩

def l_ktruchmanref02_of_0 : AC :=
  (.seq (.seq (.ops [⟨(some 18), none, (.op (.mv (.t 7)))⟩,
    ⟨(some 19), none, (.op (.mv (.t 1)))⟩,
    ⟨(some 20), none, (.op (.len .str (.t 19)))⟩,
    ⟨(some 21), none, (.op (.ar .lss (.t 18) (.t 20)))⟩])
  (.cond (.t 21)
    .skip
    (.exit 2)))
  (.seq (.block 3 (.dops false [] [] [(⟨(some 24), none, (.op (.mv (.t 6)))⟩, .pure),
    (⟨(some 25), none, (.op (.mv (.t 24)))⟩, .pure),
    (⟨(some 26), (some (25, false)), (.op (.mv (.t 0)))⟩, .pure),
    (⟨(some 27), (some (25, false)), (.op (.mv (.t 5)))⟩, .pure),
    (⟨(some 28), (some (25, false)), (.op (.ixs (.t 26) (.t 27)))⟩, .pure),
    (⟨(some 29), (some (25, false)), (.op (.mv (.t 1)))⟩, .pure),
    (⟨(some 30), (some (25, false)), (.op (.mv (.t 7)))⟩, .pure),
    (⟨(some 31), (some (25, false)), (.op (.ixs (.t 29) (.t 30)))⟩, .pure),
    (⟨(some 32), (some (25, false)), (.op (.ar .eql (.t 28) (.t 31)))⟩, .pure),
    (⟨(some 33), none, (.op (.pk (.t 25) (.c (.bool true)) (.t 32)))⟩, .pure),
    (⟨(some 6), none, (.op (.mv (.t 33)))⟩, .pure)]))
  (.ops [⟨(some 22), none, (.op (.mv (.t 7)))⟩,
    ⟨(some 23), none, (.op (.ar .add (.t 22) (.c (.int .i64 1))))⟩,
    ⟨(some 7), none, (.op (.mv (.t 23)))⟩])))

def l_ktruchmanref02_of_1 : AC :=
  (.seq (.seq (.ops [⟨(some 8), none, (.op (.mv (.t 5)))⟩,
    ⟨(some 9), none, (.op (.mv (.t 0)))⟩,
    ⟨(some 10), none, (.op (.len .str (.t 9)))⟩,
    ⟨(some 11), none, (.op (.ar .lss (.t 8) (.t 10)))⟩])
  (.cond (.t 11)
    .skip
    (.exit 0)))
  (.seq (.block 1 (.seq (.ops [⟨(some 14), none, (.op (.mv (.t 0)))⟩,
    ⟨(some 15), none, (.op (.mv (.t 5)))⟩,
    ⟨(some 16), none, (.op (.ixs (.t 14) (.t 15)))⟩,
    ⟨(some 17), none, (.call (.c (.fn (.func f_truchmanref02_Letter) [] [])) [(.t 16)])⟩,
    ⟨(some 6), none, (.op (.mv (.t 17)))⟩])
  (.seq (.seq (.ops [⟨(some 7), none, (.op (.mv (.c (.int .i64 0))))⟩])
  (.block 2 (.loop ⟨none, [], false⟩ l_ktruchmanref02_of_0)))
  (.seq (.ops [⟨(some 34), none, (.op (.mv (.t 6)))⟩,
    ⟨(some 35), none, (.op (.un .not (.t 34)))⟩])
  (.cond (.t 35)
    (.seq (.ops [⟨(some 4), none, (.op (.mv (.c (.bool false))))⟩])
    .ret)
    .skip)))))
  (.ops [⟨(some 12), none, (.op (.mv (.t 5)))⟩,
    ⟨(some 13), none, (.op (.ar .add (.t 12) (.c (.int .i64 1))))⟩,
    ⟨(some 5), none, (.op (.mv (.t 13)))⟩])))

def kc_truchmanref02_of : AC :=
  (.seq (.ops [⟨(some 4), none, (.op (.mv (.c (.bool false))))⟩])
  (.seq (.seq (.ops [⟨(some 5), none, (.op (.mv (.c (.int .i64 0))))⟩])
  (.block 0 (.loop ⟨none, [], false⟩ l_ktruchmanref02_of_1)))
  (.seq (.ops [⟨(some 4), none, (.op (.mv (.c (.bool true))))⟩])
  .ret)))
def ka_truchmanref02_of : AFn := ⟨kc_truchmanref02_of, 36, [.t 4], .keep, [], none⟩

def kc_strings_Split : AC :=
  (.seq (.ops [⟨(some 4), none, (.op (.mv (.c (.slice .nil 1 []))))⟩])
  (.seq (.ops [⟨(some 5), none, (.op (.mv (.t 0)))⟩,
    ⟨(some 6), none, (.op (.mv (.t 1)))⟩,
    ⟨(some 7), none, (.call (.c (.fn (.func f_strings_genSplit) [] [])) [(.t 5), (.t 6), (.c (.int .i64 0)), (.c (.int .i64 (-1)))])⟩,
    ⟨(some 4), none, (.op (.mv (.t 7)))⟩])
  .ret))
def ka_strings_Split : AFn := ⟨kc_strings_Split, 8, [.t 4], .keep, [], none⟩

def l_kmorph_reader_read_0 : AC :=
  (.seq (.ops [⟨(some 26), none, (.op (.ar .lss (.t 25) (.t 24)))⟩])
  (.seq (.cond (.t 26)
    .skip
    (.exit 0))
  (.seq (.block 1 (.seq (.ops [⟨(some 27), none, (.op (.ias 1 (.t 23) (.t 25)))⟩,
    ⟨(some 28), none, (.op (.ld none (.t 27)))⟩,
    ⟨(some 9), none, (.op (.mv (.t 28)))⟩])
  (.ops [⟨(some 29), none, (.op (.mv (.t 9)))⟩,
    ⟨(some 30), none, (.op (.ar .neq (.t 29) (.c (.str []))))⟩,
    ⟨(some 31), none, (.call (.c (.fn (.func f_morph_demand) [] [])) [(.t 30)])⟩])))
  (.ops [⟨(some 32), none, (.op (.ar .add (.t 25) (.c (.int .i64 1))))⟩,
    ⟨(some 25), none, (.op (.mv (.t 32)))⟩]))))

def kb_morph_reader_read : AC :=
  (.seq (.ops [⟨(some 11), none, (.op (.mv (.t 1)))⟩,
    ⟨(some 12), none, (.call (.c (.fn (.func f_strings_Split) [] [])) [(.t 11), (.c (.str [32]))])⟩,
    ⟨(some 5), none, (.op (.mv (.t 12)))⟩])
  (.seq (.dops false [] [] [(⟨(some 14), none, (.call (.c (.fn (.func f_morph_kinds) [] [])) [])⟩, .wide),
    (⟨(some 15), none, (.op (.mv (.t 5)))⟩, .pure),
    (⟨(some 16), none, (.op (.ias 1 (.t 15) (.c (.int .i64 0))))⟩, .pure),
    (⟨(some 17), none, (.op (.ld none (.t 16)))⟩, .wide),
    (⟨(some 18), none, (.op (.lk .str (some (.agg [(.int .i64 0), (.int .i64 0), (.bool false), .nilfn])) true (.t 14) (.t 17)))⟩, .wide),
    (⟨(some 13), none, (.op (.mv (.t 18)))⟩, .pure),
    (⟨(some 19), none, (.op (.ex (.t 13) 0))⟩, .pure),
    (⟨(some 20), none, (.op (.ex (.t 13) 1))⟩, .pure),
    (⟨(some 6), none, (.op (.nw [(.int .i64 0), (.int .i64 0), (.bool false), .nilfn] t_morph_kind))⟩, .keep),
    (⟨none, none, (.op (.st 4 (.t 6) (.t 19)))⟩, .eff),
    (⟨(some 7), none, (.op (.mv (.t 20)))⟩, .pure)])
  (.seq (.ops [⟨(some 21), none, (.op (.mv (.t 7)))⟩,
    ⟨(some 22), none, (.call (.c (.fn (.func f_morph_demand) [] [])) [(.t 21)])⟩])
  (.seq (.seq (.ops [⟨(some 23), none, (.op (.mv (.t 5)))⟩,
    ⟨(some 24), none, (.op (.len .sl (.t 23)))⟩,
    ⟨(some 25), none, (.op (.mv (.c (.int .i64 0))))⟩])
  (.block 0 (.loop ⟨none, [], false⟩ l_kmorph_reader_read_0)))
  (.seq (.ops [⟨(some 33), none, (.op (.mv (.t 5)))⟩,
    ⟨(some 34), none, (.op (.sll 1 (.t 33) (some (.c (.int .i64 1))) none none))⟩,
    ⟨(some 5), none, (.op (.mv (.t 34)))⟩])
  (.seq (.ops [⟨(some 35), none, (.op (.mv (.t 5)))⟩,
    ⟨(some 36), none, (.op (.len .sl (.t 35)))⟩,
    ⟨(some 37), none, (.op (.fa 1 (.t 6)))⟩,
    ⟨(some 38), none, (.op (.ld none (.t 37)))⟩,
    ⟨(some 39), none, (.op (.ar .geq (.t 36) (.t 38)))⟩,
    ⟨(some 40), none, (.op (.mv (.t 39)))⟩,
    ⟨(some 41), (some (40, true)), (.op (.fa 2 (.t 6)))⟩,
    ⟨(some 42), (some (40, true)), (.op (.ld none (.t 41)))⟩,
    ⟨(some 43), (some (40, true)), (.op (.mv (.t 42)))⟩,
    ⟨(some 44), (some (43, false)), (.op (.mv (.t 5)))⟩,
    ⟨(some 45), (some (43, false)), (.op (.len .sl (.t 44)))⟩,
    ⟨(some 46), (some (43, false)), (.op (.fa 1 (.t 6)))⟩,
    ⟨(some 47), (some (43, false)), (.op (.ld none (.t 46)))⟩,
    ⟨(some 48), (some (43, false)), (.op (.ar .eql (.t 45) (.t 47)))⟩,
    ⟨(some 49), (some (40, true)), (.op (.pk (.t 43) (.c (.bool true)) (.t 48)))⟩,
    ⟨(some 50), none, (.op (.pk (.t 40) (.t 49) (.c (.bool false))))⟩,
    ⟨(some 51), none, (.call (.c (.fn (.func f_morph_demand) [] [])) [(.t 50)])⟩])
  (.seq (.dops false [] [] [(⟨(some 52), none, (.op (.mv (.t 0)))⟩, .pure),
    (⟨(some 53), none, (.op (.nc (.t 52)))⟩, .pure),
    (⟨(some 54), none, (.op (.fa 6 (.t 53)))⟩, .pure),
    (⟨(some 55), none, (.op (.ld none (.t 54)))⟩, .wide),
    (⟨(some 56), none, (.op (.ar .eql (.t 55) (.c (.str []))))⟩, .pure),
    (⟨(some 57), none, (.op (.fa 0 (.t 6)))⟩, .pure),
    (⟨(some 58), none, (.op (.ld none (.t 57)))⟩, .wide),
    (⟨(some 59), none, (.op (.ar .eql (.t 58) (.c (.int .i64 0))))⟩, .pure),
    (⟨(some 60), none, (.op (.eq false .bool (.t 56) (.t 59)))⟩, .pure),
    (⟨(some 61), none, (.op (.mv (.t 60)))⟩, .pure),
    (⟨(some 62), (some (61, true)), (.op (.fa 0 (.t 6)))⟩, .pure),
    (⟨(some 63), (some (61, true)), (.op (.ld none (.t 62)))⟩, .wide),
    (⟨(some 64), (some (61, true)), (.op (.mv (.t 0)))⟩, .pure),
    (⟨(some 65), (some (61, true)), (.op (.nc (.t 64)))⟩, .pure),
    (⟨(some 66), (some (61, true)), (.op (.fa 7 (.t 65)))⟩, .pure),
    (⟨(some 67), (some (61, true)), (.op (.ld none (.t 66)))⟩, .wide),
    (⟨(some 68), (some (61, true)), (.op (.ar .geq (.t 63) (.t 67)))⟩, .pure),
    (⟨(some 69), none, (.op (.pk (.t 61) (.t 68) (.c (.bool false))))⟩, .pure),
    (⟨(some 70), none, (.call (.c (.fn (.func f_morph_demand) [] [])) [(.t 69)])⟩, .eff)])
  (.seq (.ops [⟨(some 71), none, (.op (.fa 3 (.t 6)))⟩,
    ⟨(some 72), none, (.op (.ld none (.t 71)))⟩,
    ⟨(some 73), none, (.op (.mv (.t 0)))⟩,
    ⟨(some 74), none, (.op (.mv (.t 5)))⟩,
    ⟨(some 75), none, (.call (.t 72) [(.t 73), (.t 74)])⟩])
  (.seq (.dops true [] [] [(⟨(some 76), none, (.op (.mv (.t 0)))⟩, .pure),
    (⟨(some 77), none, (.op (.mv (.t 0)))⟩, .pure),
    (⟨(some 78), none, (.op (.mv (.t 1)))⟩, .pure),
    (⟨(some 79), none, (.call (.c (.fn (.func f_strings_SplitN) [] [])) [(.t 78), (.c (.str [32])), (.c (.int .i64 2))])⟩, .wide),
    (⟨(some 80), none, (.op (.ias 1 (.t 79) (.c (.int .i64 0))))⟩, .pure),
    (⟨(some 81), none, (.op (.ld none (.t 80)))⟩, .wide),
    (⟨(some 82), none, (.op (.fa 0 (.t 6)))⟩, .pure),
    (⟨(some 83), none, (.op (.ld none (.t 82)))⟩, .wide),
    (⟨(some 84), none, (.op (.nc (.t 76)))⟩, .pure),
    (⟨(some 85), none, (.op (.fa 6 (.t 84)))⟩, .pure),
    (⟨none, none, (.op (.st 1 (.t 85) (.t 81)))⟩, .keep),
    (⟨(some 86), none, (.op (.nc (.t 77)))⟩, .pure),
    (⟨(some 87), none, (.op (.fa 7 (.t 86)))⟩, .pure),
    (⟨none, none, (.op (.st 1 (.t 87) (.t 83)))⟩, .keep)])
  (.seq (.ops [⟨none, none, (.op (.st 1 (.t 4) (.c (.bool true))))⟩])
  .ret))))))))))
def kc_morph_reader_read : AC :=
  (.ops [⟨(some 4), none, (.op (.nw [(.bool false)] t_bool))⟩])
def ka_morph_reader_read : AFn := ⟨kc_morph_reader_read, 88, [.cell 4 none], .keep, [], (some ([⟨(some 10), none, (.op (.mf (.func f_morph_reader_read_1) [] [(.t 4)]))⟩], (.t 10), kb_morph_reader_read))⟩

def kc_morph_Check : AC :=
  (.seq (.ops [⟨(some 1), none, (.op (.bx t_api_Lexicon (.t 0)))⟩,
    ⟨(some 2), none, (.op (.mv (.c (.int .u8 0))))⟩])
  (.seq (.ops [⟨(some 4), none, (.op (.ld (some 6) (.t 1)))⟩,
    ⟨(some 5), none, (.op (.bd [(.str []), (.slice .nil 2 []), (.slice .nil 2 []), (.slice .nil 4 []), (.slice .nil 4 []), (.slice .nil 3 [])] [(0, 6)] [(0, (.t 4))]))⟩,
    ⟨(some 3), none, (.op (.nw [(.str []), (.slice .nil 2 []), (.slice .nil 2 []), (.slice .nil 4 []), (.slice .nil 4 []), (.slice .nil 3 [])] t_morph_checker))⟩,
    ⟨none, none, (.op (.st 6 (.t 3) (.t 5)))⟩])
  (.seq (.ops [⟨(some 6), none, (.op (.ld (some 6) (.t 3)))⟩,
    ⟨(some 7), none, (.op (.mf (.func f_morph_checker_vowels) [(.t 6)] []))⟩,
    ⟨(some 8), none, (.op (.mf (.func f_morph_Check_1) [] [(.t 1), (.t 3)]))⟩,
    ⟨(some 9), none, (.op (.mf (.func f_morph_Check_2) [] [(.t 1), (.t 3)]))⟩,
    ⟨(some 10), none, (.op (.mf (.func f_morph_Check_3) [] [(.t 1), (.t 3)]))⟩,
    ⟨(some 11), none, (.op (.mf (.func f_morph_Check_4) [] [(.t 1), (.t 3)]))⟩,
    ⟨(some 12), none, (.op (.mf (.func f_morph_Check_5) [] [(.t 1), (.t 3)]))⟩,
    ⟨(some 13), none, (.op (.bs 1 [.nilfn] 6 [(0, (.t 7)), (1, (.t 8)), (2, (.t 9)), (3, (.t 10)), (4, (.t 11)), (5, (.t 12))]))⟩,
    ⟨(some 14), none, (.call (.c (.fn (.func f_morph_first) [] [])) [(.t 13)])⟩,
    ⟨(some 2), none, (.op (.mv (.t 14)))⟩])
  .ret)))
def ka_morph_Check : AFn := ⟨kc_morph_Check, 15, [.t 2], .keep, [], none⟩

def kc_morph_asked : AC :=
  (.seq (.ops [⟨(some 3), none, (.op (.bx t_api_Lexicon (.t 0)))⟩,
    ⟨(some 6), none, (.op (.nw [(.str []), (.slice .nil 2 []), (.slice .nil 2 []), (.slice .nil 4 []), (.slice .nil 4 []), (.slice .nil 3 [])] t_morph_language))⟩,
    ⟨(some 7), none, (.op (.nw [(.int .i64 0), (.str []), (.str []), (.slice .nil 2 [])] t_api_Slot))⟩,
    ⟨(some 8), none, (.op (.mv (.c (.int .u8 0))))⟩])
  (.seq (.seq (.ops [⟨(some 13), none, (.op (.ld (some 6) (.t 3)))⟩,
    ⟨(some 14), none, (.call (.c (.fn (.func f_morph_Check) [] [])) [(.t 13)])⟩,
    ⟨(some 9), none, (.op (.mv (.t 14)))⟩])
  (.seq (.ops [⟨(some 15), none, (.op (.mv (.t 9)))⟩,
    ⟨(some 16), none, (.op (.ar .neq (.t 15) (.c (.int .u8 0))))⟩])
  (.cond (.t 16)
    (.seq (.ops [⟨(some 17), none, (.op (.bd [(.str []), (.slice .nil 2 []), (.slice .nil 2 []), (.slice .nil 4 []), (.slice .nil 4 []), (.slice .nil 3 [])] [(0, 6)] []))⟩,
      ⟨(some 18), none, (.op (.bd [(.int .i64 0), (.str []), (.str []), (.slice .nil 2 [])] [(0, 1), (1, 1), (2, 1), (3, 1)] []))⟩,
      ⟨(some 19), none, (.op (.mv (.t 9)))⟩,
      ⟨none, none, (.op (.st 6 (.t 6) (.t 17)))⟩,
      ⟨none, none, (.op (.st 4 (.t 7) (.t 18)))⟩,
      ⟨(some 8), none, (.op (.mv (.t 19)))⟩])
    .ret)
    .skip)))
  (.seq (.ops [⟨(some 20), none, (.op (.ld (some 6) (.t 3)))⟩,
    ⟨(some 21), none, (.op (.bd [(.str []), (.slice .nil 2 []), (.slice .nil 2 []), (.slice .nil 4 []), (.slice .nil 4 []), (.slice .nil 3 [])] [(0, 6)] [(0, (.t 20))]))⟩,
    ⟨(some 10), none, (.op (.nw [(.str []), (.slice .nil 2 []), (.slice .nil 2 []), (.slice .nil 4 []), (.slice .nil 4 []), (.slice .nil 3 [])] t_morph_language))⟩,
    ⟨none, none, (.op (.st 6 (.t 10) (.t 21)))⟩])
  (.seq (.ops [⟨(some 23), none, (.op (.ld (some 6) (.t 10)))⟩,
    ⟨(some 24), none, (.op (.mv (.t 1)))⟩,
    ⟨(some 25), none, (.op (.mv (.t 2)))⟩,
    ⟨(some 26), none, (.call (.c (.fn (.func f_morph_language_slot) [] [])) [(.t 23), (.t 24), (.t 25)])⟩,
    ⟨(some 22), none, (.op (.mv (.t 26)))⟩,
    ⟨(some 27), none, (.op (.ex (.t 22) 0))⟩,
    ⟨(some 28), none, (.op (.ex (.t 22) 1))⟩,
    ⟨(some 11), none, (.op (.nw [(.int .i64 0), (.str []), (.str []), (.slice .nil 2 [])] t_api_Slot))⟩,
    ⟨none, none, (.op (.st 4 (.t 11) (.t 27)))⟩,
    ⟨(some 12), none, (.op (.mv (.t 28)))⟩])
  (.seq (.seq (.ops [⟨(some 29), none, (.op (.mv (.t 12)))⟩,
    ⟨(some 30), none, (.op (.un .not (.t 29)))⟩])
  (.cond (.t 30)
    (.seq (.ops [⟨(some 31), none, (.op (.bd [(.str []), (.slice .nil 2 []), (.slice .nil 2 []), (.slice .nil 4 []), (.slice .nil 4 []), (.slice .nil 3 [])] [(0, 6)] []))⟩,
      ⟨(some 32), none, (.op (.bd [(.int .i64 0), (.str []), (.str []), (.slice .nil 2 [])] [(0, 1), (1, 1), (2, 1), (3, 1)] []))⟩,
      ⟨none, none, (.op (.st 6 (.t 6) (.t 31)))⟩,
      ⟨none, none, (.op (.st 4 (.t 7) (.t 32)))⟩,
      ⟨(some 8), none, (.op (.mv (.c (.int .u8 7))))⟩])
    .ret)
    .skip))
  (.seq (.dops true [] [] [(⟨(some 33), none, (.op (.ld (some 6) (.t 10)))⟩, .wide),
    (⟨(some 34), none, (.op (.ld (some 4) (.t 11)))⟩, .wide),
    (⟨none, none, (.op (.st 6 (.t 6) (.t 33)))⟩, .keep),
    (⟨none, none, (.op (.st 4 (.t 7) (.t 34)))⟩, .keep),
    (⟨(some 8), none, (.op (.mv (.c (.int .u8 0))))⟩, .pure)])
  .ret))))))
def ka_morph_asked : AFn := ⟨kc_morph_asked, 35, [.cell 6 (some 6), .cell 7 (some 4), .t 8], .keep, [], none⟩

def l_kmorph_language_form_0 : AC :=
  (.seq (.ops [⟨(some 23), none, (.op (.ar .lss (.t 22) (.t 21)))⟩])
  (.seq (.cond (.t 23)
    .skip
    (.exit 0))
  (.seq (.block 1 (.seq (.ops [⟨(some 24), none, (.op (.ias 2 (.t 20) (.t 22)))⟩,
    ⟨(some 25), none, (.op (.ld (some 2) (.t 24)))⟩,
    ⟨(some 8), none, (.op (.nw [(.int .i64 0), (.str [])] t_api_Irregular_1))⟩,
    ⟨none, none, (.op (.st 2 (.t 8) (.t 25)))⟩])
  (.seq (.ops [⟨(some 26), none, (.op (.fa 0 (.t 8)))⟩,
    ⟨(some 27), none, (.op (.ld none (.t 26)))⟩,
    ⟨(some 28), none, (.op (.mv (.t 2)))⟩,
    ⟨(some 29), none, (.op (.ar .eql (.t 27) (.t 28)))⟩])
  (.cond (.t 29)
    (.seq (.ops [⟨(some 30), none, (.op (.fa 1 (.t 8)))⟩,
      ⟨(some 31), none, (.op (.ld none (.t 30)))⟩,
      ⟨(some 6), none, (.op (.mv (.t 31)))⟩])
    .ret)
    .skip))))
  (.ops [⟨(some 32), none, (.op (.ar .add (.t 22) (.c (.int .i64 1))))⟩,
    ⟨(some 22), none, (.op (.mv (.t 32)))⟩]))))

def kc_morph_language_form : AC :=
  (.seq (.ops [⟨(some 3), none, (.op (.bx t_morph_language (.t 0)))⟩,
    ⟨(some 6), none, (.op (.mv (.c (.str []))))⟩])
  (.seq (.seq (.ops [⟨(some 14), none, (.op (.fa 0 (.t 3)))⟩,
    ⟨(some 15), none, (.op (.fa 3 (.t 14)))⟩,
    ⟨(some 16), none, (.op (.ld none (.t 15)))⟩,
    ⟨(some 17), none, (.op (.mv (.t 1)))⟩,
    ⟨(some 18), none, (.op (.ias 4 (.t 16) (.t 17)))⟩,
    ⟨(some 19), none, (.op (.fa 3 (.t 18)))⟩,
    ⟨(some 20), none, (.op (.ld none (.t 19)))⟩,
    ⟨(some 21), none, (.op (.len .sl (.t 20)))⟩,
    ⟨(some 22), none, (.op (.mv (.c (.int .i64 0))))⟩])
  (.block 0 (.loop ⟨none, [], false⟩ l_kmorph_language_form_0)))
  (.seq (.ops [⟨(some 34), none, (.op (.ld (some 6) (.t 3)))⟩,
    ⟨(some 35), none, (.op (.mv (.t 1)))⟩,
    ⟨(some 36), none, (.op (.mv (.t 2)))⟩,
    ⟨(some 37), none, (.call (.c (.fn (.func f_morph_language_slot) [] [])) [(.t 34), (.t 35), (.t 36)])⟩,
    ⟨(some 33), none, (.op (.mv (.t 37)))⟩,
    ⟨(some 38), none, (.op (.ex (.t 33) 0))⟩,
    ⟨(some 39), none, (.op (.ex (.t 33) 1))⟩,
    ⟨(some 9), none, (.op (.nw [(.int .i64 0), (.str []), (.str []), (.slice .nil 2 [])] t_api_Slot))⟩,
    ⟨none, none, (.op (.st 4 (.t 9) (.t 38)))⟩,
    ⟨(some 10), none, (.op (.mv (.t 39)))⟩])
  (.seq (.ops [⟨(some 41), none, (.op (.ld (some 6) (.t 3)))⟩,
    ⟨(some 42), none, (.op (.mv (.t 1)))⟩,
    ⟨(some 43), none, (.op (.ld (some 4) (.t 9)))⟩,
    ⟨(some 44), none, (.call (.c (.fn (.func f_morph_language_steps) [] [])) [(.t 41), (.t 42), (.t 43)])⟩,
    ⟨(some 40), none, (.op (.mv (.t 44)))⟩,
    ⟨(some 45), none, (.op (.ex (.t 40) 0))⟩,
    ⟨(some 46), none, (.op (.ex (.t 40) 1))⟩,
    ⟨(some 11), none, (.op (.mv (.t 45)))⟩,
    ⟨(some 12), none, (.op (.mv (.t 46)))⟩])
  (.seq (.seq (.ops [⟨(some 47), none, (.op (.mv (.t 12)))⟩,
    ⟨(some 48), none, (.op (.un .not (.t 47)))⟩])
  (.cond (.t 48)
    (.seq (.ops [⟨(some 6), none, (.op (.mv (.c (.str []))))⟩])
    .ret)
    .skip))
  (.seq (.ops [⟨(some 49), none, (.op (.mv (.t 11)))⟩,
    ⟨(some 50), none, (.op (.mv (.t 11)))⟩,
    ⟨(some 51), none, (.op (.len .sl (.t 50)))⟩,
    ⟨(some 52), none, (.op (.ar .sub (.t 51) (.c (.int .i64 1))))⟩,
    ⟨(some 53), none, (.op (.ias 1 (.t 49) (.t 52)))⟩,
    ⟨(some 54), none, (.op (.ld none (.t 53)))⟩,
    ⟨(some 55), none, (.call (.c (.fn (.func f_strings_ReplaceAll) [] [])) [(.t 54), (.c (.str [43])), (.c (.str []))])⟩,
    ⟨(some 13), none, (.op (.mv (.t 55)))⟩])
  (.seq (.seq (.ops [⟨(some 56), none, (.op (.mv (.t 13)))⟩,
    ⟨(some 57), none, (.op (.len .str (.t 56)))⟩,
    ⟨(some 58), none, (.op (.ar .gtr (.t 57) (.c (.int .i64 24))))⟩])
  (.cond (.t 58)
    (.seq (.ops [⟨(some 6), none, (.op (.mv (.c (.str []))))⟩])
    .ret)
    .skip))
  (.seq (.ops [⟨(some 59), none, (.op (.mv (.t 13)))⟩,
    ⟨(some 6), none, (.op (.mv (.t 59)))⟩])
  .ret))))))))
def ka_morph_language_form : AFn := ⟨kc_morph_language_form, 60, [.t 6], .keep, [], none⟩

def l_kstrings_genSplit_0 : AC :=
  (.seq (.seq (.ops [⟨(some 34), none, (.op (.mv (.t 10)))⟩,
    ⟨(some 35), none, (.op (.mv (.t 3)))⟩,
    ⟨(some 36), none, (.op (.ar .lss (.t 34) (.t 35)))⟩])
  (.cond (.t 36)
    .skip
    (.exit 0)))
  (.block 1 (.seq (.ops [⟨(some 37), none, (.op (.mv (.t 0)))⟩,
    ⟨(some 38), none, (.op (.mv (.t 1)))⟩,
    ⟨(some 39), none, (.call (.c (.fn (.func f_strings_Index) [] [])) [(.t 37), (.t 38)])⟩,
    ⟨(some 11), none, (.op (.mv (.t 39)))⟩])
  (.seq (.seq (.ops [⟨(some 40), none, (.op (.mv (.t 11)))⟩,
    ⟨(some 41), none, (.op (.ar .lss (.t 40) (.c (.int .i64 0))))⟩])
  (.cond (.t 41)
    (.exit 0)
    .skip))
  (.seq (.ops [⟨(some 42), none, (.op (.mv (.t 9)))⟩,
    ⟨(some 43), none, (.op (.mv (.t 10)))⟩,
    ⟨(some 44), none, (.op (.mv (.t 0)))⟩,
    ⟨(some 45), none, (.op (.mv (.t 11)))⟩,
    ⟨(some 46), none, (.op (.mv (.t 2)))⟩,
    ⟨(some 47), none, (.op (.ar .add (.t 45) (.t 46)))⟩,
    ⟨(some 48), none, (.op (.sls (.t 44) none (some (.t 47))))⟩,
    ⟨(some 49), none, (.op (.ias 1 (.t 42) (.t 43)))⟩,
    ⟨none, none, (.op (.st 1 (.t 49) (.t 48)))⟩])
  (.seq (.ops [⟨(some 50), none, (.op (.mv (.t 0)))⟩,
    ⟨(some 51), none, (.op (.mv (.t 11)))⟩,
    ⟨(some 52), none, (.op (.mv (.t 1)))⟩,
    ⟨(some 53), none, (.op (.len .str (.t 52)))⟩,
    ⟨(some 54), none, (.op (.ar .add (.t 51) (.t 53)))⟩,
    ⟨(some 55), none, (.op (.sls (.t 50) (some (.t 54)) none))⟩,
    ⟨(some 0), none, (.op (.mv (.t 55)))⟩])
  (.ops [⟨(some 56), none, (.op (.mv (.t 10)))⟩,
    ⟨(some 57), none, (.op (.ar .add (.t 56) (.c (.int .i64 1))))⟩,
    ⟨(some 10), none, (.op (.mv (.t 57)))⟩])))))))

def kc_strings_genSplit : AC :=
  (.seq (.ops [⟨(some 8), none, (.op (.mv (.c (.slice .nil 1 []))))⟩])
  (.seq (.seq (.ops [⟨(some 12), none, (.op (.mv (.t 3)))⟩,
    ⟨(some 13), none, (.op (.ar .eql (.t 12) (.c (.int .i64 0))))⟩])
  (.cond (.t 13)
    (.seq (.ops [⟨(some 8), none, (.op (.mv (.c (.slice .nil 1 []))))⟩])
    .ret)
    .skip))
  (.seq (.seq (.ops [⟨(some 14), none, (.op (.mv (.t 1)))⟩,
    ⟨(some 15), none, (.op (.ar .eql (.t 14) (.c (.str []))))⟩])
  (.cond (.t 15)
    (.seq (.ops [⟨(some 16), none, (.op (.mv (.t 0)))⟩,
      ⟨(some 17), none, (.op (.mv (.t 3)))⟩,
      ⟨(some 18), none, (.call (.c (.fn (.func f_strings_explode) [] [])) [(.t 16), (.t 17)])⟩,
      ⟨(some 8), none, (.op (.mv (.t 18)))⟩])
    .ret)
    .skip))
  (.seq (.seq (.ops [⟨(some 19), none, (.op (.mv (.t 3)))⟩,
    ⟨(some 20), none, (.op (.ar .lss (.t 19) (.c (.int .i64 0))))⟩])
  (.cond (.t 20)
    (.ops [⟨(some 21), none, (.op (.mv (.t 0)))⟩,
      ⟨(some 22), none, (.op (.mv (.t 1)))⟩,
      ⟨(some 23), none, (.call (.c (.fn (.func f_strings_Count) [] [])) [(.t 21), (.t 22)])⟩,
      ⟨(some 24), none, (.op (.ar .add (.t 23) (.c (.int .i64 1))))⟩,
      ⟨(some 3), none, (.op (.mv (.t 24)))⟩])
    .skip))
  (.seq (.ops [⟨(some 25), none, (.op (.mv (.t 3)))⟩,
    ⟨(some 26), none, (.op (.mv (.t 0)))⟩,
    ⟨(some 27), none, (.op (.len .str (.t 26)))⟩,
    ⟨(some 28), none, (.op (.ar .add (.t 27) (.c (.int .i64 1))))⟩,
    ⟨(some 29), none, (.op (.mn (.t 25) (.t 28)))⟩,
    ⟨(some 3), none, (.op (.mv (.t 29)))⟩])
  (.seq (.ops [⟨(some 30), none, (.op (.mv (.t 3)))⟩,
    ⟨(some 31), none, (.op (.ms t_string 16 [(.str [])] (.t 30) (.t 30)))⟩,
    ⟨(some 9), none, (.op (.mv (.t 31)))⟩])
  (.seq (.ops [⟨(some 32), none, (.op (.mv (.t 3)))⟩,
    ⟨(some 33), none, (.op (.ar .sub (.t 32) (.c (.int .i64 1))))⟩,
    ⟨(some 3), none, (.op (.mv (.t 33)))⟩])
  (.seq (.ops [⟨(some 10), none, (.op (.mv (.c (.int .i64 0))))⟩])
  (.seq (.block 0 (.loop ⟨none, [], false⟩ l_kstrings_genSplit_0))
  (.seq (.ops [⟨(some 58), none, (.op (.mv (.t 9)))⟩,
    ⟨(some 59), none, (.op (.mv (.t 10)))⟩,
    ⟨(some 60), none, (.op (.mv (.t 0)))⟩,
    ⟨(some 61), none, (.op (.ias 1 (.t 58) (.t 59)))⟩,
    ⟨none, none, (.op (.st 1 (.t 61) (.t 60)))⟩])
  (.seq (.ops [⟨(some 62), none, (.op (.mv (.t 9)))⟩,
    ⟨(some 63), none, (.op (.mv (.t 10)))⟩,
    ⟨(some 64), none, (.op (.ar .add (.t 63) (.c (.int .i64 1))))⟩,
    ⟨(some 65), none, (.op (.sll 1 (.t 62) none (some (.t 64)) none))⟩,
    ⟨(some 8), none, (.op (.mv (.t 65)))⟩])
  .ret)))))))))))
def ka_strings_genSplit : AFn := ⟨kc_strings_genSplit, 66, [.t 8], .keep, [], none⟩

-- FAIL fn26 morph_reader_read_1
def kdc_morph_reader_read_1 : AC :=
  (.block 0 (.seq (.ops [⟨(some 6), none, (.op (.eq false (.ifc true) (.t 4) (.c .nilif)))⟩])
  (.cond (.t 6)
    (.ops [⟨(some 1), none, (.op (.mv (.t 4)))⟩])
    (.seq (.ops [⟨(some 7), none, (.op (.ta t_morph_wrong (some (.agg [])) true (.t 4)))⟩,
      ⟨(some 8), none, (.op (.ex (.t 7) 1))⟩,
      ⟨(some 9), none, (.op (.ex (.t 7) 0))⟩])
    (.cond (.t 8)
      (.seq (.ops [⟨(some 2), none, (.op (.nw [] t_morph_wrong))⟩,
        ⟨none, none, (.op (.st 0 (.t 2) (.t 9)))⟩])
      (.ops [⟨none, none, (.op (.st 1 (.t 0) (.c (.bool false))))⟩]))
      (.seq (.ops [⟨(some 3), none, (.op (.mv (.t 4)))⟩])
      (.ops [⟨(some 5), none, (.op (.mv (.t 3)))⟩,
        ⟨none, none, (.panic (.t 5))⟩])))))))
def kda_morph_reader_read_1 : AFn := ⟨kdc_morph_reader_read_1, 10, [], .keep, [], none⟩

def kc_morph_kinds : AC :=
  (.seq (.ops [⟨(some 0), none, (.op (.mv (.c .nilmap)))⟩])
  (.seq (.ops [⟨(some 1), none, (.op .mm)⟩,
    ⟨(some 2), none, (.op (.bd [(.int .i64 0), (.int .i64 0), (.bool false), .nilfn] [(0, 1), (1, 1), (2, 1), (3, 1)] [(0, (.c (.int .i64 0))), (1, (.c (.int .i64 1))), (2, (.c (.bool false))), (3, (.c (.fn (.func f_morph_kinds_1) [] [])))]))⟩,
    ⟨none, none, (.op (.mu .str (.t 1) (.c (.str [118, 111, 119, 101, 108, 115])) (.t 2)))⟩,
    ⟨(some 3), none, (.op (.bd [(.int .i64 0), (.int .i64 0), (.bool false), .nilfn] [(0, 1), (1, 1), (2, 1), (3, 1)] [(0, (.c (.int .i64 1))), (1, (.c (.int .i64 1))), (2, (.c (.bool true))), (3, (.c (.fn (.func f_morph_kinds_2) [] [])))]))⟩,
    ⟨none, none, (.op (.mu .str (.t 1) (.c (.str [116, 114, 97, 105, 116])) (.t 3)))⟩,
    ⟨(some 4), none, (.op (.bd [(.int .i64 0), (.int .i64 0), (.bool false), .nilfn] [(0, 1), (1, 1), (2, 1), (3, 1)] [(0, (.c (.int .i64 2))), (1, (.c (.int .i64 1))), (2, (.c (.bool false))), (3, (.c (.fn (.func f_morph_kinds_3) [] [])))]))⟩,
    ⟨none, none, (.op (.mu .str (.t 1) (.c (.str [99, 108, 97, 115, 115])) (.t 4)))⟩,
    ⟨(some 5), none, (.op (.bd [(.int .i64 0), (.int .i64 0), (.bool false), .nilfn] [(0, 1), (1, 1), (2, 1), (3, 1)] [(0, (.c (.int .i64 2))), (1, (.c (.int .i64 3))), (2, (.c (.bool true))), (3, (.c (.fn (.func f_morph_kinds_4) [] [])))]))⟩,
    ⟨none, none, (.op (.mu .str (.t 1) (.c (.str [115, 108, 111, 116])) (.t 5)))⟩,
    ⟨(some 6), none, (.op (.bd [(.int .i64 0), (.int .i64 0), (.bool false), .nilfn] [(0, 1), (1, 1), (2, 1), (3, 1)] [(0, (.c (.int .i64 3))), (1, (.c (.int .i64 2))), (2, (.c (.bool true))), (3, (.c (.fn (.func f_morph_kinds_5) [] [])))]))⟩,
    ⟨none, none, (.op (.mu .str (.t 1) (.c (.str [101, 110, 116, 114, 121])) (.t 6)))⟩,
    ⟨(some 7), none, (.op (.bd [(.int .i64 0), (.int .i64 0), (.bool false), .nilfn] [(0, 1), (1, 1), (2, 1), (3, 1)] [(0, (.c (.int .i64 3))), (1, (.c (.int .i64 2))), (2, (.c (.bool false))), (3, (.c (.fn (.func f_morph_kinds_6) [] [])))]))⟩,
    ⟨none, none, (.op (.mu .str (.t 1) (.c (.str [102, 111, 114, 109])) (.t 7)))⟩,
    ⟨(some 8), none, (.op (.bd [(.int .i64 0), (.int .i64 0), (.bool false), .nilfn] [(0, 1), (1, 1), (2, 1), (3, 1)] [(0, (.c (.int .i64 4))), (1, (.c (.int .i64 4))), (2, (.c (.bool false))), (3, (.c (.fn (.func f_morph_kinds_7) [] [])))]))⟩,
    ⟨none, none, (.op (.mu .str (.t 1) (.c (.str [115, 112, 101, 108, 108])) (.t 8)))⟩,
    ⟨(some 9), none, (.op (.bd [(.int .i64 0), (.int .i64 0), (.bool false), .nilfn] [(0, 1), (1, 1), (2, 1), (3, 1)] [(0, (.c (.int .i64 5))), (1, (.c (.int .i64 2))), (2, (.c (.bool true))), (3, (.c (.fn (.func f_morph_kinds_8) [] [])))]))⟩,
    ⟨none, none, (.op (.mu .str (.t 1) (.c (.str [108, 105, 110, 107])) (.t 9)))⟩,
    ⟨(some 10), none, (.op (.mv (.t 1)))⟩,
    ⟨(some 0), none, (.op (.mv (.t 10)))⟩])
  .ret))
def ka_morph_kinds : AFn := ⟨kc_morph_kinds, 11, [.t 0], .keep, [], none⟩

def kc_morph_demand : AC :=
  (.seq (.ops [⟨(some 2), none, (.op (.mv (.t 0)))⟩,
    ⟨(some 3), none, (.op (.un .not (.t 2)))⟩])
  (.cond (.t 3)
    (.ops [⟨(some 4), none, (.op (.bd [] [] []))⟩,
      ⟨(some 5), none, (.op (.mi t_morph_wrong (.t 4)))⟩,
      ⟨none, none, (.panic (.t 5))⟩])
    .skip))
def ka_morph_demand : AFn := ⟨kc_morph_demand, 6, [], .keep, [], none⟩

def kc_strings_SplitN : AC :=
  (.seq (.ops [⟨(some 6), none, (.op (.mv (.c (.slice .nil 1 []))))⟩])
  (.seq (.ops [⟨(some 7), none, (.op (.mv (.t 0)))⟩,
    ⟨(some 8), none, (.op (.mv (.t 1)))⟩,
    ⟨(some 9), none, (.op (.mv (.t 2)))⟩,
    ⟨(some 10), none, (.call (.c (.fn (.func f_strings_genSplit) [] [])) [(.t 7), (.t 8), (.c (.int .i64 0)), (.t 9)])⟩,
    ⟨(some 6), none, (.op (.mv (.t 10)))⟩])
  .ret))
def ka_strings_SplitN : AFn := ⟨kc_strings_SplitN, 11, [.t 6], .keep, [], none⟩

def l_kmorph_first_0 : AC :=
  (.seq (.ops [⟨(some 9), none, (.op (.ar .lss (.t 8) (.t 7)))⟩])
  (.seq (.cond (.t 9)
    .skip
    (.exit 0))
  (.seq (.block 1 (.seq (.ops [⟨(some 10), none, (.op (.ias 1 (.t 6) (.t 8)))⟩,
    ⟨(some 11), none, (.op (.ld none (.t 10)))⟩,
    ⟨(some 4), none, (.op (.mv (.t 11)))⟩])
  (.seq (.ops [⟨(some 12), none, (.op (.mv (.t 4)))⟩,
    ⟨(some 13), none, (.call (.t 12) [])⟩,
    ⟨(some 5), none, (.op (.mv (.t 13)))⟩])
  (.seq (.ops [⟨(some 14), none, (.op (.mv (.t 5)))⟩,
    ⟨(some 15), none, (.op (.ar .neq (.t 14) (.c (.int .u8 0))))⟩])
  (.cond (.t 15)
    (.seq (.ops [⟨(some 16), none, (.op (.mv (.t 5)))⟩,
      ⟨(some 2), none, (.op (.mv (.t 16)))⟩])
    .ret)
    .skip)))))
  (.ops [⟨(some 17), none, (.op (.ar .add (.t 8) (.c (.int .i64 1))))⟩,
    ⟨(some 8), none, (.op (.mv (.t 17)))⟩]))))

def kc_morph_first : AC :=
  (.seq (.ops [⟨(some 2), none, (.op (.mv (.c (.int .u8 0))))⟩])
  (.seq (.seq (.ops [⟨(some 6), none, (.op (.mv (.t 0)))⟩,
    ⟨(some 7), none, (.op (.len .sl (.t 6)))⟩,
    ⟨(some 8), none, (.op (.mv (.c (.int .i64 0))))⟩])
  (.block 0 (.loop ⟨none, [], false⟩ l_kmorph_first_0)))
  (.seq (.ops [⟨(some 2), none, (.op (.mv (.c (.int .u8 0))))⟩])
  .ret)))
def ka_morph_first : AFn := ⟨kc_morph_first, 18, [.t 2], .keep, [], none⟩

def l_kmorph_checker_vowels_0 : AC :=
  (.seq (.ops [⟨(some 11), none, (.op (.ar .lss (.t 10) (.t 9)))⟩])
  (.seq (.cond (.t 11)
    .skip
    (.exit 0))
  (.seq (.block 1 (.seq (.ops [⟨(some 12), none, (.op (.mv (.t 10)))⟩,
    ⟨(some 4), none, (.op (.mv (.t 12)))⟩])
  (.seq (.dops false [] [] [(⟨(some 13), none, (.op (.mv (.t 3)))⟩, .pure),
    (⟨(some 14), none, (.op (.mv (.t 4)))⟩, .pure),
    (⟨(some 15), none, (.op (.ixs (.t 13) (.t 14)))⟩, .pure),
    (⟨(some 16), none, (.call (.c (.fn (.func f_morph_letter) [] [])) [(.t 15)])⟩, .eff),
    (⟨(some 17), none, (.op (.un .not (.t 16)))⟩, .pure),
    (⟨(some 18), none, (.op (.mv (.t 17)))⟩, .pure),
    (⟨(some 19), (some (18, false)), (.op (.mv (.t 4)))⟩, .pure),
    (⟨(some 20), (some (18, false)), (.op (.ar .gtr (.t 19) (.c (.int .i64 0))))⟩, .pure),
    (⟨(some 21), (some (18, false)), (.op (.mv (.t 20)))⟩, .pure),
    (⟨(some 22), (some (21, true)), (.op (.mv (.t 3)))⟩, .pure),
    (⟨(some 23), (some (21, true)), (.op (.mv (.t 4)))⟩, .pure),
    (⟨(some 24), (some (21, true)), (.op (.ar .sub (.t 23) (.c (.int .i64 1))))⟩, .pure),
    (⟨(some 25), (some (21, true)), (.op (.ixs (.t 22) (.t 24)))⟩, .pure),
    (⟨(some 26), (some (21, true)), (.op (.mv (.t 3)))⟩, .pure),
    (⟨(some 27), (some (21, true)), (.op (.mv (.t 4)))⟩, .pure),
    (⟨(some 28), (some (21, true)), (.op (.ixs (.t 26) (.t 27)))⟩, .pure),
    (⟨(some 29), (some (21, true)), (.op (.ar .geq (.t 25) (.t 28)))⟩, .pure),
    (⟨(some 30), (some (18, false)), (.op (.pk (.t 21) (.t 29) (.c (.bool false))))⟩, .pure),
    (⟨(some 31), none, (.op (.pk (.t 18) (.c (.bool true)) (.t 30)))⟩, .pure)])
  (.cond (.t 31)
    (.seq (.ops [⟨(some 2), none, (.op (.mv (.c (.int .u8 1))))⟩])
    .ret)
    .skip))))
  (.ops [⟨(some 32), none, (.op (.ar .add (.t 10) (.c (.int .i64 1))))⟩,
    ⟨(some 10), none, (.op (.mv (.t 32)))⟩]))))

def kc_morph_checker_vowels : AC :=
  (.seq (.ops [⟨(some 1), none, (.op (.bx t_morph_checker (.t 0)))⟩,
    ⟨(some 2), none, (.op (.mv (.c (.int .u8 0))))⟩])
  (.seq (.ops [⟨(some 5), none, (.op (.fa 0 (.t 1)))⟩,
    ⟨(some 6), none, (.op (.fa 0 (.t 5)))⟩,
    ⟨(some 7), none, (.op (.ld none (.t 6)))⟩,
    ⟨(some 3), none, (.op (.mv (.t 7)))⟩])
  (.seq (.seq (.ops [⟨(some 8), none, (.op (.mv (.t 3)))⟩,
    ⟨(some 9), none, (.op (.len .str (.t 8)))⟩,
    ⟨(some 10), none, (.op (.mv (.c (.int .i64 0))))⟩])
  (.block 0 (.loop ⟨none, [], false⟩ l_kmorph_checker_vowels_0)))
  (.seq (.ops [⟨(some 2), none, (.op (.mv (.c (.int .u8 0))))⟩])
  .ret))))
def ka_morph_checker_vowels : AFn := ⟨kc_morph_checker_vowels, 33, [.t 2], .keep, [], none⟩

def kc_morph_Check_1 : AC :=
  (.seq (.ops [⟨(some 2), none, (.op (.mv (.c (.int .u8 0))))⟩])
  (.seq (.ops [⟨(some 3), none, (.op (.fa 1 (.t 0)))⟩,
    ⟨(some 4), none, (.op (.ld none (.t 3)))⟩,
    ⟨(some 5), none, (.op (.ld (some 6) (.t 1)))⟩,
    ⟨(some 6), none, (.op (.mf (.func f_morph_checker_trait) [(.t 5)] []))⟩,
    ⟨(some 7), none, (.call (.c (.fn (.func f_morph_each_api_Trait) [] [])) [(.t 4), (.c (.int .i64 8)), (.t 6)])⟩,
    ⟨(some 2), none, (.op (.mv (.t 7)))⟩])
  .ret))
def ka_morph_Check_1 : AFn := ⟨kc_morph_Check_1, 8, [.t 2], .keep, [], none⟩

def l_kmorph_each_api_Trait_0 : AC :=
  (.seq (.ops [⟨(some 17), none, (.op (.ar .lss (.t 16) (.t 15)))⟩])
  (.seq (.cond (.t 17)
    .skip
    (.exit 0))
  (.seq (.block 1 (.seq (.ops [⟨(some 18), none, (.op (.mv (.t 16)))⟩,
    ⟨(some 19), none, (.op (.ias 2 (.t 14) (.t 16)))⟩,
    ⟨(some 20), none, (.op (.ld (some 2) (.t 19)))⟩,
    ⟨(some 8), none, (.op (.nw [(.str []), (.slice .nil 1 [])] t_api_Trait_1))⟩,
    ⟨(some 7), none, (.op (.mv (.t 18)))⟩,
    ⟨none, none, (.op (.st 2 (.t 8) (.t 20)))⟩])
  (.seq (.ops [⟨(some 21), none, (.op (.mv (.t 2)))⟩,
    ⟨(some 22), none, (.op (.mv (.t 7)))⟩,
    ⟨(some 23), none, (.op (.ld (some 2) (.t 8)))⟩,
    ⟨(some 24), none, (.call (.t 21) [(.t 22), (.t 23)])⟩,
    ⟨(some 9), none, (.op (.mv (.t 24)))⟩])
  (.seq (.ops [⟨(some 25), none, (.op (.mv (.t 9)))⟩,
    ⟨(some 26), none, (.op (.ar .neq (.t 25) (.c (.int .u8 0))))⟩])
  (.cond (.t 26)
    (.seq (.ops [⟨(some 27), none, (.op (.mv (.t 9)))⟩,
      ⟨(some 6), none, (.op (.mv (.t 27)))⟩])
    .ret)
    .skip)))))
  (.ops [⟨(some 28), none, (.op (.ar .add (.t 16) (.c (.int .i64 1))))⟩,
    ⟨(some 16), none, (.op (.mv (.t 28)))⟩]))))

def kc_morph_each_api_Trait : AC :=
  (.seq (.ops [⟨(some 6), none, (.op (.mv (.c (.int .u8 0))))⟩])
  (.seq (.seq (.ops [⟨(some 10), none, (.op (.mv (.t 0)))⟩,
    ⟨(some 11), none, (.op (.len .sl (.t 10)))⟩,
    ⟨(some 12), none, (.op (.mv (.t 1)))⟩,
    ⟨(some 13), none, (.op (.ar .gtr (.t 11) (.t 12)))⟩])
  (.cond (.t 13)
    (.seq (.ops [⟨(some 6), none, (.op (.mv (.c (.int .u8 3))))⟩])
    .ret)
    .skip))
  (.seq (.seq (.ops [⟨(some 14), none, (.op (.mv (.t 0)))⟩,
    ⟨(some 15), none, (.op (.len .sl (.t 14)))⟩,
    ⟨(some 16), none, (.op (.mv (.c (.int .i64 0))))⟩])
  (.block 0 (.loop ⟨none, [], false⟩ l_kmorph_each_api_Trait_0)))
  (.seq (.ops [⟨(some 6), none, (.op (.mv (.c (.int .u8 0))))⟩])
  .ret))))
def ka_morph_each_api_Trait : AFn := ⟨kc_morph_each_api_Trait, 29, [.t 6], .keep, [], none⟩

def l_kmorph_checker_trait_0 : AC :=
  (.seq (.ops [⟨(some 36), none, (.op (.ar .lss (.t 35) (.t 34)))⟩])
  (.seq (.cond (.t 36)
    .skip
    (.exit 1))
  (.seq (.block 2 (.seq (.ops [⟨(some 37), none, (.op (.mv (.t 35)))⟩,
    ⟨(some 38), none, (.op (.ias 1 (.t 33) (.t 35)))⟩,
    ⟨(some 39), none, (.op (.ld none (.t 38)))⟩,
    ⟨(some 7), none, (.op (.mv (.t 37)))⟩,
    ⟨(some 8), none, (.op (.mv (.t 39)))⟩])
  (.seq (.seq (.ops [⟨(some 40), none, (.op (.mv (.t 8)))⟩,
    ⟨(some 41), none, (.call (.c (.fn (.func f_morph_Name) [] [])) [(.t 40)])⟩,
    ⟨(some 42), none, (.op (.un .not (.t 41)))⟩])
  (.cond (.t 42)
    (.seq (.ops [⟨(some 6), none, (.op (.mv (.c (.int .u8 5))))⟩])
    .ret)
    .skip))
  (.seq (.ops [⟨(some 43), none, (.op (.fa 1 (.t 5)))⟩,
    ⟨(some 44), none, (.op (.ld none (.t 43)))⟩,
    ⟨(some 45), none, (.op (.mv (.t 7)))⟩,
    ⟨(some 46), none, (.op (.sll 1 (.t 44) none (some (.t 45)) none))⟩,
    ⟨(some 47), none, (.op (.mv (.t 8)))⟩,
    ⟨(some 48), none, (.call (.c (.fn (.func f_slices_Contains_string_string) [] [])) [(.t 46), (.t 47)])⟩])
  (.cond (.t 48)
    (.seq (.ops [⟨(some 6), none, (.op (.mv (.c (.int .u8 6))))⟩])
    .ret)
    .skip)))))
  (.ops [⟨(some 49), none, (.op (.ar .add (.t 35) (.c (.int .i64 1))))⟩,
    ⟨(some 35), none, (.op (.mv (.t 49)))⟩]))))

def kc_morph_checker_trait : AC :=
  (.seq (.ops [⟨(some 3), none, (.op (.bx t_morph_checker (.t 0)))⟩,
    ⟨(some 5), none, (.op (.bx t_api_Trait_1 (.t 2)))⟩,
    ⟨(some 6), none, (.op (.mv (.c (.int .u8 0))))⟩])
  (.seq (.block 0 (.seq (.ops [⟨(some 10), none, (.op (.fa 0 (.t 5)))⟩,
    ⟨(some 11), none, (.op (.ld none (.t 10)))⟩,
    ⟨(some 12), none, (.call (.c (.fn (.func f_morph_Name) [] [])) [(.t 11)])⟩,
    ⟨(some 13), none, (.op (.un .not (.t 12)))⟩,
    ⟨(some 9), none, (.op (.mv (.t 13)))⟩])
  (.cond (.t 9)
    (.seq (.ops [⟨(some 6), none, (.op (.mv (.c (.int .u8 5))))⟩])
    .ret)
    (.seq (.ops [⟨(some 15), none, (.op (.fa 0 (.t 3)))⟩,
      ⟨(some 16), none, (.op (.fa 1 (.t 15)))⟩,
      ⟨(some 17), none, (.op (.ld none (.t 16)))⟩,
      ⟨(some 18), none, (.op (.mv (.t 1)))⟩,
      ⟨(some 19), none, (.op (.sll 2 (.t 17) none (some (.t 18)) none))⟩,
      ⟨(some 20), none, (.op (.mf (.func f_morph_checker_trait_1) [] [(.t 5)]))⟩,
      ⟨(some 21), none, (.call (.c (.fn (.func f_slices_ContainsFunc_api_Trait_api_Trait) [] [])) [(.t 19), (.t 20)])⟩,
      ⟨(some 14), none, (.op (.mv (.t 21)))⟩])
    (.cond (.t 14)
      (.seq (.ops [⟨(some 6), none, (.op (.mv (.c (.int .u8 6))))⟩])
      .ret)
      (.seq (.ops [⟨(some 23), none, (.op (.fa 1 (.t 5)))⟩,
        ⟨(some 24), none, (.op (.ld none (.t 23)))⟩,
        ⟨(some 25), none, (.op (.len .sl (.t 24)))⟩,
        ⟨(some 26), none, (.op (.ar .gtr (.t 25) (.c (.int .i64 8))))⟩,
        ⟨(some 22), none, (.op (.mv (.t 26)))⟩])
      (.cond (.t 22)
        (.seq (.ops [⟨(some 6), none, (.op (.mv (.c (.int .u8 3))))⟩])
        .ret)
        (.seq (.ops [⟨(some 28), none, (.op (.fa 1 (.t 5)))⟩,
          ⟨(some 29), none, (.op (.ld none (.t 28)))⟩,
          ⟨(some 30), none, (.op (.len .sl (.t 29)))⟩,
          ⟨(some 31), none, (.op (.ar .eql (.t 30) (.c (.int .i64 0))))⟩,
          ⟨(some 27), none, (.op (.mv (.t 31)))⟩])
        (.cond (.t 27)
          (.seq (.ops [⟨(some 6), none, (.op (.mv (.c (.int .u8 1))))⟩])
          .ret)
          .skip)))))))))
  (.seq (.seq (.ops [⟨(some 32), none, (.op (.fa 1 (.t 5)))⟩,
    ⟨(some 33), none, (.op (.ld none (.t 32)))⟩,
    ⟨(some 34), none, (.op (.len .sl (.t 33)))⟩,
    ⟨(some 35), none, (.op (.mv (.c (.int .i64 0))))⟩])
  (.block 1 (.loop ⟨none, [], false⟩ l_kmorph_checker_trait_0)))
  (.seq (.ops [⟨(some 6), none, (.op (.mv (.c (.int .u8 0))))⟩])
  .ret))))
def ka_morph_checker_trait : AFn := ⟨kc_morph_checker_trait, 50, [.t 6], .keep, [], none⟩

def kc_morph_Check_2 : AC :=
  (.seq (.ops [⟨(some 2), none, (.op (.mv (.c (.int .u8 0))))⟩])
  (.seq (.ops [⟨(some 3), none, (.op (.fa 2 (.t 0)))⟩,
    ⟨(some 4), none, (.op (.ld none (.t 3)))⟩,
    ⟨(some 5), none, (.op (.ld (some 6) (.t 1)))⟩,
    ⟨(some 6), none, (.op (.mf (.func f_morph_checker_class) [(.t 5)] []))⟩,
    ⟨(some 7), none, (.call (.c (.fn (.func f_morph_each_api_Class) [] [])) [(.t 4), (.c (.int .i64 16)), (.t 6)])⟩,
    ⟨(some 2), none, (.op (.mv (.t 7)))⟩])
  .ret))
def ka_morph_Check_2 : AFn := ⟨kc_morph_Check_2, 8, [.t 2], .keep, [], none⟩

def l_kmorph_each_api_Class_0 : AC :=
  (.seq (.ops [⟨(some 17), none, (.op (.ar .lss (.t 16) (.t 15)))⟩])
  (.seq (.cond (.t 17)
    .skip
    (.exit 0))
  (.seq (.block 1 (.seq (.ops [⟨(some 18), none, (.op (.mv (.t 16)))⟩,
    ⟨(some 19), none, (.op (.ias 2 (.t 14) (.t 16)))⟩,
    ⟨(some 20), none, (.op (.ld (some 2) (.t 19)))⟩,
    ⟨(some 8), none, (.op (.nw [(.str []), (.slice .nil 4 [])] t_api_Class_1))⟩,
    ⟨(some 7), none, (.op (.mv (.t 18)))⟩,
    ⟨none, none, (.op (.st 2 (.t 8) (.t 20)))⟩])
  (.seq (.ops [⟨(some 21), none, (.op (.mv (.t 2)))⟩,
    ⟨(some 22), none, (.op (.mv (.t 7)))⟩,
    ⟨(some 23), none, (.op (.ld (some 2) (.t 8)))⟩,
    ⟨(some 24), none, (.call (.t 21) [(.t 22), (.t 23)])⟩,
    ⟨(some 9), none, (.op (.mv (.t 24)))⟩])
  (.seq (.ops [⟨(some 25), none, (.op (.mv (.t 9)))⟩,
    ⟨(some 26), none, (.op (.ar .neq (.t 25) (.c (.int .u8 0))))⟩])
  (.cond (.t 26)
    (.seq (.ops [⟨(some 27), none, (.op (.mv (.t 9)))⟩,
      ⟨(some 6), none, (.op (.mv (.t 27)))⟩])
    .ret)
    .skip)))))
  (.ops [⟨(some 28), none, (.op (.ar .add (.t 16) (.c (.int .i64 1))))⟩,
    ⟨(some 16), none, (.op (.mv (.t 28)))⟩]))))

def kc_morph_each_api_Class : AC :=
  (.seq (.ops [⟨(some 6), none, (.op (.mv (.c (.int .u8 0))))⟩])
  (.seq (.seq (.ops [⟨(some 10), none, (.op (.mv (.t 0)))⟩,
    ⟨(some 11), none, (.op (.len .sl (.t 10)))⟩,
    ⟨(some 12), none, (.op (.mv (.t 1)))⟩,
    ⟨(some 13), none, (.op (.ar .gtr (.t 11) (.t 12)))⟩])
  (.cond (.t 13)
    (.seq (.ops [⟨(some 6), none, (.op (.mv (.c (.int .u8 3))))⟩])
    .ret)
    .skip))
  (.seq (.seq (.ops [⟨(some 14), none, (.op (.mv (.t 0)))⟩,
    ⟨(some 15), none, (.op (.len .sl (.t 14)))⟩,
    ⟨(some 16), none, (.op (.mv (.c (.int .i64 0))))⟩])
  (.block 0 (.loop ⟨none, [], false⟩ l_kmorph_each_api_Class_0)))
  (.seq (.ops [⟨(some 6), none, (.op (.mv (.c (.int .u8 0))))⟩])
  .ret))))
def ka_morph_each_api_Class : AFn := ⟨kc_morph_each_api_Class, 29, [.t 6], .keep, [], none⟩

def kc_morph_checker_class : AC :=
  (.seq (.ops [⟨(some 3), none, (.op (.bx t_morph_checker (.t 0)))⟩,
    ⟨(some 5), none, (.op (.bx t_api_Class_1 (.t 2)))⟩,
    ⟨(some 6), none, (.op (.mv (.c (.int .u8 0))))⟩])
  (.seq (.block 0 (.seq (.ops [⟨(some 8), none, (.op (.fa 0 (.t 5)))⟩,
    ⟨(some 9), none, (.op (.ld none (.t 8)))⟩,
    ⟨(some 10), none, (.call (.c (.fn (.func f_morph_Name) [] [])) [(.t 9)])⟩,
    ⟨(some 11), none, (.op (.un .not (.t 10)))⟩,
    ⟨(some 7), none, (.op (.mv (.t 11)))⟩])
  (.cond (.t 7)
    (.seq (.ops [⟨(some 6), none, (.op (.mv (.c (.int .u8 5))))⟩])
    .ret)
    (.seq (.ops [⟨(some 13), none, (.op (.fa 0 (.t 3)))⟩,
      ⟨(some 14), none, (.op (.fa 2 (.t 13)))⟩,
      ⟨(some 15), none, (.op (.ld none (.t 14)))⟩,
      ⟨(some 16), none, (.op (.mv (.t 1)))⟩,
      ⟨(some 17), none, (.op (.sll 2 (.t 15) none (some (.t 16)) none))⟩,
      ⟨(some 18), none, (.op (.mf (.func f_morph_checker_class_1) [] [(.t 5)]))⟩,
      ⟨(some 19), none, (.call (.c (.fn (.func f_slices_ContainsFunc_api_Class_api_Class) [] [])) [(.t 17), (.t 18)])⟩,
      ⟨(some 12), none, (.op (.mv (.t 19)))⟩])
    (.cond (.t 12)
      (.seq (.ops [⟨(some 6), none, (.op (.mv (.c (.int .u8 6))))⟩])
      .ret)
      (.seq (.ops [⟨(some 21), none, (.op (.fa 1 (.t 5)))⟩,
        ⟨(some 22), none, (.op (.ld none (.t 21)))⟩,
        ⟨(some 23), none, (.op (.len .sl (.t 22)))⟩,
        ⟨(some 24), none, (.op (.ar .gtr (.t 23) (.c (.int .i64 24))))⟩,
        ⟨(some 20), none, (.op (.mv (.t 24)))⟩])
      (.cond (.t 20)
        (.seq (.ops [⟨(some 6), none, (.op (.mv (.c (.int .u8 3))))⟩])
        .ret)
        (.seq (.ops [⟨(some 26), none, (.op (.fa 1 (.t 5)))⟩,
          ⟨(some 27), none, (.op (.ld none (.t 26)))⟩,
          ⟨(some 28), none, (.op (.len .sl (.t 27)))⟩,
          ⟨(some 29), none, (.op (.ar .eql (.t 28) (.c (.int .i64 0))))⟩,
          ⟨(some 25), none, (.op (.mv (.t 29)))⟩])
        (.cond (.t 25)
          (.seq (.ops [⟨(some 6), none, (.op (.mv (.c (.int .u8 1))))⟩])
          .ret)
          .skip)))))))))
  (.seq (.ops [⟨(some 30), none, (.op (.fa 1 (.t 5)))⟩,
    ⟨(some 31), none, (.op (.ld none (.t 30)))⟩,
    ⟨(some 32), none, (.op (.mf (.func f_morph_checker_class_2) [] [(.t 3)]))⟩,
    ⟨(some 33), none, (.call (.c (.fn (.func f_morph_each_api_Slot) [] [])) [(.t 31), (.c (.int .i64 24)), (.t 32)])⟩,
    ⟨(some 6), none, (.op (.mv (.t 33)))⟩])
  .ret)))
def ka_morph_checker_class : AFn := ⟨kc_morph_checker_class, 34, [.t 6], .keep, [], none⟩

def kc_morph_Check_3 : AC :=
  (.seq (.ops [⟨(some 2), none, (.op (.mv (.c (.int .u8 0))))⟩])
  (.seq (.ops [⟨(some 3), none, (.op (.fa 3 (.t 0)))⟩,
    ⟨(some 4), none, (.op (.ld none (.t 3)))⟩,
    ⟨(some 5), none, (.op (.ld (some 6) (.t 1)))⟩,
    ⟨(some 6), none, (.op (.mf (.func f_morph_checker_entry) [(.t 5)] []))⟩,
    ⟨(some 7), none, (.call (.c (.fn (.func f_morph_each_api_Entry) [] [])) [(.t 4), (.c (.int .i64 128)), (.t 6)])⟩,
    ⟨(some 2), none, (.op (.mv (.t 7)))⟩])
  .ret))
def ka_morph_Check_3 : AFn := ⟨kc_morph_Check_3, 8, [.t 2], .keep, [], none⟩

def l_kmorph_each_api_Entry_0 : AC :=
  (.seq (.ops [⟨(some 17), none, (.op (.ar .lss (.t 16) (.t 15)))⟩])
  (.seq (.cond (.t 17)
    .skip
    (.exit 0))
  (.seq (.block 1 (.seq (.ops [⟨(some 18), none, (.op (.mv (.t 16)))⟩,
    ⟨(some 19), none, (.op (.ias 4 (.t 14) (.t 16)))⟩,
    ⟨(some 20), none, (.op (.ld (some 4) (.t 19)))⟩,
    ⟨(some 8), none, (.op (.nw [(.str []), (.str []), (.slice .nil 2 []), (.slice .nil 2 [])] t_api_Entry_1))⟩,
    ⟨(some 7), none, (.op (.mv (.t 18)))⟩,
    ⟨none, none, (.op (.st 4 (.t 8) (.t 20)))⟩])
  (.seq (.ops [⟨(some 21), none, (.op (.mv (.t 2)))⟩,
    ⟨(some 22), none, (.op (.mv (.t 7)))⟩,
    ⟨(some 23), none, (.op (.ld (some 4) (.t 8)))⟩,
    ⟨(some 24), none, (.call (.t 21) [(.t 22), (.t 23)])⟩,
    ⟨(some 9), none, (.op (.mv (.t 24)))⟩])
  (.seq (.ops [⟨(some 25), none, (.op (.mv (.t 9)))⟩,
    ⟨(some 26), none, (.op (.ar .neq (.t 25) (.c (.int .u8 0))))⟩])
  (.cond (.t 26)
    (.seq (.ops [⟨(some 27), none, (.op (.mv (.t 9)))⟩,
      ⟨(some 6), none, (.op (.mv (.t 27)))⟩])
    .ret)
    .skip)))))
  (.ops [⟨(some 28), none, (.op (.ar .add (.t 16) (.c (.int .i64 1))))⟩,
    ⟨(some 16), none, (.op (.mv (.t 28)))⟩]))))

def kc_morph_each_api_Entry : AC :=
  (.seq (.ops [⟨(some 6), none, (.op (.mv (.c (.int .u8 0))))⟩])
  (.seq (.seq (.ops [⟨(some 10), none, (.op (.mv (.t 0)))⟩,
    ⟨(some 11), none, (.op (.len .sl (.t 10)))⟩,
    ⟨(some 12), none, (.op (.mv (.t 1)))⟩,
    ⟨(some 13), none, (.op (.ar .gtr (.t 11) (.t 12)))⟩])
  (.cond (.t 13)
    (.seq (.ops [⟨(some 6), none, (.op (.mv (.c (.int .u8 3))))⟩])
    .ret)
    .skip))
  (.seq (.seq (.ops [⟨(some 14), none, (.op (.mv (.t 0)))⟩,
    ⟨(some 15), none, (.op (.len .sl (.t 14)))⟩,
    ⟨(some 16), none, (.op (.mv (.c (.int .i64 0))))⟩])
  (.block 0 (.loop ⟨none, [], false⟩ l_kmorph_each_api_Entry_0)))
  (.seq (.ops [⟨(some 6), none, (.op (.mv (.c (.int .u8 0))))⟩])
  .ret))))
def ka_morph_each_api_Entry : AFn := ⟨kc_morph_each_api_Entry, 29, [.t 6], .keep, [], none⟩

def l_kmorph_checker_entry_0 : AC :=
  (.seq (.ops [⟨(some 51), none, (.op (.ar .lss (.t 50) (.t 49)))⟩])
  (.seq (.cond (.t 51)
    .skip
    (.exit 1))
  (.seq (.block 2 (.seq (.ops [⟨(some 52), none, (.op (.mv (.t 50)))⟩,
    ⟨(some 53), none, (.op (.ias 2 (.t 48) (.t 50)))⟩,
    ⟨(some 54), none, (.op (.ld (some 2) (.t 53)))⟩,
    ⟨(some 11), none, (.op (.nw [(.int .i64 0), (.str [])] t_api_Irregular_1))⟩,
    ⟨(some 10), none, (.op (.mv (.t 52)))⟩,
    ⟨none, none, (.op (.st 2 (.t 11) (.t 54)))⟩])
  (.block 3 (.seq (.ops [⟨(some 56), none, (.op (.fa 0 (.t 11)))⟩,
    ⟨(some 57), none, (.op (.ld none (.t 56)))⟩,
    ⟨(some 58), none, (.op (.ar .lss (.t 57) (.c (.int .i64 0))))⟩,
    ⟨(some 59), none, (.op (.mv (.t 58)))⟩,
    ⟨(some 60), (some (59, false)), (.op (.fa 0 (.t 11)))⟩,
    ⟨(some 61), (some (59, false)), (.op (.ld none (.t 60)))⟩,
    ⟨(some 62), (some (59, false)), (.op (.fa 1 (.t 7)))⟩,
    ⟨(some 63), (some (59, false)), (.op (.ld none (.t 62)))⟩,
    ⟨(some 64), (some (59, false)), (.op (.len .sl (.t 63)))⟩,
    ⟨(some 65), (some (59, false)), (.op (.ar .geq (.t 61) (.t 64)))⟩,
    ⟨(some 66), none, (.op (.pk (.t 59) (.c (.bool true)) (.t 65)))⟩,
    ⟨(some 55), none, (.op (.mv (.t 66)))⟩])
  (.cond (.t 55)
    (.seq (.ops [⟨(some 6), none, (.op (.mv (.c (.int .u8 7))))⟩])
    .ret)
    (.seq (.ops [⟨(some 68), none, (.op (.fa 3 (.t 5)))⟩,
      ⟨(some 69), none, (.op (.ld none (.t 68)))⟩,
      ⟨(some 70), none, (.op (.mv (.t 10)))⟩,
      ⟨(some 71), none, (.op (.sll 2 (.t 69) none (some (.t 70)) none))⟩,
      ⟨(some 72), none, (.op (.mf (.func f_morph_checker_entry_3) [] [(.t 11)]))⟩,
      ⟨(some 73), none, (.call (.c (.fn (.func f_slices_ContainsFunc_api_Irregular_api_Irregular) [] [])) [(.t 71), (.t 72)])⟩,
      ⟨(some 67), none, (.op (.mv (.t 73)))⟩])
    (.cond (.t 67)
      (.seq (.ops [⟨(some 6), none, (.op (.mv (.c (.int .u8 6))))⟩])
      .ret)
      (.seq (.ops [⟨(some 75), none, (.op (.fa 1 (.t 11)))⟩,
        ⟨(some 76), none, (.op (.ld none (.t 75)))⟩,
        ⟨(some 77), none, (.op (.ar .neq (.t 76) (.c (.str []))))⟩,
        ⟨(some 78), none, (.op (.mv (.t 77)))⟩,
        ⟨(some 79), (some (78, true)), (.op (.fa 1 (.t 11)))⟩,
        ⟨(some 80), (some (78, true)), (.op (.ld none (.t 79)))⟩,
        ⟨(some 81), (some (78, true)), (.call (.c (.fn (.func f_morph_Plain) [] [])) [(.t 80)])⟩,
        ⟨(some 82), (some (78, true)), (.op (.un .not (.t 81)))⟩,
        ⟨(some 83), none, (.op (.pk (.t 78) (.t 82) (.c (.bool false))))⟩,
        ⟨(some 74), none, (.op (.mv (.t 83)))⟩])
      (.cond (.t 74)
        (.seq (.ops [⟨(some 6), none, (.op (.mv (.c (.int .u8 1))))⟩])
        .ret)
        .skip)))))))))
  (.ops [⟨(some 84), none, (.op (.ar .add (.t 50) (.c (.int .i64 1))))⟩,
    ⟨(some 50), none, (.op (.mv (.t 84)))⟩]))))

def kc_morph_checker_entry : AC :=
  (.seq (.ops [⟨(some 3), none, (.op (.bx t_morph_checker (.t 0)))⟩,
    ⟨(some 5), none, (.op (.bx t_api_Entry_1 (.t 2)))⟩,
    ⟨(some 6), none, (.op (.mv (.c (.int .u8 0))))⟩])
  (.seq (.ops [⟨(some 13), none, (.op (.fa 0 (.t 3)))⟩,
    ⟨(some 14), none, (.op (.ld (some 6) (.t 13)))⟩,
    ⟨(some 15), none, (.op (.fa 1 (.t 5)))⟩,
    ⟨(some 16), none, (.op (.ld none (.t 15)))⟩,
    ⟨(some 17), none, (.call (.c (.fn (.func f_morph_classOf) [] [])) [(.t 14), (.t 16)])⟩,
    ⟨(some 12), none, (.op (.mv (.t 17)))⟩,
    ⟨(some 18), none, (.op (.ex (.t 12) 0))⟩,
    ⟨(some 19), none, (.op (.ex (.t 12) 1))⟩,
    ⟨(some 7), none, (.op (.nw [(.str []), (.slice .nil 4 [])] t_api_Class_1))⟩,
    ⟨none, none, (.op (.st 2 (.t 7) (.t 18)))⟩,
    ⟨(some 8), none, (.op (.mv (.t 19)))⟩])
  (.seq (.block 0 (.seq (.ops [⟨(some 21), none, (.op (.fa 0 (.t 5)))⟩,
    ⟨(some 22), none, (.op (.ld none (.t 21)))⟩,
    ⟨(some 23), none, (.call (.c (.fn (.func f_morph_Plain) [] [])) [(.t 22)])⟩,
    ⟨(some 24), none, (.op (.un .not (.t 23)))⟩,
    ⟨(some 20), none, (.op (.mv (.t 24)))⟩])
  (.cond (.t 20)
    (.seq (.ops [⟨(some 6), none, (.op (.mv (.c (.int .u8 1))))⟩])
    .ret)
    (.seq (.ops [⟨(some 26), none, (.op (.mv (.t 8)))⟩,
      ⟨(some 27), none, (.op (.un .not (.t 26)))⟩,
      ⟨(some 25), none, (.op (.mv (.t 27)))⟩])
    (.cond (.t 25)
      (.seq (.ops [⟨(some 6), none, (.op (.mv (.c (.int .u8 5))))⟩])
      .ret)
      (.seq (.ops [⟨(some 29), none, (.op (.fa 0 (.t 3)))⟩,
        ⟨(some 30), none, (.op (.fa 3 (.t 29)))⟩,
        ⟨(some 31), none, (.op (.ld none (.t 30)))⟩,
        ⟨(some 32), none, (.op (.mv (.t 1)))⟩,
        ⟨(some 33), none, (.op (.sll 4 (.t 31) none (some (.t 32)) none))⟩,
        ⟨(some 34), none, (.op (.mf (.func f_morph_checker_entry_1) [] [(.t 5)]))⟩,
        ⟨(some 35), none, (.call (.c (.fn (.func f_slices_ContainsFunc_api_Entry_api_Entry) [] [])) [(.t 33), (.t 34)])⟩,
        ⟨(some 28), none, (.op (.mv (.t 35)))⟩])
      (.cond (.t 28)
        (.seq (.ops [⟨(some 6), none, (.op (.mv (.c (.int .u8 6))))⟩])
        .ret)
        .skip)))))))
  (.seq (.seq (.ops [⟨(some 36), none, (.op (.ld (some 6) (.t 3)))⟩,
    ⟨(some 37), none, (.op (.fa 2 (.t 5)))⟩,
    ⟨(some 38), none, (.op (.ld none (.t 37)))⟩,
    ⟨(some 39), none, (.call (.c (.fn (.func f_morph_checker_bundle) [] [])) [(.t 36), (.t 38)])⟩,
    ⟨(some 9), none, (.op (.mv (.t 39)))⟩])
  (.seq (.ops [⟨(some 40), none, (.op (.mv (.t 9)))⟩,
    ⟨(some 41), none, (.op (.ar .neq (.t 40) (.c (.int .u8 0))))⟩])
  (.cond (.t 41)
    (.seq (.ops [⟨(some 42), none, (.op (.mv (.t 9)))⟩,
      ⟨(some 6), none, (.op (.mv (.t 42)))⟩])
    .ret)
    .skip)))
  (.seq (.seq (.ops [⟨(some 43), none, (.op (.fa 1 (.t 7)))⟩,
    ⟨(some 44), none, (.op (.ld none (.t 43)))⟩,
    ⟨(some 45), none, (.op (.mf (.func f_morph_checker_entry_2) [] [(.t 5)]))⟩,
    ⟨(some 46), none, (.call (.c (.fn (.func f_slices_ContainsFunc_api_Slot_api_Slot) [] [])) [(.t 44), (.t 45)])⟩])
  (.cond (.t 46)
    (.seq (.ops [⟨(some 6), none, (.op (.mv (.c (.int .u8 10))))⟩])
    .ret)
    .skip))
  (.seq (.seq (.ops [⟨(some 47), none, (.op (.fa 3 (.t 5)))⟩,
    ⟨(some 48), none, (.op (.ld none (.t 47)))⟩,
    ⟨(some 49), none, (.op (.len .sl (.t 48)))⟩,
    ⟨(some 50), none, (.op (.mv (.c (.int .i64 0))))⟩])
  (.block 1 (.loop ⟨none, [], false⟩ l_kmorph_checker_entry_0)))
  (.seq (.ops [⟨(some 6), none, (.op (.mv (.c (.int .u8 0))))⟩])
  .ret)))))))
def ka_morph_checker_entry : AFn := ⟨kc_morph_checker_entry, 85, [.t 6], .keep, [], none⟩

def kc_morph_Check_4 : AC :=
  (.seq (.ops [⟨(some 2), none, (.op (.mv (.c (.int .u8 0))))⟩])
  (.seq (.ops [⟨(some 3), none, (.op (.fa 4 (.t 0)))⟩,
    ⟨(some 4), none, (.op (.ld none (.t 3)))⟩,
    ⟨(some 5), none, (.op (.ld (some 6) (.t 1)))⟩,
    ⟨(some 6), none, (.op (.mf (.func f_morph_checker_spell) [(.t 5)] []))⟩,
    ⟨(some 7), none, (.call (.c (.fn (.func f_morph_each_api_Spell) [] [])) [(.t 4), (.c (.int .i64 16)), (.t 6)])⟩,
    ⟨(some 2), none, (.op (.mv (.t 7)))⟩])
  .ret))
def ka_morph_Check_4 : AFn := ⟨kc_morph_Check_4, 8, [.t 2], .keep, [], none⟩

def l_kmorph_each_api_Spell_0 : AC :=
  (.seq (.ops [⟨(some 17), none, (.op (.ar .lss (.t 16) (.t 15)))⟩])
  (.seq (.cond (.t 17)
    .skip
    (.exit 0))
  (.seq (.block 1 (.seq (.ops [⟨(some 18), none, (.op (.mv (.t 16)))⟩,
    ⟨(some 19), none, (.op (.ias 4 (.t 14) (.t 16)))⟩,
    ⟨(some 20), none, (.op (.ld (some 4) (.t 19)))⟩,
    ⟨(some 8), none, (.op (.nw [(.str []), (.str []), (.str []), (.str [])] t_api_Spell_1))⟩,
    ⟨(some 7), none, (.op (.mv (.t 18)))⟩,
    ⟨none, none, (.op (.st 4 (.t 8) (.t 20)))⟩])
  (.seq (.ops [⟨(some 21), none, (.op (.mv (.t 2)))⟩,
    ⟨(some 22), none, (.op (.mv (.t 7)))⟩,
    ⟨(some 23), none, (.op (.ld (some 4) (.t 8)))⟩,
    ⟨(some 24), none, (.call (.t 21) [(.t 22), (.t 23)])⟩,
    ⟨(some 9), none, (.op (.mv (.t 24)))⟩])
  (.seq (.ops [⟨(some 25), none, (.op (.mv (.t 9)))⟩,
    ⟨(some 26), none, (.op (.ar .neq (.t 25) (.c (.int .u8 0))))⟩])
  (.cond (.t 26)
    (.seq (.ops [⟨(some 27), none, (.op (.mv (.t 9)))⟩,
      ⟨(some 6), none, (.op (.mv (.t 27)))⟩])
    .ret)
    .skip)))))
  (.ops [⟨(some 28), none, (.op (.ar .add (.t 16) (.c (.int .i64 1))))⟩,
    ⟨(some 16), none, (.op (.mv (.t 28)))⟩]))))

def kc_morph_each_api_Spell : AC :=
  (.seq (.ops [⟨(some 6), none, (.op (.mv (.c (.int .u8 0))))⟩])
  (.seq (.seq (.ops [⟨(some 10), none, (.op (.mv (.t 0)))⟩,
    ⟨(some 11), none, (.op (.len .sl (.t 10)))⟩,
    ⟨(some 12), none, (.op (.mv (.t 1)))⟩,
    ⟨(some 13), none, (.op (.ar .gtr (.t 11) (.t 12)))⟩])
  (.cond (.t 13)
    (.seq (.ops [⟨(some 6), none, (.op (.mv (.c (.int .u8 3))))⟩])
    .ret)
    .skip))
  (.seq (.seq (.ops [⟨(some 14), none, (.op (.mv (.t 0)))⟩,
    ⟨(some 15), none, (.op (.len .sl (.t 14)))⟩,
    ⟨(some 16), none, (.op (.mv (.c (.int .i64 0))))⟩])
  (.block 0 (.loop ⟨none, [], false⟩ l_kmorph_each_api_Spell_0)))
  (.seq (.ops [⟨(some 6), none, (.op (.mv (.c (.int .u8 0))))⟩])
  .ret))))
def ka_morph_each_api_Spell : AFn := ⟨kc_morph_each_api_Spell, 29, [.t 6], .keep, [], none⟩

def kc_morph_checker_spell : AC :=
  (.seq (.ops [⟨(some 3), none, (.op (.bx t_morph_checker (.t 0)))⟩,
    ⟨(some 5), none, (.op (.bx t_api_Spell_1 (.t 2)))⟩,
    ⟨(some 6), none, (.op (.mv (.c (.int .u8 0))))⟩])
  (.seq (.seq (.ops [⟨(some 7), none, (.op (.fa 0 (.t 5)))⟩,
    ⟨(some 8), none, (.op (.ld none (.t 7)))⟩,
    ⟨(some 9), none, (.op (.ar .eql (.t 8) (.c (.str []))))⟩,
    ⟨(some 10), none, (.op (.mv (.t 9)))⟩,
    ⟨(some 11), (some (10, false)), (.op (.fa 0 (.t 5)))⟩,
    ⟨(some 12), (some (10, false)), (.op (.ld none (.t 11)))⟩,
    ⟨(some 13), (some (10, false)), (.call (.c (.fn (.func f_morph_short) [] [])) [(.t 12), (.c (.fn (.func f_morph_symbol) [] []))])⟩,
    ⟨(some 14), (some (10, false)), (.op (.un .not (.t 13)))⟩,
    ⟨(some 15), none, (.op (.pk (.t 10) (.c (.bool true)) (.t 14)))⟩,
    ⟨(some 16), none, (.op (.mv (.t 15)))⟩,
    ⟨(some 17), (some (16, false)), (.op (.fa 1 (.t 5)))⟩,
    ⟨(some 18), (some (16, false)), (.op (.ld none (.t 17)))⟩,
    ⟨(some 19), (some (16, false)), (.call (.c (.fn (.func f_morph_short) [] [])) [(.t 18), (.c (.fn (.func f_morph_symbol) [] []))])⟩,
    ⟨(some 20), (some (16, false)), (.op (.un .not (.t 19)))⟩,
    ⟨(some 21), none, (.op (.pk (.t 16) (.c (.bool true)) (.t 20)))⟩,
    ⟨(some 22), none, (.op (.mv (.t 21)))⟩,
    ⟨(some 23), (some (22, false)), (.op (.fa 2 (.t 5)))⟩,
    ⟨(some 24), (some (22, false)), (.op (.ld none (.t 23)))⟩,
    ⟨(some 25), (some (22, false)), (.call (.c (.fn (.func f_morph_short) [] [])) [(.t 24), (.c (.fn (.func f_morph_around) [] []))])⟩,
    ⟨(some 26), (some (22, false)), (.op (.un .not (.t 25)))⟩,
    ⟨(some 27), none, (.op (.pk (.t 22) (.c (.bool true)) (.t 26)))⟩,
    ⟨(some 28), none, (.op (.mv (.t 27)))⟩,
    ⟨(some 29), (some (28, false)), (.op (.fa 3 (.t 5)))⟩,
    ⟨(some 30), (some (28, false)), (.op (.ld none (.t 29)))⟩,
    ⟨(some 31), (some (28, false)), (.call (.c (.fn (.func f_morph_short) [] [])) [(.t 30), (.c (.fn (.func f_morph_around) [] []))])⟩,
    ⟨(some 32), (some (28, false)), (.op (.un .not (.t 31)))⟩,
    ⟨(some 33), none, (.op (.pk (.t 28) (.c (.bool true)) (.t 32)))⟩])
  (.cond (.t 33)
    (.seq (.ops [⟨(some 6), none, (.op (.mv (.c (.int .u8 1))))⟩])
    .ret)
    .skip))
  (.seq (.ops [⟨(some 6), none, (.op (.mv (.c (.int .u8 0))))⟩])
  .ret)))
def ka_morph_checker_spell : AFn := ⟨kc_morph_checker_spell, 34, [.t 6], .keep, [], none⟩

def kc_morph_Check_5 : AC :=
  (.seq (.ops [⟨(some 2), none, (.op (.mv (.c (.int .u8 0))))⟩])
  (.seq (.ops [⟨(some 3), none, (.op (.fa 5 (.t 0)))⟩,
    ⟨(some 4), none, (.op (.ld none (.t 3)))⟩,
    ⟨(some 5), none, (.op (.ld (some 6) (.t 1)))⟩,
    ⟨(some 6), none, (.op (.mf (.func f_morph_checker_link) [(.t 5)] []))⟩,
    ⟨(some 7), none, (.call (.c (.fn (.func f_morph_each_api_Link) [] [])) [(.t 4), (.c (.int .i64 8)), (.t 6)])⟩,
    ⟨(some 2), none, (.op (.mv (.t 7)))⟩])
  .ret))
def ka_morph_Check_5 : AFn := ⟨kc_morph_Check_5, 8, [.t 2], .keep, [], none⟩

def l_kmorph_each_api_Link_0 : AC :=
  (.seq (.ops [⟨(some 17), none, (.op (.ar .lss (.t 16) (.t 15)))⟩])
  (.seq (.cond (.t 17)
    .skip
    (.exit 0))
  (.seq (.block 1 (.seq (.ops [⟨(some 18), none, (.op (.mv (.t 16)))⟩,
    ⟨(some 19), none, (.op (.ias 3 (.t 14) (.t 16)))⟩,
    ⟨(some 20), none, (.op (.ld (some 3) (.t 19)))⟩,
    ⟨(some 8), none, (.op (.nw [(.str []), (.str []), (.slice .nil 2 [])] t_api_Link_1))⟩,
    ⟨(some 7), none, (.op (.mv (.t 18)))⟩,
    ⟨none, none, (.op (.st 3 (.t 8) (.t 20)))⟩])
  (.seq (.ops [⟨(some 21), none, (.op (.mv (.t 2)))⟩,
    ⟨(some 22), none, (.op (.mv (.t 7)))⟩,
    ⟨(some 23), none, (.op (.ld (some 3) (.t 8)))⟩,
    ⟨(some 24), none, (.call (.t 21) [(.t 22), (.t 23)])⟩,
    ⟨(some 9), none, (.op (.mv (.t 24)))⟩])
  (.seq (.ops [⟨(some 25), none, (.op (.mv (.t 9)))⟩,
    ⟨(some 26), none, (.op (.ar .neq (.t 25) (.c (.int .u8 0))))⟩])
  (.cond (.t 26)
    (.seq (.ops [⟨(some 27), none, (.op (.mv (.t 9)))⟩,
      ⟨(some 6), none, (.op (.mv (.t 27)))⟩])
    .ret)
    .skip)))))
  (.ops [⟨(some 28), none, (.op (.ar .add (.t 16) (.c (.int .i64 1))))⟩,
    ⟨(some 16), none, (.op (.mv (.t 28)))⟩]))))

def kc_morph_each_api_Link : AC :=
  (.seq (.ops [⟨(some 6), none, (.op (.mv (.c (.int .u8 0))))⟩])
  (.seq (.seq (.ops [⟨(some 10), none, (.op (.mv (.t 0)))⟩,
    ⟨(some 11), none, (.op (.len .sl (.t 10)))⟩,
    ⟨(some 12), none, (.op (.mv (.t 1)))⟩,
    ⟨(some 13), none, (.op (.ar .gtr (.t 11) (.t 12)))⟩])
  (.cond (.t 13)
    (.seq (.ops [⟨(some 6), none, (.op (.mv (.c (.int .u8 3))))⟩])
    .ret)
    .skip))
  (.seq (.seq (.ops [⟨(some 14), none, (.op (.mv (.t 0)))⟩,
    ⟨(some 15), none, (.op (.len .sl (.t 14)))⟩,
    ⟨(some 16), none, (.op (.mv (.c (.int .i64 0))))⟩])
  (.block 0 (.loop ⟨none, [], false⟩ l_kmorph_each_api_Link_0)))
  (.seq (.ops [⟨(some 6), none, (.op (.mv (.c (.int .u8 0))))⟩])
  .ret))))
def ka_morph_each_api_Link : AFn := ⟨kc_morph_each_api_Link, 29, [.t 6], .keep, [], none⟩

def kc_morph_checker_link : AC :=
  (.seq (.ops [⟨(some 3), none, (.op (.bx t_morph_checker (.t 0)))⟩,
    ⟨(some 5), none, (.op (.bx t_api_Link_1 (.t 2)))⟩,
    ⟨(some 6), none, (.op (.mv (.c (.int .u8 0))))⟩])
  (.seq (.seq (.ops [⟨(some 10), none, (.op (.fa 0 (.t 3)))⟩,
    ⟨(some 11), none, (.op (.ld (some 6) (.t 10)))⟩,
    ⟨(some 12), none, (.op (.fa 0 (.t 5)))⟩,
    ⟨(some 13), none, (.op (.ld none (.t 12)))⟩,
    ⟨(some 14), none, (.call (.c (.fn (.func f_morph_classOf) [] [])) [(.t 11), (.t 13)])⟩,
    ⟨(some 9), none, (.op (.mv (.t 14)))⟩,
    ⟨(some 15), none, (.op (.ex (.t 9) 0))⟩,
    ⟨(some 16), none, (.op (.ex (.t 9) 1))⟩,
    ⟨(some 7), none, (.op (.nw [(.str []), (.slice .nil 4 [])] t_api_Class_1))⟩,
    ⟨none, none, (.op (.st 2 (.t 7) (.t 15)))⟩,
    ⟨(some 8), none, (.op (.mv (.t 16)))⟩])
  (.seq (.ops [⟨(some 17), none, (.op (.mv (.t 8)))⟩,
    ⟨(some 18), none, (.op (.un .not (.t 17)))⟩])
  (.cond (.t 18)
    (.seq (.ops [⟨(some 6), none, (.op (.mv (.c (.int .u8 5))))⟩])
    .ret)
    .skip)))
  (.seq (.seq (.ops [⟨(some 19), none, (.op (.fa 1 (.t 5)))⟩,
    ⟨(some 20), none, (.op (.ld none (.t 19)))⟩,
    ⟨(some 21), none, (.call (.c (.fn (.func f_morph_short) [] [])) [(.t 20), (.c (.fn (.func f_morph_letter) [] []))])⟩,
    ⟨(some 22), none, (.op (.un .not (.t 21)))⟩])
  (.cond (.t 22)
    (.seq (.ops [⟨(some 6), none, (.op (.mv (.c (.int .u8 1))))⟩])
    .ret)
    .skip))
  (.seq (.ops [⟨(some 23), none, (.op (.ld (some 6) (.t 3)))⟩,
    ⟨(some 24), none, (.op (.fa 2 (.t 5)))⟩,
    ⟨(some 25), none, (.op (.ld none (.t 24)))⟩,
    ⟨(some 26), none, (.call (.c (.fn (.func f_morph_checker_bundle) [] [])) [(.t 23), (.t 25)])⟩,
    ⟨(some 6), none, (.op (.mv (.t 26)))⟩])
  .ret))))
def ka_morph_checker_link : AFn := ⟨kc_morph_checker_link, 27, [.t 6], .keep, [], none⟩

def kc_morph_language_slot : AC :=
  (.seq (.ops [⟨(some 3), none, (.op (.bx t_morph_language (.t 0)))⟩,
    ⟨(some 6), none, (.op (.nw [(.int .i64 0), (.str []), (.str []), (.slice .nil 2 [])] t_api_Slot))⟩,
    ⟨(some 7), none, (.op (.mv (.c (.bool false))))⟩])
  (.seq (.seq (.ops [⟨(some 10), none, (.op (.mv (.t 1)))⟩,
    ⟨(some 11), none, (.op (.ar .lss (.t 10) (.c (.int .i64 0))))⟩,
    ⟨(some 12), none, (.op (.mv (.t 11)))⟩,
    ⟨(some 13), (some (12, false)), (.op (.mv (.t 1)))⟩,
    ⟨(some 14), (some (12, false)), (.op (.fa 0 (.t 3)))⟩,
    ⟨(some 15), (some (12, false)), (.op (.fa 3 (.t 14)))⟩,
    ⟨(some 16), (some (12, false)), (.op (.ld none (.t 15)))⟩,
    ⟨(some 17), (some (12, false)), (.op (.len .sl (.t 16)))⟩,
    ⟨(some 18), (some (12, false)), (.op (.ar .geq (.t 13) (.t 17)))⟩,
    ⟨(some 19), none, (.op (.pk (.t 12) (.c (.bool true)) (.t 18)))⟩])
  (.cond (.t 19)
    (.seq (.ops [⟨(some 20), none, (.op (.bd [(.int .i64 0), (.str []), (.str []), (.slice .nil 2 [])] [(0, 1), (1, 1), (2, 1), (3, 1)] []))⟩,
      ⟨none, none, (.op (.st 4 (.t 6) (.t 20)))⟩,
      ⟨(some 7), none, (.op (.mv (.c (.bool false))))⟩])
    .ret)
    .skip))
  (.seq (.dops false [] [] [(⟨(some 22), none, (.op (.fa 0 (.t 3)))⟩, .pure),
    (⟨(some 23), none, (.op (.ld (some 6) (.t 22)))⟩, .wide),
    (⟨(some 24), none, (.op (.fa 0 (.t 3)))⟩, .pure),
    (⟨(some 25), none, (.op (.fa 3 (.t 24)))⟩, .pure),
    (⟨(some 26), none, (.op (.ld none (.t 25)))⟩, .wide),
    (⟨(some 27), none, (.op (.mv (.t 1)))⟩, .pure),
    (⟨(some 28), none, (.op (.ias 4 (.t 26) (.t 27)))⟩, .pure),
    (⟨(some 29), none, (.op (.fa 1 (.t 28)))⟩, .pure),
    (⟨(some 30), none, (.op (.ld none (.t 29)))⟩, .wide),
    (⟨(some 31), none, (.call (.c (.fn (.func f_morph_classOf) [] [])) [(.t 23), (.t 30)])⟩, .wide),
    (⟨(some 21), none, (.op (.mv (.t 31)))⟩, .pure),
    (⟨(some 32), none, (.op (.ex (.t 21) 0))⟩, .pure),
    (⟨(some 33), none, (.op (.ex (.t 21) 1))⟩, .pure),
    (⟨(some 8), none, (.op (.nw [(.str []), (.slice .nil 4 [])] t_api_Class_1))⟩, .keep),
    (⟨none, none, (.op (.st 2 (.t 8) (.t 32)))⟩, .eff),
    (⟨(some 9), none, (.op (.mv (.t 33)))⟩, .pure)])
  (.seq (.seq (.ops [⟨(some 34), none, (.op (.mv (.t 2)))⟩,
    ⟨(some 35), none, (.op (.ar .lss (.t 34) (.c (.int .i64 0))))⟩,
    ⟨(some 36), none, (.op (.mv (.t 35)))⟩,
    ⟨(some 37), (some (36, false)), (.op (.mv (.t 2)))⟩,
    ⟨(some 38), (some (36, false)), (.op (.fa 1 (.t 8)))⟩,
    ⟨(some 39), (some (36, false)), (.op (.ld none (.t 38)))⟩,
    ⟨(some 40), (some (36, false)), (.op (.len .sl (.t 39)))⟩,
    ⟨(some 41), (some (36, false)), (.op (.ar .geq (.t 37) (.t 40)))⟩,
    ⟨(some 42), none, (.op (.pk (.t 36) (.c (.bool true)) (.t 41)))⟩])
  (.cond (.t 42)
    (.seq (.ops [⟨(some 43), none, (.op (.bd [(.int .i64 0), (.str []), (.str []), (.slice .nil 2 [])] [(0, 1), (1, 1), (2, 1), (3, 1)] []))⟩,
      ⟨none, none, (.op (.st 4 (.t 6) (.t 43)))⟩,
      ⟨(some 7), none, (.op (.mv (.c (.bool false))))⟩])
    .ret)
    .skip))
  (.seq (.ops [⟨(some 44), none, (.op (.fa 1 (.t 8)))⟩,
    ⟨(some 45), none, (.op (.ld none (.t 44)))⟩,
    ⟨(some 46), none, (.op (.mv (.t 2)))⟩,
    ⟨(some 47), none, (.op (.ias 4 (.t 45) (.t 46)))⟩,
    ⟨(some 48), none, (.op (.ld (some 4) (.t 47)))⟩,
    ⟨none, none, (.op (.st 4 (.t 6) (.t 48)))⟩,
    ⟨(some 7), none, (.op (.mv (.c (.bool true))))⟩])
  .ret)))))
def ka_morph_language_slot : AFn := ⟨kc_morph_language_slot, 49, [.cell 6 (some 4), .t 7], .keep, [], none⟩

def l_kmorph_language_steps_0 : AC :=
  (.seq (.ops [⟨(some 29), none, (.op (.ar .lss (.t 28) (.t 27)))⟩])
  (.seq (.cond (.t 29)
    .skip
    (.exit 0))
  (.seq (.block 1 (.seq (.ops [⟨(some 30), none, (.op (.ias 4 (.t 26) (.t 28)))⟩,
    ⟨(some 31), none, (.op (.ld (some 4) (.t 30)))⟩,
    ⟨(some 12), none, (.op (.nw [(.str []), (.str []), (.str []), (.str [])] t_api_Spell_1))⟩,
    ⟨none, none, (.op (.st 4 (.t 12) (.t 31)))⟩])
  (.seq (.seq (.ops [⟨(some 33), none, (.op (.ld (some 6) (.t 3)))⟩,
    ⟨(some 34), none, (.op (.ld (some 4) (.t 12)))⟩,
    ⟨(some 35), none, (.op (.mv (.t 8)))⟩,
    ⟨(some 36), none, (.call (.c (.fn (.func f_morph_language_spell) [] [])) [(.t 33), (.t 34), (.t 35)])⟩,
    ⟨(some 32), none, (.op (.mv (.t 36)))⟩,
    ⟨(some 37), none, (.op (.ex (.t 32) 0))⟩,
    ⟨(some 38), none, (.op (.ex (.t 32) 1))⟩,
    ⟨(some 8), none, (.op (.mv (.t 37)))⟩,
    ⟨(some 9), none, (.op (.mv (.t 38)))⟩])
  (.seq (.ops [⟨(some 39), none, (.op (.mv (.t 9)))⟩,
    ⟨(some 40), none, (.op (.un .not (.t 39)))⟩])
  (.cond (.t 40)
    (.seq (.ops [⟨(some 6), none, (.op (.mv (.c (.slice .nil 1 []))))⟩,
      ⟨(some 7), none, (.op (.mv (.c (.bool false))))⟩])
    .ret)
    .skip)))
  (.ops [⟨(some 41), none, (.op (.mv (.t 10)))⟩,
    ⟨(some 42), none, (.op (.mv (.t 8)))⟩,
    ⟨(some 43), none, (.op (.bs 1 [(.str [])] 1 [(0, (.t 42))]))⟩,
    ⟨(some 44), none, (.op (.ap false t_string 1 16 false (.t 41) (.t 43)))⟩,
    ⟨(some 10), none, (.op (.mv (.t 44)))⟩]))))
  (.ops [⟨(some 45), none, (.op (.ar .add (.t 28) (.c (.int .i64 1))))⟩,
    ⟨(some 28), none, (.op (.mv (.t 45)))⟩]))))

def kc_morph_language_steps : AC :=
  (.seq (.ops [⟨(some 3), none, (.op (.bx t_morph_language (.t 0)))⟩,
    ⟨(some 5), none, (.op (.bx t_api_Slot (.t 2)))⟩,
    ⟨(some 6), none, (.op (.mv (.c (.slice .nil 1 []))))⟩,
    ⟨(some 7), none, (.op (.mv (.c (.bool false))))⟩])
  (.seq (.ops [⟨(some 14), none, (.op (.ld (some 6) (.t 3)))⟩,
    ⟨(some 15), none, (.op (.mv (.t 1)))⟩,
    ⟨(some 16), none, (.op (.ld (some 4) (.t 5)))⟩,
    ⟨(some 17), none, (.call (.c (.fn (.func f_morph_language_underlying) [] [])) [(.t 14), (.t 15), (.t 16)])⟩,
    ⟨(some 13), none, (.op (.mv (.t 17)))⟩,
    ⟨(some 18), none, (.op (.ex (.t 13) 0))⟩,
    ⟨(some 19), none, (.op (.ex (.t 13) 1))⟩,
    ⟨(some 8), none, (.op (.mv (.t 18)))⟩,
    ⟨(some 9), none, (.op (.mv (.t 19)))⟩])
  (.seq (.seq (.ops [⟨(some 20), none, (.op (.mv (.t 9)))⟩,
    ⟨(some 21), none, (.op (.un .not (.t 20)))⟩])
  (.cond (.t 21)
    (.seq (.ops [⟨(some 6), none, (.op (.mv (.c (.slice .nil 1 []))))⟩,
      ⟨(some 7), none, (.op (.mv (.c (.bool false))))⟩])
    .ret)
    .skip))
  (.seq (.ops [⟨(some 22), none, (.op (.mv (.t 8)))⟩,
    ⟨(some 23), none, (.op (.bs 1 [(.str [])] 1 [(0, (.t 22))]))⟩,
    ⟨(some 10), none, (.op (.mv (.t 23)))⟩])
  (.seq (.seq (.ops [⟨(some 24), none, (.op (.fa 0 (.t 3)))⟩,
    ⟨(some 25), none, (.op (.fa 4 (.t 24)))⟩,
    ⟨(some 26), none, (.op (.ld none (.t 25)))⟩,
    ⟨(some 27), none, (.op (.len .sl (.t 26)))⟩,
    ⟨(some 28), none, (.op (.mv (.c (.int .i64 0))))⟩])
  (.block 0 (.loop ⟨none, [], false⟩ l_kmorph_language_steps_0)))
  (.seq (.ops [⟨(some 46), none, (.op (.mv (.t 10)))⟩,
    ⟨(some 6), none, (.op (.mv (.t 46)))⟩,
    ⟨(some 7), none, (.op (.mv (.c (.bool true))))⟩])
  .ret))))))
def ka_morph_language_steps : AFn := ⟨kc_morph_language_steps, 47, [.t 6, .t 7], .keep, [], none⟩

def kc_strings_ReplaceAll : AC :=
  (.seq (.ops [⟨(some 6), none, (.op (.mv (.c (.str []))))⟩])
  (.seq (.ops [⟨(some 7), none, (.op (.mv (.t 0)))⟩,
    ⟨(some 8), none, (.op (.mv (.t 1)))⟩,
    ⟨(some 9), none, (.op (.mv (.t 2)))⟩,
    ⟨(some 10), none, (.call (.c (.fn (.func f_strings_Replace) [] [])) [(.t 7), (.t 8), (.t 9), (.c (.int .i64 (-1)))])⟩,
    ⟨(some 6), none, (.op (.mv (.t 10)))⟩])
  .ret))
def ka_strings_ReplaceAll : AFn := ⟨kc_strings_ReplaceAll, 11, [.t 6], .keep, [], none⟩

def l_kstrings_explode_0 : AC :=
  (.seq (.seq (.ops [⟨(some 22), none, (.op (.mv (.t 7)))⟩,
    ⟨(some 23), none, (.op (.mv (.t 1)))⟩,
    ⟨(some 24), none, (.op (.ar .sub (.t 23) (.c (.int .i64 1))))⟩,
    ⟨(some 25), none, (.op (.ar .lss (.t 22) (.t 24)))⟩])
  (.cond (.t 25)
    .skip
    (.exit 0)))
  (.seq (.block 1 (.seq (.ops [⟨(some 29), none, (.op (.mv (.t 0)))⟩,
    ⟨(some 30), none, (.call (.c (.fn (.func f_unicode_utf8_DecodeRuneInString) [] [])) [(.t 29)])⟩,
    ⟨(some 28), none, (.op (.mv (.t 30)))⟩,
    ⟨(some 31), none, (.op (.ex (.t 28) 0))⟩,
    ⟨(some 32), none, (.op (.ex (.t 28) 1))⟩,
    ⟨(some 8), none, (.op (.mv (.t 31)))⟩,
    ⟨(some 9), none, (.op (.mv (.t 32)))⟩])
  (.seq (.ops [⟨(some 33), none, (.op (.mv (.t 6)))⟩,
    ⟨(some 34), none, (.op (.mv (.t 7)))⟩,
    ⟨(some 35), none, (.op (.mv (.t 0)))⟩,
    ⟨(some 36), none, (.op (.mv (.t 9)))⟩,
    ⟨(some 37), none, (.op (.sls (.t 35) none (some (.t 36))))⟩,
    ⟨(some 38), none, (.op (.ias 1 (.t 33) (.t 34)))⟩,
    ⟨none, none, (.op (.st 1 (.t 38) (.t 37)))⟩])
  (.ops [⟨(some 39), none, (.op (.mv (.t 0)))⟩,
    ⟨(some 40), none, (.op (.mv (.t 9)))⟩,
    ⟨(some 41), none, (.op (.sls (.t 39) (some (.t 40)) none))⟩,
    ⟨(some 0), none, (.op (.mv (.t 41)))⟩]))))
  (.ops [⟨(some 26), none, (.op (.mv (.t 7)))⟩,
    ⟨(some 27), none, (.op (.ar .add (.t 26) (.c (.int .i64 1))))⟩,
    ⟨(some 7), none, (.op (.mv (.t 27)))⟩])))

def kc_strings_explode : AC :=
  (.seq (.ops [⟨(some 4), none, (.op (.mv (.c (.slice .nil 1 []))))⟩])
  (.seq (.ops [⟨(some 10), none, (.op (.mv (.t 0)))⟩,
    ⟨(some 11), none, (.call (.c (.fn (.func f_unicode_utf8_RuneCountInString) [] [])) [(.t 10)])⟩,
    ⟨(some 5), none, (.op (.mv (.t 11)))⟩])
  (.seq (.seq (.ops [⟨(some 12), none, (.op (.mv (.t 1)))⟩,
    ⟨(some 13), none, (.op (.ar .lss (.t 12) (.c (.int .i64 0))))⟩,
    ⟨(some 14), none, (.op (.mv (.t 13)))⟩,
    ⟨(some 15), (some (14, false)), (.op (.mv (.t 1)))⟩,
    ⟨(some 16), (some (14, false)), (.op (.mv (.t 5)))⟩,
    ⟨(some 17), (some (14, false)), (.op (.ar .gtr (.t 15) (.t 16)))⟩,
    ⟨(some 18), none, (.op (.pk (.t 14) (.c (.bool true)) (.t 17)))⟩])
  (.cond (.t 18)
    (.ops [⟨(some 19), none, (.op (.mv (.t 5)))⟩,
      ⟨(some 1), none, (.op (.mv (.t 19)))⟩])
    .skip))
  (.seq (.ops [⟨(some 20), none, (.op (.mv (.t 1)))⟩,
    ⟨(some 21), none, (.op (.ms t_string 16 [(.str [])] (.t 20) (.t 20)))⟩,
    ⟨(some 6), none, (.op (.mv (.t 21)))⟩])
  (.seq (.seq (.ops [⟨(some 7), none, (.op (.mv (.c (.int .i64 0))))⟩])
  (.block 0 (.loop ⟨none, [], false⟩ l_kstrings_explode_0)))
  (.seq (.seq (.ops [⟨(some 42), none, (.op (.mv (.t 1)))⟩,
    ⟨(some 43), none, (.op (.ar .gtr (.t 42) (.c (.int .i64 0))))⟩])
  (.cond (.t 43)
    (.ops [⟨(some 44), none, (.op (.mv (.t 6)))⟩,
      ⟨(some 45), none, (.op (.mv (.t 1)))⟩,
      ⟨(some 46), none, (.op (.ar .sub (.t 45) (.c (.int .i64 1))))⟩,
      ⟨(some 47), none, (.op (.mv (.t 0)))⟩,
      ⟨(some 48), none, (.op (.ias 1 (.t 44) (.t 46)))⟩,
      ⟨none, none, (.op (.st 1 (.t 48) (.t 47)))⟩])
    .skip))
  (.seq (.ops [⟨(some 49), none, (.op (.mv (.t 6)))⟩,
    ⟨(some 4), none, (.op (.mv (.t 49)))⟩])
  .ret)))))))
def ka_strings_explode : AFn := ⟨kc_strings_explode, 50, [.t 4], .keep, [], none⟩

def l_kstrings_Count_0 : AC :=
  (.block 1 (.seq (.ops [⟨(some 20), none, (.op (.mv (.t 0)))⟩,
    ⟨(some 21), none, (.op (.mv (.t 1)))⟩,
    ⟨(some 22), none, (.call (.c (.fn (.func f_strings_Index) [] [])) [(.t 20), (.t 21)])⟩,
    ⟨(some 6), none, (.op (.mv (.t 22)))⟩])
  (.seq (.seq (.ops [⟨(some 23), none, (.op (.mv (.t 6)))⟩,
    ⟨(some 24), none, (.op (.ar .eql (.t 23) (.c (.int .i64 (-1)))))⟩])
  (.cond (.t 24)
    (.seq (.ops [⟨(some 25), none, (.op (.mv (.t 5)))⟩,
      ⟨(some 4), none, (.op (.mv (.t 25)))⟩])
    .ret)
    .skip))
  (.seq (.ops [⟨(some 26), none, (.op (.mv (.t 5)))⟩,
    ⟨(some 27), none, (.op (.ar .add (.t 26) (.c (.int .i64 1))))⟩,
    ⟨(some 5), none, (.op (.mv (.t 27)))⟩])
  (.ops [⟨(some 28), none, (.op (.mv (.t 0)))⟩,
    ⟨(some 29), none, (.op (.mv (.t 6)))⟩,
    ⟨(some 30), none, (.op (.mv (.t 1)))⟩,
    ⟨(some 31), none, (.op (.len .str (.t 30)))⟩,
    ⟨(some 32), none, (.op (.ar .add (.t 29) (.t 31)))⟩,
    ⟨(some 33), none, (.op (.sls (.t 28) (some (.t 32)) none))⟩,
    ⟨(some 0), none, (.op (.mv (.t 33)))⟩])))))

def kc_strings_Count : AC :=
  (.seq (.ops [⟨(some 4), none, (.op (.mv (.c (.int .i64 0))))⟩])
  (.seq (.seq (.ops [⟨(some 7), none, (.op (.mv (.t 1)))⟩,
    ⟨(some 8), none, (.op (.len .str (.t 7)))⟩,
    ⟨(some 9), none, (.op (.ar .eql (.t 8) (.c (.int .i64 0))))⟩])
  (.cond (.t 9)
    (.seq (.ops [⟨(some 10), none, (.op (.mv (.t 0)))⟩,
      ⟨(some 11), none, (.call (.c (.fn (.func f_unicode_utf8_RuneCountInString) [] [])) [(.t 10)])⟩,
      ⟨(some 12), none, (.op (.ar .add (.t 11) (.c (.int .i64 1))))⟩,
      ⟨(some 4), none, (.op (.mv (.t 12)))⟩])
    .ret)
    .skip))
  (.seq (.seq (.ops [⟨(some 13), none, (.op (.mv (.t 1)))⟩,
    ⟨(some 14), none, (.op (.len .str (.t 13)))⟩,
    ⟨(some 15), none, (.op (.ar .eql (.t 14) (.c (.int .i64 1))))⟩])
  (.cond (.t 15)
    (.seq (.ops [⟨(some 16), none, (.op (.mv (.t 0)))⟩,
      ⟨(some 17), none, (.op (.mv (.t 1)))⟩,
      ⟨(some 18), none, (.op (.ixs (.t 17) (.c (.int .i64 0))))⟩,
      ⟨(some 19), none, (.call (.c (.fn (.func f_internal_bytealg_CountString) [] [])) [(.t 16), (.t 18)])⟩,
      ⟨(some 4), none, (.op (.mv (.t 19)))⟩])
    .ret)
    .skip))
  (.seq (.ops [⟨(some 5), none, (.op (.mv (.c (.int .i64 0))))⟩])
  (.block 0 (.loop ⟨none, [], false⟩ l_kstrings_Count_0))))))
def ka_strings_Count : AFn := ⟨kc_strings_Count, 34, [.t 4], .keep, [], none⟩

def kc_strings_Index : AC :=
  (.seq (.ops [⟨(some 4), none, (.op (.mv (.c (.int .i64 0))))⟩])
  (.seq (.ops [⟨(some 5), none, (.op (.mv (.t 0)))⟩,
    ⟨(some 6), none, (.op (.mv (.t 1)))⟩,
    ⟨(some 7), none, (.call (.c (.fn (.func f_internal_stringslite_Index) [] [])) [(.t 5), (.t 6)])⟩,
    ⟨(some 4), none, (.op (.mv (.t 7)))⟩])
  .ret))
def ka_strings_Index : AFn := ⟨kc_strings_Index, 8, [.t 4], .keep, [], none⟩

def kc_morph_kinds_1 : AC :=
  (.ops [⟨(some 4), none, (.op (.mv (.t 0)))⟩,
    ⟨(some 5), none, (.op (.mv (.t 1)))⟩,
    ⟨(some 6), none, (.op (.ias 1 (.t 5) (.c (.int .i64 0))))⟩,
    ⟨(some 7), none, (.op (.ld none (.t 6)))⟩,
    ⟨(some 8), none, (.call (.c (.fn (.func f_morph_text) [] [])) [(.t 7)])⟩,
    ⟨(some 9), none, (.op (.nc (.t 4)))⟩,
    ⟨(some 10), none, (.op (.fa 0 (.t 9)))⟩,
    ⟨(some 11), none, (.op (.fa 0 (.t 10)))⟩,
    ⟨none, none, (.op (.st 1 (.t 11) (.t 8)))⟩])
def ka_morph_kinds_1 : AFn := ⟨kc_morph_kinds_1, 12, [], .keep, [], none⟩

def kc_morph_text : AC :=
  (.seq (.ops [⟨(some 2), none, (.op (.mv (.c (.str []))))⟩])
  (.seq (.seq (.ops [⟨(some 3), none, (.op (.mv (.t 0)))⟩,
    ⟨(some 4), none, (.op (.ar .eql (.t 3) (.c (.str [45]))))⟩])
  (.cond (.t 4)
    (.seq (.ops [⟨(some 2), none, (.op (.mv (.c (.str []))))⟩])
    .ret)
    .skip))
  (.seq (.ops [⟨(some 5), none, (.op (.mv (.t 0)))⟩,
    ⟨(some 2), none, (.op (.mv (.t 5)))⟩])
  .ret)))
def ka_morph_text : AFn := ⟨kc_morph_text, 6, [.t 2], .keep, [], none⟩

def kc_morph_kinds_2 : AC :=
  (.dops false [] [] [(⟨(some 4), none, (.op (.mv (.t 0)))⟩, .pure),
    (⟨(some 5), none, (.op (.mv (.t 0)))⟩, .pure),
    (⟨(some 6), none, (.op (.nc (.t 5)))⟩, .pure),
    (⟨(some 7), none, (.op (.fa 0 (.t 6)))⟩, .pure),
    (⟨(some 8), none, (.op (.fa 1 (.t 7)))⟩, .pure),
    (⟨(some 9), none, (.op (.ld none (.t 8)))⟩, .wide),
    (⟨(some 10), none, (.op (.mv (.t 1)))⟩, .pure),
    (⟨(some 11), none, (.op (.ias 1 (.t 10) (.c (.int .i64 0))))⟩, .pure),
    (⟨(some 12), none, (.op (.ld none (.t 11)))⟩, .wide),
    (⟨(some 13), none, (.op (.mv (.t 1)))⟩, .pure),
    (⟨(some 14), none, (.op (.sll 1 (.t 13) (some (.c (.int .i64 1))) none none))⟩, .pure),
    (⟨(some 15), none, (.op (.bd [(.str []), (.slice .nil 1 [])] [(0, 1), (1, 1)] [(0, (.t 12)), (1, (.t 14))]))⟩, .pure),
    (⟨(some 16), none, (.op (.bs 2 [(.str []), (.slice .nil 0 [])] 1 [(0, (.t 15))]))⟩, .pure),
    (⟨(some 17), none, (.op (.ap false t_api_Trait_1 2 40 false (.t 9) (.t 16)))⟩, .eff),
    (⟨(some 18), none, (.op (.nc (.t 4)))⟩, .pure),
    (⟨(some 19), none, (.op (.fa 0 (.t 18)))⟩, .pure),
    (⟨(some 20), none, (.op (.fa 1 (.t 19)))⟩, .pure),
    (⟨none, none, (.op (.st 1 (.t 20) (.t 17)))⟩, .eff)])
def ka_morph_kinds_2 : AFn := ⟨kc_morph_kinds_2, 21, [], .keep, [], none⟩

def kc_morph_kinds_3 : AC :=
  (.dops false [] [] [(⟨(some 4), none, (.op (.mv (.t 0)))⟩, .pure),
    (⟨(some 5), none, (.op (.mv (.t 0)))⟩, .pure),
    (⟨(some 6), none, (.op (.nc (.t 5)))⟩, .pure),
    (⟨(some 7), none, (.op (.fa 0 (.t 6)))⟩, .pure),
    (⟨(some 8), none, (.op (.fa 2 (.t 7)))⟩, .pure),
    (⟨(some 9), none, (.op (.ld none (.t 8)))⟩, .wide),
    (⟨(some 10), none, (.op (.mv (.t 1)))⟩, .pure),
    (⟨(some 11), none, (.op (.ias 1 (.t 10) (.c (.int .i64 0))))⟩, .pure),
    (⟨(some 12), none, (.op (.ld none (.t 11)))⟩, .wide),
    (⟨(some 13), none, (.op (.bd [(.str []), (.slice .nil 4 [])] [(0, 1), (1, 1)] [(0, (.t 12))]))⟩, .pure),
    (⟨(some 14), none, (.op (.bs 2 [(.str []), (.slice .nil 0 [])] 1 [(0, (.t 13))]))⟩, .pure),
    (⟨(some 15), none, (.op (.ap true t_api_Class_1 2 40 false (.t 9) (.t 14)))⟩, .eff),
    (⟨(some 16), none, (.op (.nc (.t 4)))⟩, .pure),
    (⟨(some 17), none, (.op (.fa 0 (.t 16)))⟩, .pure),
    (⟨(some 18), none, (.op (.fa 2 (.t 17)))⟩, .pure),
    (⟨none, none, (.op (.st 1 (.t 18) (.t 15)))⟩, .eff)])
def ka_morph_kinds_3 : AFn := ⟨kc_morph_kinds_3, 19, [], .keep, [0], none⟩

def kc_morph_kinds_4 : AC :=
  (.seq (.ops [⟨(some 5), none, (.op (.mv (.t 0)))⟩,
    ⟨(some 6), none, (.op (.nc (.t 5)))⟩,
    ⟨(some 7), none, (.op (.fa 6 (.t 6)))⟩,
    ⟨(some 8), none, (.op (.ld none (.t 7)))⟩,
    ⟨(some 9), none, (.op (.ar .eql (.t 8) (.c (.str [99, 108, 97, 115, 115]))))⟩,
    ⟨(some 10), none, (.op (.mv (.t 9)))⟩,
    ⟨(some 11), (some (10, false)), (.op (.mv (.t 0)))⟩,
    ⟨(some 12), (some (10, false)), (.op (.nc (.t 11)))⟩,
    ⟨(some 13), (some (10, false)), (.op (.fa 6 (.t 12)))⟩,
    ⟨(some 14), (some (10, false)), (.op (.ld none (.t 13)))⟩,
    ⟨(some 15), (some (10, false)), (.op (.ar .eql (.t 14) (.c (.str [115, 108, 111, 116]))))⟩,
    ⟨(some 16), none, (.op (.pk (.t 10) (.c (.bool true)) (.t 15)))⟩,
    ⟨(some 17), none, (.call (.c (.fn (.func f_morph_demand) [] [])) [(.t 16)])⟩])
  (.seq (.dops false [] [] [(⟨(some 18), none, (.op (.mv (.t 0)))⟩, .pure),
    (⟨(some 19), none, (.op (.nc (.t 18)))⟩, .pure),
    (⟨(some 20), none, (.op (.fa 0 (.t 19)))⟩, .pure),
    (⟨(some 21), none, (.op (.fa 2 (.t 20)))⟩, .pure),
    (⟨(some 22), none, (.op (.ld none (.t 21)))⟩, .wide),
    (⟨(some 23), none, (.op (.mv (.t 0)))⟩, .pure),
    (⟨(some 24), none, (.op (.nc (.t 23)))⟩, .pure),
    (⟨(some 25), none, (.op (.fa 0 (.t 24)))⟩, .pure),
    (⟨(some 26), none, (.op (.fa 2 (.t 25)))⟩, .pure),
    (⟨(some 27), none, (.op (.ld none (.t 26)))⟩, .wide),
    (⟨(some 28), none, (.op (.len .sl (.t 27)))⟩, .wide),
    (⟨(some 29), none, (.op (.ar .sub (.t 28) (.c (.int .i64 1))))⟩, .pure),
    (⟨(some 30), none, (.op (.ias 2 (.t 22) (.t 29)))⟩, .pure),
    (⟨(some 4), none, (.op (.mv (.t 30)))⟩, .pure)])
  (.dops false [] [] [(⟨(some 31), none, (.op (.mv (.t 4)))⟩, .pure),
    (⟨(some 32), none, (.op (.mv (.t 4)))⟩, .pure),
    (⟨(some 33), none, (.op (.nc (.t 32)))⟩, .pure),
    (⟨(some 34), none, (.op (.fa 1 (.t 33)))⟩, .pure),
    (⟨(some 35), none, (.op (.ld none (.t 34)))⟩, .wide),
    (⟨(some 36), none, (.op (.mv (.t 1)))⟩, .pure),
    (⟨(some 37), none, (.op (.ias 1 (.t 36) (.c (.int .i64 0))))⟩, .pure),
    (⟨(some 38), none, (.op (.ld none (.t 37)))⟩, .wide),
    (⟨(some 40), none, (.op (.mv (.t 1)))⟩, .pure),
    (⟨(some 41), none, (.op (.ias 1 (.t 40) (.c (.int .i64 1))))⟩, .pure),
    (⟨(some 42), none, (.op (.ld none (.t 41)))⟩, .wide),
    (⟨(some 44), none, (.op (.mv (.t 1)))⟩, .pure),
    (⟨(some 45), none, (.op (.ias 1 (.t 44) (.c (.int .i64 2))))⟩, .pure),
    (⟨(some 46), none, (.op (.ld none (.t 45)))⟩, .wide),
    (⟨(some 48), none, (.op (.mv (.t 1)))⟩, .pure),
    (⟨(some 49), none, (.op (.sll 1 (.t 48) (some (.c (.int .i64 3))) none none))⟩, .pure),
    (⟨(some 39), none, (.call (.c (.fn (.func f_morph_number) [] [])) [(.t 38)])⟩, .keep),
    (⟨(some 43), none, (.call (.c (.fn (.func f_morph_text) [] [])) [(.t 42)])⟩, .keep),
    (⟨(some 47), none, (.call (.c (.fn (.func f_morph_text) [] [])) [(.t 46)])⟩, .keep),
    (⟨(some 50), none, (.call (.c (.fn (.func f_morph_feats) [] [])) [(.t 49)])⟩, .keep),
    (⟨(some 51), none, (.op (.bd [(.int .i64 0), (.str []), (.str []), (.slice .nil 2 [])] [(0, 1), (1, 1), (2, 1), (3, 1)] [(0, (.t 39)), (1, (.t 43)), (2, (.t 47)), (3, (.t 50))]))⟩, .pure),
    (⟨(some 52), none, (.op (.bs 4 [(.int .i64 0), (.str []), (.str []), (.slice .nil 0 [])] 1 [(0, (.t 51))]))⟩, .pure),
    (⟨(some 53), none, (.op (.ap false t_api_Slot 4 64 false (.t 35) (.t 52)))⟩, .eff),
    (⟨(some 54), none, (.op (.nc (.t 31)))⟩, .pure),
    (⟨(some 55), none, (.op (.fa 1 (.t 54)))⟩, .pure),
    (⟨none, none, (.op (.st 1 (.t 55) (.t 53)))⟩, .eff)])))
def ka_morph_kinds_4 : AFn := ⟨kc_morph_kinds_4, 56, [], .keep, [], none⟩

def kc_morph_number : AC :=
  (.seq (.ops [⟨(some 2), none, (.op (.mv (.c (.int .i64 0))))⟩])
  (.seq (.ops [⟨(some 6), none, (.op (.mv (.t 0)))⟩,
    ⟨(some 7), none, (.call (.c (.fn (.func f_strconv_Atoi) [] [])) [(.t 6)])⟩,
    ⟨(some 5), none, (.op (.mv (.t 7)))⟩,
    ⟨(some 8), none, (.op (.ex (.t 5) 0))⟩,
    ⟨(some 9), none, (.op (.ex (.t 5) 1))⟩,
    ⟨(some 3), none, (.op (.mv (.t 8)))⟩,
    ⟨(some 4), none, (.op (.mv (.t 9)))⟩])
  (.seq (.ops [⟨(some 10), none, (.op (.mv (.t 4)))⟩,
    ⟨(some 11), none, (.op (.eq false (.ifc true) (.t 10) (.c .nilif)))⟩,
    ⟨(some 12), none, (.op (.mv (.t 11)))⟩,
    ⟨(some 13), (some (12, true)), (.op (.mv (.t 3)))⟩,
    ⟨(some 14), (some (12, true)), (.op (.ar .geq (.t 13) (.c (.int .i64 0))))⟩,
    ⟨(some 15), none, (.op (.pk (.t 12) (.t 14) (.c (.bool false))))⟩,
    ⟨(some 16), none, (.op (.mv (.t 15)))⟩,
    ⟨(some 17), (some (16, true)), (.op (.mv (.t 3)))⟩,
    ⟨(some 18), (some (16, true)), (.op (.ar .leq (.t 17) (.c (.int .i64 999))))⟩,
    ⟨(some 19), none, (.op (.pk (.t 16) (.t 18) (.c (.bool false))))⟩,
    ⟨(some 20), none, (.op (.mv (.t 19)))⟩,
    ⟨(some 21), (some (20, true)), (.op (.mv (.t 3)))⟩,
    ⟨(some 22), (some (20, true)), (.call (.c (.fn (.func f_strconv_Itoa) [] [])) [(.t 21)])⟩,
    ⟨(some 23), (some (20, true)), (.op (.mv (.t 0)))⟩,
    ⟨(some 24), (some (20, true)), (.op (.ar .eql (.t 22) (.t 23)))⟩,
    ⟨(some 25), none, (.op (.pk (.t 20) (.t 24) (.c (.bool false))))⟩,
    ⟨(some 26), none, (.call (.c (.fn (.func f_morph_demand) [] [])) [(.t 25)])⟩])
  (.seq (.ops [⟨(some 27), none, (.op (.mv (.t 3)))⟩,
    ⟨(some 2), none, (.op (.mv (.t 27)))⟩])
  .ret))))
def ka_morph_number : AFn := ⟨kc_morph_number, 28, [.t 2], .keep, [], none⟩

def l_kmorph_feats_0 : AC :=
  (.seq (.ops [⟨(some 12), none, (.op (.ar .lss (.t 11) (.t 10)))⟩])
  (.seq (.cond (.t 12)
    .skip
    (.exit 0))
  (.seq (.block 1 (.seq (.ops [⟨(some 13), none, (.op (.ias 1 (.t 9) (.t 11)))⟩,
    ⟨(some 14), none, (.op (.ld none (.t 13)))⟩,
    ⟨(some 5), none, (.op (.mv (.t 14)))⟩])
  (.seq (.ops [⟨(some 15), none, (.op (.mv (.t 5)))⟩,
    ⟨(some 16), none, (.call (.c (.fn (.func f_strings_Count) [] [])) [(.t 15), (.c (.str [61]))])⟩,
    ⟨(some 17), none, (.op (.ar .eql (.t 16) (.c (.int .i64 1))))⟩,
    ⟨(some 18), none, (.call (.c (.fn (.func f_morph_demand) [] [])) [(.t 17)])⟩])
  (.seq (.ops [⟨(some 20), none, (.op (.mv (.t 5)))⟩,
    ⟨(some 21), none, (.call (.c (.fn (.func f_strings_Cut) [] [])) [(.t 20), (.c (.str [61]))])⟩,
    ⟨(some 19), none, (.op (.mv (.t 21)))⟩,
    ⟨(some 22), none, (.op (.ex (.t 19) 0))⟩,
    ⟨(some 23), none, (.op (.ex (.t 19) 1))⟩,
    ⟨(some 24), none, (.op (.ex (.t 19) 2))⟩,
    ⟨(some 6), none, (.op (.mv (.t 22)))⟩,
    ⟨(some 7), none, (.op (.mv (.t 23)))⟩,
    ⟨(some 8), none, (.op (.mv (.t 24)))⟩])
  (.ops [⟨(some 25), none, (.op (.mv (.t 3)))⟩,
    ⟨(some 26), none, (.op (.mv (.t 6)))⟩,
    ⟨(some 27), none, (.op (.mv (.t 7)))⟩,
    ⟨(some 28), none, (.op (.bd [(.str []), (.str [])] [(0, 1), (1, 1)] [(0, (.t 26)), (1, (.t 27))]))⟩,
    ⟨(some 29), none, (.op (.bs 2 [(.str []), (.str [])] 1 [(0, (.t 28))]))⟩,
    ⟨(some 30), none, (.op (.ap false t_api_Feat_1 2 32 false (.t 25) (.t 29)))⟩,
    ⟨(some 3), none, (.op (.mv (.t 30)))⟩])))))
  (.ops [⟨(some 31), none, (.op (.ar .add (.t 11) (.c (.int .i64 1))))⟩,
    ⟨(some 11), none, (.op (.mv (.t 31)))⟩]))))

def kc_morph_feats : AC :=
  (.seq (.ops [⟨(some 2), none, (.op (.mv (.c (.slice .nil 2 []))))⟩])
  (.seq (.ops [⟨(some 3), none, (.op (.mv (.c (.slice .nil 2 []))))⟩])
  (.seq (.seq (.ops [⟨(some 9), none, (.op (.mv (.t 0)))⟩,
    ⟨(some 10), none, (.op (.len .sl (.t 9)))⟩,
    ⟨(some 11), none, (.op (.mv (.c (.int .i64 0))))⟩])
  (.block 0 (.loop ⟨none, [], false⟩ l_kmorph_feats_0)))
  (.seq (.ops [⟨(some 32), none, (.op (.mv (.t 3)))⟩,
    ⟨(some 2), none, (.op (.mv (.t 32)))⟩])
  .ret))))
def ka_morph_feats : AFn := ⟨kc_morph_feats, 33, [.t 2], .keep, [], none⟩

def kc_morph_kinds_5 : AC :=
  (.dops false [] [] [(⟨(some 4), none, (.op (.mv (.t 0)))⟩, .pure),
    (⟨(some 5), none, (.op (.mv (.t 0)))⟩, .pure),
    (⟨(some 6), none, (.op (.nc (.t 5)))⟩, .pure),
    (⟨(some 7), none, (.op (.fa 0 (.t 6)))⟩, .pure),
    (⟨(some 8), none, (.op (.fa 3 (.t 7)))⟩, .pure),
    (⟨(some 9), none, (.op (.ld none (.t 8)))⟩, .wide),
    (⟨(some 10), none, (.op (.mv (.t 1)))⟩, .pure),
    (⟨(some 11), none, (.op (.ias 1 (.t 10) (.c (.int .i64 0))))⟩, .pure),
    (⟨(some 12), none, (.op (.ld none (.t 11)))⟩, .wide),
    (⟨(some 13), none, (.op (.mv (.t 1)))⟩, .pure),
    (⟨(some 14), none, (.op (.ias 1 (.t 13) (.c (.int .i64 1))))⟩, .pure),
    (⟨(some 15), none, (.op (.ld none (.t 14)))⟩, .wide),
    (⟨(some 16), none, (.op (.mv (.t 1)))⟩, .pure),
    (⟨(some 17), none, (.op (.sll 1 (.t 16) (some (.c (.int .i64 2))) none none))⟩, .pure),
    (⟨(some 18), none, (.call (.c (.fn (.func f_morph_feats) [] [])) [(.t 17)])⟩, .keep),
    (⟨(some 19), none, (.op (.bd [(.str []), (.str []), (.slice .nil 2 []), (.slice .nil 2 [])] [(0, 1), (1, 1), (2, 1), (3, 1)] [(0, (.t 12)), (1, (.t 15)), (2, (.t 18))]))⟩, .pure),
    (⟨(some 20), none, (.op (.bs 4 [(.str []), (.str []), (.slice .nil 0 []), (.slice .nil 0 [])] 1 [(0, (.t 19))]))⟩, .pure),
    (⟨(some 21), none, (.op (.ap true t_api_Entry_1 4 80 false (.t 9) (.t 20)))⟩, .eff),
    (⟨(some 22), none, (.op (.nc (.t 4)))⟩, .pure),
    (⟨(some 23), none, (.op (.fa 0 (.t 22)))⟩, .pure),
    (⟨(some 24), none, (.op (.fa 3 (.t 23)))⟩, .pure),
    (⟨none, none, (.op (.st 1 (.t 24) (.t 21)))⟩, .eff)])
def ka_morph_kinds_5 : AFn := ⟨kc_morph_kinds_5, 25, [], .keep, [0], none⟩

def kc_morph_kinds_6 : AC :=
  (.seq (.ops [⟨(some 5), none, (.op (.mv (.t 0)))⟩,
    ⟨(some 6), none, (.op (.nc (.t 5)))⟩,
    ⟨(some 7), none, (.op (.fa 6 (.t 6)))⟩,
    ⟨(some 8), none, (.op (.ld none (.t 7)))⟩,
    ⟨(some 9), none, (.op (.ar .eql (.t 8) (.c (.str [101, 110, 116, 114, 121]))))⟩,
    ⟨(some 10), none, (.op (.mv (.t 9)))⟩,
    ⟨(some 11), (some (10, false)), (.op (.mv (.t 0)))⟩,
    ⟨(some 12), (some (10, false)), (.op (.nc (.t 11)))⟩,
    ⟨(some 13), (some (10, false)), (.op (.fa 6 (.t 12)))⟩,
    ⟨(some 14), (some (10, false)), (.op (.ld none (.t 13)))⟩,
    ⟨(some 15), (some (10, false)), (.op (.ar .eql (.t 14) (.c (.str [102, 111, 114, 109]))))⟩,
    ⟨(some 16), none, (.op (.pk (.t 10) (.c (.bool true)) (.t 15)))⟩,
    ⟨(some 17), none, (.call (.c (.fn (.func f_morph_demand) [] [])) [(.t 16)])⟩])
  (.seq (.dops false [] [] [(⟨(some 18), none, (.op (.mv (.t 0)))⟩, .pure),
    (⟨(some 19), none, (.op (.nc (.t 18)))⟩, .pure),
    (⟨(some 20), none, (.op (.fa 0 (.t 19)))⟩, .pure),
    (⟨(some 21), none, (.op (.fa 3 (.t 20)))⟩, .pure),
    (⟨(some 22), none, (.op (.ld none (.t 21)))⟩, .wide),
    (⟨(some 23), none, (.op (.mv (.t 0)))⟩, .pure),
    (⟨(some 24), none, (.op (.nc (.t 23)))⟩, .pure),
    (⟨(some 25), none, (.op (.fa 0 (.t 24)))⟩, .pure),
    (⟨(some 26), none, (.op (.fa 3 (.t 25)))⟩, .pure),
    (⟨(some 27), none, (.op (.ld none (.t 26)))⟩, .wide),
    (⟨(some 28), none, (.op (.len .sl (.t 27)))⟩, .wide),
    (⟨(some 29), none, (.op (.ar .sub (.t 28) (.c (.int .i64 1))))⟩, .pure),
    (⟨(some 30), none, (.op (.ias 4 (.t 22) (.t 29)))⟩, .pure),
    (⟨(some 4), none, (.op (.mv (.t 30)))⟩, .pure)])
  (.dops false [] [] [(⟨(some 31), none, (.op (.mv (.t 4)))⟩, .pure),
    (⟨(some 32), none, (.op (.mv (.t 4)))⟩, .pure),
    (⟨(some 33), none, (.op (.nc (.t 32)))⟩, .pure),
    (⟨(some 34), none, (.op (.fa 3 (.t 33)))⟩, .pure),
    (⟨(some 35), none, (.op (.ld none (.t 34)))⟩, .wide),
    (⟨(some 36), none, (.op (.mv (.t 1)))⟩, .pure),
    (⟨(some 37), none, (.op (.ias 1 (.t 36) (.c (.int .i64 0))))⟩, .pure),
    (⟨(some 38), none, (.op (.ld none (.t 37)))⟩, .wide),
    (⟨(some 40), none, (.op (.mv (.t 1)))⟩, .pure),
    (⟨(some 41), none, (.op (.ias 1 (.t 40) (.c (.int .i64 1))))⟩, .pure),
    (⟨(some 42), none, (.op (.ld none (.t 41)))⟩, .wide),
    (⟨(some 39), none, (.call (.c (.fn (.func f_morph_number) [] [])) [(.t 38)])⟩, .keep),
    (⟨(some 43), none, (.call (.c (.fn (.func f_morph_text) [] [])) [(.t 42)])⟩, .keep),
    (⟨(some 44), none, (.op (.bd [(.int .i64 0), (.str [])] [(0, 1), (1, 1)] [(0, (.t 39)), (1, (.t 43))]))⟩, .pure),
    (⟨(some 45), none, (.op (.bs 2 [(.int .i64 0), (.str [])] 1 [(0, (.t 44))]))⟩, .pure),
    (⟨(some 46), none, (.op (.ap false t_api_Irregular_1 2 24 false (.t 35) (.t 45)))⟩, .eff),
    (⟨(some 47), none, (.op (.nc (.t 31)))⟩, .pure),
    (⟨(some 48), none, (.op (.fa 3 (.t 47)))⟩, .pure),
    (⟨none, none, (.op (.st 1 (.t 48) (.t 46)))⟩, .eff)])))
def ka_morph_kinds_6 : AFn := ⟨kc_morph_kinds_6, 49, [], .keep, [], none⟩

def kc_morph_kinds_7 : AC :=
  (.dops false [] [] [(⟨(some 4), none, (.op (.mv (.t 0)))⟩, .pure),
    (⟨(some 5), none, (.op (.mv (.t 0)))⟩, .pure),
    (⟨(some 6), none, (.op (.nc (.t 5)))⟩, .pure),
    (⟨(some 7), none, (.op (.fa 0 (.t 6)))⟩, .pure),
    (⟨(some 8), none, (.op (.fa 4 (.t 7)))⟩, .pure),
    (⟨(some 9), none, (.op (.ld none (.t 8)))⟩, .wide),
    (⟨(some 10), none, (.op (.mv (.t 1)))⟩, .pure),
    (⟨(some 11), none, (.op (.ias 1 (.t 10) (.c (.int .i64 0))))⟩, .pure),
    (⟨(some 12), none, (.op (.ld none (.t 11)))⟩, .wide),
    (⟨(some 14), none, (.op (.mv (.t 1)))⟩, .pure),
    (⟨(some 15), none, (.op (.ias 1 (.t 14) (.c (.int .i64 1))))⟩, .pure),
    (⟨(some 16), none, (.op (.ld none (.t 15)))⟩, .wide),
    (⟨(some 18), none, (.op (.mv (.t 1)))⟩, .pure),
    (⟨(some 19), none, (.op (.ias 1 (.t 18) (.c (.int .i64 2))))⟩, .pure),
    (⟨(some 20), none, (.op (.ld none (.t 19)))⟩, .wide),
    (⟨(some 22), none, (.op (.mv (.t 1)))⟩, .pure),
    (⟨(some 23), none, (.op (.ias 1 (.t 22) (.c (.int .i64 3))))⟩, .pure),
    (⟨(some 24), none, (.op (.ld none (.t 23)))⟩, .wide),
    (⟨(some 13), none, (.call (.c (.fn (.func f_morph_text) [] [])) [(.t 12)])⟩, .keep),
    (⟨(some 17), none, (.call (.c (.fn (.func f_morph_text) [] [])) [(.t 16)])⟩, .keep),
    (⟨(some 21), none, (.call (.c (.fn (.func f_morph_text) [] [])) [(.t 20)])⟩, .keep),
    (⟨(some 25), none, (.call (.c (.fn (.func f_morph_text) [] [])) [(.t 24)])⟩, .keep),
    (⟨(some 26), none, (.op (.bd [(.str []), (.str []), (.str []), (.str [])] [(0, 1), (1, 1), (2, 1), (3, 1)] [(0, (.t 13)), (1, (.t 17)), (2, (.t 21)), (3, (.t 25))]))⟩, .pure),
    (⟨(some 27), none, (.op (.bs 4 [(.str []), (.str []), (.str []), (.str [])] 1 [(0, (.t 26))]))⟩, .pure),
    (⟨(some 28), none, (.op (.ap false t_api_Spell_1 4 64 false (.t 9) (.t 27)))⟩, .eff),
    (⟨(some 29), none, (.op (.nc (.t 4)))⟩, .pure),
    (⟨(some 30), none, (.op (.fa 0 (.t 29)))⟩, .pure),
    (⟨(some 31), none, (.op (.fa 4 (.t 30)))⟩, .pure),
    (⟨none, none, (.op (.st 1 (.t 31) (.t 28)))⟩, .eff)])
def ka_morph_kinds_7 : AFn := ⟨kc_morph_kinds_7, 32, [], .keep, [], none⟩

def kc_morph_kinds_8 : AC :=
  (.dops false [] [] [(⟨(some 4), none, (.op (.mv (.t 0)))⟩, .pure),
    (⟨(some 5), none, (.op (.mv (.t 0)))⟩, .pure),
    (⟨(some 6), none, (.op (.nc (.t 5)))⟩, .pure),
    (⟨(some 7), none, (.op (.fa 0 (.t 6)))⟩, .pure),
    (⟨(some 8), none, (.op (.fa 5 (.t 7)))⟩, .pure),
    (⟨(some 9), none, (.op (.ld none (.t 8)))⟩, .wide),
    (⟨(some 10), none, (.op (.mv (.t 1)))⟩, .pure),
    (⟨(some 11), none, (.op (.ias 1 (.t 10) (.c (.int .i64 0))))⟩, .pure),
    (⟨(some 12), none, (.op (.ld none (.t 11)))⟩, .wide),
    (⟨(some 13), none, (.op (.mv (.t 1)))⟩, .pure),
    (⟨(some 14), none, (.op (.ias 1 (.t 13) (.c (.int .i64 1))))⟩, .pure),
    (⟨(some 15), none, (.op (.ld none (.t 14)))⟩, .wide),
    (⟨(some 16), none, (.call (.c (.fn (.func f_morph_text) [] [])) [(.t 15)])⟩, .keep),
    (⟨(some 17), none, (.op (.mv (.t 1)))⟩, .pure),
    (⟨(some 18), none, (.op (.sll 1 (.t 17) (some (.c (.int .i64 2))) none none))⟩, .pure),
    (⟨(some 19), none, (.call (.c (.fn (.func f_morph_feats) [] [])) [(.t 18)])⟩, .keep),
    (⟨(some 20), none, (.op (.bd [(.str []), (.str []), (.slice .nil 2 [])] [(0, 1), (1, 1), (2, 1)] [(0, (.t 12)), (1, (.t 16)), (2, (.t 19))]))⟩, .pure),
    (⟨(some 21), none, (.op (.bs 3 [(.str []), (.str []), (.slice .nil 0 [])] 1 [(0, (.t 20))]))⟩, .pure),
    (⟨(some 22), none, (.op (.ap false t_api_Link_1 3 56 false (.t 9) (.t 21)))⟩, .eff),
    (⟨(some 23), none, (.op (.nc (.t 4)))⟩, .pure),
    (⟨(some 24), none, (.op (.fa 0 (.t 23)))⟩, .pure),
    (⟨(some 25), none, (.op (.fa 5 (.t 24)))⟩, .pure),
    (⟨none, none, (.op (.st 1 (.t 25) (.t 22)))⟩, .eff)])
def ka_morph_kinds_8 : AFn := ⟨kc_morph_kinds_8, 26, [], .keep, [], none⟩

def kc_slices_ContainsFunc_api_Trait_api_Trait : AC :=
  (.seq (.ops [⟨(some 4), none, (.op (.mv (.c (.bool false))))⟩])
  (.seq (.ops [⟨(some 5), none, (.op (.mv (.t 0)))⟩,
    ⟨(some 6), none, (.op (.mv (.t 1)))⟩,
    ⟨(some 7), none, (.call (.c (.fn (.func f_slices_IndexFunc_api_Trait_api_Trait) [] [])) [(.t 5), (.t 6)])⟩,
    ⟨(some 8), none, (.op (.ar .geq (.t 7) (.c (.int .i64 0))))⟩,
    ⟨(some 4), none, (.op (.mv (.t 8)))⟩])
  .ret))
def ka_slices_ContainsFunc_api_Trait_api_Trait : AFn := ⟨kc_slices_ContainsFunc_api_Trait_api_Trait, 9, [.t 4], .keep, [], none⟩

def kc_morph_checker_trait_1 : AC :=
  (.seq (.ops [⟨(some 2), none, (.op (.bx t_api_Trait_1 (.t 0)))⟩,
    ⟨(some 3), none, (.op (.mv (.c (.bool false))))⟩])
  (.seq (.ops [⟨(some 4), none, (.op (.fa 0 (.t 2)))⟩,
    ⟨(some 5), none, (.op (.ld none (.t 4)))⟩,
    ⟨(some 6), none, (.op (.fa 0 (.t 1)))⟩,
    ⟨(some 7), none, (.op (.ld none (.t 6)))⟩,
    ⟨(some 8), none, (.op (.ar .eql (.t 5) (.t 7)))⟩,
    ⟨(some 3), none, (.op (.mv (.t 8)))⟩])
  .ret))
def ka_morph_checker_trait_1 : AFn := ⟨kc_morph_checker_trait_1, 9, [.t 3], .keep, [], none⟩

def kc_slices_Contains_string_string : AC :=
  (.seq (.ops [⟨(some 4), none, (.op (.mv (.c (.bool false))))⟩])
  (.seq (.ops [⟨(some 5), none, (.op (.mv (.t 0)))⟩,
    ⟨(some 6), none, (.op (.mv (.t 1)))⟩,
    ⟨(some 7), none, (.call (.c (.fn (.func f_slices_Index_string_string) [] [])) [(.t 5), (.t 6)])⟩,
    ⟨(some 8), none, (.op (.ar .geq (.t 7) (.c (.int .i64 0))))⟩,
    ⟨(some 4), none, (.op (.mv (.t 8)))⟩])
  .ret))
def ka_slices_Contains_string_string : AFn := ⟨kc_slices_Contains_string_string, 9, [.t 4], .keep, [], none⟩

def kc_slices_ContainsFunc_api_Class_api_Class : AC :=
  (.seq (.ops [⟨(some 4), none, (.op (.mv (.c (.bool false))))⟩])
  (.seq (.ops [⟨(some 5), none, (.op (.mv (.t 0)))⟩,
    ⟨(some 6), none, (.op (.mv (.t 1)))⟩,
    ⟨(some 7), none, (.call (.c (.fn (.func f_slices_IndexFunc_api_Class_api_Class) [] [])) [(.t 5), (.t 6)])⟩,
    ⟨(some 8), none, (.op (.ar .geq (.t 7) (.c (.int .i64 0))))⟩,
    ⟨(some 4), none, (.op (.mv (.t 8)))⟩])
  .ret))
def ka_slices_ContainsFunc_api_Class_api_Class : AFn := ⟨kc_slices_ContainsFunc_api_Class_api_Class, 9, [.t 4], .keep, [], none⟩

def kc_morph_checker_class_1 : AC :=
  (.seq (.ops [⟨(some 2), none, (.op (.bx t_api_Class_1 (.t 0)))⟩,
    ⟨(some 3), none, (.op (.mv (.c (.bool false))))⟩])
  (.seq (.ops [⟨(some 4), none, (.op (.fa 0 (.t 2)))⟩,
    ⟨(some 5), none, (.op (.ld none (.t 4)))⟩,
    ⟨(some 6), none, (.op (.fa 0 (.t 1)))⟩,
    ⟨(some 7), none, (.op (.ld none (.t 6)))⟩,
    ⟨(some 8), none, (.op (.ar .eql (.t 5) (.t 7)))⟩,
    ⟨(some 3), none, (.op (.mv (.t 8)))⟩])
  .ret))
def ka_morph_checker_class_1 : AFn := ⟨kc_morph_checker_class_1, 9, [.t 3], .keep, [], none⟩

def l_kmorph_each_api_Slot_0 : AC :=
  (.seq (.ops [⟨(some 17), none, (.op (.ar .lss (.t 16) (.t 15)))⟩])
  (.seq (.cond (.t 17)
    .skip
    (.exit 0))
  (.seq (.block 1 (.seq (.ops [⟨(some 18), none, (.op (.mv (.t 16)))⟩,
    ⟨(some 19), none, (.op (.ias 4 (.t 14) (.t 16)))⟩,
    ⟨(some 20), none, (.op (.ld (some 4) (.t 19)))⟩,
    ⟨(some 8), none, (.op (.nw [(.int .i64 0), (.str []), (.str []), (.slice .nil 2 [])] t_api_Slot))⟩,
    ⟨(some 7), none, (.op (.mv (.t 18)))⟩,
    ⟨none, none, (.op (.st 4 (.t 8) (.t 20)))⟩])
  (.seq (.ops [⟨(some 21), none, (.op (.mv (.t 2)))⟩,
    ⟨(some 22), none, (.op (.mv (.t 7)))⟩,
    ⟨(some 23), none, (.op (.ld (some 4) (.t 8)))⟩,
    ⟨(some 24), none, (.call (.t 21) [(.t 22), (.t 23)])⟩,
    ⟨(some 9), none, (.op (.mv (.t 24)))⟩])
  (.seq (.ops [⟨(some 25), none, (.op (.mv (.t 9)))⟩,
    ⟨(some 26), none, (.op (.ar .neq (.t 25) (.c (.int .u8 0))))⟩])
  (.cond (.t 26)
    (.seq (.ops [⟨(some 27), none, (.op (.mv (.t 9)))⟩,
      ⟨(some 6), none, (.op (.mv (.t 27)))⟩])
    .ret)
    .skip)))))
  (.ops [⟨(some 28), none, (.op (.ar .add (.t 16) (.c (.int .i64 1))))⟩,
    ⟨(some 16), none, (.op (.mv (.t 28)))⟩]))))

def kc_morph_each_api_Slot : AC :=
  (.seq (.ops [⟨(some 6), none, (.op (.mv (.c (.int .u8 0))))⟩])
  (.seq (.seq (.ops [⟨(some 10), none, (.op (.mv (.t 0)))⟩,
    ⟨(some 11), none, (.op (.len .sl (.t 10)))⟩,
    ⟨(some 12), none, (.op (.mv (.t 1)))⟩,
    ⟨(some 13), none, (.op (.ar .gtr (.t 11) (.t 12)))⟩])
  (.cond (.t 13)
    (.seq (.ops [⟨(some 6), none, (.op (.mv (.c (.int .u8 3))))⟩])
    .ret)
    .skip))
  (.seq (.seq (.ops [⟨(some 14), none, (.op (.mv (.t 0)))⟩,
    ⟨(some 15), none, (.op (.len .sl (.t 14)))⟩,
    ⟨(some 16), none, (.op (.mv (.c (.int .i64 0))))⟩])
  (.block 0 (.loop ⟨none, [], false⟩ l_kmorph_each_api_Slot_0)))
  (.seq (.ops [⟨(some 6), none, (.op (.mv (.c (.int .u8 0))))⟩])
  .ret))))
def ka_morph_each_api_Slot : AFn := ⟨kc_morph_each_api_Slot, 29, [.t 6], .keep, [], none⟩

def kc_morph_checker_class_2 : AC :=
  (.seq (.ops [⟨(some 4), none, (.op (.bx t_api_Slot (.t 1)))⟩,
    ⟨(some 5), none, (.op (.mv (.c (.int .u8 0))))⟩])
  (.seq (.seq (.ops [⟨(some 6), none, (.op (.fa 0 (.t 4)))⟩,
    ⟨(some 7), none, (.op (.ld none (.t 6)))⟩,
    ⟨(some 8), none, (.op (.ar .lss (.t 7) (.c (.int .i64 0))))⟩,
    ⟨(some 9), none, (.op (.mv (.t 8)))⟩,
    ⟨(some 10), (some (9, false)), (.op (.fa 0 (.t 4)))⟩,
    ⟨(some 11), (some (9, false)), (.op (.ld none (.t 10)))⟩,
    ⟨(some 12), (some (9, false)), (.op (.ar .gtr (.t 11) (.c (.int .i64 24))))⟩,
    ⟨(some 13), none, (.op (.pk (.t 9) (.c (.bool true)) (.t 12)))⟩,
    ⟨(some 14), none, (.op (.mv (.t 13)))⟩,
    ⟨(some 15), (some (14, false)), (.op (.fa 1 (.t 4)))⟩,
    ⟨(some 16), (some (14, false)), (.op (.ld none (.t 15)))⟩,
    ⟨(some 17), (some (14, false)), (.call (.c (.fn (.func f_morph_short) [] [])) [(.t 16), (.c (.fn (.func f_morph_letter) [] []))])⟩,
    ⟨(some 18), (some (14, false)), (.op (.un .not (.t 17)))⟩,
    ⟨(some 19), none, (.op (.pk (.t 14) (.c (.bool true)) (.t 18)))⟩,
    ⟨(some 20), none, (.op (.mv (.t 19)))⟩,
    ⟨(some 21), (some (20, false)), (.op (.fa 2 (.t 4)))⟩,
    ⟨(some 22), (some (20, false)), (.op (.ld none (.t 21)))⟩,
    ⟨(some 23), (some (20, false)), (.call (.c (.fn (.func f_morph_short) [] [])) [(.t 22), (.c (.fn (.func f_morph_letter) [] []))])⟩,
    ⟨(some 24), (some (20, false)), (.op (.un .not (.t 23)))⟩,
    ⟨(some 25), none, (.op (.pk (.t 20) (.c (.bool true)) (.t 24)))⟩])
  (.cond (.t 25)
    (.seq (.ops [⟨(some 5), none, (.op (.mv (.c (.int .u8 1))))⟩])
    .ret)
    .skip))
  (.seq (.ops [⟨(some 26), none, (.op (.ld (some 6) (.t 2)))⟩,
    ⟨(some 27), none, (.op (.fa 3 (.t 4)))⟩,
    ⟨(some 28), none, (.op (.ld none (.t 27)))⟩,
    ⟨(some 29), none, (.call (.c (.fn (.func f_morph_checker_bundle) [] [])) [(.t 26), (.t 28)])⟩,
    ⟨(some 5), none, (.op (.mv (.t 29)))⟩])
  .ret)))
def ka_morph_checker_class_2 : AFn := ⟨kc_morph_checker_class_2, 30, [.t 5], .keep, [], none⟩

def kc_morph_short : AC :=
  (.seq (.ops [⟨(some 4), none, (.op (.mv (.c (.bool false))))⟩])
  (.seq (.ops [⟨(some 5), none, (.op (.mv (.t 0)))⟩,
    ⟨(some 6), none, (.op (.len .str (.t 5)))⟩,
    ⟨(some 7), none, (.op (.ar .leq (.t 6) (.c (.int .i64 6))))⟩,
    ⟨(some 8), none, (.op (.mv (.t 7)))⟩,
    ⟨(some 9), (some (8, true)), (.op (.mv (.t 0)))⟩,
    ⟨(some 10), (some (8, true)), (.op (.mv (.t 1)))⟩,
    ⟨(some 11), (some (8, true)), (.call (.c (.fn (.func f_morph_all) [] [])) [(.t 9), (.t 10)])⟩,
    ⟨(some 12), none, (.op (.pk (.t 8) (.t 11) (.c (.bool false))))⟩,
    ⟨(some 4), none, (.op (.mv (.t 12)))⟩])
  .ret))
def ka_morph_short : AFn := ⟨kc_morph_short, 13, [.t 4], .keep, [], none⟩

def kc_morph_checker_bundle : AC :=
  (.seq (.ops [⟨(some 2), none, (.op (.bx t_morph_checker (.t 0)))⟩,
    ⟨(some 3), none, (.op (.bx t_api_Feat (.t 1)))⟩,
    ⟨(some 4), none, (.op (.mv (.c (.int .u8 0))))⟩])
  (.seq (.ops [⟨(some 5), none, (.op (.ld none (.t 3)))⟩,
    ⟨(some 6), none, (.op (.mf (.func f_morph_checker_bundle_1) [] [(.t 2), (.t 3)]))⟩,
    ⟨(some 7), none, (.call (.c (.fn (.func f_morph_each_api_Feat) [] [])) [(.t 5), (.c (.int .i64 8)), (.t 6)])⟩,
    ⟨(some 4), none, (.op (.mv (.t 7)))⟩])
  .ret))
def ka_morph_checker_bundle : AFn := ⟨kc_morph_checker_bundle, 8, [.t 4], .keep, [], none⟩

def kc_morph_classOf : AC :=
  (.seq (.ops [⟨(some 2), none, (.op (.bx t_api_Lexicon (.t 0)))⟩,
    ⟨(some 3), none, (.op (.bx t_string (.t 1)))⟩,
    ⟨(some 4), none, (.op (.nw [(.str []), (.slice .nil 4 [])] t_api_Class_1))⟩,
    ⟨(some 5), none, (.op (.mv (.c (.bool false))))⟩])
  (.seq (.ops [⟨(some 7), none, (.op (.fa 2 (.t 2)))⟩,
    ⟨(some 8), none, (.op (.ld none (.t 7)))⟩,
    ⟨(some 9), none, (.op (.mf (.func f_morph_classOf_1) [] [(.t 3)]))⟩,
    ⟨(some 10), none, (.call (.c (.fn (.func f_slices_IndexFunc_api_Class_api_Class) [] [])) [(.t 8), (.t 9)])⟩,
    ⟨(some 6), none, (.op (.mv (.t 10)))⟩])
  (.seq (.seq (.ops [⟨(some 11), none, (.op (.mv (.t 6)))⟩,
    ⟨(some 12), none, (.op (.ar .lss (.t 11) (.c (.int .i64 0))))⟩])
  (.cond (.t 12)
    (.seq (.ops [⟨(some 13), none, (.op (.bd [(.str []), (.slice .nil 4 [])] [(0, 1), (1, 1)] []))⟩,
      ⟨none, none, (.op (.st 2 (.t 4) (.t 13)))⟩,
      ⟨(some 5), none, (.op (.mv (.c (.bool false))))⟩])
    .ret)
    .skip))
  (.seq (.ops [⟨(some 14), none, (.op (.fa 2 (.t 2)))⟩,
    ⟨(some 15), none, (.op (.ld none (.t 14)))⟩,
    ⟨(some 16), none, (.op (.mv (.t 6)))⟩,
    ⟨(some 17), none, (.op (.ias 2 (.t 15) (.t 16)))⟩,
    ⟨(some 18), none, (.op (.ld (some 2) (.t 17)))⟩,
    ⟨none, none, (.op (.st 2 (.t 4) (.t 18)))⟩,
    ⟨(some 5), none, (.op (.mv (.c (.bool true))))⟩])
  .ret))))
def ka_morph_classOf : AFn := ⟨kc_morph_classOf, 19, [.cell 4 (some 2), .t 5], .keep, [], none⟩

def kc_slices_ContainsFunc_api_Entry_api_Entry : AC :=
  (.seq (.ops [⟨(some 4), none, (.op (.mv (.c (.bool false))))⟩])
  (.seq (.ops [⟨(some 5), none, (.op (.mv (.t 0)))⟩,
    ⟨(some 6), none, (.op (.mv (.t 1)))⟩,
    ⟨(some 7), none, (.call (.c (.fn (.func f_slices_IndexFunc_api_Entry_api_Entry) [] [])) [(.t 5), (.t 6)])⟩,
    ⟨(some 8), none, (.op (.ar .geq (.t 7) (.c (.int .i64 0))))⟩,
    ⟨(some 4), none, (.op (.mv (.t 8)))⟩])
  .ret))
def ka_slices_ContainsFunc_api_Entry_api_Entry : AFn := ⟨kc_slices_ContainsFunc_api_Entry_api_Entry, 9, [.t 4], .keep, [], none⟩

def kc_morph_checker_entry_1 : AC :=
  (.seq (.ops [⟨(some 2), none, (.op (.bx t_api_Entry_1 (.t 0)))⟩,
    ⟨(some 3), none, (.op (.mv (.c (.bool false))))⟩])
  (.seq (.ops [⟨(some 4), none, (.op (.fa 0 (.t 2)))⟩,
    ⟨(some 5), none, (.op (.ld none (.t 4)))⟩,
    ⟨(some 6), none, (.op (.fa 0 (.t 1)))⟩,
    ⟨(some 7), none, (.op (.ld none (.t 6)))⟩,
    ⟨(some 8), none, (.op (.ar .eql (.t 5) (.t 7)))⟩,
    ⟨(some 9), none, (.op (.mv (.t 8)))⟩,
    ⟨(some 10), (some (9, true)), (.op (.fa 1 (.t 2)))⟩,
    ⟨(some 11), (some (9, true)), (.op (.ld none (.t 10)))⟩,
    ⟨(some 12), (some (9, true)), (.op (.fa 1 (.t 1)))⟩,
    ⟨(some 13), (some (9, true)), (.op (.ld none (.t 12)))⟩,
    ⟨(some 14), (some (9, true)), (.op (.ar .eql (.t 11) (.t 13)))⟩,
    ⟨(some 15), none, (.op (.pk (.t 9) (.t 14) (.c (.bool false))))⟩,
    ⟨(some 3), none, (.op (.mv (.t 15)))⟩])
  .ret))
def ka_morph_checker_entry_1 : AFn := ⟨kc_morph_checker_entry_1, 16, [.t 3], .keep, [], none⟩

def kc_slices_ContainsFunc_api_Slot_api_Slot : AC :=
  (.seq (.ops [⟨(some 4), none, (.op (.mv (.c (.bool false))))⟩])
  (.seq (.ops [⟨(some 5), none, (.op (.mv (.t 0)))⟩,
    ⟨(some 6), none, (.op (.mv (.t 1)))⟩,
    ⟨(some 7), none, (.call (.c (.fn (.func f_slices_IndexFunc_api_Slot_api_Slot) [] [])) [(.t 5), (.t 6)])⟩,
    ⟨(some 8), none, (.op (.ar .geq (.t 7) (.c (.int .i64 0))))⟩,
    ⟨(some 4), none, (.op (.mv (.t 8)))⟩])
  .ret))
def ka_slices_ContainsFunc_api_Slot_api_Slot : AFn := ⟨kc_slices_ContainsFunc_api_Slot_api_Slot, 9, [.t 4], .keep, [], none⟩

def kc_morph_checker_entry_2 : AC :=
  (.seq (.ops [⟨(some 2), none, (.op (.bx t_api_Slot (.t 0)))⟩,
    ⟨(some 3), none, (.op (.mv (.c (.bool false))))⟩])
  (.seq (.ops [⟨(some 4), none, (.op (.fa 2 (.t 1)))⟩,
    ⟨(some 5), none, (.op (.ld none (.t 4)))⟩,
    ⟨(some 6), none, (.op (.fa 3 (.t 2)))⟩,
    ⟨(some 7), none, (.op (.ld none (.t 6)))⟩,
    ⟨(some 8), none, (.call (.c (.fn (.func f_morph_clash) [] [])) [(.t 5), (.t 7)])⟩,
    ⟨(some 3), none, (.op (.mv (.t 8)))⟩])
  .ret))
def ka_morph_checker_entry_2 : AFn := ⟨kc_morph_checker_entry_2, 9, [.t 3], .keep, [], none⟩

def kc_morph_clash : AC :=
  (.seq (.ops [⟨(some 3), none, (.op (.bx t_api_Feat (.t 1)))⟩,
    ⟨(some 4), none, (.op (.mv (.c (.bool false))))⟩])
  (.seq (.ops [⟨(some 5), none, (.op (.mv (.t 0)))⟩,
    ⟨(some 6), none, (.op (.mf (.func f_morph_clash_1) [] [(.t 3)]))⟩,
    ⟨(some 7), none, (.call (.c (.fn (.func f_slices_ContainsFunc_api_Feat_api_Feat) [] [])) [(.t 5), (.t 6)])⟩,
    ⟨(some 4), none, (.op (.mv (.t 7)))⟩])
  .ret))
def ka_morph_clash : AFn := ⟨kc_morph_clash, 8, [.t 4], .keep, [], none⟩

def kc_slices_ContainsFunc_api_Irregular_api_Irregular : AC :=
  (.seq (.ops [⟨(some 4), none, (.op (.mv (.c (.bool false))))⟩])
  (.seq (.ops [⟨(some 5), none, (.op (.mv (.t 0)))⟩,
    ⟨(some 6), none, (.op (.mv (.t 1)))⟩,
    ⟨(some 7), none, (.call (.c (.fn (.func f_slices_IndexFunc_api_Irregular_api_Irregular) [] [])) [(.t 5), (.t 6)])⟩,
    ⟨(some 8), none, (.op (.ar .geq (.t 7) (.c (.int .i64 0))))⟩,
    ⟨(some 4), none, (.op (.mv (.t 8)))⟩])
  .ret))
def ka_slices_ContainsFunc_api_Irregular_api_Irregular : AFn := ⟨kc_slices_ContainsFunc_api_Irregular_api_Irregular, 9, [.t 4], .keep, [], none⟩

def kc_morph_checker_entry_3 : AC :=
  (.seq (.ops [⟨(some 2), none, (.op (.bx t_api_Irregular_1 (.t 0)))⟩,
    ⟨(some 3), none, (.op (.mv (.c (.bool false))))⟩])
  (.seq (.ops [⟨(some 4), none, (.op (.fa 0 (.t 2)))⟩,
    ⟨(some 5), none, (.op (.ld none (.t 4)))⟩,
    ⟨(some 6), none, (.op (.fa 0 (.t 1)))⟩,
    ⟨(some 7), none, (.op (.ld none (.t 6)))⟩,
    ⟨(some 8), none, (.op (.ar .eql (.t 5) (.t 7)))⟩,
    ⟨(some 3), none, (.op (.mv (.t 8)))⟩])
  .ret))
def ka_morph_checker_entry_3 : AFn := ⟨kc_morph_checker_entry_3, 9, [.t 3], .keep, [], none⟩

def kc_morph_symbol : AC :=
  (.seq (.ops [⟨(some 2), none, (.op (.mv (.c (.bool false))))⟩])
  (.seq (.ops [⟨(some 3), none, (.op (.mv (.t 0)))⟩,
    ⟨(some 4), none, (.call (.c (.fn (.func f_morph_letter) [] [])) [(.t 3)])⟩,
    ⟨(some 5), none, (.op (.mv (.t 4)))⟩,
    ⟨(some 6), (some (5, false)), (.op (.mv (.t 0)))⟩,
    ⟨(some 7), (some (5, false)), (.op (.ar .eql (.t 6) (.c (.int .u8 43))))⟩,
    ⟨(some 8), none, (.op (.pk (.t 5) (.c (.bool true)) (.t 7)))⟩,
    ⟨(some 2), none, (.op (.mv (.t 8)))⟩])
  .ret))
def ka_morph_symbol : AFn := ⟨kc_morph_symbol, 9, [.t 2], .keep, [], none⟩

def kc_morph_around : AC :=
  (.seq (.ops [⟨(some 2), none, (.op (.mv (.c (.bool false))))⟩])
  (.seq (.ops [⟨(some 3), none, (.op (.mv (.t 0)))⟩,
    ⟨(some 4), none, (.call (.c (.fn (.func f_morph_symbol) [] [])) [(.t 3)])⟩,
    ⟨(some 5), none, (.op (.mv (.t 4)))⟩,
    ⟨(some 6), (some (5, false)), (.op (.mv (.t 0)))⟩,
    ⟨(some 7), (some (5, false)), (.op (.ar .eql (.t 6) (.c (.int .u8 35))))⟩,
    ⟨(some 8), none, (.op (.pk (.t 5) (.c (.bool true)) (.t 7)))⟩,
    ⟨(some 9), none, (.op (.mv (.t 8)))⟩,
    ⟨(some 10), (some (9, false)), (.op (.mv (.t 0)))⟩,
    ⟨(some 11), (some (9, false)), (.op (.ar .eql (.t 10) (.c (.int .u8 86))))⟩,
    ⟨(some 12), none, (.op (.pk (.t 9) (.c (.bool true)) (.t 11)))⟩,
    ⟨(some 13), none, (.op (.mv (.t 12)))⟩,
    ⟨(some 14), (some (13, false)), (.op (.mv (.t 0)))⟩,
    ⟨(some 15), (some (13, false)), (.op (.ar .eql (.t 14) (.c (.int .u8 67))))⟩,
    ⟨(some 16), none, (.op (.pk (.t 13) (.c (.bool true)) (.t 15)))⟩,
    ⟨(some 2), none, (.op (.mv (.t 16)))⟩])
  .ret))
def ka_morph_around : AFn := ⟨kc_morph_around, 17, [.t 2], .keep, [], none⟩

def kc_morph_language_underlying : AC :=
  (.seq (.ops [⟨(some 3), none, (.op (.bx t_morph_language (.t 0)))⟩,
    ⟨(some 5), none, (.op (.bx t_api_Slot (.t 2)))⟩,
    ⟨(some 6), none, (.op (.mv (.c (.str []))))⟩,
    ⟨(some 7), none, (.op (.mv (.c (.bool false))))⟩])
  (.seq (.ops [⟨(some 10), none, (.op (.fa 0 (.t 3)))⟩,
    ⟨(some 11), none, (.op (.fa 3 (.t 10)))⟩,
    ⟨(some 12), none, (.op (.ld none (.t 11)))⟩,
    ⟨(some 13), none, (.op (.mv (.t 1)))⟩,
    ⟨(some 14), none, (.op (.ias 4 (.t 12) (.t 13)))⟩,
    ⟨(some 15), none, (.op (.fa 0 (.t 14)))⟩,
    ⟨(some 16), none, (.op (.ld none (.t 15)))⟩,
    ⟨(some 8), none, (.op (.mv (.t 16)))⟩])
  (.seq (.seq (.ops [⟨(some 17), none, (.op (.mv (.t 8)))⟩,
    ⟨(some 18), none, (.op (.len .str (.t 17)))⟩,
    ⟨(some 19), none, (.op (.fa 0 (.t 5)))⟩,
    ⟨(some 20), none, (.op (.ld none (.t 19)))⟩,
    ⟨(some 21), none, (.op (.ar .lss (.t 18) (.t 20)))⟩])
  (.cond (.t 21)
    (.seq (.ops [⟨(some 6), none, (.op (.mv (.c (.str []))))⟩,
      ⟨(some 7), none, (.op (.mv (.c (.bool false))))⟩])
    .ret)
    .skip))
  (.seq (.ops [⟨(some 22), none, (.op (.mv (.t 8)))⟩,
    ⟨(some 23), none, (.op (.mv (.t 8)))⟩,
    ⟨(some 24), none, (.op (.len .str (.t 23)))⟩,
    ⟨(some 25), none, (.op (.fa 0 (.t 5)))⟩,
    ⟨(some 26), none, (.op (.ld none (.t 25)))⟩,
    ⟨(some 27), none, (.op (.ar .sub (.t 24) (.t 26)))⟩,
    ⟨(some 28), none, (.op (.sls (.t 22) none (some (.t 27))))⟩,
    ⟨(some 9), none, (.op (.mv (.t 28)))⟩])
  (.seq (.seq (.ops [⟨(some 29), none, (.op (.fa 1 (.t 5)))⟩,
    ⟨(some 30), none, (.op (.ld none (.t 29)))⟩,
    ⟨(some 31), none, (.op (.ar .neq (.t 30) (.c (.str []))))⟩])
  (.cond (.t 31)
    (.ops [⟨(some 32), none, (.op (.fa 1 (.t 5)))⟩,
      ⟨(some 33), none, (.op (.ld none (.t 32)))⟩,
      ⟨(some 34), none, (.op (.ar .add (.t 33) (.c (.str [43]))))⟩,
      ⟨(some 35), none, (.op (.mv (.t 9)))⟩,
      ⟨(some 36), none, (.op (.ar .add (.t 34) (.t 35)))⟩,
      ⟨(some 9), none, (.op (.mv (.t 36)))⟩])
    .skip))
  (.seq (.seq (.ops [⟨(some 37), none, (.op (.fa 2 (.t 5)))⟩,
    ⟨(some 38), none, (.op (.ld none (.t 37)))⟩,
    ⟨(some 39), none, (.op (.ar .neq (.t 38) (.c (.str []))))⟩])
  (.cond (.t 39)
    (.ops [⟨(some 40), none, (.op (.mv (.t 9)))⟩,
      ⟨(some 41), none, (.op (.fa 2 (.t 5)))⟩,
      ⟨(some 42), none, (.op (.ld none (.t 41)))⟩,
      ⟨(some 43), none, (.op (.ar .add (.c (.str [43])) (.t 42)))⟩,
      ⟨(some 44), none, (.op (.ar .add (.t 40) (.t 43)))⟩,
      ⟨(some 9), none, (.op (.mv (.t 44)))⟩])
    .skip))
  (.seq (.ops [⟨(some 45), none, (.op (.mv (.t 9)))⟩,
    ⟨(some 6), none, (.op (.mv (.t 45)))⟩,
    ⟨(some 7), none, (.op (.mv (.c (.bool true))))⟩])
  .ret)))))))
def ka_morph_language_underlying : AFn := ⟨kc_morph_language_underlying, 46, [.t 6, .t 7], .keep, [], none⟩

def l_kmorph_language_spell_0 : AC :=
  (.seq (.seq (.ops [⟨(some 10), none, (.op (.mv (.t 9)))⟩,
    ⟨(some 11), none, (.op (.mv (.t 2)))⟩,
    ⟨(some 12), none, (.op (.len .str (.t 11)))⟩,
    ⟨(some 13), none, (.op (.ar .lss (.t 10) (.t 12)))⟩])
  (.cond (.t 13)
    .skip
    (.exit 0)))
  (.block 1 (.seq (.dops false [] [] [(⟨(some 14), none, (.op (.mv (.t 2)))⟩, .pure),
    (⟨(some 15), none, (.op (.mv (.t 9)))⟩, .pure),
    (⟨(some 16), none, (.op (.sls (.t 14) (some (.t 15)) none))⟩, .pure),
    (⟨(some 17), none, (.op (.fa 0 (.t 4)))⟩, .pure),
    (⟨(some 18), none, (.op (.ld none (.t 17)))⟩, .wide),
    (⟨(some 19), none, (.call (.c (.fn (.func f_strings_HasPrefix) [] [])) [(.t 16), (.t 18)])⟩, .eff),
    (⟨(some 20), none, (.op (.mv (.t 19)))⟩, .pure),
    (⟨(some 21), (some (20, true)), (.op (.ld (some 6) (.t 3)))⟩, .wide),
    (⟨(some 22), (some (20, true)), (.op (.fa 2 (.t 4)))⟩, .pure),
    (⟨(some 23), (some (20, true)), (.op (.ld none (.t 22)))⟩, .wide),
    (⟨(some 24), (some (20, true)), (.op (.mv (.t 2)))⟩, .pure),
    (⟨(some 25), (some (20, true)), (.op (.mv (.t 9)))⟩, .pure),
    (⟨(some 26), (some (20, true)), (.call (.c (.fn (.func f_morph_language_left) [] [])) [(.t 21), (.t 23), (.t 24), (.t 25)])⟩, .eff),
    (⟨(some 27), none, (.op (.pk (.t 20) (.t 26) (.c (.bool false))))⟩, .pure),
    (⟨(some 28), none, (.op (.mv (.t 27)))⟩, .pure),
    (⟨(some 29), (some (28, true)), (.op (.ld (some 6) (.t 3)))⟩, .wide),
    (⟨(some 30), (some (28, true)), (.op (.fa 3 (.t 4)))⟩, .pure),
    (⟨(some 31), (some (28, true)), (.op (.ld none (.t 30)))⟩, .wide),
    (⟨(some 32), (some (28, true)), (.op (.mv (.t 2)))⟩, .pure),
    (⟨(some 33), (some (28, true)), (.op (.mv (.t 9)))⟩, .pure),
    (⟨(some 34), (some (28, true)), (.op (.fa 0 (.t 4)))⟩, .pure),
    (⟨(some 35), (some (28, true)), (.op (.ld none (.t 34)))⟩, .wide),
    (⟨(some 36), (some (28, true)), (.op (.len .str (.t 35)))⟩, .wide),
    (⟨(some 37), (some (28, true)), (.op (.ar .add (.t 33) (.t 36)))⟩, .pure),
    (⟨(some 38), (some (28, true)), (.call (.c (.fn (.func f_morph_language_right) [] [])) [(.t 29), (.t 31), (.t 32), (.t 37)])⟩, .eff),
    (⟨(some 39), none, (.op (.pk (.t 28) (.t 38) (.c (.bool false))))⟩, .pure)])
  (.cond (.t 39)
    (.seq (.ops [⟨(some 40), none, (.op (.fa 1 (.t 4)))⟩,
      ⟨(some 41), none, (.op (.ld none (.t 40)))⟩,
      ⟨(some 42), none, (.call (.c (.fn (.func f_strings_Builder_WriteString) [] [])) [(.t 8), (.t 41)])⟩])
    (.ops [⟨(some 43), none, (.op (.mv (.t 9)))⟩,
      ⟨(some 44), none, (.op (.fa 0 (.t 4)))⟩,
      ⟨(some 45), none, (.op (.ld none (.t 44)))⟩,
      ⟨(some 46), none, (.op (.len .str (.t 45)))⟩,
      ⟨(some 47), none, (.op (.ar .add (.t 43) (.t 46)))⟩,
      ⟨(some 9), none, (.op (.mv (.t 47)))⟩]))
    (.seq (.ops [⟨(some 48), none, (.op (.mv (.t 2)))⟩,
      ⟨(some 49), none, (.op (.mv (.t 9)))⟩,
      ⟨(some 50), none, (.op (.ixs (.t 48) (.t 49)))⟩,
      ⟨(some 51), none, (.call (.c (.fn (.func f_strings_Builder_WriteByte) [] [])) [(.t 8), (.t 50)])⟩])
    (.ops [⟨(some 52), none, (.op (.mv (.t 9)))⟩,
      ⟨(some 53), none, (.op (.ar .add (.t 52) (.c (.int .i64 1))))⟩,
      ⟨(some 9), none, (.op (.mv (.t 53)))⟩]))))))

def kc_morph_language_spell : AC :=
  (.seq (.ops [⟨(some 3), none, (.op (.bx t_morph_language (.t 0)))⟩,
    ⟨(some 4), none, (.op (.bx t_api_Spell_1 (.t 1)))⟩,
    ⟨(some 6), none, (.op (.mv (.c (.str []))))⟩,
    ⟨(some 7), none, (.op (.mv (.c (.bool false))))⟩])
  (.seq (.ops [⟨(some 8), none, (.op (.nwb [.nilp, (.slice .nil 1 [])] t_strings_Builder_1 1 t_uint8))⟩])
  (.seq (.seq (.ops [⟨(some 9), none, (.op (.mv (.c (.int .i64 0))))⟩])
  (.block 0 (.loop ⟨none, [], false⟩ l_kmorph_language_spell_0)))
  (.seq (.ops [⟨(some 54), none, (.call (.c (.fn (.func f_strings_Builder_String) [] [])) [(.t 8)])⟩,
    ⟨(some 55), none, (.call (.c (.fn (.func f_strings_Builder_Len) [] [])) [(.t 8)])⟩,
    ⟨(some 56), none, (.op (.ar .leq (.t 55) (.c (.int .i64 512))))⟩,
    ⟨(some 6), none, (.op (.mv (.t 54)))⟩,
    ⟨(some 7), none, (.op (.mv (.t 56)))⟩])
  .ret))))
def ka_morph_language_spell : AFn := ⟨kc_morph_language_spell, 57, [.t 6, .t 7], .keep, [], none⟩

def l_kstrings_Replace_0 : AC :=
  (.seq (.ops [⟨(some 54), none, (.op (.ar .lss (.t 53) (.t 52)))⟩])
  (.seq (.cond (.t 54)
    .skip
    (.exit 0))
  (.seq (.block 1 (.seq (.ops [⟨(some 55), none, (.op (.mv (.t 11)))⟩,
    ⟨(some 56), none, (.op (.mv (.t 0)))⟩,
    ⟨(some 57), none, (.op (.mv (.t 11)))⟩,
    ⟨(some 58), none, (.op (.sls (.t 56) (some (.t 57)) none))⟩,
    ⟨(some 59), none, (.op (.mv (.t 1)))⟩,
    ⟨(some 60), none, (.call (.c (.fn (.func f_strings_Index) [] [])) [(.t 58), (.t 59)])⟩,
    ⟨(some 61), none, (.op (.ar .add (.t 55) (.t 60)))⟩,
    ⟨(some 12), none, (.op (.mv (.t 61)))⟩])
  (.seq (.ops [⟨(some 62), none, (.op (.mv (.t 0)))⟩,
    ⟨(some 63), none, (.op (.mv (.t 11)))⟩,
    ⟨(some 64), none, (.op (.mv (.t 12)))⟩,
    ⟨(some 65), none, (.op (.sls (.t 62) (some (.t 63)) (some (.t 64))))⟩,
    ⟨(some 66), none, (.call (.c (.fn (.func f_strings_Builder_WriteString) [] [])) [(.t 10), (.t 65)])⟩])
  (.seq (.ops [⟨(some 67), none, (.op (.mv (.t 2)))⟩,
    ⟨(some 68), none, (.call (.c (.fn (.func f_strings_Builder_WriteString) [] [])) [(.t 10), (.t 67)])⟩])
  (.ops [⟨(some 69), none, (.op (.mv (.t 12)))⟩,
    ⟨(some 70), none, (.op (.mv (.t 1)))⟩,
    ⟨(some 71), none, (.op (.len .str (.t 70)))⟩,
    ⟨(some 72), none, (.op (.ar .add (.t 69) (.t 71)))⟩,
    ⟨(some 11), none, (.op (.mv (.t 72)))⟩])))))
  (.ops [⟨(some 73), none, (.op (.ar .add (.t 53) (.c (.int .i64 1))))⟩,
    ⟨(some 53), none, (.op (.mv (.t 73)))⟩]))))

def l_kstrings_Replace_1 : AC :=
  (.seq (.ops [⟨(some 79), none, (.op (.ar .lss (.t 78) (.t 77)))⟩])
  (.seq (.cond (.t 79)
    .skip
    (.exit 2))
  (.seq (.block 3 (.seq (.ops [⟨(some 81), none, (.op (.mv (.t 0)))⟩,
    ⟨(some 82), none, (.op (.mv (.t 11)))⟩,
    ⟨(some 83), none, (.op (.sls (.t 81) (some (.t 82)) none))⟩,
    ⟨(some 84), none, (.call (.c (.fn (.func f_unicode_utf8_DecodeRuneInString) [] [])) [(.t 83)])⟩,
    ⟨(some 80), none, (.op (.mv (.t 84)))⟩,
    ⟨(some 85), none, (.op (.ex (.t 80) 0))⟩,
    ⟨(some 86), none, (.op (.ex (.t 80) 1))⟩,
    ⟨(some 13), none, (.op (.mv (.t 85)))⟩,
    ⟨(some 14), none, (.op (.mv (.t 86)))⟩])
  (.seq (.ops [⟨(some 87), none, (.op (.mv (.t 11)))⟩,
    ⟨(some 88), none, (.op (.mv (.t 14)))⟩,
    ⟨(some 89), none, (.op (.ar .add (.t 87) (.t 88)))⟩,
    ⟨(some 15), none, (.op (.mv (.t 89)))⟩])
  (.seq (.ops [⟨(some 90), none, (.op (.mv (.t 0)))⟩,
    ⟨(some 91), none, (.op (.mv (.t 11)))⟩,
    ⟨(some 92), none, (.op (.mv (.t 15)))⟩,
    ⟨(some 93), none, (.op (.sls (.t 90) (some (.t 91)) (some (.t 92))))⟩,
    ⟨(some 94), none, (.call (.c (.fn (.func f_strings_Builder_WriteString) [] [])) [(.t 10), (.t 93)])⟩])
  (.seq (.ops [⟨(some 95), none, (.op (.mv (.t 2)))⟩,
    ⟨(some 96), none, (.call (.c (.fn (.func f_strings_Builder_WriteString) [] [])) [(.t 10), (.t 95)])⟩])
  (.ops [⟨(some 97), none, (.op (.mv (.t 15)))⟩,
    ⟨(some 11), none, (.op (.mv (.t 97)))⟩]))))))
  (.ops [⟨(some 98), none, (.op (.ar .add (.t 78) (.c (.int .i64 1))))⟩,
    ⟨(some 78), none, (.op (.mv (.t 98)))⟩]))))

def kc_strings_Replace : AC :=
  (.seq (.ops [⟨(some 8), none, (.op (.mv (.c (.str []))))⟩])
  (.seq (.seq (.ops [⟨(some 16), none, (.op (.mv (.t 1)))⟩,
    ⟨(some 17), none, (.op (.mv (.t 2)))⟩,
    ⟨(some 18), none, (.op (.ar .eql (.t 16) (.t 17)))⟩,
    ⟨(some 19), none, (.op (.mv (.t 18)))⟩,
    ⟨(some 20), (some (19, false)), (.op (.mv (.t 3)))⟩,
    ⟨(some 21), (some (19, false)), (.op (.ar .eql (.t 20) (.c (.int .i64 0))))⟩,
    ⟨(some 22), none, (.op (.pk (.t 19) (.c (.bool true)) (.t 21)))⟩])
  (.cond (.t 22)
    (.seq (.ops [⟨(some 23), none, (.op (.mv (.t 0)))⟩,
      ⟨(some 8), none, (.op (.mv (.t 23)))⟩])
    .ret)
    .skip))
  (.seq (.seq (.ops [⟨(some 24), none, (.op (.mv (.t 0)))⟩,
    ⟨(some 25), none, (.op (.mv (.t 1)))⟩,
    ⟨(some 26), none, (.call (.c (.fn (.func f_strings_Count) [] [])) [(.t 24), (.t 25)])⟩,
    ⟨(some 9), none, (.op (.mv (.t 26)))⟩])
  (.seq (.ops [⟨(some 27), none, (.op (.mv (.t 9)))⟩,
    ⟨(some 28), none, (.op (.ar .eql (.t 27) (.c (.int .i64 0))))⟩])
  (.cond (.t 28)
    (.seq (.ops [⟨(some 29), none, (.op (.mv (.t 0)))⟩,
      ⟨(some 8), none, (.op (.mv (.t 29)))⟩])
    .ret)
    (.seq (.ops [⟨(some 30), none, (.op (.mv (.t 3)))⟩,
      ⟨(some 31), none, (.op (.ar .lss (.t 30) (.c (.int .i64 0))))⟩,
      ⟨(some 32), none, (.op (.mv (.t 31)))⟩,
      ⟨(some 33), (some (32, false)), (.op (.mv (.t 9)))⟩,
      ⟨(some 34), (some (32, false)), (.op (.mv (.t 3)))⟩,
      ⟨(some 35), (some (32, false)), (.op (.ar .lss (.t 33) (.t 34)))⟩,
      ⟨(some 36), none, (.op (.pk (.t 32) (.c (.bool true)) (.t 35)))⟩])
    (.cond (.t 36)
      (.ops [⟨(some 37), none, (.op (.mv (.t 9)))⟩,
        ⟨(some 3), none, (.op (.mv (.t 37)))⟩])
      .skip)))))
  (.seq (.ops [⟨(some 10), none, (.op (.nw [.nilp, (.slice .nil 1 [])] t_strings_Builder_1))⟩])
  (.seq (.ops [⟨(some 38), none, (.op (.mv (.t 0)))⟩,
    ⟨(some 39), none, (.op (.len .str (.t 38)))⟩,
    ⟨(some 40), none, (.op (.mv (.t 3)))⟩,
    ⟨(some 41), none, (.op (.mv (.t 2)))⟩,
    ⟨(some 42), none, (.op (.len .str (.t 41)))⟩,
    ⟨(some 43), none, (.op (.mv (.t 1)))⟩,
    ⟨(some 44), none, (.op (.len .str (.t 43)))⟩,
    ⟨(some 45), none, (.op (.ar .sub (.t 42) (.t 44)))⟩,
    ⟨(some 46), none, (.op (.ar .mul (.t 40) (.t 45)))⟩,
    ⟨(some 47), none, (.op (.ar .add (.t 39) (.t 46)))⟩,
    ⟨(some 48), none, (.call (.c (.fn (.func f_strings_Builder_Grow) [] [])) [(.t 10), (.t 47)])⟩])
  (.seq (.ops [⟨(some 11), none, (.op (.mv (.c (.int .i64 0))))⟩])
  (.seq (.seq (.ops [⟨(some 49), none, (.op (.mv (.t 1)))⟩,
    ⟨(some 50), none, (.op (.len .str (.t 49)))⟩,
    ⟨(some 51), none, (.op (.ar .gtr (.t 50) (.c (.int .i64 0))))⟩])
  (.cond (.t 51)
    (.seq (.ops [⟨(some 52), none, (.op (.mv (.t 3)))⟩,
      ⟨(some 53), none, (.op (.mv (.c (.int .i64 0))))⟩])
    (.block 0 (.loop ⟨none, [], false⟩ l_kstrings_Replace_0)))
    (.seq (.ops [⟨(some 74), none, (.op (.mv (.t 2)))⟩,
      ⟨(some 75), none, (.call (.c (.fn (.func f_strings_Builder_WriteString) [] [])) [(.t 10), (.t 74)])⟩])
    (.seq (.ops [⟨(some 76), none, (.op (.mv (.t 3)))⟩,
      ⟨(some 77), none, (.op (.ar .sub (.t 76) (.c (.int .i64 1))))⟩,
      ⟨(some 78), none, (.op (.mv (.c (.int .i64 0))))⟩])
    (.block 2 (.loop ⟨none, [], false⟩ l_kstrings_Replace_1))))))
  (.seq (.ops [⟨(some 99), none, (.op (.mv (.t 0)))⟩,
    ⟨(some 100), none, (.op (.mv (.t 11)))⟩,
    ⟨(some 101), none, (.op (.sls (.t 99) (some (.t 100)) none))⟩,
    ⟨(some 102), none, (.call (.c (.fn (.func f_strings_Builder_WriteString) [] [])) [(.t 10), (.t 101)])⟩])
  (.seq (.ops [⟨(some 103), none, (.call (.c (.fn (.func f_strings_Builder_String) [] [])) [(.t 10)])⟩,
    ⟨(some 8), none, (.op (.mv (.t 103)))⟩])
  .ret)))))))))
def ka_strings_Replace : AFn := ⟨kc_strings_Replace, 104, [.t 8], .keep, [8], none⟩

def l_kunicode_utf8_RuneCountInString_0 : AC :=
  (.seq (.ops [⟨(some 5), none, (.op (.nx (.t 4)))⟩,
    ⟨(some 6), none, (.op (.ex (.t 5) 0))⟩])
  (.seq (.cond (.t 6)
    .skip
    (.exit 0))
  (.block 1 (.ops [⟨(some 7), none, (.op (.mv (.t 2)))⟩,
    ⟨(some 8), none, (.op (.ar .add (.t 7) (.c (.int .i64 1))))⟩,
    ⟨(some 2), none, (.op (.mv (.t 8)))⟩]))))

def kc_unicode_utf8_RuneCountInString : AC :=
  (.seq (.ops [⟨(some 2), none, (.op (.mv (.c (.int .i64 0))))⟩])
  (.seq (.seq (.ops [⟨(some 3), none, (.op (.mv (.t 0)))⟩,
    ⟨(some 4), none, (.op (.rg (.t 3)))⟩])
  (.block 0 (.loop ⟨none, [], false⟩ l_kunicode_utf8_RuneCountInString_0)))
  (.seq (.ops [⟨(some 9), none, (.op (.mv (.t 2)))⟩,
    ⟨(some 2), none, (.op (.mv (.t 9)))⟩])
  .ret)))
def ka_unicode_utf8_RuneCountInString : AFn := ⟨kc_unicode_utf8_RuneCountInString, 10, [.t 2], .keep, [], none⟩

def kc_unicode_utf8_DecodeRuneInString : AC :=
  (.seq (.ops [⟨(some 2), none, (.op (.mv (.c (.int .i32 0))))⟩,
    ⟨(some 3), none, (.op (.mv (.c (.int .i64 0))))⟩])
  (.seq (.seq (.ops [⟨(some 4), none, (.op (.mv (.t 0)))⟩,
    ⟨(some 5), none, (.op (.ar .neq (.t 4) (.c (.str []))))⟩,
    ⟨(some 6), none, (.op (.mv (.t 5)))⟩,
    ⟨(some 7), (some (6, true)), (.op (.mv (.t 0)))⟩,
    ⟨(some 8), (some (6, true)), (.op (.ixs (.t 7) (.c (.int .i64 0))))⟩,
    ⟨(some 9), (some (6, true)), (.op (.ar .lss (.t 8) (.c (.int .u8 128))))⟩,
    ⟨(some 10), none, (.op (.pk (.t 6) (.t 9) (.c (.bool false))))⟩])
  (.cond (.t 10)
    (.seq (.ops [⟨(some 11), none, (.op (.mv (.t 0)))⟩,
      ⟨(some 12), none, (.op (.ixs (.t 11) (.c (.int .i64 0))))⟩,
      ⟨(some 13), none, (.op (.cvi .i32 (.t 12)))⟩,
      ⟨(some 2), none, (.op (.mv (.t 13)))⟩,
      ⟨(some 3), none, (.op (.mv (.c (.int .i64 1))))⟩])
    .ret)
    (.ops [⟨(some 15), none, (.op (.mv (.t 0)))⟩,
      ⟨(some 16), none, (.call (.c (.fn (.func f_unicode_utf8_decodeRuneInStringSlow) [] [])) [(.t 15)])⟩,
      ⟨(some 14), none, (.op (.mv (.t 16)))⟩,
      ⟨(some 17), none, (.op (.ex (.t 14) 0))⟩,
      ⟨(some 18), none, (.op (.ex (.t 14) 1))⟩,
      ⟨(some 2), none, (.op (.mv (.t 17)))⟩,
      ⟨(some 3), none, (.op (.mv (.t 18)))⟩])))
  .ret))
def ka_unicode_utf8_DecodeRuneInString : AFn := ⟨kc_unicode_utf8_DecodeRuneInString, 19, [.t 2, .t 3], .keep, [], none⟩

def l_kinternal_stringslite_Index_0 : AC :=
  (.seq (.seq (.ops [⟨(some 57), none, (.op (.mv (.t 8)))⟩,
    ⟨(some 58), none, (.op (.mv (.t 9)))⟩,
    ⟨(some 59), none, (.op (.ar .lss (.t 57) (.t 58)))⟩])
  (.cond (.t 59)
    .skip
    (.exit 1)))
  (.block 2 (.seq (.seq (.ops [⟨(some 60), none, (.op (.mv (.t 0)))⟩,
    ⟨(some 61), none, (.op (.mv (.t 8)))⟩,
    ⟨(some 62), none, (.op (.ixs (.t 60) (.t 61)))⟩,
    ⟨(some 63), none, (.op (.mv (.t 6)))⟩,
    ⟨(some 64), none, (.op (.ar .neq (.t 62) (.t 63)))⟩])
  (.cond (.t 64)
    (.seq (.ops [⟨(some 65), none, (.op (.mv (.t 0)))⟩,
      ⟨(some 66), none, (.op (.mv (.t 8)))⟩,
      ⟨(some 67), none, (.op (.ar .add (.t 66) (.c (.int .i64 1))))⟩,
      ⟨(some 68), none, (.op (.mv (.t 9)))⟩,
      ⟨(some 69), none, (.op (.sls (.t 65) (some (.t 67)) (some (.t 68))))⟩,
      ⟨(some 70), none, (.op (.mv (.t 6)))⟩,
      ⟨(some 71), none, (.call (.c (.fn (.func f_internal_stringslite_IndexByte) [] [])) [(.t 69), (.t 70)])⟩,
      ⟨(some 11), none, (.op (.mv (.t 71)))⟩])
    (.seq (.seq (.ops [⟨(some 72), none, (.op (.mv (.t 11)))⟩,
      ⟨(some 73), none, (.op (.ar .lss (.t 72) (.c (.int .i64 0))))⟩])
    (.cond (.t 73)
      (.seq (.ops [⟨(some 4), none, (.op (.mv (.c (.int .i64 (-1)))))⟩])
      .ret)
      .skip))
    (.ops [⟨(some 74), none, (.op (.mv (.t 8)))⟩,
      ⟨(some 75), none, (.op (.mv (.t 11)))⟩,
      ⟨(some 76), none, (.op (.ar .add (.t 75) (.c (.int .i64 1))))⟩,
      ⟨(some 77), none, (.op (.ar .add (.t 74) (.t 76)))⟩,
      ⟨(some 8), none, (.op (.mv (.t 77)))⟩])))
    .skip))
  (.seq (.seq (.ops [⟨(some 78), none, (.op (.mv (.t 0)))⟩,
    ⟨(some 79), none, (.op (.mv (.t 8)))⟩,
    ⟨(some 80), none, (.op (.ar .add (.t 79) (.c (.int .i64 1))))⟩,
    ⟨(some 81), none, (.op (.ixs (.t 78) (.t 80)))⟩,
    ⟨(some 82), none, (.op (.mv (.t 7)))⟩,
    ⟨(some 83), none, (.op (.ar .eql (.t 81) (.t 82)))⟩,
    ⟨(some 84), none, (.op (.mv (.t 83)))⟩,
    ⟨(some 85), (some (84, true)), (.op (.mv (.t 0)))⟩,
    ⟨(some 86), (some (84, true)), (.op (.mv (.t 8)))⟩,
    ⟨(some 87), (some (84, true)), (.op (.mv (.t 8)))⟩,
    ⟨(some 88), (some (84, true)), (.op (.mv (.t 5)))⟩,
    ⟨(some 89), (some (84, true)), (.op (.ar .add (.t 87) (.t 88)))⟩,
    ⟨(some 90), (some (84, true)), (.op (.sls (.t 85) (some (.t 86)) (some (.t 89))))⟩,
    ⟨(some 91), (some (84, true)), (.op (.mv (.t 1)))⟩,
    ⟨(some 92), (some (84, true)), (.op (.ar .eql (.t 90) (.t 91)))⟩,
    ⟨(some 93), none, (.op (.pk (.t 84) (.t 92) (.c (.bool false))))⟩])
  (.cond (.t 93)
    (.seq (.ops [⟨(some 94), none, (.op (.mv (.t 8)))⟩,
      ⟨(some 4), none, (.op (.mv (.t 94)))⟩])
    .ret)
    .skip))
  (.seq (.ops [⟨(some 95), none, (.op (.mv (.t 8)))⟩,
    ⟨(some 96), none, (.op (.ar .add (.t 95) (.c (.int .i64 1))))⟩,
    ⟨(some 8), none, (.op (.mv (.t 96)))⟩])
  (.seq (.ops [⟨(some 97), none, (.op (.mv (.t 10)))⟩,
    ⟨(some 98), none, (.op (.ar .add (.t 97) (.c (.int .i64 1))))⟩,
    ⟨(some 10), none, (.op (.mv (.t 98)))⟩])
  (.seq (.ops [⟨(some 99), none, (.op (.mv (.t 5)))⟩,
    ⟨(some 100), none, (.op (.ld none (.c .unk)))⟩,
    ⟨(some 101), none, (.op (.ar .leq (.t 99) (.t 100)))⟩,
    ⟨(some 102), none, (.op (.mv (.t 101)))⟩,
    ⟨(some 103), (some (102, true)), (.op (.mv (.t 10)))⟩,
    ⟨(some 104), (some (102, true)), (.op (.mv (.t 8)))⟩,
    ⟨(some 105), (some (102, true)), (.call (.c (.fn (.func f_internal_bytealg_Cutover) [] [])) [(.t 104)])⟩,
    ⟨(some 106), (some (102, true)), (.op (.ar .gtr (.t 103) (.t 105)))⟩,
    ⟨(some 107), none, (.op (.pk (.t 102) (.t 106) (.c (.bool false))))⟩])
  (.cond (.t 107)
    (.seq (.ops [⟨(some 108), none, (.op (.mv (.t 0)))⟩,
      ⟨(some 109), none, (.op (.mv (.t 8)))⟩,
      ⟨(some 110), none, (.op (.sls (.t 108) (some (.t 109)) none))⟩,
      ⟨(some 111), none, (.op (.mv (.t 1)))⟩,
      ⟨(some 112), none, (.call (.c (.fn (.func f_internal_bytealg_IndexString) [] [])) [(.t 110), (.t 111)])⟩,
      ⟨(some 12), none, (.op (.mv (.t 112)))⟩])
    (.seq (.seq (.ops [⟨(some 113), none, (.op (.mv (.t 12)))⟩,
      ⟨(some 114), none, (.op (.ar .geq (.t 113) (.c (.int .i64 0))))⟩])
    (.cond (.t 114)
      (.seq (.ops [⟨(some 115), none, (.op (.mv (.t 12)))⟩,
        ⟨(some 116), none, (.op (.mv (.t 8)))⟩,
        ⟨(some 117), none, (.op (.ar .add (.t 115) (.t 116)))⟩,
        ⟨(some 4), none, (.op (.mv (.t 117)))⟩])
      .ret)
      .skip))
    (.seq (.ops [⟨(some 4), none, (.op (.mv (.c (.int .i64 (-1)))))⟩])
    .ret)))
    (.seq (.ops [⟨(some 118), none, (.op (.mv (.t 5)))⟩,
      ⟨(some 119), none, (.op (.ld none (.c .unk)))⟩,
      ⟨(some 120), none, (.op (.ar .gtr (.t 118) (.t 119)))⟩,
      ⟨(some 121), none, (.op (.mv (.t 120)))⟩,
      ⟨(some 122), (some (121, true)), (.op (.mv (.t 10)))⟩,
      ⟨(some 123), (some (121, true)), (.op (.mv (.t 8)))⟩,
      ⟨(some 124), (some (121, true)), (.op (.sh .shr (.t 123) (.c (.int .u64 4))))⟩,
      ⟨(some 125), (some (121, true)), (.op (.ar .add (.c (.int .i64 4)) (.t 124)))⟩,
      ⟨(some 126), (some (121, true)), (.op (.ar .geq (.t 122) (.t 125)))⟩,
      ⟨(some 127), none, (.op (.pk (.t 121) (.t 126) (.c (.bool false))))⟩,
      ⟨(some 128), none, (.op (.mv (.t 127)))⟩,
      ⟨(some 129), (some (128, true)), (.op (.mv (.t 8)))⟩,
      ⟨(some 130), (some (128, true)), (.op (.mv (.t 9)))⟩,
      ⟨(some 131), (some (128, true)), (.op (.ar .lss (.t 129) (.t 130)))⟩,
      ⟨(some 132), none, (.op (.pk (.t 128) (.t 131) (.c (.bool false))))⟩])
    (.cond (.t 132)
      (.seq (.ops [⟨(some 133), none, (.op (.mv (.t 0)))⟩,
        ⟨(some 134), none, (.op (.mv (.t 8)))⟩,
        ⟨(some 135), none, (.op (.sls (.t 133) (some (.t 134)) none))⟩,
        ⟨(some 136), none, (.op (.mv (.t 1)))⟩,
        ⟨(some 137), none, (.call (.c (.fn (.func f_internal_bytealg_IndexRabinKarp_string) [] [])) [(.t 135), (.t 136)])⟩,
        ⟨(some 13), none, (.op (.mv (.t 137)))⟩])
      (.seq (.seq (.ops [⟨(some 138), none, (.op (.mv (.t 13)))⟩,
        ⟨(some 139), none, (.op (.ar .lss (.t 138) (.c (.int .i64 0))))⟩])
      (.cond (.t 139)
        (.seq (.ops [⟨(some 4), none, (.op (.mv (.c (.int .i64 (-1)))))⟩])
        .ret)
        .skip))
      (.seq (.ops [⟨(some 140), none, (.op (.mv (.t 8)))⟩,
        ⟨(some 141), none, (.op (.mv (.t 13)))⟩,
        ⟨(some 142), none, (.op (.ar .add (.t 140) (.t 141)))⟩,
        ⟨(some 4), none, (.op (.mv (.t 142)))⟩])
      .ret)))
      .skip))))))))))

def kc_internal_stringslite_Index : AC :=
  (.seq (.ops [⟨(some 4), none, (.op (.mv (.c (.int .i64 0))))⟩])
  (.seq (.ops [⟨(some 14), none, (.op (.mv (.t 1)))⟩,
    ⟨(some 15), none, (.op (.len .str (.t 14)))⟩,
    ⟨(some 5), none, (.op (.mv (.t 15)))⟩])
  (.seq (.block 0 (.seq (.ops [⟨(some 17), none, (.op (.mv (.t 5)))⟩,
    ⟨(some 18), none, (.op (.ar .eql (.t 17) (.c (.int .i64 0))))⟩,
    ⟨(some 19), none, (.op (.mv (.t 18)))⟩,
    ⟨(some 20), (some (19, false)), (.op (.mv (.t 1)))⟩,
    ⟨(some 21), (some (19, false)), (.op (.mv (.t 0)))⟩,
    ⟨(some 22), (some (19, false)), (.op (.ar .eql (.t 20) (.t 21)))⟩,
    ⟨(some 23), none, (.op (.pk (.t 19) (.c (.bool true)) (.t 22)))⟩,
    ⟨(some 16), none, (.op (.mv (.t 23)))⟩])
  (.cond (.t 16)
    (.seq (.ops [⟨(some 4), none, (.op (.mv (.c (.int .i64 0))))⟩])
    .ret)
    (.seq (.ops [⟨(some 25), none, (.op (.mv (.t 5)))⟩,
      ⟨(some 26), none, (.op (.ar .eql (.t 25) (.c (.int .i64 1))))⟩,
      ⟨(some 24), none, (.op (.mv (.t 26)))⟩])
    (.cond (.t 24)
      (.seq (.ops [⟨(some 27), none, (.op (.mv (.t 0)))⟩,
        ⟨(some 28), none, (.op (.mv (.t 1)))⟩,
        ⟨(some 29), none, (.op (.ixs (.t 28) (.c (.int .i64 0))))⟩,
        ⟨(some 30), none, (.call (.c (.fn (.func f_internal_stringslite_IndexByte) [] [])) [(.t 27), (.t 29)])⟩,
        ⟨(some 4), none, (.op (.mv (.t 30)))⟩])
      .ret)
      (.seq (.ops [⟨(some 32), none, (.op (.mv (.t 5)))⟩,
        ⟨(some 33), none, (.op (.mv (.t 0)))⟩,
        ⟨(some 34), none, (.op (.len .str (.t 33)))⟩,
        ⟨(some 35), none, (.op (.ar .geq (.t 32) (.t 34)))⟩,
        ⟨(some 31), none, (.op (.mv (.t 35)))⟩])
      (.cond (.t 31)
        (.seq (.ops [⟨(some 4), none, (.op (.mv (.c (.int .i64 (-1)))))⟩])
        .ret)
        (.seq (.ops [⟨(some 37), none, (.op (.mv (.t 5)))⟩,
          ⟨(some 38), none, (.op (.ld none (.c .unk)))⟩,
          ⟨(some 39), none, (.op (.ar .leq (.t 37) (.t 38)))⟩,
          ⟨(some 40), none, (.op (.mv (.t 39)))⟩,
          ⟨(some 41), (some (40, true)), (.op (.mv (.t 0)))⟩,
          ⟨(some 42), (some (40, true)), (.op (.len .str (.t 41)))⟩,
          ⟨(some 43), (some (40, true)), (.op (.ar .leq (.t 42) (.c (.int .i64 64))))⟩,
          ⟨(some 44), none, (.op (.pk (.t 40) (.t 43) (.c (.bool false))))⟩,
          ⟨(some 36), none, (.op (.mv (.t 44)))⟩])
        (.cond (.t 36)
          (.seq (.ops [⟨(some 45), none, (.op (.mv (.t 0)))⟩,
            ⟨(some 46), none, (.op (.mv (.t 1)))⟩,
            ⟨(some 47), none, (.call (.c (.fn (.func f_internal_bytealg_IndexString) [] [])) [(.t 45), (.t 46)])⟩,
            ⟨(some 4), none, (.op (.mv (.t 47)))⟩])
          .ret)
          .skip)))))))))
  (.seq (.ops [⟨(some 48), none, (.op (.mv (.t 1)))⟩,
    ⟨(some 49), none, (.op (.ixs (.t 48) (.c (.int .i64 0))))⟩,
    ⟨(some 6), none, (.op (.mv (.t 49)))⟩])
  (.seq (.ops [⟨(some 50), none, (.op (.mv (.t 1)))⟩,
    ⟨(some 51), none, (.op (.ixs (.t 50) (.c (.int .i64 1))))⟩,
    ⟨(some 7), none, (.op (.mv (.t 51)))⟩])
  (.seq (.ops [⟨(some 8), none, (.op (.mv (.c (.int .i64 0))))⟩])
  (.seq (.ops [⟨(some 52), none, (.op (.mv (.t 0)))⟩,
    ⟨(some 53), none, (.op (.len .str (.t 52)))⟩,
    ⟨(some 54), none, (.op (.mv (.t 5)))⟩,
    ⟨(some 55), none, (.op (.ar .sub (.t 53) (.t 54)))⟩,
    ⟨(some 56), none, (.op (.ar .add (.t 55) (.c (.int .i64 1))))⟩,
    ⟨(some 9), none, (.op (.mv (.t 56)))⟩])
  (.seq (.ops [⟨(some 10), none, (.op (.mv (.c (.int .i64 0))))⟩])
  (.seq (.block 1 (.loop ⟨none, [], false⟩ l_kinternal_stringslite_Index_0))
  (.seq (.ops [⟨(some 4), none, (.op (.mv (.c (.int .i64 (-1)))))⟩])
  .ret))))))))))
def ka_internal_stringslite_Index : AFn := ⟨kc_internal_stringslite_Index, 143, [.t 4], .keep, [], none⟩

def kc_strconv_Atoi : AC :=
  (.seq (.ops [⟨(some 2), none, (.op (.mv (.c (.int .i64 0))))⟩,
    ⟨(some 3), none, (.op (.mv (.c .nilif)))⟩])
  (.seq (.ops [⟨(some 7), none, (.op (.mv (.t 0)))⟩,
    ⟨(some 8), none, (.call (.c (.fn (.func f_internal_strconv_Atoi) [] [])) [(.t 7)])⟩,
    ⟨(some 6), none, (.op (.mv (.t 8)))⟩,
    ⟨(some 9), none, (.op (.ex (.t 6) 0))⟩,
    ⟨(some 10), none, (.op (.ex (.t 6) 1))⟩,
    ⟨(some 4), none, (.op (.mv (.t 9)))⟩,
    ⟨(some 5), none, (.op (.mv (.t 10)))⟩])
  (.seq (.seq (.ops [⟨(some 11), none, (.op (.mv (.t 5)))⟩,
    ⟨(some 12), none, (.op (.eq true (.ifc true) (.t 11) (.c .nilif)))⟩])
  (.cond (.t 12)
    (.seq (.ops [⟨(some 13), none, (.op (.mv (.t 4)))⟩,
      ⟨(some 14), none, (.op (.mv (.t 0)))⟩,
      ⟨(some 15), none, (.op (.mv (.t 5)))⟩,
      ⟨(some 16), none, (.call (.c (.fn (.func f_strconv_toError) [] [])) [(.c (.str [65, 116, 111, 105])), (.t 14), (.c (.int .i64 0)), (.c (.int .i64 0)), (.t 15)])⟩,
      ⟨(some 2), none, (.op (.mv (.t 13)))⟩,
      ⟨(some 3), none, (.op (.mv (.t 16)))⟩])
    .ret)
    .skip))
  (.seq (.ops [⟨(some 17), none, (.op (.mv (.t 4)))⟩,
    ⟨(some 2), none, (.op (.mv (.t 17)))⟩,
    ⟨(some 3), none, (.op (.mv (.c .nilif)))⟩])
  .ret))))
def ka_strconv_Atoi : AFn := ⟨kc_strconv_Atoi, 18, [.t 2, .t 3], .keep, [], none⟩

def kc_strconv_Itoa : AC :=
  (.seq (.ops [⟨(some 2), none, (.op (.mv (.c (.str []))))⟩])
  (.seq (.ops [⟨(some 3), none, (.op (.mv (.t 0)))⟩,
    ⟨(some 4), none, (.call (.c (.fn (.func f_internal_strconv_Itoa) [] [])) [(.t 3)])⟩,
    ⟨(some 2), none, (.op (.mv (.t 4)))⟩])
  .ret))
def ka_strconv_Itoa : AFn := ⟨kc_strconv_Itoa, 5, [.t 2], .keep, [], none⟩

def kc_strings_Cut : AC :=
  (.seq (.ops [⟨(some 4), none, (.op (.mv (.c (.str []))))⟩,
    ⟨(some 5), none, (.op (.mv (.c (.str []))))⟩,
    ⟨(some 6), none, (.op (.mv (.c (.bool false))))⟩])
  (.seq (.ops [⟨(some 7), none, (.op (.mv (.t 0)))⟩,
    ⟨(some 8), none, (.op (.mv (.t 1)))⟩,
    ⟨(some 9), none, (.call (.c (.fn (.func f_internal_stringslite_Cut) [] [])) [(.t 7), (.t 8)])⟩,
    ⟨(some 10), none, (.op (.ex (.t 9) 0))⟩,
    ⟨(some 11), none, (.op (.ex (.t 9) 1))⟩,
    ⟨(some 12), none, (.op (.ex (.t 9) 2))⟩,
    ⟨(some 4), none, (.op (.mv (.t 10)))⟩,
    ⟨(some 5), none, (.op (.mv (.t 11)))⟩,
    ⟨(some 6), none, (.op (.mv (.t 12)))⟩])
  .ret))
def ka_strings_Cut : AFn := ⟨kc_strings_Cut, 13, [.t 4, .t 5, .t 6], .keep, [], none⟩

def l_kslices_IndexFunc_api_Trait_api_Trait_0 : AC :=
  (.seq (.ops [⟨(some 9), none, (.op (.ar .lss (.t 8) (.t 7)))⟩])
  (.seq (.cond (.t 9)
    .skip
    (.exit 0))
  (.seq (.block 1 (.seq (.ops [⟨(some 10), none, (.op (.mv (.t 8)))⟩,
    ⟨(some 5), none, (.op (.mv (.t 10)))⟩])
  (.seq (.ops [⟨(some 11), none, (.op (.mv (.t 1)))⟩,
    ⟨(some 12), none, (.op (.mv (.t 0)))⟩,
    ⟨(some 13), none, (.op (.mv (.t 5)))⟩,
    ⟨(some 14), none, (.op (.ias 2 (.t 12) (.t 13)))⟩,
    ⟨(some 15), none, (.op (.ld (some 2) (.t 14)))⟩,
    ⟨(some 16), none, (.call (.t 11) [(.t 15)])⟩])
  (.cond (.t 16)
    (.seq (.ops [⟨(some 17), none, (.op (.mv (.t 5)))⟩,
      ⟨(some 4), none, (.op (.mv (.t 17)))⟩])
    .ret)
    .skip))))
  (.ops [⟨(some 18), none, (.op (.ar .add (.t 8) (.c (.int .i64 1))))⟩,
    ⟨(some 8), none, (.op (.mv (.t 18)))⟩]))))

def kc_slices_IndexFunc_api_Trait_api_Trait : AC :=
  (.seq (.ops [⟨(some 4), none, (.op (.mv (.c (.int .i64 0))))⟩])
  (.seq (.seq (.ops [⟨(some 6), none, (.op (.mv (.t 0)))⟩,
    ⟨(some 7), none, (.op (.len .sl (.t 6)))⟩,
    ⟨(some 8), none, (.op (.mv (.c (.int .i64 0))))⟩])
  (.block 0 (.loop ⟨none, [], false⟩ l_kslices_IndexFunc_api_Trait_api_Trait_0)))
  (.seq (.ops [⟨(some 4), none, (.op (.mv (.c (.int .i64 (-1)))))⟩])
  .ret)))
def ka_slices_IndexFunc_api_Trait_api_Trait : AFn := ⟨kc_slices_IndexFunc_api_Trait_api_Trait, 19, [.t 4], .keep, [], none⟩

def l_kslices_Index_string_string_0 : AC :=
  (.seq (.ops [⟨(some 9), none, (.op (.ar .lss (.t 8) (.t 7)))⟩])
  (.seq (.cond (.t 9)
    .skip
    (.exit 0))
  (.seq (.block 1 (.seq (.ops [⟨(some 10), none, (.op (.mv (.t 8)))⟩,
    ⟨(some 5), none, (.op (.mv (.t 10)))⟩])
  (.seq (.ops [⟨(some 11), none, (.op (.mv (.t 1)))⟩,
    ⟨(some 12), none, (.op (.mv (.t 0)))⟩,
    ⟨(some 13), none, (.op (.mv (.t 5)))⟩,
    ⟨(some 14), none, (.op (.ias 1 (.t 12) (.t 13)))⟩,
    ⟨(some 15), none, (.op (.ld none (.t 14)))⟩,
    ⟨(some 16), none, (.op (.ar .eql (.t 11) (.t 15)))⟩])
  (.cond (.t 16)
    (.seq (.ops [⟨(some 17), none, (.op (.mv (.t 5)))⟩,
      ⟨(some 4), none, (.op (.mv (.t 17)))⟩])
    .ret)
    .skip))))
  (.ops [⟨(some 18), none, (.op (.ar .add (.t 8) (.c (.int .i64 1))))⟩,
    ⟨(some 8), none, (.op (.mv (.t 18)))⟩]))))

def kc_slices_Index_string_string : AC :=
  (.seq (.ops [⟨(some 4), none, (.op (.mv (.c (.int .i64 0))))⟩])
  (.seq (.seq (.ops [⟨(some 6), none, (.op (.mv (.t 0)))⟩,
    ⟨(some 7), none, (.op (.len .sl (.t 6)))⟩,
    ⟨(some 8), none, (.op (.mv (.c (.int .i64 0))))⟩])
  (.block 0 (.loop ⟨none, [], false⟩ l_kslices_Index_string_string_0)))
  (.seq (.ops [⟨(some 4), none, (.op (.mv (.c (.int .i64 (-1)))))⟩])
  .ret)))
def ka_slices_Index_string_string : AFn := ⟨kc_slices_Index_string_string, 19, [.t 4], .keep, [], none⟩

def l_kslices_IndexFunc_api_Class_api_Class_0 : AC :=
  (.seq (.ops [⟨(some 9), none, (.op (.ar .lss (.t 8) (.t 7)))⟩])
  (.seq (.cond (.t 9)
    .skip
    (.exit 0))
  (.seq (.block 1 (.seq (.ops [⟨(some 10), none, (.op (.mv (.t 8)))⟩,
    ⟨(some 5), none, (.op (.mv (.t 10)))⟩])
  (.seq (.ops [⟨(some 11), none, (.op (.mv (.t 1)))⟩,
    ⟨(some 12), none, (.op (.mv (.t 0)))⟩,
    ⟨(some 13), none, (.op (.mv (.t 5)))⟩,
    ⟨(some 14), none, (.op (.ias 2 (.t 12) (.t 13)))⟩,
    ⟨(some 15), none, (.op (.ld (some 2) (.t 14)))⟩,
    ⟨(some 16), none, (.call (.t 11) [(.t 15)])⟩])
  (.cond (.t 16)
    (.seq (.ops [⟨(some 17), none, (.op (.mv (.t 5)))⟩,
      ⟨(some 4), none, (.op (.mv (.t 17)))⟩])
    .ret)
    .skip))))
  (.ops [⟨(some 18), none, (.op (.ar .add (.t 8) (.c (.int .i64 1))))⟩,
    ⟨(some 8), none, (.op (.mv (.t 18)))⟩]))))

def kc_slices_IndexFunc_api_Class_api_Class : AC :=
  (.seq (.ops [⟨(some 4), none, (.op (.mv (.c (.int .i64 0))))⟩])
  (.seq (.seq (.ops [⟨(some 6), none, (.op (.mv (.t 0)))⟩,
    ⟨(some 7), none, (.op (.len .sl (.t 6)))⟩,
    ⟨(some 8), none, (.op (.mv (.c (.int .i64 0))))⟩])
  (.block 0 (.loop ⟨none, [], false⟩ l_kslices_IndexFunc_api_Class_api_Class_0)))
  (.seq (.ops [⟨(some 4), none, (.op (.mv (.c (.int .i64 (-1)))))⟩])
  .ret)))
def ka_slices_IndexFunc_api_Class_api_Class : AFn := ⟨kc_slices_IndexFunc_api_Class_api_Class, 19, [.t 4], .keep, [], none⟩

def l_kmorph_each_api_Feat_0 : AC :=
  (.seq (.ops [⟨(some 17), none, (.op (.ar .lss (.t 16) (.t 15)))⟩])
  (.seq (.cond (.t 17)
    .skip
    (.exit 0))
  (.seq (.block 1 (.seq (.ops [⟨(some 18), none, (.op (.mv (.t 16)))⟩,
    ⟨(some 19), none, (.op (.ias 2 (.t 14) (.t 16)))⟩,
    ⟨(some 20), none, (.op (.ld (some 2) (.t 19)))⟩,
    ⟨(some 8), none, (.op (.nw [(.str []), (.str [])] t_api_Feat_1))⟩,
    ⟨(some 7), none, (.op (.mv (.t 18)))⟩,
    ⟨none, none, (.op (.st 2 (.t 8) (.t 20)))⟩])
  (.seq (.ops [⟨(some 21), none, (.op (.mv (.t 2)))⟩,
    ⟨(some 22), none, (.op (.mv (.t 7)))⟩,
    ⟨(some 23), none, (.op (.ld (some 2) (.t 8)))⟩,
    ⟨(some 24), none, (.call (.t 21) [(.t 22), (.t 23)])⟩,
    ⟨(some 9), none, (.op (.mv (.t 24)))⟩])
  (.seq (.ops [⟨(some 25), none, (.op (.mv (.t 9)))⟩,
    ⟨(some 26), none, (.op (.ar .neq (.t 25) (.c (.int .u8 0))))⟩])
  (.cond (.t 26)
    (.seq (.ops [⟨(some 27), none, (.op (.mv (.t 9)))⟩,
      ⟨(some 6), none, (.op (.mv (.t 27)))⟩])
    .ret)
    .skip)))))
  (.ops [⟨(some 28), none, (.op (.ar .add (.t 16) (.c (.int .i64 1))))⟩,
    ⟨(some 16), none, (.op (.mv (.t 28)))⟩]))))

def kc_morph_each_api_Feat : AC :=
  (.seq (.ops [⟨(some 6), none, (.op (.mv (.c (.int .u8 0))))⟩])
  (.seq (.seq (.ops [⟨(some 10), none, (.op (.mv (.t 0)))⟩,
    ⟨(some 11), none, (.op (.len .sl (.t 10)))⟩,
    ⟨(some 12), none, (.op (.mv (.t 1)))⟩,
    ⟨(some 13), none, (.op (.ar .gtr (.t 11) (.t 12)))⟩])
  (.cond (.t 13)
    (.seq (.ops [⟨(some 6), none, (.op (.mv (.c (.int .u8 3))))⟩])
    .ret)
    .skip))
  (.seq (.seq (.ops [⟨(some 14), none, (.op (.mv (.t 0)))⟩,
    ⟨(some 15), none, (.op (.len .sl (.t 14)))⟩,
    ⟨(some 16), none, (.op (.mv (.c (.int .i64 0))))⟩])
  (.block 0 (.loop ⟨none, [], false⟩ l_kmorph_each_api_Feat_0)))
  (.seq (.ops [⟨(some 6), none, (.op (.mv (.c (.int .u8 0))))⟩])
  .ret))))
def ka_morph_each_api_Feat : AFn := ⟨kc_morph_each_api_Feat, 29, [.t 6], .keep, [], none⟩

def kc_morph_checker_bundle_1 : AC :=
  (.seq (.ops [⟨(some 5), none, (.op (.bx t_api_Feat_1 (.t 1)))⟩,
    ⟨(some 6), none, (.op (.mv (.c (.int .u8 0))))⟩])
  (.seq (.ops [⟨(some 8), none, (.op (.fa 0 (.t 2)))⟩,
    ⟨(some 9), none, (.op (.fa 1 (.t 8)))⟩,
    ⟨(some 10), none, (.op (.ld none (.t 9)))⟩,
    ⟨(some 11), none, (.op (.mf (.func f_morph_checker_bundle_1_1) [] [(.t 5)]))⟩,
    ⟨(some 12), none, (.call (.c (.fn (.func f_slices_IndexFunc_api_Trait_api_Trait) [] [])) [(.t 10), (.t 11)])⟩,
    ⟨(some 7), none, (.op (.mv (.t 12)))⟩])
  (.seq (.block 0 (.seq (.ops [⟨(some 14), none, (.op (.mv (.t 7)))⟩,
    ⟨(some 15), none, (.op (.ar .lss (.t 14) (.c (.int .i64 0))))⟩,
    ⟨(some 13), none, (.op (.mv (.t 15)))⟩])
  (.cond (.t 13)
    (.seq (.ops [⟨(some 6), none, (.op (.mv (.c (.int .u8 5))))⟩])
    .ret)
    (.seq (.dops false [] [] [(⟨(some 17), none, (.op (.fa 0 (.t 2)))⟩, .pure),
      (⟨(some 18), none, (.op (.fa 1 (.t 17)))⟩, .pure),
      (⟨(some 19), none, (.op (.ld none (.t 18)))⟩, .wide),
      (⟨(some 20), none, (.op (.mv (.t 7)))⟩, .pure),
      (⟨(some 21), none, (.op (.ias 2 (.t 19) (.t 20)))⟩, .pure),
      (⟨(some 22), none, (.op (.fa 1 (.t 21)))⟩, .pure),
      (⟨(some 23), none, (.op (.ld none (.t 22)))⟩, .wide),
      (⟨(some 24), none, (.op (.fa 1 (.t 5)))⟩, .pure),
      (⟨(some 25), none, (.op (.ld none (.t 24)))⟩, .wide),
      (⟨(some 26), none, (.call (.c (.fn (.func f_slices_Contains_string_string) [] [])) [(.t 23), (.t 25)])⟩, .eff),
      (⟨(some 27), none, (.op (.un .not (.t 26)))⟩, .pure),
      (⟨(some 16), none, (.op (.mv (.t 27)))⟩, .pure)])
    (.cond (.t 16)
      (.seq (.ops [⟨(some 6), none, (.op (.mv (.c (.int .u8 1))))⟩])
      .ret)
      (.seq (.dops false [] [] [(⟨(some 29), none, (.op (.mv (.t 0)))⟩, .pure),
        (⟨(some 30), none, (.op (.ar .gtr (.t 29) (.c (.int .i64 0))))⟩, .pure),
        (⟨(some 31), none, (.op (.mv (.t 30)))⟩, .pure),
        (⟨(some 32), (some (31, true)), (.op (.ld none (.t 3)))⟩, .wide),
        (⟨(some 33), (some (31, true)), (.op (.mv (.t 0)))⟩, .pure),
        (⟨(some 34), (some (31, true)), (.op (.ar .sub (.t 33) (.c (.int .i64 1))))⟩, .pure),
        (⟨(some 35), (some (31, true)), (.op (.ias 2 (.t 32) (.t 34)))⟩, .pure),
        (⟨(some 36), (some (31, true)), (.op (.fa 0 (.t 35)))⟩, .pure),
        (⟨(some 37), (some (31, true)), (.op (.ld none (.t 36)))⟩, .wide),
        (⟨(some 38), (some (31, true)), (.op (.fa 0 (.t 5)))⟩, .pure),
        (⟨(some 39), (some (31, true)), (.op (.ld none (.t 38)))⟩, .wide),
        (⟨(some 40), (some (31, true)), (.op (.ar .eql (.t 37) (.t 39)))⟩, .pure),
        (⟨(some 41), none, (.op (.pk (.t 31) (.t 40) (.c (.bool false))))⟩, .pure),
        (⟨(some 28), none, (.op (.mv (.t 41)))⟩, .pure)])
      (.cond (.t 28)
        (.seq (.ops [⟨(some 6), none, (.op (.mv (.c (.int .u8 6))))⟩])
        .ret)
        (.seq (.dops false [] [] [(⟨(some 43), none, (.op (.mv (.t 0)))⟩, .pure),
          (⟨(some 44), none, (.op (.ar .gtr (.t 43) (.c (.int .i64 0))))⟩, .pure),
          (⟨(some 45), none, (.op (.mv (.t 44)))⟩, .pure),
          (⟨(some 46), (some (45, true)), (.op (.ld none (.t 3)))⟩, .wide),
          (⟨(some 47), (some (45, true)), (.op (.mv (.t 0)))⟩, .pure),
          (⟨(some 48), (some (45, true)), (.op (.ar .sub (.t 47) (.c (.int .i64 1))))⟩, .pure),
          (⟨(some 49), (some (45, true)), (.op (.ias 2 (.t 46) (.t 48)))⟩, .pure),
          (⟨(some 50), (some (45, true)), (.op (.fa 0 (.t 49)))⟩, .pure),
          (⟨(some 51), (some (45, true)), (.op (.ld none (.t 50)))⟩, .wide),
          (⟨(some 52), (some (45, true)), (.op (.fa 0 (.t 5)))⟩, .pure),
          (⟨(some 53), (some (45, true)), (.op (.ld none (.t 52)))⟩, .wide),
          (⟨(some 54), (some (45, true)), (.op (.ar .gtr (.t 51) (.t 53)))⟩, .pure),
          (⟨(some 55), none, (.op (.pk (.t 45) (.t 54) (.c (.bool false))))⟩, .pure),
          (⟨(some 42), none, (.op (.mv (.t 55)))⟩, .pure)])
        (.cond (.t 42)
          (.seq (.ops [⟨(some 6), none, (.op (.mv (.c (.int .u8 1))))⟩])
          .ret)
          .skip)))))))))
  (.seq (.ops [⟨(some 6), none, (.op (.mv (.c (.int .u8 0))))⟩])
  .ret))))
def ka_morph_checker_bundle_1 : AFn := ⟨kc_morph_checker_bundle_1, 56, [.t 6], .keep, [], none⟩

def kc_morph_checker_bundle_1_1 : AC :=
  (.seq (.ops [⟨(some 2), none, (.op (.bx t_api_Trait_1 (.t 0)))⟩,
    ⟨(some 3), none, (.op (.mv (.c (.bool false))))⟩])
  (.seq (.ops [⟨(some 4), none, (.op (.fa 0 (.t 2)))⟩,
    ⟨(some 5), none, (.op (.ld none (.t 4)))⟩,
    ⟨(some 6), none, (.op (.fa 0 (.t 1)))⟩,
    ⟨(some 7), none, (.op (.ld none (.t 6)))⟩,
    ⟨(some 8), none, (.op (.ar .eql (.t 5) (.t 7)))⟩,
    ⟨(some 3), none, (.op (.mv (.t 8)))⟩])
  .ret))
def ka_morph_checker_bundle_1_1 : AFn := ⟨kc_morph_checker_bundle_1_1, 9, [.t 3], .keep, [], none⟩

def kc_morph_classOf_1 : AC :=
  (.seq (.ops [⟨(some 2), none, (.op (.bx t_api_Class_1 (.t 0)))⟩,
    ⟨(some 3), none, (.op (.mv (.c (.bool false))))⟩])
  (.seq (.ops [⟨(some 4), none, (.op (.fa 0 (.t 2)))⟩,
    ⟨(some 5), none, (.op (.ld none (.t 4)))⟩,
    ⟨(some 6), none, (.op (.ld none (.t 1)))⟩,
    ⟨(some 7), none, (.op (.ar .eql (.t 5) (.t 6)))⟩,
    ⟨(some 3), none, (.op (.mv (.t 7)))⟩])
  .ret))
def ka_morph_classOf_1 : AFn := ⟨kc_morph_classOf_1, 8, [.t 3], .keep, [], none⟩

def l_kslices_IndexFunc_api_Entry_api_Entry_0 : AC :=
  (.seq (.ops [⟨(some 9), none, (.op (.ar .lss (.t 8) (.t 7)))⟩])
  (.seq (.cond (.t 9)
    .skip
    (.exit 0))
  (.seq (.block 1 (.seq (.ops [⟨(some 10), none, (.op (.mv (.t 8)))⟩,
    ⟨(some 5), none, (.op (.mv (.t 10)))⟩])
  (.seq (.ops [⟨(some 11), none, (.op (.mv (.t 1)))⟩,
    ⟨(some 12), none, (.op (.mv (.t 0)))⟩,
    ⟨(some 13), none, (.op (.mv (.t 5)))⟩,
    ⟨(some 14), none, (.op (.ias 4 (.t 12) (.t 13)))⟩,
    ⟨(some 15), none, (.op (.ld (some 4) (.t 14)))⟩,
    ⟨(some 16), none, (.call (.t 11) [(.t 15)])⟩])
  (.cond (.t 16)
    (.seq (.ops [⟨(some 17), none, (.op (.mv (.t 5)))⟩,
      ⟨(some 4), none, (.op (.mv (.t 17)))⟩])
    .ret)
    .skip))))
  (.ops [⟨(some 18), none, (.op (.ar .add (.t 8) (.c (.int .i64 1))))⟩,
    ⟨(some 8), none, (.op (.mv (.t 18)))⟩]))))

def kc_slices_IndexFunc_api_Entry_api_Entry : AC :=
  (.seq (.ops [⟨(some 4), none, (.op (.mv (.c (.int .i64 0))))⟩])
  (.seq (.seq (.ops [⟨(some 6), none, (.op (.mv (.t 0)))⟩,
    ⟨(some 7), none, (.op (.len .sl (.t 6)))⟩,
    ⟨(some 8), none, (.op (.mv (.c (.int .i64 0))))⟩])
  (.block 0 (.loop ⟨none, [], false⟩ l_kslices_IndexFunc_api_Entry_api_Entry_0)))
  (.seq (.ops [⟨(some 4), none, (.op (.mv (.c (.int .i64 (-1)))))⟩])
  .ret)))
def ka_slices_IndexFunc_api_Entry_api_Entry : AFn := ⟨kc_slices_IndexFunc_api_Entry_api_Entry, 19, [.t 4], .keep, [], none⟩

def l_kslices_IndexFunc_api_Slot_api_Slot_0 : AC :=
  (.seq (.ops [⟨(some 9), none, (.op (.ar .lss (.t 8) (.t 7)))⟩])
  (.seq (.cond (.t 9)
    .skip
    (.exit 0))
  (.seq (.block 1 (.seq (.ops [⟨(some 10), none, (.op (.mv (.t 8)))⟩,
    ⟨(some 5), none, (.op (.mv (.t 10)))⟩])
  (.seq (.ops [⟨(some 11), none, (.op (.mv (.t 1)))⟩,
    ⟨(some 12), none, (.op (.mv (.t 0)))⟩,
    ⟨(some 13), none, (.op (.mv (.t 5)))⟩,
    ⟨(some 14), none, (.op (.ias 4 (.t 12) (.t 13)))⟩,
    ⟨(some 15), none, (.op (.ld (some 4) (.t 14)))⟩,
    ⟨(some 16), none, (.call (.t 11) [(.t 15)])⟩])
  (.cond (.t 16)
    (.seq (.ops [⟨(some 17), none, (.op (.mv (.t 5)))⟩,
      ⟨(some 4), none, (.op (.mv (.t 17)))⟩])
    .ret)
    .skip))))
  (.ops [⟨(some 18), none, (.op (.ar .add (.t 8) (.c (.int .i64 1))))⟩,
    ⟨(some 8), none, (.op (.mv (.t 18)))⟩]))))

def kc_slices_IndexFunc_api_Slot_api_Slot : AC :=
  (.seq (.ops [⟨(some 4), none, (.op (.mv (.c (.int .i64 0))))⟩])
  (.seq (.seq (.ops [⟨(some 6), none, (.op (.mv (.t 0)))⟩,
    ⟨(some 7), none, (.op (.len .sl (.t 6)))⟩,
    ⟨(some 8), none, (.op (.mv (.c (.int .i64 0))))⟩])
  (.block 0 (.loop ⟨none, [], false⟩ l_kslices_IndexFunc_api_Slot_api_Slot_0)))
  (.seq (.ops [⟨(some 4), none, (.op (.mv (.c (.int .i64 (-1)))))⟩])
  .ret)))
def ka_slices_IndexFunc_api_Slot_api_Slot : AFn := ⟨kc_slices_IndexFunc_api_Slot_api_Slot, 19, [.t 4], .keep, [], none⟩

def kc_slices_ContainsFunc_api_Feat_api_Feat : AC :=
  (.seq (.ops [⟨(some 4), none, (.op (.mv (.c (.bool false))))⟩])
  (.seq (.ops [⟨(some 5), none, (.op (.mv (.t 0)))⟩,
    ⟨(some 6), none, (.op (.mv (.t 1)))⟩,
    ⟨(some 7), none, (.call (.c (.fn (.func f_slices_IndexFunc_api_Feat_api_Feat) [] [])) [(.t 5), (.t 6)])⟩,
    ⟨(some 8), none, (.op (.ar .geq (.t 7) (.c (.int .i64 0))))⟩,
    ⟨(some 4), none, (.op (.mv (.t 8)))⟩])
  .ret))
def ka_slices_ContainsFunc_api_Feat_api_Feat : AFn := ⟨kc_slices_ContainsFunc_api_Feat_api_Feat, 9, [.t 4], .keep, [], none⟩

def kc_morph_clash_1 : AC :=
  (.seq (.ops [⟨(some 2), none, (.op (.bx t_api_Feat_1 (.t 0)))⟩,
    ⟨(some 3), none, (.op (.mv (.c (.bool false))))⟩])
  (.seq (.ops [⟨(some 4), none, (.op (.ld none (.t 1)))⟩,
    ⟨(some 5), none, (.op (.mf (.func f_morph_clash_1_1) [] [(.t 2)]))⟩,
    ⟨(some 6), none, (.call (.c (.fn (.func f_slices_ContainsFunc_api_Feat_api_Feat) [] [])) [(.t 4), (.t 5)])⟩,
    ⟨(some 3), none, (.op (.mv (.t 6)))⟩])
  .ret))
def ka_morph_clash_1 : AFn := ⟨kc_morph_clash_1, 7, [.t 3], .keep, [], none⟩

def kc_morph_clash_1_1 : AC :=
  (.seq (.ops [⟨(some 2), none, (.op (.bx t_api_Feat_1 (.t 0)))⟩,
    ⟨(some 3), none, (.op (.mv (.c (.bool false))))⟩])
  (.seq (.ops [⟨(some 4), none, (.op (.fa 0 (.t 1)))⟩,
    ⟨(some 5), none, (.op (.ld none (.t 4)))⟩,
    ⟨(some 6), none, (.op (.fa 0 (.t 2)))⟩,
    ⟨(some 7), none, (.op (.ld none (.t 6)))⟩,
    ⟨(some 8), none, (.op (.ar .eql (.t 5) (.t 7)))⟩,
    ⟨(some 9), none, (.op (.mv (.t 8)))⟩,
    ⟨(some 10), (some (9, true)), (.op (.fa 1 (.t 1)))⟩,
    ⟨(some 11), (some (9, true)), (.op (.ld none (.t 10)))⟩,
    ⟨(some 12), (some (9, true)), (.op (.fa 1 (.t 2)))⟩,
    ⟨(some 13), (some (9, true)), (.op (.ld none (.t 12)))⟩,
    ⟨(some 14), (some (9, true)), (.op (.ar .neq (.t 11) (.t 13)))⟩,
    ⟨(some 15), none, (.op (.pk (.t 9) (.t 14) (.c (.bool false))))⟩,
    ⟨(some 3), none, (.op (.mv (.t 15)))⟩])
  .ret))
def ka_morph_clash_1_1 : AFn := ⟨kc_morph_clash_1_1, 16, [.t 3], .keep, [], none⟩

def l_kslices_IndexFunc_api_Irregular_api_Irregular_0 : AC :=
  (.seq (.ops [⟨(some 9), none, (.op (.ar .lss (.t 8) (.t 7)))⟩])
  (.seq (.cond (.t 9)
    .skip
    (.exit 0))
  (.seq (.block 1 (.seq (.ops [⟨(some 10), none, (.op (.mv (.t 8)))⟩,
    ⟨(some 5), none, (.op (.mv (.t 10)))⟩])
  (.seq (.ops [⟨(some 11), none, (.op (.mv (.t 1)))⟩,
    ⟨(some 12), none, (.op (.mv (.t 0)))⟩,
    ⟨(some 13), none, (.op (.mv (.t 5)))⟩,
    ⟨(some 14), none, (.op (.ias 2 (.t 12) (.t 13)))⟩,
    ⟨(some 15), none, (.op (.ld (some 2) (.t 14)))⟩,
    ⟨(some 16), none, (.call (.t 11) [(.t 15)])⟩])
  (.cond (.t 16)
    (.seq (.ops [⟨(some 17), none, (.op (.mv (.t 5)))⟩,
      ⟨(some 4), none, (.op (.mv (.t 17)))⟩])
    .ret)
    .skip))))
  (.ops [⟨(some 18), none, (.op (.ar .add (.t 8) (.c (.int .i64 1))))⟩,
    ⟨(some 8), none, (.op (.mv (.t 18)))⟩]))))

def kc_slices_IndexFunc_api_Irregular_api_Irregular : AC :=
  (.seq (.ops [⟨(some 4), none, (.op (.mv (.c (.int .i64 0))))⟩])
  (.seq (.seq (.ops [⟨(some 6), none, (.op (.mv (.t 0)))⟩,
    ⟨(some 7), none, (.op (.len .sl (.t 6)))⟩,
    ⟨(some 8), none, (.op (.mv (.c (.int .i64 0))))⟩])
  (.block 0 (.loop ⟨none, [], false⟩ l_kslices_IndexFunc_api_Irregular_api_Irregular_0)))
  (.seq (.ops [⟨(some 4), none, (.op (.mv (.c (.int .i64 (-1)))))⟩])
  .ret)))
def ka_slices_IndexFunc_api_Irregular_api_Irregular : AFn := ⟨kc_slices_IndexFunc_api_Irregular_api_Irregular, 19, [.t 4], .keep, [], none⟩

def kc_strings_HasPrefix : AC :=
  (.seq (.ops [⟨(some 4), none, (.op (.mv (.c (.bool false))))⟩])
  (.seq (.ops [⟨(some 5), none, (.op (.mv (.t 0)))⟩,
    ⟨(some 6), none, (.op (.mv (.t 1)))⟩,
    ⟨(some 7), none, (.call (.c (.fn (.func f_internal_stringslite_HasPrefix) [] [])) [(.t 5), (.t 6)])⟩,
    ⟨(some 4), none, (.op (.mv (.t 7)))⟩])
  .ret))
def ka_strings_HasPrefix : AFn := ⟨kc_strings_HasPrefix, 8, [.t 4], .keep, [], none⟩

def l_kmorph_language_left_0 : AC :=
  (.seq (.ops [⟨(some 13), none, (.op (.ar .lss (.t 12) (.t 11)))⟩])
  (.seq (.cond (.t 13)
    .skip
    (.exit 0))
  (.seq (.block 1 (.seq (.ops [⟨(some 14), none, (.op (.mv (.t 12)))⟩,
    ⟨(some 9), none, (.op (.mv (.t 14)))⟩])
  (.seq (.dops false [] [] [(⟨(some 15), none, (.op (.ld (some 6) (.t 4)))⟩, .wide),
    (⟨(some 16), none, (.op (.mv (.t 1)))⟩, .pure),
    (⟨(some 17), none, (.op (.mv (.t 1)))⟩, .pure),
    (⟨(some 18), none, (.op (.len .str (.t 17)))⟩, .wide),
    (⟨(some 19), none, (.op (.ar .sub (.t 18) (.c (.int .i64 1))))⟩, .pure),
    (⟨(some 20), none, (.op (.mv (.t 9)))⟩, .pure),
    (⟨(some 21), none, (.op (.ar .sub (.t 19) (.t 20)))⟩, .pure),
    (⟨(some 22), none, (.op (.ixs (.t 16) (.t 21)))⟩, .pure),
    (⟨(some 23), none, (.op (.mv (.t 2)))⟩, .pure),
    (⟨(some 24), none, (.op (.mv (.t 3)))⟩, .pure),
    (⟨(some 25), none, (.op (.ar .sub (.t 24) (.c (.int .i64 1))))⟩, .pure),
    (⟨(some 26), none, (.op (.mv (.t 9)))⟩, .pure),
    (⟨(some 27), none, (.op (.ar .sub (.t 25) (.t 26)))⟩, .pure),
    (⟨(some 28), none, (.call (.c (.fn (.func f_morph_language_match) [] [])) [(.t 15), (.t 22), (.t 23), (.t 27)])⟩, .eff),
    (⟨(some 29), none, (.op (.un .not (.t 28)))⟩, .pure)])
  (.cond (.t 29)
    (.seq (.ops [⟨(some 8), none, (.op (.mv (.c (.bool false))))⟩])
    .ret)
    .skip))))
  (.ops [⟨(some 30), none, (.op (.ar .add (.t 12) (.c (.int .i64 1))))⟩,
    ⟨(some 12), none, (.op (.mv (.t 30)))⟩]))))

def kc_morph_language_left : AC :=
  (.seq (.ops [⟨(some 4), none, (.op (.bx t_morph_language (.t 0)))⟩,
    ⟨(some 8), none, (.op (.mv (.c (.bool false))))⟩])
  (.seq (.seq (.ops [⟨(some 10), none, (.op (.mv (.t 1)))⟩,
    ⟨(some 11), none, (.op (.len .str (.t 10)))⟩,
    ⟨(some 12), none, (.op (.mv (.c (.int .i64 0))))⟩])
  (.block 0 (.loop ⟨none, [], false⟩ l_kmorph_language_left_0)))
  (.seq (.ops [⟨(some 8), none, (.op (.mv (.c (.bool true))))⟩])
  .ret)))
def ka_morph_language_left : AFn := ⟨kc_morph_language_left, 31, [.t 8], .keep, [], none⟩

def l_kmorph_language_right_0 : AC :=
  (.seq (.ops [⟨(some 13), none, (.op (.ar .lss (.t 12) (.t 11)))⟩])
  (.seq (.cond (.t 13)
    .skip
    (.exit 0))
  (.seq (.block 1 (.seq (.ops [⟨(some 14), none, (.op (.mv (.t 12)))⟩,
    ⟨(some 9), none, (.op (.mv (.t 14)))⟩])
  (.seq (.dops false [] [] [(⟨(some 15), none, (.op (.ld (some 6) (.t 4)))⟩, .wide),
    (⟨(some 16), none, (.op (.mv (.t 1)))⟩, .pure),
    (⟨(some 17), none, (.op (.mv (.t 9)))⟩, .pure),
    (⟨(some 18), none, (.op (.ixs (.t 16) (.t 17)))⟩, .pure),
    (⟨(some 19), none, (.op (.mv (.t 2)))⟩, .pure),
    (⟨(some 20), none, (.op (.mv (.t 3)))⟩, .pure),
    (⟨(some 21), none, (.op (.mv (.t 9)))⟩, .pure),
    (⟨(some 22), none, (.op (.ar .add (.t 20) (.t 21)))⟩, .pure),
    (⟨(some 23), none, (.call (.c (.fn (.func f_morph_language_match) [] [])) [(.t 15), (.t 18), (.t 19), (.t 22)])⟩, .eff),
    (⟨(some 24), none, (.op (.un .not (.t 23)))⟩, .pure)])
  (.cond (.t 24)
    (.seq (.ops [⟨(some 8), none, (.op (.mv (.c (.bool false))))⟩])
    .ret)
    .skip))))
  (.ops [⟨(some 25), none, (.op (.ar .add (.t 12) (.c (.int .i64 1))))⟩,
    ⟨(some 12), none, (.op (.mv (.t 25)))⟩]))))

def kc_morph_language_right : AC :=
  (.seq (.ops [⟨(some 4), none, (.op (.bx t_morph_language (.t 0)))⟩,
    ⟨(some 8), none, (.op (.mv (.c (.bool false))))⟩])
  (.seq (.seq (.ops [⟨(some 10), none, (.op (.mv (.t 1)))⟩,
    ⟨(some 11), none, (.op (.len .str (.t 10)))⟩,
    ⟨(some 12), none, (.op (.mv (.c (.int .i64 0))))⟩])
  (.block 0 (.loop ⟨none, [], false⟩ l_kmorph_language_right_0)))
  (.seq (.ops [⟨(some 8), none, (.op (.mv (.c (.bool true))))⟩])
  .ret)))
def ka_morph_language_right : AFn := ⟨kc_morph_language_right, 26, [.t 8], .keep, [], none⟩

def kc_strings_Builder_WriteString : AC :=
  (.seq (.ops [⟨(some 4), none, (.op (.mv (.c (.int .i64 0))))⟩,
    ⟨(some 5), none, (.op (.mv (.c .nilif)))⟩])
  (.seq (.ops [⟨(some 6), none, (.op (.mv (.t 0)))⟩,
    ⟨(some 7), none, (.call (.c (.fn (.func f_strings_Builder_copyCheck) [] [])) [(.t 6)])⟩])
  (.seq (.ops [⟨(some 8), none, (.op (.mv (.t 0)))⟩,
    ⟨(some 9), none, (.op (.mv (.t 0)))⟩,
    ⟨(some 10), none, (.op (.nc (.t 9)))⟩,
    ⟨(some 11), none, (.op (.fa 1 (.t 10)))⟩,
    ⟨(some 12), none, (.op (.ld none (.t 11)))⟩,
    ⟨(some 13), none, (.op (.mv (.t 1)))⟩,
    ⟨(some 14), none, (.op (.ap false t_uint8 1 1 true (.t 12) (.t 13)))⟩,
    ⟨(some 15), none, (.op (.nc (.t 8)))⟩,
    ⟨(some 16), none, (.op (.fa 1 (.t 15)))⟩,
    ⟨none, none, (.op (.st 1 (.t 16) (.t 14)))⟩])
  (.seq (.ops [⟨(some 17), none, (.op (.mv (.t 1)))⟩,
    ⟨(some 18), none, (.op (.len .str (.t 17)))⟩,
    ⟨(some 4), none, (.op (.mv (.t 18)))⟩,
    ⟨(some 5), none, (.op (.mv (.c .nilif)))⟩])
  .ret))))
def ka_strings_Builder_WriteString : AFn := ⟨kc_strings_Builder_WriteString, 19, [.t 4, .t 5], .keep, [], none⟩

def kc_strings_Builder_WriteByte : AC :=
  (.seq (.ops [⟨(some 4), none, (.op (.mv (.c .nilif)))⟩])
  (.seq (.ops [⟨(some 5), none, (.op (.mv (.t 0)))⟩,
    ⟨(some 6), none, (.call (.c (.fn (.func f_strings_Builder_copyCheck) [] [])) [(.t 5)])⟩])
  (.seq (.ops [⟨(some 7), none, (.op (.mv (.t 0)))⟩,
    ⟨(some 8), none, (.op (.mv (.t 0)))⟩,
    ⟨(some 9), none, (.op (.nc (.t 8)))⟩,
    ⟨(some 10), none, (.op (.fa 1 (.t 9)))⟩,
    ⟨(some 11), none, (.op (.ld none (.t 10)))⟩,
    ⟨(some 12), none, (.op (.mv (.t 1)))⟩,
    ⟨(some 13), none, (.op (.bs 1 [(.int .u8 0)] 1 [(0, (.t 12))]))⟩,
    ⟨(some 14), none, (.op (.ap false t_uint8 1 1 false (.t 11) (.t 13)))⟩,
    ⟨(some 15), none, (.op (.nc (.t 7)))⟩,
    ⟨(some 16), none, (.op (.fa 1 (.t 15)))⟩,
    ⟨none, none, (.op (.st 1 (.t 16) (.t 14)))⟩])
  (.seq (.ops [⟨(some 4), none, (.op (.mv (.c .nilif)))⟩])
  .ret))))
def ka_strings_Builder_WriteByte : AFn := ⟨kc_strings_Builder_WriteByte, 17, [.t 4], .keep, [], none⟩

def kc_strings_Builder_String : AC :=
  (.seq (.ops [⟨(some 2), none, (.op (.mv (.c (.str []))))⟩])
  (.seq (.dops false [] [] [(⟨(some 3), none, (.op (.mv (.t 0)))⟩, .pure),
    (⟨(some 4), none, (.op (.nc (.t 3)))⟩, .pure),
    (⟨(some 5), none, (.op (.fa 1 (.t 4)))⟩, .pure),
    (⟨(some 6), none, (.op (.ld none (.t 5)))⟩, .wide),
    (⟨(some 7), none, (.op (.usl (.t 6)))⟩, .pure),
    (⟨(some 8), none, (.op (.mv (.t 0)))⟩, .pure),
    (⟨(some 9), none, (.op (.nc (.t 8)))⟩, .pure),
    (⟨(some 10), none, (.op (.fa 1 (.t 9)))⟩, .pure),
    (⟨(some 11), none, (.op (.ld none (.t 10)))⟩, .wide),
    (⟨(some 12), none, (.op (.len .sl (.t 11)))⟩, .wide),
    (⟨(some 13), none, (.op (.ust t_uint8 (.t 7) (.t 12)))⟩, .eff),
    (⟨(some 2), none, (.op (.mv (.t 13)))⟩, .pure)])
  .ret))
def ka_strings_Builder_String : AFn := ⟨kc_strings_Builder_String, 14, [.t 2], .keep, [], none⟩

def kc_strings_Builder_Len : AC :=
  (.seq (.ops [⟨(some 2), none, (.op (.mv (.c (.int .i64 0))))⟩])
  (.seq (.ops [⟨(some 3), none, (.op (.mv (.t 0)))⟩,
    ⟨(some 4), none, (.op (.nc (.t 3)))⟩,
    ⟨(some 5), none, (.op (.fa 1 (.t 4)))⟩,
    ⟨(some 6), none, (.op (.ld none (.t 5)))⟩,
    ⟨(some 7), none, (.op (.len .sl (.t 6)))⟩,
    ⟨(some 2), none, (.op (.mv (.t 7)))⟩])
  .ret))
def ka_strings_Builder_Len : AFn := ⟨kc_strings_Builder_Len, 8, [.t 2], .keep, [], none⟩

def kc_strings_Builder_Grow : AC :=
  (.seq (.ops [⟨(some 4), none, (.op (.mv (.t 0)))⟩,
    ⟨(some 5), none, (.call (.c (.fn (.func f_strings_Builder_copyCheck) [] [])) [(.t 4)])⟩])
  (.seq (.seq (.ops [⟨(some 6), none, (.op (.mv (.t 1)))⟩,
    ⟨(some 7), none, (.op (.ar .lss (.t 6) (.c (.int .i64 0))))⟩])
  (.cond (.t 7)
    (.ops [⟨(some 8), none, (.op (.mi t_string (.c (.str [115, 116, 114, 105, 110, 103, 115, 46, 66, 117, 105, 108, 100, 101, 114, 46, 71, 114, 111, 119, 58, 32, 110, 101, 103, 97, 116, 105, 118, 101, 32, 99, 111, 117, 110, 116]))))⟩,
      ⟨none, none, (.panic (.t 8))⟩])
    .skip))
  (.seq (.dops false [] [] [(⟨(some 9), none, (.op (.mv (.t 0)))⟩, .pure),
    (⟨(some 10), none, (.op (.nc (.t 9)))⟩, .pure),
    (⟨(some 11), none, (.op (.fa 1 (.t 10)))⟩, .pure),
    (⟨(some 12), none, (.op (.ld none (.t 11)))⟩, .wide),
    (⟨(some 13), none, (.op (.cap (.t 12)))⟩, .pure),
    (⟨(some 14), none, (.op (.mv (.t 0)))⟩, .pure),
    (⟨(some 15), none, (.op (.nc (.t 14)))⟩, .pure),
    (⟨(some 16), none, (.op (.fa 1 (.t 15)))⟩, .pure),
    (⟨(some 17), none, (.op (.ld none (.t 16)))⟩, .wide),
    (⟨(some 18), none, (.op (.len .sl (.t 17)))⟩, .wide),
    (⟨(some 19), none, (.op (.ar .sub (.t 13) (.t 18)))⟩, .pure),
    (⟨(some 20), none, (.op (.mv (.t 1)))⟩, .pure),
    (⟨(some 21), none, (.op (.ar .lss (.t 19) (.t 20)))⟩, .pure)])
  (.cond (.t 21)
    (.ops [⟨(some 22), none, (.op (.mv (.t 0)))⟩,
      ⟨(some 23), none, (.op (.mv (.t 1)))⟩,
      ⟨(some 24), none, (.call (.c (.fn (.func f_strings_Builder_grow) [] [])) [(.t 22), (.t 23)])⟩])
    .skip))))
def ka_strings_Builder_Grow : AFn := ⟨kc_strings_Builder_Grow, 25, [], .keep, [], none⟩

def kc_unicode_utf8_decodeRuneInStringSlow : AC :=
  (.seq (.ops [⟨(some 2), none, (.op (.mv (.c (.int .i32 0))))⟩,
    ⟨(some 3), none, (.op (.mv (.c (.int .i64 0))))⟩])
  (.seq (.ops [⟨(some 13), none, (.op (.mv (.t 0)))⟩,
    ⟨(some 14), none, (.op (.len .str (.t 13)))⟩,
    ⟨(some 4), none, (.op (.mv (.t 14)))⟩])
  (.seq (.seq (.ops [⟨(some 15), none, (.op (.mv (.t 4)))⟩,
    ⟨(some 16), none, (.op (.ar .lss (.t 15) (.c (.int .i64 1))))⟩])
  (.cond (.t 16)
    (.seq (.ops [⟨(some 2), none, (.op (.mv (.c (.int .i32 65533))))⟩,
      ⟨(some 3), none, (.op (.mv (.c (.int .i64 0))))⟩])
    .ret)
    .skip))
  (.seq (.ops [⟨(some 17), none, (.op (.mv (.t 0)))⟩,
    ⟨(some 18), none, (.op (.ixs (.t 17) (.c (.int .i64 0))))⟩,
    ⟨(some 5), none, (.op (.mv (.t 18)))⟩])
  (.seq (.ops [⟨(some 19), none, (.op (.mv (.t 5)))⟩,
    ⟨(some 20), none, (.op (.iaa 256 1 (.c .unk) (.t 19)))⟩,
    ⟨(some 21), none, (.op (.ld none (.t 20)))⟩,
    ⟨(some 6), none, (.op (.mv (.t 21)))⟩])
  (.seq (.seq (.ops [⟨(some 22), none, (.op (.mv (.t 6)))⟩,
    ⟨(some 23), none, (.op (.ar .geq (.t 22) (.c (.int .u8 240))))⟩])
  (.cond (.t 23)
    (.seq (.ops [⟨(some 24), none, (.op (.mv (.t 6)))⟩,
      ⟨(some 25), none, (.op (.cvi .i32 (.t 24)))⟩,
      ⟨(some 26), none, (.op (.sh .shl (.t 25) (.c (.int .u64 31))))⟩,
      ⟨(some 27), none, (.op (.sh .shr (.t 26) (.c (.int .u64 31))))⟩,
      ⟨(some 7), none, (.op (.mv (.t 27)))⟩])
    (.seq (.ops [⟨(some 28), none, (.op (.mv (.t 0)))⟩,
      ⟨(some 29), none, (.op (.ixs (.t 28) (.c (.int .i64 0))))⟩,
      ⟨(some 30), none, (.op (.cvi .i32 (.t 29)))⟩,
      ⟨(some 31), none, (.op (.mv (.t 7)))⟩,
      ⟨(some 32), none, (.op (.an (.t 30) (.t 31)))⟩,
      ⟨(some 33), none, (.op (.mv (.t 7)))⟩,
      ⟨(some 34), none, (.op (.ar .and (.c (.int .i32 65533)) (.t 33)))⟩,
      ⟨(some 35), none, (.op (.ar .or (.t 32) (.t 34)))⟩,
      ⟨(some 2), none, (.op (.mv (.t 35)))⟩,
      ⟨(some 3), none, (.op (.mv (.c (.int .i64 1))))⟩])
    .ret))
    .skip))
  (.seq (.ops [⟨(some 36), none, (.op (.mv (.t 6)))⟩,
    ⟨(some 37), none, (.op (.ar .and (.t 36) (.c (.int .u8 7))))⟩,
    ⟨(some 38), none, (.op (.cvi .i64 (.t 37)))⟩,
    ⟨(some 8), none, (.op (.mv (.t 38)))⟩])
  (.seq (.ops [⟨(some 39), none, (.op (.mv (.t 6)))⟩,
    ⟨(some 40), none, (.op (.sh .shr (.t 39) (.c (.int .u64 4))))⟩,
    ⟨(some 41), none, (.op (.iaa 16 2 (.c .unk) (.t 40)))⟩,
    ⟨(some 42), none, (.op (.ld (some 2) (.t 41)))⟩,
    ⟨(some 9), none, (.op (.nw [(.int .u8 0), (.int .u8 0)] t_utf8_acceptRange))⟩,
    ⟨none, none, (.op (.st 2 (.t 9) (.t 42)))⟩])
  (.seq (.seq (.ops [⟨(some 43), none, (.op (.mv (.t 4)))⟩,
    ⟨(some 44), none, (.op (.mv (.t 8)))⟩,
    ⟨(some 45), none, (.op (.ar .lss (.t 43) (.t 44)))⟩])
  (.cond (.t 45)
    (.seq (.ops [⟨(some 2), none, (.op (.mv (.c (.int .i32 65533))))⟩,
      ⟨(some 3), none, (.op (.mv (.c (.int .i64 1))))⟩])
    .ret)
    .skip))
  (.seq (.ops [⟨(some 46), none, (.op (.mv (.t 0)))⟩,
    ⟨(some 47), none, (.op (.ixs (.t 46) (.c (.int .i64 1))))⟩,
    ⟨(some 10), none, (.op (.mv (.t 47)))⟩])
  (.seq (.seq (.ops [⟨(some 48), none, (.op (.mv (.t 10)))⟩,
    ⟨(some 49), none, (.op (.fa 0 (.t 9)))⟩,
    ⟨(some 50), none, (.op (.ld none (.t 49)))⟩,
    ⟨(some 51), none, (.op (.ar .lss (.t 48) (.t 50)))⟩,
    ⟨(some 52), none, (.op (.mv (.t 51)))⟩,
    ⟨(some 53), (some (52, false)), (.op (.fa 1 (.t 9)))⟩,
    ⟨(some 54), (some (52, false)), (.op (.ld none (.t 53)))⟩,
    ⟨(some 55), (some (52, false)), (.op (.mv (.t 10)))⟩,
    ⟨(some 56), (some (52, false)), (.op (.ar .lss (.t 54) (.t 55)))⟩,
    ⟨(some 57), none, (.op (.pk (.t 52) (.c (.bool true)) (.t 56)))⟩])
  (.cond (.t 57)
    (.seq (.ops [⟨(some 2), none, (.op (.mv (.c (.int .i32 65533))))⟩,
      ⟨(some 3), none, (.op (.mv (.c (.int .i64 1))))⟩])
    .ret)
    .skip))
  (.seq (.seq (.ops [⟨(some 58), none, (.op (.mv (.t 8)))⟩,
    ⟨(some 59), none, (.op (.ar .leq (.t 58) (.c (.int .i64 2))))⟩])
  (.cond (.t 59)
    (.seq (.ops [⟨(some 60), none, (.op (.mv (.t 5)))⟩,
      ⟨(some 61), none, (.op (.ar .and (.t 60) (.c (.int .u8 31))))⟩,
      ⟨(some 62), none, (.op (.cvi .i32 (.t 61)))⟩,
      ⟨(some 63), none, (.op (.sh .shl (.t 62) (.c (.int .u64 6))))⟩,
      ⟨(some 64), none, (.op (.mv (.t 10)))⟩,
      ⟨(some 65), none, (.op (.ar .and (.t 64) (.c (.int .u8 63))))⟩,
      ⟨(some 66), none, (.op (.cvi .i32 (.t 65)))⟩,
      ⟨(some 67), none, (.op (.ar .or (.t 63) (.t 66)))⟩,
      ⟨(some 2), none, (.op (.mv (.t 67)))⟩,
      ⟨(some 3), none, (.op (.mv (.c (.int .i64 2))))⟩])
    .ret)
    .skip))
  (.seq (.ops [⟨(some 68), none, (.op (.mv (.t 0)))⟩,
    ⟨(some 69), none, (.op (.ixs (.t 68) (.c (.int .i64 2))))⟩,
    ⟨(some 11), none, (.op (.mv (.t 69)))⟩])
  (.seq (.seq (.ops [⟨(some 70), none, (.op (.mv (.t 11)))⟩,
    ⟨(some 71), none, (.op (.ar .lss (.t 70) (.c (.int .u8 128))))⟩,
    ⟨(some 72), none, (.op (.mv (.t 71)))⟩,
    ⟨(some 73), (some (72, false)), (.op (.mv (.t 11)))⟩,
    ⟨(some 74), (some (72, false)), (.op (.ar .lss (.c (.int .u8 191)) (.t 73)))⟩,
    ⟨(some 75), none, (.op (.pk (.t 72) (.c (.bool true)) (.t 74)))⟩])
  (.cond (.t 75)
    (.seq (.ops [⟨(some 2), none, (.op (.mv (.c (.int .i32 65533))))⟩,
      ⟨(some 3), none, (.op (.mv (.c (.int .i64 1))))⟩])
    .ret)
    .skip))
  (.seq (.seq (.ops [⟨(some 76), none, (.op (.mv (.t 8)))⟩,
    ⟨(some 77), none, (.op (.ar .leq (.t 76) (.c (.int .i64 3))))⟩])
  (.cond (.t 77)
    (.seq (.ops [⟨(some 78), none, (.op (.mv (.t 5)))⟩,
      ⟨(some 79), none, (.op (.ar .and (.t 78) (.c (.int .u8 15))))⟩,
      ⟨(some 80), none, (.op (.cvi .i32 (.t 79)))⟩,
      ⟨(some 81), none, (.op (.sh .shl (.t 80) (.c (.int .u64 12))))⟩,
      ⟨(some 82), none, (.op (.mv (.t 10)))⟩,
      ⟨(some 83), none, (.op (.ar .and (.t 82) (.c (.int .u8 63))))⟩,
      ⟨(some 84), none, (.op (.cvi .i32 (.t 83)))⟩,
      ⟨(some 85), none, (.op (.sh .shl (.t 84) (.c (.int .u64 6))))⟩,
      ⟨(some 86), none, (.op (.ar .or (.t 81) (.t 85)))⟩,
      ⟨(some 87), none, (.op (.mv (.t 11)))⟩,
      ⟨(some 88), none, (.op (.ar .and (.t 87) (.c (.int .u8 63))))⟩,
      ⟨(some 89), none, (.op (.cvi .i32 (.t 88)))⟩,
      ⟨(some 90), none, (.op (.ar .or (.t 86) (.t 89)))⟩,
      ⟨(some 2), none, (.op (.mv (.t 90)))⟩,
      ⟨(some 3), none, (.op (.mv (.c (.int .i64 3))))⟩])
    .ret)
    .skip))
  (.seq (.ops [⟨(some 91), none, (.op (.mv (.t 0)))⟩,
    ⟨(some 92), none, (.op (.ixs (.t 91) (.c (.int .i64 3))))⟩,
    ⟨(some 12), none, (.op (.mv (.t 92)))⟩])
  (.seq (.seq (.ops [⟨(some 93), none, (.op (.mv (.t 12)))⟩,
    ⟨(some 94), none, (.op (.ar .lss (.t 93) (.c (.int .u8 128))))⟩,
    ⟨(some 95), none, (.op (.mv (.t 94)))⟩,
    ⟨(some 96), (some (95, false)), (.op (.mv (.t 12)))⟩,
    ⟨(some 97), (some (95, false)), (.op (.ar .lss (.c (.int .u8 191)) (.t 96)))⟩,
    ⟨(some 98), none, (.op (.pk (.t 95) (.c (.bool true)) (.t 97)))⟩])
  (.cond (.t 98)
    (.seq (.ops [⟨(some 2), none, (.op (.mv (.c (.int .i32 65533))))⟩,
      ⟨(some 3), none, (.op (.mv (.c (.int .i64 1))))⟩])
    .ret)
    .skip))
  (.seq (.ops [⟨(some 99), none, (.op (.mv (.t 5)))⟩,
    ⟨(some 100), none, (.op (.ar .and (.t 99) (.c (.int .u8 7))))⟩,
    ⟨(some 101), none, (.op (.cvi .i32 (.t 100)))⟩,
    ⟨(some 102), none, (.op (.sh .shl (.t 101) (.c (.int .u64 18))))⟩,
    ⟨(some 103), none, (.op (.mv (.t 10)))⟩,
    ⟨(some 104), none, (.op (.ar .and (.t 103) (.c (.int .u8 63))))⟩,
    ⟨(some 105), none, (.op (.cvi .i32 (.t 104)))⟩,
    ⟨(some 106), none, (.op (.sh .shl (.t 105) (.c (.int .u64 12))))⟩,
    ⟨(some 107), none, (.op (.ar .or (.t 102) (.t 106)))⟩,
    ⟨(some 108), none, (.op (.mv (.t 11)))⟩,
    ⟨(some 109), none, (.op (.ar .and (.t 108) (.c (.int .u8 63))))⟩,
    ⟨(some 110), none, (.op (.cvi .i32 (.t 109)))⟩,
    ⟨(some 111), none, (.op (.sh .shl (.t 110) (.c (.int .u64 6))))⟩,
    ⟨(some 112), none, (.op (.ar .or (.t 107) (.t 111)))⟩,
    ⟨(some 113), none, (.op (.mv (.t 12)))⟩,
    ⟨(some 114), none, (.op (.ar .and (.t 113) (.c (.int .u8 63))))⟩,
    ⟨(some 115), none, (.op (.cvi .i32 (.t 114)))⟩,
    ⟨(some 116), none, (.op (.ar .or (.t 112) (.t 115)))⟩,
    ⟨(some 2), none, (.op (.mv (.t 116)))⟩,
    ⟨(some 3), none, (.op (.mv (.c (.int .i64 4))))⟩])
  .ret))))))))))))))))))
def ka_unicode_utf8_decodeRuneInStringSlow : AFn := ⟨kc_unicode_utf8_decodeRuneInStringSlow, 117, [.t 2, .t 3], .keep, [], none⟩

def kc_internal_stringslite_IndexByte : AC :=
  (.seq (.ops [⟨(some 4), none, (.op (.mv (.c (.int .i64 0))))⟩])
  (.seq (.ops [⟨(some 5), none, (.op (.mv (.t 0)))⟩,
    ⟨(some 6), none, (.op (.mv (.t 1)))⟩,
    ⟨(some 7), none, (.call (.c (.fn (.func f_internal_bytealg_IndexByteString) [] [])) [(.t 5), (.t 6)])⟩,
    ⟨(some 4), none, (.op (.mv (.t 7)))⟩])
  .ret))
def ka_internal_stringslite_IndexByte : AFn := ⟨kc_internal_stringslite_IndexByte, 8, [.t 4], .keep, [], none⟩

def kc_internal_bytealg_Cutover : AC :=
  (.seq (.ops [⟨(some 2), none, (.op (.mv (.c (.int .i64 0))))⟩])
  (.seq (.ops [⟨(some 3), none, (.op (.mv (.t 0)))⟩,
    ⟨(some 4), none, (.op (.ar .add (.t 3) (.c (.int .i64 16))))⟩,
    ⟨(some 5), none, (.op (.ar .quo (.t 4) (.c (.int .i64 8))))⟩,
    ⟨(some 2), none, (.op (.mv (.t 5)))⟩])
  .ret))
def ka_internal_bytealg_Cutover : AFn := ⟨kc_internal_bytealg_Cutover, 6, [.t 2], .keep, [], none⟩

def l_kinternal_bytealg_IndexRabinKarp_string_0 : AC :=
  (.seq (.seq (.ops [⟨(some 18), none, (.op (.mv (.t 9)))⟩,
    ⟨(some 19), none, (.op (.mv (.t 7)))⟩,
    ⟨(some 20), none, (.op (.ar .lss (.t 18) (.t 19)))⟩])
  (.cond (.t 20)
    .skip
    (.exit 0)))
  (.seq (.block 1 (.ops [⟨(some 23), none, (.op (.mv (.t 8)))⟩,
    ⟨(some 24), none, (.op (.ar .mul (.t 23) (.c (.int .u32 16777619))))⟩,
    ⟨(some 25), none, (.op (.mv (.t 0)))⟩,
    ⟨(some 26), none, (.op (.mv (.t 9)))⟩,
    ⟨(some 27), none, (.op (.ixs (.t 25) (.t 26)))⟩,
    ⟨(some 28), none, (.op (.cvi .u32 (.t 27)))⟩,
    ⟨(some 29), none, (.op (.ar .add (.t 24) (.t 28)))⟩,
    ⟨(some 8), none, (.op (.mv (.t 29)))⟩]))
  (.ops [⟨(some 21), none, (.op (.mv (.t 9)))⟩,
    ⟨(some 22), none, (.op (.ar .add (.t 21) (.c (.int .i64 1))))⟩,
    ⟨(some 9), none, (.op (.mv (.t 22)))⟩])))

def l_kinternal_bytealg_IndexRabinKarp_string_1 : AC :=
  (.seq (.seq (.ops [⟨(some 41), none, (.op (.mv (.t 10)))⟩,
    ⟨(some 42), none, (.op (.mv (.t 0)))⟩,
    ⟨(some 43), none, (.op (.len .str (.t 42)))⟩,
    ⟨(some 44), none, (.op (.ar .lss (.t 41) (.t 43)))⟩])
  (.cond (.t 44)
    .skip
    (.exit 2)))
  (.block 3 (.seq (.ops [⟨(some 45), none, (.op (.mv (.t 8)))⟩,
    ⟨(some 46), none, (.op (.ar .mul (.t 45) (.c (.int .u32 16777619))))⟩,
    ⟨(some 8), none, (.op (.mv (.t 46)))⟩])
  (.seq (.ops [⟨(some 47), none, (.op (.mv (.t 8)))⟩,
    ⟨(some 48), none, (.op (.mv (.t 0)))⟩,
    ⟨(some 49), none, (.op (.mv (.t 10)))⟩,
    ⟨(some 50), none, (.op (.ixs (.t 48) (.t 49)))⟩,
    ⟨(some 51), none, (.op (.cvi .u32 (.t 50)))⟩,
    ⟨(some 52), none, (.op (.ar .add (.t 47) (.t 51)))⟩,
    ⟨(some 8), none, (.op (.mv (.t 52)))⟩])
  (.seq (.ops [⟨(some 53), none, (.op (.mv (.t 8)))⟩,
    ⟨(some 54), none, (.op (.mv (.t 6)))⟩,
    ⟨(some 55), none, (.op (.mv (.t 0)))⟩,
    ⟨(some 56), none, (.op (.mv (.t 10)))⟩,
    ⟨(some 57), none, (.op (.mv (.t 7)))⟩,
    ⟨(some 58), none, (.op (.ar .sub (.t 56) (.t 57)))⟩,
    ⟨(some 59), none, (.op (.ixs (.t 55) (.t 58)))⟩,
    ⟨(some 60), none, (.op (.cvi .u32 (.t 59)))⟩,
    ⟨(some 61), none, (.op (.ar .mul (.t 54) (.t 60)))⟩,
    ⟨(some 62), none, (.op (.ar .sub (.t 53) (.t 61)))⟩,
    ⟨(some 8), none, (.op (.mv (.t 62)))⟩])
  (.seq (.ops [⟨(some 63), none, (.op (.mv (.t 10)))⟩,
    ⟨(some 64), none, (.op (.ar .add (.t 63) (.c (.int .i64 1))))⟩,
    ⟨(some 10), none, (.op (.mv (.t 64)))⟩])
  (.seq (.ops [⟨(some 65), none, (.op (.mv (.t 8)))⟩,
    ⟨(some 66), none, (.op (.mv (.t 5)))⟩,
    ⟨(some 67), none, (.op (.ar .eql (.t 65) (.t 66)))⟩,
    ⟨(some 68), none, (.op (.mv (.t 67)))⟩,
    ⟨(some 69), (some (68, true)), (.op (.mv (.t 0)))⟩,
    ⟨(some 70), (some (68, true)), (.op (.mv (.t 10)))⟩,
    ⟨(some 71), (some (68, true)), (.op (.mv (.t 7)))⟩,
    ⟨(some 72), (some (68, true)), (.op (.ar .sub (.t 70) (.t 71)))⟩,
    ⟨(some 73), (some (68, true)), (.op (.mv (.t 10)))⟩,
    ⟨(some 74), (some (68, true)), (.op (.sls (.t 69) (some (.t 72)) (some (.t 73))))⟩,
    ⟨(some 75), (some (68, true)), (.op (.mv (.t 1)))⟩,
    ⟨(some 76), (some (68, true)), (.op (.ar .eql (.t 74) (.t 75)))⟩,
    ⟨(some 77), none, (.op (.pk (.t 68) (.t 76) (.c (.bool false))))⟩])
  (.cond (.t 77)
    (.seq (.ops [⟨(some 78), none, (.op (.mv (.t 10)))⟩,
      ⟨(some 79), none, (.op (.mv (.t 7)))⟩,
      ⟨(some 80), none, (.op (.ar .sub (.t 78) (.t 79)))⟩,
      ⟨(some 4), none, (.op (.mv (.t 80)))⟩])
    .ret)
    .skip))))))))

def kc_internal_bytealg_IndexRabinKarp_string : AC :=
  (.seq (.ops [⟨(some 4), none, (.op (.mv (.c (.int .i64 0))))⟩])
  (.seq (.ops [⟨(some 12), none, (.op (.mv (.t 1)))⟩,
    ⟨(some 13), none, (.call (.c (.fn (.func f_internal_bytealg_hashStr_string) [] [])) [(.t 12)])⟩,
    ⟨(some 11), none, (.op (.mv (.t 13)))⟩,
    ⟨(some 14), none, (.op (.ex (.t 11) 0))⟩,
    ⟨(some 15), none, (.op (.ex (.t 11) 1))⟩,
    ⟨(some 5), none, (.op (.mv (.t 14)))⟩,
    ⟨(some 6), none, (.op (.mv (.t 15)))⟩])
  (.seq (.ops [⟨(some 16), none, (.op (.mv (.t 1)))⟩,
    ⟨(some 17), none, (.op (.len .str (.t 16)))⟩,
    ⟨(some 7), none, (.op (.mv (.t 17)))⟩])
  (.seq (.ops [⟨(some 8), none, (.op (.mv (.c (.int .u32 0))))⟩])
  (.seq (.seq (.ops [⟨(some 9), none, (.op (.mv (.c (.int .i64 0))))⟩])
  (.block 0 (.loop ⟨none, [], false⟩ l_kinternal_bytealg_IndexRabinKarp_string_0)))
  (.seq (.seq (.ops [⟨(some 30), none, (.op (.mv (.t 8)))⟩,
    ⟨(some 31), none, (.op (.mv (.t 5)))⟩,
    ⟨(some 32), none, (.op (.ar .eql (.t 30) (.t 31)))⟩,
    ⟨(some 33), none, (.op (.mv (.t 32)))⟩,
    ⟨(some 34), (some (33, true)), (.op (.mv (.t 0)))⟩,
    ⟨(some 35), (some (33, true)), (.op (.mv (.t 7)))⟩,
    ⟨(some 36), (some (33, true)), (.op (.sls (.t 34) none (some (.t 35))))⟩,
    ⟨(some 37), (some (33, true)), (.op (.mv (.t 1)))⟩,
    ⟨(some 38), (some (33, true)), (.op (.ar .eql (.t 36) (.t 37)))⟩,
    ⟨(some 39), none, (.op (.pk (.t 33) (.t 38) (.c (.bool false))))⟩])
  (.cond (.t 39)
    (.seq (.ops [⟨(some 4), none, (.op (.mv (.c (.int .i64 0))))⟩])
    .ret)
    .skip))
  (.seq (.seq (.ops [⟨(some 40), none, (.op (.mv (.t 7)))⟩,
    ⟨(some 10), none, (.op (.mv (.t 40)))⟩])
  (.block 2 (.loop ⟨none, [], false⟩ l_kinternal_bytealg_IndexRabinKarp_string_1)))
  (.seq (.ops [⟨(some 4), none, (.op (.mv (.c (.int .i64 (-1)))))⟩])
  .ret))))))))
def ka_internal_bytealg_IndexRabinKarp_string : AFn := ⟨kc_internal_bytealg_IndexRabinKarp_string, 81, [.t 4], .keep, [], none⟩

def l_kinternal_strconv_Atoi_0 : AC :=
  (.seq (.ops [⟨(some 50), none, (.op (.ar .lss (.t 49) (.t 48)))⟩])
  (.seq (.cond (.t 50)
    .skip
    (.exit 0))
  (.seq (.block 1 (.seq (.ops [⟨(some 51), none, (.op (.ias 1 (.t 47) (.t 49)))⟩,
    ⟨(some 52), none, (.op (.ld none (.t 51)))⟩,
    ⟨(some 8), none, (.op (.mv (.t 52)))⟩])
  (.seq (.ops [⟨(some 53), none, (.op (.mv (.t 8)))⟩,
    ⟨(some 54), none, (.op (.ar .sub (.t 53) (.c (.int .u8 48))))⟩,
    ⟨(some 8), none, (.op (.mv (.t 54)))⟩])
  (.seq (.seq (.ops [⟨(some 55), none, (.op (.mv (.t 8)))⟩,
    ⟨(some 56), none, (.op (.ar .gtr (.t 55) (.c (.int .u8 9))))⟩])
  (.cond (.t 56)
    (.seq (.ops [⟨(some 57), none, (.op (.mi t_strconv_Error (.c (.int .i64 2))))⟩,
      ⟨(some 2), none, (.op (.mv (.c (.int .i64 0))))⟩,
      ⟨(some 3), none, (.op (.mv (.t 57)))⟩])
    .ret)
    .skip))
  (.ops [⟨(some 58), none, (.op (.mv (.t 6)))⟩,
    ⟨(some 59), none, (.op (.ar .mul (.t 58) (.c (.int .i64 10))))⟩,
    ⟨(some 60), none, (.op (.mv (.t 8)))⟩,
    ⟨(some 61), none, (.op (.cvi .i64 (.t 60)))⟩,
    ⟨(some 62), none, (.op (.ar .add (.t 59) (.t 61)))⟩,
    ⟨(some 6), none, (.op (.mv (.t 62)))⟩])))))
  (.ops [⟨(some 63), none, (.op (.ar .add (.t 49) (.c (.int .i64 1))))⟩,
    ⟨(some 49), none, (.op (.mv (.t 63)))⟩]))))

def kc_internal_strconv_Atoi : AC :=
  (.seq (.ops [⟨(some 2), none, (.op (.mv (.c (.int .i64 0))))⟩,
    ⟨(some 3), none, (.op (.mv (.c .nilif)))⟩])
  (.seq (.ops [⟨(some 11), none, (.op (.mv (.t 0)))⟩,
    ⟨(some 12), none, (.op (.len .str (.t 11)))⟩,
    ⟨(some 4), none, (.op (.mv (.t 12)))⟩])
  (.seq (.seq (.ops [⟨(some 13), none, (.op (.mv (.c (.bool false))))⟩,
    ⟨(some 14), (some (13, true)), (.op (.mv (.t 4)))⟩,
    ⟨(some 15), (some (13, true)), (.op (.ar .lss (.c (.int .i64 0)) (.t 14)))⟩,
    ⟨(some 16), (some (13, true)), (.op (.mv (.t 15)))⟩,
    ⟨(some 17), (some (16, true)), (.op (.mv (.t 4)))⟩,
    ⟨(some 18), (some (16, true)), (.op (.ar .lss (.t 17) (.c (.int .i64 10))))⟩,
    ⟨(some 19), (some (13, true)), (.op (.pk (.t 16) (.t 18) (.c (.bool false))))⟩,
    ⟨(some 20), none, (.op (.pk (.t 13) (.t 19) (.c (.bool false))))⟩,
    ⟨(some 21), none, (.op (.mv (.t 20)))⟩,
    ⟨(some 22), (some (21, false)), (.op (.mv (.c (.bool true))))⟩,
    ⟨(some 23), (some (22, true)), (.op (.mv (.t 4)))⟩,
    ⟨(some 24), (some (22, true)), (.op (.ar .lss (.c (.int .i64 0)) (.t 23)))⟩,
    ⟨(some 25), (some (22, true)), (.op (.mv (.t 24)))⟩,
    ⟨(some 26), (some (25, true)), (.op (.mv (.t 4)))⟩,
    ⟨(some 27), (some (25, true)), (.op (.ar .lss (.t 26) (.c (.int .i64 19))))⟩,
    ⟨(some 28), (some (22, true)), (.op (.pk (.t 25) (.t 27) (.c (.bool false))))⟩,
    ⟨(some 29), (some (21, false)), (.op (.pk (.t 22) (.t 28) (.c (.bool false))))⟩,
    ⟨(some 30), none, (.op (.pk (.t 21) (.c (.bool true)) (.t 29)))⟩])
  (.cond (.t 30)
    (.seq (.ops [⟨(some 31), none, (.op (.mv (.t 0)))⟩,
      ⟨(some 5), none, (.op (.mv (.t 31)))⟩])
    (.seq (.seq (.ops [⟨(some 32), none, (.op (.mv (.t 0)))⟩,
      ⟨(some 33), none, (.op (.ixs (.t 32) (.c (.int .i64 0))))⟩,
      ⟨(some 34), none, (.op (.ar .eql (.t 33) (.c (.int .u8 45))))⟩,
      ⟨(some 35), none, (.op (.mv (.t 34)))⟩,
      ⟨(some 36), (some (35, false)), (.op (.mv (.t 0)))⟩,
      ⟨(some 37), (some (35, false)), (.op (.ixs (.t 36) (.c (.int .i64 0))))⟩,
      ⟨(some 38), (some (35, false)), (.op (.ar .eql (.t 37) (.c (.int .u8 43))))⟩,
      ⟨(some 39), none, (.op (.pk (.t 35) (.c (.bool true)) (.t 38)))⟩])
    (.cond (.t 39)
      (.seq (.ops [⟨(some 40), none, (.op (.mv (.t 0)))⟩,
        ⟨(some 41), none, (.op (.sls (.t 40) (some (.c (.int .i64 1))) none))⟩,
        ⟨(some 0), none, (.op (.mv (.t 41)))⟩])
      (.seq (.ops [⟨(some 42), none, (.op (.mv (.t 0)))⟩,
        ⟨(some 43), none, (.op (.len .str (.t 42)))⟩,
        ⟨(some 44), none, (.op (.ar .lss (.t 43) (.c (.int .i64 1))))⟩])
      (.cond (.t 44)
        (.seq (.ops [⟨(some 45), none, (.op (.mi t_strconv_Error (.c (.int .i64 2))))⟩,
          ⟨(some 2), none, (.op (.mv (.c (.int .i64 0))))⟩,
          ⟨(some 3), none, (.op (.mv (.t 45)))⟩])
        .ret)
        .skip)))
      .skip))
    (.seq (.ops [⟨(some 6), none, (.op (.mv (.c (.int .i64 0))))⟩])
    (.seq (.seq (.ops [⟨(some 46), none, (.op (.mv (.t 0)))⟩,
      ⟨(some 47), none, (.op (.cvsb (.t 46)))⟩,
      ⟨(some 48), none, (.op (.len .sl (.t 47)))⟩,
      ⟨(some 49), none, (.op (.mv (.c (.int .i64 0))))⟩])
    (.block 0 (.loop ⟨none, [], false⟩ l_kinternal_strconv_Atoi_0)))
    (.seq (.seq (.ops [⟨(some 64), none, (.op (.mv (.t 5)))⟩,
      ⟨(some 65), none, (.op (.ixs (.t 64) (.c (.int .i64 0))))⟩,
      ⟨(some 66), none, (.op (.ar .eql (.t 65) (.c (.int .u8 45))))⟩])
    (.cond (.t 66)
      (.ops [⟨(some 67), none, (.op (.mv (.t 6)))⟩,
        ⟨(some 68), none, (.op (.un .neg (.t 67)))⟩,
        ⟨(some 6), none, (.op (.mv (.t 68)))⟩])
      .skip))
    (.seq (.ops [⟨(some 69), none, (.op (.mv (.t 6)))⟩,
      ⟨(some 2), none, (.op (.mv (.t 69)))⟩,
      ⟨(some 3), none, (.op (.mv (.c .nilif)))⟩])
    .ret))))))
    .skip))
  (.seq (.ops [⟨(some 71), none, (.op (.mv (.t 0)))⟩,
    ⟨(some 72), none, (.call (.c (.fn (.func f_internal_strconv_ParseInt) [] [])) [(.t 71), (.c (.int .i64 10)), (.c (.int .i64 0))])⟩,
    ⟨(some 70), none, (.op (.mv (.t 72)))⟩,
    ⟨(some 73), none, (.op (.ex (.t 70) 0))⟩,
    ⟨(some 74), none, (.op (.ex (.t 70) 1))⟩,
    ⟨(some 9), none, (.op (.mv (.t 73)))⟩,
    ⟨(some 10), none, (.op (.mv (.t 74)))⟩])
  (.seq (.ops [⟨(some 75), none, (.op (.mv (.t 9)))⟩,
    ⟨(some 76), none, (.op (.mv (.t 10)))⟩,
    ⟨(some 2), none, (.op (.mv (.t 75)))⟩,
    ⟨(some 3), none, (.op (.mv (.t 76)))⟩])
  .ret)))))
def ka_internal_strconv_Atoi : AFn := ⟨kc_internal_strconv_Atoi, 77, [.t 2, .t 3], .keep, [], none⟩

def kc_strconv_toError : AC :=
  (.seq (.ops [⟨(some 10), none, (.op (.mv (.c .nilif)))⟩])
  (.seq (.seq (.ops [⟨(some 11), none, (.op (.mv (.t 4)))⟩])
  (.block 0 (.seq (.ops [⟨(some 13), none, (.op (.mi t_strconv_Error (.c (.int .i64 2))))⟩,
    ⟨(some 14), none, (.op (.eq false (.ifc false) (.t 11) (.t 13)))⟩,
    ⟨(some 12), none, (.op (.mv (.t 14)))⟩])
  (.cond (.t 12)
    (.seq (.ops [⟨(some 15), none, (.op (.mv (.t 0)))⟩,
      ⟨(some 16), none, (.op (.mv (.t 1)))⟩,
      ⟨(some 17), none, (.call (.c (.fn (.func f_strconv_syntaxError) [] [])) [(.t 15), (.t 16)])⟩,
      ⟨(some 18), none, (.op (.mi t_strconv_NumError (.t 17)))⟩,
      ⟨(some 10), none, (.op (.mv (.t 18)))⟩])
    .ret)
    (.seq (.ops [⟨(some 20), none, (.op (.mi t_strconv_Error (.c (.int .i64 1))))⟩,
      ⟨(some 21), none, (.op (.eq false (.ifc false) (.t 11) (.t 20)))⟩,
      ⟨(some 19), none, (.op (.mv (.t 21)))⟩])
    (.cond (.t 19)
      (.seq (.ops [⟨(some 22), none, (.op (.mv (.t 0)))⟩,
        ⟨(some 23), none, (.op (.mv (.t 1)))⟩,
        ⟨(some 24), none, (.call (.c (.fn (.func f_strconv_rangeError) [] [])) [(.t 22), (.t 23)])⟩,
        ⟨(some 25), none, (.op (.mi t_strconv_NumError (.t 24)))⟩,
        ⟨(some 10), none, (.op (.mv (.t 25)))⟩])
      .ret)
      (.seq (.ops [⟨(some 27), none, (.op (.mi t_strconv_Error (.c (.int .i64 3))))⟩,
        ⟨(some 28), none, (.op (.eq false (.ifc false) (.t 11) (.t 27)))⟩,
        ⟨(some 26), none, (.op (.mv (.t 28)))⟩])
      (.cond (.t 26)
        (.seq (.ops [⟨(some 29), none, (.op (.mv (.t 0)))⟩,
          ⟨(some 30), none, (.op (.mv (.t 1)))⟩,
          ⟨(some 31), none, (.op (.mv (.t 2)))⟩,
          ⟨(some 32), none, (.call (.c (.fn (.func f_strconv_baseError) [] [])) [(.t 29), (.t 30), (.t 31)])⟩,
          ⟨(some 33), none, (.op (.mi t_strconv_NumError (.t 32)))⟩,
          ⟨(some 10), none, (.op (.mv (.t 33)))⟩])
        .ret)
        (.seq (.ops [⟨(some 35), none, (.op (.mi t_strconv_Error (.c (.int .i64 4))))⟩,
          ⟨(some 36), none, (.op (.eq false (.ifc false) (.t 11) (.t 35)))⟩,
          ⟨(some 34), none, (.op (.mv (.t 36)))⟩])
        (.cond (.t 34)
          (.seq (.ops [⟨(some 37), none, (.op (.mv (.t 0)))⟩,
            ⟨(some 38), none, (.op (.mv (.t 1)))⟩,
            ⟨(some 39), none, (.op (.mv (.t 3)))⟩,
            ⟨(some 40), none, (.call (.c (.fn (.func f_strconv_bitSizeError) [] [])) [(.t 37), (.t 38), (.t 39)])⟩,
            ⟨(some 41), none, (.op (.mi t_strconv_NumError (.t 40)))⟩,
            ⟨(some 10), none, (.op (.mv (.t 41)))⟩])
          .ret)
          .skip))))))))))
  (.seq (.ops [⟨(some 42), none, (.op (.mv (.t 4)))⟩,
    ⟨(some 10), none, (.op (.mv (.t 42)))⟩])
  .ret)))
def ka_strconv_toError : AFn := ⟨kc_strconv_toError, 43, [.t 10], .keep, [], none⟩

def kc_internal_strconv_Itoa : AC :=
  (.seq (.ops [⟨(some 2), none, (.op (.mv (.c (.str []))))⟩])
  (.seq (.ops [⟨(some 3), none, (.op (.mv (.t 0)))⟩,
    ⟨(some 4), none, (.call (.c (.fn (.func f_internal_strconv_FormatInt) [] [])) [(.t 3), (.c (.int .i64 10))])⟩,
    ⟨(some 2), none, (.op (.mv (.t 4)))⟩])
  .ret))
def ka_internal_strconv_Itoa : AFn := ⟨kc_internal_strconv_Itoa, 5, [.t 2], .keep, [], none⟩

def kc_internal_stringslite_Cut : AC :=
  (.seq (.ops [⟨(some 4), none, (.op (.mv (.c (.str []))))⟩,
    ⟨(some 5), none, (.op (.mv (.c (.str []))))⟩,
    ⟨(some 6), none, (.op (.mv (.c (.bool false))))⟩])
  (.seq (.seq (.ops [⟨(some 8), none, (.op (.mv (.t 0)))⟩,
    ⟨(some 9), none, (.op (.mv (.t 1)))⟩,
    ⟨(some 10), none, (.call (.c (.fn (.func f_internal_stringslite_Index) [] [])) [(.t 8), (.t 9)])⟩,
    ⟨(some 7), none, (.op (.mv (.t 10)))⟩])
  (.seq (.ops [⟨(some 11), none, (.op (.mv (.t 7)))⟩,
    ⟨(some 12), none, (.op (.ar .geq (.t 11) (.c (.int .i64 0))))⟩])
  (.cond (.t 12)
    (.seq (.dops false [] [] [(⟨(some 13), none, (.op (.mv (.t 0)))⟩, .pure),
      (⟨(some 14), none, (.op (.mv (.t 7)))⟩, .pure),
      (⟨(some 15), none, (.op (.sls (.t 13) none (some (.t 14))))⟩, .pure),
      (⟨(some 16), none, (.op (.mv (.t 0)))⟩, .pure),
      (⟨(some 17), none, (.op (.mv (.t 7)))⟩, .pure),
      (⟨(some 18), none, (.op (.mv (.t 1)))⟩, .pure),
      (⟨(some 19), none, (.op (.len .str (.t 18)))⟩, .wide),
      (⟨(some 20), none, (.op (.ar .add (.t 17) (.t 19)))⟩, .pure),
      (⟨(some 21), none, (.op (.sls (.t 16) (some (.t 20)) none))⟩, .pure),
      (⟨(some 4), none, (.op (.mv (.t 15)))⟩, .pure),
      (⟨(some 5), none, (.op (.mv (.t 21)))⟩, .pure),
      (⟨(some 6), none, (.op (.mv (.c (.bool true))))⟩, .pure)])
    .ret)
    .skip)))
  (.seq (.ops [⟨(some 22), none, (.op (.mv (.t 0)))⟩,
    ⟨(some 4), none, (.op (.mv (.t 22)))⟩,
    ⟨(some 5), none, (.op (.mv (.c (.str []))))⟩,
    ⟨(some 6), none, (.op (.mv (.c (.bool false))))⟩])
  .ret)))
def ka_internal_stringslite_Cut : AFn := ⟨kc_internal_stringslite_Cut, 23, [.t 4, .t 5, .t 6], .keep, [], none⟩

def l_kslices_IndexFunc_api_Feat_api_Feat_0 : AC :=
  (.seq (.ops [⟨(some 9), none, (.op (.ar .lss (.t 8) (.t 7)))⟩])
  (.seq (.cond (.t 9)
    .skip
    (.exit 0))
  (.seq (.block 1 (.seq (.ops [⟨(some 10), none, (.op (.mv (.t 8)))⟩,
    ⟨(some 5), none, (.op (.mv (.t 10)))⟩])
  (.seq (.ops [⟨(some 11), none, (.op (.mv (.t 1)))⟩,
    ⟨(some 12), none, (.op (.mv (.t 0)))⟩,
    ⟨(some 13), none, (.op (.mv (.t 5)))⟩,
    ⟨(some 14), none, (.op (.ias 2 (.t 12) (.t 13)))⟩,
    ⟨(some 15), none, (.op (.ld (some 2) (.t 14)))⟩,
    ⟨(some 16), none, (.call (.t 11) [(.t 15)])⟩])
  (.cond (.t 16)
    (.seq (.ops [⟨(some 17), none, (.op (.mv (.t 5)))⟩,
      ⟨(some 4), none, (.op (.mv (.t 17)))⟩])
    .ret)
    .skip))))
  (.ops [⟨(some 18), none, (.op (.ar .add (.t 8) (.c (.int .i64 1))))⟩,
    ⟨(some 8), none, (.op (.mv (.t 18)))⟩]))))

def kc_slices_IndexFunc_api_Feat_api_Feat : AC :=
  (.seq (.ops [⟨(some 4), none, (.op (.mv (.c (.int .i64 0))))⟩])
  (.seq (.seq (.ops [⟨(some 6), none, (.op (.mv (.t 0)))⟩,
    ⟨(some 7), none, (.op (.len .sl (.t 6)))⟩,
    ⟨(some 8), none, (.op (.mv (.c (.int .i64 0))))⟩])
  (.block 0 (.loop ⟨none, [], false⟩ l_kslices_IndexFunc_api_Feat_api_Feat_0)))
  (.seq (.ops [⟨(some 4), none, (.op (.mv (.c (.int .i64 (-1)))))⟩])
  .ret)))
def ka_slices_IndexFunc_api_Feat_api_Feat : AFn := ⟨kc_slices_IndexFunc_api_Feat_api_Feat, 19, [.t 4], .keep, [], none⟩

def kc_internal_stringslite_HasPrefix : AC :=
  (.seq (.ops [⟨(some 4), none, (.op (.mv (.c (.bool false))))⟩])
  (.seq (.ops [⟨(some 5), none, (.op (.mv (.t 0)))⟩,
    ⟨(some 6), none, (.op (.len .str (.t 5)))⟩,
    ⟨(some 7), none, (.op (.mv (.t 1)))⟩,
    ⟨(some 8), none, (.op (.len .str (.t 7)))⟩,
    ⟨(some 9), none, (.op (.ar .geq (.t 6) (.t 8)))⟩,
    ⟨(some 10), none, (.op (.mv (.t 9)))⟩,
    ⟨(some 11), (some (10, true)), (.op (.mv (.t 0)))⟩,
    ⟨(some 12), (some (10, true)), (.op (.mv (.t 1)))⟩,
    ⟨(some 13), (some (10, true)), (.op (.len .str (.t 12)))⟩,
    ⟨(some 14), (some (10, true)), (.op (.sls (.t 11) none (some (.t 13))))⟩,
    ⟨(some 15), (some (10, true)), (.op (.mv (.t 1)))⟩,
    ⟨(some 16), (some (10, true)), (.op (.ar .eql (.t 14) (.t 15)))⟩,
    ⟨(some 17), none, (.op (.pk (.t 10) (.t 16) (.c (.bool false))))⟩,
    ⟨(some 4), none, (.op (.mv (.t 17)))⟩])
  .ret))
def ka_internal_stringslite_HasPrefix : AFn := ⟨kc_internal_stringslite_HasPrefix, 18, [.t 4], .keep, [], none⟩

def kc_morph_language_match : AC :=
  (.seq (.ops [⟨(some 4), none, (.op (.bx t_morph_language (.t 0)))⟩,
    ⟨(some 8), none, (.op (.mv (.c (.bool false))))⟩])
  (.seq (.seq (.ops [⟨(some 11), none, (.op (.mv (.t 3)))⟩,
    ⟨(some 12), none, (.op (.ar .lss (.t 11) (.c (.int .i64 0))))⟩,
    ⟨(some 13), none, (.op (.mv (.t 12)))⟩,
    ⟨(some 14), (some (13, false)), (.op (.mv (.t 3)))⟩,
    ⟨(some 15), (some (13, false)), (.op (.mv (.t 2)))⟩,
    ⟨(some 16), (some (13, false)), (.op (.len .str (.t 15)))⟩,
    ⟨(some 17), (some (13, false)), (.op (.ar .geq (.t 14) (.t 16)))⟩,
    ⟨(some 18), none, (.op (.pk (.t 13) (.c (.bool true)) (.t 17)))⟩])
  (.cond (.t 18)
    (.seq (.ops [⟨(some 19), none, (.op (.mv (.t 1)))⟩,
      ⟨(some 20), none, (.op (.ar .eql (.t 19) (.c (.int .u8 35))))⟩,
      ⟨(some 21), none, (.op (.mv (.t 20)))⟩,
      ⟨(some 22), (some (21, true)), (.op (.mv (.t 3)))⟩,
      ⟨(some 23), (some (21, true)), (.op (.ar .eql (.t 22) (.c (.int .i64 (-1)))))⟩,
      ⟨(some 24), (some (21, true)), (.op (.mv (.t 23)))⟩,
      ⟨(some 25), (some (24, false)), (.op (.mv (.t 3)))⟩,
      ⟨(some 26), (some (24, false)), (.op (.mv (.t 2)))⟩,
      ⟨(some 27), (some (24, false)), (.op (.len .str (.t 26)))⟩,
      ⟨(some 28), (some (24, false)), (.op (.ar .eql (.t 25) (.t 27)))⟩,
      ⟨(some 29), (some (21, true)), (.op (.pk (.t 24) (.c (.bool true)) (.t 28)))⟩,
      ⟨(some 30), none, (.op (.pk (.t 21) (.t 29) (.c (.bool false))))⟩,
      ⟨(some 8), none, (.op (.mv (.t 30)))⟩])
    .ret)
    .skip))
  (.seq (.ops [⟨(some 31), none, (.op (.mv (.t 2)))⟩,
    ⟨(some 32), none, (.op (.mv (.t 3)))⟩,
    ⟨(some 33), none, (.op (.ixs (.t 31) (.t 32)))⟩,
    ⟨(some 9), none, (.op (.mv (.t 33)))⟩])
  (.seq (.ops [⟨(some 34), none, (.op (.fa 0 (.t 4)))⟩,
    ⟨(some 35), none, (.op (.fa 0 (.t 34)))⟩,
    ⟨(some 36), none, (.op (.ld none (.t 35)))⟩,
    ⟨(some 37), none, (.op (.mv (.t 9)))⟩,
    ⟨(some 38), none, (.call (.c (.fn (.func f_strings_IndexByte) [] [])) [(.t 36), (.t 37)])⟩,
    ⟨(some 39), none, (.op (.ar .geq (.t 38) (.c (.int .i64 0))))⟩,
    ⟨(some 10), none, (.op (.mv (.t 39)))⟩])
  (.seq (.seq (.ops [⟨(some 40), none, (.op (.mv (.t 1)))⟩])
  (.block 0 (.seq (.block 2 (.seq (.block 1 (.seq (.seq (.seq (.ops [⟨(some 42), none, (.op (.ar .eql (.t 40) (.c (.int .u8 67))))⟩,
    ⟨(some 41), none, (.op (.mv (.t 42)))⟩])
  (.cond (.t 41)
    (.exit 1)
    .skip))
  (.seq (.ops [⟨(some 44), none, (.op (.ar .eql (.t 40) (.c (.int .u8 86))))⟩,
    ⟨(some 43), none, (.op (.mv (.t 44)))⟩])
  (.cond (.t 43)
    (.exit 2)
    .skip)))
  (.exit 0)))
  (.ops [⟨(some 45), none, (.op (.mv (.t 10)))⟩,
    ⟨(some 46), none, (.op (.un .not (.t 45)))⟩,
    ⟨(some 10), none, (.op (.mv (.t 46)))⟩])))
  (.seq (.seq (.ops [⟨(some 47), none, (.op (.mv (.t 9)))⟩,
    ⟨(some 48), none, (.call (.c (.fn (.func f_morph_letter) [] [])) [(.t 47)])⟩,
    ⟨(some 49), none, (.op (.mv (.t 48)))⟩,
    ⟨(some 50), (some (49, true)), (.op (.mv (.t 10)))⟩,
    ⟨(some 51), none, (.op (.pk (.t 49) (.t 50) (.c (.bool false))))⟩,
    ⟨(some 8), none, (.op (.mv (.t 51)))⟩])
  .ret)
  (.exit 0)))))
  (.seq (.ops [⟨(some 52), none, (.op (.mv (.t 1)))⟩,
    ⟨(some 53), none, (.op (.mv (.t 9)))⟩,
    ⟨(some 54), none, (.op (.ar .eql (.t 52) (.t 53)))⟩,
    ⟨(some 8), none, (.op (.mv (.t 54)))⟩])
  .ret))))))
def ka_morph_language_match : AFn := ⟨kc_morph_language_match, 55, [.t 8], .keep, [], none⟩

def kc_strings_Builder_copyCheck : AC :=
  (.seq (.ops [⟨(some 2), none, (.op (.mv (.t 0)))⟩,
    ⟨(some 3), none, (.op (.nc (.t 2)))⟩,
    ⟨(some 4), none, (.op (.fa 0 (.t 3)))⟩,
    ⟨(some 5), none, (.op (.ld none (.t 4)))⟩,
    ⟨(some 6), none, (.op (.eq false .ptr (.t 5) (.c .nilp)))⟩])
  (.cond (.t 6)
    (.ops [⟨(some 7), none, (.op (.mv (.t 0)))⟩,
      ⟨(some 8), none, (.op (.mv (.t 0)))⟩,
      ⟨(some 9), none, (.op (.cvu (.t 8)))⟩,
      ⟨(some 10), none, (.call (.c (.fn (.func f_internal_abi_NoEscape) [] [])) [(.t 9)])⟩,
      ⟨(some 11), none, (.op (.cvf t_strings_Builder_1 2 (.t 10)))⟩,
      ⟨(some 12), none, (.op (.nc (.t 7)))⟩,
      ⟨(some 13), none, (.op (.fa 0 (.t 12)))⟩,
      ⟨none, none, (.op (.st 1 (.t 13) (.t 11)))⟩])
    (.seq (.ops [⟨(some 14), none, (.op (.mv (.t 0)))⟩,
      ⟨(some 15), none, (.op (.nc (.t 14)))⟩,
      ⟨(some 16), none, (.op (.fa 0 (.t 15)))⟩,
      ⟨(some 17), none, (.op (.ld none (.t 16)))⟩,
      ⟨(some 18), none, (.op (.mv (.t 0)))⟩,
      ⟨(some 19), none, (.op (.eq true .ptr (.t 17) (.t 18)))⟩])
    (.cond (.t 19)
      .bad
      .skip))))
def ka_strings_Builder_copyCheck : AFn := ⟨kc_strings_Builder_copyCheck, 20, [], .keep, [], none⟩
end Go.Am
end

