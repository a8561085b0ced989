import Derived.Test.YtpbhjnfiecmlhaaGreatDoorA4
import Derived.Test.YtpbhjnfiecmlhaaGreatDoorChecked
import Derived.KernelRfl
/-
  Part 5 of the tool: an abstract machine over the model, proved sound, and what it says of the functions that the law reaches. Condition: none but those that each theorem names.
-/
set_option linter.unusedVariables false
set_option linter.unusedSimpArgs false
section
set_option maxRecDepth 100000
namespace Go.Am
open Go.RowKit
def kc_strings_Builder_grow : AC :=
  (.seq (.dops false [] [] [(⟨(some 5), none, (.op (.mv (.t 0)))⟩, .pure),
    (⟨(some 6), none, (.op (.nc (.t 5)))⟩, .pure),
    (⟨(some 7), none, (.op (.fa 1 (.t 6)))⟩, .pure),
    (⟨(some 8), none, (.op (.ld none (.t 7)))⟩, .wide),
    (⟨(some 9), none, (.op (.cap (.t 8)))⟩, .pure),
    (⟨(some 10), none, (.op (.ar .mul (.c (.int .i64 2)) (.t 9)))⟩, .pure),
    (⟨(some 11), none, (.op (.mv (.t 1)))⟩, .pure),
    (⟨(some 12), none, (.op (.ar .add (.t 10) (.t 11)))⟩, .pure),
    (⟨(some 14), none, (.op (.mv (.t 0)))⟩, .pure),
    (⟨(some 15), none, (.op (.nc (.t 14)))⟩, .pure),
    (⟨(some 16), none, (.op (.fa 1 (.t 15)))⟩, .pure),
    (⟨(some 17), none, (.op (.ld none (.t 16)))⟩, .wide),
    (⟨(some 18), none, (.op (.len .sl (.t 17)))⟩, .wide),
    (⟨(some 13), none, (.call (.c (.fn (.func f_internal_bytealg_MakeNoZero) [] [])) [(.t 12)])⟩, .keep),
    (⟨(some 19), none, (.op (.sll 1 (.t 13) none (some (.t 18)) none))⟩, .pure),
    (⟨(some 4), none, (.op (.mv (.t 19)))⟩, .pure)])
  (.seq (.ops [⟨(some 20), none, (.op (.mv (.t 4)))⟩,
    ⟨(some 21), none, (.op (.mv (.t 0)))⟩,
    ⟨(some 22), none, (.op (.nc (.t 21)))⟩,
    ⟨(some 23), none, (.op (.fa 1 (.t 22)))⟩,
    ⟨(some 24), none, (.op (.ld none (.t 23)))⟩,
    ⟨(some 25), none, (.op (.cp 1 false (.t 20) (.t 24)))⟩])
  (.ops [⟨(some 26), none, (.op (.mv (.t 0)))⟩,
    ⟨(some 27), none, (.op (.mv (.t 4)))⟩,
    ⟨(some 28), none, (.op (.nc (.t 26)))⟩,
    ⟨(some 29), none, (.op (.fa 1 (.t 28)))⟩,
    ⟨none, none, (.op (.st 1 (.t 29) (.t 27)))⟩])))
def ka_strings_Builder_grow : AFn := ⟨kc_strings_Builder_grow, 30, [], .keep, [], none⟩

def l_kinternal_bytealg_hashStr_string_0 : AC :=
  (.seq (.seq (.ops [⟨(some 9), none, (.op (.mv (.t 5)))⟩,
    ⟨(some 10), none, (.op (.mv (.t 0)))⟩,
    ⟨(some 11), none, (.op (.len .str (.t 10)))⟩,
    ⟨(some 12), none, (.op (.ar .lss (.t 9) (.t 11)))⟩])
  (.cond (.t 12)
    .skip
    (.exit 0)))
  (.seq (.block 1 (.ops [⟨(some 15), none, (.op (.mv (.t 4)))⟩,
    ⟨(some 16), none, (.op (.ar .mul (.t 15) (.c (.int .u32 16777619))))⟩,
    ⟨(some 17), none, (.op (.mv (.t 0)))⟩,
    ⟨(some 18), none, (.op (.mv (.t 5)))⟩,
    ⟨(some 19), none, (.op (.ixs (.t 17) (.t 18)))⟩,
    ⟨(some 20), none, (.op (.cvi .u32 (.t 19)))⟩,
    ⟨(some 21), none, (.op (.ar .add (.t 16) (.t 20)))⟩,
    ⟨(some 4), none, (.op (.mv (.t 21)))⟩]))
  (.ops [⟨(some 13), none, (.op (.mv (.t 5)))⟩,
    ⟨(some 14), none, (.op (.ar .add (.t 13) (.c (.int .i64 1))))⟩,
    ⟨(some 5), none, (.op (.mv (.t 14)))⟩])))

def l_kinternal_bytealg_hashStr_string_1 : AC :=
  (.seq (.seq (.ops [⟨(some 24), none, (.op (.mv (.t 8)))⟩,
    ⟨(some 25), none, (.op (.ar .gtr (.t 24) (.c (.int .i64 0))))⟩])
  (.cond (.t 25)
    .skip
    (.exit 2)))
  (.seq (.block 3 (.seq (.seq (.ops [⟨(some 28), none, (.op (.mv (.t 8)))⟩,
    ⟨(some 29), none, (.op (.ar .and (.t 28) (.c (.int .i64 1))))⟩,
    ⟨(some 30), none, (.op (.ar .neq (.t 29) (.c (.int .i64 0))))⟩])
  (.cond (.t 30)
    (.ops [⟨(some 31), none, (.op (.mv (.t 6)))⟩,
      ⟨(some 32), none, (.op (.mv (.t 7)))⟩,
      ⟨(some 33), none, (.op (.ar .mul (.t 31) (.t 32)))⟩,
      ⟨(some 6), none, (.op (.mv (.t 33)))⟩])
    .skip))
  (.ops [⟨(some 34), none, (.op (.mv (.t 7)))⟩,
    ⟨(some 35), none, (.op (.mv (.t 7)))⟩,
    ⟨(some 36), none, (.op (.ar .mul (.t 34) (.t 35)))⟩,
    ⟨(some 7), none, (.op (.mv (.t 36)))⟩])))
  (.ops [⟨(some 26), none, (.op (.mv (.t 8)))⟩,
    ⟨(some 27), none, (.op (.sh .shr (.t 26) (.c (.int .u64 1))))⟩,
    ⟨(some 8), none, (.op (.mv (.t 27)))⟩])))

def kc_internal_bytealg_hashStr_string : AC :=
  (.seq (.ops [⟨(some 2), none, (.op (.mv (.c (.int .u32 0))))⟩,
    ⟨(some 3), none, (.op (.mv (.c (.int .u32 0))))⟩])
  (.seq (.ops [⟨(some 4), none, (.op (.mv (.c (.int .u32 0))))⟩])
  (.seq (.seq (.ops [⟨(some 5), none, (.op (.mv (.c (.int .i64 0))))⟩])
  (.block 0 (.loop ⟨none, [], false⟩ l_kinternal_bytealg_hashStr_string_0)))
  (.seq (.ops [⟨(some 6), none, (.op (.mv (.c (.int .u32 1))))⟩,
    ⟨(some 7), none, (.op (.mv (.c (.int .u32 16777619))))⟩])
  (.seq (.seq (.ops [⟨(some 22), none, (.op (.mv (.t 0)))⟩,
    ⟨(some 23), none, (.op (.len .str (.t 22)))⟩,
    ⟨(some 8), none, (.op (.mv (.t 23)))⟩])
  (.block 2 (.loop ⟨none, [], false⟩ l_kinternal_bytealg_hashStr_string_1)))
  (.seq (.ops [⟨(some 37), none, (.op (.mv (.t 4)))⟩,
    ⟨(some 38), none, (.op (.mv (.t 6)))⟩,
    ⟨(some 2), none, (.op (.mv (.t 37)))⟩,
    ⟨(some 3), none, (.op (.mv (.t 38)))⟩])
  .ret))))))
def ka_internal_bytealg_hashStr_string : AFn := ⟨kc_internal_bytealg_hashStr_string, 39, [.t 2, .t 3], .keep, [], none⟩

def kc_internal_strconv_ParseInt : AC :=
  (.seq (.ops [⟨(some 6), none, (.op (.mv (.c (.int .i64 0))))⟩,
    ⟨(some 7), none, (.op (.mv (.c .nilif)))⟩])
  (.seq (.seq (.ops [⟨(some 12), none, (.op (.mv (.t 0)))⟩,
    ⟨(some 13), none, (.op (.ar .eql (.t 12) (.c (.str []))))⟩])
  (.cond (.t 13)
    (.seq (.ops [⟨(some 14), none, (.op (.mi t_strconv_Error (.c (.int .i64 2))))⟩,
      ⟨(some 6), none, (.op (.mv (.c (.int .i64 0))))⟩,
      ⟨(some 7), none, (.op (.mv (.t 14)))⟩])
    .ret)
    .skip))
  (.seq (.ops [⟨(some 8), none, (.op (.mv (.c (.bool false))))⟩])
  (.seq (.seq (.ops [⟨(some 15), none, (.op (.mv (.t 0)))⟩,
    ⟨(some 16), none, (.op (.ixs (.t 15) (.c (.int .i64 0))))⟩])
  (.block 0 (.seq (.ops [⟨(some 18), none, (.op (.ar .eql (.t 16) (.c (.int .u8 43))))⟩,
    ⟨(some 17), none, (.op (.mv (.t 18)))⟩])
  (.cond (.t 17)
    (.ops [⟨(some 19), none, (.op (.mv (.t 0)))⟩,
      ⟨(some 20), none, (.op (.sls (.t 19) (some (.c (.int .i64 1))) none))⟩,
      ⟨(some 0), none, (.op (.mv (.t 20)))⟩])
    (.seq (.ops [⟨(some 22), none, (.op (.ar .eql (.t 16) (.c (.int .u8 45))))⟩,
      ⟨(some 21), none, (.op (.mv (.t 22)))⟩])
    (.cond (.t 21)
      (.seq (.ops [⟨(some 23), none, (.op (.mv (.t 0)))⟩,
        ⟨(some 24), none, (.op (.sls (.t 23) (some (.c (.int .i64 1))) none))⟩,
        ⟨(some 0), none, (.op (.mv (.t 24)))⟩])
      (.ops [⟨(some 8), none, (.op (.mv (.c (.bool true))))⟩]))
      .skip))))))
  (.seq (.ops [⟨(some 9), none, (.op (.mv (.c (.int .u64 0))))⟩])
  (.seq (.ops [⟨(some 26), none, (.op (.mv (.t 0)))⟩,
    ⟨(some 27), none, (.op (.mv (.t 1)))⟩,
    ⟨(some 28), none, (.op (.mv (.t 2)))⟩,
    ⟨(some 29), none, (.call (.c (.fn (.func f_internal_strconv_ParseUint) [] [])) [(.t 26), (.t 27), (.t 28)])⟩,
    ⟨(some 25), none, (.op (.mv (.t 29)))⟩,
    ⟨(some 30), none, (.op (.ex (.t 25) 0))⟩,
    ⟨(some 31), none, (.op (.ex (.t 25) 1))⟩,
    ⟨(some 9), none, (.op (.mv (.t 30)))⟩,
    ⟨(some 7), none, (.op (.mv (.t 31)))⟩])
  (.seq (.seq (.ops [⟨(some 32), none, (.op (.mv (.t 7)))⟩,
    ⟨(some 33), none, (.op (.eq true (.ifc true) (.t 32) (.c .nilif)))⟩,
    ⟨(some 34), none, (.op (.mv (.t 33)))⟩,
    ⟨(some 35), (some (34, true)), (.op (.mv (.t 7)))⟩,
    ⟨(some 36), (some (34, true)), (.op (.mi t_strconv_Error (.c (.int .i64 1))))⟩,
    ⟨(some 37), (some (34, true)), (.op (.eq true (.ifc false) (.t 35) (.t 36)))⟩,
    ⟨(some 38), none, (.op (.pk (.t 34) (.t 37) (.c (.bool false))))⟩])
  (.cond (.t 38)
    (.seq (.ops [⟨(some 39), none, (.op (.mv (.t 7)))⟩,
      ⟨(some 6), none, (.op (.mv (.c (.int .i64 0))))⟩,
      ⟨(some 7), none, (.op (.mv (.t 39)))⟩])
    .ret)
    .skip))
  (.seq (.seq (.ops [⟨(some 40), none, (.op (.mv (.t 2)))⟩,
    ⟨(some 41), none, (.op (.ar .eql (.t 40) (.c (.int .i64 0))))⟩])
  (.cond (.t 41)
    (.ops [⟨(some 2), none, (.op (.mv (.c (.int .i64 64))))⟩])
    .skip))
  (.seq (.ops [⟨(some 42), none, (.op (.mv (.t 2)))⟩,
    ⟨(some 43), none, (.op (.ar .sub (.t 42) (.c (.int .i64 1))))⟩,
    ⟨(some 44), none, (.op (.cvi .u64 (.t 43)))⟩,
    ⟨(some 45), none, (.op (.sh .shl (.c (.int .u64 1)) (.t 44)))⟩,
    ⟨(some 10), none, (.op (.mv (.t 45)))⟩])
  (.seq (.seq (.ops [⟨(some 46), none, (.op (.mv (.t 8)))⟩,
    ⟨(some 47), none, (.op (.un .not (.t 46)))⟩,
    ⟨(some 48), none, (.op (.mv (.t 47)))⟩,
    ⟨(some 49), (some (48, true)), (.op (.mv (.t 9)))⟩,
    ⟨(some 50), (some (48, true)), (.op (.mv (.t 10)))⟩,
    ⟨(some 51), (some (48, true)), (.op (.ar .geq (.t 49) (.t 50)))⟩,
    ⟨(some 52), none, (.op (.pk (.t 48) (.t 51) (.c (.bool false))))⟩])
  (.cond (.t 52)
    (.seq (.ops [⟨(some 53), none, (.op (.mv (.t 10)))⟩,
      ⟨(some 54), none, (.op (.ar .sub (.t 53) (.c (.int .u64 1))))⟩,
      ⟨(some 55), none, (.op (.cvi .i64 (.t 54)))⟩,
      ⟨(some 56), none, (.op (.mi t_strconv_Error (.c (.int .i64 1))))⟩,
      ⟨(some 6), none, (.op (.mv (.t 55)))⟩,
      ⟨(some 7), none, (.op (.mv (.t 56)))⟩])
    .ret)
    .skip))
  (.seq (.seq (.ops [⟨(some 57), none, (.op (.mv (.t 8)))⟩,
    ⟨(some 58), none, (.op (.mv (.t 57)))⟩,
    ⟨(some 59), (some (58, true)), (.op (.mv (.t 9)))⟩,
    ⟨(some 60), (some (58, true)), (.op (.mv (.t 10)))⟩,
    ⟨(some 61), (some (58, true)), (.op (.ar .gtr (.t 59) (.t 60)))⟩,
    ⟨(some 62), none, (.op (.pk (.t 58) (.t 61) (.c (.bool false))))⟩])
  (.cond (.t 62)
    (.seq (.ops [⟨(some 63), none, (.op (.mv (.t 10)))⟩,
      ⟨(some 64), none, (.op (.cvi .i64 (.t 63)))⟩,
      ⟨(some 65), none, (.op (.un .neg (.t 64)))⟩,
      ⟨(some 66), none, (.op (.mi t_strconv_Error (.c (.int .i64 1))))⟩,
      ⟨(some 6), none, (.op (.mv (.t 65)))⟩,
      ⟨(some 7), none, (.op (.mv (.t 66)))⟩])
    .ret)
    .skip))
  (.seq (.ops [⟨(some 67), none, (.op (.mv (.t 9)))⟩,
    ⟨(some 68), none, (.op (.cvi .i64 (.t 67)))⟩,
    ⟨(some 11), none, (.op (.mv (.t 68)))⟩])
  (.seq (.seq (.ops [⟨(some 69), none, (.op (.mv (.t 8)))⟩])
  (.cond (.t 69)
    (.ops [⟨(some 70), none, (.op (.mv (.t 11)))⟩,
      ⟨(some 71), none, (.op (.un .neg (.t 70)))⟩,
      ⟨(some 11), none, (.op (.mv (.t 71)))⟩])
    .skip))
  (.seq (.ops [⟨(some 72), none, (.op (.mv (.t 11)))⟩,
    ⟨(some 6), none, (.op (.mv (.t 72)))⟩,
    ⟨(some 7), none, (.op (.mv (.c .nilif)))⟩])
  .ret))))))))))))))
def ka_internal_strconv_ParseInt : AFn := ⟨kc_internal_strconv_ParseInt, 73, [.t 6, .t 7], .keep, [], none⟩

def kc_strconv_syntaxError : AC :=
  (.seq (.ops [⟨(some 4), none, (.op (.mv (.c .nilp)))⟩])
  (.seq (.dops false [] [] [(⟨(some 5), none, (.op (.mv (.t 0)))⟩, .pure),
    (⟨(some 6), none, (.op (.mv (.t 1)))⟩, .pure),
    (⟨(some 8), none, (.op (.ld none (.c .unk)))⟩, .wide),
    (⟨(some 7), none, (.call (.c (.fn (.func f_internal_stringslite_Clone) [] [])) [(.t 6)])⟩, .keep),
    (⟨(some 9), none, (.op (.bd [(.str []), (.str []), .nilif] [(0, 1), (1, 1), (2, 1)] [(0, (.t 5)), (1, (.t 7)), (2, (.t 8))]))⟩, .pure),
    (⟨(some 10), none, (.op (.bx t_strconv_NumError_1 (.t 9)))⟩, .keep),
    (⟨(some 4), none, (.op (.mv (.t 10)))⟩, .pure)])
  .ret))
def ka_strconv_syntaxError : AFn := ⟨kc_strconv_syntaxError, 11, [.t 4], .keep, [], none⟩

def kc_strconv_rangeError : AC :=
  (.seq (.ops [⟨(some 4), none, (.op (.mv (.c .nilp)))⟩])
  (.seq (.dops false [] [] [(⟨(some 5), none, (.op (.mv (.t 0)))⟩, .pure),
    (⟨(some 6), none, (.op (.mv (.t 1)))⟩, .pure),
    (⟨(some 8), none, (.op (.ld none (.c .unk)))⟩, .wide),
    (⟨(some 7), none, (.call (.c (.fn (.func f_internal_stringslite_Clone) [] [])) [(.t 6)])⟩, .keep),
    (⟨(some 9), none, (.op (.bd [(.str []), (.str []), .nilif] [(0, 1), (1, 1), (2, 1)] [(0, (.t 5)), (1, (.t 7)), (2, (.t 8))]))⟩, .pure),
    (⟨(some 10), none, (.op (.bx t_strconv_NumError_1 (.t 9)))⟩, .keep),
    (⟨(some 4), none, (.op (.mv (.t 10)))⟩, .pure)])
  .ret))
def ka_strconv_rangeError : AFn := ⟨kc_strconv_rangeError, 11, [.t 4], .keep, [], none⟩

def kc_strconv_baseError : AC :=
  (.seq (.ops [⟨(some 6), none, (.op (.mv (.c .nilp)))⟩])
  (.seq (.ops [⟨(some 7), none, (.op (.mv (.t 0)))⟩,
    ⟨(some 8), none, (.op (.mv (.t 1)))⟩,
    ⟨(some 9), none, (.call (.c (.fn (.func f_internal_stringslite_Clone) [] [])) [(.t 8)])⟩,
    ⟨(some 10), none, (.op (.mv (.t 2)))⟩,
    ⟨(some 11), none, (.call (.c (.fn (.func f_strconv_Itoa) [] [])) [(.t 10)])⟩,
    ⟨(some 12), none, (.op (.ar .add (.c (.str [105, 110, 118, 97, 108, 105, 100, 32, 98, 97, 115, 101, 32])) (.t 11)))⟩,
    ⟨(some 13), none, (.call (.c (.fn (.func f_errors_New) [] [])) [(.t 12)])⟩,
    ⟨(some 14), none, (.op (.bd [(.str []), (.str []), .nilif] [(0, 1), (1, 1), (2, 1)] [(0, (.t 7)), (1, (.t 9)), (2, (.t 13))]))⟩,
    ⟨(some 15), none, (.op (.bx t_strconv_NumError_1 (.t 14)))⟩,
    ⟨(some 6), none, (.op (.mv (.t 15)))⟩])
  .ret))
def ka_strconv_baseError : AFn := ⟨kc_strconv_baseError, 16, [.t 6], .keep, [], none⟩

def kc_strconv_bitSizeError : AC :=
  (.seq (.ops [⟨(some 6), none, (.op (.mv (.c .nilp)))⟩])
  (.seq (.ops [⟨(some 7), none, (.op (.mv (.t 0)))⟩,
    ⟨(some 8), none, (.op (.mv (.t 1)))⟩,
    ⟨(some 9), none, (.call (.c (.fn (.func f_internal_stringslite_Clone) [] [])) [(.t 8)])⟩,
    ⟨(some 10), none, (.op (.mv (.t 2)))⟩,
    ⟨(some 11), none, (.call (.c (.fn (.func f_strconv_Itoa) [] [])) [(.t 10)])⟩,
    ⟨(some 12), none, (.op (.ar .add (.c (.str [105, 110, 118, 97, 108, 105, 100, 32, 98, 105, 116, 32, 115, 105, 122, 101, 32])) (.t 11)))⟩,
    ⟨(some 13), none, (.call (.c (.fn (.func f_errors_New) [] [])) [(.t 12)])⟩,
    ⟨(some 14), none, (.op (.bd [(.str []), (.str []), .nilif] [(0, 1), (1, 1), (2, 1)] [(0, (.t 7)), (1, (.t 9)), (2, (.t 13))]))⟩,
    ⟨(some 15), none, (.op (.bx t_strconv_NumError_1 (.t 14)))⟩,
    ⟨(some 6), none, (.op (.mv (.t 15)))⟩])
  .ret))
def ka_strconv_bitSizeError : AFn := ⟨kc_strconv_bitSizeError, 16, [.t 6], .keep, [], none⟩

def kc_internal_strconv_FormatInt : AC :=
  (.seq (.ops [⟨(some 4), none, (.op (.mv (.c (.str []))))⟩])
  (.seq (.seq (.ops [⟨(some 10), none, (.op (.mv (.t 1)))⟩,
    ⟨(some 11), none, (.op (.ar .eql (.t 10) (.c (.int .i64 10))))⟩])
  (.cond (.t 11)
    (.seq (.seq (.ops [⟨(some 12), none, (.op (.mv (.t 0)))⟩,
      ⟨(some 13), none, (.op (.ar .leq (.c (.int .i64 0)) (.t 12)))⟩,
      ⟨(some 14), none, (.op (.mv (.t 13)))⟩,
      ⟨(some 15), (some (14, true)), (.op (.mv (.t 0)))⟩,
      ⟨(some 16), (some (14, true)), (.op (.ar .lss (.t 15) (.c (.int .i64 100))))⟩,
      ⟨(some 17), none, (.op (.pk (.t 14) (.t 16) (.c (.bool false))))⟩])
    (.cond (.t 17)
      (.seq (.ops [⟨(some 18), none, (.op (.mv (.t 0)))⟩,
        ⟨(some 19), none, (.call (.c (.fn (.func f_internal_strconv_small) [] [])) [(.t 18)])⟩,
        ⟨(some 4), none, (.op (.mv (.t 19)))⟩])
      .ret)
      .skip))
    (.seq (.ops [⟨(some 5), none, (.op (.nw [(.int .u8 0), (.int .u8 0), (.int .u8 0), (.int .u8 0), (.int .u8 0), (.int .u8 0), (.int .u8 0), (.int .u8 0), (.int .u8 0), (.int .u8 0), (.int .u8 0), (.int .u8 0), (.int .u8 0), (.int .u8 0), (.int .u8 0), (.int .u8 0), (.int .u8 0), (.int .u8 0), (.int .u8 0), (.int .u8 0), (.int .u8 0), (.int .u8 0), (.int .u8 0), (.int .u8 0)] t_24_uint8))⟩])
    (.seq (.ops [⟨(some 20), none, (.op (.mv (.t 0)))⟩,
      ⟨(some 21), none, (.op (.cvi .u64 (.t 20)))⟩,
      ⟨(some 6), none, (.op (.mv (.t 21)))⟩])
    (.seq (.seq (.ops [⟨(some 22), none, (.op (.mv (.t 0)))⟩,
      ⟨(some 23), none, (.op (.ar .lss (.t 22) (.c (.int .i64 0))))⟩])
    (.cond (.t 23)
      (.ops [⟨(some 24), none, (.op (.mv (.t 6)))⟩,
        ⟨(some 25), none, (.op (.un .neg (.t 24)))⟩,
        ⟨(some 6), none, (.op (.mv (.t 25)))⟩])
      .skip))
    (.seq (.ops [⟨(some 26), none, (.op (.mv (.t 6)))⟩,
      ⟨(some 27), none, (.call (.c (.fn (.func f_internal_strconv_numDigits) [] [])) [(.t 26)])⟩,
      ⟨(some 7), none, (.op (.mv (.t 27)))⟩])
    (.seq (.ops [⟨(some 28), none, (.op (.mv (.t 7)))⟩,
      ⟨(some 29), none, (.op (.ar .add (.c (.int .i64 1)) (.t 28)))⟩,
      ⟨(some 30), none, (.op (.sla 24 1 (.t 5) (some (.c (.int .i64 1))) (some (.t 29))))⟩,
      ⟨(some 31), none, (.op (.mv (.t 6)))⟩,
      ⟨(some 32), none, (.call (.c (.fn (.func f_internal_strconv_formatBase10) [] [])) [(.t 30), (.t 31)])⟩])
    (.seq (.seq (.ops [⟨(some 33), none, (.op (.mv (.t 0)))⟩,
      ⟨(some 34), none, (.op (.ar .lss (.t 33) (.c (.int .i64 0))))⟩])
    (.cond (.t 34)
      (.seq (.ops [⟨(some 35), none, (.op (.iaa 24 1 (.t 5) (.c (.int .i64 0))))⟩,
        ⟨none, none, (.op (.st 1 (.t 35) (.c (.int .u8 45))))⟩])
      (.seq (.ops [⟨(some 36), none, (.op (.mv (.t 7)))⟩,
        ⟨(some 37), none, (.op (.ar .add (.c (.int .i64 1)) (.t 36)))⟩,
        ⟨(some 38), none, (.op (.sla 24 1 (.t 5) none (some (.t 37))))⟩,
        ⟨(some 39), none, (.op (.cvbs (.t 38)))⟩,
        ⟨(some 4), none, (.op (.mv (.t 39)))⟩])
      .ret))
      .skip))
    (.seq (.ops [⟨(some 40), none, (.op (.mv (.t 7)))⟩,
      ⟨(some 41), none, (.op (.ar .add (.c (.int .i64 1)) (.t 40)))⟩,
      ⟨(some 42), none, (.op (.sla 24 1 (.t 5) (some (.c (.int .i64 1))) (some (.t 41))))⟩,
      ⟨(some 43), none, (.op (.cvbs (.t 42)))⟩,
      ⟨(some 4), none, (.op (.mv (.t 43)))⟩])
    .ret))))))))
    .skip))
  (.seq (.ops [⟨(some 45), none, (.op (.mv (.t 0)))⟩,
    ⟨(some 46), none, (.op (.cvi .u64 (.t 45)))⟩,
    ⟨(some 47), none, (.op (.mv (.t 1)))⟩,
    ⟨(some 48), none, (.op (.mv (.t 0)))⟩,
    ⟨(some 49), none, (.op (.ar .lss (.t 48) (.c (.int .i64 0))))⟩,
    ⟨(some 50), none, (.call (.c (.fn (.func f_internal_strconv_formatBits) [] [])) [(.c (.slice .nil 1 [])), (.t 46), (.t 47), (.t 49), (.c (.bool false))])⟩,
    ⟨(some 44), none, (.op (.mv (.t 50)))⟩,
    ⟨(some 51), none, (.op (.ex (.t 44) 0))⟩,
    ⟨(some 52), none, (.op (.ex (.t 44) 1))⟩,
    ⟨(some 8), none, (.op (.mv (.t 51)))⟩,
    ⟨(some 9), none, (.op (.mv (.t 52)))⟩])
  (.seq (.ops [⟨(some 53), none, (.op (.mv (.t 9)))⟩,
    ⟨(some 4), none, (.op (.mv (.t 53)))⟩])
  .ret))))
def ka_internal_strconv_FormatInt : AFn := ⟨kc_internal_strconv_FormatInt, 54, [.t 4], .keep, [], none⟩

def kc_strings_IndexByte : AC :=
  (.seq (.ops [⟨(some 4), none, (.op (.mv (.c (.int .i64 0))))⟩])
  (.seq (.ops [⟨(some 5), none, (.op (.mv (.t 0)))⟩,
    ⟨(some 6), none, (.op (.mv (.t 1)))⟩,
    ⟨(some 7), none, (.call (.c (.fn (.func f_internal_stringslite_IndexByte) [] [])) [(.t 5), (.t 6)])⟩,
    ⟨(some 4), none, (.op (.mv (.t 7)))⟩])
  .ret))
def ka_strings_IndexByte : AFn := ⟨kc_strings_IndexByte, 8, [.t 4], .keep, [], none⟩

def l_kinternal_strconv_ParseUint_0 : AC :=
  (.seq (.ops [⟨(some 102), none, (.op (.ar .lss (.t 101) (.t 100)))⟩])
  (.seq (.cond (.t 102)
    .skip
    (.exit 3))
  (.seq (.block 4 (.seq (.ops [⟨(some 103), none, (.op (.ias 1 (.t 99) (.t 101)))⟩,
    ⟨(some 104), none, (.op (.ld none (.t 103)))⟩,
    ⟨(some 15), none, (.op (.mv (.t 104)))⟩])
  (.seq (.ops [⟨(some 16), none, (.op (.mv (.c (.int .u8 0))))⟩])
  (.seq (.block 5 (.seq (.ops [⟨(some 107), none, (.op (.mv (.t 15)))⟩,
    ⟨(some 108), none, (.op (.ar .eql (.t 107) (.c (.int .u8 95))))⟩,
    ⟨(some 109), none, (.op (.mv (.t 108)))⟩,
    ⟨(some 110), (some (109, true)), (.op (.mv (.t 8)))⟩,
    ⟨(some 111), none, (.op (.pk (.t 109) (.t 110) (.c (.bool false))))⟩,
    ⟨(some 106), none, (.op (.mv (.t 111)))⟩])
  (.cond (.t 106)
    (.seq (.ops [⟨(some 12), none, (.op (.mv (.c (.bool true))))⟩])
    (.exit 4))
    (.seq (.ops [⟨(some 113), none, (.op (.mv (.t 15)))⟩,
      ⟨(some 114), none, (.op (.ar .leq (.c (.int .u8 48)) (.t 113)))⟩,
      ⟨(some 115), none, (.op (.mv (.t 114)))⟩,
      ⟨(some 116), (some (115, true)), (.op (.mv (.t 15)))⟩,
      ⟨(some 117), (some (115, true)), (.op (.ar .leq (.t 116) (.c (.int .u8 57))))⟩,
      ⟨(some 118), none, (.op (.pk (.t 115) (.t 117) (.c (.bool false))))⟩,
      ⟨(some 112), none, (.op (.mv (.t 118)))⟩])
    (.cond (.t 112)
      (.ops [⟨(some 119), none, (.op (.mv (.t 15)))⟩,
        ⟨(some 120), none, (.op (.ar .sub (.t 119) (.c (.int .u8 48))))⟩,
        ⟨(some 16), none, (.op (.mv (.t 120)))⟩])
      (.seq (.ops [⟨(some 122), none, (.op (.mv (.t 15)))⟩,
        ⟨(some 123), none, (.call (.c (.fn (.func f_internal_strconv_lower) [] [])) [(.t 122)])⟩,
        ⟨(some 124), none, (.op (.ar .leq (.c (.int .u8 97)) (.t 123)))⟩,
        ⟨(some 125), none, (.op (.mv (.t 124)))⟩,
        ⟨(some 126), (some (125, true)), (.op (.mv (.t 15)))⟩,
        ⟨(some 127), (some (125, true)), (.call (.c (.fn (.func f_internal_strconv_lower) [] [])) [(.t 126)])⟩,
        ⟨(some 128), (some (125, true)), (.op (.ar .leq (.t 127) (.c (.int .u8 122))))⟩,
        ⟨(some 129), none, (.op (.pk (.t 125) (.t 128) (.c (.bool false))))⟩,
        ⟨(some 121), none, (.op (.mv (.t 129)))⟩])
      (.cond (.t 121)
        (.ops [⟨(some 130), none, (.op (.mv (.t 15)))⟩,
          ⟨(some 131), none, (.call (.c (.fn (.func f_internal_strconv_lower) [] [])) [(.t 130)])⟩,
          ⟨(some 132), none, (.op (.ar .sub (.t 131) (.c (.int .u8 97))))⟩,
          ⟨(some 133), none, (.op (.ar .add (.t 132) (.c (.int .u8 10))))⟩,
          ⟨(some 16), none, (.op (.mv (.t 133)))⟩])
        (.seq (.ops [⟨(some 105), none, (.op (.mi t_strconv_Error (.c (.int .i64 2))))⟩,
          ⟨(some 6), none, (.op (.mv (.c (.int .u64 0))))⟩,
          ⟨(some 7), none, (.op (.mv (.t 105)))⟩])
        .ret))))))))
  (.seq (.seq (.ops [⟨(some 134), none, (.op (.mv (.t 16)))⟩,
    ⟨(some 135), none, (.op (.mv (.t 1)))⟩,
    ⟨(some 136), none, (.op (.cvi .u8 (.t 135)))⟩,
    ⟨(some 137), none, (.op (.ar .geq (.t 134) (.t 136)))⟩])
  (.cond (.t 137)
    (.seq (.ops [⟨(some 138), none, (.op (.mi t_strconv_Error (.c (.int .i64 2))))⟩,
      ⟨(some 6), none, (.op (.mv (.c (.int .u64 0))))⟩,
      ⟨(some 7), none, (.op (.mv (.t 138)))⟩])
    .ret)
    .skip))
  (.seq (.seq (.ops [⟨(some 139), none, (.op (.mv (.t 13)))⟩,
    ⟨(some 140), none, (.op (.mv (.t 10)))⟩,
    ⟨(some 141), none, (.op (.ar .geq (.t 139) (.t 140)))⟩])
  (.cond (.t 141)
    (.seq (.ops [⟨(some 142), none, (.op (.mv (.t 11)))⟩,
      ⟨(some 143), none, (.op (.mi t_strconv_Error (.c (.int .i64 1))))⟩,
      ⟨(some 6), none, (.op (.mv (.t 142)))⟩,
      ⟨(some 7), none, (.op (.mv (.t 143)))⟩])
    .ret)
    .skip))
  (.seq (.ops [⟨(some 144), none, (.op (.mv (.t 13)))⟩,
    ⟨(some 145), none, (.op (.mv (.t 1)))⟩,
    ⟨(some 146), none, (.op (.cvi .u64 (.t 145)))⟩,
    ⟨(some 147), none, (.op (.ar .mul (.t 144) (.t 146)))⟩,
    ⟨(some 13), none, (.op (.mv (.t 147)))⟩])
  (.seq (.ops [⟨(some 148), none, (.op (.mv (.t 13)))⟩,
    ⟨(some 149), none, (.op (.mv (.t 16)))⟩,
    ⟨(some 150), none, (.op (.cvi .u64 (.t 149)))⟩,
    ⟨(some 151), none, (.op (.ar .add (.t 148) (.t 150)))⟩,
    ⟨(some 17), none, (.op (.mv (.t 151)))⟩])
  (.seq (.seq (.ops [⟨(some 152), none, (.op (.mv (.t 17)))⟩,
    ⟨(some 153), none, (.op (.mv (.t 13)))⟩,
    ⟨(some 154), none, (.op (.ar .lss (.t 152) (.t 153)))⟩,
    ⟨(some 155), none, (.op (.mv (.t 154)))⟩,
    ⟨(some 156), (some (155, false)), (.op (.mv (.t 17)))⟩,
    ⟨(some 157), (some (155, false)), (.op (.mv (.t 11)))⟩,
    ⟨(some 158), (some (155, false)), (.op (.ar .gtr (.t 156) (.t 157)))⟩,
    ⟨(some 159), none, (.op (.pk (.t 155) (.c (.bool true)) (.t 158)))⟩])
  (.cond (.t 159)
    (.seq (.ops [⟨(some 160), none, (.op (.mv (.t 11)))⟩,
      ⟨(some 161), none, (.op (.mi t_strconv_Error (.c (.int .i64 1))))⟩,
      ⟨(some 6), none, (.op (.mv (.t 160)))⟩,
      ⟨(some 7), none, (.op (.mv (.t 161)))⟩])
    .ret)
    .skip))
  (.ops [⟨(some 162), none, (.op (.mv (.t 17)))⟩,
    ⟨(some 13), none, (.op (.mv (.t 162)))⟩]))))))))))
  (.ops [⟨(some 163), none, (.op (.ar .add (.t 101) (.c (.int .i64 1))))⟩,
    ⟨(some 101), none, (.op (.mv (.t 163)))⟩]))))

def kc_internal_strconv_ParseUint : AC :=
  (.seq (.ops [⟨(some 6), none, (.op (.mv (.c (.int .u64 0))))⟩,
    ⟨(some 7), none, (.op (.mv (.c .nilif)))⟩])
  (.seq (.seq (.ops [⟨(some 18), none, (.op (.mv (.t 0)))⟩,
    ⟨(some 19), none, (.op (.ar .eql (.t 18) (.c (.str []))))⟩])
  (.cond (.t 19)
    (.seq (.ops [⟨(some 20), none, (.op (.mi t_strconv_Error (.c (.int .i64 2))))⟩,
      ⟨(some 6), none, (.op (.mv (.c (.int .u64 0))))⟩,
      ⟨(some 7), none, (.op (.mv (.t 20)))⟩])
    .ret)
    .skip))
  (.seq (.ops [⟨(some 21), none, (.op (.mv (.t 1)))⟩,
    ⟨(some 22), none, (.op (.ar .eql (.t 21) (.c (.int .i64 0))))⟩,
    ⟨(some 8), none, (.op (.mv (.t 22)))⟩])
  (.seq (.ops [⟨(some 23), none, (.op (.mv (.t 0)))⟩,
    ⟨(some 9), none, (.op (.mv (.t 23)))⟩])
  (.seq (.block 0 (.seq (.ops [⟨(some 26), none, (.op (.mv (.t 1)))⟩,
    ⟨(some 27), none, (.op (.ar .leq (.c (.int .i64 2)) (.t 26)))⟩,
    ⟨(some 28), none, (.op (.mv (.t 27)))⟩,
    ⟨(some 29), (some (28, true)), (.op (.mv (.t 1)))⟩,
    ⟨(some 30), (some (28, true)), (.op (.ar .leq (.t 29) (.c (.int .i64 36))))⟩,
    ⟨(some 31), none, (.op (.pk (.t 28) (.t 30) (.c (.bool false))))⟩,
    ⟨(some 25), none, (.op (.mv (.t 31)))⟩])
  (.cond (.t 25)
    .skip
    (.seq (.ops [⟨(some 33), none, (.op (.mv (.t 1)))⟩,
      ⟨(some 34), none, (.op (.ar .eql (.t 33) (.c (.int .i64 0))))⟩,
      ⟨(some 32), none, (.op (.mv (.t 34)))⟩])
    (.cond (.t 32)
      (.seq (.ops [⟨(some 1), none, (.op (.mv (.c (.int .i64 10))))⟩])
      (.seq (.ops [⟨(some 35), none, (.op (.mv (.t 0)))⟩,
        ⟨(some 36), none, (.op (.ixs (.t 35) (.c (.int .i64 0))))⟩,
        ⟨(some 37), none, (.op (.ar .eql (.t 36) (.c (.int .u8 48))))⟩])
      (.cond (.t 37)
        (.block 1 (.seq (.ops [⟨(some 41), none, (.op (.mv (.t 0)))⟩,
          ⟨(some 42), none, (.op (.len .str (.t 41)))⟩,
          ⟨(some 43), none, (.op (.ar .geq (.t 42) (.c (.int .i64 3))))⟩,
          ⟨(some 44), none, (.op (.mv (.t 43)))⟩,
          ⟨(some 45), (some (44, true)), (.op (.mv (.t 0)))⟩,
          ⟨(some 46), (some (44, true)), (.op (.ixs (.t 45) (.c (.int .i64 1))))⟩,
          ⟨(some 47), (some (44, true)), (.call (.c (.fn (.func f_internal_strconv_lower) [] [])) [(.t 46)])⟩,
          ⟨(some 48), (some (44, true)), (.op (.ar .eql (.t 47) (.c (.int .u8 98))))⟩,
          ⟨(some 49), none, (.op (.pk (.t 44) (.t 48) (.c (.bool false))))⟩,
          ⟨(some 40), none, (.op (.mv (.t 49)))⟩])
        (.cond (.t 40)
          (.seq (.ops [⟨(some 1), none, (.op (.mv (.c (.int .i64 2))))⟩])
          (.ops [⟨(some 50), none, (.op (.mv (.t 0)))⟩,
            ⟨(some 51), none, (.op (.sls (.t 50) (some (.c (.int .i64 2))) none))⟩,
            ⟨(some 0), none, (.op (.mv (.t 51)))⟩]))
          (.seq (.ops [⟨(some 53), none, (.op (.mv (.t 0)))⟩,
            ⟨(some 54), none, (.op (.len .str (.t 53)))⟩,
            ⟨(some 55), none, (.op (.ar .geq (.t 54) (.c (.int .i64 3))))⟩,
            ⟨(some 56), none, (.op (.mv (.t 55)))⟩,
            ⟨(some 57), (some (56, true)), (.op (.mv (.t 0)))⟩,
            ⟨(some 58), (some (56, true)), (.op (.ixs (.t 57) (.c (.int .i64 1))))⟩,
            ⟨(some 59), (some (56, true)), (.call (.c (.fn (.func f_internal_strconv_lower) [] [])) [(.t 58)])⟩,
            ⟨(some 60), (some (56, true)), (.op (.ar .eql (.t 59) (.c (.int .u8 111))))⟩,
            ⟨(some 61), none, (.op (.pk (.t 56) (.t 60) (.c (.bool false))))⟩,
            ⟨(some 52), none, (.op (.mv (.t 61)))⟩])
          (.cond (.t 52)
            (.seq (.ops [⟨(some 1), none, (.op (.mv (.c (.int .i64 8))))⟩])
            (.ops [⟨(some 62), none, (.op (.mv (.t 0)))⟩,
              ⟨(some 63), none, (.op (.sls (.t 62) (some (.c (.int .i64 2))) none))⟩,
              ⟨(some 0), none, (.op (.mv (.t 63)))⟩]))
            (.seq (.ops [⟨(some 65), none, (.op (.mv (.t 0)))⟩,
              ⟨(some 66), none, (.op (.len .str (.t 65)))⟩,
              ⟨(some 67), none, (.op (.ar .geq (.t 66) (.c (.int .i64 3))))⟩,
              ⟨(some 68), none, (.op (.mv (.t 67)))⟩,
              ⟨(some 69), (some (68, true)), (.op (.mv (.t 0)))⟩,
              ⟨(some 70), (some (68, true)), (.op (.ixs (.t 69) (.c (.int .i64 1))))⟩,
              ⟨(some 71), (some (68, true)), (.call (.c (.fn (.func f_internal_strconv_lower) [] [])) [(.t 70)])⟩,
              ⟨(some 72), (some (68, true)), (.op (.ar .eql (.t 71) (.c (.int .u8 120))))⟩,
              ⟨(some 73), none, (.op (.pk (.t 68) (.t 72) (.c (.bool false))))⟩,
              ⟨(some 64), none, (.op (.mv (.t 73)))⟩])
            (.cond (.t 64)
              (.seq (.ops [⟨(some 1), none, (.op (.mv (.c (.int .i64 16))))⟩])
              (.ops [⟨(some 74), none, (.op (.mv (.t 0)))⟩,
                ⟨(some 75), none, (.op (.sls (.t 74) (some (.c (.int .i64 2))) none))⟩,
                ⟨(some 0), none, (.op (.mv (.t 75)))⟩]))
              (.seq (.ops [⟨(some 1), none, (.op (.mv (.c (.int .i64 8))))⟩])
              (.ops [⟨(some 38), none, (.op (.mv (.t 0)))⟩,
                ⟨(some 39), none, (.op (.sls (.t 38) (some (.c (.int .i64 1))) none))⟩,
                ⟨(some 0), none, (.op (.mv (.t 39)))⟩])))))))))
        .skip)))
      (.seq (.ops [⟨(some 24), none, (.op (.mi t_strconv_Error (.c (.int .i64 3))))⟩,
        ⟨(some 6), none, (.op (.mv (.c (.int .u64 0))))⟩,
        ⟨(some 7), none, (.op (.mv (.t 24)))⟩])
      .ret))))))
  (.seq (.seq (.ops [⟨(some 76), none, (.op (.mv (.t 2)))⟩,
    ⟨(some 77), none, (.op (.ar .eql (.t 76) (.c (.int .i64 0))))⟩])
  (.cond (.t 77)
    (.ops [⟨(some 2), none, (.op (.mv (.c (.int .i64 64))))⟩])
    (.seq (.ops [⟨(some 78), none, (.op (.mv (.t 2)))⟩,
      ⟨(some 79), none, (.op (.ar .lss (.t 78) (.c (.int .i64 0))))⟩,
      ⟨(some 80), none, (.op (.mv (.t 79)))⟩,
      ⟨(some 81), (some (80, false)), (.op (.mv (.t 2)))⟩,
      ⟨(some 82), (some (80, false)), (.op (.ar .gtr (.t 81) (.c (.int .i64 64))))⟩,
      ⟨(some 83), none, (.op (.pk (.t 80) (.c (.bool true)) (.t 82)))⟩])
    (.cond (.t 83)
      (.seq (.ops [⟨(some 84), none, (.op (.mi t_strconv_Error (.c (.int .i64 4))))⟩,
        ⟨(some 6), none, (.op (.mv (.c (.int .u64 0))))⟩,
        ⟨(some 7), none, (.op (.mv (.t 84)))⟩])
      .ret)
      .skip))))
  (.seq (.ops [⟨(some 10), none, (.op (.mv (.c (.int .u64 0))))⟩])
  (.seq (.seq (.ops [⟨(some 85), none, (.op (.mv (.t 1)))⟩])
  (.block 2 (.seq (.ops [⟨(some 91), none, (.op (.ar .eql (.t 85) (.c (.int .i64 10))))⟩,
    ⟨(some 90), none, (.op (.mv (.t 91)))⟩])
  (.cond (.t 90)
    (.ops [⟨(some 10), none, (.op (.mv (.c (.int .u64 1844674407370955162))))⟩])
    (.seq (.ops [⟨(some 93), none, (.op (.ar .eql (.t 85) (.c (.int .i64 16))))⟩,
      ⟨(some 92), none, (.op (.mv (.t 93)))⟩])
    (.cond (.t 92)
      (.ops [⟨(some 10), none, (.op (.mv (.c (.int .u64 1152921504606846976))))⟩])
      (.ops [⟨(some 86), none, (.op (.mv (.t 1)))⟩,
        ⟨(some 87), none, (.op (.cvi .u64 (.t 86)))⟩,
        ⟨(some 88), none, (.op (.ar .quo (.c (.int .u64 18446744073709551615)) (.t 87)))⟩,
        ⟨(some 89), none, (.op (.ar .add (.t 88) (.c (.int .u64 1))))⟩,
        ⟨(some 10), none, (.op (.mv (.t 89)))⟩])))))))
  (.seq (.ops [⟨(some 94), none, (.op (.mv (.t 2)))⟩,
    ⟨(some 95), none, (.op (.cvi .u64 (.t 94)))⟩,
    ⟨(some 96), none, (.op (.sh .shl (.c (.int .u64 1)) (.t 95)))⟩,
    ⟨(some 97), none, (.op (.ar .sub (.t 96) (.c (.int .u64 1))))⟩,
    ⟨(some 11), none, (.op (.mv (.t 97)))⟩])
  (.seq (.ops [⟨(some 12), none, (.op (.mv (.c (.bool false))))⟩])
  (.seq (.ops [⟨(some 13), none, (.op (.mv (.c (.int .u64 0))))⟩])
  (.seq (.seq (.ops [⟨(some 98), none, (.op (.mv (.t 0)))⟩,
    ⟨(some 99), none, (.op (.cvsb (.t 98)))⟩,
    ⟨(some 100), none, (.op (.len .sl (.t 99)))⟩,
    ⟨(some 101), none, (.op (.mv (.c (.int .i64 0))))⟩])
  (.block 3 (.loop ⟨none, [], false⟩ l_kinternal_strconv_ParseUint_0)))
  (.seq (.seq (.ops [⟨(some 164), none, (.op (.mv (.t 12)))⟩,
    ⟨(some 165), none, (.op (.mv (.t 164)))⟩,
    ⟨(some 166), (some (165, true)), (.op (.mv (.t 9)))⟩,
    ⟨(some 167), (some (165, true)), (.call (.c (.fn (.func f_internal_strconv_underscoreOK) [] [])) [(.t 166)])⟩,
    ⟨(some 168), (some (165, true)), (.op (.un .not (.t 167)))⟩,
    ⟨(some 169), none, (.op (.pk (.t 165) (.t 168) (.c (.bool false))))⟩])
  (.cond (.t 169)
    (.seq (.ops [⟨(some 170), none, (.op (.mi t_strconv_Error (.c (.int .i64 2))))⟩,
      ⟨(some 6), none, (.op (.mv (.c (.int .u64 0))))⟩,
      ⟨(some 7), none, (.op (.mv (.t 170)))⟩])
    .ret)
    .skip))
  (.seq (.ops [⟨(some 171), none, (.op (.mv (.t 13)))⟩,
    ⟨(some 6), none, (.op (.mv (.t 171)))⟩,
    ⟨(some 7), none, (.op (.mv (.c .nilif)))⟩])
  .ret))))))))))))))
def ka_internal_strconv_ParseUint : AFn := ⟨kc_internal_strconv_ParseUint, 172, [.t 6, .t 7], .keep, [], none⟩

def kc_internal_stringslite_Clone : AC :=
  (.seq (.ops [⟨(some 2), none, (.op (.mv (.c (.str []))))⟩])
  (.seq (.seq (.ops [⟨(some 4), none, (.op (.mv (.t 0)))⟩,
    ⟨(some 5), none, (.op (.len .str (.t 4)))⟩,
    ⟨(some 6), none, (.op (.ar .eql (.t 5) (.c (.int .i64 0))))⟩])
  (.cond (.t 6)
    (.seq (.ops [⟨(some 2), none, (.op (.mv (.c (.str []))))⟩])
    .ret)
    .skip))
  (.seq (.ops [⟨(some 7), none, (.op (.mv (.t 0)))⟩,
    ⟨(some 8), none, (.op (.len .str (.t 7)))⟩,
    ⟨(some 9), none, (.op (.ms t_uint8 1 [(.int .u8 0)] (.t 8) (.t 8)))⟩,
    ⟨(some 3), none, (.op (.mv (.t 9)))⟩])
  (.seq (.ops [⟨(some 10), none, (.op (.mv (.t 3)))⟩,
    ⟨(some 11), none, (.op (.mv (.t 0)))⟩,
    ⟨(some 12), none, (.op (.cp 1 true (.t 10) (.t 11)))⟩])
  (.seq (.ops [⟨(some 13), none, (.op (.mv (.t 3)))⟩,
    ⟨(some 14), none, (.op (.ias 1 (.t 13) (.c (.int .i64 0))))⟩,
    ⟨(some 15), none, (.op (.mv (.t 3)))⟩,
    ⟨(some 16), none, (.op (.len .sl (.t 15)))⟩,
    ⟨(some 17), none, (.op (.ust t_uint8 (.t 14) (.t 16)))⟩,
    ⟨(some 2), none, (.op (.mv (.t 17)))⟩])
  .ret)))))
def ka_internal_stringslite_Clone : AFn := ⟨kc_internal_stringslite_Clone, 18, [.t 2], .keep, [], none⟩

def kc_errors_New : AC :=
  (.seq (.ops [⟨(some 2), none, (.op (.mv (.c .nilif)))⟩])
  (.seq (.ops [⟨(some 3), none, (.op (.mv (.t 0)))⟩,
    ⟨(some 4), none, (.op (.bd [(.str [])] [(0, 1)] [(0, (.t 3))]))⟩,
    ⟨(some 5), none, (.op (.bx t_errors_errorString_1 (.t 4)))⟩,
    ⟨(some 6), none, (.op (.mi t_errors_errorString (.t 5)))⟩,
    ⟨(some 2), none, (.op (.mv (.t 6)))⟩])
  .ret))
def ka_errors_New : AFn := ⟨kc_errors_New, 7, [.t 2], .keep, [], none⟩

def kc_internal_strconv_small : AC :=
  (.seq (.ops [⟨(some 2), none, (.op (.mv (.c (.str []))))⟩])
  (.seq (.seq (.ops [⟨(some 3), none, (.op (.mv (.t 0)))⟩,
    ⟨(some 4), none, (.op (.ar .lss (.t 3) (.c (.int .i64 10))))⟩])
  (.cond (.t 4)
    (.seq (.ops [⟨(some 5), none, (.op (.mv (.t 0)))⟩,
      ⟨(some 6), none, (.op (.mv (.t 0)))⟩,
      ⟨(some 7), none, (.op (.ar .add (.t 6) (.c (.int .i64 1))))⟩,
      ⟨(some 8), none, (.op (.sls (.c (.str [48, 49, 50, 51, 52, 53, 54, 55, 56, 57, 97, 98, 99, 100, 101, 102, 103, 104, 105, 106, 107, 108, 109, 110, 111, 112, 113, 114, 115, 116, 117, 118, 119, 120, 121, 122])) (some (.t 5)) (some (.t 7))))⟩,
      ⟨(some 2), none, (.op (.mv (.t 8)))⟩])
    .ret)
    .skip))
  (.seq (.ops [⟨(some 9), none, (.op (.mv (.t 0)))⟩,
    ⟨(some 10), none, (.op (.ar .mul (.t 9) (.c (.int .i64 2))))⟩,
    ⟨(some 11), none, (.op (.mv (.t 0)))⟩,
    ⟨(some 12), none, (.op (.ar .mul (.t 11) (.c (.int .i64 2))))⟩,
    ⟨(some 13), none, (.op (.ar .add (.t 12) (.c (.int .i64 2))))⟩,
    ⟨(some 14), none, (.op (.sls (.c (.str [48, 48, 48, 49, 48, 50, 48, 51, 48, 52, 48, 53, 48, 54, 48, 55, 48, 56, 48, 57, 49, 48, 49, 49, 49, 50, 49, 51, 49, 52, 49, 53, 49, 54, 49, 55, 49, 56, 49, 57, 50, 48, 50, 49, 50, 50, 50, 51, 50, 52, 50, 53, 50, 54, 50, 55, 50, 56, 50, 57, 51, 48, 51, 49, 51, 50, 51, 51, 51, 52, 51, 53, 51, 54, 51, 55, 51, 56, 51, 57, 52, 48, 52, 49, 52, 50, 52, 51, 52, 52, 52, 53, 52, 54, 52, 55, 52, 56, 52, 57, 53, 48, 53, 49, 53, 50, 53, 51, 53, 52, 53, 53, 53, 54, 53, 55, 53, 56, 53, 57, 54, 48, 54, 49, 54, 50, 54, 51, 54, 52, 54, 53, 54, 54, 54, 55, 54, 56, 54, 57, 55, 48, 55, 49, 55, 50, 55, 51, 55, 52, 55, 53, 55, 54, 55, 55, 55, 56, 55, 57, 56, 48, 56, 49, 56, 50, 56, 51, 56, 52, 56, 53, 56, 54, 56, 55, 56, 56, 56, 57, 57, 48, 57, 49, 57, 50, 57, 51, 57, 52, 57, 53, 57, 54, 57, 55, 57, 56, 57, 57])) (some (.t 10)) (some (.t 13))))⟩,
    ⟨(some 2), none, (.op (.mv (.t 14)))⟩])
  .ret)))
def ka_internal_strconv_small : AFn := ⟨kc_internal_strconv_small, 15, [.t 2], .keep, [], none⟩

def kc_internal_strconv_numDigits : AC :=
  (.seq (.ops [⟨(some 2), none, (.op (.mv (.c (.int .i64 0))))⟩])
  (.seq (.ops [⟨(some 4), none, (.op (.mv (.t 0)))⟩,
    ⟨(some 5), none, (.call (.c (.fn (.func f_math_bits_Len64) [] [])) [(.t 4)])⟩,
    ⟨(some 6), none, (.call (.c (.fn (.func f_internal_strconv_log10Pow2) [] [])) [(.t 5)])⟩,
    ⟨(some 3), none, (.op (.mv (.t 6)))⟩])
  (.seq (.ops [⟨(some 7), none, (.op (.mv (.t 3)))⟩,
    ⟨(some 8), none, (.op (.mv (.t 0)))⟩,
    ⟨(some 9), none, (.op (.mv (.t 3)))⟩,
    ⟨(some 10), none, (.op (.iaa 20 1 (.c .unk) (.t 9)))⟩,
    ⟨(some 11), none, (.op (.ld none (.t 10)))⟩,
    ⟨(some 12), none, (.op (.ar .geq (.t 8) (.t 11)))⟩,
    ⟨(some 13), none, (.call (.c (.fn (.func f_internal_strconv_bool2_int) [] [])) [(.t 12)])⟩,
    ⟨(some 14), none, (.op (.ar .add (.t 7) (.t 13)))⟩,
    ⟨(some 2), none, (.op (.mv (.t 14)))⟩])
  .ret)))
def ka_internal_strconv_numDigits : AFn := ⟨kc_internal_strconv_numDigits, 15, [.t 2], .keep, [], none⟩

def l_kinternal_strconv_formatBase10_0 : AC :=
  (.seq (.seq (.ops [⟨(some 19), none, (.op (.mv (.t 4)))⟩,
    ⟨(some 20), none, (.op (.ar .geq (.t 19) (.c (.int .i64 8))))⟩])
  (.cond (.t 20)
    .skip
    (.exit 0)))
  (.block 1 (.seq (.ops [⟨(some 21), none, (.op (.mv (.t 1)))⟩,
    ⟨(some 22), none, (.op (.ar .rem (.t 21) (.c (.int .u64 100000000))))⟩,
    ⟨(some 23), none, (.op (.cvi .u32 (.t 22)))⟩,
    ⟨(some 5), none, (.op (.mv (.t 23)))⟩])
  (.seq (.ops [⟨(some 24), none, (.op (.mv (.t 1)))⟩,
    ⟨(some 25), none, (.op (.ar .quo (.t 24) (.c (.int .u64 100000000))))⟩,
    ⟨(some 1), none, (.op (.mv (.t 25)))⟩])
  (.seq (.ops [⟨(some 26), none, (.op (.mv (.t 5)))⟩,
    ⟨(some 27), none, (.op (.ar .quo (.t 26) (.c (.int .u32 10000))))⟩,
    ⟨(some 28), none, (.op (.mv (.t 5)))⟩,
    ⟨(some 29), none, (.op (.ar .rem (.t 28) (.c (.int .u32 10000))))⟩,
    ⟨(some 6), none, (.op (.mv (.t 27)))⟩,
    ⟨(some 7), none, (.op (.mv (.t 29)))⟩])
  (.seq (.ops [⟨(some 30), none, (.op (.mv (.t 7)))⟩,
    ⟨(some 31), none, (.op (.ar .quo (.t 30) (.c (.int .u32 100))))⟩,
    ⟨(some 32), none, (.op (.ar .mul (.t 31) (.c (.int .u32 2))))⟩,
    ⟨(some 33), none, (.op (.mv (.t 7)))⟩,
    ⟨(some 34), none, (.op (.ar .rem (.t 33) (.c (.int .u32 100))))⟩,
    ⟨(some 35), none, (.op (.ar .mul (.t 34) (.c (.int .u32 2))))⟩,
    ⟨(some 8), none, (.op (.mv (.t 32)))⟩,
    ⟨(some 9), none, (.op (.mv (.t 35)))⟩])
  (.seq (.ops [⟨(some 36), none, (.op (.mv (.t 6)))⟩,
    ⟨(some 37), none, (.op (.ar .quo (.t 36) (.c (.int .u32 100))))⟩,
    ⟨(some 38), none, (.op (.ar .mul (.t 37) (.c (.int .u32 2))))⟩,
    ⟨(some 39), none, (.op (.mv (.t 6)))⟩,
    ⟨(some 40), none, (.op (.ar .rem (.t 39) (.c (.int .u32 100))))⟩,
    ⟨(some 41), none, (.op (.ar .mul (.t 40) (.c (.int .u32 2))))⟩,
    ⟨(some 10), none, (.op (.mv (.t 38)))⟩,
    ⟨(some 11), none, (.op (.mv (.t 41)))⟩])
  (.seq (.dops false [] [] [(⟨(some 42), none, (.op (.mv (.t 0)))⟩, .pure),
    (⟨(some 43), none, (.op (.mv (.t 4)))⟩, .pure),
    (⟨(some 44), none, (.op (.ar .sub (.t 43) (.c (.int .i64 1))))⟩, .pure),
    (⟨(some 45), none, (.op (.mv (.t 0)))⟩, .pure),
    (⟨(some 46), none, (.op (.mv (.t 4)))⟩, .pure),
    (⟨(some 47), none, (.op (.ar .sub (.t 46) (.c (.int .i64 2))))⟩, .pure),
    (⟨(some 48), none, (.op (.mv (.t 9)))⟩, .pure),
    (⟨(some 49), none, (.op (.ar .add (.t 48) (.c (.int .u32 1))))⟩, .pure),
    (⟨(some 50), none, (.op (.ixs (.c (.str [48, 48, 48, 49, 48, 50, 48, 51, 48, 52, 48, 53, 48, 54, 48, 55, 48, 56, 48, 57, 49, 48, 49, 49, 49, 50, 49, 51, 49, 52, 49, 53, 49, 54, 49, 55, 49, 56, 49, 57, 50, 48, 50, 49, 50, 50, 50, 51, 50, 52, 50, 53, 50, 54, 50, 55, 50, 56, 50, 57, 51, 48, 51, 49, 51, 50, 51, 51, 51, 52, 51, 53, 51, 54, 51, 55, 51, 56, 51, 57, 52, 48, 52, 49, 52, 50, 52, 51, 52, 52, 52, 53, 52, 54, 52, 55, 52, 56, 52, 57, 53, 48, 53, 49, 53, 50, 53, 51, 53, 52, 53, 53, 53, 54, 53, 55, 53, 56, 53, 57, 54, 48, 54, 49, 54, 50, 54, 51, 54, 52, 54, 53, 54, 54, 54, 55, 54, 56, 54, 57, 55, 48, 55, 49, 55, 50, 55, 51, 55, 52, 55, 53, 55, 54, 55, 55, 55, 56, 55, 57, 56, 48, 56, 49, 56, 50, 56, 51, 56, 52, 56, 53, 56, 54, 56, 55, 56, 56, 56, 57, 57, 48, 57, 49, 57, 50, 57, 51, 57, 52, 57, 53, 57, 54, 57, 55, 57, 56, 57, 57])) (.t 49)))⟩, .pure),
    (⟨(some 51), none, (.op (.mv (.t 9)))⟩, .pure),
    (⟨(some 52), none, (.op (.ixs (.c (.str [48, 48, 48, 49, 48, 50, 48, 51, 48, 52, 48, 53, 48, 54, 48, 55, 48, 56, 48, 57, 49, 48, 49, 49, 49, 50, 49, 51, 49, 52, 49, 53, 49, 54, 49, 55, 49, 56, 49, 57, 50, 48, 50, 49, 50, 50, 50, 51, 50, 52, 50, 53, 50, 54, 50, 55, 50, 56, 50, 57, 51, 48, 51, 49, 51, 50, 51, 51, 51, 52, 51, 53, 51, 54, 51, 55, 51, 56, 51, 57, 52, 48, 52, 49, 52, 50, 52, 51, 52, 52, 52, 53, 52, 54, 52, 55, 52, 56, 52, 57, 53, 48, 53, 49, 53, 50, 53, 51, 53, 52, 53, 53, 53, 54, 53, 55, 53, 56, 53, 57, 54, 48, 54, 49, 54, 50, 54, 51, 54, 52, 54, 53, 54, 54, 54, 55, 54, 56, 54, 57, 55, 48, 55, 49, 55, 50, 55, 51, 55, 52, 55, 53, 55, 54, 55, 55, 55, 56, 55, 57, 56, 48, 56, 49, 56, 50, 56, 51, 56, 52, 56, 53, 56, 54, 56, 55, 56, 56, 56, 57, 57, 48, 57, 49, 57, 50, 57, 51, 57, 52, 57, 53, 57, 54, 57, 55, 57, 56, 57, 57])) (.t 51)))⟩, .pure),
    (⟨(some 53), none, (.op (.ias 1 (.t 42) (.t 44)))⟩, .pure),
    (⟨none, none, (.op (.st 1 (.t 53) (.t 50)))⟩, .eff),
    (⟨(some 54), none, (.op (.ias 1 (.t 45) (.t 47)))⟩, .pure),
    (⟨none, none, (.op (.st 1 (.t 54) (.t 52)))⟩, .eff)])
  (.seq (.dops false [] [] [(⟨(some 55), none, (.op (.mv (.t 0)))⟩, .pure),
    (⟨(some 56), none, (.op (.mv (.t 4)))⟩, .pure),
    (⟨(some 57), none, (.op (.ar .sub (.t 56) (.c (.int .i64 3))))⟩, .pure),
    (⟨(some 58), none, (.op (.mv (.t 0)))⟩, .pure),
    (⟨(some 59), none, (.op (.mv (.t 4)))⟩, .pure),
    (⟨(some 60), none, (.op (.ar .sub (.t 59) (.c (.int .i64 4))))⟩, .pure),
    (⟨(some 61), none, (.op (.mv (.t 8)))⟩, .pure),
    (⟨(some 62), none, (.op (.ar .add (.t 61) (.c (.int .u32 1))))⟩, .pure),
    (⟨(some 63), none, (.op (.ixs (.c (.str [48, 48, 48, 49, 48, 50, 48, 51, 48, 52, 48, 53, 48, 54, 48, 55, 48, 56, 48, 57, 49, 48, 49, 49, 49, 50, 49, 51, 49, 52, 49, 53, 49, 54, 49, 55, 49, 56, 49, 57, 50, 48, 50, 49, 50, 50, 50, 51, 50, 52, 50, 53, 50, 54, 50, 55, 50, 56, 50, 57, 51, 48, 51, 49, 51, 50, 51, 51, 51, 52, 51, 53, 51, 54, 51, 55, 51, 56, 51, 57, 52, 48, 52, 49, 52, 50, 52, 51, 52, 52, 52, 53, 52, 54, 52, 55, 52, 56, 52, 57, 53, 48, 53, 49, 53, 50, 53, 51, 53, 52, 53, 53, 53, 54, 53, 55, 53, 56, 53, 57, 54, 48, 54, 49, 54, 50, 54, 51, 54, 52, 54, 53, 54, 54, 54, 55, 54, 56, 54, 57, 55, 48, 55, 49, 55, 50, 55, 51, 55, 52, 55, 53, 55, 54, 55, 55, 55, 56, 55, 57, 56, 48, 56, 49, 56, 50, 56, 51, 56, 52, 56, 53, 56, 54, 56, 55, 56, 56, 56, 57, 57, 48, 57, 49, 57, 50, 57, 51, 57, 52, 57, 53, 57, 54, 57, 55, 57, 56, 57, 57])) (.t 62)))⟩, .pure),
    (⟨(some 64), none, (.op (.mv (.t 8)))⟩, .pure),
    (⟨(some 65), none, (.op (.ixs (.c (.str [48, 48, 48, 49, 48, 50, 48, 51, 48, 52, 48, 53, 48, 54, 48, 55, 48, 56, 48, 57, 49, 48, 49, 49, 49, 50, 49, 51, 49, 52, 49, 53, 49, 54, 49, 55, 49, 56, 49, 57, 50, 48, 50, 49, 50, 50, 50, 51, 50, 52, 50, 53, 50, 54, 50, 55, 50, 56, 50, 57, 51, 48, 51, 49, 51, 50, 51, 51, 51, 52, 51, 53, 51, 54, 51, 55, 51, 56, 51, 57, 52, 48, 52, 49, 52, 50, 52, 51, 52, 52, 52, 53, 52, 54, 52, 55, 52, 56, 52, 57, 53, 48, 53, 49, 53, 50, 53, 51, 53, 52, 53, 53, 53, 54, 53, 55, 53, 56, 53, 57, 54, 48, 54, 49, 54, 50, 54, 51, 54, 52, 54, 53, 54, 54, 54, 55, 54, 56, 54, 57, 55, 48, 55, 49, 55, 50, 55, 51, 55, 52, 55, 53, 55, 54, 55, 55, 55, 56, 55, 57, 56, 48, 56, 49, 56, 50, 56, 51, 56, 52, 56, 53, 56, 54, 56, 55, 56, 56, 56, 57, 57, 48, 57, 49, 57, 50, 57, 51, 57, 52, 57, 53, 57, 54, 57, 55, 57, 56, 57, 57])) (.t 64)))⟩, .pure),
    (⟨(some 66), none, (.op (.ias 1 (.t 55) (.t 57)))⟩, .pure),
    (⟨none, none, (.op (.st 1 (.t 66) (.t 63)))⟩, .eff),
    (⟨(some 67), none, (.op (.ias 1 (.t 58) (.t 60)))⟩, .pure),
    (⟨none, none, (.op (.st 1 (.t 67) (.t 65)))⟩, .eff)])
  (.seq (.dops false [] [] [(⟨(some 68), none, (.op (.mv (.t 0)))⟩, .pure),
    (⟨(some 69), none, (.op (.mv (.t 4)))⟩, .pure),
    (⟨(some 70), none, (.op (.ar .sub (.t 69) (.c (.int .i64 5))))⟩, .pure),
    (⟨(some 71), none, (.op (.mv (.t 0)))⟩, .pure),
    (⟨(some 72), none, (.op (.mv (.t 4)))⟩, .pure),
    (⟨(some 73), none, (.op (.ar .sub (.t 72) (.c (.int .i64 6))))⟩, .pure),
    (⟨(some 74), none, (.op (.mv (.t 11)))⟩, .pure),
    (⟨(some 75), none, (.op (.ar .add (.t 74) (.c (.int .u32 1))))⟩, .pure),
    (⟨(some 76), none, (.op (.ixs (.c (.str [48, 48, 48, 49, 48, 50, 48, 51, 48, 52, 48, 53, 48, 54, 48, 55, 48, 56, 48, 57, 49, 48, 49, 49, 49, 50, 49, 51, 49, 52, 49, 53, 49, 54, 49, 55, 49, 56, 49, 57, 50, 48, 50, 49, 50, 50, 50, 51, 50, 52, 50, 53, 50, 54, 50, 55, 50, 56, 50, 57, 51, 48, 51, 49, 51, 50, 51, 51, 51, 52, 51, 53, 51, 54, 51, 55, 51, 56, 51, 57, 52, 48, 52, 49, 52, 50, 52, 51, 52, 52, 52, 53, 52, 54, 52, 55, 52, 56, 52, 57, 53, 48, 53, 49, 53, 50, 53, 51, 53, 52, 53, 53, 53, 54, 53, 55, 53, 56, 53, 57, 54, 48, 54, 49, 54, 50, 54, 51, 54, 52, 54, 53, 54, 54, 54, 55, 54, 56, 54, 57, 55, 48, 55, 49, 55, 50, 55, 51, 55, 52, 55, 53, 55, 54, 55, 55, 55, 56, 55, 57, 56, 48, 56, 49, 56, 50, 56, 51, 56, 52, 56, 53, 56, 54, 56, 55, 56, 56, 56, 57, 57, 48, 57, 49, 57, 50, 57, 51, 57, 52, 57, 53, 57, 54, 57, 55, 57, 56, 57, 57])) (.t 75)))⟩, .pure),
    (⟨(some 77), none, (.op (.mv (.t 11)))⟩, .pure),
    (⟨(some 78), none, (.op (.ixs (.c (.str [48, 48, 48, 49, 48, 50, 48, 51, 48, 52, 48, 53, 48, 54, 48, 55, 48, 56, 48, 57, 49, 48, 49, 49, 49, 50, 49, 51, 49, 52, 49, 53, 49, 54, 49, 55, 49, 56, 49, 57, 50, 48, 50, 49, 50, 50, 50, 51, 50, 52, 50, 53, 50, 54, 50, 55, 50, 56, 50, 57, 51, 48, 51, 49, 51, 50, 51, 51, 51, 52, 51, 53, 51, 54, 51, 55, 51, 56, 51, 57, 52, 48, 52, 49, 52, 50, 52, 51, 52, 52, 52, 53, 52, 54, 52, 55, 52, 56, 52, 57, 53, 48, 53, 49, 53, 50, 53, 51, 53, 52, 53, 53, 53, 54, 53, 55, 53, 56, 53, 57, 54, 48, 54, 49, 54, 50, 54, 51, 54, 52, 54, 53, 54, 54, 54, 55, 54, 56, 54, 57, 55, 48, 55, 49, 55, 50, 55, 51, 55, 52, 55, 53, 55, 54, 55, 55, 55, 56, 55, 57, 56, 48, 56, 49, 56, 50, 56, 51, 56, 52, 56, 53, 56, 54, 56, 55, 56, 56, 56, 57, 57, 48, 57, 49, 57, 50, 57, 51, 57, 52, 57, 53, 57, 54, 57, 55, 57, 56, 57, 57])) (.t 77)))⟩, .pure),
    (⟨(some 79), none, (.op (.ias 1 (.t 68) (.t 70)))⟩, .pure),
    (⟨none, none, (.op (.st 1 (.t 79) (.t 76)))⟩, .eff),
    (⟨(some 80), none, (.op (.ias 1 (.t 71) (.t 73)))⟩, .pure),
    (⟨none, none, (.op (.st 1 (.t 80) (.t 78)))⟩, .eff)])
  (.seq (.dops false [] [] [(⟨(some 81), none, (.op (.mv (.t 0)))⟩, .pure),
    (⟨(some 82), none, (.op (.mv (.t 4)))⟩, .pure),
    (⟨(some 83), none, (.op (.ar .sub (.t 82) (.c (.int .i64 7))))⟩, .pure),
    (⟨(some 84), none, (.op (.mv (.t 0)))⟩, .pure),
    (⟨(some 85), none, (.op (.mv (.t 4)))⟩, .pure),
    (⟨(some 86), none, (.op (.ar .sub (.t 85) (.c (.int .i64 8))))⟩, .pure),
    (⟨(some 87), none, (.op (.mv (.t 10)))⟩, .pure),
    (⟨(some 88), none, (.op (.ar .add (.t 87) (.c (.int .u32 1))))⟩, .pure),
    (⟨(some 89), none, (.op (.ixs (.c (.str [48, 48, 48, 49, 48, 50, 48, 51, 48, 52, 48, 53, 48, 54, 48, 55, 48, 56, 48, 57, 49, 48, 49, 49, 49, 50, 49, 51, 49, 52, 49, 53, 49, 54, 49, 55, 49, 56, 49, 57, 50, 48, 50, 49, 50, 50, 50, 51, 50, 52, 50, 53, 50, 54, 50, 55, 50, 56, 50, 57, 51, 48, 51, 49, 51, 50, 51, 51, 51, 52, 51, 53, 51, 54, 51, 55, 51, 56, 51, 57, 52, 48, 52, 49, 52, 50, 52, 51, 52, 52, 52, 53, 52, 54, 52, 55, 52, 56, 52, 57, 53, 48, 53, 49, 53, 50, 53, 51, 53, 52, 53, 53, 53, 54, 53, 55, 53, 56, 53, 57, 54, 48, 54, 49, 54, 50, 54, 51, 54, 52, 54, 53, 54, 54, 54, 55, 54, 56, 54, 57, 55, 48, 55, 49, 55, 50, 55, 51, 55, 52, 55, 53, 55, 54, 55, 55, 55, 56, 55, 57, 56, 48, 56, 49, 56, 50, 56, 51, 56, 52, 56, 53, 56, 54, 56, 55, 56, 56, 56, 57, 57, 48, 57, 49, 57, 50, 57, 51, 57, 52, 57, 53, 57, 54, 57, 55, 57, 56, 57, 57])) (.t 88)))⟩, .pure),
    (⟨(some 90), none, (.op (.mv (.t 10)))⟩, .pure),
    (⟨(some 91), none, (.op (.ixs (.c (.str [48, 48, 48, 49, 48, 50, 48, 51, 48, 52, 48, 53, 48, 54, 48, 55, 48, 56, 48, 57, 49, 48, 49, 49, 49, 50, 49, 51, 49, 52, 49, 53, 49, 54, 49, 55, 49, 56, 49, 57, 50, 48, 50, 49, 50, 50, 50, 51, 50, 52, 50, 53, 50, 54, 50, 55, 50, 56, 50, 57, 51, 48, 51, 49, 51, 50, 51, 51, 51, 52, 51, 53, 51, 54, 51, 55, 51, 56, 51, 57, 52, 48, 52, 49, 52, 50, 52, 51, 52, 52, 52, 53, 52, 54, 52, 55, 52, 56, 52, 57, 53, 48, 53, 49, 53, 50, 53, 51, 53, 52, 53, 53, 53, 54, 53, 55, 53, 56, 53, 57, 54, 48, 54, 49, 54, 50, 54, 51, 54, 52, 54, 53, 54, 54, 54, 55, 54, 56, 54, 57, 55, 48, 55, 49, 55, 50, 55, 51, 55, 52, 55, 53, 55, 54, 55, 55, 55, 56, 55, 57, 56, 48, 56, 49, 56, 50, 56, 51, 56, 52, 56, 53, 56, 54, 56, 55, 56, 56, 56, 57, 57, 48, 57, 49, 57, 50, 57, 51, 57, 52, 57, 53, 57, 54, 57, 55, 57, 56, 57, 57])) (.t 90)))⟩, .pure),
    (⟨(some 92), none, (.op (.ias 1 (.t 81) (.t 83)))⟩, .pure),
    (⟨none, none, (.op (.st 1 (.t 92) (.t 89)))⟩, .eff),
    (⟨(some 93), none, (.op (.ias 1 (.t 84) (.t 86)))⟩, .pure),
    (⟨none, none, (.op (.st 1 (.t 93) (.t 91)))⟩, .eff)])
  (.ops [⟨(some 94), none, (.op (.mv (.t 4)))⟩,
    ⟨(some 95), none, (.op (.ar .sub (.t 94) (.c (.int .i64 8))))⟩,
    ⟨(some 4), none, (.op (.mv (.t 95)))⟩]))))))))))))

def kc_internal_strconv_formatBase10 : AC :=
  (.seq (.ops [⟨(some 17), none, (.op (.mv (.t 0)))⟩,
    ⟨(some 18), none, (.op (.len .sl (.t 17)))⟩,
    ⟨(some 4), none, (.op (.mv (.t 18)))⟩])
  (.seq (.block 0 (.loop ⟨none, [], false⟩ l_kinternal_strconv_formatBase10_0))
  (.seq (.ops [⟨(some 96), none, (.op (.mv (.t 1)))⟩,
    ⟨(some 97), none, (.op (.cvi .u32 (.t 96)))⟩,
    ⟨(some 12), none, (.op (.mv (.t 97)))⟩])
  (.seq (.seq (.ops [⟨(some 98), none, (.op (.mv (.t 4)))⟩,
    ⟨(some 99), none, (.op (.ar .geq (.t 98) (.c (.int .i64 4))))⟩])
  (.cond (.t 99)
    (.seq (.ops [⟨(some 100), none, (.op (.mv (.t 12)))⟩,
      ⟨(some 101), none, (.op (.ar .rem (.t 100) (.c (.int .u32 10000))))⟩,
      ⟨(some 13), none, (.op (.mv (.t 101)))⟩])
    (.seq (.ops [⟨(some 102), none, (.op (.mv (.t 12)))⟩,
      ⟨(some 103), none, (.op (.ar .quo (.t 102) (.c (.int .u32 10000))))⟩,
      ⟨(some 12), none, (.op (.mv (.t 103)))⟩])
    (.seq (.ops [⟨(some 104), none, (.op (.mv (.t 13)))⟩,
      ⟨(some 105), none, (.op (.ar .quo (.t 104) (.c (.int .u32 100))))⟩,
      ⟨(some 106), none, (.op (.ar .mul (.t 105) (.c (.int .u32 2))))⟩,
      ⟨(some 107), none, (.op (.mv (.t 13)))⟩,
      ⟨(some 108), none, (.op (.ar .rem (.t 107) (.c (.int .u32 100))))⟩,
      ⟨(some 109), none, (.op (.ar .mul (.t 108) (.c (.int .u32 2))))⟩,
      ⟨(some 14), none, (.op (.mv (.t 106)))⟩,
      ⟨(some 15), none, (.op (.mv (.t 109)))⟩])
    (.seq (.dops false [] [] [(⟨(some 110), none, (.op (.mv (.t 0)))⟩, .pure),
      (⟨(some 111), none, (.op (.mv (.t 4)))⟩, .pure),
      (⟨(some 112), none, (.op (.ar .sub (.t 111) (.c (.int .i64 1))))⟩, .pure),
      (⟨(some 113), none, (.op (.mv (.t 0)))⟩, .pure),
      (⟨(some 114), none, (.op (.mv (.t 4)))⟩, .pure),
      (⟨(some 115), none, (.op (.ar .sub (.t 114) (.c (.int .i64 2))))⟩, .pure),
      (⟨(some 116), none, (.op (.mv (.t 15)))⟩, .pure),
      (⟨(some 117), none, (.op (.ar .add (.t 116) (.c (.int .u32 1))))⟩, .pure),
      (⟨(some 118), none, (.op (.ixs (.c (.str [48, 48, 48, 49, 48, 50, 48, 51, 48, 52, 48, 53, 48, 54, 48, 55, 48, 56, 48, 57, 49, 48, 49, 49, 49, 50, 49, 51, 49, 52, 49, 53, 49, 54, 49, 55, 49, 56, 49, 57, 50, 48, 50, 49, 50, 50, 50, 51, 50, 52, 50, 53, 50, 54, 50, 55, 50, 56, 50, 57, 51, 48, 51, 49, 51, 50, 51, 51, 51, 52, 51, 53, 51, 54, 51, 55, 51, 56, 51, 57, 52, 48, 52, 49, 52, 50, 52, 51, 52, 52, 52, 53, 52, 54, 52, 55, 52, 56, 52, 57, 53, 48, 53, 49, 53, 50, 53, 51, 53, 52, 53, 53, 53, 54, 53, 55, 53, 56, 53, 57, 54, 48, 54, 49, 54, 50, 54, 51, 54, 52, 54, 53, 54, 54, 54, 55, 54, 56, 54, 57, 55, 48, 55, 49, 55, 50, 55, 51, 55, 52, 55, 53, 55, 54, 55, 55, 55, 56, 55, 57, 56, 48, 56, 49, 56, 50, 56, 51, 56, 52, 56, 53, 56, 54, 56, 55, 56, 56, 56, 57, 57, 48, 57, 49, 57, 50, 57, 51, 57, 52, 57, 53, 57, 54, 57, 55, 57, 56, 57, 57])) (.t 117)))⟩, .pure),
      (⟨(some 119), none, (.op (.mv (.t 15)))⟩, .pure),
      (⟨(some 120), none, (.op (.ixs (.c (.str [48, 48, 48, 49, 48, 50, 48, 51, 48, 52, 48, 53, 48, 54, 48, 55, 48, 56, 48, 57, 49, 48, 49, 49, 49, 50, 49, 51, 49, 52, 49, 53, 49, 54, 49, 55, 49, 56, 49, 57, 50, 48, 50, 49, 50, 50, 50, 51, 50, 52, 50, 53, 50, 54, 50, 55, 50, 56, 50, 57, 51, 48, 51, 49, 51, 50, 51, 51, 51, 52, 51, 53, 51, 54, 51, 55, 51, 56, 51, 57, 52, 48, 52, 49, 52, 50, 52, 51, 52, 52, 52, 53, 52, 54, 52, 55, 52, 56, 52, 57, 53, 48, 53, 49, 53, 50, 53, 51, 53, 52, 53, 53, 53, 54, 53, 55, 53, 56, 53, 57, 54, 48, 54, 49, 54, 50, 54, 51, 54, 52, 54, 53, 54, 54, 54, 55, 54, 56, 54, 57, 55, 48, 55, 49, 55, 50, 55, 51, 55, 52, 55, 53, 55, 54, 55, 55, 55, 56, 55, 57, 56, 48, 56, 49, 56, 50, 56, 51, 56, 52, 56, 53, 56, 54, 56, 55, 56, 56, 56, 57, 57, 48, 57, 49, 57, 50, 57, 51, 57, 52, 57, 53, 57, 54, 57, 55, 57, 56, 57, 57])) (.t 119)))⟩, .pure),
      (⟨(some 121), none, (.op (.ias 1 (.t 110) (.t 112)))⟩, .pure),
      (⟨none, none, (.op (.st 1 (.t 121) (.t 118)))⟩, .eff),
      (⟨(some 122), none, (.op (.ias 1 (.t 113) (.t 115)))⟩, .pure),
      (⟨none, none, (.op (.st 1 (.t 122) (.t 120)))⟩, .eff)])
    (.seq (.dops false [] [] [(⟨(some 123), none, (.op (.mv (.t 0)))⟩, .pure),
      (⟨(some 124), none, (.op (.mv (.t 4)))⟩, .pure),
      (⟨(some 125), none, (.op (.ar .sub (.t 124) (.c (.int .i64 3))))⟩, .pure),
      (⟨(some 126), none, (.op (.mv (.t 0)))⟩, .pure),
      (⟨(some 127), none, (.op (.mv (.t 4)))⟩, .pure),
      (⟨(some 128), none, (.op (.ar .sub (.t 127) (.c (.int .i64 4))))⟩, .pure),
      (⟨(some 129), none, (.op (.mv (.t 14)))⟩, .pure),
      (⟨(some 130), none, (.op (.ar .add (.t 129) (.c (.int .u32 1))))⟩, .pure),
      (⟨(some 131), none, (.op (.ixs (.c (.str [48, 48, 48, 49, 48, 50, 48, 51, 48, 52, 48, 53, 48, 54, 48, 55, 48, 56, 48, 57, 49, 48, 49, 49, 49, 50, 49, 51, 49, 52, 49, 53, 49, 54, 49, 55, 49, 56, 49, 57, 50, 48, 50, 49, 50, 50, 50, 51, 50, 52, 50, 53, 50, 54, 50, 55, 50, 56, 50, 57, 51, 48, 51, 49, 51, 50, 51, 51, 51, 52, 51, 53, 51, 54, 51, 55, 51, 56, 51, 57, 52, 48, 52, 49, 52, 50, 52, 51, 52, 52, 52, 53, 52, 54, 52, 55, 52, 56, 52, 57, 53, 48, 53, 49, 53, 50, 53, 51, 53, 52, 53, 53, 53, 54, 53, 55, 53, 56, 53, 57, 54, 48, 54, 49, 54, 50, 54, 51, 54, 52, 54, 53, 54, 54, 54, 55, 54, 56, 54, 57, 55, 48, 55, 49, 55, 50, 55, 51, 55, 52, 55, 53, 55, 54, 55, 55, 55, 56, 55, 57, 56, 48, 56, 49, 56, 50, 56, 51, 56, 52, 56, 53, 56, 54, 56, 55, 56, 56, 56, 57, 57, 48, 57, 49, 57, 50, 57, 51, 57, 52, 57, 53, 57, 54, 57, 55, 57, 56, 57, 57])) (.t 130)))⟩, .pure),
      (⟨(some 132), none, (.op (.mv (.t 14)))⟩, .pure),
      (⟨(some 133), none, (.op (.ixs (.c (.str [48, 48, 48, 49, 48, 50, 48, 51, 48, 52, 48, 53, 48, 54, 48, 55, 48, 56, 48, 57, 49, 48, 49, 49, 49, 50, 49, 51, 49, 52, 49, 53, 49, 54, 49, 55, 49, 56, 49, 57, 50, 48, 50, 49, 50, 50, 50, 51, 50, 52, 50, 53, 50, 54, 50, 55, 50, 56, 50, 57, 51, 48, 51, 49, 51, 50, 51, 51, 51, 52, 51, 53, 51, 54, 51, 55, 51, 56, 51, 57, 52, 48, 52, 49, 52, 50, 52, 51, 52, 52, 52, 53, 52, 54, 52, 55, 52, 56, 52, 57, 53, 48, 53, 49, 53, 50, 53, 51, 53, 52, 53, 53, 53, 54, 53, 55, 53, 56, 53, 57, 54, 48, 54, 49, 54, 50, 54, 51, 54, 52, 54, 53, 54, 54, 54, 55, 54, 56, 54, 57, 55, 48, 55, 49, 55, 50, 55, 51, 55, 52, 55, 53, 55, 54, 55, 55, 55, 56, 55, 57, 56, 48, 56, 49, 56, 50, 56, 51, 56, 52, 56, 53, 56, 54, 56, 55, 56, 56, 56, 57, 57, 48, 57, 49, 57, 50, 57, 51, 57, 52, 57, 53, 57, 54, 57, 55, 57, 56, 57, 57])) (.t 132)))⟩, .pure),
      (⟨(some 134), none, (.op (.ias 1 (.t 123) (.t 125)))⟩, .pure),
      (⟨none, none, (.op (.st 1 (.t 134) (.t 131)))⟩, .eff),
      (⟨(some 135), none, (.op (.ias 1 (.t 126) (.t 128)))⟩, .pure),
      (⟨none, none, (.op (.st 1 (.t 135) (.t 133)))⟩, .eff)])
    (.ops [⟨(some 136), none, (.op (.mv (.t 4)))⟩,
      ⟨(some 137), none, (.op (.ar .sub (.t 136) (.c (.int .i64 4))))⟩,
      ⟨(some 4), none, (.op (.mv (.t 137)))⟩]))))))
    .skip))
  (.seq (.seq (.ops [⟨(some 138), none, (.op (.mv (.t 4)))⟩,
    ⟨(some 139), none, (.op (.ar .geq (.t 138) (.c (.int .i64 2))))⟩])
  (.cond (.t 139)
    (.seq (.ops [⟨(some 140), none, (.op (.mv (.t 12)))⟩,
      ⟨(some 141), none, (.op (.ar .rem (.t 140) (.c (.int .u32 100))))⟩,
      ⟨(some 142), none, (.op (.ar .mul (.t 141) (.c (.int .u32 2))))⟩,
      ⟨(some 16), none, (.op (.mv (.t 142)))⟩])
    (.seq (.ops [⟨(some 143), none, (.op (.mv (.t 12)))⟩,
      ⟨(some 144), none, (.op (.ar .quo (.t 143) (.c (.int .u32 100))))⟩,
      ⟨(some 12), none, (.op (.mv (.t 144)))⟩])
    (.seq (.dops false [] [] [(⟨(some 145), none, (.op (.mv (.t 0)))⟩, .pure),
      (⟨(some 146), none, (.op (.mv (.t 4)))⟩, .pure),
      (⟨(some 147), none, (.op (.ar .sub (.t 146) (.c (.int .i64 1))))⟩, .pure),
      (⟨(some 148), none, (.op (.mv (.t 0)))⟩, .pure),
      (⟨(some 149), none, (.op (.mv (.t 4)))⟩, .pure),
      (⟨(some 150), none, (.op (.ar .sub (.t 149) (.c (.int .i64 2))))⟩, .pure),
      (⟨(some 151), none, (.op (.mv (.t 16)))⟩, .pure),
      (⟨(some 152), none, (.op (.ar .add (.t 151) (.c (.int .u32 1))))⟩, .pure),
      (⟨(some 153), none, (.op (.ixs (.c (.str [48, 48, 48, 49, 48, 50, 48, 51, 48, 52, 48, 53, 48, 54, 48, 55, 48, 56, 48, 57, 49, 48, 49, 49, 49, 50, 49, 51, 49, 52, 49, 53, 49, 54, 49, 55, 49, 56, 49, 57, 50, 48, 50, 49, 50, 50, 50, 51, 50, 52, 50, 53, 50, 54, 50, 55, 50, 56, 50, 57, 51, 48, 51, 49, 51, 50, 51, 51, 51, 52, 51, 53, 51, 54, 51, 55, 51, 56, 51, 57, 52, 48, 52, 49, 52, 50, 52, 51, 52, 52, 52, 53, 52, 54, 52, 55, 52, 56, 52, 57, 53, 48, 53, 49, 53, 50, 53, 51, 53, 52, 53, 53, 53, 54, 53, 55, 53, 56, 53, 57, 54, 48, 54, 49, 54, 50, 54, 51, 54, 52, 54, 53, 54, 54, 54, 55, 54, 56, 54, 57, 55, 48, 55, 49, 55, 50, 55, 51, 55, 52, 55, 53, 55, 54, 55, 55, 55, 56, 55, 57, 56, 48, 56, 49, 56, 50, 56, 51, 56, 52, 56, 53, 56, 54, 56, 55, 56, 56, 56, 57, 57, 48, 57, 49, 57, 50, 57, 51, 57, 52, 57, 53, 57, 54, 57, 55, 57, 56, 57, 57])) (.t 152)))⟩, .pure),
      (⟨(some 154), none, (.op (.mv (.t 16)))⟩, .pure),
      (⟨(some 155), none, (.op (.ixs (.c (.str [48, 48, 48, 49, 48, 50, 48, 51, 48, 52, 48, 53, 48, 54, 48, 55, 48, 56, 48, 57, 49, 48, 49, 49, 49, 50, 49, 51, 49, 52, 49, 53, 49, 54, 49, 55, 49, 56, 49, 57, 50, 48, 50, 49, 50, 50, 50, 51, 50, 52, 50, 53, 50, 54, 50, 55, 50, 56, 50, 57, 51, 48, 51, 49, 51, 50, 51, 51, 51, 52, 51, 53, 51, 54, 51, 55, 51, 56, 51, 57, 52, 48, 52, 49, 52, 50, 52, 51, 52, 52, 52, 53, 52, 54, 52, 55, 52, 56, 52, 57, 53, 48, 53, 49, 53, 50, 53, 51, 53, 52, 53, 53, 53, 54, 53, 55, 53, 56, 53, 57, 54, 48, 54, 49, 54, 50, 54, 51, 54, 52, 54, 53, 54, 54, 54, 55, 54, 56, 54, 57, 55, 48, 55, 49, 55, 50, 55, 51, 55, 52, 55, 53, 55, 54, 55, 55, 55, 56, 55, 57, 56, 48, 56, 49, 56, 50, 56, 51, 56, 52, 56, 53, 56, 54, 56, 55, 56, 56, 56, 57, 57, 48, 57, 49, 57, 50, 57, 51, 57, 52, 57, 53, 57, 54, 57, 55, 57, 56, 57, 57])) (.t 154)))⟩, .pure),
      (⟨(some 156), none, (.op (.ias 1 (.t 145) (.t 147)))⟩, .pure),
      (⟨none, none, (.op (.st 1 (.t 156) (.t 153)))⟩, .eff),
      (⟨(some 157), none, (.op (.ias 1 (.t 148) (.t 150)))⟩, .pure),
      (⟨none, none, (.op (.st 1 (.t 157) (.t 155)))⟩, .eff)])
    (.ops [⟨(some 158), none, (.op (.mv (.t 4)))⟩,
      ⟨(some 159), none, (.op (.ar .sub (.t 158) (.c (.int .i64 2))))⟩,
      ⟨(some 4), none, (.op (.mv (.t 159)))⟩]))))
    .skip))
  (.seq (.ops [⟨(some 160), none, (.op (.mv (.t 4)))⟩,
    ⟨(some 161), none, (.op (.ar .gtr (.t 160) (.c (.int .i64 0))))⟩])
  (.cond (.t 161)
    (.ops [⟨(some 162), none, (.op (.mv (.t 0)))⟩,
      ⟨(some 163), none, (.op (.mv (.t 12)))⟩,
      ⟨(some 164), none, (.op (.ar .add (.c (.int .u32 48)) (.t 163)))⟩,
      ⟨(some 165), none, (.op (.cvi .u8 (.t 164)))⟩,
      ⟨(some 166), none, (.op (.ias 1 (.t 162) (.c (.int .i64 0))))⟩,
      ⟨none, none, (.op (.st 1 (.t 166) (.t 165)))⟩])
    .skip)))))))
def ka_internal_strconv_formatBase10 : AFn := ⟨kc_internal_strconv_formatBase10, 167, [], .keep, [], none⟩

def l_kinternal_strconv_formatBits_0 : AC :=
  (.seq (.seq (.ops [⟨(some 44), none, (.op (.mv (.t 1)))⟩,
    ⟨(some 45), none, (.op (.mv (.t 15)))⟩,
    ⟨(some 46), none, (.op (.ar .geq (.t 44) (.t 45)))⟩])
  (.cond (.t 46)
    .skip
    (.exit 0)))
  (.block 1 (.seq (.ops [⟨(some 47), none, (.op (.mv (.t 13)))⟩,
    ⟨(some 48), none, (.op (.ar .sub (.t 47) (.c (.int .i64 1))))⟩,
    ⟨(some 13), none, (.op (.mv (.t 48)))⟩])
  (.seq (.ops [⟨(some 49), none, (.op (.mv (.t 13)))⟩,
    ⟨(some 50), none, (.op (.mv (.t 1)))⟩,
    ⟨(some 51), none, (.op (.mv (.t 16)))⟩,
    ⟨(some 52), none, (.op (.ar .and (.t 50) (.t 51)))⟩,
    ⟨(some 53), none, (.op (.ixs (.c (.str [48, 49, 50, 51, 52, 53, 54, 55, 56, 57, 97, 98, 99, 100, 101, 102, 103, 104, 105, 106, 107, 108, 109, 110, 111, 112, 113, 114, 115, 116, 117, 118, 119, 120, 121, 122])) (.t 52)))⟩,
    ⟨(some 54), none, (.op (.iaa 65 1 (.t 12) (.t 49)))⟩,
    ⟨none, none, (.op (.st 1 (.t 54) (.t 53)))⟩])
  (.ops [⟨(some 55), none, (.op (.mv (.t 1)))⟩,
    ⟨(some 56), none, (.op (.mv (.t 14)))⟩,
    ⟨(some 57), none, (.op (.sh .shr (.t 55) (.t 56)))⟩,
    ⟨(some 1), none, (.op (.mv (.t 57)))⟩])))))

def l_kinternal_strconv_formatBits_1 : AC :=
  (.seq (.seq (.ops [⟨(some 66), none, (.op (.mv (.t 1)))⟩,
    ⟨(some 67), none, (.op (.mv (.t 17)))⟩,
    ⟨(some 68), none, (.op (.ar .geq (.t 66) (.t 67)))⟩])
  (.cond (.t 68)
    .skip
    (.exit 2)))
  (.block 3 (.seq (.ops [⟨(some 69), none, (.op (.mv (.t 13)))⟩,
    ⟨(some 70), none, (.op (.ar .sub (.t 69) (.c (.int .i64 1))))⟩,
    ⟨(some 13), none, (.op (.mv (.t 70)))⟩])
  (.seq (.ops [⟨(some 71), none, (.op (.mv (.t 1)))⟩,
    ⟨(some 72), none, (.op (.mv (.t 17)))⟩,
    ⟨(some 73), none, (.op (.ar .quo (.t 71) (.t 72)))⟩,
    ⟨(some 18), none, (.op (.mv (.t 73)))⟩])
  (.seq (.ops [⟨(some 74), none, (.op (.mv (.t 13)))⟩,
    ⟨(some 75), none, (.op (.mv (.t 1)))⟩,
    ⟨(some 76), none, (.op (.mv (.t 18)))⟩,
    ⟨(some 77), none, (.op (.mv (.t 17)))⟩,
    ⟨(some 78), none, (.op (.ar .mul (.t 76) (.t 77)))⟩,
    ⟨(some 79), none, (.op (.ar .sub (.t 75) (.t 78)))⟩,
    ⟨(some 80), none, (.op (.ixs (.c (.str [48, 49, 50, 51, 52, 53, 54, 55, 56, 57, 97, 98, 99, 100, 101, 102, 103, 104, 105, 106, 107, 108, 109, 110, 111, 112, 113, 114, 115, 116, 117, 118, 119, 120, 121, 122])) (.t 79)))⟩,
    ⟨(some 81), none, (.op (.iaa 65 1 (.t 12) (.t 74)))⟩,
    ⟨none, none, (.op (.st 1 (.t 81) (.t 80)))⟩])
  (.ops [⟨(some 82), none, (.op (.mv (.t 18)))⟩,
    ⟨(some 1), none, (.op (.mv (.t 82)))⟩]))))))

def kc_internal_strconv_formatBits : AC :=
  (.seq (.ops [⟨(some 10), none, (.op (.mv (.c (.slice .nil 1 []))))⟩,
    ⟨(some 11), none, (.op (.mv (.c (.str []))))⟩])
  (.seq (.seq (.ops [⟨(some 19), none, (.op (.mv (.t 2)))⟩,
    ⟨(some 20), none, (.op (.ar .lss (.t 19) (.c (.int .i64 2))))⟩,
    ⟨(some 21), none, (.op (.mv (.t 20)))⟩,
    ⟨(some 22), (some (21, false)), (.op (.mv (.t 2)))⟩,
    ⟨(some 23), (some (21, false)), (.op (.ar .eql (.t 22) (.c (.int .i64 10))))⟩,
    ⟨(some 24), none, (.op (.pk (.t 21) (.c (.bool true)) (.t 23)))⟩,
    ⟨(some 25), none, (.op (.mv (.t 24)))⟩,
    ⟨(some 26), (some (25, false)), (.op (.mv (.t 2)))⟩,
    ⟨(some 27), (some (25, false)), (.op (.ar .gtr (.t 26) (.c (.int .i64 36))))⟩,
    ⟨(some 28), none, (.op (.pk (.t 25) (.c (.bool true)) (.t 27)))⟩])
  (.cond (.t 28)
    (.ops [⟨(some 29), none, (.op (.mi t_string (.c (.str [115, 116, 114, 99, 111, 110, 118, 58, 32, 105, 108, 108, 101, 103, 97, 108, 32, 65, 112, 112, 101, 110, 100, 73, 110, 116, 47, 70, 111, 114, 109, 97, 116, 73, 110, 116, 32, 98, 97, 115, 101]))))⟩,
      ⟨none, none, (.panic (.t 29))⟩])
    .skip))
  (.seq (.ops [⟨(some 12), none, (.op (.nw [(.int .u8 0), (.int .u8 0), (.int .u8 0), (.int .u8 0), (.int .u8 0), (.int .u8 0), (.int .u8 0), (.int .u8 0), (.int .u8 0), (.int .u8 0), (.int .u8 0), (.int .u8 0), (.int .u8 0), (.int .u8 0), (.int .u8 0), (.int .u8 0), (.int .u8 0), (.int .u8 0), (.int .u8 0), (.int .u8 0), (.int .u8 0), (.int .u8 0), (.int .u8 0), (.int .u8 0), (.int .u8 0), (.int .u8 0), (.int .u8 0), (.int .u8 0), (.int .u8 0), (.int .u8 0), (.int .u8 0), (.int .u8 0), (.int .u8 0), (.int .u8 0), (.int .u8 0), (.int .u8 0), (.int .u8 0), (.int .u8 0), (.int .u8 0), (.int .u8 0), (.int .u8 0), (.int .u8 0), (.int .u8 0), (.int .u8 0), (.int .u8 0), (.int .u8 0), (.int .u8 0), (.int .u8 0), (.int .u8 0), (.int .u8 0), (.int .u8 0), (.int .u8 0), (.int .u8 0), (.int .u8 0), (.int .u8 0), (.int .u8 0), (.int .u8 0), (.int .u8 0), (.int .u8 0), (.int .u8 0), (.int .u8 0), (.int .u8 0), (.int .u8 0), (.int .u8 0), (.int .u8 0)] t_65_uint8))⟩])
  (.seq (.ops [⟨(some 13), none, (.op (.mv (.c (.int .i64 65))))⟩])
  (.seq (.seq (.ops [⟨(some 30), none, (.op (.mv (.t 3)))⟩])
  (.cond (.t 30)
    (.ops [⟨(some 31), none, (.op (.mv (.t 1)))⟩,
      ⟨(some 32), none, (.op (.un .neg (.t 31)))⟩,
      ⟨(some 1), none, (.op (.mv (.t 32)))⟩])
    .skip))
  (.seq (.seq (.ops [⟨(some 33), none, (.op (.mv (.t 2)))⟩,
    ⟨(some 34), none, (.call (.c (.fn (.func f_internal_strconv_isPowerOfTwo) [] [])) [(.t 33)])⟩])
  (.cond (.t 34)
    (.seq (.ops [⟨(some 35), none, (.op (.mv (.t 2)))⟩,
      ⟨(some 36), none, (.op (.cvi .u64 (.t 35)))⟩,
      ⟨(some 37), none, (.call (.c (.fn (.func f_math_bits_TrailingZeros) [] [])) [(.t 36)])⟩,
      ⟨(some 38), none, (.op (.cvi .u64 (.t 37)))⟩,
      ⟨(some 14), none, (.op (.mv (.t 38)))⟩])
    (.seq (.ops [⟨(some 39), none, (.op (.mv (.t 2)))⟩,
      ⟨(some 40), none, (.op (.cvi .u64 (.t 39)))⟩,
      ⟨(some 15), none, (.op (.mv (.t 40)))⟩])
    (.seq (.ops [⟨(some 41), none, (.op (.mv (.t 2)))⟩,
      ⟨(some 42), none, (.op (.cvi .u64 (.t 41)))⟩,
      ⟨(some 43), none, (.op (.ar .sub (.t 42) (.c (.int .u64 1))))⟩,
      ⟨(some 16), none, (.op (.mv (.t 43)))⟩])
    (.seq (.block 0 (.loop ⟨none, [], false⟩ l_kinternal_strconv_formatBits_0))
    (.seq (.ops [⟨(some 58), none, (.op (.mv (.t 13)))⟩,
      ⟨(some 59), none, (.op (.ar .sub (.t 58) (.c (.int .i64 1))))⟩,
      ⟨(some 13), none, (.op (.mv (.t 59)))⟩])
    (.ops [⟨(some 60), none, (.op (.mv (.t 13)))⟩,
      ⟨(some 61), none, (.op (.mv (.t 1)))⟩,
      ⟨(some 62), none, (.op (.ixs (.c (.str [48, 49, 50, 51, 52, 53, 54, 55, 56, 57, 97, 98, 99, 100, 101, 102, 103, 104, 105, 106, 107, 108, 109, 110, 111, 112, 113, 114, 115, 116, 117, 118, 119, 120, 121, 122])) (.t 61)))⟩,
      ⟨(some 63), none, (.op (.iaa 65 1 (.t 12) (.t 60)))⟩,
      ⟨none, none, (.op (.st 1 (.t 63) (.t 62)))⟩]))))))
    (.seq (.ops [⟨(some 64), none, (.op (.mv (.t 2)))⟩,
      ⟨(some 65), none, (.op (.cvi .u64 (.t 64)))⟩,
      ⟨(some 17), none, (.op (.mv (.t 65)))⟩])
    (.seq (.block 2 (.loop ⟨none, [], false⟩ l_kinternal_strconv_formatBits_1))
    (.seq (.ops [⟨(some 83), none, (.op (.mv (.t 13)))⟩,
      ⟨(some 84), none, (.op (.ar .sub (.t 83) (.c (.int .i64 1))))⟩,
      ⟨(some 13), none, (.op (.mv (.t 84)))⟩])
    (.ops [⟨(some 85), none, (.op (.mv (.t 13)))⟩,
      ⟨(some 86), none, (.op (.mv (.t 1)))⟩,
      ⟨(some 87), none, (.op (.ixs (.c (.str [48, 49, 50, 51, 52, 53, 54, 55, 56, 57, 97, 98, 99, 100, 101, 102, 103, 104, 105, 106, 107, 108, 109, 110, 111, 112, 113, 114, 115, 116, 117, 118, 119, 120, 121, 122])) (.t 86)))⟩,
      ⟨(some 88), none, (.op (.iaa 65 1 (.t 12) (.t 85)))⟩,
      ⟨none, none, (.op (.st 1 (.t 88) (.t 87)))⟩]))))))
  (.seq (.seq (.ops [⟨(some 89), none, (.op (.mv (.t 3)))⟩])
  (.cond (.t 89)
    (.seq (.ops [⟨(some 90), none, (.op (.mv (.t 13)))⟩,
      ⟨(some 91), none, (.op (.ar .sub (.t 90) (.c (.int .i64 1))))⟩,
      ⟨(some 13), none, (.op (.mv (.t 91)))⟩])
    (.ops [⟨(some 92), none, (.op (.mv (.t 13)))⟩,
      ⟨(some 93), none, (.op (.iaa 65 1 (.t 12) (.t 92)))⟩,
      ⟨none, none, (.op (.st 1 (.t 93) (.c (.int .u8 45))))⟩]))
    .skip))
  (.seq (.seq (.ops [⟨(some 94), none, (.op (.mv (.t 4)))⟩])
  (.cond (.t 94)
    (.seq (.ops [⟨(some 95), none, (.op (.mv (.t 0)))⟩,
      ⟨(some 96), none, (.op (.mv (.t 13)))⟩,
      ⟨(some 97), none, (.op (.sla 65 1 (.t 12) (some (.t 96)) none))⟩,
      ⟨(some 98), none, (.op (.ap false t_uint8 1 1 false (.t 95) (.t 97)))⟩,
      ⟨(some 10), none, (.op (.mv (.t 98)))⟩])
    .ret)
    .skip))
  (.seq (.ops [⟨(some 99), none, (.op (.mv (.t 13)))⟩,
    ⟨(some 100), none, (.op (.sla 65 1 (.t 12) (some (.t 99)) none))⟩,
    ⟨(some 101), none, (.op (.cvbs (.t 100)))⟩,
    ⟨(some 11), none, (.op (.mv (.t 101)))⟩])
  .ret)))))))))
def ka_internal_strconv_formatBits : AFn := ⟨kc_internal_strconv_formatBits, 102, [.t 10, .t 11], .keep, [], none⟩

def kc_internal_strconv_lower : AC :=
  (.seq (.ops [⟨(some 2), none, (.op (.mv (.c (.int .u8 0))))⟩])
  (.seq (.ops [⟨(some 3), none, (.op (.mv (.t 0)))⟩,
    ⟨(some 4), none, (.op (.ar .or (.t 3) (.c (.int .u8 32))))⟩,
    ⟨(some 2), none, (.op (.mv (.t 4)))⟩])
  .ret))
def ka_internal_strconv_lower : AFn := ⟨kc_internal_strconv_lower, 5, [.t 2], .keep, [], none⟩

def l_kinternal_strconv_underscoreOK_0 : AC :=
  (.seq (.seq (.ops [⟨(some 51), none, (.op (.mv (.t 4)))⟩,
    ⟨(some 52), none, (.op (.mv (.t 0)))⟩,
    ⟨(some 53), none, (.op (.len .str (.t 52)))⟩,
    ⟨(some 54), none, (.op (.ar .lss (.t 51) (.t 53)))⟩])
  (.cond (.t 54)
    .skip
    (.exit 0)))
  (.seq (.block 1 (.seq (.seq (.ops [⟨(some 57), none, (.op (.mv (.t 0)))⟩,
    ⟨(some 58), none, (.op (.mv (.t 4)))⟩,
    ⟨(some 59), none, (.op (.ixs (.t 57) (.t 58)))⟩,
    ⟨(some 60), none, (.op (.ar .leq (.c (.int .u8 48)) (.t 59)))⟩,
    ⟨(some 61), none, (.op (.mv (.t 60)))⟩,
    ⟨(some 62), (some (61, true)), (.op (.mv (.t 0)))⟩,
    ⟨(some 63), (some (61, true)), (.op (.mv (.t 4)))⟩,
    ⟨(some 64), (some (61, true)), (.op (.ixs (.t 62) (.t 63)))⟩,
    ⟨(some 65), (some (61, true)), (.op (.ar .leq (.t 64) (.c (.int .u8 57))))⟩,
    ⟨(some 66), none, (.op (.pk (.t 61) (.t 65) (.c (.bool false))))⟩,
    ⟨(some 67), none, (.op (.mv (.t 66)))⟩,
    ⟨(some 68), (some (67, false)), (.op (.mv (.t 5)))⟩,
    ⟨(some 69), (some (67, false)), (.op (.mv (.t 68)))⟩,
    ⟨(some 70), (some (69, true)), (.op (.mv (.t 0)))⟩,
    ⟨(some 71), (some (69, true)), (.op (.mv (.t 4)))⟩,
    ⟨(some 72), (some (69, true)), (.op (.ixs (.t 70) (.t 71)))⟩,
    ⟨(some 73), (some (69, true)), (.call (.c (.fn (.func f_internal_strconv_lower) [] [])) [(.t 72)])⟩,
    ⟨(some 74), (some (69, true)), (.op (.ar .leq (.c (.int .u8 97)) (.t 73)))⟩,
    ⟨(some 75), (some (67, false)), (.op (.pk (.t 69) (.t 74) (.c (.bool false))))⟩,
    ⟨(some 76), (some (67, false)), (.op (.mv (.t 75)))⟩,
    ⟨(some 77), (some (76, true)), (.op (.mv (.t 0)))⟩,
    ⟨(some 78), (some (76, true)), (.op (.mv (.t 4)))⟩,
    ⟨(some 79), (some (76, true)), (.op (.ixs (.t 77) (.t 78)))⟩,
    ⟨(some 80), (some (76, true)), (.call (.c (.fn (.func f_internal_strconv_lower) [] [])) [(.t 79)])⟩,
    ⟨(some 81), (some (76, true)), (.op (.ar .leq (.t 80) (.c (.int .u8 102))))⟩,
    ⟨(some 82), (some (67, false)), (.op (.pk (.t 76) (.t 81) (.c (.bool false))))⟩,
    ⟨(some 83), none, (.op (.pk (.t 67) (.c (.bool true)) (.t 82)))⟩])
  (.cond (.t 83)
    (.seq (.ops [⟨(some 3), none, (.op (.mv (.c (.int .i32 48))))⟩])
    (.exit 1))
    .skip))
  (.seq (.seq (.ops [⟨(some 84), none, (.op (.mv (.t 0)))⟩,
    ⟨(some 85), none, (.op (.mv (.t 4)))⟩,
    ⟨(some 86), none, (.op (.ixs (.t 84) (.t 85)))⟩,
    ⟨(some 87), none, (.op (.ar .eql (.t 86) (.c (.int .u8 95))))⟩])
  (.cond (.t 87)
    (.seq (.seq (.ops [⟨(some 88), none, (.op (.mv (.t 3)))⟩,
      ⟨(some 89), none, (.op (.ar .neq (.t 88) (.c (.int .i32 48))))⟩])
    (.cond (.t 89)
      (.seq (.ops [⟨(some 2), none, (.op (.mv (.c (.bool false))))⟩])
      .ret)
      .skip))
    (.seq (.ops [⟨(some 3), none, (.op (.mv (.c (.int .i32 95))))⟩])
    (.exit 1)))
    .skip))
  (.seq (.seq (.ops [⟨(some 90), none, (.op (.mv (.t 3)))⟩,
    ⟨(some 91), none, (.op (.ar .eql (.t 90) (.c (.int .i32 95))))⟩])
  (.cond (.t 91)
    (.seq (.ops [⟨(some 2), none, (.op (.mv (.c (.bool false))))⟩])
    .ret)
    .skip))
  (.ops [⟨(some 3), none, (.op (.mv (.c (.int .i32 33))))⟩])))))
  (.ops [⟨(some 55), none, (.op (.mv (.t 4)))⟩,
    ⟨(some 56), none, (.op (.ar .add (.t 55) (.c (.int .i64 1))))⟩,
    ⟨(some 4), none, (.op (.mv (.t 56)))⟩])))

def kc_internal_strconv_underscoreOK : AC :=
  (.seq (.ops [⟨(some 2), none, (.op (.mv (.c (.bool false))))⟩])
  (.seq (.ops [⟨(some 3), none, (.op (.mv (.c (.int .i32 94))))⟩])
  (.seq (.ops [⟨(some 4), none, (.op (.mv (.c (.int .i64 0))))⟩])
  (.seq (.seq (.ops [⟨(some 6), none, (.op (.mv (.t 0)))⟩,
    ⟨(some 7), none, (.op (.len .str (.t 6)))⟩,
    ⟨(some 8), none, (.op (.ar .geq (.t 7) (.c (.int .i64 1))))⟩,
    ⟨(some 9), none, (.op (.mv (.t 8)))⟩,
    ⟨(some 10), (some (9, true)), (.op (.mv (.t 0)))⟩,
    ⟨(some 11), (some (9, true)), (.op (.ixs (.t 10) (.c (.int .i64 0))))⟩,
    ⟨(some 12), (some (9, true)), (.op (.ar .eql (.t 11) (.c (.int .u8 45))))⟩,
    ⟨(some 13), (some (9, true)), (.op (.mv (.t 12)))⟩,
    ⟨(some 14), (some (13, false)), (.op (.mv (.t 0)))⟩,
    ⟨(some 15), (some (13, false)), (.op (.ixs (.t 14) (.c (.int .i64 0))))⟩,
    ⟨(some 16), (some (13, false)), (.op (.ar .eql (.t 15) (.c (.int .u8 43))))⟩,
    ⟨(some 17), (some (9, true)), (.op (.pk (.t 13) (.c (.bool true)) (.t 16)))⟩,
    ⟨(some 18), none, (.op (.pk (.t 9) (.t 17) (.c (.bool false))))⟩])
  (.cond (.t 18)
    (.ops [⟨(some 19), none, (.op (.mv (.t 0)))⟩,
      ⟨(some 20), none, (.op (.sls (.t 19) (some (.c (.int .i64 1))) none))⟩,
      ⟨(some 0), none, (.op (.mv (.t 20)))⟩])
    .skip))
  (.seq (.ops [⟨(some 5), none, (.op (.mv (.c (.bool false))))⟩])
  (.seq (.seq (.ops [⟨(some 21), none, (.op (.mv (.t 0)))⟩,
    ⟨(some 22), none, (.op (.len .str (.t 21)))⟩,
    ⟨(some 23), none, (.op (.ar .geq (.t 22) (.c (.int .i64 2))))⟩,
    ⟨(some 24), none, (.op (.mv (.t 23)))⟩,
    ⟨(some 25), (some (24, true)), (.op (.mv (.t 0)))⟩,
    ⟨(some 26), (some (24, true)), (.op (.ixs (.t 25) (.c (.int .i64 0))))⟩,
    ⟨(some 27), (some (24, true)), (.op (.ar .eql (.t 26) (.c (.int .u8 48))))⟩,
    ⟨(some 28), none, (.op (.pk (.t 24) (.t 27) (.c (.bool false))))⟩,
    ⟨(some 29), none, (.op (.mv (.t 28)))⟩,
    ⟨(some 30), (some (29, true)), (.op (.mv (.t 0)))⟩,
    ⟨(some 31), (some (29, true)), (.op (.ixs (.t 30) (.c (.int .i64 1))))⟩,
    ⟨(some 32), (some (29, true)), (.call (.c (.fn (.func f_internal_strconv_lower) [] [])) [(.t 31)])⟩,
    ⟨(some 33), (some (29, true)), (.op (.ar .eql (.t 32) (.c (.int .u8 98))))⟩,
    ⟨(some 34), (some (29, true)), (.op (.mv (.t 33)))⟩,
    ⟨(some 35), (some (34, false)), (.op (.mv (.t 0)))⟩,
    ⟨(some 36), (some (34, false)), (.op (.ixs (.t 35) (.c (.int .i64 1))))⟩,
    ⟨(some 37), (some (34, false)), (.call (.c (.fn (.func f_internal_strconv_lower) [] [])) [(.t 36)])⟩,
    ⟨(some 38), (some (34, false)), (.op (.ar .eql (.t 37) (.c (.int .u8 111))))⟩,
    ⟨(some 39), (some (29, true)), (.op (.pk (.t 34) (.c (.bool true)) (.t 38)))⟩,
    ⟨(some 40), (some (29, true)), (.op (.mv (.t 39)))⟩,
    ⟨(some 41), (some (40, false)), (.op (.mv (.t 0)))⟩,
    ⟨(some 42), (some (40, false)), (.op (.ixs (.t 41) (.c (.int .i64 1))))⟩,
    ⟨(some 43), (some (40, false)), (.call (.c (.fn (.func f_internal_strconv_lower) [] [])) [(.t 42)])⟩,
    ⟨(some 44), (some (40, false)), (.op (.ar .eql (.t 43) (.c (.int .u8 120))))⟩,
    ⟨(some 45), (some (29, true)), (.op (.pk (.t 40) (.c (.bool true)) (.t 44)))⟩,
    ⟨(some 46), none, (.op (.pk (.t 29) (.t 45) (.c (.bool false))))⟩])
  (.cond (.t 46)
    (.seq (.ops [⟨(some 4), none, (.op (.mv (.c (.int .i64 2))))⟩])
    (.seq (.ops [⟨(some 3), none, (.op (.mv (.c (.int .i32 48))))⟩])
    (.ops [⟨(some 47), none, (.op (.mv (.t 0)))⟩,
      ⟨(some 48), none, (.op (.ixs (.t 47) (.c (.int .i64 1))))⟩,
      ⟨(some 49), none, (.call (.c (.fn (.func f_internal_strconv_lower) [] [])) [(.t 48)])⟩,
      ⟨(some 50), none, (.op (.ar .eql (.t 49) (.c (.int .u8 120))))⟩,
      ⟨(some 5), none, (.op (.mv (.t 50)))⟩])))
    .skip))
  (.seq (.block 0 (.loop ⟨none, [], false⟩ l_kinternal_strconv_underscoreOK_0))
  (.seq (.ops [⟨(some 92), none, (.op (.mv (.t 3)))⟩,
    ⟨(some 93), none, (.op (.ar .neq (.t 92) (.c (.int .i32 95))))⟩,
    ⟨(some 2), none, (.op (.mv (.t 93)))⟩])
  .ret))))))))
def ka_internal_strconv_underscoreOK : AFn := ⟨kc_internal_strconv_underscoreOK, 94, [.t 2], .keep, [], none⟩

def kc_internal_strconv_log10Pow2 : AC :=
  (.seq (.ops [⟨(some 2), none, (.op (.mv (.c (.int .i64 0))))⟩])
  (.seq (.ops [⟨(some 3), none, (.op (.mv (.t 0)))⟩,
    ⟨(some 4), none, (.op (.ar .mul (.t 3) (.c (.int .i64 78913))))⟩,
    ⟨(some 5), none, (.op (.sh .shr (.t 4) (.c (.int .u64 18))))⟩,
    ⟨(some 2), none, (.op (.mv (.t 5)))⟩])
  .ret))
def ka_internal_strconv_log10Pow2 : AFn := ⟨kc_internal_strconv_log10Pow2, 6, [.t 2], .keep, [], none⟩

def kc_math_bits_Len64 : AC :=
  (.seq (.ops [⟨(some 2), none, (.op (.mv (.c (.int .i64 0))))⟩])
  (.seq (.seq (.ops [⟨(some 3), none, (.op (.mv (.t 0)))⟩,
    ⟨(some 4), none, (.op (.ar .geq (.t 3) (.c (.int .u64 4294967296))))⟩])
  (.cond (.t 4)
    (.seq (.ops [⟨(some 5), none, (.op (.mv (.t 0)))⟩,
      ⟨(some 6), none, (.op (.sh .shr (.t 5) (.c (.int .u64 32))))⟩,
      ⟨(some 0), none, (.op (.mv (.t 6)))⟩])
    (.ops [⟨(some 2), none, (.op (.mv (.c (.int .i64 32))))⟩]))
    .skip))
  (.seq (.seq (.ops [⟨(some 7), none, (.op (.mv (.t 0)))⟩,
    ⟨(some 8), none, (.op (.ar .geq (.t 7) (.c (.int .u64 65536))))⟩])
  (.cond (.t 8)
    (.seq (.ops [⟨(some 9), none, (.op (.mv (.t 0)))⟩,
      ⟨(some 10), none, (.op (.sh .shr (.t 9) (.c (.int .u64 16))))⟩,
      ⟨(some 0), none, (.op (.mv (.t 10)))⟩])
    (.ops [⟨(some 11), none, (.op (.mv (.t 2)))⟩,
      ⟨(some 12), none, (.op (.ar .add (.t 11) (.c (.int .i64 16))))⟩,
      ⟨(some 2), none, (.op (.mv (.t 12)))⟩]))
    .skip))
  (.seq (.seq (.ops [⟨(some 13), none, (.op (.mv (.t 0)))⟩,
    ⟨(some 14), none, (.op (.ar .geq (.t 13) (.c (.int .u64 256))))⟩])
  (.cond (.t 14)
    (.seq (.ops [⟨(some 15), none, (.op (.mv (.t 0)))⟩,
      ⟨(some 16), none, (.op (.sh .shr (.t 15) (.c (.int .u64 8))))⟩,
      ⟨(some 0), none, (.op (.mv (.t 16)))⟩])
    (.ops [⟨(some 17), none, (.op (.mv (.t 2)))⟩,
      ⟨(some 18), none, (.op (.ar .add (.t 17) (.c (.int .i64 8))))⟩,
      ⟨(some 2), none, (.op (.mv (.t 18)))⟩]))
    .skip))
  (.seq (.ops [⟨(some 19), none, (.op (.mv (.t 2)))⟩,
    ⟨(some 20), none, (.op (.mv (.t 0)))⟩,
    ⟨(some 21), none, (.op (.cvi .u8 (.t 20)))⟩,
    ⟨(some 22), none, (.op (.ixs (.c (.str [0, 1, 2, 2, 3, 3, 3, 3, 4, 4, 4, 4, 4, 4, 4, 4, 5, 5, 5, 5, 5, 5, 5, 5, 5, 5, 5, 5, 5, 5, 5, 5, 6, 6, 6, 6, 6, 6, 6, 6, 6, 6, 6, 6, 6, 6, 6, 6, 6, 6, 6, 6, 6, 6, 6, 6, 6, 6, 6, 6, 6, 6, 6, 6, 7, 7, 7, 7, 7, 7, 7, 7, 7, 7, 7, 7, 7, 7, 7, 7, 7, 7, 7, 7, 7, 7, 7, 7, 7, 7, 7, 7, 7, 7, 7, 7, 7, 7, 7, 7, 7, 7, 7, 7, 7, 7, 7, 7, 7, 7, 7, 7, 7, 7, 7, 7, 7, 7, 7, 7, 7, 7, 7, 7, 7, 7, 7, 7, 8, 8, 8, 8, 8, 8, 8, 8, 8, 8, 8, 8, 8, 8, 8, 8, 8, 8, 8, 8, 8, 8, 8, 8, 8, 8, 8, 8, 8, 8, 8, 8, 8, 8, 8, 8, 8, 8, 8, 8, 8, 8, 8, 8, 8, 8, 8, 8, 8, 8, 8, 8, 8, 8, 8, 8, 8, 8, 8, 8, 8, 8, 8, 8, 8, 8, 8, 8, 8, 8, 8, 8, 8, 8, 8, 8, 8, 8, 8, 8, 8, 8, 8, 8, 8, 8, 8, 8, 8, 8, 8, 8, 8, 8, 8, 8, 8, 8, 8, 8, 8, 8, 8, 8, 8, 8, 8, 8, 8, 8, 8, 8, 8, 8, 8, 8, 8, 8, 8, 8, 8, 8, 8, 8, 8, 8, 8, 8])) (.t 21)))⟩,
    ⟨(some 23), none, (.op (.cvi .i64 (.t 22)))⟩,
    ⟨(some 24), none, (.op (.ar .add (.t 19) (.t 23)))⟩,
    ⟨(some 2), none, (.op (.mv (.t 24)))⟩])
  .ret)))))
def ka_math_bits_Len64 : AFn := ⟨kc_math_bits_Len64, 25, [.t 2], .keep, [], none⟩

def kc_internal_strconv_bool2_int : AC :=
  (.seq (.ops [⟨(some 2), none, (.op (.mv (.c (.int .i64 0))))⟩])
  (.seq (.seq (.ops [⟨(some 3), none, (.op (.mv (.t 0)))⟩])
  (.cond (.t 3)
    (.seq (.ops [⟨(some 2), none, (.op (.mv (.c (.int .i64 1))))⟩])
    .ret)
    .skip))
  (.seq (.ops [⟨(some 2), none, (.op (.mv (.c (.int .i64 0))))⟩])
  .ret)))
def ka_internal_strconv_bool2_int : AFn := ⟨kc_internal_strconv_bool2_int, 4, [.t 2], .keep, [], none⟩

def kc_internal_strconv_isPowerOfTwo : AC :=
  (.seq (.ops [⟨(some 2), none, (.op (.mv (.c (.bool false))))⟩])
  (.seq (.ops [⟨(some 3), none, (.op (.mv (.t 0)))⟩,
    ⟨(some 4), none, (.op (.mv (.t 0)))⟩,
    ⟨(some 5), none, (.op (.ar .sub (.t 4) (.c (.int .i64 1))))⟩,
    ⟨(some 6), none, (.op (.ar .and (.t 3) (.t 5)))⟩,
    ⟨(some 7), none, (.op (.ar .eql (.t 6) (.c (.int .i64 0))))⟩,
    ⟨(some 2), none, (.op (.mv (.t 7)))⟩])
  .ret))
def ka_internal_strconv_isPowerOfTwo : AFn := ⟨kc_internal_strconv_isPowerOfTwo, 8, [.t 2], .keep, [], none⟩

def kc_math_bits_TrailingZeros : AC :=
  (.seq (.ops [⟨(some 2), none, (.op (.mv (.c (.int .i64 0))))⟩])
  (.seq (.cond (.c (.bool false))
    (.seq (.ops [⟨(some 3), none, (.op (.mv (.t 0)))⟩,
      ⟨(some 4), none, (.op (.cvi .u32 (.t 3)))⟩,
      ⟨(some 5), none, (.call (.c (.fn (.func f_math_bits_TrailingZeros32) [] [])) [(.t 4)])⟩,
      ⟨(some 2), none, (.op (.mv (.t 5)))⟩])
    .ret)
    .skip)
  (.seq (.ops [⟨(some 6), none, (.op (.mv (.t 0)))⟩,
    ⟨(some 7), none, (.call (.c (.fn (.func f_math_bits_TrailingZeros64) [] [])) [(.t 6)])⟩,
    ⟨(some 2), none, (.op (.mv (.t 7)))⟩])
  .ret)))
def ka_math_bits_TrailingZeros : AFn := ⟨kc_math_bits_TrailingZeros, 8, [.t 2], .keep, [], none⟩

def kc_math_bits_TrailingZeros32 : AC :=
  (.seq (.ops [⟨(some 2), none, (.op (.mv (.c (.int .i64 0))))⟩])
  (.seq (.seq (.ops [⟨(some 3), none, (.op (.mv (.t 0)))⟩,
    ⟨(some 4), none, (.op (.ar .eql (.t 3) (.c (.int .u32 0))))⟩])
  (.cond (.t 4)
    (.seq (.ops [⟨(some 2), none, (.op (.mv (.c (.int .i64 32))))⟩])
    .ret)
    .skip))
  (.seq (.ops [⟨(some 5), none, (.op (.mv (.t 0)))⟩,
    ⟨(some 6), none, (.op (.mv (.t 0)))⟩,
    ⟨(some 7), none, (.op (.un .neg (.t 6)))⟩,
    ⟨(some 8), none, (.op (.ar .and (.t 5) (.t 7)))⟩,
    ⟨(some 9), none, (.op (.ar .mul (.t 8) (.c (.int .u32 125613361))))⟩,
    ⟨(some 10), none, (.op (.sh .shr (.t 9) (.c (.int .u64 27))))⟩,
    ⟨(some 11), none, (.op (.iaa 32 1 (.c .unk) (.t 10)))⟩,
    ⟨(some 12), none, (.op (.ld none (.t 11)))⟩,
    ⟨(some 13), none, (.op (.cvi .i64 (.t 12)))⟩,
    ⟨(some 2), none, (.op (.mv (.t 13)))⟩])
  .ret)))
def ka_math_bits_TrailingZeros32 : AFn := ⟨kc_math_bits_TrailingZeros32, 14, [.t 2], .keep, [], none⟩

def kc_math_bits_TrailingZeros64 : AC :=
  (.seq (.ops [⟨(some 2), none, (.op (.mv (.c (.int .i64 0))))⟩])
  (.seq (.seq (.ops [⟨(some 3), none, (.op (.mv (.t 0)))⟩,
    ⟨(some 4), none, (.op (.ar .eql (.t 3) (.c (.int .u64 0))))⟩])
  (.cond (.t 4)
    (.seq (.ops [⟨(some 2), none, (.op (.mv (.c (.int .i64 64))))⟩])
    .ret)
    .skip))
  (.seq (.ops [⟨(some 5), none, (.op (.mv (.t 0)))⟩,
    ⟨(some 6), none, (.op (.mv (.t 0)))⟩,
    ⟨(some 7), none, (.op (.un .neg (.t 6)))⟩,
    ⟨(some 8), none, (.op (.ar .and (.t 5) (.t 7)))⟩,
    ⟨(some 9), none, (.op (.ar .mul (.t 8) (.c (.int .u64 285870213051353865))))⟩,
    ⟨(some 10), none, (.op (.sh .shr (.t 9) (.c (.int .u64 58))))⟩,
    ⟨(some 11), none, (.op (.iaa 64 1 (.c .unk) (.t 10)))⟩,
    ⟨(some 12), none, (.op (.ld none (.t 11)))⟩,
    ⟨(some 13), none, (.op (.cvi .i64 (.t 12)))⟩,
    ⟨(some 2), none, (.op (.mv (.t 13)))⟩])
  .ret)))
def ka_math_bits_TrailingZeros64 : AFn := ⟨kc_math_bits_TrailingZeros64, 14, [.t 2], .keep, [], none⟩

-- FAIL fn185 gosem_cut_vars
def ktab (f : FuncId) : Option AFn := (bif Nat.blt f 76 then (bif Nat.blt f 39 then (bif Nat.blt f 20 then (bif Nat.blt f 11 then (bif Nat.blt f 6 then (bif Nat.blt f 4 then (bif Nat.blt f 3 then (bif Nat.beq f 2 then some ka_gosem_cut_init else none) else (bif Nat.beq f 3 then some ka_truchmanlaw02_MorphNames else none)) else (bif Nat.blt f 5 then (bif Nat.beq f 4 then some ka_truchmanlaw02_lives else none) else (bif Nat.beq f 5 then some ka_morph_Name else none))) else (bif Nat.blt f 8 then (bif Nat.blt f 7 then (bif Nat.beq f 6 then some ka_truchmanref02_Name else none) else (bif Nat.beq f 7 then some ka_morph_Word else none)) else (bif Nat.blt f 9 then (bif Nat.beq f 8 then some ka_truchmanref02_Word else none) else (bif Nat.blt f 10 then (bif Nat.beq f 9 then some ka_morph_Plain else none) else (bif Nat.beq f 10 then some ka_truchmanref02_Plain else none))))) else (bif Nat.blt f 15 then (bif Nat.blt f 13 then (bif Nat.blt f 12 then (bif Nat.beq f 11 then some ka_morph_Parse else none) else (bif Nat.beq f 12 then some ka_morph_Form else none)) else (bif Nat.blt f 14 then (bif Nat.beq f 13 then some ka_morph_Name_1 else none) else (bif Nat.beq f 14 then some ka_morph_letter else none))) else (bif Nat.blt f 17 then (bif Nat.blt f 16 then (bif Nat.beq f 15 then some ka_morph_all else none) else (bif Nat.beq f 16 then some ka_morph_Name_2 else none)) else (bif Nat.blt f 18 then (bif Nat.beq f 17 then some ka_truchmanref02_Letter else none) else (bif Nat.blt f 19 then (bif Nat.beq f 18 then some ka_morph_Word_1 else none) else (bif Nat.beq f 19 then some ka_truchmanref02_of else none)))))) else (bif Nat.blt f 30 then (bif Nat.blt f 24 then (bif Nat.blt f 22 then (bif Nat.blt f 21 then (bif Nat.beq f 20 then some ka_strings_Split else none) else (bif Nat.beq f 21 then some ka_morph_reader_read else none)) else (bif Nat.blt f 23 then (bif Nat.beq f 22 then some ka_morph_Check else none) else (bif Nat.beq f 23 then some ka_morph_asked else none))) else (bif Nat.blt f 27 then (bif Nat.blt f 25 then (bif Nat.beq f 24 then some ka_morph_language_form else none) else (bif Nat.beq f 25 then some ka_strings_genSplit else none)) else (bif Nat.blt f 28 then (bif Nat.beq f 27 then some ka_morph_kinds else none) else (bif Nat.blt f 29 then (bif Nat.beq f 28 then some ka_morph_demand else none) else (bif Nat.beq f 29 then some ka_strings_SplitN else none))))) else (bif Nat.blt f 34 then (bif Nat.blt f 32 then (bif Nat.blt f 31 then (bif Nat.beq f 30 then some ka_morph_first else none) else (bif Nat.beq f 31 then some ka_morph_checker_vowels else none)) else (bif Nat.blt f 33 then (bif Nat.beq f 32 then some ka_morph_Check_1 else none) else (bif Nat.beq f 33 then some ka_morph_each_api_Trait else none))) else (bif Nat.blt f 36 then (bif Nat.blt f 35 then (bif Nat.beq f 34 then some ka_morph_checker_trait else none) else (bif Nat.beq f 35 then some ka_morph_Check_2 else none)) else (bif Nat.blt f 37 then (bif Nat.beq f 36 then some ka_morph_each_api_Class else none) else (bif Nat.blt f 38 then (bif Nat.beq f 37 then some ka_morph_checker_class else none) else (bif Nat.beq f 38 then some ka_morph_Check_3 else none))))))) else (bif Nat.blt f 57 then (bif Nat.blt f 48 then (bif Nat.blt f 43 then (bif Nat.blt f 41 then (bif Nat.blt f 40 then (bif Nat.beq f 39 then some ka_morph_each_api_Entry else none) else (bif Nat.beq f 40 then some ka_morph_checker_entry else none)) else (bif Nat.blt f 42 then (bif Nat.beq f 41 then some ka_morph_Check_4 else none) else (bif Nat.beq f 42 then some ka_morph_each_api_Spell else none))) else (bif Nat.blt f 45 then (bif Nat.blt f 44 then (bif Nat.beq f 43 then some ka_morph_checker_spell else none) else (bif Nat.beq f 44 then some ka_morph_Check_5 else none)) else (bif Nat.blt f 46 then (bif Nat.beq f 45 then some ka_morph_each_api_Link else none) else (bif Nat.blt f 47 then (bif Nat.beq f 46 then some ka_morph_checker_link else none) else (bif Nat.beq f 47 then some ka_morph_language_slot else none))))) else (bif Nat.blt f 52 then (bif Nat.blt f 50 then (bif Nat.blt f 49 then (bif Nat.beq f 48 then some ka_morph_language_steps else none) else (bif Nat.beq f 49 then some ka_strings_ReplaceAll else none)) else (bif Nat.blt f 51 then (bif Nat.beq f 50 then some ka_strings_explode else none) else (bif Nat.beq f 51 then some ka_strings_Count else none))) else (bif Nat.blt f 54 then (bif Nat.blt f 53 then (bif Nat.beq f 52 then some ka_strings_Index else none) else (bif Nat.beq f 53 then some ka_morph_kinds_1 else none)) else (bif Nat.blt f 55 then (bif Nat.beq f 54 then some ka_morph_text else none) else (bif Nat.blt f 56 then (bif Nat.beq f 55 then some ka_morph_kinds_2 else none) else (bif Nat.beq f 56 then some ka_morph_kinds_3 else none)))))) else (bif Nat.blt f 66 then (bif Nat.blt f 61 then (bif Nat.blt f 59 then (bif Nat.blt f 58 then (bif Nat.beq f 57 then some ka_morph_kinds_4 else none) else (bif Nat.beq f 58 then some ka_morph_number else none)) else (bif Nat.blt f 60 then (bif Nat.beq f 59 then some ka_morph_feats else none) else (bif Nat.beq f 60 then some ka_morph_kinds_5 else none))) else (bif Nat.blt f 63 then (bif Nat.blt f 62 then (bif Nat.beq f 61 then some ka_morph_kinds_6 else none) else (bif Nat.beq f 62 then some ka_morph_kinds_7 else none)) else (bif Nat.blt f 64 then (bif Nat.beq f 63 then some ka_morph_kinds_8 else none) else (bif Nat.blt f 65 then (bif Nat.beq f 64 then some ka_slices_ContainsFunc_api_Trait_api_Trait else none) else (bif Nat.beq f 65 then some ka_morph_checker_trait_1 else none))))) else (bif Nat.blt f 71 then (bif Nat.blt f 68 then (bif Nat.blt f 67 then (bif Nat.beq f 66 then some ka_slices_Contains_string_string else none) else (bif Nat.beq f 67 then some ka_slices_ContainsFunc_api_Class_api_Class else none)) else (bif Nat.blt f 69 then (bif Nat.beq f 68 then some ka_morph_checker_class_1 else none) else (bif Nat.blt f 70 then (bif Nat.beq f 69 then some ka_morph_each_api_Slot else none) else (bif Nat.beq f 70 then some ka_morph_checker_class_2 else none)))) else (bif Nat.blt f 73 then (bif Nat.blt f 72 then (bif Nat.beq f 71 then some ka_morph_short else none) else (bif Nat.beq f 72 then some ka_morph_checker_bundle else none)) else (bif Nat.blt f 74 then (bif Nat.beq f 73 then some ka_morph_classOf else none) else (bif Nat.blt f 75 then (bif Nat.beq f 74 then some ka_slices_ContainsFunc_api_Entry_api_Entry else none) else (bif Nat.beq f 75 then some ka_morph_checker_entry_1 else none)))))))) else (bif Nat.blt f 114 then (bif Nat.blt f 95 then (bif Nat.blt f 85 then (bif Nat.blt f 80 then (bif Nat.blt f 78 then (bif Nat.blt f 77 then (bif Nat.beq f 76 then some ka_slices_ContainsFunc_api_Slot_api_Slot else none) else (bif Nat.beq f 77 then some ka_morph_checker_entry_2 else none)) else (bif Nat.blt f 79 then (bif Nat.beq f 78 then some ka_morph_clash else none) else (bif Nat.beq f 79 then some ka_slices_ContainsFunc_api_Irregular_api_Irregular else none))) else (bif Nat.blt f 82 then (bif Nat.blt f 81 then (bif Nat.beq f 80 then some ka_morph_checker_entry_3 else none) else (bif Nat.beq f 81 then some ka_morph_symbol else none)) else (bif Nat.blt f 83 then (bif Nat.beq f 82 then some ka_morph_around else none) else (bif Nat.blt f 84 then (bif Nat.beq f 83 then some ka_morph_language_underlying else none) else (bif Nat.beq f 84 then some ka_morph_language_spell else none))))) else (bif Nat.blt f 90 then (bif Nat.blt f 87 then (bif Nat.blt f 86 then (bif Nat.beq f 85 then some ka_strings_Replace else none) else (bif Nat.beq f 86 then some ka_unicode_utf8_RuneCountInString else none)) else (bif Nat.blt f 89 then (bif Nat.beq f 87 then some ka_unicode_utf8_DecodeRuneInString else none) else (bif Nat.beq f 89 then some ka_internal_stringslite_Index else none))) else (bif Nat.blt f 92 then (bif Nat.blt f 91 then (bif Nat.beq f 90 then some ka_strconv_Atoi else none) else (bif Nat.beq f 91 then some ka_strconv_Itoa else none)) else (bif Nat.blt f 93 then (bif Nat.beq f 92 then some ka_strings_Cut else none) else (bif Nat.blt f 94 then (bif Nat.beq f 93 then some ka_slices_IndexFunc_api_Trait_api_Trait else none) else (bif Nat.beq f 94 then some ka_slices_Index_string_string else none)))))) else (bif Nat.blt f 104 then (bif Nat.blt f 99 then (bif Nat.blt f 97 then (bif Nat.blt f 96 then (bif Nat.beq f 95 then some ka_slices_IndexFunc_api_Class_api_Class else none) else (bif Nat.beq f 96 then some ka_morph_each_api_Feat else none)) else (bif Nat.blt f 98 then (bif Nat.beq f 97 then some ka_morph_checker_bundle_1 else none) else (bif Nat.beq f 98 then some ka_morph_checker_bundle_1_1 else none))) else (bif Nat.blt f 101 then (bif Nat.blt f 100 then (bif Nat.beq f 99 then some ka_morph_classOf_1 else none) else (bif Nat.beq f 100 then some ka_slices_IndexFunc_api_Entry_api_Entry else none)) else (bif Nat.blt f 102 then (bif Nat.beq f 101 then some ka_slices_IndexFunc_api_Slot_api_Slot else none) else (bif Nat.blt f 103 then (bif Nat.beq f 102 then some ka_slices_ContainsFunc_api_Feat_api_Feat else none) else (bif Nat.beq f 103 then some ka_morph_clash_1 else none))))) else (bif Nat.blt f 109 then (bif Nat.blt f 106 then (bif Nat.blt f 105 then (bif Nat.beq f 104 then some ka_morph_clash_1_1 else none) else (bif Nat.beq f 105 then some ka_slices_IndexFunc_api_Irregular_api_Irregular else none)) else (bif Nat.blt f 107 then (bif Nat.beq f 106 then some ka_strings_HasPrefix else none) else (bif Nat.blt f 108 then (bif Nat.beq f 107 then some ka_morph_language_left else none) else (bif Nat.beq f 108 then some ka_morph_language_right else none)))) else (bif Nat.blt f 111 then (bif Nat.blt f 110 then (bif Nat.beq f 109 then some ka_strings_Builder_WriteString else none) else (bif Nat.beq f 110 then some ka_strings_Builder_WriteByte else none)) else (bif Nat.blt f 112 then (bif Nat.beq f 111 then some ka_strings_Builder_String else none) else (bif Nat.blt f 113 then (bif Nat.beq f 112 then some ka_strings_Builder_Len else none) else (bif Nat.beq f 113 then some ka_strings_Builder_Grow else none))))))) else (bif Nat.blt f 134 then (bif Nat.blt f 124 then (bif Nat.blt f 119 then (bif Nat.blt f 117 then (bif Nat.blt f 115 then (bif Nat.beq f 114 then some ka_unicode_utf8_decodeRuneInStringSlow else none) else (bif Nat.beq f 115 then some ka_internal_stringslite_IndexByte else none)) else (bif Nat.blt f 118 then (bif Nat.beq f 117 then some ka_internal_bytealg_Cutover else none) else (bif Nat.beq f 118 then some ka_internal_bytealg_IndexRabinKarp_string else none))) else (bif Nat.blt f 121 then (bif Nat.blt f 120 then (bif Nat.beq f 119 then some ka_internal_strconv_Atoi else none) else (bif Nat.beq f 120 then some ka_strconv_toError else none)) else (bif Nat.blt f 122 then (bif Nat.beq f 121 then some ka_internal_strconv_Itoa else none) else (bif Nat.blt f 123 then (bif Nat.beq f 122 then some ka_internal_stringslite_Cut else none) else (bif Nat.beq f 123 then some ka_slices_IndexFunc_api_Feat_api_Feat else none))))) else (bif Nat.blt f 129 then (bif Nat.blt f 126 then (bif Nat.blt f 125 then (bif Nat.beq f 124 then some ka_internal_stringslite_HasPrefix else none) else (bif Nat.beq f 125 then some ka_morph_language_match else none)) else (bif Nat.blt f 127 then (bif Nat.beq f 126 then some ka_strings_Builder_copyCheck else none) else (bif Nat.beq f 127 then some ka_strings_Builder_grow else none))) else (bif Nat.blt f 131 then (bif Nat.blt f 130 then (bif Nat.beq f 129 then some ka_internal_bytealg_hashStr_string else none) else (bif Nat.beq f 130 then some ka_internal_strconv_ParseInt else none)) else (bif Nat.blt f 132 then (bif Nat.beq f 131 then some ka_strconv_syntaxError else none) else (bif Nat.blt f 133 then (bif Nat.beq f 132 then some ka_strconv_rangeError else none) else (bif Nat.beq f 133 then some ka_strconv_baseError else none)))))) else (bif Nat.blt f 145 then (bif Nat.blt f 140 then (bif Nat.blt f 136 then (bif Nat.blt f 135 then (bif Nat.beq f 134 then some ka_strconv_bitSizeError else none) else (bif Nat.beq f 135 then some ka_internal_strconv_FormatInt else none)) else (bif Nat.blt f 139 then (bif Nat.beq f 136 then some ka_strings_IndexByte else none) else (bif Nat.beq f 139 then some ka_internal_strconv_ParseUint else none))) else (bif Nat.blt f 142 then (bif Nat.blt f 141 then (bif Nat.beq f 140 then some ka_internal_stringslite_Clone else none) else (bif Nat.beq f 141 then some ka_errors_New else none)) else (bif Nat.blt f 143 then (bif Nat.beq f 142 then some ka_internal_strconv_small else none) else (bif Nat.blt f 144 then (bif Nat.beq f 143 then some ka_internal_strconv_numDigits else none) else (bif Nat.beq f 144 then some ka_internal_strconv_formatBase10 else none))))) else (bif Nat.blt f 150 then (bif Nat.blt f 147 then (bif Nat.blt f 146 then (bif Nat.beq f 145 then some ka_internal_strconv_formatBits else none) else (bif Nat.beq f 146 then some ka_internal_strconv_lower else none)) else (bif Nat.blt f 148 then (bif Nat.beq f 147 then some ka_internal_strconv_underscoreOK else none) else (bif Nat.blt f 149 then (bif Nat.beq f 148 then some ka_internal_strconv_log10Pow2 else none) else (bif Nat.beq f 149 then some ka_math_bits_Len64 else none)))) else (bif Nat.blt f 152 then (bif Nat.blt f 151 then (bif Nat.beq f 150 then some ka_internal_strconv_bool2_int else none) else (bif Nat.beq f 151 then some ka_internal_strconv_isPowerOfTwo else none)) else (bif Nat.blt f 153 then (bif Nat.beq f 152 then some ka_math_bits_TrailingZeros else none) else (bif Nat.blt f 154 then (bif Nat.beq f 153 then some ka_math_bits_TrailingZeros32 else none) else (bif Nat.beq f 154 then some ka_math_bits_TrailingZeros64 else none)))))))))

def kdtab (f : FuncId) : Option (Nat × AFn) := (bif Nat.beq f 26 then some (4, kda_morph_reader_read_1) else none)


end Go.Am
end

section
set_option maxRecDepth 1000000
namespace Go.Am
open Go.RowKit
def G0 : Nat → Option (List AV) := fun _ => none
theorem ok_ka_gosem_cut_init : CompOk Go.Proofs.Tryz.prog G0 2 ka_gosem_cut_init := by unfold CompOk; kernel_rfl
theorem ok_ka_truchmanlaw02_MorphNames : CompOk Go.Proofs.Tryz.prog G0 3 ka_truchmanlaw02_MorphNames := by unfold CompOk; kernel_rfl
theorem ok_ka_truchmanlaw02_lives : CompOk Go.Proofs.Tryz.prog G0 4 ka_truchmanlaw02_lives := by unfold CompOk; kernel_rfl
theorem ok_ka_morph_Name : CompOk Go.Proofs.Tryz.prog G0 5 ka_morph_Name := by unfold CompOk; kernel_rfl
theorem ok_ka_truchmanref02_Name : CompOk Go.Proofs.Tryz.prog G0 6 ka_truchmanref02_Name := by unfold CompOk; kernel_rfl
theorem ok_ka_morph_Word : CompOk Go.Proofs.Tryz.prog G0 7 ka_morph_Word := by unfold CompOk; kernel_rfl
theorem ok_ka_truchmanref02_Word : CompOk Go.Proofs.Tryz.prog G0 8 ka_truchmanref02_Word := by unfold CompOk; kernel_rfl
theorem ok_ka_morph_Plain : CompOk Go.Proofs.Tryz.prog G0 9 ka_morph_Plain := by unfold CompOk; kernel_rfl
theorem ok_ka_truchmanref02_Plain : CompOk Go.Proofs.Tryz.prog G0 10 ka_truchmanref02_Plain := by unfold CompOk; kernel_rfl
theorem ok_ka_morph_Parse : CompOk Go.Proofs.Tryz.prog G0 11 ka_morph_Parse := by unfold CompOk; kernel_rfl
theorem ok_ka_morph_Form : CompOk Go.Proofs.Tryz.prog G0 12 ka_morph_Form := by unfold CompOk; kernel_rfl
theorem ok_ka_morph_Name_1 : CompOk Go.Proofs.Tryz.prog G0 13 ka_morph_Name_1 := by unfold CompOk; kernel_rfl
theorem ok_ka_morph_letter : CompOk Go.Proofs.Tryz.prog G0 14 ka_morph_letter := by unfold CompOk; kernel_rfl
theorem ok_ka_morph_all : CompOk Go.Proofs.Tryz.prog G0 15 ka_morph_all := by unfold CompOk; kernel_rfl
theorem ok_ka_morph_Name_2 : CompOk Go.Proofs.Tryz.prog G0 16 ka_morph_Name_2 := by unfold CompOk; kernel_rfl
theorem ok_ka_truchmanref02_Letter : CompOk Go.Proofs.Tryz.prog G0 17 ka_truchmanref02_Letter := by unfold CompOk; kernel_rfl
theorem ok_ka_morph_Word_1 : CompOk Go.Proofs.Tryz.prog G0 18 ka_morph_Word_1 := by unfold CompOk; kernel_rfl
theorem ok_ka_truchmanref02_of : CompOk Go.Proofs.Tryz.prog G0 19 ka_truchmanref02_of := by unfold CompOk; kernel_rfl
theorem ok_ka_strings_Split : CompOk Go.Proofs.Tryz.prog G0 20 ka_strings_Split := by unfold CompOk; kernel_rfl
theorem ok_ka_morph_reader_read : CompOk Go.Proofs.Tryz.prog G0 21 ka_morph_reader_read := by unfold CompOk; kernel_rfl
theorem ok_ka_morph_Check : CompOk Go.Proofs.Tryz.prog G0 22 ka_morph_Check := by unfold CompOk; kernel_rfl
theorem ok_ka_morph_asked : CompOk Go.Proofs.Tryz.prog G0 23 ka_morph_asked := by unfold CompOk; kernel_rfl
theorem ok_ka_morph_language_form : CompOk Go.Proofs.Tryz.prog G0 24 ka_morph_language_form := by unfold CompOk; kernel_rfl
theorem ok_ka_strings_genSplit : CompOk Go.Proofs.Tryz.prog G0 25 ka_strings_genSplit := by unfold CompOk; kernel_rfl
theorem ok_ka_morph_kinds : CompOk Go.Proofs.Tryz.prog G0 27 ka_morph_kinds := by unfold CompOk; kernel_rfl
theorem ok_ka_morph_demand : CompOk Go.Proofs.Tryz.prog G0 28 ka_morph_demand := by unfold CompOk; kernel_rfl
theorem ok_ka_strings_SplitN : CompOk Go.Proofs.Tryz.prog G0 29 ka_strings_SplitN := by unfold CompOk; kernel_rfl
theorem ok_ka_morph_first : CompOk Go.Proofs.Tryz.prog G0 30 ka_morph_first := by unfold CompOk; kernel_rfl
theorem ok_ka_morph_checker_vowels : CompOk Go.Proofs.Tryz.prog G0 31 ka_morph_checker_vowels := by unfold CompOk; kernel_rfl
theorem ok_ka_morph_Check_1 : CompOk Go.Proofs.Tryz.prog G0 32 ka_morph_Check_1 := by unfold CompOk; kernel_rfl
theorem ok_ka_morph_each_api_Trait : CompOk Go.Proofs.Tryz.prog G0 33 ka_morph_each_api_Trait := by unfold CompOk; kernel_rfl
theorem ok_ka_morph_checker_trait : CompOk Go.Proofs.Tryz.prog G0 34 ka_morph_checker_trait := by unfold CompOk; kernel_rfl
theorem ok_ka_morph_Check_2 : CompOk Go.Proofs.Tryz.prog G0 35 ka_morph_Check_2 := by unfold CompOk; kernel_rfl
theorem ok_ka_morph_each_api_Class : CompOk Go.Proofs.Tryz.prog G0 36 ka_morph_each_api_Class := by unfold CompOk; kernel_rfl
theorem ok_ka_morph_checker_class : CompOk Go.Proofs.Tryz.prog G0 37 ka_morph_checker_class := by unfold CompOk; kernel_rfl
theorem ok_ka_morph_Check_3 : CompOk Go.Proofs.Tryz.prog G0 38 ka_morph_Check_3 := by unfold CompOk; kernel_rfl
theorem ok_ka_morph_each_api_Entry : CompOk Go.Proofs.Tryz.prog G0 39 ka_morph_each_api_Entry := by unfold CompOk; kernel_rfl
theorem ok_ka_morph_checker_entry : CompOk Go.Proofs.Tryz.prog G0 40 ka_morph_checker_entry := by unfold CompOk; kernel_rfl
theorem ok_ka_morph_Check_4 : CompOk Go.Proofs.Tryz.prog G0 41 ka_morph_Check_4 := by unfold CompOk; kernel_rfl
theorem ok_ka_morph_each_api_Spell : CompOk Go.Proofs.Tryz.prog G0 42 ka_morph_each_api_Spell := by unfold CompOk; kernel_rfl
theorem ok_ka_morph_checker_spell : CompOk Go.Proofs.Tryz.prog G0 43 ka_morph_checker_spell := by unfold CompOk; kernel_rfl
theorem ok_ka_morph_Check_5 : CompOk Go.Proofs.Tryz.prog G0 44 ka_morph_Check_5 := by unfold CompOk; kernel_rfl
theorem ok_ka_morph_each_api_Link : CompOk Go.Proofs.Tryz.prog G0 45 ka_morph_each_api_Link := by unfold CompOk; kernel_rfl
theorem ok_ka_morph_checker_link : CompOk Go.Proofs.Tryz.prog G0 46 ka_morph_checker_link := by unfold CompOk; kernel_rfl
theorem ok_ka_morph_language_slot : CompOk Go.Proofs.Tryz.prog G0 47 ka_morph_language_slot := by unfold CompOk; kernel_rfl
theorem ok_ka_morph_language_steps : CompOk Go.Proofs.Tryz.prog G0 48 ka_morph_language_steps := by unfold CompOk; kernel_rfl
theorem ok_ka_strings_ReplaceAll : CompOk Go.Proofs.Tryz.prog G0 49 ka_strings_ReplaceAll := by unfold CompOk; kernel_rfl
theorem ok_ka_strings_explode : CompOk Go.Proofs.Tryz.prog G0 50 ka_strings_explode := by unfold CompOk; kernel_rfl
theorem ok_ka_strings_Count : CompOk Go.Proofs.Tryz.prog G0 51 ka_strings_Count := by unfold CompOk; kernel_rfl
theorem ok_ka_strings_Index : CompOk Go.Proofs.Tryz.prog G0 52 ka_strings_Index := by unfold CompOk; kernel_rfl
theorem ok_ka_morph_kinds_1 : CompOk Go.Proofs.Tryz.prog G0 53 ka_morph_kinds_1 := by unfold CompOk; kernel_rfl
theorem ok_ka_morph_text : CompOk Go.Proofs.Tryz.prog G0 54 ka_morph_text := by unfold CompOk; kernel_rfl
theorem ok_ka_morph_kinds_2 : CompOk Go.Proofs.Tryz.prog G0 55 ka_morph_kinds_2 := by unfold CompOk; kernel_rfl
theorem ok_ka_morph_kinds_3 : CompOk Go.Proofs.Tryz.prog G0 56 ka_morph_kinds_3 := by unfold CompOk; kernel_rfl
theorem ok_ka_morph_kinds_4 : CompOk Go.Proofs.Tryz.prog G0 57 ka_morph_kinds_4 := by unfold CompOk; kernel_rfl
theorem ok_ka_morph_number : CompOk Go.Proofs.Tryz.prog G0 58 ka_morph_number := by unfold CompOk; kernel_rfl
theorem ok_ka_morph_feats : CompOk Go.Proofs.Tryz.prog G0 59 ka_morph_feats := by unfold CompOk; kernel_rfl
theorem ok_ka_morph_kinds_5 : CompOk Go.Proofs.Tryz.prog G0 60 ka_morph_kinds_5 := by unfold CompOk; kernel_rfl
theorem ok_ka_morph_kinds_6 : CompOk Go.Proofs.Tryz.prog G0 61 ka_morph_kinds_6 := by unfold CompOk; kernel_rfl
theorem ok_ka_morph_kinds_7 : CompOk Go.Proofs.Tryz.prog G0 62 ka_morph_kinds_7 := by unfold CompOk; kernel_rfl
theorem ok_ka_morph_kinds_8 : CompOk Go.Proofs.Tryz.prog G0 63 ka_morph_kinds_8 := by unfold CompOk; kernel_rfl
theorem ok_ka_slices_ContainsFunc_api_Trait_api_Trait : CompOk Go.Proofs.Tryz.prog G0 64 ka_slices_ContainsFunc_api_Trait_api_Trait := by unfold CompOk; kernel_rfl
theorem ok_ka_morph_checker_trait_1 : CompOk Go.Proofs.Tryz.prog G0 65 ka_morph_checker_trait_1 := by unfold CompOk; kernel_rfl
theorem ok_ka_slices_Contains_string_string : CompOk Go.Proofs.Tryz.prog G0 66 ka_slices_Contains_string_string := by unfold CompOk; kernel_rfl
theorem ok_ka_slices_ContainsFunc_api_Class_api_Class : CompOk Go.Proofs.Tryz.prog G0 67 ka_slices_ContainsFunc_api_Class_api_Class := by unfold CompOk; kernel_rfl
theorem ok_ka_morph_checker_class_1 : CompOk Go.Proofs.Tryz.prog G0 68 ka_morph_checker_class_1 := by unfold CompOk; kernel_rfl
theorem ok_ka_morph_each_api_Slot : CompOk Go.Proofs.Tryz.prog G0 69 ka_morph_each_api_Slot := by unfold CompOk; kernel_rfl
theorem ok_ka_morph_checker_class_2 : CompOk Go.Proofs.Tryz.prog G0 70 ka_morph_checker_class_2 := by unfold CompOk; kernel_rfl
theorem ok_ka_morph_short : CompOk Go.Proofs.Tryz.prog G0 71 ka_morph_short := by unfold CompOk; kernel_rfl
theorem ok_ka_morph_checker_bundle : CompOk Go.Proofs.Tryz.prog G0 72 ka_morph_checker_bundle := by unfold CompOk; kernel_rfl
theorem ok_ka_morph_classOf : CompOk Go.Proofs.Tryz.prog G0 73 ka_morph_classOf := by unfold CompOk; kernel_rfl
theorem ok_ka_slices_ContainsFunc_api_Entry_api_Entry : CompOk Go.Proofs.Tryz.prog G0 74 ka_slices_ContainsFunc_api_Entry_api_Entry := by unfold CompOk; kernel_rfl
theorem ok_ka_morph_checker_entry_1 : CompOk Go.Proofs.Tryz.prog G0 75 ka_morph_checker_entry_1 := by unfold CompOk; kernel_rfl
theorem ok_ka_slices_ContainsFunc_api_Slot_api_Slot : CompOk Go.Proofs.Tryz.prog G0 76 ka_slices_ContainsFunc_api_Slot_api_Slot := by unfold CompOk; kernel_rfl
theorem ok_ka_morph_checker_entry_2 : CompOk Go.Proofs.Tryz.prog G0 77 ka_morph_checker_entry_2 := by unfold CompOk; kernel_rfl
theorem ok_ka_morph_clash : CompOk Go.Proofs.Tryz.prog G0 78 ka_morph_clash := by unfold CompOk; kernel_rfl
theorem ok_ka_slices_ContainsFunc_api_Irregular_api_Irregular : CompOk Go.Proofs.Tryz.prog G0 79 ka_slices_ContainsFunc_api_Irregular_api_Irregular := by unfold CompOk; kernel_rfl
theorem ok_ka_morph_checker_entry_3 : CompOk Go.Proofs.Tryz.prog G0 80 ka_morph_checker_entry_3 := by unfold CompOk; kernel_rfl
theorem ok_ka_morph_symbol : CompOk Go.Proofs.Tryz.prog G0 81 ka_morph_symbol := by unfold CompOk; kernel_rfl
theorem ok_ka_morph_around : CompOk Go.Proofs.Tryz.prog G0 82 ka_morph_around := by unfold CompOk; kernel_rfl
theorem ok_ka_morph_language_underlying : CompOk Go.Proofs.Tryz.prog G0 83 ka_morph_language_underlying := by unfold CompOk; kernel_rfl
theorem ok_ka_morph_language_spell : CompOk Go.Proofs.Tryz.prog G0 84 ka_morph_language_spell := by unfold CompOk; kernel_rfl
theorem ok_ka_strings_Replace : CompOk Go.Proofs.Tryz.prog G0 85 ka_strings_Replace := by unfold CompOk; kernel_rfl
theorem ok_ka_unicode_utf8_RuneCountInString : CompOk Go.Proofs.Tryz.prog G0 86 ka_unicode_utf8_RuneCountInString := by unfold CompOk; kernel_rfl
theorem ok_ka_unicode_utf8_DecodeRuneInString : CompOk Go.Proofs.Tryz.prog G0 87 ka_unicode_utf8_DecodeRuneInString := by unfold CompOk; kernel_rfl
theorem ok_ka_internal_stringslite_Index : CompOk Go.Proofs.Tryz.prog G0 89 ka_internal_stringslite_Index := by unfold CompOk; kernel_rfl
theorem ok_ka_strconv_Atoi : CompOk Go.Proofs.Tryz.prog G0 90 ka_strconv_Atoi := by unfold CompOk; kernel_rfl
theorem ok_ka_strconv_Itoa : CompOk Go.Proofs.Tryz.prog G0 91 ka_strconv_Itoa := by unfold CompOk; kernel_rfl
theorem ok_ka_strings_Cut : CompOk Go.Proofs.Tryz.prog G0 92 ka_strings_Cut := by unfold CompOk; kernel_rfl
theorem ok_ka_slices_IndexFunc_api_Trait_api_Trait : CompOk Go.Proofs.Tryz.prog G0 93 ka_slices_IndexFunc_api_Trait_api_Trait := by unfold CompOk; kernel_rfl
theorem ok_ka_slices_Index_string_string : CompOk Go.Proofs.Tryz.prog G0 94 ka_slices_Index_string_string := by unfold CompOk; kernel_rfl
theorem ok_ka_slices_IndexFunc_api_Class_api_Class : CompOk Go.Proofs.Tryz.prog G0 95 ka_slices_IndexFunc_api_Class_api_Class := by unfold CompOk; kernel_rfl
theorem ok_ka_morph_each_api_Feat : CompOk Go.Proofs.Tryz.prog G0 96 ka_morph_each_api_Feat := by unfold CompOk; kernel_rfl
theorem ok_ka_morph_checker_bundle_1 : CompOk Go.Proofs.Tryz.prog G0 97 ka_morph_checker_bundle_1 := by unfold CompOk; kernel_rfl
theorem ok_ka_morph_checker_bundle_1_1 : CompOk Go.Proofs.Tryz.prog G0 98 ka_morph_checker_bundle_1_1 := by unfold CompOk; kernel_rfl
theorem ok_ka_morph_classOf_1 : CompOk Go.Proofs.Tryz.prog G0 99 ka_morph_classOf_1 := by unfold CompOk; kernel_rfl
theorem ok_ka_slices_IndexFunc_api_Entry_api_Entry : CompOk Go.Proofs.Tryz.prog G0 100 ka_slices_IndexFunc_api_Entry_api_Entry := by unfold CompOk; kernel_rfl
theorem ok_ka_slices_IndexFunc_api_Slot_api_Slot : CompOk Go.Proofs.Tryz.prog G0 101 ka_slices_IndexFunc_api_Slot_api_Slot := by unfold CompOk; kernel_rfl
theorem ok_ka_slices_ContainsFunc_api_Feat_api_Feat : CompOk Go.Proofs.Tryz.prog G0 102 ka_slices_ContainsFunc_api_Feat_api_Feat := by unfold CompOk; kernel_rfl
theorem ok_ka_morph_clash_1 : CompOk Go.Proofs.Tryz.prog G0 103 ka_morph_clash_1 := by unfold CompOk; kernel_rfl
theorem ok_ka_morph_clash_1_1 : CompOk Go.Proofs.Tryz.prog G0 104 ka_morph_clash_1_1 := by unfold CompOk; kernel_rfl
theorem ok_ka_slices_IndexFunc_api_Irregular_api_Irregular : CompOk Go.Proofs.Tryz.prog G0 105 ka_slices_IndexFunc_api_Irregular_api_Irregular := by unfold CompOk; kernel_rfl
theorem ok_ka_strings_HasPrefix : CompOk Go.Proofs.Tryz.prog G0 106 ka_strings_HasPrefix := by unfold CompOk; kernel_rfl
theorem ok_ka_morph_language_left : CompOk Go.Proofs.Tryz.prog G0 107 ka_morph_language_left := by unfold CompOk; kernel_rfl
theorem ok_ka_morph_language_right : CompOk Go.Proofs.Tryz.prog G0 108 ka_morph_language_right := by unfold CompOk; kernel_rfl
theorem ok_ka_strings_Builder_WriteString : CompOk Go.Proofs.Tryz.prog G0 109 ka_strings_Builder_WriteString := by unfold CompOk; kernel_rfl
theorem ok_ka_strings_Builder_WriteByte : CompOk Go.Proofs.Tryz.prog G0 110 ka_strings_Builder_WriteByte := by unfold CompOk; kernel_rfl
theorem ok_ka_strings_Builder_String : CompOk Go.Proofs.Tryz.prog G0 111 ka_strings_Builder_String := by unfold CompOk; kernel_rfl
theorem ok_ka_strings_Builder_Len : CompOk Go.Proofs.Tryz.prog G0 112 ka_strings_Builder_Len := by unfold CompOk; kernel_rfl
theorem ok_ka_strings_Builder_Grow : CompOk Go.Proofs.Tryz.prog G0 113 ka_strings_Builder_Grow := by unfold CompOk; kernel_rfl
theorem ok_ka_unicode_utf8_decodeRuneInStringSlow : CompOk Go.Proofs.Tryz.prog G0 114 ka_unicode_utf8_decodeRuneInStringSlow := by unfold CompOk; kernel_rfl
theorem ok_ka_internal_stringslite_IndexByte : CompOk Go.Proofs.Tryz.prog G0 115 ka_internal_stringslite_IndexByte := by unfold CompOk; kernel_rfl
theorem ok_ka_internal_bytealg_Cutover : CompOk Go.Proofs.Tryz.prog G0 117 ka_internal_bytealg_Cutover := by unfold CompOk; kernel_rfl
theorem ok_ka_internal_bytealg_IndexRabinKarp_string : CompOk Go.Proofs.Tryz.prog G0 118 ka_internal_bytealg_IndexRabinKarp_string := by unfold CompOk; kernel_rfl
theorem ok_ka_internal_strconv_Atoi : CompOk Go.Proofs.Tryz.prog G0 119 ka_internal_strconv_Atoi := by unfold CompOk; kernel_rfl
theorem ok_ka_strconv_toError : CompOk Go.Proofs.Tryz.prog G0 120 ka_strconv_toError := by unfold CompOk; kernel_rfl
theorem ok_ka_internal_strconv_Itoa : CompOk Go.Proofs.Tryz.prog G0 121 ka_internal_strconv_Itoa := by unfold CompOk; kernel_rfl
theorem ok_ka_internal_stringslite_Cut : CompOk Go.Proofs.Tryz.prog G0 122 ka_internal_stringslite_Cut := by unfold CompOk; kernel_rfl
theorem ok_ka_slices_IndexFunc_api_Feat_api_Feat : CompOk Go.Proofs.Tryz.prog G0 123 ka_slices_IndexFunc_api_Feat_api_Feat := by unfold CompOk; kernel_rfl
theorem ok_ka_internal_stringslite_HasPrefix : CompOk Go.Proofs.Tryz.prog G0 124 ka_internal_stringslite_HasPrefix := by unfold CompOk; kernel_rfl
theorem ok_ka_morph_language_match : CompOk Go.Proofs.Tryz.prog G0 125 ka_morph_language_match := by unfold CompOk; kernel_rfl
theorem ok_ka_strings_Builder_copyCheck : CompOk Go.Proofs.Tryz.prog G0 126 ka_strings_Builder_copyCheck := by unfold CompOk; kernel_rfl
theorem ok_ka_strings_Builder_grow : CompOk Go.Proofs.Tryz.prog G0 127 ka_strings_Builder_grow := by unfold CompOk; kernel_rfl
theorem ok_ka_internal_bytealg_hashStr_string : CompOk Go.Proofs.Tryz.prog G0 129 ka_internal_bytealg_hashStr_string := by unfold CompOk; kernel_rfl
theorem ok_ka_internal_strconv_ParseInt : CompOk Go.Proofs.Tryz.prog G0 130 ka_internal_strconv_ParseInt := by unfold CompOk; kernel_rfl
theorem ok_ka_strconv_syntaxError : CompOk Go.Proofs.Tryz.prog G0 131 ka_strconv_syntaxError := by unfold CompOk; kernel_rfl
theorem ok_ka_strconv_rangeError : CompOk Go.Proofs.Tryz.prog G0 132 ka_strconv_rangeError := by unfold CompOk; kernel_rfl
theorem ok_ka_strconv_baseError : CompOk Go.Proofs.Tryz.prog G0 133 ka_strconv_baseError := by unfold CompOk; kernel_rfl
theorem ok_ka_strconv_bitSizeError : CompOk Go.Proofs.Tryz.prog G0 134 ka_strconv_bitSizeError := by unfold CompOk; kernel_rfl
theorem ok_ka_internal_strconv_FormatInt : CompOk Go.Proofs.Tryz.prog G0 135 ka_internal_strconv_FormatInt := by unfold CompOk; kernel_rfl
theorem ok_ka_strings_IndexByte : CompOk Go.Proofs.Tryz.prog G0 136 ka_strings_IndexByte := by unfold CompOk; kernel_rfl
theorem ok_ka_internal_strconv_ParseUint : CompOk Go.Proofs.Tryz.prog G0 139 ka_internal_strconv_ParseUint := by unfold CompOk; kernel_rfl
theorem ok_ka_internal_stringslite_Clone : CompOk Go.Proofs.Tryz.prog G0 140 ka_internal_stringslite_Clone := by unfold CompOk; kernel_rfl
theorem ok_ka_errors_New : CompOk Go.Proofs.Tryz.prog G0 141 ka_errors_New := by unfold CompOk; kernel_rfl
theorem ok_ka_internal_strconv_small : CompOk Go.Proofs.Tryz.prog G0 142 ka_internal_strconv_small := by unfold CompOk; kernel_rfl
theorem ok_ka_internal_strconv_numDigits : CompOk Go.Proofs.Tryz.prog G0 143 ka_internal_strconv_numDigits := by unfold CompOk; kernel_rfl
theorem ok_ka_internal_strconv_formatBase10 : CompOk Go.Proofs.Tryz.prog G0 144 ka_internal_strconv_formatBase10 := by unfold CompOk; kernel_rfl
theorem ok_ka_internal_strconv_formatBits : CompOk Go.Proofs.Tryz.prog G0 145 ka_internal_strconv_formatBits := by unfold CompOk; kernel_rfl
theorem ok_ka_internal_strconv_lower : CompOk Go.Proofs.Tryz.prog G0 146 ka_internal_strconv_lower := by unfold CompOk; kernel_rfl
theorem ok_ka_internal_strconv_underscoreOK : CompOk Go.Proofs.Tryz.prog G0 147 ka_internal_strconv_underscoreOK := by unfold CompOk; kernel_rfl
theorem ok_ka_internal_strconv_log10Pow2 : CompOk Go.Proofs.Tryz.prog G0 148 ka_internal_strconv_log10Pow2 := by unfold CompOk; kernel_rfl
theorem ok_ka_math_bits_Len64 : CompOk Go.Proofs.Tryz.prog G0 149 ka_math_bits_Len64 := by unfold CompOk; kernel_rfl
theorem ok_ka_internal_strconv_bool2_int : CompOk Go.Proofs.Tryz.prog G0 150 ka_internal_strconv_bool2_int := by unfold CompOk; kernel_rfl
theorem ok_ka_internal_strconv_isPowerOfTwo : CompOk Go.Proofs.Tryz.prog G0 151 ka_internal_strconv_isPowerOfTwo := by unfold CompOk; kernel_rfl
theorem ok_ka_math_bits_TrailingZeros : CompOk Go.Proofs.Tryz.prog G0 152 ka_math_bits_TrailingZeros := by unfold CompOk; kernel_rfl
theorem ok_ka_math_bits_TrailingZeros32 : CompOk Go.Proofs.Tryz.prog G0 153 ka_math_bits_TrailingZeros32 := by unfold CompOk; kernel_rfl
theorem ok_ka_math_bits_TrailingZeros64 : CompOk Go.Proofs.Tryz.prog G0 154 ka_math_bits_TrailingZeros64 := by unfold CompOk; kernel_rfl
theorem okd_kda_morph_reader_read_1 : CompOkD Go.Proofs.Tryz.prog G0 26 (4, kda_morph_reader_read_1) := ⟨by kernel_rfl, rfl⟩
theorem ktab_ok : ∀ f af, ktab f = some af → CompOk Go.Proofs.Tryz.prog G0 f af := fun f af h => by
  unfold ktab at h
  revert h
  exact (tab_node (tab_node (tab_node (tab_node (tab_node (tab_node (tab_node (tab_leaf (C := _) ok_ka_gosem_cut_init) (tab_leaf (C := _) ok_ka_truchmanlaw02_MorphNames)) (tab_node (tab_leaf (C := _) ok_ka_truchmanlaw02_lives) (tab_leaf (C := _) ok_ka_morph_Name))) (tab_node (tab_node (tab_leaf (C := _) ok_ka_truchmanref02_Name) (tab_leaf (C := _) ok_ka_morph_Word)) (tab_node (tab_leaf (C := _) ok_ka_truchmanref02_Word) (tab_node (tab_leaf (C := _) ok_ka_morph_Plain) (tab_leaf (C := _) ok_ka_truchmanref02_Plain))))) (tab_node (tab_node (tab_node (tab_leaf (C := _) ok_ka_morph_Parse) (tab_leaf (C := _) ok_ka_morph_Form)) (tab_node (tab_leaf (C := _) ok_ka_morph_Name_1) (tab_leaf (C := _) ok_ka_morph_letter))) (tab_node (tab_node (tab_leaf (C := _) ok_ka_morph_all) (tab_leaf (C := _) ok_ka_morph_Name_2)) (tab_node (tab_leaf (C := _) ok_ka_truchmanref02_Letter) (tab_node (tab_leaf (C := _) ok_ka_morph_Word_1) (tab_leaf (C := _) ok_ka_truchmanref02_of)))))) (tab_node (tab_node (tab_node (tab_node (tab_leaf (C := _) ok_ka_strings_Split) (tab_leaf (C := _) ok_ka_morph_reader_read)) (tab_node (tab_leaf (C := _) ok_ka_morph_Check) (tab_leaf (C := _) ok_ka_morph_asked))) (tab_node (tab_node (tab_leaf (C := _) ok_ka_morph_language_form) (tab_leaf (C := _) ok_ka_strings_genSplit)) (tab_node (tab_leaf (C := _) ok_ka_morph_kinds) (tab_node (tab_leaf (C := _) ok_ka_morph_demand) (tab_leaf (C := _) ok_ka_strings_SplitN))))) (tab_node (tab_node (tab_node (tab_leaf (C := _) ok_ka_morph_first) (tab_leaf (C := _) ok_ka_morph_checker_vowels)) (tab_node (tab_leaf (C := _) ok_ka_morph_Check_1) (tab_leaf (C := _) ok_ka_morph_each_api_Trait))) (tab_node (tab_node (tab_leaf (C := _) ok_ka_morph_checker_trait) (tab_leaf (C := _) ok_ka_morph_Check_2)) (tab_node (tab_leaf (C := _) ok_ka_morph_each_api_Class) (tab_node (tab_leaf (C := _) ok_ka_morph_checker_class) (tab_leaf (C := _) ok_ka_morph_Check_3))))))) (tab_node (tab_node (tab_node (tab_node (tab_node (tab_leaf (C := _) ok_ka_morph_each_api_Entry) (tab_leaf (C := _) ok_ka_morph_checker_entry)) (tab_node (tab_leaf (C := _) ok_ka_morph_Check_4) (tab_leaf (C := _) ok_ka_morph_each_api_Spell))) (tab_node (tab_node (tab_leaf (C := _) ok_ka_morph_checker_spell) (tab_leaf (C := _) ok_ka_morph_Check_5)) (tab_node (tab_leaf (C := _) ok_ka_morph_each_api_Link) (tab_node (tab_leaf (C := _) ok_ka_morph_checker_link) (tab_leaf (C := _) ok_ka_morph_language_slot))))) (tab_node (tab_node (tab_node (tab_leaf (C := _) ok_ka_morph_language_steps) (tab_leaf (C := _) ok_ka_strings_ReplaceAll)) (tab_node (tab_leaf (C := _) ok_ka_strings_explode) (tab_leaf (C := _) ok_ka_strings_Count))) (tab_node (tab_node (tab_leaf (C := _) ok_ka_strings_Index) (tab_leaf (C := _) ok_ka_morph_kinds_1)) (tab_node (tab_leaf (C := _) ok_ka_morph_text) (tab_node (tab_leaf (C := _) ok_ka_morph_kinds_2) (tab_leaf (C := _) ok_ka_morph_kinds_3)))))) (tab_node (tab_node (tab_node (tab_node (tab_leaf (C := _) ok_ka_morph_kinds_4) (tab_leaf (C := _) ok_ka_morph_number)) (tab_node (tab_leaf (C := _) ok_ka_morph_feats) (tab_leaf (C := _) ok_ka_morph_kinds_5))) (tab_node (tab_node (tab_leaf (C := _) ok_ka_morph_kinds_6) (tab_leaf (C := _) ok_ka_morph_kinds_7)) (tab_node (tab_leaf (C := _) ok_ka_morph_kinds_8) (tab_node (tab_leaf (C := _) ok_ka_slices_ContainsFunc_api_Trait_api_Trait) (tab_leaf (C := _) ok_ka_morph_checker_trait_1))))) (tab_node (tab_node (tab_node (tab_leaf (C := _) ok_ka_slices_Contains_string_string) (tab_leaf (C := _) ok_ka_slices_ContainsFunc_api_Class_api_Class)) (tab_node (tab_leaf (C := _) ok_ka_morph_checker_class_1) (tab_node (tab_leaf (C := _) ok_ka_morph_each_api_Slot) (tab_leaf (C := _) ok_ka_morph_checker_class_2)))) (tab_node (tab_node (tab_leaf (C := _) ok_ka_morph_short) (tab_leaf (C := _) ok_ka_morph_checker_bundle)) (tab_node (tab_leaf (C := _) ok_ka_morph_classOf) (tab_node (tab_leaf (C := _) ok_ka_slices_ContainsFunc_api_Entry_api_Entry) (tab_leaf (C := _) ok_ka_morph_checker_entry_1)))))))) (tab_node (tab_node (tab_node (tab_node (tab_node (tab_node (tab_leaf (C := _) ok_ka_slices_ContainsFunc_api_Slot_api_Slot) (tab_leaf (C := _) ok_ka_morph_checker_entry_2)) (tab_node (tab_leaf (C := _) ok_ka_morph_clash) (tab_leaf (C := _) ok_ka_slices_ContainsFunc_api_Irregular_api_Irregular))) (tab_node (tab_node (tab_leaf (C := _) ok_ka_morph_checker_entry_3) (tab_leaf (C := _) ok_ka_morph_symbol)) (tab_node (tab_leaf (C := _) ok_ka_morph_around) (tab_node (tab_leaf (C := _) ok_ka_morph_language_underlying) (tab_leaf (C := _) ok_ka_morph_language_spell))))) (tab_node (tab_node (tab_node (tab_leaf (C := _) ok_ka_strings_Replace) (tab_leaf (C := _) ok_ka_unicode_utf8_RuneCountInString)) (tab_node (tab_leaf (C := _) ok_ka_unicode_utf8_DecodeRuneInString) (tab_leaf (C := _) ok_ka_internal_stringslite_Index))) (tab_node (tab_node (tab_leaf (C := _) ok_ka_strconv_Atoi) (tab_leaf (C := _) ok_ka_strconv_Itoa)) (tab_node (tab_leaf (C := _) ok_ka_strings_Cut) (tab_node (tab_leaf (C := _) ok_ka_slices_IndexFunc_api_Trait_api_Trait) (tab_leaf (C := _) ok_ka_slices_Index_string_string)))))) (tab_node (tab_node (tab_node (tab_node (tab_leaf (C := _) ok_ka_slices_IndexFunc_api_Class_api_Class) (tab_leaf (C := _) ok_ka_morph_each_api_Feat)) (tab_node (tab_leaf (C := _) ok_ka_morph_checker_bundle_1) (tab_leaf (C := _) ok_ka_morph_checker_bundle_1_1))) (tab_node (tab_node (tab_leaf (C := _) ok_ka_morph_classOf_1) (tab_leaf (C := _) ok_ka_slices_IndexFunc_api_Entry_api_Entry)) (tab_node (tab_leaf (C := _) ok_ka_slices_IndexFunc_api_Slot_api_Slot) (tab_node (tab_leaf (C := _) ok_ka_slices_ContainsFunc_api_Feat_api_Feat) (tab_leaf (C := _) ok_ka_morph_clash_1))))) (tab_node (tab_node (tab_node (tab_leaf (C := _) ok_ka_morph_clash_1_1) (tab_leaf (C := _) ok_ka_slices_IndexFunc_api_Irregular_api_Irregular)) (tab_node (tab_leaf (C := _) ok_ka_strings_HasPrefix) (tab_node (tab_leaf (C := _) ok_ka_morph_language_left) (tab_leaf (C := _) ok_ka_morph_language_right)))) (tab_node (tab_node (tab_leaf (C := _) ok_ka_strings_Builder_WriteString) (tab_leaf (C := _) ok_ka_strings_Builder_WriteByte)) (tab_node (tab_leaf (C := _) ok_ka_strings_Builder_String) (tab_node (tab_leaf (C := _) ok_ka_strings_Builder_Len) (tab_leaf (C := _) ok_ka_strings_Builder_Grow))))))) (tab_node (tab_node (tab_node (tab_node (tab_node (tab_leaf (C := _) ok_ka_unicode_utf8_decodeRuneInStringSlow) (tab_leaf (C := _) ok_ka_internal_stringslite_IndexByte)) (tab_node (tab_leaf (C := _) ok_ka_internal_bytealg_Cutover) (tab_leaf (C := _) ok_ka_internal_bytealg_IndexRabinKarp_string))) (tab_node (tab_node (tab_leaf (C := _) ok_ka_internal_strconv_Atoi) (tab_leaf (C := _) ok_ka_strconv_toError)) (tab_node (tab_leaf (C := _) ok_ka_internal_strconv_Itoa) (tab_node (tab_leaf (C := _) ok_ka_internal_stringslite_Cut) (tab_leaf (C := _) ok_ka_slices_IndexFunc_api_Feat_api_Feat))))) (tab_node (tab_node (tab_node (tab_leaf (C := _) ok_ka_internal_stringslite_HasPrefix) (tab_leaf (C := _) ok_ka_morph_language_match)) (tab_node (tab_leaf (C := _) ok_ka_strings_Builder_copyCheck) (tab_leaf (C := _) ok_ka_strings_Builder_grow))) (tab_node (tab_node (tab_leaf (C := _) ok_ka_internal_bytealg_hashStr_string) (tab_leaf (C := _) ok_ka_internal_strconv_ParseInt)) (tab_node (tab_leaf (C := _) ok_ka_strconv_syntaxError) (tab_node (tab_leaf (C := _) ok_ka_strconv_rangeError) (tab_leaf (C := _) ok_ka_strconv_baseError)))))) (tab_node (tab_node (tab_node (tab_node (tab_leaf (C := _) ok_ka_strconv_bitSizeError) (tab_leaf (C := _) ok_ka_internal_strconv_FormatInt)) (tab_node (tab_leaf (C := _) ok_ka_strings_IndexByte) (tab_leaf (C := _) ok_ka_internal_strconv_ParseUint))) (tab_node (tab_node (tab_leaf (C := _) ok_ka_internal_stringslite_Clone) (tab_leaf (C := _) ok_ka_errors_New)) (tab_node (tab_leaf (C := _) ok_ka_internal_strconv_small) (tab_node (tab_leaf (C := _) ok_ka_internal_strconv_numDigits) (tab_leaf (C := _) ok_ka_internal_strconv_formatBase10))))) (tab_node (tab_node (tab_node (tab_leaf (C := _) ok_ka_internal_strconv_formatBits) (tab_leaf (C := _) ok_ka_internal_strconv_lower)) (tab_node (tab_leaf (C := _) ok_ka_internal_strconv_underscoreOK) (tab_node (tab_leaf (C := _) ok_ka_internal_strconv_log10Pow2) (tab_leaf (C := _) ok_ka_math_bits_Len64)))) (tab_node (tab_node (tab_leaf (C := _) ok_ka_internal_strconv_bool2_int) (tab_leaf (C := _) ok_ka_internal_strconv_isPowerOfTwo)) (tab_node (tab_leaf (C := _) ok_ka_math_bits_TrailingZeros) (tab_node (tab_leaf (C := _) ok_ka_math_bits_TrailingZeros32) (tab_leaf (C := _) ok_ka_math_bits_TrailingZeros64)))))))))
theorem kdtab_ok : ∀ f d af, kdtab f = some (d, af) → CompOkD Go.Proofs.Tryz.prog G0 f (d, af) := fun f d af h => by
  unfold kdtab at h
  revert h
  exact (tab_leaf (C := _) okd_kda_morph_reader_read_1)
end Go.Am
end

section
set_option maxRecDepth 1000000
namespace Go.Am
open Go.RowKit Go.Proofs

/-- The functions without bodies. -/
def xorc (g : FuncId) (xs : List AV) (H : List AObj) : Option Out :=
  match xs with
  | [.str s, .int .u8 c] => bif Nat.beq g f_internal_bytealg_CountString then some (.ret (.int .i64 (Lib.countByte s c.toNat.toUInt8 : Nat)), H)
    else bif Nat.beq g f_internal_bytealg_IndexByteString then some (.ret (.int .i64 (Lib.indexByte s c.toNat.toUInt8)), H)
    else none
  | [.int .i64 (.ofNat n)] => bif Nat.beq g f_internal_bytealg_MakeNoZero && Nat.ble n 281474976710656 then some (.ret (.rslice H.length 0 n 1 true), H ++ [.cells (List.replicate n .unk) 5]) else none
  | [.fn _ _ _] => none
  | [x] => bif Nat.beq g f_internal_abi_NoEscape then some (.ret x, H) else none
  | _ => none

theorem x_count : ExtAt Tryz.prog f_internal_bytealg_CountString Extern.BytealgCount.count := .of Tryz.func88 (by kernel_rfl) (by kernel_rfl) (by kernel_rfl) (by kernel_rfl)
theorem x_index : ExtAt Tryz.prog f_internal_bytealg_IndexByteString Extern.BytealgIndexByte.indexByte := .of Tryz.func128 (by kernel_rfl) (by kernel_rfl) (by kernel_rfl) (by kernel_rfl)
theorem x_same : ExtAt Tryz.prog f_internal_abi_NoEscape Extern.AbiNoEscape.same := .of Tryz.func137 (by kernel_rfl) (by kernel_rfl) (by kernel_rfl) (by kernel_rfl)
theorem x_noZero : ExtAt Tryz.prog f_internal_bytealg_MakeNoZero (Extern.BytealgMakeNoZero.makeNoZero #[3] #[148]) := .of Tryz.func138 (by kernel_rfl) (by kernel_rfl) (by kernel_rfl) (by kernel_rfl)
theorem x_noZeroT : Tryz.prog.underlying 148 = some (.slice 5) := by kernel_rfl

theorem xorc_ok {g : FuncId} {xs : List AV} {H H' : List AObj} {r : ARes} (h : xorc g xs H = some (r, H')) : ACalls Tryz.prog G0 g xs H fun r2 H2 => r2 = r ∧ H2 = H' := by
  unfold xorc at h
  split at h
  · rename_i s c
    cases h1 : Nat.beq g f_internal_bytealg_CountString with
    | true => rw [h1] at h; cases h; rw [Nat.eq_of_beq_eq_true h1]; exact ext_count x_count s c H
    | false =>
      rw [h1, cond_false] at h
      cases h2 : Nat.beq g f_internal_bytealg_IndexByteString with
      | true => rw [h2] at h; cases h; rw [Nat.eq_of_beq_eq_true h2]; exact ext_index x_index s c H
      | false => rw [h2] at h; cases h
  · rename_i n
    cases h1 : (Nat.beq g f_internal_bytealg_MakeNoZero && Nat.ble n 281474976710656) with
    | true =>
      rw [h1] at h; cases h
      simp only [Bool.and_eq_true] at h1
      rw [Nat.eq_of_beq_eq_true h1.1]; exact ext_noZero x_noZero x_noZeroT n (Nat.le_of_ble_eq_true h1.2) H
    | false => rw [h1] at h; cases h
  · cases h
  · rename_i x _ _
    cases h1 : Nat.beq g f_internal_abi_NoEscape with
    | true => rw [h1] at h; cases h; rw [Nat.eq_of_beq_eq_true h1]; exact ext_same x_same x H
    | false => rw [h1] at h; cases h
  · cases h

theorem x_mixed : Tryz.prog.follows .mixedOrders = true := by kernel_rfl
theorem g0 : ∀ (n g : Nat) (cs : List AV), G0 g = some cs → wkbL n cs = true := fun _ _ _ h => by cases h

noncomputable def E0 : REnv := { P := Tryz.prog, G := G0, fn := ktab, orc := xorc, dfn := kdtab }
theorem E0_ok : E0.Ok := ⟨x_mixed, fun f af h => ktab_ok f af h, fun f d af h => kdtab_ok f d af h, (fun _ _ _ _ _ h => by cases h), fun _ _ _ _ _ h => xorc_ok h⟩
noncomputable def E1 : REnv := { E0 with wo := woK E0 100000 }
theorem E1_ok : E1.Ok := ⟨x_mixed, fun f af h => ktab_ok f af h, fun f d af h => kdtab_ok f d af h, fun _ _ _ _ _ h => woK_ok E0_ok g0 h, fun _ _ _ _ _ h => xorc_ok h⟩

theorem t1 : alone E1 100000 f_morph_number [.str [48]] [] = some (.int .i64 0) := by kernel_rfl
theorem t2 : alone E1 100000 f_strings_Count [.str [48, 50, 48], .str [48]] [] = some (.int .i64 2) := by kernel_rfl

end Go.Am
end

section
set_option maxRecDepth 1000000
namespace Go.Am
open Go.RowKit Go.Proofs

def pcArgs : List AV := [(.agg [(.str [97, 101, 105, 111, 117]), (.slice (.own 9) 2 [[(.str [110, 117, 109]), (.rslice 7 2 2 1 true)]]), (.rslice 26 0 2 2 true), (.rslice 53 0 4 4 true), (.slice (.own 57) 4 [[(.str [121, 43]), (.str [105, 43, 101]), (.str [67]), (.str [115])], [(.str [110, 43]), (.str [110, 110, 43]), (.str [86]), (.str [101, 100])]]), (.slice (.own 65) 3 [[(.str [110, 111, 117, 110]), (.str []), (.slice .any 2 [[(.str [110, 117, 109]), (.str [115, 103])]])]])])]
def pcHeap : List AObj := [.dead, .dead, .dead, .dead, .dead, .dead, .dead, .cells [(.str [116, 114, 97, 105, 116]), (.str [110, 117, 109]), (.str [115, 103]), (.str [112, 108])] 9, .dead, .tok 2 69, .dead, .dead, .dead, .dead, .dead, .dead, .dead, .tok 2 136, .tok 8 48, .dead, .dead, .dead, .tok 2 136, .dead, .dead, .dead, .cells [(.str [110, 111, 117, 110]), (.slice (.own 18) 4 [[(.int .i64 0), (.str []), (.str []), (.slice .any 2 [[(.str [110, 117, 109]), (.str [115, 103])]])], [(.int .i64 0), (.str []), (.str [115]), (.slice .any 2 [[(.str [110, 117, 109]), (.str [112, 108])]])]]), (.str [118, 101, 114, 98]), (.slice (.own 30) 4 [[(.int .i64 0), (.str []), (.str []), (.slice .nil 2 [])], [(.int .i64 0), (.str []), (.str [101, 100]), (.slice .nil 2 [])]])] 74, .dead, .dead, .dead, .tok 8 48, .dead, .dead, .dead, .dead, .dead, .dead, .dead, .dead, .dead, .dead, .dead, .dead, .dead, .dead, .dead, .dead, .dead, .dead, .tok 2 92, .dead, .dead, .dead, .cells [(.str [99, 105, 116, 121]), (.str [110, 111, 117, 110]), (.slice .nil 2 []), (.slice .nil 2 []), (.str [99, 97, 114]), (.str [110, 111, 117, 110]), (.slice .nil 2 []), (.slice .nil 2 []), (.str [98, 117, 115]), (.str [110, 111, 117, 110]), (.slice .nil 2 []), (.slice (.own 49) 2 [[(.int .i64 1), (.str [98, 117, 115, 101, 115])]]), (.str [112, 108, 97, 110]), (.str [118, 101, 114, 98]), (.slice .nil 2 []), (.slice .nil 2 [])] 79, .dead, .dead, .dead, .tok 8 83, .dead, .dead, .dead, .dead, .dead, .dead, .tok 2 136, .tok 3 87]
theorem pc : alone E1 100000 f_morph_Check pcArgs pcHeap = some (.int .u8 0) := by kernel_rfl

end Go.Am
end

section
set_option maxRecDepth 1000000
namespace Go.Am
open Go.RowKit Go.Proofs

/-- The functions that are run, but those that were run alone. -/
def orc2 (f : FuncId) (args : List AV) (H : List AObj) : Option Out :=
  bif Nat.beq f f_morph_Check && AV.eqbL args pcArgs && sees pcHeap H then some (.ret (.int .u8 0), H) else xorc f args H

theorem orc2_ok {f : FuncId} {args : List AV} {H H' : List AObj} {r : ARes} (h : orc2 f args H = some (r, H')) : ACalls Tryz.prog G0 f args H fun r2 H2 => r2 = r ∧ H2 = H' := by
  unfold orc2 at h
  cases h1 : (Nat.beq f f_morph_Check && AV.eqbL args pcArgs && sees pcHeap H) with
  | true =>
    rw [h1] at h; cases h
    simp only [Bool.and_eq_true] at h1
    rw [Nat.eq_of_beq_eq_true h1.1.1, AV.eqbL_eq h1.1.2]
    exact piece_ok E1_ok g0 pc h1.2
  | false => rw [h1] at h; exact xorc_ok h

noncomputable def E2 : REnv := { E1 with orc := orc2, fn := fun f => bif Nat.beq f f_morph_Check then none else ktab f }
theorem E2_ok : E2.Ok := ⟨x_mixed, fun f af h => by
    have h' : (bif Nat.beq f f_morph_Check then none else ktab f) = some af := h
    cases hb : Nat.beq f f_morph_Check with
    | true => rw [hb] at h'; cases h'
    | false => rw [hb] at h'; exact ktab_ok f af h', fun f d af h => kdtab_ok f d af h, fun _ _ _ _ _ h => woK_ok E0_ok g0 h, fun _ _ _ _ _ h => orc2_ok h⟩

theorem lives_run : alone E2 100000 f_truchmanlaw02_lives [] [] = some (.bool true) := by kernel_rfl

theorem lives_ok (H : List AObj) : ACalls Tryz.prog G0 f_truchmanlaw02_lives [] H fun r H' => r = .ret (.bool true) ∧ H' = H := piece_ok E2_ok g0 lives_run rfl

end Go.Am
end

section
set_option maxRecDepth 1000000
namespace Go.Am
open Go.RowKit Go.Proofs

def ntab (f : FuncId) : Option AFn := (bif Nat.blt f 13 then (bif Nat.blt f 7 then (bif Nat.blt f 5 then (bif Nat.beq f 3 then some a_truchmanlaw02_MorphNames else none) else (bif Nat.blt f 6 then (bif Nat.beq f 5 then some a_morph_Name else none) else (bif Nat.beq f 6 then some a_truchmanref02_Name else none))) else (bif Nat.blt f 9 then (bif Nat.blt f 8 then (bif Nat.beq f 7 then some a_morph_Word else none) else (bif Nat.beq f 8 then some a_truchmanref02_Word else none)) else (bif Nat.blt f 10 then (bif Nat.beq f 9 then some a_morph_Plain else none) else (bif Nat.beq f 10 then some a_truchmanref02_Plain else none)))) else (bif Nat.blt f 16 then (bif Nat.blt f 14 then (bif Nat.beq f 13 then some a_morph_Name_1 else none) else (bif Nat.blt f 15 then (bif Nat.beq f 14 then some a_morph_letter else none) else (bif Nat.beq f 15 then some a_morph_all else none))) else (bif Nat.blt f 18 then (bif Nat.blt f 17 then (bif Nat.beq f 16 then some a_morph_Name_2 else none) else (bif Nat.beq f 17 then some a_truchmanref02_Letter else none)) else (bif Nat.blt f 19 then (bif Nat.beq f 18 then some a_morph_Word_1 else none) else (bif Nat.beq f 19 then some a_truchmanref02_of else none)))))
theorem ntab_truchmanlaw02_MorphNames : CompOk Tryz.prog G0 3 a_truchmanlaw02_MorphNames := by unfold CompOk; kernel_rfl
theorem ntab_morph_Name : CompOk Tryz.prog G0 5 a_morph_Name := by unfold CompOk; kernel_rfl
theorem ntab_truchmanref02_Name : CompOk Tryz.prog G0 6 a_truchmanref02_Name := by unfold CompOk; kernel_rfl
theorem ntab_morph_Word : CompOk Tryz.prog G0 7 a_morph_Word := by unfold CompOk; kernel_rfl
theorem ntab_truchmanref02_Word : CompOk Tryz.prog G0 8 a_truchmanref02_Word := by unfold CompOk; kernel_rfl
theorem ntab_morph_Plain : CompOk Tryz.prog G0 9 a_morph_Plain := by unfold CompOk; kernel_rfl
theorem ntab_truchmanref02_Plain : CompOk Tryz.prog G0 10 a_truchmanref02_Plain := by unfold CompOk; kernel_rfl
theorem ntab_morph_Name_1 : CompOk Tryz.prog G0 13 a_morph_Name_1 := by unfold CompOk; kernel_rfl
theorem ntab_morph_letter : CompOk Tryz.prog G0 14 a_morph_letter := by unfold CompOk; kernel_rfl
theorem ntab_morph_all : CompOk Tryz.prog G0 15 a_morph_all := by unfold CompOk; kernel_rfl
theorem ntab_morph_Name_2 : CompOk Tryz.prog G0 16 a_morph_Name_2 := by unfold CompOk; kernel_rfl
theorem ntab_truchmanref02_Letter : CompOk Tryz.prog G0 17 a_truchmanref02_Letter := by unfold CompOk; kernel_rfl
theorem ntab_morph_Word_1 : CompOk Tryz.prog G0 18 a_morph_Word_1 := by unfold CompOk; kernel_rfl
theorem ntab_truchmanref02_of : CompOk Tryz.prog G0 19 a_truchmanref02_of := by unfold CompOk; kernel_rfl
theorem ntab_ok : ∀ f af, ntab f = some af → CompOk Tryz.prog G0 f af := fun f af h => by
  unfold ntab at h
  revert h
  exact (tab_node (tab_node (tab_node (tab_leaf (C := _) ntab_truchmanlaw02_MorphNames) (tab_node (tab_leaf (C := _) ntab_morph_Name) (tab_leaf (C := _) ntab_truchmanref02_Name))) (tab_node (tab_node (tab_leaf (C := _) ntab_morph_Word) (tab_leaf (C := _) ntab_truchmanref02_Word)) (tab_node (tab_leaf (C := _) ntab_morph_Plain) (tab_leaf (C := _) ntab_truchmanref02_Plain)))) (tab_node (tab_node (tab_leaf (C := _) ntab_morph_Name_1) (tab_node (tab_leaf (C := _) ntab_morph_letter) (tab_leaf (C := _) ntab_morph_all))) (tab_node (tab_node (tab_leaf (C := _) ntab_morph_Name_2) (tab_leaf (C := _) ntab_truchmanref02_Letter)) (tab_node (tab_leaf (C := _) ntab_morph_Word_1) (tab_leaf (C := _) ntab_truchmanref02_of)))))

/-- That some word lives in the example's lexicon: run alone. -/
def norc (f : FuncId) (args : List AV) (H : List AObj) : Option Out :=
  match args with
  | [] => bif Nat.beq f f_truchmanlaw02_lives then some (.ret (.bool true), H) else none
  | _ => none
theorem norc_ok {f : FuncId} {args : List AV} {H H' : List AObj} {r : ARes} (h : norc f args H = some (r, H')) : ACalls Tryz.prog G0 f args H fun r2 H2 => r2 = r ∧ H2 = H' := by
  unfold norc at h
  split at h
  · cases h1 : Nat.beq f f_truchmanlaw02_lives with
    | true => rw [h1] at h; cases h; rw [Nat.eq_of_beq_eq_true h1]; exact lives_ok H
    | false => rw [h1] at h; cases h
  · cases h

noncomputable def EN : REnv := { P := Tryz.prog, G := G0, fn := ntab, orc := norc, dfn := fun _ => none }
theorem EN_ok : EN.Ok := ⟨x_mixed, fun f af h => ntab_ok f af h, (fun _ _ _ h => by cases h), (fun _ _ _ _ _ h => by cases h), fun _ _ _ _ _ h => norc_ok h⟩
theorem EN_names : NamesE EN := ⟨rfl, rfl, rfl, rfl, rfl, rfl, rfl, rfl, rfl, rfl, rfl, rfl, rfl⟩

/-- Whatever the string: true. -/
theorem names_true (s : List UInt8) : ACalls Tryz.prog G0 f_truchmanlaw02_MorphNames [.str s] [] fun r H' => r = .ret (.bool true) ∧ H' = [] := by
  obtain ⟨M⟩ := mach_exists cdec EN
  have hlv : M.run f_truchmanlaw02_lives [] [] = some (.ret (.bool true), []) := rfl
  by_cases h : (s.length : Int) > 1000
  · exact M.sound EN_ok (run_MorphNames_long M rfl (decide_eq_true h) hlv)
  · exact M.sound EN_ok (run_MorphNames M EN_names rfl (by omega) hlv)

end Go.Am
end

