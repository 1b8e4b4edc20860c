/- A part of the proof. -/
import Derived.Test.YteijihklafdlgaaGreatDoorJ04
import Derived.Test.YteijihklafdlgaaGreatDoorProg
import Derived.Test.YteijihklafdlgaaGreatDoorRows
set_option linter.unusedSimpArgs false
set_option linter.unusedVariables false
set_option linter.constructorNameAsVariable false

namespace Jet
open Go

/-- jettison/lex.number -/
def q_lex_number : AFn := ⟨31,
  (.seq (.reg [⟨(some 2), .al [(.int .i64 0), (.str []), (.int .i64 0), (.int .i64 0)], none, 0, 0⟩,
    ⟨(some 3), .p (.mv (.c (.bool false))), none, 0, 0⟩] false)
  (.seq (.reg [⟨(some 7), .p (.mv (.t 0)), none, 0, 0⟩,
    ⟨(some 8), .p (.mv (.t 0)), none, 0, 0⟩,
    ⟨(some 9), .e (.call (.c (.fn (.func 162) [] [])) [(.t 8), (.c (.fn (.func 165) [] []))]), none, 0, 0⟩,
    ⟨(some 10), .p (.slcStr (.t 7) none (some (.t 9))), none, 0, 0⟩,
    ⟨(some 11), .p (.build [(.int .i64 0), (.str []), (.int .i64 0), (.int .i64 0)] [(0, 1, (.c (.int .i64 2))), (1, 1, (.t 10))]), none, 0, 0⟩,
    ⟨(some 4), .al [(.int .i64 0), (.str []), (.int .i64 0), (.int .i64 0)], none, 0, 0⟩,
    ⟨none, .e (.store 4 (.t 4) (.t 11)), none, 0, 0⟩] false)
  (.seq (.reg [⟨(some 13), .p (.faddr 1 (.t 4)), none, 0, 0⟩,
    ⟨(some 14), .r (.load 1 false (.t 13)), none, 0, 0⟩,
    ⟨(some 15), .e (.call (.c (.fn (.func 201) [] [])) [(.t 14), (.c (.int .i64 10)), (.c (.int .i64 64))]), none, 0, 0⟩,
    ⟨(some 12), .p (.mv (.t 15)), none, 0, 0⟩,
    ⟨(some 16), .p (.ext 0 (.t 12)), none, 0, 0⟩,
    ⟨(some 17), .p (.ext 1 (.t 12)), none, 0, 0⟩,
    ⟨(some 5), .p (.mv (.t 16)), none, 0, 0⟩,
    ⟨(some 6), .p (.mv (.t 17)), none, 0, 0⟩] false)
  (.seq (.seq (.reg [⟨(some 18), .p (.mv (.t 6)), none, 0, 0⟩,
     ⟨(some 19), .p (.bin .neq .iface (.t 18) (.c .nili)), none, 0, 0⟩,
     ⟨(some 20), .p (.mv (.t 19)), none, 0, 0⟩,
     ⟨(some 21), .p (.mv (.t 5)), (some (20, false)), 0, 0⟩,
     ⟨(some 22), .e (.call (.c (.fn (.func 47) [] [])) [(.t 21), (.c (.int .i64 10))]), (some (20, false)), 0, 0⟩,
     ⟨(some 23), .p (.faddr 1 (.t 4)), (some (20, false)), 1, 0⟩,
     ⟨(some 24), .r (.load 1 false (.t 23)), (some (20, false)), 1, 0⟩,
     ⟨(some 25), .p (.bin .neq .other (.t 22) (.t 24)), (some (20, false)), 0, 0⟩,
     ⟨(some 26), .p (.pick (.t 20) (.c (.bool true)) (.t 25)), none, 0, 0⟩] true)
   (.cond (.t 26)
    (.seq (.reg [⟨(some 27), .r (.load 4 true (.t 4)), none, 0, 0⟩,
      ⟨none, .e (.store 4 (.t 2) (.t 27)), none, 0, 0⟩,
      ⟨(some 3), .p (.mv (.c (.bool false))), none, 0, 0⟩] false)
    .ret)
    .skip))
  (.seq (.reg [⟨(some 28), .p (.mv (.t 5)), none, 0, 0⟩,
    ⟨(some 29), .p (.faddr 2 (.t 4)), none, 0, 0⟩,
    ⟨none, .e (.store 1 (.t 29) (.t 28)), none, 0, 0⟩] false)
  (.seq (.reg [⟨(some 30), .r (.load 4 true (.t 4)), none, 0, 0⟩,
    ⟨none, .e (.store 4 (.t 2) (.t 30)), none, 0, 0⟩,
    ⟨(some 3), .p (.mv (.c (.bool true))), none, 0, 0⟩] false)
  .ret)))))),
  [.c 2 4 true, .t 3]⟩

/-- jettison/lex.sign -/
def q_lex_sign : AFn := ⟨20,
  (.seq (.reg [⟨(some 1), .e (.box (.t 0)), none, 0, 0⟩,
    ⟨(some 2), .al [(.int .i64 0), (.str []), (.int .i64 0), (.int .i64 0)], none, 0, 0⟩,
    ⟨(some 3), .p (.mv (.c (.bool false))), none, 0, 0⟩] false)
  (.seq (.reg [⟨(some 6), .e (.call (.c (.fn (.func 202) [] [])) []), none, 0, 0⟩,
    ⟨(some 4), .p (.mv (.t 6)), none, 0, 0⟩] false)
  (.seq (.reg [⟨(some 7), .p (.mv (.t 4)), none, 0, 0⟩,
    ⟨(some 8), .e (.call (.c (.fn (.func 203) [] [])) [(.t 7), (.c (.fn (.func 204) [] []))]), none, 0, 0⟩] false)
  (.seq (.reg [⟨(some 9), .p (.mv (.t 4)), none, 0, 0⟩,
    ⟨(some 10), .p (.mkF (.func 206) [] [(.t 1)]), none, 0, 0⟩,
    ⟨(some 11), .e (.call (.c (.fn (.func 205) [] [])) [(.t 9), (.t 10)]), none, 0, 0⟩,
    ⟨(some 5), .p (.mv (.t 11)), none, 0, 0⟩] false)
  (.seq (.seq (.reg [⟨(some 12), .p (.mv (.t 5)), none, 0, 0⟩,
     ⟨(some 13), .p (.bin .lss .other (.t 12) (.c (.int .i64 0))), none, 0, 0⟩] false)
   (.cond (.t 13)
    (.seq (.reg [⟨(some 14), .p (.build [(.int .i64 0), (.str []), (.int .i64 0), (.int .i64 0)] []), none, 0, 0⟩,
      ⟨none, .e (.store 4 (.t 2) (.t 14)), none, 0, 0⟩,
      ⟨(some 3), .p (.mv (.c (.bool false))), none, 0, 0⟩] false)
    .ret)
    .skip))
  (.seq (.reg [⟨(some 15), .p (.mv (.t 4)), none, 0, 0⟩,
    ⟨(some 16), .p (.mv (.t 5)), none, 0, 0⟩,
    ⟨(some 17), .p (.iaddrS 1 (.t 15) (.t 16)), none, 0, 0⟩,
    ⟨(some 18), .r (.load 1 false (.t 17)), none, 0, 0⟩,
    ⟨(some 19), .p (.build [(.int .i64 0), (.str []), (.int .i64 0), (.int .i64 0)] [(0, 1, (.c (.int .i64 3))), (1, 1, (.t 18))]), none, 0, 0⟩,
    ⟨none, .e (.store 4 (.t 2) (.t 19)), none, 0, 0⟩,
    ⟨(some 3), .p (.mv (.c (.bool true))), none, 0, 0⟩] false)
  .ret)))))),
  [.c 2 4 true, .t 3]⟩

def q_parse_parser_alt_b0 : ACode :=
  (.seq (.seq (.reg [⟨(some 12), .p (.mv (.t 0)), none, 0, 0⟩,
        ⟨(some 13), .e (.call (.c (.fn (.func 85) [] [])) [(.t 12), (.c (.str [124]))]), none, 0, 0⟩] false)
      (.cond (.t 13)
       .skip
       (.exit 0)))
     (.block 1
      (.reg [⟨(some 14), .p (.faddr 6 (.t 3)), none, 0, 1⟩,
       ⟨(some 15), .r (.load 1 false (.t 14)), none, 0, 1⟩,
       ⟨(some 16), .p (.mv (.t 0)), none, 0, 0⟩,
       ⟨(some 17), .e (.call (.c (.fn (.func 82) [] [])) [(.t 16)]), none, 0, 0⟩,
       ⟨(some 18), .p (.bslice 1 [(.t 17)]), none, 0, 0⟩,
       ⟨(some 19), .e (.app 1 24 (.t 15) (.t 18)), none, 0, 0⟩,
       ⟨(some 20), .p (.faddr 6 (.t 3)), none, 0, 0⟩,
       ⟨none, .e (.store 1 (.t 20) (.t 19)), none, 0, 0⟩] true)))

/-- (*jettison/parse.parser).alt -/
def q_parse_parser_alt : AFn := ⟨24,
  (.seq (.reg [⟨(some 2), .al [(.int .i64 0), (.str []), (.str []), (.sl .full []), (.int .i64 0), (.int .i64 0), (.sl .full [])], none, 0, 0⟩] false)
  (.seq (.reg [⟨(some 4), .p (.mv (.t 0)), none, 0, 0⟩,
    ⟨(some 5), .e (.call (.c (.fn (.func 82) [] [])) [(.t 4)]), none, 0, 0⟩,
    ⟨(some 6), .p (.bslice 1 [(.t 5)]), none, 0, 0⟩,
    ⟨(some 7), .p (.build [(.int .i64 0), (.str []), (.str []), (.sl .full []), (.int .i64 0), (.int .i64 0), (.sl .full [])] [(0, 1, (.c (.int .i64 3))), (6, 1, (.t 6))]), none, 0, 0⟩,
    ⟨(some 3), .al [(.int .i64 0), (.str []), (.str []), (.sl .full []), (.int .i64 0), (.int .i64 0), (.sl .full [])], none, 0, 0⟩,
    ⟨none, .e (.store 7 (.t 3) (.t 7)), none, 0, 0⟩] false)
  (.seq (.reg [⟨(some 8), .p (.mv (.t 0)), none, 0, 0⟩,
    ⟨(some 9), .p (.mv (.t 0)), none, 0, 0⟩,
    ⟨(some 10), .e (.call (.c (.fn (.func 128) [] [])) [(.t 9), (.c (.str [124]))]), none, 0, 0⟩,
    ⟨(some 11), .e (.call (.c (.fn (.func 81) [] [])) [(.t 8), (.t 10)]), none, 0, 0⟩] false)
  (.seq (.block 0
    (.loop q_parse_parser_alt_b0))
  (.seq (.reg [⟨(some 21), .p (.mv (.t 0)), none, 0, 0⟩,
    ⟨(some 22), .e (.call (.c (.fn (.func 83) [] [])) [(.t 21), (.c (.str [41]))]), none, 0, 0⟩] false)
  (.seq (.reg [⟨(some 23), .r (.load 7 true (.t 3)), none, 0, 0⟩,
    ⟨none, .e (.store 7 (.t 2) (.t 23)), none, 0, 0⟩] false)
  .ret)))))),
  [.c 2 7 true]⟩

/-- (*jettison/parse.parser).expr -/
def q_parse_parser_expr : AFn := ⟨5,
  (.seq (.reg [⟨(some 2), .al [(.int .i64 0), (.str []), (.int .i64 0), (.str []), (.str []), (.sl .full [])], none, 0, 0⟩] false)
  (.seq (.reg [⟨(some 3), .p (.mv (.t 0)), none, 0, 0⟩,
    ⟨(some 4), .e (.call (.c (.fn (.func 207) [] [])) [(.t 3), (.c (.int .i64 0))]), none, 0, 0⟩,
    ⟨none, .e (.store 6 (.t 2) (.t 4)), none, 0, 0⟩] false)
  .ret)),
  [.c 2 6 true]⟩

/-- internal/strconv.Itoa -/
def q_internal_strconv_Itoa : AFn := ⟨5,
  (.seq (.reg [⟨(some 2), .p (.mv (.c (.str []))), none, 0, 0⟩] false)
  (.seq (.reg [⟨(some 3), .p (.mv (.t 0)), none, 0, 0⟩,
    ⟨(some 4), .e (.call (.c (.fn (.func 89) [] [])) [(.t 3), (.c (.int .i64 10))]), none, 0, 0⟩,
    ⟨(some 2), .p (.mv (.t 4)), none, 0, 0⟩] false)
  .ret)),
  [.t 2]⟩

/-- internal/strconv.log10Pow2 -/
def q_internal_strconv_log10Pow2 : AFn := ⟨6,
  (.seq (.reg [⟨(some 2), .p (.mv (.c (.int .i64 0))), none, 0, 0⟩] false)
  (.seq (.reg [⟨(some 3), .p (.mv (.t 0)), none, 0, 0⟩,
    ⟨(some 4), .p (.bin .mul .other (.t 3) (.c (.int .i64 78913))), none, 0, 0⟩,
    ⟨(some 5), .p (.bin .shr .other (.t 4) (.c (.int .u64 18))), none, 0, 0⟩,
    ⟨(some 2), .p (.mv (.t 5)), none, 0, 0⟩] false)
  .ret)),
  [.t 2]⟩

/-- math/bits.Len64 -/
def q_math_bits_Len64 : AFn := ⟨25,
  (.seq (.reg [⟨(some 2), .p (.mv (.c (.int .i64 0))), none, 0, 0⟩] false)
  (.seq (.seq (.reg [⟨(some 3), .p (.mv (.t 0)), none, 0, 0⟩,
     ⟨(some 4), .p (.bin .geq .other (.t 3) (.c (.int .u64 4294967296))), none, 0, 0⟩] false)
   (.cond (.t 4)
    (.seq (.reg [⟨(some 5), .p (.mv (.t 0)), none, 0, 0⟩,
      ⟨(some 6), .p (.bin .shr .other (.t 5) (.c (.int .u64 32))), none, 0, 0⟩,
      ⟨(some 0), .p (.mv (.t 6)), none, 0, 0⟩] false)
    (.reg [⟨(some 2), .p (.mv (.c (.int .i64 32))), none, 0, 0⟩] false))
    .skip))
  (.seq (.seq (.reg [⟨(some 7), .p (.mv (.t 0)), none, 0, 0⟩,
     ⟨(some 8), .p (.bin .geq .other (.t 7) (.c (.int .u64 65536))), none, 0, 0⟩] false)
   (.cond (.t 8)
    (.seq (.reg [⟨(some 9), .p (.mv (.t 0)), none, 0, 0⟩,
      ⟨(some 10), .p (.bin .shr .other (.t 9) (.c (.int .u64 16))), none, 0, 0⟩,
      ⟨(some 0), .p (.mv (.t 10)), none, 0, 0⟩] false)
    (.reg [⟨(some 11), .p (.mv (.t 2)), none, 0, 0⟩,
     ⟨(some 12), .p (.bin .add .other (.t 11) (.c (.int .i64 16))), none, 0, 0⟩,
     ⟨(some 2), .p (.mv (.t 12)), none, 0, 0⟩] false))
    .skip))
  (.seq (.seq (.reg [⟨(some 13), .p (.mv (.t 0)), none, 0, 0⟩,
     ⟨(some 14), .p (.bin .geq .other (.t 13) (.c (.int .u64 256))), none, 0, 0⟩] false)
   (.cond (.t 14)
    (.seq (.reg [⟨(some 15), .p (.mv (.t 0)), none, 0, 0⟩,
      ⟨(some 16), .p (.bin .shr .other (.t 15) (.c (.int .u64 8))), none, 0, 0⟩,
      ⟨(some 0), .p (.mv (.t 16)), none, 0, 0⟩] false)
    (.reg [⟨(some 17), .p (.mv (.t 2)), none, 0, 0⟩,
     ⟨(some 18), .p (.bin .add .other (.t 17) (.c (.int .i64 8))), none, 0, 0⟩,
     ⟨(some 2), .p (.mv (.t 18)), none, 0, 0⟩] false))
    .skip))
  (.seq (.reg [⟨(some 19), .p (.mv (.t 2)), none, 0, 0⟩,
    ⟨(some 20), .p (.mv (.t 0)), none, 0, 0⟩,
    ⟨(some 21), .p (.convInt .u8 (.t 20)), none, 0, 0⟩,
    ⟨(some 22), .p (.idxStr (.c (.str [0, 1, 2, 2, 3, 3, 3, 3, 4, 4, 4, 4, 4, 4, 4, 4, 5, 5, 5, 5, 5, 5, 5, 5, 5, 5, 5, 5, 5, 5, 5, 5, 6, 6, 6, 6, 6, 6, 6, 6, 6, 6, 6, 6, 6, 6, 6, 6, 6, 6, 6, 6, 6, 6, 6, 6, 6, 6, 6, 6, 6, 6, 6, 6, 7, 7, 7, 7, 7, 7, 7, 7, 7, 7, 7, 7, 7, 7, 7, 7, 7, 7, 7, 7, 7, 7, 7, 7, 7, 7, 7, 7, 7, 7, 7, 7, 7, 7, 7, 7, 7, 7, 7, 7, 7, 7, 7, 7, 7, 7, 7, 7, 7, 7, 7, 7, 7, 7, 7, 7, 7, 7, 7, 7, 7, 7, 7, 7, 8, 8, 8, 8, 8, 8, 8, 8, 8, 8, 8, 8, 8, 8, 8, 8, 8, 8, 8, 8, 8, 8, 8, 8, 8, 8, 8, 8, 8, 8, 8, 8, 8, 8, 8, 8, 8, 8, 8, 8, 8, 8, 8, 8, 8, 8, 8, 8, 8, 8, 8, 8, 8, 8, 8, 8, 8, 8, 8, 8, 8, 8, 8, 8, 8, 8, 8, 8, 8, 8, 8, 8, 8, 8, 8, 8, 8, 8, 8, 8, 8, 8, 8, 8, 8, 8, 8, 8, 8, 8, 8, 8, 8, 8, 8, 8, 8, 8, 8, 8, 8, 8, 8, 8, 8, 8, 8, 8, 8, 8, 8, 8, 8, 8, 8, 8, 8, 8, 8, 8, 8, 8, 8, 8, 8, 8, 8, 8])) (.t 21)), none, 0, 0⟩,
    ⟨(some 23), .p (.convInt .i64 (.t 22)), none, 0, 0⟩,
    ⟨(some 24), .p (.bin .add .other (.t 19) (.t 23)), none, 0, 0⟩,
    ⟨(some 2), .p (.mv (.t 24)), none, 0, 0⟩] false)
  .ret))))),
  [.t 2]⟩

/-- internal/strconv.bool2[int] -/
def q_internal_strconv_bool2_int : AFn := ⟨4,
  (.seq (.reg [⟨(some 2), .p (.mv (.c (.int .i64 0))), none, 0, 0⟩] false)
  (.seq (.seq (.reg [⟨(some 3), .p (.mv (.t 0)), none, 0, 0⟩] false)
   (.cond (.t 3)
    (.seq (.reg [⟨(some 2), .p (.mv (.c (.int .i64 1))), none, 0, 0⟩] false)
    .ret)
    .skip))
  (.seq (.reg [⟨(some 2), .p (.mv (.c (.int .i64 0))), none, 0, 0⟩] false)
  .ret))),
  [.t 2]⟩

/-- internal/strconv.isPowerOfTwo -/
def q_internal_strconv_isPowerOfTwo : AFn := ⟨8,
  (.seq (.reg [⟨(some 2), .p (.mv (.c (.bool false))), none, 0, 0⟩] false)
  (.seq (.reg [⟨(some 3), .p (.mv (.t 0)), none, 0, 0⟩,
    ⟨(some 4), .p (.mv (.t 0)), none, 0, 0⟩,
    ⟨(some 5), .p (.bin .sub .other (.t 4) (.c (.int .i64 1))), none, 0, 0⟩,
    ⟨(some 6), .p (.bin .and .other (.t 3) (.t 5)), none, 0, 0⟩,
    ⟨(some 7), .p (.bin .eql .other (.t 6) (.c (.int .i64 0))), none, 0, 0⟩,
    ⟨(some 2), .p (.mv (.t 7)), none, 0, 0⟩] false)
  .ret)),
  [.t 2]⟩

/-- math/bits.TrailingZeros -/
def q_math_bits_TrailingZeros : AFn := ⟨8,
  (.seq (.reg [⟨(some 2), .p (.mv (.c (.int .i64 0))), none, 0, 0⟩] false)
  (.seq (.cond (.c (.bool false))
    (.seq (.reg [⟨(some 3), .p (.mv (.t 0)), none, 0, 0⟩,
      ⟨(some 4), .p (.convInt .u32 (.t 3)), none, 0, 0⟩,
      ⟨(some 5), .e (.call (.c (.fn (.func 210) [] [])) [(.t 4)]), none, 0, 0⟩,
      ⟨(some 2), .p (.mv (.t 5)), none, 0, 0⟩] false)
    .ret)
    .skip)
  (.seq (.reg [⟨(some 6), .p (.mv (.t 0)), none, 0, 0⟩,
    ⟨(some 7), .e (.call (.c (.fn (.func 211) [] [])) [(.t 6)]), none, 0, 0⟩,
    ⟨(some 2), .p (.mv (.t 7)), none, 0, 0⟩] false)
  .ret))),
  [.t 2]⟩

/-- (*jettison/jettisonlaw11.feed).truth -/
def q_jettisonlaw11_feed_truth : AFn := ⟨74,
  (.seq (.reg [⟨(some 8), .al [(.int .i64 0), (.str []), (.int .i64 0), (.str []), (.str []), (.sl .full [])], none, 0, 0⟩] false)
  (.seq (.reg [⟨(some 12), .p (.mv (.t 0)), none, 0, 0⟩,
    ⟨(some 13), .e (.call (.c (.fn (.func 66) [] [])) [(.t 12)]), none, 0, 0⟩,
    ⟨(some 9), .p (.mv (.t 13)), none, 0, 0⟩] false)
  (.seq (.seq (.reg [⟨(some 14), .p (.mv (.t 3)), none, 0, 0⟩,
     ⟨(some 15), .p (.bin .gtr .other (.t 14) (.c (.int .i64 0))), none, 0, 0⟩,
     ⟨(some 16), .p (.mv (.t 15)), none, 0, 0⟩,
     ⟨(some 17), .p (.mv (.t 9)), (some (16, true)), 0, 0⟩,
     ⟨(some 18), .p (.bin .rem .other (.t 17) (.c (.int .i64 8))), (some (16, true)), 0, 0⟩,
     ⟨(some 19), .p (.bin .eql .other (.t 18) (.c (.int .i64 0))), (some (16, true)), 0, 0⟩,
     ⟨(some 20), .p (.pick (.t 16) (.t 19) (.c (.bool false))), none, 0, 0⟩] false)
   (.cond (.t 20)
    (.seq (.reg [⟨(some 21), .p (.mv (.t 0)), none, 0, 0⟩,
      ⟨(some 22), .p (.mv (.t 1)), none, 0, 0⟩,
      ⟨(some 23), .p (.mv (.t 2)), none, 0, 0⟩,
      ⟨(some 24), .p (.mv (.t 3)), none, 0, 0⟩,
      ⟨(some 25), .p (.bin .sub .other (.t 24) (.c (.int .i64 1))), none, 0, 0⟩,
      ⟨(some 26), .e (.call (.c (.fn (.func 186) [] [])) [(.t 21), (.t 22), (.t 23), (.t 25)]), none, 0, 0⟩,
      ⟨(some 27), .p (.bslice 6 [(.t 26)]), none, 0, 0⟩,
      ⟨(some 28), .p (.build [(.int .i64 0), (.str []), (.int .i64 0), (.str []), (.str []), (.sl .full [])] [(0, 1, (.c (.int .i64 2))), (1, 1, (.c (.str [33]))), (5, 1, (.t 27))]), none, 0, 0⟩,
      ⟨none, .e (.store 6 (.t 8) (.t 28)), none, 0, 0⟩] false)
    .ret)
    .skip))
  (.seq (.seq (.reg [⟨(some 29), .p (.mv (.t 3)), none, 0, 0⟩,
     ⟨(some 30), .p (.bin .gtr .other (.t 29) (.c (.int .i64 0))), none, 0, 0⟩,
     ⟨(some 31), .p (.mv (.t 30)), none, 0, 0⟩,
     ⟨(some 32), .p (.mv (.t 9)), (some (31, true)), 0, 0⟩,
     ⟨(some 33), .p (.bin .rem .other (.t 32) (.c (.int .i64 8))), (some (31, true)), 0, 0⟩,
     ⟨(some 34), .p (.bin .lss .other (.t 33) (.c (.int .i64 3))), (some (31, true)), 0, 0⟩,
     ⟨(some 35), .p (.pick (.t 31) (.t 34) (.c (.bool false))), none, 0, 0⟩] false)
   (.cond (.t 35)
    (.seq (.reg [⟨(some 36), .p (.mv (.t 0)), none, 0, 0⟩,
      ⟨(some 37), .p (.mv (.t 1)), none, 0, 0⟩,
      ⟨(some 38), .p (.mv (.t 2)), none, 0, 0⟩,
      ⟨(some 39), .p (.mv (.t 3)), none, 0, 0⟩,
      ⟨(some 40), .p (.bin .sub .other (.t 39) (.c (.int .i64 1))), none, 0, 0⟩,
      ⟨(some 41), .e (.call (.c (.fn (.func 186) [] [])) [(.t 36), (.t 37), (.t 38), (.t 40)]), none, 0, 0⟩,
      ⟨(some 10), .al [(.int .i64 0), (.str []), (.int .i64 0), (.str []), (.str []), (.sl .full [])], none, 0, 0⟩,
      ⟨none, .e (.store 6 (.t 10) (.t 41)), none, 0, 0⟩] false)
    (.seq (.reg [⟨(some 42), .p (.bslice 1 [(.c (.str [38, 38])), (.c (.str [124, 124]))]), none, 0, 1⟩,
      ⟨(some 43), .p (.mv (.t 9)), none, 0, 1⟩,
      ⟨(some 44), .p (.bin .quo .other (.t 43) (.c (.int .i64 8))), none, 0, 1⟩,
      ⟨(some 45), .p (.bin .rem .other (.t 44) (.c (.int .i64 2))), none, 0, 1⟩,
      ⟨(some 46), .p (.iaddrS 1 (.t 42) (.t 45)), none, 0, 1⟩,
      ⟨(some 47), .r (.load 1 false (.t 46)), none, 0, 1⟩,
      ⟨(some 48), .r (.load 6 true (.t 10)), none, 0, 1⟩,
      ⟨(some 49), .p (.mv (.t 0)), none, 0, 0⟩,
      ⟨(some 50), .p (.mv (.t 1)), none, 0, 0⟩,
      ⟨(some 51), .p (.mv (.t 2)), none, 0, 0⟩,
      ⟨(some 52), .p (.mv (.t 3)), none, 0, 0⟩,
      ⟨(some 53), .p (.bin .sub .other (.t 52) (.c (.int .i64 1))), none, 0, 0⟩,
      ⟨(some 54), .e (.call (.c (.fn (.func 186) [] [])) [(.t 49), (.t 50), (.t 51), (.t 53)]), none, 0, 0⟩,
      ⟨(some 55), .p (.bslice 6 [(.t 48), (.t 54)]), none, 0, 0⟩,
      ⟨(some 56), .p (.build [(.int .i64 0), (.str []), (.int .i64 0), (.str []), (.str []), (.sl .full [])] [(0, 1, (.c (.int .i64 3))), (1, 1, (.t 47)), (5, 1, (.t 55))]), none, 0, 0⟩,
      ⟨none, .e (.store 6 (.t 8) (.t 56)), none, 0, 0⟩] true)
    .ret))
    .skip))
  (.seq (.reg [⟨(some 57), .p (.mv (.t 0)), none, 0, 0⟩,
    ⟨(some 58), .p (.mv (.t 1)), none, 0, 0⟩,
    ⟨(some 59), .p (.mv (.t 2)), none, 0, 0⟩,
    ⟨(some 60), .e (.call (.c (.fn (.func 214) [] [])) [(.t 57), (.t 58), (.t 59), (.c (.int .i64 1))]), none, 0, 0⟩,
    ⟨(some 11), .al [(.int .i64 0), (.str []), (.int .i64 0), (.str []), (.str []), (.sl .full [])], none, 0, 0⟩,
    ⟨none, .e (.store 6 (.t 11) (.t 60)), none, 0, 0⟩] false)
  (.seq (.reg [⟨(some 61), .p (.bslice 1 [(.c (.str [61, 61])), (.c (.str [33, 61])), (.c (.str [60])), (.c (.str [60, 61])), (.c (.str [62])), (.c (.str [62, 61])), (.c (.str [60, 61])), (.c (.str [62, 61]))]), none, 0, 1⟩,
    ⟨(some 62), .p (.mv (.t 9)), none, 0, 1⟩,
    ⟨(some 63), .p (.bin .quo .other (.t 62) (.c (.int .i64 8))), none, 0, 1⟩,
    ⟨(some 64), .p (.bin .rem .other (.t 63) (.c (.int .i64 8))), none, 0, 1⟩,
    ⟨(some 65), .p (.iaddrS 1 (.t 61) (.t 64)), none, 0, 1⟩,
    ⟨(some 66), .r (.load 1 false (.t 65)), none, 0, 1⟩,
    ⟨(some 67), .r (.load 6 true (.t 11)), none, 0, 1⟩,
    ⟨(some 68), .p (.mv (.t 0)), none, 0, 0⟩,
    ⟨(some 69), .p (.mv (.t 1)), none, 0, 0⟩,
    ⟨(some 70), .p (.mv (.t 2)), none, 0, 0⟩,
    ⟨(some 71), .e (.call (.c (.fn (.func 214) [] [])) [(.t 68), (.t 69), (.t 70), (.c (.int .i64 1))]), none, 0, 0⟩,
    ⟨(some 72), .p (.bslice 6 [(.t 67), (.t 71)]), none, 0, 0⟩,
    ⟨(some 73), .p (.build [(.int .i64 0), (.str []), (.int .i64 0), (.str []), (.str []), (.sl .full [])] [(0, 1, (.c (.int .i64 3))), (1, 1, (.t 66)), (5, 1, (.t 72))]), none, 0, 0⟩,
    ⟨none, .e (.store 6 (.t 8) (.t 73)), none, 0, 0⟩] true)
  .ret)))))),
  [.c 8 6 true]⟩

/-- jettison/pattern.every[[]jettison/pattern.Item]$1 -/
def q_pattern_every_pattern_Item_1x : AFn := ⟨8,
  (.seq (.reg [⟨(some 3), .p (.mv (.c (.bool false))), none, 0, 0⟩] false)
  (.seq (.reg [⟨(some 4), .r (.load 1 false (.t 1)), none, 0, 0⟩,
    ⟨(some 5), .p (.mv (.t 0)), none, 0, 0⟩,
    ⟨(some 6), .e (.call (.t 4) [(.t 5)]), none, 0, 0⟩,
    ⟨(some 7), .p (.un .not (.t 6)), none, 0, 0⟩,
    ⟨(some 3), .p (.mv (.t 7)), none, 0, 0⟩] false)
  .ret)),
  [.t 3]⟩

/-- jettison/pattern.every[jettison/expr.Expr]$1 -/
def q_pattern_every_expr_Expr_1 : AFn := ⟨8,
  (.seq (.reg [⟨(some 2), .e (.box (.t 0)), none, 0, 0⟩,
    ⟨(some 3), .p (.mv (.c (.bool false))), none, 0, 0⟩] false)
  (.seq (.reg [⟨(some 4), .r (.load 1 false (.t 1)), none, 0, 0⟩,
    ⟨(some 5), .r (.load 6 true (.t 2)), none, 0, 0⟩,
    ⟨(some 6), .e (.call (.t 4) [(.t 5)]), none, 0, 0⟩,
    ⟨(some 7), .p (.un .not (.t 6)), none, 0, 0⟩,
    ⟨(some 3), .p (.mv (.t 7)), none, 0, 0⟩] false)
  .ret)),
  [.t 3]⟩

/-- (jettison/expr.Expr).form -/
def q_expr_Expr_form : AFn := ⟨57,
  (.seq (.reg [⟨(some 1), .e (.box (.t 0)), none, 0, 0⟩,
    ⟨(some 2), .al [(.bool false), (.bool false), (.int .i64 0)], none, 0, 0⟩,
    ⟨(some 3), .p (.mv (.c (.bool false))), none, 0, 0⟩] false)
  (.seq (.seq (.reg [⟨(some 4), .p (.faddr 0 (.t 1)), none, 0, 0⟩,
     ⟨(some 5), .r (.load 1 false (.t 4)), none, 0, 0⟩] false)
   (.block 0
    (.seq (.reg [⟨(some 7), .p (.bin .eql .other (.t 5) (.c (.int .i64 0))), none, 0, 0⟩,
      ⟨(some 6), .p (.mv (.t 7)), none, 0, 0⟩] false)
    (.cond (.t 6)
     (.seq (.reg [⟨(some 8), .p (.build [(.bool false), (.bool false), (.int .i64 0)] []), none, 0, 0⟩,
       ⟨(some 9), .p (.faddr 2 (.t 1)), none, 0, 1⟩,
       ⟨(some 10), .r (.load 1 false (.t 9)), none, 0, 1⟩,
       ⟨(some 11), .p (.bin .geq .other (.t 10) (.c (.int .i64 0))), none, 0, 1⟩,
       ⟨none, .e (.store 3 (.t 2) (.t 8)), none, 0, 0⟩,
       ⟨(some 3), .p (.mv (.t 11)), none, 0, 0⟩] true)
     .ret)
     (.seq (.reg [⟨(some 13), .p (.bin .eql .other (.t 5) (.c (.int .i64 1))), none, 0, 0⟩,
       ⟨(some 12), .p (.mv (.t 13)), none, 0, 0⟩] false)
     (.cond (.t 12)
      (.seq (.reg [⟨(some 14), .p (.build [(.bool false), (.bool false), (.int .i64 0)] [(1, 1, (.c (.bool true)))]), none, 0, 0⟩,
        ⟨(some 15), .p (.faddr 2 (.t 1)), none, 0, 0⟩,
        ⟨(some 16), .r (.load 1 false (.t 15)), none, 0, 0⟩,
        ⟨(some 17), .p (.bin .eql .other (.t 16) (.c (.int .i64 0))), none, 0, 0⟩,
        ⟨(some 18), .p (.mv (.t 17)), none, 0, 0⟩,
        ⟨(some 19), .p (.faddr 3 (.t 1)), (some (18, true)), 0, 0⟩,
        ⟨(some 20), .r (.load 1 false (.t 19)), (some (18, true)), 0, 0⟩,
        ⟨(some 21), .e (.call (.c (.fn (.func 70) [] [])) [(.t 20)]), (some (18, true)), 0, 0⟩,
        ⟨(some 22), .p (.pick (.t 18) (.t 21) (.c (.bool false))), none, 0, 0⟩,
        ⟨(some 23), .p (.mv (.t 22)), none, 0, 0⟩,
        ⟨(some 24), .p (.faddr 4 (.t 1)), (some (23, true)), 0, 0⟩,
        ⟨(some 25), .r (.load 1 false (.t 24)), (some (23, true)), 0, 0⟩,
        ⟨(some 26), .e (.call (.c (.fn (.func 70) [] [])) [(.t 25)]), (some (23, true)), 0, 0⟩,
        ⟨(some 27), .p (.pick (.t 23) (.t 26) (.c (.bool false))), none, 0, 0⟩,
        ⟨none, .e (.store 3 (.t 2) (.t 14)), none, 0, 0⟩,
        ⟨(some 3), .p (.mv (.t 27)), none, 0, 0⟩] false)
      .ret)
      (.seq (.reg [⟨(some 29), .p (.bin .eql .other (.t 5) (.c (.int .i64 2))), none, 0, 0⟩,
        ⟨(some 28), .p (.mv (.t 29)), none, 0, 0⟩] false)
      (.cond (.t 28)
       (.seq (.reg [⟨(some 30), .p (.build [(.bool false), (.bool false), (.int .i64 0)] [(0, 1, (.c (.bool true))), (2, 1, (.c (.int .i64 1)))]), none, 0, 0⟩,
         ⟨(some 31), .p (.faddr 2 (.t 1)), none, 0, 0⟩,
         ⟨(some 32), .r (.load 1 false (.t 31)), none, 0, 0⟩,
         ⟨(some 33), .p (.bin .eql .other (.t 32) (.c (.int .i64 0))), none, 0, 0⟩,
         ⟨(some 34), .p (.mv (.t 33)), none, 0, 0⟩,
         ⟨(some 35), .p (.faddr 1 (.t 1)), (some (34, true)), 0, 0⟩,
         ⟨(some 36), .r (.load 1 false (.t 35)), (some (34, true)), 0, 0⟩,
         ⟨(some 37), .p (.bin .eql .other (.t 36) (.c (.str [45]))), (some (34, true)), 0, 0⟩,
         ⟨(some 38), .p (.mv (.t 37)), (some (34, true)), 0, 0⟩,
         ⟨(some 39), .p (.faddr 1 (.t 1)), (some (38, false)), 0, 1⟩,
         ⟨(some 40), .r (.load 1 false (.t 39)), (some (38, false)), 0, 1⟩,
         ⟨(some 41), .p (.bin .eql .other (.t 40) (.c (.str [33]))), (some (38, false)), 0, 1⟩,
         ⟨(some 42), .p (.pick (.t 38) (.c (.bool true)) (.t 41)), (some (34, true)), 0, 1⟩,
         ⟨(some 43), .p (.pick (.t 34) (.t 42) (.c (.bool false))), none, 0, 1⟩,
         ⟨none, .e (.store 3 (.t 2) (.t 30)), none, 0, 0⟩,
         ⟨(some 3), .p (.mv (.t 43)), none, 0, 0⟩] true)
       .ret)
       (.seq (.reg [⟨(some 45), .p (.bin .eql .other (.t 5) (.c (.int .i64 3))), none, 0, 0⟩,
         ⟨(some 44), .p (.mv (.t 45)), none, 0, 0⟩] false)
       (.cond (.t 44)
        (.seq (.reg [⟨(some 46), .p (.build [(.bool false), (.bool false), (.int .i64 0)] [(0, 1, (.c (.bool true))), (2, 1, (.c (.int .i64 2)))]), none, 0, 0⟩,
          ⟨(some 47), .p (.faddr 2 (.t 1)), none, 0, 0⟩,
          ⟨(some 48), .r (.load 1 false (.t 47)), none, 0, 0⟩,
          ⟨(some 49), .p (.bin .eql .other (.t 48) (.c (.int .i64 0))), none, 0, 0⟩,
          ⟨(some 50), .p (.mv (.t 49)), none, 0, 0⟩,
          ⟨(some 51), .p (.faddr 1 (.t 1)), (some (50, true)), 0, 0⟩,
          ⟨(some 52), .r (.load 1 false (.t 51)), (some (50, true)), 0, 0⟩,
          ⟨(some 53), .e (.call (.c (.fn (.func 191) [] [])) [(.t 52)]), (some (50, true)), 0, 0⟩,
          ⟨(some 54), .p (.bin .gtr .other (.t 53) (.c (.int .i64 0))), (some (50, true)), 0, 0⟩,
          ⟨(some 55), .p (.pick (.t 50) (.t 54) (.c (.bool false))), none, 0, 0⟩,
          ⟨none, .e (.store 3 (.t 2) (.t 46)), none, 0, 0⟩,
          ⟨(some 3), .p (.mv (.t 55)), none, 0, 0⟩] false)
        .ret)
        .skip))))))))))
  (.seq (.reg [⟨(some 56), .p (.build [(.bool false), (.bool false), (.int .i64 0)] []), none, 0, 0⟩,
    ⟨none, .e (.store 3 (.t 2) (.t 56)), none, 0, 0⟩,
    ⟨(some 3), .p (.mv (.c (.bool false))), none, 0, 0⟩] false)
  .ret))),
  [.c 2 3 true, .t 3]⟩

/-- jettison/expr.Right$1 -/
def q_expr_Right_1 : AFn := ⟨6,
  (.seq (.reg [⟨(some 1), .e (.box (.t 0)), none, 0, 0⟩,
    ⟨(some 2), .p (.mv (.c (.bool false))), none, 0, 0⟩] false)
  (.seq (.reg [⟨(some 3), .r (.load 6 true (.t 1)), none, 0, 0⟩,
    ⟨(some 4), .e (.call (.c (.fn (.func 153) [] [])) [(.t 3)]), none, 0, 0⟩,
    ⟨(some 5), .p (.un .not (.t 4)), none, 0, 0⟩,
    ⟨(some 2), .p (.mv (.t 5)), none, 0, 0⟩] false)
  .ret)),
  [.t 2]⟩

/-- jettison/expr.Level -/
def q_expr_Level : AFn := ⟨7,
  (.seq (.reg [⟨(some 1), .e (.box (.t 0)), none, 0, 0⟩,
    ⟨(some 2), .p (.mv (.c (.int .i64 0))), none, 0, 0⟩] false)
  (.seq (.reg [⟨(some 3), .e (.call (.c (.fn (.func 65) [] [])) []), none, 0, 0⟩,
    ⟨(some 4), .p (.mkF (.func 216) [] [(.t 1)]), none, 0, 0⟩,
    ⟨(some 5), .e (.call (.c (.fn (.func 215) [] [])) [(.t 3), (.t 4)]), none, 0, 0⟩,
    ⟨(some 6), .p (.bin .add .other (.c (.int .i64 1)) (.t 5)), none, 0, 0⟩,
    ⟨(some 2), .p (.mv (.t 6)), none, 0, 0⟩] false)
  .ret)),
  [.t 2]⟩

/-- (jettison/expr.Expr).types$1 -/
def q_expr_Expr_types_1 : AFn := ⟨8,
  (.seq (.reg [⟨(some 2), .e (.box (.t 0)), none, 0, 0⟩,
    ⟨(some 3), .p (.mv (.c (.bool false))), none, 0, 0⟩] false)
  (.seq (.reg [⟨(some 4), .r (.load 6 true (.t 2)), none, 0, 0⟩,
    ⟨(some 5), .e (.call (.c (.fn (.func 154) [] [])) [(.t 4)]), none, 0, 0⟩,
    ⟨(some 6), .r (.load 1 false (.t 1)), none, 1, 0⟩,
    ⟨(some 7), .p (.bin .neq .other (.t 5) (.t 6)), none, 0, 0⟩,
    ⟨(some 3), .p (.mv (.t 7)), none, 0, 0⟩] true)
  .ret)),
  [.t 3]⟩

def q_slices_IndexFunc_expr_Expr_expr_Expr_b0 : ACode :=
  (.seq (.reg [⟨(some 9), .p (.bin .lss .other (.t 8) (.t 7)), none, 0, 0⟩] false)
     (.seq (.cond (.t 9)
       .skip
       (.exit 0))
     (.seq (.block 1
       (.seq (.reg [⟨(some 10), .p (.mv (.t 8)), none, 0, 0⟩,
         ⟨(some 5), .p (.mv (.t 10)), none, 0, 0⟩] false)
       (.seq (.reg [⟨(some 11), .p (.mv (.t 1)), none, 0, 0⟩,
         ⟨(some 12), .p (.mv (.t 0)), none, 0, 0⟩,
         ⟨(some 13), .p (.mv (.t 5)), none, 0, 0⟩,
         ⟨(some 14), .p (.iaddrS 6 (.t 12) (.t 13)), none, 0, 0⟩,
         ⟨(some 15), .r (.load 6 true (.t 14)), none, 0, 0⟩,
         ⟨(some 16), .e (.call (.t 11) [(.t 15)]), none, 0, 0⟩] false)
       (.cond (.t 16)
        (.seq (.reg [⟨(some 17), .p (.mv (.t 5)), none, 0, 0⟩,
          ⟨(some 4), .p (.mv (.t 17)), none, 0, 0⟩] false)
        .ret)
        .skip))))
     (.reg [⟨(some 18), .p (.bin .add .other (.t 8) (.c (.int .i64 1))), none, 0, 0⟩,
      ⟨(some 8), .p (.mv (.t 18)), none, 0, 0⟩] false))))

/-- slices.IndexFunc[[]jettison/expr.Expr,jettison/expr.Expr] -/
def q_slices_IndexFunc_expr_Expr_expr_Expr : AFn := ⟨19,
  (.seq (.reg [⟨(some 4), .p (.mv (.c (.int .i64 0))), none, 0, 0⟩] false)
  (.seq (.seq (.reg [⟨(some 6), .p (.mv (.t 0)), none, 0, 0⟩,
     ⟨(some 7), .p (.len (.t 6)), none, 0, 0⟩,
     ⟨(some 8), .p (.mv (.c (.int .i64 0))), none, 0, 0⟩] false)
   (.block 0
    (.loop q_slices_IndexFunc_expr_Expr_expr_Expr_b0)))
  (.seq (.reg [⟨(some 4), .p (.mv (.c (.int .i64 (-1)))), none, 0, 0⟩] false)
  .ret))),
  [.t 4]⟩

/-- slices.ContainsFunc[[]int,int] -/
def q_slices_ContainsFunc_int_int : AFn := ⟨9,
  (.seq (.reg [⟨(some 4), .p (.mv (.c (.bool false))), none, 0, 0⟩] false)
  (.seq (.reg [⟨(some 5), .p (.mv (.t 0)), none, 0, 0⟩,
    ⟨(some 6), .p (.mv (.t 1)), none, 0, 0⟩,
    ⟨(some 7), .e (.call (.c (.fn (.func 218) [] [])) [(.t 5), (.t 6)]), none, 0, 0⟩,
    ⟨(some 8), .p (.bin .geq .other (.t 7) (.c (.int .i64 0))), none, 0, 0⟩,
    ⟨(some 4), .p (.mv (.t 8)), none, 0, 0⟩] false)
  .ret)),
  [.t 4]⟩

/-- (*jettison/check.checker).has$1 -/
def q_check_checker_has_1 : AFn := ⟨15,
  (.seq (.reg [⟨(some 4), .p (.mv (.c (.bool false))), none, 0, 0⟩] false)
  (.seq (.reg [⟨(some 5), .r (.load 1 false (.t 1)), none, 0, 0⟩,
    ⟨(some 6), .p (.nilchk (.t 5)), none, 0, 0⟩,
    ⟨(some 7), .p (.faddr 0 (.t 6)), none, 0, 0⟩,
    ⟨(some 8), .r (.load 1 false (.t 7)), none, 0, 0⟩,
    ⟨(some 9), .p (.mv (.t 0)), none, 0, 0⟩,
    ⟨(some 10), .p (.iaddrS 2 (.t 8) (.t 9)), none, 0, 0⟩,
    ⟨(some 11), .r (.load 2 true (.t 10)), none, 0, 0⟩,
    ⟨(some 12), .r (.load 1 false (.t 2)), none, 0, 0⟩,
    ⟨(some 13), .e (.call (.c (.fn (.func 119) [] [])) [(.t 11), (.t 12)]), none, 0, 0⟩,
    ⟨(some 14), .p (.bin .lss .other (.t 13) (.c (.int .i64 0))), none, 0, 0⟩,
    ⟨(some 4), .p (.mv (.t 14)), none, 0, 0⟩] true)
  .ret)),
  [.t 4]⟩

/-- (*strings.asciiSet).contains -/
def q_strings_asciiSet_contains : AFn := ⟨10,
  (.seq (.reg [⟨(some 4), .p (.mv (.c (.bool false))), none, 0, 0⟩] false)
  (.seq (.reg [⟨(some 5), .p (.mv (.t 0)), none, 0, 0⟩,
    ⟨(some 6), .p (.mv (.t 1)), none, 0, 0⟩,
    ⟨(some 7), .p (.nilchk (.t 5)), none, 0, 0⟩,
    ⟨(some 8), .p (.iaddrA 256 1 (.t 7) (.t 6)), none, 0, 0⟩,
    ⟨(some 9), .r (.load 1 false (.t 8)), none, 0, 0⟩,
    ⟨(some 4), .p (.mv (.t 9)), none, 0, 0⟩] false)
  .ret)),
  [.t 4]⟩

/-- unicode/utf8.DecodeRuneInString -/
def q_unicode_utf8_DecodeRuneInString : AFn := ⟨19,
  (.seq (.reg [⟨(some 2), .p (.mv (.c (.int .i32 0))), none, 0, 0⟩,
    ⟨(some 3), .p (.mv (.c (.int .i64 0))), none, 0, 0⟩] false)
  (.seq (.seq (.reg [⟨(some 4), .p (.mv (.t 0)), none, 0, 0⟩,
     ⟨(some 5), .p (.bin .neq .other (.t 4) (.c (.str []))), none, 0, 0⟩,
     ⟨(some 6), .p (.mv (.t 5)), none, 0, 0⟩,
     ⟨(some 7), .p (.mv (.t 0)), (some (6, true)), 0, 0⟩,
     ⟨(some 8), .p (.idxStr (.t 7) (.c (.int .i64 0))), (some (6, true)), 0, 0⟩,
     ⟨(some 9), .p (.bin .lss .other (.t 8) (.c (.int .u8 128))), (some (6, true)), 0, 0⟩,
     ⟨(some 10), .p (.pick (.t 6) (.t 9) (.c (.bool false))), none, 0, 0⟩] false)
   (.cond (.t 10)
    (.seq (.reg [⟨(some 11), .p (.mv (.t 0)), none, 0, 0⟩,
      ⟨(some 12), .p (.idxStr (.t 11) (.c (.int .i64 0))), none, 0, 0⟩,
      ⟨(some 13), .p (.convInt .i32 (.t 12)), none, 0, 0⟩,
      ⟨(some 2), .p (.mv (.t 13)), none, 0, 0⟩,
      ⟨(some 3), .p (.mv (.c (.int .i64 1))), none, 0, 0⟩] false)
    .ret)
    (.reg [⟨(some 15), .p (.mv (.t 0)), none, 0, 0⟩,
     ⟨(some 16), .e (.call (.c (.fn (.func 219) [] [])) [(.t 15)]), none, 0, 0⟩,
     ⟨(some 14), .p (.mv (.t 16)), none, 0, 0⟩,
     ⟨(some 17), .p (.ext 0 (.t 14)), none, 0, 0⟩,
     ⟨(some 18), .p (.ext 1 (.t 14)), none, 0, 0⟩,
     ⟨(some 2), .p (.mv (.t 17)), none, 0, 0⟩,
     ⟨(some 3), .p (.mv (.t 18)), none, 0, 0⟩] false)))
  .ret)),
  [.t 2, .t 3]⟩

/-- strings.ContainsRune -/
def q_strings_ContainsRune : AFn := ⟨9,
  (.seq (.reg [⟨(some 4), .p (.mv (.c (.bool false))), none, 0, 0⟩] false)
  (.seq (.reg [⟨(some 5), .p (.mv (.t 0)), none, 0, 0⟩,
    ⟨(some 6), .p (.mv (.t 1)), none, 0, 0⟩,
    ⟨(some 7), .e (.call (.c (.fn (.func 220) [] [])) [(.t 5), (.t 6)]), none, 0, 0⟩,
    ⟨(some 8), .p (.bin .geq .other (.t 7) (.c (.int .i64 0))), none, 0, 0⟩,
    ⟨(some 4), .p (.mv (.t 8)), none, 0, 0⟩] false)
  .ret)),
  [.t 4]⟩

/-- strings.HasPrefix -/
def q_strings_HasPrefix : AFn := ⟨8,
  (.seq (.reg [⟨(some 4), .p (.mv (.c (.bool false))), none, 0, 0⟩] false)
  (.seq (.reg [⟨(some 5), .p (.mv (.t 0)), none, 0, 0⟩,
    ⟨(some 6), .p (.mv (.t 1)), none, 0, 0⟩,
    ⟨(some 7), .e (.call (.c (.fn (.func 221) [] [])) [(.t 5), (.t 6)]), none, 0, 0⟩,
    ⟨(some 4), .p (.mv (.t 7)), none, 0, 0⟩] false)
  .ret)),
  [.t 4]⟩

/-- jettison/lex.both -/
def q_lex_both : AFn := ⟨9,
  (.seq (.reg [⟨(some 2), .p (.mv (.c (.bool false))), none, 0, 0⟩] false)
  (.seq (.reg [⟨(some 3), .p (.mv (.t 0)), none, 0, 0⟩,
    ⟨(some 4), .e (.call (.c (.fn (.func 163) [] [])) [(.t 3)]), none, 0, 0⟩,
    ⟨(some 5), .p (.mv (.t 4)), none, 0, 0⟩,
    ⟨(some 6), .p (.mv (.t 0)), (some (5, false)), 0, 0⟩,
    ⟨(some 7), .e (.call (.c (.fn (.func 165) [] [])) [(.t 6)]), (some (5, false)), 0, 0⟩,
    ⟨(some 8), .p (.pick (.t 5) (.c (.bool true)) (.t 7)), none, 0, 0⟩,
    ⟨(some 2), .p (.mv (.t 8)), none, 0, 0⟩] false)
  .ret)),
  [.t 2]⟩

/-- strconv.ParseInt -/
def q_strconv_ParseInt : AFn := ⟨25,
  (.seq (.reg [⟨(some 6), .p (.mv (.c (.int .i64 0))), none, 0, 0⟩,
    ⟨(some 7), .p (.mv (.c .nili)), none, 0, 0⟩] false)
  (.seq (.reg [⟨(some 10), .p (.mv (.t 0)), none, 0, 0⟩,
    ⟨(some 11), .p (.mv (.t 1)), none, 0, 0⟩,
    ⟨(some 12), .p (.mv (.t 2)), none, 0, 0⟩,
    ⟨(some 13), .e (.call (.c (.fn (.func 222) [] [])) [(.t 10), (.t 11), (.t 12)]), none, 0, 0⟩,
    ⟨(some 9), .p (.mv (.t 13)), none, 0, 0⟩,
    ⟨(some 14), .p (.ext 0 (.t 9)), none, 0, 0⟩,
    ⟨(some 15), .p (.ext 1 (.t 9)), none, 0, 0⟩,
    ⟨(some 8), .p (.mv (.t 14)), none, 0, 0⟩,
    ⟨(some 7), .p (.mv (.t 15)), none, 0, 0⟩] false)
  (.seq (.seq (.reg [⟨(some 16), .p (.mv (.t 7)), none, 0, 0⟩,
     ⟨(some 17), .p (.bin .neq .iface (.t 16) (.c .nili)), none, 0, 0⟩] false)
   (.cond (.t 17)
    (.seq (.reg [⟨(some 18), .p (.mv (.t 8)), none, 0, 0⟩,
      ⟨(some 19), .p (.mv (.t 0)), none, 0, 0⟩,
      ⟨(some 20), .p (.mv (.t 1)), none, 0, 0⟩,
      ⟨(some 21), .p (.mv (.t 2)), none, 0, 0⟩,
      ⟨(some 22), .p (.mv (.t 7)), none, 0, 0⟩,
      ⟨(some 23), .e (.call (.c (.fn (.func 223) [] [])) [(.c (.str [80, 97, 114, 115, 101, 73, 110, 116])), (.t 19), (.t 20), (.t 21), (.t 22)]), none, 0, 0⟩,
      ⟨(some 6), .p (.mv (.t 18)), none, 0, 0⟩,
      ⟨(some 7), .p (.mv (.t 23)), none, 0, 0⟩] false)
    .ret)
    .skip))
  (.seq (.reg [⟨(some 24), .p (.mv (.t 8)), none, 0, 0⟩,
    ⟨(some 6), .p (.mv (.t 24)), none, 0, 0⟩,
    ⟨(some 7), .p (.mv (.c .nili)), none, 0, 0⟩] false)
  .ret)))),
  [.t 6, .t 7]⟩

/-- jettison/lex.Signs -/
def q_lex_Signs : AFn := ⟨2,
  (.seq (.reg [⟨(some 0), .p (.mv (.c (.sl .full []))), none, 0, 0⟩] false)
  (.seq (.reg [⟨(some 1), .e (.call (.c (.fn (.func 224) [] [])) [(.c (.str [59, 32, 33, 32, 124, 32, 40, 32, 41, 32, 123, 32, 125, 32, 44, 32, 91, 32, 93, 32, 46, 32, 43, 32, 45, 32, 42, 32, 47, 32, 37, 32, 60, 32, 62, 32, 61, 61, 32, 33, 61, 32, 60, 61, 32, 62, 61, 32, 38, 38, 32, 124, 124]))]), none, 0, 0⟩,
    ⟨(some 0), .p (.mv (.t 1)), none, 0, 0⟩] false)
  .ret)),
  [.t 0]⟩

/-- slices.SortStableFunc[[]string,string] -/
def q_slices_SortStableFunc_string_string : AFn := ⟨9,
  (.reg [⟨(some 4), .p (.mv (.t 0)), none, 0, 0⟩,
   ⟨(some 5), .p (.mv (.t 0)), none, 0, 0⟩,
   ⟨(some 6), .p (.len (.t 5)), none, 0, 0⟩,
   ⟨(some 7), .p (.mv (.t 1)), none, 0, 0⟩,
   ⟨(some 8), .e (.call (.c (.fn (.func 225) [] [])) [(.t 4), (.t 6), (.t 7)]), none, 0, 0⟩] false),
  []⟩

/-- jettison/lex.sign$1 -/
def q_lex_sign_1 : AFn := ⟨10,
  (.seq (.reg [⟨(some 4), .p (.mv (.c (.int .i64 0))), none, 0, 0⟩] false)
  (.seq (.reg [⟨(some 5), .p (.mv (.t 1)), none, 0, 0⟩,
    ⟨(some 6), .p (.lenS (.t 5)), none, 0, 0⟩,
    ⟨(some 7), .p (.mv (.t 0)), none, 0, 0⟩,
    ⟨(some 8), .p (.lenS (.t 7)), none, 0, 0⟩,
    ⟨(some 9), .p (.bin .sub .other (.t 6) (.t 8)), none, 0, 0⟩,
    ⟨(some 4), .p (.mv (.t 9)), none, 0, 0⟩] false)
  .ret)),
  [.t 4]⟩

def q_slices_IndexFunc_string_string_b0 : ACode :=
  (.seq (.reg [⟨(some 9), .p (.bin .lss .other (.t 8) (.t 7)), none, 0, 0⟩] false)
     (.seq (.cond (.t 9)
       .skip
       (.exit 0))
     (.seq (.block 1
       (.seq (.reg [⟨(some 10), .p (.mv (.t 8)), none, 0, 0⟩,
         ⟨(some 5), .p (.mv (.t 10)), none, 0, 0⟩] false)
       (.seq (.reg [⟨(some 11), .p (.mv (.t 1)), none, 0, 0⟩,
         ⟨(some 12), .p (.mv (.t 0)), none, 0, 0⟩,
         ⟨(some 13), .p (.mv (.t 5)), none, 0, 0⟩,
         ⟨(some 14), .p (.iaddrS 1 (.t 12) (.t 13)), none, 0, 0⟩,
         ⟨(some 15), .r (.load 1 false (.t 14)), none, 0, 0⟩,
         ⟨(some 16), .e (.call (.t 11) [(.t 15)]), none, 0, 0⟩] false)
       (.cond (.t 16)
        (.seq (.reg [⟨(some 17), .p (.mv (.t 5)), none, 0, 0⟩,
          ⟨(some 4), .p (.mv (.t 17)), none, 0, 0⟩] false)
        .ret)
        .skip))))
     (.reg [⟨(some 18), .p (.bin .add .other (.t 8) (.c (.int .i64 1))), none, 0, 0⟩,
      ⟨(some 8), .p (.mv (.t 18)), none, 0, 0⟩] false))))

/-- slices.IndexFunc[[]string,string] -/
def q_slices_IndexFunc_string_string : AFn := ⟨19,
  (.seq (.reg [⟨(some 4), .p (.mv (.c (.int .i64 0))), none, 0, 0⟩] false)
  (.seq (.seq (.reg [⟨(some 6), .p (.mv (.t 0)), none, 0, 0⟩,
     ⟨(some 7), .p (.len (.t 6)), none, 0, 0⟩,
     ⟨(some 8), .p (.mv (.c (.int .i64 0))), none, 0, 0⟩] false)
   (.block 0
    (.loop q_slices_IndexFunc_string_string_b0)))
  (.seq (.reg [⟨(some 4), .p (.mv (.c (.int .i64 (-1)))), none, 0, 0⟩] false)
  .ret))),
  [.t 4]⟩

/-- jettison/lex.sign$2 -/
def q_lex_sign_2 : AFn := ⟨7,
  (.seq (.reg [⟨(some 3), .p (.mv (.c (.bool false))), none, 0, 0⟩] false)
  (.seq (.reg [⟨(some 4), .r (.load 1 false (.t 1)), none, 0, 0⟩,
    ⟨(some 5), .p (.mv (.t 0)), none, 0, 0⟩,
    ⟨(some 6), .e (.call (.c (.fn (.func 199) [] [])) [(.t 4), (.t 5)]), none, 0, 0⟩,
    ⟨(some 3), .p (.mv (.t 6)), none, 0, 0⟩] false)
  .ret)),
  [.t 3]⟩

def q_parse_parser_above_b0 : ACode :=
  (.seq (.seq (.reg [⟨(some 10), .p (.mv (.t 0)), none, 0, 0⟩,
        ⟨(some 11), .e (.call (.c (.fn (.func 227) [] [])) [(.t 10)]), none, 0, 0⟩,
        ⟨(some 12), .p (.mv (.t 1)), none, 0, 0⟩,
        ⟨(some 13), .p (.bin .gtr .other (.t 11) (.t 12)), none, 0, 0⟩] false)
      (.cond (.t 13)
       .skip
       (.exit 0)))
     (.block 1
      (.seq (.reg [⟨(some 14), .p (.mv (.t 0)), none, 0, 0⟩,
        ⟨(some 15), .e (.call (.c (.fn (.func 227) [] [])) [(.t 14)]), none, 0, 0⟩,
        ⟨(some 6), .p (.mv (.t 15)), none, 0, 0⟩] false)
      (.seq (.reg [⟨(some 16), .p (.mv (.t 0)), none, 0, 0⟩,
        ⟨(some 17), .e (.call (.c (.fn (.func 127) [] [])) [(.t 16), (.c (.int .i64 3))]), none, 0, 0⟩,
        ⟨(some 18), .p (.field 1 1 false (.t 17)), none, 0, 0⟩,
        ⟨(some 7), .p (.mv (.t 18)), none, 0, 0⟩] false)
      (.reg [⟨(some 19), .p (.mv (.t 7)), none, 0, 1⟩,
       ⟨(some 20), .r (.load 6 true (.t 5)), none, 0, 1⟩,
       ⟨(some 21), .p (.mv (.t 0)), none, 0, 0⟩,
       ⟨(some 22), .p (.mv (.t 6)), none, 0, 0⟩,
       ⟨(some 23), .e (.call (.c (.fn (.func 207) [] [])) [(.t 21), (.t 22)]), none, 0, 0⟩,
       ⟨(some 24), .p (.bslice 6 [(.t 20), (.t 23)]), none, 0, 0⟩,
       ⟨(some 25), .p (.build [(.int .i64 0), (.str []), (.int .i64 0), (.str []), (.str []), (.sl .full [])] [(0, 1, (.c (.int .i64 3))), (1, 1, (.t 19)), (5, 1, (.t 24))]), none, 0, 0⟩,
       ⟨none, .e (.store 6 (.t 5) (.t 25)), none, 0, 0⟩] true)))))

/-- (*jettison/parse.parser).above -/
def q_parse_parser_above : AFn := ⟨27,
  (.seq (.reg [⟨(some 4), .al [(.int .i64 0), (.str []), (.int .i64 0), (.str []), (.str []), (.sl .full [])], none, 0, 0⟩] false)
  (.seq (.reg [⟨(some 8), .p (.mv (.t 0)), none, 0, 0⟩,
    ⟨(some 9), .e (.call (.c (.fn (.func 226) [] [])) [(.t 8)]), none, 0, 0⟩,
    ⟨(some 5), .al [(.int .i64 0), (.str []), (.int .i64 0), (.str []), (.str []), (.sl .full [])], none, 0, 0⟩,
    ⟨none, .e (.store 6 (.t 5) (.t 9)), none, 0, 0⟩] false)
  (.seq (.block 0
    (.loop q_parse_parser_above_b0))
  (.seq (.reg [⟨(some 26), .r (.load 6 true (.t 5)), none, 0, 0⟩,
    ⟨none, .e (.store 6 (.t 4) (.t 26)), none, 0, 0⟩] false)
  .ret)))),
  [.c 4 6 true]⟩

/-- math/bits.TrailingZeros32 -/
def q_math_bits_TrailingZeros32 : AFn := ⟨14,
  (.seq (.reg [⟨(some 2), .p (.mv (.c (.int .i64 0))), none, 0, 0⟩] false)
  (.seq (.seq (.reg [⟨(some 3), .p (.mv (.t 0)), none, 0, 0⟩,
     ⟨(some 4), .p (.bin .eql .other (.t 3) (.c (.int .u32 0))), none, 0, 0⟩] false)
   (.cond (.t 4)
    (.seq (.reg [⟨(some 2), .p (.mv (.c (.int .i64 32))), none, 0, 0⟩] false)
    .ret)
    .skip))
  (.seq (.reg [⟨(some 5), .p (.mv (.t 0)), none, 0, 0⟩,
    ⟨(some 6), .p (.mv (.t 0)), none, 0, 0⟩,
    ⟨(some 7), .p (.un .neg (.t 6)), none, 0, 0⟩,
    ⟨(some 8), .p (.bin .and .other (.t 5) (.t 7)), none, 0, 0⟩,
    ⟨(some 9), .p (.bin .mul .other (.t 8) (.c (.int .u32 125613361))), none, 0, 0⟩,
    ⟨(some 10), .p (.bin .shr .other (.t 9) (.c (.int .u64 27))), none, 0, 0⟩,
    ⟨(some 11), .e (.bad), none, 0, 0⟩,
    ⟨(some 12), .r (.load 1 false (.t 11)), none, 0, 0⟩,
    ⟨(some 13), .p (.convInt .i64 (.t 12)), none, 0, 0⟩,
    ⟨(some 2), .p (.mv (.t 13)), none, 0, 0⟩] false)
  .ret))),
  [.t 2]⟩

/-- math/bits.TrailingZeros64 -/
def q_math_bits_TrailingZeros64 : AFn := ⟨14,
  (.seq (.reg [⟨(some 2), .p (.mv (.c (.int .i64 0))), none, 0, 0⟩] false)
  (.seq (.seq (.reg [⟨(some 3), .p (.mv (.t 0)), none, 0, 0⟩,
     ⟨(some 4), .p (.bin .eql .other (.t 3) (.c (.int .u64 0))), none, 0, 0⟩] false)
   (.cond (.t 4)
    (.seq (.reg [⟨(some 2), .p (.mv (.c (.int .i64 64))), none, 0, 0⟩] false)
    .ret)
    .skip))
  (.seq (.reg [⟨(some 5), .p (.mv (.t 0)), none, 0, 0⟩,
    ⟨(some 6), .p (.mv (.t 0)), none, 0, 0⟩,
    ⟨(some 7), .p (.un .neg (.t 6)), none, 0, 0⟩,
    ⟨(some 8), .p (.bin .and .other (.t 5) (.t 7)), none, 0, 0⟩,
    ⟨(some 9), .p (.bin .mul .other (.t 8) (.c (.int .u64 285870213051353865))), none, 0, 0⟩,
    ⟨(some 10), .p (.bin .shr .other (.t 9) (.c (.int .u64 58))), none, 0, 0⟩,
    ⟨(some 11), .e (.bad), none, 0, 0⟩,
    ⟨(some 12), .r (.load 1 false (.t 11)), none, 0, 0⟩,
    ⟨(some 13), .p (.convInt .i64 (.t 12)), none, 0, 0⟩,
    ⟨(some 2), .p (.mv (.t 13)), none, 0, 0⟩] false)
  .ret))),
  [.t 2]⟩

/-- (*jettison/jettisonlaw11.feed).number -/
def q_jettisonlaw11_feed_number : AFn := ⟨78,
  (.seq (.reg [⟨(some 8), .al [(.int .i64 0), (.str []), (.int .i64 0), (.str []), (.str []), (.sl .full [])], none, 0, 0⟩] false)
  (.seq (.reg [⟨(some 11), .p (.mv (.t 0)), none, 0, 0⟩,
    ⟨(some 12), .e (.call (.c (.fn (.func 66) [] [])) [(.t 11)]), none, 0, 0⟩,
    ⟨(some 9), .p (.mv (.t 12)), none, 0, 0⟩] false)
  (.seq (.block 0
    (.seq (.reg [⟨(some 14), .p (.mv (.t 9)), none, 0, 0⟩,
      ⟨(some 15), .p (.bin .rem .other (.t 14) (.c (.int .i64 8))), none, 0, 0⟩,
      ⟨(some 16), .p (.bin .lss .other (.t 15) (.c (.int .i64 3))), none, 0, 0⟩,
      ⟨(some 17), .p (.mv (.t 16)), none, 0, 0⟩,
      ⟨(some 18), .p (.mv (.t 3)), (some (17, false)), 0, 0⟩,
      ⟨(some 19), .p (.bin .lss .other (.t 18) (.c (.int .i64 1))), (some (17, false)), 0, 0⟩,
      ⟨(some 20), .p (.mv (.t 19)), (some (17, false)), 0, 0⟩,
      ⟨(some 21), .p (.mv (.t 9)), (some (20, true)), 0, 0⟩,
      ⟨(some 22), .p (.bin .rem .other (.t 21) (.c (.int .i64 2))), (some (20, true)), 0, 0⟩,
      ⟨(some 23), .p (.bin .eql .other (.t 22) (.c (.int .i64 0))), (some (20, true)), 0, 0⟩,
      ⟨(some 24), .p (.pick (.t 20) (.t 23) (.c (.bool false))), (some (17, false)), 0, 0⟩,
      ⟨(some 25), .p (.pick (.t 17) (.c (.bool true)) (.t 24)), none, 0, 0⟩,
      ⟨(some 13), .p (.mv (.t 25)), none, 0, 0⟩] false)
    (.cond (.t 13)
     (.seq (.reg [⟨(some 26), .p (.bslice 1 [(.c (.int .i64 0)), (.c (.int .i64 1)), (.c (.int .i64 2)), (.c (.int .i64 3)), (.c (.int .i64 5)), (.c (.int .i64 9223372036854775807))]), none, 0, 0⟩,
       ⟨(some 27), .p (.mv (.t 9)), none, 0, 0⟩,
       ⟨(some 28), .p (.bin .quo .other (.t 27) (.c (.int .i64 8))), none, 0, 0⟩,
       ⟨(some 29), .p (.bin .rem .other (.t 28) (.c (.int .i64 6))), none, 0, 0⟩,
       ⟨(some 30), .p (.iaddrS 1 (.t 26) (.t 29)), none, 0, 0⟩,
       ⟨(some 31), .r (.load 1 false (.t 30)), none, 0, 0⟩,
       ⟨(some 32), .p (.build [(.int .i64 0), (.str []), (.int .i64 0), (.str []), (.str []), (.sl .full [])] [(2, 1, (.t 31))]), none, 0, 0⟩,
       ⟨none, .e (.store 6 (.t 8) (.t 32)), none, 0, 0⟩] false)
     .ret)
     (.seq (.reg [⟨(some 34), .p (.mv (.t 9)), none, 0, 0⟩,
       ⟨(some 35), .p (.bin .rem .other (.t 34) (.c (.int .i64 8))), none, 0, 0⟩,
       ⟨(some 36), .p (.bin .lss .other (.t 35) (.c (.int .i64 6))), none, 0, 0⟩,
       ⟨(some 37), .p (.mv (.t 36)), none, 0, 0⟩,
       ⟨(some 38), .p (.mv (.t 3)), (some (37, false)), 0, 0⟩,
       ⟨(some 39), .p (.bin .lss .other (.t 38) (.c (.int .i64 1))), (some (37, false)), 0, 0⟩,
       ⟨(some 40), .p (.pick (.t 37) (.c (.bool true)) (.t 39)), none, 0, 0⟩,
       ⟨(some 33), .p (.mv (.t 40)), none, 0, 0⟩] false)
     (.cond (.t 33)
      (.seq (.reg [⟨(some 41), .p (.mv (.t 0)), none, 0, 0⟩,
        ⟨(some 42), .p (.mv (.t 1)), none, 0, 0⟩,
        ⟨(some 43), .p (.mv (.t 2)), none, 0, 0⟩,
        ⟨(some 44), .e (.call (.c (.fn (.func 231) [] [])) [(.t 41), (.t 42), (.t 43)]), none, 0, 0⟩,
        ⟨none, .e (.store 6 (.t 8) (.t 44)), none, 0, 0⟩] false)
      .ret)
      (.seq (.reg [⟨(some 46), .p (.mv (.t 9)), none, 0, 0⟩,
        ⟨(some 47), .p (.bin .rem .other (.t 46) (.c (.int .i64 8))), none, 0, 0⟩,
        ⟨(some 48), .p (.bin .eql .other (.t 47) (.c (.int .i64 6))), none, 0, 0⟩,
        ⟨(some 45), .p (.mv (.t 48)), none, 0, 0⟩] false)
      (.cond (.t 45)
       (.seq (.reg [⟨(some 49), .p (.mv (.t 0)), none, 0, 0⟩,
         ⟨(some 50), .p (.mv (.t 1)), none, 0, 0⟩,
         ⟨(some 51), .p (.mv (.t 2)), none, 0, 0⟩,
         ⟨(some 52), .p (.mv (.t 3)), none, 0, 0⟩,
         ⟨(some 53), .p (.bin .sub .other (.t 52) (.c (.int .i64 1))), none, 0, 0⟩,
         ⟨(some 54), .e (.call (.c (.fn (.func 214) [] [])) [(.t 49), (.t 50), (.t 51), (.t 53)]), none, 0, 0⟩,
         ⟨(some 55), .p (.bslice 6 [(.t 54)]), none, 0, 0⟩,
         ⟨(some 56), .p (.build [(.int .i64 0), (.str []), (.int .i64 0), (.str []), (.str []), (.sl .full [])] [(0, 1, (.c (.int .i64 2))), (1, 1, (.c (.str [45]))), (5, 1, (.t 55))]), none, 0, 0⟩,
         ⟨none, .e (.store 6 (.t 8) (.t 56)), none, 0, 0⟩] false)
       .ret)
       .skip)))))))
  (.seq (.reg [⟨(some 57), .p (.mv (.t 0)), none, 0, 0⟩,
    ⟨(some 58), .p (.mv (.t 1)), none, 0, 0⟩,
    ⟨(some 59), .p (.mv (.t 2)), none, 0, 0⟩,
    ⟨(some 60), .p (.mv (.t 3)), none, 0, 0⟩,
    ⟨(some 61), .p (.bin .sub .other (.t 60) (.c (.int .i64 1))), none, 0, 0⟩,
    ⟨(some 62), .e (.call (.c (.fn (.func 214) [] [])) [(.t 57), (.t 58), (.t 59), (.t 61)]), none, 0, 0⟩,
    ⟨(some 10), .al [(.int .i64 0), (.str []), (.int .i64 0), (.str []), (.str []), (.sl .full [])], none, 0, 0⟩,
    ⟨none, .e (.store 6 (.t 10) (.t 62)), none, 0, 0⟩] false)
  (.seq (.reg [⟨(some 63), .p (.bslice 1 [(.c (.str [43])), (.c (.str [45])), (.c (.str [42])), (.c (.str [47])), (.c (.str [37]))]), none, 0, 1⟩,
    ⟨(some 64), .p (.mv (.t 9)), none, 0, 1⟩,
    ⟨(some 65), .p (.bin .quo .other (.t 64) (.c (.int .i64 8))), none, 0, 1⟩,
    ⟨(some 66), .p (.bin .rem .other (.t 65) (.c (.int .i64 5))), none, 0, 1⟩,
    ⟨(some 67), .p (.iaddrS 1 (.t 63) (.t 66)), none, 0, 1⟩,
    ⟨(some 68), .r (.load 1 false (.t 67)), none, 0, 1⟩,
    ⟨(some 69), .r (.load 6 true (.t 10)), none, 0, 1⟩,
    ⟨(some 70), .p (.mv (.t 0)), none, 0, 0⟩,
    ⟨(some 71), .p (.mv (.t 1)), none, 0, 0⟩,
    ⟨(some 72), .p (.mv (.t 2)), none, 0, 0⟩,
    ⟨(some 73), .p (.mv (.t 3)), none, 0, 0⟩,
    ⟨(some 74), .p (.bin .sub .other (.t 73) (.c (.int .i64 1))), none, 0, 0⟩,
    ⟨(some 75), .e (.call (.c (.fn (.func 214) [] [])) [(.t 70), (.t 71), (.t 72), (.t 74)]), none, 0, 0⟩,
    ⟨(some 76), .p (.bslice 6 [(.t 69), (.t 75)]), none, 0, 0⟩,
    ⟨(some 77), .p (.build [(.int .i64 0), (.str []), (.int .i64 0), (.str []), (.str []), (.sl .full [])] [(0, 1, (.c (.int .i64 3))), (1, 1, (.t 68)), (5, 1, (.t 76))]), none, 0, 0⟩,
    ⟨none, .e (.store 6 (.t 8) (.t 77)), none, 0, 0⟩] true)
  .ret))))),
  [.c 8 6 true]⟩

def q_slices_IndexFunc_string_stringx_b0 : ACode :=
  (.seq (.reg [⟨(some 9), .p (.bin .lss .other (.t 8) (.t 7)), none, 0, 0⟩] false)
     (.seq (.cond (.t 9)
       .skip
       (.exit 0))
     (.seq (.block 1
       (.seq (.reg [⟨(some 10), .p (.mv (.t 8)), none, 0, 0⟩,
         ⟨(some 5), .p (.mv (.t 10)), none, 0, 0⟩] false)
       (.seq (.reg [⟨(some 11), .p (.mv (.t 1)), none, 0, 0⟩,
         ⟨(some 12), .p (.mv (.t 0)), none, 0, 0⟩,
         ⟨(some 13), .p (.mv (.t 5)), none, 0, 0⟩,
         ⟨(some 14), .p (.iaddrS 1 (.t 12) (.t 13)), none, 0, 0⟩,
         ⟨(some 15), .r (.load 1 false (.t 14)), none, 0, 0⟩,
         ⟨(some 16), .e (.call (.t 11) [(.t 15)]), none, 0, 0⟩] false)
       (.cond (.t 16)
        (.seq (.reg [⟨(some 17), .p (.mv (.t 5)), none, 0, 0⟩,
          ⟨(some 4), .p (.mv (.t 17)), none, 0, 0⟩] false)
        .ret)
        .skip))))
     (.reg [⟨(some 18), .p (.bin .add .other (.t 8) (.c (.int .i64 1))), none, 0, 0⟩,
      ⟨(some 8), .p (.mv (.t 18)), none, 0, 0⟩] false))))

/-- slices.IndexFunc[[][]string,[]string] -/
def q_slices_IndexFunc_string_stringx : AFn := ⟨19,
  (.seq (.reg [⟨(some 4), .p (.mv (.c (.int .i64 0))), none, 0, 0⟩] false)
  (.seq (.seq (.reg [⟨(some 6), .p (.mv (.t 0)), none, 0, 0⟩,
     ⟨(some 7), .p (.len (.t 6)), none, 0, 0⟩,
     ⟨(some 8), .p (.mv (.c (.int .i64 0))), none, 0, 0⟩] false)
   (.block 0
    (.loop q_slices_IndexFunc_string_stringx_b0)))
  (.seq (.reg [⟨(some 4), .p (.mv (.c (.int .i64 (-1)))), none, 0, 0⟩] false)
  .ret))),
  [.t 4]⟩

/-- jettison/expr.Level$1 -/
def q_expr_Level_1 : AFn := ⟨7,
  (.seq (.reg [⟨(some 3), .p (.mv (.c (.bool false))), none, 0, 0⟩] false)
  (.seq (.reg [⟨(some 4), .p (.mv (.t 0)), none, 0, 0⟩,
    ⟨(some 5), .r (.load 1 false (.t 1)), none, 0, 0⟩,
    ⟨(some 6), .e (.call (.c (.fn (.func 217) [] [])) [(.t 4), (.t 5)]), none, 0, 0⟩,
    ⟨(some 3), .p (.mv (.t 6)), none, 0, 0⟩] false)
  .ret)),
  [.t 3]⟩

/-- slices.Contains[[]string,string] -/
def q_slices_Contains_string_string : AFn := ⟨9,
  (.seq (.reg [⟨(some 4), .p (.mv (.c (.bool false))), none, 0, 0⟩] false)
  (.seq (.reg [⟨(some 5), .p (.mv (.t 0)), none, 0, 0⟩,
    ⟨(some 6), .p (.mv (.t 1)), none, 0, 0⟩,
    ⟨(some 7), .e (.call (.c (.fn (.func 114) [] [])) [(.t 5), (.t 6)]), none, 0, 0⟩,
    ⟨(some 8), .p (.bin .geq .other (.t 7) (.c (.int .i64 0))), none, 0, 0⟩,
    ⟨(some 4), .p (.mv (.t 8)), none, 0, 0⟩] false)
  .ret)),
  [.t 4]⟩

def q_slices_IndexFunc_int_int_b0 : ACode :=
  (.seq (.reg [⟨(some 9), .p (.bin .lss .other (.t 8) (.t 7)), none, 0, 0⟩] false)
     (.seq (.cond (.t 9)
       .skip
       (.exit 0))
     (.seq (.block 1
       (.seq (.reg [⟨(some 10), .p (.mv (.t 8)), none, 0, 0⟩,
         ⟨(some 5), .p (.mv (.t 10)), none, 0, 0⟩] false)
       (.seq (.reg [⟨(some 11), .p (.mv (.t 1)), none, 0, 0⟩,
         ⟨(some 12), .p (.mv (.t 0)), none, 0, 0⟩,
         ⟨(some 13), .p (.mv (.t 5)), none, 0, 0⟩,
         ⟨(some 14), .p (.iaddrS 1 (.t 12) (.t 13)), none, 0, 0⟩,
         ⟨(some 15), .r (.load 1 false (.t 14)), none, 0, 0⟩,
         ⟨(some 16), .e (.call (.t 11) [(.t 15)]), none, 0, 0⟩] false)
       (.cond (.t 16)
        (.seq (.reg [⟨(some 17), .p (.mv (.t 5)), none, 0, 0⟩,
          ⟨(some 4), .p (.mv (.t 17)), none, 0, 0⟩] false)
        .ret)
        .skip))))
     (.reg [⟨(some 18), .p (.bin .add .other (.t 8) (.c (.int .i64 1))), none, 0, 0⟩,
      ⟨(some 8), .p (.mv (.t 18)), none, 0, 0⟩] false))))

/-- slices.IndexFunc[[]int,int] -/
def q_slices_IndexFunc_int_int : AFn := ⟨19,
  (.seq (.reg [⟨(some 4), .p (.mv (.c (.int .i64 0))), none, 0, 0⟩] false)
  (.seq (.seq (.reg [⟨(some 6), .p (.mv (.t 0)), none, 0, 0⟩,
     ⟨(some 7), .p (.len (.t 6)), none, 0, 0⟩,
     ⟨(some 8), .p (.mv (.c (.int .i64 0))), none, 0, 0⟩] false)
   (.block 0
    (.loop q_slices_IndexFunc_int_int_b0)))
  (.seq (.reg [⟨(some 4), .p (.mv (.c (.int .i64 (-1)))), none, 0, 0⟩] false)
  .ret))),
  [.t 4]⟩

/-- unicode/utf8.decodeRuneInStringSlow -/
def q_unicode_utf8_decodeRuneInStringSlow : AFn := ⟨117,
  (.seq (.reg [⟨(some 2), .p (.mv (.c (.int .i32 0))), none, 0, 0⟩,
    ⟨(some 3), .p (.mv (.c (.int .i64 0))), none, 0, 0⟩] false)
  (.seq (.reg [⟨(some 13), .p (.mv (.t 0)), none, 0, 0⟩,
    ⟨(some 14), .p (.lenS (.t 13)), none, 0, 0⟩,
    ⟨(some 4), .p (.mv (.t 14)), none, 0, 0⟩] false)
  (.seq (.seq (.reg [⟨(some 15), .p (.mv (.t 4)), none, 0, 0⟩,
     ⟨(some 16), .p (.bin .lss .other (.t 15) (.c (.int .i64 1))), none, 0, 0⟩] false)
   (.cond (.t 16)
    (.seq (.reg [⟨(some 2), .p (.mv (.c (.int .i32 65533))), none, 0, 0⟩,
      ⟨(some 3), .p (.mv (.c (.int .i64 0))), none, 0, 0⟩] false)
    .ret)
    .skip))
  (.seq (.reg [⟨(some 17), .p (.mv (.t 0)), none, 0, 0⟩,
    ⟨(some 18), .p (.idxStr (.t 17) (.c (.int .i64 0))), none, 0, 0⟩,
    ⟨(some 5), .p (.mv (.t 18)), none, 0, 0⟩] false)
  (.seq (.reg [⟨(some 19), .p (.mv (.t 5)), none, 0, 0⟩,
    ⟨(some 20), .p (.iaddrA 256 1 (.c (.ept g0)) (.t 19)), none, 0, 0⟩,
    ⟨(some 21), .r (.load 1 false (.t 20)), none, 0, 0⟩,
    ⟨(some 6), .p (.mv (.t 21)), none, 0, 0⟩] false)
  (.seq (.seq (.reg [⟨(some 22), .p (.mv (.t 6)), none, 0, 0⟩,
     ⟨(some 23), .p (.bin .geq .other (.t 22) (.c (.int .u8 240))), none, 0, 0⟩] false)
   (.cond (.t 23)
    (.seq (.reg [⟨(some 24), .p (.mv (.t 6)), none, 0, 0⟩,
      ⟨(some 25), .p (.convInt .i32 (.t 24)), none, 0, 0⟩,
      ⟨(some 26), .p (.bin .shl .other (.t 25) (.c (.int .u64 31))), none, 0, 0⟩,
      ⟨(some 27), .p (.bin .shr .other (.t 26) (.c (.int .u64 31))), none, 0, 0⟩,
      ⟨(some 7), .p (.mv (.t 27)), none, 0, 0⟩] false)
    (.seq (.reg [⟨(some 28), .p (.mv (.t 0)), none, 0, 0⟩,
      ⟨(some 29), .p (.idxStr (.t 28) (.c (.int .i64 0))), none, 0, 0⟩,
      ⟨(some 30), .p (.convInt .i32 (.t 29)), none, 0, 0⟩,
      ⟨(some 31), .p (.mv (.t 7)), none, 0, 0⟩,
      ⟨(some 32), .p (.bin .andNot .other (.t 30) (.t 31)), none, 0, 0⟩,
      ⟨(some 33), .p (.mv (.t 7)), none, 0, 0⟩,
      ⟨(some 34), .p (.bin .and .other (.c (.int .i32 65533)) (.t 33)), none, 0, 0⟩,
      ⟨(some 35), .p (.bin .or .other (.t 32) (.t 34)), none, 0, 0⟩,
      ⟨(some 2), .p (.mv (.t 35)), none, 0, 0⟩,
      ⟨(some 3), .p (.mv (.c (.int .i64 1))), none, 0, 0⟩] false)
    .ret))
    .skip))
  (.seq (.reg [⟨(some 36), .p (.mv (.t 6)), none, 0, 0⟩,
    ⟨(some 37), .p (.bin .and .other (.t 36) (.c (.int .u8 7))), none, 0, 0⟩,
    ⟨(some 38), .p (.convInt .i64 (.t 37)), none, 0, 0⟩,
    ⟨(some 8), .p (.mv (.t 38)), none, 0, 0⟩] false)
  (.seq (.reg [⟨(some 39), .p (.mv (.t 6)), none, 0, 0⟩,
    ⟨(some 40), .p (.bin .shr .other (.t 39) (.c (.int .u64 4))), none, 0, 0⟩,
    ⟨(some 41), .p (.iaddrA 16 2 (.c (.ept g1)) (.t 40)), none, 0, 0⟩,
    ⟨(some 42), .r (.load 2 true (.t 41)), none, 0, 0⟩,
    ⟨(some 9), .al [(.int .u8 0), (.int .u8 0)], none, 0, 0⟩,
    ⟨none, .e (.store 2 (.t 9) (.t 42)), none, 0, 0⟩] false)
  (.seq (.seq (.reg [⟨(some 43), .p (.mv (.t 4)), none, 0, 0⟩,
     ⟨(some 44), .p (.mv (.t 8)), none, 0, 0⟩,
     ⟨(some 45), .p (.bin .lss .other (.t 43) (.t 44)), none, 0, 0⟩] false)
   (.cond (.t 45)
    (.seq (.reg [⟨(some 2), .p (.mv (.c (.int .i32 65533))), none, 0, 0⟩,
      ⟨(some 3), .p (.mv (.c (.int .i64 1))), none, 0, 0⟩] false)
    .ret)
    .skip))
  (.seq (.reg [⟨(some 46), .p (.mv (.t 0)), none, 0, 0⟩,
    ⟨(some 47), .p (.idxStr (.t 46) (.c (.int .i64 1))), none, 0, 0⟩,
    ⟨(some 10), .p (.mv (.t 47)), none, 0, 0⟩] false)
  (.seq (.seq (.reg [⟨(some 48), .p (.mv (.t 10)), none, 0, 0⟩,
     ⟨(some 49), .p (.faddr 0 (.t 9)), none, 0, 0⟩,
     ⟨(some 50), .r (.load 1 false (.t 49)), none, 0, 0⟩,
     ⟨(some 51), .p (.bin .lss .other (.t 48) (.t 50)), none, 0, 0⟩,
     ⟨(some 52), .p (.mv (.t 51)), none, 0, 0⟩,
     ⟨(some 53), .p (.faddr 1 (.t 9)), (some (52, false)), 0, 0⟩,
     ⟨(some 54), .r (.load 1 false (.t 53)), (some (52, false)), 0, 0⟩,
     ⟨(some 55), .p (.mv (.t 10)), (some (52, false)), 0, 0⟩,
     ⟨(some 56), .p (.bin .lss .other (.t 54) (.t 55)), (some (52, false)), 0, 0⟩,
     ⟨(some 57), .p (.pick (.t 52) (.c (.bool true)) (.t 56)), none, 0, 0⟩] false)
   (.cond (.t 57)
    (.seq (.reg [⟨(some 2), .p (.mv (.c (.int .i32 65533))), none, 0, 0⟩,
      ⟨(some 3), .p (.mv (.c (.int .i64 1))), none, 0, 0⟩] false)
    .ret)
    .skip))
  (.seq (.seq (.reg [⟨(some 58), .p (.mv (.t 8)), none, 0, 0⟩,
     ⟨(some 59), .p (.bin .leq .other (.t 58) (.c (.int .i64 2))), none, 0, 0⟩] false)
   (.cond (.t 59)
    (.seq (.reg [⟨(some 60), .p (.mv (.t 5)), none, 0, 0⟩,
      ⟨(some 61), .p (.bin .and .other (.t 60) (.c (.int .u8 31))), none, 0, 0⟩,
      ⟨(some 62), .p (.convInt .i32 (.t 61)), none, 0, 0⟩,
      ⟨(some 63), .p (.bin .shl .other (.t 62) (.c (.int .u64 6))), none, 0, 0⟩,
      ⟨(some 64), .p (.mv (.t 10)), none, 0, 0⟩,
      ⟨(some 65), .p (.bin .and .other (.t 64) (.c (.int .u8 63))), none, 0, 0⟩,
      ⟨(some 66), .p (.convInt .i32 (.t 65)), none, 0, 0⟩,
      ⟨(some 67), .p (.bin .or .other (.t 63) (.t 66)), none, 0, 0⟩,
      ⟨(some 2), .p (.mv (.t 67)), none, 0, 0⟩,
      ⟨(some 3), .p (.mv (.c (.int .i64 2))), none, 0, 0⟩] false)
    .ret)
    .skip))
  (.seq (.reg [⟨(some 68), .p (.mv (.t 0)), none, 0, 0⟩,
    ⟨(some 69), .p (.idxStr (.t 68) (.c (.int .i64 2))), none, 0, 0⟩,
    ⟨(some 11), .p (.mv (.t 69)), none, 0, 0⟩] false)
  (.seq (.seq (.reg [⟨(some 70), .p (.mv (.t 11)), none, 0, 0⟩,
     ⟨(some 71), .p (.bin .lss .other (.t 70) (.c (.int .u8 128))), none, 0, 0⟩,
     ⟨(some 72), .p (.mv (.t 71)), none, 0, 0⟩,
     ⟨(some 73), .p (.mv (.t 11)), (some (72, false)), 0, 0⟩,
     ⟨(some 74), .p (.bin .lss .other (.c (.int .u8 191)) (.t 73)), (some (72, false)), 0, 0⟩,
     ⟨(some 75), .p (.pick (.t 72) (.c (.bool true)) (.t 74)), none, 0, 0⟩] false)
   (.cond (.t 75)
    (.seq (.reg [⟨(some 2), .p (.mv (.c (.int .i32 65533))), none, 0, 0⟩,
      ⟨(some 3), .p (.mv (.c (.int .i64 1))), none, 0, 0⟩] false)
    .ret)
    .skip))
  (.seq (.seq (.reg [⟨(some 76), .p (.mv (.t 8)), none, 0, 0⟩,
     ⟨(some 77), .p (.bin .leq .other (.t 76) (.c (.int .i64 3))), none, 0, 0⟩] false)
   (.cond (.t 77)
    (.seq (.reg [⟨(some 78), .p (.mv (.t 5)), none, 0, 0⟩,
      ⟨(some 79), .p (.bin .and .other (.t 78) (.c (.int .u8 15))), none, 0, 0⟩,
      ⟨(some 80), .p (.convInt .i32 (.t 79)), none, 0, 0⟩,
      ⟨(some 81), .p (.bin .shl .other (.t 80) (.c (.int .u64 12))), none, 0, 0⟩,
      ⟨(some 82), .p (.mv (.t 10)), none, 0, 0⟩,
      ⟨(some 83), .p (.bin .and .other (.t 82) (.c (.int .u8 63))), none, 0, 0⟩,
      ⟨(some 84), .p (.convInt .i32 (.t 83)), none, 0, 0⟩,
      ⟨(some 85), .p (.bin .shl .other (.t 84) (.c (.int .u64 6))), none, 0, 0⟩,
      ⟨(some 86), .p (.bin .or .other (.t 81) (.t 85)), none, 0, 0⟩,
      ⟨(some 87), .p (.mv (.t 11)), none, 0, 0⟩,
      ⟨(some 88), .p (.bin .and .other (.t 87) (.c (.int .u8 63))), none, 0, 0⟩,
      ⟨(some 89), .p (.convInt .i32 (.t 88)), none, 0, 0⟩,
      ⟨(some 90), .p (.bin .or .other (.t 86) (.t 89)), none, 0, 0⟩,
      ⟨(some 2), .p (.mv (.t 90)), none, 0, 0⟩,
      ⟨(some 3), .p (.mv (.c (.int .i64 3))), none, 0, 0⟩] false)
    .ret)
    .skip))
  (.seq (.reg [⟨(some 91), .p (.mv (.t 0)), none, 0, 0⟩,
    ⟨(some 92), .p (.idxStr (.t 91) (.c (.int .i64 3))), none, 0, 0⟩,
    ⟨(some 12), .p (.mv (.t 92)), none, 0, 0⟩] false)
  (.seq (.seq (.reg [⟨(some 93), .p (.mv (.t 12)), none, 0, 0⟩,
     ⟨(some 94), .p (.bin .lss .other (.t 93) (.c (.int .u8 128))), none, 0, 0⟩,
     ⟨(some 95), .p (.mv (.t 94)), none, 0, 0⟩,
     ⟨(some 96), .p (.mv (.t 12)), (some (95, false)), 0, 0⟩,
     ⟨(some 97), .p (.bin .lss .other (.c (.int .u8 191)) (.t 96)), (some (95, false)), 0, 0⟩,
     ⟨(some 98), .p (.pick (.t 95) (.c (.bool true)) (.t 97)), none, 0, 0⟩] false)
   (.cond (.t 98)
    (.seq (.reg [⟨(some 2), .p (.mv (.c (.int .i32 65533))), none, 0, 0⟩,
      ⟨(some 3), .p (.mv (.c (.int .i64 1))), none, 0, 0⟩] false)
    .ret)
    .skip))
  (.seq (.reg [⟨(some 99), .p (.mv (.t 5)), none, 0, 0⟩,
    ⟨(some 100), .p (.bin .and .other (.t 99) (.c (.int .u8 7))), none, 0, 0⟩,
    ⟨(some 101), .p (.convInt .i32 (.t 100)), none, 0, 0⟩,
    ⟨(some 102), .p (.bin .shl .other (.t 101) (.c (.int .u64 18))), none, 0, 0⟩,
    ⟨(some 103), .p (.mv (.t 10)), none, 0, 0⟩,
    ⟨(some 104), .p (.bin .and .other (.t 103) (.c (.int .u8 63))), none, 0, 0⟩,
    ⟨(some 105), .p (.convInt .i32 (.t 104)), none, 0, 0⟩,
    ⟨(some 106), .p (.bin .shl .other (.t 105) (.c (.int .u64 12))), none, 0, 0⟩,
    ⟨(some 107), .p (.bin .or .other (.t 102) (.t 106)), none, 0, 0⟩,
    ⟨(some 108), .p (.mv (.t 11)), none, 0, 0⟩,
    ⟨(some 109), .p (.bin .and .other (.t 108) (.c (.int .u8 63))), none, 0, 0⟩,
    ⟨(some 110), .p (.convInt .i32 (.t 109)), none, 0, 0⟩,
    ⟨(some 111), .p (.bin .shl .other (.t 110) (.c (.int .u64 6))), none, 0, 0⟩,
    ⟨(some 112), .p (.bin .or .other (.t 107) (.t 111)), none, 0, 0⟩,
    ⟨(some 113), .p (.mv (.t 12)), none, 0, 0⟩,
    ⟨(some 114), .p (.bin .and .other (.t 113) (.c (.int .u8 63))), none, 0, 0⟩,
    ⟨(some 115), .p (.convInt .i32 (.t 114)), none, 0, 0⟩,
    ⟨(some 116), .p (.bin .or .other (.t 112) (.t 115)), none, 0, 0⟩,
    ⟨(some 2), .p (.mv (.t 116)), none, 0, 0⟩,
    ⟨(some 3), .p (.mv (.c (.int .i64 4))), none, 0, 0⟩] false)
  .ret)))))))))))))))))),
  [.t 2, .t 3]⟩

def q_strings_IndexRune_b0 : ACode :=
  (.seq (.reg [⟨(some 176), .e (.next (.t 175)), none, 0, 0⟩,
          ⟨(some 177), .p (.ext 0 (.t 176)), none, 0, 0⟩] false)
        (.seq (.cond (.t 177)
          .skip
          (.exit 9))
        (.block 10
         (.seq (.reg [⟨(some 178), .p (.ext 1 (.t 176)), none, 0, 0⟩,
           ⟨(some 179), .p (.ext 2 (.t 176)), none, 0, 0⟩,
           ⟨(some 5), .p (.mv (.t 178)), none, 0, 0⟩,
           ⟨(some 6), .p (.mv (.t 179)), none, 0, 0⟩] false)
         (.seq (.reg [⟨(some 180), .p (.mv (.t 6)), none, 0, 0⟩,
           ⟨(some 181), .p (.bin .eql .other (.t 180) (.c (.int .i32 65533))), none, 0, 0⟩] false)
         (.cond (.t 181)
          (.seq (.reg [⟨(some 182), .p (.mv (.t 5)), none, 0, 0⟩,
            ⟨(some 4), .p (.mv (.t 182)), none, 0, 0⟩] false)
          .ret)
          .skip))))))

/-- strings.IndexRune -/
def q_strings_IndexRune : AFn := ⟨187,
  (.seq (.reg [⟨(some 4), .p (.mv (.c (.int .i64 0))), none, 0, 0⟩] false)
  (.block 0
   (.seq (.reg [⟨(some 161), .p (.mv (.t 1)), none, 0, 0⟩,
     ⟨(some 162), .p (.bin .leq .other (.c (.int .i32 0)) (.t 161)), none, 0, 0⟩,
     ⟨(some 163), .p (.mv (.t 162)), none, 0, 0⟩,
     ⟨(some 164), .p (.mv (.t 1)), (some (163, true)), 0, 0⟩,
     ⟨(some 165), .p (.bin .lss .other (.t 164) (.c (.int .i32 128))), (some (163, true)), 0, 0⟩,
     ⟨(some 166), .p (.pick (.t 163) (.t 165) (.c (.bool false))), none, 0, 0⟩,
     ⟨(some 160), .p (.mv (.t 166)), none, 0, 0⟩] false)
   (.cond (.t 160)
    (.seq (.reg [⟨(some 167), .p (.mv (.t 0)), none, 0, 0⟩,
      ⟨(some 168), .p (.mv (.t 1)), none, 0, 0⟩,
      ⟨(some 169), .p (.convInt .u8 (.t 168)), none, 0, 0⟩,
      ⟨(some 170), .e (.call (.c (.fn (.func 232) [] [])) [(.t 167), (.t 169)]), none, 0, 0⟩,
      ⟨(some 4), .p (.mv (.t 170)), none, 0, 0⟩] false)
    .ret)
    (.seq (.reg [⟨(some 172), .p (.mv (.t 1)), none, 0, 0⟩,
      ⟨(some 173), .p (.bin .eql .other (.t 172) (.c (.int .i32 65533))), none, 0, 0⟩,
      ⟨(some 171), .p (.mv (.t 173)), none, 0, 0⟩] false)
    (.cond (.t 171)
     (.seq (.seq (.reg [⟨(some 174), .p (.mv (.t 0)), none, 0, 0⟩,
        ⟨(some 175), .e (.range (.t 174)), none, 0, 0⟩] false)
      (.block 9
       (.loop q_strings_IndexRune_b0)))
     (.seq (.reg [⟨(some 4), .p (.mv (.c (.int .i64 (-1)))), none, 0, 0⟩] false)
     .ret))
     (.seq (.reg [⟨(some 184), .p (.mv (.t 1)), none, 0, 0⟩,
       ⟨(some 185), .e (.call (.c (.fn (.func 233) [] [])) [(.t 184)]), none, 0, 0⟩,
       ⟨(some 186), .p (.un .not (.t 185)), none, 0, 0⟩,
       ⟨(some 183), .p (.mv (.t 186)), none, 0, 0⟩] false)
     (.cond (.t 183)
      (.seq (.reg [⟨(some 4), .p (.mv (.c (.int .i64 (-1)))), none, 0, 0⟩] false)
      .ret)
      .bad)))))))),
  [.t 4]⟩

/-- internal/stringslite.HasPrefix -/
def q_internal_stringslite_HasPrefix : AFn := ⟨18,
  (.seq (.reg [⟨(some 4), .p (.mv (.c (.bool false))), none, 0, 0⟩] false)
  (.seq (.reg [⟨(some 5), .p (.mv (.t 0)), none, 0, 0⟩,
    ⟨(some 6), .p (.lenS (.t 5)), none, 0, 0⟩,
    ⟨(some 7), .p (.mv (.t 1)), none, 0, 0⟩,
    ⟨(some 8), .p (.lenS (.t 7)), none, 0, 0⟩,
    ⟨(some 9), .p (.bin .geq .other (.t 6) (.t 8)), none, 0, 0⟩,
    ⟨(some 10), .p (.mv (.t 9)), none, 0, 0⟩,
    ⟨(some 11), .p (.mv (.t 0)), (some (10, true)), 0, 0⟩,
    ⟨(some 12), .p (.mv (.t 1)), (some (10, true)), 0, 0⟩,
    ⟨(some 13), .p (.lenS (.t 12)), (some (10, true)), 0, 0⟩,
    ⟨(some 14), .p (.slcStr (.t 11) none (some (.t 13))), (some (10, true)), 0, 0⟩,
    ⟨(some 15), .p (.mv (.t 1)), (some (10, true)), 0, 0⟩,
    ⟨(some 16), .p (.bin .eql .other (.t 14) (.t 15)), (some (10, true)), 0, 0⟩,
    ⟨(some 17), .p (.pick (.t 10) (.t 16) (.c (.bool false))), none, 0, 0⟩,
    ⟨(some 4), .p (.mv (.t 17)), none, 0, 0⟩] false)
  .ret)),
  [.t 4]⟩

/-- internal/strconv.ParseInt -/
def q_internal_strconv_ParseInt : AFn := ⟨73,
  (.seq (.reg [⟨(some 6), .p (.mv (.c (.int .i64 0))), none, 0, 0⟩,
    ⟨(some 7), .p (.mv (.c .nili)), none, 0, 0⟩] false)
  (.seq (.seq (.reg [⟨(some 12), .p (.mv (.t 0)), none, 0, 0⟩,
     ⟨(some 13), .p (.bin .eql .other (.t 12) (.c (.str []))), none, 0, 0⟩] false)
   (.cond (.t 13)
    (.seq (.reg [⟨(some 14), .p (.mkI 293 (.c (.int .i64 2))), none, 0, 0⟩,
      ⟨(some 6), .p (.mv (.c (.int .i64 0))), none, 0, 0⟩,
      ⟨(some 7), .p (.mv (.t 14)), none, 0, 0⟩] false)
    .ret)
    .skip))
  (.seq (.reg [⟨(some 8), .p (.mv (.c (.bool false))), none, 0, 0⟩] false)
  (.seq (.seq (.reg [⟨(some 15), .p (.mv (.t 0)), none, 0, 0⟩,
     ⟨(some 16), .p (.idxStr (.t 15) (.c (.int .i64 0))), none, 0, 0⟩] false)
   (.block 0
    (.seq (.reg [⟨(some 18), .p (.bin .eql .other (.t 16) (.c (.int .u8 43))), none, 0, 0⟩,
      ⟨(some 17), .p (.mv (.t 18)), none, 0, 0⟩] false)
    (.cond (.t 17)
     (.reg [⟨(some 19), .p (.mv (.t 0)), none, 0, 0⟩,
      ⟨(some 20), .p (.slcStr (.t 19) (some (.c (.int .i64 1))) none), none, 0, 0⟩,
      ⟨(some 0), .p (.mv (.t 20)), none, 0, 0⟩] false)
     (.seq (.reg [⟨(some 22), .p (.bin .eql .other (.t 16) (.c (.int .u8 45))), none, 0, 0⟩,
       ⟨(some 21), .p (.mv (.t 22)), none, 0, 0⟩] false)
     (.cond (.t 21)
      (.seq (.reg [⟨(some 23), .p (.mv (.t 0)), none, 0, 0⟩,
        ⟨(some 24), .p (.slcStr (.t 23) (some (.c (.int .i64 1))) none), none, 0, 0⟩,
        ⟨(some 0), .p (.mv (.t 24)), none, 0, 0⟩] false)
      (.reg [⟨(some 8), .p (.mv (.c (.bool true))), none, 0, 0⟩] false))
      .skip))))))
  (.seq (.reg [⟨(some 9), .p (.mv (.c (.int .u64 0))), none, 0, 0⟩] false)
  (.seq (.reg [⟨(some 26), .p (.mv (.t 0)), none, 0, 0⟩,
    ⟨(some 27), .p (.mv (.t 1)), none, 0, 0⟩,
    ⟨(some 28), .p (.mv (.t 2)), none, 0, 0⟩,
    ⟨(some 29), .e (.call (.c (.fn (.func 236) [] [])) [(.t 26), (.t 27), (.t 28)]), none, 0, 0⟩,
    ⟨(some 25), .p (.mv (.t 29)), none, 0, 0⟩,
    ⟨(some 30), .p (.ext 0 (.t 25)), none, 0, 0⟩,
    ⟨(some 31), .p (.ext 1 (.t 25)), none, 0, 0⟩,
    ⟨(some 9), .p (.mv (.t 30)), none, 0, 0⟩,
    ⟨(some 7), .p (.mv (.t 31)), none, 0, 0⟩] false)
  (.seq (.seq (.reg [⟨(some 32), .p (.mv (.t 7)), none, 0, 0⟩,
     ⟨(some 33), .p (.bin .neq .iface (.t 32) (.c .nili)), none, 0, 0⟩,
     ⟨(some 34), .p (.mv (.t 33)), none, 0, 0⟩,
     ⟨(some 35), .p (.mv (.t 7)), (some (34, true)), 0, 0⟩,
     ⟨(some 36), .p (.mkI 293 (.c (.int .i64 1))), (some (34, true)), 0, 0⟩,
     ⟨(some 37), .p (.bin .neq .other (.t 35) (.t 36)), (some (34, true)), 0, 0⟩,
     ⟨(some 38), .p (.pick (.t 34) (.t 37) (.c (.bool false))), none, 0, 0⟩] false)
   (.cond (.t 38)
    (.seq (.reg [⟨(some 39), .p (.mv (.t 7)), none, 0, 0⟩,
      ⟨(some 6), .p (.mv (.c (.int .i64 0))), none, 0, 0⟩,
      ⟨(some 7), .p (.mv (.t 39)), none, 0, 0⟩] false)
    .ret)
    .skip))
  (.seq (.seq (.reg [⟨(some 40), .p (.mv (.t 2)), none, 0, 0⟩,
     ⟨(some 41), .p (.bin .eql .other (.t 40) (.c (.int .i64 0))), none, 0, 0⟩] false)
   (.cond (.t 41)
    (.reg [⟨(some 2), .p (.mv (.c (.int .i64 64))), none, 0, 0⟩] false)
    .skip))
  (.seq (.reg [⟨(some 42), .p (.mv (.t 2)), none, 0, 0⟩,
    ⟨(some 43), .p (.bin .sub .other (.t 42) (.c (.int .i64 1))), none, 0, 0⟩,
    ⟨(some 44), .p (.convInt .u64 (.t 43)), none, 0, 0⟩,
    ⟨(some 45), .p (.bin .shl .other (.c (.int .u64 1)) (.t 44)), none, 0, 0⟩,
    ⟨(some 10), .p (.mv (.t 45)), none, 0, 0⟩] false)
  (.seq (.seq (.reg [⟨(some 46), .p (.mv (.t 8)), none, 0, 0⟩,
     ⟨(some 47), .p (.un .not (.t 46)), none, 0, 0⟩,
     ⟨(some 48), .p (.mv (.t 47)), none, 0, 0⟩,
     ⟨(some 49), .p (.mv (.t 9)), (some (48, true)), 0, 0⟩,
     ⟨(some 50), .p (.mv (.t 10)), (some (48, true)), 0, 0⟩,
     ⟨(some 51), .p (.bin .geq .other (.t 49) (.t 50)), (some (48, true)), 0, 0⟩,
     ⟨(some 52), .p (.pick (.t 48) (.t 51) (.c (.bool false))), none, 0, 0⟩] false)
   (.cond (.t 52)
    (.seq (.reg [⟨(some 53), .p (.mv (.t 10)), none, 0, 0⟩,
      ⟨(some 54), .p (.bin .sub .other (.t 53) (.c (.int .u64 1))), none, 0, 0⟩,
      ⟨(some 55), .p (.convInt .i64 (.t 54)), none, 0, 0⟩,
      ⟨(some 56), .p (.mkI 293 (.c (.int .i64 1))), none, 0, 0⟩,
      ⟨(some 6), .p (.mv (.t 55)), none, 0, 0⟩,
      ⟨(some 7), .p (.mv (.t 56)), none, 0, 0⟩] false)
    .ret)
    .skip))
  (.seq (.seq (.reg [⟨(some 57), .p (.mv (.t 8)), none, 0, 0⟩,
     ⟨(some 58), .p (.mv (.t 57)), none, 0, 0⟩,
     ⟨(some 59), .p (.mv (.t 9)), (some (58, true)), 0, 0⟩,
     ⟨(some 60), .p (.mv (.t 10)), (some (58, true)), 0, 0⟩,
     ⟨(some 61), .p (.bin .gtr .other (.t 59) (.t 60)), (some (58, true)), 0, 0⟩,
     ⟨(some 62), .p (.pick (.t 58) (.t 61) (.c (.bool false))), none, 0, 0⟩] false)
   (.cond (.t 62)
    (.seq (.reg [⟨(some 63), .p (.mv (.t 10)), none, 0, 0⟩,
      ⟨(some 64), .p (.convInt .i64 (.t 63)), none, 0, 0⟩,
      ⟨(some 65), .p (.un .neg (.t 64)), none, 0, 0⟩,
      ⟨(some 66), .p (.mkI 293 (.c (.int .i64 1))), none, 0, 0⟩,
      ⟨(some 6), .p (.mv (.t 65)), none, 0, 0⟩,
      ⟨(some 7), .p (.mv (.t 66)), none, 0, 0⟩] false)
    .ret)
    .skip))
  (.seq (.reg [⟨(some 67), .p (.mv (.t 9)), none, 0, 0⟩,
    ⟨(some 68), .p (.convInt .i64 (.t 67)), none, 0, 0⟩,
    ⟨(some 11), .p (.mv (.t 68)), none, 0, 0⟩] false)
  (.seq (.seq (.reg [⟨(some 69), .p (.mv (.t 8)), none, 0, 0⟩] false)
   (.cond (.t 69)
    (.reg [⟨(some 70), .p (.mv (.t 11)), none, 0, 0⟩,
     ⟨(some 71), .p (.un .neg (.t 70)), none, 0, 0⟩,
     ⟨(some 11), .p (.mv (.t 71)), none, 0, 0⟩] false)
    .skip))
  (.seq (.reg [⟨(some 72), .p (.mv (.t 11)), none, 0, 0⟩,
    ⟨(some 6), .p (.mv (.t 72)), none, 0, 0⟩,
    ⟨(some 7), .p (.mv (.c .nili)), none, 0, 0⟩] false)
  .ret)))))))))))))),
  [.t 6, .t 7]⟩

/-- strconv.toError -/
def q_strconv_toError : AFn := ⟨43,
  (.seq (.reg [⟨(some 10), .p (.mv (.c .nili)), none, 0, 0⟩] false)
  (.seq (.seq (.reg [⟨(some 11), .p (.mv (.t 4)), none, 0, 0⟩] false)
   (.block 0
    (.seq (.reg [⟨(some 13), .p (.mkI 293 (.c (.int .i64 2))), none, 0, 0⟩,
      ⟨(some 14), .p (.bin .eql .other (.t 11) (.t 13)), none, 0, 0⟩,
      ⟨(some 12), .p (.mv (.t 14)), none, 0, 0⟩] false)
    (.cond (.t 12)
     (.seq (.reg [⟨(some 15), .p (.mv (.t 0)), none, 0, 0⟩,
       ⟨(some 16), .p (.mv (.t 1)), none, 0, 0⟩,
       ⟨(some 17), .e (.call (.c (.fn (.func 237) [] [])) [(.t 15), (.t 16)]), none, 0, 0⟩,
       ⟨(some 18), .p (.mkI 296 (.t 17)), none, 0, 0⟩,
       ⟨(some 10), .p (.mv (.t 18)), none, 0, 0⟩] false)
     .ret)
     (.seq (.reg [⟨(some 20), .p (.mkI 293 (.c (.int .i64 1))), none, 0, 0⟩,
       ⟨(some 21), .p (.bin .eql .other (.t 11) (.t 20)), none, 0, 0⟩,
       ⟨(some 19), .p (.mv (.t 21)), none, 0, 0⟩] false)
     (.cond (.t 19)
      (.seq (.reg [⟨(some 22), .p (.mv (.t 0)), none, 0, 0⟩,
        ⟨(some 23), .p (.mv (.t 1)), none, 0, 0⟩,
        ⟨(some 24), .e (.call (.c (.fn (.func 238) [] [])) [(.t 22), (.t 23)]), none, 0, 0⟩,
        ⟨(some 25), .p (.mkI 296 (.t 24)), none, 0, 0⟩,
        ⟨(some 10), .p (.mv (.t 25)), none, 0, 0⟩] false)
      .ret)
      (.seq (.reg [⟨(some 27), .p (.mkI 293 (.c (.int .i64 3))), none, 0, 0⟩,
        ⟨(some 28), .p (.bin .eql .other (.t 11) (.t 27)), none, 0, 0⟩,
        ⟨(some 26), .p (.mv (.t 28)), none, 0, 0⟩] false)
      (.cond (.t 26)
       (.seq (.reg [⟨(some 29), .p (.mv (.t 0)), none, 0, 0⟩,
         ⟨(some 30), .p (.mv (.t 1)), none, 0, 0⟩,
         ⟨(some 31), .p (.mv (.t 2)), none, 0, 0⟩,
         ⟨(some 32), .e (.call (.c (.fn (.func 239) [] [])) [(.t 29), (.t 30), (.t 31)]), none, 0, 0⟩,
         ⟨(some 33), .p (.mkI 296 (.t 32)), none, 0, 0⟩,
         ⟨(some 10), .p (.mv (.t 33)), none, 0, 0⟩] false)
       .ret)
       (.seq (.reg [⟨(some 35), .p (.mkI 293 (.c (.int .i64 4))), none, 0, 0⟩,
         ⟨(some 36), .p (.bin .eql .other (.t 11) (.t 35)), none, 0, 0⟩,
         ⟨(some 34), .p (.mv (.t 36)), none, 0, 0⟩] false)
       (.cond (.t 34)
        (.seq (.reg [⟨(some 37), .p (.mv (.t 0)), none, 0, 0⟩,
          ⟨(some 38), .p (.mv (.t 1)), none, 0, 0⟩,
          ⟨(some 39), .p (.mv (.t 3)), none, 0, 0⟩,
          ⟨(some 40), .e (.call (.c (.fn (.func 240) [] [])) [(.t 37), (.t 38), (.t 39)]), none, 0, 0⟩,
          ⟨(some 41), .p (.mkI 296 (.t 40)), none, 0, 0⟩,
          ⟨(some 10), .p (.mv (.t 41)), none, 0, 0⟩] false)
        .ret)
        .skip))))))))))
  (.seq (.reg [⟨(some 42), .p (.mv (.t 4)), none, 0, 0⟩,
    ⟨(some 10), .p (.mv (.t 42)), none, 0, 0⟩] false)
  .ret))),
  [.t 10]⟩

def q_strings_Fields_b0 : ACode :=
  (.seq (.seq (.reg [⟨(some 80), .p (.mv (.t 12)), none, 0, 0⟩,
            ⟨(some 81), .p (.mv (.t 0)), none, 0, 0⟩,
            ⟨(some 82), .p (.lenS (.t 81)), none, 0, 0⟩,
            ⟨(some 83), .p (.bin .lss .other (.t 80) (.t 82)), none, 0, 0⟩,
            ⟨(some 84), .p (.mv (.t 83)), none, 0, 0⟩,
            ⟨(some 85), .p (.mv (.t 0)), (some (84, true)), 0, 0⟩,
            ⟨(some 86), .p (.mv (.t 12)), (some (84, true)), 0, 0⟩,
            ⟨(some 87), .p (.idxStr (.t 85) (.t 86)), (some (84, true)), 0, 0⟩,
            ⟨(some 88), .p (.iaddrA 256 1 (.c (.ept g5)) (.t 87)), (some (84, true)), 0, 0⟩,
            ⟨(some 89), .r (.load 1 false (.t 88)), (some (84, true)), 0, 0⟩,
            ⟨(some 90), .p (.bin .neq .other (.t 89) (.c (.int .u8 0))), (some (84, true)), 0, 0⟩,
            ⟨(some 91), .p (.pick (.t 84) (.t 90) (.c (.bool false))), none, 0, 0⟩] false)
          (.cond (.t 91)
           .skip
           (.exit 6)))
         (.block 7
          (.reg [⟨(some 92), .p (.mv (.t 12)), none, 0, 0⟩,
           ⟨(some 93), .p (.bin .add .other (.t 92) (.c (.int .i64 1))), none, 0, 0⟩,
           ⟨(some 12), .p (.mv (.t 93)), none, 0, 0⟩] false)))

def q_strings_Fields_b1 : ACode :=
  (.seq (.seq (.reg [⟨(some 57), .p (.mv (.t 12)), none, 0, 0⟩,
        ⟨(some 58), .p (.mv (.t 0)), none, 0, 0⟩,
        ⟨(some 59), .p (.lenS (.t 58)), none, 0, 0⟩,
        ⟨(some 60), .p (.bin .lss .other (.t 57) (.t 59)), none, 0, 0⟩] false)
      (.cond (.t 60)
       .skip
       (.exit 4)))
     (.block 5
      (.seq (.seq (.reg [⟨(some 61), .p (.mv (.t 0)), none, 0, 0⟩,
         ⟨(some 62), .p (.mv (.t 12)), none, 0, 0⟩,
         ⟨(some 63), .p (.idxStr (.t 61) (.t 62)), none, 0, 0⟩,
         ⟨(some 64), .p (.iaddrA 256 1 (.c (.ept g5)) (.t 63)), none, 0, 0⟩,
         ⟨(some 65), .r (.load 1 false (.t 64)), none, 0, 0⟩,
         ⟨(some 66), .p (.bin .eql .other (.t 65) (.c (.int .u8 0))), none, 0, 0⟩] false)
       (.cond (.t 66)
        (.seq (.reg [⟨(some 67), .p (.mv (.t 12)), none, 0, 0⟩,
          ⟨(some 68), .p (.bin .add .other (.t 67) (.c (.int .i64 1))), none, 0, 0⟩,
          ⟨(some 12), .p (.mv (.t 68)), none, 0, 0⟩] false)
        (.exit 5))
        .skip))
      (.seq (.reg [⟨(some 69), .p (.mv (.t 9)), none, 0, 0⟩,
        ⟨(some 70), .p (.mv (.t 10)), none, 0, 0⟩,
        ⟨(some 71), .p (.mv (.t 0)), none, 0, 0⟩,
        ⟨(some 72), .p (.mv (.t 11)), none, 0, 0⟩,
        ⟨(some 73), .p (.mv (.t 12)), none, 0, 0⟩,
        ⟨(some 74), .p (.slcStr (.t 71) (some (.t 72)) (some (.t 73))), none, 0, 0⟩,
        ⟨(some 75), .p (.iaddrS 1 (.t 69) (.t 70)), none, 0, 0⟩,
        ⟨none, .e (.store 1 (.t 75) (.t 74)), none, 0, 0⟩] false)
      (.seq (.reg [⟨(some 76), .p (.mv (.t 10)), none, 0, 0⟩,
        ⟨(some 77), .p (.bin .add .other (.t 76) (.c (.int .i64 1))), none, 0, 0⟩,
        ⟨(some 10), .p (.mv (.t 77)), none, 0, 0⟩] false)
      (.seq (.reg [⟨(some 78), .p (.mv (.t 12)), none, 0, 0⟩,
        ⟨(some 79), .p (.bin .add .other (.t 78) (.c (.int .i64 1))), none, 0, 0⟩,
        ⟨(some 12), .p (.mv (.t 79)), none, 0, 0⟩] false)
      (.seq (.block 6
        (.loop q_strings_Fields_b0))
      (.reg [⟨(some 94), .p (.mv (.t 12)), none, 0, 0⟩,
       ⟨(some 11), .p (.mv (.t 94)), none, 0, 0⟩] false))))))))

def q_strings_Fields_b2 : ACode :=
  (.seq (.seq (.reg [⟨(some 42), .p (.mv (.t 12)), none, 0, 0⟩,
        ⟨(some 43), .p (.mv (.t 0)), none, 0, 0⟩,
        ⟨(some 44), .p (.lenS (.t 43)), none, 0, 0⟩,
        ⟨(some 45), .p (.bin .lss .other (.t 42) (.t 44)), none, 0, 0⟩,
        ⟨(some 46), .p (.mv (.t 45)), none, 0, 0⟩,
        ⟨(some 47), .p (.mv (.t 0)), (some (46, true)), 0, 0⟩,
        ⟨(some 48), .p (.mv (.t 12)), (some (46, true)), 0, 0⟩,
        ⟨(some 49), .p (.idxStr (.t 47) (.t 48)), (some (46, true)), 0, 0⟩,
        ⟨(some 50), .p (.iaddrA 256 1 (.c (.ept g5)) (.t 49)), (some (46, true)), 0, 0⟩,
        ⟨(some 51), .r (.load 1 false (.t 50)), (some (46, true)), 0, 0⟩,
        ⟨(some 52), .p (.bin .neq .other (.t 51) (.c (.int .u8 0))), (some (46, true)), 0, 0⟩,
        ⟨(some 53), .p (.pick (.t 46) (.t 52) (.c (.bool false))), none, 0, 0⟩] false)
      (.cond (.t 53)
       .skip
       (.exit 2)))
     (.block 3
      (.reg [⟨(some 54), .p (.mv (.t 12)), none, 0, 0⟩,
       ⟨(some 55), .p (.bin .add .other (.t 54) (.c (.int .i64 1))), none, 0, 0⟩,
       ⟨(some 12), .p (.mv (.t 55)), none, 0, 0⟩] false)))

def q_strings_Fields_b3 : ACode :=
  (.seq (.seq (.reg [⟨(some 13), .p (.mv (.t 6)), none, 0, 0⟩,
        ⟨(some 14), .p (.mv (.t 0)), none, 0, 0⟩,
        ⟨(some 15), .p (.lenS (.t 14)), none, 0, 0⟩,
        ⟨(some 16), .p (.bin .lss .other (.t 13) (.t 15)), none, 0, 0⟩] false)
      (.cond (.t 16)
       .skip
       (.exit 0)))
     (.seq (.block 1
       (.seq (.reg [⟨(some 19), .p (.mv (.t 0)), none, 0, 0⟩,
         ⟨(some 20), .p (.mv (.t 6)), none, 0, 0⟩,
         ⟨(some 21), .p (.idxStr (.t 19) (.t 20)), none, 0, 0⟩,
         ⟨(some 7), .p (.mv (.t 21)), none, 0, 0⟩] false)
       (.seq (.reg [⟨(some 22), .p (.mv (.t 5)), none, 0, 0⟩,
         ⟨(some 23), .p (.mv (.t 7)), none, 0, 0⟩,
         ⟨(some 24), .p (.bin .or .other (.t 22) (.t 23)), none, 0, 0⟩,
         ⟨(some 5), .p (.mv (.t 24)), none, 0, 0⟩] false)
       (.seq (.reg [⟨(some 25), .p (.mv (.t 7)), none, 0, 0⟩,
         ⟨(some 26), .p (.iaddrA 256 1 (.c (.ept g5)) (.t 25)), none, 0, 0⟩,
         ⟨(some 27), .r (.load 1 false (.t 26)), none, 0, 0⟩,
         ⟨(some 28), .p (.convInt .i64 (.t 27)), none, 0, 0⟩,
         ⟨(some 8), .p (.mv (.t 28)), none, 0, 0⟩] false)
       (.seq (.reg [⟨(some 29), .p (.mv (.t 3)), none, 0, 0⟩,
         ⟨(some 30), .p (.mv (.t 4)), none, 0, 0⟩,
         ⟨(some 31), .p (.mv (.t 8)), none, 0, 0⟩,
         ⟨(some 32), .p (.un .xor (.t 31)), none, 0, 0⟩,
         ⟨(some 33), .p (.bin .and .other (.t 30) (.t 32)), none, 0, 0⟩,
         ⟨(some 34), .p (.bin .add .other (.t 29) (.t 33)), none, 0, 0⟩,
         ⟨(some 3), .p (.mv (.t 34)), none, 0, 0⟩] false)
       (.reg [⟨(some 35), .p (.mv (.t 8)), none, 0, 0⟩,
        ⟨(some 4), .p (.mv (.t 35)), none, 0, 0⟩] false))))))
     (.reg [⟨(some 17), .p (.mv (.t 6)), none, 0, 0⟩,
      ⟨(some 18), .p (.bin .add .other (.t 17) (.c (.int .i64 1))), none, 0, 0⟩,
      ⟨(some 6), .p (.mv (.t 18)), none, 0, 0⟩] false)))

/-- strings.Fields -/
def q_strings_Fields : AFn := ⟨106,
  (.seq (.reg [⟨(some 2), .p (.mv (.c (.sl .full []))), none, 0, 0⟩] false)
  (.seq (.reg [⟨(some 3), .p (.mv (.c (.int .i64 0))), none, 0, 0⟩] false)
  (.seq (.reg [⟨(some 4), .p (.mv (.c (.int .i64 1))), none, 0, 0⟩] false)
  (.seq (.reg [⟨(some 5), .p (.mv (.c (.int .u8 0))), none, 0, 0⟩] false)
  (.seq (.seq (.reg [⟨(some 6), .p (.mv (.c (.int .i64 0))), none, 0, 0⟩] false)
   (.block 0
    (.loop q_strings_Fields_b3)))
  (.seq (.seq (.reg [⟨(some 36), .p (.mv (.t 5)), none, 0, 0⟩,
     ⟨(some 37), .p (.bin .geq .other (.t 36) (.c (.int .u8 128))), none, 0, 0⟩] false)
   (.cond (.t 37)
    (.seq (.reg [⟨(some 38), .p (.mv (.t 0)), none, 0, 0⟩,
      ⟨(some 39), .e (.call (.c (.fn (.func 241) [] [])) [(.t 38), (.c (.fn (.func 242) [] []))]), none, 0, 0⟩,
      ⟨(some 2), .p (.mv (.t 39)), none, 0, 0⟩] false)
    .ret)
    .skip))
  (.seq (.reg [⟨(some 40), .p (.mv (.t 3)), none, 0, 0⟩,
    ⟨(some 41), .e (.mkS 1 16 [(.str [])] (.t 40) (.t 40)), none, 0, 0⟩,
    ⟨(some 9), .p (.mv (.t 41)), none, 0, 0⟩] false)
  (.seq (.reg [⟨(some 10), .p (.mv (.c (.int .i64 0))), none, 0, 0⟩] false)
  (.seq (.reg [⟨(some 11), .p (.mv (.c (.int .i64 0))), none, 0, 0⟩] false)
  (.seq (.reg [⟨(some 12), .p (.mv (.c (.int .i64 0))), none, 0, 0⟩] false)
  (.seq (.block 2
    (.loop q_strings_Fields_b2))
  (.seq (.reg [⟨(some 56), .p (.mv (.t 12)), none, 0, 0⟩,
    ⟨(some 11), .p (.mv (.t 56)), none, 0, 0⟩] false)
  (.seq (.block 4
    (.loop q_strings_Fields_b1))
  (.seq (.seq (.reg [⟨(some 95), .p (.mv (.t 11)), none, 0, 0⟩,
     ⟨(some 96), .p (.mv (.t 0)), none, 0, 0⟩,
     ⟨(some 97), .p (.lenS (.t 96)), none, 0, 0⟩,
     ⟨(some 98), .p (.bin .lss .other (.t 95) (.t 97)), none, 0, 0⟩] false)
   (.cond (.t 98)
    (.reg [⟨(some 99), .p (.mv (.t 9)), none, 0, 0⟩,
     ⟨(some 100), .p (.mv (.t 10)), none, 0, 0⟩,
     ⟨(some 101), .p (.mv (.t 0)), none, 0, 0⟩,
     ⟨(some 102), .p (.mv (.t 11)), none, 0, 0⟩,
     ⟨(some 103), .p (.slcStr (.t 101) (some (.t 102)) none), none, 0, 0⟩,
     ⟨(some 104), .p (.iaddrS 1 (.t 99) (.t 100)), none, 0, 0⟩,
     ⟨none, .e (.store 1 (.t 104) (.t 103)), none, 0, 0⟩] false)
    .skip))
  (.seq (.reg [⟨(some 105), .p (.mv (.t 9)), none, 0, 0⟩,
    ⟨(some 2), .p (.mv (.t 105)), none, 0, 0⟩] false)
  .ret))))))))))))))),
  [.t 2]⟩

def q_slices_stableCmpFunc_string_b0 : ACode :=
  (.seq (.seq (.reg [⟨(some 33), .p (.mv (.t 8)), none, 0, 0⟩,
           ⟨(some 34), .p (.mv (.t 1)), none, 0, 0⟩,
           ⟨(some 35), .p (.bin .leq .other (.t 33) (.t 34)), none, 0, 0⟩] false)
         (.cond (.t 35)
          .skip
          (.exit 4)))
        (.block 5
         (.seq (.reg [⟨(some 36), .p (.mv (.t 0)), none, 0, 0⟩,
           ⟨(some 37), .p (.mv (.t 7)), none, 0, 0⟩,
           ⟨(some 38), .p (.mv (.t 7)), none, 0, 0⟩,
           ⟨(some 39), .p (.mv (.t 6)), none, 0, 0⟩,
           ⟨(some 40), .p (.bin .add .other (.t 38) (.t 39)), none, 0, 0⟩,
           ⟨(some 41), .p (.mv (.t 8)), none, 0, 0⟩,
           ⟨(some 42), .p (.mv (.t 2)), none, 0, 0⟩,
           ⟨(some 43), .e (.call (.c (.fn (.func 244) [] [])) [(.t 36), (.t 37), (.t 40), (.t 41), (.t 42)]), none, 0, 0⟩] false)
         (.seq (.reg [⟨(some 44), .p (.mv (.t 8)), none, 0, 0⟩,
           ⟨(some 7), .p (.mv (.t 44)), none, 0, 0⟩] false)
         (.reg [⟨(some 45), .p (.mv (.t 8)), none, 0, 0⟩,
          ⟨(some 46), .p (.mv (.t 6)), none, 0, 0⟩,
          ⟨(some 47), .p (.bin .mul .other (.c (.int .i64 2)) (.t 46)), none, 0, 0⟩,
          ⟨(some 48), .p (.bin .add .other (.t 45) (.t 47)), none, 0, 0⟩,
          ⟨(some 8), .p (.mv (.t 48)), none, 0, 0⟩] false)))))

def q_slices_stableCmpFunc_string_b1 : ACode :=
  (.seq (.seq (.reg [⟨(some 28), .p (.mv (.t 6)), none, 0, 0⟩,
       ⟨(some 29), .p (.mv (.t 1)), none, 0, 0⟩,
       ⟨(some 30), .p (.bin .lss .other (.t 28) (.t 29)), none, 0, 0⟩] false)
     (.cond (.t 30)
      .skip
      (.exit 2)))
    (.block 3
     (.seq (.reg [⟨(some 31), .p (.mv (.t 6)), none, 0, 0⟩,
       ⟨(some 32), .p (.bin .mul .other (.c (.int .i64 2)) (.t 31)), none, 0, 0⟩,
       ⟨(some 7), .p (.mv (.c (.int .i64 0))), none, 0, 0⟩,
       ⟨(some 8), .p (.mv (.t 32)), none, 0, 0⟩] false)
     (.seq (.block 4
       (.loop q_slices_stableCmpFunc_string_b0))
     (.seq (.seq (.reg [⟨(some 49), .p (.mv (.t 7)), none, 0, 0⟩,
        ⟨(some 50), .p (.mv (.t 6)), none, 0, 0⟩,
        ⟨(some 51), .p (.bin .add .other (.t 49) (.t 50)), none, 0, 0⟩,
        ⟨(some 9), .p (.mv (.t 51)), none, 0, 0⟩] false)
      (.seq (.reg [⟨(some 52), .p (.mv (.t 9)), none, 0, 0⟩,
        ⟨(some 53), .p (.mv (.t 1)), none, 0, 0⟩,
        ⟨(some 54), .p (.bin .lss .other (.t 52) (.t 53)), none, 0, 0⟩] false)
      (.cond (.t 54)
       (.reg [⟨(some 55), .p (.mv (.t 0)), none, 0, 0⟩,
        ⟨(some 56), .p (.mv (.t 7)), none, 0, 0⟩,
        ⟨(some 57), .p (.mv (.t 9)), none, 0, 0⟩,
        ⟨(some 58), .p (.mv (.t 1)), none, 0, 0⟩,
        ⟨(some 59), .p (.mv (.t 2)), none, 0, 0⟩,
        ⟨(some 60), .e (.call (.c (.fn (.func 244) [] [])) [(.t 55), (.t 56), (.t 57), (.t 58), (.t 59)]), none, 0, 0⟩] false)
       .skip)))
     (.reg [⟨(some 61), .p (.mv (.t 6)), none, 0, 0⟩,
      ⟨(some 62), .p (.bin .mul .other (.t 61) (.c (.int .i64 2))), none, 0, 0⟩,
      ⟨(some 6), .p (.mv (.t 62)), none, 0, 0⟩] false))))))

def q_slices_stableCmpFunc_string_b2 : ACode :=
  (.seq (.seq (.reg [⟨(some 11), .p (.mv (.t 8)), none, 0, 0⟩,
        ⟨(some 12), .p (.mv (.t 1)), none, 0, 0⟩,
        ⟨(some 13), .p (.bin .leq .other (.t 11) (.t 12)), none, 0, 0⟩] false)
      (.cond (.t 13)
       .skip
       (.exit 0)))
     (.block 1
      (.seq (.reg [⟨(some 14), .p (.mv (.t 0)), none, 0, 0⟩,
        ⟨(some 15), .p (.mv (.t 7)), none, 0, 0⟩,
        ⟨(some 16), .p (.mv (.t 8)), none, 0, 0⟩,
        ⟨(some 17), .p (.mv (.t 2)), none, 0, 0⟩,
        ⟨(some 18), .e (.call (.c (.fn (.func 243) [] [])) [(.t 14), (.t 15), (.t 16), (.t 17)]), none, 0, 0⟩] false)
      (.seq (.reg [⟨(some 19), .p (.mv (.t 8)), none, 0, 0⟩,
        ⟨(some 7), .p (.mv (.t 19)), none, 0, 0⟩] false)
      (.reg [⟨(some 20), .p (.mv (.t 8)), none, 0, 0⟩,
       ⟨(some 21), .p (.mv (.t 6)), none, 0, 0⟩,
       ⟨(some 22), .p (.bin .add .other (.t 20) (.t 21)), none, 0, 0⟩,
       ⟨(some 8), .p (.mv (.t 22)), none, 0, 0⟩] false)))))

/-- slices.stableCmpFunc[string] -/
def q_slices_stableCmpFunc_string : AFn := ⟨63,
  (.seq (.reg [⟨(some 6), .p (.mv (.c (.int .i64 20))), none, 0, 0⟩] false)
  (.seq (.reg [⟨(some 10), .p (.mv (.t 6)), none, 0, 0⟩,
    ⟨(some 7), .p (.mv (.c (.int .i64 0))), none, 0, 0⟩,
    ⟨(some 8), .p (.mv (.t 10)), none, 0, 0⟩] false)
  (.seq (.block 0
    (.loop q_slices_stableCmpFunc_string_b2))
  (.seq (.reg [⟨(some 23), .p (.mv (.t 0)), none, 0, 0⟩,
    ⟨(some 24), .p (.mv (.t 7)), none, 0, 0⟩,
    ⟨(some 25), .p (.mv (.t 1)), none, 0, 0⟩,
    ⟨(some 26), .p (.mv (.t 2)), none, 0, 0⟩,
    ⟨(some 27), .e (.call (.c (.fn (.func 243) [] [])) [(.t 23), (.t 24), (.t 25), (.t 26)]), none, 0, 0⟩] false)
  (.block 2
   (.loop q_slices_stableCmpFunc_string_b1)))))),
  []⟩

/-- (*jettison/parse.parser).operand -/
def q_parse_parser_operand : AFn := ⟨63,
  (.seq (.reg [⟨(some 2), .al [(.int .i64 0), (.str []), (.int .i64 0), (.str []), (.str []), (.sl .full [])], none, 0, 0⟩] false)
  (.seq (.seq (.reg [⟨(some 7), .p (.mv (.t 0)), none, 0, 0⟩,
     ⟨(some 8), .e (.call (.c (.fn (.func 126) [] [])) [(.t 7)]), none, 0, 0⟩,
     ⟨(some 3), .al [(.int .i64 0), (.str []), (.int .i64 0), (.int .i64 0)], none, 0, 0⟩,
     ⟨none, .e (.store 4 (.t 3) (.t 8)), none, 0, 0⟩] false)
   (.block 0
    (.seq (.reg [⟨(some 10), .p (.faddr 0 (.t 3)), none, 0, 0⟩,
      ⟨(some 11), .r (.load 1 false (.t 10)), none, 0, 0⟩,
      ⟨(some 12), .p (.bin .eql .other (.t 11) (.c (.int .i64 2))), none, 0, 0⟩,
      ⟨(some 9), .p (.mv (.t 12)), none, 0, 0⟩] false)
    (.cond (.t 9)
     (.seq (.reg [⟨(some 13), .p (.mv (.t 0)), none, 0, 0⟩,
       ⟨(some 14), .e (.call (.c (.fn (.func 84) [] [])) [(.t 13), (.c (.int .i64 0)), (.c (.int .i64 9223372036854775807))]), none, 0, 0⟩,
       ⟨(some 15), .p (.build [(.int .i64 0), (.str []), (.int .i64 0), (.str []), (.str []), (.sl .full [])] [(2, 1, (.t 14))]), none, 0, 0⟩,
       ⟨none, .e (.store 6 (.t 2) (.t 15)), none, 0, 0⟩] false)
     .ret)
     (.seq (.reg [⟨(some 17), .p (.faddr 0 (.t 3)), none, 0, 0⟩,
       ⟨(some 18), .r (.load 1 false (.t 17)), none, 0, 0⟩,
       ⟨(some 19), .p (.bin .eql .other (.t 18) (.c (.int .i64 1))), none, 0, 0⟩,
       ⟨(some 16), .p (.mv (.t 19)), none, 0, 0⟩] false)
     (.cond (.t 16)
      (.seq (.reg [⟨(some 20), .p (.mv (.t 0)), none, 0, 0⟩,
        ⟨(some 21), .e (.call (.c (.fn (.func 86) [] [])) [(.t 20)]), none, 0, 0⟩] false)
      (.seq (.reg [⟨(some 22), .p (.mv (.t 0)), none, 0, 0⟩,
        ⟨(some 23), .e (.call (.c (.fn (.func 83) [] [])) [(.t 22), (.c (.str [46]))]), none, 0, 0⟩] false)
      (.seq (.reg [⟨(some 24), .p (.faddr 1 (.t 3)), none, 0, 1⟩,
        ⟨(some 25), .r (.load 1 false (.t 24)), none, 0, 1⟩,
        ⟨(some 26), .p (.mv (.t 0)), none, 0, 0⟩,
        ⟨(some 27), .e (.call (.c (.fn (.func 86) [] [])) [(.t 26)]), none, 0, 0⟩,
        ⟨(some 28), .p (.build [(.int .i64 0), (.str []), (.int .i64 0), (.str []), (.str []), (.sl .full [])] [(0, 1, (.c (.int .i64 1))), (3, 1, (.t 25)), (4, 1, (.t 27))]), none, 0, 0⟩,
        ⟨none, .e (.store 6 (.t 2) (.t 28)), none, 0, 0⟩] true)
      .ret)))
      (.seq (.reg [⟨(some 30), .p (.mv (.t 0)), none, 0, 0⟩,
        ⟨(some 31), .e (.call (.c (.fn (.func 85) [] [])) [(.t 30), (.c (.str [40]))]), none, 0, 0⟩,
        ⟨(some 29), .p (.mv (.t 31)), none, 0, 0⟩] false)
      (.cond (.t 29)
       (.seq (.reg [⟨(some 32), .p (.mv (.t 0)), none, 0, 0⟩,
         ⟨(some 33), .e (.call (.c (.fn (.func 169) [] [])) [(.t 32)]), none, 0, 0⟩,
         ⟨(some 4), .al [(.int .i64 0), (.str []), (.int .i64 0), (.str []), (.str []), (.sl .full [])], none, 0, 0⟩,
         ⟨none, .e (.store 6 (.t 4) (.t 33)), none, 0, 0⟩] false)
       (.seq (.reg [⟨(some 34), .p (.mv (.t 0)), none, 0, 0⟩,
         ⟨(some 35), .e (.call (.c (.fn (.func 83) [] [])) [(.t 34), (.c (.str [41]))]), none, 0, 0⟩] false)
       (.seq (.reg [⟨(some 36), .r (.load 6 true (.t 4)), none, 0, 0⟩,
         ⟨none, .e (.store 6 (.t 2) (.t 36)), none, 0, 0⟩] false)
       .ret)))
       .skip))))))))
  (.seq (.reg [⟨(some 37), .p (.mv (.t 0)), none, 0, 0⟩,
    ⟨(some 38), .p (.mv (.t 0)), none, 0, 0⟩,
    ⟨(some 39), .e (.call (.c (.fn (.func 128) [] [])) [(.t 38), (.c (.str [45]))]), none, 0, 0⟩,
    ⟨(some 40), .p (.mv (.t 39)), none, 0, 0⟩,
    ⟨(some 41), .p (.mv (.t 0)), (some (40, false)), 0, 0⟩,
    ⟨(some 42), .e (.call (.c (.fn (.func 128) [] [])) [(.t 41), (.c (.str [33]))]), (some (40, false)), 0, 0⟩,
    ⟨(some 43), .p (.pick (.t 40) (.c (.bool true)) (.t 42)), none, 0, 0⟩,
    ⟨(some 44), .e (.call (.c (.fn (.func 81) [] [])) [(.t 37), (.t 43)]), none, 0, 0⟩] false)
  (.seq (.reg [⟨(some 45), .p (.mv (.t 0)), none, 0, 0⟩,
    ⟨(some 46), .e (.call (.c (.fn (.func 129) [] [])) [(.t 45)]), none, 0, 0⟩] false)
  (.seq (.reg [⟨(some 47), .p (.mv (.t 0)), none, 0, 0⟩,
    ⟨(some 48), .e (.call (.c (.fn (.func 127) [] [])) [(.t 47), (.c (.int .i64 3))]), none, 0, 0⟩,
    ⟨(some 49), .p (.field 1 1 false (.t 48)), none, 0, 0⟩,
    ⟨(some 5), .p (.mv (.t 49)), none, 0, 0⟩] false)
  (.seq (.reg [⟨(some 50), .p (.mv (.t 0)), none, 0, 0⟩,
    ⟨(some 51), .e (.call (.c (.fn (.func 226) [] [])) [(.t 50)]), none, 0, 0⟩,
    ⟨(some 6), .al [(.int .i64 0), (.str []), (.int .i64 0), (.str []), (.str []), (.sl .full [])], none, 0, 0⟩,
    ⟨none, .e (.store 6 (.t 6) (.t 51)), none, 0, 0⟩] false)
  (.seq (.reg [⟨(some 52), .p (.mv (.t 0)), none, 0, 0⟩,
    ⟨(some 53), .p (.nilchk (.t 52)), none, 0, 0⟩,
    ⟨(some 54), .p (.faddr 2 (.t 53)), none, 0, 0⟩,
    ⟨(some 55), .r (.load 1 false (.t 54)), none, 0, 0⟩,
    ⟨(some 56), .p (.bin .sub .other (.t 55) (.c (.int .i64 1))), none, 0, 0⟩,
    ⟨(some 57), .p (.nilchk (.t 52)), none, 0, 0⟩,
    ⟨(some 58), .p (.faddr 2 (.t 57)), none, 0, 0⟩,
    ⟨none, .e (.store 1 (.t 58) (.t 56)), none, 0, 0⟩] false)
  (.seq (.reg [⟨(some 59), .p (.mv (.t 5)), none, 0, 0⟩,
    ⟨(some 60), .r (.load 6 true (.t 6)), none, 0, 0⟩,
    ⟨(some 61), .p (.bslice 6 [(.t 60)]), none, 0, 0⟩,
    ⟨(some 62), .p (.build [(.int .i64 0), (.str []), (.int .i64 0), (.str []), (.str []), (.sl .full [])] [(0, 1, (.c (.int .i64 2))), (1, 1, (.t 59)), (5, 1, (.t 61))]), none, 0, 0⟩,
    ⟨none, .e (.store 6 (.t 2) (.t 62)), none, 0, 0⟩] false)
  .ret)))))))),
  [.c 2 6 true]⟩

/-- (*jettison/parse.parser).level -/
def q_parse_parser_level : AFn := ⟨12,
  (.seq (.reg [⟨(some 2), .p (.mv (.c (.int .i64 0))), none, 0, 0⟩] false)
  (.seq (.seq (.reg [⟨(some 4), .p (.mv (.t 0)), none, 0, 0⟩,
     ⟨(some 5), .e (.call (.c (.fn (.func 126) [] [])) [(.t 4)]), none, 0, 0⟩,
     ⟨(some 3), .al [(.int .i64 0), (.str []), (.int .i64 0), (.int .i64 0)], none, 0, 0⟩,
     ⟨none, .e (.store 4 (.t 3) (.t 5)), none, 0, 0⟩] false)
   (.seq (.reg [⟨(some 6), .p (.faddr 0 (.t 3)), none, 0, 0⟩,
     ⟨(some 7), .r (.load 1 false (.t 6)), none, 0, 0⟩,
     ⟨(some 8), .p (.bin .eql .other (.t 7) (.c (.int .i64 3))), none, 0, 0⟩] false)
   (.cond (.t 8)
    (.seq (.reg [⟨(some 9), .p (.faddr 1 (.t 3)), none, 0, 0⟩,
      ⟨(some 10), .r (.load 1 false (.t 9)), none, 0, 0⟩,
      ⟨(some 11), .e (.call (.c (.fn (.func 191) [] [])) [(.t 10)]), none, 0, 0⟩,
      ⟨(some 2), .p (.mv (.t 11)), none, 0, 0⟩] false)
    .ret)
    .skip)))
  (.seq (.reg [⟨(some 2), .p (.mv (.c (.int .i64 0))), none, 0, 0⟩] false)
  .ret))),
  [.t 2]⟩

/-- (*jettison/jettisonlaw11.feed).ref -/
def q_jettisonlaw11_feed_ref : AFn := ⟨56,
  (.seq (.reg [⟨(some 6), .al [(.int .i64 0), (.str []), (.int .i64 0), (.str []), (.str []), (.sl .full [])], none, 0, 0⟩] false)
  (.seq (.reg [⟨(some 10), .p (.mv (.t 0)), none, 0, 0⟩,
    ⟨(some 11), .e (.call (.c (.fn (.func 66) [] [])) [(.t 10)]), none, 0, 0⟩,
    ⟨(some 7), .p (.mv (.t 11)), none, 0, 0⟩] false)
  (.seq (.seq (.reg [⟨(some 12), .p (.mv (.t 0)), none, 0, 0⟩,
     ⟨(some 13), .p (.nilchk (.t 12)), none, 0, 0⟩,
     ⟨(some 14), .p (.faddr 2 (.t 13)), none, 0, 0⟩,
     ⟨(some 15), .r (.load 1 false (.t 14)), none, 0, 0⟩,
     ⟨(some 16), .p (.len (.t 15)), none, 0, 0⟩,
     ⟨(some 17), .p (.bin .gtr .other (.t 16) (.c (.int .i64 0))), none, 0, 0⟩,
     ⟨(some 18), .p (.mv (.t 17)), none, 0, 0⟩,
     ⟨(some 19), .p (.mv (.t 7)), (some (18, true)), 0, 0⟩,
     ⟨(some 20), .p (.bin .rem .other (.t 19) (.c (.int .i64 3))), (some (18, true)), 0, 0⟩,
     ⟨(some 21), .p (.bin .eql .other (.t 20) (.c (.int .i64 0))), (some (18, true)), 0, 0⟩,
     ⟨(some 22), .p (.pick (.t 18) (.t 21) (.c (.bool false))), none, 0, 0⟩] false)
   (.cond (.t 22)
    (.seq (.reg [⟨(some 23), .p (.mv (.t 7)), none, 0, 0⟩,
      ⟨(some 24), .p (.bin .quo .other (.t 23) (.c (.int .i64 3))), none, 0, 0⟩,
      ⟨(some 25), .p (.mv (.t 0)), none, 0, 0⟩,
      ⟨(some 26), .p (.nilchk (.t 25)), none, 0, 0⟩,
      ⟨(some 27), .p (.faddr 2 (.t 26)), none, 0, 0⟩,
      ⟨(some 28), .r (.load 1 false (.t 27)), none, 0, 0⟩,
      ⟨(some 29), .p (.len (.t 28)), none, 0, 0⟩,
      ⟨(some 30), .p (.bin .rem .other (.t 24) (.t 29)), none, 0, 0⟩,
      ⟨(some 8), .p (.mv (.t 30)), none, 0, 0⟩] false)
    (.seq (.reg [⟨(some 31), .p (.mv (.t 0)), none, 0, 0⟩,
      ⟨(some 32), .p (.nilchk (.t 31)), none, 0, 0⟩,
      ⟨(some 33), .p (.faddr 2 (.t 32)), none, 0, 0⟩,
      ⟨(some 34), .r (.load 1 false (.t 33)), none, 0, 0⟩,
      ⟨(some 35), .p (.mv (.t 8)), none, 0, 0⟩,
      ⟨(some 36), .p (.iaddrS 1 (.t 34) (.t 35)), none, 0, 0⟩,
      ⟨(some 37), .r (.load 1 false (.t 36)), none, 0, 0⟩,
      ⟨(some 1), .p (.mv (.t 37)), none, 0, 0⟩] false)
    (.reg [⟨(some 38), .p (.mv (.t 0)), none, 0, 0⟩,
     ⟨(some 39), .p (.nilchk (.t 38)), none, 0, 0⟩,
     ⟨(some 40), .p (.faddr 3 (.t 39)), none, 0, 0⟩,
     ⟨(some 41), .r (.load 1 false (.t 40)), none, 0, 0⟩,
     ⟨(some 42), .p (.mv (.t 8)), none, 0, 0⟩,
     ⟨(some 43), .p (.iaddrS 1 (.t 41) (.t 42)), none, 0, 0⟩,
     ⟨(some 44), .r (.load 1 false (.t 43)), none, 0, 0⟩,
     ⟨(some 2), .p (.mv (.t 44)), none, 0, 0⟩] false)))
    .skip))
  (.seq (.reg [⟨(some 45), .p (.mv (.t 2)), none, 0, 0⟩,
    ⟨(some 46), .e (.call (.c (.fn (.func 246) [] [])) [(.t 45)]), none, 0, 0⟩,
    ⟨(some 9), .p (.mv (.t 46)), none, 0, 0⟩] false)
  (.seq (.reg [⟨(some 47), .p (.mv (.t 1)), none, 0, 0⟩,
    ⟨(some 48), .p (.mv (.t 9)), none, 0, 0⟩,
    ⟨(some 49), .p (.bslice 1 [(.c (.str [107])), (.t 48)]), none, 0, 0⟩,
    ⟨(some 50), .p (.mv (.t 7)), none, 0, 0⟩,
    ⟨(some 51), .p (.bin .quo .other (.t 50) (.c (.int .i64 64))), none, 0, 0⟩,
    ⟨(some 52), .p (.bin .rem .other (.t 51) (.c (.int .i64 2))), none, 0, 0⟩,
    ⟨(some 53), .p (.iaddrS 1 (.t 49) (.t 52)), none, 0, 0⟩,
    ⟨(some 54), .r (.load 1 false (.t 53)), none, 0, 0⟩,
    ⟨(some 55), .p (.build [(.int .i64 0), (.str []), (.int .i64 0), (.str []), (.str []), (.sl .full [])] [(0, 1, (.c (.int .i64 1))), (3, 1, (.t 47)), (4, 1, (.t 54))]), none, 0, 0⟩,
    ⟨none, .e (.store 6 (.t 6) (.t 55)), none, 0, 0⟩] false)
  .ret))))),
  [.c 6 6 true]⟩

/-- strings.IndexByte -/
def q_strings_IndexByte : AFn := ⟨8,
  (.seq (.reg [⟨(some 4), .p (.mv (.c (.int .i64 0))), none, 0, 0⟩] false)
  (.seq (.reg [⟨(some 5), .p (.mv (.t 0)), none, 0, 0⟩,
    ⟨(some 6), .p (.mv (.t 1)), none, 0, 0⟩,
    ⟨(some 7), .e (.call (.c (.fn (.func 247) [] [])) [(.t 5), (.t 6)]), none, 0, 0⟩,
    ⟨(some 4), .p (.mv (.t 7)), none, 0, 0⟩] false)
  .ret)),
  [.t 4]⟩

/-- unicode/utf8.ValidRune -/
def q_unicode_utf8_ValidRune : AFn := ⟨17,
  (.seq (.reg [⟨(some 2), .p (.mv (.c (.bool false))), none, 0, 0⟩] false)
  (.seq (.block 0
    (.seq (.reg [⟨(some 4), .p (.mv (.t 0)), none, 0, 0⟩,
      ⟨(some 5), .p (.bin .leq .other (.c (.int .i32 0)) (.t 4)), none, 0, 0⟩,
      ⟨(some 6), .p (.mv (.t 5)), none, 0, 0⟩,
      ⟨(some 7), .p (.mv (.t 0)), (some (6, true)), 0, 0⟩,
      ⟨(some 8), .p (.bin .lss .other (.t 7) (.c (.int .i32 55296))), (some (6, true)), 0, 0⟩,
      ⟨(some 9), .p (.pick (.t 6) (.t 8) (.c (.bool false))), none, 0, 0⟩,
      ⟨(some 3), .p (.mv (.t 9)), none, 0, 0⟩] false)
    (.cond (.t 3)
     (.seq (.reg [⟨(some 2), .p (.mv (.c (.bool true))), none, 0, 0⟩] false)
     .ret)
     (.seq (.reg [⟨(some 11), .p (.mv (.t 0)), none, 0, 0⟩,
       ⟨(some 12), .p (.bin .lss .other (.c (.int .i32 57343)) (.t 11)), none, 0, 0⟩,
       ⟨(some 13), .p (.mv (.t 12)), none, 0, 0⟩,
       ⟨(some 14), .p (.mv (.t 0)), (some (13, true)), 0, 0⟩,
       ⟨(some 15), .p (.bin .leq .other (.t 14) (.c (.int .i32 1114111))), (some (13, true)), 0, 0⟩,
       ⟨(some 16), .p (.pick (.t 13) (.t 15) (.c (.bool false))), none, 0, 0⟩,
       ⟨(some 10), .p (.mv (.t 16)), none, 0, 0⟩] false)
     (.cond (.t 10)
      (.seq (.reg [⟨(some 2), .p (.mv (.c (.bool true))), none, 0, 0⟩] false)
      .ret)
      .skip)))))
  (.seq (.reg [⟨(some 2), .p (.mv (.c (.bool false))), none, 0, 0⟩] false)
  .ret))),
  [.t 2]⟩

def q_internal_strconv_ParseUint_b0 : ACode :=
  (.seq (.reg [⟨(some 102), .p (.bin .lss .other (.t 101) (.t 100)), none, 0, 0⟩] false)
     (.seq (.cond (.t 102)
       .skip
       (.exit 3))
     (.seq (.block 4
       (.seq (.reg [⟨(some 103), .p (.iaddrS 1 (.t 99) (.t 101)), none, 0, 0⟩,
         ⟨(some 104), .r (.load 1 false (.t 103)), none, 0, 0⟩,
         ⟨(some 15), .p (.mv (.t 104)), none, 0, 0⟩] false)
       (.seq (.reg [⟨(some 16), .p (.mv (.c (.int .u8 0))), none, 0, 0⟩] false)
       (.seq (.block 5
         (.seq (.reg [⟨(some 107), .p (.mv (.t 15)), none, 0, 0⟩,
           ⟨(some 108), .p (.bin .eql .other (.t 107) (.c (.int .u8 95))), none, 0, 0⟩,
           ⟨(some 109), .p (.mv (.t 108)), none, 0, 0⟩,
           ⟨(some 110), .p (.mv (.t 8)), (some (109, true)), 0, 0⟩,
           ⟨(some 111), .p (.pick (.t 109) (.t 110) (.c (.bool false))), none, 0, 0⟩,
           ⟨(some 106), .p (.mv (.t 111)), none, 0, 0⟩] false)
         (.cond (.t 106)
          (.seq (.reg [⟨(some 12), .p (.mv (.c (.bool true))), none, 0, 0⟩] false)
          (.exit 4))
          (.seq (.reg [⟨(some 113), .p (.mv (.t 15)), none, 0, 0⟩,
            ⟨(some 114), .p (.bin .leq .other (.c (.int .u8 48)) (.t 113)), none, 0, 0⟩,
            ⟨(some 115), .p (.mv (.t 114)), none, 0, 0⟩,
            ⟨(some 116), .p (.mv (.t 15)), (some (115, true)), 0, 0⟩,
            ⟨(some 117), .p (.bin .leq .other (.t 116) (.c (.int .u8 57))), (some (115, true)), 0, 0⟩,
            ⟨(some 118), .p (.pick (.t 115) (.t 117) (.c (.bool false))), none, 0, 0⟩,
            ⟨(some 112), .p (.mv (.t 118)), none, 0, 0⟩] false)
          (.cond (.t 112)
           (.reg [⟨(some 119), .p (.mv (.t 15)), none, 0, 0⟩,
            ⟨(some 120), .p (.bin .sub .other (.t 119) (.c (.int .u8 48))), none, 0, 0⟩,
            ⟨(some 16), .p (.mv (.t 120)), none, 0, 0⟩] false)
           (.seq (.reg [⟨(some 122), .p (.mv (.t 15)), none, 0, 0⟩,
             ⟨(some 123), .e (.call (.c (.fn (.func 248) [] [])) [(.t 122)]), none, 0, 0⟩,
             ⟨(some 124), .p (.bin .leq .other (.c (.int .u8 97)) (.t 123)), none, 0, 0⟩,
             ⟨(some 125), .p (.mv (.t 124)), none, 0, 0⟩,
             ⟨(some 126), .p (.mv (.t 15)), (some (125, true)), 0, 0⟩,
             ⟨(some 127), .e (.call (.c (.fn (.func 248) [] [])) [(.t 126)]), (some (125, true)), 0, 0⟩,
             ⟨(some 128), .p (.bin .leq .other (.t 127) (.c (.int .u8 122))), (some (125, true)), 0, 0⟩,
             ⟨(some 129), .p (.pick (.t 125) (.t 128) (.c (.bool false))), none, 0, 0⟩,
             ⟨(some 121), .p (.mv (.t 129)), none, 0, 0⟩] false)
           (.cond (.t 121)
            (.reg [⟨(some 130), .p (.mv (.t 15)), none, 0, 0⟩,
             ⟨(some 131), .e (.call (.c (.fn (.func 248) [] [])) [(.t 130)]), none, 0, 0⟩,
             ⟨(some 132), .p (.bin .sub .other (.t 131) (.c (.int .u8 97))), none, 0, 0⟩,
             ⟨(some 133), .p (.bin .add .other (.t 132) (.c (.int .u8 10))), none, 0, 0⟩,
             ⟨(some 16), .p (.mv (.t 133)), none, 0, 0⟩] false)
            (.seq (.reg [⟨(some 105), .p (.mkI 293 (.c (.int .i64 2))), none, 0, 0⟩,
              ⟨(some 6), .p (.mv (.c (.int .u64 0))), none, 0, 0⟩,
              ⟨(some 7), .p (.mv (.t 105)), none, 0, 0⟩] false)
            .ret))))))))
       (.seq (.seq (.reg [⟨(some 134), .p (.mv (.t 16)), none, 0, 0⟩,
          ⟨(some 135), .p (.mv (.t 1)), none, 0, 0⟩,
          ⟨(some 136), .p (.convInt .u8 (.t 135)), none, 0, 0⟩,
          ⟨(some 137), .p (.bin .geq .other (.t 134) (.t 136)), none, 0, 0⟩] false)
        (.cond (.t 137)
         (.seq (.reg [⟨(some 138), .p (.mkI 293 (.c (.int .i64 2))), none, 0, 0⟩,
           ⟨(some 6), .p (.mv (.c (.int .u64 0))), none, 0, 0⟩,
           ⟨(some 7), .p (.mv (.t 138)), none, 0, 0⟩] false)
         .ret)
         .skip))
       (.seq (.seq (.reg [⟨(some 139), .p (.mv (.t 13)), none, 0, 0⟩,
          ⟨(some 140), .p (.mv (.t 10)), none, 0, 0⟩,
          ⟨(some 141), .p (.bin .geq .other (.t 139) (.t 140)), none, 0, 0⟩] false)
        (.cond (.t 141)
         (.seq (.reg [⟨(some 142), .p (.mv (.t 11)), none, 0, 0⟩,
           ⟨(some 143), .p (.mkI 293 (.c (.int .i64 1))), none, 0, 0⟩,
           ⟨(some 6), .p (.mv (.t 142)), none, 0, 0⟩,
           ⟨(some 7), .p (.mv (.t 143)), none, 0, 0⟩] false)
         .ret)
         .skip))
       (.seq (.reg [⟨(some 144), .p (.mv (.t 13)), none, 0, 0⟩,
         ⟨(some 145), .p (.mv (.t 1)), none, 0, 0⟩,
         ⟨(some 146), .p (.convInt .u64 (.t 145)), none, 0, 0⟩,
         ⟨(some 147), .p (.bin .mul .other (.t 144) (.t 146)), none, 0, 0⟩,
         ⟨(some 13), .p (.mv (.t 147)), none, 0, 0⟩] false)
       (.seq (.reg [⟨(some 148), .p (.mv (.t 13)), none, 0, 0⟩,
         ⟨(some 149), .p (.mv (.t 16)), none, 0, 0⟩,
         ⟨(some 150), .p (.convInt .u64 (.t 149)), none, 0, 0⟩,
         ⟨(some 151), .p (.bin .add .other (.t 148) (.t 150)), none, 0, 0⟩,
         ⟨(some 17), .p (.mv (.t 151)), none, 0, 0⟩] false)
       (.seq (.seq (.reg [⟨(some 152), .p (.mv (.t 17)), none, 0, 0⟩,
          ⟨(some 153), .p (.mv (.t 13)), none, 0, 0⟩,
          ⟨(some 154), .p (.bin .lss .other (.t 152) (.t 153)), none, 0, 0⟩,
          ⟨(some 155), .p (.mv (.t 154)), none, 0, 0⟩,
          ⟨(some 156), .p (.mv (.t 17)), (some (155, false)), 0, 0⟩,
          ⟨(some 157), .p (.mv (.t 11)), (some (155, false)), 0, 0⟩,
          ⟨(some 158), .p (.bin .gtr .other (.t 156) (.t 157)), (some (155, false)), 0, 0⟩,
          ⟨(some 159), .p (.pick (.t 155) (.c (.bool true)) (.t 158)), none, 0, 0⟩] false)
        (.cond (.t 159)
         (.seq (.reg [⟨(some 160), .p (.mv (.t 11)), none, 0, 0⟩,
           ⟨(some 161), .p (.mkI 293 (.c (.int .i64 1))), none, 0, 0⟩,
           ⟨(some 6), .p (.mv (.t 160)), none, 0, 0⟩,
           ⟨(some 7), .p (.mv (.t 161)), none, 0, 0⟩] false)
         .ret)
         .skip))
       (.reg [⟨(some 162), .p (.mv (.t 17)), none, 0, 0⟩,
        ⟨(some 13), .p (.mv (.t 162)), none, 0, 0⟩] false))))))))))
     (.reg [⟨(some 163), .p (.bin .add .other (.t 101) (.c (.int .i64 1))), none, 0, 0⟩,
      ⟨(some 101), .p (.mv (.t 163)), none, 0, 0⟩] false))))

/-- internal/strconv.ParseUint -/
def q_internal_strconv_ParseUint : AFn := ⟨172,
  (.seq (.reg [⟨(some 6), .p (.mv (.c (.int .u64 0))), none, 0, 0⟩,
    ⟨(some 7), .p (.mv (.c .nili)), none, 0, 0⟩] false)
  (.seq (.seq (.reg [⟨(some 18), .p (.mv (.t 0)), none, 0, 0⟩,
     ⟨(some 19), .p (.bin .eql .other (.t 18) (.c (.str []))), none, 0, 0⟩] false)
   (.cond (.t 19)
    (.seq (.reg [⟨(some 20), .p (.mkI 293 (.c (.int .i64 2))), none, 0, 0⟩,
      ⟨(some 6), .p (.mv (.c (.int .u64 0))), none, 0, 0⟩,
      ⟨(some 7), .p (.mv (.t 20)), none, 0, 0⟩] false)
    .ret)
    .skip))
  (.seq (.reg [⟨(some 21), .p (.mv (.t 1)), none, 0, 0⟩,
    ⟨(some 22), .p (.bin .eql .other (.t 21) (.c (.int .i64 0))), none, 0, 0⟩,
    ⟨(some 8), .p (.mv (.t 22)), none, 0, 0⟩] false)
  (.seq (.reg [⟨(some 23), .p (.mv (.t 0)), none, 0, 0⟩,
    ⟨(some 9), .p (.mv (.t 23)), none, 0, 0⟩] false)
  (.seq (.block 0
    (.seq (.reg [⟨(some 26), .p (.mv (.t 1)), none, 0, 0⟩,
      ⟨(some 27), .p (.bin .leq .other (.c (.int .i64 2)) (.t 26)), none, 0, 0⟩,
      ⟨(some 28), .p (.mv (.t 27)), none, 0, 0⟩,
      ⟨(some 29), .p (.mv (.t 1)), (some (28, true)), 0, 0⟩,
      ⟨(some 30), .p (.bin .leq .other (.t 29) (.c (.int .i64 36))), (some (28, true)), 0, 0⟩,
      ⟨(some 31), .p (.pick (.t 28) (.t 30) (.c (.bool false))), none, 0, 0⟩,
      ⟨(some 25), .p (.mv (.t 31)), none, 0, 0⟩] false)
    (.cond (.t 25)
     .skip
     (.seq (.reg [⟨(some 33), .p (.mv (.t 1)), none, 0, 0⟩,
       ⟨(some 34), .p (.bin .eql .other (.t 33) (.c (.int .i64 0))), none, 0, 0⟩,
       ⟨(some 32), .p (.mv (.t 34)), none, 0, 0⟩] false)
     (.cond (.t 32)
      (.seq (.reg [⟨(some 1), .p (.mv (.c (.int .i64 10))), none, 0, 0⟩] false)
      (.seq (.reg [⟨(some 35), .p (.mv (.t 0)), none, 0, 0⟩,
        ⟨(some 36), .p (.idxStr (.t 35) (.c (.int .i64 0))), none, 0, 0⟩,
        ⟨(some 37), .p (.bin .eql .other (.t 36) (.c (.int .u8 48))), none, 0, 0⟩] false)
      (.cond (.t 37)
       (.block 1
        (.seq (.reg [⟨(some 41), .p (.mv (.t 0)), none, 0, 0⟩,
          ⟨(some 42), .p (.lenS (.t 41)), none, 0, 0⟩,
          ⟨(some 43), .p (.bin .geq .other (.t 42) (.c (.int .i64 3))), none, 0, 0⟩,
          ⟨(some 44), .p (.mv (.t 43)), none, 0, 0⟩,
          ⟨(some 45), .p (.mv (.t 0)), (some (44, true)), 0, 0⟩,
          ⟨(some 46), .p (.idxStr (.t 45) (.c (.int .i64 1))), (some (44, true)), 0, 0⟩,
          ⟨(some 47), .e (.call (.c (.fn (.func 248) [] [])) [(.t 46)]), (some (44, true)), 0, 0⟩,
          ⟨(some 48), .p (.bin .eql .other (.t 47) (.c (.int .u8 98))), (some (44, true)), 0, 0⟩,
          ⟨(some 49), .p (.pick (.t 44) (.t 48) (.c (.bool false))), none, 0, 0⟩,
          ⟨(some 40), .p (.mv (.t 49)), none, 0, 0⟩] false)
        (.cond (.t 40)
         (.seq (.reg [⟨(some 1), .p (.mv (.c (.int .i64 2))), none, 0, 0⟩] false)
         (.reg [⟨(some 50), .p (.mv (.t 0)), none, 0, 0⟩,
          ⟨(some 51), .p (.slcStr (.t 50) (some (.c (.int .i64 2))) none), none, 0, 0⟩,
          ⟨(some 0), .p (.mv (.t 51)), none, 0, 0⟩] false))
         (.seq (.reg [⟨(some 53), .p (.mv (.t 0)), none, 0, 0⟩,
           ⟨(some 54), .p (.lenS (.t 53)), none, 0, 0⟩,
           ⟨(some 55), .p (.bin .geq .other (.t 54) (.c (.int .i64 3))), none, 0, 0⟩,
           ⟨(some 56), .p (.mv (.t 55)), none, 0, 0⟩,
           ⟨(some 57), .p (.mv (.t 0)), (some (56, true)), 0, 0⟩,
           ⟨(some 58), .p (.idxStr (.t 57) (.c (.int .i64 1))), (some (56, true)), 0, 0⟩,
           ⟨(some 59), .e (.call (.c (.fn (.func 248) [] [])) [(.t 58)]), (some (56, true)), 0, 0⟩,
           ⟨(some 60), .p (.bin .eql .other (.t 59) (.c (.int .u8 111))), (some (56, true)), 0, 0⟩,
           ⟨(some 61), .p (.pick (.t 56) (.t 60) (.c (.bool false))), none, 0, 0⟩,
           ⟨(some 52), .p (.mv (.t 61)), none, 0, 0⟩] false)
         (.cond (.t 52)
          (.seq (.reg [⟨(some 1), .p (.mv (.c (.int .i64 8))), none, 0, 0⟩] false)
          (.reg [⟨(some 62), .p (.mv (.t 0)), none, 0, 0⟩,
           ⟨(some 63), .p (.slcStr (.t 62) (some (.c (.int .i64 2))) none), none, 0, 0⟩,
           ⟨(some 0), .p (.mv (.t 63)), none, 0, 0⟩] false))
          (.seq (.reg [⟨(some 65), .p (.mv (.t 0)), none, 0, 0⟩,
            ⟨(some 66), .p (.lenS (.t 65)), none, 0, 0⟩,
            ⟨(some 67), .p (.bin .geq .other (.t 66) (.c (.int .i64 3))), none, 0, 0⟩,
            ⟨(some 68), .p (.mv (.t 67)), none, 0, 0⟩,
            ⟨(some 69), .p (.mv (.t 0)), (some (68, true)), 0, 0⟩,
            ⟨(some 70), .p (.idxStr (.t 69) (.c (.int .i64 1))), (some (68, true)), 0, 0⟩,
            ⟨(some 71), .e (.call (.c (.fn (.func 248) [] [])) [(.t 70)]), (some (68, true)), 0, 0⟩,
            ⟨(some 72), .p (.bin .eql .other (.t 71) (.c (.int .u8 120))), (some (68, true)), 0, 0⟩,
            ⟨(some 73), .p (.pick (.t 68) (.t 72) (.c (.bool false))), none, 0, 0⟩,
            ⟨(some 64), .p (.mv (.t 73)), none, 0, 0⟩] false)
          (.cond (.t 64)
           (.seq (.reg [⟨(some 1), .p (.mv (.c (.int .i64 16))), none, 0, 0⟩] false)
           (.reg [⟨(some 74), .p (.mv (.t 0)), none, 0, 0⟩,
            ⟨(some 75), .p (.slcStr (.t 74) (some (.c (.int .i64 2))) none), none, 0, 0⟩,
            ⟨(some 0), .p (.mv (.t 75)), none, 0, 0⟩] false))
           (.seq (.reg [⟨(some 1), .p (.mv (.c (.int .i64 8))), none, 0, 0⟩] false)
           (.reg [⟨(some 38), .p (.mv (.t 0)), none, 0, 0⟩,
            ⟨(some 39), .p (.slcStr (.t 38) (some (.c (.int .i64 1))) none), none, 0, 0⟩,
            ⟨(some 0), .p (.mv (.t 39)), none, 0, 0⟩] false)))))))))
       .skip)))
      (.seq (.reg [⟨(some 24), .p (.mkI 293 (.c (.int .i64 3))), none, 0, 0⟩,
        ⟨(some 6), .p (.mv (.c (.int .u64 0))), none, 0, 0⟩,
        ⟨(some 7), .p (.mv (.t 24)), none, 0, 0⟩] false)
      .ret))))))
  (.seq (.seq (.reg [⟨(some 76), .p (.mv (.t 2)), none, 0, 0⟩,
     ⟨(some 77), .p (.bin .eql .other (.t 76) (.c (.int .i64 0))), none, 0, 0⟩] false)
   (.cond (.t 77)
    (.reg [⟨(some 2), .p (.mv (.c (.int .i64 64))), none, 0, 0⟩] false)
    (.seq (.reg [⟨(some 78), .p (.mv (.t 2)), none, 0, 0⟩,
      ⟨(some 79), .p (.bin .lss .other (.t 78) (.c (.int .i64 0))), none, 0, 0⟩,
      ⟨(some 80), .p (.mv (.t 79)), none, 0, 0⟩,
      ⟨(some 81), .p (.mv (.t 2)), (some (80, false)), 0, 0⟩,
      ⟨(some 82), .p (.bin .gtr .other (.t 81) (.c (.int .i64 64))), (some (80, false)), 0, 0⟩,
      ⟨(some 83), .p (.pick (.t 80) (.c (.bool true)) (.t 82)), none, 0, 0⟩] false)
    (.cond (.t 83)
     (.seq (.reg [⟨(some 84), .p (.mkI 293 (.c (.int .i64 4))), none, 0, 0⟩,
       ⟨(some 6), .p (.mv (.c (.int .u64 0))), none, 0, 0⟩,
       ⟨(some 7), .p (.mv (.t 84)), none, 0, 0⟩] false)
     .ret)
     .skip))))
  (.seq (.reg [⟨(some 10), .p (.mv (.c (.int .u64 0))), none, 0, 0⟩] false)
  (.seq (.seq (.reg [⟨(some 85), .p (.mv (.t 1)), none, 0, 0⟩] false)
   (.block 2
    (.seq (.reg [⟨(some 91), .p (.bin .eql .other (.t 85) (.c (.int .i64 10))), none, 0, 0⟩,
      ⟨(some 90), .p (.mv (.t 91)), none, 0, 0⟩] false)
    (.cond (.t 90)
     (.reg [⟨(some 10), .p (.mv (.c (.int .u64 1844674407370955162))), none, 0, 0⟩] false)
     (.seq (.reg [⟨(some 93), .p (.bin .eql .other (.t 85) (.c (.int .i64 16))), none, 0, 0⟩,
       ⟨(some 92), .p (.mv (.t 93)), none, 0, 0⟩] false)
     (.cond (.t 92)
      (.reg [⟨(some 10), .p (.mv (.c (.int .u64 1152921504606846976))), none, 0, 0⟩] false)
      (.reg [⟨(some 86), .p (.mv (.t 1)), none, 0, 0⟩,
       ⟨(some 87), .p (.convInt .u64 (.t 86)), none, 0, 0⟩,
       ⟨(some 88), .p (.bin .quo .other (.c (.int .u64 18446744073709551615)) (.t 87)), none, 0, 0⟩,
       ⟨(some 89), .p (.bin .add .other (.t 88) (.c (.int .u64 1))), none, 0, 0⟩,
       ⟨(some 10), .p (.mv (.t 89)), none, 0, 0⟩] false)))))))
  (.seq (.reg [⟨(some 94), .p (.mv (.t 2)), none, 0, 0⟩,
    ⟨(some 95), .p (.convInt .u64 (.t 94)), none, 0, 0⟩,
    ⟨(some 96), .p (.bin .shl .other (.c (.int .u64 1)) (.t 95)), none, 0, 0⟩,
    ⟨(some 97), .p (.bin .sub .other (.t 96) (.c (.int .u64 1))), none, 0, 0⟩,
    ⟨(some 11), .p (.mv (.t 97)), none, 0, 0⟩] false)
  (.seq (.reg [⟨(some 12), .p (.mv (.c (.bool false))), none, 0, 0⟩] false)
  (.seq (.reg [⟨(some 13), .p (.mv (.c (.int .u64 0))), none, 0, 0⟩] false)
  (.seq (.seq (.reg [⟨(some 98), .p (.mv (.t 0)), none, 0, 0⟩,
     ⟨(some 99), .p (.sbytes (.t 98)), none, 0, 0⟩,
     ⟨(some 100), .p (.len (.t 99)), none, 0, 0⟩,
     ⟨(some 101), .p (.mv (.c (.int .i64 0))), none, 0, 0⟩] false)
   (.block 3
    (.loop q_internal_strconv_ParseUint_b0)))
  (.seq (.seq (.reg [⟨(some 164), .p (.mv (.t 12)), none, 0, 0⟩,
     ⟨(some 165), .p (.mv (.t 164)), none, 0, 0⟩,
     ⟨(some 166), .p (.mv (.t 9)), (some (165, true)), 0, 0⟩,
     ⟨(some 167), .e (.call (.c (.fn (.func 249) [] [])) [(.t 166)]), (some (165, true)), 0, 0⟩,
     ⟨(some 168), .p (.un .not (.t 167)), (some (165, true)), 0, 0⟩,
     ⟨(some 169), .p (.pick (.t 165) (.t 168) (.c (.bool false))), none, 0, 0⟩] false)
   (.cond (.t 169)
    (.seq (.reg [⟨(some 170), .p (.mkI 293 (.c (.int .i64 2))), none, 0, 0⟩,
      ⟨(some 6), .p (.mv (.c (.int .u64 0))), none, 0, 0⟩,
      ⟨(some 7), .p (.mv (.t 170)), none, 0, 0⟩] false)
    .ret)
    .skip))
  (.seq (.reg [⟨(some 171), .p (.mv (.t 13)), none, 0, 0⟩,
    ⟨(some 6), .p (.mv (.t 171)), none, 0, 0⟩,
    ⟨(some 7), .p (.mv (.c .nili)), none, 0, 0⟩] false)
  .ret)))))))))))))),
  [.t 6, .t 7]⟩

/-- strconv.syntaxError -/
def q_strconv_syntaxError : AFn := ⟨11,
  (.seq (.reg [⟨(some 4), .p (.mv (.c .nilp)), none, 0, 0⟩] false)
  (.seq .bad
  .ret)),
  [.t 4]⟩

/-- strconv.rangeError -/
def q_strconv_rangeError : AFn := ⟨11,
  (.seq (.reg [⟨(some 4), .p (.mv (.c .nilp)), none, 0, 0⟩] false)
  (.seq .bad
  .ret)),
  [.t 4]⟩

/-- strconv.baseError -/
def q_strconv_baseError : AFn := ⟨16,
  (.seq (.reg [⟨(some 6), .p (.mv (.c .nilp)), none, 0, 0⟩] false)
  (.seq (.reg [⟨(some 7), .p (.mv (.t 0)), none, 0, 0⟩,
    ⟨(some 8), .p (.mv (.t 1)), none, 0, 0⟩,
    ⟨(some 9), .e (.call (.c (.fn (.func 250) [] [])) [(.t 8)]), none, 0, 0⟩,
    ⟨(some 10), .p (.mv (.t 2)), none, 0, 0⟩,
    ⟨(some 11), .e (.call (.c (.fn (.func 132) [] [])) [(.t 10)]), none, 0, 0⟩,
    ⟨(some 12), .p (.bin .add .other (.c (.str [105, 110, 118, 97, 108, 105, 100, 32, 98, 97, 115, 101, 32])) (.t 11)), none, 0, 0⟩,
    ⟨(some 13), .e (.call (.c (.fn (.func 251) [] [])) [(.t 12)]), none, 0, 0⟩,
    ⟨(some 14), .p (.build [(.str []), (.str []), .nili] [(0, 1, (.t 7)), (1, 1, (.t 9)), (2, 1, (.t 13))]), none, 0, 0⟩,
    ⟨(some 15), .e (.box (.t 14)), none, 0, 0⟩,
    ⟨(some 6), .p (.mv (.t 15)), none, 0, 0⟩] false)
  .ret)),
  [.t 6]⟩

/-- strconv.bitSizeError -/
def q_strconv_bitSizeError : AFn := ⟨16,
  (.seq (.reg [⟨(some 6), .p (.mv (.c .nilp)), none, 0, 0⟩] false)
  (.seq (.reg [⟨(some 7), .p (.mv (.t 0)), none, 0, 0⟩,
    ⟨(some 8), .p (.mv (.t 1)), none, 0, 0⟩,
    ⟨(some 9), .e (.call (.c (.fn (.func 250) [] [])) [(.t 8)]), none, 0, 0⟩,
    ⟨(some 10), .p (.mv (.t 2)), none, 0, 0⟩,
    ⟨(some 11), .e (.call (.c (.fn (.func 132) [] [])) [(.t 10)]), none, 0, 0⟩,
    ⟨(some 12), .p (.bin .add .other (.c (.str [105, 110, 118, 97, 108, 105, 100, 32, 98, 105, 116, 32, 115, 105, 122, 101, 32])) (.t 11)), none, 0, 0⟩,
    ⟨(some 13), .e (.call (.c (.fn (.func 251) [] [])) [(.t 12)]), none, 0, 0⟩,
    ⟨(some 14), .p (.build [(.str []), (.str []), .nili] [(0, 1, (.t 7)), (1, 1, (.t 9)), (2, 1, (.t 13))]), none, 0, 0⟩,
    ⟨(some 15), .e (.box (.t 14)), none, 0, 0⟩,
    ⟨(some 6), .p (.mv (.t 15)), none, 0, 0⟩] false)
  .ret)),
  [.t 6]⟩

def q_strings_FieldsFunc_b0 : ACode :=
  (.seq (.reg [⟨(some 50), .p (.bin .lss .other (.t 49) (.t 48)), none, 0, 0⟩] false)
     (.seq (.cond (.t 50)
       .skip
       (.exit 2))
     (.seq (.block 3
       (.seq (.reg [⟨(some 51), .p (.mv (.t 49)), none, 0, 0⟩,
         ⟨(some 52), .p (.iaddrS 2 (.t 47) (.t 49)), none, 0, 0⟩,
         ⟨(some 53), .r (.load 2 true (.t 52)), none, 0, 0⟩,
         ⟨(some 11), .al [(.int .i64 0), (.int .i64 0)], none, 0, 0⟩,
         ⟨(some 10), .p (.mv (.t 51)), none, 0, 0⟩,
         ⟨none, .e (.store 2 (.t 11) (.t 53)), none, 0, 0⟩] false)
       (.reg [⟨(some 54), .p (.mv (.t 9)), none, 0, 0⟩,
        ⟨(some 55), .p (.mv (.t 10)), none, 0, 0⟩,
        ⟨(some 56), .p (.mv (.t 0)), none, 0, 0⟩,
        ⟨(some 57), .p (.faddr 0 (.t 11)), none, 0, 0⟩,
        ⟨(some 58), .r (.load 1 false (.t 57)), none, 0, 0⟩,
        ⟨(some 59), .p (.faddr 1 (.t 11)), none, 0, 0⟩,
        ⟨(some 60), .r (.load 1 false (.t 59)), none, 0, 0⟩,
        ⟨(some 61), .p (.slcStr (.t 56) (some (.t 58)) (some (.t 60))), none, 0, 0⟩,
        ⟨(some 62), .p (.iaddrS 1 (.t 54) (.t 55)), none, 0, 0⟩,
        ⟨none, .e (.store 1 (.t 62) (.t 61)), none, 0, 0⟩] false)))
     (.reg [⟨(some 63), .p (.bin .add .other (.t 49) (.c (.int .i64 1))), none, 0, 0⟩,
      ⟨(some 49), .p (.mv (.t 63)), none, 0, 0⟩] false))))

def q_strings_FieldsFunc_b1 : ACode :=
  (.seq (.reg [⟨(some 15), .e (.next (.t 14)), none, 0, 0⟩,
       ⟨(some 16), .p (.ext 0 (.t 15)), none, 0, 0⟩] false)
     (.seq (.cond (.t 16)
       .skip
       (.exit 0))
     (.block 1
      (.seq (.reg [⟨(some 17), .p (.ext 1 (.t 15)), none, 0, 0⟩,
        ⟨(some 18), .p (.ext 2 (.t 15)), none, 0, 0⟩,
        ⟨(some 7), .p (.mv (.t 17)), none, 0, 0⟩,
        ⟨(some 8), .p (.mv (.t 18)), none, 0, 0⟩] false)
      (.seq (.reg [⟨(some 19), .p (.mv (.t 1)), none, 0, 0⟩,
        ⟨(some 20), .p (.mv (.t 8)), none, 0, 0⟩,
        ⟨(some 21), .e (.call (.t 19) [(.t 20)]), none, 0, 0⟩] false)
      (.cond (.t 21)
       (.seq (.reg [⟨(some 22), .p (.mv (.t 6)), none, 0, 0⟩,
         ⟨(some 23), .p (.bin .geq .other (.t 22) (.c (.int .i64 0))), none, 0, 0⟩] false)
       (.cond (.t 23)
        (.seq (.reg [⟨(some 24), .p (.mv (.t 5)), none, 0, 0⟩,
          ⟨(some 25), .p (.mv (.t 6)), none, 0, 0⟩,
          ⟨(some 26), .p (.mv (.t 7)), none, 0, 0⟩,
          ⟨(some 27), .p (.build [(.int .i64 0), (.int .i64 0)] [(0, 1, (.t 25)), (1, 1, (.t 26))]), none, 0, 0⟩,
          ⟨(some 28), .p (.bslice 2 [(.t 27)]), none, 0, 0⟩,
          ⟨(some 29), .e (.app 2 16 (.t 24) (.t 28)), none, 0, 0⟩,
          ⟨(some 5), .p (.mv (.t 29)), none, 0, 0⟩] false)
        (.reg [⟨(some 30), .p (.mv (.t 6)), none, 0, 0⟩,
         ⟨(some 31), .p (.un .xor (.t 30)), none, 0, 0⟩,
         ⟨(some 6), .p (.mv (.t 31)), none, 0, 0⟩] false))
        .skip))
       (.seq (.reg [⟨(some 32), .p (.mv (.t 6)), none, 0, 0⟩,
         ⟨(some 33), .p (.bin .lss .other (.t 32) (.c (.int .i64 0))), none, 0, 0⟩] false)
       (.cond (.t 33)
        (.reg [⟨(some 34), .p (.mv (.t 7)), none, 0, 0⟩,
         ⟨(some 6), .p (.mv (.t 34)), none, 0, 0⟩] false)
        .skip))))))))

/-- strings.FieldsFunc -/
def q_strings_FieldsFunc : AFn := ⟨65,
  (.seq (.reg [⟨(some 4), .p (.mv (.c (.sl .full []))), none, 0, 0⟩] false)
  (.seq (.reg [⟨(some 12), .e (.mkS 2 16 [(.int .i64 0), (.int .i64 0)] (.c (.int .i64 0)) (.c (.int .i64 32))), none, 0, 0⟩,
    ⟨(some 5), .p (.mv (.t 12)), none, 0, 0⟩] false)
  (.seq (.reg [⟨(some 6), .p (.mv (.c (.int .i64 (-1)))), none, 0, 0⟩] false)
  (.seq (.seq (.reg [⟨(some 13), .p (.mv (.t 0)), none, 0, 0⟩,
     ⟨(some 14), .e (.range (.t 13)), none, 0, 0⟩] false)
   (.block 0
    (.loop q_strings_FieldsFunc_b1)))
  (.seq (.seq (.reg [⟨(some 35), .p (.mv (.t 6)), none, 0, 0⟩,
     ⟨(some 36), .p (.bin .geq .other (.t 35) (.c (.int .i64 0))), none, 0, 0⟩] false)
   (.cond (.t 36)
    (.reg [⟨(some 37), .p (.mv (.t 5)), none, 0, 0⟩,
     ⟨(some 38), .p (.mv (.t 6)), none, 0, 0⟩,
     ⟨(some 39), .p (.mv (.t 0)), none, 0, 0⟩,
     ⟨(some 40), .p (.lenS (.t 39)), none, 0, 0⟩,
     ⟨(some 41), .p (.build [(.int .i64 0), (.int .i64 0)] [(0, 1, (.t 38)), (1, 1, (.t 40))]), none, 0, 0⟩,
     ⟨(some 42), .p (.bslice 2 [(.t 41)]), none, 0, 0⟩,
     ⟨(some 43), .e (.app 2 16 (.t 37) (.t 42)), none, 0, 0⟩,
     ⟨(some 5), .p (.mv (.t 43)), none, 0, 0⟩] false)
    .skip))
  (.seq (.reg [⟨(some 44), .p (.mv (.t 5)), none, 0, 0⟩,
    ⟨(some 45), .p (.len (.t 44)), none, 0, 0⟩,
    ⟨(some 46), .e (.mkS 1 16 [(.str [])] (.t 45) (.t 45)), none, 0, 0⟩,
    ⟨(some 9), .p (.mv (.t 46)), none, 0, 0⟩] false)
  (.seq (.seq (.reg [⟨(some 47), .p (.mv (.t 5)), none, 0, 0⟩,
     ⟨(some 48), .p (.len (.t 47)), none, 0, 0⟩,
     ⟨(some 49), .p (.mv (.c (.int .i64 0))), none, 0, 0⟩] false)
   (.block 2
    (.loop q_strings_FieldsFunc_b0)))
  (.seq (.reg [⟨(some 64), .p (.mv (.t 9)), none, 0, 0⟩,
    ⟨(some 4), .p (.mv (.t 64)), none, 0, 0⟩] false)
  .ret)))))))),
  [.t 4]⟩

/-- unicode.IsSpace -/
def q_unicode_IsSpace : AFn := ⟨19,
  (.seq (.reg [⟨(some 2), .p (.mv (.c (.bool false))), none, 0, 0⟩] false)
  (.seq (.seq (.reg [⟨(some 3), .p (.mv (.t 0)), none, 0, 0⟩,
     ⟨(some 4), .p (.convInt .u32 (.t 3)), none, 0, 0⟩,
     ⟨(some 5), .p (.bin .leq .other (.t 4) (.c (.int .u32 255))), none, 0, 0⟩] false)
   (.cond (.t 5)
    (.seq (.seq (.reg [⟨(some 6), .p (.mv (.t 0)), none, 0, 0⟩] false)
     (.block 0
      (.seq (.seq (.reg [⟨(some 8), .p (.bin .eql .other (.t 6) (.c (.int .i32 9))), none, 0, 0⟩,
         ⟨(some 7), .p (.mv (.t 8)), none, 0, 0⟩] false)
       (.cond (.t 7)
        .skip
        (.seq (.reg [⟨(some 9), .p (.bin .eql .other (.t 6) (.c (.int .i32 10))), none, 0, 0⟩,
          ⟨(some 7), .p (.mv (.t 9)), none, 0, 0⟩] false)
        (.cond (.t 7)
         .skip
         (.seq (.reg [⟨(some 10), .p (.bin .eql .other (.t 6) (.c (.int .i32 11))), none, 0, 0⟩,
           ⟨(some 7), .p (.mv (.t 10)), none, 0, 0⟩] false)
         (.cond (.t 7)
          .skip
          (.seq (.reg [⟨(some 11), .p (.bin .eql .other (.t 6) (.c (.int .i32 12))), none, 0, 0⟩,
            ⟨(some 7), .p (.mv (.t 11)), none, 0, 0⟩] false)
          (.cond (.t 7)
           .skip
           (.seq (.reg [⟨(some 12), .p (.bin .eql .other (.t 6) (.c (.int .i32 13))), none, 0, 0⟩,
             ⟨(some 7), .p (.mv (.t 12)), none, 0, 0⟩] false)
           (.cond (.t 7)
            .skip
            (.seq (.reg [⟨(some 13), .p (.bin .eql .other (.t 6) (.c (.int .i32 32))), none, 0, 0⟩,
              ⟨(some 7), .p (.mv (.t 13)), none, 0, 0⟩] false)
            (.cond (.t 7)
             .skip
             (.seq (.reg [⟨(some 14), .p (.bin .eql .other (.t 6) (.c (.int .i32 133))), none, 0, 0⟩,
               ⟨(some 7), .p (.mv (.t 14)), none, 0, 0⟩] false)
             (.cond (.t 7)
              .skip
              (.reg [⟨(some 15), .p (.bin .eql .other (.t 6) (.c (.int .i32 160))), none, 0, 0⟩,
               ⟨(some 7), .p (.mv (.t 15)), none, 0, 0⟩] false)))))))))))))))
      (.cond (.t 7)
       (.seq (.reg [⟨(some 2), .p (.mv (.c (.bool true))), none, 0, 0⟩] false)
       .ret)
       .skip))))
    (.seq (.reg [⟨(some 2), .p (.mv (.c (.bool false))), none, 0, 0⟩] false)
    .ret))
    .skip))
  (.seq (.reg [⟨(some 16), .e (.bad), none, 0, 0⟩,
    ⟨(some 17), .p (.mv (.t 0)), none, 0, 0⟩,
    ⟨(some 18), .e (.call (.c (.fn (.func 252) [] [])) [(.t 16), (.t 17)]), none, 0, 0⟩,
    ⟨(some 2), .p (.mv (.t 18)), none, 0, 0⟩] false)
  .ret))),
  [.t 2]⟩

def q_slices_insertionSortCmpFunc_string_b0 : ACode :=
  (.seq (.seq (.reg [⟨(some 18), .p (.mv (.t 9)), none, 0, 0⟩,
           ⟨(some 19), .p (.mv (.t 1)), none, 0, 0⟩,
           ⟨(some 20), .p (.bin .gtr .other (.t 18) (.t 19)), none, 0, 0⟩,
           ⟨(some 21), .p (.mv (.t 20)), none, 0, 0⟩,
           ⟨(some 22), .p (.mv (.t 3)), (some (21, true)), 0, 0⟩,
           ⟨(some 23), .p (.mv (.t 0)), (some (21, true)), 0, 0⟩,
           ⟨(some 24), .p (.mv (.t 9)), (some (21, true)), 0, 0⟩,
           ⟨(some 25), .p (.iaddrS 1 (.t 23) (.t 24)), (some (21, true)), 0, 0⟩,
           ⟨(some 26), .r (.load 1 false (.t 25)), (some (21, true)), 0, 0⟩,
           ⟨(some 27), .p (.mv (.t 0)), (some (21, true)), 0, 0⟩,
           ⟨(some 28), .p (.mv (.t 9)), (some (21, true)), 0, 0⟩,
           ⟨(some 29), .p (.bin .sub .other (.t 28) (.c (.int .i64 1))), (some (21, true)), 0, 0⟩,
           ⟨(some 30), .p (.iaddrS 1 (.t 27) (.t 29)), (some (21, true)), 0, 0⟩,
           ⟨(some 31), .r (.load 1 false (.t 30)), (some (21, true)), 0, 0⟩,
           ⟨(some 32), .e (.call (.t 22) [(.t 26), (.t 31)]), (some (21, true)), 0, 0⟩,
           ⟨(some 33), .p (.bin .lss .other (.t 32) (.c (.int .i64 0))), (some (21, true)), 0, 0⟩,
           ⟨(some 34), .p (.pick (.t 21) (.t 33) (.c (.bool false))), none, 0, 0⟩] true)
         (.cond (.t 34)
          .skip
          (.exit 2)))
        (.seq (.block 3
          (.reg [⟨(some 37), .p (.mv (.t 0)), none, 0, 0⟩,
           ⟨(some 38), .p (.mv (.t 9)), none, 0, 0⟩,
           ⟨(some 39), .p (.mv (.t 0)), none, 0, 1⟩,
           ⟨(some 40), .p (.mv (.t 9)), none, 0, 1⟩,
           ⟨(some 41), .p (.bin .sub .other (.t 40) (.c (.int .i64 1))), none, 0, 1⟩,
           ⟨(some 42), .p (.mv (.t 0)), none, 0, 0⟩,
           ⟨(some 43), .p (.mv (.t 9)), none, 0, 0⟩,
           ⟨(some 44), .p (.bin .sub .other (.t 43) (.c (.int .i64 1))), none, 0, 0⟩,
           ⟨(some 45), .p (.iaddrS 1 (.t 42) (.t 44)), none, 0, 0⟩,
           ⟨(some 46), .r (.load 1 false (.t 45)), none, 0, 0⟩,
           ⟨(some 47), .p (.mv (.t 0)), none, 0, 0⟩,
           ⟨(some 48), .p (.mv (.t 9)), none, 0, 0⟩,
           ⟨(some 49), .p (.iaddrS 1 (.t 47) (.t 48)), none, 0, 0⟩,
           ⟨(some 50), .r (.load 1 false (.t 49)), none, 0, 0⟩,
           ⟨(some 51), .p (.iaddrS 1 (.t 37) (.t 38)), none, 0, 0⟩,
           ⟨none, .e (.store 1 (.t 51) (.t 46)), none, 0, 0⟩,
           ⟨(some 52), .p (.iaddrS 1 (.t 39) (.t 41)), none, 0, 0⟩,
           ⟨none, .e (.store 1 (.t 52) (.t 50)), none, 0, 0⟩] true))
        (.reg [⟨(some 35), .p (.mv (.t 9)), none, 0, 0⟩,
         ⟨(some 36), .p (.bin .sub .other (.t 35) (.c (.int .i64 1))), none, 0, 0⟩,
         ⟨(some 9), .p (.mv (.t 36)), none, 0, 0⟩] false)))

def q_slices_insertionSortCmpFunc_string_b1 : ACode :=
  (.seq (.seq (.reg [⟨(some 12), .p (.mv (.t 8)), none, 0, 0⟩,
       ⟨(some 13), .p (.mv (.t 2)), none, 0, 0⟩,
       ⟨(some 14), .p (.bin .lss .other (.t 12) (.t 13)), none, 0, 0⟩] false)
     (.cond (.t 14)
      .skip
      (.exit 0)))
    (.seq (.block 1
      (.seq (.reg [⟨(some 17), .p (.mv (.t 8)), none, 0, 0⟩,
        ⟨(some 9), .p (.mv (.t 17)), none, 0, 0⟩] false)
      (.block 2
       (.loop q_slices_insertionSortCmpFunc_string_b0))))
    (.reg [⟨(some 15), .p (.mv (.t 8)), none, 0, 0⟩,
     ⟨(some 16), .p (.bin .add .other (.t 15) (.c (.int .i64 1))), none, 0, 0⟩,
     ⟨(some 8), .p (.mv (.t 16)), none, 0, 0⟩] false)))

/-- slices.insertionSortCmpFunc[string] -/
def q_slices_insertionSortCmpFunc_string : AFn := ⟨53,
  (.seq (.reg [⟨(some 10), .p (.mv (.t 1)), none, 0, 0⟩,
    ⟨(some 11), .p (.bin .add .other (.t 10) (.c (.int .i64 1))), none, 0, 0⟩,
    ⟨(some 8), .p (.mv (.t 11)), none, 0, 0⟩] false)
  (.block 0
   (.loop q_slices_insertionSortCmpFunc_string_b1))),
  []⟩

def q_slices_symMergeCmpFunc_string_b0 : ACode :=
  (.seq (.seq (.reg [⟨(some 149), .p (.mv (.t 20)), none, 0, 0⟩,
        ⟨(some 150), .p (.mv (.t 21)), none, 0, 0⟩,
        ⟨(some 151), .p (.bin .lss .other (.t 149) (.t 150)), none, 0, 0⟩] false)
      (.cond (.t 151)
       .skip
       (.exit 8)))
     (.block 9
      (.seq (.reg [⟨(some 152), .p (.mv (.t 20)), none, 0, 0⟩,
        ⟨(some 153), .p (.mv (.t 21)), none, 0, 0⟩,
        ⟨(some 154), .p (.bin .add .other (.t 152) (.t 153)), none, 0, 0⟩,
        ⟨(some 155), .p (.convInt .u64 (.t 154)), none, 0, 0⟩,
        ⟨(some 156), .p (.bin .shr .other (.t 155) (.c (.int .u64 1))), none, 0, 0⟩,
        ⟨(some 157), .p (.convInt .i64 (.t 156)), none, 0, 0⟩,
        ⟨(some 23), .p (.mv (.t 157)), none, 0, 0⟩] false)
      (.seq (.reg [⟨(some 158), .p (.mv (.t 4)), none, 0, 0⟩,
        ⟨(some 159), .p (.mv (.t 0)), none, 0, 0⟩,
        ⟨(some 160), .p (.mv (.t 22)), none, 0, 0⟩,
        ⟨(some 161), .p (.mv (.t 23)), none, 0, 0⟩,
        ⟨(some 162), .p (.bin .sub .other (.t 160) (.t 161)), none, 0, 0⟩,
        ⟨(some 163), .p (.iaddrS 1 (.t 159) (.t 162)), none, 0, 0⟩,
        ⟨(some 164), .r (.load 1 false (.t 163)), none, 0, 0⟩,
        ⟨(some 165), .p (.mv (.t 0)), none, 0, 0⟩,
        ⟨(some 166), .p (.mv (.t 23)), none, 0, 0⟩,
        ⟨(some 167), .p (.iaddrS 1 (.t 165) (.t 166)), none, 0, 0⟩,
        ⟨(some 168), .r (.load 1 false (.t 167)), none, 0, 0⟩,
        ⟨(some 169), .e (.call (.t 158) [(.t 164), (.t 168)]), none, 0, 0⟩,
        ⟨(some 170), .p (.bin .lss .other (.t 169) (.c (.int .i64 0))), none, 0, 0⟩,
        ⟨(some 171), .p (.un .not (.t 170)), none, 0, 0⟩] true)
      (.cond (.t 171)
       (.reg [⟨(some 172), .p (.mv (.t 23)), none, 0, 0⟩,
        ⟨(some 173), .p (.bin .add .other (.t 172) (.c (.int .i64 1))), none, 0, 0⟩,
        ⟨(some 20), .p (.mv (.t 173)), none, 0, 0⟩] false)
       (.reg [⟨(some 174), .p (.mv (.t 23)), none, 0, 0⟩,
        ⟨(some 21), .p (.mv (.t 174)), none, 0, 0⟩] false))))))

def q_slices_symMergeCmpFunc_string_b1 : ACode :=
  (.seq (.seq (.reg [⟨(some 108), .p (.mv (.t 17)), none, 0, 0⟩,
          ⟨(some 109), .p (.mv (.t 14)), none, 0, 0⟩,
          ⟨(some 110), .p (.bin .gtr .other (.t 108) (.t 109)), none, 0, 0⟩] false)
        (.cond (.t 110)
         .skip
         (.exit 6)))
       (.seq (.block 7
         (.reg [⟨(some 113), .p (.mv (.t 0)), none, 0, 0⟩,
          ⟨(some 114), .p (.mv (.t 17)), none, 0, 0⟩,
          ⟨(some 115), .p (.mv (.t 0)), none, 0, 1⟩,
          ⟨(some 116), .p (.mv (.t 17)), none, 0, 1⟩,
          ⟨(some 117), .p (.bin .sub .other (.t 116) (.c (.int .i64 1))), none, 0, 1⟩,
          ⟨(some 118), .p (.mv (.t 0)), none, 0, 0⟩,
          ⟨(some 119), .p (.mv (.t 17)), none, 0, 0⟩,
          ⟨(some 120), .p (.bin .sub .other (.t 119) (.c (.int .i64 1))), none, 0, 0⟩,
          ⟨(some 121), .p (.iaddrS 1 (.t 118) (.t 120)), none, 0, 0⟩,
          ⟨(some 122), .r (.load 1 false (.t 121)), none, 0, 0⟩,
          ⟨(some 123), .p (.mv (.t 0)), none, 0, 0⟩,
          ⟨(some 124), .p (.mv (.t 17)), none, 0, 0⟩,
          ⟨(some 125), .p (.iaddrS 1 (.t 123) (.t 124)), none, 0, 0⟩,
          ⟨(some 126), .r (.load 1 false (.t 125)), none, 0, 0⟩,
          ⟨(some 127), .p (.iaddrS 1 (.t 113) (.t 114)), none, 0, 0⟩,
          ⟨none, .e (.store 1 (.t 127) (.t 122)), none, 0, 0⟩,
          ⟨(some 128), .p (.iaddrS 1 (.t 115) (.t 117)), none, 0, 0⟩,
          ⟨none, .e (.store 1 (.t 128) (.t 126)), none, 0, 0⟩] true))
       (.reg [⟨(some 111), .p (.mv (.t 17)), none, 0, 0⟩,
        ⟨(some 112), .p (.bin .sub .other (.t 111) (.c (.int .i64 1))), none, 0, 0⟩,
        ⟨(some 17), .p (.mv (.t 112)), none, 0, 0⟩] false)))

def q_slices_symMergeCmpFunc_string_b2 : ACode :=
  (.seq (.seq (.reg [⟨(some 83), .p (.mv (.t 14)), none, 0, 0⟩,
          ⟨(some 84), .p (.mv (.t 15)), none, 0, 0⟩,
          ⟨(some 85), .p (.bin .lss .other (.t 83) (.t 84)), none, 0, 0⟩] false)
        (.cond (.t 85)
         .skip
         (.exit 4)))
       (.block 5
        (.seq (.reg [⟨(some 86), .p (.mv (.t 14)), none, 0, 0⟩,
          ⟨(some 87), .p (.mv (.t 15)), none, 0, 0⟩,
          ⟨(some 88), .p (.bin .add .other (.t 86) (.t 87)), none, 0, 0⟩,
          ⟨(some 89), .p (.convInt .u64 (.t 88)), none, 0, 0⟩,
          ⟨(some 90), .p (.bin .shr .other (.t 89) (.c (.int .u64 1))), none, 0, 0⟩,
          ⟨(some 91), .p (.convInt .i64 (.t 90)), none, 0, 0⟩,
          ⟨(some 16), .p (.mv (.t 91)), none, 0, 0⟩] false)
        (.seq (.reg [⟨(some 92), .p (.mv (.t 4)), none, 0, 0⟩,
          ⟨(some 93), .p (.mv (.t 0)), none, 0, 0⟩,
          ⟨(some 94), .p (.mv (.t 2)), none, 0, 0⟩,
          ⟨(some 95), .p (.iaddrS 1 (.t 93) (.t 94)), none, 0, 0⟩,
          ⟨(some 96), .r (.load 1 false (.t 95)), none, 0, 0⟩,
          ⟨(some 97), .p (.mv (.t 0)), none, 0, 0⟩,
          ⟨(some 98), .p (.mv (.t 16)), none, 0, 0⟩,
          ⟨(some 99), .p (.iaddrS 1 (.t 97) (.t 98)), none, 0, 0⟩,
          ⟨(some 100), .r (.load 1 false (.t 99)), none, 0, 0⟩,
          ⟨(some 101), .e (.call (.t 92) [(.t 96), (.t 100)]), none, 0, 0⟩,
          ⟨(some 102), .p (.bin .lss .other (.t 101) (.c (.int .i64 0))), none, 0, 0⟩,
          ⟨(some 103), .p (.un .not (.t 102)), none, 0, 0⟩] true)
        (.cond (.t 103)
         (.reg [⟨(some 104), .p (.mv (.t 16)), none, 0, 0⟩,
          ⟨(some 105), .p (.bin .add .other (.t 104) (.c (.int .i64 1))), none, 0, 0⟩,
          ⟨(some 14), .p (.mv (.t 105)), none, 0, 0⟩] false)
         (.reg [⟨(some 106), .p (.mv (.t 16)), none, 0, 0⟩,
          ⟨(some 15), .p (.mv (.t 106)), none, 0, 0⟩] false))))))

def q_slices_symMergeCmpFunc_string_b3 : ACode :=
  (.seq (.seq (.reg [⟨(some 55), .p (.mv (.t 13)), none, 0, 0⟩,
          ⟨(some 56), .p (.mv (.t 10)), none, 0, 0⟩,
          ⟨(some 57), .p (.bin .sub .other (.t 56) (.c (.int .i64 1))), none, 0, 0⟩,
          ⟨(some 58), .p (.bin .lss .other (.t 55) (.t 57)), none, 0, 0⟩] false)
        (.cond (.t 58)
         .skip
         (.exit 2)))
       (.seq (.block 3
         (.reg [⟨(some 61), .p (.mv (.t 0)), none, 0, 0⟩,
          ⟨(some 62), .p (.mv (.t 13)), none, 0, 0⟩,
          ⟨(some 63), .p (.mv (.t 0)), none, 0, 1⟩,
          ⟨(some 64), .p (.mv (.t 13)), none, 0, 1⟩,
          ⟨(some 65), .p (.bin .add .other (.t 64) (.c (.int .i64 1))), none, 0, 1⟩,
          ⟨(some 66), .p (.mv (.t 0)), none, 0, 0⟩,
          ⟨(some 67), .p (.mv (.t 13)), none, 0, 0⟩,
          ⟨(some 68), .p (.bin .add .other (.t 67) (.c (.int .i64 1))), none, 0, 0⟩,
          ⟨(some 69), .p (.iaddrS 1 (.t 66) (.t 68)), none, 0, 0⟩,
          ⟨(some 70), .r (.load 1 false (.t 69)), none, 0, 0⟩,
          ⟨(some 71), .p (.mv (.t 0)), none, 0, 0⟩,
          ⟨(some 72), .p (.mv (.t 13)), none, 0, 0⟩,
          ⟨(some 73), .p (.iaddrS 1 (.t 71) (.t 72)), none, 0, 0⟩,
          ⟨(some 74), .r (.load 1 false (.t 73)), none, 0, 0⟩,
          ⟨(some 75), .p (.iaddrS 1 (.t 61) (.t 62)), none, 0, 0⟩,
          ⟨none, .e (.store 1 (.t 75) (.t 70)), none, 0, 0⟩,
          ⟨(some 76), .p (.iaddrS 1 (.t 63) (.t 65)), none, 0, 0⟩,
          ⟨none, .e (.store 1 (.t 76) (.t 74)), none, 0, 0⟩] true))
       (.reg [⟨(some 59), .p (.mv (.t 13)), none, 0, 0⟩,
        ⟨(some 60), .p (.bin .add .other (.t 59) (.c (.int .i64 1))), none, 0, 0⟩,
        ⟨(some 13), .p (.mv (.t 60)), none, 0, 0⟩] false)))

def q_slices_symMergeCmpFunc_string_b4 : ACode :=
  (.seq (.seq (.reg [⟨(some 31), .p (.mv (.t 10)), none, 0, 0⟩,
          ⟨(some 32), .p (.mv (.t 11)), none, 0, 0⟩,
          ⟨(some 33), .p (.bin .lss .other (.t 31) (.t 32)), none, 0, 0⟩] false)
        (.cond (.t 33)
         .skip
         (.exit 0)))
       (.block 1
        (.seq (.reg [⟨(some 34), .p (.mv (.t 10)), none, 0, 0⟩,
          ⟨(some 35), .p (.mv (.t 11)), none, 0, 0⟩,
          ⟨(some 36), .p (.bin .add .other (.t 34) (.t 35)), none, 0, 0⟩,
          ⟨(some 37), .p (.convInt .u64 (.t 36)), none, 0, 0⟩,
          ⟨(some 38), .p (.bin .shr .other (.t 37) (.c (.int .u64 1))), none, 0, 0⟩,
          ⟨(some 39), .p (.convInt .i64 (.t 38)), none, 0, 0⟩,
          ⟨(some 12), .p (.mv (.t 39)), none, 0, 0⟩] false)
        (.seq (.reg [⟨(some 40), .p (.mv (.t 4)), none, 0, 0⟩,
          ⟨(some 41), .p (.mv (.t 0)), none, 0, 0⟩,
          ⟨(some 42), .p (.mv (.t 12)), none, 0, 0⟩,
          ⟨(some 43), .p (.iaddrS 1 (.t 41) (.t 42)), none, 0, 0⟩,
          ⟨(some 44), .r (.load 1 false (.t 43)), none, 0, 0⟩,
          ⟨(some 45), .p (.mv (.t 0)), none, 0, 0⟩,
          ⟨(some 46), .p (.mv (.t 1)), none, 0, 0⟩,
          ⟨(some 47), .p (.iaddrS 1 (.t 45) (.t 46)), none, 0, 0⟩,
          ⟨(some 48), .r (.load 1 false (.t 47)), none, 0, 0⟩,
          ⟨(some 49), .e (.call (.t 40) [(.t 44), (.t 48)]), none, 0, 0⟩,
          ⟨(some 50), .p (.bin .lss .other (.t 49) (.c (.int .i64 0))), none, 0, 0⟩] true)
        (.cond (.t 50)
         (.reg [⟨(some 51), .p (.mv (.t 12)), none, 0, 0⟩,
          ⟨(some 52), .p (.bin .add .other (.t 51) (.c (.int .i64 1))), none, 0, 0⟩,
          ⟨(some 10), .p (.mv (.t 52)), none, 0, 0⟩] false)
         (.reg [⟨(some 53), .p (.mv (.t 12)), none, 0, 0⟩,
          ⟨(some 11), .p (.mv (.t 53)), none, 0, 0⟩] false))))))

/-- slices.symMergeCmpFunc[string] -/
def q_slices_symMergeCmpFunc_string : AFn := ⟨220,
  (.seq (.seq (.reg [⟨(some 25), .p (.mv (.t 2)), none, 0, 0⟩,
     ⟨(some 26), .p (.mv (.t 1)), none, 0, 0⟩,
     ⟨(some 27), .p (.bin .sub .other (.t 25) (.t 26)), none, 0, 0⟩,
     ⟨(some 28), .p (.bin .eql .other (.t 27) (.c (.int .i64 1))), none, 0, 0⟩] false)
   (.cond (.t 28)
    (.seq (.reg [⟨(some 29), .p (.mv (.t 2)), none, 0, 0⟩,
      ⟨(some 10), .p (.mv (.t 29)), none, 0, 0⟩] false)
    (.seq (.reg [⟨(some 30), .p (.mv (.t 3)), none, 0, 0⟩,
      ⟨(some 11), .p (.mv (.t 30)), none, 0, 0⟩] false)
    (.seq (.block 0
      (.loop q_slices_symMergeCmpFunc_string_b4))
    (.seq (.seq (.reg [⟨(some 54), .p (.mv (.t 1)), none, 0, 0⟩,
       ⟨(some 13), .p (.mv (.t 54)), none, 0, 0⟩] false)
     (.block 2
      (.loop q_slices_symMergeCmpFunc_string_b3)))
    .ret))))
    .skip))
  (.seq (.seq (.reg [⟨(some 77), .p (.mv (.t 3)), none, 0, 0⟩,
     ⟨(some 78), .p (.mv (.t 2)), none, 0, 0⟩,
     ⟨(some 79), .p (.bin .sub .other (.t 77) (.t 78)), none, 0, 0⟩,
     ⟨(some 80), .p (.bin .eql .other (.t 79) (.c (.int .i64 1))), none, 0, 0⟩] false)
   (.cond (.t 80)
    (.seq (.reg [⟨(some 81), .p (.mv (.t 1)), none, 0, 0⟩,
      ⟨(some 14), .p (.mv (.t 81)), none, 0, 0⟩] false)
    (.seq (.reg [⟨(some 82), .p (.mv (.t 2)), none, 0, 0⟩,
      ⟨(some 15), .p (.mv (.t 82)), none, 0, 0⟩] false)
    (.seq (.block 4
      (.loop q_slices_symMergeCmpFunc_string_b2))
    (.seq (.seq (.reg [⟨(some 107), .p (.mv (.t 2)), none, 0, 0⟩,
       ⟨(some 17), .p (.mv (.t 107)), none, 0, 0⟩] false)
     (.block 6
      (.loop q_slices_symMergeCmpFunc_string_b1)))
    .ret))))
    .skip))
  (.seq (.reg [⟨(some 129), .p (.mv (.t 1)), none, 0, 0⟩,
    ⟨(some 130), .p (.mv (.t 3)), none, 0, 0⟩,
    ⟨(some 131), .p (.bin .add .other (.t 129) (.t 130)), none, 0, 0⟩,
    ⟨(some 132), .p (.convInt .u64 (.t 131)), none, 0, 0⟩,
    ⟨(some 133), .p (.bin .shr .other (.t 132) (.c (.int .u64 1))), none, 0, 0⟩,
    ⟨(some 134), .p (.convInt .i64 (.t 133)), none, 0, 0⟩,
    ⟨(some 18), .p (.mv (.t 134)), none, 0, 0⟩] false)
  (.seq (.reg [⟨(some 135), .p (.mv (.t 18)), none, 0, 0⟩,
    ⟨(some 136), .p (.mv (.t 2)), none, 0, 0⟩,
    ⟨(some 137), .p (.bin .add .other (.t 135) (.t 136)), none, 0, 0⟩,
    ⟨(some 19), .p (.mv (.t 137)), none, 0, 0⟩] false)
  (.seq (.reg [⟨(some 20), .p (.mv (.c (.int .i64 0))), none, 0, 0⟩,
    ⟨(some 21), .p (.mv (.c (.int .i64 0))), none, 0, 0⟩] false)
  (.seq (.seq (.reg [⟨(some 138), .p (.mv (.t 2)), none, 0, 0⟩,
     ⟨(some 139), .p (.mv (.t 18)), none, 0, 0⟩,
     ⟨(some 140), .p (.bin .gtr .other (.t 138) (.t 139)), none, 0, 0⟩] false)
   (.cond (.t 140)
    (.seq (.reg [⟨(some 141), .p (.mv (.t 19)), none, 0, 0⟩,
      ⟨(some 142), .p (.mv (.t 3)), none, 0, 0⟩,
      ⟨(some 143), .p (.bin .sub .other (.t 141) (.t 142)), none, 0, 0⟩,
      ⟨(some 20), .p (.mv (.t 143)), none, 0, 0⟩] false)
    (.reg [⟨(some 144), .p (.mv (.t 18)), none, 0, 0⟩,
     ⟨(some 21), .p (.mv (.t 144)), none, 0, 0⟩] false))
    (.seq (.reg [⟨(some 145), .p (.mv (.t 1)), none, 0, 0⟩,
      ⟨(some 20), .p (.mv (.t 145)), none, 0, 0⟩] false)
    (.reg [⟨(some 146), .p (.mv (.t 2)), none, 0, 0⟩,
     ⟨(some 21), .p (.mv (.t 146)), none, 0, 0⟩] false))))
  (.seq (.reg [⟨(some 147), .p (.mv (.t 19)), none, 0, 0⟩,
    ⟨(some 148), .p (.bin .sub .other (.t 147) (.c (.int .i64 1))), none, 0, 0⟩,
    ⟨(some 22), .p (.mv (.t 148)), none, 0, 0⟩] false)
  (.seq (.block 8
    (.loop q_slices_symMergeCmpFunc_string_b0))
  (.seq (.reg [⟨(some 175), .p (.mv (.t 19)), none, 0, 0⟩,
    ⟨(some 176), .p (.mv (.t 20)), none, 0, 0⟩,
    ⟨(some 177), .p (.bin .sub .other (.t 175) (.t 176)), none, 0, 0⟩,
    ⟨(some 24), .p (.mv (.t 177)), none, 0, 0⟩] false)
  (.seq (.seq (.reg [⟨(some 178), .p (.mv (.t 20)), none, 0, 0⟩,
     ⟨(some 179), .p (.mv (.t 2)), none, 0, 0⟩,
     ⟨(some 180), .p (.bin .lss .other (.t 178) (.t 179)), none, 0, 0⟩,
     ⟨(some 181), .p (.mv (.t 180)), none, 0, 0⟩,
     ⟨(some 182), .p (.mv (.t 2)), (some (181, true)), 0, 0⟩,
     ⟨(some 183), .p (.mv (.t 24)), (some (181, true)), 0, 0⟩,
     ⟨(some 184), .p (.bin .lss .other (.t 182) (.t 183)), (some (181, true)), 0, 0⟩,
     ⟨(some 185), .p (.pick (.t 181) (.t 184) (.c (.bool false))), none, 0, 0⟩] false)
   (.cond (.t 185)
    (.reg [⟨(some 186), .p (.mv (.t 0)), none, 0, 0⟩,
     ⟨(some 187), .p (.mv (.t 20)), none, 0, 0⟩,
     ⟨(some 188), .p (.mv (.t 2)), none, 0, 0⟩,
     ⟨(some 189), .p (.mv (.t 24)), none, 0, 0⟩,
     ⟨(some 190), .p (.mv (.t 4)), none, 0, 0⟩,
     ⟨(some 191), .e (.call (.c (.fn (.func 253) [] [])) [(.t 186), (.t 187), (.t 188), (.t 189), (.t 190)]), none, 0, 0⟩] false)
    .skip))
  (.seq (.seq (.reg [⟨(some 192), .p (.mv (.t 1)), none, 0, 0⟩,
     ⟨(some 193), .p (.mv (.t 20)), none, 0, 0⟩,
     ⟨(some 194), .p (.bin .lss .other (.t 192) (.t 193)), none, 0, 0⟩,
     ⟨(some 195), .p (.mv (.t 194)), none, 0, 0⟩,
     ⟨(some 196), .p (.mv (.t 20)), (some (195, true)), 0, 0⟩,
     ⟨(some 197), .p (.mv (.t 18)), (some (195, true)), 0, 0⟩,
     ⟨(some 198), .p (.bin .lss .other (.t 196) (.t 197)), (some (195, true)), 0, 0⟩,
     ⟨(some 199), .p (.pick (.t 195) (.t 198) (.c (.bool false))), none, 0, 0⟩] false)
   (.cond (.t 199)
    (.reg [⟨(some 200), .p (.mv (.t 0)), none, 0, 0⟩,
     ⟨(some 201), .p (.mv (.t 1)), none, 0, 0⟩,
     ⟨(some 202), .p (.mv (.t 20)), none, 0, 0⟩,
     ⟨(some 203), .p (.mv (.t 18)), none, 0, 0⟩,
     ⟨(some 204), .p (.mv (.t 4)), none, 0, 0⟩,
     ⟨(some 205), .e (.call (.c (.fn (.func 244) [] [])) [(.t 200), (.t 201), (.t 202), (.t 203), (.t 204)]), none, 0, 0⟩] false)
    .skip))
  (.seq (.reg [⟨(some 206), .p (.mv (.t 18)), none, 0, 0⟩,
    ⟨(some 207), .p (.mv (.t 24)), none, 0, 0⟩,
    ⟨(some 208), .p (.bin .lss .other (.t 206) (.t 207)), none, 0, 0⟩,
    ⟨(some 209), .p (.mv (.t 208)), none, 0, 0⟩,
    ⟨(some 210), .p (.mv (.t 24)), (some (209, true)), 0, 0⟩,
    ⟨(some 211), .p (.mv (.t 3)), (some (209, true)), 0, 0⟩,
    ⟨(some 212), .p (.bin .lss .other (.t 210) (.t 211)), (some (209, true)), 0, 0⟩,
    ⟨(some 213), .p (.pick (.t 209) (.t 212) (.c (.bool false))), none, 0, 0⟩] false)
  (.cond (.t 213)
   (.reg [⟨(some 214), .p (.mv (.t 0)), none, 0, 0⟩,
    ⟨(some 215), .p (.mv (.t 18)), none, 0, 0⟩,
    ⟨(some 216), .p (.mv (.t 24)), none, 0, 0⟩,
    ⟨(some 217), .p (.mv (.t 3)), none, 0, 0⟩,
    ⟨(some 218), .p (.mv (.t 4)), none, 0, 0⟩,
    ⟨(some 219), .e (.call (.c (.fn (.func 244) [] [])) [(.t 214), (.t 215), (.t 216), (.t 217), (.t 218)]), none, 0, 0⟩] false)
   .skip))))))))))))),
  []⟩

/-- jettison/jettisonlaw11.map3 -/
def q_jettisonlaw11_map3 : AFn := ⟨5,
  (.seq (.reg [⟨(some 2), .p (.mv (.c (.str []))), none, 0, 0⟩] false)
  (.seq (.seq (.reg [⟨(some 3), .p (.mv (.t 0)), none, 0, 0⟩,
     ⟨(some 4), .p (.bin .eql .other (.t 3) (.c (.str [66]))), none, 0, 0⟩] false)
   (.cond (.t 4)
    (.seq (.reg [⟨(some 2), .p (.mv (.c (.str [121]))), none, 0, 0⟩] false)
    .ret)
    .skip))
  (.seq (.reg [⟨(some 2), .p (.mv (.c (.str [120]))), none, 0, 0⟩] false)
  .ret))),
  [.t 2]⟩

/-- internal/stringslite.IndexByte -/
def q_internal_stringslite_IndexByte : AFn := ⟨8,
  (.seq (.reg [⟨(some 4), .p (.mv (.c (.int .i64 0))), none, 0, 0⟩] false)
  (.seq (.reg [⟨(some 5), .p (.mv (.t 0)), none, 0, 0⟩,
    ⟨(some 6), .p (.mv (.t 1)), none, 0, 0⟩,
    ⟨(some 7), .e (.call (.c (.fn (.func 255) [] [])) [(.t 5), (.t 6)]), none, 0, 0⟩,
    ⟨(some 4), .p (.mv (.t 7)), none, 0, 0⟩] false)
  .ret)),
  [.t 4]⟩

/-- internal/strconv.lower -/
def q_internal_strconv_lower : AFn := ⟨5,
  (.seq (.reg [⟨(some 2), .p (.mv (.c (.int .u8 0))), none, 0, 0⟩] false)
  (.seq (.reg [⟨(some 3), .p (.mv (.t 0)), none, 0, 0⟩,
    ⟨(some 4), .p (.bin .or .other (.t 3) (.c (.int .u8 32))), none, 0, 0⟩,
    ⟨(some 2), .p (.mv (.t 4)), none, 0, 0⟩] false)
  .ret)),
  [.t 2]⟩

def q_internal_strconv_underscoreOK_b0 : ACode :=
  (.seq (.seq (.reg [⟨(some 51), .p (.mv (.t 4)), none, 0, 0⟩,
        ⟨(some 52), .p (.mv (.t 0)), none, 0, 0⟩,
        ⟨(some 53), .p (.lenS (.t 52)), none, 0, 0⟩,
        ⟨(some 54), .p (.bin .lss .other (.t 51) (.t 53)), none, 0, 0⟩] false)
      (.cond (.t 54)
       .skip
       (.exit 0)))
     (.seq (.block 1
       (.seq (.seq (.reg [⟨(some 57), .p (.mv (.t 0)), none, 0, 0⟩,
          ⟨(some 58), .p (.mv (.t 4)), none, 0, 0⟩,
          ⟨(some 59), .p (.idxStr (.t 57) (.t 58)), none, 0, 0⟩,
          ⟨(some 60), .p (.bin .leq .other (.c (.int .u8 48)) (.t 59)), none, 0, 0⟩,
          ⟨(some 61), .p (.mv (.t 60)), none, 0, 0⟩,
          ⟨(some 62), .p (.mv (.t 0)), (some (61, true)), 0, 0⟩,
          ⟨(some 63), .p (.mv (.t 4)), (some (61, true)), 0, 0⟩,
          ⟨(some 64), .p (.idxStr (.t 62) (.t 63)), (some (61, true)), 0, 0⟩,
          ⟨(some 65), .p (.bin .leq .other (.t 64) (.c (.int .u8 57))), (some (61, true)), 0, 0⟩,
          ⟨(some 66), .p (.pick (.t 61) (.t 65) (.c (.bool false))), none, 0, 0⟩,
          ⟨(some 67), .p (.mv (.t 66)), none, 0, 0⟩,
          ⟨(some 68), .p (.mv (.t 5)), (some (67, false)), 0, 0⟩,
          ⟨(some 69), .p (.mv (.t 68)), (some (67, false)), 0, 0⟩,
          ⟨(some 70), .p (.mv (.t 0)), (some (69, true)), 0, 0⟩,
          ⟨(some 71), .p (.mv (.t 4)), (some (69, true)), 0, 0⟩,
          ⟨(some 72), .p (.idxStr (.t 70) (.t 71)), (some (69, true)), 0, 0⟩,
          ⟨(some 73), .e (.call (.c (.fn (.func 248) [] [])) [(.t 72)]), (some (69, true)), 0, 0⟩,
          ⟨(some 74), .p (.bin .leq .other (.c (.int .u8 97)) (.t 73)), (some (69, true)), 0, 0⟩,
          ⟨(some 75), .p (.pick (.t 69) (.t 74) (.c (.bool false))), (some (67, false)), 0, 0⟩,
          ⟨(some 76), .p (.mv (.t 75)), (some (67, false)), 0, 0⟩,
          ⟨(some 77), .p (.mv (.t 0)), (some (76, true)), 0, 0⟩,
          ⟨(some 78), .p (.mv (.t 4)), (some (76, true)), 0, 0⟩,
          ⟨(some 79), .p (.idxStr (.t 77) (.t 78)), (some (76, true)), 0, 0⟩,
          ⟨(some 80), .e (.call (.c (.fn (.func 248) [] [])) [(.t 79)]), (some (76, true)), 0, 0⟩,
          ⟨(some 81), .p (.bin .leq .other (.t 80) (.c (.int .u8 102))), (some (76, true)), 0, 0⟩,
          ⟨(some 82), .p (.pick (.t 76) (.t 81) (.c (.bool false))), (some (67, false)), 0, 0⟩,
          ⟨(some 83), .p (.pick (.t 67) (.c (.bool true)) (.t 82)), none, 0, 0⟩] false)
        (.cond (.t 83)
         (.seq (.reg [⟨(some 3), .p (.mv (.c (.int .i32 48))), none, 0, 0⟩] false)
         (.exit 1))
         .skip))
       (.seq (.seq (.reg [⟨(some 84), .p (.mv (.t 0)), none, 0, 0⟩,
          ⟨(some 85), .p (.mv (.t 4)), none, 0, 0⟩,
          ⟨(some 86), .p (.idxStr (.t 84) (.t 85)), none, 0, 0⟩,
          ⟨(some 87), .p (.bin .eql .other (.t 86) (.c (.int .u8 95))), none, 0, 0⟩] false)
        (.cond (.t 87)
         (.seq (.seq (.reg [⟨(some 88), .p (.mv (.t 3)), none, 0, 0⟩,
            ⟨(some 89), .p (.bin .neq .other (.t 88) (.c (.int .i32 48))), none, 0, 0⟩] false)
          (.cond (.t 89)
           (.seq (.reg [⟨(some 2), .p (.mv (.c (.bool false))), none, 0, 0⟩] false)
           .ret)
           .skip))
         (.seq (.reg [⟨(some 3), .p (.mv (.c (.int .i32 95))), none, 0, 0⟩] false)
         (.exit 1)))
         .skip))
       (.seq (.seq (.reg [⟨(some 90), .p (.mv (.t 3)), none, 0, 0⟩,
          ⟨(some 91), .p (.bin .eql .other (.t 90) (.c (.int .i32 95))), none, 0, 0⟩] false)
        (.cond (.t 91)
         (.seq (.reg [⟨(some 2), .p (.mv (.c (.bool false))), none, 0, 0⟩] false)
         .ret)
         .skip))
       (.reg [⟨(some 3), .p (.mv (.c (.int .i32 33))), none, 0, 0⟩] false)))))
     (.reg [⟨(some 55), .p (.mv (.t 4)), none, 0, 0⟩,
      ⟨(some 56), .p (.bin .add .other (.t 55) (.c (.int .i64 1))), none, 0, 0⟩,
      ⟨(some 4), .p (.mv (.t 56)), none, 0, 0⟩] false)))

/-- internal/strconv.underscoreOK -/
def q_internal_strconv_underscoreOK : AFn := ⟨94,
  (.seq (.reg [⟨(some 2), .p (.mv (.c (.bool false))), none, 0, 0⟩] false)
  (.seq (.reg [⟨(some 3), .p (.mv (.c (.int .i32 94))), none, 0, 0⟩] false)
  (.seq (.reg [⟨(some 4), .p (.mv (.c (.int .i64 0))), none, 0, 0⟩] false)
  (.seq (.seq (.reg [⟨(some 6), .p (.mv (.t 0)), none, 0, 0⟩,
     ⟨(some 7), .p (.lenS (.t 6)), none, 0, 0⟩,
     ⟨(some 8), .p (.bin .geq .other (.t 7) (.c (.int .i64 1))), none, 0, 0⟩,
     ⟨(some 9), .p (.mv (.t 8)), none, 0, 0⟩,
     ⟨(some 10), .p (.mv (.t 0)), (some (9, true)), 0, 0⟩,
     ⟨(some 11), .p (.idxStr (.t 10) (.c (.int .i64 0))), (some (9, true)), 0, 0⟩,
     ⟨(some 12), .p (.bin .eql .other (.t 11) (.c (.int .u8 45))), (some (9, true)), 0, 0⟩,
     ⟨(some 13), .p (.mv (.t 12)), (some (9, true)), 0, 0⟩,
     ⟨(some 14), .p (.mv (.t 0)), (some (13, false)), 0, 0⟩,
     ⟨(some 15), .p (.idxStr (.t 14) (.c (.int .i64 0))), (some (13, false)), 0, 0⟩,
     ⟨(some 16), .p (.bin .eql .other (.t 15) (.c (.int .u8 43))), (some (13, false)), 0, 0⟩,
     ⟨(some 17), .p (.pick (.t 13) (.c (.bool true)) (.t 16)), (some (9, true)), 0, 0⟩,
     ⟨(some 18), .p (.pick (.t 9) (.t 17) (.c (.bool false))), none, 0, 0⟩] false)
   (.cond (.t 18)
    (.reg [⟨(some 19), .p (.mv (.t 0)), none, 0, 0⟩,
     ⟨(some 20), .p (.slcStr (.t 19) (some (.c (.int .i64 1))) none), none, 0, 0⟩,
     ⟨(some 0), .p (.mv (.t 20)), none, 0, 0⟩] false)
    .skip))
  (.seq (.reg [⟨(some 5), .p (.mv (.c (.bool false))), none, 0, 0⟩] false)
  (.seq (.seq (.reg [⟨(some 21), .p (.mv (.t 0)), none, 0, 0⟩,
     ⟨(some 22), .p (.lenS (.t 21)), none, 0, 0⟩,
     ⟨(some 23), .p (.bin .geq .other (.t 22) (.c (.int .i64 2))), none, 0, 0⟩,
     ⟨(some 24), .p (.mv (.t 23)), none, 0, 0⟩,
     ⟨(some 25), .p (.mv (.t 0)), (some (24, true)), 0, 0⟩,
     ⟨(some 26), .p (.idxStr (.t 25) (.c (.int .i64 0))), (some (24, true)), 0, 0⟩,
     ⟨(some 27), .p (.bin .eql .other (.t 26) (.c (.int .u8 48))), (some (24, true)), 0, 0⟩,
     ⟨(some 28), .p (.pick (.t 24) (.t 27) (.c (.bool false))), none, 0, 0⟩,
     ⟨(some 29), .p (.mv (.t 28)), none, 0, 0⟩,
     ⟨(some 30), .p (.mv (.t 0)), (some (29, true)), 0, 0⟩,
     ⟨(some 31), .p (.idxStr (.t 30) (.c (.int .i64 1))), (some (29, true)), 0, 0⟩,
     ⟨(some 32), .e (.call (.c (.fn (.func 248) [] [])) [(.t 31)]), (some (29, true)), 0, 0⟩,
     ⟨(some 33), .p (.bin .eql .other (.t 32) (.c (.int .u8 98))), (some (29, true)), 0, 0⟩,
     ⟨(some 34), .p (.mv (.t 33)), (some (29, true)), 0, 0⟩,
     ⟨(some 35), .p (.mv (.t 0)), (some (34, false)), 0, 0⟩,
     ⟨(some 36), .p (.idxStr (.t 35) (.c (.int .i64 1))), (some (34, false)), 0, 0⟩,
     ⟨(some 37), .e (.call (.c (.fn (.func 248) [] [])) [(.t 36)]), (some (34, false)), 0, 0⟩,
     ⟨(some 38), .p (.bin .eql .other (.t 37) (.c (.int .u8 111))), (some (34, false)), 0, 0⟩,
     ⟨(some 39), .p (.pick (.t 34) (.c (.bool true)) (.t 38)), (some (29, true)), 0, 0⟩,
     ⟨(some 40), .p (.mv (.t 39)), (some (29, true)), 0, 0⟩,
     ⟨(some 41), .p (.mv (.t 0)), (some (40, false)), 0, 0⟩,
     ⟨(some 42), .p (.idxStr (.t 41) (.c (.int .i64 1))), (some (40, false)), 0, 0⟩,
     ⟨(some 43), .e (.call (.c (.fn (.func 248) [] [])) [(.t 42)]), (some (40, false)), 0, 0⟩,
     ⟨(some 44), .p (.bin .eql .other (.t 43) (.c (.int .u8 120))), (some (40, false)), 0, 0⟩,
     ⟨(some 45), .p (.pick (.t 40) (.c (.bool true)) (.t 44)), (some (29, true)), 0, 0⟩,
     ⟨(some 46), .p (.pick (.t 29) (.t 45) (.c (.bool false))), none, 0, 0⟩] false)
   (.cond (.t 46)
    (.seq (.reg [⟨(some 4), .p (.mv (.c (.int .i64 2))), none, 0, 0⟩] false)
    (.seq (.reg [⟨(some 3), .p (.mv (.c (.int .i32 48))), none, 0, 0⟩] false)
    (.reg [⟨(some 47), .p (.mv (.t 0)), none, 0, 0⟩,
     ⟨(some 48), .p (.idxStr (.t 47) (.c (.int .i64 1))), none, 0, 0⟩,
     ⟨(some 49), .e (.call (.c (.fn (.func 248) [] [])) [(.t 48)]), none, 0, 0⟩,
     ⟨(some 50), .p (.bin .eql .other (.t 49) (.c (.int .u8 120))), none, 0, 0⟩,
     ⟨(some 5), .p (.mv (.t 50)), none, 0, 0⟩] false)))
    .skip))
  (.seq (.block 0
    (.loop q_internal_strconv_underscoreOK_b0))
  (.seq (.reg [⟨(some 92), .p (.mv (.t 3)), none, 0, 0⟩,
    ⟨(some 93), .p (.bin .neq .other (.t 92) (.c (.int .i32 95))), none, 0, 0⟩,
    ⟨(some 2), .p (.mv (.t 93)), none, 0, 0⟩] false)
  .ret)))))))),
  [.t 2]⟩

/-- internal/stringslite.Clone -/
def q_internal_stringslite_Clone : AFn := ⟨18,
  (.seq (.reg [⟨(some 2), .p (.mv (.c (.str []))), none, 0, 0⟩] false)
  (.seq (.seq (.reg [⟨(some 4), .p (.mv (.t 0)), none, 0, 0⟩,
     ⟨(some 5), .p (.lenS (.t 4)), none, 0, 0⟩,
     ⟨(some 6), .p (.bin .eql .other (.t 5) (.c (.int .i64 0))), none, 0, 0⟩] false)
   (.cond (.t 6)
    (.seq (.reg [⟨(some 2), .p (.mv (.c (.str []))), none, 0, 0⟩] false)
    .ret)
    .skip))
  (.seq (.reg [⟨(some 7), .p (.mv (.t 0)), none, 0, 0⟩,
    ⟨(some 8), .p (.lenS (.t 7)), none, 0, 0⟩,
    ⟨(some 9), .e (.mkS 1 1 [(.int .u8 0)] (.t 8) (.t 8)), none, 0, 0⟩,
    ⟨(some 3), .p (.mv (.t 9)), none, 0, 0⟩] false)
  (.seq (.reg [⟨(some 10), .p (.mv (.t 3)), none, 0, 0⟩,
    ⟨(some 11), .p (.mv (.t 0)), none, 0, 0⟩,
    ⟨(some 12), .e (.bad), none, 0, 0⟩] false)
  (.seq (.reg [⟨(some 13), .p (.mv (.t 3)), none, 0, 0⟩,
    ⟨(some 14), .p (.iaddrS 1 (.t 13) (.c (.int .i64 0))), none, 0, 0⟩,
    ⟨(some 15), .p (.mv (.t 3)), none, 0, 0⟩,
    ⟨(some 16), .p (.len (.t 15)), none, 0, 0⟩,
    ⟨(some 17), .e (.bad), none, 0, 0⟩,
    ⟨(some 2), .p (.mv (.t 17)), none, 0, 0⟩] false)
  .ret))))),
  [.t 2]⟩

/-- errors.New -/
def q_errors_New : AFn := ⟨7,
  (.seq (.reg [⟨(some 2), .p (.mv (.c .nili)), none, 0, 0⟩] false)
  (.seq (.reg [⟨(some 3), .p (.mv (.t 0)), none, 0, 0⟩,
    ⟨(some 4), .p (.build [(.str [])] [(0, 1, (.t 3))]), none, 0, 0⟩,
    ⟨(some 5), .e (.box (.t 4)), none, 0, 0⟩,
    ⟨(some 6), .p (.mkI 312 (.t 5)), none, 0, 0⟩,
    ⟨(some 2), .p (.mv (.t 6)), none, 0, 0⟩] false)
  .ret)),
  [.t 2]⟩

/-- unicode.isExcludingLatin -/
def q_unicode_isExcludingLatin : AFn := ⟨59,
  (.seq (.reg [⟨(some 4), .p (.mv (.c (.bool false))), none, 0, 0⟩] false)
  (.seq (.reg [⟨(some 8), .p (.mv (.t 0)), none, 0, 0⟩,
    ⟨(some 9), .p (.nilchk (.t 8)), none, 0, 0⟩,
    ⟨(some 10), .p (.faddr 0 (.t 9)), none, 0, 0⟩,
    ⟨(some 11), .r (.load 1 false (.t 10)), none, 0, 0⟩,
    ⟨(some 5), .p (.mv (.t 11)), none, 0, 0⟩] false)
  (.seq (.seq (.reg [⟨(some 12), .p (.mv (.t 0)), none, 0, 0⟩,
     ⟨(some 13), .p (.nilchk (.t 12)), none, 0, 0⟩,
     ⟨(some 14), .p (.faddr 2 (.t 13)), none, 0, 0⟩,
     ⟨(some 15), .r (.load 1 false (.t 14)), none, 0, 0⟩,
     ⟨(some 6), .p (.mv (.t 15)), none, 0, 0⟩] false)
   (.seq (.reg [⟨(some 16), .p (.mv (.t 5)), none, 0, 0⟩,
     ⟨(some 17), .p (.len (.t 16)), none, 0, 0⟩,
     ⟨(some 18), .p (.mv (.t 6)), none, 0, 0⟩,
     ⟨(some 19), .p (.bin .gtr .other (.t 17) (.t 18)), none, 0, 0⟩,
     ⟨(some 20), .p (.mv (.t 19)), none, 0, 0⟩,
     ⟨(some 21), .p (.mv (.t 1)), (some (20, true)), 0, 0⟩,
     ⟨(some 22), .p (.convInt .u32 (.t 21)), (some (20, true)), 0, 0⟩,
     ⟨(some 23), .p (.mv (.t 5)), (some (20, true)), 0, 0⟩,
     ⟨(some 24), .p (.mv (.t 5)), (some (20, true)), 0, 0⟩,
     ⟨(some 25), .p (.len (.t 24)), (some (20, true)), 0, 0⟩,
     ⟨(some 26), .p (.bin .sub .other (.t 25) (.c (.int .i64 1))), (some (20, true)), 0, 0⟩,
     ⟨(some 27), .p (.iaddrS 3 (.t 23) (.t 26)), (some (20, true)), 0, 0⟩,
     ⟨(some 28), .p (.faddr 1 (.t 27)), (some (20, true)), 0, 0⟩,
     ⟨(some 29), .r (.load 1 false (.t 28)), (some (20, true)), 0, 0⟩,
     ⟨(some 30), .p (.convInt .u32 (.t 29)), (some (20, true)), 0, 0⟩,
     ⟨(some 31), .p (.bin .leq .other (.t 22) (.t 30)), (some (20, true)), 0, 0⟩,
     ⟨(some 32), .p (.pick (.t 20) (.t 31) (.c (.bool false))), none, 0, 0⟩] false)
   (.cond (.t 32)
    (.seq (.reg [⟨(some 33), .p (.mv (.t 5)), none, 0, 0⟩,
      ⟨(some 34), .p (.mv (.t 6)), none, 0, 0⟩,
      ⟨(some 35), .p (.slcSl 3 (.t 33) (some (.t 34)) none none), none, 0, 0⟩,
      ⟨(some 36), .p (.mv (.t 1)), none, 0, 0⟩,
      ⟨(some 37), .p (.convInt .u16 (.t 36)), none, 0, 0⟩,
      ⟨(some 38), .e (.call (.c (.fn (.func 256) [] [])) [(.t 35), (.t 37)]), none, 0, 0⟩,
      ⟨(some 4), .p (.mv (.t 38)), none, 0, 0⟩] false)
    .ret)
    .skip)))
  (.seq (.reg [⟨(some 39), .p (.mv (.t 0)), none, 0, 0⟩,
    ⟨(some 40), .p (.nilchk (.t 39)), none, 0, 0⟩,
    ⟨(some 41), .p (.faddr 1 (.t 40)), none, 0, 0⟩,
    ⟨(some 42), .r (.load 1 false (.t 41)), none, 0, 0⟩,
    ⟨(some 7), .p (.mv (.t 42)), none, 0, 0⟩] false)
  (.seq (.seq (.reg [⟨(some 43), .p (.mv (.t 7)), none, 0, 0⟩,
     ⟨(some 44), .p (.len (.t 43)), none, 0, 0⟩,
     ⟨(some 45), .p (.bin .gtr .other (.t 44) (.c (.int .i64 0))), none, 0, 0⟩,
     ⟨(some 46), .p (.mv (.t 45)), none, 0, 0⟩,
     ⟨(some 47), .p (.mv (.t 1)), (some (46, true)), 0, 0⟩,
     ⟨(some 48), .p (.mv (.t 7)), (some (46, true)), 0, 0⟩,
     ⟨(some 49), .p (.iaddrS 3 (.t 48) (.c (.int .i64 0))), (some (46, true)), 0, 0⟩,
     ⟨(some 50), .p (.faddr 0 (.t 49)), (some (46, true)), 0, 0⟩,
     ⟨(some 51), .r (.load 1 false (.t 50)), (some (46, true)), 0, 0⟩,
     ⟨(some 52), .p (.convInt .i32 (.t 51)), (some (46, true)), 0, 0⟩,
     ⟨(some 53), .p (.bin .geq .other (.t 47) (.t 52)), (some (46, true)), 0, 0⟩,
     ⟨(some 54), .p (.pick (.t 46) (.t 53) (.c (.bool false))), none, 0, 0⟩] false)
   (.cond (.t 54)
    (.seq (.reg [⟨(some 55), .p (.mv (.t 7)), none, 0, 0⟩,
      ⟨(some 56), .p (.mv (.t 1)), none, 0, 0⟩,
      ⟨(some 57), .p (.convInt .u32 (.t 56)), none, 0, 0⟩,
      ⟨(some 58), .e (.call (.c (.fn (.func 257) [] [])) [(.t 55), (.t 57)]), none, 0, 0⟩,
      ⟨(some 4), .p (.mv (.t 58)), none, 0, 0⟩] false)
    .ret)
    .skip))
  (.seq (.reg [⟨(some 4), .p (.mv (.c (.bool false))), none, 0, 0⟩] false)
  .ret)))))),
  [.t 4]⟩

def q_slices_rotateCmpFunc_string_b0 : ACode :=
  (.seq (.seq (.reg [⟨(some 18), .p (.mv (.t 10)), none, 0, 0⟩,
        ⟨(some 19), .p (.mv (.t 11)), none, 0, 0⟩,
        ⟨(some 20), .p (.bin .neq .other (.t 18) (.t 19)), none, 0, 0⟩] false)
      (.cond (.t 20)
       .skip
       (.exit 0)))
     (.block 1
      (.seq (.reg [⟨(some 21), .p (.mv (.t 10)), none, 0, 0⟩,
        ⟨(some 22), .p (.mv (.t 11)), none, 0, 0⟩,
        ⟨(some 23), .p (.bin .gtr .other (.t 21) (.t 22)), none, 0, 0⟩] false)
      (.cond (.t 23)
       (.seq (.reg [⟨(some 24), .p (.mv (.t 0)), none, 0, 0⟩,
         ⟨(some 25), .p (.mv (.t 2)), none, 0, 0⟩,
         ⟨(some 26), .p (.mv (.t 10)), none, 0, 0⟩,
         ⟨(some 27), .p (.bin .sub .other (.t 25) (.t 26)), none, 0, 0⟩,
         ⟨(some 28), .p (.mv (.t 2)), none, 0, 0⟩,
         ⟨(some 29), .p (.mv (.t 11)), none, 0, 0⟩,
         ⟨(some 30), .p (.mv (.t 4)), none, 0, 0⟩,
         ⟨(some 31), .e (.call (.c (.fn (.func 258) [] [])) [(.t 24), (.t 27), (.t 28), (.t 29), (.t 30)]), none, 0, 0⟩] false)
       (.reg [⟨(some 32), .p (.mv (.t 10)), none, 0, 0⟩,
        ⟨(some 33), .p (.mv (.t 11)), none, 0, 0⟩,
        ⟨(some 34), .p (.bin .sub .other (.t 32) (.t 33)), none, 0, 0⟩,
        ⟨(some 10), .p (.mv (.t 34)), none, 0, 0⟩] false))
       (.seq (.reg [⟨(some 35), .p (.mv (.t 0)), none, 0, 0⟩,
         ⟨(some 36), .p (.mv (.t 2)), none, 0, 0⟩,
         ⟨(some 37), .p (.mv (.t 10)), none, 0, 0⟩,
         ⟨(some 38), .p (.bin .sub .other (.t 36) (.t 37)), none, 0, 0⟩,
         ⟨(some 39), .p (.mv (.t 2)), none, 0, 0⟩,
         ⟨(some 40), .p (.mv (.t 11)), none, 0, 0⟩,
         ⟨(some 41), .p (.bin .add .other (.t 39) (.t 40)), none, 0, 0⟩,
         ⟨(some 42), .p (.mv (.t 10)), none, 0, 0⟩,
         ⟨(some 43), .p (.bin .sub .other (.t 41) (.t 42)), none, 0, 0⟩,
         ⟨(some 44), .p (.mv (.t 10)), none, 0, 0⟩,
         ⟨(some 45), .p (.mv (.t 4)), none, 0, 0⟩,
         ⟨(some 46), .e (.call (.c (.fn (.func 258) [] [])) [(.t 35), (.t 38), (.t 43), (.t 44), (.t 45)]), none, 0, 0⟩] false)
       (.reg [⟨(some 47), .p (.mv (.t 11)), none, 0, 0⟩,
        ⟨(some 48), .p (.mv (.t 10)), none, 0, 0⟩,
        ⟨(some 49), .p (.bin .sub .other (.t 47) (.t 48)), none, 0, 0⟩,
        ⟨(some 11), .p (.mv (.t 49)), none, 0, 0⟩] false))))))

/-- slices.rotateCmpFunc[string] -/
def q_slices_rotateCmpFunc_string : AFn := ⟨58,
  (.seq (.reg [⟨(some 12), .p (.mv (.t 2)), none, 0, 0⟩,
    ⟨(some 13), .p (.mv (.t 1)), none, 0, 0⟩,
    ⟨(some 14), .p (.bin .sub .other (.t 12) (.t 13)), none, 0, 0⟩,
    ⟨(some 10), .p (.mv (.t 14)), none, 0, 0⟩] false)
  (.seq (.reg [⟨(some 15), .p (.mv (.t 3)), none, 0, 0⟩,
    ⟨(some 16), .p (.mv (.t 2)), none, 0, 0⟩,
    ⟨(some 17), .p (.bin .sub .other (.t 15) (.t 16)), none, 0, 0⟩,
    ⟨(some 11), .p (.mv (.t 17)), none, 0, 0⟩] false)
  (.seq (.block 0
    (.loop q_slices_rotateCmpFunc_string_b0))
  (.reg [⟨(some 50), .p (.mv (.t 0)), none, 0, 0⟩,
   ⟨(some 51), .p (.mv (.t 2)), none, 0, 0⟩,
   ⟨(some 52), .p (.mv (.t 10)), none, 0, 0⟩,
   ⟨(some 53), .p (.bin .sub .other (.t 51) (.t 52)), none, 0, 0⟩,
   ⟨(some 54), .p (.mv (.t 2)), none, 0, 0⟩,
   ⟨(some 55), .p (.mv (.t 10)), none, 0, 0⟩,
   ⟨(some 56), .p (.mv (.t 4)), none, 0, 0⟩,
   ⟨(some 57), .e (.call (.c (.fn (.func 258) [] [])) [(.t 50), (.t 53), (.t 54), (.t 55), (.t 56)]), none, 0, 0⟩] false)))),
  []⟩

def q_unicode_is16_b0 : ACode :=
  (.seq (.seq (.reg [⟨(some 60), .p (.mv (.t 7)), none, 0, 0⟩,
        ⟨(some 61), .p (.mv (.t 8)), none, 0, 0⟩,
        ⟨(some 62), .p (.bin .lss .other (.t 60) (.t 61)), none, 0, 0⟩] false)
      (.cond (.t 62)
       .skip
       (.exit 2)))
     (.block 3
      (.seq (.reg [⟨(some 63), .p (.mv (.t 7)), none, 0, 0⟩,
        ⟨(some 64), .p (.mv (.t 8)), none, 0, 0⟩,
        ⟨(some 65), .p (.bin .add .other (.t 63) (.t 64)), none, 0, 0⟩,
        ⟨(some 66), .p (.convInt .u64 (.t 65)), none, 0, 0⟩,
        ⟨(some 67), .p (.bin .shr .other (.t 66) (.c (.int .u64 1))), none, 0, 0⟩,
        ⟨(some 68), .p (.convInt .i64 (.t 67)), none, 0, 0⟩,
        ⟨(some 9), .p (.mv (.t 68)), none, 0, 0⟩] false)
      (.seq (.reg [⟨(some 69), .p (.mv (.t 0)), none, 0, 0⟩,
        ⟨(some 70), .p (.mv (.t 9)), none, 0, 0⟩,
        ⟨(some 71), .p (.iaddrS 3 (.t 69) (.t 70)), none, 0, 0⟩,
        ⟨(some 10), .p (.mv (.t 71)), none, 0, 0⟩] false)
      (.seq (.seq (.reg [⟨(some 72), .p (.mv (.t 10)), none, 0, 0⟩,
         ⟨(some 73), .p (.nilchk (.t 72)), none, 0, 0⟩,
         ⟨(some 74), .p (.faddr 0 (.t 73)), none, 0, 0⟩,
         ⟨(some 75), .r (.load 1 false (.t 74)), none, 0, 0⟩,
         ⟨(some 76), .p (.mv (.t 1)), none, 0, 0⟩,
         ⟨(some 77), .p (.bin .leq .other (.t 75) (.t 76)), none, 0, 0⟩,
         ⟨(some 78), .p (.mv (.t 77)), none, 0, 0⟩,
         ⟨(some 79), .p (.mv (.t 1)), (some (78, true)), 0, 0⟩,
         ⟨(some 80), .p (.mv (.t 10)), (some (78, true)), 0, 0⟩,
         ⟨(some 81), .p (.nilchk (.t 80)), (some (78, true)), 0, 0⟩,
         ⟨(some 82), .p (.faddr 1 (.t 81)), (some (78, true)), 0, 0⟩,
         ⟨(some 83), .r (.load 1 false (.t 82)), (some (78, true)), 0, 0⟩,
         ⟨(some 84), .p (.bin .leq .other (.t 79) (.t 83)), (some (78, true)), 0, 0⟩,
         ⟨(some 85), .p (.pick (.t 78) (.t 84) (.c (.bool false))), none, 0, 0⟩] false)
       (.cond (.t 85)
        (.seq (.reg [⟨(some 86), .p (.mv (.t 10)), none, 0, 0⟩,
          ⟨(some 87), .p (.nilchk (.t 86)), none, 0, 0⟩,
          ⟨(some 88), .p (.faddr 2 (.t 87)), none, 0, 0⟩,
          ⟨(some 89), .r (.load 1 false (.t 88)), none, 0, 0⟩,
          ⟨(some 90), .p (.bin .eql .other (.t 89) (.c (.int .u16 1))), none, 0, 0⟩,
          ⟨(some 91), .p (.mv (.t 90)), none, 0, 0⟩,
          ⟨(some 92), .p (.mv (.t 1)), (some (91, false)), 0, 0⟩,
          ⟨(some 93), .p (.mv (.t 10)), (some (91, false)), 0, 0⟩,
          ⟨(some 94), .p (.nilchk (.t 93)), (some (91, false)), 0, 0⟩,
          ⟨(some 95), .p (.faddr 0 (.t 94)), (some (91, false)), 0, 0⟩,
          ⟨(some 96), .r (.load 1 false (.t 95)), (some (91, false)), 0, 0⟩,
          ⟨(some 97), .p (.bin .sub .other (.t 92) (.t 96)), (some (91, false)), 0, 0⟩,
          ⟨(some 98), .p (.mv (.t 10)), (some (91, false)), 0, 0⟩,
          ⟨(some 99), .p (.nilchk (.t 98)), (some (91, false)), 0, 0⟩,
          ⟨(some 100), .p (.faddr 2 (.t 99)), (some (91, false)), 0, 0⟩,
          ⟨(some 101), .r (.load 1 false (.t 100)), (some (91, false)), 0, 0⟩,
          ⟨(some 102), .p (.bin .rem .other (.t 97) (.t 101)), (some (91, false)), 0, 0⟩,
          ⟨(some 103), .p (.bin .eql .other (.t 102) (.c (.int .u16 0))), (some (91, false)), 0, 0⟩,
          ⟨(some 104), .p (.pick (.t 91) (.c (.bool true)) (.t 103)), none, 0, 0⟩,
          ⟨(some 4), .p (.mv (.t 104)), none, 0, 0⟩] true)
        .ret)
        .skip))
      (.seq (.reg [⟨(some 105), .p (.mv (.t 1)), none, 0, 0⟩,
        ⟨(some 106), .p (.mv (.t 10)), none, 0, 0⟩,
        ⟨(some 107), .p (.nilchk (.t 106)), none, 0, 0⟩,
        ⟨(some 108), .p (.faddr 0 (.t 107)), none, 0, 0⟩,
        ⟨(some 109), .r (.load 1 false (.t 108)), none, 0, 0⟩,
        ⟨(some 110), .p (.bin .lss .other (.t 105) (.t 109)), none, 0, 0⟩] false)
      (.cond (.t 110)
       (.reg [⟨(some 111), .p (.mv (.t 9)), none, 0, 0⟩,
        ⟨(some 8), .p (.mv (.t 111)), none, 0, 0⟩] false)
       (.reg [⟨(some 112), .p (.mv (.t 9)), none, 0, 0⟩,
        ⟨(some 113), .p (.bin .add .other (.t 112) (.c (.int .i64 1))), none, 0, 0⟩,
        ⟨(some 7), .p (.mv (.t 113)), none, 0, 0⟩] false))))))))

def q_unicode_is16_b1 : ACode :=
  (.seq (.reg [⟨(some 21), .p (.bin .lss .other (.t 20) (.t 19)), none, 0, 0⟩] false)
       (.seq (.cond (.t 21)
         .skip
         (.exit 0))
       (.seq (.block 1
         (.seq (.reg [⟨(some 22), .p (.mv (.t 20)), none, 0, 0⟩,
           ⟨(some 5), .p (.mv (.t 22)), none, 0, 0⟩] false)
         (.seq (.reg [⟨(some 23), .p (.mv (.t 0)), none, 0, 0⟩,
           ⟨(some 24), .p (.mv (.t 5)), none, 0, 0⟩,
           ⟨(some 25), .p (.iaddrS 3 (.t 23) (.t 24)), none, 0, 0⟩,
           ⟨(some 6), .p (.mv (.t 25)), none, 0, 0⟩] false)
         (.seq (.seq (.reg [⟨(some 26), .p (.mv (.t 1)), none, 0, 0⟩,
            ⟨(some 27), .p (.mv (.t 6)), none, 0, 0⟩,
            ⟨(some 28), .p (.nilchk (.t 27)), none, 0, 0⟩,
            ⟨(some 29), .p (.faddr 0 (.t 28)), none, 0, 0⟩,
            ⟨(some 30), .r (.load 1 false (.t 29)), none, 0, 0⟩,
            ⟨(some 31), .p (.bin .lss .other (.t 26) (.t 30)), none, 0, 0⟩] false)
          (.cond (.t 31)
           (.seq (.reg [⟨(some 4), .p (.mv (.c (.bool false))), none, 0, 0⟩] false)
           .ret)
           .skip))
         (.seq (.reg [⟨(some 32), .p (.mv (.t 1)), none, 0, 0⟩,
           ⟨(some 33), .p (.mv (.t 6)), none, 0, 0⟩,
           ⟨(some 34), .p (.nilchk (.t 33)), none, 0, 0⟩,
           ⟨(some 35), .p (.faddr 1 (.t 34)), none, 0, 0⟩,
           ⟨(some 36), .r (.load 1 false (.t 35)), none, 0, 0⟩,
           ⟨(some 37), .p (.bin .leq .other (.t 32) (.t 36)), none, 0, 0⟩] false)
         (.cond (.t 37)
          (.seq (.reg [⟨(some 38), .p (.mv (.t 6)), none, 0, 0⟩,
            ⟨(some 39), .p (.nilchk (.t 38)), none, 0, 0⟩,
            ⟨(some 40), .p (.faddr 2 (.t 39)), none, 0, 0⟩,
            ⟨(some 41), .r (.load 1 false (.t 40)), none, 0, 0⟩,
            ⟨(some 42), .p (.bin .eql .other (.t 41) (.c (.int .u16 1))), none, 0, 0⟩,
            ⟨(some 43), .p (.mv (.t 42)), none, 0, 0⟩,
            ⟨(some 44), .p (.mv (.t 1)), (some (43, false)), 0, 0⟩,
            ⟨(some 45), .p (.mv (.t 6)), (some (43, false)), 0, 0⟩,
            ⟨(some 46), .p (.nilchk (.t 45)), (some (43, false)), 0, 0⟩,
            ⟨(some 47), .p (.faddr 0 (.t 46)), (some (43, false)), 0, 0⟩,
            ⟨(some 48), .r (.load 1 false (.t 47)), (some (43, false)), 0, 0⟩,
            ⟨(some 49), .p (.bin .sub .other (.t 44) (.t 48)), (some (43, false)), 0, 0⟩,
            ⟨(some 50), .p (.mv (.t 6)), (some (43, false)), 0, 0⟩,
            ⟨(some 51), .p (.nilchk (.t 50)), (some (43, false)), 0, 0⟩,
            ⟨(some 52), .p (.faddr 2 (.t 51)), (some (43, false)), 0, 0⟩,
            ⟨(some 53), .r (.load 1 false (.t 52)), (some (43, false)), 0, 0⟩,
            ⟨(some 54), .p (.bin .rem .other (.t 49) (.t 53)), (some (43, false)), 0, 0⟩,
            ⟨(some 55), .p (.bin .eql .other (.t 54) (.c (.int .u16 0))), (some (43, false)), 0, 0⟩,
            ⟨(some 56), .p (.pick (.t 43) (.c (.bool true)) (.t 55)), none, 0, 0⟩,
            ⟨(some 4), .p (.mv (.t 56)), none, 0, 0⟩] true)
          .ret)
          .skip))))))
       (.reg [⟨(some 57), .p (.bin .add .other (.t 20) (.c (.int .i64 1))), none, 0, 0⟩,
        ⟨(some 20), .p (.mv (.t 57)), none, 0, 0⟩] false))))

/-- unicode.is16 -/
def q_unicode_is16 : AFn := ⟨114,
  (.seq (.reg [⟨(some 4), .p (.mv (.c (.bool false))), none, 0, 0⟩] false)
  (.seq (.seq (.reg [⟨(some 11), .p (.mv (.t 0)), none, 0, 0⟩,
     ⟨(some 12), .p (.len (.t 11)), none, 0, 0⟩,
     ⟨(some 13), .p (.bin .leq .other (.t 12) (.c (.int .i64 18))), none, 0, 0⟩,
     ⟨(some 14), .p (.mv (.t 13)), none, 0, 0⟩,
     ⟨(some 15), .p (.mv (.t 1)), (some (14, false)), 0, 0⟩,
     ⟨(some 16), .p (.bin .leq .other (.t 15) (.c (.int .u16 255))), (some (14, false)), 0, 0⟩,
     ⟨(some 17), .p (.pick (.t 14) (.c (.bool true)) (.t 16)), none, 0, 0⟩] false)
   (.cond (.t 17)
    (.seq (.seq (.reg [⟨(some 18), .p (.mv (.t 0)), none, 0, 0⟩,
       ⟨(some 19), .p (.len (.t 18)), none, 0, 0⟩,
       ⟨(some 20), .p (.mv (.c (.int .i64 0))), none, 0, 0⟩] false)
     (.block 0
      (.loop q_unicode_is16_b1)))
    (.seq (.reg [⟨(some 4), .p (.mv (.c (.bool false))), none, 0, 0⟩] false)
    .ret))
    .skip))
  (.seq (.reg [⟨(some 7), .p (.mv (.c (.int .i64 0))), none, 0, 0⟩] false)
  (.seq (.reg [⟨(some 58), .p (.mv (.t 0)), none, 0, 0⟩,
    ⟨(some 59), .p (.len (.t 58)), none, 0, 0⟩,
    ⟨(some 8), .p (.mv (.t 59)), none, 0, 0⟩] false)
  (.seq (.block 2
    (.loop q_unicode_is16_b0))
  (.seq (.reg [⟨(some 4), .p (.mv (.c (.bool false))), none, 0, 0⟩] false)
  .ret)))))),
  [.t 4]⟩

def q_unicode_is32_b0 : ACode :=
  (.seq (.seq (.reg [⟨(some 56), .p (.mv (.t 7)), none, 0, 0⟩,
        ⟨(some 57), .p (.mv (.t 8)), none, 0, 0⟩,
        ⟨(some 58), .p (.bin .lss .other (.t 56) (.t 57)), none, 0, 0⟩] false)
      (.cond (.t 58)
       .skip
       (.exit 2)))
     (.block 3
      (.seq (.reg [⟨(some 59), .p (.mv (.t 7)), none, 0, 0⟩,
        ⟨(some 60), .p (.mv (.t 8)), none, 0, 0⟩,
        ⟨(some 61), .p (.bin .add .other (.t 59) (.t 60)), none, 0, 0⟩,
        ⟨(some 62), .p (.convInt .u64 (.t 61)), none, 0, 0⟩,
        ⟨(some 63), .p (.bin .shr .other (.t 62) (.c (.int .u64 1))), none, 0, 0⟩,
        ⟨(some 64), .p (.convInt .i64 (.t 63)), none, 0, 0⟩,
        ⟨(some 9), .p (.mv (.t 64)), none, 0, 0⟩] false)
      (.seq (.reg [⟨(some 65), .p (.mv (.t 0)), none, 0, 0⟩,
        ⟨(some 66), .p (.mv (.t 9)), none, 0, 0⟩,
        ⟨(some 67), .p (.iaddrS 3 (.t 65) (.t 66)), none, 0, 0⟩,
        ⟨(some 68), .r (.load 3 true (.t 67)), none, 0, 0⟩,
        ⟨(some 10), .al [(.int .u32 0), (.int .u32 0), (.int .u32 0)], none, 0, 0⟩,
        ⟨none, .e (.store 3 (.t 10) (.t 68)), none, 0, 0⟩] false)
      (.seq (.seq (.reg [⟨(some 69), .p (.faddr 0 (.t 10)), none, 0, 0⟩,
         ⟨(some 70), .r (.load 1 false (.t 69)), none, 0, 0⟩,
         ⟨(some 71), .p (.mv (.t 1)), none, 0, 0⟩,
         ⟨(some 72), .p (.bin .leq .other (.t 70) (.t 71)), none, 0, 0⟩,
         ⟨(some 73), .p (.mv (.t 72)), none, 0, 0⟩,
         ⟨(some 74), .p (.mv (.t 1)), (some (73, true)), 0, 0⟩,
         ⟨(some 75), .p (.faddr 1 (.t 10)), (some (73, true)), 0, 0⟩,
         ⟨(some 76), .r (.load 1 false (.t 75)), (some (73, true)), 0, 0⟩,
         ⟨(some 77), .p (.bin .leq .other (.t 74) (.t 76)), (some (73, true)), 0, 0⟩,
         ⟨(some 78), .p (.pick (.t 73) (.t 77) (.c (.bool false))), none, 0, 0⟩] false)
       (.cond (.t 78)
        (.seq (.reg [⟨(some 79), .p (.faddr 2 (.t 10)), none, 0, 0⟩,
          ⟨(some 80), .r (.load 1 false (.t 79)), none, 0, 0⟩,
          ⟨(some 81), .p (.bin .eql .other (.t 80) (.c (.int .u32 1))), none, 0, 0⟩,
          ⟨(some 82), .p (.mv (.t 81)), none, 0, 0⟩,
          ⟨(some 83), .p (.mv (.t 1)), (some (82, false)), 0, 0⟩,
          ⟨(some 84), .p (.faddr 0 (.t 10)), (some (82, false)), 0, 0⟩,
          ⟨(some 85), .r (.load 1 false (.t 84)), (some (82, false)), 0, 0⟩,
          ⟨(some 86), .p (.bin .sub .other (.t 83) (.t 85)), (some (82, false)), 0, 0⟩,
          ⟨(some 87), .p (.faddr 2 (.t 10)), (some (82, false)), 0, 0⟩,
          ⟨(some 88), .r (.load 1 false (.t 87)), (some (82, false)), 0, 0⟩,
          ⟨(some 89), .p (.bin .rem .other (.t 86) (.t 88)), (some (82, false)), 0, 0⟩,
          ⟨(some 90), .p (.bin .eql .other (.t 89) (.c (.int .u32 0))), (some (82, false)), 0, 0⟩,
          ⟨(some 91), .p (.pick (.t 82) (.c (.bool true)) (.t 90)), none, 0, 0⟩,
          ⟨(some 4), .p (.mv (.t 91)), none, 0, 0⟩] false)
        .ret)
        .skip))
      (.seq (.reg [⟨(some 92), .p (.mv (.t 1)), none, 0, 0⟩,
        ⟨(some 93), .p (.faddr 0 (.t 10)), none, 0, 0⟩,
        ⟨(some 94), .r (.load 1 false (.t 93)), none, 0, 0⟩,
        ⟨(some 95), .p (.bin .lss .other (.t 92) (.t 94)), none, 0, 0⟩] false)
      (.cond (.t 95)
       (.reg [⟨(some 96), .p (.mv (.t 9)), none, 0, 0⟩,
        ⟨(some 8), .p (.mv (.t 96)), none, 0, 0⟩] false)
       (.reg [⟨(some 97), .p (.mv (.t 9)), none, 0, 0⟩,
        ⟨(some 98), .p (.bin .add .other (.t 97) (.c (.int .i64 1))), none, 0, 0⟩,
        ⟨(some 7), .p (.mv (.t 98)), none, 0, 0⟩] false))))))))

def q_unicode_is32_b1 : ACode :=
  (.seq (.reg [⟨(some 17), .p (.bin .lss .other (.t 16) (.t 15)), none, 0, 0⟩] false)
       (.seq (.cond (.t 17)
         .skip
         (.exit 0))
       (.seq (.block 1
         (.seq (.reg [⟨(some 18), .p (.mv (.t 16)), none, 0, 0⟩,
           ⟨(some 5), .p (.mv (.t 18)), none, 0, 0⟩] false)
         (.seq (.reg [⟨(some 19), .p (.mv (.t 0)), none, 0, 0⟩,
           ⟨(some 20), .p (.mv (.t 5)), none, 0, 0⟩,
           ⟨(some 21), .p (.iaddrS 3 (.t 19) (.t 20)), none, 0, 0⟩,
           ⟨(some 6), .p (.mv (.t 21)), none, 0, 0⟩] false)
         (.seq (.seq (.reg [⟨(some 22), .p (.mv (.t 1)), none, 0, 0⟩,
            ⟨(some 23), .p (.mv (.t 6)), none, 0, 0⟩,
            ⟨(some 24), .p (.nilchk (.t 23)), none, 0, 0⟩,
            ⟨(some 25), .p (.faddr 0 (.t 24)), none, 0, 0⟩,
            ⟨(some 26), .r (.load 1 false (.t 25)), none, 0, 0⟩,
            ⟨(some 27), .p (.bin .lss .other (.t 22) (.t 26)), none, 0, 0⟩] false)
          (.cond (.t 27)
           (.seq (.reg [⟨(some 4), .p (.mv (.c (.bool false))), none, 0, 0⟩] false)
           .ret)
           .skip))
         (.seq (.reg [⟨(some 28), .p (.mv (.t 1)), none, 0, 0⟩,
           ⟨(some 29), .p (.mv (.t 6)), none, 0, 0⟩,
           ⟨(some 30), .p (.nilchk (.t 29)), none, 0, 0⟩,
           ⟨(some 31), .p (.faddr 1 (.t 30)), none, 0, 0⟩,
           ⟨(some 32), .r (.load 1 false (.t 31)), none, 0, 0⟩,
           ⟨(some 33), .p (.bin .leq .other (.t 28) (.t 32)), none, 0, 0⟩] false)
         (.cond (.t 33)
          (.seq (.reg [⟨(some 34), .p (.mv (.t 6)), none, 0, 0⟩,
            ⟨(some 35), .p (.nilchk (.t 34)), none, 0, 0⟩,
            ⟨(some 36), .p (.faddr 2 (.t 35)), none, 0, 0⟩,
            ⟨(some 37), .r (.load 1 false (.t 36)), none, 0, 0⟩,
            ⟨(some 38), .p (.bin .eql .other (.t 37) (.c (.int .u32 1))), none, 0, 0⟩,
            ⟨(some 39), .p (.mv (.t 38)), none, 0, 0⟩,
            ⟨(some 40), .p (.mv (.t 1)), (some (39, false)), 0, 0⟩,
            ⟨(some 41), .p (.mv (.t 6)), (some (39, false)), 0, 0⟩,
            ⟨(some 42), .p (.nilchk (.t 41)), (some (39, false)), 0, 0⟩,
            ⟨(some 43), .p (.faddr 0 (.t 42)), (some (39, false)), 0, 0⟩,
            ⟨(some 44), .r (.load 1 false (.t 43)), (some (39, false)), 0, 0⟩,
            ⟨(some 45), .p (.bin .sub .other (.t 40) (.t 44)), (some (39, false)), 0, 0⟩,
            ⟨(some 46), .p (.mv (.t 6)), (some (39, false)), 0, 0⟩,
            ⟨(some 47), .p (.nilchk (.t 46)), (some (39, false)), 0, 0⟩,
            ⟨(some 48), .p (.faddr 2 (.t 47)), (some (39, false)), 0, 0⟩,
            ⟨(some 49), .r (.load 1 false (.t 48)), (some (39, false)), 0, 0⟩,
            ⟨(some 50), .p (.bin .rem .other (.t 45) (.t 49)), (some (39, false)), 0, 0⟩,
            ⟨(some 51), .p (.bin .eql .other (.t 50) (.c (.int .u32 0))), (some (39, false)), 0, 0⟩,
            ⟨(some 52), .p (.pick (.t 39) (.c (.bool true)) (.t 51)), none, 0, 0⟩,
            ⟨(some 4), .p (.mv (.t 52)), none, 0, 0⟩] true)
          .ret)
          .skip))))))
       (.reg [⟨(some 53), .p (.bin .add .other (.t 16) (.c (.int .i64 1))), none, 0, 0⟩,
        ⟨(some 16), .p (.mv (.t 53)), none, 0, 0⟩] false))))

/-- unicode.is32 -/
def q_unicode_is32 : AFn := ⟨99,
  (.seq (.reg [⟨(some 4), .p (.mv (.c (.bool false))), none, 0, 0⟩] false)
  (.seq (.seq (.reg [⟨(some 11), .p (.mv (.t 0)), none, 0, 0⟩,
     ⟨(some 12), .p (.len (.t 11)), none, 0, 0⟩,
     ⟨(some 13), .p (.bin .leq .other (.t 12) (.c (.int .i64 18))), none, 0, 0⟩] false)
   (.cond (.t 13)
    (.seq (.seq (.reg [⟨(some 14), .p (.mv (.t 0)), none, 0, 0⟩,
       ⟨(some 15), .p (.len (.t 14)), none, 0, 0⟩,
       ⟨(some 16), .p (.mv (.c (.int .i64 0))), none, 0, 0⟩] false)
     (.block 0
      (.loop q_unicode_is32_b1)))
    (.seq (.reg [⟨(some 4), .p (.mv (.c (.bool false))), none, 0, 0⟩] false)
    .ret))
    .skip))
  (.seq (.reg [⟨(some 7), .p (.mv (.c (.int .i64 0))), none, 0, 0⟩] false)
  (.seq (.reg [⟨(some 54), .p (.mv (.t 0)), none, 0, 0⟩,
    ⟨(some 55), .p (.len (.t 54)), none, 0, 0⟩,
    ⟨(some 8), .p (.mv (.t 55)), none, 0, 0⟩] false)
  (.seq (.block 2
    (.loop q_unicode_is32_b0))
  (.seq (.reg [⟨(some 4), .p (.mv (.c (.bool false))), none, 0, 0⟩] false)
  .ret)))))),
  [.t 4]⟩

def q_slices_swapRangeCmpFunc_string_b0 : ACode :=
  (.seq (.seq (.reg [⟨(some 11), .p (.mv (.t 10)), none, 0, 0⟩,
       ⟨(some 12), .p (.mv (.t 3)), none, 0, 0⟩,
       ⟨(some 13), .p (.bin .lss .other (.t 11) (.t 12)), none, 0, 0⟩] false)
     (.cond (.t 13)
      .skip
      (.exit 0)))
    (.seq (.block 1
      (.reg [⟨(some 16), .p (.mv (.t 0)), none, 0, 0⟩,
       ⟨(some 17), .p (.mv (.t 1)), none, 0, 0⟩,
       ⟨(some 18), .p (.mv (.t 10)), none, 0, 0⟩,
       ⟨(some 19), .p (.bin .add .other (.t 17) (.t 18)), none, 0, 0⟩,
       ⟨(some 20), .p (.mv (.t 0)), none, 0, 1⟩,
       ⟨(some 21), .p (.mv (.t 2)), none, 0, 1⟩,
       ⟨(some 22), .p (.mv (.t 10)), none, 0, 1⟩,
       ⟨(some 23), .p (.bin .add .other (.t 21) (.t 22)), none, 0, 1⟩,
       ⟨(some 24), .p (.mv (.t 0)), none, 0, 0⟩,
       ⟨(some 25), .p (.mv (.t 2)), none, 0, 0⟩,
       ⟨(some 26), .p (.mv (.t 10)), none, 0, 0⟩,
       ⟨(some 27), .p (.bin .add .other (.t 25) (.t 26)), none, 0, 0⟩,
       ⟨(some 28), .p (.iaddrS 1 (.t 24) (.t 27)), none, 0, 0⟩,
       ⟨(some 29), .r (.load 1 false (.t 28)), none, 0, 0⟩,
       ⟨(some 30), .p (.mv (.t 0)), none, 0, 0⟩,
       ⟨(some 31), .p (.mv (.t 1)), none, 0, 0⟩,
       ⟨(some 32), .p (.mv (.t 10)), none, 0, 0⟩,
       ⟨(some 33), .p (.bin .add .other (.t 31) (.t 32)), none, 0, 0⟩,
       ⟨(some 34), .p (.iaddrS 1 (.t 30) (.t 33)), none, 0, 0⟩,
       ⟨(some 35), .r (.load 1 false (.t 34)), none, 0, 0⟩,
       ⟨(some 36), .p (.iaddrS 1 (.t 16) (.t 19)), none, 0, 0⟩,
       ⟨none, .e (.store 1 (.t 36) (.t 29)), none, 0, 0⟩,
       ⟨(some 37), .p (.iaddrS 1 (.t 20) (.t 23)), none, 0, 0⟩,
       ⟨none, .e (.store 1 (.t 37) (.t 35)), none, 0, 0⟩] true))
    (.reg [⟨(some 14), .p (.mv (.t 10)), none, 0, 0⟩,
     ⟨(some 15), .p (.bin .add .other (.t 14) (.c (.int .i64 1))), none, 0, 0⟩,
     ⟨(some 10), .p (.mv (.t 15)), none, 0, 0⟩] false)))

/-- slices.swapRangeCmpFunc[string] -/
def q_slices_swapRangeCmpFunc_string : AFn := ⟨38,
  (.seq (.reg [⟨(some 10), .p (.mv (.c (.int .i64 0))), none, 0, 0⟩] false)
  (.block 0
   (.loop q_slices_swapRangeCmpFunc_string_b0))),
  []⟩

def tree : BT :=
  (.node 157 (.node 82 (.node 47 (.node 26 (.node 13 (.node 11 (.node 10 (.leaf 3 q_jettisonlaw11_CheckCounts) (.leaf 10 q_jettisonlaw11_examples)) (.node 12 (.leaf 11 q_jettisonlaw11_Shape_shape) (.leaf 12 q_check_Paths))) (.node 15 (.node 14 (.leaf 13 q_check_Steps) (.leaf 14 q_check_Code)) (.node 16 (.leaf 15 q_check_Check) (.node 17 (.leaf 16 q_jettisonlaw11_kinds) (.leaf 17 q_parse_Parse))))) (.node 41 (.node 38 (.node 37 (.leaf 26 q_schema_Find) (.leaf 37 q_jettisonlaw11_asked)) (.node 39 (.leaf 38 q_expr_Size) (.node 40 (.leaf 39 q_schema_Right) (.leaf 40 q_pattern_Right)))) (.node 43 (.node 42 (.leaf 41 q_check_placed) (.leaf 42 q_pattern_Count)) (.node 44 (.leaf 43 q_check_checker_items) (.node 45 (.leaf 44 q_parse_run_pattern_Query) (.leaf 45 q_parse_parser_query)))))) (.node 72 (.node 67 (.node 51 (.node 50 (.leaf 47 q_strconv_FormatInt) (.leaf 50 q_slices_IndexFunc_schema_Kind_schema_Kind)) (.node 65 (.leaf 51 q_schema_Find_1) (.node 66 (.leaf 65 q_expr_levels) (.leaf 66 q_jettisonlaw11_feed_next)))) (.node 69 (.node 68 (.leaf 67 q_jettisonlaw11_feed_items) (.leaf 68 q_expr_walk)) (.node 70 (.leaf 69 q_expr_Size_1) (.node 71 (.leaf 70 q_schema_IsName) (.leaf 71 q_schema_names))))) (.node 77 (.node 74 (.node 73 (.leaf 72 q_pattern_RightItems) (.leaf 73 q_check_placed_1)) (.node 75 (.leaf 74 q_slices_ContainsFunc_pattern_Item_pattern_Item) (.node 76 (.leaf 75 q_check_placed_2) (.leaf 76 q_slices_ContainsFunc_pattern_Item_pattern_Itemx)))) (.node 79 (.node 78 (.leaf 77 q_check_placed_2_1) (.leaf 78 q_check_checker_item)) (.node 80 (.leaf 79 q_lex_All) (.node 81 (.leaf 80 q_parse_run_pattern_Query_1) (.leaf 81 q_parse_parser_must))))))) (.node 124 (.node 114 (.node 89 (.node 84 (.node 83 (.leaf 82 q_parse_parser_list) (.leaf 83 q_parse_parser_take)) (.node 85 (.leaf 84 q_parse_parser_number) (.node 86 (.leaf 85 q_parse_parser_eat) (.leaf 86 q_parse_parser_name)))) (.node 111 (.node 110 (.leaf 89 q_internal_strconv_FormatInt) (.leaf 110 q_jettisonlaw11_feed_item)) (.node 112 (.leaf 111 q_unicode_utf8_ValidString) (.node 113 (.leaf 112 q_schema_letter) (.leaf 113 q_schema_digit))))) (.node 119 (.node 116 (.node 115 (.leaf 114 q_slices_Index_string_string) (.leaf 115 q_pattern_every_pattern_Item)) (.node 117 (.leaf 116 q_pattern_Item_right) (.node 118 (.leaf 117 q_slices_IndexFunc_pattern_Item_pattern_Item) (.leaf 118 q_slices_IndexFunc_pattern_Item_pattern_Itemx)))) (.node 121 (.node 120 (.leaf 119 q_schema_Field) (.leaf 120 q_expr_Type)) (.node 122 (.leaf 121 q_check_checker_refs) (.node 123 (.leaf 122 q_strings_TrimLeft) (.leaf 123 q_lex_next)))))) (.node 138 (.node 129 (.node 126 (.node 125 (.leaf 124 q_parse_parser_fail) (.leaf 125 q_parse_parser_item)) (.node 127 (.leaf 126 q_parse_parser_peek) (.node 128 (.leaf 127 q_parse_parser_word) (.leaf 128 q_parse_parser_is)))) (.node 135 (.node 132 (.leaf 129 q_parse_parser_enter) (.leaf 132 q_strconv_Itoa)) (.node 136 (.leaf 135 q_internal_strconv_small) (.node 137 (.leaf 136 q_internal_strconv_numDigits) (.leaf 137 q_internal_strconv_formatBase10))))) (.node 152 (.node 149 (.node 148 (.leaf 138 q_internal_strconv_formatBits) (.leaf 148 q_jettisonlaw11_feed_pred)) (.node 150 (.leaf 149 q_unicode_utf8_word_string) (.node 151 (.leaf 150 q_pattern_every_pattern_Item_1) (.leaf 151 q_pattern_every_pattern_Itemx)))) (.node 154 (.node 153 (.leaf 152 q_pattern_every_expr_Expr) (.leaf 153 q_expr_Right)) (.node 155 (.leaf 154 q_expr_Expr_types) (.node 156 (.leaf 155 q_slices_ContainsFunc_expr_Expr_expr_Expr) (.leaf 156 q_check_checker_refs_1)))))))) (.node 207 (.node 187 (.node 167 (.node 162 (.node 159 (.node 158 (.leaf 157 q_check_checker_has) (.leaf 158 q_strings_trimLeftByte)) (.node 160 (.leaf 159 q_strings_makeASCIISet) (.node 161 (.leaf 160 q_strings_trimLeftASCII) (.leaf 161 q_strings_trimLeftUnicode)))) (.node 164 (.node 163 (.leaf 162 q_lex_first) (.leaf 163 q_lex_letter)) (.node 165 (.leaf 164 q_lex_name) (.node 166 (.leaf 165 q_lex_digit) (.leaf 166 q_lex_number))))) (.node 177 (.node 169 (.node 168 (.leaf 167 q_lex_sign) (.leaf 168 q_parse_parser_alt)) (.node 173 (.leaf 169 q_parse_parser_expr) (.node 176 (.leaf 173 q_internal_strconv_Itoa) (.leaf 176 q_internal_strconv_log10Pow2)))) (.node 179 (.node 178 (.leaf 177 q_math_bits_Len64) (.leaf 178 q_internal_strconv_bool2_int)) (.node 180 (.leaf 179 q_internal_strconv_isPowerOfTwo) (.node 186 (.leaf 180 q_math_bits_TrailingZeros) (.leaf 186 q_jettisonlaw11_feed_truth)))))) (.node 197 (.node 192 (.node 189 (.node 188 (.leaf 187 q_pattern_every_pattern_Item_1x) (.leaf 188 q_pattern_every_expr_Expr_1)) (.node 190 (.leaf 189 q_expr_Expr_form) (.node 191 (.leaf 190 q_expr_Right_1) (.leaf 191 q_expr_Level)))) (.node 194 (.node 193 (.leaf 192 q_expr_Expr_types_1) (.leaf 193 q_slices_IndexFunc_expr_Expr_expr_Expr)) (.node 195 (.leaf 194 q_slices_ContainsFunc_int_int) (.node 196 (.leaf 195 q_check_checker_has_1) (.leaf 196 q_strings_asciiSet_contains))))) (.node 202 (.node 199 (.node 198 (.leaf 197 q_unicode_utf8_DecodeRuneInString) (.leaf 198 q_strings_ContainsRune)) (.node 200 (.leaf 199 q_strings_HasPrefix) (.node 201 (.leaf 200 q_lex_both) (.leaf 201 q_strconv_ParseInt)))) (.node 204 (.node 203 (.leaf 202 q_lex_Signs) (.leaf 203 q_slices_SortStableFunc_string_string)) (.node 205 (.leaf 204 q_lex_sign_1) (.node 206 (.leaf 205 q_slices_IndexFunc_string_string) (.leaf 206 q_lex_sign_2))))))) (.node 236 (.node 221 (.node 216 (.node 211 (.node 210 (.leaf 207 q_parse_parser_above) (.leaf 210 q_math_bits_TrailingZeros32)) (.node 214 (.leaf 211 q_math_bits_TrailingZeros64) (.node 215 (.leaf 214 q_jettisonlaw11_feed_number) (.leaf 215 q_slices_IndexFunc_string_stringx)))) (.node 218 (.node 217 (.leaf 216 q_expr_Level_1) (.leaf 217 q_slices_Contains_string_string)) (.node 219 (.leaf 218 q_slices_IndexFunc_int_int) (.node 220 (.leaf 219 q_unicode_utf8_decodeRuneInStringSlow) (.leaf 220 q_strings_IndexRune))))) (.node 226 (.node 223 (.node 222 (.leaf 221 q_internal_stringslite_HasPrefix) (.leaf 222 q_internal_strconv_ParseInt)) (.node 224 (.leaf 223 q_strconv_toError) (.node 225 (.leaf 224 q_strings_Fields) (.leaf 225 q_slices_stableCmpFunc_string)))) (.node 231 (.node 227 (.leaf 226 q_parse_parser_operand) (.leaf 227 q_parse_parser_level)) (.node 232 (.leaf 231 q_jettisonlaw11_feed_ref) (.node 233 (.leaf 232 q_strings_IndexByte) (.leaf 233 q_unicode_utf8_ValidRune)))))) (.node 247 (.node 241 (.node 238 (.node 237 (.leaf 236 q_internal_strconv_ParseUint) (.leaf 237 q_strconv_syntaxError)) (.node 239 (.leaf 238 q_strconv_rangeError) (.node 240 (.leaf 239 q_strconv_baseError) (.leaf 240 q_strconv_bitSizeError)))) (.node 243 (.node 242 (.leaf 241 q_strings_FieldsFunc) (.leaf 242 q_unicode_IsSpace)) (.node 244 (.leaf 243 q_slices_insertionSortCmpFunc_string) (.node 246 (.leaf 244 q_slices_symMergeCmpFunc_string) (.leaf 246 q_jettisonlaw11_map3))))) (.node 252 (.node 249 (.node 248 (.leaf 247 q_internal_stringslite_IndexByte) (.leaf 248 q_internal_strconv_lower)) (.node 250 (.leaf 249 q_internal_strconv_underscoreOK) (.node 251 (.leaf 250 q_internal_stringslite_Clone) (.leaf 251 q_errors_New)))) (.node 256 (.node 253 (.leaf 252 q_unicode_isExcludingLatin) (.leaf 253 q_slices_rotateCmpFunc_string)) (.node 257 (.leaf 256 q_unicode_is16) (.node 258 (.leaf 257 q_unicode_is32) (.leaf 258 q_slices_swapRangeCmpFunc_string)))))))))

end Jet

/-
That the functions are the program's.
-/
namespace Jet
open Go Go.Proofs

def Good (f : Nat) (fn : AFn) : Prop := ∃ F, Tryz.prog.funcs[f]? = some F ∧ (F.name == "runtime.NumGoroutine") = false ∧ comp Tryz.prog gl F = some fn

theorem good3 : Good 3 q_jettisonlaw11_CheckCounts := ⟨Tryz.f3, Tryz.func3, by kernel_rfl, by kernel_rfl⟩
theorem good10 : Good 10 q_jettisonlaw11_examples := ⟨Tryz.f10, Tryz.func10, by kernel_rfl, by kernel_rfl⟩
theorem good11 : Good 11 q_jettisonlaw11_Shape_shape := ⟨Tryz.f11, Tryz.func11, by kernel_rfl, by kernel_rfl⟩
theorem good12 : Good 12 q_check_Paths := ⟨Tryz.f12, Tryz.func12, by kernel_rfl, by kernel_rfl⟩
theorem good13 : Good 13 q_check_Steps := ⟨Tryz.f13, Tryz.func13, by kernel_rfl, by kernel_rfl⟩
theorem good14 : Good 14 q_check_Code := ⟨Tryz.f14, Tryz.func14, by kernel_rfl, by kernel_rfl⟩
theorem good15 : Good 15 q_check_Check := ⟨Tryz.f15, Tryz.func15, by kernel_rfl, by kernel_rfl⟩
theorem good16 : Good 16 q_jettisonlaw11_kinds := ⟨Tryz.f16, Tryz.func16, by kernel_rfl, by kernel_rfl⟩
theorem good17 : Good 17 q_parse_Parse := ⟨Tryz.f17, Tryz.func17, by kernel_rfl, by kernel_rfl⟩
theorem good26 : Good 26 q_schema_Find := ⟨Tryz.f26, Tryz.func26, by kernel_rfl, by kernel_rfl⟩
theorem good37 : Good 37 q_jettisonlaw11_asked := ⟨Tryz.f37, Tryz.func37, by kernel_rfl, by kernel_rfl⟩
theorem good38 : Good 38 q_expr_Size := ⟨Tryz.f38, Tryz.func38, by kernel_rfl, by kernel_rfl⟩
theorem good39 : Good 39 q_schema_Right := ⟨Tryz.f39, Tryz.func39, by kernel_rfl, by kernel_rfl⟩
theorem good40 : Good 40 q_pattern_Right := ⟨Tryz.f40, Tryz.func40, by kernel_rfl, by kernel_rfl⟩
theorem good41 : Good 41 q_check_placed := ⟨Tryz.f41, Tryz.func41, by kernel_rfl, by kernel_rfl⟩
theorem good42 : Good 42 q_pattern_Count := ⟨Tryz.f42, Tryz.func42, by kernel_rfl, by kernel_rfl⟩
theorem good43 : Good 43 q_check_checker_items := ⟨Tryz.f43, Tryz.func43, by kernel_rfl, by kernel_rfl⟩
theorem good44 : Good 44 q_parse_run_pattern_Query := ⟨Tryz.f44, Tryz.func44, by kernel_rfl, by kernel_rfl⟩
theorem good45 : Good 45 q_parse_parser_query := ⟨Tryz.f45, Tryz.func45, by kernel_rfl, by kernel_rfl⟩
theorem good47 : Good 47 q_strconv_FormatInt := ⟨Tryz.f47, Tryz.func47, by kernel_rfl, by kernel_rfl⟩
theorem good50 : Good 50 q_slices_IndexFunc_schema_Kind_schema_Kind := ⟨Tryz.f50, Tryz.func50, by kernel_rfl, by kernel_rfl⟩
theorem good51 : Good 51 q_schema_Find_1 := ⟨Tryz.f51, Tryz.func51, by kernel_rfl, by kernel_rfl⟩
theorem good65 : Good 65 q_expr_levels := ⟨Tryz.f65, Tryz.func65, by kernel_rfl, by kernel_rfl⟩
theorem good66 : Good 66 q_jettisonlaw11_feed_next := ⟨Tryz.f66, Tryz.func66, by kernel_rfl, by kernel_rfl⟩
theorem good67 : Good 67 q_jettisonlaw11_feed_items := ⟨Tryz.f67, Tryz.func67, by kernel_rfl, by kernel_rfl⟩
theorem good68 : Good 68 q_expr_walk := ⟨Tryz.f68, Tryz.func68, by kernel_rfl, by kernel_rfl⟩
theorem good69 : Good 69 q_expr_Size_1 := ⟨Tryz.f69, Tryz.func69, by kernel_rfl, by kernel_rfl⟩
theorem good70 : Good 70 q_schema_IsName := ⟨Tryz.f70, Tryz.func70, by kernel_rfl, by kernel_rfl⟩
theorem good71 : Good 71 q_schema_names := ⟨Tryz.f71, Tryz.func71, by kernel_rfl, by kernel_rfl⟩
theorem good72 : Good 72 q_pattern_RightItems := ⟨Tryz.f72, Tryz.func72, by kernel_rfl, by kernel_rfl⟩
theorem good73 : Good 73 q_check_placed_1 := ⟨Tryz.f73, Tryz.func73, by kernel_rfl, by kernel_rfl⟩
theorem good74 : Good 74 q_slices_ContainsFunc_pattern_Item_pattern_Item := ⟨Tryz.f74, Tryz.func74, by kernel_rfl, by kernel_rfl⟩
theorem good75 : Good 75 q_check_placed_2 := ⟨Tryz.f75, Tryz.func75, by kernel_rfl, by kernel_rfl⟩
theorem good76 : Good 76 q_slices_ContainsFunc_pattern_Item_pattern_Itemx := ⟨Tryz.f76, Tryz.func76, by kernel_rfl, by kernel_rfl⟩
theorem good77 : Good 77 q_check_placed_2_1 := ⟨Tryz.f77, Tryz.func77, by kernel_rfl, by kernel_rfl⟩
theorem good78 : Good 78 q_check_checker_item := ⟨Tryz.f78, Tryz.func78, by kernel_rfl, by kernel_rfl⟩
theorem good79 : Good 79 q_lex_All := ⟨Tryz.f79, Tryz.func79, by kernel_rfl, by kernel_rfl⟩
theorem good80 : Good 80 q_parse_run_pattern_Query_1 := ⟨Tryz.f80, Tryz.func80, by kernel_rfl, by kernel_rfl⟩
theorem good81 : Good 81 q_parse_parser_must := ⟨Tryz.f81, Tryz.func81, by kernel_rfl, by kernel_rfl⟩
theorem good82 : Good 82 q_parse_parser_list := ⟨Tryz.f82, Tryz.func82, by kernel_rfl, by kernel_rfl⟩
theorem good83 : Good 83 q_parse_parser_take := ⟨Tryz.f83, Tryz.func83, by kernel_rfl, by kernel_rfl⟩
theorem good84 : Good 84 q_parse_parser_number := ⟨Tryz.f84, Tryz.func84, by kernel_rfl, by kernel_rfl⟩
theorem good85 : Good 85 q_parse_parser_eat := ⟨Tryz.f85, Tryz.func85, by kernel_rfl, by kernel_rfl⟩
theorem good86 : Good 86 q_parse_parser_name := ⟨Tryz.f86, Tryz.func86, by kernel_rfl, by kernel_rfl⟩
theorem good89 : Good 89 q_internal_strconv_FormatInt := ⟨Tryz.f89, Tryz.func89, by kernel_rfl, by kernel_rfl⟩
theorem good110 : Good 110 q_jettisonlaw11_feed_item := ⟨Tryz.f110, Tryz.func110, by kernel_rfl, by kernel_rfl⟩
theorem good111 : Good 111 q_unicode_utf8_ValidString := ⟨Tryz.f111, Tryz.func111, by kernel_rfl, by kernel_rfl⟩
theorem good112 : Good 112 q_schema_letter := ⟨Tryz.f112, Tryz.func112, by kernel_rfl, by kernel_rfl⟩
theorem good113 : Good 113 q_schema_digit := ⟨Tryz.f113, Tryz.func113, by kernel_rfl, by kernel_rfl⟩
theorem good114 : Good 114 q_slices_Index_string_string := ⟨Tryz.f114, Tryz.func114, by kernel_rfl, by kernel_rfl⟩
theorem good115 : Good 115 q_pattern_every_pattern_Item := ⟨Tryz.f115, Tryz.func115, by kernel_rfl, by kernel_rfl⟩
theorem good116 : Good 116 q_pattern_Item_right := ⟨Tryz.f116, Tryz.func116, by kernel_rfl, by kernel_rfl⟩
theorem good117 : Good 117 q_slices_IndexFunc_pattern_Item_pattern_Item := ⟨Tryz.f117, Tryz.func117, by kernel_rfl, by kernel_rfl⟩
theorem good118 : Good 118 q_slices_IndexFunc_pattern_Item_pattern_Itemx := ⟨Tryz.f118, Tryz.func118, by kernel_rfl, by kernel_rfl⟩
theorem good119 : Good 119 q_schema_Field := ⟨Tryz.f119, Tryz.func119, by kernel_rfl, by kernel_rfl⟩
theorem good120 : Good 120 q_expr_Type := ⟨Tryz.f120, Tryz.func120, by kernel_rfl, by kernel_rfl⟩
theorem good121 : Good 121 q_check_checker_refs := ⟨Tryz.f121, Tryz.func121, by kernel_rfl, by kernel_rfl⟩
theorem good122 : Good 122 q_strings_TrimLeft := ⟨Tryz.f122, Tryz.func122, by kernel_rfl, by kernel_rfl⟩
theorem good123 : Good 123 q_lex_next := ⟨Tryz.f123, Tryz.func123, by kernel_rfl, by kernel_rfl⟩
theorem good124 : Good 124 q_parse_parser_fail := ⟨Tryz.f124, Tryz.func124, by kernel_rfl, by kernel_rfl⟩
theorem good125 : Good 125 q_parse_parser_item := ⟨Tryz.f125, Tryz.func125, by kernel_rfl, by kernel_rfl⟩
theorem good126 : Good 126 q_parse_parser_peek := ⟨Tryz.f126, Tryz.func126, by kernel_rfl, by kernel_rfl⟩
theorem good127 : Good 127 q_parse_parser_word := ⟨Tryz.f127, Tryz.func127, by kernel_rfl, by kernel_rfl⟩
theorem good128 : Good 128 q_parse_parser_is := ⟨Tryz.f128, Tryz.func128, by kernel_rfl, by kernel_rfl⟩
theorem good129 : Good 129 q_parse_parser_enter := ⟨Tryz.f129, Tryz.func129, by kernel_rfl, by kernel_rfl⟩
theorem good132 : Good 132 q_strconv_Itoa := ⟨Tryz.f132, Tryz.func132, by kernel_rfl, by kernel_rfl⟩
theorem good135 : Good 135 q_internal_strconv_small := ⟨Tryz.f135, Tryz.func135, by kernel_rfl, by kernel_rfl⟩
theorem good136 : Good 136 q_internal_strconv_numDigits := ⟨Tryz.f136, Tryz.func136, by kernel_rfl, by kernel_rfl⟩
theorem good137 : Good 137 q_internal_strconv_formatBase10 := ⟨Tryz.f137, Tryz.func137, by kernel_rfl, by kernel_rfl⟩
theorem good138 : Good 138 q_internal_strconv_formatBits := ⟨Tryz.f138, Tryz.func138, by kernel_rfl, by kernel_rfl⟩
theorem good148 : Good 148 q_jettisonlaw11_feed_pred := ⟨Tryz.f148, Tryz.func148, by kernel_rfl, by kernel_rfl⟩
theorem good149 : Good 149 q_unicode_utf8_word_string := ⟨Tryz.f149, Tryz.func149, by kernel_rfl, by kernel_rfl⟩
theorem good150 : Good 150 q_pattern_every_pattern_Item_1 := ⟨Tryz.f150, Tryz.func150, by kernel_rfl, by kernel_rfl⟩
theorem good151 : Good 151 q_pattern_every_pattern_Itemx := ⟨Tryz.f151, Tryz.func151, by kernel_rfl, by kernel_rfl⟩
theorem good152 : Good 152 q_pattern_every_expr_Expr := ⟨Tryz.f152, Tryz.func152, by kernel_rfl, by kernel_rfl⟩
theorem good153 : Good 153 q_expr_Right := ⟨Tryz.f153, Tryz.func153, by kernel_rfl, by kernel_rfl⟩
theorem good154 : Good 154 q_expr_Expr_types := ⟨Tryz.f154, Tryz.func154, by kernel_rfl, by kernel_rfl⟩
theorem good155 : Good 155 q_slices_ContainsFunc_expr_Expr_expr_Expr := ⟨Tryz.f155, Tryz.func155, by kernel_rfl, by kernel_rfl⟩
theorem good156 : Good 156 q_check_checker_refs_1 := ⟨Tryz.f156, Tryz.func156, by kernel_rfl, by kernel_rfl⟩
theorem good157 : Good 157 q_check_checker_has := ⟨Tryz.f157, Tryz.func157, by kernel_rfl, by kernel_rfl⟩
theorem good158 : Good 158 q_strings_trimLeftByte := ⟨Tryz.f158, Tryz.func158, by kernel_rfl, by kernel_rfl⟩
theorem good159 : Good 159 q_strings_makeASCIISet := ⟨Tryz.f159, Tryz.func159, by kernel_rfl, by kernel_rfl⟩
theorem good160 : Good 160 q_strings_trimLeftASCII := ⟨Tryz.f160, Tryz.func160, by kernel_rfl, by kernel_rfl⟩
theorem good161 : Good 161 q_strings_trimLeftUnicode := ⟨Tryz.f161, Tryz.func161, by kernel_rfl, by kernel_rfl⟩
theorem good162 : Good 162 q_lex_first := ⟨Tryz.f162, Tryz.func162, by kernel_rfl, by kernel_rfl⟩
theorem good163 : Good 163 q_lex_letter := ⟨Tryz.f163, Tryz.func163, by kernel_rfl, by kernel_rfl⟩
theorem good164 : Good 164 q_lex_name := ⟨Tryz.f164, Tryz.func164, by kernel_rfl, by kernel_rfl⟩
theorem good165 : Good 165 q_lex_digit := ⟨Tryz.f165, Tryz.func165, by kernel_rfl, by kernel_rfl⟩
theorem good166 : Good 166 q_lex_number := ⟨Tryz.f166, Tryz.func166, by kernel_rfl, by kernel_rfl⟩
theorem good167 : Good 167 q_lex_sign := ⟨Tryz.f167, Tryz.func167, by kernel_rfl, by kernel_rfl⟩
theorem good168 : Good 168 q_parse_parser_alt := ⟨Tryz.f168, Tryz.func168, by kernel_rfl, by kernel_rfl⟩
theorem good169 : Good 169 q_parse_parser_expr := ⟨Tryz.f169, Tryz.func169, by kernel_rfl, by kernel_rfl⟩
theorem good173 : Good 173 q_internal_strconv_Itoa := ⟨Tryz.f173, Tryz.func173, by kernel_rfl, by kernel_rfl⟩
theorem good176 : Good 176 q_internal_strconv_log10Pow2 := ⟨Tryz.f176, Tryz.func176, by kernel_rfl, by kernel_rfl⟩
theorem good177 : Good 177 q_math_bits_Len64 := ⟨Tryz.f177, Tryz.func177, by kernel_rfl, by kernel_rfl⟩
theorem good178 : Good 178 q_internal_strconv_bool2_int := ⟨Tryz.f178, Tryz.func178, by kernel_rfl, by kernel_rfl⟩
theorem good179 : Good 179 q_internal_strconv_isPowerOfTwo := ⟨Tryz.f179, Tryz.func179, by kernel_rfl, by kernel_rfl⟩
theorem good180 : Good 180 q_math_bits_TrailingZeros := ⟨Tryz.f180, Tryz.func180, by kernel_rfl, by kernel_rfl⟩
theorem good186 : Good 186 q_jettisonlaw11_feed_truth := ⟨Tryz.f186, Tryz.func186, by kernel_rfl, by kernel_rfl⟩
theorem good187 : Good 187 q_pattern_every_pattern_Item_1x := ⟨Tryz.f187, Tryz.func187, by kernel_rfl, by kernel_rfl⟩
theorem good188 : Good 188 q_pattern_every_expr_Expr_1 := ⟨Tryz.f188, Tryz.func188, by kernel_rfl, by kernel_rfl⟩
theorem good189 : Good 189 q_expr_Expr_form := ⟨Tryz.f189, Tryz.func189, by kernel_rfl, by kernel_rfl⟩
theorem good190 : Good 190 q_expr_Right_1 := ⟨Tryz.f190, Tryz.func190, by kernel_rfl, by kernel_rfl⟩
theorem good191 : Good 191 q_expr_Level := ⟨Tryz.f191, Tryz.func191, by kernel_rfl, by kernel_rfl⟩
theorem good192 : Good 192 q_expr_Expr_types_1 := ⟨Tryz.f192, Tryz.func192, by kernel_rfl, by kernel_rfl⟩
theorem good193 : Good 193 q_slices_IndexFunc_expr_Expr_expr_Expr := ⟨Tryz.f193, Tryz.func193, by kernel_rfl, by kernel_rfl⟩
theorem good194 : Good 194 q_slices_ContainsFunc_int_int := ⟨Tryz.f194, Tryz.func194, by kernel_rfl, by kernel_rfl⟩
theorem good195 : Good 195 q_check_checker_has_1 := ⟨Tryz.f195, Tryz.func195, by kernel_rfl, by kernel_rfl⟩
theorem good196 : Good 196 q_strings_asciiSet_contains := ⟨Tryz.f196, Tryz.func196, by kernel_rfl, by kernel_rfl⟩
theorem good197 : Good 197 q_unicode_utf8_DecodeRuneInString := ⟨Tryz.f197, Tryz.func197, by kernel_rfl, by kernel_rfl⟩
theorem good198 : Good 198 q_strings_ContainsRune := ⟨Tryz.f198, Tryz.func198, by kernel_rfl, by kernel_rfl⟩
theorem good199 : Good 199 q_strings_HasPrefix := ⟨Tryz.f199, Tryz.func199, by kernel_rfl, by kernel_rfl⟩
theorem good200 : Good 200 q_lex_both := ⟨Tryz.f200, Tryz.func200, by kernel_rfl, by kernel_rfl⟩
theorem good201 : Good 201 q_strconv_ParseInt := ⟨Tryz.f201, Tryz.func201, by kernel_rfl, by kernel_rfl⟩
theorem good202 : Good 202 q_lex_Signs := ⟨Tryz.f202, Tryz.func202, by kernel_rfl, by kernel_rfl⟩
theorem good203 : Good 203 q_slices_SortStableFunc_string_string := ⟨Tryz.f203, Tryz.func203, by kernel_rfl, by kernel_rfl⟩
theorem good204 : Good 204 q_lex_sign_1 := ⟨Tryz.f204, Tryz.func204, by kernel_rfl, by kernel_rfl⟩
theorem good205 : Good 205 q_slices_IndexFunc_string_string := ⟨Tryz.f205, Tryz.func205, by kernel_rfl, by kernel_rfl⟩
theorem good206 : Good 206 q_lex_sign_2 := ⟨Tryz.f206, Tryz.func206, by kernel_rfl, by kernel_rfl⟩
theorem good207 : Good 207 q_parse_parser_above := ⟨Tryz.f207, Tryz.func207, by kernel_rfl, by kernel_rfl⟩
theorem good210 : Good 210 q_math_bits_TrailingZeros32 := ⟨Tryz.f210, Tryz.func210, by kernel_rfl, by kernel_rfl⟩
theorem good211 : Good 211 q_math_bits_TrailingZeros64 := ⟨Tryz.f211, Tryz.func211, by kernel_rfl, by kernel_rfl⟩
theorem good214 : Good 214 q_jettisonlaw11_feed_number := ⟨Tryz.f214, Tryz.func214, by kernel_rfl, by kernel_rfl⟩
theorem good215 : Good 215 q_slices_IndexFunc_string_stringx := ⟨Tryz.f215, Tryz.func215, by kernel_rfl, by kernel_rfl⟩
theorem good216 : Good 216 q_expr_Level_1 := ⟨Tryz.f216, Tryz.func216, by kernel_rfl, by kernel_rfl⟩
theorem good217 : Good 217 q_slices_Contains_string_string := ⟨Tryz.f217, Tryz.func217, by kernel_rfl, by kernel_rfl⟩
theorem good218 : Good 218 q_slices_IndexFunc_int_int := ⟨Tryz.f218, Tryz.func218, by kernel_rfl, by kernel_rfl⟩
theorem good219 : Good 219 q_unicode_utf8_decodeRuneInStringSlow := ⟨Tryz.f219, Tryz.func219, by kernel_rfl, by kernel_rfl⟩
theorem good220 : Good 220 q_strings_IndexRune := ⟨Tryz.f220, Tryz.func220, by kernel_rfl, by kernel_rfl⟩
theorem good221 : Good 221 q_internal_stringslite_HasPrefix := ⟨Tryz.f221, Tryz.func221, by kernel_rfl, by kernel_rfl⟩
theorem good222 : Good 222 q_internal_strconv_ParseInt := ⟨Tryz.f222, Tryz.func222, by kernel_rfl, by kernel_rfl⟩
theorem good223 : Good 223 q_strconv_toError := ⟨Tryz.f223, Tryz.func223, by kernel_rfl, by kernel_rfl⟩
theorem good224 : Good 224 q_strings_Fields := ⟨Tryz.f224, Tryz.func224, by kernel_rfl, by kernel_rfl⟩
theorem good225 : Good 225 q_slices_stableCmpFunc_string := ⟨Tryz.f225, Tryz.func225, by kernel_rfl, by kernel_rfl⟩
theorem good226 : Good 226 q_parse_parser_operand := ⟨Tryz.f226, Tryz.func226, by kernel_rfl, by kernel_rfl⟩
theorem good227 : Good 227 q_parse_parser_level := ⟨Tryz.f227, Tryz.func227, by kernel_rfl, by kernel_rfl⟩
theorem good231 : Good 231 q_jettisonlaw11_feed_ref := ⟨Tryz.f231, Tryz.func231, by kernel_rfl, by kernel_rfl⟩
theorem good232 : Good 232 q_strings_IndexByte := ⟨Tryz.f232, Tryz.func232, by kernel_rfl, by kernel_rfl⟩
theorem good233 : Good 233 q_unicode_utf8_ValidRune := ⟨Tryz.f233, Tryz.func233, by kernel_rfl, by kernel_rfl⟩
theorem good236 : Good 236 q_internal_strconv_ParseUint := ⟨Tryz.f236, Tryz.func236, by kernel_rfl, by kernel_rfl⟩
theorem good237 : Good 237 q_strconv_syntaxError := ⟨Tryz.f237, Tryz.func237, by kernel_rfl, by kernel_rfl⟩
theorem good238 : Good 238 q_strconv_rangeError := ⟨Tryz.f238, Tryz.func238, by kernel_rfl, by kernel_rfl⟩
theorem good239 : Good 239 q_strconv_baseError := ⟨Tryz.f239, Tryz.func239, by kernel_rfl, by kernel_rfl⟩
theorem good240 : Good 240 q_strconv_bitSizeError := ⟨Tryz.f240, Tryz.func240, by kernel_rfl, by kernel_rfl⟩
theorem good241 : Good 241 q_strings_FieldsFunc := ⟨Tryz.f241, Tryz.func241, by kernel_rfl, by kernel_rfl⟩
theorem good242 : Good 242 q_unicode_IsSpace := ⟨Tryz.f242, Tryz.func242, by kernel_rfl, by kernel_rfl⟩
theorem good243 : Good 243 q_slices_insertionSortCmpFunc_string := ⟨Tryz.f243, Tryz.func243, by kernel_rfl, by kernel_rfl⟩
theorem good244 : Good 244 q_slices_symMergeCmpFunc_string := ⟨Tryz.f244, Tryz.func244, by kernel_rfl, by kernel_rfl⟩
theorem good246 : Good 246 q_jettisonlaw11_map3 := ⟨Tryz.f246, Tryz.func246, by kernel_rfl, by kernel_rfl⟩
theorem good247 : Good 247 q_internal_stringslite_IndexByte := ⟨Tryz.f247, Tryz.func247, by kernel_rfl, by kernel_rfl⟩
theorem good248 : Good 248 q_internal_strconv_lower := ⟨Tryz.f248, Tryz.func248, by kernel_rfl, by kernel_rfl⟩
theorem good249 : Good 249 q_internal_strconv_underscoreOK := ⟨Tryz.f249, Tryz.func249, by kernel_rfl, by kernel_rfl⟩
theorem good250 : Good 250 q_internal_stringslite_Clone := ⟨Tryz.f250, Tryz.func250, by kernel_rfl, by kernel_rfl⟩
theorem good251 : Good 251 q_errors_New := ⟨Tryz.f251, Tryz.func251, by kernel_rfl, by kernel_rfl⟩
theorem good252 : Good 252 q_unicode_isExcludingLatin := ⟨Tryz.f252, Tryz.func252, by kernel_rfl, by kernel_rfl⟩
theorem good253 : Good 253 q_slices_rotateCmpFunc_string := ⟨Tryz.f253, Tryz.func253, by kernel_rfl, by kernel_rfl⟩
theorem good256 : Good 256 q_unicode_is16 := ⟨Tryz.f256, Tryz.func256, by kernel_rfl, by kernel_rfl⟩
theorem good257 : Good 257 q_unicode_is32 := ⟨Tryz.f257, Tryz.func257, by kernel_rfl, by kernel_rfl⟩
theorem good258 : Good 258 q_slices_swapRangeCmpFunc_string := ⟨Tryz.f258, Tryz.func258, by kernel_rfl, by kernel_rfl⟩

theorem goodAll : tree.All Good :=
  ⟨⟨⟨⟨⟨⟨⟨good3, good10⟩, ⟨good11, good12⟩⟩, ⟨⟨good13, good14⟩, ⟨good15, ⟨good16, good17⟩⟩⟩⟩, ⟨⟨⟨good26, good37⟩, ⟨good38, ⟨good39, good40⟩⟩⟩, ⟨⟨good41, good42⟩, ⟨good43, ⟨good44, good45⟩⟩⟩⟩⟩, ⟨⟨⟨⟨good47, good50⟩, ⟨good51, ⟨good65, good66⟩⟩⟩, ⟨⟨good67, good68⟩, ⟨good69, ⟨good70, good71⟩⟩⟩⟩, ⟨⟨⟨good72, good73⟩, ⟨good74, ⟨good75, good76⟩⟩⟩, ⟨⟨good77, good78⟩, ⟨good79, ⟨good80, good81⟩⟩⟩⟩⟩⟩, ⟨⟨⟨⟨⟨good82, good83⟩, ⟨good84, ⟨good85, good86⟩⟩⟩, ⟨⟨good89, good110⟩, ⟨good111, ⟨good112, good113⟩⟩⟩⟩, ⟨⟨⟨good114, good115⟩, ⟨good116, ⟨good117, good118⟩⟩⟩, ⟨⟨good119, good120⟩, ⟨good121, ⟨good122, good123⟩⟩⟩⟩⟩, ⟨⟨⟨⟨good124, good125⟩, ⟨good126, ⟨good127, good128⟩⟩⟩, ⟨⟨good129, good132⟩, ⟨good135, ⟨good136, good137⟩⟩⟩⟩, ⟨⟨⟨good138, good148⟩, ⟨good149, ⟨good150, good151⟩⟩⟩, ⟨⟨good152, good153⟩, ⟨good154, ⟨good155, good156⟩⟩⟩⟩⟩⟩⟩, ⟨⟨⟨⟨⟨⟨good157, good158⟩, ⟨good159, ⟨good160, good161⟩⟩⟩, ⟨⟨good162, good163⟩, ⟨good164, ⟨good165, good166⟩⟩⟩⟩, ⟨⟨⟨good167, good168⟩, ⟨good169, ⟨good173, good176⟩⟩⟩, ⟨⟨good177, good178⟩, ⟨good179, ⟨good180, good186⟩⟩⟩⟩⟩, ⟨⟨⟨⟨good187, good188⟩, ⟨good189, ⟨good190, good191⟩⟩⟩, ⟨⟨good192, good193⟩, ⟨good194, ⟨good195, good196⟩⟩⟩⟩, ⟨⟨⟨good197, good198⟩, ⟨good199, ⟨good200, good201⟩⟩⟩, ⟨⟨good202, good203⟩, ⟨good204, ⟨good205, good206⟩⟩⟩⟩⟩⟩, ⟨⟨⟨⟨⟨good207, good210⟩, ⟨good211, ⟨good214, good215⟩⟩⟩, ⟨⟨good216, good217⟩, ⟨good218, ⟨good219, good220⟩⟩⟩⟩, ⟨⟨⟨good221, good222⟩, ⟨good223, ⟨good224, good225⟩⟩⟩, ⟨⟨good226, good227⟩, ⟨good231, ⟨good232, good233⟩⟩⟩⟩⟩, ⟨⟨⟨⟨good236, good237⟩, ⟨good238, ⟨good239, good240⟩⟩⟩, ⟨⟨good241, good242⟩, ⟨good243, ⟨good244, good246⟩⟩⟩⟩, ⟨⟨⟨good247, good248⟩, ⟨good249, ⟨good250, good251⟩⟩⟩, ⟨⟨good252, good253⟩, ⟨good256, ⟨good257, good258⟩⟩⟩⟩⟩⟩⟩⟩

end Jet

/-
The table of the program's functions.
-/
namespace Jet
open Go Go.Proofs

def T : Tab := { fn := tree.get, hook := fun f => match Nat.beq f 255 with
  | true => some hIdx
  | false => none }

theorem hm : Tryz.prog.follows .mixedOrders = true := by kernel_rfl

theorem n255 : (Tryz.f255.name == "runtime.NumGoroutine") = false := by kernel_rfl
theorem b255 : Tryz.f255.body.isNone = true := by kernel_rfl
theorem x255 : Extern.findNext Tryz.f255 = none := by kernel_rfl
theorem e255 : Extern.find Tryz.f255 = some Extern.BytealgIndexByte.indexByte := by kernel_rfl
set_option maxRecDepth 1000000 in
theorem hook255 {f : FuncId} (e : f = 255) : CallsOk Tryz.prog gl fun g args σ => if g = f then hIdx args σ else none :=
  hIdx_ok (fn := Tryz.f255) (e ▸ Tryz.func255) n255 b255 x255 e255

set_option maxRecDepth 1000000 in
theorem tabOk : TabOk Tryz.prog gl T where
  fn f fn h := BT.all_get (t := tree) goodAll h
  hook f h hh := by
    simp only [T] at hh
    split at hh
    · rename_i hb
      cases hh
      exact hook255 (beq_iff.1 hb)
    · cases hh

theorem glFlat : GlFlat gl := by
  intro g cs h
  unfold gl at h
  split at h
  · cases h; kernel_rfl
  · cases h; kernel_rfl
  · cases h; kernel_rfl
  · cases h

end Jet

/-
The seat: the global tables; arguments of the laws' types.
-/
namespace Jet
open Go Go.Proofs

def numOf : AV → Int
  | .int _ n => n
  | _ => 0
def z0 : List Int := g0.map numOf
def z5 : List Int := g5.map numOf
def z1 : List (Int × Int) := (List.range 16).map fun i => (numOf (g1.getD (2 * i) .undef), numOf (g1.getD (2 * i + 1) .undef))

theorem g0_eq : (z0.map fun z => Value.int .u8 z).map av0 = g0 := by kernel_rfl
theorem g5_eq : (z5.map fun z => Value.int .u8 z).map av0 = g5 := by kernel_rfl
theorem g1_eq : (z1.flatMap fun p => [Value.int .u8 p.1, Value.int .u8 p.2]).map av0 = g1 := by kernel_rfl

theorem d0_eq : YteijihklafdlgaaGreatDoor.Rows.laid_unicode_utf8_first = Lib.tabData .u8 z0 := by kernel_rfl
theorem d5_eq : YteijihklafdlgaaGreatDoor.Rows.laid_strings_asciiSpace = (Lib.tabData .u8 z5 : DataW Unit) := by kernel_rfl
theorem d1_eq : YteijihklafdlgaaGreatDoor.Rows.laid_unicode_utf8_acceptRanges = (.agg (z1.map fun p => .agg ([p.1, p.2].map fun z => .lit (.int .u8 z))) : DataW Unit) := by kernel_rfl

/-- An array of pairs, cell by cell. -/
theorem pairs_cells {P : Program} {W : World} {fuel : Nat} {t e u : TypeId} {n : Nat} {fs : Array Field} {cs : List Value} {zs : List (Int × Int)} {p : List MemPlace} {sp : Nat → Bool} {held : Bool} (ht : P.underlying t = some (.array n e)) (he : P.underlying e = some (.struct fs))
    (hf : ∀ (i : Nat) (f : Field), fs[i]? = some f → P.underlying f.type = some (.int .u8) ∧ f.offset = i ∧ P.cellsOf f.type = 1) (hce : P.cellsOf e = 2) (hfs : fs.size = 2) (hct : P.cellsOf t = n * 2) (hn : zs.length = n)
    (h : DataW.trod (fun _ => ()) P W 0 sp held fuel t cs = some (.agg (zs.map fun p => .agg ([p.1, p.2].map fun z => .lit (.int .u8 z))), p)) :
    cs = zs.flatMap fun p => [Value.int .u8 p.1, Value.int .u8 p.2] := by
  have hlen : cs.length = n * 2 := by
    obtain ⟨xs, m, _, _, hl, _⟩ := DataW.trod_array ht h
    rw [hl, hct]
  have part : ∀ i, i < n → (cs.drop (i * 2)).take 2 = [Value.int .u8 (zs.getD i (0, 0)).1, Value.int .u8 (zs.getD i (0, 0)).2] := by
    intro i hi
    obtain ⟨fuel', d, q, hd, he'⟩ := Lib.array_elem ht h i hi
    rw [List.getElem?_map, List.getElem?_eq_getElem (by rw [hn]; exact hi)] at hd
    simp only [Option.map_some, Option.some.injEq] at hd
    subst hd
    rw [hce] at he'
    have := Lib.ints_of_struct he hf (by rw [hce, hfs]) he'
    rw [this]
    rw [List.getD_eq_getElem?_getD, List.getElem?_eq_getElem (by rw [hn]; exact hi)]
    rfl
  clear h hct ht
  subst hn
  induction zs generalizing cs with
  | nil => simp at hlen; simp [hlen]
  | cons z zs ih =>
    match cs, hlen with
    | a :: b :: cs, hlen =>
      have h0 := part 0 (by simp)
      simp only [Nat.zero_mul, List.drop_zero, List.take_succ_cons, List.take_zero, List.getD_cons_zero, List.cons.injEq, and_true] at h0
      obtain ⟨rfl, rfl⟩ := h0
      rw [List.flatMap_cons]
      congr 1
      have : cs = zs.flatMap fun p => [Value.int .u8 p.1, Value.int .u8 p.2] := by
        refine ih (by simp at hlen ⊢; omega) ?_
        intro i hi
        have := part (i + 1) (by simp; omega)
        rw [show (i + 1) * 2 = i * 2 + 2 by omega] at this
        simpa using this
      rw [← this]; rfl
    | [], hlen => simp at hlen
    | [a], hlen => simp at hlen; omega

theorem glob_cells {P : Program} {W : World} {n : String} {g : Nat} {cs : Array Value} (hg : P.globalNamed n = some g) (hv : W.var? P n = some cs) : ∃ t fr, W.heap[g]? = some (.cells cs t fr) := by
  simp only [World.var?, hg, Option.bind_some] at hv
  split at hv
  · rename_i c t fr e; cases hv; exact ⟨t, fr, e⟩
  · cases hv

theorem n0 : Tryz.prog.globalNamed "unicode/utf8.first" = some 0 := by kernel_rfl
theorem n1 : Tryz.prog.globalNamed "unicode/utf8.acceptRanges" = some 1 := by kernel_rfl
theorem n5 : Tryz.prog.globalNamed "strings.asciiSpace" = some 5 := by kernel_rfl
theorem y0 : (Tryz.prog.globals[0]?).map (·.type) = some 222 := by kernel_rfl
theorem y1 : (Tryz.prog.globals[1]?).map (·.type) = some 225 := by kernel_rfl
theorem y5 : (Tryz.prog.globals[5]?).map (·.type) = some 222 := by kernel_rfl
theorem u222 : Tryz.prog.underlying 222 = some (.array 256 5) := by kernel_rfl
theorem u5 : Tryz.prog.underlying 5 = some (.int .u8) := by kernel_rfl
theorem c5 : Tryz.prog.cellsOf 5 = 1 := by kernel_rfl
theorem c222 : Tryz.prog.cellsOf 222 = 256 := by kernel_rfl

def laid : List (String × DataW Unit) := YteijihklafdlgaaGreatDoor.Rows.checkCountsRow.laid

theorem tab_in {n : String} {g : Nat} {zs : List Int} {W : World} (hg : Tryz.prog.globalNamed n = some g) (ht : (Tryz.prog.globals[g]?).map (·.type) = some 222) (h : Lib.VarReads Tryz.prog W n (Lib.tabData .u8 zs)) :
    ∃ c t fr, W.heap[g]? = some (.cells c t fr) ∧ c.toList = zs.map fun z => Value.int .u8 z := by
  obtain ⟨g', t, cs, fuel, p, h1, h2, h3, h4⟩ := h
  rw [hg] at h1
  cases h1
  rw [ht] at h2
  cases h2
  obtain ⟨ty, fr, e⟩ := glob_cells hg h3
  exact ⟨cs, ty, fr, e, Lib.cells_of_tab u222 u5 c5 c222 h4⟩

set_option maxRecDepth 1000000 in
theorem glIn {W : World} (h : laidMet Tryz.prog laid W) : GlIn gl W := by
  intro g cs e
  unfold gl at e
  split at e
  · cases e
    have hr : Lib.VarReads Tryz.prog W "unicode/utf8.first" (Lib.tabData .u8 z0) := by
      rw [← d0_eq]; exact Lib.laidMet.reads h (by unfold laid YteijihklafdlgaaGreatDoor.Rows.checkCountsRow; simp only [List.mem_cons, true_or, or_true])
    obtain ⟨c, t, fr, h1, h2⟩ := tab_in n0 y0 hr
    exact ⟨c, t, fr, h1, by rw [h2, g0_eq]⟩
  · cases e
    have hr : Lib.VarReads Tryz.prog W "unicode/utf8.acceptRanges" (.agg (z1.map fun p => .agg ([p.1, p.2].map fun z => .lit (.int .u8 z)))) := by
      rw [← d1_eq]; exact Lib.laidMet.reads h (by unfold laid YteijihklafdlgaaGreatDoor.Rows.checkCountsRow; simp only [List.mem_cons, true_or, or_true])
    obtain ⟨g', t, cs, fuel, p, h1, h2, h3, h4⟩ := hr
    rw [n1] at h1
    cases h1
    rw [y1] at h2
    cases h2
    obtain ⟨ty, fr, e⟩ := glob_cells n1 h3
    refine ⟨cs, ty, fr, e, ?_⟩
    rw [← g1_eq]
    congr 1
    refine pairs_cells (n := 16) (e := 224) (u := 5) (fs := #[⟨ "lo", 5, 0, false, "", "unicode/utf8", 0⟩, ⟨ "hi", 5, 1, false, "", "unicode/utf8", 1⟩]) (by kernel_rfl) (by kernel_rfl) ?_ (by kernel_rfl) rfl (by kernel_rfl) (by kernel_rfl) h4
    intro i f hf
    match i, hf with
    | 0, hf => simp at hf; subst hf; exact ⟨u5, rfl, c5⟩
    | 1, hf => simp at hf; subst hf; exact ⟨u5, rfl, c5⟩
    | i + 2, hf => simp at hf
  · cases e
    have hr : Lib.VarReads Tryz.prog W "strings.asciiSpace" (Lib.tabData .u8 z5) := by
      rw [← d5_eq]; exact Lib.laidMet.reads h (by unfold laid YteijihklafdlgaaGreatDoor.Rows.checkCountsRow; simp only [List.mem_cons, true_or, or_true])
    obtain ⟨c, t, fr, h1, h2⟩ := tab_in n5 y5 hr
    exact ⟨c, t, fr, h1, by rw [h2, g5_eq]⟩
  · cases e

end Jet

/-
The arguments of the laws: Shapes.
-/
namespace Jet
open Go Go.Proofs

section
variable {H : Type} {enc : TypeId × Value → H} {P : Program} {W : World}

/-- The type numbers of a Shape's parts. -/
structure ShapeT (P : Program) (t : TypeId) where
  tq : TypeId
  ti : TypeId
  tn : TypeId
  ts : TypeId
  tb : TypeId
  tl : TypeId
  te : TypeId
  ei : TypeId
  f0 : Field
  f1 : Field
  f2 : Field
  g0 : Field
  g1 : Field
  g2 : Field
  ut : P.underlying t = some (.struct #[f0, f1, f2])
  uq : P.underlying tq = some (.struct #[g0, g1, g2])
  e0 : f0.type = tq ∧ f0.offset = 0 ∧ P.cellsOf tq = 3
  e1 : f1.type = tb ∧ f1.offset = 3 ∧ P.cellsOf tb = 1
  e2 : f2.type = tl ∧ f2.offset = 4 ∧ P.cellsOf tl = 1
  k0 : g0.type = ti ∧ g0.offset = 0 ∧ P.cellsOf ti = 1
  k1 : g1.type = tn ∧ g1.offset = 1 ∧ P.cellsOf tn = 1
  k2 : g2.type = ts ∧ g2.offset = 2 ∧ P.cellsOf ts = 1
  ui : P.underlying ti = some (.slice ei)
  un : P.underlying tn = some (.int .i64)
  us : P.underlying ts = some .string
  ub : P.underlying tb = some .bool
  ul : P.underlying tl = some (.slice te)
  ue : P.underlying te = some (.int .u8)
  ce : P.cellsOf te = 1
  ct : P.cellsOf t = 5
  row : P.cellTypes P.depth t = some [ti, tn, ts, tb, tl]

theorem shape_arg {t : TypeId} (S : ShapeT P t) {v : Value} {d : DataW H} {p : List MemPlace} {base : Nat} (hval : Value.okWide P W .any base t v) (h : DataW.Trod enc P W 0 (fun _ => true) true t v d p) :
    ∃ (a : Value) (within : Int) (by' : List UInt8) (own : Bool) (ns : List Int), ((∀ n ∈ ns, 0 ≤ n ∧ n ≤ 255) ∧ ns.length ≤ 9223372036854775807) ∧
      Rel (Gw W) (.agg [.raw a, .int .i64 within, .str by', .bool own, .sl .no (ns.map (AV.int .u8))]) v := by
  obtain ⟨fuel, h⟩ := h
  simp only [Value.okWide, S.ut] at hval
  obtain ⟨cs, rfl, hsz, ts', hts, hmul, hcell⟩ := hval
  rw [S.row] at hts
  cases hts
  simp only [Value.cells] at h
  obtain ⟨xs, n, _, _, hl, _, hf⟩ := DataW.trod_struct S.ut h
  have h0 := hf 0 S.f0 rfl
  have h1 := hf 1 S.f1 rfl
  have h2 := hf 2 S.f2 rfl
  rw [S.e0.1, S.e0.2.1, S.e0.2.2] at h0
  rw [S.e1.1, S.e1.2.1, S.e1.2.2] at h1
  rw [S.e2.1, S.e2.2.1, S.e2.2.2] at h2
  have hxl : xs.length = 3 := by assumption
  obtain ⟨x0, x1, x2, rfl⟩ : ∃ x0 x1 x2, xs = [x0, x1, x2] := by
    match xs, hxl with
    | [x0, x1, x2], _ => exact ⟨x0, x1, x2, rfl⟩
  simp only [List.getElem?_cons_zero, List.getElem?_cons_succ] at h0 h1 h2
  obtain ⟨ys, n', _, _, hl', hyl, hf'⟩ := DataW.trod_struct S.uq h0
  have q0 := hf' 0 S.g0 rfl
  have q1 := hf' 1 S.g1 rfl
  have q2 := hf' 2 S.g2 rfl
  rw [S.k0.1, S.k0.2.1, S.k0.2.2] at q0
  rw [S.k1.1, S.k1.2.1, S.k1.2.2] at q1
  rw [S.k2.1, S.k2.2.1, S.k2.2.2] at q2
  obtain ⟨y0, y1, y2, rfl⟩ : ∃ x0 x1 x2, ys = [x0, x1, x2] := by
    have hyl : ys.length = 3 := hyl
    match ys, hyl with
    | [x0, x1, x2], _ => exact ⟨x0, x1, x2, rfl⟩
  simp only [List.getElem?_cons_zero, List.getElem?_cons_succ] at q0 q1 q2
  have five : cs.size = 5 := by rw [hsz, S.ct]
  obtain ⟨c0, c1, c2, c3, c4, hcl⟩ : ∃ c0 c1 c2 c3 c4, cs.toList = [c0, c1, c2, c3, c4] := by
    have : cs.toList.length = 5 := by simpa using five
    match cs.toList, this with
    | [c0, c1, c2, c3, c4], _ => exact ⟨c0, c1, c2, c3, c4, rfl⟩
  rw [hcl] at h0 h1 h2 q0 q1 q2
  simp only [List.drop_zero, List.drop_succ_cons, List.take_succ_cons, List.take_zero] at h1 h2 q0 q1 q2
  -- cell by cell
  have r0 : rawOk c0 = true := by
    rcases DataW.trod_slice S.ui q0 with ⟨e, _⟩ | ⟨a, len, cap, _, _, _, _, e, _⟩ <;> (simp only [List.cons.injEq, and_true] at e; subst e; rfl)
  obtain ⟨w1, e1, _, _⟩ := DataW.trod_int S.un q1
  obtain ⟨s2, e2, _, _⟩ := DataW.trod_string S.us q2
  obtain ⟨b3, e3, _⟩ := DataW.trod_bool S.ub h1
  simp only [List.cons.injEq, and_true] at e1 e2 e3
  subst e1
  subst e2
  subst e3
  have hv4 : Cell.okWide P W .any base S.tl c4 := by
    obtain ⟨u, hu, hc⟩ := hcell 4 c4 (by rw [← Array.getElem?_toList, hcl]; rfl)
    simp only [List.length_cons, List.length_nil] at hu
    cases hu
    exact hc
  have hv4' : Cell.okWide P W .any 0 S.tl c4 := by
    simp only [Cell.okWide, S.ul, Cell.ok] at hv4 ⊢
    cases c4 <;> exact hv4
  obtain ⟨ns, hns, r4⟩ := bytes_arg S.ul S.ue S.ce hv4' h2
  refine ⟨c0, w1, s2.data.toList, b3, ns, hns, ?_⟩
  simp only [Rel]
  refine ⟨cs, rfl, ?_, ?_⟩
  · rw [hcl]
    exact .cons (by simp only [Rel]; exact ⟨trivial, r0⟩) (.cons (by simp [Rel]) (.cons (by simp [Rel]) (.cons (by simp [Rel]) (.cons r4 .nil))))
  · intro x hx
    simp only [List.mem_cons, List.mem_nil_iff, or_false] at hx
    rcases hx with rfl | rfl | rfl | rfl | rfl <;> rfl

end

def shape27 : ShapeT Tryz.prog 27 where
  tq := 24
  ti := 22
  tn := 2
  ts := 9
  tb := 4
  tl := 25
  te := 5
  ei := 33
  f0 := ⟨ "Q", 24, 0, false, "", "", 0⟩
  f1 := ⟨ "Own", 4, 3, false, "", "", 48⟩
  f2 := ⟨ "L", 25, 4, false, "", "", 56⟩
  g0 := ⟨ "Items", 22, 0, false, "", "", 0⟩
  g1 := ⟨ "Within", 2, 1, false, "", "", 24⟩
  g2 := ⟨ "By", 9, 2, false, "", "", 32⟩
  ut := by kernel_rfl
  uq := by kernel_rfl
  e0 := ⟨rfl, rfl, by kernel_rfl⟩
  e1 := ⟨rfl, rfl, by kernel_rfl⟩
  e2 := ⟨rfl, rfl, by kernel_rfl⟩
  k0 := ⟨rfl, rfl, by kernel_rfl⟩
  k1 := ⟨rfl, rfl, by kernel_rfl⟩
  k2 := ⟨rfl, rfl, by kernel_rfl⟩
  ui := by kernel_rfl
  un := by kernel_rfl
  us := by kernel_rfl
  ub := by kernel_rfl
  ul := by kernel_rfl
  ue := by kernel_rfl
  ce := by kernel_rfl
  ct := by kernel_rfl
  row := by kernel_rfl

end Jet
