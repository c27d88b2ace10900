/-
  Texts of a proof. Conditions: none.
-/
import Derived.Test.YtolhindhmljgdaaGreatDoorEngD
set_option linter.unusedVariables false
set_option linter.unusedSimpArgs false
set_option linter.unnecessarySimpa false
set_option linter.unusedSectionVars false
namespace Go.Eng
open Go
/-- 256 times false -/
def z256 : List AV := List.replicate 256 (.bool false)
/-! sentry/sentrylaw2.XmlValues -/
def k7b : K :=
 (.seq
  (.reg false [⟨(some 2), .mv (.c (.bool false)), none, [], []⟩])
  (.seq
   (.seq
    (.reg false [⟨(some 7), .mv (.t 0), none, [], []⟩,
      ⟨(some 8), .call (.f 19) [(.t 7)], none, [], []⟩,
      ⟨(some 9), .un .not (.t 8), none, [], []⟩,
      ⟨(some 10), .mv (.t 9), none, [], []⟩,
      ⟨(some 11), .mv (.t 0), (some (10, false)), [], []⟩,
      ⟨(some 12), .len .str (.t 11), (some (10, false)), [], []⟩,
      ⟨(some 13), .bin .gtr .i (.t 12) (.c (.int .i64 60)), (some (10, false)), [], []⟩,
      ⟨(some 14), .pick (.t 10) (.c (.bool true)) (.t 13), none, [], []⟩])
    (.cond (.t 14)
     (.seq
      (.reg false [⟨(some 2), .mv (.c (.bool true)), none, [], []⟩])
      .ret)
     .skip))
   (.seq
    (.reg false [⟨(some 15), .mv (.t 0), none, [], []⟩,
      ⟨(some 16), .build [.str [], .str []] [(0, 1, (.c (.str [120]))), (1, 1, (.t 15))], none, [], []⟩,
      ⟨(some 17), .bslice 41 2 1 [.str [], .str []] [(0, 2, (.t 16))], none, [], []⟩,
      ⟨(some 18), .build [.str [], .nils, .nils, .int .i64 0] [(0, 1, (.c (.str [97]))), (1, 1, (.t 17))], none, [], []⟩,
      ⟨(some 3), .alloc 25 [.str [], .nils, .nils, .int .i64 0], none, [], []⟩,
      ⟨none, .store 4 (.t 3) (.t 18), none, [], []⟩])
    (.seq
     (.reg false [⟨(some 20), .load true 4 (.t 3), none, [], []⟩,
       ⟨(some 21), .call (.f 13) [(.t 20)], none, [], []⟩,
       ⟨(some 22), .call (.f 14) [(.t 21)], none, [], []⟩,
       ⟨(some 19), .mv (.t 22), none, [], []⟩,
       ⟨(some 23), .extract (.t 19) 0, none, [], []⟩,
       ⟨(some 24), .extract (.t 19) 1, none, [], []⟩,
       ⟨(some 25), .extract (.t 19) 2, none, [], []⟩,
       ⟨(some 4), .alloc 25 [.str [], .nils, .nils, .int .i64 0], none, [], []⟩,
       ⟨none, .store 4 (.t 4) (.t 23), none, [], []⟩,
       ⟨(some 5), .mv (.t 24), none, [], []⟩,
       ⟨(some 6), .mv (.t 25), none, [], []⟩])
     (.seq
      (.reg false [⟨(some 26), .mv (.t 6), none, [], []⟩,
        ⟨(some 27), .bin .eql .i (.t 26) (.c (.int .i64 0)), none, [], []⟩,
        ⟨(some 28), .mv (.t 27), none, [], []⟩,
        ⟨(some 29), .faddr 1 (.t 4), (some (28, true)), [], []⟩,
        ⟨(some 30), .load false 1 (.t 29), (some (28, true)), [], []⟩,
        ⟨(some 31), .len .slc (.t 30), (some (28, true)), [], []⟩,
        ⟨(some 32), .bin .eql .i (.t 31) (.c (.int .i64 1)), (some (28, true)), [], []⟩,
        ⟨(some 33), .pick (.t 28) (.t 32) (.c (.bool false)), none, [], []⟩,
        ⟨(some 34), .mv (.t 33), none, [], []⟩,
        ⟨(some 35), .faddr 1 (.t 4), (some (34, true)), [], []⟩,
        ⟨(some 36), .load false 1 (.t 35), (some (34, true)), [], []⟩,
        ⟨(some 37), .iaddr none 2 (.t 36) (.c (.int .i64 0)), (some (34, true)), [], []⟩,
        ⟨(some 38), .faddr 1 (.t 37), (some (34, true)), [], []⟩,
        ⟨(some 39), .load false 1 (.t 38), (some (34, true)), [], []⟩,
        ⟨(some 40), .mv (.t 0), (some (34, true)), [], []⟩,
        ⟨(some 41), .bin .eql .s (.t 39) (.t 40), (some (34, true)), [], []⟩,
        ⟨(some 42), .pick (.t 34) (.t 41) (.c (.bool false)), none, [], []⟩,
        ⟨(some 43), .mv (.t 42), none, [], []⟩,
        ⟨(some 44), .call (.f 15) [], (some (43, true)), [], []⟩,
        ⟨(some 45), .pick (.t 43) (.t 44) (.c (.bool false)), none, [], []⟩,
        ⟨(some 2), .mv (.t 45), none, [], []⟩])
      .ret)))))
def k7 : KBody := .code 46 [.tmp 2] true k7b
/-! sentry/xml.Print -/
def k13l0b : K :=
 (.seq
  (.reg false [⟨(some 16), .bin .lss .i (.t 15) (.t 14), none, [], []⟩])
  (.seq
   (.cond (.t 16)
    .skip
    (.exit 0))
   (.seq
    (.block 1
     (.seq
      (.reg false [⟨(some 17), .iaddr none 2 (.t 13) (.t 15), none, [], []⟩,
        ⟨(some 18), .load true 2 (.t 17), none, [], []⟩,
        ⟨(some 5), .alloc 41 [.str [], .str []], none, [], []⟩,
        ⟨none, .store 2 (.t 5) (.t 18), none, [], []⟩])
      (.reg true [⟨(some 19), .faddr 0 (.t 5), none, [], []⟩,
        ⟨(some 20), .load false 1 (.t 19), none, [0, 1], []⟩,
        ⟨(some 21), .bin .add .s (.c (.str [32])) (.t 20), none, [], []⟩,
        ⟨(some 22), .bin .add .s (.t 21) (.c (.str [61, 34])), none, [], []⟩,
        ⟨(some 23), .faddr 1 (.t 5), none, [], []⟩,
        ⟨(some 24), .load false 1 (.t 23), none, [0], []⟩,
        ⟨(some 25), .call (.f 23) [(.t 24), (.c (.bool true))], none, [], []⟩,
        ⟨(some 26), .bin .add .s (.t 22) (.t 25), none, [], []⟩,
        ⟨(some 27), .bin .add .s (.t 26) (.c (.str [34])), none, [], []⟩,
        ⟨(some 28), .call (.f 22) [(.t 3), (.t 27)], none, [], []⟩])))
    (.reg false [⟨(some 29), .bin .add .i (.t 15) (.c (.int .i64 1)), none, [], []⟩,
      ⟨(some 15), .mv (.t 29), none, [], []⟩]))))
def k13l0 : K := .loop k13l0b
def k13l1b : K :=
 (.seq
  (.reg false [⟨(some 41), .bin .lss .i (.t 40) (.t 39), none, [], []⟩])
  (.seq
   (.cond (.t 41)
    .skip
    (.exit 2))
   (.seq
    (.block 3
     (.seq
      (.reg false [⟨(some 42), .iaddr none 4 (.t 38) (.t 40), none, [], []⟩,
        ⟨(some 43), .load true 4 (.t 42), none, [], []⟩,
        ⟨(some 7), .alloc 25 [.str [], .nils, .nils, .int .i64 0], none, [], []⟩,
        ⟨none, .store 4 (.t 7) (.t 43), none, [], []⟩])
      (.reg false [⟨(some 44), .load true 4 (.t 7), none, [], []⟩,
        ⟨(some 45), .call (.f 13) [(.t 44)], none, [], []⟩,
        ⟨(some 46), .call (.f 22) [(.t 3), (.t 45)], none, [], []⟩])))
    (.reg false [⟨(some 47), .bin .add .i (.t 40) (.c (.int .i64 1)), none, [], []⟩,
      ⟨(some 40), .mv (.t 47), none, [], []⟩]))))
def k13l1 : K := .loop k13l1b
def k13b : K :=
 (.seq
  (.reg false [⟨(some 1), .box 25 (.t 0), none, [], []⟩,
    ⟨(some 2), .mv (.c (.str [])), none, [], []⟩])
  (.seq
   (.reg false [⟨(some 3), .alloc 47 [.nilp, .nils], none, [], []⟩])
   (.seq
    (.reg false [⟨(some 8), .faddr 0 (.t 1), none, [], []⟩,
      ⟨(some 9), .load false 1 (.t 8), none, [], []⟩,
      ⟨(some 10), .bin .add .s (.c (.str [60])) (.t 9), none, [], []⟩,
      ⟨(some 11), .call (.f 22) [(.t 3), (.t 10)], none, [], []⟩])
    (.seq
     (.seq
      (.reg false [⟨(some 12), .faddr 1 (.t 1), none, [], []⟩,
        ⟨(some 13), .load false 1 (.t 12), none, [], []⟩,
        ⟨(some 14), .len .slc (.t 13), none, [], []⟩,
        ⟨(some 15), .mv (.c (.int .i64 0)), none, [], []⟩])
      (.block 0
       k13l0))
     (.seq
      (.seq
       (.reg false [⟨(some 30), .faddr 2 (.t 1), none, [], []⟩,
         ⟨(some 31), .load false 1 (.t 30), none, [], []⟩,
         ⟨(some 32), .len .slc (.t 31), none, [], []⟩,
         ⟨(some 33), .bin .eql .i (.t 32) (.c (.int .i64 0)), none, [], []⟩])
       (.cond (.t 33)
        (.seq
         (.reg false [⟨(some 34), .call (.f 24) [(.t 3)], none, [], []⟩,
           ⟨(some 35), .bin .add .s (.t 34) (.c (.str [47, 62])), none, [], []⟩,
           ⟨(some 2), .mv (.t 35), none, [], []⟩])
         .ret)
        .skip))
      (.seq
       (.reg false [⟨(some 36), .call (.f 22) [(.t 3), (.c (.str [62]))], none, [], []⟩])
       (.seq
        (.seq
         (.reg false [⟨(some 37), .faddr 2 (.t 1), none, [], []⟩,
           ⟨(some 38), .load false 1 (.t 37), none, [], []⟩,
           ⟨(some 39), .len .slc (.t 38), none, [], []⟩,
           ⟨(some 40), .mv (.c (.int .i64 0)), none, [], []⟩])
         (.block 2
          k13l1))
        (.seq
         (.reg true [⟨(some 48), .call (.f 24) [(.t 3)], none, [], []⟩,
           ⟨(some 49), .bin .add .s (.t 48) (.c (.str [60, 47])), none, [], []⟩,
           ⟨(some 50), .faddr 0 (.t 1), none, [], []⟩,
           ⟨(some 51), .load false 1 (.t 50), none, [0, 1], []⟩,
           ⟨(some 52), .bin .add .s (.t 49) (.t 51), none, [], []⟩,
           ⟨(some 53), .bin .add .s (.t 52) (.c (.str [62])), none, [], []⟩,
           ⟨(some 2), .mv (.t 53), none, [], []⟩])
         .ret))))))))
def k13 : KBody := .code 54 [.tmp 2] true k13b
/-! sentry/xml.Parse -/
def k14l0b : K :=
 (.seq
  (.reg false [⟨(some 26), .bin .lss .i (.t 25) (.t 24), none, [], []⟩])
  (.seq
   (.cond (.t 26)
    .skip
    (.exit 0))
   (.seq
    (.block 1
     (.seq
      (.reg false [⟨(some 27), .iaddr none 1 (.t 23) (.t 25), none, [], []⟩,
        ⟨(some 28), .load false 1 (.t 27), none, [], []⟩,
        ⟨(some 9), .mv (.t 28), none, [], []⟩])
      (.reg false [⟨(some 29), .mv (.t 9), none, [], []⟩,
        ⟨(some 30), .call (.t 29) [], none, [], []⟩])))
    (.reg false [⟨(some 31), .bin .add .i (.t 25) (.c (.int .i64 1)), none, [], []⟩,
      ⟨(some 25), .mv (.t 31), none, [], []⟩]))))
def k14l0 : K := .loop k14l0b
def k14b : K :=
 (.seq
  (.reg false [⟨(some 2), .alloc 25 [.str [], .nils, .nils, .int .i64 0], none, [], []⟩,
    ⟨(some 3), .mv (.c (.int .i64 0)), none, [], []⟩,
    ⟨(some 4), .mv (.c (.int .i64 0)), none, [], []⟩])
  (.seq
   (.seq
    (.reg false [⟨(some 10), .mv (.t 0), none, [], []⟩,
      ⟨(some 11), .len .str (.t 10), none, [], []⟩,
      ⟨(some 12), .bin .gtr .i (.t 11) (.c (.int .i64 8000)), none, [], []⟩])
    (.cond (.t 12)
     (.seq
      (.reg false [⟨(some 13), .build [.str [], .nils, .nils, .int .i64 0] [], none, [], []⟩,
        ⟨none, .store 4 (.t 2) (.t 13), none, [], []⟩,
        ⟨(some 3), .mv (.c (.int .i64 0)), none, [], []⟩,
        ⟨(some 4), .mv (.c (.int .i64 3)), none, [], []⟩])
      .ret)
     .skip))
   (.seq
    (.reg false [⟨(some 14), .mv (.t 0), none, [], []⟩,
      ⟨(some 15), .build [.str [], .int .i64 0, .int .i64 0, .int .i64 0, .int .i64 0] [(0, 1, (.t 14))], none, [], []⟩,
      ⟨(some 16), .box 56 (.t 15), none, [], []⟩,
      ⟨(some 5), .alloc 54 [.nilp], none, [], []⟩,
      ⟨none, .store 1 (.t 5) (.t 16), none, [], []⟩])
    (.seq
     (.reg false [⟨(some 6), .alloc 25 [.str [], .nils, .nils, .int .i64 0], none, [], []⟩])
     (.seq
      (.reg false [⟨(some 17), .mkfn (.func 25) [] [(.t 5), (.t 6)], none, [], []⟩,
        ⟨(some 7), .mv (.t 17), none, [], []⟩])
      (.seq
       (.seq
        (.reg false [⟨(some 18), .load false 1 (.t 5), none, [], []⟩,
          ⟨(some 19), .mkfn (.func 27) [(.t 18)] [], none, [], []⟩,
          ⟨(some 20), .mv (.t 7), none, [], []⟩,
          ⟨(some 21), .load false 1 (.t 5), none, [], []⟩,
          ⟨(some 22), .mkfn (.func 27) [(.t 21)] [], none, [], []⟩,
          ⟨(some 23), .bslice 1 1 3 [.nilf] [(0, 1, (.t 19)), (1, 1, (.t 20)), (2, 1, (.t 22))], none, [], []⟩,
          ⟨(some 24), .len .slc (.t 23), none, [], []⟩,
          ⟨(some 25), .mv (.c (.int .i64 0)), none, [], []⟩])
        (.block 0
         k14l0))
       (.seq
        (.seq
         (.reg false [⟨(some 32), .load false 1 (.t 5), none, [], []⟩,
           ⟨(some 33), .call (.f 28) [(.t 32)], none, [], []⟩,
           ⟨(some 34), .bin .neq .s (.t 33) (.c (.str [])), none, [], []⟩])
         (.cond (.t 34)
          (.reg true [⟨(some 35), .load false 1 (.t 5), none, [0], []⟩,
            ⟨(some 36), .load false 1 (.t 5), none, [0], []⟩,
            ⟨(some 37), .nilchk (.t 36), none, [], []⟩,
            ⟨(some 38), .faddr 1 (.t 37), none, [], []⟩,
            ⟨(some 39), .load false 1 (.t 38), none, [0], []⟩,
            ⟨(some 40), .call (.f 29) [(.t 35), (.t 39), (.c (.int .i64 2))], none, [], []⟩])
          .skip))
        (.seq
         (.seq
          (.reg false [⟨(some 41), .load false 1 (.t 5), none, [], []⟩,
            ⟨(some 42), .nilchk (.t 41), none, [], []⟩,
            ⟨(some 43), .faddr 3 (.t 42), none, [], []⟩,
            ⟨(some 44), .load false 1 (.t 43), none, [], []⟩,
            ⟨(some 45), .bin .neq .i (.t 44) (.c (.int .i64 0)), none, [], []⟩])
          (.cond (.t 45)
           (.seq
            (.reg true [⟨(some 46), .build [.str [], .nils, .nils, .int .i64 0] [], none, [], []⟩,
              ⟨(some 47), .load false 1 (.t 5), none, [0, 1], []⟩,
              ⟨(some 48), .nilchk (.t 47), none, [], []⟩,
              ⟨(some 49), .faddr 4 (.t 48), none, [], []⟩,
              ⟨(some 50), .load false 1 (.t 49), none, [0, 1], []⟩,
              ⟨(some 51), .load false 1 (.t 5), none, [0, 1], []⟩,
              ⟨(some 52), .nilchk (.t 51), none, [], []⟩,
              ⟨(some 53), .faddr 3 (.t 52), none, [], []⟩,
              ⟨(some 54), .load false 1 (.t 53), none, [0, 1], []⟩,
              ⟨none, .store 4 (.t 2) (.t 46), none, [], []⟩,
              ⟨(some 3), .mv (.t 50), none, [], []⟩,
              ⟨(some 4), .mv (.t 54), none, [], []⟩])
            .ret)
           .skip))
         (.seq
          (.reg false [⟨(some 55), .load true 4 (.t 6), none, [], []⟩,
            ⟨(some 56), .mv (.t 0), none, [], []⟩,
            ⟨(some 57), .len .str (.t 56), none, [], []⟩,
            ⟨none, .store 4 (.t 2) (.t 55), none, [], []⟩,
            ⟨(some 3), .mv (.t 57), none, [], []⟩,
            ⟨(some 4), .mv (.c (.int .i64 0)), none, [], []⟩])
          .ret)))))))))
def k14 : KBody := .code 58 [.cell 2 true 4, .tmp 3, .tmp 4] true k14b
/-! sentry/sentryref1.Signs -/
def k19l0b : K :=
 (.seq
  (.seq
   (.reg false [⟨(some 10), .mv (.t 4), none, [], []⟩,
     ⟨(some 11), .mv (.t 3), none, [], []⟩,
     ⟨(some 12), .len .slc (.t 11), none, [], []⟩,
     ⟨(some 13), .bin .lss .i (.t 10) (.t 12), none, [], []⟩])
   (.cond (.t 13)
    .skip
    (.exit 0)))
  (.seq
   (.block 1
    (.seq
     (.reg false [⟨(some 16), .mv (.t 3), none, [], []⟩,
       ⟨(some 17), .mv (.t 4), none, [], []⟩,
       ⟨(some 18), .iaddr none 1 (.t 16) (.t 17), none, [], []⟩,
       ⟨(some 19), .load false 1 (.t 18), none, [], []⟩,
       ⟨(some 20), .call (.f 36) [(.t 19)], none, [], []⟩,
       ⟨(some 21), .un .not (.t 20), none, [], []⟩])
     (.cond (.t 21)
      (.seq
       (.reg false [⟨(some 2), .mv (.c (.bool false)), none, [], []⟩])
       .ret)
      .skip)))
   (.reg false [⟨(some 14), .mv (.t 4), none, [], []⟩,
     ⟨(some 15), .bin .add .i (.t 14) (.c (.int .i64 1)), none, [], []⟩,
     ⟨(some 4), .mv (.t 15), none, [], []⟩])))
def k19l0 : K := .loop k19l0b
def k19b : K :=
 (.seq
  (.reg false [⟨(some 2), .mv (.c (.bool false)), none, [], []⟩])
  (.seq
   (.seq
    (.reg false [⟨(some 5), .mv (.t 0), none, [], []⟩,
      ⟨(some 6), .call (.f 35) [(.t 5)], none, [], []⟩,
      ⟨(some 7), .un .not (.t 6), none, [], []⟩])
    (.cond (.t 7)
     (.seq
      (.reg false [⟨(some 2), .mv (.c (.bool false)), none, [], []⟩])
      .ret)
     .skip))
   (.seq
    (.reg false [⟨(some 8), .mv (.t 0), none, [], []⟩,
      ⟨(some 9), .conv .strToRunes (.t 8), none, [], []⟩,
      ⟨(some 3), .mv (.t 9), none, [], []⟩])
    (.seq
     (.seq
      (.reg false [⟨(some 4), .mv (.c (.int .i64 0)), none, [], []⟩])
      (.block 0
       k19l0))
     (.seq
      (.reg false [⟨(some 2), .mv (.c (.bool true)), none, [], []⟩])
      .ret)))))
def k19 : KBody := .code 22 [.tmp 2] true k19b
/-! (*strings.Builder).WriteString -/
def k22b : K :=
 (.seq
  (.reg false [⟨(some 4), .mv (.c (.int .i64 0)), none, [], []⟩,
    ⟨(some 5), .mv (.c (.nili)), none, [], []⟩])
  (.seq
   (.reg false [⟨(some 6), .mv (.t 0), none, [], []⟩,
     ⟨(some 7), .call (.f 41) [(.t 6)], none, [], []⟩])
   (.seq
    (.reg false [⟨(some 8), .mv (.t 0), none, [], []⟩,
      ⟨(some 9), .mv (.t 0), none, [], []⟩,
      ⟨(some 10), .nilchk (.t 9), none, [], []⟩,
      ⟨(some 11), .faddr 1 (.t 10), none, [], []⟩,
      ⟨(some 12), .load false 1 (.t 11), none, [], []⟩,
      ⟨(some 13), .mv (.t 1), none, [], []⟩,
      ⟨(some 14), .append 5 1 1 [.int .u8 0] false (.t 12) (.t 13), none, [], []⟩,
      ⟨(some 15), .nilchk (.t 8), none, [], []⟩,
      ⟨(some 16), .faddr 1 (.t 15), none, [], []⟩,
      ⟨none, .store 1 (.t 16) (.t 14), none, [], []⟩])
    (.seq
     (.reg false [⟨(some 17), .mv (.t 1), none, [], []⟩,
       ⟨(some 18), .len .str (.t 17), none, [], []⟩,
       ⟨(some 4), .mv (.t 18), none, [], []⟩,
       ⟨(some 5), .mv (.c (.nili)), none, [], []⟩])
     .ret))))
def k22 : KBody := .code 19 [.tmp 4, .tmp 5] true k22b
/-! sentry/name.Escape -/
def k23b : K :=
 (.seq
  (.reg false [⟨(some 4), .mv (.c (.str [])), none, [], []⟩])
  (.seq
   (.reg false [⟨(some 5), .mv (.t 0), none, [], []⟩,
     ⟨(some 6), .call (.f 42) [(.t 5), (.c (.str [38])), (.c (.str [38, 97, 109, 112, 59]))], none, [], []⟩,
     ⟨(some 0), .mv (.t 6), none, [], []⟩])
   (.seq
    (.reg false [⟨(some 7), .mv (.t 0), none, [], []⟩,
      ⟨(some 8), .call (.f 42) [(.t 7), (.c (.str [60])), (.c (.str [38, 108, 116, 59]))], none, [], []⟩,
      ⟨(some 0), .mv (.t 8), none, [], []⟩])
    (.seq
     (.reg false [⟨(some 9), .mv (.t 0), none, [], []⟩,
       ⟨(some 10), .call (.f 42) [(.t 9), (.c (.str [62])), (.c (.str [38, 103, 116, 59]))], none, [], []⟩,
       ⟨(some 0), .mv (.t 10), none, [], []⟩])
     (.seq
      (.seq
       (.reg false [⟨(some 11), .mv (.t 1), none, [], []⟩,
         ⟨(some 12), .un .not (.t 11), none, [], []⟩])
       (.cond (.t 12)
        (.seq
         (.reg false [⟨(some 13), .mv (.t 0), none, [], []⟩,
           ⟨(some 4), .mv (.t 13), none, [], []⟩])
         .ret)
        .skip))
      (.seq
       (.reg false [⟨(some 14), .mv (.t 0), none, [], []⟩,
         ⟨(some 15), .call (.f 42) [(.t 14), (.c (.str [34])), (.c (.str [38, 113, 117, 111, 116, 59]))], none, [], []⟩,
         ⟨(some 0), .mv (.t 15), none, [], []⟩])
       (.seq
        (.reg false [⟨(some 16), .mv (.t 0), none, [], []⟩,
          ⟨(some 17), .call (.f 42) [(.t 16), (.c (.str [9])), (.c (.str [38, 35, 57, 59]))], none, [], []⟩,
          ⟨(some 0), .mv (.t 17), none, [], []⟩])
        (.seq
         (.reg false [⟨(some 18), .mv (.t 0), none, [], []⟩,
           ⟨(some 19), .call (.f 42) [(.t 18), (.c (.str [10])), (.c (.str [38, 35, 49, 48, 59]))], none, [], []⟩,
           ⟨(some 0), .mv (.t 19), none, [], []⟩])
         (.seq
          (.reg false [⟨(some 20), .mv (.t 0), none, [], []⟩,
            ⟨(some 21), .call (.f 42) [(.t 20), (.c (.str [13])), (.c (.str [38, 35, 49, 51, 59]))], none, [], []⟩,
            ⟨(some 4), .mv (.t 21), none, [], []⟩])
          .ret)))))))))
def k23 : KBody := .code 22 [.tmp 4] true k23b
/-! (*strings.Builder).String -/
def k24b : K :=
 (.seq
  (.reg false [⟨(some 2), .mv (.c (.str [])), none, [], []⟩])
  (.seq
   (.reg true [⟨(some 3), .mv (.t 0), none, [], []⟩,
     ⟨(some 4), .nilchk (.t 3), none, [], []⟩,
     ⟨(some 5), .faddr 1 (.t 4), none, [], []⟩,
     ⟨(some 6), .load false 1 (.t 5), none, [0], []⟩,
     ⟨(some 7), .sdata (.t 6), none, [], []⟩,
     ⟨(some 8), .mv (.t 0), none, [], []⟩,
     ⟨(some 9), .nilchk (.t 8), none, [], []⟩,
     ⟨(some 10), .faddr 1 (.t 9), none, [], []⟩,
     ⟨(some 11), .load false 1 (.t 10), none, [0], []⟩,
     ⟨(some 12), .len .slc (.t 11), none, [0], []⟩,
     ⟨(some 13), .ustr 5 (.t 7) (.t 12), none, [], []⟩,
     ⟨(some 2), .mv (.t 13), none, [], []⟩])
   .ret))
def k24 : KBody := .code 14 [.tmp 2] true k24b
/-! sentry/xml.Parse$1 -/
def k25b : K :=
 (.reg false [⟨(some 2), .load false 1 (.t 0), none, [], []⟩,
   ⟨(some 3), .call (.f 26) [(.t 2), (.c (.int .i64 0))], none, [], []⟩,
   ⟨none, .store 4 (.t 1) (.t 3), none, [], []⟩])
def k25 : KBody := .code 4 [] true k25b
/-! (*sentry/xml.reader).element -/
def k26b : K :=
 (.seq
  (.reg false [⟨(some 4), .alloc 25 [.str [], .nils, .nils, .int .i64 0], none, [], []⟩])
  (.seq
   (.reg false [⟨(some 6), .mv (.t 0), none, [], []⟩,
     ⟨(some 7), .nilchk (.t 6), none, [], []⟩,
     ⟨(some 8), .faddr 1 (.t 7), none, [], []⟩,
     ⟨(some 9), .load false 1 (.t 8), none, [], []⟩,
     ⟨(some 10), .build [.str [], .nils, .nils, .int .i64 0] [(3, 1, (.t 9))], none, [], []⟩,
     ⟨(some 5), .alloc 25 [.str [], .nils, .nils, .int .i64 0], none, [], []⟩,
     ⟨none, .store 4 (.t 5) (.t 10), none, [], []⟩])
   (.seq
    (.seq
     (.reg false [⟨(some 11), .mv (.t 0), none, [], []⟩,
       ⟨(some 12), .call (.f 28) [(.t 11)], none, [], []⟩,
       ⟨(some 13), .call (.f 43) [(.t 12), (.c (.str [60]))], none, [], []⟩,
       ⟨(some 14), .un .not (.t 13), none, [], []⟩])
     (.cond (.t 14)
      (.seq
       (.reg false [⟨(some 15), .mv (.t 0), none, [], []⟩,
         ⟨(some 16), .mv (.t 0), none, [], []⟩,
         ⟨(some 17), .nilchk (.t 16), none, [], []⟩,
         ⟨(some 18), .faddr 1 (.t 17), none, [], []⟩,
         ⟨(some 19), .load false 1 (.t 18), none, [], []⟩,
         ⟨(some 20), .call (.f 29) [(.t 15), (.t 19), (.c (.int .i64 2))], none, [], []⟩])
       (.seq
        (.reg false [⟨(some 21), .load true 4 (.t 5), none, [], []⟩,
          ⟨none, .store 4 (.t 4) (.t 21), none, [], []⟩])
        .ret))
      .skip))
    (.seq
     (.reg false [⟨(some 22), .mv (.t 0), none, [], []⟩,
       ⟨(some 23), .nilchk (.t 22), none, [], []⟩,
       ⟨(some 24), .faddr 2 (.t 23), none, [], []⟩,
       ⟨(some 25), .load false 1 (.t 24), none, [], []⟩,
       ⟨(some 26), .bin .add .i (.t 25) (.c (.int .i64 1)), none, [], []⟩,
       ⟨(some 27), .nilchk (.t 22), none, [], []⟩,
       ⟨(some 28), .faddr 2 (.t 27), none, [], []⟩,
       ⟨none, .store 1 (.t 28) (.t 26), none, [], []⟩])
     (.seq
      (.seq
       (.reg false [⟨(some 29), .mv (.t 1), none, [], []⟩,
         ⟨(some 30), .bin .geq .i (.t 29) (.c (.int .i64 12)), none, [], []⟩,
         ⟨(some 31), .mv (.t 30), none, [], []⟩,
         ⟨(some 32), .mv (.t 0), (some (31, false)), [], []⟩,
         ⟨(some 33), .nilchk (.t 32), (some (31, false)), [], []⟩,
         ⟨(some 34), .faddr 2 (.t 33), (some (31, false)), [], []⟩,
         ⟨(some 35), .load false 1 (.t 34), (some (31, false)), [], []⟩,
         ⟨(some 36), .bin .gtr .i (.t 35) (.c (.int .i64 400)), (some (31, false)), [], []⟩,
         ⟨(some 37), .pick (.t 31) (.c (.bool true)) (.t 36), none, [], []⟩])
       (.cond (.t 37)
        (.seq
         (.reg false [⟨(some 38), .mv (.t 0), none, [], []⟩,
           ⟨(some 39), .mv (.t 0), none, [], []⟩,
           ⟨(some 40), .nilchk (.t 39), none, [], []⟩,
           ⟨(some 41), .faddr 1 (.t 40), none, [], []⟩,
           ⟨(some 42), .load false 1 (.t 41), none, [], []⟩,
           ⟨(some 43), .call (.f 29) [(.t 38), (.t 42), (.c (.int .i64 4))], none, [], []⟩])
         (.seq
          (.reg false [⟨(some 44), .load true 4 (.t 5), none, [], []⟩,
            ⟨none, .store 4 (.t 4) (.t 44), none, [], []⟩])
          .ret))
        .skip))
      (.seq
       (.reg false [⟨(some 45), .mv (.t 0), none, [], []⟩,
         ⟨(some 46), .nilchk (.t 45), none, [], []⟩,
         ⟨(some 47), .faddr 1 (.t 46), none, [], []⟩,
         ⟨(some 48), .load false 1 (.t 47), none, [], []⟩,
         ⟨(some 49), .bin .add .i (.t 48) (.c (.int .i64 1)), none, [], []⟩,
         ⟨(some 50), .nilchk (.t 45), none, [], []⟩,
         ⟨(some 51), .faddr 1 (.t 50), none, [], []⟩,
         ⟨none, .store 1 (.t 51) (.t 49), none, [], []⟩])
       (.seq
        (.reg false [⟨(some 52), .mv (.t 0), none, [], []⟩,
          ⟨(some 53), .call (.f 44) [(.t 52)], none, [], []⟩,
          ⟨(some 54), .faddr 0 (.t 5), none, [], []⟩,
          ⟨none, .store 1 (.t 54) (.t 53), none, [], []⟩])
        (.seq
         (.reg false [⟨(some 55), .mv (.t 0), none, [], []⟩,
           ⟨(some 56), .call (.f 45) [(.t 55)], none, [], []⟩,
           ⟨(some 57), .faddr 1 (.t 5), none, [], []⟩,
           ⟨none, .store 1 (.t 57) (.t 56), none, [], []⟩])
         (.seq
          (.seq
           (.reg false [⟨(some 58), .mv (.t 0), none, [], []⟩,
             ⟨(some 59), .call (.f 46) [(.t 58), (.c (.str [47, 62]))], none, [], []⟩])
           (.cond (.t 59)
            (.seq
             (.reg false [⟨(some 60), .load true 4 (.t 5), none, [], []⟩,
               ⟨none, .store 4 (.t 4) (.t 60), none, [], []⟩])
             .ret)
            .skip))
          (.seq
           (.reg false [⟨(some 61), .mv (.t 0), none, [], []⟩,
             ⟨(some 62), .call (.f 47) [(.t 61), (.c (.str [62]))], none, [], []⟩])
           (.seq
            (.reg false [⟨(some 63), .mv (.t 0), none, [], []⟩,
              ⟨(some 64), .faddr 0 (.t 5), none, [], []⟩,
              ⟨(some 65), .load false 1 (.t 64), none, [], []⟩,
              ⟨(some 66), .mv (.t 1), none, [], []⟩,
              ⟨(some 67), .bin .add .i (.t 66) (.c (.int .i64 1)), none, [], []⟩,
              ⟨(some 68), .call (.f 48) [(.t 63), (.t 65), (.t 67)], none, [], []⟩,
              ⟨(some 69), .faddr 2 (.t 5), none, [], []⟩,
              ⟨none, .store 1 (.t 69) (.t 68), none, [], []⟩])
            (.seq
             (.reg false [⟨(some 70), .load true 4 (.t 5), none, [], []⟩,
               ⟨none, .store 4 (.t 4) (.t 70), none, [], []⟩])
             .ret))))))))))))
def k26 : KBody := .code 71 [.cell 4 true 4] true k26b
/-! (*sentry/xml.reader).remarks -/
def k27l0b : K :=
 (.seq
  (.seq
   (.reg false [⟨(some 8), .mv (.t 0), none, [], []⟩,
     ⟨(some 9), .call (.f 49) [(.t 8)], none, [], []⟩,
     ⟨(some 10), .mv (.t 9), none, [], []⟩,
     ⟨(some 11), .mv (.t 0), (some (10, false)), [], []⟩,
     ⟨(some 12), .call (.f 28) [(.t 11)], (some (10, false)), [], []⟩,
     ⟨(some 13), .call (.f 43) [(.t 12), (.c (.str [60, 33, 45, 45]))], (some (10, false)), [], []⟩,
     ⟨(some 14), .pick (.t 10) (.c (.bool true)) (.t 13), none, [], []⟩])
   (.cond (.t 14)
    .skip
    (.exit 0)))
  (.block 1
   (.seq
    (.reg false [⟨(some 15), .mv (.t 0), none, [], []⟩,
      ⟨(some 16), .nilchk (.t 15), none, [], []⟩,
      ⟨(some 17), .faddr 1 (.t 16), none, [], []⟩,
      ⟨(some 18), .load false 1 (.t 17), none, [], []⟩,
      ⟨(some 2), .mv (.t 18), none, [], []⟩])
    (.seq
     (.seq
      (.reg false [⟨(some 19), .mv (.t 0), none, [], []⟩,
        ⟨(some 20), .call (.f 46) [(.t 19), (.c (.str [60, 33, 45, 45]))], none, [], []⟩,
        ⟨(some 21), .un .not (.t 20), none, [], []⟩])
      (.cond (.t 21)
       (.exit 1)
       .skip))
     (.seq
      (.reg false [⟨(some 23), .mv (.t 0), none, [], []⟩,
        ⟨(some 24), .call (.f 28) [(.t 23)], none, [], []⟩,
        ⟨(some 25), .call (.f 50) [(.t 24), (.c (.str [45, 45]))], none, [], []⟩,
        ⟨(some 22), .mv (.t 25), none, [], []⟩,
        ⟨(some 26), .extract (.t 22) 0, none, [], []⟩,
        ⟨(some 27), .extract (.t 22) 1, none, [], []⟩,
        ⟨(some 28), .extract (.t 22) 2, none, [], []⟩,
        ⟨(some 3), .mv (.t 26), none, [], []⟩,
        ⟨(some 4), .mv (.t 27), none, [], []⟩,
        ⟨(some 5), .mv (.t 28), none, [], []⟩])
      (.seq
       (.seq
        (.reg false [⟨(some 30), .mv (.t 3), none, [], []⟩,
          ⟨(some 31), .call (.f 42) [(.t 30), (.c (.str [38])), (.c (.str []))], none, [], []⟩,
          ⟨(some 32), .call (.f 51) [(.t 31)], none, [], []⟩,
          ⟨(some 29), .mv (.t 32), none, [], []⟩,
          ⟨(some 33), .extract (.t 29) 0, none, [], []⟩,
          ⟨(some 34), .extract (.t 29) 1, none, [], []⟩,
          ⟨(some 6), .mv (.t 33), none, [], []⟩,
          ⟨(some 7), .mv (.t 34), none, [], []⟩])
        (.seq
         (.reg false [⟨(some 35), .mv (.t 5), none, [], []⟩,
           ⟨(some 36), .un .not (.t 35), none, [], []⟩,
           ⟨(some 37), .mv (.t 36), none, [], []⟩,
           ⟨(some 38), .mv (.t 7), (some (37, false)), [], []⟩,
           ⟨(some 39), .un .not (.t 38), (some (37, false)), [], []⟩,
           ⟨(some 40), .pick (.t 37) (.c (.bool true)) (.t 39), none, [], []⟩])
         (.cond (.t 40)
          (.seq
           (.reg false [⟨(some 41), .mv (.t 0), none, [], []⟩,
             ⟨(some 42), .mv (.t 2), none, [], []⟩,
             ⟨(some 43), .call (.f 29) [(.t 41), (.t 42), (.c (.int .i64 2))], none, [], []⟩])
           .ret)
          .skip)))
       (.seq
        (.reg false [⟨(some 44), .mv (.t 0), none, [], []⟩,
          ⟨(some 45), .nilchk (.t 44), none, [], []⟩,
          ⟨(some 46), .faddr 1 (.t 45), none, [], []⟩,
          ⟨(some 47), .load false 1 (.t 46), none, [], []⟩,
          ⟨(some 48), .mv (.t 3), none, [], []⟩,
          ⟨(some 49), .len .str (.t 48), none, [], []⟩,
          ⟨(some 50), .bin .add .i (.t 47) (.t 49), none, [], []⟩,
          ⟨(some 51), .nilchk (.t 44), none, [], []⟩,
          ⟨(some 52), .faddr 1 (.t 51), none, [], []⟩,
          ⟨none, .store 1 (.t 52) (.t 50), none, [], []⟩])
        (.seq
         (.reg false [⟨(some 53), .mv (.t 0), none, [], []⟩,
           ⟨(some 54), .call (.f 46) [(.t 53), (.c (.str [45, 45, 62]))], none, [], []⟩,
           ⟨(some 55), .un .not (.t 54), none, [], []⟩])
         (.cond (.t 55)
          (.reg false [⟨(some 56), .mv (.t 0), none, [], []⟩,
            ⟨(some 57), .mv (.t 2), none, [], []⟩,
            ⟨(some 58), .call (.f 29) [(.t 56), (.t 57), (.c (.int .i64 2))], none, [], []⟩])
          .skip)))))))))
def k27l0 : K := .loop k27l0b
def k27b : K :=
 (.block 0
  k27l0)
def k27 : KBody := .code 59 [] true k27b
/-! (*sentry/xml.reader).rest -/
def k28b : K :=
 (.seq
  (.reg false [⟨(some 2), .mv (.c (.str [])), none, [], []⟩])
  (.seq
   (.seq
    (.reg false [⟨(some 3), .mv (.t 0), none, [], []⟩,
      ⟨(some 4), .nilchk (.t 3), none, [], []⟩,
      ⟨(some 5), .faddr 3 (.t 4), none, [], []⟩,
      ⟨(some 6), .load false 1 (.t 5), none, [], []⟩,
      ⟨(some 7), .bin .neq .i (.t 6) (.c (.int .i64 0)), none, [], []⟩])
    (.cond (.t 7)
     (.seq
      (.reg false [⟨(some 2), .mv (.c (.str [])), none, [], []⟩])
      .ret)
     .skip))
   (.seq
    (.reg false [⟨(some 8), .mv (.t 0), none, [], []⟩,
      ⟨(some 9), .nilchk (.t 8), none, [], []⟩,
      ⟨(some 10), .faddr 0 (.t 9), none, [], []⟩,
      ⟨(some 11), .load false 1 (.t 10), none, [0], []⟩,
      ⟨(some 12), .mv (.t 0), none, [], []⟩,
      ⟨(some 13), .nilchk (.t 12), none, [], []⟩,
      ⟨(some 14), .faddr 1 (.t 13), none, [], []⟩,
      ⟨(some 15), .load false 1 (.t 14), none, [0], []⟩,
      ⟨(some 16), .slice .str (.t 11) (some (.t 15)) none none, none, [0], []⟩,
      ⟨(some 2), .mv (.t 16), none, [], []⟩])
    .ret)))
def k28 : KBody := .code 17 [.tmp 2] true k28b
/-! (*sentry/xml.reader).fails -/
def k29b : K :=
 (.seq
  (.reg false [⟨(some 6), .mv (.t 0), none, [], []⟩,
    ⟨(some 7), .nilchk (.t 6), none, [], []⟩,
    ⟨(some 8), .faddr 3 (.t 7), none, [], []⟩,
    ⟨(some 9), .load false 1 (.t 8), none, [], []⟩,
    ⟨(some 10), .bin .eql .i (.t 9) (.c (.int .i64 0)), none, [], []⟩])
  (.cond (.t 10)
   (.reg false [⟨(some 11), .mv (.t 0), none, [], []⟩,
     ⟨(some 12), .mv (.t 0), none, [], []⟩,
     ⟨(some 13), .mv (.t 2), none, [], []⟩,
     ⟨(some 14), .mv (.t 1), none, [], []⟩,
     ⟨(some 15), .nilchk (.t 11), none, [], []⟩,
     ⟨(some 16), .faddr 3 (.t 15), none, [], []⟩,
     ⟨none, .store 1 (.t 16) (.t 13), none, [], []⟩,
     ⟨(some 17), .nilchk (.t 12), none, [], []⟩,
     ⟨(some 18), .faddr 4 (.t 17), none, [], []⟩,
     ⟨none, .store 1 (.t 18) (.t 14), none, [], []⟩])
   .skip))
def k29 : KBody := .code 19 [] true k29b
/-! sentry/sentryref1.Char -/
def k36b : K :=
 (.seq
  (.reg false [⟨(some 2), .mv (.c (.bool false)), none, [], []⟩])
  (.seq
   (.reg false [⟨(some 3), .mv (.t 0), none, [], []⟩,
     ⟨(some 4), .bin .eql .i (.t 3) (.c (.int .i32 9)), none, [], []⟩,
     ⟨(some 5), .mv (.t 4), none, [], []⟩,
     ⟨(some 6), .mv (.t 0), (some (5, false)), [], []⟩,
     ⟨(some 7), .bin .eql .i (.t 6) (.c (.int .i32 10)), (some (5, false)), [], []⟩,
     ⟨(some 8), .pick (.t 5) (.c (.bool true)) (.t 7), none, [], []⟩,
     ⟨(some 9), .mv (.t 8), none, [], []⟩,
     ⟨(some 10), .mv (.t 0), (some (9, false)), [], []⟩,
     ⟨(some 11), .bin .eql .i (.t 10) (.c (.int .i32 13)), (some (9, false)), [], []⟩,
     ⟨(some 12), .pick (.t 9) (.c (.bool true)) (.t 11), none, [], []⟩,
     ⟨(some 13), .mv (.t 12), none, [], []⟩,
     ⟨(some 14), .mv (.t 0), (some (13, false)), [], []⟩,
     ⟨(some 15), .bin .geq .i (.t 14) (.c (.int .i32 32)), (some (13, false)), [], []⟩,
     ⟨(some 16), .mv (.t 15), (some (13, false)), [], []⟩,
     ⟨(some 17), .mv (.t 0), (some (16, true)), [], []⟩,
     ⟨(some 18), .bin .leq .i (.t 17) (.c (.int .i32 55295)), (some (16, true)), [], []⟩,
     ⟨(some 19), .pick (.t 16) (.t 18) (.c (.bool false)), (some (13, false)), [], []⟩,
     ⟨(some 20), .pick (.t 13) (.c (.bool true)) (.t 19), none, [], []⟩,
     ⟨(some 21), .mv (.t 20), none, [], []⟩,
     ⟨(some 22), .mv (.t 0), (some (21, false)), [], []⟩,
     ⟨(some 23), .bin .geq .i (.t 22) (.c (.int .i32 57344)), (some (21, false)), [], []⟩,
     ⟨(some 24), .mv (.t 23), (some (21, false)), [], []⟩,
     ⟨(some 25), .mv (.t 0), (some (24, true)), [], []⟩,
     ⟨(some 26), .bin .leq .i (.t 25) (.c (.int .i32 65533)), (some (24, true)), [], []⟩,
     ⟨(some 27), .pick (.t 24) (.t 26) (.c (.bool false)), (some (21, false)), [], []⟩,
     ⟨(some 28), .pick (.t 21) (.c (.bool true)) (.t 27), none, [], []⟩,
     ⟨(some 29), .mv (.t 28), none, [], []⟩,
     ⟨(some 30), .mv (.t 0), (some (29, false)), [], []⟩,
     ⟨(some 31), .bin .geq .i (.t 30) (.c (.int .i32 65536)), (some (29, false)), [], []⟩,
     ⟨(some 32), .mv (.t 31), (some (29, false)), [], []⟩,
     ⟨(some 33), .mv (.t 0), (some (32, true)), [], []⟩,
     ⟨(some 34), .bin .leq .i (.t 33) (.c (.int .i32 1114111)), (some (32, true)), [], []⟩,
     ⟨(some 35), .pick (.t 32) (.t 34) (.c (.bool false)), (some (29, false)), [], []⟩,
     ⟨(some 36), .pick (.t 29) (.c (.bool true)) (.t 35), none, [], []⟩,
     ⟨(some 2), .mv (.t 36), none, [], []⟩])
   .ret))
def k36 : KBody := .code 37 [.tmp 2] true k36b
/-! sentry/sentryref1.Is -/
def k40l0b : K :=
 (.seq
  (.seq
   (.reg false [⟨(some 18), .mv (.t 3), none, [], []⟩,
     ⟨(some 19), .mv (.t 0), none, [], []⟩,
     ⟨(some 20), .len .str (.t 19), none, [], []⟩,
     ⟨(some 21), .bin .lss .i (.t 18) (.t 20), none, [], []⟩])
   (.cond (.t 21)
    .skip
    (.exit 0)))
  (.seq
   (.block 1
    (.seq
     (.reg false [⟨(some 24), .mv (.t 0), none, [], []⟩,
       ⟨(some 25), .mv (.t 3), none, [], []⟩,
       ⟨(some 26), .ixs (.t 24) (.t 25), none, [], []⟩,
       ⟨(some 27), .call (.f 60) [(.t 26)], none, [], []⟩,
       ⟨(some 28), .un .not (.t 27), none, [], []⟩])
     (.cond (.t 28)
      (.seq
       (.reg false [⟨(some 2), .mv (.c (.bool false)), none, [], []⟩])
       .ret)
      .skip)))
   (.reg false [⟨(some 22), .mv (.t 3), none, [], []⟩,
     ⟨(some 23), .bin .add .i (.t 22) (.c (.int .i64 1)), none, [], []⟩,
     ⟨(some 3), .mv (.t 23), none, [], []⟩])))
def k40l0 : K := .loop k40l0b
def k40b : K :=
 (.seq
  (.reg false [⟨(some 2), .mv (.c (.bool false)), none, [], []⟩])
  (.seq
   (.seq
    (.reg false [⟨(some 4), .mv (.t 0), none, [], []⟩,
      ⟨(some 5), .len .str (.t 4), none, [], []⟩,
      ⟨(some 6), .bin .lss .i (.t 5) (.c (.int .i64 1)), none, [], []⟩,
      ⟨(some 7), .mv (.t 6), none, [], []⟩,
      ⟨(some 8), .mv (.t 0), (some (7, false)), [], []⟩,
      ⟨(some 9), .len .str (.t 8), (some (7, false)), [], []⟩,
      ⟨(some 10), .bin .gtr .i (.t 9) (.c (.int .i64 12)), (some (7, false)), [], []⟩,
      ⟨(some 11), .pick (.t 7) (.c (.bool true)) (.t 10), none, [], []⟩,
      ⟨(some 12), .mv (.t 11), none, [], []⟩,
      ⟨(some 13), .mv (.t 0), (some (12, false)), [], []⟩,
      ⟨(some 14), .ixs (.t 13) (.c (.int .i64 0)), (some (12, false)), [], []⟩,
      ⟨(some 15), .call (.f 59) [(.t 14)], (some (12, false)), [], []⟩,
      ⟨(some 16), .un .not (.t 15), (some (12, false)), [], []⟩,
      ⟨(some 17), .pick (.t 12) (.c (.bool true)) (.t 16), none, [], []⟩])
    (.cond (.t 17)
     (.seq
      (.reg false [⟨(some 2), .mv (.c (.bool false)), none, [], []⟩])
      .ret)
     .skip))
   (.seq
    (.seq
     (.reg false [⟨(some 3), .mv (.c (.int .i64 0)), none, [], []⟩])
     (.block 0
      k40l0))
    (.seq
     (.reg false [⟨(some 2), .mv (.c (.bool true)), none, [], []⟩])
     .ret))))
def k40 : KBody := .code 29 [.tmp 2] true k40b
/-! (*strings.Builder).copyCheck -/
def k41b : K :=
 (.seq
  (.reg false [⟨(some 2), .mv (.t 0), none, [], []⟩,
    ⟨(some 3), .nilchk (.t 2), none, [], []⟩,
    ⟨(some 4), .faddr 0 (.t 3), none, [], []⟩,
    ⟨(some 5), .load false 1 (.t 4), none, [], []⟩,
    ⟨(some 6), .bin .eql .p (.t 5) (.c (.nilp)), none, [], []⟩])
  (.cond (.t 6)
   (.reg false [⟨(some 7), .mv (.t 0), none, [], []⟩,
     ⟨(some 8), .mv (.t 0), none, [], []⟩,
     ⟨(some 9), .uto (.t 8), none, [], []⟩,
     ⟨(some 10), .call (.f 61) [(.t 9)], none, [], []⟩,
     ⟨(some 11), .ufrom 47 2 (.t 10), none, [], []⟩,
     ⟨(some 12), .nilchk (.t 7), none, [], []⟩,
     ⟨(some 13), .faddr 0 (.t 12), none, [], []⟩,
     ⟨none, .store 1 (.t 13) (.t 11), none, [], []⟩])
   (.seq
    (.reg false [⟨(some 14), .mv (.t 0), none, [], []⟩,
      ⟨(some 15), .nilchk (.t 14), none, [], []⟩,
      ⟨(some 16), .faddr 0 (.t 15), none, [], []⟩,
      ⟨(some 17), .load false 1 (.t 16), none, [], []⟩,
      ⟨(some 18), .mv (.t 0), none, [], []⟩,
      ⟨(some 19), .bin .neq .p (.t 17) (.t 18), none, [], []⟩])
    (.cond (.t 19)
     .no
     .skip))))
def k41 : KBody := .code 20 [] true k41b
/-! strings.HasPrefix -/
def k43b : K :=
 (.seq
  (.reg false [⟨(some 4), .mv (.c (.bool false)), none, [], []⟩])
  (.seq
   (.reg false [⟨(some 5), .mv (.t 0), none, [], []⟩,
     ⟨(some 6), .mv (.t 1), none, [], []⟩,
     ⟨(some 7), .call (.f 63) [(.t 5), (.t 6)], none, [], []⟩,
     ⟨(some 4), .mv (.t 7), none, [], []⟩])
   .ret))
def k43 : KBody := .code 8 [.tmp 4] true k43b
/-! (*sentry/xml.reader).qual -/
def k44b : K :=
 (.seq
  (.reg false [⟨(some 2), .mv (.c (.str [])), none, [], []⟩])
  (.seq
   (.reg false [⟨(some 5), .mv (.t 0), none, [], []⟩,
     ⟨(some 6), .call (.f 28) [(.t 5)], none, [], []⟩,
     ⟨(some 3), .mv (.t 6), none, [], []⟩])
   (.seq
    (.reg false [⟨(some 7), .mv (.t 3), none, [], []⟩,
      ⟨(some 8), .mv (.t 3), none, [], []⟩,
      ⟨(some 9), .len .str (.t 8), none, [], []⟩,
      ⟨(some 10), .mv (.t 3), none, [], []⟩,
      ⟨(some 11), .call (.f 64) [(.t 10), (.f 65)], none, [], []⟩,
      ⟨(some 12), .len .str (.t 11), none, [], []⟩,
      ⟨(some 13), .bin .sub .i (.t 9) (.t 12), none, [], []⟩,
      ⟨(some 14), .slice .str (.t 7) none (some (.t 13)) none, none, [], []⟩,
      ⟨(some 4), .mv (.t 14), none, [], []⟩])
    (.seq
     (.seq
      (.reg false [⟨(some 15), .mv (.t 4), none, [], []⟩,
        ⟨(some 16), .call (.f 66) [(.t 15)], none, [], []⟩,
        ⟨(some 17), .un .not (.t 16), none, [], []⟩])
      (.cond (.t 17)
       (.reg false [⟨(some 18), .mv (.t 0), none, [], []⟩,
         ⟨(some 19), .mv (.t 0), none, [], []⟩,
         ⟨(some 20), .nilchk (.t 19), none, [], []⟩,
         ⟨(some 21), .faddr 1 (.t 20), none, [], []⟩,
         ⟨(some 22), .load false 1 (.t 21), none, [], []⟩,
         ⟨(some 23), .call (.f 29) [(.t 18), (.t 22), (.c (.int .i64 2))], none, [], []⟩])
       .skip))
     (.seq
      (.reg false [⟨(some 24), .mv (.t 0), none, [], []⟩,
        ⟨(some 25), .nilchk (.t 24), none, [], []⟩,
        ⟨(some 26), .faddr 1 (.t 25), none, [], []⟩,
        ⟨(some 27), .load false 1 (.t 26), none, [], []⟩,
        ⟨(some 28), .mv (.t 4), none, [], []⟩,
        ⟨(some 29), .len .str (.t 28), none, [], []⟩,
        ⟨(some 30), .bin .add .i (.t 27) (.t 29), none, [], []⟩,
        ⟨(some 31), .nilchk (.t 24), none, [], []⟩,
        ⟨(some 32), .faddr 1 (.t 31), none, [], []⟩,
        ⟨none, .store 1 (.t 32) (.t 30), none, [], []⟩])
      (.seq
       (.reg false [⟨(some 33), .mv (.t 4), none, [], []⟩,
         ⟨(some 2), .mv (.t 33), none, [], []⟩])
       .ret))))))
def k44 : KBody := .code 34 [.tmp 2] true k44b
/-! (*sentry/xml.reader).attrs -/
def k45l0b : K :=
 (.seq
  (.seq
   (.reg false [⟨(some 7), .mv (.t 0), none, [], []⟩,
     ⟨(some 8), .call (.f 49) [(.t 7)], none, [], []⟩])
   (.cond (.t 8)
    .skip
    (.exit 0)))
  (.block 1
   (.seq
    (.reg false [⟨(some 9), .mv (.t 0), none, [], []⟩,
      ⟨(some 10), .call (.f 28) [(.t 9)], none, [], []⟩,
      ⟨(some 4), .mv (.t 10), none, [], []⟩])
    (.seq
     (.seq
      (.reg false [⟨(some 11), .mv (.t 4), none, [], []⟩,
        ⟨(some 12), .bin .eql .s (.t 11) (.c (.str [])), none, [], []⟩,
        ⟨(some 13), .mv (.t 12), none, [], []⟩,
        ⟨(some 14), .mv (.t 4), (some (13, false)), [], []⟩,
        ⟨(some 15), .ixs (.t 14) (.c (.int .i64 0)), (some (13, false)), [], []⟩,
        ⟨(some 16), .bin .eql .i (.t 15) (.c (.int .u8 47)), (some (13, false)), [], []⟩,
        ⟨(some 17), .pick (.t 13) (.c (.bool true)) (.t 16), none, [], []⟩,
        ⟨(some 18), .mv (.t 17), none, [], []⟩,
        ⟨(some 19), .mv (.t 4), (some (18, false)), [], []⟩,
        ⟨(some 20), .ixs (.t 19) (.c (.int .i64 0)), (some (18, false)), [], []⟩,
        ⟨(some 21), .bin .eql .i (.t 20) (.c (.int .u8 62)), (some (18, false)), [], []⟩,
        ⟨(some 22), .pick (.t 18) (.c (.bool true)) (.t 21), none, [], []⟩])
      (.cond (.t 22)
       (.exit 0)
       .skip))
     (.seq
      (.seq
       (.reg false [⟨(some 23), .mv (.t 3), none, [], []⟩,
         ⟨(some 24), .len .slc (.t 23), none, [], []⟩,
         ⟨(some 25), .bin .geq .i (.t 24) (.c (.int .i64 8)), none, [], []⟩])
       (.cond (.t 25)
        (.seq
         (.reg false [⟨(some 26), .mv (.t 0), none, [], []⟩,
           ⟨(some 27), .mv (.t 0), none, [], []⟩,
           ⟨(some 28), .nilchk (.t 27), none, [], []⟩,
           ⟨(some 29), .faddr 1 (.t 28), none, [], []⟩,
           ⟨(some 30), .load false 1 (.t 29), none, [], []⟩,
           ⟨(some 31), .call (.f 29) [(.t 26), (.t 30), (.c (.int .i64 4))], none, [], []⟩])
         (.exit 0))
        .skip))
      (.seq
       (.reg false [⟨(some 32), .mv (.t 0), none, [], []⟩,
         ⟨(some 33), .nilchk (.t 32), none, [], []⟩,
         ⟨(some 34), .faddr 1 (.t 33), none, [], []⟩,
         ⟨(some 35), .load false 1 (.t 34), none, [], []⟩,
         ⟨(some 5), .mv (.t 35), none, [], []⟩])
       (.seq
        (.reg false [⟨(some 36), .mv (.t 0), none, [], []⟩,
          ⟨(some 37), .call (.f 44) [(.t 36)], none, [], []⟩,
          ⟨(some 6), .alloc 9 [.str []], none, [], []⟩,
          ⟨none, .store 1 (.t 6) (.t 37), none, [], []⟩])
        (.seq
         (.seq
          (.reg false [⟨(some 38), .mv (.t 3), none, [], []⟩,
            ⟨(some 39), .mkfn (.func 68) [] [(.t 6)], none, [], []⟩,
            ⟨(some 40), .call (.f 67) [(.t 38), (.t 39)], none, [], []⟩])
          (.cond (.t 40)
           (.reg false [⟨(some 41), .mv (.t 0), none, [], []⟩,
             ⟨(some 42), .mv (.t 5), none, [], []⟩,
             ⟨(some 43), .call (.f 29) [(.t 41), (.t 42), (.c (.int .i64 2))], none, [], []⟩])
           .skip))
         (.seq
          (.reg false [⟨(some 44), .mv (.t 0), none, [], []⟩,
            ⟨(some 45), .call (.f 47) [(.t 44), (.c (.str [61]))], none, [], []⟩])
          (.reg true [⟨(some 46), .mv (.t 3), none, [], [3]⟩,
            ⟨(some 47), .load false 1 (.t 6), none, [0, 1], []⟩,
            ⟨(some 48), .mv (.t 0), none, [], []⟩,
            ⟨(some 49), .call (.f 69) [(.t 48)], none, [], []⟩,
            ⟨(some 50), .build [.str [], .str []] [(0, 1, (.t 47)), (1, 1, (.t 49))], none, [], []⟩,
            ⟨(some 51), .bslice 41 2 1 [.str [], .str []] [(0, 2, (.t 50))], none, [], []⟩,
            ⟨(some 52), .append 41 2 32 [.str [], .str []] false (.t 46) (.t 51), none, [], []⟩,
            ⟨(some 3), .mv (.t 52), none, [], []⟩]))))))))))
def k45l0 : K := .loop k45l0b
def k45b : K :=
 (.seq
  (.reg false [⟨(some 2), .mv (.c (.nils)), none, [], []⟩])
  (.seq
   (.reg false [⟨(some 3), .mv (.c (.nils)), none, [], []⟩])
   (.seq
    (.block 0
     k45l0)
    (.seq
     (.reg false [⟨(some 53), .mv (.t 3), none, [], []⟩,
       ⟨(some 2), .mv (.t 53), none, [], []⟩])
     .ret))))
def k45 : KBody := .code 54 [.tmp 2] true k45b
/-! (*sentry/xml.reader).is -/
def k46b : K :=
 (.seq
  (.reg false [⟨(some 4), .mv (.c (.bool false)), none, [], []⟩])
  (.seq
   (.seq
    (.reg false [⟨(some 5), .mv (.t 0), none, [], []⟩,
      ⟨(some 6), .call (.f 28) [(.t 5)], none, [], []⟩,
      ⟨(some 7), .mv (.t 1), none, [], []⟩,
      ⟨(some 8), .call (.f 43) [(.t 6), (.t 7)], none, [], []⟩,
      ⟨(some 9), .un .not (.t 8), none, [], []⟩])
    (.cond (.t 9)
     (.seq
      (.reg false [⟨(some 4), .mv (.c (.bool false)), none, [], []⟩])
      .ret)
     .skip))
   (.seq
    (.reg false [⟨(some 10), .mv (.t 0), none, [], []⟩,
      ⟨(some 11), .nilchk (.t 10), none, [], []⟩,
      ⟨(some 12), .faddr 1 (.t 11), none, [], []⟩,
      ⟨(some 13), .load false 1 (.t 12), none, [], []⟩,
      ⟨(some 14), .mv (.t 1), none, [], []⟩,
      ⟨(some 15), .len .str (.t 14), none, [], []⟩,
      ⟨(some 16), .bin .add .i (.t 13) (.t 15), none, [], []⟩,
      ⟨(some 17), .nilchk (.t 10), none, [], []⟩,
      ⟨(some 18), .faddr 1 (.t 17), none, [], []⟩,
      ⟨none, .store 1 (.t 18) (.t 16), none, [], []⟩])
    (.seq
     (.reg false [⟨(some 4), .mv (.c (.bool true)), none, [], []⟩])
     .ret))))
def k46 : KBody := .code 19 [.tmp 4] true k46b
/-! (*sentry/xml.reader).must -/
def k47b : K :=
 (.seq
  (.reg false [⟨(some 4), .mv (.t 0), none, [], []⟩,
    ⟨(some 5), .mv (.t 1), none, [], []⟩,
    ⟨(some 6), .call (.f 46) [(.t 4), (.t 5)], none, [], []⟩,
    ⟨(some 7), .un .not (.t 6), none, [], []⟩])
  (.cond (.t 7)
   (.reg false [⟨(some 8), .mv (.t 0), none, [], []⟩,
     ⟨(some 9), .mv (.t 0), none, [], []⟩,
     ⟨(some 10), .nilchk (.t 9), none, [], []⟩,
     ⟨(some 11), .faddr 1 (.t 10), none, [], []⟩,
     ⟨(some 12), .load false 1 (.t 11), none, [], []⟩,
     ⟨(some 13), .call (.f 29) [(.t 8), (.t 12), (.c (.int .i64 2))], none, [], []⟩])
   .skip))
def k47 : KBody := .code 14 [] true k47b
/-! (*sentry/xml.reader).blanks -/
def k49b : K :=
 (.seq
  (.reg false [⟨(some 2), .mv (.c (.bool false)), none, [], []⟩])
  (.seq
   (.reg false [⟨(some 5), .mv (.t 0), none, [], []⟩,
     ⟨(some 6), .call (.f 28) [(.t 5)], none, [], []⟩,
     ⟨(some 3), .mv (.t 6), none, [], []⟩])
   (.seq
    (.reg false [⟨(some 7), .mv (.t 3), none, [], []⟩,
      ⟨(some 8), .len .str (.t 7), none, [], []⟩,
      ⟨(some 9), .mv (.t 3), none, [], []⟩,
      ⟨(some 10), .call (.f 70) [(.t 9), (.c (.str [32, 9, 13, 10]))], none, [], []⟩,
      ⟨(some 11), .len .str (.t 10), none, [], []⟩,
      ⟨(some 12), .bin .sub .i (.t 8) (.t 11), none, [], []⟩,
      ⟨(some 4), .mv (.t 12), none, [], []⟩])
    (.seq
     (.reg false [⟨(some 13), .mv (.t 0), none, [], []⟩,
       ⟨(some 14), .nilchk (.t 13), none, [], []⟩,
       ⟨(some 15), .faddr 1 (.t 14), none, [], []⟩,
       ⟨(some 16), .load false 1 (.t 15), none, [], []⟩,
       ⟨(some 17), .mv (.t 4), none, [], []⟩,
       ⟨(some 18), .bin .add .i (.t 16) (.t 17), none, [], []⟩,
       ⟨(some 19), .nilchk (.t 13), none, [], []⟩,
       ⟨(some 20), .faddr 1 (.t 19), none, [], []⟩,
       ⟨none, .store 1 (.t 20) (.t 18), none, [], []⟩])
     (.seq
      (.reg false [⟨(some 21), .mv (.t 4), none, [], []⟩,
        ⟨(some 22), .bin .gtr .i (.t 21) (.c (.int .i64 0)), none, [], []⟩,
        ⟨(some 2), .mv (.t 22), none, [], []⟩])
      .ret)))))
def k49 : KBody := .code 23 [.tmp 2] true k49b
/-! strings.Cut -/
def k50b : K :=
 (.seq
  (.reg false [⟨(some 4), .mv (.c (.str [])), none, [], []⟩,
    ⟨(some 5), .mv (.c (.str [])), none, [], []⟩,
    ⟨(some 6), .mv (.c (.bool false)), none, [], []⟩])
  (.seq
   (.reg false [⟨(some 7), .mv (.t 0), none, [], []⟩,
     ⟨(some 8), .mv (.t 1), none, [], []⟩,
     ⟨(some 9), .call (.f 71) [(.t 7), (.t 8)], none, [], []⟩,
     ⟨(some 10), .extract (.t 9) 0, none, [], []⟩,
     ⟨(some 11), .extract (.t 9) 1, none, [], []⟩,
     ⟨(some 12), .extract (.t 9) 2, none, [], []⟩,
     ⟨(some 4), .mv (.t 10), none, [], []⟩,
     ⟨(some 5), .mv (.t 11), none, [], []⟩,
     ⟨(some 6), .mv (.t 12), none, [], []⟩])
   .ret))
def k50 : KBody := .code 13 [.tmp 4, .tmp 5, .tmp 6] true k50b
/-! sentry/name.Unescape -/
def k51l0b : K :=
 (.block 1
  (.seq
   (.reg false [⟨(some 17), .mv (.t 0), none, [], []⟩,
     ⟨(some 18), .call (.f 50) [(.t 17), (.c (.str [38]))], none, [], []⟩,
     ⟨(some 16), .mv (.t 18), none, [], []⟩,
     ⟨(some 19), .extract (.t 16) 0, none, [], []⟩,
     ⟨(some 20), .extract (.t 16) 1, none, [], []⟩,
     ⟨(some 21), .extract (.t 16) 2, none, [], []⟩,
     ⟨(some 5), .mv (.t 19), none, [], []⟩,
     ⟨(some 6), .mv (.t 20), none, [], []⟩,
     ⟨(some 7), .mv (.t 21), none, [], []⟩])
   (.seq
    (.reg false [⟨(some 22), .mv (.t 5), none, [], []⟩,
      ⟨(some 23), .call (.f 22) [(.t 4), (.t 22)], none, [], []⟩])
    (.seq
     (.seq
      (.reg false [⟨(some 24), .mv (.t 7), none, [], []⟩,
        ⟨(some 25), .un .not (.t 24), none, [], []⟩])
      (.cond (.t 25)
       (.seq
        (.reg false [⟨(some 26), .call (.f 24) [(.t 4)], none, [], []⟩,
          ⟨(some 2), .mv (.t 26), none, [], []⟩,
          ⟨(some 3), .mv (.c (.bool true)), none, [], []⟩])
        .ret)
       .skip))
     (.seq
      (.reg false [⟨(some 28), .mv (.t 6), none, [], []⟩,
        ⟨(some 29), .call (.f 50) [(.t 28), (.c (.str [59]))], none, [], []⟩,
        ⟨(some 27), .mv (.t 29), none, [], []⟩,
        ⟨(some 30), .extract (.t 27) 0, none, [], []⟩,
        ⟨(some 31), .extract (.t 27) 1, none, [], []⟩,
        ⟨(some 32), .extract (.t 27) 2, none, [], []⟩,
        ⟨(some 8), .mv (.t 30), none, [], []⟩,
        ⟨(some 9), .mv (.t 31), none, [], []⟩,
        ⟨(some 10), .mv (.t 32), none, [], []⟩])
      (.seq
       (.reg false [⟨(some 34), .mv (.t 8), none, [], []⟩,
         ⟨(some 35), .call (.f 73) [(.t 34)], none, [], []⟩,
         ⟨(some 33), .mv (.t 35), none, [], []⟩,
         ⟨(some 36), .extract (.t 33) 0, none, [], []⟩,
         ⟨(some 37), .extract (.t 33) 1, none, [], []⟩,
         ⟨(some 11), .mv (.t 36), none, [], []⟩,
         ⟨(some 12), .mv (.t 37), none, [], []⟩])
       (.seq
        (.seq
         (.reg false [⟨(some 38), .mv (.t 10), none, [], []⟩,
           ⟨(some 39), .un .not (.t 38), none, [], []⟩,
           ⟨(some 40), .mv (.t 39), none, [], []⟩,
           ⟨(some 41), .mv (.t 12), (some (40, false)), [], []⟩,
           ⟨(some 42), .un .not (.t 41), (some (40, false)), [], []⟩,
           ⟨(some 43), .pick (.t 40) (.c (.bool true)) (.t 42), none, [], []⟩])
         (.cond (.t 43)
          (.seq
           (.reg false [⟨(some 2), .mv (.c (.str [])), none, [], []⟩,
             ⟨(some 3), .mv (.c (.bool false)), none, [], []⟩])
           .ret)
          .skip))
        (.seq
         (.reg false [⟨(some 44), .mv (.t 11), none, [], []⟩,
           ⟨(some 45), .call (.f 22) [(.t 4), (.t 44)], none, [], []⟩])
         (.reg false [⟨(some 46), .mv (.t 9), none, [], []⟩,
           ⟨(some 0), .mv (.t 46), none, [], []⟩])))))))))
def k51l0 : K := .loop k51l0b
def k51b : K :=
 (.seq
  (.reg false [⟨(some 2), .mv (.c (.str [])), none, [], []⟩,
    ⟨(some 3), .mv (.c (.bool false)), none, [], []⟩])
  (.seq
   (.seq
    (.reg false [⟨(some 13), .mv (.t 0), none, [], []⟩,
      ⟨(some 14), .call (.f 72) [(.t 13)], none, [], []⟩,
      ⟨(some 15), .un .not (.t 14), none, [], []⟩])
    (.cond (.t 15)
     (.seq
      (.reg false [⟨(some 2), .mv (.c (.str [])), none, [], []⟩,
        ⟨(some 3), .mv (.c (.bool false)), none, [], []⟩])
      .ret)
     .skip))
   (.seq
    (.reg false [⟨(some 4), .alloc 47 [.nilp, .nils], none, [], []⟩])
    (.block 0
     k51l0))))
def k51 : KBody := .code 47 [.tmp 2, .tmp 3] true k51b
/-! sentry/sentryref1.first -/
def k59b : K :=
 (.seq
  (.reg false [⟨(some 2), .mv (.c (.bool false)), none, [], []⟩])
  (.seq
   (.reg false [⟨(some 3), .mv (.t 0), none, [], []⟩,
     ⟨(some 4), .bin .geq .i (.t 3) (.c (.int .u8 97)), none, [], []⟩,
     ⟨(some 5), .mv (.t 4), none, [], []⟩,
     ⟨(some 6), .mv (.t 0), (some (5, true)), [], []⟩,
     ⟨(some 7), .bin .leq .i (.t 6) (.c (.int .u8 122)), (some (5, true)), [], []⟩,
     ⟨(some 8), .pick (.t 5) (.t 7) (.c (.bool false)), none, [], []⟩,
     ⟨(some 9), .mv (.t 8), none, [], []⟩,
     ⟨(some 10), .mv (.t 0), (some (9, false)), [], []⟩,
     ⟨(some 11), .bin .geq .i (.t 10) (.c (.int .u8 65)), (some (9, false)), [], []⟩,
     ⟨(some 12), .mv (.t 11), (some (9, false)), [], []⟩,
     ⟨(some 13), .mv (.t 0), (some (12, true)), [], []⟩,
     ⟨(some 14), .bin .leq .i (.t 13) (.c (.int .u8 90)), (some (12, true)), [], []⟩,
     ⟨(some 15), .pick (.t 12) (.t 14) (.c (.bool false)), (some (9, false)), [], []⟩,
     ⟨(some 16), .pick (.t 9) (.c (.bool true)) (.t 15), none, [], []⟩,
     ⟨(some 17), .mv (.t 16), none, [], []⟩,
     ⟨(some 18), .mv (.t 0), (some (17, false)), [], []⟩,
     ⟨(some 19), .bin .eql .i (.t 18) (.c (.int .u8 95)), (some (17, false)), [], []⟩,
     ⟨(some 20), .pick (.t 17) (.c (.bool true)) (.t 19), none, [], []⟩,
     ⟨(some 2), .mv (.t 20), none, [], []⟩])
   .ret))
def k59 : KBody := .code 21 [.tmp 2] true k59b
/-! sentry/sentryref1.Byte -/
def k60b : K :=
 (.seq
  (.reg false [⟨(some 2), .mv (.c (.bool false)), none, [], []⟩])
  (.seq
   (.reg false [⟨(some 3), .mv (.t 0), none, [], []⟩,
     ⟨(some 4), .call (.f 59) [(.t 3)], none, [], []⟩,
     ⟨(some 5), .mv (.t 4), none, [], []⟩,
     ⟨(some 6), .mv (.t 0), (some (5, false)), [], []⟩,
     ⟨(some 7), .bin .geq .i (.t 6) (.c (.int .u8 48)), (some (5, false)), [], []⟩,
     ⟨(some 8), .mv (.t 7), (some (5, false)), [], []⟩,
     ⟨(some 9), .mv (.t 0), (some (8, true)), [], []⟩,
     ⟨(some 10), .bin .leq .i (.t 9) (.c (.int .u8 57)), (some (8, true)), [], []⟩,
     ⟨(some 11), .pick (.t 8) (.t 10) (.c (.bool false)), (some (5, false)), [], []⟩,
     ⟨(some 12), .pick (.t 5) (.c (.bool true)) (.t 11), none, [], []⟩,
     ⟨(some 13), .mv (.t 12), none, [], []⟩,
     ⟨(some 14), .mv (.t 0), (some (13, false)), [], []⟩,
     ⟨(some 15), .bin .eql .i (.t 14) (.c (.int .u8 45)), (some (13, false)), [], []⟩,
     ⟨(some 16), .pick (.t 13) (.c (.bool true)) (.t 15), none, [], []⟩,
     ⟨(some 17), .mv (.t 16), none, [], []⟩,
     ⟨(some 18), .mv (.t 0), (some (17, false)), [], []⟩,
     ⟨(some 19), .bin .eql .i (.t 18) (.c (.int .u8 46)), (some (17, false)), [], []⟩,
     ⟨(some 20), .pick (.t 17) (.c (.bool true)) (.t 19), none, [], []⟩,
     ⟨(some 2), .mv (.t 20), none, [], []⟩])
   .ret))
def k60 : KBody := .code 21 [.tmp 2] true k60b
/-! internal/stringslite.HasPrefix -/
def k63b : K :=
 (.seq
  (.reg false [⟨(some 4), .mv (.c (.bool false)), none, [], []⟩])
  (.seq
   (.reg false [⟨(some 5), .mv (.t 0), none, [], []⟩,
     ⟨(some 6), .len .str (.t 5), none, [], []⟩,
     ⟨(some 7), .mv (.t 1), none, [], []⟩,
     ⟨(some 8), .len .str (.t 7), none, [], []⟩,
     ⟨(some 9), .bin .geq .i (.t 6) (.t 8), none, [], []⟩,
     ⟨(some 10), .mv (.t 9), none, [], []⟩,
     ⟨(some 11), .mv (.t 0), (some (10, true)), [], []⟩,
     ⟨(some 12), .mv (.t 1), (some (10, true)), [], []⟩,
     ⟨(some 13), .len .str (.t 12), (some (10, true)), [], []⟩,
     ⟨(some 14), .slice .str (.t 11) none (some (.t 13)) none, (some (10, true)), [], []⟩,
     ⟨(some 15), .mv (.t 1), (some (10, true)), [], []⟩,
     ⟨(some 16), .bin .eql .s (.t 14) (.t 15), (some (10, true)), [], []⟩,
     ⟨(some 17), .pick (.t 10) (.t 16) (.c (.bool false)), none, [], []⟩,
     ⟨(some 4), .mv (.t 17), none, [], []⟩])
   .ret))
def k63 : KBody := .code 18 [.tmp 4] true k63b
/-! strings.TrimLeftFunc -/
def k64b : K :=
 (.seq
  (.reg false [⟨(some 4), .mv (.c (.str [])), none, [], []⟩])
  (.seq
   (.reg false [⟨(some 6), .mv (.t 0), none, [], []⟩,
     ⟨(some 7), .mv (.t 1), none, [], []⟩,
     ⟨(some 8), .call (.f 80) [(.t 6), (.t 7), (.c (.bool false))], none, [], []⟩,
     ⟨(some 5), .mv (.t 8), none, [], []⟩])
   (.seq
    (.seq
     (.reg false [⟨(some 9), .mv (.t 5), none, [], []⟩,
       ⟨(some 10), .bin .eql .i (.t 9) (.c (.int .i64 (-1))), none, [], []⟩])
     (.cond (.t 10)
      (.seq
       (.reg false [⟨(some 4), .mv (.c (.str [])), none, [], []⟩])
       .ret)
      .skip))
    (.seq
     (.reg false [⟨(some 11), .mv (.t 0), none, [], []⟩,
       ⟨(some 12), .mv (.t 5), none, [], []⟩,
       ⟨(some 13), .slice .str (.t 11) (some (.t 12)) none none, none, [], []⟩,
       ⟨(some 4), .mv (.t 13), none, [], []⟩])
     .ret))))
def k64 : KBody := .code 14 [.tmp 4] true k64b
/-! sentry/xml.isSign -/
def k65b : K :=
 (.seq
  (.reg false [⟨(some 2), .mv (.c (.bool false)), none, [], []⟩])
  (.seq
   (.reg false [⟨(some 3), .mv (.t 0), none, [], []⟩,
     ⟨(some 4), .bin .lss .i (.t 3) (.c (.int .i32 128)), none, [], []⟩,
     ⟨(some 5), .mv (.t 4), none, [], []⟩,
     ⟨(some 6), .mv (.t 0), (some (5, true)), [], []⟩,
     ⟨(some 7), .bin .eql .i (.t 6) (.c (.int .i32 58)), (some (5, true)), [], []⟩,
     ⟨(some 8), .mv (.t 7), (some (5, true)), [], []⟩,
     ⟨(some 9), .mv (.t 0), (some (8, false)), [], []⟩,
     ⟨(some 10), .conv .runeToStr (.t 9), (some (8, false)), [], []⟩,
     ⟨(some 11), .bin .add .s (.c (.str [97])) (.t 10), (some (8, false)), [], []⟩,
     ⟨(some 12), .call (.f 81) [(.t 11)], (some (8, false)), [], []⟩,
     ⟨(some 13), .pick (.t 8) (.c (.bool true)) (.t 12), (some (5, true)), [], []⟩,
     ⟨(some 14), .pick (.t 5) (.t 13) (.c (.bool false)), none, [], []⟩,
     ⟨(some 2), .mv (.t 14), none, [], []⟩])
   .ret))
def k65 : KBody := .code 15 [.tmp 2] true k65b
/-! sentry/name.IsQual -/
def k66b : K :=
 (.seq
  (.reg false [⟨(some 2), .mv (.c (.bool false)), none, [], []⟩])
  (.seq
   (.reg false [⟨(some 7), .mv (.t 0), none, [], []⟩,
     ⟨(some 8), .call (.f 50) [(.t 7), (.c (.str [58]))], none, [], []⟩,
     ⟨(some 6), .mv (.t 8), none, [], []⟩,
     ⟨(some 9), .extract (.t 6) 0, none, [], []⟩,
     ⟨(some 10), .extract (.t 6) 1, none, [], []⟩,
     ⟨(some 11), .extract (.t 6) 2, none, [], []⟩,
     ⟨(some 3), .mv (.t 9), none, [], []⟩,
     ⟨(some 4), .mv (.t 10), none, [], []⟩,
     ⟨(some 5), .mv (.t 11), none, [], []⟩])
   (.seq
    (.seq
     (.reg false [⟨(some 12), .mv (.t 5), none, [], []⟩,
       ⟨(some 13), .un .not (.t 12), none, [], []⟩])
     (.cond (.t 13)
      (.seq
       (.reg false [⟨(some 14), .mv (.t 0), none, [], []⟩,
         ⟨(some 15), .call (.f 81) [(.t 14)], none, [], []⟩,
         ⟨(some 2), .mv (.t 15), none, [], []⟩])
       .ret)
      .skip))
    (.seq
     (.reg false [⟨(some 16), .mv (.t 3), none, [], []⟩,
       ⟨(some 17), .call (.f 81) [(.t 16)], none, [], []⟩,
       ⟨(some 18), .mv (.t 17), none, [], []⟩,
       ⟨(some 19), .mv (.t 4), (some (18, true)), [], []⟩,
       ⟨(some 20), .call (.f 81) [(.t 19)], (some (18, true)), [], []⟩,
       ⟨(some 21), .pick (.t 18) (.t 20) (.c (.bool false)), none, [], []⟩,
       ⟨(some 2), .mv (.t 21), none, [], []⟩])
     .ret))))
def k66 : KBody := .code 22 [.tmp 2] true k66b
/-! slices.ContainsFunc[[]sentry/api.Attr,sentry/api.Attr] -/
def k67b : K :=
 (.seq
  (.reg false [⟨(some 4), .mv (.c (.bool false)), none, [], []⟩])
  (.seq
   (.reg false [⟨(some 5), .mv (.t 0), none, [], []⟩,
     ⟨(some 6), .mv (.t 1), none, [], []⟩,
     ⟨(some 7), .call (.f 82) [(.t 5), (.t 6)], none, [], []⟩,
     ⟨(some 8), .bin .geq .i (.t 7) (.c (.int .i64 0)), none, [], []⟩,
     ⟨(some 4), .mv (.t 8), none, [], []⟩])
   .ret))
def k67 : KBody := .code 9 [.tmp 4] true k67b
/-! (*sentry/xml.reader).value -/
def k69b : K :=
 (.seq
  (.reg false [⟨(some 2), .mv (.c (.str [])), none, [], []⟩])
  (.seq
   (.reg false [⟨(some 9), .mv (.t 0), none, [], []⟩,
     ⟨(some 10), .call (.f 28) [(.t 9)], none, [], []⟩,
     ⟨(some 3), .mv (.t 10), none, [], []⟩])
   (.seq
    (.seq
     (.reg false [⟨(some 11), .mv (.t 3), none, [], []⟩,
       ⟨(some 12), .bin .eql .s (.t 11) (.c (.str [])), none, [], []⟩,
       ⟨(some 13), .mv (.t 12), none, [], []⟩,
       ⟨(some 14), .mv (.t 3), (some (13, false)), [], []⟩,
       ⟨(some 15), .ixs (.t 14) (.c (.int .i64 0)), (some (13, false)), [], []⟩,
       ⟨(some 16), .bin .neq .i (.t 15) (.c (.int .u8 34)), (some (13, false)), [], []⟩,
       ⟨(some 17), .mv (.t 16), (some (13, false)), [], []⟩,
       ⟨(some 18), .mv (.t 3), (some (17, true)), [], []⟩,
       ⟨(some 19), .ixs (.t 18) (.c (.int .i64 0)), (some (17, true)), [], []⟩,
       ⟨(some 20), .bin .neq .i (.t 19) (.c (.int .u8 39)), (some (17, true)), [], []⟩,
       ⟨(some 21), .pick (.t 17) (.t 20) (.c (.bool false)), (some (13, false)), [], []⟩,
       ⟨(some 22), .pick (.t 13) (.c (.bool true)) (.t 21), none, [], []⟩])
     (.cond (.t 22)
      (.seq
       (.reg false [⟨(some 23), .mv (.t 0), none, [], []⟩,
         ⟨(some 24), .mv (.t 0), none, [], []⟩,
         ⟨(some 25), .nilchk (.t 24), none, [], []⟩,
         ⟨(some 26), .faddr 1 (.t 25), none, [], []⟩,
         ⟨(some 27), .load false 1 (.t 26), none, [], []⟩,
         ⟨(some 28), .call (.f 29) [(.t 23), (.t 27), (.c (.int .i64 2))], none, [], []⟩])
       (.seq
        (.reg false [⟨(some 2), .mv (.c (.str [])), none, [], []⟩])
        .ret))
      .skip))
    (.seq
     (.reg true [⟨(some 30), .mv (.t 3), none, [], []⟩,
       ⟨(some 31), .slice .str (.t 30) (some (.c (.int .i64 1))) none none, none, [0], []⟩,
       ⟨(some 32), .mv (.t 3), none, [], []⟩,
       ⟨(some 33), .slice .str (.t 32) none (some (.c (.int .i64 1))) none, none, [0], []⟩,
       ⟨(some 34), .call (.f 50) [(.t 31), (.t 33)], none, [], []⟩,
       ⟨(some 29), .mv (.t 34), none, [], []⟩,
       ⟨(some 35), .extract (.t 29) 0, none, [], []⟩,
       ⟨(some 36), .extract (.t 29) 1, none, [], []⟩,
       ⟨(some 37), .extract (.t 29) 2, none, [], []⟩,
       ⟨(some 4), .mv (.t 35), none, [], []⟩,
       ⟨(some 5), .mv (.t 36), none, [], []⟩,
       ⟨(some 6), .mv (.t 37), none, [], []⟩])
     (.seq
      (.reg false [⟨(some 39), .mv (.t 4), none, [], []⟩,
        ⟨(some 40), .call (.f 51) [(.t 39)], none, [], []⟩,
        ⟨(some 38), .mv (.t 40), none, [], []⟩,
        ⟨(some 41), .extract (.t 38) 0, none, [], []⟩,
        ⟨(some 42), .extract (.t 38) 1, none, [], []⟩,
        ⟨(some 7), .mv (.t 41), none, [], []⟩,
        ⟨(some 8), .mv (.t 42), none, [], []⟩])
      (.seq
       (.seq
        (.reg false [⟨(some 43), .mv (.t 6), none, [], []⟩,
          ⟨(some 44), .un .not (.t 43), none, [], []⟩,
          ⟨(some 45), .mv (.t 44), none, [], []⟩,
          ⟨(some 46), .mv (.t 8), (some (45, false)), [], []⟩,
          ⟨(some 47), .un .not (.t 46), (some (45, false)), [], []⟩,
          ⟨(some 48), .pick (.t 45) (.c (.bool true)) (.t 47), none, [], []⟩,
          ⟨(some 49), .mv (.t 48), none, [], []⟩,
          ⟨(some 50), .mv (.t 4), (some (49, false)), [], []⟩,
          ⟨(some 51), .call (.f 83) [(.t 50), (.c (.str [60]))], (some (49, false)), [], []⟩,
          ⟨(some 52), .pick (.t 49) (.c (.bool true)) (.t 51), none, [], []⟩,
          ⟨(some 53), .mv (.t 52), none, [], []⟩,
          ⟨(some 54), .mv (.t 7), (some (53, false)), [], []⟩,
          ⟨(some 55), .len .str (.t 54), (some (53, false)), [], []⟩,
          ⟨(some 56), .bin .gtr .i (.t 55) (.c (.int .i64 60)), (some (53, false)), [], []⟩,
          ⟨(some 57), .pick (.t 53) (.c (.bool true)) (.t 56), none, [], []⟩])
        (.cond (.t 57)
         (.seq
          (.reg false [⟨(some 58), .mv (.t 0), none, [], []⟩,
            ⟨(some 59), .mv (.t 0), none, [], []⟩,
            ⟨(some 60), .nilchk (.t 59), none, [], []⟩,
            ⟨(some 61), .faddr 1 (.t 60), none, [], []⟩,
            ⟨(some 62), .load false 1 (.t 61), none, [], []⟩,
            ⟨(some 63), .call (.f 29) [(.t 58), (.t 62), (.c (.int .i64 2))], none, [], []⟩])
          (.seq
           (.reg false [⟨(some 2), .mv (.c (.str [])), none, [], []⟩])
           .ret))
         .skip))
       (.seq
        (.reg false [⟨(some 64), .mv (.t 0), none, [], []⟩,
          ⟨(some 65), .nilchk (.t 64), none, [], []⟩,
          ⟨(some 66), .faddr 1 (.t 65), none, [], []⟩,
          ⟨(some 67), .load false 1 (.t 66), none, [], []⟩,
          ⟨(some 68), .mv (.t 4), none, [], []⟩,
          ⟨(some 69), .len .str (.t 68), none, [], []⟩,
          ⟨(some 70), .bin .add .i (.t 69) (.c (.int .i64 2)), none, [], []⟩,
          ⟨(some 71), .bin .add .i (.t 67) (.t 70), none, [], []⟩,
          ⟨(some 72), .nilchk (.t 64), none, [], []⟩,
          ⟨(some 73), .faddr 1 (.t 72), none, [], []⟩,
          ⟨none, .store 1 (.t 73) (.t 71), none, [], []⟩])
        (.seq
         (.reg false [⟨(some 74), .mv (.t 7), none, [], []⟩,
           ⟨(some 2), .mv (.t 74), none, [], []⟩])
         .ret))))))))
def k69 : KBody := .code 75 [.tmp 2] true k69b
/-! strings.TrimLeft -/
def k70b : K :=
 (.seq
  (.reg false [⟨(some 4), .mv (.c (.str [])), none, [], []⟩])
  (.seq
   (.seq
    (.reg false [⟨(some 7), .mv (.t 0), none, [], []⟩,
      ⟨(some 8), .bin .eql .s (.t 7) (.c (.str [])), none, [], []⟩,
      ⟨(some 9), .mv (.t 8), none, [], []⟩,
      ⟨(some 10), .mv (.t 1), (some (9, false)), [], []⟩,
      ⟨(some 11), .bin .eql .s (.t 10) (.c (.str [])), (some (9, false)), [], []⟩,
      ⟨(some 12), .pick (.t 9) (.c (.bool true)) (.t 11), none, [], []⟩])
    (.cond (.t 12)
     (.seq
      (.reg false [⟨(some 13), .mv (.t 0), none, [], []⟩,
        ⟨(some 4), .mv (.t 13), none, [], []⟩])
      .ret)
     .skip))
   (.seq
    (.seq
     (.reg false [⟨(some 14), .mv (.t 1), none, [], []⟩,
       ⟨(some 15), .len .str (.t 14), none, [], []⟩,
       ⟨(some 16), .bin .eql .i (.t 15) (.c (.int .i64 1)), none, [], []⟩,
       ⟨(some 17), .mv (.t 16), none, [], []⟩,
       ⟨(some 18), .mv (.t 1), (some (17, true)), [], []⟩,
       ⟨(some 19), .ixs (.t 18) (.c (.int .i64 0)), (some (17, true)), [], []⟩,
       ⟨(some 20), .bin .lss .i (.t 19) (.c (.int .u8 128)), (some (17, true)), [], []⟩,
       ⟨(some 21), .pick (.t 17) (.t 20) (.c (.bool false)), none, [], []⟩])
     (.cond (.t 21)
      (.seq
       (.reg false [⟨(some 22), .mv (.t 0), none, [], []⟩,
         ⟨(some 23), .mv (.t 1), none, [], []⟩,
         ⟨(some 24), .ixs (.t 23) (.c (.int .i64 0)), none, [], []⟩,
         ⟨(some 25), .call (.f 84) [(.t 22), (.t 24)], none, [], []⟩,
         ⟨(some 4), .mv (.t 25), none, [], []⟩])
       .ret)
      .skip))
    (.seq
     (.seq
      (.reg false [⟨(some 27), .mv (.t 1), none, [], []⟩,
        ⟨(some 28), .call (.f 85) [(.t 27)], none, [], []⟩,
        ⟨(some 26), .mv (.t 28), none, [], []⟩,
        ⟨(some 29), .extract (.t 26) 0, none, [], []⟩,
        ⟨(some 30), .extract (.t 26) 1, none, [], []⟩,
        ⟨(some 5), .alloc 106 z256, none, [], []⟩,
        ⟨none, .store 256 (.t 5) (.t 29), none, [], []⟩,
        ⟨(some 6), .mv (.t 30), none, [], []⟩])
      (.seq
       (.reg false [⟨(some 31), .mv (.t 6), none, [], []⟩])
       (.cond (.t 31)
        (.seq
         (.reg false [⟨(some 32), .mv (.t 0), none, [], []⟩,
           ⟨(some 33), .call (.f 86) [(.t 32), (.t 5)], none, [], []⟩,
           ⟨(some 4), .mv (.t 33), none, [], []⟩])
         .ret)
        .skip)))
     (.seq
      (.reg false [⟨(some 34), .mv (.t 0), none, [], []⟩,
        ⟨(some 35), .mv (.t 1), none, [], []⟩,
        ⟨(some 36), .call (.f 87) [(.t 34), (.t 35)], none, [], []⟩,
        ⟨(some 4), .mv (.t 36), none, [], []⟩])
      .ret)))))
def k70 : KBody := .code 37 [.tmp 4] true k70b
/-! internal/stringslite.Cut -/
def k71b : K :=
 (.seq
  (.reg false [⟨(some 4), .mv (.c (.str [])), none, [], []⟩,
    ⟨(some 5), .mv (.c (.str [])), none, [], []⟩,
    ⟨(some 6), .mv (.c (.bool false)), none, [], []⟩])
  (.seq
   (.seq
    (.reg false [⟨(some 8), .mv (.t 0), none, [], []⟩,
      ⟨(some 9), .mv (.t 1), none, [], []⟩,
      ⟨(some 10), .call (.f 88) [(.t 8), (.t 9)], none, [], []⟩,
      ⟨(some 7), .mv (.t 10), none, [], []⟩])
    (.seq
     (.reg false [⟨(some 11), .mv (.t 7), none, [], []⟩,
       ⟨(some 12), .bin .geq .i (.t 11) (.c (.int .i64 0)), none, [], []⟩])
     (.cond (.t 12)
      (.seq
       (.reg false [⟨(some 13), .mv (.t 0), none, [], []⟩,
         ⟨(some 14), .mv (.t 7), none, [], []⟩,
         ⟨(some 15), .slice .str (.t 13) none (some (.t 14)) none, none, [0], []⟩,
         ⟨(some 16), .mv (.t 0), none, [], []⟩,
         ⟨(some 17), .mv (.t 7), none, [], []⟩,
         ⟨(some 18), .mv (.t 1), none, [], []⟩,
         ⟨(some 19), .len .str (.t 18), none, [0], []⟩,
         ⟨(some 20), .bin .add .i (.t 17) (.t 19), none, [], []⟩,
         ⟨(some 21), .slice .str (.t 16) (some (.t 20)) none none, none, [0], []⟩,
         ⟨(some 4), .mv (.t 15), none, [], []⟩,
         ⟨(some 5), .mv (.t 21), none, [], []⟩,
         ⟨(some 6), .mv (.c (.bool true)), none, [], []⟩])
       .ret)
      .skip)))
   (.seq
    (.reg false [⟨(some 22), .mv (.t 0), none, [], []⟩,
      ⟨(some 4), .mv (.t 22), none, [], []⟩,
      ⟨(some 5), .mv (.c (.str [])), none, [], []⟩,
      ⟨(some 6), .mv (.c (.bool false)), none, [], []⟩])
    .ret)))
def k71 : KBody := .code 23 [.tmp 4, .tmp 5, .tmp 6] true k71b
/-! sentry/name.isWhole -/
def k72b : K :=
 (.seq
  (.reg false [⟨(some 2), .mv (.c (.bool false)), none, [], []⟩])
  (.seq
   (.reg false [⟨(some 3), .mv (.t 0), none, [], []⟩,
     ⟨(some 4), .call (.f 35) [(.t 3)], none, [], []⟩,
     ⟨(some 5), .mv (.t 4), none, [], []⟩,
     ⟨(some 6), .mv (.t 0), (some (5, true)), [], []⟩,
     ⟨(some 7), .call (.f 89) [(.t 6), (.f 90)], (some (5, true)), [], []⟩,
     ⟨(some 8), .un .not (.t 7), (some (5, true)), [], []⟩,
     ⟨(some 9), .pick (.t 5) (.t 8) (.c (.bool false)), none, [], []⟩,
     ⟨(some 2), .mv (.t 9), none, [], []⟩])
   .ret))
def k72 : KBody := .code 10 [.tmp 2] true k72b
/-! sentry/name.meant -/
def k73b : K :=
 (.seq
  (.reg false [⟨(some 2), .mv (.c (.str [])), none, [], []⟩,
    ⟨(some 3), .mv (.c (.bool false)), none, [], []⟩])
  (.seq
   (.seq
    (.reg false [⟨(some 6), .mv (.t 0), none, [], []⟩])
    (.block 0
     (.seq
      (.reg false [⟨(some 8), .bin .eql .s (.t 6) (.c (.str [97, 109, 112])), none, [], []⟩,
        ⟨(some 7), .mv (.t 8), none, [], []⟩])
      (.cond (.t 7)
       (.seq
        (.reg false [⟨(some 2), .mv (.c (.str [38])), none, [], []⟩,
          ⟨(some 3), .mv (.c (.bool true)), none, [], []⟩])
        .ret)
       (.seq
        (.reg false [⟨(some 10), .bin .eql .s (.t 6) (.c (.str [108, 116])), none, [], []⟩,
          ⟨(some 9), .mv (.t 10), none, [], []⟩])
        (.cond (.t 9)
         (.seq
          (.reg false [⟨(some 2), .mv (.c (.str [60])), none, [], []⟩,
            ⟨(some 3), .mv (.c (.bool true)), none, [], []⟩])
          .ret)
         (.seq
          (.reg false [⟨(some 12), .bin .eql .s (.t 6) (.c (.str [103, 116])), none, [], []⟩,
            ⟨(some 11), .mv (.t 12), none, [], []⟩])
          (.cond (.t 11)
           (.seq
            (.reg false [⟨(some 2), .mv (.c (.str [62])), none, [], []⟩,
              ⟨(some 3), .mv (.c (.bool true)), none, [], []⟩])
            .ret)
           (.seq
            (.reg false [⟨(some 14), .bin .eql .s (.t 6) (.c (.str [113, 117, 111, 116])), none, [], []⟩,
              ⟨(some 13), .mv (.t 14), none, [], []⟩])
            (.cond (.t 13)
             (.seq
              (.reg false [⟨(some 2), .mv (.c (.str [34])), none, [], []⟩,
                ⟨(some 3), .mv (.c (.bool true)), none, [], []⟩])
              .ret)
             (.seq
              (.reg false [⟨(some 16), .bin .eql .s (.t 6) (.c (.str [97, 112, 111, 115])), none, [], []⟩,
                ⟨(some 15), .mv (.t 16), none, [], []⟩])
              (.cond (.t 15)
               (.seq
                (.reg false [⟨(some 2), .mv (.c (.str [39])), none, [], []⟩,
                  ⟨(some 3), .mv (.c (.bool true)), none, [], []⟩])
                .ret)
               .skip))))))))))))
   (.seq
    (.seq
     (.reg false [⟨(some 18), .mv (.t 0), none, [], []⟩,
       ⟨(some 19), .call (.f 92) [(.t 18), (.c (.str [35]))], none, [], []⟩,
       ⟨(some 17), .mv (.t 19), none, [], []⟩,
       ⟨(some 20), .extract (.t 17) 0, none, [], []⟩,
       ⟨(some 21), .extract (.t 17) 1, none, [], []⟩,
       ⟨(some 4), .mv (.t 20), none, [], []⟩,
       ⟨(some 5), .mv (.t 21), none, [], []⟩])
     (.seq
      (.reg false [⟨(some 22), .mv (.t 5), none, [], []⟩])
      (.cond (.t 22)
       (.seq
        (.reg false [⟨(some 23), .mv (.t 4), none, [], []⟩,
          ⟨(some 24), .call (.f 93) [(.t 23)], none, [], []⟩,
          ⟨(some 25), .extract (.t 24) 0, none, [], []⟩,
          ⟨(some 26), .extract (.t 24) 1, none, [], []⟩,
          ⟨(some 2), .mv (.t 25), none, [], []⟩,
          ⟨(some 3), .mv (.t 26), none, [], []⟩])
        .ret)
       .skip)))
    (.seq
     (.reg false [⟨(some 2), .mv (.c (.str [])), none, [], []⟩,
       ⟨(some 3), .mv (.c (.bool false)), none, [], []⟩])
     .ret))))
def k73 : KBody := .code 27 [.tmp 2, .tmp 3] true k73b
/-! strings.Index -/
def k78b : K :=
 (.seq
  (.reg false [⟨(some 4), .mv (.c (.int .i64 0)), none, [], []⟩])
  (.seq
   (.reg false [⟨(some 5), .mv (.t 0), none, [], []⟩,
     ⟨(some 6), .mv (.t 1), none, [], []⟩,
     ⟨(some 7), .call (.f 88) [(.t 5), (.t 6)], none, [], []⟩,
     ⟨(some 4), .mv (.t 7), none, [], []⟩])
   .ret))
def k78 : KBody := .code 8 [.tmp 4] true k78b
/-! strings.indexFunc -/
def k80l0b : K :=
 (.seq
  (.reg false [⟨(some 11), .next (.t 10), none, [], []⟩,
    ⟨(some 12), .extract (.t 11) 0, none, [], []⟩])
  (.seq
   (.cond (.t 12)
    .skip
    (.exit 0))
   (.block 1
    (.seq
     (.reg false [⟨(some 13), .extract (.t 11) 1, none, [], []⟩,
       ⟨(some 14), .extract (.t 11) 2, none, [], []⟩,
       ⟨(some 7), .mv (.t 13), none, [], []⟩,
       ⟨(some 8), .mv (.t 14), none, [], []⟩])
     (.seq
      (.reg false [⟨(some 15), .mv (.t 1), none, [], []⟩,
        ⟨(some 16), .mv (.t 8), none, [], []⟩,
        ⟨(some 17), .call (.t 15) [(.t 16)], none, [], []⟩,
        ⟨(some 18), .mv (.t 2), none, [], []⟩,
        ⟨(some 19), .bin .eql .b (.t 17) (.t 18), none, [], []⟩])
      (.cond (.t 19)
       (.seq
        (.reg false [⟨(some 20), .mv (.t 7), none, [], []⟩,
          ⟨(some 6), .mv (.t 20), none, [], []⟩])
        .ret)
       .skip))))))
def k80l0 : K := .loop k80l0b
def k80b : K :=
 (.seq
  (.reg false [⟨(some 6), .mv (.c (.int .i64 0)), none, [], []⟩])
  (.seq
   (.seq
    (.reg false [⟨(some 9), .mv (.t 0), none, [], []⟩,
      ⟨(some 10), .range (.t 9), none, [], []⟩])
    (.block 0
     k80l0))
   (.seq
    (.reg false [⟨(some 6), .mv (.c (.int .i64 (-1))), none, [], []⟩])
    .ret)))
def k80 : KBody := .code 21 [.tmp 6] true k80b
/-! sentry/name.Is -/
def k81l0b : K :=
 (.seq
  (.reg false [⟨(some 22), .bin .lss .i (.t 21) (.t 20), none, [], []⟩])
  (.seq
   (.cond (.t 22)
    .skip
    (.exit 0))
   (.seq
    (.block 1
     (.seq
      (.reg false [⟨(some 23), .iaddr none 1 (.t 19) (.t 21), none, [], []⟩,
        ⟨(some 24), .load false 1 (.t 23), none, [], []⟩,
        ⟨(some 4), .mv (.t 24), none, [], []⟩])
      (.seq
       (.reg false [⟨(some 25), .mv (.t 4), none, [], []⟩,
         ⟨(some 26), .call (.f 100) [(.t 25)], none, [], []⟩,
         ⟨(some 27), .un .not (.t 26), none, [], []⟩])
       (.cond (.t 27)
        (.seq
         (.reg false [⟨(some 2), .mv (.c (.bool false)), none, [], []⟩])
         .ret)
        .skip))))
    (.reg false [⟨(some 28), .bin .add .i (.t 21) (.c (.int .i64 1)), none, [], []⟩,
      ⟨(some 21), .mv (.t 28), none, [], []⟩]))))
def k81l0 : K := .loop k81l0b
def k81b : K :=
 (.seq
  (.reg false [⟨(some 2), .mv (.c (.bool false)), none, [], []⟩])
  (.seq
   (.seq
    (.reg false [⟨(some 5), .mv (.t 0), none, [], []⟩,
      ⟨(some 6), .bin .eql .s (.t 5) (.c (.str [])), none, [], []⟩,
      ⟨(some 7), .mv (.t 6), none, [], []⟩,
      ⟨(some 8), .mv (.t 0), (some (7, false)), [], []⟩,
      ⟨(some 9), .len .str (.t 8), (some (7, false)), [], []⟩,
      ⟨(some 10), .bin .gtr .i (.t 9) (.c (.int .i64 12)), (some (7, false)), [], []⟩,
      ⟨(some 11), .pick (.t 7) (.c (.bool true)) (.t 10), none, [], []⟩,
      ⟨(some 12), .mv (.t 11), none, [], []⟩,
      ⟨(some 13), .mv (.t 0), (some (12, false)), [], []⟩,
      ⟨(some 14), .ixs (.t 13) (.c (.int .i64 0)), (some (12, false)), [], []⟩,
      ⟨(some 15), .call (.f 99) [(.t 14)], (some (12, false)), [], []⟩,
      ⟨(some 16), .un .not (.t 15), (some (12, false)), [], []⟩,
      ⟨(some 17), .pick (.t 12) (.c (.bool true)) (.t 16), none, [], []⟩])
    (.cond (.t 17)
     (.seq
      (.reg false [⟨(some 2), .mv (.c (.bool false)), none, [], []⟩])
      .ret)
     .skip))
   (.seq
    (.seq
     (.reg false [⟨(some 18), .mv (.t 0), none, [], []⟩,
       ⟨(some 19), .conv .strToBytes (.t 18), none, [], []⟩,
       ⟨(some 20), .len .slc (.t 19), none, [], []⟩,
       ⟨(some 21), .mv (.c (.int .i64 0)), none, [], []⟩])
     (.block 0
      k81l0))
    (.seq
     (.reg false [⟨(some 2), .mv (.c (.bool true)), none, [], []⟩])
     .ret))))
def k81 : KBody := .code 29 [.tmp 2] true k81b
/-! slices.IndexFunc[[]sentry/api.Attr,sentry/api.Attr] -/
def k82l0b : K :=
 (.seq
  (.reg false [⟨(some 9), .bin .lss .i (.t 8) (.t 7), none, [], []⟩])
  (.seq
   (.cond (.t 9)
    .skip
    (.exit 0))
   (.seq
    (.block 1
     (.seq
      (.reg false [⟨(some 10), .mv (.t 8), none, [], []⟩,
        ⟨(some 5), .mv (.t 10), none, [], []⟩])
      (.seq
       (.reg false [⟨(some 11), .mv (.t 1), none, [], []⟩,
         ⟨(some 12), .mv (.t 0), none, [], []⟩,
         ⟨(some 13), .mv (.t 5), none, [], []⟩,
         ⟨(some 14), .iaddr none 2 (.t 12) (.t 13), none, [], []⟩,
         ⟨(some 15), .load true 2 (.t 14), none, [], []⟩,
         ⟨(some 16), .call (.t 11) [(.t 15)], none, [], []⟩])
       (.cond (.t 16)
        (.seq
         (.reg false [⟨(some 17), .mv (.t 5), none, [], []⟩,
           ⟨(some 4), .mv (.t 17), none, [], []⟩])
         .ret)
        .skip))))
    (.reg false [⟨(some 18), .bin .add .i (.t 8) (.c (.int .i64 1)), none, [], []⟩,
      ⟨(some 8), .mv (.t 18), none, [], []⟩]))))
def k82l0 : K := .loop k82l0b
def k82b : K :=
 (.seq
  (.reg false [⟨(some 4), .mv (.c (.int .i64 0)), none, [], []⟩])
  (.seq
   (.seq
    (.reg false [⟨(some 6), .mv (.t 0), none, [], []⟩,
      ⟨(some 7), .len .slc (.t 6), none, [], []⟩,
      ⟨(some 8), .mv (.c (.int .i64 0)), none, [], []⟩])
    (.block 0
     k82l0))
   (.seq
    (.reg false [⟨(some 4), .mv (.c (.int .i64 (-1))), none, [], []⟩])
    .ret)))
def k82 : KBody := .code 19 [.tmp 4] true k82b
/-! strings.Contains -/
def k83b : K :=
 (.seq
  (.reg false [⟨(some 4), .mv (.c (.bool false)), none, [], []⟩])
  (.seq
   (.reg false [⟨(some 5), .mv (.t 0), none, [], []⟩,
     ⟨(some 6), .mv (.t 1), none, [], []⟩,
     ⟨(some 7), .call (.f 78) [(.t 5), (.t 6)], none, [], []⟩,
     ⟨(some 8), .bin .geq .i (.t 7) (.c (.int .i64 0)), none, [], []⟩,
     ⟨(some 4), .mv (.t 8), none, [], []⟩])
   .ret))
def k83 : KBody := .code 9 [.tmp 4] true k83b
/-! strings.makeASCIISet -/
def k85l0b : K :=
 (.seq
  (.seq
   (.reg false [⟨(some 6), .mv (.t 4), none, [], []⟩,
     ⟨(some 7), .mv (.t 0), none, [], []⟩,
     ⟨(some 8), .len .str (.t 7), none, [], []⟩,
     ⟨(some 9), .bin .lss .i (.t 6) (.t 8), none, [], []⟩])
   (.cond (.t 9)
    .skip
    (.exit 0)))
  (.seq
   (.block 1
    (.seq
     (.reg false [⟨(some 12), .mv (.t 0), none, [], []⟩,
       ⟨(some 13), .mv (.t 4), none, [], []⟩,
       ⟨(some 14), .ixs (.t 12) (.t 13), none, [], []⟩,
       ⟨(some 5), .mv (.t 14), none, [], []⟩])
     (.seq
      (.seq
       (.reg false [⟨(some 15), .mv (.t 5), none, [], []⟩,
         ⟨(some 16), .bin .geq .i (.t 15) (.c (.int .u8 128)), none, [], []⟩])
       (.cond (.t 16)
        (.seq
         (.reg false [⟨(some 17), .load true 256 (.t 2), none, [], []⟩,
           ⟨none, .store 256 (.t 2) (.t 17), none, [], []⟩,
           ⟨(some 3), .mv (.c (.bool false)), none, [], []⟩])
         .ret)
        .skip))
      (.reg false [⟨(some 18), .mv (.t 5), none, [], []⟩,
        ⟨(some 19), .iaddr (some 256) 1 (.t 2) (.t 18), none, [], []⟩,
        ⟨none, .store 1 (.t 19) (.c (.bool true)), none, [], []⟩]))))
   (.reg false [⟨(some 10), .mv (.t 4), none, [], []⟩,
     ⟨(some 11), .bin .add .i (.t 10) (.c (.int .i64 1)), none, [], []⟩,
     ⟨(some 4), .mv (.t 11), none, [], []⟩])))
def k85l0 : K := .loop k85l0b
def k85b : K :=
 (.seq
  (.reg false [⟨(some 2), .alloc 106 z256, none, [], []⟩,
    ⟨(some 3), .mv (.c (.bool false)), none, [], []⟩])
  (.seq
   (.seq
    (.reg false [⟨(some 4), .mv (.c (.int .i64 0)), none, [], []⟩])
    (.block 0
     k85l0))
   (.seq
    (.reg false [⟨(some 20), .load true 256 (.t 2), none, [], []⟩,
      ⟨none, .store 256 (.t 2) (.t 20), none, [], []⟩,
      ⟨(some 3), .mv (.c (.bool true)), none, [], []⟩])
    .ret)))
def k85 : KBody := .code 21 [.cell 2 true 256, .tmp 3] true k85b
/-! strings.trimLeftASCII -/
def k86l0b : K :=
 (.seq
  (.seq
   (.reg false [⟨(some 5), .mv (.t 0), none, [], []⟩,
     ⟨(some 6), .len .str (.t 5), none, [], []⟩,
     ⟨(some 7), .bin .gtr .i (.t 6) (.c (.int .i64 0)), none, [], []⟩])
   (.cond (.t 7)
    .skip
    (.exit 0)))
  (.block 1
   (.seq
    (.seq
     (.reg false [⟨(some 8), .mv (.t 1), none, [], []⟩,
       ⟨(some 9), .mv (.t 0), none, [], []⟩,
       ⟨(some 10), .ixs (.t 9) (.c (.int .i64 0)), none, [], []⟩,
       ⟨(some 11), .call (.f 101) [(.t 8), (.t 10)], none, [], []⟩,
       ⟨(some 12), .un .not (.t 11), none, [], []⟩])
     (.cond (.t 12)
      (.exit 0)
      .skip))
    (.reg false [⟨(some 13), .mv (.t 0), none, [], []⟩,
      ⟨(some 14), .slice .str (.t 13) (some (.c (.int .i64 1))) none none, none, [], []⟩,
      ⟨(some 0), .mv (.t 14), none, [], []⟩]))))
def k86l0 : K := .loop k86l0b
def k86b : K :=
 (.seq
  (.reg false [⟨(some 4), .mv (.c (.str [])), none, [], []⟩])
  (.seq
   (.block 0
    k86l0)
   (.seq
    (.reg false [⟨(some 15), .mv (.t 0), none, [], []⟩,
      ⟨(some 4), .mv (.t 15), none, [], []⟩])
    .ret)))
def k86 : KBody := .code 16 [.tmp 4] true k86b
/-! internal/stringslite.Index -/
def k88l0b : K :=
 (.seq
  (.seq
   (.reg false [⟨(some 57), .mv (.t 8), none, [], []⟩,
     ⟨(some 58), .mv (.t 9), none, [], []⟩,
     ⟨(some 59), .bin .lss .i (.t 57) (.t 58), none, [], []⟩])
   (.cond (.t 59)
    .skip
    (.exit 1)))
  (.block 2
   (.seq
    (.seq
     (.reg false [⟨(some 60), .mv (.t 0), none, [], []⟩,
       ⟨(some 61), .mv (.t 8), none, [], []⟩,
       ⟨(some 62), .ixs (.t 60) (.t 61), none, [], []⟩,
       ⟨(some 63), .mv (.t 6), none, [], []⟩,
       ⟨(some 64), .bin .neq .i (.t 62) (.t 63), none, [], []⟩])
     (.cond (.t 64)
      (.seq
       (.reg false [⟨(some 65), .mv (.t 0), none, [], []⟩,
         ⟨(some 66), .mv (.t 8), none, [], []⟩,
         ⟨(some 67), .bin .add .i (.t 66) (.c (.int .i64 1)), none, [], []⟩,
         ⟨(some 68), .mv (.t 9), none, [], []⟩,
         ⟨(some 69), .slice .str (.t 65) (some (.t 67)) (some (.t 68)) none, none, [], []⟩,
         ⟨(some 70), .mv (.t 6), none, [], []⟩,
         ⟨(some 71), .call (.f 103) [(.t 69), (.t 70)], none, [], []⟩,
         ⟨(some 11), .mv (.t 71), none, [], []⟩])
       (.seq
        (.seq
         (.reg false [⟨(some 72), .mv (.t 11), none, [], []⟩,
           ⟨(some 73), .bin .lss .i (.t 72) (.c (.int .i64 0)), none, [], []⟩])
         (.cond (.t 73)
          (.seq
           (.reg false [⟨(some 4), .mv (.c (.int .i64 (-1))), none, [], []⟩])
           .ret)
          .skip))
        (.reg false [⟨(some 74), .mv (.t 8), none, [], []⟩,
          ⟨(some 75), .mv (.t 11), none, [], []⟩,
          ⟨(some 76), .bin .add .i (.t 75) (.c (.int .i64 1)), none, [], []⟩,
          ⟨(some 77), .bin .add .i (.t 74) (.t 76), none, [], []⟩,
          ⟨(some 8), .mv (.t 77), none, [], []⟩])))
      .skip))
    (.seq
     (.seq
      (.reg false [⟨(some 78), .mv (.t 0), none, [], []⟩,
        ⟨(some 79), .mv (.t 8), none, [], []⟩,
        ⟨(some 80), .bin .add .i (.t 79) (.c (.int .i64 1)), none, [], []⟩,
        ⟨(some 81), .ixs (.t 78) (.t 80), none, [], []⟩,
        ⟨(some 82), .mv (.t 7), none, [], []⟩,
        ⟨(some 83), .bin .eql .i (.t 81) (.t 82), none, [], []⟩,
        ⟨(some 84), .mv (.t 83), none, [], []⟩,
        ⟨(some 85), .mv (.t 0), (some (84, true)), [], []⟩,
        ⟨(some 86), .mv (.t 8), (some (84, true)), [], []⟩,
        ⟨(some 87), .mv (.t 8), (some (84, true)), [], []⟩,
        ⟨(some 88), .mv (.t 5), (some (84, true)), [], []⟩,
        ⟨(some 89), .bin .add .i (.t 87) (.t 88), (some (84, true)), [], []⟩,
        ⟨(some 90), .slice .str (.t 85) (some (.t 86)) (some (.t 89)) none, (some (84, true)), [], []⟩,
        ⟨(some 91), .mv (.t 1), (some (84, true)), [], []⟩,
        ⟨(some 92), .bin .eql .s (.t 90) (.t 91), (some (84, true)), [], []⟩,
        ⟨(some 93), .pick (.t 84) (.t 92) (.c (.bool false)), none, [], []⟩])
      (.cond (.t 93)
       (.seq
        (.reg false [⟨(some 94), .mv (.t 8), none, [], []⟩,
          ⟨(some 4), .mv (.t 94), none, [], []⟩])
        .ret)
       .skip))
     (.seq
      (.reg false [⟨(some 95), .mv (.t 8), none, [], []⟩,
        ⟨(some 96), .bin .add .i (.t 95) (.c (.int .i64 1)), none, [], []⟩,
        ⟨(some 8), .mv (.t 96), none, [], []⟩])
      (.seq
       (.reg false [⟨(some 97), .mv (.t 10), none, [], []⟩,
         ⟨(some 98), .bin .add .i (.t 97) (.c (.int .i64 1)), none, [], []⟩,
         ⟨(some 10), .mv (.t 98), none, [], []⟩])
       (.seq
        (.reg false [⟨(some 99), .mv (.t 5), none, [], []⟩,
          ⟨(some 100), .load false 1 (.g 2), none, [], []⟩,
          ⟨(some 101), .bin .leq .i (.t 99) (.t 100), none, [], []⟩,
          ⟨(some 102), .mv (.t 101), none, [], []⟩,
          ⟨(some 103), .mv (.t 10), (some (102, true)), [], []⟩,
          ⟨(some 104), .mv (.t 8), (some (102, true)), [], []⟩,
          ⟨(some 105), .call (.f 105) [(.t 104)], (some (102, true)), [], []⟩,
          ⟨(some 106), .bin .gtr .i (.t 103) (.t 105), (some (102, true)), [], []⟩,
          ⟨(some 107), .pick (.t 102) (.t 106) (.c (.bool false)), none, [], []⟩])
        (.cond (.t 107)
         (.seq
          (.reg false [⟨(some 108), .mv (.t 0), none, [], []⟩,
            ⟨(some 109), .mv (.t 8), none, [], []⟩,
            ⟨(some 110), .slice .str (.t 108) (some (.t 109)) none none, none, [], []⟩,
            ⟨(some 111), .mv (.t 1), none, [], []⟩,
            ⟨(some 112), .call (.f 104) [(.t 110), (.t 111)], none, [], []⟩,
            ⟨(some 12), .mv (.t 112), none, [], []⟩])
          (.seq
           (.seq
            (.reg false [⟨(some 113), .mv (.t 12), none, [], []⟩,
              ⟨(some 114), .bin .geq .i (.t 113) (.c (.int .i64 0)), none, [], []⟩])
            (.cond (.t 114)
             (.seq
              (.reg false [⟨(some 115), .mv (.t 12), none, [], []⟩,
                ⟨(some 116), .mv (.t 8), none, [], []⟩,
                ⟨(some 117), .bin .add .i (.t 115) (.t 116), none, [], []⟩,
                ⟨(some 4), .mv (.t 117), none, [], []⟩])
              .ret)
             .skip))
           (.seq
            (.reg false [⟨(some 4), .mv (.c (.int .i64 (-1))), none, [], []⟩])
            .ret)))
         (.seq
          (.reg false [⟨(some 118), .mv (.t 5), none, [], []⟩,
            ⟨(some 119), .load false 1 (.g 2), none, [], []⟩,
            ⟨(some 120), .bin .gtr .i (.t 118) (.t 119), none, [], []⟩,
            ⟨(some 121), .mv (.t 120), none, [], []⟩,
            ⟨(some 122), .mv (.t 10), (some (121, true)), [], []⟩,
            ⟨(some 123), .mv (.t 8), (some (121, true)), [], []⟩,
            ⟨(some 124), .bin .shr .i (.t 123) (.c (.int .u64 4)), (some (121, true)), [], []⟩,
            ⟨(some 125), .bin .add .i (.c (.int .i64 4)) (.t 124), (some (121, true)), [], []⟩,
            ⟨(some 126), .bin .geq .i (.t 122) (.t 125), (some (121, true)), [], []⟩,
            ⟨(some 127), .pick (.t 121) (.t 126) (.c (.bool false)), none, [], []⟩,
            ⟨(some 128), .mv (.t 127), none, [], []⟩,
            ⟨(some 129), .mv (.t 8), (some (128, true)), [], []⟩,
            ⟨(some 130), .mv (.t 9), (some (128, true)), [], []⟩,
            ⟨(some 131), .bin .lss .i (.t 129) (.t 130), (some (128, true)), [], []⟩,
            ⟨(some 132), .pick (.t 128) (.t 131) (.c (.bool false)), none, [], []⟩])
          (.cond (.t 132)
           (.seq
            (.reg false [⟨(some 133), .mv (.t 0), none, [], []⟩,
              ⟨(some 134), .mv (.t 8), none, [], []⟩,
              ⟨(some 135), .slice .str (.t 133) (some (.t 134)) none none, none, [], []⟩,
              ⟨(some 136), .mv (.t 1), none, [], []⟩,
              ⟨(some 137), .call (.f 106) [(.t 135), (.t 136)], none, [], []⟩,
              ⟨(some 13), .mv (.t 137), none, [], []⟩])
            (.seq
             (.seq
              (.reg false [⟨(some 138), .mv (.t 13), none, [], []⟩,
                ⟨(some 139), .bin .lss .i (.t 138) (.c (.int .i64 0)), none, [], []⟩])
              (.cond (.t 139)
               (.seq
                (.reg false [⟨(some 4), .mv (.c (.int .i64 (-1))), none, [], []⟩])
                .ret)
               .skip))
             (.seq
              (.reg false [⟨(some 140), .mv (.t 8), none, [], []⟩,
                ⟨(some 141), .mv (.t 13), none, [], []⟩,
                ⟨(some 142), .bin .add .i (.t 140) (.t 141), none, [], []⟩,
                ⟨(some 4), .mv (.t 142), none, [], []⟩])
              .ret)))
           .skip))))))))))
def k88l0 : K := .loop k88l0b
def k88b : K :=
 (.seq
  (.reg false [⟨(some 4), .mv (.c (.int .i64 0)), none, [], []⟩])
  (.seq
   (.reg false [⟨(some 14), .mv (.t 1), none, [], []⟩,
     ⟨(some 15), .len .str (.t 14), none, [], []⟩,
     ⟨(some 5), .mv (.t 15), none, [], []⟩])
   (.seq
    (.block 0
     (.seq
      (.reg false [⟨(some 17), .mv (.t 5), none, [], []⟩,
        ⟨(some 18), .bin .eql .i (.t 17) (.c (.int .i64 0)), none, [], []⟩,
        ⟨(some 19), .mv (.t 18), none, [], []⟩,
        ⟨(some 20), .mv (.t 1), (some (19, false)), [], []⟩,
        ⟨(some 21), .mv (.t 0), (some (19, false)), [], []⟩,
        ⟨(some 22), .bin .eql .s (.t 20) (.t 21), (some (19, false)), [], []⟩,
        ⟨(some 23), .pick (.t 19) (.c (.bool true)) (.t 22), none, [], []⟩,
        ⟨(some 16), .mv (.t 23), none, [], []⟩])
      (.cond (.t 16)
       (.seq
        (.reg false [⟨(some 4), .mv (.c (.int .i64 0)), none, [], []⟩])
        .ret)
       (.seq
        (.reg false [⟨(some 25), .mv (.t 5), none, [], []⟩,
          ⟨(some 26), .bin .eql .i (.t 25) (.c (.int .i64 1)), none, [], []⟩,
          ⟨(some 24), .mv (.t 26), none, [], []⟩])
        (.cond (.t 24)
         (.seq
          (.reg false [⟨(some 27), .mv (.t 0), none, [], []⟩,
            ⟨(some 28), .mv (.t 1), none, [], []⟩,
            ⟨(some 29), .ixs (.t 28) (.c (.int .i64 0)), none, [], []⟩,
            ⟨(some 30), .call (.f 103) [(.t 27), (.t 29)], none, [], []⟩,
            ⟨(some 4), .mv (.t 30), none, [], []⟩])
          .ret)
         (.seq
          (.reg false [⟨(some 32), .mv (.t 5), none, [], []⟩,
            ⟨(some 33), .mv (.t 0), none, [], []⟩,
            ⟨(some 34), .len .str (.t 33), none, [], []⟩,
            ⟨(some 35), .bin .geq .i (.t 32) (.t 34), none, [], []⟩,
            ⟨(some 31), .mv (.t 35), none, [], []⟩])
          (.cond (.t 31)
           (.seq
            (.reg false [⟨(some 4), .mv (.c (.int .i64 (-1))), none, [], []⟩])
            .ret)
           (.seq
            (.reg false [⟨(some 37), .mv (.t 5), none, [], []⟩,
              ⟨(some 38), .load false 1 (.g 2), none, [], []⟩,
              ⟨(some 39), .bin .leq .i (.t 37) (.t 38), none, [], []⟩,
              ⟨(some 40), .mv (.t 39), none, [], []⟩,
              ⟨(some 41), .mv (.t 0), (some (40, true)), [], []⟩,
              ⟨(some 42), .len .str (.t 41), (some (40, true)), [], []⟩,
              ⟨(some 43), .bin .leq .i (.t 42) (.c (.int .i64 64)), (some (40, true)), [], []⟩,
              ⟨(some 44), .pick (.t 40) (.t 43) (.c (.bool false)), none, [], []⟩,
              ⟨(some 36), .mv (.t 44), none, [], []⟩])
            (.cond (.t 36)
             (.seq
              (.reg false [⟨(some 45), .mv (.t 0), none, [], []⟩,
                ⟨(some 46), .mv (.t 1), none, [], []⟩,
                ⟨(some 47), .call (.f 104) [(.t 45), (.t 46)], none, [], []⟩,
                ⟨(some 4), .mv (.t 47), none, [], []⟩])
              .ret)
             .skip)))))))))
    (.seq
     (.reg false [⟨(some 48), .mv (.t 1), none, [], []⟩,
       ⟨(some 49), .ixs (.t 48) (.c (.int .i64 0)), none, [], []⟩,
       ⟨(some 6), .mv (.t 49), none, [], []⟩])
     (.seq
      (.reg false [⟨(some 50), .mv (.t 1), none, [], []⟩,
        ⟨(some 51), .ixs (.t 50) (.c (.int .i64 1)), none, [], []⟩,
        ⟨(some 7), .mv (.t 51), none, [], []⟩])
      (.seq
       (.reg false [⟨(some 8), .mv (.c (.int .i64 0)), none, [], []⟩])
       (.seq
        (.reg false [⟨(some 52), .mv (.t 0), none, [], []⟩,
          ⟨(some 53), .len .str (.t 52), none, [], []⟩,
          ⟨(some 54), .mv (.t 5), none, [], []⟩,
          ⟨(some 55), .bin .sub .i (.t 53) (.t 54), none, [], []⟩,
          ⟨(some 56), .bin .add .i (.t 55) (.c (.int .i64 1)), none, [], []⟩,
          ⟨(some 9), .mv (.t 56), none, [], []⟩])
        (.seq
         (.reg false [⟨(some 10), .mv (.c (.int .i64 0)), none, [], []⟩])
         (.seq
          (.block 1
           k88l0)
          (.seq
           (.reg false [⟨(some 4), .mv (.c (.int .i64 (-1))), none, [], []⟩])
           .ret))))))))))
def k88 : KBody := .code 143 [.tmp 4] true k88b
/-! strings.ContainsFunc -/
def k89b : K :=
 (.seq
  (.reg false [⟨(some 4), .mv (.c (.bool false)), none, [], []⟩])
  (.seq
   (.reg false [⟨(some 5), .mv (.t 0), none, [], []⟩,
     ⟨(some 6), .mv (.t 1), none, [], []⟩,
     ⟨(some 7), .call (.f 107) [(.t 5), (.t 6)], none, [], []⟩,
     ⟨(some 8), .bin .geq .i (.t 7) (.c (.int .i64 0)), none, [], []⟩,
     ⟨(some 4), .mv (.t 8), none, [], []⟩])
   .ret))
def k89 : KBody := .code 9 [.tmp 4] true k89b
/-! sentry/name.isWhole$1 -/
def k90b : K :=
 (.seq
  (.reg false [⟨(some 2), .mv (.c (.bool false)), none, [], []⟩])
  (.seq
   (.reg false [⟨(some 3), .mv (.t 0), none, [], []⟩,
     ⟨(some 4), .call (.f 91) [(.t 3)], none, [], []⟩,
     ⟨(some 5), .un .not (.t 4), none, [], []⟩,
     ⟨(some 2), .mv (.t 5), none, [], []⟩])
   .ret))
def k90 : KBody := .code 6 [.tmp 2] true k90b
/-! sentry/name.Char -/
def k91b : K :=
 (.seq
  (.reg false [⟨(some 2), .mv (.c (.bool false)), none, [], []⟩])
  (.seq
   (.block 0
    (.seq
     (.reg false [⟨(some 4), .mv (.t 0), none, [], []⟩,
       ⟨(some 5), .bin .eql .i (.t 4) (.c (.int .i32 9)), none, [], []⟩,
       ⟨(some 6), .mv (.t 5), none, [], []⟩,
       ⟨(some 7), .mv (.t 0), (some (6, false)), [], []⟩,
       ⟨(some 8), .bin .eql .i (.t 7) (.c (.int .i32 10)), (some (6, false)), [], []⟩,
       ⟨(some 9), .pick (.t 6) (.c (.bool true)) (.t 8), none, [], []⟩,
       ⟨(some 10), .mv (.t 9), none, [], []⟩,
       ⟨(some 11), .mv (.t 0), (some (10, false)), [], []⟩,
       ⟨(some 12), .bin .eql .i (.t 11) (.c (.int .i32 13)), (some (10, false)), [], []⟩,
       ⟨(some 13), .pick (.t 10) (.c (.bool true)) (.t 12), none, [], []⟩,
       ⟨(some 3), .mv (.t 13), none, [], []⟩])
     (.cond (.t 3)
      (.seq
       (.reg false [⟨(some 2), .mv (.c (.bool true)), none, [], []⟩])
       .ret)
      (.seq
       (.reg false [⟨(some 15), .mv (.t 0), none, [], []⟩,
         ⟨(some 16), .bin .geq .i (.t 15) (.c (.int .i32 65536)), none, [], []⟩,
         ⟨(some 14), .mv (.t 16), none, [], []⟩])
       (.cond (.t 14)
        (.seq
         (.reg false [⟨(some 17), .mv (.t 0), none, [], []⟩,
           ⟨(some 18), .bin .leq .i (.t 17) (.c (.int .i32 1114111)), none, [], []⟩,
           ⟨(some 2), .mv (.t 18), none, [], []⟩])
         .ret)
        .skip)))))
   (.seq
    (.reg false [⟨(some 19), .mv (.t 0), none, [], []⟩,
      ⟨(some 20), .bin .geq .i (.t 19) (.c (.int .i32 32)), none, [], []⟩,
      ⟨(some 21), .mv (.t 20), none, [], []⟩,
      ⟨(some 22), .mv (.t 0), (some (21, true)), [], []⟩,
      ⟨(some 23), .bin .leq .i (.t 22) (.c (.int .i32 55295)), (some (21, true)), [], []⟩,
      ⟨(some 24), .pick (.t 21) (.t 23) (.c (.bool false)), none, [], []⟩,
      ⟨(some 25), .mv (.t 24), none, [], []⟩,
      ⟨(some 26), .mv (.t 0), (some (25, false)), [], []⟩,
      ⟨(some 27), .bin .geq .i (.t 26) (.c (.int .i32 57344)), (some (25, false)), [], []⟩,
      ⟨(some 28), .mv (.t 27), (some (25, false)), [], []⟩,
      ⟨(some 29), .mv (.t 0), (some (28, true)), [], []⟩,
      ⟨(some 30), .bin .leq .i (.t 29) (.c (.int .i32 65533)), (some (28, true)), [], []⟩,
      ⟨(some 31), .pick (.t 28) (.t 30) (.c (.bool false)), (some (25, false)), [], []⟩,
      ⟨(some 32), .pick (.t 25) (.c (.bool true)) (.t 31), none, [], []⟩,
      ⟨(some 2), .mv (.t 32), none, [], []⟩])
    .ret)))
def k91 : KBody := .code 33 [.tmp 2] true k91b
/-! strings.CutPrefix -/
def k92b : K :=
 (.seq
  (.reg false [⟨(some 4), .mv (.c (.str [])), none, [], []⟩,
    ⟨(some 5), .mv (.c (.bool false)), none, [], []⟩])
  (.seq
   (.reg false [⟨(some 6), .mv (.t 0), none, [], []⟩,
     ⟨(some 7), .mv (.t 1), none, [], []⟩,
     ⟨(some 8), .call (.f 108) [(.t 6), (.t 7)], none, [], []⟩,
     ⟨(some 9), .extract (.t 8) 0, none, [], []⟩,
     ⟨(some 10), .extract (.t 8) 1, none, [], []⟩,
     ⟨(some 4), .mv (.t 9), none, [], []⟩,
     ⟨(some 5), .mv (.t 10), none, [], []⟩])
   .ret))
def k92 : KBody := .code 11 [.tmp 4, .tmp 5] true k92b
/-! sentry/name.numbered -/
def k93b : K :=
 (.seq
  (.reg false [⟨(some 2), .mv (.c (.str [])), none, [], []⟩,
    ⟨(some 3), .mv (.c (.bool false)), none, [], []⟩])
  (.seq
   (.reg false [⟨(some 4), .mv (.c (.int .i64 10)), none, [], []⟩])
   (.seq
    (.seq
     (.reg false [⟨(some 10), .mv (.t 0), none, [], []⟩,
       ⟨(some 11), .call (.f 92) [(.t 10), (.c (.str [120]))], none, [], []⟩,
       ⟨(some 9), .mv (.t 11), none, [], []⟩,
       ⟨(some 12), .extract (.t 9) 0, none, [], []⟩,
       ⟨(some 13), .extract (.t 9) 1, none, [], []⟩,
       ⟨(some 5), .mv (.t 12), none, [], []⟩,
       ⟨(some 6), .mv (.t 13), none, [], []⟩])
     (.seq
      (.reg false [⟨(some 14), .mv (.t 6), none, [], []⟩])
      (.cond (.t 14)
       (.reg false [⟨(some 15), .mv (.t 5), none, [], []⟩,
         ⟨(some 0), .mv (.t 15), none, [], []⟩,
         ⟨(some 4), .mv (.c (.int .i64 16)), none, [], []⟩])
       .skip)))
    (.seq
     (.seq
      (.reg false [⟨(some 16), .mv (.t 0), none, [], []⟩,
        ⟨(some 17), .bin .eql .s (.t 16) (.c (.str [])), none, [], []⟩,
        ⟨(some 18), .mv (.t 17), none, [], []⟩,
        ⟨(some 19), .mv (.t 0), (some (18, false)), [], []⟩,
        ⟨(some 20), .len .str (.t 19), (some (18, false)), [], []⟩,
        ⟨(some 21), .bin .gtr .i (.t 20) (.c (.int .i64 7)), (some (18, false)), [], []⟩,
        ⟨(some 22), .pick (.t 18) (.c (.bool true)) (.t 21), none, [], []⟩,
        ⟨(some 23), .mv (.t 22), none, [], []⟩,
        ⟨(some 24), .mv (.t 0), (some (23, false)), [], []⟩,
        ⟨(some 25), .ixs (.t 24) (.c (.int .i64 0)), (some (23, false)), [], []⟩,
        ⟨(some 26), .bin .eql .i (.t 25) (.c (.int .u8 43)), (some (23, false)), [], []⟩,
        ⟨(some 27), .pick (.t 23) (.c (.bool true)) (.t 26), none, [], []⟩,
        ⟨(some 28), .mv (.t 27), none, [], []⟩,
        ⟨(some 29), .mv (.t 0), (some (28, false)), [], []⟩,
        ⟨(some 30), .ixs (.t 29) (.c (.int .i64 0)), (some (28, false)), [], []⟩,
        ⟨(some 31), .bin .eql .i (.t 30) (.c (.int .u8 45)), (some (28, false)), [], []⟩,
        ⟨(some 32), .pick (.t 28) (.c (.bool true)) (.t 31), none, [], []⟩])
      (.cond (.t 32)
       (.seq
        (.reg false [⟨(some 2), .mv (.c (.str [])), none, [], []⟩,
          ⟨(some 3), .mv (.c (.bool false)), none, [], []⟩])
        .ret)
       .skip))
     (.seq
      (.reg false [⟨(some 34), .mv (.t 0), none, [], []⟩,
        ⟨(some 35), .mv (.t 4), none, [], []⟩,
        ⟨(some 36), .call (.f 109) [(.t 34), (.t 35), (.c (.int .i64 32))], none, [], []⟩,
        ⟨(some 33), .mv (.t 36), none, [], []⟩,
        ⟨(some 37), .extract (.t 33) 0, none, [], []⟩,
        ⟨(some 38), .extract (.t 33) 1, none, [], []⟩,
        ⟨(some 7), .mv (.t 37), none, [], []⟩,
        ⟨(some 8), .mv (.t 38), none, [], []⟩])
      (.seq
       (.seq
        (.reg false [⟨(some 39), .mv (.t 8), none, [], []⟩,
          ⟨(some 40), .bin .neq .ic (.t 39) (.c (.nili)), none, [], []⟩,
          ⟨(some 41), .mv (.t 40), none, [], []⟩,
          ⟨(some 42), .mv (.t 7), (some (41, false)), [], []⟩,
          ⟨(some 43), .conv (.toInt .i32) (.t 42), (some (41, false)), [], []⟩,
          ⟨(some 44), .call (.f 91) [(.t 43)], (some (41, false)), [], []⟩,
          ⟨(some 45), .un .not (.t 44), (some (41, false)), [], []⟩,
          ⟨(some 46), .pick (.t 41) (.c (.bool true)) (.t 45), none, [], []⟩])
        (.cond (.t 46)
         (.seq
          (.reg false [⟨(some 2), .mv (.c (.str [])), none, [], []⟩,
            ⟨(some 3), .mv (.c (.bool false)), none, [], []⟩])
          .ret)
         .skip))
       (.seq
        (.reg false [⟨(some 47), .mv (.t 7), none, [], []⟩,
          ⟨(some 48), .conv (.toInt .i32) (.t 47), none, [], []⟩,
          ⟨(some 49), .conv .runeToStr (.t 48), none, [], []⟩,
          ⟨(some 2), .mv (.t 49), none, [], []⟩,
          ⟨(some 3), .mv (.c (.bool true)), none, [], []⟩])
        .ret)))))))
def k93 : KBody := .code 50 [.tmp 2, .tmp 3] true k93b
/-! sentry/name.isLetter -/
def k99b : K :=
 (.seq
  (.reg false [⟨(some 2), .mv (.c (.bool false)), none, [], []⟩])
  (.seq
   (.reg false [⟨(some 3), .mv (.t 0), none, [], []⟩,
     ⟨(some 4), .bin .geq .i (.t 3) (.c (.int .u8 97)), none, [], []⟩,
     ⟨(some 5), .mv (.t 4), none, [], []⟩,
     ⟨(some 6), .mv (.t 0), (some (5, true)), [], []⟩,
     ⟨(some 7), .bin .leq .i (.t 6) (.c (.int .u8 122)), (some (5, true)), [], []⟩,
     ⟨(some 8), .pick (.t 5) (.t 7) (.c (.bool false)), none, [], []⟩,
     ⟨(some 9), .mv (.t 8), none, [], []⟩,
     ⟨(some 10), .mv (.t 0), (some (9, false)), [], []⟩,
     ⟨(some 11), .bin .geq .i (.t 10) (.c (.int .u8 65)), (some (9, false)), [], []⟩,
     ⟨(some 12), .mv (.t 11), (some (9, false)), [], []⟩,
     ⟨(some 13), .mv (.t 0), (some (12, true)), [], []⟩,
     ⟨(some 14), .bin .leq .i (.t 13) (.c (.int .u8 90)), (some (12, true)), [], []⟩,
     ⟨(some 15), .pick (.t 12) (.t 14) (.c (.bool false)), (some (9, false)), [], []⟩,
     ⟨(some 16), .pick (.t 9) (.c (.bool true)) (.t 15), none, [], []⟩,
     ⟨(some 17), .mv (.t 16), none, [], []⟩,
     ⟨(some 18), .mv (.t 0), (some (17, false)), [], []⟩,
     ⟨(some 19), .bin .eql .i (.t 18) (.c (.int .u8 95)), (some (17, false)), [], []⟩,
     ⟨(some 20), .pick (.t 17) (.c (.bool true)) (.t 19), none, [], []⟩,
     ⟨(some 2), .mv (.t 20), none, [], []⟩])
   .ret))
def k99 : KBody := .code 21 [.tmp 2] true k99b
/-! sentry/name.isMore -/
def k100b : K :=
 (.seq
  (.reg false [⟨(some 2), .mv (.c (.bool false)), none, [], []⟩])
  (.seq
   (.reg false [⟨(some 3), .mv (.t 0), none, [], []⟩,
     ⟨(some 4), .call (.f 99) [(.t 3)], none, [], []⟩,
     ⟨(some 5), .mv (.t 4), none, [], []⟩,
     ⟨(some 6), .mv (.t 0), (some (5, false)), [], []⟩,
     ⟨(some 7), .bin .geq .i (.t 6) (.c (.int .u8 48)), (some (5, false)), [], []⟩,
     ⟨(some 8), .mv (.t 7), (some (5, false)), [], []⟩,
     ⟨(some 9), .mv (.t 0), (some (8, true)), [], []⟩,
     ⟨(some 10), .bin .leq .i (.t 9) (.c (.int .u8 57)), (some (8, true)), [], []⟩,
     ⟨(some 11), .pick (.t 8) (.t 10) (.c (.bool false)), (some (5, false)), [], []⟩,
     ⟨(some 12), .pick (.t 5) (.c (.bool true)) (.t 11), none, [], []⟩,
     ⟨(some 13), .mv (.t 12), none, [], []⟩,
     ⟨(some 14), .mv (.t 0), (some (13, false)), [], []⟩,
     ⟨(some 15), .bin .eql .i (.t 14) (.c (.int .u8 45)), (some (13, false)), [], []⟩,
     ⟨(some 16), .pick (.t 13) (.c (.bool true)) (.t 15), none, [], []⟩,
     ⟨(some 17), .mv (.t 16), none, [], []⟩,
     ⟨(some 18), .mv (.t 0), (some (17, false)), [], []⟩,
     ⟨(some 19), .bin .eql .i (.t 18) (.c (.int .u8 46)), (some (17, false)), [], []⟩,
     ⟨(some 20), .pick (.t 17) (.c (.bool true)) (.t 19), none, [], []⟩,
     ⟨(some 2), .mv (.t 20), none, [], []⟩])
   .ret))
def k100 : KBody := .code 21 [.tmp 2] true k100b
/-! (*strings.asciiSet).contains -/
def k101b : K :=
 (.seq
  (.reg false [⟨(some 4), .mv (.c (.bool false)), none, [], []⟩])
  (.seq
   (.reg false [⟨(some 5), .mv (.t 0), none, [], []⟩,
     ⟨(some 6), .mv (.t 1), none, [], []⟩,
     ⟨(some 7), .nilchk (.t 5), none, [], []⟩,
     ⟨(some 8), .iaddr (some 256) 1 (.t 7) (.t 6), none, [], []⟩,
     ⟨(some 9), .load false 1 (.t 8), none, [], []⟩,
     ⟨(some 4), .mv (.t 9), none, [], []⟩])
   .ret))
def k101 : KBody := .code 10 [.tmp 4] true k101b
/-! internal/stringslite.IndexByte -/
def k103b : K :=
 (.seq
  (.reg false [⟨(some 4), .mv (.c (.int .i64 0)), none, [], []⟩])
  (.seq
   (.reg false [⟨(some 5), .mv (.t 0), none, [], []⟩,
     ⟨(some 6), .mv (.t 1), none, [], []⟩,
     ⟨(some 7), .call (.f 113) [(.t 5), (.t 6)], none, [], []⟩,
     ⟨(some 4), .mv (.t 7), none, [], []⟩])
   .ret))
def k103 : KBody := .code 8 [.tmp 4] true k103b
/-! strings.IndexFunc -/
def k107b : K :=
 (.seq
  (.reg false [⟨(some 4), .mv (.c (.int .i64 0)), none, [], []⟩])
  (.seq
   (.reg false [⟨(some 5), .mv (.t 0), none, [], []⟩,
     ⟨(some 6), .mv (.t 1), none, [], []⟩,
     ⟨(some 7), .call (.f 80) [(.t 5), (.t 6), (.c (.bool true))], none, [], []⟩,
     ⟨(some 4), .mv (.t 7), none, [], []⟩])
   .ret))
def k107 : KBody := .code 8 [.tmp 4] true k107b
/-! internal/stringslite.CutPrefix -/
def k108b : K :=
 (.seq
  (.reg false [⟨(some 4), .mv (.c (.str [])), none, [], []⟩,
    ⟨(some 5), .mv (.c (.bool false)), none, [], []⟩])
  (.seq
   (.seq
    (.reg false [⟨(some 6), .mv (.t 0), none, [], []⟩,
      ⟨(some 7), .mv (.t 1), none, [], []⟩,
      ⟨(some 8), .call (.f 63) [(.t 6), (.t 7)], none, [], []⟩,
      ⟨(some 9), .un .not (.t 8), none, [], []⟩])
    (.cond (.t 9)
     (.seq
      (.reg false [⟨(some 10), .mv (.t 0), none, [], []⟩,
        ⟨(some 4), .mv (.t 10), none, [], []⟩,
        ⟨(some 5), .mv (.c (.bool false)), none, [], []⟩])
      .ret)
     .skip))
   (.seq
    (.reg false [⟨(some 11), .mv (.t 0), none, [], []⟩,
      ⟨(some 12), .mv (.t 1), none, [], []⟩,
      ⟨(some 13), .len .str (.t 12), none, [], []⟩,
      ⟨(some 14), .slice .str (.t 11) (some (.t 13)) none none, none, [], []⟩,
      ⟨(some 4), .mv (.t 14), none, [], []⟩,
      ⟨(some 5), .mv (.c (.bool true)), none, [], []⟩])
    .ret)))
def k108 : KBody := .code 15 [.tmp 4, .tmp 5] true k108b
/-! strconv.ParseUint -/
def k109b : K :=
 (.seq
  (.reg false [⟨(some 6), .mv (.c (.int .u64 0)), none, [], []⟩,
    ⟨(some 7), .mv (.c (.nili)), none, [], []⟩])
  (.seq
   (.reg false [⟨(some 11), .mv (.t 0), none, [], []⟩,
     ⟨(some 12), .mv (.t 1), none, [], []⟩,
     ⟨(some 13), .mv (.t 2), none, [], []⟩,
     ⟨(some 14), .call (.f 115) [(.t 11), (.t 12), (.t 13)], none, [], []⟩,
     ⟨(some 10), .mv (.t 14), none, [], []⟩,
     ⟨(some 15), .extract (.t 10) 0, none, [], []⟩,
     ⟨(some 16), .extract (.t 10) 1, none, [], []⟩,
     ⟨(some 8), .mv (.t 15), none, [], []⟩,
     ⟨(some 9), .mv (.t 16), none, [], []⟩])
   (.seq
    (.seq
     (.reg false [⟨(some 17), .mv (.t 9), none, [], []⟩,
       ⟨(some 18), .bin .neq .ic (.t 17) (.c (.nili)), none, [], []⟩])
     (.cond (.t 18)
      (.seq
       (.reg false [⟨(some 19), .mv (.t 8), none, [], []⟩,
         ⟨(some 20), .mv (.t 0), none, [], []⟩,
         ⟨(some 21), .mv (.t 1), none, [], []⟩,
         ⟨(some 22), .mv (.t 2), none, [], []⟩,
         ⟨(some 23), .mv (.t 9), none, [], []⟩,
         ⟨(some 24), .call (.f 116) [(.c (.str [80, 97, 114, 115, 101, 85, 105, 110, 116])), (.t 20), (.t 21), (.t 22), (.t 23)], none, [], []⟩,
         ⟨(some 6), .mv (.t 19), none, [], []⟩,
         ⟨(some 7), .mv (.t 24), none, [], []⟩])
       .ret)
      .skip))
    (.seq
     (.reg false [⟨(some 25), .mv (.t 8), none, [], []⟩,
       ⟨(some 6), .mv (.t 25), none, [], []⟩,
       ⟨(some 7), .mv (.c (.nili)), none, [], []⟩])
     .ret))))
def k109 : KBody := .code 26 [.tmp 6, .tmp 7] true k109b
/-! internal/strconv.ParseUint -/
def k115l0b : K :=
 (.seq
  (.reg false [⟨(some 102), .bin .lss .i (.t 101) (.t 100), none, [], []⟩])
  (.seq
   (.cond (.t 102)
    .skip
    (.exit 3))
   (.seq
    (.block 4
     (.seq
      (.reg false [⟨(some 103), .iaddr none 1 (.t 99) (.t 101), none, [], []⟩,
        ⟨(some 104), .load false 1 (.t 103), none, [], []⟩,
        ⟨(some 15), .mv (.t 104), none, [], []⟩])
      (.seq
       (.reg false [⟨(some 16), .mv (.c (.int .u8 0)), none, [], []⟩])
       (.seq
        (.block 5
         (.seq
          (.reg false [⟨(some 107), .mv (.t 15), none, [], []⟩,
            ⟨(some 108), .bin .eql .i (.t 107) (.c (.int .u8 95)), none, [], []⟩,
            ⟨(some 109), .mv (.t 108), none, [], []⟩,
            ⟨(some 110), .mv (.t 8), (some (109, true)), [], []⟩,
            ⟨(some 111), .pick (.t 109) (.t 110) (.c (.bool false)), none, [], []⟩,
            ⟨(some 106), .mv (.t 111), none, [], []⟩])
          (.cond (.t 106)
           (.seq
            (.reg false [⟨(some 12), .mv (.c (.bool true)), none, [], []⟩])
            (.exit 4))
           (.seq
            (.reg false [⟨(some 113), .mv (.t 15), none, [], []⟩,
              ⟨(some 114), .bin .leq .i (.c (.int .u8 48)) (.t 113), none, [], []⟩,
              ⟨(some 115), .mv (.t 114), none, [], []⟩,
              ⟨(some 116), .mv (.t 15), (some (115, true)), [], []⟩,
              ⟨(some 117), .bin .leq .i (.t 116) (.c (.int .u8 57)), (some (115, true)), [], []⟩,
              ⟨(some 118), .pick (.t 115) (.t 117) (.c (.bool false)), none, [], []⟩,
              ⟨(some 112), .mv (.t 118), none, [], []⟩])
            (.cond (.t 112)
             (.reg false [⟨(some 119), .mv (.t 15), none, [], []⟩,
               ⟨(some 120), .bin .sub .i (.t 119) (.c (.int .u8 48)), none, [], []⟩,
               ⟨(some 16), .mv (.t 120), none, [], []⟩])
             (.seq
              (.reg false [⟨(some 122), .mv (.t 15), none, [], []⟩,
                ⟨(some 123), .call (.f 120) [(.t 122)], none, [], []⟩,
                ⟨(some 124), .bin .leq .i (.c (.int .u8 97)) (.t 123), none, [], []⟩,
                ⟨(some 125), .mv (.t 124), none, [], []⟩,
                ⟨(some 126), .mv (.t 15), (some (125, true)), [], []⟩,
                ⟨(some 127), .call (.f 120) [(.t 126)], (some (125, true)), [], []⟩,
                ⟨(some 128), .bin .leq .i (.t 127) (.c (.int .u8 122)), (some (125, true)), [], []⟩,
                ⟨(some 129), .pick (.t 125) (.t 128) (.c (.bool false)), none, [], []⟩,
                ⟨(some 121), .mv (.t 129), none, [], []⟩])
              (.cond (.t 121)
               (.reg false [⟨(some 130), .mv (.t 15), none, [], []⟩,
                 ⟨(some 131), .call (.f 120) [(.t 130)], none, [], []⟩,
                 ⟨(some 132), .bin .sub .i (.t 131) (.c (.int .u8 97)), none, [], []⟩,
                 ⟨(some 133), .bin .add .i (.t 132) (.c (.int .u8 10)), none, [], []⟩,
                 ⟨(some 16), .mv (.t 133), none, [], []⟩])
               (.seq
                (.reg false [⟨(some 105), .mkif 126 (.c (.int .i64 2)), none, [], []⟩,
                  ⟨(some 6), .mv (.c (.int .u64 0)), none, [], []⟩,
                  ⟨(some 7), .mv (.t 105), none, [], []⟩])
                .ret))))))))
        (.seq
         (.seq
          (.reg false [⟨(some 134), .mv (.t 16), none, [], []⟩,
            ⟨(some 135), .mv (.t 1), none, [], []⟩,
            ⟨(some 136), .conv (.toInt .u8) (.t 135), none, [], []⟩,
            ⟨(some 137), .bin .geq .i (.t 134) (.t 136), none, [], []⟩])
          (.cond (.t 137)
           (.seq
            (.reg false [⟨(some 138), .mkif 126 (.c (.int .i64 2)), none, [], []⟩,
              ⟨(some 6), .mv (.c (.int .u64 0)), none, [], []⟩,
              ⟨(some 7), .mv (.t 138), none, [], []⟩])
            .ret)
           .skip))
         (.seq
          (.seq
           (.reg false [⟨(some 139), .mv (.t 13), none, [], []⟩,
             ⟨(some 140), .mv (.t 10), none, [], []⟩,
             ⟨(some 141), .bin .geq .i (.t 139) (.t 140), none, [], []⟩])
           (.cond (.t 141)
            (.seq
             (.reg false [⟨(some 142), .mv (.t 11), none, [], []⟩,
               ⟨(some 143), .mkif 126 (.c (.int .i64 1)), none, [], []⟩,
               ⟨(some 6), .mv (.t 142), none, [], []⟩,
               ⟨(some 7), .mv (.t 143), none, [], []⟩])
             .ret)
            .skip))
          (.seq
           (.reg false [⟨(some 144), .mv (.t 13), none, [], []⟩,
             ⟨(some 145), .mv (.t 1), none, [], []⟩,
             ⟨(some 146), .conv (.toInt .u64) (.t 145), none, [], []⟩,
             ⟨(some 147), .bin .mul .i (.t 144) (.t 146), none, [], []⟩,
             ⟨(some 13), .mv (.t 147), none, [], []⟩])
           (.seq
            (.reg false [⟨(some 148), .mv (.t 13), none, [], []⟩,
              ⟨(some 149), .mv (.t 16), none, [], []⟩,
              ⟨(some 150), .conv (.toInt .u64) (.t 149), none, [], []⟩,
              ⟨(some 151), .bin .add .i (.t 148) (.t 150), none, [], []⟩,
              ⟨(some 17), .mv (.t 151), none, [], []⟩])
            (.seq
             (.seq
              (.reg false [⟨(some 152), .mv (.t 17), none, [], []⟩,
                ⟨(some 153), .mv (.t 13), none, [], []⟩,
                ⟨(some 154), .bin .lss .i (.t 152) (.t 153), none, [], []⟩,
                ⟨(some 155), .mv (.t 154), none, [], []⟩,
                ⟨(some 156), .mv (.t 17), (some (155, false)), [], []⟩,
                ⟨(some 157), .mv (.t 11), (some (155, false)), [], []⟩,
                ⟨(some 158), .bin .gtr .i (.t 156) (.t 157), (some (155, false)), [], []⟩,
                ⟨(some 159), .pick (.t 155) (.c (.bool true)) (.t 158), none, [], []⟩])
              (.cond (.t 159)
               (.seq
                (.reg false [⟨(some 160), .mv (.t 11), none, [], []⟩,
                  ⟨(some 161), .mkif 126 (.c (.int .i64 1)), none, [], []⟩,
                  ⟨(some 6), .mv (.t 160), none, [], []⟩,
                  ⟨(some 7), .mv (.t 161), none, [], []⟩])
                .ret)
               .skip))
             (.reg false [⟨(some 162), .mv (.t 17), none, [], []⟩,
               ⟨(some 13), .mv (.t 162), none, [], []⟩]))))))))))
    (.reg false [⟨(some 163), .bin .add .i (.t 101) (.c (.int .i64 1)), none, [], []⟩,
      ⟨(some 101), .mv (.t 163), none, [], []⟩]))))
def k115l0 : K := .loop k115l0b
def k115b : K :=
 (.seq
  (.reg false [⟨(some 6), .mv (.c (.int .u64 0)), none, [], []⟩,
    ⟨(some 7), .mv (.c (.nili)), none, [], []⟩])
  (.seq
   (.seq
    (.reg false [⟨(some 18), .mv (.t 0), none, [], []⟩,
      ⟨(some 19), .bin .eql .s (.t 18) (.c (.str [])), none, [], []⟩])
    (.cond (.t 19)
     (.seq
      (.reg false [⟨(some 20), .mkif 126 (.c (.int .i64 2)), none, [], []⟩,
        ⟨(some 6), .mv (.c (.int .u64 0)), none, [], []⟩,
        ⟨(some 7), .mv (.t 20), none, [], []⟩])
      .ret)
     .skip))
   (.seq
    (.reg false [⟨(some 21), .mv (.t 1), none, [], []⟩,
      ⟨(some 22), .bin .eql .i (.t 21) (.c (.int .i64 0)), none, [], []⟩,
      ⟨(some 8), .mv (.t 22), none, [], []⟩])
    (.seq
     (.reg false [⟨(some 23), .mv (.t 0), none, [], []⟩,
       ⟨(some 9), .mv (.t 23), none, [], []⟩])
     (.seq
      (.block 0
       (.seq
        (.reg false [⟨(some 26), .mv (.t 1), none, [], []⟩,
          ⟨(some 27), .bin .leq .i (.c (.int .i64 2)) (.t 26), none, [], []⟩,
          ⟨(some 28), .mv (.t 27), none, [], []⟩,
          ⟨(some 29), .mv (.t 1), (some (28, true)), [], []⟩,
          ⟨(some 30), .bin .leq .i (.t 29) (.c (.int .i64 36)), (some (28, true)), [], []⟩,
          ⟨(some 31), .pick (.t 28) (.t 30) (.c (.bool false)), none, [], []⟩,
          ⟨(some 25), .mv (.t 31), none, [], []⟩])
        (.cond (.t 25)
         .skip
         (.seq
          (.reg false [⟨(some 33), .mv (.t 1), none, [], []⟩,
            ⟨(some 34), .bin .eql .i (.t 33) (.c (.int .i64 0)), none, [], []⟩,
            ⟨(some 32), .mv (.t 34), none, [], []⟩])
          (.cond (.t 32)
           (.seq
            (.reg false [⟨(some 1), .mv (.c (.int .i64 10)), none, [], []⟩])
            (.seq
             (.reg false [⟨(some 35), .mv (.t 0), none, [], []⟩,
               ⟨(some 36), .ixs (.t 35) (.c (.int .i64 0)), none, [], []⟩,
               ⟨(some 37), .bin .eql .i (.t 36) (.c (.int .u8 48)), none, [], []⟩])
             (.cond (.t 37)
              (.block 1
               (.seq
                (.reg false [⟨(some 41), .mv (.t 0), none, [], []⟩,
                  ⟨(some 42), .len .str (.t 41), none, [], []⟩,
                  ⟨(some 43), .bin .geq .i (.t 42) (.c (.int .i64 3)), none, [], []⟩,
                  ⟨(some 44), .mv (.t 43), none, [], []⟩,
                  ⟨(some 45), .mv (.t 0), (some (44, true)), [], []⟩,
                  ⟨(some 46), .ixs (.t 45) (.c (.int .i64 1)), (some (44, true)), [], []⟩,
                  ⟨(some 47), .call (.f 120) [(.t 46)], (some (44, true)), [], []⟩,
                  ⟨(some 48), .bin .eql .i (.t 47) (.c (.int .u8 98)), (some (44, true)), [], []⟩,
                  ⟨(some 49), .pick (.t 44) (.t 48) (.c (.bool false)), none, [], []⟩,
                  ⟨(some 40), .mv (.t 49), none, [], []⟩])
                (.cond (.t 40)
                 (.seq
                  (.reg false [⟨(some 1), .mv (.c (.int .i64 2)), none, [], []⟩])
                  (.reg false [⟨(some 50), .mv (.t 0), none, [], []⟩,
                    ⟨(some 51), .slice .str (.t 50) (some (.c (.int .i64 2))) none none, none, [], []⟩,
                    ⟨(some 0), .mv (.t 51), none, [], []⟩]))
                 (.seq
                  (.reg false [⟨(some 53), .mv (.t 0), none, [], []⟩,
                    ⟨(some 54), .len .str (.t 53), none, [], []⟩,
                    ⟨(some 55), .bin .geq .i (.t 54) (.c (.int .i64 3)), none, [], []⟩,
                    ⟨(some 56), .mv (.t 55), none, [], []⟩,
                    ⟨(some 57), .mv (.t 0), (some (56, true)), [], []⟩,
                    ⟨(some 58), .ixs (.t 57) (.c (.int .i64 1)), (some (56, true)), [], []⟩,
                    ⟨(some 59), .call (.f 120) [(.t 58)], (some (56, true)), [], []⟩,
                    ⟨(some 60), .bin .eql .i (.t 59) (.c (.int .u8 111)), (some (56, true)), [], []⟩,
                    ⟨(some 61), .pick (.t 56) (.t 60) (.c (.bool false)), none, [], []⟩,
                    ⟨(some 52), .mv (.t 61), none, [], []⟩])
                  (.cond (.t 52)
                   (.seq
                    (.reg false [⟨(some 1), .mv (.c (.int .i64 8)), none, [], []⟩])
                    (.reg false [⟨(some 62), .mv (.t 0), none, [], []⟩,
                      ⟨(some 63), .slice .str (.t 62) (some (.c (.int .i64 2))) none none, none, [], []⟩,
                      ⟨(some 0), .mv (.t 63), none, [], []⟩]))
                   (.seq
                    (.reg false [⟨(some 65), .mv (.t 0), none, [], []⟩,
                      ⟨(some 66), .len .str (.t 65), none, [], []⟩,
                      ⟨(some 67), .bin .geq .i (.t 66) (.c (.int .i64 3)), none, [], []⟩,
                      ⟨(some 68), .mv (.t 67), none, [], []⟩,
                      ⟨(some 69), .mv (.t 0), (some (68, true)), [], []⟩,
                      ⟨(some 70), .ixs (.t 69) (.c (.int .i64 1)), (some (68, true)), [], []⟩,
                      ⟨(some 71), .call (.f 120) [(.t 70)], (some (68, true)), [], []⟩,
                      ⟨(some 72), .bin .eql .i (.t 71) (.c (.int .u8 120)), (some (68, true)), [], []⟩,
                      ⟨(some 73), .pick (.t 68) (.t 72) (.c (.bool false)), none, [], []⟩,
                      ⟨(some 64), .mv (.t 73), none, [], []⟩])
                    (.cond (.t 64)
                     (.seq
                      (.reg false [⟨(some 1), .mv (.c (.int .i64 16)), none, [], []⟩])
                      (.reg false [⟨(some 74), .mv (.t 0), none, [], []⟩,
                        ⟨(some 75), .slice .str (.t 74) (some (.c (.int .i64 2))) none none, none, [], []⟩,
                        ⟨(some 0), .mv (.t 75), none, [], []⟩]))
                     (.seq
                      (.reg false [⟨(some 1), .mv (.c (.int .i64 8)), none, [], []⟩])
                      (.reg false [⟨(some 38), .mv (.t 0), none, [], []⟩,
                        ⟨(some 39), .slice .str (.t 38) (some (.c (.int .i64 1))) none none, none, [], []⟩,
                        ⟨(some 0), .mv (.t 39), none, [], []⟩])))))))))
              .skip)))
           (.seq
            (.reg false [⟨(some 24), .mkif 126 (.c (.int .i64 3)), none, [], []⟩,
              ⟨(some 6), .mv (.c (.int .u64 0)), none, [], []⟩,
              ⟨(some 7), .mv (.t 24), none, [], []⟩])
            .ret))))))
      (.seq
       (.seq
        (.reg false [⟨(some 76), .mv (.t 2), none, [], []⟩,
          ⟨(some 77), .bin .eql .i (.t 76) (.c (.int .i64 0)), none, [], []⟩])
        (.cond (.t 77)
         (.reg false [⟨(some 2), .mv (.c (.int .i64 64)), none, [], []⟩])
         (.seq
          (.reg false [⟨(some 78), .mv (.t 2), none, [], []⟩,
            ⟨(some 79), .bin .lss .i (.t 78) (.c (.int .i64 0)), none, [], []⟩,
            ⟨(some 80), .mv (.t 79), none, [], []⟩,
            ⟨(some 81), .mv (.t 2), (some (80, false)), [], []⟩,
            ⟨(some 82), .bin .gtr .i (.t 81) (.c (.int .i64 64)), (some (80, false)), [], []⟩,
            ⟨(some 83), .pick (.t 80) (.c (.bool true)) (.t 82), none, [], []⟩])
          (.cond (.t 83)
           (.seq
            (.reg false [⟨(some 84), .mkif 126 (.c (.int .i64 4)), none, [], []⟩,
              ⟨(some 6), .mv (.c (.int .u64 0)), none, [], []⟩,
              ⟨(some 7), .mv (.t 84), none, [], []⟩])
            .ret)
           .skip))))
       (.seq
        (.reg false [⟨(some 10), .mv (.c (.int .u64 0)), none, [], []⟩])
        (.seq
         (.seq
          (.reg false [⟨(some 85), .mv (.t 1), none, [], []⟩])
          (.block 2
           (.seq
            (.reg false [⟨(some 91), .bin .eql .i (.t 85) (.c (.int .i64 10)), none, [], []⟩,
              ⟨(some 90), .mv (.t 91), none, [], []⟩])
            (.cond (.t 90)
             (.reg false [⟨(some 10), .mv (.c (.int .u64 1844674407370955162)), none, [], []⟩])
             (.seq
              (.reg false [⟨(some 93), .bin .eql .i (.t 85) (.c (.int .i64 16)), none, [], []⟩,
                ⟨(some 92), .mv (.t 93), none, [], []⟩])
              (.cond (.t 92)
               (.reg false [⟨(some 10), .mv (.c (.int .u64 1152921504606846976)), none, [], []⟩])
               (.reg false [⟨(some 86), .mv (.t 1), none, [], []⟩,
                 ⟨(some 87), .conv (.toInt .u64) (.t 86), none, [], []⟩,
                 ⟨(some 88), .bin .quo .i (.c (.int .u64 18446744073709551615)) (.t 87), none, [], []⟩,
                 ⟨(some 89), .bin .add .i (.t 88) (.c (.int .u64 1)), none, [], []⟩,
                 ⟨(some 10), .mv (.t 89), none, [], []⟩])))))))
         (.seq
          (.reg false [⟨(some 94), .mv (.t 2), none, [], []⟩,
            ⟨(some 95), .conv (.toInt .u64) (.t 94), none, [], []⟩,
            ⟨(some 96), .bin .shl .i (.c (.int .u64 1)) (.t 95), none, [], []⟩,
            ⟨(some 97), .bin .sub .i (.t 96) (.c (.int .u64 1)), none, [], []⟩,
            ⟨(some 11), .mv (.t 97), none, [], []⟩])
          (.seq
           (.reg false [⟨(some 12), .mv (.c (.bool false)), none, [], []⟩])
           (.seq
            (.reg false [⟨(some 13), .mv (.c (.int .u64 0)), none, [], []⟩])
            (.seq
             (.seq
              (.reg false [⟨(some 98), .mv (.t 0), none, [], []⟩,
                ⟨(some 99), .conv .strToBytes (.t 98), none, [], []⟩,
                ⟨(some 100), .len .slc (.t 99), none, [], []⟩,
                ⟨(some 101), .mv (.c (.int .i64 0)), none, [], []⟩])
              (.block 3
               k115l0))
             (.seq
              (.seq
               (.reg false [⟨(some 164), .mv (.t 12), none, [], []⟩,
                 ⟨(some 165), .mv (.t 164), none, [], []⟩,
                 ⟨(some 166), .mv (.t 9), (some (165, true)), [], []⟩,
                 ⟨(some 167), .call (.f 121) [(.t 166)], (some (165, true)), [], []⟩,
                 ⟨(some 168), .un .not (.t 167), (some (165, true)), [], []⟩,
                 ⟨(some 169), .pick (.t 165) (.t 168) (.c (.bool false)), none, [], []⟩])
               (.cond (.t 169)
                (.seq
                 (.reg false [⟨(some 170), .mkif 126 (.c (.int .i64 2)), none, [], []⟩,
                   ⟨(some 6), .mv (.c (.int .u64 0)), none, [], []⟩,
                   ⟨(some 7), .mv (.t 170), none, [], []⟩])
                 .ret)
                .skip))
              (.seq
               (.reg false [⟨(some 171), .mv (.t 13), none, [], []⟩,
                 ⟨(some 6), .mv (.t 171), none, [], []⟩,
                 ⟨(some 7), .mv (.c (.nili)), none, [], []⟩])
               .ret))))))))))))))
def k115 : KBody := .code 172 [.tmp 6, .tmp 7] true k115b
/-- What is asked of a context: these functions have this code. -/
structure Codes (C : Ctx) : Prop where
  h7 : CodeIs C 7 46 [.tmp 2] true k7b
  h13 : CodeIs C 13 54 [.tmp 2] true k13b
  h14 : CodeIs C 14 58 [.cell 2 true 4, .tmp 3, .tmp 4] true k14b
  h19 : CodeIs C 19 22 [.tmp 2] true k19b
  h22 : CodeIs C 22 19 [.tmp 4, .tmp 5] true k22b
  h23 : CodeIs C 23 22 [.tmp 4] true k23b
  h24 : CodeIs C 24 14 [.tmp 2] true k24b
  h25 : CodeIs C 25 4 [] true k25b
  h26 : CodeIs C 26 71 [.cell 4 true 4] true k26b
  h27 : CodeIs C 27 59 [] true k27b
  h28 : CodeIs C 28 17 [.tmp 2] true k28b
  h29 : CodeIs C 29 19 [] true k29b
  h36 : CodeIs C 36 37 [.tmp 2] true k36b
  h40 : CodeIs C 40 29 [.tmp 2] true k40b
  h41 : CodeIs C 41 20 [] true k41b
  h43 : CodeIs C 43 8 [.tmp 4] true k43b
  h44 : CodeIs C 44 34 [.tmp 2] true k44b
  h45 : CodeIs C 45 54 [.tmp 2] true k45b
  h46 : CodeIs C 46 19 [.tmp 4] true k46b
  h47 : CodeIs C 47 14 [] true k47b
  h49 : CodeIs C 49 23 [.tmp 2] true k49b
  h50 : CodeIs C 50 13 [.tmp 4, .tmp 5, .tmp 6] true k50b
  h51 : CodeIs C 51 47 [.tmp 2, .tmp 3] true k51b
  h59 : CodeIs C 59 21 [.tmp 2] true k59b
  h60 : CodeIs C 60 21 [.tmp 2] true k60b
  h63 : CodeIs C 63 18 [.tmp 4] true k63b
  h64 : CodeIs C 64 14 [.tmp 4] true k64b
  h65 : CodeIs C 65 15 [.tmp 2] true k65b
  h66 : CodeIs C 66 22 [.tmp 2] true k66b
  h67 : CodeIs C 67 9 [.tmp 4] true k67b
  h69 : CodeIs C 69 75 [.tmp 2] true k69b
  h70 : CodeIs C 70 37 [.tmp 4] true k70b
  h71 : CodeIs C 71 23 [.tmp 4, .tmp 5, .tmp 6] true k71b
  h72 : CodeIs C 72 10 [.tmp 2] true k72b
  h73 : CodeIs C 73 27 [.tmp 2, .tmp 3] true k73b
  h78 : CodeIs C 78 8 [.tmp 4] true k78b
  h80 : CodeIs C 80 21 [.tmp 6] true k80b
  h81 : CodeIs C 81 29 [.tmp 2] true k81b
  h82 : CodeIs C 82 19 [.tmp 4] true k82b
  h83 : CodeIs C 83 9 [.tmp 4] true k83b
  h85 : CodeIs C 85 21 [.cell 2 true 256, .tmp 3] true k85b
  h86 : CodeIs C 86 16 [.tmp 4] true k86b
  h88 : CodeIs C 88 143 [.tmp 4] true k88b
  h89 : CodeIs C 89 9 [.tmp 4] true k89b
  h90 : CodeIs C 90 6 [.tmp 2] true k90b
  h91 : CodeIs C 91 33 [.tmp 2] true k91b
  h92 : CodeIs C 92 11 [.tmp 4, .tmp 5] true k92b
  h93 : CodeIs C 93 50 [.tmp 2, .tmp 3] true k93b
  h99 : CodeIs C 99 21 [.tmp 2] true k99b
  h100 : CodeIs C 100 21 [.tmp 2] true k100b
  h101 : CodeIs C 101 10 [.tmp 4] true k101b
  h103 : CodeIs C 103 8 [.tmp 4] true k103b
  h107 : CodeIs C 107 8 [.tmp 4] true k107b
  h108 : CodeIs C 108 15 [.tmp 4, .tmp 5] true k108b
  h109 : CodeIs C 109 26 [.tmp 6, .tmp 7] true k109b
  h115 : CodeIs C 115 172 [.tmp 6, .tmp 7] true k115b
end Go.Eng

