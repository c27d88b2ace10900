/-
  Texts of a proof. Conditions: none.
-/
import Derived.Test.YtolhindhmljgdaaDoorEngC
set_option linter.unusedVariables false
set_option linter.unusedSimpArgs false
set_option linter.unnecessarySimpa false
set_option linter.unusedSectionVars false
namespace Go.Eng
open Go
/-! sentry/sentrylaw1.NameParts -/
def k3b : K :=
 (.seq
  (.reg false [⟨(some 4), .mv (.c (.bool false)), none, [], []⟩])
  (.seq
   (.seq
    (.reg false [⟨(some 9), .mv (.t 0), none, [], []⟩,
      ⟨(some 10), .call (.f 4) [(.t 9)], none, [], []⟩,
      ⟨(some 11), .un .not (.t 10), none, [], []⟩,
      ⟨(some 12), .mv (.t 11), none, [], []⟩,
      ⟨(some 13), .mv (.t 1), (some (12, false)), [], []⟩,
      ⟨(some 14), .call (.f 4) [(.t 13)], (some (12, false)), [], []⟩,
      ⟨(some 15), .un .not (.t 14), (some (12, false)), [], []⟩,
      ⟨(some 16), .pick (.t 12) (.c (.bool true)) (.t 15), none, [], []⟩])
    (.cond (.t 16)
     (.seq
      (.reg false [⟨(some 4), .mv (.c (.bool true)), none, [], []⟩])
      .ret)
     .skip))
   (.seq
    (.reg false [⟨(some 18), .mv (.t 0), none, [], []⟩,
      ⟨(some 19), .bin .add .s (.t 18) (.c (.str [58])), none, [], []⟩,
      ⟨(some 20), .mv (.t 1), none, [], []⟩,
      ⟨(some 21), .bin .add .s (.t 19) (.t 20), none, [], []⟩,
      ⟨(some 22), .call (.f 5) [(.t 21)], none, [], []⟩,
      ⟨(some 17), .mv (.t 22), none, [], []⟩,
      ⟨(some 23), .extract (.t 17) 0, none, [], []⟩,
      ⟨(some 24), .extract (.t 17) 1, none, [], []⟩,
      ⟨(some 5), .mv (.t 23), none, [], []⟩,
      ⟨(some 6), .mv (.t 24), none, [], []⟩])
    (.seq
     (.reg false [⟨(some 26), .mv (.t 0), none, [], []⟩,
       ⟨(some 27), .call (.f 5) [(.t 26)], none, [], []⟩,
       ⟨(some 25), .mv (.t 27), none, [], []⟩,
       ⟨(some 28), .extract (.t 25) 0, none, [], []⟩,
       ⟨(some 29), .extract (.t 25) 1, none, [], []⟩,
       ⟨(some 7), .mv (.t 28), none, [], []⟩,
       ⟨(some 8), .mv (.t 29), none, [], []⟩])
     (.seq
      (.reg false [⟨(some 30), .mv (.t 5), none, [], []⟩,
        ⟨(some 31), .mv (.t 0), none, [], []⟩,
        ⟨(some 32), .bin .eql .s (.t 30) (.t 31), none, [], []⟩,
        ⟨(some 33), .mv (.t 32), none, [], []⟩,
        ⟨(some 34), .mv (.t 6), (some (33, true)), [], []⟩,
        ⟨(some 35), .mv (.t 1), (some (33, true)), [], []⟩,
        ⟨(some 36), .bin .eql .s (.t 34) (.t 35), (some (33, true)), [], []⟩,
        ⟨(some 37), .pick (.t 33) (.t 36) (.c (.bool false)), none, [], []⟩,
        ⟨(some 38), .mv (.t 37), none, [], []⟩,
        ⟨(some 39), .mv (.t 7), (some (38, true)), [], []⟩,
        ⟨(some 40), .bin .eql .s (.t 39) (.c (.str [])), (some (38, true)), [], []⟩,
        ⟨(some 41), .pick (.t 38) (.t 40) (.c (.bool false)), none, [], []⟩,
        ⟨(some 42), .mv (.t 41), none, [], []⟩,
        ⟨(some 43), .mv (.t 8), (some (42, true)), [], []⟩,
        ⟨(some 44), .mv (.t 0), (some (42, true)), [], []⟩,
        ⟨(some 45), .bin .eql .s (.t 43) (.t 44), (some (42, true)), [], []⟩,
        ⟨(some 46), .pick (.t 42) (.t 45) (.c (.bool false)), none, [], []⟩,
        ⟨(some 47), .mv (.t 46), none, [], []⟩,
        ⟨(some 48), .mv (.t 0), (some (47, true)), [], []⟩,
        ⟨(some 49), .bin .add .s (.t 48) (.c (.str [58])), (some (47, true)), [], []⟩,
        ⟨(some 50), .mv (.t 1), (some (47, true)), [], []⟩,
        ⟨(some 51), .bin .add .s (.t 49) (.t 50), (some (47, true)), [], []⟩,
        ⟨(some 52), .call (.f 6) [(.t 51)], (some (47, true)), [], []⟩,
        ⟨(some 53), .pick (.t 47) (.t 52) (.c (.bool false)), none, [], []⟩,
        ⟨(some 54), .mv (.t 53), none, [], []⟩,
        ⟨(some 55), .mv (.t 0), (some (54, true)), [], []⟩,
        ⟨(some 56), .bin .add .s (.t 55) (.c (.str [58])), (some (54, true)), [], []⟩,
        ⟨(some 57), .mv (.t 1), (some (54, true)), [], []⟩,
        ⟨(some 58), .bin .add .s (.t 56) (.t 57), (some (54, true)), [], []⟩,
        ⟨(some 59), .bin .add .s (.t 58) (.c (.str [58])), (some (54, true)), [], []⟩,
        ⟨(some 60), .mv (.t 0), (some (54, true)), [], []⟩,
        ⟨(some 61), .bin .add .s (.t 59) (.t 60), (some (54, true)), [], []⟩,
        ⟨(some 62), .call (.f 6) [(.t 61)], (some (54, true)), [], []⟩,
        ⟨(some 63), .un .not (.t 62), (some (54, true)), [], []⟩,
        ⟨(some 64), .pick (.t 54) (.t 63) (.c (.bool false)), none, [], []⟩,
        ⟨(some 65), .mv (.t 64), none, [], []⟩,
        ⟨(some 66), .mv (.t 0), (some (65, true)), [], []⟩,
        ⟨(some 67), .bin .add .s (.c (.str [58])) (.t 66), (some (65, true)), [], []⟩,
        ⟨(some 68), .call (.f 6) [(.t 67)], (some (65, true)), [], []⟩,
        ⟨(some 69), .un .not (.t 68), (some (65, true)), [], []⟩,
        ⟨(some 70), .pick (.t 65) (.t 69) (.c (.bool false)), none, [], []⟩,
        ⟨(some 71), .mv (.t 70), none, [], []⟩,
        ⟨(some 72), .mv (.t 0), (some (71, true)), [], []⟩,
        ⟨(some 73), .bin .add .s (.t 72) (.c (.str [58])), (some (71, true)), [], []⟩,
        ⟨(some 74), .call (.f 6) [(.t 73)], (some (71, true)), [], []⟩,
        ⟨(some 75), .un .not (.t 74), (some (71, true)), [], []⟩,
        ⟨(some 76), .pick (.t 71) (.t 75) (.c (.bool false)), none, [], []⟩,
        ⟨(some 77), .mv (.t 76), none, [], []⟩,
        ⟨(some 78), .call (.f 7) [], (some (77, true)), [], []⟩,
        ⟨(some 79), .pick (.t 77) (.t 78) (.c (.bool false)), none, [], []⟩,
        ⟨(some 4), .mv (.t 79), none, [], []⟩])
      .ret)))))
def k3 : KBody := .code 80 [.tmp 4] true k3b
/-! sentry/sentryref1.Is -/
def k4l0b : K :=
 (.seq
  (.seq
   (.reg false [⟨(some 18), .mv (.t 3), none, [], []⟩,
     ⟨(some 19), .mv (.t 0), none, [], []⟩,
     ⟨(some 20), .len .str (.t 19), none, [], []⟩,
     ⟨(some 21), .bin .lss .i (.t 18) (.t 20), none, [], []⟩])
   (.cond (.t 21)
    .skip
    (.exit 0)))
  (.seq
   (.block 1
    (.seq
     (.reg false [⟨(some 24), .mv (.t 0), none, [], []⟩,
       ⟨(some 25), .mv (.t 3), none, [], []⟩,
       ⟨(some 26), .ixs (.t 24) (.t 25), none, [], []⟩,
       ⟨(some 27), .call (.f 9) [(.t 26)], none, [], []⟩,
       ⟨(some 28), .un .not (.t 27), none, [], []⟩])
     (.cond (.t 28)
      (.seq
       (.reg false [⟨(some 2), .mv (.c (.bool false)), none, [], []⟩])
       .ret)
      .skip)))
   (.reg false [⟨(some 22), .mv (.t 3), none, [], []⟩,
     ⟨(some 23), .bin .add .i (.t 22) (.c (.int .i64 1)), none, [], []⟩,
     ⟨(some 3), .mv (.t 23), none, [], []⟩])))
def k4l0 : K := .loop k4l0b
def k4b : K :=
 (.seq
  (.reg false [⟨(some 2), .mv (.c (.bool false)), none, [], []⟩])
  (.seq
   (.seq
    (.reg false [⟨(some 4), .mv (.t 0), none, [], []⟩,
      ⟨(some 5), .len .str (.t 4), none, [], []⟩,
      ⟨(some 6), .bin .lss .i (.t 5) (.c (.int .i64 1)), none, [], []⟩,
      ⟨(some 7), .mv (.t 6), none, [], []⟩,
      ⟨(some 8), .mv (.t 0), (some (7, false)), [], []⟩,
      ⟨(some 9), .len .str (.t 8), (some (7, false)), [], []⟩,
      ⟨(some 10), .bin .gtr .i (.t 9) (.c (.int .i64 12)), (some (7, false)), [], []⟩,
      ⟨(some 11), .pick (.t 7) (.c (.bool true)) (.t 10), none, [], []⟩,
      ⟨(some 12), .mv (.t 11), none, [], []⟩,
      ⟨(some 13), .mv (.t 0), (some (12, false)), [], []⟩,
      ⟨(some 14), .ixs (.t 13) (.c (.int .i64 0)), (some (12, false)), [], []⟩,
      ⟨(some 15), .call (.f 8) [(.t 14)], (some (12, false)), [], []⟩,
      ⟨(some 16), .un .not (.t 15), (some (12, false)), [], []⟩,
      ⟨(some 17), .pick (.t 12) (.c (.bool true)) (.t 16), none, [], []⟩])
    (.cond (.t 17)
     (.seq
      (.reg false [⟨(some 2), .mv (.c (.bool false)), none, [], []⟩])
      .ret)
     .skip))
   (.seq
    (.seq
     (.reg false [⟨(some 3), .mv (.c (.int .i64 0)), none, [], []⟩])
     (.block 0
      k4l0))
    (.seq
     (.reg false [⟨(some 2), .mv (.c (.bool true)), none, [], []⟩])
     .ret))))
def k4 : KBody := .code 29 [.tmp 2] true k4b
/-! sentry/name.Split -/
def k5b : K :=
 (.seq
  (.reg false [⟨(some 2), .mv (.c (.str [])), none, [], []⟩,
    ⟨(some 3), .mv (.c (.str [])), none, [], []⟩])
  (.seq
   (.reg false [⟨(some 6), .mv (.t 0), none, [], []⟩,
     ⟨(some 7), .call (.f 10) [(.t 6), (.c (.str [58]))], none, [], []⟩,
     ⟨(some 5), .mv (.t 7), none, [], []⟩,
     ⟨(some 8), .extract (.t 5) 0, none, [], []⟩,
     ⟨(some 9), .extract (.t 5) 1, none, [], []⟩,
     ⟨(some 10), .extract (.t 5) 2, none, [], []⟩,
     ⟨(some 2), .mv (.t 8), none, [], []⟩,
     ⟨(some 3), .mv (.t 9), none, [], []⟩,
     ⟨(some 4), .mv (.t 10), none, [], []⟩])
   (.seq
    (.seq
     (.reg false [⟨(some 11), .mv (.t 4), none, [], []⟩,
       ⟨(some 12), .un .not (.t 11), none, [], []⟩])
     (.cond (.t 12)
      (.seq
       (.reg false [⟨(some 13), .mv (.t 0), none, [], []⟩,
         ⟨(some 2), .mv (.c (.str [])), none, [], []⟩,
         ⟨(some 3), .mv (.t 13), none, [], []⟩])
       .ret)
      .skip))
    (.seq
     (.reg false [⟨(some 14), .mv (.t 2), none, [], []⟩,
       ⟨(some 15), .mv (.t 3), none, [], []⟩,
       ⟨(some 2), .mv (.t 14), none, [], []⟩,
       ⟨(some 3), .mv (.t 15), none, [], []⟩])
     .ret))))
def k5 : KBody := .code 16 [.tmp 2, .tmp 3] true k5b
/-! sentry/name.IsQual -/
def k6b : K :=
 (.seq
  (.reg false [⟨(some 2), .mv (.c (.bool false)), none, [], []⟩])
  (.seq
   (.reg false [⟨(some 7), .mv (.t 0), none, [], []⟩,
     ⟨(some 8), .call (.f 10) [(.t 7), (.c (.str [58]))], none, [], []⟩,
     ⟨(some 6), .mv (.t 8), none, [], []⟩,
     ⟨(some 9), .extract (.t 6) 0, none, [], []⟩,
     ⟨(some 10), .extract (.t 6) 1, none, [], []⟩,
     ⟨(some 11), .extract (.t 6) 2, none, [], []⟩,
     ⟨(some 3), .mv (.t 9), none, [], []⟩,
     ⟨(some 4), .mv (.t 10), none, [], []⟩,
     ⟨(some 5), .mv (.t 11), none, [], []⟩])
   (.seq
    (.seq
     (.reg false [⟨(some 12), .mv (.t 5), none, [], []⟩,
       ⟨(some 13), .un .not (.t 12), none, [], []⟩])
     (.cond (.t 13)
      (.seq
       (.reg false [⟨(some 14), .mv (.t 0), none, [], []⟩,
         ⟨(some 15), .call (.f 11) [(.t 14)], none, [], []⟩,
         ⟨(some 2), .mv (.t 15), none, [], []⟩])
       .ret)
      .skip))
    (.seq
     (.reg false [⟨(some 16), .mv (.t 3), none, [], []⟩,
       ⟨(some 17), .call (.f 11) [(.t 16)], none, [], []⟩,
       ⟨(some 18), .mv (.t 17), none, [], []⟩,
       ⟨(some 19), .mv (.t 4), (some (18, true)), [], []⟩,
       ⟨(some 20), .call (.f 11) [(.t 19)], (some (18, true)), [], []⟩,
       ⟨(some 21), .pick (.t 18) (.t 20) (.c (.bool false)), none, [], []⟩,
       ⟨(some 2), .mv (.t 21), none, [], []⟩])
     .ret))))
def k6 : KBody := .code 22 [.tmp 2] true k6b
/-! sentry/sentryref1.first -/
def k8b : K :=
 (.seq
  (.reg false [⟨(some 2), .mv (.c (.bool false)), none, [], []⟩])
  (.seq
   (.reg false [⟨(some 3), .mv (.t 0), none, [], []⟩,
     ⟨(some 4), .bin .geq .i (.t 3) (.c (.int .u8 97)), none, [], []⟩,
     ⟨(some 5), .mv (.t 4), none, [], []⟩,
     ⟨(some 6), .mv (.t 0), (some (5, true)), [], []⟩,
     ⟨(some 7), .bin .leq .i (.t 6) (.c (.int .u8 122)), (some (5, true)), [], []⟩,
     ⟨(some 8), .pick (.t 5) (.t 7) (.c (.bool false)), none, [], []⟩,
     ⟨(some 9), .mv (.t 8), none, [], []⟩,
     ⟨(some 10), .mv (.t 0), (some (9, false)), [], []⟩,
     ⟨(some 11), .bin .geq .i (.t 10) (.c (.int .u8 65)), (some (9, false)), [], []⟩,
     ⟨(some 12), .mv (.t 11), (some (9, false)), [], []⟩,
     ⟨(some 13), .mv (.t 0), (some (12, true)), [], []⟩,
     ⟨(some 14), .bin .leq .i (.t 13) (.c (.int .u8 90)), (some (12, true)), [], []⟩,
     ⟨(some 15), .pick (.t 12) (.t 14) (.c (.bool false)), (some (9, false)), [], []⟩,
     ⟨(some 16), .pick (.t 9) (.c (.bool true)) (.t 15), none, [], []⟩,
     ⟨(some 17), .mv (.t 16), none, [], []⟩,
     ⟨(some 18), .mv (.t 0), (some (17, false)), [], []⟩,
     ⟨(some 19), .bin .eql .i (.t 18) (.c (.int .u8 95)), (some (17, false)), [], []⟩,
     ⟨(some 20), .pick (.t 17) (.c (.bool true)) (.t 19), none, [], []⟩,
     ⟨(some 2), .mv (.t 20), none, [], []⟩])
   .ret))
def k8 : KBody := .code 21 [.tmp 2] true k8b
/-! sentry/sentryref1.Byte -/
def k9b : K :=
 (.seq
  (.reg false [⟨(some 2), .mv (.c (.bool false)), none, [], []⟩])
  (.seq
   (.reg false [⟨(some 3), .mv (.t 0), none, [], []⟩,
     ⟨(some 4), .call (.f 8) [(.t 3)], none, [], []⟩,
     ⟨(some 5), .mv (.t 4), none, [], []⟩,
     ⟨(some 6), .mv (.t 0), (some (5, false)), [], []⟩,
     ⟨(some 7), .bin .geq .i (.t 6) (.c (.int .u8 48)), (some (5, false)), [], []⟩,
     ⟨(some 8), .mv (.t 7), (some (5, false)), [], []⟩,
     ⟨(some 9), .mv (.t 0), (some (8, true)), [], []⟩,
     ⟨(some 10), .bin .leq .i (.t 9) (.c (.int .u8 57)), (some (8, true)), [], []⟩,
     ⟨(some 11), .pick (.t 8) (.t 10) (.c (.bool false)), (some (5, false)), [], []⟩,
     ⟨(some 12), .pick (.t 5) (.c (.bool true)) (.t 11), none, [], []⟩,
     ⟨(some 13), .mv (.t 12), none, [], []⟩,
     ⟨(some 14), .mv (.t 0), (some (13, false)), [], []⟩,
     ⟨(some 15), .bin .eql .i (.t 14) (.c (.int .u8 45)), (some (13, false)), [], []⟩,
     ⟨(some 16), .pick (.t 13) (.c (.bool true)) (.t 15), none, [], []⟩,
     ⟨(some 17), .mv (.t 16), none, [], []⟩,
     ⟨(some 18), .mv (.t 0), (some (17, false)), [], []⟩,
     ⟨(some 19), .bin .eql .i (.t 18) (.c (.int .u8 46)), (some (17, false)), [], []⟩,
     ⟨(some 20), .pick (.t 17) (.c (.bool true)) (.t 19), none, [], []⟩,
     ⟨(some 2), .mv (.t 20), none, [], []⟩])
   .ret))
def k9 : KBody := .code 21 [.tmp 2] true k9b
/-! strings.Cut -/
def k10b : K :=
 (.seq
  (.reg false [⟨(some 4), .mv (.c (.str [])), none, [], []⟩,
    ⟨(some 5), .mv (.c (.str [])), none, [], []⟩,
    ⟨(some 6), .mv (.c (.bool false)), none, [], []⟩])
  (.seq
   (.reg false [⟨(some 7), .mv (.t 0), none, [], []⟩,
     ⟨(some 8), .mv (.t 1), none, [], []⟩,
     ⟨(some 9), .call (.f 14) [(.t 7), (.t 8)], none, [], []⟩,
     ⟨(some 10), .extract (.t 9) 0, none, [], []⟩,
     ⟨(some 11), .extract (.t 9) 1, none, [], []⟩,
     ⟨(some 12), .extract (.t 9) 2, none, [], []⟩,
     ⟨(some 4), .mv (.t 10), none, [], []⟩,
     ⟨(some 5), .mv (.t 11), none, [], []⟩,
     ⟨(some 6), .mv (.t 12), none, [], []⟩])
   .ret))
def k10 : KBody := .code 13 [.tmp 4, .tmp 5, .tmp 6] true k10b
/-! sentry/name.Is -/
def k11l0b : K :=
 (.seq
  (.reg false [⟨(some 22), .bin .lss .i (.t 21) (.t 20), none, [], []⟩])
  (.seq
   (.cond (.t 22)
    .skip
    (.exit 0))
   (.seq
    (.block 1
     (.seq
      (.reg false [⟨(some 23), .iaddr none 1 (.t 19) (.t 21), none, [], []⟩,
        ⟨(some 24), .load false 1 (.t 23), none, [], []⟩,
        ⟨(some 4), .mv (.t 24), none, [], []⟩])
      (.seq
       (.reg false [⟨(some 25), .mv (.t 4), none, [], []⟩,
         ⟨(some 26), .call (.f 16) [(.t 25)], none, [], []⟩,
         ⟨(some 27), .un .not (.t 26), none, [], []⟩])
       (.cond (.t 27)
        (.seq
         (.reg false [⟨(some 2), .mv (.c (.bool false)), none, [], []⟩])
         .ret)
        .skip))))
    (.reg false [⟨(some 28), .bin .add .i (.t 21) (.c (.int .i64 1)), none, [], []⟩,
      ⟨(some 21), .mv (.t 28), none, [], []⟩]))))
def k11l0 : K := .loop k11l0b
def k11b : K :=
 (.seq
  (.reg false [⟨(some 2), .mv (.c (.bool false)), none, [], []⟩])
  (.seq
   (.seq
    (.reg false [⟨(some 5), .mv (.t 0), none, [], []⟩,
      ⟨(some 6), .bin .eql .s (.t 5) (.c (.str [])), none, [], []⟩,
      ⟨(some 7), .mv (.t 6), none, [], []⟩,
      ⟨(some 8), .mv (.t 0), (some (7, false)), [], []⟩,
      ⟨(some 9), .len .str (.t 8), (some (7, false)), [], []⟩,
      ⟨(some 10), .bin .gtr .i (.t 9) (.c (.int .i64 12)), (some (7, false)), [], []⟩,
      ⟨(some 11), .pick (.t 7) (.c (.bool true)) (.t 10), none, [], []⟩,
      ⟨(some 12), .mv (.t 11), none, [], []⟩,
      ⟨(some 13), .mv (.t 0), (some (12, false)), [], []⟩,
      ⟨(some 14), .ixs (.t 13) (.c (.int .i64 0)), (some (12, false)), [], []⟩,
      ⟨(some 15), .call (.f 15) [(.t 14)], (some (12, false)), [], []⟩,
      ⟨(some 16), .un .not (.t 15), (some (12, false)), [], []⟩,
      ⟨(some 17), .pick (.t 12) (.c (.bool true)) (.t 16), none, [], []⟩])
    (.cond (.t 17)
     (.seq
      (.reg false [⟨(some 2), .mv (.c (.bool false)), none, [], []⟩])
      .ret)
     .skip))
   (.seq
    (.seq
     (.reg false [⟨(some 18), .mv (.t 0), none, [], []⟩,
       ⟨(some 19), .conv .strToBytes (.t 18), none, [], []⟩,
       ⟨(some 20), .len .slc (.t 19), none, [], []⟩,
       ⟨(some 21), .mv (.c (.int .i64 0)), none, [], []⟩])
     (.block 0
      k11l0))
    (.seq
     (.reg false [⟨(some 2), .mv (.c (.bool true)), none, [], []⟩])
     .ret))))
def k11 : KBody := .code 29 [.tmp 2] true k11b
/-! internal/stringslite.Cut -/
def k14b : K :=
 (.seq
  (.reg false [⟨(some 4), .mv (.c (.str [])), none, [], []⟩,
    ⟨(some 5), .mv (.c (.str [])), none, [], []⟩,
    ⟨(some 6), .mv (.c (.bool false)), none, [], []⟩])
  (.seq
   (.seq
    (.reg false [⟨(some 8), .mv (.t 0), none, [], []⟩,
      ⟨(some 9), .mv (.t 1), none, [], []⟩,
      ⟨(some 10), .call (.f 22) [(.t 8), (.t 9)], none, [], []⟩,
      ⟨(some 7), .mv (.t 10), none, [], []⟩])
    (.seq
     (.reg false [⟨(some 11), .mv (.t 7), none, [], []⟩,
       ⟨(some 12), .bin .geq .i (.t 11) (.c (.int .i64 0)), none, [], []⟩])
     (.cond (.t 12)
      (.seq
       (.reg false [⟨(some 13), .mv (.t 0), none, [], []⟩,
         ⟨(some 14), .mv (.t 7), none, [], []⟩,
         ⟨(some 15), .slice .str (.t 13) none (some (.t 14)) none, none, [0], []⟩,
         ⟨(some 16), .mv (.t 0), none, [], []⟩,
         ⟨(some 17), .mv (.t 7), none, [], []⟩,
         ⟨(some 18), .mv (.t 1), none, [], []⟩,
         ⟨(some 19), .len .str (.t 18), none, [0], []⟩,
         ⟨(some 20), .bin .add .i (.t 17) (.t 19), none, [], []⟩,
         ⟨(some 21), .slice .str (.t 16) (some (.t 20)) none none, none, [0], []⟩,
         ⟨(some 4), .mv (.t 15), none, [], []⟩,
         ⟨(some 5), .mv (.t 21), none, [], []⟩,
         ⟨(some 6), .mv (.c (.bool true)), none, [], []⟩])
       .ret)
      .skip)))
   (.seq
    (.reg false [⟨(some 22), .mv (.t 0), none, [], []⟩,
      ⟨(some 4), .mv (.t 22), none, [], []⟩,
      ⟨(some 5), .mv (.c (.str [])), none, [], []⟩,
      ⟨(some 6), .mv (.c (.bool false)), none, [], []⟩])
    .ret)))
def k14 : KBody := .code 23 [.tmp 4, .tmp 5, .tmp 6] true k14b
/-! sentry/name.isLetter -/
def k15b : K :=
 (.seq
  (.reg false [⟨(some 2), .mv (.c (.bool false)), none, [], []⟩])
  (.seq
   (.reg false [⟨(some 3), .mv (.t 0), none, [], []⟩,
     ⟨(some 4), .bin .geq .i (.t 3) (.c (.int .u8 97)), none, [], []⟩,
     ⟨(some 5), .mv (.t 4), none, [], []⟩,
     ⟨(some 6), .mv (.t 0), (some (5, true)), [], []⟩,
     ⟨(some 7), .bin .leq .i (.t 6) (.c (.int .u8 122)), (some (5, true)), [], []⟩,
     ⟨(some 8), .pick (.t 5) (.t 7) (.c (.bool false)), none, [], []⟩,
     ⟨(some 9), .mv (.t 8), none, [], []⟩,
     ⟨(some 10), .mv (.t 0), (some (9, false)), [], []⟩,
     ⟨(some 11), .bin .geq .i (.t 10) (.c (.int .u8 65)), (some (9, false)), [], []⟩,
     ⟨(some 12), .mv (.t 11), (some (9, false)), [], []⟩,
     ⟨(some 13), .mv (.t 0), (some (12, true)), [], []⟩,
     ⟨(some 14), .bin .leq .i (.t 13) (.c (.int .u8 90)), (some (12, true)), [], []⟩,
     ⟨(some 15), .pick (.t 12) (.t 14) (.c (.bool false)), (some (9, false)), [], []⟩,
     ⟨(some 16), .pick (.t 9) (.c (.bool true)) (.t 15), none, [], []⟩,
     ⟨(some 17), .mv (.t 16), none, [], []⟩,
     ⟨(some 18), .mv (.t 0), (some (17, false)), [], []⟩,
     ⟨(some 19), .bin .eql .i (.t 18) (.c (.int .u8 95)), (some (17, false)), [], []⟩,
     ⟨(some 20), .pick (.t 17) (.c (.bool true)) (.t 19), none, [], []⟩,
     ⟨(some 2), .mv (.t 20), none, [], []⟩])
   .ret))
def k15 : KBody := .code 21 [.tmp 2] true k15b
/-! sentry/name.isMore -/
def k16b : K :=
 (.seq
  (.reg false [⟨(some 2), .mv (.c (.bool false)), none, [], []⟩])
  (.seq
   (.reg false [⟨(some 3), .mv (.t 0), none, [], []⟩,
     ⟨(some 4), .call (.f 15) [(.t 3)], none, [], []⟩,
     ⟨(some 5), .mv (.t 4), none, [], []⟩,
     ⟨(some 6), .mv (.t 0), (some (5, false)), [], []⟩,
     ⟨(some 7), .bin .geq .i (.t 6) (.c (.int .u8 48)), (some (5, false)), [], []⟩,
     ⟨(some 8), .mv (.t 7), (some (5, false)), [], []⟩,
     ⟨(some 9), .mv (.t 0), (some (8, true)), [], []⟩,
     ⟨(some 10), .bin .leq .i (.t 9) (.c (.int .u8 57)), (some (8, true)), [], []⟩,
     ⟨(some 11), .pick (.t 8) (.t 10) (.c (.bool false)), (some (5, false)), [], []⟩,
     ⟨(some 12), .pick (.t 5) (.c (.bool true)) (.t 11), none, [], []⟩,
     ⟨(some 13), .mv (.t 12), none, [], []⟩,
     ⟨(some 14), .mv (.t 0), (some (13, false)), [], []⟩,
     ⟨(some 15), .bin .eql .i (.t 14) (.c (.int .u8 45)), (some (13, false)), [], []⟩,
     ⟨(some 16), .pick (.t 13) (.c (.bool true)) (.t 15), none, [], []⟩,
     ⟨(some 17), .mv (.t 16), none, [], []⟩,
     ⟨(some 18), .mv (.t 0), (some (17, false)), [], []⟩,
     ⟨(some 19), .bin .eql .i (.t 18) (.c (.int .u8 46)), (some (17, false)), [], []⟩,
     ⟨(some 20), .pick (.t 17) (.c (.bool true)) (.t 19), none, [], []⟩,
     ⟨(some 2), .mv (.t 20), none, [], []⟩])
   .ret))
def k16 : KBody := .code 21 [.tmp 2] true k16b
/-! internal/stringslite.Index -/
def k22l0b : K :=
 (.seq
  (.seq
   (.reg false [⟨(some 57), .mv (.t 8), none, [], []⟩,
     ⟨(some 58), .mv (.t 9), none, [], []⟩,
     ⟨(some 59), .bin .lss .i (.t 57) (.t 58), none, [], []⟩])
   (.cond (.t 59)
    .skip
    (.exit 1)))
  (.block 2
   (.seq
    (.seq
     (.reg false [⟨(some 60), .mv (.t 0), none, [], []⟩,
       ⟨(some 61), .mv (.t 8), none, [], []⟩,
       ⟨(some 62), .ixs (.t 60) (.t 61), none, [], []⟩,
       ⟨(some 63), .mv (.t 6), none, [], []⟩,
       ⟨(some 64), .bin .neq .i (.t 62) (.t 63), none, [], []⟩])
     (.cond (.t 64)
      (.seq
       (.reg false [⟨(some 65), .mv (.t 0), none, [], []⟩,
         ⟨(some 66), .mv (.t 8), none, [], []⟩,
         ⟨(some 67), .bin .add .i (.t 66) (.c (.int .i64 1)), none, [], []⟩,
         ⟨(some 68), .mv (.t 9), none, [], []⟩,
         ⟨(some 69), .slice .str (.t 65) (some (.t 67)) (some (.t 68)) none, none, [], []⟩,
         ⟨(some 70), .mv (.t 6), none, [], []⟩,
         ⟨(some 71), .call (.f 31) [(.t 69), (.t 70)], none, [], []⟩,
         ⟨(some 11), .mv (.t 71), none, [], []⟩])
       (.seq
        (.seq
         (.reg false [⟨(some 72), .mv (.t 11), none, [], []⟩,
           ⟨(some 73), .bin .lss .i (.t 72) (.c (.int .i64 0)), none, [], []⟩])
         (.cond (.t 73)
          (.seq
           (.reg false [⟨(some 4), .mv (.c (.int .i64 (-1))), none, [], []⟩])
           .ret)
          .skip))
        (.reg false [⟨(some 74), .mv (.t 8), none, [], []⟩,
          ⟨(some 75), .mv (.t 11), none, [], []⟩,
          ⟨(some 76), .bin .add .i (.t 75) (.c (.int .i64 1)), none, [], []⟩,
          ⟨(some 77), .bin .add .i (.t 74) (.t 76), none, [], []⟩,
          ⟨(some 8), .mv (.t 77), none, [], []⟩])))
      .skip))
    (.seq
     (.seq
      (.reg false [⟨(some 78), .mv (.t 0), none, [], []⟩,
        ⟨(some 79), .mv (.t 8), none, [], []⟩,
        ⟨(some 80), .bin .add .i (.t 79) (.c (.int .i64 1)), none, [], []⟩,
        ⟨(some 81), .ixs (.t 78) (.t 80), none, [], []⟩,
        ⟨(some 82), .mv (.t 7), none, [], []⟩,
        ⟨(some 83), .bin .eql .i (.t 81) (.t 82), none, [], []⟩,
        ⟨(some 84), .mv (.t 83), none, [], []⟩,
        ⟨(some 85), .mv (.t 0), (some (84, true)), [], []⟩,
        ⟨(some 86), .mv (.t 8), (some (84, true)), [], []⟩,
        ⟨(some 87), .mv (.t 8), (some (84, true)), [], []⟩,
        ⟨(some 88), .mv (.t 5), (some (84, true)), [], []⟩,
        ⟨(some 89), .bin .add .i (.t 87) (.t 88), (some (84, true)), [], []⟩,
        ⟨(some 90), .slice .str (.t 85) (some (.t 86)) (some (.t 89)) none, (some (84, true)), [], []⟩,
        ⟨(some 91), .mv (.t 1), (some (84, true)), [], []⟩,
        ⟨(some 92), .bin .eql .s (.t 90) (.t 91), (some (84, true)), [], []⟩,
        ⟨(some 93), .pick (.t 84) (.t 92) (.c (.bool false)), none, [], []⟩])
      (.cond (.t 93)
       (.seq
        (.reg false [⟨(some 94), .mv (.t 8), none, [], []⟩,
          ⟨(some 4), .mv (.t 94), none, [], []⟩])
        .ret)
       .skip))
     (.seq
      (.reg false [⟨(some 95), .mv (.t 8), none, [], []⟩,
        ⟨(some 96), .bin .add .i (.t 95) (.c (.int .i64 1)), none, [], []⟩,
        ⟨(some 8), .mv (.t 96), none, [], []⟩])
      (.seq
       (.reg false [⟨(some 97), .mv (.t 10), none, [], []⟩,
         ⟨(some 98), .bin .add .i (.t 97) (.c (.int .i64 1)), none, [], []⟩,
         ⟨(some 10), .mv (.t 98), none, [], []⟩])
       (.seq
        (.reg false [⟨(some 99), .mv (.t 5), none, [], []⟩,
          ⟨(some 100), .load false 1 (.g 0), none, [], []⟩,
          ⟨(some 101), .bin .leq .i (.t 99) (.t 100), none, [], []⟩,
          ⟨(some 102), .mv (.t 101), none, [], []⟩,
          ⟨(some 103), .mv (.t 10), (some (102, true)), [], []⟩,
          ⟨(some 104), .mv (.t 8), (some (102, true)), [], []⟩,
          ⟨(some 105), .call (.f 33) [(.t 104)], (some (102, true)), [], []⟩,
          ⟨(some 106), .bin .gtr .i (.t 103) (.t 105), (some (102, true)), [], []⟩,
          ⟨(some 107), .pick (.t 102) (.t 106) (.c (.bool false)), none, [], []⟩])
        (.cond (.t 107)
         (.seq
          (.reg false [⟨(some 108), .mv (.t 0), none, [], []⟩,
            ⟨(some 109), .mv (.t 8), none, [], []⟩,
            ⟨(some 110), .slice .str (.t 108) (some (.t 109)) none none, none, [], []⟩,
            ⟨(some 111), .mv (.t 1), none, [], []⟩,
            ⟨(some 112), .call (.f 32) [(.t 110), (.t 111)], none, [], []⟩,
            ⟨(some 12), .mv (.t 112), none, [], []⟩])
          (.seq
           (.seq
            (.reg false [⟨(some 113), .mv (.t 12), none, [], []⟩,
              ⟨(some 114), .bin .geq .i (.t 113) (.c (.int .i64 0)), none, [], []⟩])
            (.cond (.t 114)
             (.seq
              (.reg false [⟨(some 115), .mv (.t 12), none, [], []⟩,
                ⟨(some 116), .mv (.t 8), none, [], []⟩,
                ⟨(some 117), .bin .add .i (.t 115) (.t 116), none, [], []⟩,
                ⟨(some 4), .mv (.t 117), none, [], []⟩])
              .ret)
             .skip))
           (.seq
            (.reg false [⟨(some 4), .mv (.c (.int .i64 (-1))), none, [], []⟩])
            .ret)))
         (.seq
          (.reg false [⟨(some 118), .mv (.t 5), none, [], []⟩,
            ⟨(some 119), .load false 1 (.g 0), none, [], []⟩,
            ⟨(some 120), .bin .gtr .i (.t 118) (.t 119), none, [], []⟩,
            ⟨(some 121), .mv (.t 120), none, [], []⟩,
            ⟨(some 122), .mv (.t 10), (some (121, true)), [], []⟩,
            ⟨(some 123), .mv (.t 8), (some (121, true)), [], []⟩,
            ⟨(some 124), .bin .shr .i (.t 123) (.c (.int .u64 4)), (some (121, true)), [], []⟩,
            ⟨(some 125), .bin .add .i (.c (.int .i64 4)) (.t 124), (some (121, true)), [], []⟩,
            ⟨(some 126), .bin .geq .i (.t 122) (.t 125), (some (121, true)), [], []⟩,
            ⟨(some 127), .pick (.t 121) (.t 126) (.c (.bool false)), none, [], []⟩,
            ⟨(some 128), .mv (.t 127), none, [], []⟩,
            ⟨(some 129), .mv (.t 8), (some (128, true)), [], []⟩,
            ⟨(some 130), .mv (.t 9), (some (128, true)), [], []⟩,
            ⟨(some 131), .bin .lss .i (.t 129) (.t 130), (some (128, true)), [], []⟩,
            ⟨(some 132), .pick (.t 128) (.t 131) (.c (.bool false)), none, [], []⟩])
          (.cond (.t 132)
           (.seq
            (.reg false [⟨(some 133), .mv (.t 0), none, [], []⟩,
              ⟨(some 134), .mv (.t 8), none, [], []⟩,
              ⟨(some 135), .slice .str (.t 133) (some (.t 134)) none none, none, [], []⟩,
              ⟨(some 136), .mv (.t 1), none, [], []⟩,
              ⟨(some 137), .call (.f 34) [(.t 135), (.t 136)], none, [], []⟩,
              ⟨(some 13), .mv (.t 137), none, [], []⟩])
            (.seq
             (.seq
              (.reg false [⟨(some 138), .mv (.t 13), none, [], []⟩,
                ⟨(some 139), .bin .lss .i (.t 138) (.c (.int .i64 0)), none, [], []⟩])
              (.cond (.t 139)
               (.seq
                (.reg false [⟨(some 4), .mv (.c (.int .i64 (-1))), none, [], []⟩])
                .ret)
               .skip))
             (.seq
              (.reg false [⟨(some 140), .mv (.t 8), none, [], []⟩,
                ⟨(some 141), .mv (.t 13), none, [], []⟩,
                ⟨(some 142), .bin .add .i (.t 140) (.t 141), none, [], []⟩,
                ⟨(some 4), .mv (.t 142), none, [], []⟩])
              .ret)))
           .skip))))))))))
def k22l0 : K := .loop k22l0b
def k22b : K :=
 (.seq
  (.reg false [⟨(some 4), .mv (.c (.int .i64 0)), none, [], []⟩])
  (.seq
   (.reg false [⟨(some 14), .mv (.t 1), none, [], []⟩,
     ⟨(some 15), .len .str (.t 14), none, [], []⟩,
     ⟨(some 5), .mv (.t 15), none, [], []⟩])
   (.seq
    (.block 0
     (.seq
      (.reg false [⟨(some 17), .mv (.t 5), none, [], []⟩,
        ⟨(some 18), .bin .eql .i (.t 17) (.c (.int .i64 0)), none, [], []⟩,
        ⟨(some 19), .mv (.t 18), none, [], []⟩,
        ⟨(some 20), .mv (.t 1), (some (19, false)), [], []⟩,
        ⟨(some 21), .mv (.t 0), (some (19, false)), [], []⟩,
        ⟨(some 22), .bin .eql .s (.t 20) (.t 21), (some (19, false)), [], []⟩,
        ⟨(some 23), .pick (.t 19) (.c (.bool true)) (.t 22), none, [], []⟩,
        ⟨(some 16), .mv (.t 23), none, [], []⟩])
      (.cond (.t 16)
       (.seq
        (.reg false [⟨(some 4), .mv (.c (.int .i64 0)), none, [], []⟩])
        .ret)
       (.seq
        (.reg false [⟨(some 25), .mv (.t 5), none, [], []⟩,
          ⟨(some 26), .bin .eql .i (.t 25) (.c (.int .i64 1)), none, [], []⟩,
          ⟨(some 24), .mv (.t 26), none, [], []⟩])
        (.cond (.t 24)
         (.seq
          (.reg false [⟨(some 27), .mv (.t 0), none, [], []⟩,
            ⟨(some 28), .mv (.t 1), none, [], []⟩,
            ⟨(some 29), .ixs (.t 28) (.c (.int .i64 0)), none, [], []⟩,
            ⟨(some 30), .call (.f 31) [(.t 27), (.t 29)], none, [], []⟩,
            ⟨(some 4), .mv (.t 30), none, [], []⟩])
          .ret)
         (.seq
          (.reg false [⟨(some 32), .mv (.t 5), none, [], []⟩,
            ⟨(some 33), .mv (.t 0), none, [], []⟩,
            ⟨(some 34), .len .str (.t 33), none, [], []⟩,
            ⟨(some 35), .bin .geq .i (.t 32) (.t 34), none, [], []⟩,
            ⟨(some 31), .mv (.t 35), none, [], []⟩])
          (.cond (.t 31)
           (.seq
            (.reg false [⟨(some 4), .mv (.c (.int .i64 (-1))), none, [], []⟩])
            .ret)
           (.seq
            (.reg false [⟨(some 37), .mv (.t 5), none, [], []⟩,
              ⟨(some 38), .load false 1 (.g 0), none, [], []⟩,
              ⟨(some 39), .bin .leq .i (.t 37) (.t 38), none, [], []⟩,
              ⟨(some 40), .mv (.t 39), none, [], []⟩,
              ⟨(some 41), .mv (.t 0), (some (40, true)), [], []⟩,
              ⟨(some 42), .len .str (.t 41), (some (40, true)), [], []⟩,
              ⟨(some 43), .bin .leq .i (.t 42) (.c (.int .i64 64)), (some (40, true)), [], []⟩,
              ⟨(some 44), .pick (.t 40) (.t 43) (.c (.bool false)), none, [], []⟩,
              ⟨(some 36), .mv (.t 44), none, [], []⟩])
            (.cond (.t 36)
             (.seq
              (.reg false [⟨(some 45), .mv (.t 0), none, [], []⟩,
                ⟨(some 46), .mv (.t 1), none, [], []⟩,
                ⟨(some 47), .call (.f 32) [(.t 45), (.t 46)], none, [], []⟩,
                ⟨(some 4), .mv (.t 47), none, [], []⟩])
              .ret)
             .skip)))))))))
    (.seq
     (.reg false [⟨(some 48), .mv (.t 1), none, [], []⟩,
       ⟨(some 49), .ixs (.t 48) (.c (.int .i64 0)), none, [], []⟩,
       ⟨(some 6), .mv (.t 49), none, [], []⟩])
     (.seq
      (.reg false [⟨(some 50), .mv (.t 1), none, [], []⟩,
        ⟨(some 51), .ixs (.t 50) (.c (.int .i64 1)), none, [], []⟩,
        ⟨(some 7), .mv (.t 51), none, [], []⟩])
      (.seq
       (.reg false [⟨(some 8), .mv (.c (.int .i64 0)), none, [], []⟩])
       (.seq
        (.reg false [⟨(some 52), .mv (.t 0), none, [], []⟩,
          ⟨(some 53), .len .str (.t 52), none, [], []⟩,
          ⟨(some 54), .mv (.t 5), none, [], []⟩,
          ⟨(some 55), .bin .sub .i (.t 53) (.t 54), none, [], []⟩,
          ⟨(some 56), .bin .add .i (.t 55) (.c (.int .i64 1)), none, [], []⟩,
          ⟨(some 9), .mv (.t 56), none, [], []⟩])
        (.seq
         (.reg false [⟨(some 10), .mv (.c (.int .i64 0)), none, [], []⟩])
         (.seq
          (.block 1
           k22l0)
          (.seq
           (.reg false [⟨(some 4), .mv (.c (.int .i64 (-1))), none, [], []⟩])
           .ret))))))))))
def k22 : KBody := .code 143 [.tmp 4] true k22b
/-! internal/stringslite.IndexByte -/
def k31b : K :=
 (.seq
  (.reg false [⟨(some 4), .mv (.c (.int .i64 0)), none, [], []⟩])
  (.seq
   (.reg false [⟨(some 5), .mv (.t 0), none, [], []⟩,
     ⟨(some 6), .mv (.t 1), none, [], []⟩,
     ⟨(some 7), .call (.f 44) [(.t 5), (.t 6)], none, [], []⟩,
     ⟨(some 4), .mv (.t 7), none, [], []⟩])
   .ret))
def k31 : KBody := .code 8 [.tmp 4] true k31b
/-- What is asked of a context: these functions have this code. -/
structure Codes (C : Ctx) : Prop where
  h3 : CodeIs C 3 80 [.tmp 4] true k3b
  h4 : CodeIs C 4 29 [.tmp 2] true k4b
  h5 : CodeIs C 5 16 [.tmp 2, .tmp 3] true k5b
  h6 : CodeIs C 6 22 [.tmp 2] true k6b
  h8 : CodeIs C 8 21 [.tmp 2] true k8b
  h9 : CodeIs C 9 21 [.tmp 2] true k9b
  h10 : CodeIs C 10 13 [.tmp 4, .tmp 5, .tmp 6] true k10b
  h11 : CodeIs C 11 29 [.tmp 2] true k11b
  h14 : CodeIs C 14 23 [.tmp 4, .tmp 5, .tmp 6] true k14b
  h15 : CodeIs C 15 21 [.tmp 2] true k15b
  h16 : CodeIs C 16 21 [.tmp 2] true k16b
  h22 : CodeIs C 22 143 [.tmp 4] true k22b
  h31 : CodeIs C 31 8 [.tmp 4] true k31b
end Go.Eng

