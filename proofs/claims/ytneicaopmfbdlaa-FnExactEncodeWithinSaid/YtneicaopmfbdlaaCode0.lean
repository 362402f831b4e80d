/- The functions of the law, in the small language. -/
import Derived.Test.YtneicaopmfbdlaaDen
set_option linter.unusedVariables false
set_option linter.unusedSimpArgs false
namespace Fb
open Go

/- laws.FnExactEncodeWithin -/
def k43 : Cd :=
  (.seq
   (.reg [4] [
     ⟨none, (some 4), .mov (.c (.bool false)), []⟩])
   (.seq
    (.reg [5] [
      ⟨none, (some 5), .mov (.c (.int .i64 1000000)), []⟩])
    (.seq
     (.reg [5] [
       ⟨none, (some 19), .mov (.t 0), []⟩,
       ⟨none, (some 20), .mov (.t 5), []⟩,
       ⟨none, (some 21), .call true 103 [.t 19, .t 20], []⟩,
       ⟨none, (some 5), .mov (.t 21), []⟩])
     (.seq
      (.seq
       (.reg [23] [
         ⟨none, (some 22), .mov (.t 5), []⟩,
         ⟨none, (some 23), .bin .lss (.t 22) (.c (.int .i64 0)), []⟩])
       (.cond (.t 23)
        (.seq
         (.reg [4] [
           ⟨none, (some 4), .mov (.c (.bool true)), []⟩])
         .ret)
        .skip))
      (.seq
       (.reg [6, 7, 8] [
         ⟨none, (some 25), .mov (.t 0), []⟩,
         ⟨none, (some 26), .call true 105 [.t 25, .c (.bool false)], []⟩,
         ⟨none, (some 27), .mov (.t 1), []⟩,
         ⟨none, (some 28), .call true 215 [.t 26, .t 27], []⟩,
         ⟨none, (some 24), .mov (.t 28), []⟩,
         ⟨none, (some 29), .ext (.t 24) 0, []⟩,
         ⟨none, (some 30), .ext (.t 24) 1, []⟩,
         ⟨none, (some 31), .ext (.t 24) 2, []⟩,
         ⟨none, (some 6), .mov (.t 29), []⟩,
         ⟨none, (some 7), .mov (.t 30), []⟩,
         ⟨none, (some 8), .mov (.t 31), []⟩])
       (.seq
        (.reg [9] [
          ⟨none, (some 32), .mov (.t 0), []⟩,
          ⟨none, (some 33), .call true 105 [.t 32, .c (.bool false)], []⟩,
          ⟨none, (some 9), .mov (.t 33), []⟩])
        (.seq
         (.reg [10, 11, 12] [
           ⟨none, (some 35), .mov (.t 9), []⟩,
           ⟨none, (some 36), .mov (.t 1), []⟩,
           ⟨none, (some 37), .call true 216 [.t 35, .t 36], []⟩,
           ⟨none, (some 34), .mov (.t 37), []⟩,
           ⟨none, (some 38), .ext (.t 34) 0, []⟩,
           ⟨none, (some 39), .ext (.t 34) 1, []⟩,
           ⟨none, (some 40), .ext (.t 34) 2, []⟩,
           ⟨none, (some 10), .mov (.t 38), []⟩,
           ⟨none, (some 11), .mov (.t 39), []⟩,
           ⟨none, (some 12), .mov (.t 40), []⟩])
         (.seq
          (.seq
           (.reg [54] [
             ⟨none, (some 41), .mov (.t 10), []⟩,
             ⟨none, (some 42), .mov (.t 6), []⟩,
             ⟨none, (some 43), .call true 213 [.t 41, .t 42], []⟩,
             ⟨none, (some 44), .un .not (.t 43), []⟩,
             ⟨none, (some 45), .mov (.t 44), []⟩,
             ⟨(some (45, false)), (some 46), .mov (.t 11), []⟩,
             ⟨(some (45, false)), (some 47), .mov (.t 7), []⟩,
             ⟨(some (45, false)), (some 48), .bin .neq (.t 46) (.t 47), []⟩,
             ⟨none, (some 49), .pick (.t 45) (.c (.bool true)) (.t 48), []⟩,
             ⟨none, (some 50), .mov (.t 49), []⟩,
             ⟨(some (50, false)), (some 51), .mov (.t 12), []⟩,
             ⟨(some (50, false)), (some 52), .mov (.t 8), []⟩,
             ⟨(some (50, false)), (some 53), .bin .neq (.t 51) (.t 52), []⟩,
             ⟨none, (some 54), .pick (.t 50) (.c (.bool true)) (.t 53), []⟩])
           (.cond (.t 54)
            (.seq
             (.reg [4] [
               ⟨none, (some 4), .mov (.c (.bool false)), []⟩])
             .ret)
            .skip))
          (.seq
           (.seq
            (.reg [59] [
              ⟨none, (some 55), .mov (.t 9), []⟩,
              ⟨none, (some 56), .mov (.t 0), []⟩,
              ⟨none, (some 57), .call true 105 [.t 56, .c (.bool false)], []⟩,
              ⟨none, (some 58), .call true 107 [.t 55, .t 57], []⟩,
              ⟨none, (some 59), .un .not (.t 58), []⟩])
            (.cond (.t 59)
             (.seq
              (.reg [4] [
                ⟨none, (some 4), .mov (.c (.bool false)), []⟩])
              .ret)
             .skip))
           (.seq
            (.reg [13] [
              ⟨none, (some 13), .mov (.c (.int .i64 101)), []⟩])
            (.seq
             (.reg [13] [
               ⟨none, (some 60), .mov (.t 9), []⟩,
               ⟨none, (some 61), .mov (.t 13), []⟩,
               ⟨none, (some 62), .call false 122 [.t 60, .t 61], []⟩,
               ⟨none, (some 13), .mov (.t 62), []⟩])
             (.seq
              (.seq
               (.reg [80] [
                 ⟨none, (some 63), .mov (.t 13), []⟩,
                 ⟨none, (some 64), .bin .lss (.t 63) (.c (.int .i64 0)), []⟩,
                 ⟨none, (some 65), .mov (.t 64), []⟩,
                 ⟨(some (65, false)), (some 66), .mov (.t 10), []⟩,
                 ⟨(some (65, false)), (some 67), .mov (.t 6), []⟩,
                 ⟨(some (65, false)), (some 68), .call true 213 [.t 66, .t 67], []⟩,
                 ⟨(some (65, false)), (some 69), .un .not (.t 68), []⟩,
                 ⟨none, (some 70), .pick (.t 65) (.c (.bool true)) (.t 69), []⟩,
                 ⟨none, (some 71), .mov (.t 70), []⟩,
                 ⟨(some (71, false)), (some 72), .mov (.t 11), []⟩,
                 ⟨(some (71, false)), (some 73), .mov (.t 7), []⟩,
                 ⟨(some (71, false)), (some 74), .bin .neq (.t 72) (.t 73), []⟩,
                 ⟨none, (some 75), .pick (.t 71) (.c (.bool true)) (.t 74), []⟩,
                 ⟨none, (some 76), .mov (.t 75), []⟩,
                 ⟨(some (76, false)), (some 77), .mov (.t 12), []⟩,
                 ⟨(some (76, false)), (some 78), .mov (.t 8), []⟩,
                 ⟨(some (76, false)), (some 79), .bin .neq (.t 77) (.t 78), []⟩,
                 ⟨none, (some 80), .pick (.t 76) (.c (.bool true)) (.t 79), []⟩])
               (.cond (.t 80)
                (.seq
                 (.reg [4] [
                   ⟨none, (some 4), .mov (.c (.bool false)), []⟩])
                 .ret)
                .skip))
              (.seq
               (.reg [14] [
                 ⟨none, (some 14), .mov (.c (.int .i64 101)), []⟩])
               (.seq
                (.reg [14] [
                  ⟨none, (some 81), .mov (.t 10), []⟩,
                  ⟨none, (some 82), .mov (.t 14), []⟩,
                  ⟨none, (some 83), .call false 181 [.t 81, .t 82], []⟩,
                  ⟨none, (some 14), .mov (.t 83), []⟩])
                (.seq
                 (.reg [15] [
                   ⟨none, (some 15), .mov (.c (.int .i64 101)), []⟩])
                 (.seq
                  (.reg [15] [
                    ⟨none, (some 84), .mov (.t 10), []⟩,
                    ⟨none, (some 85), .mov (.t 15), []⟩,
                    ⟨none, (some 86), .call true 214 [.t 84, .t 85], []⟩,
                    ⟨none, (some 15), .mov (.t 86), []⟩])
                  (.seq
                   (.seq
                    (.reg [88] [
                      ⟨none, (some 87), .mov (.t 15), []⟩,
                      ⟨none, (some 88), .bin .lss (.t 87) (.c (.int .i64 0)), []⟩])
                    (.cond (.t 88)
                     (.seq
                      (.reg [4] [
                        ⟨none, (some 4), .mov (.c (.bool false)), []⟩])
                      .ret)
                     .skip))
                   (.seq
                    (.seq
                     (.reg [91] [
                       ⟨none, (some 89), .mov (.t 15), []⟩,
                       ⟨none, (some 90), .mov (.t 14), []⟩,
                       ⟨none, (some 91), .bin .neq (.t 89) (.t 90), []⟩])
                     (.cond (.t 91)
                      (.seq
                       (.reg [4] [
                         ⟨none, (some 4), .mov (.c (.bool false)), []⟩])
                       .ret)
                      .skip))
                    (.seq
                     (.reg [16, 17, 18] [
                       ⟨none, (some 93), .mov (.t 0), []⟩,
                       ⟨none, (some 94), .call true 105 [.t 93, .c (.bool true)], []⟩,
                       ⟨none, (some 95), .mov (.t 1), []⟩,
                       ⟨none, (some 96), .call true 216 [.t 94, .t 95], []⟩,
                       ⟨none, (some 92), .mov (.t 96), []⟩,
                       ⟨none, (some 97), .ext (.t 92) 0, []⟩,
                       ⟨none, (some 98), .ext (.t 92) 1, []⟩,
                       ⟨none, (some 99), .ext (.t 92) 2, []⟩,
                       ⟨none, (some 16), .mov (.t 97), []⟩,
                       ⟨none, (some 17), .mov (.t 98), []⟩,
                       ⟨none, (some 18), .mov (.t 99), []⟩])
                     (.seq
                      (.seq
                       (.reg [113] [
                         ⟨none, (some 100), .mov (.t 16), []⟩,
                         ⟨none, (some 101), .mov (.t 6), []⟩,
                         ⟨none, (some 102), .call true 213 [.t 100, .t 101], []⟩,
                         ⟨none, (some 103), .un .not (.t 102), []⟩,
                         ⟨none, (some 104), .mov (.t 103), []⟩,
                         ⟨(some (104, false)), (some 105), .mov (.t 17), []⟩,
                         ⟨(some (104, false)), (some 106), .mov (.t 7), []⟩,
                         ⟨(some (104, false)), (some 107), .bin .neq (.t 105) (.t 106), []⟩,
                         ⟨none, (some 108), .pick (.t 104) (.c (.bool true)) (.t 107), []⟩,
                         ⟨none, (some 109), .mov (.t 108), []⟩,
                         ⟨(some (109, false)), (some 110), .mov (.t 18), []⟩,
                         ⟨(some (109, false)), (some 111), .mov (.t 8), []⟩,
                         ⟨(some (109, false)), (some 112), .bin .neq (.t 110) (.t 111), []⟩,
                         ⟨none, (some 113), .pick (.t 109) (.c (.bool true)) (.t 112), []⟩])
                       (.cond (.t 113)
                        (.seq
                         (.reg [4] [
                           ⟨none, (some 4), .mov (.c (.bool false)), []⟩])
                         .ret)
                        .skip))
                      (.seq
                       (.reg [15] [
                         ⟨none, (some 15), .mov (.c (.int .i64 101)), []⟩])
                       (.seq
                        (.reg [15] [
                          ⟨none, (some 114), .mov (.t 10), []⟩,
                          ⟨none, (some 115), .mov (.t 15), []⟩,
                          ⟨none, (some 116), .call true 214 [.t 114, .t 115], []⟩,
                          ⟨none, (some 15), .mov (.t 116), []⟩])
                        (.seq
                         (.seq
                          (.reg [118] [
                            ⟨none, (some 117), .mov (.t 15), []⟩,
                            ⟨none, (some 118), .bin .lss (.t 117) (.c (.int .i64 0)), []⟩])
                          (.cond (.t 118)
                           (.seq
                            (.reg [4] [
                              ⟨none, (some 4), .mov (.c (.bool false)), []⟩])
                            .ret)
                           .skip))
                         (.seq
                          (.seq
                           (.reg [121] [
                             ⟨none, (some 119), .mov (.t 15), []⟩,
                             ⟨none, (some 120), .mov (.t 14), []⟩,
                             ⟨none, (some 121), .bin .neq (.t 119) (.t 120), []⟩])
                           (.cond (.t 121)
                            (.seq
                             (.reg [4] [
                               ⟨none, (some 4), .mov (.c (.bool false)), []⟩])
                             .ret)
                            .skip))
                          (.seq
                           (.reg [4] [
                             ⟨none, (some 4), .mov (.c (.bool true)), []⟩])
                           .ret)))))))))))))))))))))))))
def c43 : Fn := { np := 2, nt := 122, kind := .pure, res := [.t 4], body := k43 }

/- laws.eqFrame -/
def b78_1 : Cd :=
  (.seq
   (.seq
    (.reg [7] [
      ⟨none, (some 6), .mov (.t 5), []⟩,
      ⟨none, (some 7), .bin .lss (.t 6) (.c (.int .i64 12)), []⟩])
    (.cond (.t 7)
     .skip
     (.exit 0)))
   (.seq
    (.block 1
     (.seq
      (.reg [16] [
        ⟨none, (some 10), .mov (.t 5), []⟩,
        ⟨none, (some 11), .adrI 2 none 12 1 (.t 10), []⟩,
        ⟨none, (some 12), .ldV 2 (some 11) 1 false, []⟩,
        ⟨none, (some 13), .mov (.t 5), []⟩,
        ⟨none, (some 14), .adrI 3 none 12 1 (.t 13), []⟩,
        ⟨none, (some 15), .ldV 3 (some 14) 1 false, []⟩,
        ⟨none, (some 16), .bin .neq (.t 12) (.t 15), []⟩])
      (.cond (.t 16)
       (.seq
        (.reg [4] [
          ⟨none, (some 4), .mov (.c (.bool false)), []⟩])
        .ret)
       .skip)))
    (.reg [5] [
      ⟨none, (some 8), .mov (.t 5), []⟩,
      ⟨none, (some 9), .bin .add (.t 8) (.c (.int .i64 1)), []⟩,
      ⟨none, (some 5), .mov (.t 9), []⟩])))
def k78 : Cd :=
  (.seq
   (.reg [2, 3, 4] [
     ⟨none, (some 2), .mov (.t 0), []⟩,
     ⟨none, (some 3), .mov (.t 1), []⟩,
     ⟨none, (some 4), .mov (.c (.bool false)), []⟩])
   (.seq
    (.seq
     (.reg [5] [
       ⟨none, (some 5), .mov (.c (.int .i64 0)), []⟩])
     (.block 0
      (.loop b78_1)))
    (.seq
     (.reg [4] [
       ⟨none, (some 4), .mov (.c (.bool true)), []⟩])
     .ret)))
def c78 : Fn := { np := 2, nt := 17, kind := .pure, res := [.t 4], body := k78 }

/- laws.szBook -/
def k103 : Cd :=
  (.seq
   (.reg [4] [
     ⟨none, (some 4), .mov (.c (.int .i64 0)), []⟩])
   (.seq
    (.reg [1] [
      ⟨none, (some 5), .mov (.t 1), []⟩,
      ⟨none, (some 6), .mov (.t 0), []⟩,
      ⟨none, (some 7), .len (.t 6), []⟩,
      ⟨none, (some 8), .bin .sub (.t 5) (.t 7), []⟩,
      ⟨none, (some 1), .mov (.t 8), []⟩])
    (.seq
     (.seq
      (.reg [10] [
        ⟨none, (some 9), .mov (.t 1), []⟩,
        ⟨none, (some 10), .bin .lss (.t 9) (.c (.int .i64 0)), []⟩])
      (.cond (.t 10)
       (.seq
        (.reg [4] [
          ⟨none, (some 4), .mov (.c (.int .i64 (-1))), []⟩])
        .ret)
       .skip))
     (.seq
      (.reg [4] [
        ⟨none, (some 11), .mov (.t 1), []⟩,
        ⟨none, (some 4), .mov (.t 11), []⟩])
      .ret))))
def c103 : Fn := { np := 2, nt := 12, kind := .pure, res := [.t 4], body := k103 }

/- laws.toBook -/
def b105_1 : Cd :=
  (.seq
   (.seq
    (.reg [24] [
      ⟨none, (some 21), .mov (.t 6), []⟩,
      ⟨none, (some 22), .mov (.t 0), []⟩,
      ⟨none, (some 23), .len (.t 22), []⟩,
      ⟨none, (some 24), .bin .lss (.t 21) (.t 23), []⟩])
    (.cond (.t 24)
     .skip
     (.exit 0)))
   (.seq
    (.block 1
     (.reg [] [
       ⟨none, (some 27), .mov (.t 5), []⟩,
       ⟨none, (some 28), .mov (.t 6), []⟩,
       ⟨none, (some 29), .mov (.t 0), []⟩,
       ⟨none, (some 30), .mov (.t 6), []⟩,
       ⟨none, (some 31), .idxA 12 (.t 29) (.t 30), []⟩,
       ⟨none, (some 32), .ld 12 true (.t 31), []⟩,
       ⟨none, (some 33), .call true 134 [.t 32], []⟩,
       ⟨none, (some 34), .idxA 12 (.t 27) (.t 28), []⟩,
       ⟨none, none, .st 12 (.t 34) (.t 33), []⟩]))
    (.reg [6] [
      ⟨none, (some 25), .mov (.t 6), []⟩,
      ⟨none, (some 26), .bin .add (.t 25) (.c (.int .i64 1)), []⟩,
      ⟨none, (some 6), .mov (.t 26), []⟩])))
def b105_2 : Cd :=
  (.seq
   (.seq
    (.reg [40] [
      ⟨none, (some 37), .mov (.t 7), []⟩,
      ⟨none, (some 38), .mov (.t 5), []⟩,
      ⟨none, (some 39), .len (.t 38), []⟩,
      ⟨none, (some 40), .bin .lss (.t 37) (.t 39), []⟩])
    (.cond (.t 40)
     .skip
     (.exit 2)))
   (.seq
    (.block 3
     (.reg [] [
       ⟨none, (some 43), .mov (.t 5), []⟩,
       ⟨none, (some 44), .mov (.t 7), []⟩,
       ⟨none, (some 45), .agg (zs 12 (.int .u16 0)) [(0, 1, (.c (.int .u16 60201)))], []⟩,
       ⟨none, (some 46), .idxA 12 (.t 43) (.t 44), []⟩,
       ⟨none, none, .st 12 (.t 46) (.t 45), []⟩]))
    (.reg [7] [
      ⟨none, (some 41), .mov (.t 7), []⟩,
      ⟨none, (some 42), .bin .add (.t 41) (.c (.int .i64 1)), []⟩,
      ⟨none, (some 7), .mov (.t 42), []⟩])))
def k105 : Cd :=
  (.seq
   (.reg [4] [
     ⟨none, (some 4), .mov (.c (.slice none 0 0)), []⟩])
   (.seq
    (.seq
     (.reg [13] [
       ⟨none, (some 8), .mov (.t 1), []⟩,
       ⟨none, (some 9), .mov (.t 8), []⟩,
       ⟨(some (9, true)), (some 10), .mov (.t 0), []⟩,
       ⟨(some (9, true)), (some 11), .len (.t 10), []⟩,
       ⟨(some (9, true)), (some 12), .bin .eql (.t 11) (.c (.int .i64 0)), []⟩,
       ⟨none, (some 13), .pick (.t 9) (.t 12) (.c (.bool false)), []⟩])
     (.cond (.t 13)
      (.seq
       (.reg [4] [
         ⟨none, (some 4), .mov (.c (.slice none 0 0)), []⟩])
       .ret)
      .skip))
    (.seq
     (.reg [5] [
       ⟨none, (some 14), .mov (.t 0), []⟩,
       ⟨none, (some 15), .len (.t 14), []⟩,
       ⟨none, (some 16), .mov (.t 0), []⟩,
       ⟨none, (some 17), .len (.t 16), []⟩,
       ⟨none, (some 18), .call true 296 [.t 17], []⟩,
       ⟨none, (some 19), .bin .add (.t 15) (.t 18), []⟩,
       ⟨none, (some 20), .mkS 12 24 (zs 12 (.int .u16 0)) (.t 19) (.t 19), []⟩,
       ⟨none, (some 5), .mov (.t 20), []⟩])
     (.seq
      (.seq
       (.reg [6] [
         ⟨none, (some 6), .mov (.c (.int .i64 0)), []⟩])
       (.block 0
        (.loop b105_1)))
      (.seq
       (.seq
        (.reg [7] [
          ⟨none, (some 35), .mov (.t 0), []⟩,
          ⟨none, (some 36), .len (.t 35), []⟩,
          ⟨none, (some 7), .mov (.t 36), []⟩])
        (.block 2
         (.loop b105_2)))
       (.seq
        (.reg [4] [
          ⟨none, (some 47), .mov (.t 5), []⟩,
          ⟨none, (some 48), .mov (.t 0), []⟩,
          ⟨none, (some 49), .len (.t 48), []⟩,
          ⟨none, (some 50), .slcA 12 (.t 47) none (some (.t 49)) none, []⟩,
          ⟨none, (some 4), .mov (.t 50), []⟩])
        .ret))))))
def c105 : Fn := { np := 2, nt := 51, kind := .pure, res := [.t 4], body := k105 }

/- laws.intactBook -/
def k107 : Cd :=
  (.seq
   (.reg [4] [
     ⟨none, (some 4), .mov (.c (.bool false)), []⟩])
   (.seq
    (.reg [5] [
      ⟨none, (some 6), .mov (.t 1), []⟩,
      ⟨none, (some 7), .len (.t 6), []⟩,
      ⟨none, (some 8), .mov (.t 1), []⟩,
      ⟨none, (some 9), .len (.t 8), []⟩,
      ⟨none, (some 10), .call true 296 [.t 9], []⟩,
      ⟨none, (some 11), .bin .add (.t 7) (.t 10), []⟩,
      ⟨none, (some 5), .mov (.t 11), []⟩])
    (.seq
     (.reg [4] [
       ⟨none, (some 12), .mov (.t 0), []⟩,
       ⟨none, (some 13), .len (.t 12), []⟩,
       ⟨none, (some 14), .mov (.t 1), []⟩,
       ⟨none, (some 15), .len (.t 14), []⟩,
       ⟨none, (some 16), .bin .eql (.t 13) (.t 15), []⟩,
       ⟨none, (some 17), .mov (.t 16), []⟩,
       ⟨(some (17, true)), (some 18), .mov (.t 0), []⟩,
       ⟨(some (17, true)), (some 19), .mov (.t 5), []⟩,
       ⟨(some (17, true)), (some 20), .slcA 12 (.t 18) none (some (.t 19)) none, []⟩,
       ⟨(some (17, true)), (some 21), .mov (.t 1), []⟩,
       ⟨(some (17, true)), (some 22), .mov (.t 5), []⟩,
       ⟨(some (17, true)), (some 23), .slcA 12 (.t 21) none (some (.t 22)) none, []⟩,
       ⟨(some (17, true)), (some 24), .call true 121 [.t 20, .t 23], []⟩,
       ⟨none, (some 25), .pick (.t 17) (.t 24) (.c (.bool false)), []⟩,
       ⟨none, (some 4), .mov (.t 25), []⟩])
     .ret)))
def c107 : Fn := { np := 2, nt := 26, kind := .pure, res := [.t 4], body := k107 }

/- laws.eqBook -/
def b121_1 : Cd :=
  (.seq
   (.seq
    (.reg [14] [
      ⟨none, (some 11), .mov (.t 5), []⟩,
      ⟨none, (some 12), .mov (.t 0), []⟩,
      ⟨none, (some 13), .len (.t 12), []⟩,
      ⟨none, (some 14), .bin .lss (.t 11) (.t 13), []⟩])
    (.cond (.t 14)
     .skip
     (.exit 0)))
   (.seq
    (.block 1
     (.seq
      (.reg [26] [
        ⟨none, (some 17), .mov (.t 0), []⟩,
        ⟨none, (some 18), .mov (.t 5), []⟩,
        ⟨none, (some 19), .idxA 12 (.t 17) (.t 18), []⟩,
        ⟨none, (some 20), .ld 12 true (.t 19), []⟩,
        ⟨none, (some 21), .mov (.t 1), []⟩,
        ⟨none, (some 22), .mov (.t 5), []⟩,
        ⟨none, (some 23), .idxA 12 (.t 21) (.t 22), []⟩,
        ⟨none, (some 24), .ld 12 true (.t 23), []⟩,
        ⟨none, (some 25), .call true 78 [.t 20, .t 24], []⟩,
        ⟨none, (some 26), .un .not (.t 25), []⟩])
      (.cond (.t 26)
       (.seq
        (.reg [4] [
          ⟨none, (some 4), .mov (.c (.bool false)), []⟩])
        .ret)
       .skip)))
    (.reg [5] [
      ⟨none, (some 15), .mov (.t 5), []⟩,
      ⟨none, (some 16), .bin .add (.t 15) (.c (.int .i64 1)), []⟩,
      ⟨none, (some 5), .mov (.t 16), []⟩])))
def k121 : Cd :=
  (.seq
   (.reg [4] [
     ⟨none, (some 4), .mov (.c (.bool false)), []⟩])
   (.seq
    (.seq
     (.reg [10] [
       ⟨none, (some 6), .mov (.t 0), []⟩,
       ⟨none, (some 7), .len (.t 6), []⟩,
       ⟨none, (some 8), .mov (.t 1), []⟩,
       ⟨none, (some 9), .len (.t 8), []⟩,
       ⟨none, (some 10), .bin .neq (.t 7) (.t 9), []⟩])
     (.cond (.t 10)
      (.seq
       (.reg [4] [
         ⟨none, (some 4), .mov (.c (.bool false)), []⟩])
       .ret)
      .skip))
    (.seq
     (.seq
      (.reg [5] [
        ⟨none, (some 5), .mov (.c (.int .i64 0)), []⟩])
      (.block 0
       (.loop b121_1)))
     (.seq
      (.reg [4] [
        ⟨none, (some 4), .mov (.c (.bool true)), []⟩])
      .ret))))
def c121 : Fn := { np := 2, nt := 27, kind := .pure, res := [.t 4], body := k121 }

/- laws.markBook -/
def b122_1 : Cd :=
  (.seq
   (.seq
    (.reg [14] [
      ⟨none, (some 13), .mov (.t 6), []⟩,
      ⟨none, (some 14), .bin .lss (.t 13) (.c (.int .i64 12)), []⟩])
    (.cond (.t 14)
     .skip
     (.exit 2)))
   (.seq
    (.block 3
     (.seq
      (.reg [] [
        ⟨none, (some 17), .mov (.t 0), []⟩,
        ⟨none, (some 18), .mov (.t 5), []⟩,
        ⟨none, (some 19), .mov (.t 6), []⟩,
        ⟨none, (some 20), .mov (.t 1), []⟩,
        ⟨none, (some 21), .conv .u16 (.t 20), []⟩,
        ⟨none, (some 22), .idxA 12 (.t 17) (.t 18), []⟩,
        ⟨none, (some 23), .idxP 12 1 (.t 22) (.t 19), []⟩,
        ⟨none, none, .st 1 (.t 23) (.t 21), []⟩])
      (.reg [1] [
        ⟨none, (some 24), .mov (.t 1), []⟩,
        ⟨none, (some 25), .bin .add (.t 24) (.c (.int .i64 1)), []⟩,
        ⟨none, (some 1), .mov (.t 25), []⟩])))
    (.reg [6] [
      ⟨none, (some 15), .mov (.t 6), []⟩,
      ⟨none, (some 16), .bin .add (.t 15) (.c (.int .i64 1)), []⟩,
      ⟨none, (some 6), .mov (.t 16), []⟩])))
def b122_2 : Cd :=
  (.seq
   (.seq
    (.reg [10] [
      ⟨none, (some 7), .mov (.t 5), []⟩,
      ⟨none, (some 8), .mov (.t 0), []⟩,
      ⟨none, (some 9), .len (.t 8), []⟩,
      ⟨none, (some 10), .bin .lss (.t 7) (.t 9), []⟩])
    (.cond (.t 10)
     .skip
     (.exit 0)))
   (.seq
    (.block 1
     (.seq
      (.reg [6] [
        ⟨none, (some 6), .mov (.c (.int .i64 0)), []⟩])
      (.block 2
       (.loop b122_1))))
    (.reg [5] [
      ⟨none, (some 11), .mov (.t 5), []⟩,
      ⟨none, (some 12), .bin .add (.t 11) (.c (.int .i64 1)), []⟩,
      ⟨none, (some 5), .mov (.t 12), []⟩])))
def k122 : Cd :=
  (.seq
   (.reg [4] [
     ⟨none, (some 4), .mov (.c (.int .i64 0)), []⟩])
   (.seq
    (.seq
     (.reg [5] [
       ⟨none, (some 5), .mov (.c (.int .i64 0)), []⟩])
     (.block 0
      (.loop b122_2)))
    (.seq
     (.reg [4] [
       ⟨none, (some 26), .mov (.t 1), []⟩,
       ⟨none, (some 4), .mov (.t 26), []⟩])
     .ret)))
def c122 : Fn := { np := 2, nt := 27, kind := .args, res := [.t 4], body := k122 }

/- laws.toFrame -/
def b134_1 : Cd :=
  (.seq
   (.seq
    (.reg [6] [
      ⟨none, (some 5), .mov (.t 4), []⟩,
      ⟨none, (some 6), .bin .lss (.t 5) (.c (.int .i64 12)), []⟩])
    (.cond (.t 6)
     .skip
     (.exit 0)))
   (.seq
    (.block 1
     (.reg [3] [
       ⟨none, (some 9), .mov (.t 4), []⟩,
       ⟨none, (some 10), .mov (.t 4), []⟩,
       ⟨none, (some 11), .adrI 1 none 12 1 (.t 10), []⟩,
       ⟨none, (some 12), .ldV 1 (some 11) 1 false, []⟩,
       ⟨none, (some 13), .adrI 3 none 12 1 (.t 9), []⟩,
       ⟨none, (some 3), .stV 3 (some 13) 1 (.t 12), []⟩]))
    (.reg [4] [
      ⟨none, (some 7), .mov (.t 4), []⟩,
      ⟨none, (some 8), .bin .add (.t 7) (.c (.int .i64 1)), []⟩,
      ⟨none, (some 4), .mov (.t 8), []⟩])))
def k134 : Cd :=
  (.seq
   (.reg [1, 2] [
     ⟨none, (some 1), .mov (.t 0), []⟩,
     ⟨none, (some 2), .zero true (zs 12 (.int .u16 0)), []⟩])
   (.seq
    (.reg [3] [
      ⟨none, (some 3), .zero true (zs 12 (.int .u16 0)), []⟩])
    (.seq
     (.seq
      (.reg [4] [
        ⟨none, (some 4), .mov (.c (.int .i64 0)), []⟩])
      (.block 0
       (.loop b134_1)))
     (.seq
      (.reg [2] [
        ⟨none, (some 14), .ldV 3 none 12 true, []⟩,
        ⟨none, (some 2), .stV 2 none 12 (.t 14), []⟩])
      .ret))))
def c134 : Fn := { np := 1, nt := 15, kind := .pure, res := [.v 2 12 true], body := k134 }

/- laws.eqStep -/
def k166 : Cd :=
  (.seq
   (.reg [2, 3, 4] [
     ⟨none, (some 2), .mov (.t 0), []⟩,
     ⟨none, (some 3), .mov (.t 1), []⟩,
     ⟨none, (some 4), .mov (.c (.bool false)), []⟩])
   (.seq
    (.seq
     (.reg [9] [
       ⟨none, (some 5), .adrF 2 none 0, []⟩,
       ⟨none, (some 6), .ldV 2 (some 5) 1 false, []⟩,
       ⟨none, (some 7), .adrF 3 none 0, []⟩,
       ⟨none, (some 8), .ldV 3 (some 7) 1 false, []⟩,
       ⟨none, (some 9), .bin .neq (.t 6) (.t 8), []⟩])
     (.cond (.t 9)
      (.seq
       (.reg [4] [
         ⟨none, (some 4), .mov (.c (.bool false)), []⟩])
       .ret)
      .skip))
    (.seq
     (.seq
      (.reg [14] [
        ⟨none, (some 10), .adrF 2 none 1, []⟩,
        ⟨none, (some 11), .ldV 2 (some 10) 1 false, []⟩,
        ⟨none, (some 12), .adrF 3 none 1, []⟩,
        ⟨none, (some 13), .ldV 3 (some 12) 1 false, []⟩,
        ⟨none, (some 14), .bin .neq (.t 11) (.t 13), []⟩])
      (.cond (.t 14)
       (.seq
        (.reg [4] [
          ⟨none, (some 4), .mov (.c (.bool false)), []⟩])
        .ret)
       .skip))
     (.seq
      (.seq
       (.reg [19] [
         ⟨none, (some 15), .adrF 2 none 2, []⟩,
         ⟨none, (some 16), .ldV 2 (some 15) 1 false, []⟩,
         ⟨none, (some 17), .adrF 3 none 2, []⟩,
         ⟨none, (some 18), .ldV 3 (some 17) 1 false, []⟩,
         ⟨none, (some 19), .bin .neq (.t 16) (.t 18), []⟩])
       (.cond (.t 19)
        (.seq
         (.reg [4] [
           ⟨none, (some 4), .mov (.c (.bool false)), []⟩])
         .ret)
        .skip))
      (.seq
       (.seq
        (.reg [24] [
          ⟨none, (some 20), .adrF 2 none 3, []⟩,
          ⟨none, (some 21), .ldV 2 (some 20) 1 false, []⟩,
          ⟨none, (some 22), .adrF 3 none 3, []⟩,
          ⟨none, (some 23), .ldV 3 (some 22) 1 false, []⟩,
          ⟨none, (some 24), .bin .neq (.t 21) (.t 23), []⟩])
        (.cond (.t 24)
         (.seq
          (.reg [4] [
            ⟨none, (some 4), .mov (.c (.bool false)), []⟩])
          .ret)
         .skip))
       (.seq
        (.seq
         (.reg [30] [
           ⟨none, (some 25), .adrF 2 none 4, []⟩,
           ⟨none, (some 26), .ldV 2 (some 25) 1 false, []⟩,
           ⟨none, (some 27), .adrF 3 none 4, []⟩,
           ⟨none, (some 28), .ldV 3 (some 27) 1 false, []⟩,
           ⟨none, (some 29), .call true 390 [.t 26, .t 28], []⟩,
           ⟨none, (some 30), .un .not (.t 29), []⟩])
         (.cond (.t 30)
          (.seq
           (.reg [4] [
             ⟨none, (some 4), .mov (.c (.bool false)), []⟩])
           .ret)
          .skip))
        (.seq
         (.reg [4] [
           ⟨none, (some 4), .mov (.c (.bool true)), []⟩])
         .ret)))))))
def c166 : Fn := { np := 2, nt := 31, kind := .pure, res := [.t 4], body := k166 }

/- laws.markStepS -/
def b181_1 : Cd :=
  (.seq
   (.seq
    (.reg [9] [
      ⟨none, (some 6), .mov (.t 5), []⟩,
      ⟨none, (some 7), .mov (.t 0), []⟩,
      ⟨none, (some 8), .len (.t 7), []⟩,
      ⟨none, (some 9), .bin .lss (.t 6) (.t 8), []⟩])
    (.cond (.t 9)
     .skip
     (.exit 0)))
   (.seq
    (.block 1
     (.seq
      (.reg [] [
        ⟨none, (some 12), .mov (.t 0), []⟩,
        ⟨none, (some 13), .mov (.t 5), []⟩,
        ⟨none, (some 14), .mov (.t 1), []⟩,
        ⟨none, (some 15), .conv .i8 (.t 14), []⟩,
        ⟨none, (some 16), .idxA 5 (.t 12) (.t 13), []⟩,
        ⟨none, (some 17), .fldP 0 (.t 16), []⟩,
        ⟨none, none, .st 1 (.t 17) (.t 15), []⟩])
      (.seq
       (.reg [1] [
         ⟨none, (some 18), .mov (.t 1), []⟩,
         ⟨none, (some 19), .bin .add (.t 18) (.c (.int .i64 1)), []⟩,
         ⟨none, (some 1), .mov (.t 19), []⟩])
       (.seq
        (.reg [] [
          ⟨none, (some 20), .mov (.t 0), []⟩,
          ⟨none, (some 21), .mov (.t 5), []⟩,
          ⟨none, (some 22), .mov (.t 1), []⟩,
          ⟨none, (some 23), .conv .i8 (.t 22), []⟩,
          ⟨none, (some 24), .idxA 5 (.t 20) (.t 21), []⟩,
          ⟨none, (some 25), .fldP 1 (.t 24), []⟩,
          ⟨none, none, .st 1 (.t 25) (.t 23), []⟩])
        (.seq
         (.reg [1] [
           ⟨none, (some 26), .mov (.t 1), []⟩,
           ⟨none, (some 27), .bin .add (.t 26) (.c (.int .i64 1)), []⟩,
           ⟨none, (some 1), .mov (.t 27), []⟩])
         (.seq
          (.reg [] [
            ⟨none, (some 28), .mov (.t 0), []⟩,
            ⟨none, (some 29), .mov (.t 5), []⟩,
            ⟨none, (some 30), .mov (.t 1), []⟩,
            ⟨none, (some 31), .conv .i8 (.t 30), []⟩,
            ⟨none, (some 32), .idxA 5 (.t 28) (.t 29), []⟩,
            ⟨none, (some 33), .fldP 2 (.t 32), []⟩,
            ⟨none, none, .st 1 (.t 33) (.t 31), []⟩])
          (.seq
           (.reg [1] [
             ⟨none, (some 34), .mov (.t 1), []⟩,
             ⟨none, (some 35), .bin .add (.t 34) (.c (.int .i64 1)), []⟩,
             ⟨none, (some 1), .mov (.t 35), []⟩])
           (.seq
            (.reg [] [
              ⟨none, (some 36), .mov (.t 0), []⟩,
              ⟨none, (some 37), .mov (.t 5), []⟩,
              ⟨none, (some 38), .mov (.t 1), []⟩,
              ⟨none, (some 39), .conv .i8 (.t 38), []⟩,
              ⟨none, (some 40), .idxA 5 (.t 36) (.t 37), []⟩,
              ⟨none, (some 41), .fldP 3 (.t 40), []⟩,
              ⟨none, none, .st 1 (.t 41) (.t 39), []⟩])
            (.seq
             (.reg [1] [
               ⟨none, (some 42), .mov (.t 1), []⟩,
               ⟨none, (some 43), .bin .add (.t 42) (.c (.int .i64 1)), []⟩,
               ⟨none, (some 1), .mov (.t 43), []⟩])
             (.reg [1] [
               ⟨none, (some 44), .mov (.t 0), []⟩,
               ⟨none, (some 45), .mov (.t 5), []⟩,
               ⟨none, (some 46), .idxA 5 (.t 44) (.t 45), []⟩,
               ⟨none, (some 47), .fldP 4 (.t 46), []⟩,
               ⟨none, (some 48), .ld 1 false (.t 47), []⟩,
               ⟨none, (some 49), .mov (.t 1), []⟩,
               ⟨none, (some 50), .call false 391 [.t 48, .t 49], []⟩,
               ⟨none, (some 1), .mov (.t 50), []⟩]))))))))))
    (.reg [5] [
      ⟨none, (some 10), .mov (.t 5), []⟩,
      ⟨none, (some 11), .bin .add (.t 10) (.c (.int .i64 1)), []⟩,
      ⟨none, (some 5), .mov (.t 11), []⟩])))
def k181 : Cd :=
  (.seq
   (.reg [4] [
     ⟨none, (some 4), .mov (.c (.int .i64 0)), []⟩])
   (.seq
    (.seq
     (.reg [5] [
       ⟨none, (some 5), .mov (.c (.int .i64 0)), []⟩])
     (.block 0
      (.loop b181_1)))
    (.seq
     (.reg [4] [
       ⟨none, (some 51), .mov (.t 1), []⟩,
       ⟨none, (some 4), .mov (.t 51), []⟩])
     .ret)))
def c181 : Fn := { np := 2, nt := 52, kind := .args, res := [.t 4], body := k181 }

/- laws.eqStepS -/
def b213_1 : Cd :=
  (.seq
   (.seq
    (.reg [14] [
      ⟨none, (some 11), .mov (.t 5), []⟩,
      ⟨none, (some 12), .mov (.t 0), []⟩,
      ⟨none, (some 13), .len (.t 12), []⟩,
      ⟨none, (some 14), .bin .lss (.t 11) (.t 13), []⟩])
    (.cond (.t 14)
     .skip
     (.exit 0)))
   (.seq
    (.block 1
     (.seq
      (.reg [26] [
        ⟨none, (some 17), .mov (.t 0), []⟩,
        ⟨none, (some 18), .mov (.t 5), []⟩,
        ⟨none, (some 19), .idxA 5 (.t 17) (.t 18), []⟩,
        ⟨none, (some 20), .ld 5 true (.t 19), []⟩,
        ⟨none, (some 21), .mov (.t 1), []⟩,
        ⟨none, (some 22), .mov (.t 5), []⟩,
        ⟨none, (some 23), .idxA 5 (.t 21) (.t 22), []⟩,
        ⟨none, (some 24), .ld 5 true (.t 23), []⟩,
        ⟨none, (some 25), .call true 166 [.t 20, .t 24], []⟩,
        ⟨none, (some 26), .un .not (.t 25), []⟩])
      (.cond (.t 26)
       (.seq
        (.reg [4] [
          ⟨none, (some 4), .mov (.c (.bool false)), []⟩])
        .ret)
       .skip)))
    (.reg [5] [
      ⟨none, (some 15), .mov (.t 5), []⟩,
      ⟨none, (some 16), .bin .add (.t 15) (.c (.int .i64 1)), []⟩,
      ⟨none, (some 5), .mov (.t 16), []⟩])))
def k213 : Cd :=
  (.seq
   (.reg [4] [
     ⟨none, (some 4), .mov (.c (.bool false)), []⟩])
   (.seq
    (.seq
     (.reg [10] [
       ⟨none, (some 6), .mov (.t 0), []⟩,
       ⟨none, (some 7), .len (.t 6), []⟩,
       ⟨none, (some 8), .mov (.t 1), []⟩,
       ⟨none, (some 9), .len (.t 8), []⟩,
       ⟨none, (some 10), .bin .neq (.t 7) (.t 9), []⟩])
     (.cond (.t 10)
      (.seq
       (.reg [4] [
         ⟨none, (some 4), .mov (.c (.bool false)), []⟩])
       .ret)
      .skip))
    (.seq
     (.seq
      (.reg [5] [
        ⟨none, (some 5), .mov (.c (.int .i64 0)), []⟩])
      (.block 0
       (.loop b213_1)))
     (.seq
      (.reg [4] [
        ⟨none, (some 4), .mov (.c (.bool true)), []⟩])
      .ret))))
def c213 : Fn := { np := 2, nt := 27, kind := .pure, res := [.t 4], body := k213 }

/- laws.heldStepS -/
def b214_1 : Cd :=
  (.seq
   (.seq
    (.reg [9] [
      ⟨none, (some 6), .mov (.t 5), []⟩,
      ⟨none, (some 7), .mov (.t 0), []⟩,
      ⟨none, (some 8), .len (.t 7), []⟩,
      ⟨none, (some 9), .bin .lss (.t 6) (.t 8), []⟩])
    (.cond (.t 9)
     .skip
     (.exit 0)))
   (.seq
    (.block 1
     (.seq
      (.seq
       (.reg [19] [
         ⟨none, (some 12), .mov (.t 0), []⟩,
         ⟨none, (some 13), .mov (.t 5), []⟩,
         ⟨none, (some 14), .idxA 5 (.t 12) (.t 13), []⟩,
         ⟨none, (some 15), .fldP 0 (.t 14), []⟩,
         ⟨none, (some 16), .ld 1 false (.t 15), []⟩,
         ⟨none, (some 17), .mov (.t 1), []⟩,
         ⟨none, (some 18), .conv .i8 (.t 17), []⟩,
         ⟨none, (some 19), .bin .neq (.t 16) (.t 18), []⟩])
       (.cond (.t 19)
        (.seq
         (.reg [4] [
           ⟨none, (some 4), .mov (.c (.int .i64 (-1))), []⟩])
         .ret)
        .skip))
      (.seq
       (.reg [1] [
         ⟨none, (some 20), .mov (.t 1), []⟩,
         ⟨none, (some 21), .bin .add (.t 20) (.c (.int .i64 1)), []⟩,
         ⟨none, (some 1), .mov (.t 21), []⟩])
       (.seq
        (.seq
         (.reg [29] [
           ⟨none, (some 22), .mov (.t 0), []⟩,
           ⟨none, (some 23), .mov (.t 5), []⟩,
           ⟨none, (some 24), .idxA 5 (.t 22) (.t 23), []⟩,
           ⟨none, (some 25), .fldP 1 (.t 24), []⟩,
           ⟨none, (some 26), .ld 1 false (.t 25), []⟩,
           ⟨none, (some 27), .mov (.t 1), []⟩,
           ⟨none, (some 28), .conv .i8 (.t 27), []⟩,
           ⟨none, (some 29), .bin .neq (.t 26) (.t 28), []⟩])
         (.cond (.t 29)
          (.seq
           (.reg [4] [
             ⟨none, (some 4), .mov (.c (.int .i64 (-1))), []⟩])
           .ret)
          .skip))
        (.seq
         (.reg [1] [
           ⟨none, (some 30), .mov (.t 1), []⟩,
           ⟨none, (some 31), .bin .add (.t 30) (.c (.int .i64 1)), []⟩,
           ⟨none, (some 1), .mov (.t 31), []⟩])
         (.seq
          (.seq
           (.reg [39] [
             ⟨none, (some 32), .mov (.t 0), []⟩,
             ⟨none, (some 33), .mov (.t 5), []⟩,
             ⟨none, (some 34), .idxA 5 (.t 32) (.t 33), []⟩,
             ⟨none, (some 35), .fldP 2 (.t 34), []⟩,
             ⟨none, (some 36), .ld 1 false (.t 35), []⟩,
             ⟨none, (some 37), .mov (.t 1), []⟩,
             ⟨none, (some 38), .conv .i8 (.t 37), []⟩,
             ⟨none, (some 39), .bin .neq (.t 36) (.t 38), []⟩])
           (.cond (.t 39)
            (.seq
             (.reg [4] [
               ⟨none, (some 4), .mov (.c (.int .i64 (-1))), []⟩])
             .ret)
            .skip))
          (.seq
           (.reg [1] [
             ⟨none, (some 40), .mov (.t 1), []⟩,
             ⟨none, (some 41), .bin .add (.t 40) (.c (.int .i64 1)), []⟩,
             ⟨none, (some 1), .mov (.t 41), []⟩])
           (.seq
            (.seq
             (.reg [49] [
               ⟨none, (some 42), .mov (.t 0), []⟩,
               ⟨none, (some 43), .mov (.t 5), []⟩,
               ⟨none, (some 44), .idxA 5 (.t 42) (.t 43), []⟩,
               ⟨none, (some 45), .fldP 3 (.t 44), []⟩,
               ⟨none, (some 46), .ld 1 false (.t 45), []⟩,
               ⟨none, (some 47), .mov (.t 1), []⟩,
               ⟨none, (some 48), .conv .i8 (.t 47), []⟩,
               ⟨none, (some 49), .bin .neq (.t 46) (.t 48), []⟩])
             (.cond (.t 49)
              (.seq
               (.reg [4] [
                 ⟨none, (some 4), .mov (.c (.int .i64 (-1))), []⟩])
               .ret)
              .skip))
            (.seq
             (.reg [1] [
               ⟨none, (some 50), .mov (.t 1), []⟩,
               ⟨none, (some 51), .bin .add (.t 50) (.c (.int .i64 1)), []⟩,
               ⟨none, (some 1), .mov (.t 51), []⟩])
             (.seq
              (.reg [1] [
                ⟨none, (some 52), .mov (.t 0), []⟩,
                ⟨none, (some 53), .mov (.t 5), []⟩,
                ⟨none, (some 54), .idxA 5 (.t 52) (.t 53), []⟩,
                ⟨none, (some 55), .fldP 4 (.t 54), []⟩,
                ⟨none, (some 56), .ld 1 false (.t 55), []⟩,
                ⟨none, (some 57), .mov (.t 1), []⟩,
                ⟨none, (some 58), .call true 392 [.t 56, .t 57], []⟩,
                ⟨none, (some 1), .mov (.t 58), []⟩])
              (.seq
               (.reg [60] [
                 ⟨none, (some 59), .mov (.t 1), []⟩,
                 ⟨none, (some 60), .bin .lss (.t 59) (.c (.int .i64 0)), []⟩])
               (.cond (.t 60)
                (.seq
                 (.reg [4] [
                   ⟨none, (some 4), .mov (.c (.int .i64 (-1))), []⟩])
                 .ret)
                .skip))))))))))))
    (.reg [5] [
      ⟨none, (some 10), .mov (.t 5), []⟩,
      ⟨none, (some 11), .bin .add (.t 10) (.c (.int .i64 1)), []⟩,
      ⟨none, (some 5), .mov (.t 11), []⟩])))
def k214 : Cd :=
  (.seq
   (.reg [4] [
     ⟨none, (some 4), .mov (.c (.int .i64 0)), []⟩])
   (.seq
    (.seq
     (.reg [5] [
       ⟨none, (some 5), .mov (.c (.int .i64 0)), []⟩])
     (.block 0
      (.loop b214_1)))
    (.seq
     (.reg [4] [
       ⟨none, (some 61), .mov (.t 1), []⟩,
       ⟨none, (some 4), .mov (.t 61), []⟩])
     .ret)))
def c214 : Fn := { np := 2, nt := 62, kind := .pure, res := [.t 4], body := k214 }

/- spec.EncodeWithin -/
def k215 : Cd :=
  (.seq
   (.reg [4, 5, 6] [
     ⟨none, (some 4), .mov (.c (.slice none 0 0)), []⟩,
     ⟨none, (some 5), .mov (.c (.int .i64 0)), []⟩,
     ⟨none, (some 6), .mov (.c (.int .i64 0)), []⟩])
   (.seq
    (.seq
     (.reg [10] [
       ⟨none, (some 8), .mov (.t 0), []⟩,
       ⟨none, (some 9), .call true 318 [.t 8], []⟩,
       ⟨none, (some 10), .un .not (.t 9), []⟩])
     (.cond (.t 10)
      (.seq
       (.reg [4, 5, 6] [
         ⟨none, (some 11), .bldS 5 0 [.int .i8 0, .int .i8 0, .int .i8 0, .int .i8 0, .slice none 0 0] [], []⟩,
         ⟨none, (some 4), .mov (.t 11), []⟩,
         ⟨none, (some 5), .mov (.c (.int .i64 0)), []⟩,
         ⟨none, (some 6), .mov (.c (.int .i64 1)), []⟩])
       .ret)
      .skip))
    (.seq
     (.seq
      (.reg [14] [
        ⟨none, (some 12), .mov (.t 1), []⟩,
        ⟨none, (some 13), .call true 304 [.t 12, .c (.int .i64 0), .c (.int .i64 40)], []⟩,
        ⟨none, (some 14), .un .not (.t 13), []⟩])
      (.cond (.t 14)
       (.seq
        (.reg [4, 5, 6] [
          ⟨none, (some 15), .bldS 5 0 [.int .i8 0, .int .i8 0, .int .i8 0, .int .i8 0, .slice none 0 0] [], []⟩,
          ⟨none, (some 4), .mov (.t 15), []⟩,
          ⟨none, (some 5), .mov (.c (.int .i64 0)), []⟩,
          ⟨none, (some 6), .mov (.c (.int .i64 2)), []⟩])
        .ret)
       .skip))
     (.seq
      (.reg [7] [
        ⟨none, (some 16), .mov (.t 0), []⟩,
        ⟨none, (some 17), .mov (.t 1), []⟩,
        ⟨none, (some 18), .call true 430 [.t 16, .t 17], []⟩,
        ⟨none, (some 7), .mov (.t 18), []⟩])
      (.seq
       (.reg [4, 5, 6] [
         ⟨none, (some 19), .mov (.t 7), []⟩,
         ⟨none, (some 20), .mov (.t 7), []⟩,
         ⟨none, (some 21), .call true 396 [.t 20], []⟩,
         ⟨none, (some 4), .mov (.t 19), []⟩,
         ⟨none, (some 5), .mov (.t 21), []⟩,
         ⟨none, (some 6), .mov (.c (.int .i64 0)), []⟩])
       .ret)))))
def c215 : Fn := { np := 2, nt := 22, kind := .pure, res := [.t 4, .t 5, .t 6], body := k215 }

/- impl.EncodeWithin -/
def b216_1 : Cd :=
  (.seq
   (.reg [24] [
     ⟨none, (some 24), .bin .lss (.t 23) (.t 22), []⟩])
   (.seq
    (.cond (.t 24)
     .skip
     (.exit 1))
    (.seq
     (.block 2
      (.seq
       (.reg [9] [
         ⟨none, (some 25), .mov (.t 23), []⟩,
         ⟨none, (some 9), .mov (.t 25), []⟩])
       (.seq
        (.reg [10] [
          ⟨none, (some 26), .mov (.t 0), []⟩,
          ⟨none, (some 27), .mov (.t 9), []⟩,
          ⟨none, (some 28), .mkf 431 [.t 8, .t 3], []⟩,
          ⟨none, (some 29), .call true 406 [.t 26, .t 27, .t 28], []⟩,
          ⟨none, (some 10), .zero true [.int .i8 0, .int .i8 0, .int .i8 0, .int .i8 0, .slice none 0 0], []⟩,
          ⟨none, (some 10), .stV 10 none 5 (.t 29), []⟩])
        (.reg [7] [
          ⟨none, (some 30), .mov (.t 7), []⟩,
          ⟨none, (some 31), .ldV 10 none 5 true, []⟩,
          ⟨none, (some 32), .bldS 5 1 [.int .i8 0, .int .i8 0, .int .i8 0, .int .i8 0, .slice none 0 0] [(0, 5, (.t 31))], []⟩,
          ⟨none, (some 34), .ld 1 false (.t 8), []⟩,
          ⟨none, (some 35), .ldV 10 none 5 true, []⟩,
          ⟨none, (some 36), .ld 1 false (.t 8), []⟩,
          ⟨none, (some 33), .app 5 32 (.t 30) (.t 32), [.t 8, .t 8]⟩,
          ⟨none, (some 37), .call true 400 [.t 35, .t 36], []⟩,
          ⟨none, (some 38), .bldS 1 1 [.int .i64 0] [(0, 1, (.t 37))], []⟩,
          ⟨none, (some 39), .app 1 8 (.t 34) (.t 38), []⟩,
          ⟨none, (some 7), .mov (.t 33), []⟩,
          ⟨none, none, .st 1 (.t 8) (.t 39), []⟩]))))
     (.reg [23] [
       ⟨none, (some 40), .bin .add (.t 23) (.c (.int .i64 1)), []⟩,
       ⟨none, (some 23), .mov (.t 40), []⟩]))))
def k216 : Cd :=
  (.seq
   (.reg [3, 4, 5, 6] [
     ⟨none, (some 3), .box 1 (.t 1), []⟩,
     ⟨none, (some 4), .mov (.c (.slice none 0 0)), []⟩,
     ⟨none, (some 5), .mov (.c (.int .i64 0)), []⟩,
     ⟨none, (some 6), .mov (.c (.int .i64 0)), []⟩])
   (.seq
    (.block 0
     (.seq
      (.reg [11] [
        ⟨none, (some 12), .mov (.t 0), []⟩,
        ⟨none, (some 13), .call true 316 [.t 12], []⟩,
        ⟨none, (some 14), .un .not (.t 13), []⟩,
        ⟨none, (some 11), .mov (.t 14), []⟩])
      (.cond (.t 11)
       (.seq
        (.reg [4, 5, 6] [
          ⟨none, (some 4), .mov (.c (.slice none 0 0)), []⟩,
          ⟨none, (some 5), .mov (.c (.int .i64 0)), []⟩,
          ⟨none, (some 6), .mov (.c (.int .i64 1)), []⟩])
        .ret)
       (.seq
        (.reg [15] [
          ⟨none, (some 16), .ld 1 false (.t 3), []⟩,
          ⟨none, (some 17), .call true 295 [.t 16, .c (.int .i64 0), .c (.int .i64 40)], []⟩,
          ⟨none, (some 18), .un .not (.t 17), []⟩,
          ⟨none, (some 15), .mov (.t 18), []⟩])
        (.cond (.t 15)
         (.seq
          (.reg [4, 5, 6] [
            ⟨none, (some 4), .mov (.c (.slice none 0 0)), []⟩,
            ⟨none, (some 5), .mov (.c (.int .i64 0)), []⟩,
            ⟨none, (some 6), .mov (.c (.int .i64 2)), []⟩])
          .ret)
         .skip)))))
    (.seq
     (.reg [8, 7] [
       ⟨none, (some 19), .bldS 5 0 [.int .i8 0, .int .i8 0, .int .i8 0, .int .i8 0, .slice none 0 0] [], []⟩,
       ⟨none, (some 20), .bldS 1 0 [.int .i64 0] [], []⟩,
       ⟨none, (some 8), .new 1 [.slice none 0 0], []⟩,
       ⟨none, (some 7), .mov (.t 19), []⟩,
       ⟨none, none, .st 1 (.t 8) (.t 20), []⟩])
     (.seq
      (.seq
       (.reg [22, 23] [
         ⟨none, (some 21), .mov (.t 0), []⟩,
         ⟨none, (some 22), .len (.t 21), []⟩,
         ⟨none, (some 23), .mov (.c (.int .i64 0)), []⟩])
       (.block 1
        (.loop b216_1)))
      (.seq
       (.reg [4, 5, 6] [
         ⟨none, (some 41), .mov (.t 7), []⟩,
         ⟨none, (some 42), .mov (.t 7), []⟩,
         ⟨none, (some 43), .call true 397 [.t 42], []⟩,
         ⟨none, (some 4), .mov (.t 41), []⟩,
         ⟨none, (some 5), .mov (.t 43), []⟩,
         ⟨none, (some 6), .mov (.c (.int .i64 0)), []⟩])
       .ret)))))
def c216 : Fn := { np := 2, nt := 44, kind := .pure, res := [.t 4, .t 5, .t 6], body := k216 }

/- impl.ValidFrame -/
def k234 : Cd :=
  (.seq
   (.reg [1, 2] [
     ⟨none, (some 1), .box 12 (.t 0), []⟩,
     ⟨none, (some 2), .mov (.c (.bool false)), []⟩])
   (.seq
    (.reg [2] [
      ⟨none, (some 3), .slcP 12 1 (.t 1), []⟩,
      ⟨none, (some 4), .call true 445 [.t 3, .f 446], []⟩,
      ⟨none, (some 5), .un .not (.t 4), []⟩,
      ⟨none, (some 2), .mov (.t 5), []⟩])
    .ret))
def c234 : Fn := { np := 1, nt := 6, kind := .pure, res := [.t 2], body := k234 }

/- impl.inRange -/
def k295 : Cd :=
  (.seq
   (.reg [6] [
     ⟨none, (some 6), .mov (.c (.bool false)), []⟩])
   (.seq
    (.reg [6] [
      ⟨none, (some 7), .mov (.t 1), []⟩,
      ⟨none, (some 8), .mov (.t 0), []⟩,
      ⟨none, (some 9), .bin .leq (.t 7) (.t 8), []⟩,
      ⟨none, (some 10), .mov (.t 9), []⟩,
      ⟨(some (10, true)), (some 11), .mov (.t 0), []⟩,
      ⟨(some (10, true)), (some 12), .mov (.t 2), []⟩,
      ⟨(some (10, true)), (some 13), .bin .leq (.t 11) (.t 12), []⟩,
      ⟨none, (some 14), .pick (.t 10) (.t 13) (.c (.bool false)), []⟩,
      ⟨none, (some 6), .mov (.t 14), []⟩])
    .ret))
def c295 : Fn := { np := 3, nt := 15, kind := .pure, res := [.t 6], body := k295 }

/- laws.roomBehind -/
def k296 : Cd :=
  (.seq
   (.reg [2] [
     ⟨none, (some 2), .mov (.c (.int .i64 0)), []⟩])
   (.seq
    (.seq
     (.reg [5] [
       ⟨none, (some 3), .mov (.t 0), []⟩,
       ⟨none, (some 4), .bin .rem (.t 3) (.c (.int .i64 6)), []⟩,
       ⟨none, (some 5), .bin .eql (.t 4) (.c (.int .i64 5)), []⟩])
     (.cond (.t 5)
      (.seq
       (.reg [2] [
         ⟨none, (some 2), .mov (.c (.int .i64 0)), []⟩])
       .ret)
      .skip))
    (.seq
     (.seq
      (.reg [8] [
        ⟨none, (some 6), .mov (.t 0), []⟩,
        ⟨none, (some 7), .bin .rem (.t 6) (.c (.int .i64 3)), []⟩,
        ⟨none, (some 8), .bin .eql (.t 7) (.c (.int .i64 0)), []⟩])
      (.cond (.t 8)
       (.seq
        (.reg [2] [
          ⟨none, (some 2), .mov (.c (.int .i64 1)), []⟩])
        .ret)
       .skip))
     (.seq
      (.reg [2] [
        ⟨none, (some 9), .mov (.t 0), []⟩,
        ⟨none, (some 2), .mov (.t 9), []⟩])
      .ret))))
def c296 : Fn := { np := 1, nt := 10, kind := .pure, res := [.t 2], body := k296 }

/- spec.l00In -/
def k304 : Cd :=
  (.seq
   (.reg [6] [
     ⟨none, (some 6), .mov (.c (.bool false)), []⟩])
   (.seq
    (.reg [6] [
      ⟨none, (some 7), .mov (.t 0), []⟩,
      ⟨none, (some 8), .mov (.t 1), []⟩,
      ⟨none, (some 9), .bin .geq (.t 7) (.t 8), []⟩,
      ⟨none, (some 10), .mov (.t 9), []⟩,
      ⟨(some (10, true)), (some 11), .mov (.t 0), []⟩,
      ⟨(some (10, true)), (some 12), .mov (.t 2), []⟩,
      ⟨(some (10, true)), (some 13), .bin .leq (.t 11) (.t 12), []⟩,
      ⟨none, (some 14), .pick (.t 10) (.t 13) (.c (.bool false)), []⟩,
      ⟨none, (some 6), .mov (.t 14), []⟩])
    .ret))
def c304 : Fn := { np := 3, nt := 15, kind := .pure, res := [.t 6], body := k304 }

/- spec.l06Cost -/
def k310 : Cd :=
  (.seq
   (.reg [2] [
     ⟨none, (some 2), .mov (.c (.int .i64 0)), []⟩])
   (.seq
    (.reg [3] [
      ⟨none, (some 4), .agg [.int .i64 0, .int .i64 0, .int .i64 0] [(0, 1, (.c (.int .i64 1))), (1, 1, (.c (.int .i64 2))), (2, 1, (.c (.int .i64 4)))], []⟩,
      ⟨none, (some 3), .zero true [.int .i64 0, .int .i64 0, .int .i64 0], []⟩,
      ⟨none, (some 3), .stV 3 none 3 (.t 4), []⟩])
    (.seq
     (.reg [2] [
       ⟨none, (some 5), .mov (.t 0), []⟩,
       ⟨none, (some 6), .nil (.t 5), []⟩,
       ⟨none, (some 7), .fldP 0 (.t 6), []⟩,
       ⟨none, (some 8), .ld 1 false (.t 7), []⟩,
       ⟨none, (some 9), .adrI 3 none 3 1 (.t 8), []⟩,
       ⟨none, (some 10), .ldV 3 (some 9) 1 false, []⟩,
       ⟨none, (some 11), .mov (.t 0), []⟩,
       ⟨none, (some 12), .nil (.t 11), []⟩,
       ⟨none, (some 13), .fldP 4 (.t 12), []⟩,
       ⟨none, (some 14), .ld 1 false (.t 13), []⟩,
       ⟨none, (some 15), .len (.t 14), []⟩,
       ⟨none, (some 16), .bin .mul (.c (.int .i64 3)) (.t 15), []⟩,
       ⟨none, (some 17), .bin .add (.t 10) (.t 16), []⟩,
       ⟨none, (some 2), .mov (.t 17), []⟩])
     .ret)))
def c310 : Fn := { np := 1, nt := 18, kind := .pure, res := [.t 2], body := k310 }

/- (impl.Step).cost -/
def k312 : Cd :=
  (.seq
   (.reg [1, 2] [
     ⟨none, (some 1), .mov (.t 0), []⟩,
     ⟨none, (some 2), .mov (.c (.int .i64 0)), []⟩])
   (.seq
    (.reg [3] [
      ⟨none, (some 4), .agg [.int .i64 0, .int .i64 0, .int .i64 0] [(0, 1, (.c (.int .i64 1))), (1, 1, (.c (.int .i64 2))), (2, 1, (.c (.int .i64 4)))], []⟩,
      ⟨none, (some 3), .zero true [.int .i64 0, .int .i64 0, .int .i64 0], []⟩,
      ⟨none, (some 3), .stV 3 none 3 (.t 4), []⟩])
    (.seq
     (.reg [2] [
       ⟨none, (some 5), .adrF 1 none 4, []⟩,
       ⟨none, (some 6), .ldV 1 (some 5) 1 false, []⟩,
       ⟨none, (some 9), .adrF 1 none 0, []⟩,
       ⟨none, (some 10), .ldV 1 (some 9) 1 false, []⟩,
       ⟨none, (some 11), .adrI 3 none 3 1 (.t 10), []⟩,
       ⟨none, (some 12), .ldV 3 (some 11) 1 false, []⟩,
       ⟨none, (some 7), .call true 490 [.t 6], []⟩,
       ⟨none, (some 8), .bin .mul (.c (.int .i64 3)) (.t 7), []⟩,
       ⟨none, (some 13), .bin .add (.t 8) (.t 12), []⟩,
       ⟨none, (some 2), .mov (.t 13), []⟩])
     .ret)))
def c312 : Fn := { np := 1, nt := 14, kind := .pure, res := [.t 2], body := k312 }

/- impl.ValidBook -/
def k316 : Cd :=
  (.seq
   (.reg [2] [
     ⟨none, (some 2), .mov (.c (.bool false)), []⟩])
   (.seq
    (.reg [2] [
      ⟨none, (some 3), .mov (.t 0), []⟩,
      ⟨none, (some 4), .len (.t 3), []⟩,
      ⟨none, (some 5), .bin .leq (.t 4) (.c (.int .i64 40)), []⟩,
      ⟨none, (some 6), .mov (.t 5), []⟩,
      ⟨(some (6, true)), (some 7), .mov (.t 0), []⟩,
      ⟨(some (6, true)), (some 8), .call true 351 [.t 7], []⟩,
      ⟨none, (some 9), .pick (.t 6) (.t 8) (.c (.bool false)), []⟩,
      ⟨none, (some 2), .mov (.t 9), []⟩])
    .ret))
def c316 : Fn := { np := 1, nt := 10, kind := .pure, res := [.t 2], body := k316 }

/- spec.l02Ok -/
def b318_1 : Cd :=
  (.seq
   (.seq
    (.reg [7] [
      ⟨none, (some 4), .mov (.t 3), []⟩,
      ⟨none, (some 5), .mov (.t 0), []⟩,
      ⟨none, (some 6), .len (.t 5), []⟩,
      ⟨none, (some 7), .bin .lss (.t 4) (.t 6), []⟩])
    (.cond (.t 7)
     .skip
     (.exit 0)))
   (.seq
    (.block 1
     (.seq
      (.reg [14] [
        ⟨none, (some 10), .mov (.t 0), []⟩,
        ⟨none, (some 11), .mov (.t 3), []⟩,
        ⟨none, (some 12), .idxA 12 (.t 10) (.t 11), []⟩,
        ⟨none, (some 13), .call true 359 [.t 12], []⟩,
        ⟨none, (some 14), .un .not (.t 13), []⟩])
      (.cond (.t 14)
       (.seq
        (.reg [2] [
          ⟨none, (some 2), .mov (.c (.bool false)), []⟩])
        .ret)
       .skip)))
    (.reg [3] [
      ⟨none, (some 8), .mov (.t 3), []⟩,
      ⟨none, (some 9), .bin .add (.t 8) (.c (.int .i64 1)), []⟩,
      ⟨none, (some 3), .mov (.t 9), []⟩])))
def k318 : Cd :=
  (.seq
   (.reg [2] [
     ⟨none, (some 2), .mov (.c (.bool false)), []⟩])
   (.seq
    (.seq
     (.reg [3] [
       ⟨none, (some 3), .mov (.c (.int .i64 0)), []⟩])
     (.block 0
      (.loop b318_1)))
    (.seq
     (.reg [2] [
       ⟨none, (some 15), .mov (.t 0), []⟩,
       ⟨none, (some 16), .len (.t 15), []⟩,
       ⟨none, (some 17), .bin .leq (.t 16) (.c (.int .i64 40)), []⟩,
       ⟨none, (some 2), .mov (.t 17), []⟩])
     .ret)))
def c318 : Fn := { np := 1, nt := 18, kind := .pure, res := [.t 2], body := k318 }

/- impl.areFrames -/
def k351 : Cd :=
  (.seq
   (.reg [2] [
     ⟨none, (some 2), .mov (.c (.bool false)), []⟩])
   (.seq
    (.reg [2] [
      ⟨none, (some 3), .mov (.t 0), []⟩,
      ⟨none, (some 4), .call true 505 [.t 3, .f 506], []⟩,
      ⟨none, (some 5), .un .not (.t 4), []⟩,
      ⟨none, (some 2), .mov (.t 5), []⟩])
    .ret))
def c351 : Fn := { np := 1, nt := 6, kind := .pure, res := [.t 2], body := k351 }

/- (impl.Frame).moved -/
def b358_1 : Cd :=
  (.seq
   (.reg [16] [
     ⟨none, (some 16), .bin .lss (.t 15) (.c (.int .i64 12)), []⟩])
   (.seq
    (.cond (.t 16)
     .skip
     (.exit 0))
    (.seq
     (.block 1
      (.seq
       (.reg [8] [
         ⟨none, (some 17), .mov (.t 15), []⟩,
         ⟨none, (some 8), .mov (.t 17), []⟩])
       (.seq
        (.reg [9] [
          ⟨none, (some 18), .mov (.t 8), []⟩,
          ⟨none, (some 19), .mov (.t 2), []⟩,
          ⟨none, (some 20), .bin .sub (.t 18) (.t 19), []⟩,
          ⟨none, (some 9), .mov (.t 20), []⟩])
        (.seq
         (.seq
          (.reg [23] [
            ⟨none, (some 21), .mov (.t 9), []⟩,
            ⟨none, (some 22), .call true 295 [.t 21, .c (.int .i64 0), .c (.int .i64 11)], []⟩,
            ⟨none, (some 23), .un .not (.t 22), []⟩])
          (.cond (.t 23)
           (.exit 1)
           .skip))
         (.seq
          (.reg [25] [
            ⟨none, (some 24), .mov (.t 1), []⟩,
            ⟨none, (some 25), .bin .geq (.t 24) (.c (.int .i64 0)), []⟩])
          (.cond (.t 25)
           (.reg [7] [
             ⟨none, (some 26), .mov (.t 8), []⟩,
             ⟨none, (some 27), .mov (.t 9), []⟩,
             ⟨none, (some 28), .adrI 3 none 12 1 (.t 27), []⟩,
             ⟨none, (some 29), .ldV 3 (some 28) 1 false, []⟩,
             ⟨none, (some 30), .mov (.t 1), []⟩,
             ⟨none, (some 31), .bin .shl (.t 29) (.t 30), []⟩,
             ⟨none, (some 32), .bin .and (.t 31) (.c (.int .u16 4095)), []⟩,
             ⟨none, (some 33), .adrI 7 none 12 1 (.t 26), []⟩,
             ⟨none, (some 7), .stV 7 (some 33) 1 (.t 32), []⟩])
           (.reg [7] [
             ⟨none, (some 34), .mov (.t 8), []⟩,
             ⟨none, (some 35), .mov (.t 9), []⟩,
             ⟨none, (some 36), .adrI 3 none 12 1 (.t 35), []⟩,
             ⟨none, (some 37), .ldV 3 (some 36) 1 false, []⟩,
             ⟨none, (some 38), .mov (.t 1), []⟩,
             ⟨none, (some 39), .un .neg (.t 38), []⟩,
             ⟨none, (some 40), .bin .shr (.t 37) (.t 39), []⟩,
             ⟨none, (some 41), .adrI 7 none 12 1 (.t 34), []⟩,
             ⟨none, (some 7), .stV 7 (some 41) 1 (.t 40), []⟩])))))))
     (.reg [15] [
       ⟨none, (some 42), .bin .add (.t 15) (.c (.int .i64 1)), []⟩,
       ⟨none, (some 15), .mov (.t 42), []⟩]))))
def k358 : Cd :=
  (.seq
   (.reg [3, 6] [
     ⟨none, (some 3), .mov (.t 0), []⟩,
     ⟨none, (some 6), .zero true (zs 12 (.int .u16 0)), []⟩])
   (.seq
    (.reg [7] [
      ⟨none, (some 10), .agg (zs 12 (.int .u16 0)) [], []⟩,
      ⟨none, (some 7), .zero true (zs 12 (.int .u16 0)), []⟩,
      ⟨none, (some 7), .stV 7 none 12 (.t 10), []⟩])
    (.seq
     (.seq
      (.reg [13] [
        ⟨none, (some 11), .mov (.t 1), []⟩,
        ⟨none, (some 12), .call true 295 [.t 11, .c (.int .i64 (-12)), .c (.int .i64 12)], []⟩,
        ⟨none, (some 13), .un .not (.t 12), []⟩])
      (.cond (.t 13)
       (.seq
        (.reg [6] [
          ⟨none, (some 14), .ldV 7 none 12 true, []⟩,
          ⟨none, (some 6), .stV 6 none 12 (.t 14), []⟩])
        .ret)
       .skip))
     (.seq
      (.seq
       (.reg [15] [
         ⟨none, (some 15), .mov (.c (.int .i64 0)), []⟩])
       (.block 0
        (.loop b358_1)))
      (.seq
       (.reg [6] [
         ⟨none, (some 43), .ldV 7 none 12 true, []⟩,
         ⟨none, (some 6), .stV 6 none 12 (.t 43), []⟩])
       .ret)))))
def c358 : Fn := { np := 3, nt := 44, kind := .pure, res := [.v 6 12 true], body := k358 }

/- spec.l01Ok -/
def b359_1 : Cd :=
  (.seq
   (.seq
    (.reg [5] [
      ⟨none, (some 4), .mov (.t 3), []⟩,
      ⟨none, (some 5), .bin .lss (.t 4) (.c (.int .i64 12)), []⟩])
    (.cond (.t 5)
     .skip
     (.exit 0)))
   (.seq
    (.block 1
     (.seq
      (.reg [13] [
        ⟨none, (some 8), .mov (.t 0), []⟩,
        ⟨none, (some 9), .mov (.t 3), []⟩,
        ⟨none, (some 10), .nil (.t 8), []⟩,
        ⟨none, (some 11), .idxP 12 1 (.t 10) (.t 9), []⟩,
        ⟨none, (some 12), .ld 1 false (.t 11), []⟩,
        ⟨none, (some 13), .bin .gtr (.t 12) (.c (.int .u16 4095)), []⟩])
      (.cond (.t 13)
       (.seq
        (.reg [2] [
          ⟨none, (some 2), .mov (.c (.bool false)), []⟩])
        .ret)
       .skip)))
    (.reg [3] [
      ⟨none, (some 6), .mov (.t 3), []⟩,
      ⟨none, (some 7), .bin .add (.t 6) (.c (.int .i64 1)), []⟩,
      ⟨none, (some 3), .mov (.t 7), []⟩])))
def k359 : Cd :=
  (.seq
   (.reg [2] [
     ⟨none, (some 2), .mov (.c (.bool false)), []⟩])
   (.seq
    (.seq
     (.reg [3] [
       ⟨none, (some 3), .mov (.c (.int .i64 0)), []⟩])
     (.block 0
      (.loop b359_1)))
    (.seq
     (.reg [2] [
       ⟨none, (some 2), .mov (.c (.bool true)), []⟩])
     .ret)))
def c359 : Fn := { np := 1, nt := 14, kind := .pure, res := [.t 2], body := k359 }

/- (impl.Frame).differ -/
def k367 : Cd :=
  (.seq
   (.reg [2, 3, 4] [
     ⟨none, (some 2), .mov (.t 0), []⟩,
     ⟨none, (some 3), .mov (.t 1), []⟩,
     ⟨none, (some 4), .zero true (zs 12 (.int .u16 0)), []⟩])
   (.seq
    (.reg [4] [
      ⟨none, (some 5), .ldV 2 none 12 true, []⟩,
      ⟨none, (some 6), .ldV 3 none 12 true, []⟩,
      ⟨none, (some 7), .call true 443 [.t 5, .t 6, .f 512], []⟩,
      ⟨none, (some 4), .stV 4 none 12 (.t 7), []⟩])
    .ret))
def c367 : Fn := { np := 2, nt := 8, kind := .pure, res := [.v 4 12 true], body := k367 }

/- spec.l06Between -/
def b388_1 : Cd :=
  (.seq
   (.seq
    (.reg [27] [
      ⟨none, (some 26), .mov (.t 9), []⟩,
      ⟨none, (some 27), .bin .leq (.t 26) (.c (.int .i64 12)), []⟩])
    (.cond (.t 27)
     .skip
     (.exit 2)))
   (.seq
    (.block 3
     (.seq
      (.seq
       (.reg [35] [
         ⟨none, (some 30), .mov (.t 8), []⟩,
         ⟨none, (some 31), .bin .eql (.t 30) (.c (.int .i64 0)), []⟩,
         ⟨none, (some 32), .mov (.t 31), []⟩,
         ⟨(some (32, true)), (some 33), .mov (.t 9), []⟩,
         ⟨(some (32, true)), (some 34), .bin .eql (.t 33) (.c (.int .i64 0)), []⟩,
         ⟨none, (some 35), .pick (.t 32) (.t 34) (.c (.bool false)), []⟩])
       (.cond (.t 35)
        (.exit 3)
        .skip))
      (.seq
       (.reg [10] [
         ⟨none, (some 36), .mov (.t 0), []⟩,
         ⟨none, (some 37), .mov (.t 8), []⟩,
         ⟨none, (some 38), .mov (.t 9), []⟩,
         ⟨none, (some 39), .call true 526 [.t 36, .t 37, .t 38], []⟩,
         ⟨none, (some 10), .new 1 (zs 12 (.int .u16 0)), []⟩,
         ⟨none, none, .st 12 (.t 10) (.t 39), []⟩])
       (.seq
        (.reg [11] [
          ⟨none, (some 40), .mov (.t 1), []⟩,
          ⟨none, (some 41), .call true 525 [.t 10, .t 40], []⟩,
          ⟨none, (some 11), .mov (.t 41), []⟩])
        (.seq
         (.reg [47] [
           ⟨none, (some 42), .mov (.t 11), []⟩,
           ⟨none, (some 43), .len (.t 42), []⟩,
           ⟨none, (some 44), .bin .mul (.c (.int .i64 3)) (.t 43), []⟩,
           ⟨none, (some 45), .bin .add (.c (.int .i64 4)) (.t 44), []⟩,
           ⟨none, (some 46), .call true 310 [.t 7], []⟩,
           ⟨none, (some 47), .bin .lss (.t 45) (.t 46), []⟩])
         (.cond (.t 47)
          (.reg [] [
            ⟨none, (some 48), .mov (.t 2), []⟩,
            ⟨none, (some 49), .conv .i8 (.t 48), []⟩,
            ⟨none, (some 50), .mov (.t 8), []⟩,
            ⟨none, (some 51), .conv .i8 (.t 50), []⟩,
            ⟨none, (some 52), .mov (.t 9), []⟩,
            ⟨none, (some 53), .conv .i8 (.t 52), []⟩,
            ⟨none, (some 54), .mov (.t 11), []⟩,
            ⟨none, (some 55), .agg [.int .i8 0, .int .i8 0, .int .i8 0, .int .i8 0, .slice none 0 0] [(0, 1, (.c (.int .i8 2))), (1, 1, (.t 49)), (2, 1, (.t 51)), (3, 1, (.t 53)), (4, 1, (.t 54))], []⟩,
            ⟨none, none, .st 5 (.t 7) (.t 55), []⟩])
          .skip))))))
    (.reg [9] [
      ⟨none, (some 28), .mov (.t 9), []⟩,
      ⟨none, (some 29), .bin .add (.t 28) (.c (.int .i64 1)), []⟩,
      ⟨none, (some 9), .mov (.t 29), []⟩])))
def b388_2 : Cd :=
  (.seq
   (.seq
    (.reg [23] [
      ⟨none, (some 18), .mov (.t 8), []⟩,
      ⟨none, (some 19), .bin .leq (.t 18) (.c (.int .i64 12)), []⟩,
      ⟨none, (some 20), .mov (.t 19), []⟩,
      ⟨(some (20, true)), (some 21), .call true 310 [.t 7], []⟩,
      ⟨(some (20, true)), (some 22), .bin .gtr (.t 21) (.c (.int .i64 4)), []⟩,
      ⟨none, (some 23), .pick (.t 20) (.t 22) (.c (.bool false)), []⟩])
    (.cond (.t 23)
     .skip
     (.exit 0)))
   (.seq
    (.block 1
     (.seq
      (.reg [9] [
        ⟨none, (some 9), .mov (.c (.int .i64 (-12))), []⟩])
      (.block 2
       (.loop b388_1))))
    (.reg [8] [
      ⟨none, (some 24), .mov (.t 8), []⟩,
      ⟨none, (some 25), .bin .add (.t 24) (.c (.int .i64 1)), []⟩,
      ⟨none, (some 8), .mov (.t 25), []⟩])))
def k388 : Cd :=
  (.seq
   (.reg [6] [
     ⟨none, (some 6), .zero true [.int .i8 0, .int .i8 0, .int .i8 0, .int .i8 0, .slice none 0 0], []⟩])
   (.seq
    (.reg [7] [
      ⟨none, (some 12), .mov (.t 2), []⟩,
      ⟨none, (some 13), .conv .i8 (.t 12), []⟩,
      ⟨none, (some 14), .mov (.t 0), []⟩,
      ⟨none, (some 15), .mov (.t 1), []⟩,
      ⟨none, (some 16), .call true 525 [.t 14, .t 15], []⟩,
      ⟨none, (some 17), .agg [.int .i8 0, .int .i8 0, .int .i8 0, .int .i8 0, .slice none 0 0] [(0, 1, (.c (.int .i8 1))), (1, 1, (.t 13)), (4, 1, (.t 16))], []⟩,
      ⟨none, (some 7), .new 1 [.int .i8 0, .int .i8 0, .int .i8 0, .int .i8 0, .slice none 0 0], []⟩,
      ⟨none, none, .st 5 (.t 7) (.t 17), []⟩])
    (.seq
     (.seq
      (.reg [8] [
        ⟨none, (some 8), .mov (.c (.int .i64 (-12))), []⟩])
      (.block 0
       (.loop b388_2)))
     (.seq
      (.reg [6] [
        ⟨none, (some 56), .ld 5 true (.t 7), []⟩,
        ⟨none, (some 6), .stV 6 none 5 (.t 56), []⟩])
      .ret))))
def c388 : Fn := { np := 3, nt := 57, kind := .pure, res := [.v 6 5 true], body := k388 }

/- impl.stepBetween -/
def b389_1 : Cd :=
  (.seq
   (.seq
    (.reg [22] [
      ⟨none, (some 21), .mov (.t 9), []⟩,
      ⟨none, (some 22), .bin .leq (.t 21) (.c (.int .i64 12)), []⟩])
    (.cond (.t 22)
     .skip
     (.exit 2)))
   (.seq
    (.block 3
     (.seq
      (.seq
       (.reg [30] [
         ⟨none, (some 25), .mov (.t 8), []⟩,
         ⟨none, (some 26), .bin .eql (.t 25) (.c (.int .i64 0)), []⟩,
         ⟨none, (some 27), .mov (.t 26), []⟩,
         ⟨(some (27, true)), (some 28), .mov (.t 9), []⟩,
         ⟨(some (27, true)), (some 29), .bin .eql (.t 28) (.c (.int .i64 0)), []⟩,
         ⟨none, (some 30), .pick (.t 27) (.t 29) (.c (.bool false)), []⟩])
       (.cond (.t 30)
        (.exit 3)
        .skip))
      (.seq
       (.reg [10] [
         ⟨none, (some 31), .ldV 3 none 12 true, []⟩,
         ⟨none, (some 32), .mov (.t 8), []⟩,
         ⟨none, (some 33), .mov (.t 9), []⟩,
         ⟨none, (some 34), .call true 358 [.t 31, .t 32, .t 33], []⟩,
         ⟨none, (some 10), .zero true (zs 12 (.int .u16 0)), []⟩,
         ⟨none, (some 10), .stV 10 none 12 (.t 34), []⟩])
       (.seq
        (.reg [42] [
          ⟨none, (some 35), .ldV 10 none 12 true, []⟩,
          ⟨none, (some 36), .ldV 4 none 12 true, []⟩,
          ⟨none, (some 40), .ldV 7 none 5 true, []⟩,
          ⟨none, (some 37), .call true 528 [.t 35, .t 36], []⟩,
          ⟨none, (some 38), .bin .mul (.c (.int .i64 3)) (.t 37), []⟩,
          ⟨none, (some 39), .bin .add (.t 38) (.c (.int .i64 4)), []⟩,
          ⟨none, (some 41), .call true 312 [.t 40], []⟩,
          ⟨none, (some 42), .bin .lss (.t 39) (.t 41), []⟩])
        (.cond (.t 42)
         (.reg [7] [
           ⟨none, (some 43), .mov (.t 2), []⟩,
           ⟨none, (some 44), .conv .i8 (.t 43), []⟩,
           ⟨none, (some 45), .mov (.t 8), []⟩,
           ⟨none, (some 46), .conv .i8 (.t 45), []⟩,
           ⟨none, (some 47), .mov (.t 9), []⟩,
           ⟨none, (some 48), .conv .i8 (.t 47), []⟩,
           ⟨none, (some 49), .agg [.int .i8 0, .int .i8 0, .int .i8 0, .int .i8 0, .slice none 0 0] [(0, 1, (.c (.int .i8 2))), (1, 1, (.t 44)), (2, 1, (.t 46)), (3, 1, (.t 48))], []⟩,
           ⟨none, (some 50), .ldV 10 none 12 true, []⟩,
           ⟨none, (some 51), .ldV 4 none 12 true, []⟩,
           ⟨none, (some 52), .call true 527 [.t 49, .t 50, .t 51], []⟩,
           ⟨none, (some 7), .stV 7 none 5 (.t 52), []⟩])
         .skip)))))
    (.reg [9] [
      ⟨none, (some 23), .mov (.t 9), []⟩,
      ⟨none, (some 24), .bin .add (.t 23) (.c (.int .i64 1)), []⟩,
      ⟨none, (some 9), .mov (.t 24), []⟩])))
def b389_2 : Cd :=
  (.seq
   (.seq
    (.reg [18] [
      ⟨none, (some 17), .mov (.t 8), []⟩,
      ⟨none, (some 18), .bin .leq (.t 17) (.c (.int .i64 12)), []⟩])
    (.cond (.t 18)
     .skip
     (.exit 0)))
   (.seq
    (.block 1
     (.seq
      (.reg [9] [
        ⟨none, (some 9), .mov (.c (.int .i64 (-12))), []⟩])
      (.block 2
       (.loop b389_1))))
    (.reg [8] [
      ⟨none, (some 19), .mov (.t 8), []⟩,
      ⟨none, (some 20), .bin .add (.t 19) (.c (.int .i64 1)), []⟩,
      ⟨none, (some 8), .mov (.t 20), []⟩])))
def k389 : Cd :=
  (.seq
   (.reg [3, 4, 6] [
     ⟨none, (some 3), .mov (.t 0), []⟩,
     ⟨none, (some 4), .mov (.t 1), []⟩,
     ⟨none, (some 6), .zero true [.int .i8 0, .int .i8 0, .int .i8 0, .int .i8 0, .slice none 0 0], []⟩])
   (.seq
    (.reg [7] [
      ⟨none, (some 11), .mov (.t 2), []⟩,
      ⟨none, (some 12), .conv .i8 (.t 11), []⟩,
      ⟨none, (some 13), .agg [.int .i8 0, .int .i8 0, .int .i8 0, .int .i8 0, .slice none 0 0] [(0, 1, (.c (.int .i8 1))), (1, 1, (.t 12))], []⟩,
      ⟨none, (some 14), .ldV 3 none 12 true, []⟩,
      ⟨none, (some 15), .ldV 4 none 12 true, []⟩,
      ⟨none, (some 16), .call true 527 [.t 13, .t 14, .t 15], []⟩,
      ⟨none, (some 7), .zero true [.int .i8 0, .int .i8 0, .int .i8 0, .int .i8 0, .slice none 0 0], []⟩,
      ⟨none, (some 7), .stV 7 none 5 (.t 16), []⟩])
    (.seq
     (.seq
      (.reg [8] [
        ⟨none, (some 8), .mov (.c (.int .i64 (-12))), []⟩])
      (.block 0
       (.loop b389_2)))
     (.seq
      (.reg [6] [
        ⟨none, (some 53), .ldV 7 none 5 true, []⟩,
        ⟨none, (some 6), .stV 6 none 5 (.t 53), []⟩])
      .ret))))
def c389 : Fn := { np := 3, nt := 54, kind := .pure, res := [.v 6 5 true], body := k389 }

/- laws.eqChangeS -/
def b390_1 : Cd :=
  (.seq
   (.seq
    (.reg [14] [
      ⟨none, (some 11), .mov (.t 5), []⟩,
      ⟨none, (some 12), .mov (.t 0), []⟩,
      ⟨none, (some 13), .len (.t 12), []⟩,
      ⟨none, (some 14), .bin .lss (.t 11) (.t 13), []⟩])
    (.cond (.t 14)
     .skip
     (.exit 0)))
   (.seq
    (.block 1
     (.seq
      (.reg [26] [
        ⟨none, (some 17), .mov (.t 0), []⟩,
        ⟨none, (some 18), .mov (.t 5), []⟩,
        ⟨none, (some 19), .idxA 2 (.t 17) (.t 18), []⟩,
        ⟨none, (some 20), .ld 2 true (.t 19), []⟩,
        ⟨none, (some 21), .mov (.t 1), []⟩,
        ⟨none, (some 22), .mov (.t 5), []⟩,
        ⟨none, (some 23), .idxA 2 (.t 21) (.t 22), []⟩,
        ⟨none, (some 24), .ld 2 true (.t 23), []⟩,
        ⟨none, (some 25), .call true 529 [.t 20, .t 24], []⟩,
        ⟨none, (some 26), .un .not (.t 25), []⟩])
      (.cond (.t 26)
       (.seq
        (.reg [4] [
          ⟨none, (some 4), .mov (.c (.bool false)), []⟩])
        .ret)
       .skip)))
    (.reg [5] [
      ⟨none, (some 15), .mov (.t 5), []⟩,
      ⟨none, (some 16), .bin .add (.t 15) (.c (.int .i64 1)), []⟩,
      ⟨none, (some 5), .mov (.t 16), []⟩])))
def k390 : Cd :=
  (.seq
   (.reg [4] [
     ⟨none, (some 4), .mov (.c (.bool false)), []⟩])
   (.seq
    (.seq
     (.reg [10] [
       ⟨none, (some 6), .mov (.t 0), []⟩,
       ⟨none, (some 7), .len (.t 6), []⟩,
       ⟨none, (some 8), .mov (.t 1), []⟩,
       ⟨none, (some 9), .len (.t 8), []⟩,
       ⟨none, (some 10), .bin .neq (.t 7) (.t 9), []⟩])
     (.cond (.t 10)
      (.seq
       (.reg [4] [
         ⟨none, (some 4), .mov (.c (.bool false)), []⟩])
       .ret)
      .skip))
    (.seq
     (.seq
      (.reg [5] [
        ⟨none, (some 5), .mov (.c (.int .i64 0)), []⟩])
      (.block 0
       (.loop b390_1)))
     (.seq
      (.reg [4] [
        ⟨none, (some 4), .mov (.c (.bool true)), []⟩])
      .ret))))
def c390 : Fn := { np := 2, nt := 27, kind := .pure, res := [.t 4], body := k390 }

/- laws.markChangeS -/
def b391_1 : Cd :=
  (.seq
   (.seq
    (.reg [9] [
      ⟨none, (some 6), .mov (.t 5), []⟩,
      ⟨none, (some 7), .mov (.t 0), []⟩,
      ⟨none, (some 8), .len (.t 7), []⟩,
      ⟨none, (some 9), .bin .lss (.t 6) (.t 8), []⟩])
    (.cond (.t 9)
     .skip
     (.exit 0)))
   (.seq
    (.block 1
     (.seq
      (.reg [] [
        ⟨none, (some 12), .mov (.t 0), []⟩,
        ⟨none, (some 13), .mov (.t 5), []⟩,
        ⟨none, (some 14), .mov (.t 1), []⟩,
        ⟨none, (some 15), .conv .i8 (.t 14), []⟩,
        ⟨none, (some 16), .idxA 2 (.t 12) (.t 13), []⟩,
        ⟨none, (some 17), .fldP 0 (.t 16), []⟩,
        ⟨none, none, .st 1 (.t 17) (.t 15), []⟩])
      (.seq
       (.reg [1] [
         ⟨none, (some 18), .mov (.t 1), []⟩,
         ⟨none, (some 19), .bin .add (.t 18) (.c (.int .i64 1)), []⟩,
         ⟨none, (some 1), .mov (.t 19), []⟩])
       (.seq
        (.reg [] [
          ⟨none, (some 20), .mov (.t 0), []⟩,
          ⟨none, (some 21), .mov (.t 5), []⟩,
          ⟨none, (some 22), .mov (.t 1), []⟩,
          ⟨none, (some 23), .conv .u16 (.t 22), []⟩,
          ⟨none, (some 24), .idxA 2 (.t 20) (.t 21), []⟩,
          ⟨none, (some 25), .fldP 1 (.t 24), []⟩,
          ⟨none, none, .st 1 (.t 25) (.t 23), []⟩])
        (.reg [1] [
          ⟨none, (some 26), .mov (.t 1), []⟩,
          ⟨none, (some 27), .bin .add (.t 26) (.c (.int .i64 1)), []⟩,
          ⟨none, (some 1), .mov (.t 27), []⟩])))))
    (.reg [5] [
      ⟨none, (some 10), .mov (.t 5), []⟩,
      ⟨none, (some 11), .bin .add (.t 10) (.c (.int .i64 1)), []⟩,
      ⟨none, (some 5), .mov (.t 11), []⟩])))
def k391 : Cd :=
  (.seq
   (.reg [4] [
     ⟨none, (some 4), .mov (.c (.int .i64 0)), []⟩])
   (.seq
    (.seq
     (.reg [5] [
       ⟨none, (some 5), .mov (.c (.int .i64 0)), []⟩])
     (.block 0
      (.loop b391_1)))
    (.seq
     (.reg [4] [
       ⟨none, (some 28), .mov (.t 1), []⟩,
       ⟨none, (some 4), .mov (.t 28), []⟩])
     .ret)))
def c391 : Fn := { np := 2, nt := 29, kind := .args, res := [.t 4], body := k391 }

/- laws.heldChangeS -/
def b392_1 : Cd :=
  (.seq
   (.seq
    (.reg [9] [
      ⟨none, (some 6), .mov (.t 5), []⟩,
      ⟨none, (some 7), .mov (.t 0), []⟩,
      ⟨none, (some 8), .len (.t 7), []⟩,
      ⟨none, (some 9), .bin .lss (.t 6) (.t 8), []⟩])
    (.cond (.t 9)
     .skip
     (.exit 0)))
   (.seq
    (.block 1
     (.seq
      (.seq
       (.reg [19] [
         ⟨none, (some 12), .mov (.t 0), []⟩,
         ⟨none, (some 13), .mov (.t 5), []⟩,
         ⟨none, (some 14), .idxA 2 (.t 12) (.t 13), []⟩,
         ⟨none, (some 15), .fldP 0 (.t 14), []⟩,
         ⟨none, (some 16), .ld 1 false (.t 15), []⟩,
         ⟨none, (some 17), .mov (.t 1), []⟩,
         ⟨none, (some 18), .conv .i8 (.t 17), []⟩,
         ⟨none, (some 19), .bin .neq (.t 16) (.t 18), []⟩])
       (.cond (.t 19)
        (.seq
         (.reg [4] [
           ⟨none, (some 4), .mov (.c (.int .i64 (-1))), []⟩])
         .ret)
        .skip))
      (.seq
       (.reg [1] [
         ⟨none, (some 20), .mov (.t 1), []⟩,
         ⟨none, (some 21), .bin .add (.t 20) (.c (.int .i64 1)), []⟩,
         ⟨none, (some 1), .mov (.t 21), []⟩])
       (.seq
        (.seq
         (.reg [29] [
           ⟨none, (some 22), .mov (.t 0), []⟩,
           ⟨none, (some 23), .mov (.t 5), []⟩,
           ⟨none, (some 24), .idxA 2 (.t 22) (.t 23), []⟩,
           ⟨none, (some 25), .fldP 1 (.t 24), []⟩,
           ⟨none, (some 26), .ld 1 false (.t 25), []⟩,
           ⟨none, (some 27), .mov (.t 1), []⟩,
           ⟨none, (some 28), .conv .u16 (.t 27), []⟩,
           ⟨none, (some 29), .bin .neq (.t 26) (.t 28), []⟩])
         (.cond (.t 29)
          (.seq
           (.reg [4] [
             ⟨none, (some 4), .mov (.c (.int .i64 (-1))), []⟩])
           .ret)
          .skip))
        (.reg [1] [
          ⟨none, (some 30), .mov (.t 1), []⟩,
          ⟨none, (some 31), .bin .add (.t 30) (.c (.int .i64 1)), []⟩,
          ⟨none, (some 1), .mov (.t 31), []⟩])))))
    (.reg [5] [
      ⟨none, (some 10), .mov (.t 5), []⟩,
      ⟨none, (some 11), .bin .add (.t 10) (.c (.int .i64 1)), []⟩,
      ⟨none, (some 5), .mov (.t 11), []⟩])))
def k392 : Cd :=
  (.seq
   (.reg [4] [
     ⟨none, (some 4), .mov (.c (.int .i64 0)), []⟩])
   (.seq
    (.seq
     (.reg [5] [
       ⟨none, (some 5), .mov (.c (.int .i64 0)), []⟩])
     (.block 0
      (.loop b392_1)))
    (.seq
     (.reg [4] [
       ⟨none, (some 32), .mov (.t 1), []⟩,
       ⟨none, (some 4), .mov (.t 32), []⟩])
     .ret)))
def c392 : Fn := { np := 2, nt := 33, kind := .pure, res := [.t 4], body := k392 }

/- spec.l06Sum -/
def b396_1 : Cd :=
  (.seq
   (.seq
    (.reg [8] [
      ⟨none, (some 5), .mov (.t 4), []⟩,
      ⟨none, (some 6), .mov (.t 0), []⟩,
      ⟨none, (some 7), .len (.t 6), []⟩,
      ⟨none, (some 8), .bin .lss (.t 5) (.t 7), []⟩])
    (.cond (.t 8)
     .skip
     (.exit 0)))
   (.seq
    (.block 1
     (.reg [3] [
       ⟨none, (some 11), .mov (.t 3), []⟩,
       ⟨none, (some 12), .mov (.t 0), []⟩,
       ⟨none, (some 13), .mov (.t 4), []⟩,
       ⟨none, (some 14), .idxA 5 (.t 12) (.t 13), []⟩,
       ⟨none, (some 15), .call true 310 [.t 14], []⟩,
       ⟨none, (some 16), .bin .add (.t 11) (.t 15), []⟩,
       ⟨none, (some 3), .mov (.t 16), []⟩]))
    (.reg [4] [
      ⟨none, (some 9), .mov (.t 4), []⟩,
      ⟨none, (some 10), .bin .add (.t 9) (.c (.int .i64 1)), []⟩,
      ⟨none, (some 4), .mov (.t 10), []⟩])))
def k396 : Cd :=
  (.seq
   (.reg [2] [
     ⟨none, (some 2), .mov (.c (.int .i64 0)), []⟩])
   (.seq
    (.reg [3] [
      ⟨none, (some 3), .mov (.c (.int .i64 0)), []⟩])
    (.seq
     (.seq
      (.reg [4] [
        ⟨none, (some 4), .mov (.c (.int .i64 0)), []⟩])
      (.block 0
       (.loop b396_1)))
     (.seq
      (.reg [2] [
        ⟨none, (some 17), .mov (.t 3), []⟩,
        ⟨none, (some 2), .mov (.t 17), []⟩])
      .ret))))
def c396 : Fn := { np := 1, nt := 18, kind := .pure, res := [.t 2], body := k396 }

/- impl.stepsCost -/
def b397_1 : Cd :=
  (.seq
   (.reg [9] [
     ⟨none, (some 9), .bin .lss (.t 8) (.t 7), []⟩])
   (.seq
    (.cond (.t 9)
     .skip
     (.exit 0))
    (.seq
     (.block 1
      (.seq
       (.reg [5] [
         ⟨none, (some 10), .idxA 5 (.t 6) (.t 8), []⟩,
         ⟨none, (some 11), .ld 5 true (.t 10), []⟩,
         ⟨none, (some 5), .zero true [.int .i8 0, .int .i8 0, .int .i8 0, .int .i8 0, .slice none 0 0], []⟩,
         ⟨none, (some 5), .stV 5 none 5 (.t 11), []⟩])
       (.reg [3] [
         ⟨none, (some 12), .mov (.t 3), []⟩,
         ⟨none, (some 13), .ldV 5 none 5 true, []⟩,
         ⟨none, (some 14), .call true 312 [.t 13], []⟩,
         ⟨none, (some 15), .bin .add (.t 12) (.t 14), []⟩,
         ⟨none, (some 3), .mov (.t 15), []⟩])))
     (.reg [8] [
       ⟨none, (some 16), .bin .add (.t 8) (.c (.int .i64 1)), []⟩,
       ⟨none, (some 8), .mov (.t 16), []⟩]))))
def k397 : Cd :=
  (.seq
   (.reg [2] [
     ⟨none, (some 2), .mov (.c (.int .i64 0)), []⟩])
   (.seq
    (.reg [3] [
      ⟨none, (some 3), .mov (.c (.int .i64 0)), []⟩])
    (.seq
     (.seq
      (.reg [6, 7, 8] [
        ⟨none, (some 6), .mov (.t 0), []⟩,
        ⟨none, (some 7), .len (.t 6), []⟩,
        ⟨none, (some 8), .mov (.c (.int .i64 0)), []⟩])
      (.block 0
       (.loop b397_1)))
     (.seq
      (.reg [2] [
        ⟨none, (some 17), .mov (.t 3), []⟩,
        ⟨none, (some 2), .mov (.t 17), []⟩])
      .ret))))
def c397 : Fn := { np := 1, nt := 18, kind := .pure, res := [.t 2], body := k397 }

/- (impl.Step).depth -/
def k400 : Cd :=
  (.seq
   (.reg [2, 4] [
     ⟨none, (some 2), .mov (.t 0), []⟩,
     ⟨none, (some 4), .mov (.c (.int .i64 0)), []⟩])
   (.seq
    (.seq
     (.reg [7] [
       ⟨none, (some 5), .adrF 2 none 0, []⟩,
       ⟨none, (some 6), .ldV 2 (some 5) 1 false, []⟩,
       ⟨none, (some 7), .bin .eql (.t 6) (.c (.int .i8 0)), []⟩])
     (.cond (.t 7)
      (.seq
       (.reg [4] [
         ⟨none, (some 4), .mov (.c (.int .i64 0)), []⟩])
       .ret)
      .skip))
    (.seq
     (.reg [4] [
       ⟨none, (some 8), .mov (.t 1), []⟩,
       ⟨none, (some 9), .adrF 2 none 1, []⟩,
       ⟨none, (some 10), .ldV 2 (some 9) 1 false, []⟩,
       ⟨none, (some 11), .idxA 1 (.t 8) (.t 10), []⟩,
       ⟨none, (some 12), .ld 1 false (.t 11), []⟩,
       ⟨none, (some 13), .bin .add (.t 12) (.c (.int .i64 1)), []⟩,
       ⟨none, (some 4), .mov (.t 13), []⟩])
     .ret)))
def c400 : Fn := { np := 2, nt := 14, kind := .pure, res := [.t 4], body := k400 }

/- spec.l06Best -/
def b404_1 : Cd :=
  (.seq
   (.seq
    (.reg [21] [
      ⟨none, (some 19), .mov (.t 11), []⟩,
      ⟨none, (some 20), .mov (.t 1), []⟩,
      ⟨none, (some 21), .bin .lss (.t 19) (.t 20), []⟩])
    (.cond (.t 21)
     .skip
     (.exit 0)))
   (.seq
    (.block 1
     (.seq
      (.seq
       (.reg [29] [
         ⟨none, (some 24), .mov (.t 2), []⟩,
         ⟨none, (some 25), .mov (.t 11), []⟩,
         ⟨none, (some 26), .idxA 1 (.t 24) (.t 25), []⟩,
         ⟨none, (some 27), .ld 1 false (.t 26), []⟩,
         ⟨none, (some 28), .mov (.t 3), []⟩,
         ⟨none, (some 29), .bin .geq (.t 27) (.t 28), []⟩])
       (.cond (.t 29)
        (.exit 1)
        .skip))
      (.seq
       (.reg [12] [
         ⟨none, (some 30), .mov (.t 0), []⟩,
         ⟨none, (some 31), .mov (.t 11), []⟩,
         ⟨none, (some 32), .idxA 12 (.t 30) (.t 31), []⟩,
         ⟨none, (some 33), .mov (.t 0), []⟩,
         ⟨none, (some 34), .mov (.t 1), []⟩,
         ⟨none, (some 35), .idxA 12 (.t 33) (.t 34), []⟩,
         ⟨none, (some 36), .mov (.t 11), []⟩,
         ⟨none, (some 12), .new 1 [.int .i8 0, .int .i8 0, .int .i8 0, .int .i8 0, .slice none 0 0], []⟩,
         ⟨none, (some 37), .call true 388 [.t 32, .t 35, .t 36], []⟩,
         ⟨none, none, .st 5 (.t 12) (.t 37), []⟩])
       (.seq
        (.reg [40] [
          ⟨none, (some 38), .call true 310 [.t 12], []⟩,
          ⟨none, (some 39), .call true 310 [.t 10], []⟩,
          ⟨none, (some 40), .bin .lss (.t 38) (.t 39), []⟩])
        (.cond (.t 40)
         (.reg [] [
           ⟨none, (some 41), .ld 5 true (.t 12), []⟩,
           ⟨none, none, .st 5 (.t 10) (.t 41), []⟩])
         .skip)))))
    (.reg [11] [
      ⟨none, (some 22), .mov (.t 11), []⟩,
      ⟨none, (some 23), .bin .add (.t 22) (.c (.int .i64 1)), []⟩,
      ⟨none, (some 11), .mov (.t 23), []⟩])))
def k404 : Cd :=
  (.seq
   (.reg [8] [
     ⟨none, (some 8), .zero true [.int .i8 0, .int .i8 0, .int .i8 0, .int .i8 0, .slice none 0 0], []⟩])
   (.seq
    (.reg [9] [
      ⟨none, (some 13), .agg (zs 12 (.int .u16 0)) [], []⟩,
      ⟨none, (some 9), .new 1 (zs 12 (.int .u16 0)), []⟩,
      ⟨none, none, .st 12 (.t 9) (.t 13), []⟩])
    (.seq
     (.reg [10] [
       ⟨none, (some 14), .mov (.t 0), []⟩,
       ⟨none, (some 15), .mov (.t 1), []⟩,
       ⟨none, (some 16), .idxA 12 (.t 14) (.t 15), []⟩,
       ⟨none, (some 17), .call true 525 [.t 9, .t 16], []⟩,
       ⟨none, (some 18), .agg [.int .i8 0, .int .i8 0, .int .i8 0, .int .i8 0, .slice none 0 0] [(0, 1, (.c (.int .i8 0))), (4, 1, (.t 17))], []⟩,
       ⟨none, (some 10), .new 1 [.int .i8 0, .int .i8 0, .int .i8 0, .int .i8 0, .slice none 0 0], []⟩,
       ⟨none, none, .st 5 (.t 10) (.t 18), []⟩])
     (.seq
      (.seq
       (.reg [11] [
         ⟨none, (some 11), .mov (.c (.int .i64 0)), []⟩])
       (.block 0
        (.loop b404_1)))
      (.seq
       (.reg [8] [
         ⟨none, (some 42), .ld 5 true (.t 10), []⟩,
         ⟨none, (some 8), .stV 8 none 5 (.t 42), []⟩])
       .ret)))))
def c404 : Fn := { np := 4, nt := 43, kind := .pure, res := [.v 8 5 true], body := k404 }

/- (impl.Book).bestStep -/
def b406_1 : Cd :=
  (.seq
   (.reg [19] [
     ⟨none, (some 19), .bin .lss (.t 18) (.t 17), []⟩])
   (.seq
    (.cond (.t 19)
     .skip
     (.exit 0))
    (.seq
     (.block 1
      (.seq
       (.reg [8] [
         ⟨none, (some 20), .mov (.t 18), []⟩,
         ⟨none, (some 8), .mov (.t 20), []⟩])
       (.seq
        (.seq
         (.reg [24] [
           ⟨none, (some 21), .mov (.t 2), []⟩,
           ⟨none, (some 22), .mov (.t 8), []⟩,
           ⟨none, (some 23), .callv (.t 21) [.t 22], []⟩,
           ⟨none, (some 24), .un .not (.t 23), []⟩])
         (.cond (.t 24)
          (.exit 1)
          .skip))
        (.seq
         (.reg [9] [
           ⟨none, (some 25), .mov (.t 0), []⟩,
           ⟨none, (some 26), .mov (.t 8), []⟩,
           ⟨none, (some 27), .idxA 12 (.t 25) (.t 26), []⟩,
           ⟨none, (some 28), .ld 12 true (.t 27), []⟩,
           ⟨none, (some 29), .mov (.t 0), []⟩,
           ⟨none, (some 30), .mov (.t 1), []⟩,
           ⟨none, (some 31), .idxA 12 (.t 29) (.t 30), []⟩,
           ⟨none, (some 32), .ld 12 true (.t 31), []⟩,
           ⟨none, (some 33), .mov (.t 8), []⟩,
           ⟨none, (some 9), .zero true [.int .i8 0, .int .i8 0, .int .i8 0, .int .i8 0, .slice none 0 0], []⟩,
           ⟨none, (some 34), .call true 389 [.t 28, .t 32, .t 33], []⟩,
           ⟨none, (some 9), .stV 9 none 5 (.t 34), []⟩])
         (.seq
          (.reg [39] [
            ⟨none, (some 35), .ldV 9 none 5 true, []⟩,
            ⟨none, (some 37), .ldV 7 none 5 true, []⟩,
            ⟨none, (some 36), .call true 312 [.t 35], []⟩,
            ⟨none, (some 38), .call true 312 [.t 37], []⟩,
            ⟨none, (some 39), .bin .lss (.t 36) (.t 38), []⟩])
          (.cond (.t 39)
           (.reg [7] [
             ⟨none, (some 40), .ldV 9 none 5 true, []⟩,
             ⟨none, (some 7), .stV 7 none 5 (.t 40), []⟩])
           .skip))))))
     (.reg [18] [
       ⟨none, (some 41), .bin .add (.t 18) (.c (.int .i64 1)), []⟩,
       ⟨none, (some 18), .mov (.t 41), []⟩]))))
def k406 : Cd :=
  (.seq
   (.reg [6] [
     ⟨none, (some 6), .zero true [.int .i8 0, .int .i8 0, .int .i8 0, .int .i8 0, .slice none 0 0], []⟩])
   (.seq
    (.reg [7] [
      ⟨none, (some 10), .agg [.int .i8 0, .int .i8 0, .int .i8 0, .int .i8 0, .slice none 0 0] [(0, 1, (.c (.int .i8 0)))], []⟩,
      ⟨none, (some 11), .agg (zs 12 (.int .u16 0)) [], []⟩,
      ⟨none, (some 12), .mov (.t 0), []⟩,
      ⟨none, (some 13), .mov (.t 1), []⟩,
      ⟨none, (some 14), .idxA 12 (.t 12) (.t 13), []⟩,
      ⟨none, (some 15), .ld 12 true (.t 14), []⟩,
      ⟨none, (some 16), .call true 527 [.t 10, .t 11, .t 15], []⟩,
      ⟨none, (some 7), .zero true [.int .i8 0, .int .i8 0, .int .i8 0, .int .i8 0, .slice none 0 0], []⟩,
      ⟨none, (some 7), .stV 7 none 5 (.t 16), []⟩])
    (.seq
     (.seq
      (.reg [17, 18] [
        ⟨none, (some 17), .mov (.t 1), []⟩,
        ⟨none, (some 18), .mov (.c (.int .i64 0)), []⟩])
      (.block 0
       (.loop b406_1)))
     (.seq
      (.reg [6] [
        ⟨none, (some 42), .ldV 7 none 5 true, []⟩,
        ⟨none, (some 6), .stV 6 none 5 (.t 42), []⟩])
      .ret))))
def c406 : Fn := { np := 3, nt := 43, kind := .pure, res := [.v 6 5 true], body := k406 }

/- spec.l06Encoded -/
def b430_1 : Cd :=
  (.seq
   (.seq
    (.reg [15] [
      ⟨none, (some 12), .mov (.t 7), []⟩,
      ⟨none, (some 13), .mov (.t 0), []⟩,
      ⟨none, (some 14), .len (.t 13), []⟩,
      ⟨none, (some 15), .bin .lss (.t 12) (.t 14), []⟩])
    (.cond (.t 15)
     .skip
     (.exit 0)))
   (.seq
    (.block 1
     (.seq
      (.reg [8] [
        ⟨none, (some 18), .mov (.t 0), []⟩,
        ⟨none, (some 19), .mov (.t 7), []⟩,
        ⟨none, (some 20), .mov (.t 6), []⟩,
        ⟨none, (some 21), .mov (.t 1), []⟩,
        ⟨none, (some 22), .call true 404 [.t 18, .t 19, .t 20, .t 21], []⟩,
        ⟨none, (some 8), .zero true [.int .i8 0, .int .i8 0, .int .i8 0, .int .i8 0, .slice none 0 0], []⟩,
        ⟨none, (some 8), .stV 8 none 5 (.t 22), []⟩])
      (.seq
       (.reg [9] [
         ⟨none, (some 9), .mov (.c (.int .i64 0)), []⟩])
       (.seq
        (.seq
         (.reg [25] [
           ⟨none, (some 23), .adrF 8 none 0, []⟩,
           ⟨none, (some 24), .ldV 8 (some 23) 1 false, []⟩,
           ⟨none, (some 25), .bin .neq (.t 24) (.c (.int .i8 0)), []⟩])
         (.cond (.t 25)
          (.reg [9] [
            ⟨none, (some 26), .mov (.t 6), []⟩,
            ⟨none, (some 27), .adrF 8 none 1, []⟩,
            ⟨none, (some 28), .ldV 8 (some 27) 1 false, []⟩,
            ⟨none, (some 29), .idxA 1 (.t 26) (.t 28), []⟩,
            ⟨none, (some 30), .ld 1 false (.t 29), []⟩,
            ⟨none, (some 31), .bin .add (.t 30) (.c (.int .i64 1)), []⟩,
            ⟨none, (some 9), .mov (.t 31), []⟩])
          .skip))
        (.seq
         (.reg [5] [
           ⟨none, (some 32), .mov (.t 5), []⟩,
           ⟨none, (some 33), .ldV 8 none 5 true, []⟩,
           ⟨none, (some 34), .bldS 5 1 [.int .i8 0, .int .i8 0, .int .i8 0, .int .i8 0, .slice none 0 0] [(0, 5, (.t 33))], []⟩,
           ⟨none, (some 35), .app 5 32 (.t 32) (.t 34), []⟩,
           ⟨none, (some 5), .mov (.t 35), []⟩])
         (.reg [6] [
           ⟨none, (some 36), .mov (.t 6), []⟩,
           ⟨none, (some 37), .mov (.t 9), []⟩,
           ⟨none, (some 38), .bldS 1 1 [.int .i64 0] [(0, 1, (.t 37))], []⟩,
           ⟨none, (some 39), .app 1 8 (.t 36) (.t 38), []⟩,
           ⟨none, (some 6), .mov (.t 39), []⟩]))))))
    (.reg [7] [
      ⟨none, (some 16), .mov (.t 7), []⟩,
      ⟨none, (some 17), .bin .add (.t 16) (.c (.int .i64 1)), []⟩,
      ⟨none, (some 7), .mov (.t 17), []⟩])))
def k430 : Cd :=
  (.seq
   (.reg [4] [
     ⟨none, (some 4), .mov (.c (.slice none 0 0)), []⟩])
   (.seq
    (.reg [5] [
      ⟨none, (some 10), .bldS 5 0 [.int .i8 0, .int .i8 0, .int .i8 0, .int .i8 0, .slice none 0 0] [], []⟩,
      ⟨none, (some 5), .mov (.t 10), []⟩])
    (.seq
     (.reg [6] [
       ⟨none, (some 11), .bldS 1 0 [.int .i64 0] [], []⟩,
       ⟨none, (some 6), .mov (.t 11), []⟩])
     (.seq
      (.seq
       (.reg [7] [
         ⟨none, (some 7), .mov (.c (.int .i64 0)), []⟩])
       (.block 0
        (.loop b430_1)))
      (.seq
       (.reg [4] [
         ⟨none, (some 40), .mov (.t 5), []⟩,
         ⟨none, (some 4), .mov (.t 40), []⟩])
       .ret)))))
def c430 : Fn := { np := 2, nt := 41, kind := .pure, res := [.t 4], body := k430 }

/- impl.EncodeWithin$1 -/
def k431 : Cd :=
  (.seq
   (.reg [4] [
     ⟨none, (some 4), .mov (.c (.bool false)), []⟩])
   (.seq
    (.reg [4] [
      ⟨none, (some 5), .ld 1 false (.t 1), []⟩,
      ⟨none, (some 6), .mov (.t 0), []⟩,
      ⟨none, (some 7), .idxA 1 (.t 5) (.t 6), []⟩,
      ⟨none, (some 8), .ld 1 false (.t 7), []⟩,
      ⟨none, (some 9), .ld 1 false (.t 2), []⟩,
      ⟨none, (some 10), .bin .lss (.t 8) (.t 9), []⟩,
      ⟨none, (some 4), .mov (.t 10), []⟩])
    .ret))
def c431 : Fn := { np := 3, nt := 11, kind := .pure, res := [.t 4], body := k431 }

/- (impl.Frame).mix -/
def b443_1 : Cd :=
  (.seq
   (.reg [11] [
     ⟨none, (some 11), .bin .lss (.t 10) (.c (.int .i64 12)), []⟩])
   (.seq
    (.cond (.t 11)
     .skip
     (.exit 0))
    (.seq
     (.block 1
      (.seq
       (.reg [7, 8] [
         ⟨none, (some 12), .mov (.t 10), []⟩,
         ⟨none, (some 13), .idx 12 1 false (.t 9) (.t 10), []⟩,
         ⟨none, (some 7), .mov (.t 12), []⟩,
         ⟨none, (some 8), .mov (.t 13), []⟩])
       (.reg [3] [
         ⟨none, (some 14), .mov (.t 7), []⟩,
         ⟨none, (some 15), .mov (.t 2), []⟩,
         ⟨none, (some 16), .mov (.t 8), []⟩,
         ⟨none, (some 17), .mov (.t 7), []⟩,
         ⟨none, (some 18), .adrI 4 none 12 1 (.t 17), []⟩,
         ⟨none, (some 19), .ldV 4 (some 18) 1 false, []⟩,
         ⟨none, (some 20), .callv (.t 15) [.t 16, .t 19], []⟩,
         ⟨none, (some 21), .adrI 3 none 12 1 (.t 14), []⟩,
         ⟨none, (some 3), .stV 3 (some 21) 1 (.t 20), []⟩])))
     (.reg [10] [
       ⟨none, (some 22), .bin .add (.t 10) (.c (.int .i64 1)), []⟩,
       ⟨none, (some 10), .mov (.t 22), []⟩]))))
def k443 : Cd :=
  (.seq
   (.reg [3, 4, 6] [
     ⟨none, (some 3), .mov (.t 0), []⟩,
     ⟨none, (some 4), .mov (.t 1), []⟩,
     ⟨none, (some 6), .zero true (zs 12 (.int .u16 0)), []⟩])
   (.seq
    (.seq
     (.reg [9, 10] [
       ⟨none, (some 9), .ldV 3 none 12 true, []⟩,
       ⟨none, (some 10), .mov (.c (.int .i64 0)), []⟩])
     (.block 0
      (.loop b443_1)))
    (.seq
     (.reg [6] [
       ⟨none, (some 23), .ldV 3 none 12 true, []⟩,
       ⟨none, (some 6), .stV 6 none 12 (.t 23), []⟩])
     .ret)))
def c443 : Fn := { np := 3, nt := 24, kind := .pure, res := [.v 6 12 true], body := k443 }

/- slices.ContainsFunc[[]uint16,uint16] -/
def k445 : Cd :=
  (.seq
   (.reg [4] [
     ⟨none, (some 4), .mov (.c (.bool false)), []⟩])
   (.seq
    (.reg [4] [
      ⟨none, (some 5), .mov (.t 0), []⟩,
      ⟨none, (some 6), .mov (.t 1), []⟩,
      ⟨none, (some 7), .call true 547 [.t 5, .t 6], []⟩,
      ⟨none, (some 8), .bin .geq (.t 7) (.c (.int .i64 0)), []⟩,
      ⟨none, (some 4), .mov (.t 8), []⟩])
    .ret))
def c445 : Fn := { np := 2, nt := 9, kind := .pure, res := [.t 4], body := k445 }

/- impl.ValidFrame$1 -/
def k446 : Cd :=
  (.seq
   (.reg [2] [
     ⟨none, (some 2), .mov (.c (.bool false)), []⟩])
   (.seq
    (.reg [2] [
      ⟨none, (some 3), .mov (.t 0), []⟩,
      ⟨none, (some 4), .bin .gtr (.t 3) (.c (.int .u16 4095)), []⟩,
      ⟨none, (some 2), .mov (.t 4), []⟩])
    .ret))
def c446 : Fn := { np := 1, nt := 5, kind := .pure, res := [.t 2], body := k446 }

/- slices.IndexFunc[[]impl.Frame,impl.Frame] -/
def b474_1 : Cd :=
  (.seq
   (.reg [9] [
     ⟨none, (some 9), .bin .lss (.t 8) (.t 7), []⟩])
   (.seq
    (.cond (.t 9)
     .skip
     (.exit 0))
    (.seq
     (.block 1
      (.seq
       (.reg [5] [
         ⟨none, (some 10), .mov (.t 8), []⟩,
         ⟨none, (some 5), .mov (.t 10), []⟩])
       (.seq
        (.reg [16] [
          ⟨none, (some 11), .mov (.t 1), []⟩,
          ⟨none, (some 12), .mov (.t 0), []⟩,
          ⟨none, (some 13), .mov (.t 5), []⟩,
          ⟨none, (some 14), .idxA 12 (.t 12) (.t 13), []⟩,
          ⟨none, (some 15), .ld 12 true (.t 14), []⟩,
          ⟨none, (some 16), .callv (.t 11) [.t 15], []⟩])
        (.cond (.t 16)
         (.seq
          (.reg [4] [
            ⟨none, (some 17), .mov (.t 5), []⟩,
            ⟨none, (some 4), .mov (.t 17), []⟩])
          .ret)
         .skip))))
     (.reg [8] [
       ⟨none, (some 18), .bin .add (.t 8) (.c (.int .i64 1)), []⟩,
       ⟨none, (some 8), .mov (.t 18), []⟩]))))
def k474 : Cd :=
  (.seq
   (.reg [4] [
     ⟨none, (some 4), .mov (.c (.int .i64 0)), []⟩])
   (.seq
    (.seq
     (.reg [7, 8] [
       ⟨none, (some 6), .mov (.t 0), []⟩,
       ⟨none, (some 7), .len (.t 6), []⟩,
       ⟨none, (some 8), .mov (.c (.int .i64 0)), []⟩])
     (.block 0
      (.loop b474_1)))
    (.seq
     (.reg [4] [
       ⟨none, (some 4), .mov (.c (.int .i64 (-1))), []⟩])
     .ret)))
def c474 : Fn := { np := 2, nt := 19, kind := .pure, res := [.t 4], body := k474 }

/- impl.length[impl.Change] -/
def k490 : Cd :=
  (.seq
   (.reg [2] [
     ⟨none, (some 2), .mov (.c (.int .i64 0)), []⟩])
   (.seq
    (.reg [2] [
      ⟨none, (some 3), .mov (.t 0), []⟩,
      ⟨none, (some 4), .len (.t 3), []⟩,
      ⟨none, (some 2), .mov (.t 4), []⟩])
    .ret))
def c490 : Fn := { np := 1, nt := 5, kind := .pure, res := [.t 2], body := k490 }

/- slices.ContainsFunc[[]impl.Frame,impl.Frame] -/
def k505 : Cd :=
  (.seq
   (.reg [4] [
     ⟨none, (some 4), .mov (.c (.bool false)), []⟩])
   (.seq
    (.reg [4] [
      ⟨none, (some 5), .mov (.t 0), []⟩,
      ⟨none, (some 6), .mov (.t 1), []⟩,
      ⟨none, (some 7), .call true 474 [.t 5, .t 6], []⟩,
      ⟨none, (some 8), .bin .geq (.t 7) (.c (.int .i64 0)), []⟩,
      ⟨none, (some 4), .mov (.t 8), []⟩])
    .ret))
def c505 : Fn := { np := 2, nt := 9, kind := .pure, res := [.t 4], body := k505 }

/- impl.areFrames$1 -/
def k506 : Cd :=
  (.seq
   (.reg [1, 2] [
     ⟨none, (some 1), .mov (.t 0), []⟩,
     ⟨none, (some 2), .mov (.c (.bool false)), []⟩])
   (.seq
    (.reg [2] [
      ⟨none, (some 3), .ldV 1 none 12 true, []⟩,
      ⟨none, (some 4), .call true 234 [.t 3], []⟩,
      ⟨none, (some 5), .un .not (.t 4), []⟩,
      ⟨none, (some 2), .mov (.t 5), []⟩])
    .ret))
def c506 : Fn := { np := 1, nt := 6, kind := .pure, res := [.t 2], body := k506 }

/- (impl.Frame).differ$1 -/
def k512 : Cd :=
  (.seq
   (.reg [4] [
     ⟨none, (some 4), .mov (.c (.int .u16 0)), []⟩])
   (.seq
    (.reg [4] [
      ⟨none, (some 5), .mov (.t 0), []⟩,
      ⟨none, (some 6), .mov (.t 1), []⟩,
      ⟨none, (some 7), .bin .xor (.t 5) (.t 6), []⟩,
      ⟨none, (some 4), .mov (.t 7), []⟩])
    .ret))
def c512 : Fn := { np := 2, nt := 8, kind := .pure, res := [.t 4], body := k512 }

/- spec.l06Changes -/
def b525_1 : Cd :=
  (.seq
   (.seq
    (.reg [9] [
      ⟨none, (some 8), .mov (.t 6), []⟩,
      ⟨none, (some 9), .bin .lss (.t 8) (.c (.int .i64 12)), []⟩])
    (.cond (.t 9)
     .skip
     (.exit 0)))
   (.seq
    (.block 1
     (.seq
      (.reg [22] [
        ⟨none, (some 12), .mov (.t 0), []⟩,
        ⟨none, (some 13), .mov (.t 6), []⟩,
        ⟨none, (some 14), .nil (.t 12), []⟩,
        ⟨none, (some 15), .idxP 12 1 (.t 14) (.t 13), []⟩,
        ⟨none, (some 16), .ld 1 false (.t 15), []⟩,
        ⟨none, (some 17), .mov (.t 1), []⟩,
        ⟨none, (some 18), .mov (.t 6), []⟩,
        ⟨none, (some 19), .nil (.t 17), []⟩,
        ⟨none, (some 20), .idxP 12 1 (.t 19) (.t 18), []⟩,
        ⟨none, (some 21), .ld 1 false (.t 20), []⟩,
        ⟨none, (some 22), .bin .neq (.t 16) (.t 21), []⟩])
      (.cond (.t 22)
       (.reg [5] [
         ⟨none, (some 23), .mov (.t 5), []⟩,
         ⟨none, (some 24), .mov (.t 6), []⟩,
         ⟨none, (some 25), .conv .i8 (.t 24), []⟩,
         ⟨none, (some 26), .mov (.t 0), []⟩,
         ⟨none, (some 27), .mov (.t 6), []⟩,
         ⟨none, (some 28), .nil (.t 26), []⟩,
         ⟨none, (some 29), .idxP 12 1 (.t 28) (.t 27), []⟩,
         ⟨none, (some 30), .ld 1 false (.t 29), []⟩,
         ⟨none, (some 31), .mov (.t 1), []⟩,
         ⟨none, (some 32), .mov (.t 6), []⟩,
         ⟨none, (some 33), .nil (.t 31), []⟩,
         ⟨none, (some 34), .idxP 12 1 (.t 33) (.t 32), []⟩,
         ⟨none, (some 35), .ld 1 false (.t 34), []⟩,
         ⟨none, (some 36), .bin .xor (.t 30) (.t 35), []⟩,
         ⟨none, (some 37), .agg [.int .i8 0, .int .u16 0] [(0, 1, (.t 25)), (1, 1, (.t 36))], []⟩,
         ⟨none, (some 38), .bldS 2 1 [.int .i8 0, .int .u16 0] [(0, 2, (.t 37))], []⟩,
         ⟨none, (some 39), .app 2 4 (.t 23) (.t 38), []⟩,
         ⟨none, (some 5), .mov (.t 39), []⟩])
       .skip)))
    (.reg [6] [
      ⟨none, (some 10), .mov (.t 6), []⟩,
      ⟨none, (some 11), .bin .add (.t 10) (.c (.int .i64 1)), []⟩,
      ⟨none, (some 6), .mov (.t 11), []⟩])))
def k525 : Cd :=
  (.seq
   (.reg [4] [
     ⟨none, (some 4), .mov (.c (.slice none 0 0)), []⟩])
   (.seq
    (.reg [5] [
      ⟨none, (some 7), .bldS 2 0 [.int .i8 0, .int .u16 0] [], []⟩,
      ⟨none, (some 5), .mov (.t 7), []⟩])
    (.seq
     (.seq
      (.reg [6] [
        ⟨none, (some 6), .mov (.c (.int .i64 0)), []⟩])
      (.block 0
       (.loop b525_1)))
     (.seq
      (.reg [4] [
        ⟨none, (some 40), .mov (.t 5), []⟩,
        ⟨none, (some 4), .mov (.t 40), []⟩])
      .ret))))
def c525 : Fn := { np := 2, nt := 41, kind := .pure, res := [.t 4], body := k525 }

/- spec.l06Slid -/
def b526_1 : Cd :=
  (.seq
   (.seq
    (.reg [12] [
      ⟨none, (some 11), .mov (.t 8), []⟩,
      ⟨none, (some 12), .bin .lss (.t 11) (.c (.int .i64 12)), []⟩])
    (.cond (.t 12)
     .skip
     (.exit 0)))
   (.seq
    (.block 1
     (.seq
      (.reg [9] [
        ⟨none, (some 15), .mov (.t 8), []⟩,
        ⟨none, (some 16), .mov (.t 2), []⟩,
        ⟨none, (some 17), .bin .sub (.t 15) (.t 16), []⟩,
        ⟨none, (some 9), .mov (.t 17), []⟩])
      (.seq
       (.seq
        (.reg [20] [
          ⟨none, (some 18), .mov (.t 9), []⟩,
          ⟨none, (some 19), .call true 304 [.t 18, .c (.int .i64 0), .c (.int .i64 11)], []⟩,
          ⟨none, (some 20), .un .not (.t 19), []⟩])
        (.cond (.t 20)
         (.exit 1)
         .skip))
       (.seq
        (.reg [22] [
          ⟨none, (some 21), .mov (.t 1), []⟩,
          ⟨none, (some 22), .bin .geq (.t 21) (.c (.int .i64 0)), []⟩])
        (.cond (.t 22)
         (.reg [7] [
           ⟨none, (some 23), .mov (.t 8), []⟩,
           ⟨none, (some 24), .mov (.t 0), []⟩,
           ⟨none, (some 25), .mov (.t 9), []⟩,
           ⟨none, (some 26), .nil (.t 24), []⟩,
           ⟨none, (some 27), .idxP 12 1 (.t 26) (.t 25), []⟩,
           ⟨none, (some 28), .ld 1 false (.t 27), []⟩,
           ⟨none, (some 29), .mov (.t 1), []⟩,
           ⟨none, (some 30), .conv .u64 (.t 29), []⟩,
           ⟨none, (some 31), .bin .shl (.t 28) (.t 30), []⟩,
           ⟨none, (some 32), .bin .and (.t 31) (.c (.int .u16 4095)), []⟩,
           ⟨none, (some 33), .adrI 7 none 12 1 (.t 23), []⟩,
           ⟨none, (some 7), .stV 7 (some 33) 1 (.t 32), []⟩])
         (.reg [7] [
           ⟨none, (some 34), .mov (.t 8), []⟩,
           ⟨none, (some 35), .mov (.t 0), []⟩,
           ⟨none, (some 36), .mov (.t 9), []⟩,
           ⟨none, (some 37), .nil (.t 35), []⟩,
           ⟨none, (some 38), .idxP 12 1 (.t 37) (.t 36), []⟩,
           ⟨none, (some 39), .ld 1 false (.t 38), []⟩,
           ⟨none, (some 40), .mov (.t 1), []⟩,
           ⟨none, (some 41), .un .neg (.t 40), []⟩,
           ⟨none, (some 42), .conv .u64 (.t 41), []⟩,
           ⟨none, (some 43), .bin .shr (.t 39) (.t 42), []⟩,
           ⟨none, (some 44), .adrI 7 none 12 1 (.t 34), []⟩,
           ⟨none, (some 7), .stV 7 (some 44) 1 (.t 43), []⟩]))))))
    (.reg [8] [
      ⟨none, (some 13), .mov (.t 8), []⟩,
      ⟨none, (some 14), .bin .add (.t 13) (.c (.int .i64 1)), []⟩,
      ⟨none, (some 8), .mov (.t 14), []⟩])))
def k526 : Cd :=
  (.seq
   (.reg [6] [
     ⟨none, (some 6), .zero true (zs 12 (.int .u16 0)), []⟩])
   (.seq
    (.reg [7] [
      ⟨none, (some 10), .agg (zs 12 (.int .u16 0)) [], []⟩,
      ⟨none, (some 7), .zero true (zs 12 (.int .u16 0)), []⟩,
      ⟨none, (some 7), .stV 7 none 12 (.t 10), []⟩])
    (.seq
     (.seq
      (.reg [8] [
        ⟨none, (some 8), .mov (.c (.int .i64 0)), []⟩])
      (.block 0
       (.loop b526_1)))
     (.seq
      (.reg [6] [
        ⟨none, (some 45), .ldV 7 none 12 true, []⟩,
        ⟨none, (some 6), .stV 6 none 12 (.t 45), []⟩])
      .ret))))
def c526 : Fn := { np := 3, nt := 46, kind := .pure, res := [.v 6 12 true], body := k526 }

/- (impl.Step).withRows -/
def b527_1 : Cd :=
  (.seq
   (.reg [14] [
     ⟨none, (some 14), .bin .lss (.t 13) (.c (.int .i64 12)), []⟩])
   (.seq
    (.cond (.t 14)
     .skip
     (.exit 0))
    (.seq
     (.block 1
      (.seq
       (.reg [7, 8] [
         ⟨none, (some 15), .mov (.t 13), []⟩,
         ⟨none, (some 16), .idx 12 1 false (.t 12) (.t 13), []⟩,
         ⟨none, (some 7), .mov (.t 15), []⟩,
         ⟨none, (some 8), .mov (.t 16), []⟩])
       (.seq
        (.reg [18] [
          ⟨none, (some 17), .mov (.t 8), []⟩,
          ⟨none, (some 18), .bin .neq (.t 17) (.c (.int .u16 0)), []⟩])
        (.cond (.t 18)
         (.reg [3] [
           ⟨none, (some 19), .adrF 3 none 4, []⟩,
           ⟨none, (some 20), .ldV 3 (some 19) 1 false, []⟩,
           ⟨none, (some 21), .mov (.t 7), []⟩,
           ⟨none, (some 22), .conv .i8 (.t 21), []⟩,
           ⟨none, (some 23), .mov (.t 8), []⟩,
           ⟨none, (some 24), .agg [.int .i8 0, .int .u16 0] [(0, 1, (.t 22)), (1, 1, (.t 23))], []⟩,
           ⟨none, (some 25), .bldS 2 1 [.int .i8 0, .int .u16 0] [(0, 2, (.t 24))], []⟩,
           ⟨none, (some 26), .app 2 4 (.t 20) (.t 25), []⟩,
           ⟨none, (some 27), .adrF 3 none 4, []⟩,
           ⟨none, (some 3), .stV 3 (some 27) 1 (.t 26), []⟩])
         .skip))))
     (.reg [13] [
       ⟨none, (some 28), .bin .add (.t 13) (.c (.int .i64 1)), []⟩,
       ⟨none, (some 13), .mov (.t 28), []⟩]))))
def k527 : Cd :=
  (.seq
   (.reg [3, 4, 5, 6] [
     ⟨none, (some 3), .mov (.t 0), []⟩,
     ⟨none, (some 4), .mov (.t 1), []⟩,
     ⟨none, (some 5), .mov (.t 2), []⟩,
     ⟨none, (some 6), .zero true [.int .i8 0, .int .i8 0, .int .i8 0, .int .i8 0, .slice none 0 0], []⟩])
   (.seq
    (.reg [3] [
      ⟨none, (some 9), .adrF 3 none 4, []⟩,
      ⟨none, (some 3), .stV 3 (some 9) 1 (.c (.slice none 0 0)), []⟩])
    (.seq
     (.seq
      (.reg [12, 13] [
        ⟨none, (some 10), .ldV 4 none 12 true, []⟩,
        ⟨none, (some 11), .ldV 5 none 12 true, []⟩,
        ⟨none, (some 12), .call true 367 [.t 10, .t 11], []⟩,
        ⟨none, (some 13), .mov (.c (.int .i64 0)), []⟩])
      (.block 0
       (.loop b527_1)))
     (.seq
      (.reg [6] [
        ⟨none, (some 29), .ldV 3 none 5 true, []⟩,
        ⟨none, (some 6), .stV 6 none 5 (.t 29), []⟩])
      .ret))))
def c527 : Fn := { np := 3, nt := 30, kind := .pure, res := [.v 6 5 true], body := k527 }

/- impl.rowsApart -/
def b528_1 : Cd :=
  (.seq
   (.reg [10] [
     ⟨none, (some 10), .bin .lss (.t 9) (.c (.int .i64 12)), []⟩])
   (.seq
    (.cond (.t 10)
     .skip
     (.exit 0))
    (.seq
     (.block 1
      (.seq
       (.reg [6, 7] [
         ⟨none, (some 11), .mov (.t 9), []⟩,
         ⟨none, (some 12), .idx 12 1 false (.t 8) (.t 9), []⟩,
         ⟨none, (some 6), .mov (.t 11), []⟩,
         ⟨none, (some 7), .mov (.t 12), []⟩])
       (.seq
        (.reg [17] [
          ⟨none, (some 13), .mov (.t 7), []⟩,
          ⟨none, (some 14), .mov (.t 6), []⟩,
          ⟨none, (some 15), .adrI 3 none 12 1 (.t 14), []⟩,
          ⟨none, (some 16), .ldV 3 (some 15) 1 false, []⟩,
          ⟨none, (some 17), .bin .neq (.t 13) (.t 16), []⟩])
        (.cond (.t 17)
         (.reg [5] [
           ⟨none, (some 18), .mov (.t 5), []⟩,
           ⟨none, (some 19), .bin .add (.t 18) (.c (.int .i64 1)), []⟩,
           ⟨none, (some 5), .mov (.t 19), []⟩])
         .skip))))
     (.reg [9] [
       ⟨none, (some 20), .bin .add (.t 9) (.c (.int .i64 1)), []⟩,
       ⟨none, (some 9), .mov (.t 20), []⟩]))))
def k528 : Cd :=
  (.seq
   (.reg [2, 3, 4] [
     ⟨none, (some 2), .mov (.t 0), []⟩,
     ⟨none, (some 3), .mov (.t 1), []⟩,
     ⟨none, (some 4), .mov (.c (.int .i64 0)), []⟩])
   (.seq
    (.reg [5] [
      ⟨none, (some 5), .mov (.c (.int .i64 0)), []⟩])
    (.seq
     (.seq
      (.reg [8, 9] [
        ⟨none, (some 8), .ldV 2 none 12 true, []⟩,
        ⟨none, (some 9), .mov (.c (.int .i64 0)), []⟩])
      (.block 0
       (.loop b528_1)))
     (.seq
      (.reg [4] [
        ⟨none, (some 21), .mov (.t 5), []⟩,
        ⟨none, (some 4), .mov (.t 21), []⟩])
      .ret))))
def c528 : Fn := { np := 2, nt := 22, kind := .pure, res := [.t 4], body := k528 }

/- laws.eqChange -/
def k529 : Cd :=
  (.seq
   (.reg [2, 3, 4] [
     ⟨none, (some 2), .mov (.t 0), []⟩,
     ⟨none, (some 3), .mov (.t 1), []⟩,
     ⟨none, (some 4), .mov (.c (.bool false)), []⟩])
   (.seq
    (.seq
     (.reg [9] [
       ⟨none, (some 5), .adrF 2 none 0, []⟩,
       ⟨none, (some 6), .ldV 2 (some 5) 1 false, []⟩,
       ⟨none, (some 7), .adrF 3 none 0, []⟩,
       ⟨none, (some 8), .ldV 3 (some 7) 1 false, []⟩,
       ⟨none, (some 9), .bin .neq (.t 6) (.t 8), []⟩])
     (.cond (.t 9)
      (.seq
       (.reg [4] [
         ⟨none, (some 4), .mov (.c (.bool false)), []⟩])
       .ret)
      .skip))
    (.seq
     (.seq
      (.reg [14] [
        ⟨none, (some 10), .adrF 2 none 1, []⟩,
        ⟨none, (some 11), .ldV 2 (some 10) 1 false, []⟩,
        ⟨none, (some 12), .adrF 3 none 1, []⟩,
        ⟨none, (some 13), .ldV 3 (some 12) 1 false, []⟩,
        ⟨none, (some 14), .bin .neq (.t 11) (.t 13), []⟩])
      (.cond (.t 14)
       (.seq
        (.reg [4] [
          ⟨none, (some 4), .mov (.c (.bool false)), []⟩])
        .ret)
       .skip))
     (.seq
      (.reg [4] [
        ⟨none, (some 4), .mov (.c (.bool true)), []⟩])
      .ret))))
def c529 : Fn := { np := 2, nt := 15, kind := .pure, res := [.t 4], body := k529 }

/- slices.IndexFunc[[]uint16,uint16] -/
def b547_1 : Cd :=
  (.seq
   (.reg [9] [
     ⟨none, (some 9), .bin .lss (.t 8) (.t 7), []⟩])
   (.seq
    (.cond (.t 9)
     .skip
     (.exit 0))
    (.seq
     (.block 1
      (.seq
       (.reg [5] [
         ⟨none, (some 10), .mov (.t 8), []⟩,
         ⟨none, (some 5), .mov (.t 10), []⟩])
       (.seq
        (.reg [16] [
          ⟨none, (some 11), .mov (.t 1), []⟩,
          ⟨none, (some 12), .mov (.t 0), []⟩,
          ⟨none, (some 13), .mov (.t 5), []⟩,
          ⟨none, (some 14), .idxA 1 (.t 12) (.t 13), []⟩,
          ⟨none, (some 15), .ld 1 false (.t 14), []⟩,
          ⟨none, (some 16), .callv (.t 11) [.t 15], []⟩])
        (.cond (.t 16)
         (.seq
          (.reg [4] [
            ⟨none, (some 17), .mov (.t 5), []⟩,
            ⟨none, (some 4), .mov (.t 17), []⟩])
          .ret)
         .skip))))
     (.reg [8] [
       ⟨none, (some 18), .bin .add (.t 8) (.c (.int .i64 1)), []⟩,
       ⟨none, (some 8), .mov (.t 18), []⟩]))))
def k547 : Cd :=
  (.seq
   (.reg [4] [
     ⟨none, (some 4), .mov (.c (.int .i64 0)), []⟩])
   (.seq
    (.seq
     (.reg [7, 8] [
       ⟨none, (some 6), .mov (.t 0), []⟩,
       ⟨none, (some 7), .len (.t 6), []⟩,
       ⟨none, (some 8), .mov (.c (.int .i64 0)), []⟩])
     (.block 0
      (.loop b547_1)))
    (.seq
     (.reg [4] [
       ⟨none, (some 4), .mov (.c (.int .i64 (-1))), []⟩])
     .ret)))
def c547 : Fn := { np := 2, nt := 19, kind := .pure, res := [.t 4], body := k547 }


end Fb
