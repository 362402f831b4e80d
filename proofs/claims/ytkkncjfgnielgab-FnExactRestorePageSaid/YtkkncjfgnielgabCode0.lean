/- The functions of the law, in the small language. -/
import Derived.Test.YtkkncjfgnielgabDen
set_option linter.unusedVariables false
set_option linter.unusedSimpArgs false
namespace Fb
open Go

/- laws.FnExactRestorePage -/
def k21 : Cd :=
  (.seq
   (.reg [4, 6] [
     ⟨none, (some 4), .mov (.t 1), []⟩,
     ⟨none, (some 6), .mov (.c (.bool false)), []⟩])
   (.seq
    (.reg [7] [
      ⟨none, (some 7), .mov (.c (.int .i64 1000000)), []⟩])
    (.seq
     (.reg [7] [
       ⟨none, (some 18), .mov (.t 0), []⟩,
       ⟨none, (some 19), .mov (.t 7), []⟩,
       ⟨none, (some 20), .call true 103 [.t 18, .t 19], []⟩,
       ⟨none, (some 7), .mov (.t 20), []⟩])
     (.seq
      (.seq
       (.reg [22] [
         ⟨none, (some 21), .mov (.t 7), []⟩,
         ⟨none, (some 22), .bin .lss (.t 21) (.c (.int .i64 0)), []⟩])
       (.cond (.t 22)
        (.seq
         (.reg [6] [
           ⟨none, (some 6), .mov (.c (.bool true)), []⟩])
         .ret)
        .skip))
      (.seq
       (.reg [8, 9] [
         ⟨none, (some 24), .mov (.t 0), []⟩,
         ⟨none, (some 26), .ldV 4 none 12 true, []⟩,
         ⟨none, (some 28), .mov (.t 2), []⟩,
         ⟨none, (some 25), .call true 105 [.t 24, .c (.bool false)], []⟩,
         ⟨none, (some 27), .call true 134 [.t 26], []⟩,
         ⟨none, (some 29), .call true 143 [.t 25, .t 27, .t 28], []⟩,
         ⟨none, (some 23), .mov (.t 29), []⟩,
         ⟨none, (some 30), .ext (.t 23) 0, []⟩,
         ⟨none, (some 31), .ext (.t 23) 1, []⟩,
         ⟨none, (some 8), .mov (.t 30), []⟩,
         ⟨none, (some 9), .mov (.t 31), []⟩])
       (.seq
        (.reg [10] [
          ⟨none, (some 32), .mov (.t 0), []⟩,
          ⟨none, (some 33), .call true 105 [.t 32, .c (.bool false)], []⟩,
          ⟨none, (some 10), .mov (.t 33), []⟩])
        (.seq
         (.reg [11, 12] [
           ⟨none, (some 35), .mov (.t 10), []⟩,
           ⟨none, (some 36), .ldV 4 none 12 true, []⟩,
           ⟨none, (some 37), .call true 134 [.t 36], []⟩,
           ⟨none, (some 38), .mov (.t 2), []⟩,
           ⟨none, (some 39), .call true 144 [.t 35, .t 37, .t 38], []⟩,
           ⟨none, (some 34), .mov (.t 39), []⟩,
           ⟨none, (some 40), .ext (.t 34) 0, []⟩,
           ⟨none, (some 41), .ext (.t 34) 1, []⟩,
           ⟨none, (some 11), .mov (.t 40), []⟩,
           ⟨none, (some 12), .mov (.t 41), []⟩])
         (.seq
          (.seq
           (.reg [50] [
             ⟨none, (some 42), .mov (.t 11), []⟩,
             ⟨none, (some 43), .mov (.t 8), []⟩,
             ⟨none, (some 44), .call true 121 [.t 42, .t 43], []⟩,
             ⟨none, (some 45), .un .not (.t 44), []⟩,
             ⟨none, (some 46), .mov (.t 45), []⟩,
             ⟨(some (46, false)), (some 47), .mov (.t 12), []⟩,
             ⟨(some (46, false)), (some 48), .mov (.t 9), []⟩,
             ⟨(some (46, false)), (some 49), .bin .neq (.t 47) (.t 48), []⟩,
             ⟨none, (some 50), .pick (.t 46) (.c (.bool true)) (.t 49), []⟩])
           (.cond (.t 50)
            (.seq
             (.reg [6] [
               ⟨none, (some 6), .mov (.c (.bool false)), []⟩])
             .ret)
            .skip))
          (.seq
           (.seq
            (.reg [55] [
              ⟨none, (some 51), .mov (.t 10), []⟩,
              ⟨none, (some 52), .mov (.t 0), []⟩,
              ⟨none, (some 53), .call true 105 [.t 52, .c (.bool false)], []⟩,
              ⟨none, (some 54), .call true 107 [.t 51, .t 53], []⟩,
              ⟨none, (some 55), .un .not (.t 54), []⟩])
            (.cond (.t 55)
             (.seq
              (.reg [6] [
                ⟨none, (some 6), .mov (.c (.bool false)), []⟩])
              .ret)
             .skip))
           (.seq
            (.reg [13] [
              ⟨none, (some 13), .mov (.c (.int .i64 101)), []⟩])
            (.seq
             (.reg [13] [
               ⟨none, (some 56), .mov (.t 10), []⟩,
               ⟨none, (some 57), .mov (.t 13), []⟩,
               ⟨none, (some 58), .call false 122 [.t 56, .t 57], []⟩,
               ⟨none, (some 13), .mov (.t 58), []⟩])
             (.seq
              (.seq
               (.reg [71] [
                 ⟨none, (some 59), .mov (.t 13), []⟩,
                 ⟨none, (some 60), .bin .lss (.t 59) (.c (.int .i64 0)), []⟩,
                 ⟨none, (some 61), .mov (.t 60), []⟩,
                 ⟨(some (61, false)), (some 62), .mov (.t 11), []⟩,
                 ⟨(some (61, false)), (some 63), .mov (.t 8), []⟩,
                 ⟨(some (61, false)), (some 64), .call true 121 [.t 62, .t 63], []⟩,
                 ⟨(some (61, false)), (some 65), .un .not (.t 64), []⟩,
                 ⟨none, (some 66), .pick (.t 61) (.c (.bool true)) (.t 65), []⟩,
                 ⟨none, (some 67), .mov (.t 66), []⟩,
                 ⟨(some (67, false)), (some 68), .mov (.t 12), []⟩,
                 ⟨(some (67, false)), (some 69), .mov (.t 9), []⟩,
                 ⟨(some (67, false)), (some 70), .bin .neq (.t 68) (.t 69), []⟩,
                 ⟨none, (some 71), .pick (.t 67) (.c (.bool true)) (.t 70), []⟩])
               (.cond (.t 71)
                (.seq
                 (.reg [6] [
                   ⟨none, (some 6), .mov (.c (.bool false)), []⟩])
                 .ret)
                .skip))
              (.seq
               (.reg [14] [
                 ⟨none, (some 14), .mov (.c (.int .i64 101)), []⟩])
               (.seq
                (.reg [14] [
                  ⟨none, (some 72), .mov (.t 11), []⟩,
                  ⟨none, (some 73), .mov (.t 14), []⟩,
                  ⟨none, (some 74), .call false 122 [.t 72, .t 73], []⟩,
                  ⟨none, (some 14), .mov (.t 74), []⟩])
                (.seq
                 (.reg [15] [
                   ⟨none, (some 15), .mov (.c (.int .i64 101)), []⟩])
                 (.seq
                  (.reg [15] [
                    ⟨none, (some 75), .mov (.t 11), []⟩,
                    ⟨none, (some 76), .mov (.t 15), []⟩,
                    ⟨none, (some 77), .call true 123 [.t 75, .t 76], []⟩,
                    ⟨none, (some 15), .mov (.t 77), []⟩])
                  (.seq
                   (.seq
                    (.reg [79] [
                      ⟨none, (some 78), .mov (.t 15), []⟩,
                      ⟨none, (some 79), .bin .lss (.t 78) (.c (.int .i64 0)), []⟩])
                    (.cond (.t 79)
                     (.seq
                      (.reg [6] [
                        ⟨none, (some 6), .mov (.c (.bool false)), []⟩])
                      .ret)
                     .skip))
                   (.seq
                    (.seq
                     (.reg [82] [
                       ⟨none, (some 80), .mov (.t 15), []⟩,
                       ⟨none, (some 81), .mov (.t 14), []⟩,
                       ⟨none, (some 82), .bin .neq (.t 80) (.t 81), []⟩])
                     (.cond (.t 82)
                      (.seq
                       (.reg [6] [
                         ⟨none, (some 6), .mov (.c (.bool false)), []⟩])
                       .ret)
                      .skip))
                    (.seq
                     (.reg [16, 17] [
                       ⟨none, (some 84), .mov (.t 0), []⟩,
                       ⟨none, (some 86), .ldV 4 none 12 true, []⟩,
                       ⟨none, (some 88), .mov (.t 2), []⟩,
                       ⟨none, (some 85), .call true 105 [.t 84, .c (.bool true)], []⟩,
                       ⟨none, (some 87), .call true 134 [.t 86], []⟩,
                       ⟨none, (some 89), .call true 144 [.t 85, .t 87, .t 88], []⟩,
                       ⟨none, (some 83), .mov (.t 89), []⟩,
                       ⟨none, (some 90), .ext (.t 83) 0, []⟩,
                       ⟨none, (some 91), .ext (.t 83) 1, []⟩,
                       ⟨none, (some 16), .mov (.t 90), []⟩,
                       ⟨none, (some 17), .mov (.t 91), []⟩])
                     (.seq
                      (.seq
                       (.reg [100] [
                         ⟨none, (some 92), .mov (.t 16), []⟩,
                         ⟨none, (some 93), .mov (.t 8), []⟩,
                         ⟨none, (some 94), .call true 121 [.t 92, .t 93], []⟩,
                         ⟨none, (some 95), .un .not (.t 94), []⟩,
                         ⟨none, (some 96), .mov (.t 95), []⟩,
                         ⟨(some (96, false)), (some 97), .mov (.t 17), []⟩,
                         ⟨(some (96, false)), (some 98), .mov (.t 9), []⟩,
                         ⟨(some (96, false)), (some 99), .bin .neq (.t 97) (.t 98), []⟩,
                         ⟨none, (some 100), .pick (.t 96) (.c (.bool true)) (.t 99), []⟩])
                       (.cond (.t 100)
                        (.seq
                         (.reg [6] [
                           ⟨none, (some 6), .mov (.c (.bool false)), []⟩])
                         .ret)
                        .skip))
                      (.seq
                       (.reg [15] [
                         ⟨none, (some 15), .mov (.c (.int .i64 101)), []⟩])
                       (.seq
                        (.reg [15] [
                          ⟨none, (some 101), .mov (.t 11), []⟩,
                          ⟨none, (some 102), .mov (.t 15), []⟩,
                          ⟨none, (some 103), .call true 123 [.t 101, .t 102], []⟩,
                          ⟨none, (some 15), .mov (.t 103), []⟩])
                        (.seq
                         (.seq
                          (.reg [105] [
                            ⟨none, (some 104), .mov (.t 15), []⟩,
                            ⟨none, (some 105), .bin .lss (.t 104) (.c (.int .i64 0)), []⟩])
                          (.cond (.t 105)
                           (.seq
                            (.reg [6] [
                              ⟨none, (some 6), .mov (.c (.bool false)), []⟩])
                            .ret)
                           .skip))
                         (.seq
                          (.seq
                           (.reg [108] [
                             ⟨none, (some 106), .mov (.t 15), []⟩,
                             ⟨none, (some 107), .mov (.t 14), []⟩,
                             ⟨none, (some 108), .bin .neq (.t 106) (.t 107), []⟩])
                           (.cond (.t 108)
                            (.seq
                             (.reg [6] [
                               ⟨none, (some 6), .mov (.c (.bool false)), []⟩])
                             .ret)
                            .skip))
                          (.seq
                           (.reg [6] [
                             ⟨none, (some 6), .mov (.c (.bool true)), []⟩])
                           .ret)))))))))))))))))))))))))
def c21 : Fn := { np := 3, nt := 109, kind := .pure, res := [.t 6], body := k21 }

/- laws.eqFrame -/
def b78_1 : Cd :=
  (.seq
   (.seq
    (.reg [7] [
      ⟨none, (some 6), .mov (.t 5), []⟩,
      ⟨none, (some 7), .bin .lss (.t 6) (.c (.int .i64 12)), []⟩])
    (.cond (.t 7)
     .skip
     (.exit 0)))
   (.seq
    (.block 1
     (.seq
      (.reg [16] [
        ⟨none, (some 10), .mov (.t 5), []⟩,
        ⟨none, (some 11), .adrI 2 none 12 1 (.t 10), []⟩,
        ⟨none, (some 12), .ldV 2 (some 11) 1 false, []⟩,
        ⟨none, (some 13), .mov (.t 5), []⟩,
        ⟨none, (some 14), .adrI 3 none 12 1 (.t 13), []⟩,
        ⟨none, (some 15), .ldV 3 (some 14) 1 false, []⟩,
        ⟨none, (some 16), .bin .neq (.t 12) (.t 15), []⟩])
      (.cond (.t 16)
       (.seq
        (.reg [4] [
          ⟨none, (some 4), .mov (.c (.bool false)), []⟩])
        .ret)
       .skip)))
    (.reg [5] [
      ⟨none, (some 8), .mov (.t 5), []⟩,
      ⟨none, (some 9), .bin .add (.t 8) (.c (.int .i64 1)), []⟩,
      ⟨none, (some 5), .mov (.t 9), []⟩])))
def k78 : Cd :=
  (.seq
   (.reg [2, 3, 4] [
     ⟨none, (some 2), .mov (.t 0), []⟩,
     ⟨none, (some 3), .mov (.t 1), []⟩,
     ⟨none, (some 4), .mov (.c (.bool false)), []⟩])
   (.seq
    (.seq
     (.reg [5] [
       ⟨none, (some 5), .mov (.c (.int .i64 0)), []⟩])
     (.block 0
      (.loop b78_1)))
    (.seq
     (.reg [4] [
       ⟨none, (some 4), .mov (.c (.bool true)), []⟩])
     .ret)))
def c78 : Fn := { np := 2, nt := 17, kind := .pure, res := [.t 4], body := k78 }

/- laws.szBook -/
def k103 : Cd :=
  (.seq
   (.reg [4] [
     ⟨none, (some 4), .mov (.c (.int .i64 0)), []⟩])
   (.seq
    (.reg [1] [
      ⟨none, (some 5), .mov (.t 1), []⟩,
      ⟨none, (some 6), .mov (.t 0), []⟩,
      ⟨none, (some 7), .len (.t 6), []⟩,
      ⟨none, (some 8), .bin .sub (.t 5) (.t 7), []⟩,
      ⟨none, (some 1), .mov (.t 8), []⟩])
    (.seq
     (.seq
      (.reg [10] [
        ⟨none, (some 9), .mov (.t 1), []⟩,
        ⟨none, (some 10), .bin .lss (.t 9) (.c (.int .i64 0)), []⟩])
      (.cond (.t 10)
       (.seq
        (.reg [4] [
          ⟨none, (some 4), .mov (.c (.int .i64 (-1))), []⟩])
        .ret)
       .skip))
     (.seq
      (.reg [4] [
        ⟨none, (some 11), .mov (.t 1), []⟩,
        ⟨none, (some 4), .mov (.t 11), []⟩])
      .ret))))
def c103 : Fn := { np := 2, nt := 12, kind := .pure, res := [.t 4], body := k103 }

/- laws.toBook -/
def b105_1 : Cd :=
  (.seq
   (.seq
    (.reg [24] [
      ⟨none, (some 21), .mov (.t 6), []⟩,
      ⟨none, (some 22), .mov (.t 0), []⟩,
      ⟨none, (some 23), .len (.t 22), []⟩,
      ⟨none, (some 24), .bin .lss (.t 21) (.t 23), []⟩])
    (.cond (.t 24)
     .skip
     (.exit 0)))
   (.seq
    (.block 1
     (.reg [] [
       ⟨none, (some 27), .mov (.t 5), []⟩,
       ⟨none, (some 28), .mov (.t 6), []⟩,
       ⟨none, (some 29), .mov (.t 0), []⟩,
       ⟨none, (some 30), .mov (.t 6), []⟩,
       ⟨none, (some 31), .idxA 12 (.t 29) (.t 30), []⟩,
       ⟨none, (some 32), .ld 12 true (.t 31), []⟩,
       ⟨none, (some 33), .call true 134 [.t 32], []⟩,
       ⟨none, (some 34), .idxA 12 (.t 27) (.t 28), []⟩,
       ⟨none, none, .st 12 (.t 34) (.t 33), []⟩]))
    (.reg [6] [
      ⟨none, (some 25), .mov (.t 6), []⟩,
      ⟨none, (some 26), .bin .add (.t 25) (.c (.int .i64 1)), []⟩,
      ⟨none, (some 6), .mov (.t 26), []⟩])))
def b105_2 : Cd :=
  (.seq
   (.seq
    (.reg [40] [
      ⟨none, (some 37), .mov (.t 7), []⟩,
      ⟨none, (some 38), .mov (.t 5), []⟩,
      ⟨none, (some 39), .len (.t 38), []⟩,
      ⟨none, (some 40), .bin .lss (.t 37) (.t 39), []⟩])
    (.cond (.t 40)
     .skip
     (.exit 2)))
   (.seq
    (.block 3
     (.reg [] [
       ⟨none, (some 43), .mov (.t 5), []⟩,
       ⟨none, (some 44), .mov (.t 7), []⟩,
       ⟨none, (some 45), .agg (zs 12 (.int .u16 0)) [(0, 1, (.c (.int .u16 60201)))], []⟩,
       ⟨none, (some 46), .idxA 12 (.t 43) (.t 44), []⟩,
       ⟨none, none, .st 12 (.t 46) (.t 45), []⟩]))
    (.reg [7] [
      ⟨none, (some 41), .mov (.t 7), []⟩,
      ⟨none, (some 42), .bin .add (.t 41) (.c (.int .i64 1)), []⟩,
      ⟨none, (some 7), .mov (.t 42), []⟩])))
def k105 : Cd :=
  (.seq
   (.reg [4] [
     ⟨none, (some 4), .mov (.c (.slice none 0 0)), []⟩])
   (.seq
    (.seq
     (.reg [13] [
       ⟨none, (some 8), .mov (.t 1), []⟩,
       ⟨none, (some 9), .mov (.t 8), []⟩,
       ⟨(some (9, true)), (some 10), .mov (.t 0), []⟩,
       ⟨(some (9, true)), (some 11), .len (.t 10), []⟩,
       ⟨(some (9, true)), (some 12), .bin .eql (.t 11) (.c (.int .i64 0)), []⟩,
       ⟨none, (some 13), .pick (.t 9) (.t 12) (.c (.bool false)), []⟩])
     (.cond (.t 13)
      (.seq
       (.reg [4] [
         ⟨none, (some 4), .mov (.c (.slice none 0 0)), []⟩])
       .ret)
      .skip))
    (.seq
     (.reg [5] [
       ⟨none, (some 14), .mov (.t 0), []⟩,
       ⟨none, (some 15), .len (.t 14), []⟩,
       ⟨none, (some 16), .mov (.t 0), []⟩,
       ⟨none, (some 17), .len (.t 16), []⟩,
       ⟨none, (some 18), .call true 296 [.t 17], []⟩,
       ⟨none, (some 19), .bin .add (.t 15) (.t 18), []⟩,
       ⟨none, (some 20), .mkS 12 24 (zs 12 (.int .u16 0)) (.t 19) (.t 19), []⟩,
       ⟨none, (some 5), .mov (.t 20), []⟩])
     (.seq
      (.seq
       (.reg [6] [
         ⟨none, (some 6), .mov (.c (.int .i64 0)), []⟩])
       (.block 0
        (.loop b105_1)))
      (.seq
       (.seq
        (.reg [7] [
          ⟨none, (some 35), .mov (.t 0), []⟩,
          ⟨none, (some 36), .len (.t 35), []⟩,
          ⟨none, (some 7), .mov (.t 36), []⟩])
        (.block 2
         (.loop b105_2)))
       (.seq
        (.reg [4] [
          ⟨none, (some 47), .mov (.t 5), []⟩,
          ⟨none, (some 48), .mov (.t 0), []⟩,
          ⟨none, (some 49), .len (.t 48), []⟩,
          ⟨none, (some 50), .slcA 12 (.t 47) none (some (.t 49)) none, []⟩,
          ⟨none, (some 4), .mov (.t 50), []⟩])
        .ret))))))
def c105 : Fn := { np := 2, nt := 51, kind := .pure, res := [.t 4], body := k105 }

/- laws.intactBook -/
def k107 : Cd :=
  (.seq
   (.reg [4] [
     ⟨none, (some 4), .mov (.c (.bool false)), []⟩])
   (.seq
    (.reg [5] [
      ⟨none, (some 6), .mov (.t 1), []⟩,
      ⟨none, (some 7), .len (.t 6), []⟩,
      ⟨none, (some 8), .mov (.t 1), []⟩,
      ⟨none, (some 9), .len (.t 8), []⟩,
      ⟨none, (some 10), .call true 296 [.t 9], []⟩,
      ⟨none, (some 11), .bin .add (.t 7) (.t 10), []⟩,
      ⟨none, (some 5), .mov (.t 11), []⟩])
    (.seq
     (.reg [4] [
       ⟨none, (some 12), .mov (.t 0), []⟩,
       ⟨none, (some 13), .len (.t 12), []⟩,
       ⟨none, (some 14), .mov (.t 1), []⟩,
       ⟨none, (some 15), .len (.t 14), []⟩,
       ⟨none, (some 16), .bin .eql (.t 13) (.t 15), []⟩,
       ⟨none, (some 17), .mov (.t 16), []⟩,
       ⟨(some (17, true)), (some 18), .mov (.t 0), []⟩,
       ⟨(some (17, true)), (some 19), .mov (.t 5), []⟩,
       ⟨(some (17, true)), (some 20), .slcA 12 (.t 18) none (some (.t 19)) none, []⟩,
       ⟨(some (17, true)), (some 21), .mov (.t 1), []⟩,
       ⟨(some (17, true)), (some 22), .mov (.t 5), []⟩,
       ⟨(some (17, true)), (some 23), .slcA 12 (.t 21) none (some (.t 22)) none, []⟩,
       ⟨(some (17, true)), (some 24), .call true 121 [.t 20, .t 23], []⟩,
       ⟨none, (some 25), .pick (.t 17) (.t 24) (.c (.bool false)), []⟩,
       ⟨none, (some 4), .mov (.t 25), []⟩])
     .ret)))
def c107 : Fn := { np := 2, nt := 26, kind := .pure, res := [.t 4], body := k107 }

/- laws.eqBook -/
def b121_1 : Cd :=
  (.seq
   (.seq
    (.reg [14] [
      ⟨none, (some 11), .mov (.t 5), []⟩,
      ⟨none, (some 12), .mov (.t 0), []⟩,
      ⟨none, (some 13), .len (.t 12), []⟩,
      ⟨none, (some 14), .bin .lss (.t 11) (.t 13), []⟩])
    (.cond (.t 14)
     .skip
     (.exit 0)))
   (.seq
    (.block 1
     (.seq
      (.reg [26] [
        ⟨none, (some 17), .mov (.t 0), []⟩,
        ⟨none, (some 18), .mov (.t 5), []⟩,
        ⟨none, (some 19), .idxA 12 (.t 17) (.t 18), []⟩,
        ⟨none, (some 20), .ld 12 true (.t 19), []⟩,
        ⟨none, (some 21), .mov (.t 1), []⟩,
        ⟨none, (some 22), .mov (.t 5), []⟩,
        ⟨none, (some 23), .idxA 12 (.t 21) (.t 22), []⟩,
        ⟨none, (some 24), .ld 12 true (.t 23), []⟩,
        ⟨none, (some 25), .call true 78 [.t 20, .t 24], []⟩,
        ⟨none, (some 26), .un .not (.t 25), []⟩])
      (.cond (.t 26)
       (.seq
        (.reg [4] [
          ⟨none, (some 4), .mov (.c (.bool false)), []⟩])
        .ret)
       .skip)))
    (.reg [5] [
      ⟨none, (some 15), .mov (.t 5), []⟩,
      ⟨none, (some 16), .bin .add (.t 15) (.c (.int .i64 1)), []⟩,
      ⟨none, (some 5), .mov (.t 16), []⟩])))
def k121 : Cd :=
  (.seq
   (.reg [4] [
     ⟨none, (some 4), .mov (.c (.bool false)), []⟩])
   (.seq
    (.seq
     (.reg [10] [
       ⟨none, (some 6), .mov (.t 0), []⟩,
       ⟨none, (some 7), .len (.t 6), []⟩,
       ⟨none, (some 8), .mov (.t 1), []⟩,
       ⟨none, (some 9), .len (.t 8), []⟩,
       ⟨none, (some 10), .bin .neq (.t 7) (.t 9), []⟩])
     (.cond (.t 10)
      (.seq
       (.reg [4] [
         ⟨none, (some 4), .mov (.c (.bool false)), []⟩])
       .ret)
      .skip))
    (.seq
     (.seq
      (.reg [5] [
        ⟨none, (some 5), .mov (.c (.int .i64 0)), []⟩])
      (.block 0
       (.loop b121_1)))
     (.seq
      (.reg [4] [
        ⟨none, (some 4), .mov (.c (.bool true)), []⟩])
      .ret))))
def c121 : Fn := { np := 2, nt := 27, kind := .pure, res := [.t 4], body := k121 }

/- laws.markBook -/
def b122_1 : Cd :=
  (.seq
   (.seq
    (.reg [14] [
      ⟨none, (some 13), .mov (.t 6), []⟩,
      ⟨none, (some 14), .bin .lss (.t 13) (.c (.int .i64 12)), []⟩])
    (.cond (.t 14)
     .skip
     (.exit 2)))
   (.seq
    (.block 3
     (.seq
      (.reg [] [
        ⟨none, (some 17), .mov (.t 0), []⟩,
        ⟨none, (some 18), .mov (.t 5), []⟩,
        ⟨none, (some 19), .mov (.t 6), []⟩,
        ⟨none, (some 20), .mov (.t 1), []⟩,
        ⟨none, (some 21), .conv .u16 (.t 20), []⟩,
        ⟨none, (some 22), .idxA 12 (.t 17) (.t 18), []⟩,
        ⟨none, (some 23), .idxP 12 1 (.t 22) (.t 19), []⟩,
        ⟨none, none, .st 1 (.t 23) (.t 21), []⟩])
      (.reg [1] [
        ⟨none, (some 24), .mov (.t 1), []⟩,
        ⟨none, (some 25), .bin .add (.t 24) (.c (.int .i64 1)), []⟩,
        ⟨none, (some 1), .mov (.t 25), []⟩])))
    (.reg [6] [
      ⟨none, (some 15), .mov (.t 6), []⟩,
      ⟨none, (some 16), .bin .add (.t 15) (.c (.int .i64 1)), []⟩,
      ⟨none, (some 6), .mov (.t 16), []⟩])))
def b122_2 : Cd :=
  (.seq
   (.seq
    (.reg [10] [
      ⟨none, (some 7), .mov (.t 5), []⟩,
      ⟨none, (some 8), .mov (.t 0), []⟩,
      ⟨none, (some 9), .len (.t 8), []⟩,
      ⟨none, (some 10), .bin .lss (.t 7) (.t 9), []⟩])
    (.cond (.t 10)
     .skip
     (.exit 0)))
   (.seq
    (.block 1
     (.seq
      (.reg [6] [
        ⟨none, (some 6), .mov (.c (.int .i64 0)), []⟩])
      (.block 2
       (.loop b122_1))))
    (.reg [5] [
      ⟨none, (some 11), .mov (.t 5), []⟩,
      ⟨none, (some 12), .bin .add (.t 11) (.c (.int .i64 1)), []⟩,
      ⟨none, (some 5), .mov (.t 12), []⟩])))
def k122 : Cd :=
  (.seq
   (.reg [4] [
     ⟨none, (some 4), .mov (.c (.int .i64 0)), []⟩])
   (.seq
    (.seq
     (.reg [5] [
       ⟨none, (some 5), .mov (.c (.int .i64 0)), []⟩])
     (.block 0
      (.loop b122_2)))
    (.seq
     (.reg [4] [
       ⟨none, (some 26), .mov (.t 1), []⟩,
       ⟨none, (some 4), .mov (.t 26), []⟩])
     .ret)))
def c122 : Fn := { np := 2, nt := 27, kind := .args, res := [.t 4], body := k122 }

/- laws.heldBook -/
def b123_1 : Cd :=
  (.seq
   (.seq
    (.reg [14] [
      ⟨none, (some 13), .mov (.t 6), []⟩,
      ⟨none, (some 14), .bin .lss (.t 13) (.c (.int .i64 12)), []⟩])
    (.cond (.t 14)
     .skip
     (.exit 2)))
   (.seq
    (.block 3
     (.seq
      (.seq
       (.reg [25] [
         ⟨none, (some 17), .mov (.t 0), []⟩,
         ⟨none, (some 18), .mov (.t 5), []⟩,
         ⟨none, (some 19), .mov (.t 6), []⟩,
         ⟨none, (some 20), .idxA 12 (.t 17) (.t 18), []⟩,
         ⟨none, (some 21), .idxP 12 1 (.t 20) (.t 19), []⟩,
         ⟨none, (some 22), .ld 1 false (.t 21), []⟩,
         ⟨none, (some 23), .mov (.t 1), []⟩,
         ⟨none, (some 24), .conv .u16 (.t 23), []⟩,
         ⟨none, (some 25), .bin .neq (.t 22) (.t 24), []⟩])
       (.cond (.t 25)
        (.seq
         (.reg [4] [
           ⟨none, (some 4), .mov (.c (.int .i64 (-1))), []⟩])
         .ret)
        .skip))
      (.reg [1] [
        ⟨none, (some 26), .mov (.t 1), []⟩,
        ⟨none, (some 27), .bin .add (.t 26) (.c (.int .i64 1)), []⟩,
        ⟨none, (some 1), .mov (.t 27), []⟩])))
    (.reg [6] [
      ⟨none, (some 15), .mov (.t 6), []⟩,
      ⟨none, (some 16), .bin .add (.t 15) (.c (.int .i64 1)), []⟩,
      ⟨none, (some 6), .mov (.t 16), []⟩])))
def b123_2 : Cd :=
  (.seq
   (.seq
    (.reg [10] [
      ⟨none, (some 7), .mov (.t 5), []⟩,
      ⟨none, (some 8), .mov (.t 0), []⟩,
      ⟨none, (some 9), .len (.t 8), []⟩,
      ⟨none, (some 10), .bin .lss (.t 7) (.t 9), []⟩])
    (.cond (.t 10)
     .skip
     (.exit 0)))
   (.seq
    (.block 1
     (.seq
      (.reg [6] [
        ⟨none, (some 6), .mov (.c (.int .i64 0)), []⟩])
      (.block 2
       (.loop b123_1))))
    (.reg [5] [
      ⟨none, (some 11), .mov (.t 5), []⟩,
      ⟨none, (some 12), .bin .add (.t 11) (.c (.int .i64 1)), []⟩,
      ⟨none, (some 5), .mov (.t 12), []⟩])))
def k123 : Cd :=
  (.seq
   (.reg [4] [
     ⟨none, (some 4), .mov (.c (.int .i64 0)), []⟩])
   (.seq
    (.seq
     (.reg [5] [
       ⟨none, (some 5), .mov (.c (.int .i64 0)), []⟩])
     (.block 0
      (.loop b123_2)))
    (.seq
     (.reg [4] [
       ⟨none, (some 28), .mov (.t 1), []⟩,
       ⟨none, (some 4), .mov (.t 28), []⟩])
     .ret)))
def c123 : Fn := { np := 2, nt := 29, kind := .pure, res := [.t 4], body := k123 }

/- laws.toFrame -/
def b134_1 : Cd :=
  (.seq
   (.seq
    (.reg [6] [
      ⟨none, (some 5), .mov (.t 4), []⟩,
      ⟨none, (some 6), .bin .lss (.t 5) (.c (.int .i64 12)), []⟩])
    (.cond (.t 6)
     .skip
     (.exit 0)))
   (.seq
    (.block 1
     (.reg [3] [
       ⟨none, (some 9), .mov (.t 4), []⟩,
       ⟨none, (some 10), .mov (.t 4), []⟩,
       ⟨none, (some 11), .adrI 1 none 12 1 (.t 10), []⟩,
       ⟨none, (some 12), .ldV 1 (some 11) 1 false, []⟩,
       ⟨none, (some 13), .adrI 3 none 12 1 (.t 9), []⟩,
       ⟨none, (some 3), .stV 3 (some 13) 1 (.t 12), []⟩]))
    (.reg [4] [
      ⟨none, (some 7), .mov (.t 4), []⟩,
      ⟨none, (some 8), .bin .add (.t 7) (.c (.int .i64 1)), []⟩,
      ⟨none, (some 4), .mov (.t 8), []⟩])))
def k134 : Cd :=
  (.seq
   (.reg [1, 2] [
     ⟨none, (some 1), .mov (.t 0), []⟩,
     ⟨none, (some 2), .zero true (zs 12 (.int .u16 0)), []⟩])
   (.seq
    (.reg [3] [
      ⟨none, (some 3), .zero true (zs 12 (.int .u16 0)), []⟩])
    (.seq
     (.seq
      (.reg [4] [
        ⟨none, (some 4), .mov (.c (.int .i64 0)), []⟩])
      (.block 0
       (.loop b134_1)))
     (.seq
      (.reg [2] [
        ⟨none, (some 14), .ldV 3 none 12 true, []⟩,
        ⟨none, (some 2), .stV 2 none 12 (.t 14), []⟩])
      .ret))))
def c134 : Fn := { np := 1, nt := 15, kind := .pure, res := [.v 2 12 true], body := k134 }

/- spec.RestorePage -/
def b143_1 : Cd :=
  (.seq
   (.seq
    (.reg [32] [
      ⟨none, (some 31), .mov (.t 10), []⟩,
      ⟨none, (some 32), .bin .lss (.t 31) (.c (.int .i64 12)), []⟩])
    (.cond (.t 32)
     .skip
     (.exit 0)))
   (.seq
    (.block 1
     (.reg [] [
       ⟨none, (some 35), .mov (.t 8), []⟩,
       ⟨none, (some 36), .mov (.t 2), []⟩,
       ⟨none, (some 37), .mov (.t 10), []⟩,
       ⟨none, (some 38), .idxA 12 (.t 35) (.t 36), []⟩,
       ⟨none, (some 39), .idxP 12 1 (.t 38) (.t 37), []⟩,
       ⟨none, (some 40), .ld 1 false (.t 39), []⟩,
       ⟨none, (some 41), .mov (.t 10), []⟩,
       ⟨none, (some 42), .adrI 9 none 12 1 (.t 41), []⟩,
       ⟨none, (some 43), .ldV 9 (some 42) 1 false, []⟩,
       ⟨none, (some 44), .mov (.t 10), []⟩,
       ⟨none, (some 45), .idxP 12 1 (.t 4) (.t 44), []⟩,
       ⟨none, (some 46), .ld 1 false (.t 45), []⟩,
       ⟨none, (some 47), .bin .xor (.t 43) (.t 46), []⟩,
       ⟨none, (some 48), .bin .xor (.t 40) (.t 47), []⟩,
       ⟨none, (some 49), .idxA 12 (.t 35) (.t 36), []⟩,
       ⟨none, (some 50), .idxP 12 1 (.t 49) (.t 37), []⟩,
       ⟨none, none, .st 1 (.t 50) (.t 48), []⟩]))
    (.reg [10] [
      ⟨none, (some 33), .mov (.t 10), []⟩,
      ⟨none, (some 34), .bin .add (.t 33) (.c (.int .i64 1)), []⟩,
      ⟨none, (some 10), .mov (.t 34), []⟩])))
def k143 : Cd :=
  (.seq
   (.reg [4, 6, 7] [
     ⟨none, (some 4), .box 12 (.t 1), []⟩,
     ⟨none, (some 6), .mov (.c (.slice none 0 0)), []⟩,
     ⟨none, (some 7), .mov (.c (.int .i64 0)), []⟩])
   (.seq
    (.seq
     (.reg [17] [
       ⟨none, (some 11), .mov (.t 0), []⟩,
       ⟨none, (some 12), .call true 318 [.t 11], []⟩,
       ⟨none, (some 13), .un .not (.t 12), []⟩,
       ⟨none, (some 14), .mov (.t 13), []⟩,
       ⟨(some (14, false)), (some 15), .call true 359 [.t 4], []⟩,
       ⟨(some (14, false)), (some 16), .un .not (.t 15), []⟩,
       ⟨none, (some 17), .pick (.t 14) (.c (.bool true)) (.t 16), []⟩])
     (.cond (.t 17)
      (.seq
       (.reg [6, 7] [
         ⟨none, (some 18), .bldS 12 0 (zs 12 (.int .u16 0)) [], []⟩,
         ⟨none, (some 6), .mov (.t 18), []⟩,
         ⟨none, (some 7), .mov (.c (.int .i64 1)), []⟩])
       .ret)
      .skip))
    (.seq
     (.seq
      (.reg [24] [
        ⟨none, (some 19), .mov (.t 2), []⟩,
        ⟨none, (some 20), .mov (.t 0), []⟩,
        ⟨none, (some 21), .len (.t 20), []⟩,
        ⟨none, (some 22), .bin .sub (.t 21) (.c (.int .i64 1)), []⟩,
        ⟨none, (some 23), .call true 304 [.t 19, .c (.int .i64 0), .t 22], []⟩,
        ⟨none, (some 24), .un .not (.t 23), []⟩])
      (.cond (.t 24)
       (.seq
        (.reg [6, 7] [
          ⟨none, (some 25), .bldS 12 0 (zs 12 (.int .u16 0)) [], []⟩,
          ⟨none, (some 6), .mov (.t 25), []⟩,
          ⟨none, (some 7), .mov (.c (.int .i64 2)), []⟩])
        .ret)
       .skip))
     (.seq
      (.reg [8] [
        ⟨none, (some 26), .bldS 12 0 (zs 12 (.int .u16 0)) [], []⟩,
        ⟨none, (some 27), .mov (.t 0), []⟩,
        ⟨none, (some 28), .app 12 24 (.t 26) (.t 27), []⟩,
        ⟨none, (some 8), .mov (.t 28), []⟩])
      (.seq
       (.reg [9] [
         ⟨none, (some 29), .mov (.t 0), []⟩,
         ⟨none, (some 30), .call true 339 [.t 29], []⟩,
         ⟨none, (some 9), .zero true (zs 12 (.int .u16 0)), []⟩,
         ⟨none, (some 9), .stV 9 none 12 (.t 30), []⟩])
       (.seq
        (.seq
         (.reg [10] [
           ⟨none, (some 10), .mov (.c (.int .i64 0)), []⟩])
         (.block 0
          (.loop b143_1)))
        (.seq
         (.reg [6, 7] [
           ⟨none, (some 51), .mov (.t 8), []⟩,
           ⟨none, (some 6), .mov (.t 51), []⟩,
           ⟨none, (some 7), .mov (.c (.int .i64 0)), []⟩])
         .ret)))))))
def c143 : Fn := { np := 3, nt := 52, kind := .pure, res := [.t 6, .t 7], body := k143 }

/- impl.RestorePage -/
def k144 : Cd :=
  (.seq
   (.reg [4, 6, 7] [
     ⟨none, (some 4), .mov (.t 1), []⟩,
     ⟨none, (some 6), .mov (.c (.slice none 0 0)), []⟩,
     ⟨none, (some 7), .mov (.c (.int .i64 0)), []⟩])
   (.seq
    (.block 0
     (.seq
      (.reg [9] [
        ⟨none, (some 10), .mov (.t 0), []⟩,
        ⟨none, (some 11), .call true 316 [.t 10], []⟩,
        ⟨none, (some 12), .un .not (.t 11), []⟩,
        ⟨none, (some 13), .mov (.t 12), []⟩,
        ⟨(some (13, false)), (some 14), .ldV 4 none 12 true, []⟩,
        ⟨(some (13, false)), (some 15), .call true 234 [.t 14], []⟩,
        ⟨(some (13, false)), (some 16), .un .not (.t 15), []⟩,
        ⟨none, (some 17), .pick (.t 13) (.c (.bool true)) (.t 16), []⟩,
        ⟨none, (some 9), .mov (.t 17), []⟩])
      (.cond (.t 9)
       (.seq
        (.reg [6, 7] [
          ⟨none, (some 6), .mov (.c (.slice none 0 0)), []⟩,
          ⟨none, (some 7), .mov (.c (.int .i64 1)), []⟩])
        .ret)
       (.seq
        (.reg [18] [
          ⟨none, (some 19), .mov (.t 0), []⟩,
          ⟨none, (some 20), .mov (.t 2), []⟩,
          ⟨none, (some 21), .call true 365 [.t 19, .t 20], []⟩,
          ⟨none, (some 22), .un .not (.t 21), []⟩,
          ⟨none, (some 18), .mov (.t 22), []⟩])
        (.cond (.t 18)
         (.seq
          (.reg [6, 7] [
            ⟨none, (some 6), .mov (.c (.slice none 0 0)), []⟩,
            ⟨none, (some 7), .mov (.c (.int .i64 2)), []⟩])
          .ret)
         .skip)))))
    (.seq
     (.reg [8] [
       ⟨none, (some 23), .mov (.t 0), []⟩,
       ⟨none, (some 24), .call true 366 [.t 23], []⟩,
       ⟨none, (some 8), .mov (.t 24), []⟩])
     (.seq
      (.reg [] [
        ⟨none, (some 25), .mov (.t 8), []⟩,
        ⟨none, (some 26), .mov (.t 2), []⟩,
        ⟨none, (some 27), .mov (.t 0), []⟩,
        ⟨none, (some 29), .mov (.t 0), []⟩,
        ⟨none, (some 30), .mov (.t 2), []⟩,
        ⟨none, (some 31), .idxA 12 (.t 29) (.t 30), []⟩,
        ⟨none, (some 32), .ld 12 true (.t 31), []⟩,
        ⟨none, (some 34), .ldV 4 none 12 true, []⟩,
        ⟨none, (some 28), .call true 340 [.t 27], []⟩,
        ⟨none, (some 33), .call true 367 [.t 28, .t 32], []⟩,
        ⟨none, (some 35), .call true 367 [.t 33, .t 34], []⟩,
        ⟨none, (some 36), .idxA 12 (.t 25) (.t 26), []⟩,
        ⟨none, none, .st 12 (.t 36) (.t 35), []⟩])
      (.seq
       (.reg [6, 7] [
         ⟨none, (some 37), .mov (.t 8), []⟩,
         ⟨none, (some 6), .mov (.t 37), []⟩,
         ⟨none, (some 7), .mov (.c (.int .i64 0)), []⟩])
       .ret)))))
def c144 : Fn := { np := 3, nt := 38, kind := .pure, res := [.t 6, .t 7], body := k144 }

/- impl.ValidFrame -/
def k234 : Cd :=
  (.seq
   (.reg [1, 2] [
     ⟨none, (some 1), .box 12 (.t 0), []⟩,
     ⟨none, (some 2), .mov (.c (.bool false)), []⟩])
   (.seq
    (.reg [2] [
      ⟨none, (some 3), .slcP 12 1 (.t 1), []⟩,
      ⟨none, (some 4), .call true 445 [.t 3, .f 446], []⟩,
      ⟨none, (some 5), .un .not (.t 4), []⟩,
      ⟨none, (some 2), .mov (.t 5), []⟩])
    .ret))
def c234 : Fn := { np := 1, nt := 6, kind := .pure, res := [.t 2], body := k234 }

/- impl.inRange -/
def k295 : Cd :=
  (.seq
   (.reg [6] [
     ⟨none, (some 6), .mov (.c (.bool false)), []⟩])
   (.seq
    (.reg [6] [
      ⟨none, (some 7), .mov (.t 1), []⟩,
      ⟨none, (some 8), .mov (.t 0), []⟩,
      ⟨none, (some 9), .bin .leq (.t 7) (.t 8), []⟩,
      ⟨none, (some 10), .mov (.t 9), []⟩,
      ⟨(some (10, true)), (some 11), .mov (.t 0), []⟩,
      ⟨(some (10, true)), (some 12), .mov (.t 2), []⟩,
      ⟨(some (10, true)), (some 13), .bin .leq (.t 11) (.t 12), []⟩,
      ⟨none, (some 14), .pick (.t 10) (.t 13) (.c (.bool false)), []⟩,
      ⟨none, (some 6), .mov (.t 14), []⟩])
    .ret))
def c295 : Fn := { np := 3, nt := 15, kind := .pure, res := [.t 6], body := k295 }

/- laws.roomBehind -/
def k296 : Cd :=
  (.seq
   (.reg [2] [
     ⟨none, (some 2), .mov (.c (.int .i64 0)), []⟩])
   (.seq
    (.seq
     (.reg [5] [
       ⟨none, (some 3), .mov (.t 0), []⟩,
       ⟨none, (some 4), .bin .rem (.t 3) (.c (.int .i64 6)), []⟩,
       ⟨none, (some 5), .bin .eql (.t 4) (.c (.int .i64 5)), []⟩])
     (.cond (.t 5)
      (.seq
       (.reg [2] [
         ⟨none, (some 2), .mov (.c (.int .i64 0)), []⟩])
       .ret)
      .skip))
    (.seq
     (.seq
      (.reg [8] [
        ⟨none, (some 6), .mov (.t 0), []⟩,
        ⟨none, (some 7), .bin .rem (.t 6) (.c (.int .i64 3)), []⟩,
        ⟨none, (some 8), .bin .eql (.t 7) (.c (.int .i64 0)), []⟩])
      (.cond (.t 8)
       (.seq
        (.reg [2] [
          ⟨none, (some 2), .mov (.c (.int .i64 1)), []⟩])
        .ret)
       .skip))
     (.seq
      (.reg [2] [
        ⟨none, (some 9), .mov (.t 0), []⟩,
        ⟨none, (some 2), .mov (.t 9), []⟩])
      .ret))))
def c296 : Fn := { np := 1, nt := 10, kind := .pure, res := [.t 2], body := k296 }

/- spec.l00In -/
def k304 : Cd :=
  (.seq
   (.reg [6] [
     ⟨none, (some 6), .mov (.c (.bool false)), []⟩])
   (.seq
    (.reg [6] [
      ⟨none, (some 7), .mov (.t 0), []⟩,
      ⟨none, (some 8), .mov (.t 1), []⟩,
      ⟨none, (some 9), .bin .geq (.t 7) (.t 8), []⟩,
      ⟨none, (some 10), .mov (.t 9), []⟩,
      ⟨(some (10, true)), (some 11), .mov (.t 0), []⟩,
      ⟨(some (10, true)), (some 12), .mov (.t 2), []⟩,
      ⟨(some (10, true)), (some 13), .bin .leq (.t 11) (.t 12), []⟩,
      ⟨none, (some 14), .pick (.t 10) (.t 13) (.c (.bool false)), []⟩,
      ⟨none, (some 6), .mov (.t 14), []⟩])
    .ret))
def c304 : Fn := { np := 3, nt := 15, kind := .pure, res := [.t 6], body := k304 }

/- impl.ValidBook -/
def k316 : Cd :=
  (.seq
   (.reg [2] [
     ⟨none, (some 2), .mov (.c (.bool false)), []⟩])
   (.seq
    (.reg [2] [
      ⟨none, (some 3), .mov (.t 0), []⟩,
      ⟨none, (some 4), .len (.t 3), []⟩,
      ⟨none, (some 5), .bin .leq (.t 4) (.c (.int .i64 40)), []⟩,
      ⟨none, (some 6), .mov (.t 5), []⟩,
      ⟨(some (6, true)), (some 7), .mov (.t 0), []⟩,
      ⟨(some (6, true)), (some 8), .call true 351 [.t 7], []⟩,
      ⟨none, (some 9), .pick (.t 6) (.t 8) (.c (.bool false)), []⟩,
      ⟨none, (some 2), .mov (.t 9), []⟩])
    .ret))
def c316 : Fn := { np := 1, nt := 10, kind := .pure, res := [.t 2], body := k316 }

/- spec.l02Ok -/
def b318_1 : Cd :=
  (.seq
   (.seq
    (.reg [7] [
      ⟨none, (some 4), .mov (.t 3), []⟩,
      ⟨none, (some 5), .mov (.t 0), []⟩,
      ⟨none, (some 6), .len (.t 5), []⟩,
      ⟨none, (some 7), .bin .lss (.t 4) (.t 6), []⟩])
    (.cond (.t 7)
     .skip
     (.exit 0)))
   (.seq
    (.block 1
     (.seq
      (.reg [14] [
        ⟨none, (some 10), .mov (.t 0), []⟩,
        ⟨none, (some 11), .mov (.t 3), []⟩,
        ⟨none, (some 12), .idxA 12 (.t 10) (.t 11), []⟩,
        ⟨none, (some 13), .call true 359 [.t 12], []⟩,
        ⟨none, (some 14), .un .not (.t 13), []⟩])
      (.cond (.t 14)
       (.seq
        (.reg [2] [
          ⟨none, (some 2), .mov (.c (.bool false)), []⟩])
        .ret)
       .skip)))
    (.reg [3] [
      ⟨none, (some 8), .mov (.t 3), []⟩,
      ⟨none, (some 9), .bin .add (.t 8) (.c (.int .i64 1)), []⟩,
      ⟨none, (some 3), .mov (.t 9), []⟩])))
def k318 : Cd :=
  (.seq
   (.reg [2] [
     ⟨none, (some 2), .mov (.c (.bool false)), []⟩])
   (.seq
    (.seq
     (.reg [3] [
       ⟨none, (some 3), .mov (.c (.int .i64 0)), []⟩])
     (.block 0
      (.loop b318_1)))
    (.seq
     (.reg [2] [
       ⟨none, (some 15), .mov (.t 0), []⟩,
       ⟨none, (some 16), .len (.t 15), []⟩,
       ⟨none, (some 17), .bin .leq (.t 16) (.c (.int .i64 40)), []⟩,
       ⟨none, (some 2), .mov (.t 17), []⟩])
     .ret)))
def c318 : Fn := { np := 1, nt := 18, kind := .pure, res := [.t 2], body := k318 }

/- spec.l06Parity -/
def b339_1 : Cd :=
  (.seq
   (.seq
    (.reg [14] [
      ⟨none, (some 13), .mov (.t 5), []⟩,
      ⟨none, (some 14), .bin .lss (.t 13) (.c (.int .i64 12)), []⟩])
    (.cond (.t 14)
     .skip
     (.exit 2)))
   (.seq
    (.block 3
     (.reg [3] [
       ⟨none, (some 17), .mov (.t 5), []⟩,
       ⟨none, (some 18), .adrI 3 none 12 1 (.t 17), []⟩,
       ⟨none, (some 19), .ldV 3 (some 18) 1 false, []⟩,
       ⟨none, (some 20), .mov (.t 0), []⟩,
       ⟨none, (some 21), .mov (.t 4), []⟩,
       ⟨none, (some 22), .mov (.t 5), []⟩,
       ⟨none, (some 23), .idxA 12 (.t 20) (.t 21), []⟩,
       ⟨none, (some 24), .idxP 12 1 (.t 23) (.t 22), []⟩,
       ⟨none, (some 25), .ld 1 false (.t 24), []⟩,
       ⟨none, (some 26), .bin .xor (.t 19) (.t 25), []⟩,
       ⟨none, (some 27), .adrI 3 none 12 1 (.t 17), []⟩,
       ⟨none, (some 3), .stV 3 (some 27) 1 (.t 26), []⟩]))
    (.reg [5] [
      ⟨none, (some 15), .mov (.t 5), []⟩,
      ⟨none, (some 16), .bin .add (.t 15) (.c (.int .i64 1)), []⟩,
      ⟨none, (some 5), .mov (.t 16), []⟩])))
def b339_2 : Cd :=
  (.seq
   (.seq
    (.reg [10] [
      ⟨none, (some 7), .mov (.t 4), []⟩,
      ⟨none, (some 8), .mov (.t 0), []⟩,
      ⟨none, (some 9), .len (.t 8), []⟩,
      ⟨none, (some 10), .bin .lss (.t 7) (.t 9), []⟩])
    (.cond (.t 10)
     .skip
     (.exit 0)))
   (.seq
    (.block 1
     (.seq
      (.reg [5] [
        ⟨none, (some 5), .mov (.c (.int .i64 0)), []⟩])
      (.block 2
       (.loop b339_1))))
    (.reg [4] [
      ⟨none, (some 11), .mov (.t 4), []⟩,
      ⟨none, (some 12), .bin .add (.t 11) (.c (.int .i64 1)), []⟩,
      ⟨none, (some 4), .mov (.t 12), []⟩])))
def k339 : Cd :=
  (.seq
   (.reg [2] [
     ⟨none, (some 2), .zero true (zs 12 (.int .u16 0)), []⟩])
   (.seq
    (.reg [3] [
      ⟨none, (some 6), .agg (zs 12 (.int .u16 0)) [], []⟩,
      ⟨none, (some 3), .zero true (zs 12 (.int .u16 0)), []⟩,
      ⟨none, (some 3), .stV 3 none 12 (.t 6), []⟩])
    (.seq
     (.seq
      (.reg [4] [
        ⟨none, (some 4), .mov (.c (.int .i64 0)), []⟩])
      (.block 0
       (.loop b339_2)))
     (.seq
      (.reg [2] [
        ⟨none, (some 28), .ldV 3 none 12 true, []⟩,
        ⟨none, (some 2), .stV 2 none 12 (.t 28), []⟩])
      .ret))))
def c339 : Fn := { np := 1, nt := 29, kind := .pure, res := [.v 2 12 true], body := k339 }

/- (impl.Book).parity -/
def b340_1 : Cd :=
  (.seq
   (.reg [10] [
     ⟨none, (some 10), .bin .lss (.t 9) (.t 8), []⟩])
   (.seq
    (.cond (.t 10)
     .skip
     (.exit 0))
    (.seq
     (.block 1
      (.seq
       (.reg [5] [
         ⟨none, (some 11), .idxA 12 (.t 7) (.t 9), []⟩,
         ⟨none, (some 12), .ld 12 true (.t 11), []⟩,
         ⟨none, (some 5), .zero true (zs 12 (.int .u16 0)), []⟩,
         ⟨none, (some 5), .stV 5 none 12 (.t 12), []⟩])
       (.reg [3] [
         ⟨none, (some 13), .ldV 3 none 12 true, []⟩,
         ⟨none, (some 14), .ldV 5 none 12 true, []⟩,
         ⟨none, (some 15), .call true 367 [.t 13, .t 14], []⟩,
         ⟨none, (some 3), .stV 3 none 12 (.t 15), []⟩])))
     (.reg [9] [
       ⟨none, (some 16), .bin .add (.t 9) (.c (.int .i64 1)), []⟩,
       ⟨none, (some 9), .mov (.t 16), []⟩]))))
def k340 : Cd :=
  (.seq
   (.reg [2] [
     ⟨none, (some 2), .zero true (zs 12 (.int .u16 0)), []⟩])
   (.seq
    (.reg [3] [
      ⟨none, (some 6), .agg (zs 12 (.int .u16 0)) [], []⟩,
      ⟨none, (some 3), .zero true (zs 12 (.int .u16 0)), []⟩,
      ⟨none, (some 3), .stV 3 none 12 (.t 6), []⟩])
    (.seq
     (.seq
      (.reg [7, 8, 9] [
        ⟨none, (some 7), .mov (.t 0), []⟩,
        ⟨none, (some 8), .len (.t 7), []⟩,
        ⟨none, (some 9), .mov (.c (.int .i64 0)), []⟩])
      (.block 0
       (.loop b340_1)))
     (.seq
      (.reg [2] [
        ⟨none, (some 17), .ldV 3 none 12 true, []⟩,
        ⟨none, (some 2), .stV 2 none 12 (.t 17), []⟩])
      .ret))))
def c340 : Fn := { np := 1, nt := 18, kind := .pure, res := [.v 2 12 true], body := k340 }

/- impl.areFrames -/
def k351 : Cd :=
  (.seq
   (.reg [2] [
     ⟨none, (some 2), .mov (.c (.bool false)), []⟩])
   (.seq
    (.reg [2] [
      ⟨none, (some 3), .mov (.t 0), []⟩,
      ⟨none, (some 4), .call true 505 [.t 3, .f 506], []⟩,
      ⟨none, (some 5), .un .not (.t 4), []⟩,
      ⟨none, (some 2), .mov (.t 5), []⟩])
    .ret))
def c351 : Fn := { np := 1, nt := 6, kind := .pure, res := [.t 2], body := k351 }

/- spec.l01Ok -/
def b359_1 : Cd :=
  (.seq
   (.seq
    (.reg [5] [
      ⟨none, (some 4), .mov (.t 3), []⟩,
      ⟨none, (some 5), .bin .lss (.t 4) (.c (.int .i64 12)), []⟩])
    (.cond (.t 5)
     .skip
     (.exit 0)))
   (.seq
    (.block 1
     (.seq
      (.reg [13] [
        ⟨none, (some 8), .mov (.t 0), []⟩,
        ⟨none, (some 9), .mov (.t 3), []⟩,
        ⟨none, (some 10), .nil (.t 8), []⟩,
        ⟨none, (some 11), .idxP 12 1 (.t 10) (.t 9), []⟩,
        ⟨none, (some 12), .ld 1 false (.t 11), []⟩,
        ⟨none, (some 13), .bin .gtr (.t 12) (.c (.int .u16 4095)), []⟩])
      (.cond (.t 13)
       (.seq
        (.reg [2] [
          ⟨none, (some 2), .mov (.c (.bool false)), []⟩])
        .ret)
       .skip)))
    (.reg [3] [
      ⟨none, (some 6), .mov (.t 3), []⟩,
      ⟨none, (some 7), .bin .add (.t 6) (.c (.int .i64 1)), []⟩,
      ⟨none, (some 3), .mov (.t 7), []⟩])))
def k359 : Cd :=
  (.seq
   (.reg [2] [
     ⟨none, (some 2), .mov (.c (.bool false)), []⟩])
   (.seq
    (.seq
     (.reg [3] [
       ⟨none, (some 3), .mov (.c (.int .i64 0)), []⟩])
     (.block 0
      (.loop b359_1)))
    (.seq
     (.reg [2] [
       ⟨none, (some 2), .mov (.c (.bool true)), []⟩])
     .ret)))
def c359 : Fn := { np := 1, nt := 14, kind := .pure, res := [.t 2], body := k359 }

/- (impl.Book).isPage -/
def k365 : Cd :=
  (.seq
   (.reg [4] [
     ⟨none, (some 4), .mov (.c (.bool false)), []⟩])
   (.seq
    (.reg [4] [
      ⟨none, (some 5), .mov (.t 1), []⟩,
      ⟨none, (some 6), .mov (.t 0), []⟩,
      ⟨none, (some 7), .len (.t 6), []⟩,
      ⟨none, (some 8), .bin .sub (.t 7) (.c (.int .i64 1)), []⟩,
      ⟨none, (some 9), .call true 295 [.t 5, .c (.int .i64 0), .t 8], []⟩,
      ⟨none, (some 4), .mov (.t 9), []⟩])
    .ret))
def c365 : Fn := { np := 2, nt := 10, kind := .pure, res := [.t 4], body := k365 }

/- slices.Clone[impl.Book,impl.Frame] -/
def k366 : Cd :=
  (.seq
   (.reg [2] [
     ⟨none, (some 2), .mov (.c (.slice none 0 0)), []⟩])
   (.seq
    (.seq
     (.reg [4] [
       ⟨none, (some 3), .mov (.t 0), []⟩,
       ⟨none, (some 4), .eq .n false (.t 3) (.c (.slice none 0 0)), []⟩])
     (.cond (.t 4)
      (.seq
       (.reg [2] [
         ⟨none, (some 2), .mov (.c (.slice none 0 0)), []⟩])
       .ret)
      .skip))
    (.seq
     (.reg [2] [
       ⟨none, (some 5), .bldS 12 0 (zs 12 (.int .u16 0)) [], []⟩,
       ⟨none, (some 6), .mov (.t 0), []⟩,
       ⟨none, (some 7), .app 12 24 (.t 5) (.t 6), []⟩,
       ⟨none, (some 2), .mov (.t 7), []⟩])
     .ret)))
def c366 : Fn := { np := 1, nt := 8, kind := .pure, res := [.t 2], body := k366 }

/- (impl.Frame).differ -/
def k367 : Cd :=
  (.seq
   (.reg [2, 3, 4] [
     ⟨none, (some 2), .mov (.t 0), []⟩,
     ⟨none, (some 3), .mov (.t 1), []⟩,
     ⟨none, (some 4), .zero true (zs 12 (.int .u16 0)), []⟩])
   (.seq
    (.reg [4] [
      ⟨none, (some 5), .ldV 2 none 12 true, []⟩,
      ⟨none, (some 6), .ldV 3 none 12 true, []⟩,
      ⟨none, (some 7), .call true 443 [.t 5, .t 6, .f 512], []⟩,
      ⟨none, (some 4), .stV 4 none 12 (.t 7), []⟩])
    .ret))
def c367 : Fn := { np := 2, nt := 8, kind := .pure, res := [.v 4 12 true], body := k367 }

/- (impl.Frame).mix -/
def b443_1 : Cd :=
  (.seq
   (.reg [11] [
     ⟨none, (some 11), .bin .lss (.t 10) (.c (.int .i64 12)), []⟩])
   (.seq
    (.cond (.t 11)
     .skip
     (.exit 0))
    (.seq
     (.block 1
      (.seq
       (.reg [7, 8] [
         ⟨none, (some 12), .mov (.t 10), []⟩,
         ⟨none, (some 13), .idx 12 1 false (.t 9) (.t 10), []⟩,
         ⟨none, (some 7), .mov (.t 12), []⟩,
         ⟨none, (some 8), .mov (.t 13), []⟩])
       (.reg [3] [
         ⟨none, (some 14), .mov (.t 7), []⟩,
         ⟨none, (some 15), .mov (.t 2), []⟩,
         ⟨none, (some 16), .mov (.t 8), []⟩,
         ⟨none, (some 17), .mov (.t 7), []⟩,
         ⟨none, (some 18), .adrI 4 none 12 1 (.t 17), []⟩,
         ⟨none, (some 19), .ldV 4 (some 18) 1 false, []⟩,
         ⟨none, (some 20), .callv (.t 15) [.t 16, .t 19], []⟩,
         ⟨none, (some 21), .adrI 3 none 12 1 (.t 14), []⟩,
         ⟨none, (some 3), .stV 3 (some 21) 1 (.t 20), []⟩])))
     (.reg [10] [
       ⟨none, (some 22), .bin .add (.t 10) (.c (.int .i64 1)), []⟩,
       ⟨none, (some 10), .mov (.t 22), []⟩]))))
def k443 : Cd :=
  (.seq
   (.reg [3, 4, 6] [
     ⟨none, (some 3), .mov (.t 0), []⟩,
     ⟨none, (some 4), .mov (.t 1), []⟩,
     ⟨none, (some 6), .zero true (zs 12 (.int .u16 0)), []⟩])
   (.seq
    (.seq
     (.reg [9, 10] [
       ⟨none, (some 9), .ldV 3 none 12 true, []⟩,
       ⟨none, (some 10), .mov (.c (.int .i64 0)), []⟩])
     (.block 0
      (.loop b443_1)))
    (.seq
     (.reg [6] [
       ⟨none, (some 23), .ldV 3 none 12 true, []⟩,
       ⟨none, (some 6), .stV 6 none 12 (.t 23), []⟩])
     .ret)))
def c443 : Fn := { np := 3, nt := 24, kind := .pure, res := [.v 6 12 true], body := k443 }

/- slices.ContainsFunc[[]uint16,uint16] -/
def k445 : Cd :=
  (.seq
   (.reg [4] [
     ⟨none, (some 4), .mov (.c (.bool false)), []⟩])
   (.seq
    (.reg [4] [
      ⟨none, (some 5), .mov (.t 0), []⟩,
      ⟨none, (some 6), .mov (.t 1), []⟩,
      ⟨none, (some 7), .call true 547 [.t 5, .t 6], []⟩,
      ⟨none, (some 8), .bin .geq (.t 7) (.c (.int .i64 0)), []⟩,
      ⟨none, (some 4), .mov (.t 8), []⟩])
    .ret))
def c445 : Fn := { np := 2, nt := 9, kind := .pure, res := [.t 4], body := k445 }

/- impl.ValidFrame$1 -/
def k446 : Cd :=
  (.seq
   (.reg [2] [
     ⟨none, (some 2), .mov (.c (.bool false)), []⟩])
   (.seq
    (.reg [2] [
      ⟨none, (some 3), .mov (.t 0), []⟩,
      ⟨none, (some 4), .bin .gtr (.t 3) (.c (.int .u16 4095)), []⟩,
      ⟨none, (some 2), .mov (.t 4), []⟩])
    .ret))
def c446 : Fn := { np := 1, nt := 5, kind := .pure, res := [.t 2], body := k446 }

/- slices.IndexFunc[[]impl.Frame,impl.Frame] -/
def b474_1 : Cd :=
  (.seq
   (.reg [9] [
     ⟨none, (some 9), .bin .lss (.t 8) (.t 7), []⟩])
   (.seq
    (.cond (.t 9)
     .skip
     (.exit 0))
    (.seq
     (.block 1
      (.seq
       (.reg [5] [
         ⟨none, (some 10), .mov (.t 8), []⟩,
         ⟨none, (some 5), .mov (.t 10), []⟩])
       (.seq
        (.reg [16] [
          ⟨none, (some 11), .mov (.t 1), []⟩,
          ⟨none, (some 12), .mov (.t 0), []⟩,
          ⟨none, (some 13), .mov (.t 5), []⟩,
          ⟨none, (some 14), .idxA 12 (.t 12) (.t 13), []⟩,
          ⟨none, (some 15), .ld 12 true (.t 14), []⟩,
          ⟨none, (some 16), .callv (.t 11) [.t 15], []⟩])
        (.cond (.t 16)
         (.seq
          (.reg [4] [
            ⟨none, (some 17), .mov (.t 5), []⟩,
            ⟨none, (some 4), .mov (.t 17), []⟩])
          .ret)
         .skip))))
     (.reg [8] [
       ⟨none, (some 18), .bin .add (.t 8) (.c (.int .i64 1)), []⟩,
       ⟨none, (some 8), .mov (.t 18), []⟩]))))
def k474 : Cd :=
  (.seq
   (.reg [4] [
     ⟨none, (some 4), .mov (.c (.int .i64 0)), []⟩])
   (.seq
    (.seq
     (.reg [7, 8] [
       ⟨none, (some 6), .mov (.t 0), []⟩,
       ⟨none, (some 7), .len (.t 6), []⟩,
       ⟨none, (some 8), .mov (.c (.int .i64 0)), []⟩])
     (.block 0
      (.loop b474_1)))
    (.seq
     (.reg [4] [
       ⟨none, (some 4), .mov (.c (.int .i64 (-1))), []⟩])
     .ret)))
def c474 : Fn := { np := 2, nt := 19, kind := .pure, res := [.t 4], body := k474 }

/- slices.ContainsFunc[[]impl.Frame,impl.Frame] -/
def k505 : Cd :=
  (.seq
   (.reg [4] [
     ⟨none, (some 4), .mov (.c (.bool false)), []⟩])
   (.seq
    (.reg [4] [
      ⟨none, (some 5), .mov (.t 0), []⟩,
      ⟨none, (some 6), .mov (.t 1), []⟩,
      ⟨none, (some 7), .call true 474 [.t 5, .t 6], []⟩,
      ⟨none, (some 8), .bin .geq (.t 7) (.c (.int .i64 0)), []⟩,
      ⟨none, (some 4), .mov (.t 8), []⟩])
    .ret))
def c505 : Fn := { np := 2, nt := 9, kind := .pure, res := [.t 4], body := k505 }

/- impl.areFrames$1 -/
def k506 : Cd :=
  (.seq
   (.reg [1, 2] [
     ⟨none, (some 1), .mov (.t 0), []⟩,
     ⟨none, (some 2), .mov (.c (.bool false)), []⟩])
   (.seq
    (.reg [2] [
      ⟨none, (some 3), .ldV 1 none 12 true, []⟩,
      ⟨none, (some 4), .call true 234 [.t 3], []⟩,
      ⟨none, (some 5), .un .not (.t 4), []⟩,
      ⟨none, (some 2), .mov (.t 5), []⟩])
    .ret))
def c506 : Fn := { np := 1, nt := 6, kind := .pure, res := [.t 2], body := k506 }

/- (impl.Frame).differ$1 -/
def k512 : Cd :=
  (.seq
   (.reg [4] [
     ⟨none, (some 4), .mov (.c (.int .u16 0)), []⟩])
   (.seq
    (.reg [4] [
      ⟨none, (some 5), .mov (.t 0), []⟩,
      ⟨none, (some 6), .mov (.t 1), []⟩,
      ⟨none, (some 7), .bin .xor (.t 5) (.t 6), []⟩,
      ⟨none, (some 4), .mov (.t 7), []⟩])
    .ret))
def c512 : Fn := { np := 2, nt := 8, kind := .pure, res := [.t 4], body := k512 }

/- slices.IndexFunc[[]uint16,uint16] -/
def b547_1 : Cd :=
  (.seq
   (.reg [9] [
     ⟨none, (some 9), .bin .lss (.t 8) (.t 7), []⟩])
   (.seq
    (.cond (.t 9)
     .skip
     (.exit 0))
    (.seq
     (.block 1
      (.seq
       (.reg [5] [
         ⟨none, (some 10), .mov (.t 8), []⟩,
         ⟨none, (some 5), .mov (.t 10), []⟩])
       (.seq
        (.reg [16] [
          ⟨none, (some 11), .mov (.t 1), []⟩,
          ⟨none, (some 12), .mov (.t 0), []⟩,
          ⟨none, (some 13), .mov (.t 5), []⟩,
          ⟨none, (some 14), .idxA 1 (.t 12) (.t 13), []⟩,
          ⟨none, (some 15), .ld 1 false (.t 14), []⟩,
          ⟨none, (some 16), .callv (.t 11) [.t 15], []⟩])
        (.cond (.t 16)
         (.seq
          (.reg [4] [
            ⟨none, (some 17), .mov (.t 5), []⟩,
            ⟨none, (some 4), .mov (.t 17), []⟩])
          .ret)
         .skip))))
     (.reg [8] [
       ⟨none, (some 18), .bin .add (.t 8) (.c (.int .i64 1)), []⟩,
       ⟨none, (some 8), .mov (.t 18), []⟩]))))
def k547 : Cd :=
  (.seq
   (.reg [4] [
     ⟨none, (some 4), .mov (.c (.int .i64 0)), []⟩])
   (.seq
    (.seq
     (.reg [7, 8] [
       ⟨none, (some 6), .mov (.t 0), []⟩,
       ⟨none, (some 7), .len (.t 6), []⟩,
       ⟨none, (some 8), .mov (.c (.int .i64 0)), []⟩])
     (.block 0
      (.loop b547_1)))
    (.seq
     (.reg [4] [
       ⟨none, (some 4), .mov (.c (.int .i64 (-1))), []⟩])
     .ret)))
def c547 : Fn := { np := 2, nt := 19, kind := .pure, res := [.t 4], body := k547 }


end Fb
