/- The functions of the law, in the small language. -/
import Derived.Test.YtholaggmhhjjkabDen
set_option linter.unusedVariables false
set_option linter.unusedSimpArgs false
namespace Fb
open Go

/- laws.FnExactMovedCopies -/
def k50 : Cd :=
  (.seq
   (.reg [6] [
     ⟨none, (some 6), .mov (.c (.bool false)), []⟩])
   (.seq
    (.reg [7] [
      ⟨none, (some 7), .mov (.c (.int .i64 1000000)), []⟩])
    (.seq
     (.reg [7] [
       ⟨none, (some 22), .mov (.t 0), []⟩,
       ⟨none, (some 23), .mov (.t 7), []⟩,
       ⟨none, (some 24), .call true 103 [.t 22, .t 23], []⟩,
       ⟨none, (some 7), .mov (.t 24), []⟩])
     (.seq
      (.seq
       (.reg [26] [
         ⟨none, (some 25), .mov (.t 7), []⟩,
         ⟨none, (some 26), .bin .lss (.t 25) (.c (.int .i64 0)), []⟩])
       (.cond (.t 26)
        (.seq
         (.reg [6] [
           ⟨none, (some 6), .mov (.c (.bool true)), []⟩])
         .ret)
        .skip))
      (.seq
       (.reg [7] [
         ⟨none, (some 27), .mov (.t 1), []⟩,
         ⟨none, (some 28), .mov (.t 7), []⟩,
         ⟨none, (some 29), .call true 103 [.t 27, .t 28], []⟩,
         ⟨none, (some 7), .mov (.t 29), []⟩])
       (.seq
        (.seq
         (.reg [31] [
           ⟨none, (some 30), .mov (.t 7), []⟩,
           ⟨none, (some 31), .bin .lss (.t 30) (.c (.int .i64 0)), []⟩])
         (.cond (.t 31)
          (.seq
           (.reg [6] [
             ⟨none, (some 6), .mov (.c (.bool true)), []⟩])
           .ret)
          .skip))
        (.seq
         (.reg [8, 9, 10] [
           ⟨none, (some 33), .mov (.t 0), []⟩,
           ⟨none, (some 34), .call true 105 [.t 33, .c (.bool false)], []⟩,
           ⟨none, (some 35), .mov (.t 1), []⟩,
           ⟨none, (some 36), .call true 105 [.t 35, .c (.bool false)], []⟩,
           ⟨none, (some 37), .mov (.t 2), []⟩,
           ⟨none, (some 38), .call true 129 [.t 34, .t 36, .t 37], []⟩,
           ⟨none, (some 32), .mov (.t 38), []⟩,
           ⟨none, (some 39), .ext (.t 32) 0, []⟩,
           ⟨none, (some 40), .ext (.t 32) 1, []⟩,
           ⟨none, (some 41), .ext (.t 32) 2, []⟩,
           ⟨none, (some 8), .mov (.t 39), []⟩,
           ⟨none, (some 9), .mov (.t 40), []⟩,
           ⟨none, (some 10), .mov (.t 41), []⟩])
         (.seq
          (.reg [11] [
            ⟨none, (some 42), .mov (.t 0), []⟩,
            ⟨none, (some 43), .call true 105 [.t 42, .c (.bool false)], []⟩,
            ⟨none, (some 11), .mov (.t 43), []⟩])
          (.seq
           (.reg [12] [
             ⟨none, (some 44), .mov (.t 1), []⟩,
             ⟨none, (some 45), .call true 105 [.t 44, .c (.bool false)], []⟩,
             ⟨none, (some 12), .mov (.t 45), []⟩])
           (.seq
            (.reg [13, 14, 15] [
              ⟨none, (some 47), .mov (.t 11), []⟩,
              ⟨none, (some 48), .mov (.t 12), []⟩,
              ⟨none, (some 49), .mov (.t 2), []⟩,
              ⟨none, (some 50), .call true 128 [.t 47, .t 48, .t 49], []⟩,
              ⟨none, (some 46), .mov (.t 50), []⟩,
              ⟨none, (some 51), .ext (.t 46) 0, []⟩,
              ⟨none, (some 52), .ext (.t 46) 1, []⟩,
              ⟨none, (some 53), .ext (.t 46) 2, []⟩,
              ⟨none, (some 13), .mov (.t 51), []⟩,
              ⟨none, (some 14), .mov (.t 52), []⟩,
              ⟨none, (some 15), .mov (.t 53), []⟩])
            (.seq
             (.seq
              (.reg [68] [
                ⟨none, (some 54), .mov (.t 13), []⟩,
                ⟨none, (some 55), .mov (.t 8), []⟩,
                ⟨none, (some 56), .call true 180 [.t 54, .t 55], []⟩,
                ⟨none, (some 57), .un .not (.t 56), []⟩,
                ⟨none, (some 58), .mov (.t 57), []⟩,
                ⟨(some (58, false)), (some 59), .mov (.t 14), []⟩,
                ⟨(some (58, false)), (some 60), .mov (.t 9), []⟩,
                ⟨(some (58, false)), (some 61), .call true 266 [.t 59, .t 60], []⟩,
                ⟨(some (58, false)), (some 62), .un .not (.t 61), []⟩,
                ⟨none, (some 63), .pick (.t 58) (.c (.bool true)) (.t 62), []⟩,
                ⟨none, (some 64), .mov (.t 63), []⟩,
                ⟨(some (64, false)), (some 65), .mov (.t 15), []⟩,
                ⟨(some (64, false)), (some 66), .mov (.t 10), []⟩,
                ⟨(some (64, false)), (some 67), .bin .neq (.t 65) (.t 66), []⟩,
                ⟨none, (some 68), .pick (.t 64) (.c (.bool true)) (.t 67), []⟩])
              (.cond (.t 68)
               (.seq
                (.reg [6] [
                  ⟨none, (some 6), .mov (.c (.bool false)), []⟩])
                .ret)
               .skip))
             (.seq
              (.seq
               (.reg [73] [
                 ⟨none, (some 69), .mov (.t 11), []⟩,
                 ⟨none, (some 70), .mov (.t 0), []⟩,
                 ⟨none, (some 71), .call true 105 [.t 70, .c (.bool false)], []⟩,
                 ⟨none, (some 72), .call true 107 [.t 69, .t 71], []⟩,
                 ⟨none, (some 73), .un .not (.t 72), []⟩])
               (.cond (.t 73)
                (.seq
                 (.reg [6] [
                   ⟨none, (some 6), .mov (.c (.bool false)), []⟩])
                 .ret)
                .skip))
              (.seq
               (.seq
                (.reg [78] [
                  ⟨none, (some 74), .mov (.t 12), []⟩,
                  ⟨none, (some 75), .mov (.t 1), []⟩,
                  ⟨none, (some 76), .call true 105 [.t 75, .c (.bool false)], []⟩,
                  ⟨none, (some 77), .call true 107 [.t 74, .t 76], []⟩,
                  ⟨none, (some 78), .un .not (.t 77), []⟩])
                (.cond (.t 78)
                 (.seq
                  (.reg [6] [
                    ⟨none, (some 6), .mov (.c (.bool false)), []⟩])
                  .ret)
                 .skip))
               (.seq
                (.reg [16] [
                  ⟨none, (some 16), .mov (.c (.int .i64 101)), []⟩])
                (.seq
                 (.reg [16] [
                   ⟨none, (some 79), .mov (.t 11), []⟩,
                   ⟨none, (some 80), .mov (.t 16), []⟩,
                   ⟨none, (some 81), .call false 122 [.t 79, .t 80], []⟩,
                   ⟨none, (some 16), .mov (.t 81), []⟩])
                 (.seq
                  (.reg [16] [
                    ⟨none, (some 82), .mov (.t 12), []⟩,
                    ⟨none, (some 83), .mov (.t 16), []⟩,
                    ⟨none, (some 84), .call false 122 [.t 82, .t 83], []⟩,
                    ⟨none, (some 16), .mov (.t 84), []⟩])
                  (.seq
                   (.seq
                    (.reg [103] [
                      ⟨none, (some 85), .mov (.t 16), []⟩,
                      ⟨none, (some 86), .bin .lss (.t 85) (.c (.int .i64 0)), []⟩,
                      ⟨none, (some 87), .mov (.t 86), []⟩,
                      ⟨(some (87, false)), (some 88), .mov (.t 13), []⟩,
                      ⟨(some (87, false)), (some 89), .mov (.t 8), []⟩,
                      ⟨(some (87, false)), (some 90), .call true 180 [.t 88, .t 89], []⟩,
                      ⟨(some (87, false)), (some 91), .un .not (.t 90), []⟩,
                      ⟨none, (some 92), .pick (.t 87) (.c (.bool true)) (.t 91), []⟩,
                      ⟨none, (some 93), .mov (.t 92), []⟩,
                      ⟨(some (93, false)), (some 94), .mov (.t 14), []⟩,
                      ⟨(some (93, false)), (some 95), .mov (.t 9), []⟩,
                      ⟨(some (93, false)), (some 96), .call true 266 [.t 94, .t 95], []⟩,
                      ⟨(some (93, false)), (some 97), .un .not (.t 96), []⟩,
                      ⟨none, (some 98), .pick (.t 93) (.c (.bool true)) (.t 97), []⟩,
                      ⟨none, (some 99), .mov (.t 98), []⟩,
                      ⟨(some (99, false)), (some 100), .mov (.t 15), []⟩,
                      ⟨(some (99, false)), (some 101), .mov (.t 10), []⟩,
                      ⟨(some (99, false)), (some 102), .bin .neq (.t 100) (.t 101), []⟩,
                      ⟨none, (some 103), .pick (.t 99) (.c (.bool true)) (.t 102), []⟩])
                    (.cond (.t 103)
                     (.seq
                      (.reg [6] [
                        ⟨none, (some 6), .mov (.c (.bool false)), []⟩])
                      .ret)
                     .skip))
                   (.seq
                    (.reg [17] [
                      ⟨none, (some 17), .mov (.c (.int .i64 101)), []⟩])
                    (.seq
                     (.reg [17] [
                       ⟨none, (some 104), .mov (.t 13), []⟩,
                       ⟨none, (some 105), .mov (.t 17), []⟩,
                       ⟨none, (some 106), .call false 182 [.t 104, .t 105], []⟩,
                       ⟨none, (some 17), .mov (.t 106), []⟩])
                     (.seq
                      (.reg [17] [
                        ⟨none, (some 107), .mov (.t 14), []⟩,
                        ⟨none, (some 108), .mov (.t 17), []⟩,
                        ⟨none, (some 109), .call false 267 [.t 107, .t 108], []⟩,
                        ⟨none, (some 17), .mov (.t 109), []⟩])
                      (.seq
                       (.reg [18] [
                         ⟨none, (some 18), .mov (.c (.int .i64 101)), []⟩])
                       (.seq
                        (.reg [18] [
                          ⟨none, (some 110), .mov (.t 13), []⟩,
                          ⟨none, (some 111), .mov (.t 18), []⟩,
                          ⟨none, (some 112), .call true 183 [.t 110, .t 111], []⟩,
                          ⟨none, (some 18), .mov (.t 112), []⟩])
                        (.seq
                         (.seq
                          (.reg [114] [
                            ⟨none, (some 113), .mov (.t 18), []⟩,
                            ⟨none, (some 114), .bin .lss (.t 113) (.c (.int .i64 0)), []⟩])
                          (.cond (.t 114)
                           (.seq
                            (.reg [6] [
                              ⟨none, (some 6), .mov (.c (.bool false)), []⟩])
                            .ret)
                           .skip))
                         (.seq
                          (.reg [18] [
                            ⟨none, (some 115), .mov (.t 14), []⟩,
                            ⟨none, (some 116), .mov (.t 18), []⟩,
                            ⟨none, (some 117), .call true 268 [.t 115, .t 116], []⟩,
                            ⟨none, (some 18), .mov (.t 117), []⟩])
                          (.seq
                           (.seq
                            (.reg [119] [
                              ⟨none, (some 118), .mov (.t 18), []⟩,
                              ⟨none, (some 119), .bin .lss (.t 118) (.c (.int .i64 0)), []⟩])
                            (.cond (.t 119)
                             (.seq
                              (.reg [6] [
                                ⟨none, (some 6), .mov (.c (.bool false)), []⟩])
                              .ret)
                             .skip))
                           (.seq
                            (.seq
                             (.reg [122] [
                               ⟨none, (some 120), .mov (.t 18), []⟩,
                               ⟨none, (some 121), .mov (.t 17), []⟩,
                               ⟨none, (some 122), .bin .neq (.t 120) (.t 121), []⟩])
                             (.cond (.t 122)
                              (.seq
                               (.reg [6] [
                                 ⟨none, (some 6), .mov (.c (.bool false)), []⟩])
                               .ret)
                              .skip))
                            (.seq
                             (.reg [19, 20, 21] [
                               ⟨none, (some 124), .mov (.t 0), []⟩,
                               ⟨none, (some 125), .call true 105 [.t 124, .c (.bool true)], []⟩,
                               ⟨none, (some 126), .mov (.t 1), []⟩,
                               ⟨none, (some 127), .call true 105 [.t 126, .c (.bool true)], []⟩,
                               ⟨none, (some 128), .mov (.t 2), []⟩,
                               ⟨none, (some 129), .call true 128 [.t 125, .t 127, .t 128], []⟩,
                               ⟨none, (some 123), .mov (.t 129), []⟩,
                               ⟨none, (some 130), .ext (.t 123) 0, []⟩,
                               ⟨none, (some 131), .ext (.t 123) 1, []⟩,
                               ⟨none, (some 132), .ext (.t 123) 2, []⟩,
                               ⟨none, (some 19), .mov (.t 130), []⟩,
                               ⟨none, (some 20), .mov (.t 131), []⟩,
                               ⟨none, (some 21), .mov (.t 132), []⟩])
                             (.seq
                              (.seq
                               (.reg [147] [
                                 ⟨none, (some 133), .mov (.t 19), []⟩,
                                 ⟨none, (some 134), .mov (.t 8), []⟩,
                                 ⟨none, (some 135), .call true 180 [.t 133, .t 134], []⟩,
                                 ⟨none, (some 136), .un .not (.t 135), []⟩,
                                 ⟨none, (some 137), .mov (.t 136), []⟩,
                                 ⟨(some (137, false)), (some 138), .mov (.t 20), []⟩,
                                 ⟨(some (137, false)), (some 139), .mov (.t 9), []⟩,
                                 ⟨(some (137, false)), (some 140), .call true 266 [.t 138, .t 139], []⟩,
                                 ⟨(some (137, false)), (some 141), .un .not (.t 140), []⟩,
                                 ⟨none, (some 142), .pick (.t 137) (.c (.bool true)) (.t 141), []⟩,
                                 ⟨none, (some 143), .mov (.t 142), []⟩,
                                 ⟨(some (143, false)), (some 144), .mov (.t 21), []⟩,
                                 ⟨(some (143, false)), (some 145), .mov (.t 10), []⟩,
                                 ⟨(some (143, false)), (some 146), .bin .neq (.t 144) (.t 145), []⟩,
                                 ⟨none, (some 147), .pick (.t 143) (.c (.bool true)) (.t 146), []⟩])
                               (.cond (.t 147)
                                (.seq
                                 (.reg [6] [
                                   ⟨none, (some 6), .mov (.c (.bool false)), []⟩])
                                 .ret)
                                .skip))
                              (.seq
                               (.reg [18] [
                                 ⟨none, (some 18), .mov (.c (.int .i64 101)), []⟩])
                               (.seq
                                (.reg [18] [
                                  ⟨none, (some 148), .mov (.t 13), []⟩,
                                  ⟨none, (some 149), .mov (.t 18), []⟩,
                                  ⟨none, (some 150), .call true 183 [.t 148, .t 149], []⟩,
                                  ⟨none, (some 18), .mov (.t 150), []⟩])
                                (.seq
                                 (.seq
                                  (.reg [152] [
                                    ⟨none, (some 151), .mov (.t 18), []⟩,
                                    ⟨none, (some 152), .bin .lss (.t 151) (.c (.int .i64 0)), []⟩])
                                  (.cond (.t 152)
                                   (.seq
                                    (.reg [6] [
                                      ⟨none, (some 6), .mov (.c (.bool false)), []⟩])
                                    .ret)
                                   .skip))
                                 (.seq
                                  (.reg [18] [
                                    ⟨none, (some 153), .mov (.t 14), []⟩,
                                    ⟨none, (some 154), .mov (.t 18), []⟩,
                                    ⟨none, (some 155), .call true 268 [.t 153, .t 154], []⟩,
                                    ⟨none, (some 18), .mov (.t 155), []⟩])
                                  (.seq
                                   (.seq
                                    (.reg [157] [
                                      ⟨none, (some 156), .mov (.t 18), []⟩,
                                      ⟨none, (some 157), .bin .lss (.t 156) (.c (.int .i64 0)), []⟩])
                                    (.cond (.t 157)
                                     (.seq
                                      (.reg [6] [
                                        ⟨none, (some 6), .mov (.c (.bool false)), []⟩])
                                      .ret)
                                     .skip))
                                   (.seq
                                    (.seq
                                     (.reg [160] [
                                       ⟨none, (some 158), .mov (.t 18), []⟩,
                                       ⟨none, (some 159), .mov (.t 17), []⟩,
                                       ⟨none, (some 160), .bin .neq (.t 158) (.t 159), []⟩])
                                     (.cond (.t 160)
                                      (.seq
                                       (.reg [6] [
                                         ⟨none, (some 6), .mov (.c (.bool false)), []⟩])
                                       .ret)
                                      .skip))
                                    (.seq
                                     (.reg [6] [
                                       ⟨none, (some 6), .mov (.c (.bool true)), []⟩])
                                     .ret)))))))))))))))))))))))))))))))))))
def c50 : Fn := { np := 3, nt := 161, kind := .pure, res := [.t 6], body := k50 }

/- laws.eqFrame -/
def b78_1 : Cd :=
  (.seq
   (.seq
    (.reg [7] [
      ⟨none, (some 6), .mov (.t 5), []⟩,
      ⟨none, (some 7), .bin .lss (.t 6) (.c (.int .i64 12)), []⟩])
    (.cond (.t 7)
     .skip
     (.exit 0)))
   (.seq
    (.block 1
     (.seq
      (.reg [16] [
        ⟨none, (some 10), .mov (.t 5), []⟩,
        ⟨none, (some 11), .adrI 2 none 12 1 (.t 10), []⟩,
        ⟨none, (some 12), .ldV 2 (some 11) 1 false, []⟩,
        ⟨none, (some 13), .mov (.t 5), []⟩,
        ⟨none, (some 14), .adrI 3 none 12 1 (.t 13), []⟩,
        ⟨none, (some 15), .ldV 3 (some 14) 1 false, []⟩,
        ⟨none, (some 16), .bin .neq (.t 12) (.t 15), []⟩])
      (.cond (.t 16)
       (.seq
        (.reg [4] [
          ⟨none, (some 4), .mov (.c (.bool false)), []⟩])
        .ret)
       .skip)))
    (.reg [5] [
      ⟨none, (some 8), .mov (.t 5), []⟩,
      ⟨none, (some 9), .bin .add (.t 8) (.c (.int .i64 1)), []⟩,
      ⟨none, (some 5), .mov (.t 9), []⟩])))
def k78 : Cd :=
  (.seq
   (.reg [2, 3, 4] [
     ⟨none, (some 2), .mov (.t 0), []⟩,
     ⟨none, (some 3), .mov (.t 1), []⟩,
     ⟨none, (some 4), .mov (.c (.bool false)), []⟩])
   (.seq
    (.seq
     (.reg [5] [
       ⟨none, (some 5), .mov (.c (.int .i64 0)), []⟩])
     (.block 0
      (.loop b78_1)))
    (.seq
     (.reg [4] [
       ⟨none, (some 4), .mov (.c (.bool true)), []⟩])
     .ret)))
def c78 : Fn := { np := 2, nt := 17, kind := .pure, res := [.t 4], body := k78 }

/- laws.szBook -/
def k103 : Cd :=
  (.seq
   (.reg [4] [
     ⟨none, (some 4), .mov (.c (.int .i64 0)), []⟩])
   (.seq
    (.reg [1] [
      ⟨none, (some 5), .mov (.t 1), []⟩,
      ⟨none, (some 6), .mov (.t 0), []⟩,
      ⟨none, (some 7), .len (.t 6), []⟩,
      ⟨none, (some 8), .bin .sub (.t 5) (.t 7), []⟩,
      ⟨none, (some 1), .mov (.t 8), []⟩])
    (.seq
     (.seq
      (.reg [10] [
        ⟨none, (some 9), .mov (.t 1), []⟩,
        ⟨none, (some 10), .bin .lss (.t 9) (.c (.int .i64 0)), []⟩])
      (.cond (.t 10)
       (.seq
        (.reg [4] [
          ⟨none, (some 4), .mov (.c (.int .i64 (-1))), []⟩])
        .ret)
       .skip))
     (.seq
      (.reg [4] [
        ⟨none, (some 11), .mov (.t 1), []⟩,
        ⟨none, (some 4), .mov (.t 11), []⟩])
      .ret))))
def c103 : Fn := { np := 2, nt := 12, kind := .pure, res := [.t 4], body := k103 }

/- laws.toBook -/
def b105_1 : Cd :=
  (.seq
   (.seq
    (.reg [24] [
      ⟨none, (some 21), .mov (.t 6), []⟩,
      ⟨none, (some 22), .mov (.t 0), []⟩,
      ⟨none, (some 23), .len (.t 22), []⟩,
      ⟨none, (some 24), .bin .lss (.t 21) (.t 23), []⟩])
    (.cond (.t 24)
     .skip
     (.exit 0)))
   (.seq
    (.block 1
     (.reg [] [
       ⟨none, (some 27), .mov (.t 5), []⟩,
       ⟨none, (some 28), .mov (.t 6), []⟩,
       ⟨none, (some 29), .mov (.t 0), []⟩,
       ⟨none, (some 30), .mov (.t 6), []⟩,
       ⟨none, (some 31), .idxA 12 (.t 29) (.t 30), []⟩,
       ⟨none, (some 32), .ld 12 true (.t 31), []⟩,
       ⟨none, (some 33), .call true 134 [.t 32], []⟩,
       ⟨none, (some 34), .idxA 12 (.t 27) (.t 28), []⟩,
       ⟨none, none, .st 12 (.t 34) (.t 33), []⟩]))
    (.reg [6] [
      ⟨none, (some 25), .mov (.t 6), []⟩,
      ⟨none, (some 26), .bin .add (.t 25) (.c (.int .i64 1)), []⟩,
      ⟨none, (some 6), .mov (.t 26), []⟩])))
def b105_2 : Cd :=
  (.seq
   (.seq
    (.reg [40] [
      ⟨none, (some 37), .mov (.t 7), []⟩,
      ⟨none, (some 38), .mov (.t 5), []⟩,
      ⟨none, (some 39), .len (.t 38), []⟩,
      ⟨none, (some 40), .bin .lss (.t 37) (.t 39), []⟩])
    (.cond (.t 40)
     .skip
     (.exit 2)))
   (.seq
    (.block 3
     (.reg [] [
       ⟨none, (some 43), .mov (.t 5), []⟩,
       ⟨none, (some 44), .mov (.t 7), []⟩,
       ⟨none, (some 45), .agg (zs 12 (.int .u16 0)) [(0, 1, (.c (.int .u16 60201)))], []⟩,
       ⟨none, (some 46), .idxA 12 (.t 43) (.t 44), []⟩,
       ⟨none, none, .st 12 (.t 46) (.t 45), []⟩]))
    (.reg [7] [
      ⟨none, (some 41), .mov (.t 7), []⟩,
      ⟨none, (some 42), .bin .add (.t 41) (.c (.int .i64 1)), []⟩,
      ⟨none, (some 7), .mov (.t 42), []⟩])))
def k105 : Cd :=
  (.seq
   (.reg [4] [
     ⟨none, (some 4), .mov (.c (.slice none 0 0)), []⟩])
   (.seq
    (.seq
     (.reg [13] [
       ⟨none, (some 8), .mov (.t 1), []⟩,
       ⟨none, (some 9), .mov (.t 8), []⟩,
       ⟨(some (9, true)), (some 10), .mov (.t 0), []⟩,
       ⟨(some (9, true)), (some 11), .len (.t 10), []⟩,
       ⟨(some (9, true)), (some 12), .bin .eql (.t 11) (.c (.int .i64 0)), []⟩,
       ⟨none, (some 13), .pick (.t 9) (.t 12) (.c (.bool false)), []⟩])
     (.cond (.t 13)
      (.seq
       (.reg [4] [
         ⟨none, (some 4), .mov (.c (.slice none 0 0)), []⟩])
       .ret)
      .skip))
    (.seq
     (.reg [5] [
       ⟨none, (some 14), .mov (.t 0), []⟩,
       ⟨none, (some 15), .len (.t 14), []⟩,
       ⟨none, (some 16), .mov (.t 0), []⟩,
       ⟨none, (some 17), .len (.t 16), []⟩,
       ⟨none, (some 18), .call true 296 [.t 17], []⟩,
       ⟨none, (some 19), .bin .add (.t 15) (.t 18), []⟩,
       ⟨none, (some 20), .mkS 12 24 (zs 12 (.int .u16 0)) (.t 19) (.t 19), []⟩,
       ⟨none, (some 5), .mov (.t 20), []⟩])
     (.seq
      (.seq
       (.reg [6] [
         ⟨none, (some 6), .mov (.c (.int .i64 0)), []⟩])
       (.block 0
        (.loop b105_1)))
      (.seq
       (.seq
        (.reg [7] [
          ⟨none, (some 35), .mov (.t 0), []⟩,
          ⟨none, (some 36), .len (.t 35), []⟩,
          ⟨none, (some 7), .mov (.t 36), []⟩])
        (.block 2
         (.loop b105_2)))
       (.seq
        (.reg [4] [
          ⟨none, (some 47), .mov (.t 5), []⟩,
          ⟨none, (some 48), .mov (.t 0), []⟩,
          ⟨none, (some 49), .len (.t 48), []⟩,
          ⟨none, (some 50), .slcA 12 (.t 47) none (some (.t 49)) none, []⟩,
          ⟨none, (some 4), .mov (.t 50), []⟩])
        .ret))))))
def c105 : Fn := { np := 2, nt := 51, kind := .pure, res := [.t 4], body := k105 }

/- laws.intactBook -/
def k107 : Cd :=
  (.seq
   (.reg [4] [
     ⟨none, (some 4), .mov (.c (.bool false)), []⟩])
   (.seq
    (.reg [5] [
      ⟨none, (some 6), .mov (.t 1), []⟩,
      ⟨none, (some 7), .len (.t 6), []⟩,
      ⟨none, (some 8), .mov (.t 1), []⟩,
      ⟨none, (some 9), .len (.t 8), []⟩,
      ⟨none, (some 10), .call true 296 [.t 9], []⟩,
      ⟨none, (some 11), .bin .add (.t 7) (.t 10), []⟩,
      ⟨none, (some 5), .mov (.t 11), []⟩])
    (.seq
     (.reg [4] [
       ⟨none, (some 12), .mov (.t 0), []⟩,
       ⟨none, (some 13), .len (.t 12), []⟩,
       ⟨none, (some 14), .mov (.t 1), []⟩,
       ⟨none, (some 15), .len (.t 14), []⟩,
       ⟨none, (some 16), .bin .eql (.t 13) (.t 15), []⟩,
       ⟨none, (some 17), .mov (.t 16), []⟩,
       ⟨(some (17, true)), (some 18), .mov (.t 0), []⟩,
       ⟨(some (17, true)), (some 19), .mov (.t 5), []⟩,
       ⟨(some (17, true)), (some 20), .slcA 12 (.t 18) none (some (.t 19)) none, []⟩,
       ⟨(some (17, true)), (some 21), .mov (.t 1), []⟩,
       ⟨(some (17, true)), (some 22), .mov (.t 5), []⟩,
       ⟨(some (17, true)), (some 23), .slcA 12 (.t 21) none (some (.t 22)) none, []⟩,
       ⟨(some (17, true)), (some 24), .call true 121 [.t 20, .t 23], []⟩,
       ⟨none, (some 25), .pick (.t 17) (.t 24) (.c (.bool false)), []⟩,
       ⟨none, (some 4), .mov (.t 25), []⟩])
     .ret)))
def c107 : Fn := { np := 2, nt := 26, kind := .pure, res := [.t 4], body := k107 }

/- laws.eqBook -/
def b121_1 : Cd :=
  (.seq
   (.seq
    (.reg [14] [
      ⟨none, (some 11), .mov (.t 5), []⟩,
      ⟨none, (some 12), .mov (.t 0), []⟩,
      ⟨none, (some 13), .len (.t 12), []⟩,
      ⟨none, (some 14), .bin .lss (.t 11) (.t 13), []⟩])
    (.cond (.t 14)
     .skip
     (.exit 0)))
   (.seq
    (.block 1
     (.seq
      (.reg [26] [
        ⟨none, (some 17), .mov (.t 0), []⟩,
        ⟨none, (some 18), .mov (.t 5), []⟩,
        ⟨none, (some 19), .idxA 12 (.t 17) (.t 18), []⟩,
        ⟨none, (some 20), .ld 12 true (.t 19), []⟩,
        ⟨none, (some 21), .mov (.t 1), []⟩,
        ⟨none, (some 22), .mov (.t 5), []⟩,
        ⟨none, (some 23), .idxA 12 (.t 21) (.t 22), []⟩,
        ⟨none, (some 24), .ld 12 true (.t 23), []⟩,
        ⟨none, (some 25), .call true 78 [.t 20, .t 24], []⟩,
        ⟨none, (some 26), .un .not (.t 25), []⟩])
      (.cond (.t 26)
       (.seq
        (.reg [4] [
          ⟨none, (some 4), .mov (.c (.bool false)), []⟩])
        .ret)
       .skip)))
    (.reg [5] [
      ⟨none, (some 15), .mov (.t 5), []⟩,
      ⟨none, (some 16), .bin .add (.t 15) (.c (.int .i64 1)), []⟩,
      ⟨none, (some 5), .mov (.t 16), []⟩])))
def k121 : Cd :=
  (.seq
   (.reg [4] [
     ⟨none, (some 4), .mov (.c (.bool false)), []⟩])
   (.seq
    (.seq
     (.reg [10] [
       ⟨none, (some 6), .mov (.t 0), []⟩,
       ⟨none, (some 7), .len (.t 6), []⟩,
       ⟨none, (some 8), .mov (.t 1), []⟩,
       ⟨none, (some 9), .len (.t 8), []⟩,
       ⟨none, (some 10), .bin .neq (.t 7) (.t 9), []⟩])
     (.cond (.t 10)
      (.seq
       (.reg [4] [
         ⟨none, (some 4), .mov (.c (.bool false)), []⟩])
       .ret)
      .skip))
    (.seq
     (.seq
      (.reg [5] [
        ⟨none, (some 5), .mov (.c (.int .i64 0)), []⟩])
      (.block 0
       (.loop b121_1)))
     (.seq
      (.reg [4] [
        ⟨none, (some 4), .mov (.c (.bool true)), []⟩])
      .ret))))
def c121 : Fn := { np := 2, nt := 27, kind := .pure, res := [.t 4], body := k121 }

/- laws.markBook -/
def b122_1 : Cd :=
  (.seq
   (.seq
    (.reg [14] [
      ⟨none, (some 13), .mov (.t 6), []⟩,
      ⟨none, (some 14), .bin .lss (.t 13) (.c (.int .i64 12)), []⟩])
    (.cond (.t 14)
     .skip
     (.exit 2)))
   (.seq
    (.block 3
     (.seq
      (.reg [] [
        ⟨none, (some 17), .mov (.t 0), []⟩,
        ⟨none, (some 18), .mov (.t 5), []⟩,
        ⟨none, (some 19), .mov (.t 6), []⟩,
        ⟨none, (some 20), .mov (.t 1), []⟩,
        ⟨none, (some 21), .conv .u16 (.t 20), []⟩,
        ⟨none, (some 22), .idxA 12 (.t 17) (.t 18), []⟩,
        ⟨none, (some 23), .idxP 12 1 (.t 22) (.t 19), []⟩,
        ⟨none, none, .st 1 (.t 23) (.t 21), []⟩])
      (.reg [1] [
        ⟨none, (some 24), .mov (.t 1), []⟩,
        ⟨none, (some 25), .bin .add (.t 24) (.c (.int .i64 1)), []⟩,
        ⟨none, (some 1), .mov (.t 25), []⟩])))
    (.reg [6] [
      ⟨none, (some 15), .mov (.t 6), []⟩,
      ⟨none, (some 16), .bin .add (.t 15) (.c (.int .i64 1)), []⟩,
      ⟨none, (some 6), .mov (.t 16), []⟩])))
def b122_2 : Cd :=
  (.seq
   (.seq
    (.reg [10] [
      ⟨none, (some 7), .mov (.t 5), []⟩,
      ⟨none, (some 8), .mov (.t 0), []⟩,
      ⟨none, (some 9), .len (.t 8), []⟩,
      ⟨none, (some 10), .bin .lss (.t 7) (.t 9), []⟩])
    (.cond (.t 10)
     .skip
     (.exit 0)))
   (.seq
    (.block 1
     (.seq
      (.reg [6] [
        ⟨none, (some 6), .mov (.c (.int .i64 0)), []⟩])
      (.block 2
       (.loop b122_1))))
    (.reg [5] [
      ⟨none, (some 11), .mov (.t 5), []⟩,
      ⟨none, (some 12), .bin .add (.t 11) (.c (.int .i64 1)), []⟩,
      ⟨none, (some 5), .mov (.t 12), []⟩])))
def k122 : Cd :=
  (.seq
   (.reg [4] [
     ⟨none, (some 4), .mov (.c (.int .i64 0)), []⟩])
   (.seq
    (.seq
     (.reg [5] [
       ⟨none, (some 5), .mov (.c (.int .i64 0)), []⟩])
     (.block 0
      (.loop b122_2)))
    (.seq
     (.reg [4] [
       ⟨none, (some 26), .mov (.t 1), []⟩,
       ⟨none, (some 4), .mov (.t 26), []⟩])
     .ret)))
def c122 : Fn := { np := 2, nt := 27, kind := .args, res := [.t 4], body := k122 }

/- impl.MovedCopies -/
def k128 : Cd :=
  (.seq
   (.reg [6, 7, 8] [
     ⟨none, (some 6), .mov (.c (.slice none 0 0)), []⟩,
     ⟨none, (some 7), .mov (.c (.slice none 0 0)), []⟩,
     ⟨none, (some 8), .mov (.c (.int .i64 0)), []⟩])
   (.seq
    (.reg [6, 7, 8] [
      ⟨none, (some 9), .mov (.t 0), []⟩,
      ⟨none, (some 10), .mov (.t 1), []⟩,
      ⟨none, (some 11), .mov (.t 2), []⟩,
      ⟨none, (some 12), .call true 352 [.t 9, .t 10, .t 11], []⟩,
      ⟨none, (some 13), .ext (.t 12) 0, []⟩,
      ⟨none, (some 14), .ext (.t 12) 1, []⟩,
      ⟨none, (some 15), .ext (.t 12) 2, []⟩,
      ⟨none, (some 6), .mov (.t 13), []⟩,
      ⟨none, (some 7), .mov (.t 14), []⟩,
      ⟨none, (some 8), .mov (.t 15), []⟩])
    .ret))
def c128 : Fn := { np := 3, nt := 16, kind := .pure, res := [.t 6, .t 7, .t 8], body := k128 }

/- spec.MovedCopies -/
def b129_1 : Cd :=
  (.seq
   (.seq
    (.reg [58] [
      ⟨none, (some 55), .mov (.t 15), []⟩,
      ⟨none, (some 56), .mov (.t 1), []⟩,
      ⟨none, (some 57), .len (.t 56), []⟩,
      ⟨none, (some 58), .bin .lss (.t 55) (.t 57), []⟩])
    (.cond (.t 58)
     .skip
     (.exit 4)))
   (.seq
    (.block 5
     (.reg [14] [
       ⟨none, (some 61), .mov (.t 14), []⟩,
       ⟨none, (some 62), .mov (.t 61), []⟩,
       ⟨(some (62, true)), (some 63), .mov (.t 1), []⟩,
       ⟨(some (62, true)), (some 64), .mov (.t 15), []⟩,
       ⟨(some (62, true)), (some 65), .idxA 12 (.t 63) (.t 64), []⟩,
       ⟨(some (62, true)), (some 66), .mov (.t 11), []⟩,
       ⟨(some (62, true)), (some 67), .mov (.t 13), []⟩,
       ⟨(some (62, true)), (some 68), .idxA 2 (.t 66) (.t 67), []⟩,
       ⟨(some (62, true)), (some 69), .fldP 0 (.t 68), []⟩,
       ⟨(some (62, true)), (some 70), .ld 1 false (.t 69), []⟩,
       ⟨(some (62, true)), (some 71), .conv .i64 (.t 70), []⟩,
       ⟨(some (62, true)), (some 72), .mov (.t 11), []⟩,
       ⟨(some (62, true)), (some 73), .mov (.t 13), []⟩,
       ⟨(some (62, true)), (some 74), .idxA 2 (.t 72) (.t 73), []⟩,
       ⟨(some (62, true)), (some 75), .fldP 1 (.t 74), []⟩,
       ⟨(some (62, true)), (some 76), .ld 1 false (.t 75), []⟩,
       ⟨(some (62, true)), (some 77), .conv .i64 (.t 76), []⟩,
       ⟨(some (62, true)), (some 79), .mov (.t 0), []⟩,
       ⟨(some (62, true)), (some 80), .mov (.t 12), []⟩,
       ⟨(some (62, true)), (some 81), .mov (.t 15), []⟩,
       ⟨(some (62, true)), (some 82), .bin .add (.t 80) (.t 81), []⟩,
       ⟨(some (62, true)), (some 83), .idxA 12 (.t 79) (.t 82), []⟩,
       ⟨(some (62, true)), (some 84), .ld 12 true (.t 83), []⟩,
       ⟨(some (62, true)), (some 78), .call true 355 [.t 65, .t 71, .t 77], []⟩,
       ⟨(some (62, true)), (some 85), .eq (.a (rb 12 (some .u16))) false (.t 78) (.t 84), []⟩,
       ⟨none, (some 86), .pick (.t 62) (.t 85) (.c (.bool false)), []⟩,
       ⟨none, (some 14), .mov (.t 86), []⟩]))
    (.reg [15] [
      ⟨none, (some 59), .mov (.t 15), []⟩,
      ⟨none, (some 60), .bin .add (.t 59) (.c (.int .i64 1)), []⟩,
      ⟨none, (some 15), .mov (.t 60), []⟩])))
def b129_2 : Cd :=
  (.seq
   (.seq
    (.reg [52] [
      ⟨none, (some 49), .mov (.t 13), []⟩,
      ⟨none, (some 50), .mov (.t 11), []⟩,
      ⟨none, (some 51), .len (.t 50), []⟩,
      ⟨none, (some 52), .bin .lss (.t 49) (.t 51), []⟩])
    (.cond (.t 52)
     .skip
     (.exit 2)))
   (.seq
    (.block 3
     (.seq
      (.reg [14] [
        ⟨none, (some 14), .mov (.c (.bool true)), []⟩])
      (.seq
       (.seq
        (.reg [15] [
          ⟨none, (some 15), .mov (.c (.int .i64 0)), []⟩])
        (.block 4
         (.loop b129_1)))
       (.seq
        (.reg [87] [
          ⟨none, (some 87), .mov (.t 14), []⟩])
        (.cond (.t 87)
         (.seq
          (.reg [9] [
            ⟨none, (some 88), .mov (.t 9), []⟩,
            ⟨none, (some 89), .mov (.t 12), []⟩,
            ⟨none, (some 90), .bldS 1 1 [.int .i64 0] [(0, 1, (.t 89))], []⟩,
            ⟨none, (some 91), .app 1 8 (.t 88) (.t 90), []⟩,
            ⟨none, (some 9), .mov (.t 91), []⟩])
          (.seq
           (.reg [10] [
             ⟨none, (some 92), .mov (.t 10), []⟩,
             ⟨none, (some 93), .mov (.t 11), []⟩,
             ⟨none, (some 94), .mov (.t 13), []⟩,
             ⟨none, (some 95), .idxA 2 (.t 93) (.t 94), []⟩,
             ⟨none, (some 96), .ld 2 true (.t 95), []⟩,
             ⟨none, (some 97), .bldS 2 1 [.int .i8 0, .int .i8 0] [(0, 2, (.t 96))], []⟩,
             ⟨none, (some 98), .app 2 2 (.t 92) (.t 97), []⟩,
             ⟨none, (some 10), .mov (.t 98), []⟩])
           (.exit 2)))
         .skip)))))
    (.reg [13] [
      ⟨none, (some 53), .mov (.t 13), []⟩,
      ⟨none, (some 54), .bin .add (.t 53) (.c (.int .i64 1)), []⟩,
      ⟨none, (some 13), .mov (.t 54), []⟩])))
def b129_3 : Cd :=
  (.seq
   (.seq
    (.reg [46] [
      ⟨none, (some 40), .mov (.t 12), []⟩,
      ⟨none, (some 41), .mov (.t 1), []⟩,
      ⟨none, (some 42), .len (.t 41), []⟩,
      ⟨none, (some 43), .bin .add (.t 40) (.t 42), []⟩,
      ⟨none, (some 44), .mov (.t 0), []⟩,
      ⟨none, (some 45), .len (.t 44), []⟩,
      ⟨none, (some 46), .bin .leq (.t 43) (.t 45), []⟩])
    (.cond (.t 46)
     .skip
     (.exit 0)))
   (.seq
    (.block 1
     (.seq
      (.reg [13] [
        ⟨none, (some 13), .mov (.c (.int .i64 0)), []⟩])
      (.block 2
       (.loop b129_2))))
    (.reg [12] [
      ⟨none, (some 47), .mov (.t 12), []⟩,
      ⟨none, (some 48), .bin .add (.t 47) (.c (.int .i64 1)), []⟩,
      ⟨none, (some 12), .mov (.t 48), []⟩])))
def k129 : Cd :=
  (.seq
   (.reg [6, 7, 8] [
     ⟨none, (some 6), .mov (.c (.slice none 0 0)), []⟩,
     ⟨none, (some 7), .mov (.c (.slice none 0 0)), []⟩,
     ⟨none, (some 8), .mov (.c (.int .i64 0)), []⟩])
   (.seq
    (.seq
     (.reg [23] [
       ⟨none, (some 16), .mov (.t 0), []⟩,
       ⟨none, (some 17), .call true 318 [.t 16], []⟩,
       ⟨none, (some 18), .un .not (.t 17), []⟩,
       ⟨none, (some 19), .mov (.t 18), []⟩,
       ⟨(some (19, false)), (some 20), .mov (.t 1), []⟩,
       ⟨(some (19, false)), (some 21), .call true 318 [.t 20], []⟩,
       ⟨(some (19, false)), (some 22), .un .not (.t 21), []⟩,
       ⟨none, (some 23), .pick (.t 19) (.c (.bool true)) (.t 22), []⟩])
     (.cond (.t 23)
      (.seq
       (.reg [6, 7, 8] [
         ⟨none, (some 24), .bldS 1 0 [.int .i64 0] [], []⟩,
         ⟨none, (some 25), .bldS 2 0 [.int .i8 0, .int .i8 0] [], []⟩,
         ⟨none, (some 6), .mov (.t 24), []⟩,
         ⟨none, (some 7), .mov (.t 25), []⟩,
         ⟨none, (some 8), .mov (.c (.int .i64 1)), []⟩])
       .ret)
      .skip))
    (.seq
     (.seq
      (.reg [33] [
        ⟨none, (some 26), .mov (.t 2), []⟩,
        ⟨none, (some 27), .call true 353 [.t 26], []⟩,
        ⟨none, (some 28), .un .not (.t 27), []⟩,
        ⟨none, (some 29), .mov (.t 28), []⟩,
        ⟨(some (29, false)), (some 30), .mov (.t 1), []⟩,
        ⟨(some (29, false)), (some 31), .len (.t 30), []⟩,
        ⟨(some (29, false)), (some 32), .bin .eql (.t 31) (.c (.int .i64 0)), []⟩,
        ⟨none, (some 33), .pick (.t 29) (.c (.bool true)) (.t 32), []⟩])
      (.cond (.t 33)
       (.seq
        (.reg [6, 7, 8] [
          ⟨none, (some 34), .bldS 1 0 [.int .i64 0] [], []⟩,
          ⟨none, (some 35), .bldS 2 0 [.int .i8 0, .int .i8 0] [], []⟩,
          ⟨none, (some 6), .mov (.t 34), []⟩,
          ⟨none, (some 7), .mov (.t 35), []⟩,
          ⟨none, (some 8), .mov (.c (.int .i64 2)), []⟩])
        .ret)
       .skip))
     (.seq
      (.reg [9] [
        ⟨none, (some 36), .bldS 1 0 [.int .i64 0] [], []⟩,
        ⟨none, (some 9), .mov (.t 36), []⟩])
      (.seq
       (.reg [10] [
         ⟨none, (some 37), .bldS 2 0 [.int .i8 0, .int .i8 0] [], []⟩,
         ⟨none, (some 10), .mov (.t 37), []⟩])
       (.seq
        (.reg [11] [
          ⟨none, (some 38), .mov (.t 2), []⟩,
          ⟨none, (some 39), .call true 354 [.t 38], []⟩,
          ⟨none, (some 11), .mov (.t 39), []⟩])
        (.seq
         (.seq
          (.reg [12] [
            ⟨none, (some 12), .mov (.c (.int .i64 0)), []⟩])
          (.block 0
           (.loop b129_3)))
         (.seq
          (.reg [6, 7, 8] [
            ⟨none, (some 99), .mov (.t 9), []⟩,
            ⟨none, (some 100), .mov (.t 10), []⟩,
            ⟨none, (some 6), .mov (.t 99), []⟩,
            ⟨none, (some 7), .mov (.t 100), []⟩,
            ⟨none, (some 8), .mov (.c (.int .i64 0)), []⟩])
          .ret))))))))
def c129 : Fn := { np := 3, nt := 101, kind := .pure, res := [.t 6, .t 7, .t 8], body := k129 }

/- laws.toFrame -/
def b134_1 : Cd :=
  (.seq
   (.seq
    (.reg [6] [
      ⟨none, (some 5), .mov (.t 4), []⟩,
      ⟨none, (some 6), .bin .lss (.t 5) (.c (.int .i64 12)), []⟩])
    (.cond (.t 6)
     .skip
     (.exit 0)))
   (.seq
    (.block 1
     (.reg [3] [
       ⟨none, (some 9), .mov (.t 4), []⟩,
       ⟨none, (some 10), .mov (.t 4), []⟩,
       ⟨none, (some 11), .adrI 1 none 12 1 (.t 10), []⟩,
       ⟨none, (some 12), .ldV 1 (some 11) 1 false, []⟩,
       ⟨none, (some 13), .adrI 3 none 12 1 (.t 9), []⟩,
       ⟨none, (some 3), .stV 3 (some 13) 1 (.t 12), []⟩]))
    (.reg [4] [
      ⟨none, (some 7), .mov (.t 4), []⟩,
      ⟨none, (some 8), .bin .add (.t 7) (.c (.int .i64 1)), []⟩,
      ⟨none, (some 4), .mov (.t 8), []⟩])))
def k134 : Cd :=
  (.seq
   (.reg [1, 2] [
     ⟨none, (some 1), .mov (.t 0), []⟩,
     ⟨none, (some 2), .zero true (zs 12 (.int .u16 0)), []⟩])
   (.seq
    (.reg [3] [
      ⟨none, (some 3), .zero true (zs 12 (.int .u16 0)), []⟩])
    (.seq
     (.seq
      (.reg [4] [
        ⟨none, (some 4), .mov (.c (.int .i64 0)), []⟩])
      (.block 0
       (.loop b134_1)))
     (.seq
      (.reg [2] [
        ⟨none, (some 14), .ldV 3 none 12 true, []⟩,
        ⟨none, (some 2), .stV 2 none 12 (.t 14), []⟩])
      .ret))))
def c134 : Fn := { np := 1, nt := 15, kind := .pure, res := [.v 2 12 true], body := k134 }

/- laws.eqInt64S -/
def b180_1 : Cd :=
  (.seq
   (.seq
    (.reg [14] [
      ⟨none, (some 11), .mov (.t 5), []⟩,
      ⟨none, (some 12), .mov (.t 0), []⟩,
      ⟨none, (some 13), .len (.t 12), []⟩,
      ⟨none, (some 14), .bin .lss (.t 11) (.t 13), []⟩])
    (.cond (.t 14)
     .skip
     (.exit 0)))
   (.seq
    (.block 1
     (.seq
      (.reg [25] [
        ⟨none, (some 17), .mov (.t 0), []⟩,
        ⟨none, (some 18), .mov (.t 5), []⟩,
        ⟨none, (some 19), .idxA 1 (.t 17) (.t 18), []⟩,
        ⟨none, (some 20), .ld 1 false (.t 19), []⟩,
        ⟨none, (some 21), .mov (.t 1), []⟩,
        ⟨none, (some 22), .mov (.t 5), []⟩,
        ⟨none, (some 23), .idxA 1 (.t 21) (.t 22), []⟩,
        ⟨none, (some 24), .ld 1 false (.t 23), []⟩,
        ⟨none, (some 25), .bin .neq (.t 20) (.t 24), []⟩])
      (.cond (.t 25)
       (.seq
        (.reg [4] [
          ⟨none, (some 4), .mov (.c (.bool false)), []⟩])
        .ret)
       .skip)))
    (.reg [5] [
      ⟨none, (some 15), .mov (.t 5), []⟩,
      ⟨none, (some 16), .bin .add (.t 15) (.c (.int .i64 1)), []⟩,
      ⟨none, (some 5), .mov (.t 16), []⟩])))
def k180 : Cd :=
  (.seq
   (.reg [4] [
     ⟨none, (some 4), .mov (.c (.bool false)), []⟩])
   (.seq
    (.seq
     (.reg [10] [
       ⟨none, (some 6), .mov (.t 0), []⟩,
       ⟨none, (some 7), .len (.t 6), []⟩,
       ⟨none, (some 8), .mov (.t 1), []⟩,
       ⟨none, (some 9), .len (.t 8), []⟩,
       ⟨none, (some 10), .bin .neq (.t 7) (.t 9), []⟩])
     (.cond (.t 10)
      (.seq
       (.reg [4] [
         ⟨none, (some 4), .mov (.c (.bool false)), []⟩])
       .ret)
      .skip))
    (.seq
     (.seq
      (.reg [5] [
        ⟨none, (some 5), .mov (.c (.int .i64 0)), []⟩])
      (.block 0
       (.loop b180_1)))
     (.seq
      (.reg [4] [
        ⟨none, (some 4), .mov (.c (.bool true)), []⟩])
      .ret))))
def c180 : Fn := { np := 2, nt := 26, kind := .pure, res := [.t 4], body := k180 }

/- laws.markInt64S -/
def b182_1 : Cd :=
  (.seq
   (.seq
    (.reg [9] [
      ⟨none, (some 6), .mov (.t 5), []⟩,
      ⟨none, (some 7), .mov (.t 0), []⟩,
      ⟨none, (some 8), .len (.t 7), []⟩,
      ⟨none, (some 9), .bin .lss (.t 6) (.t 8), []⟩])
    (.cond (.t 9)
     .skip
     (.exit 0)))
   (.seq
    (.block 1
     (.seq
      (.reg [] [
        ⟨none, (some 12), .mov (.t 0), []⟩,
        ⟨none, (some 13), .mov (.t 5), []⟩,
        ⟨none, (some 14), .mov (.t 1), []⟩,
        ⟨none, (some 15), .idxA 1 (.t 12) (.t 13), []⟩,
        ⟨none, none, .st 1 (.t 15) (.t 14), []⟩])
      (.reg [1] [
        ⟨none, (some 16), .mov (.t 1), []⟩,
        ⟨none, (some 17), .bin .add (.t 16) (.c (.int .i64 1)), []⟩,
        ⟨none, (some 1), .mov (.t 17), []⟩])))
    (.reg [5] [
      ⟨none, (some 10), .mov (.t 5), []⟩,
      ⟨none, (some 11), .bin .add (.t 10) (.c (.int .i64 1)), []⟩,
      ⟨none, (some 5), .mov (.t 11), []⟩])))
def k182 : Cd :=
  (.seq
   (.reg [4] [
     ⟨none, (some 4), .mov (.c (.int .i64 0)), []⟩])
   (.seq
    (.seq
     (.reg [5] [
       ⟨none, (some 5), .mov (.c (.int .i64 0)), []⟩])
     (.block 0
      (.loop b182_1)))
    (.seq
     (.reg [4] [
       ⟨none, (some 18), .mov (.t 1), []⟩,
       ⟨none, (some 4), .mov (.t 18), []⟩])
     .ret)))
def c182 : Fn := { np := 2, nt := 19, kind := .args, res := [.t 4], body := k182 }

/- laws.heldInt64S -/
def b183_1 : Cd :=
  (.seq
   (.seq
    (.reg [9] [
      ⟨none, (some 6), .mov (.t 5), []⟩,
      ⟨none, (some 7), .mov (.t 0), []⟩,
      ⟨none, (some 8), .len (.t 7), []⟩,
      ⟨none, (some 9), .bin .lss (.t 6) (.t 8), []⟩])
    (.cond (.t 9)
     .skip
     (.exit 0)))
   (.seq
    (.block 1
     (.seq
      (.seq
       (.reg [17] [
         ⟨none, (some 12), .mov (.t 0), []⟩,
         ⟨none, (some 13), .mov (.t 5), []⟩,
         ⟨none, (some 14), .idxA 1 (.t 12) (.t 13), []⟩,
         ⟨none, (some 15), .ld 1 false (.t 14), []⟩,
         ⟨none, (some 16), .mov (.t 1), []⟩,
         ⟨none, (some 17), .bin .neq (.t 15) (.t 16), []⟩])
       (.cond (.t 17)
        (.seq
         (.reg [4] [
           ⟨none, (some 4), .mov (.c (.int .i64 (-1))), []⟩])
         .ret)
        .skip))
      (.reg [1] [
        ⟨none, (some 18), .mov (.t 1), []⟩,
        ⟨none, (some 19), .bin .add (.t 18) (.c (.int .i64 1)), []⟩,
        ⟨none, (some 1), .mov (.t 19), []⟩])))
    (.reg [5] [
      ⟨none, (some 10), .mov (.t 5), []⟩,
      ⟨none, (some 11), .bin .add (.t 10) (.c (.int .i64 1)), []⟩,
      ⟨none, (some 5), .mov (.t 11), []⟩])))
def k183 : Cd :=
  (.seq
   (.reg [4] [
     ⟨none, (some 4), .mov (.c (.int .i64 0)), []⟩])
   (.seq
    (.seq
     (.reg [5] [
       ⟨none, (some 5), .mov (.c (.int .i64 0)), []⟩])
     (.block 0
      (.loop b183_1)))
    (.seq
     (.reg [4] [
       ⟨none, (some 20), .mov (.t 1), []⟩,
       ⟨none, (some 4), .mov (.t 20), []⟩])
     .ret)))
def c183 : Fn := { np := 2, nt := 21, kind := .pure, res := [.t 4], body := k183 }

/- laws.eqMove -/
def k188 : Cd :=
  (.seq
   (.reg [2, 3, 4] [
     ⟨none, (some 2), .mov (.t 0), []⟩,
     ⟨none, (some 3), .mov (.t 1), []⟩,
     ⟨none, (some 4), .mov (.c (.bool false)), []⟩])
   (.seq
    (.seq
     (.reg [9] [
       ⟨none, (some 5), .adrF 2 none 0, []⟩,
       ⟨none, (some 6), .ldV 2 (some 5) 1 false, []⟩,
       ⟨none, (some 7), .adrF 3 none 0, []⟩,
       ⟨none, (some 8), .ldV 3 (some 7) 1 false, []⟩,
       ⟨none, (some 9), .bin .neq (.t 6) (.t 8), []⟩])
     (.cond (.t 9)
      (.seq
       (.reg [4] [
         ⟨none, (some 4), .mov (.c (.bool false)), []⟩])
       .ret)
      .skip))
    (.seq
     (.seq
      (.reg [14] [
        ⟨none, (some 10), .adrF 2 none 1, []⟩,
        ⟨none, (some 11), .ldV 2 (some 10) 1 false, []⟩,
        ⟨none, (some 12), .adrF 3 none 1, []⟩,
        ⟨none, (some 13), .ldV 3 (some 12) 1 false, []⟩,
        ⟨none, (some 14), .bin .neq (.t 11) (.t 13), []⟩])
      (.cond (.t 14)
       (.seq
        (.reg [4] [
          ⟨none, (some 4), .mov (.c (.bool false)), []⟩])
        .ret)
       .skip))
     (.seq
      (.reg [4] [
        ⟨none, (some 4), .mov (.c (.bool true)), []⟩])
      .ret))))
def c188 : Fn := { np := 2, nt := 15, kind := .pure, res := [.t 4], body := k188 }

/- impl.ValidFrame -/
def k234 : Cd :=
  (.seq
   (.reg [1, 2] [
     ⟨none, (some 1), .box 12 (.t 0), []⟩,
     ⟨none, (some 2), .mov (.c (.bool false)), []⟩])
   (.seq
    (.reg [2] [
      ⟨none, (some 3), .slcP 12 1 (.t 1), []⟩,
      ⟨none, (some 4), .call true 445 [.t 3, .f 446], []⟩,
      ⟨none, (some 5), .un .not (.t 4), []⟩,
      ⟨none, (some 2), .mov (.t 5), []⟩])
    .ret))
def c234 : Fn := { np := 1, nt := 6, kind := .pure, res := [.t 2], body := k234 }

/- laws.eqMoveS -/
def b266_1 : Cd :=
  (.seq
   (.seq
    (.reg [14] [
      ⟨none, (some 11), .mov (.t 5), []⟩,
      ⟨none, (some 12), .mov (.t 0), []⟩,
      ⟨none, (some 13), .len (.t 12), []⟩,
      ⟨none, (some 14), .bin .lss (.t 11) (.t 13), []⟩])
    (.cond (.t 14)
     .skip
     (.exit 0)))
   (.seq
    (.block 1
     (.seq
      (.reg [26] [
        ⟨none, (some 17), .mov (.t 0), []⟩,
        ⟨none, (some 18), .mov (.t 5), []⟩,
        ⟨none, (some 19), .idxA 2 (.t 17) (.t 18), []⟩,
        ⟨none, (some 20), .ld 2 true (.t 19), []⟩,
        ⟨none, (some 21), .mov (.t 1), []⟩,
        ⟨none, (some 22), .mov (.t 5), []⟩,
        ⟨none, (some 23), .idxA 2 (.t 21) (.t 22), []⟩,
        ⟨none, (some 24), .ld 2 true (.t 23), []⟩,
        ⟨none, (some 25), .call true 188 [.t 20, .t 24], []⟩,
        ⟨none, (some 26), .un .not (.t 25), []⟩])
      (.cond (.t 26)
       (.seq
        (.reg [4] [
          ⟨none, (some 4), .mov (.c (.bool false)), []⟩])
        .ret)
       .skip)))
    (.reg [5] [
      ⟨none, (some 15), .mov (.t 5), []⟩,
      ⟨none, (some 16), .bin .add (.t 15) (.c (.int .i64 1)), []⟩,
      ⟨none, (some 5), .mov (.t 16), []⟩])))
def k266 : Cd :=
  (.seq
   (.reg [4] [
     ⟨none, (some 4), .mov (.c (.bool false)), []⟩])
   (.seq
    (.seq
     (.reg [10] [
       ⟨none, (some 6), .mov (.t 0), []⟩,
       ⟨none, (some 7), .len (.t 6), []⟩,
       ⟨none, (some 8), .mov (.t 1), []⟩,
       ⟨none, (some 9), .len (.t 8), []⟩,
       ⟨none, (some 10), .bin .neq (.t 7) (.t 9), []⟩])
     (.cond (.t 10)
      (.seq
       (.reg [4] [
         ⟨none, (some 4), .mov (.c (.bool false)), []⟩])
       .ret)
      .skip))
    (.seq
     (.seq
      (.reg [5] [
        ⟨none, (some 5), .mov (.c (.int .i64 0)), []⟩])
      (.block 0
       (.loop b266_1)))
     (.seq
      (.reg [4] [
        ⟨none, (some 4), .mov (.c (.bool true)), []⟩])
      .ret))))
def c266 : Fn := { np := 2, nt := 27, kind := .pure, res := [.t 4], body := k266 }

/- laws.markMoveS -/
def b267_1 : Cd :=
  (.seq
   (.seq
    (.reg [9] [
      ⟨none, (some 6), .mov (.t 5), []⟩,
      ⟨none, (some 7), .mov (.t 0), []⟩,
      ⟨none, (some 8), .len (.t 7), []⟩,
      ⟨none, (some 9), .bin .lss (.t 6) (.t 8), []⟩])
    (.cond (.t 9)
     .skip
     (.exit 0)))
   (.seq
    (.block 1
     (.seq
      (.reg [] [
        ⟨none, (some 12), .mov (.t 0), []⟩,
        ⟨none, (some 13), .mov (.t 5), []⟩,
        ⟨none, (some 14), .mov (.t 1), []⟩,
        ⟨none, (some 15), .conv .i8 (.t 14), []⟩,
        ⟨none, (some 16), .idxA 2 (.t 12) (.t 13), []⟩,
        ⟨none, (some 17), .fldP 0 (.t 16), []⟩,
        ⟨none, none, .st 1 (.t 17) (.t 15), []⟩])
      (.seq
       (.reg [1] [
         ⟨none, (some 18), .mov (.t 1), []⟩,
         ⟨none, (some 19), .bin .add (.t 18) (.c (.int .i64 1)), []⟩,
         ⟨none, (some 1), .mov (.t 19), []⟩])
       (.seq
        (.reg [] [
          ⟨none, (some 20), .mov (.t 0), []⟩,
          ⟨none, (some 21), .mov (.t 5), []⟩,
          ⟨none, (some 22), .mov (.t 1), []⟩,
          ⟨none, (some 23), .conv .i8 (.t 22), []⟩,
          ⟨none, (some 24), .idxA 2 (.t 20) (.t 21), []⟩,
          ⟨none, (some 25), .fldP 1 (.t 24), []⟩,
          ⟨none, none, .st 1 (.t 25) (.t 23), []⟩])
        (.reg [1] [
          ⟨none, (some 26), .mov (.t 1), []⟩,
          ⟨none, (some 27), .bin .add (.t 26) (.c (.int .i64 1)), []⟩,
          ⟨none, (some 1), .mov (.t 27), []⟩])))))
    (.reg [5] [
      ⟨none, (some 10), .mov (.t 5), []⟩,
      ⟨none, (some 11), .bin .add (.t 10) (.c (.int .i64 1)), []⟩,
      ⟨none, (some 5), .mov (.t 11), []⟩])))
def k267 : Cd :=
  (.seq
   (.reg [4] [
     ⟨none, (some 4), .mov (.c (.int .i64 0)), []⟩])
   (.seq
    (.seq
     (.reg [5] [
       ⟨none, (some 5), .mov (.c (.int .i64 0)), []⟩])
     (.block 0
      (.loop b267_1)))
    (.seq
     (.reg [4] [
       ⟨none, (some 28), .mov (.t 1), []⟩,
       ⟨none, (some 4), .mov (.t 28), []⟩])
     .ret)))
def c267 : Fn := { np := 2, nt := 29, kind := .args, res := [.t 4], body := k267 }

/- laws.heldMoveS -/
def b268_1 : Cd :=
  (.seq
   (.seq
    (.reg [9] [
      ⟨none, (some 6), .mov (.t 5), []⟩,
      ⟨none, (some 7), .mov (.t 0), []⟩,
      ⟨none, (some 8), .len (.t 7), []⟩,
      ⟨none, (some 9), .bin .lss (.t 6) (.t 8), []⟩])
    (.cond (.t 9)
     .skip
     (.exit 0)))
   (.seq
    (.block 1
     (.seq
      (.seq
       (.reg [19] [
         ⟨none, (some 12), .mov (.t 0), []⟩,
         ⟨none, (some 13), .mov (.t 5), []⟩,
         ⟨none, (some 14), .idxA 2 (.t 12) (.t 13), []⟩,
         ⟨none, (some 15), .fldP 0 (.t 14), []⟩,
         ⟨none, (some 16), .ld 1 false (.t 15), []⟩,
         ⟨none, (some 17), .mov (.t 1), []⟩,
         ⟨none, (some 18), .conv .i8 (.t 17), []⟩,
         ⟨none, (some 19), .bin .neq (.t 16) (.t 18), []⟩])
       (.cond (.t 19)
        (.seq
         (.reg [4] [
           ⟨none, (some 4), .mov (.c (.int .i64 (-1))), []⟩])
         .ret)
        .skip))
      (.seq
       (.reg [1] [
         ⟨none, (some 20), .mov (.t 1), []⟩,
         ⟨none, (some 21), .bin .add (.t 20) (.c (.int .i64 1)), []⟩,
         ⟨none, (some 1), .mov (.t 21), []⟩])
       (.seq
        (.seq
         (.reg [29] [
           ⟨none, (some 22), .mov (.t 0), []⟩,
           ⟨none, (some 23), .mov (.t 5), []⟩,
           ⟨none, (some 24), .idxA 2 (.t 22) (.t 23), []⟩,
           ⟨none, (some 25), .fldP 1 (.t 24), []⟩,
           ⟨none, (some 26), .ld 1 false (.t 25), []⟩,
           ⟨none, (some 27), .mov (.t 1), []⟩,
           ⟨none, (some 28), .conv .i8 (.t 27), []⟩,
           ⟨none, (some 29), .bin .neq (.t 26) (.t 28), []⟩])
         (.cond (.t 29)
          (.seq
           (.reg [4] [
             ⟨none, (some 4), .mov (.c (.int .i64 (-1))), []⟩])
           .ret)
          .skip))
        (.reg [1] [
          ⟨none, (some 30), .mov (.t 1), []⟩,
          ⟨none, (some 31), .bin .add (.t 30) (.c (.int .i64 1)), []⟩,
          ⟨none, (some 1), .mov (.t 31), []⟩])))))
    (.reg [5] [
      ⟨none, (some 10), .mov (.t 5), []⟩,
      ⟨none, (some 11), .bin .add (.t 10) (.c (.int .i64 1)), []⟩,
      ⟨none, (some 5), .mov (.t 11), []⟩])))
def k268 : Cd :=
  (.seq
   (.reg [4] [
     ⟨none, (some 4), .mov (.c (.int .i64 0)), []⟩])
   (.seq
    (.seq
     (.reg [5] [
       ⟨none, (some 5), .mov (.c (.int .i64 0)), []⟩])
     (.block 0
      (.loop b268_1)))
    (.seq
     (.reg [4] [
       ⟨none, (some 32), .mov (.t 1), []⟩,
       ⟨none, (some 4), .mov (.t 32), []⟩])
     .ret)))
def c268 : Fn := { np := 2, nt := 33, kind := .pure, res := [.t 4], body := k268 }

/- impl.inRange -/
def k295 : Cd :=
  (.seq
   (.reg [6] [
     ⟨none, (some 6), .mov (.c (.bool false)), []⟩])
   (.seq
    (.reg [6] [
      ⟨none, (some 7), .mov (.t 1), []⟩,
      ⟨none, (some 8), .mov (.t 0), []⟩,
      ⟨none, (some 9), .bin .leq (.t 7) (.t 8), []⟩,
      ⟨none, (some 10), .mov (.t 9), []⟩,
      ⟨(some (10, true)), (some 11), .mov (.t 0), []⟩,
      ⟨(some (10, true)), (some 12), .mov (.t 2), []⟩,
      ⟨(some (10, true)), (some 13), .bin .leq (.t 11) (.t 12), []⟩,
      ⟨none, (some 14), .pick (.t 10) (.t 13) (.c (.bool false)), []⟩,
      ⟨none, (some 6), .mov (.t 14), []⟩])
    .ret))
def c295 : Fn := { np := 3, nt := 15, kind := .pure, res := [.t 6], body := k295 }

/- laws.roomBehind -/
def k296 : Cd :=
  (.seq
   (.reg [2] [
     ⟨none, (some 2), .mov (.c (.int .i64 0)), []⟩])
   (.seq
    (.seq
     (.reg [5] [
       ⟨none, (some 3), .mov (.t 0), []⟩,
       ⟨none, (some 4), .bin .rem (.t 3) (.c (.int .i64 6)), []⟩,
       ⟨none, (some 5), .bin .eql (.t 4) (.c (.int .i64 5)), []⟩])
     (.cond (.t 5)
      (.seq
       (.reg [2] [
         ⟨none, (some 2), .mov (.c (.int .i64 0)), []⟩])
       .ret)
      .skip))
    (.seq
     (.seq
      (.reg [8] [
        ⟨none, (some 6), .mov (.t 0), []⟩,
        ⟨none, (some 7), .bin .rem (.t 6) (.c (.int .i64 3)), []⟩,
        ⟨none, (some 8), .bin .eql (.t 7) (.c (.int .i64 0)), []⟩])
      (.cond (.t 8)
       (.seq
        (.reg [2] [
          ⟨none, (some 2), .mov (.c (.int .i64 1)), []⟩])
        .ret)
       .skip))
     (.seq
      (.reg [2] [
        ⟨none, (some 9), .mov (.t 0), []⟩,
        ⟨none, (some 2), .mov (.t 9), []⟩])
      .ret))))
def c296 : Fn := { np := 1, nt := 10, kind := .pure, res := [.t 2], body := k296 }

/- spec.l00In -/
def k304 : Cd :=
  (.seq
   (.reg [6] [
     ⟨none, (some 6), .mov (.c (.bool false)), []⟩])
   (.seq
    (.reg [6] [
      ⟨none, (some 7), .mov (.t 0), []⟩,
      ⟨none, (some 8), .mov (.t 1), []⟩,
      ⟨none, (some 9), .bin .geq (.t 7) (.t 8), []⟩,
      ⟨none, (some 10), .mov (.t 9), []⟩,
      ⟨(some (10, true)), (some 11), .mov (.t 0), []⟩,
      ⟨(some (10, true)), (some 12), .mov (.t 2), []⟩,
      ⟨(some (10, true)), (some 13), .bin .leq (.t 11) (.t 12), []⟩,
      ⟨none, (some 14), .pick (.t 10) (.t 13) (.c (.bool false)), []⟩,
      ⟨none, (some 6), .mov (.t 14), []⟩])
    .ret))
def c304 : Fn := { np := 3, nt := 15, kind := .pure, res := [.t 6], body := k304 }

/- spec.l01Put -/
def k305 : Cd :=
  (.seq
   (.reg [8] [
     ⟨none, (some 6), .mov (.t 1), []⟩,
     ⟨none, (some 7), .mov (.t 2), []⟩,
     ⟨none, (some 8), .call true 342 [.t 6, .t 7], []⟩])
   (.cond (.t 8)
    (.reg [] [
      ⟨none, (some 9), .mov (.t 0), []⟩,
      ⟨none, (some 10), .mov (.t 2), []⟩,
      ⟨none, (some 11), .mov (.t 0), []⟩,
      ⟨none, (some 12), .mov (.t 2), []⟩,
      ⟨none, (some 13), .nil (.t 11), []⟩,
      ⟨none, (some 14), .idxP 12 1 (.t 13) (.t 12), []⟩,
      ⟨none, (some 15), .ld 1 false (.t 14), []⟩,
      ⟨none, (some 16), .mov (.t 1), []⟩,
      ⟨none, (some 17), .conv .u64 (.t 16), []⟩,
      ⟨none, (some 18), .bin .shl (.c (.int .u16 1)) (.t 17), []⟩,
      ⟨none, (some 19), .bin .or (.t 15) (.t 18), []⟩,
      ⟨none, (some 20), .nil (.t 9), []⟩,
      ⟨none, (some 21), .idxP 12 1 (.t 20) (.t 10), []⟩,
      ⟨none, none, .st 1 (.t 21) (.t 19), []⟩])
    .skip))
def c305 : Fn := { np := 3, nt := 22, kind := .args, res := [], body := k305 }

/- impl.ValidBook -/
def k316 : Cd :=
  (.seq
   (.reg [2] [
     ⟨none, (some 2), .mov (.c (.bool false)), []⟩])
   (.seq
    (.reg [2] [
      ⟨none, (some 3), .mov (.t 0), []⟩,
      ⟨none, (some 4), .len (.t 3), []⟩,
      ⟨none, (some 5), .bin .leq (.t 4) (.c (.int .i64 40)), []⟩,
      ⟨none, (some 6), .mov (.t 5), []⟩,
      ⟨(some (6, true)), (some 7), .mov (.t 0), []⟩,
      ⟨(some (6, true)), (some 8), .call true 351 [.t 7], []⟩,
      ⟨none, (some 9), .pick (.t 6) (.t 8) (.c (.bool false)), []⟩,
      ⟨none, (some 2), .mov (.t 9), []⟩])
    .ret))
def c316 : Fn := { np := 1, nt := 10, kind := .pure, res := [.t 2], body := k316 }

/- spec.l02Ok -/
def b318_1 : Cd :=
  (.seq
   (.seq
    (.reg [7] [
      ⟨none, (some 4), .mov (.t 3), []⟩,
      ⟨none, (some 5), .mov (.t 0), []⟩,
      ⟨none, (some 6), .len (.t 5), []⟩,
      ⟨none, (some 7), .bin .lss (.t 4) (.t 6), []⟩])
    (.cond (.t 7)
     .skip
     (.exit 0)))
   (.seq
    (.block 1
     (.seq
      (.reg [14] [
        ⟨none, (some 10), .mov (.t 0), []⟩,
        ⟨none, (some 11), .mov (.t 3), []⟩,
        ⟨none, (some 12), .idxA 12 (.t 10) (.t 11), []⟩,
        ⟨none, (some 13), .call true 359 [.t 12], []⟩,
        ⟨none, (some 14), .un .not (.t 13), []⟩])
      (.cond (.t 14)
       (.seq
        (.reg [2] [
          ⟨none, (some 2), .mov (.c (.bool false)), []⟩])
        .ret)
       .skip)))
    (.reg [3] [
      ⟨none, (some 8), .mov (.t 3), []⟩,
      ⟨none, (some 9), .bin .add (.t 8) (.c (.int .i64 1)), []⟩,
      ⟨none, (some 3), .mov (.t 9), []⟩])))
def k318 : Cd :=
  (.seq
   (.reg [2] [
     ⟨none, (some 2), .mov (.c (.bool false)), []⟩])
   (.seq
    (.seq
     (.reg [3] [
       ⟨none, (some 3), .mov (.c (.int .i64 0)), []⟩])
     (.block 0
      (.loop b318_1)))
    (.seq
     (.reg [2] [
       ⟨none, (some 15), .mov (.t 0), []⟩,
       ⟨none, (some 16), .len (.t 15), []⟩,
       ⟨none, (some 17), .bin .leq (.t 16) (.c (.int .i64 40)), []⟩,
       ⟨none, (some 2), .mov (.t 17), []⟩])
     .ret)))
def c318 : Fn := { np := 1, nt := 18, kind := .pure, res := [.t 2], body := k318 }

/- spec.l01Place -/
def k342 : Cd :=
  (.seq
   (.reg [4] [
     ⟨none, (some 4), .mov (.c (.bool false)), []⟩])
   (.seq
    (.reg [4] [
      ⟨none, (some 5), .mov (.t 0), []⟩,
      ⟨none, (some 6), .call true 304 [.t 5, .c (.int .i64 0), .c (.int .i64 11)], []⟩,
      ⟨none, (some 7), .mov (.t 6), []⟩,
      ⟨(some (7, true)), (some 8), .mov (.t 1), []⟩,
      ⟨(some (7, true)), (some 9), .call true 304 [.t 8, .c (.int .i64 0), .c (.int .i64 11)], []⟩,
      ⟨none, (some 10), .pick (.t 7) (.t 9) (.c (.bool false)), []⟩,
      ⟨none, (some 4), .mov (.t 10), []⟩])
    .ret))
def c342 : Fn := { np := 2, nt := 11, kind := .pure, res := [.t 4], body := k342 }

/- impl.areFrames -/
def k351 : Cd :=
  (.seq
   (.reg [2] [
     ⟨none, (some 2), .mov (.c (.bool false)), []⟩])
   (.seq
    (.reg [2] [
      ⟨none, (some 3), .mov (.t 0), []⟩,
      ⟨none, (some 4), .call true 505 [.t 3, .f 506], []⟩,
      ⟨none, (some 5), .un .not (.t 4), []⟩,
      ⟨none, (some 2), .mov (.t 5), []⟩])
    .ret))
def c351 : Fn := { np := 1, nt := 6, kind := .pure, res := [.t 2], body := k351 }

/- (impl.Book).movedCopies -/
def b352_1 : Cd :=
  (.seq
   (.seq
    (.reg [42] [
      ⟨none, (some 36), .ld 1 false (.t 12), []⟩,
      ⟨none, (some 37), .ld 1 false (.t 4), []⟩,
      ⟨none, (some 38), .len (.t 37), []⟩,
      ⟨none, (some 39), .bin .add (.t 36) (.t 38), []⟩,
      ⟨none, (some 40), .ld 1 false (.t 3), []⟩,
      ⟨none, (some 41), .len (.t 40), []⟩,
      ⟨none, (some 42), .bin .leq (.t 39) (.t 41), []⟩])
    (.cond (.t 42)
     .skip
     (.exit 1)))
   (.seq
    (.block 2
     (.seq
      (.reg [13] [
        ⟨none, (some 45), .mov (.t 11), []⟩,
        ⟨none, (some 46), .mkf 508 [.t 3, .t 12, .t 4], []⟩,
        ⟨none, (some 47), .call true 507 [.t 45, .t 46], []⟩,
        ⟨none, (some 13), .mov (.t 47), []⟩])
      (.seq
       (.reg [49] [
         ⟨none, (some 48), .mov (.t 13), []⟩,
         ⟨none, (some 49), .bin .geq (.t 48) (.c (.int .i64 0)), []⟩])
       (.cond (.t 49)
        (.reg [9, 10] [
          ⟨none, (some 50), .mov (.t 9), []⟩,
          ⟨none, (some 51), .ld 1 false (.t 12), []⟩,
          ⟨none, (some 52), .bldS 1 1 [.int .i64 0] [(0, 1, (.t 51))], []⟩,
          ⟨none, (some 54), .mov (.t 10), []⟩,
          ⟨none, (some 55), .mov (.t 11), []⟩,
          ⟨none, (some 56), .mov (.t 13), []⟩,
          ⟨none, (some 57), .idxA 2 (.t 55) (.t 56), []⟩,
          ⟨none, (some 58), .ld 2 true (.t 57), []⟩,
          ⟨none, (some 59), .bldS 2 1 [.int .i8 0, .int .i8 0] [(0, 2, (.t 58))], []⟩,
          ⟨none, (some 53), .app 1 8 (.t 50) (.t 52), [.t 57]⟩,
          ⟨none, (some 60), .app 2 2 (.t 54) (.t 59), []⟩,
          ⟨none, (some 9), .mov (.t 53), []⟩,
          ⟨none, (some 10), .mov (.t 60), []⟩])
        .skip))))
    (.seq
     (.seq
      (.reg [61] [
        ⟨none, (some 61), .ld 1 false (.t 12), []⟩])
      (.reg [12] [
        ⟨none, (some 12), .new 1 [.int .i64 0], []⟩,
        ⟨none, none, .st 1 (.t 12) (.t 61), []⟩]))
     (.reg [] [
       ⟨none, (some 43), .ld 1 false (.t 12), []⟩,
       ⟨none, (some 44), .bin .add (.t 43) (.c (.int .i64 1)), []⟩,
       ⟨none, none, .st 1 (.t 12) (.t 44), []⟩]))))
def k352 : Cd :=
  (.seq
   (.reg [3, 4, 6, 7, 8] [
     ⟨none, (some 3), .box 1 (.t 0), []⟩,
     ⟨none, (some 4), .box 1 (.t 1), []⟩,
     ⟨none, (some 6), .mov (.c (.slice none 0 0)), []⟩,
     ⟨none, (some 7), .mov (.c (.slice none 0 0)), []⟩,
     ⟨none, (some 8), .mov (.c (.int .i64 0)), []⟩])
   (.seq
    (.block 0
     (.seq
      (.reg [14] [
        ⟨none, (some 15), .ld 1 false (.t 3), []⟩,
        ⟨none, (some 16), .call true 316 [.t 15], []⟩,
        ⟨none, (some 17), .un .not (.t 16), []⟩,
        ⟨none, (some 18), .mov (.t 17), []⟩,
        ⟨(some (18, false)), (some 19), .ld 1 false (.t 4), []⟩,
        ⟨(some (18, false)), (some 20), .call true 316 [.t 19], []⟩,
        ⟨(some (18, false)), (some 21), .un .not (.t 20), []⟩,
        ⟨none, (some 22), .pick (.t 18) (.c (.bool true)) (.t 21), []⟩,
        ⟨none, (some 14), .mov (.t 22), []⟩])
      (.cond (.t 14)
       (.seq
        (.reg [6, 7, 8] [
          ⟨none, (some 6), .mov (.c (.slice none 0 0)), []⟩,
          ⟨none, (some 7), .mov (.c (.slice none 0 0)), []⟩,
          ⟨none, (some 8), .mov (.c (.int .i64 1)), []⟩])
        .ret)
       (.seq
        (.reg [23] [
          ⟨none, (some 24), .mov (.t 2), []⟩,
          ⟨none, (some 25), .call true 369 [.t 24], []⟩,
          ⟨none, (some 26), .un .not (.t 25), []⟩,
          ⟨none, (some 27), .mov (.t 26), []⟩,
          ⟨(some (27, false)), (some 28), .ld 1 false (.t 4), []⟩,
          ⟨(some (27, false)), (some 29), .len (.t 28), []⟩,
          ⟨(some (27, false)), (some 30), .bin .eql (.t 29) (.c (.int .i64 0)), []⟩,
          ⟨none, (some 31), .pick (.t 27) (.c (.bool true)) (.t 30), []⟩,
          ⟨none, (some 23), .mov (.t 31), []⟩])
        (.cond (.t 23)
         (.seq
          (.reg [6, 7, 8] [
            ⟨none, (some 6), .mov (.c (.slice none 0 0)), []⟩,
            ⟨none, (some 7), .mov (.c (.slice none 0 0)), []⟩,
            ⟨none, (some 8), .mov (.c (.int .i64 2)), []⟩])
          .ret)
         .skip)))))
    (.seq
     (.reg [9, 10, 11] [
       ⟨none, (some 32), .bldS 1 0 [.int .i64 0] [], []⟩,
       ⟨none, (some 33), .bldS 2 0 [.int .i8 0, .int .i8 0] [], []⟩,
       ⟨none, (some 34), .mov (.t 2), []⟩,
       ⟨none, (some 35), .call true 371 [.t 34], []⟩,
       ⟨none, (some 9), .mov (.t 32), []⟩,
       ⟨none, (some 10), .mov (.t 33), []⟩,
       ⟨none, (some 11), .mov (.t 35), []⟩])
     (.seq
      (.seq
       (.reg [12] [
         ⟨none, (some 12), .new 1 [.int .i64 0], []⟩,
         ⟨none, none, .st 1 (.t 12) (.c (.int .i64 0)), []⟩])
       (.block 1
        (.loop b352_1)))
      (.seq
       (.reg [6, 7, 8] [
         ⟨none, (some 62), .mov (.t 9), []⟩,
         ⟨none, (some 63), .mov (.t 10), []⟩,
         ⟨none, (some 6), .mov (.t 62), []⟩,
         ⟨none, (some 7), .mov (.t 63), []⟩,
         ⟨none, (some 8), .mov (.c (.int .i64 0)), []⟩])
       .ret)))))
def c352 : Fn := { np := 3, nt := 64, kind := .pure, res := [.t 6, .t 7, .t 8], body := k352 }

/- spec.l07Most -/
def k353 : Cd :=
  (.seq
   (.reg [2] [
     ⟨none, (some 2), .mov (.c (.bool false)), []⟩])
   (.seq
    (.reg [2] [
      ⟨none, (some 3), .mov (.t 0), []⟩,
      ⟨none, (some 4), .call true 304 [.t 3, .c (.int .i64 0), .c (.int .i64 4)], []⟩,
      ⟨none, (some 2), .mov (.t 4), []⟩])
    .ret))
def c353 : Fn := { np := 1, nt := 5, kind := .pure, res := [.t 2], body := k353 }

/- spec.l07Moves -/
def b354_1 : Cd :=
  (.seq
   (.seq
    (.reg [26] [
      ⟨none, (some 24), .mov (.t 6), []⟩,
      ⟨none, (some 25), .mov (.t 0), []⟩,
      ⟨none, (some 26), .bin .leq (.t 24) (.t 25), []⟩])
    (.cond (.t 26)
     .skip
     (.exit 4)))
   (.seq
    (.block 5
     (.seq
      (.reg [7] [
        ⟨none, (some 29), .mov (.t 5), []⟩,
        ⟨none, (some 30), .conv .i8 (.t 29), []⟩,
        ⟨none, (some 31), .mov (.t 6), []⟩,
        ⟨none, (some 32), .conv .i8 (.t 31), []⟩,
        ⟨none, (some 33), .agg [.int .i8 0, .int .i8 0] [(0, 1, (.t 30)), (1, 1, (.t 32))], []⟩,
        ⟨none, (some 7), .zero true [.int .i8 0, .int .i8 0], []⟩,
        ⟨none, (some 7), .stV 7 none 2 (.t 33), []⟩])
      (.seq
       (.reg [37] [
         ⟨none, (some 34), .ldV 7 none 2 true, []⟩,
         ⟨none, (some 35), .call true 510 [.t 34], []⟩,
         ⟨none, (some 36), .mov (.t 4), []⟩,
         ⟨none, (some 37), .bin .eql (.t 35) (.t 36), []⟩])
       (.cond (.t 37)
        (.reg [3] [
          ⟨none, (some 38), .mov (.t 3), []⟩,
          ⟨none, (some 39), .ldV 7 none 2 true, []⟩,
          ⟨none, (some 40), .bldS 2 1 [.int .i8 0, .int .i8 0] [(0, 2, (.t 39))], []⟩,
          ⟨none, (some 41), .app 2 2 (.t 38) (.t 40), []⟩,
          ⟨none, (some 3), .mov (.t 41), []⟩])
        .skip))))
    (.reg [6] [
      ⟨none, (some 27), .mov (.t 6), []⟩,
      ⟨none, (some 28), .bin .add (.t 27) (.c (.int .i64 1)), []⟩,
      ⟨none, (some 6), .mov (.t 28), []⟩])))
def b354_2 : Cd :=
  (.seq
   (.seq
    (.reg [19] [
      ⟨none, (some 17), .mov (.t 5), []⟩,
      ⟨none, (some 18), .mov (.t 0), []⟩,
      ⟨none, (some 19), .bin .leq (.t 17) (.t 18), []⟩])
    (.cond (.t 19)
     .skip
     (.exit 2)))
   (.seq
    (.block 3
     (.seq
      (.reg [6] [
        ⟨none, (some 22), .mov (.t 0), []⟩,
        ⟨none, (some 23), .un .neg (.t 22), []⟩,
        ⟨none, (some 6), .mov (.t 23), []⟩])
      (.block 4
       (.loop b354_1))))
    (.reg [5] [
      ⟨none, (some 20), .mov (.t 5), []⟩,
      ⟨none, (some 21), .bin .add (.t 20) (.c (.int .i64 1)), []⟩,
      ⟨none, (some 5), .mov (.t 21), []⟩])))
def b354_3 : Cd :=
  (.seq
   (.seq
    (.reg [12] [
      ⟨none, (some 9), .mov (.t 4), []⟩,
      ⟨none, (some 10), .mov (.t 0), []⟩,
      ⟨none, (some 11), .bin .mul (.c (.int .i64 2)) (.t 10), []⟩,
      ⟨none, (some 12), .bin .leq (.t 9) (.t 11), []⟩])
    (.cond (.t 12)
     .skip
     (.exit 0)))
   (.seq
    (.block 1
     (.seq
      (.reg [5] [
        ⟨none, (some 15), .mov (.t 0), []⟩,
        ⟨none, (some 16), .un .neg (.t 15), []⟩,
        ⟨none, (some 5), .mov (.t 16), []⟩])
      (.block 2
       (.loop b354_2))))
    (.reg [4] [
      ⟨none, (some 13), .mov (.t 4), []⟩,
      ⟨none, (some 14), .bin .add (.t 13) (.c (.int .i64 1)), []⟩,
      ⟨none, (some 4), .mov (.t 14), []⟩])))
def k354 : Cd :=
  (.seq
   (.reg [2] [
     ⟨none, (some 2), .mov (.c (.slice none 0 0)), []⟩])
   (.seq
    (.reg [3] [
      ⟨none, (some 8), .bldS 2 0 [.int .i8 0, .int .i8 0] [], []⟩,
      ⟨none, (some 3), .mov (.t 8), []⟩])
    (.seq
     (.seq
      (.reg [4] [
        ⟨none, (some 4), .mov (.c (.int .i64 0)), []⟩])
      (.block 0
       (.loop b354_3)))
     (.seq
      (.reg [2] [
        ⟨none, (some 42), .mov (.t 3), []⟩,
        ⟨none, (some 2), .mov (.t 42), []⟩])
      .ret))))
def c354 : Fn := { np := 1, nt := 43, kind := .pure, res := [.t 2], body := k354 }

/- spec.l01Moved -/
def b355_1 : Cd :=
  (.seq
   (.seq
    (.reg [16] [
      ⟨none, (some 13), .mov (.t 9), []⟩,
      ⟨none, (some 14), .mov (.t 8), []⟩,
      ⟨none, (some 15), .len (.t 14), []⟩,
      ⟨none, (some 16), .bin .lss (.t 13) (.t 15), []⟩])
    (.cond (.t 16)
     .skip
     (.exit 0)))
   (.seq
    (.block 1
     (.reg [] [
       ⟨none, (some 19), .mov (.t 8), []⟩,
       ⟨none, (some 20), .mov (.t 9), []⟩,
       ⟨none, (some 21), .idxA 2 (.t 19) (.t 20), []⟩,
       ⟨none, (some 22), .fldP 0 (.t 21), []⟩,
       ⟨none, (some 23), .ld 1 false (.t 22), []⟩,
       ⟨none, (some 24), .conv .i64 (.t 23), []⟩,
       ⟨none, (some 25), .mov (.t 1), []⟩,
       ⟨none, (some 26), .bin .add (.t 24) (.t 25), []⟩,
       ⟨none, (some 27), .mov (.t 8), []⟩,
       ⟨none, (some 28), .mov (.t 9), []⟩,
       ⟨none, (some 29), .idxA 2 (.t 27) (.t 28), []⟩,
       ⟨none, (some 30), .fldP 1 (.t 29), []⟩,
       ⟨none, (some 31), .ld 1 false (.t 30), []⟩,
       ⟨none, (some 32), .conv .i64 (.t 31), []⟩,
       ⟨none, (some 33), .mov (.t 2), []⟩,
       ⟨none, (some 34), .bin .add (.t 32) (.t 33), []⟩,
       ⟨none, (some 35), .call false 305 [.t 7, .t 26, .t 34], []⟩]))
    (.reg [9] [
      ⟨none, (some 17), .mov (.t 9), []⟩,
      ⟨none, (some 18), .bin .add (.t 17) (.c (.int .i64 1)), []⟩,
      ⟨none, (some 9), .mov (.t 18), []⟩])))
def k355 : Cd :=
  (.seq
   (.reg [6] [
     ⟨none, (some 6), .zero true (zs 12 (.int .u16 0)), []⟩])
   (.seq
    (.reg [7] [
      ⟨none, (some 10), .agg (zs 12 (.int .u16 0)) [], []⟩,
      ⟨none, (some 7), .new 1 (zs 12 (.int .u16 0)), []⟩,
      ⟨none, none, .st 12 (.t 7) (.t 10), []⟩])
    (.seq
     (.reg [8] [
       ⟨none, (some 11), .mov (.t 0), []⟩,
       ⟨none, (some 12), .call true 440 [.t 11], []⟩,
       ⟨none, (some 8), .mov (.t 12), []⟩])
     (.seq
      (.seq
       (.reg [9] [
         ⟨none, (some 9), .mov (.c (.int .i64 0)), []⟩])
       (.block 0
        (.loop b355_1)))
      (.seq
       (.reg [6] [
         ⟨none, (some 36), .ld 12 true (.t 7), []⟩,
         ⟨none, (some 6), .stV 6 none 12 (.t 36), []⟩])
       .ret)))))
def c355 : Fn := { np := 3, nt := 37, kind := .pure, res := [.v 6 12 true], body := k355 }

/- (impl.Frame).moved -/
def b358_1 : Cd :=
  (.seq
   (.reg [16] [
     ⟨none, (some 16), .bin .lss (.t 15) (.c (.int .i64 12)), []⟩])
   (.seq
    (.cond (.t 16)
     .skip
     (.exit 0))
    (.seq
     (.block 1
      (.seq
       (.reg [8] [
         ⟨none, (some 17), .mov (.t 15), []⟩,
         ⟨none, (some 8), .mov (.t 17), []⟩])
       (.seq
        (.reg [9] [
          ⟨none, (some 18), .mov (.t 8), []⟩,
          ⟨none, (some 19), .mov (.t 2), []⟩,
          ⟨none, (some 20), .bin .sub (.t 18) (.t 19), []⟩,
          ⟨none, (some 9), .mov (.t 20), []⟩])
        (.seq
         (.seq
          (.reg [23] [
            ⟨none, (some 21), .mov (.t 9), []⟩,
            ⟨none, (some 22), .call true 295 [.t 21, .c (.int .i64 0), .c (.int .i64 11)], []⟩,
            ⟨none, (some 23), .un .not (.t 22), []⟩])
          (.cond (.t 23)
           (.exit 1)
           .skip))
         (.seq
          (.reg [25] [
            ⟨none, (some 24), .mov (.t 1), []⟩,
            ⟨none, (some 25), .bin .geq (.t 24) (.c (.int .i64 0)), []⟩])
          (.cond (.t 25)
           (.reg [7] [
             ⟨none, (some 26), .mov (.t 8), []⟩,
             ⟨none, (some 27), .mov (.t 9), []⟩,
             ⟨none, (some 28), .adrI 3 none 12 1 (.t 27), []⟩,
             ⟨none, (some 29), .ldV 3 (some 28) 1 false, []⟩,
             ⟨none, (some 30), .mov (.t 1), []⟩,
             ⟨none, (some 31), .bin .shl (.t 29) (.t 30), []⟩,
             ⟨none, (some 32), .bin .and (.t 31) (.c (.int .u16 4095)), []⟩,
             ⟨none, (some 33), .adrI 7 none 12 1 (.t 26), []⟩,
             ⟨none, (some 7), .stV 7 (some 33) 1 (.t 32), []⟩])
           (.reg [7] [
             ⟨none, (some 34), .mov (.t 8), []⟩,
             ⟨none, (some 35), .mov (.t 9), []⟩,
             ⟨none, (some 36), .adrI 3 none 12 1 (.t 35), []⟩,
             ⟨none, (some 37), .ldV 3 (some 36) 1 false, []⟩,
             ⟨none, (some 38), .mov (.t 1), []⟩,
             ⟨none, (some 39), .un .neg (.t 38), []⟩,
             ⟨none, (some 40), .bin .shr (.t 37) (.t 39), []⟩,
             ⟨none, (some 41), .adrI 7 none 12 1 (.t 34), []⟩,
             ⟨none, (some 7), .stV 7 (some 41) 1 (.t 40), []⟩])))))))
     (.reg [15] [
       ⟨none, (some 42), .bin .add (.t 15) (.c (.int .i64 1)), []⟩,
       ⟨none, (some 15), .mov (.t 42), []⟩]))))
def k358 : Cd :=
  (.seq
   (.reg [3, 6] [
     ⟨none, (some 3), .mov (.t 0), []⟩,
     ⟨none, (some 6), .zero true (zs 12 (.int .u16 0)), []⟩])
   (.seq
    (.reg [7] [
      ⟨none, (some 10), .agg (zs 12 (.int .u16 0)) [], []⟩,
      ⟨none, (some 7), .zero true (zs 12 (.int .u16 0)), []⟩,
      ⟨none, (some 7), .stV 7 none 12 (.t 10), []⟩])
    (.seq
     (.seq
      (.reg [13] [
        ⟨none, (some 11), .mov (.t 1), []⟩,
        ⟨none, (some 12), .call true 295 [.t 11, .c (.int .i64 (-12)), .c (.int .i64 12)], []⟩,
        ⟨none, (some 13), .un .not (.t 12), []⟩])
      (.cond (.t 13)
       (.seq
        (.reg [6] [
          ⟨none, (some 14), .ldV 7 none 12 true, []⟩,
          ⟨none, (some 6), .stV 6 none 12 (.t 14), []⟩])
        .ret)
       .skip))
     (.seq
      (.seq
       (.reg [15] [
         ⟨none, (some 15), .mov (.c (.int .i64 0)), []⟩])
       (.block 0
        (.loop b358_1)))
      (.seq
       (.reg [6] [
         ⟨none, (some 43), .ldV 7 none 12 true, []⟩,
         ⟨none, (some 6), .stV 6 none 12 (.t 43), []⟩])
       .ret)))))
def c358 : Fn := { np := 3, nt := 44, kind := .pure, res := [.v 6 12 true], body := k358 }

/- spec.l01Ok -/
def b359_1 : Cd :=
  (.seq
   (.seq
    (.reg [5] [
      ⟨none, (some 4), .mov (.t 3), []⟩,
      ⟨none, (some 5), .bin .lss (.t 4) (.c (.int .i64 12)), []⟩])
    (.cond (.t 5)
     .skip
     (.exit 0)))
   (.seq
    (.block 1
     (.seq
      (.reg [13] [
        ⟨none, (some 8), .mov (.t 0), []⟩,
        ⟨none, (some 9), .mov (.t 3), []⟩,
        ⟨none, (some 10), .nil (.t 8), []⟩,
        ⟨none, (some 11), .idxP 12 1 (.t 10) (.t 9), []⟩,
        ⟨none, (some 12), .ld 1 false (.t 11), []⟩,
        ⟨none, (some 13), .bin .gtr (.t 12) (.c (.int .u16 4095)), []⟩])
      (.cond (.t 13)
       (.seq
        (.reg [2] [
          ⟨none, (some 2), .mov (.c (.bool false)), []⟩])
        .ret)
       .skip)))
    (.reg [3] [
      ⟨none, (some 6), .mov (.t 3), []⟩,
      ⟨none, (some 7), .bin .add (.t 6) (.c (.int .i64 1)), []⟩,
      ⟨none, (some 3), .mov (.t 7), []⟩])))
def k359 : Cd :=
  (.seq
   (.reg [2] [
     ⟨none, (some 2), .mov (.c (.bool false)), []⟩])
   (.seq
    (.seq
     (.reg [3] [
       ⟨none, (some 3), .mov (.c (.int .i64 0)), []⟩])
     (.block 0
      (.loop b359_1)))
    (.seq
     (.reg [2] [
       ⟨none, (some 2), .mov (.c (.bool true)), []⟩])
     .ret)))
def c359 : Fn := { np := 1, nt := 14, kind := .pure, res := [.t 2], body := k359 }

/- impl.isMost -/
def k369 : Cd :=
  (.seq
   (.reg [2] [
     ⟨none, (some 2), .mov (.c (.bool false)), []⟩])
   (.seq
    (.reg [2] [
      ⟨none, (some 3), .mov (.t 0), []⟩,
      ⟨none, (some 4), .call true 295 [.t 3, .c (.int .i64 0), .c (.int .i64 4)], []⟩,
      ⟨none, (some 2), .mov (.t 4), []⟩])
    .ret))
def c369 : Fn := { np := 1, nt := 5, kind := .pure, res := [.t 2], body := k369 }

/- impl.movesUpTo -/
def b371_1 : Cd :=
  (.seq
   (.seq
    (.reg [19] [
      ⟨none, (some 17), .mov (.t 5), []⟩,
      ⟨none, (some 18), .mov (.t 0), []⟩,
      ⟨none, (some 19), .bin .leq (.t 17) (.t 18), []⟩])
    (.cond (.t 19)
     .skip
     (.exit 2)))
   (.seq
    (.block 3
     (.reg [3] [
       ⟨none, (some 22), .mov (.t 3), []⟩,
       ⟨none, (some 23), .mov (.t 4), []⟩,
       ⟨none, (some 24), .conv .i8 (.t 23), []⟩,
       ⟨none, (some 25), .mov (.t 5), []⟩,
       ⟨none, (some 26), .conv .i8 (.t 25), []⟩,
       ⟨none, (some 27), .agg [.int .i8 0, .int .i8 0] [(0, 1, (.t 24)), (1, 1, (.t 26))], []⟩,
       ⟨none, (some 28), .bldS 2 1 [.int .i8 0, .int .i8 0] [(0, 2, (.t 27))], []⟩,
       ⟨none, (some 29), .app 2 2 (.t 22) (.t 28), []⟩,
       ⟨none, (some 3), .mov (.t 29), []⟩]))
    (.reg [5] [
      ⟨none, (some 20), .mov (.t 5), []⟩,
      ⟨none, (some 21), .bin .add (.t 20) (.c (.int .i64 1)), []⟩,
      ⟨none, (some 5), .mov (.t 21), []⟩])))
def b371_2 : Cd :=
  (.seq
   (.seq
    (.reg [12] [
      ⟨none, (some 10), .mov (.t 4), []⟩,
      ⟨none, (some 11), .mov (.t 0), []⟩,
      ⟨none, (some 12), .bin .leq (.t 10) (.t 11), []⟩])
    (.cond (.t 12)
     .skip
     (.exit 0)))
   (.seq
    (.block 1
     (.seq
      (.reg [5] [
        ⟨none, (some 15), .mov (.t 0), []⟩,
        ⟨none, (some 16), .un .neg (.t 15), []⟩,
        ⟨none, (some 5), .mov (.t 16), []⟩])
      (.block 2
       (.loop b371_1))))
    (.reg [4] [
      ⟨none, (some 13), .mov (.t 4), []⟩,
      ⟨none, (some 14), .bin .add (.t 13) (.c (.int .i64 1)), []⟩,
      ⟨none, (some 4), .mov (.t 14), []⟩])))
def k371 : Cd :=
  (.seq
   (.reg [2] [
     ⟨none, (some 2), .mov (.c (.slice none 0 0)), []⟩])
   (.seq
    (.reg [3] [
      ⟨none, (some 7), .bldS 2 0 [.int .i8 0, .int .i8 0] [], []⟩,
      ⟨none, (some 3), .mov (.t 7), []⟩])
    (.seq
     (.seq
      (.reg [4] [
        ⟨none, (some 8), .mov (.t 0), []⟩,
        ⟨none, (some 9), .un .neg (.t 8), []⟩,
        ⟨none, (some 4), .mov (.t 9), []⟩])
      (.block 0
       (.loop b371_2)))
     (.seq
      (.reg [6] [
        ⟨none, (some 6), .new 1 [.nilFunc], []⟩,
        ⟨none, none, .st 1 (.t 6) (.f 515), []⟩])
      (.seq
       (.reg [] [
         ⟨none, (some 30), .mov (.t 3), []⟩,
         ⟨none, (some 31), .mkf 518 [.t 6], []⟩,
         ⟨none, (some 32), .call false 517 [.t 30, .t 31], []⟩])
       (.seq
        (.reg [2] [
          ⟨none, (some 33), .mov (.t 3), []⟩,
          ⟨none, (some 2), .mov (.t 33), []⟩])
        .ret))))))
def c371 : Fn := { np := 1, nt := 34, kind := .pure, res := [.t 2], body := k371 }

/- spec.l01Dots -/
def b440_1 : Cd :=
  (.seq
   (.seq
    (.reg [12] [
      ⟨none, (some 11), .mov (.t 5), []⟩,
      ⟨none, (some 12), .bin .lss (.t 11) (.c (.int .i64 12)), []⟩])
    (.cond (.t 12)
     .skip
     (.exit 2)))
   (.seq
    (.block 3
     (.seq
      (.reg [18] [
        ⟨none, (some 15), .mov (.t 0), []⟩,
        ⟨none, (some 16), .mov (.t 5), []⟩,
        ⟨none, (some 17), .mov (.t 4), []⟩,
        ⟨none, (some 18), .call true 456 [.t 15, .t 16, .t 17], []⟩])
      (.cond (.t 18)
       (.reg [3] [
         ⟨none, (some 19), .mov (.t 3), []⟩,
         ⟨none, (some 20), .mov (.t 5), []⟩,
         ⟨none, (some 21), .conv .i8 (.t 20), []⟩,
         ⟨none, (some 22), .mov (.t 4), []⟩,
         ⟨none, (some 23), .conv .i8 (.t 22), []⟩,
         ⟨none, (some 24), .agg [.int .i8 0, .int .i8 0] [(0, 1, (.t 21)), (1, 1, (.t 23))], []⟩,
         ⟨none, (some 25), .bldS 2 1 [.int .i8 0, .int .i8 0] [(0, 2, (.t 24))], []⟩,
         ⟨none, (some 26), .app 2 2 (.t 19) (.t 25), []⟩,
         ⟨none, (some 3), .mov (.t 26), []⟩])
       .skip)))
    (.reg [5] [
      ⟨none, (some 13), .mov (.t 5), []⟩,
      ⟨none, (some 14), .bin .add (.t 13) (.c (.int .i64 1)), []⟩,
      ⟨none, (some 5), .mov (.t 14), []⟩])))
def b440_2 : Cd :=
  (.seq
   (.seq
    (.reg [8] [
      ⟨none, (some 7), .mov (.t 4), []⟩,
      ⟨none, (some 8), .bin .lss (.t 7) (.c (.int .i64 12)), []⟩])
    (.cond (.t 8)
     .skip
     (.exit 0)))
   (.seq
    (.block 1
     (.seq
      (.reg [5] [
        ⟨none, (some 5), .mov (.c (.int .i64 0)), []⟩])
      (.block 2
       (.loop b440_1))))
    (.reg [4] [
      ⟨none, (some 9), .mov (.t 4), []⟩,
      ⟨none, (some 10), .bin .add (.t 9) (.c (.int .i64 1)), []⟩,
      ⟨none, (some 4), .mov (.t 10), []⟩])))
def k440 : Cd :=
  (.seq
   (.reg [2] [
     ⟨none, (some 2), .mov (.c (.slice none 0 0)), []⟩])
   (.seq
    (.reg [3] [
      ⟨none, (some 6), .bldS 2 0 [.int .i8 0, .int .i8 0] [], []⟩,
      ⟨none, (some 3), .mov (.t 6), []⟩])
    (.seq
     (.seq
      (.reg [4] [
        ⟨none, (some 4), .mov (.c (.int .i64 0)), []⟩])
      (.block 0
       (.loop b440_2)))
     (.seq
      (.reg [2] [
        ⟨none, (some 27), .mov (.t 3), []⟩,
        ⟨none, (some 2), .mov (.t 27), []⟩])
      .ret))))
def c440 : Fn := { np := 1, nt := 28, kind := .pure, res := [.t 2], body := k440 }

/- slices.ContainsFunc[[]uint16,uint16] -/
def k445 : Cd :=
  (.seq
   (.reg [4] [
     ⟨none, (some 4), .mov (.c (.bool false)), []⟩])
   (.seq
    (.reg [4] [
      ⟨none, (some 5), .mov (.t 0), []⟩,
      ⟨none, (some 6), .mov (.t 1), []⟩,
      ⟨none, (some 7), .call true 547 [.t 5, .t 6], []⟩,
      ⟨none, (some 8), .bin .geq (.t 7) (.c (.int .i64 0)), []⟩,
      ⟨none, (some 4), .mov (.t 8), []⟩])
    .ret))
def c445 : Fn := { np := 2, nt := 9, kind := .pure, res := [.t 4], body := k445 }

/- impl.ValidFrame$1 -/
def k446 : Cd :=
  (.seq
   (.reg [2] [
     ⟨none, (some 2), .mov (.c (.bool false)), []⟩])
   (.seq
    (.reg [2] [
      ⟨none, (some 3), .mov (.t 0), []⟩,
      ⟨none, (some 4), .bin .gtr (.t 3) (.c (.int .u16 4095)), []⟩,
      ⟨none, (some 2), .mov (.t 4), []⟩])
    .ret))
def c446 : Fn := { np := 1, nt := 5, kind := .pure, res := [.t 2], body := k446 }

/- spec.l01Has -/
def k456 : Cd :=
  (.seq
   (.reg [6] [
     ⟨none, (some 6), .mov (.c (.bool false)), []⟩])
   (.seq
    (.reg [6] [
      ⟨none, (some 7), .mov (.t 1), []⟩,
      ⟨none, (some 8), .mov (.t 2), []⟩,
      ⟨none, (some 9), .call true 342 [.t 7, .t 8], []⟩,
      ⟨none, (some 10), .mov (.t 9), []⟩,
      ⟨(some (10, true)), (some 11), .mov (.t 0), []⟩,
      ⟨(some (10, true)), (some 12), .mov (.t 2), []⟩,
      ⟨(some (10, true)), (some 13), .nil (.t 11), []⟩,
      ⟨(some (10, true)), (some 14), .idxP 12 1 (.t 13) (.t 12), []⟩,
      ⟨(some (10, true)), (some 15), .ld 1 false (.t 14), []⟩,
      ⟨(some (10, true)), (some 16), .mov (.t 1), []⟩,
      ⟨(some (10, true)), (some 17), .conv .u64 (.t 16), []⟩,
      ⟨(some (10, true)), (some 18), .bin .shr (.t 15) (.t 17), []⟩,
      ⟨(some (10, true)), (some 19), .bin .rem (.t 18) (.c (.int .u16 2)), []⟩,
      ⟨(some (10, true)), (some 20), .bin .eql (.t 19) (.c (.int .u16 1)), []⟩,
      ⟨none, (some 21), .pick (.t 10) (.t 20) (.c (.bool false)), []⟩,
      ⟨none, (some 6), .mov (.t 21), []⟩])
    .ret))
def c456 : Fn := { np := 3, nt := 22, kind := .pure, res := [.t 6], body := k456 }

/- slices.IndexFunc[[]impl.Frame,impl.Frame] -/
def b474_1 : Cd :=
  (.seq
   (.reg [9] [
     ⟨none, (some 9), .bin .lss (.t 8) (.t 7), []⟩])
   (.seq
    (.cond (.t 9)
     .skip
     (.exit 0))
    (.seq
     (.block 1
      (.seq
       (.reg [5] [
         ⟨none, (some 10), .mov (.t 8), []⟩,
         ⟨none, (some 5), .mov (.t 10), []⟩])
       (.seq
        (.reg [16] [
          ⟨none, (some 11), .mov (.t 1), []⟩,
          ⟨none, (some 12), .mov (.t 0), []⟩,
          ⟨none, (some 13), .mov (.t 5), []⟩,
          ⟨none, (some 14), .idxA 12 (.t 12) (.t 13), []⟩,
          ⟨none, (some 15), .ld 12 true (.t 14), []⟩,
          ⟨none, (some 16), .callv (.t 11) [.t 15], []⟩])
        (.cond (.t 16)
         (.seq
          (.reg [4] [
            ⟨none, (some 17), .mov (.t 5), []⟩,
            ⟨none, (some 4), .mov (.t 17), []⟩])
          .ret)
         .skip))))
     (.reg [8] [
       ⟨none, (some 18), .bin .add (.t 8) (.c (.int .i64 1)), []⟩,
       ⟨none, (some 8), .mov (.t 18), []⟩]))))
def k474 : Cd :=
  (.seq
   (.reg [4] [
     ⟨none, (some 4), .mov (.c (.int .i64 0)), []⟩])
   (.seq
    (.seq
     (.reg [7, 8] [
       ⟨none, (some 6), .mov (.t 0), []⟩,
       ⟨none, (some 7), .len (.t 6), []⟩,
       ⟨none, (some 8), .mov (.c (.int .i64 0)), []⟩])
     (.block 0
      (.loop b474_1)))
    (.seq
     (.reg [4] [
       ⟨none, (some 4), .mov (.c (.int .i64 (-1))), []⟩])
     .ret)))
def c474 : Fn := { np := 2, nt := 19, kind := .pure, res := [.t 4], body := k474 }

/- slices.ContainsFunc[[]impl.Frame,impl.Frame] -/
def k505 : Cd :=
  (.seq
   (.reg [4] [
     ⟨none, (some 4), .mov (.c (.bool false)), []⟩])
   (.seq
    (.reg [4] [
      ⟨none, (some 5), .mov (.t 0), []⟩,
      ⟨none, (some 6), .mov (.t 1), []⟩,
      ⟨none, (some 7), .call true 474 [.t 5, .t 6], []⟩,
      ⟨none, (some 8), .bin .geq (.t 7) (.c (.int .i64 0)), []⟩,
      ⟨none, (some 4), .mov (.t 8), []⟩])
    .ret))
def c505 : Fn := { np := 2, nt := 9, kind := .pure, res := [.t 4], body := k505 }

/- impl.areFrames$1 -/
def k506 : Cd :=
  (.seq
   (.reg [1, 2] [
     ⟨none, (some 1), .mov (.t 0), []⟩,
     ⟨none, (some 2), .mov (.c (.bool false)), []⟩])
   (.seq
    (.reg [2] [
      ⟨none, (some 3), .ldV 1 none 12 true, []⟩,
      ⟨none, (some 4), .call true 234 [.t 3], []⟩,
      ⟨none, (some 5), .un .not (.t 4), []⟩,
      ⟨none, (some 2), .mov (.t 5), []⟩])
    .ret))
def c506 : Fn := { np := 1, nt := 6, kind := .pure, res := [.t 2], body := k506 }

/- slices.IndexFunc[[]impl.Move,impl.Move] -/
def b507_1 : Cd :=
  (.seq
   (.reg [9] [
     ⟨none, (some 9), .bin .lss (.t 8) (.t 7), []⟩])
   (.seq
    (.cond (.t 9)
     .skip
     (.exit 0))
    (.seq
     (.block 1
      (.seq
       (.reg [5] [
         ⟨none, (some 10), .mov (.t 8), []⟩,
         ⟨none, (some 5), .mov (.t 10), []⟩])
       (.seq
        (.reg [16] [
          ⟨none, (some 11), .mov (.t 1), []⟩,
          ⟨none, (some 12), .mov (.t 0), []⟩,
          ⟨none, (some 13), .mov (.t 5), []⟩,
          ⟨none, (some 14), .idxA 2 (.t 12) (.t 13), []⟩,
          ⟨none, (some 15), .ld 2 true (.t 14), []⟩,
          ⟨none, (some 16), .callv (.t 11) [.t 15], []⟩])
        (.cond (.t 16)
         (.seq
          (.reg [4] [
            ⟨none, (some 17), .mov (.t 5), []⟩,
            ⟨none, (some 4), .mov (.t 17), []⟩])
          .ret)
         .skip))))
     (.reg [8] [
       ⟨none, (some 18), .bin .add (.t 8) (.c (.int .i64 1)), []⟩,
       ⟨none, (some 8), .mov (.t 18), []⟩]))))
def k507 : Cd :=
  (.seq
   (.reg [4] [
     ⟨none, (some 4), .mov (.c (.int .i64 0)), []⟩])
   (.seq
    (.seq
     (.reg [7, 8] [
       ⟨none, (some 6), .mov (.t 0), []⟩,
       ⟨none, (some 7), .len (.t 6), []⟩,
       ⟨none, (some 8), .mov (.c (.int .i64 0)), []⟩])
     (.block 0
      (.loop b507_1)))
    (.seq
     (.reg [4] [
       ⟨none, (some 4), .mov (.c (.int .i64 (-1))), []⟩])
     .ret)))
def c507 : Fn := { np := 2, nt := 19, kind := .pure, res := [.t 4], body := k507 }

/- (impl.Book).movedCopies$1 -/
def k508 : Cd :=
  (.seq
   (.reg [4, 5] [
     ⟨none, (some 4), .mov (.t 0), []⟩,
     ⟨none, (some 5), .mov (.c (.bool false)), []⟩])
   (.seq
    (.reg [5] [
      ⟨none, (some 6), .ld 1 false (.t 1), []⟩,
      ⟨none, (some 7), .ld 1 false (.t 2), []⟩,
      ⟨none, (some 8), .ld 1 false (.t 3), []⟩,
      ⟨none, (some 9), .ldV 4 none 2 true, []⟩,
      ⟨none, (some 10), .call true 509 [.t 6, .t 7, .t 8, .t 9], []⟩,
      ⟨none, (some 5), .mov (.t 10), []⟩])
    .ret))
def c508 : Fn := { np := 4, nt := 11, kind := .pure, res := [.t 5], body := k508 }

/- (impl.Book).copyAt -/
def b509_1 : Cd :=
  (.seq
   (.reg [14] [
     ⟨none, (some 14), .bin .lss (.t 13) (.t 12), []⟩])
   (.seq
    (.cond (.t 14)
     .skip
     (.exit 0))
    (.seq
     (.block 1
      (.seq
       (.reg [10, 9] [
         ⟨none, (some 15), .mov (.t 13), []⟩,
         ⟨none, (some 16), .idxA 12 (.t 11) (.t 13), []⟩,
         ⟨none, (some 17), .ld 12 true (.t 16), []⟩,
         ⟨none, (some 10), .zero true (zs 12 (.int .u16 0)), []⟩,
         ⟨none, (some 9), .mov (.t 15), []⟩,
         ⟨none, (some 10), .stV 10 none 12 (.t 17), []⟩])
       (.seq
        (.reg [27] [
          ⟨none, (some 18), .mov (.t 0), []⟩,
          ⟨none, (some 19), .mov (.t 1), []⟩,
          ⟨none, (some 20), .mov (.t 9), []⟩,
          ⟨none, (some 21), .bin .add (.t 19) (.t 20), []⟩,
          ⟨none, (some 22), .idxA 12 (.t 18) (.t 21), []⟩,
          ⟨none, (some 23), .ld 12 true (.t 22), []⟩,
          ⟨none, (some 24), .ldV 10 none 12 true, []⟩,
          ⟨none, (some 25), .ldV 7 none 2 true, []⟩,
          ⟨none, (some 26), .call true 514 [.t 24, .t 25], []⟩,
          ⟨none, (some 27), .eq (.a (rb 12 (some .u16))) true (.t 23) (.t 26), []⟩])
        (.cond (.t 27)
         (.seq
          (.reg [8] [
            ⟨none, (some 8), .mov (.c (.bool false)), []⟩])
          .ret)
         .skip))))
     (.reg [13] [
       ⟨none, (some 28), .bin .add (.t 13) (.c (.int .i64 1)), []⟩,
       ⟨none, (some 13), .mov (.t 28), []⟩]))))
def k509 : Cd :=
  (.seq
   (.reg [7, 8] [
     ⟨none, (some 7), .mov (.t 3), []⟩,
     ⟨none, (some 8), .mov (.c (.bool false)), []⟩])
   (.seq
    (.seq
     (.reg [11, 12, 13] [
       ⟨none, (some 11), .mov (.t 2), []⟩,
       ⟨none, (some 12), .len (.t 11), []⟩,
       ⟨none, (some 13), .mov (.c (.int .i64 0)), []⟩])
     (.block 0
      (.loop b509_1)))
    (.seq
     (.reg [8] [
       ⟨none, (some 8), .mov (.c (.bool true)), []⟩])
     .ret)))
def c509 : Fn := { np := 4, nt := 29, kind := .pure, res := [.t 8], body := k509 }

/- spec.l07Far -/
def k510 : Cd :=
  (.seq
   (.reg [1, 2] [
     ⟨none, (some 1), .mov (.t 0), []⟩,
     ⟨none, (some 2), .mov (.c (.int .i64 0)), []⟩])
   (.seq
    (.reg [3] [
      ⟨none, (some 5), .adrF 1 none 0, []⟩,
      ⟨none, (some 6), .ldV 1 (some 5) 1 false, []⟩,
      ⟨none, (some 7), .conv .i64 (.t 6), []⟩,
      ⟨none, (some 3), .mov (.t 7), []⟩])
    (.seq
     (.reg [4] [
       ⟨none, (some 8), .adrF 1 none 1, []⟩,
       ⟨none, (some 9), .ldV 1 (some 8) 1 false, []⟩,
       ⟨none, (some 10), .conv .i64 (.t 9), []⟩,
       ⟨none, (some 4), .mov (.t 10), []⟩])
     (.seq
      (.reg [2] [
        ⟨none, (some 11), .mov (.t 3), []⟩,
        ⟨none, (some 12), .mov (.t 3), []⟩,
        ⟨none, (some 13), .un .neg (.t 12), []⟩,
        ⟨none, (some 14), .call true 549 [.t 11, .t 13], []⟩,
        ⟨none, (some 15), .mov (.t 4), []⟩,
        ⟨none, (some 16), .mov (.t 4), []⟩,
        ⟨none, (some 17), .un .neg (.t 16), []⟩,
        ⟨none, (some 18), .call true 549 [.t 15, .t 17], []⟩,
        ⟨none, (some 19), .bin .add (.t 14) (.t 18), []⟩,
        ⟨none, (some 2), .mov (.t 19), []⟩])
      .ret))))
def c510 : Fn := { np := 1, nt := 20, kind := .pure, res := [.t 2], body := k510 }

/- (impl.Frame).by -/
def k514 : Cd :=
  (.seq
   (.reg [2, 3, 4] [
     ⟨none, (some 2), .mov (.t 0), []⟩,
     ⟨none, (some 3), .mov (.t 1), []⟩,
     ⟨none, (some 4), .zero true (zs 12 (.int .u16 0)), []⟩])
   (.seq
    (.reg [4] [
      ⟨none, (some 5), .ldV 2 none 12 true, []⟩,
      ⟨none, (some 6), .adrF 3 none 0, []⟩,
      ⟨none, (some 7), .ldV 3 (some 6) 1 false, []⟩,
      ⟨none, (some 8), .conv .i64 (.t 7), []⟩,
      ⟨none, (some 9), .adrF 3 none 1, []⟩,
      ⟨none, (some 10), .ldV 3 (some 9) 1 false, []⟩,
      ⟨none, (some 11), .conv .i64 (.t 10), []⟩,
      ⟨none, (some 12), .call true 358 [.t 5, .t 8, .t 11], []⟩,
      ⟨none, (some 4), .stV 4 none 12 (.t 12), []⟩])
    .ret))
def c514 : Fn := { np := 2, nt := 13, kind := .pure, res := [.v 4 12 true], body := k514 }

/- impl.movesUpTo$1 -/
def k515 : Cd :=
  (.seq
   (.reg [1, 2] [
     ⟨none, (some 1), .mov (.t 0), []⟩,
     ⟨none, (some 2), .mov (.c (.int .i64 0)), []⟩])
   (.seq
    (.reg [2] [
      ⟨none, (some 3), .adrF 1 none 0, []⟩,
      ⟨none, (some 4), .ldV 1 (some 3) 1 false, []⟩,
      ⟨none, (some 5), .conv .i64 (.t 4), []⟩,
      ⟨none, (some 7), .adrF 1 none 1, []⟩,
      ⟨none, (some 8), .ldV 1 (some 7) 1 false, []⟩,
      ⟨none, (some 9), .conv .i64 (.t 8), []⟩,
      ⟨none, (some 6), .call true 516 [.t 5], []⟩,
      ⟨none, (some 10), .call true 516 [.t 9], []⟩,
      ⟨none, (some 11), .bin .add (.t 6) (.t 10), []⟩,
      ⟨none, (some 2), .mov (.t 11), []⟩])
    .ret))
def c515 : Fn := { np := 1, nt := 12, kind := .pure, res := [.t 2], body := k515 }

/- impl.size -/
def k516 : Cd :=
  (.seq
   (.reg [2] [
     ⟨none, (some 2), .mov (.c (.int .i64 0)), []⟩])
   (.seq
    (.reg [2] [
      ⟨none, (some 3), .mov (.t 0), []⟩,
      ⟨none, (some 4), .mov (.t 0), []⟩,
      ⟨none, (some 5), .un .neg (.t 4), []⟩,
      ⟨none, (some 6), .mx (.t 3) (.t 5), []⟩,
      ⟨none, (some 2), .mov (.t 6), []⟩])
    .ret))
def c516 : Fn := { np := 1, nt := 7, kind := .pure, res := [.t 2], body := k516 }

/- slices.SortStableFunc[[]impl.Move,impl.Move] -/
def k517 : Cd :=
  (.reg [] [
    ⟨none, (some 4), .mov (.t 0), []⟩,
    ⟨none, (some 5), .mov (.t 0), []⟩,
    ⟨none, (some 6), .len (.t 5), []⟩,
    ⟨none, (some 7), .mov (.t 1), []⟩,
    ⟨none, (some 8), .call false 565 [.t 4, .t 6, .t 7], []⟩])
def c517 : Fn := { np := 2, nt := 9, kind := .args, res := [], body := k517 }

/- impl.movesUpTo$2 -/
def k518 : Cd :=
  (.seq
   (.reg [3, 4, 5] [
     ⟨none, (some 3), .mov (.t 0), []⟩,
     ⟨none, (some 4), .mov (.t 1), []⟩,
     ⟨none, (some 5), .mov (.c (.int .i64 0)), []⟩])
   (.seq
    (.reg [5] [
      ⟨none, (some 6), .ld 1 false (.t 2), []⟩,
      ⟨none, (some 7), .ldV 3 none 2 true, []⟩,
      ⟨none, (some 9), .ld 1 false (.t 2), []⟩,
      ⟨none, (some 10), .ldV 4 none 2 true, []⟩,
      ⟨none, (some 8), .callv (.t 6) [.t 7], []⟩,
      ⟨none, (some 11), .callv (.t 9) [.t 10], []⟩,
      ⟨none, (some 12), .call true 519 [.t 8, .t 11], []⟩,
      ⟨none, (some 5), .mov (.t 12), []⟩])
    .ret))
def c518 : Fn := { np := 3, nt := 13, kind := .pure, res := [.t 5], body := k518 }

/- cmp.Compare[int64] -/
def k519 : Cd :=
  (.seq
   (.reg [4] [
     ⟨none, (some 4), .mov (.c (.int .i64 0)), []⟩])
   (.seq
    (.reg [5] [
      ⟨none, (some 7), .mov (.t 0), []⟩,
      ⟨none, (some 8), .call true 566 [.t 7], []⟩,
      ⟨none, (some 5), .mov (.t 8), []⟩])
    (.seq
     (.reg [6] [
       ⟨none, (some 9), .mov (.t 1), []⟩,
       ⟨none, (some 10), .call true 566 [.t 9], []⟩,
       ⟨none, (some 6), .mov (.t 10), []⟩])
     (.seq
      (.seq
       (.reg [11] [
         ⟨none, (some 11), .mov (.t 5), []⟩])
       (.cond (.t 11)
        (.seq
         (.seq
          (.reg [12] [
            ⟨none, (some 12), .mov (.t 6), []⟩])
          (.cond (.t 12)
           (.seq
            (.reg [4] [
              ⟨none, (some 4), .mov (.c (.int .i64 0)), []⟩])
            .ret)
           .skip))
         (.seq
          (.reg [4] [
            ⟨none, (some 4), .mov (.c (.int .i64 (-1))), []⟩])
          .ret))
        .skip))
      (.seq
       (.seq
        (.reg [13] [
          ⟨none, (some 13), .mov (.t 6), []⟩])
        (.cond (.t 13)
         (.seq
          (.reg [4] [
            ⟨none, (some 4), .mov (.c (.int .i64 1)), []⟩])
          .ret)
         .skip))
       (.seq
        (.seq
         (.reg [16] [
           ⟨none, (some 14), .mov (.t 0), []⟩,
           ⟨none, (some 15), .mov (.t 1), []⟩,
           ⟨none, (some 16), .bin .lss (.t 14) (.t 15), []⟩])
         (.cond (.t 16)
          (.seq
           (.reg [4] [
             ⟨none, (some 4), .mov (.c (.int .i64 (-1))), []⟩])
           .ret)
          .skip))
        (.seq
         (.seq
          (.reg [19] [
            ⟨none, (some 17), .mov (.t 0), []⟩,
            ⟨none, (some 18), .mov (.t 1), []⟩,
            ⟨none, (some 19), .bin .gtr (.t 17) (.t 18), []⟩])
          (.cond (.t 19)
           (.seq
            (.reg [4] [
              ⟨none, (some 4), .mov (.c (.int .i64 1)), []⟩])
            .ret)
           .skip))
         (.seq
          (.reg [4] [
            ⟨none, (some 4), .mov (.c (.int .i64 0)), []⟩])
          .ret))))))))
def c519 : Fn := { np := 2, nt := 20, kind := .pure, res := [.t 4], body := k519 }

/- slices.IndexFunc[[]uint16,uint16] -/
def b547_1 : Cd :=
  (.seq
   (.reg [9] [
     ⟨none, (some 9), .bin .lss (.t 8) (.t 7), []⟩])
   (.seq
    (.cond (.t 9)
     .skip
     (.exit 0))
    (.seq
     (.block 1
      (.seq
       (.reg [5] [
         ⟨none, (some 10), .mov (.t 8), []⟩,
         ⟨none, (some 5), .mov (.t 10), []⟩])
       (.seq
        (.reg [16] [
          ⟨none, (some 11), .mov (.t 1), []⟩,
          ⟨none, (some 12), .mov (.t 0), []⟩,
          ⟨none, (some 13), .mov (.t 5), []⟩,
          ⟨none, (some 14), .idxA 1 (.t 12) (.t 13), []⟩,
          ⟨none, (some 15), .ld 1 false (.t 14), []⟩,
          ⟨none, (some 16), .callv (.t 11) [.t 15], []⟩])
        (.cond (.t 16)
         (.seq
          (.reg [4] [
            ⟨none, (some 17), .mov (.t 5), []⟩,
            ⟨none, (some 4), .mov (.t 17), []⟩])
          .ret)
         .skip))))
     (.reg [8] [
       ⟨none, (some 18), .bin .add (.t 8) (.c (.int .i64 1)), []⟩,
       ⟨none, (some 8), .mov (.t 18), []⟩]))))
def k547 : Cd :=
  (.seq
   (.reg [4] [
     ⟨none, (some 4), .mov (.c (.int .i64 0)), []⟩])
   (.seq
    (.seq
     (.reg [7, 8] [
       ⟨none, (some 6), .mov (.t 0), []⟩,
       ⟨none, (some 7), .len (.t 6), []⟩,
       ⟨none, (some 8), .mov (.c (.int .i64 0)), []⟩])
     (.block 0
      (.loop b547_1)))
    (.seq
     (.reg [4] [
       ⟨none, (some 4), .mov (.c (.int .i64 (-1))), []⟩])
     .ret)))
def c547 : Fn := { np := 2, nt := 19, kind := .pure, res := [.t 4], body := k547 }

/- spec.l00Max -/
def k549 : Cd :=
  (.seq
   (.reg [4] [
     ⟨none, (some 4), .mov (.c (.int .i64 0)), []⟩])
   (.seq
    (.seq
     (.reg [7] [
       ⟨none, (some 5), .mov (.t 0), []⟩,
       ⟨none, (some 6), .mov (.t 1), []⟩,
       ⟨none, (some 7), .bin .gtr (.t 5) (.t 6), []⟩])
     (.cond (.t 7)
      (.seq
       (.reg [4] [
         ⟨none, (some 8), .mov (.t 0), []⟩,
         ⟨none, (some 4), .mov (.t 8), []⟩])
       .ret)
      .skip))
    (.seq
     (.reg [4] [
       ⟨none, (some 9), .mov (.t 1), []⟩,
       ⟨none, (some 4), .mov (.t 9), []⟩])
     .ret)))
def c549 : Fn := { np := 2, nt := 10, kind := .pure, res := [.t 4], body := k549 }

/- slices.stableCmpFunc[impl.Move] -/
def b565_1 : Cd :=
  (.seq
   (.seq
    (.reg [13] [
      ⟨none, (some 11), .mov (.t 8), []⟩,
      ⟨none, (some 12), .mov (.t 1), []⟩,
      ⟨none, (some 13), .bin .leq (.t 11) (.t 12), []⟩])
    (.cond (.t 13)
     .skip
     (.exit 0)))
   (.block 1
    (.seq
     (.reg [] [
       ⟨none, (some 14), .mov (.t 0), []⟩,
       ⟨none, (some 15), .mov (.t 7), []⟩,
       ⟨none, (some 16), .mov (.t 8), []⟩,
       ⟨none, (some 17), .mov (.t 2), []⟩,
       ⟨none, (some 18), .call false 589 [.t 14, .t 15, .t 16, .t 17], []⟩])
     (.seq
      (.reg [7] [
        ⟨none, (some 19), .mov (.t 8), []⟩,
        ⟨none, (some 7), .mov (.t 19), []⟩])
      (.reg [8] [
        ⟨none, (some 20), .mov (.t 8), []⟩,
        ⟨none, (some 21), .mov (.t 6), []⟩,
        ⟨none, (some 22), .bin .add (.t 20) (.t 21), []⟩,
        ⟨none, (some 8), .mov (.t 22), []⟩])))))
def b565_2 : Cd :=
  (.seq
   (.seq
    (.reg [35] [
      ⟨none, (some 33), .mov (.t 8), []⟩,
      ⟨none, (some 34), .mov (.t 1), []⟩,
      ⟨none, (some 35), .bin .leq (.t 33) (.t 34), []⟩])
    (.cond (.t 35)
     .skip
     (.exit 4)))
   (.block 5
    (.seq
     (.reg [] [
       ⟨none, (some 36), .mov (.t 0), []⟩,
       ⟨none, (some 37), .mov (.t 7), []⟩,
       ⟨none, (some 38), .mov (.t 7), []⟩,
       ⟨none, (some 39), .mov (.t 6), []⟩,
       ⟨none, (some 40), .bin .add (.t 38) (.t 39), []⟩,
       ⟨none, (some 41), .mov (.t 8), []⟩,
       ⟨none, (some 42), .mov (.t 2), []⟩,
       ⟨none, (some 43), .call false 590 [.t 36, .t 37, .t 40, .t 41, .t 42], []⟩])
     (.seq
      (.reg [7] [
        ⟨none, (some 44), .mov (.t 8), []⟩,
        ⟨none, (some 7), .mov (.t 44), []⟩])
      (.reg [8] [
        ⟨none, (some 45), .mov (.t 8), []⟩,
        ⟨none, (some 46), .mov (.t 6), []⟩,
        ⟨none, (some 47), .bin .mul (.c (.int .i64 2)) (.t 46), []⟩,
        ⟨none, (some 48), .bin .add (.t 45) (.t 47), []⟩,
        ⟨none, (some 8), .mov (.t 48), []⟩])))))
def b565_3 : Cd :=
  (.seq
   (.seq
    (.reg [30] [
      ⟨none, (some 28), .mov (.t 6), []⟩,
      ⟨none, (some 29), .mov (.t 1), []⟩,
      ⟨none, (some 30), .bin .lss (.t 28) (.t 29), []⟩])
    (.cond (.t 30)
     .skip
     (.exit 2)))
   (.block 3
    (.seq
     (.reg [7, 8] [
       ⟨none, (some 31), .mov (.t 6), []⟩,
       ⟨none, (some 32), .bin .mul (.c (.int .i64 2)) (.t 31), []⟩,
       ⟨none, (some 7), .mov (.c (.int .i64 0)), []⟩,
       ⟨none, (some 8), .mov (.t 32), []⟩])
     (.seq
      (.block 4
       (.loop b565_2))
      (.seq
       (.seq
        (.reg [9] [
          ⟨none, (some 49), .mov (.t 7), []⟩,
          ⟨none, (some 50), .mov (.t 6), []⟩,
          ⟨none, (some 51), .bin .add (.t 49) (.t 50), []⟩,
          ⟨none, (some 9), .mov (.t 51), []⟩])
        (.seq
         (.reg [54] [
           ⟨none, (some 52), .mov (.t 9), []⟩,
           ⟨none, (some 53), .mov (.t 1), []⟩,
           ⟨none, (some 54), .bin .lss (.t 52) (.t 53), []⟩])
         (.cond (.t 54)
          (.reg [] [
            ⟨none, (some 55), .mov (.t 0), []⟩,
            ⟨none, (some 56), .mov (.t 7), []⟩,
            ⟨none, (some 57), .mov (.t 9), []⟩,
            ⟨none, (some 58), .mov (.t 1), []⟩,
            ⟨none, (some 59), .mov (.t 2), []⟩,
            ⟨none, (some 60), .call false 590 [.t 55, .t 56, .t 57, .t 58, .t 59], []⟩])
          .skip)))
       (.reg [6] [
         ⟨none, (some 61), .mov (.t 6), []⟩,
         ⟨none, (some 62), .bin .mul (.t 61) (.c (.int .i64 2)), []⟩,
         ⟨none, (some 6), .mov (.t 62), []⟩]))))))
def k565 : Cd :=
  (.seq
   (.reg [6] [
     ⟨none, (some 6), .mov (.c (.int .i64 20)), []⟩])
   (.seq
    (.reg [7, 8] [
      ⟨none, (some 10), .mov (.t 6), []⟩,
      ⟨none, (some 7), .mov (.c (.int .i64 0)), []⟩,
      ⟨none, (some 8), .mov (.t 10), []⟩])
    (.seq
     (.block 0
      (.loop b565_1))
     (.seq
      (.reg [] [
        ⟨none, (some 23), .mov (.t 0), []⟩,
        ⟨none, (some 24), .mov (.t 7), []⟩,
        ⟨none, (some 25), .mov (.t 1), []⟩,
        ⟨none, (some 26), .mov (.t 2), []⟩,
        ⟨none, (some 27), .call false 589 [.t 23, .t 24, .t 25, .t 26], []⟩])
      (.block 2
       (.loop b565_3))))))
def c565 : Fn := { np := 3, nt := 63, kind := .args, res := [], body := k565 }

/- cmp.isNaN[int64] -/
def k566 : Cd :=
  (.seq
   (.reg [2] [
     ⟨none, (some 2), .mov (.c (.bool false)), []⟩])
   (.seq
    (.reg [2] [
      ⟨none, (some 3), .mov (.t 0), []⟩,
      ⟨none, (some 4), .mov (.t 0), []⟩,
      ⟨none, (some 5), .bin .neq (.t 3) (.t 4), []⟩,
      ⟨none, (some 2), .mov (.t 5), []⟩])
    .ret))
def c566 : Fn := { np := 1, nt := 6, kind := .pure, res := [.t 2], body := k566 }

/- slices.insertionSortCmpFunc[impl.Move] -/
def b589_1 : Cd :=
  (.seq
   (.seq
    (.reg [34] [
      ⟨none, (some 18), .mov (.t 9), []⟩,
      ⟨none, (some 19), .mov (.t 1), []⟩,
      ⟨none, (some 20), .bin .gtr (.t 18) (.t 19), []⟩,
      ⟨none, (some 21), .mov (.t 20), []⟩,
      ⟨(some (21, true)), (some 22), .mov (.t 3), []⟩,
      ⟨(some (21, true)), (some 23), .mov (.t 0), []⟩,
      ⟨(some (21, true)), (some 24), .mov (.t 9), []⟩,
      ⟨(some (21, true)), (some 25), .idxA 2 (.t 23) (.t 24), []⟩,
      ⟨(some (21, true)), (some 26), .ld 2 true (.t 25), []⟩,
      ⟨(some (21, true)), (some 27), .mov (.t 0), []⟩,
      ⟨(some (21, true)), (some 28), .mov (.t 9), []⟩,
      ⟨(some (21, true)), (some 29), .bin .sub (.t 28) (.c (.int .i64 1)), []⟩,
      ⟨(some (21, true)), (some 30), .idxA 2 (.t 27) (.t 29), []⟩,
      ⟨(some (21, true)), (some 31), .ld 2 true (.t 30), []⟩,
      ⟨(some (21, true)), (some 32), .callv (.t 22) [.t 26, .t 31], []⟩,
      ⟨(some (21, true)), (some 33), .bin .lss (.t 32) (.c (.int .i64 0)), []⟩,
      ⟨none, (some 34), .pick (.t 21) (.t 33) (.c (.bool false)), []⟩])
    (.cond (.t 34)
     .skip
     (.exit 2)))
   (.seq
    (.block 3
     (.reg [] [
       ⟨none, (some 37), .mov (.t 0), []⟩,
       ⟨none, (some 38), .mov (.t 9), []⟩,
       ⟨none, (some 39), .mov (.t 0), []⟩,
       ⟨none, (some 40), .mov (.t 9), []⟩,
       ⟨none, (some 41), .bin .sub (.t 40) (.c (.int .i64 1)), []⟩,
       ⟨none, (some 42), .mov (.t 0), []⟩,
       ⟨none, (some 43), .mov (.t 9), []⟩,
       ⟨none, (some 44), .bin .sub (.t 43) (.c (.int .i64 1)), []⟩,
       ⟨none, (some 45), .idxA 2 (.t 42) (.t 44), []⟩,
       ⟨none, (some 46), .ld 2 true (.t 45), []⟩,
       ⟨none, (some 47), .mov (.t 0), []⟩,
       ⟨none, (some 48), .mov (.t 9), []⟩,
       ⟨none, (some 49), .idxA 2 (.t 47) (.t 48), []⟩,
       ⟨none, (some 50), .ld 2 true (.t 49), []⟩,
       ⟨none, (some 51), .idxA 2 (.t 37) (.t 38), []⟩,
       ⟨none, none, .st 2 (.t 51) (.t 46), []⟩,
       ⟨none, (some 52), .idxA 2 (.t 39) (.t 41), []⟩,
       ⟨none, none, .st 2 (.t 52) (.t 50), []⟩]))
    (.reg [9] [
      ⟨none, (some 35), .mov (.t 9), []⟩,
      ⟨none, (some 36), .bin .sub (.t 35) (.c (.int .i64 1)), []⟩,
      ⟨none, (some 9), .mov (.t 36), []⟩])))
def b589_2 : Cd :=
  (.seq
   (.seq
    (.reg [14] [
      ⟨none, (some 12), .mov (.t 8), []⟩,
      ⟨none, (some 13), .mov (.t 2), []⟩,
      ⟨none, (some 14), .bin .lss (.t 12) (.t 13), []⟩])
    (.cond (.t 14)
     .skip
     (.exit 0)))
   (.seq
    (.block 1
     (.seq
      (.reg [9] [
        ⟨none, (some 17), .mov (.t 8), []⟩,
        ⟨none, (some 9), .mov (.t 17), []⟩])
      (.block 2
       (.loop b589_1))))
    (.reg [8] [
      ⟨none, (some 15), .mov (.t 8), []⟩,
      ⟨none, (some 16), .bin .add (.t 15) (.c (.int .i64 1)), []⟩,
      ⟨none, (some 8), .mov (.t 16), []⟩])))
def k589 : Cd :=
  (.seq
   (.reg [8] [
     ⟨none, (some 10), .mov (.t 1), []⟩,
     ⟨none, (some 11), .bin .add (.t 10) (.c (.int .i64 1)), []⟩,
     ⟨none, (some 8), .mov (.t 11), []⟩])
   (.block 0
    (.loop b589_2)))
def c589 : Fn := { np := 4, nt := 53, kind := .args, res := [], body := k589 }

/- slices.symMergeCmpFunc[impl.Move] -/
def b590_1 : Cd :=
  (.seq
   (.seq
    (.reg [33] [
      ⟨none, (some 31), .mov (.t 10), []⟩,
      ⟨none, (some 32), .mov (.t 11), []⟩,
      ⟨none, (some 33), .bin .lss (.t 31) (.t 32), []⟩])
    (.cond (.t 33)
     .skip
     (.exit 0)))
   (.block 1
    (.seq
     (.reg [12] [
       ⟨none, (some 34), .mov (.t 10), []⟩,
       ⟨none, (some 35), .mov (.t 11), []⟩,
       ⟨none, (some 36), .bin .add (.t 34) (.t 35), []⟩,
       ⟨none, (some 37), .conv .u64 (.t 36), []⟩,
       ⟨none, (some 38), .bin .shr (.t 37) (.c (.int .u64 1)), []⟩,
       ⟨none, (some 39), .conv .i64 (.t 38), []⟩,
       ⟨none, (some 12), .mov (.t 39), []⟩])
     (.seq
      (.reg [50] [
        ⟨none, (some 40), .mov (.t 4), []⟩,
        ⟨none, (some 41), .mov (.t 0), []⟩,
        ⟨none, (some 42), .mov (.t 12), []⟩,
        ⟨none, (some 43), .idxA 2 (.t 41) (.t 42), []⟩,
        ⟨none, (some 44), .ld 2 true (.t 43), []⟩,
        ⟨none, (some 45), .mov (.t 0), []⟩,
        ⟨none, (some 46), .mov (.t 1), []⟩,
        ⟨none, (some 47), .idxA 2 (.t 45) (.t 46), []⟩,
        ⟨none, (some 48), .ld 2 true (.t 47), []⟩,
        ⟨none, (some 49), .callv (.t 40) [.t 44, .t 48], []⟩,
        ⟨none, (some 50), .bin .lss (.t 49) (.c (.int .i64 0)), []⟩])
      (.cond (.t 50)
       (.reg [10] [
         ⟨none, (some 51), .mov (.t 12), []⟩,
         ⟨none, (some 52), .bin .add (.t 51) (.c (.int .i64 1)), []⟩,
         ⟨none, (some 10), .mov (.t 52), []⟩])
       (.reg [11] [
         ⟨none, (some 53), .mov (.t 12), []⟩,
         ⟨none, (some 11), .mov (.t 53), []⟩]))))))
def b590_2 : Cd :=
  (.seq
   (.seq
    (.reg [58] [
      ⟨none, (some 55), .mov (.t 13), []⟩,
      ⟨none, (some 56), .mov (.t 10), []⟩,
      ⟨none, (some 57), .bin .sub (.t 56) (.c (.int .i64 1)), []⟩,
      ⟨none, (some 58), .bin .lss (.t 55) (.t 57), []⟩])
    (.cond (.t 58)
     .skip
     (.exit 2)))
   (.seq
    (.block 3
     (.reg [] [
       ⟨none, (some 61), .mov (.t 0), []⟩,
       ⟨none, (some 62), .mov (.t 13), []⟩,
       ⟨none, (some 63), .mov (.t 0), []⟩,
       ⟨none, (some 64), .mov (.t 13), []⟩,
       ⟨none, (some 65), .bin .add (.t 64) (.c (.int .i64 1)), []⟩,
       ⟨none, (some 66), .mov (.t 0), []⟩,
       ⟨none, (some 67), .mov (.t 13), []⟩,
       ⟨none, (some 68), .bin .add (.t 67) (.c (.int .i64 1)), []⟩,
       ⟨none, (some 69), .idxA 2 (.t 66) (.t 68), []⟩,
       ⟨none, (some 70), .ld 2 true (.t 69), []⟩,
       ⟨none, (some 71), .mov (.t 0), []⟩,
       ⟨none, (some 72), .mov (.t 13), []⟩,
       ⟨none, (some 73), .idxA 2 (.t 71) (.t 72), []⟩,
       ⟨none, (some 74), .ld 2 true (.t 73), []⟩,
       ⟨none, (some 75), .idxA 2 (.t 61) (.t 62), []⟩,
       ⟨none, none, .st 2 (.t 75) (.t 70), []⟩,
       ⟨none, (some 76), .idxA 2 (.t 63) (.t 65), []⟩,
       ⟨none, none, .st 2 (.t 76) (.t 74), []⟩]))
    (.reg [13] [
      ⟨none, (some 59), .mov (.t 13), []⟩,
      ⟨none, (some 60), .bin .add (.t 59) (.c (.int .i64 1)), []⟩,
      ⟨none, (some 13), .mov (.t 60), []⟩])))
def b590_3 : Cd :=
  (.seq
   (.seq
    (.reg [85] [
      ⟨none, (some 83), .mov (.t 14), []⟩,
      ⟨none, (some 84), .mov (.t 15), []⟩,
      ⟨none, (some 85), .bin .lss (.t 83) (.t 84), []⟩])
    (.cond (.t 85)
     .skip
     (.exit 4)))
   (.block 5
    (.seq
     (.reg [16] [
       ⟨none, (some 86), .mov (.t 14), []⟩,
       ⟨none, (some 87), .mov (.t 15), []⟩,
       ⟨none, (some 88), .bin .add (.t 86) (.t 87), []⟩,
       ⟨none, (some 89), .conv .u64 (.t 88), []⟩,
       ⟨none, (some 90), .bin .shr (.t 89) (.c (.int .u64 1)), []⟩,
       ⟨none, (some 91), .conv .i64 (.t 90), []⟩,
       ⟨none, (some 16), .mov (.t 91), []⟩])
     (.seq
      (.reg [103] [
        ⟨none, (some 92), .mov (.t 4), []⟩,
        ⟨none, (some 93), .mov (.t 0), []⟩,
        ⟨none, (some 94), .mov (.t 2), []⟩,
        ⟨none, (some 95), .idxA 2 (.t 93) (.t 94), []⟩,
        ⟨none, (some 96), .ld 2 true (.t 95), []⟩,
        ⟨none, (some 97), .mov (.t 0), []⟩,
        ⟨none, (some 98), .mov (.t 16), []⟩,
        ⟨none, (some 99), .idxA 2 (.t 97) (.t 98), []⟩,
        ⟨none, (some 100), .ld 2 true (.t 99), []⟩,
        ⟨none, (some 101), .callv (.t 92) [.t 96, .t 100], []⟩,
        ⟨none, (some 102), .bin .lss (.t 101) (.c (.int .i64 0)), []⟩,
        ⟨none, (some 103), .un .not (.t 102), []⟩])
      (.cond (.t 103)
       (.reg [14] [
         ⟨none, (some 104), .mov (.t 16), []⟩,
         ⟨none, (some 105), .bin .add (.t 104) (.c (.int .i64 1)), []⟩,
         ⟨none, (some 14), .mov (.t 105), []⟩])
       (.reg [15] [
         ⟨none, (some 106), .mov (.t 16), []⟩,
         ⟨none, (some 15), .mov (.t 106), []⟩]))))))
def b590_4 : Cd :=
  (.seq
   (.seq
    (.reg [110] [
      ⟨none, (some 108), .mov (.t 17), []⟩,
      ⟨none, (some 109), .mov (.t 14), []⟩,
      ⟨none, (some 110), .bin .gtr (.t 108) (.t 109), []⟩])
    (.cond (.t 110)
     .skip
     (.exit 6)))
   (.seq
    (.block 7
     (.reg [] [
       ⟨none, (some 113), .mov (.t 0), []⟩,
       ⟨none, (some 114), .mov (.t 17), []⟩,
       ⟨none, (some 115), .mov (.t 0), []⟩,
       ⟨none, (some 116), .mov (.t 17), []⟩,
       ⟨none, (some 117), .bin .sub (.t 116) (.c (.int .i64 1)), []⟩,
       ⟨none, (some 118), .mov (.t 0), []⟩,
       ⟨none, (some 119), .mov (.t 17), []⟩,
       ⟨none, (some 120), .bin .sub (.t 119) (.c (.int .i64 1)), []⟩,
       ⟨none, (some 121), .idxA 2 (.t 118) (.t 120), []⟩,
       ⟨none, (some 122), .ld 2 true (.t 121), []⟩,
       ⟨none, (some 123), .mov (.t 0), []⟩,
       ⟨none, (some 124), .mov (.t 17), []⟩,
       ⟨none, (some 125), .idxA 2 (.t 123) (.t 124), []⟩,
       ⟨none, (some 126), .ld 2 true (.t 125), []⟩,
       ⟨none, (some 127), .idxA 2 (.t 113) (.t 114), []⟩,
       ⟨none, none, .st 2 (.t 127) (.t 122), []⟩,
       ⟨none, (some 128), .idxA 2 (.t 115) (.t 117), []⟩,
       ⟨none, none, .st 2 (.t 128) (.t 126), []⟩]))
    (.reg [17] [
      ⟨none, (some 111), .mov (.t 17), []⟩,
      ⟨none, (some 112), .bin .sub (.t 111) (.c (.int .i64 1)), []⟩,
      ⟨none, (some 17), .mov (.t 112), []⟩])))
def b590_5 : Cd :=
  (.seq
   (.seq
    (.reg [151] [
      ⟨none, (some 149), .mov (.t 20), []⟩,
      ⟨none, (some 150), .mov (.t 21), []⟩,
      ⟨none, (some 151), .bin .lss (.t 149) (.t 150), []⟩])
    (.cond (.t 151)
     .skip
     (.exit 8)))
   (.block 9
    (.seq
     (.reg [23] [
       ⟨none, (some 152), .mov (.t 20), []⟩,
       ⟨none, (some 153), .mov (.t 21), []⟩,
       ⟨none, (some 154), .bin .add (.t 152) (.t 153), []⟩,
       ⟨none, (some 155), .conv .u64 (.t 154), []⟩,
       ⟨none, (some 156), .bin .shr (.t 155) (.c (.int .u64 1)), []⟩,
       ⟨none, (some 157), .conv .i64 (.t 156), []⟩,
       ⟨none, (some 23), .mov (.t 157), []⟩])
     (.seq
      (.reg [171] [
        ⟨none, (some 158), .mov (.t 4), []⟩,
        ⟨none, (some 159), .mov (.t 0), []⟩,
        ⟨none, (some 160), .mov (.t 22), []⟩,
        ⟨none, (some 161), .mov (.t 23), []⟩,
        ⟨none, (some 162), .bin .sub (.t 160) (.t 161), []⟩,
        ⟨none, (some 163), .idxA 2 (.t 159) (.t 162), []⟩,
        ⟨none, (some 164), .ld 2 true (.t 163), []⟩,
        ⟨none, (some 165), .mov (.t 0), []⟩,
        ⟨none, (some 166), .mov (.t 23), []⟩,
        ⟨none, (some 167), .idxA 2 (.t 165) (.t 166), []⟩,
        ⟨none, (some 168), .ld 2 true (.t 167), []⟩,
        ⟨none, (some 169), .callv (.t 158) [.t 164, .t 168], []⟩,
        ⟨none, (some 170), .bin .lss (.t 169) (.c (.int .i64 0)), []⟩,
        ⟨none, (some 171), .un .not (.t 170), []⟩])
      (.cond (.t 171)
       (.reg [20] [
         ⟨none, (some 172), .mov (.t 23), []⟩,
         ⟨none, (some 173), .bin .add (.t 172) (.c (.int .i64 1)), []⟩,
         ⟨none, (some 20), .mov (.t 173), []⟩])
       (.reg [21] [
         ⟨none, (some 174), .mov (.t 23), []⟩,
         ⟨none, (some 21), .mov (.t 174), []⟩]))))))
def k590 : Cd :=
  (.seq
   (.seq
    (.reg [28] [
      ⟨none, (some 25), .mov (.t 2), []⟩,
      ⟨none, (some 26), .mov (.t 1), []⟩,
      ⟨none, (some 27), .bin .sub (.t 25) (.t 26), []⟩,
      ⟨none, (some 28), .bin .eql (.t 27) (.c (.int .i64 1)), []⟩])
    (.cond (.t 28)
     (.seq
      (.reg [10] [
        ⟨none, (some 29), .mov (.t 2), []⟩,
        ⟨none, (some 10), .mov (.t 29), []⟩])
      (.seq
       (.reg [11] [
         ⟨none, (some 30), .mov (.t 3), []⟩,
         ⟨none, (some 11), .mov (.t 30), []⟩])
       (.seq
        (.block 0
         (.loop b590_1))
        (.seq
         (.seq
          (.reg [13] [
            ⟨none, (some 54), .mov (.t 1), []⟩,
            ⟨none, (some 13), .mov (.t 54), []⟩])
          (.block 2
           (.loop b590_2)))
         .ret))))
     .skip))
   (.seq
    (.seq
     (.reg [80] [
       ⟨none, (some 77), .mov (.t 3), []⟩,
       ⟨none, (some 78), .mov (.t 2), []⟩,
       ⟨none, (some 79), .bin .sub (.t 77) (.t 78), []⟩,
       ⟨none, (some 80), .bin .eql (.t 79) (.c (.int .i64 1)), []⟩])
     (.cond (.t 80)
      (.seq
       (.reg [14] [
         ⟨none, (some 81), .mov (.t 1), []⟩,
         ⟨none, (some 14), .mov (.t 81), []⟩])
       (.seq
        (.reg [15] [
          ⟨none, (some 82), .mov (.t 2), []⟩,
          ⟨none, (some 15), .mov (.t 82), []⟩])
        (.seq
         (.block 4
          (.loop b590_3))
         (.seq
          (.seq
           (.reg [17] [
             ⟨none, (some 107), .mov (.t 2), []⟩,
             ⟨none, (some 17), .mov (.t 107), []⟩])
           (.block 6
            (.loop b590_4)))
          .ret))))
      .skip))
    (.seq
     (.reg [18] [
       ⟨none, (some 129), .mov (.t 1), []⟩,
       ⟨none, (some 130), .mov (.t 3), []⟩,
       ⟨none, (some 131), .bin .add (.t 129) (.t 130), []⟩,
       ⟨none, (some 132), .conv .u64 (.t 131), []⟩,
       ⟨none, (some 133), .bin .shr (.t 132) (.c (.int .u64 1)), []⟩,
       ⟨none, (some 134), .conv .i64 (.t 133), []⟩,
       ⟨none, (some 18), .mov (.t 134), []⟩])
     (.seq
      (.reg [19] [
        ⟨none, (some 135), .mov (.t 18), []⟩,
        ⟨none, (some 136), .mov (.t 2), []⟩,
        ⟨none, (some 137), .bin .add (.t 135) (.t 136), []⟩,
        ⟨none, (some 19), .mov (.t 137), []⟩])
      (.seq
       (.reg [20, 21] [
         ⟨none, (some 20), .mov (.c (.int .i64 0)), []⟩,
         ⟨none, (some 21), .mov (.c (.int .i64 0)), []⟩])
       (.seq
        (.seq
         (.reg [140] [
           ⟨none, (some 138), .mov (.t 2), []⟩,
           ⟨none, (some 139), .mov (.t 18), []⟩,
           ⟨none, (some 140), .bin .gtr (.t 138) (.t 139), []⟩])
         (.cond (.t 140)
          (.seq
           (.reg [20] [
             ⟨none, (some 141), .mov (.t 19), []⟩,
             ⟨none, (some 142), .mov (.t 3), []⟩,
             ⟨none, (some 143), .bin .sub (.t 141) (.t 142), []⟩,
             ⟨none, (some 20), .mov (.t 143), []⟩])
           (.reg [21] [
             ⟨none, (some 144), .mov (.t 18), []⟩,
             ⟨none, (some 21), .mov (.t 144), []⟩]))
          (.seq
           (.reg [20] [
             ⟨none, (some 145), .mov (.t 1), []⟩,
             ⟨none, (some 20), .mov (.t 145), []⟩])
           (.reg [21] [
             ⟨none, (some 146), .mov (.t 2), []⟩,
             ⟨none, (some 21), .mov (.t 146), []⟩]))))
        (.seq
         (.reg [22] [
           ⟨none, (some 147), .mov (.t 19), []⟩,
           ⟨none, (some 148), .bin .sub (.t 147) (.c (.int .i64 1)), []⟩,
           ⟨none, (some 22), .mov (.t 148), []⟩])
         (.seq
          (.block 8
           (.loop b590_5))
          (.seq
           (.reg [24] [
             ⟨none, (some 175), .mov (.t 19), []⟩,
             ⟨none, (some 176), .mov (.t 20), []⟩,
             ⟨none, (some 177), .bin .sub (.t 175) (.t 176), []⟩,
             ⟨none, (some 24), .mov (.t 177), []⟩])
           (.seq
            (.seq
             (.reg [185] [
               ⟨none, (some 178), .mov (.t 20), []⟩,
               ⟨none, (some 179), .mov (.t 2), []⟩,
               ⟨none, (some 180), .bin .lss (.t 178) (.t 179), []⟩,
               ⟨none, (some 181), .mov (.t 180), []⟩,
               ⟨(some (181, true)), (some 182), .mov (.t 2), []⟩,
               ⟨(some (181, true)), (some 183), .mov (.t 24), []⟩,
               ⟨(some (181, true)), (some 184), .bin .lss (.t 182) (.t 183), []⟩,
               ⟨none, (some 185), .pick (.t 181) (.t 184) (.c (.bool false)), []⟩])
             (.cond (.t 185)
              (.reg [] [
                ⟨none, (some 186), .mov (.t 0), []⟩,
                ⟨none, (some 187), .mov (.t 20), []⟩,
                ⟨none, (some 188), .mov (.t 2), []⟩,
                ⟨none, (some 189), .mov (.t 24), []⟩,
                ⟨none, (some 190), .mov (.t 4), []⟩,
                ⟨none, (some 191), .call false 610 [.t 186, .t 187, .t 188, .t 189, .t 190], []⟩])
              .skip))
            (.seq
             (.seq
              (.reg [199] [
                ⟨none, (some 192), .mov (.t 1), []⟩,
                ⟨none, (some 193), .mov (.t 20), []⟩,
                ⟨none, (some 194), .bin .lss (.t 192) (.t 193), []⟩,
                ⟨none, (some 195), .mov (.t 194), []⟩,
                ⟨(some (195, true)), (some 196), .mov (.t 20), []⟩,
                ⟨(some (195, true)), (some 197), .mov (.t 18), []⟩,
                ⟨(some (195, true)), (some 198), .bin .lss (.t 196) (.t 197), []⟩,
                ⟨none, (some 199), .pick (.t 195) (.t 198) (.c (.bool false)), []⟩])
              (.cond (.t 199)
               (.reg [] [
                 ⟨none, (some 200), .mov (.t 0), []⟩,
                 ⟨none, (some 201), .mov (.t 1), []⟩,
                 ⟨none, (some 202), .mov (.t 20), []⟩,
                 ⟨none, (some 203), .mov (.t 18), []⟩,
                 ⟨none, (some 204), .mov (.t 4), []⟩,
                 ⟨none, (some 205), .call false 590 [.t 200, .t 201, .t 202, .t 203, .t 204], []⟩])
               .skip))
             (.seq
              (.reg [213] [
                ⟨none, (some 206), .mov (.t 18), []⟩,
                ⟨none, (some 207), .mov (.t 24), []⟩,
                ⟨none, (some 208), .bin .lss (.t 206) (.t 207), []⟩,
                ⟨none, (some 209), .mov (.t 208), []⟩,
                ⟨(some (209, true)), (some 210), .mov (.t 24), []⟩,
                ⟨(some (209, true)), (some 211), .mov (.t 3), []⟩,
                ⟨(some (209, true)), (some 212), .bin .lss (.t 210) (.t 211), []⟩,
                ⟨none, (some 213), .pick (.t 209) (.t 212) (.c (.bool false)), []⟩])
              (.cond (.t 213)
               (.reg [] [
                 ⟨none, (some 214), .mov (.t 0), []⟩,
                 ⟨none, (some 215), .mov (.t 18), []⟩,
                 ⟨none, (some 216), .mov (.t 24), []⟩,
                 ⟨none, (some 217), .mov (.t 3), []⟩,
                 ⟨none, (some 218), .mov (.t 4), []⟩,
                 ⟨none, (some 219), .call false 590 [.t 214, .t 215, .t 216, .t 217, .t 218], []⟩])
               .skip)))))))))))))
def c590 : Fn := { np := 5, nt := 220, kind := .args, res := [], body := k590 }

/- slices.rotateCmpFunc[impl.Move] -/
def b610_1 : Cd :=
  (.seq
   (.seq
    (.reg [20] [
      ⟨none, (some 18), .mov (.t 10), []⟩,
      ⟨none, (some 19), .mov (.t 11), []⟩,
      ⟨none, (some 20), .bin .neq (.t 18) (.t 19), []⟩])
    (.cond (.t 20)
     .skip
     (.exit 0)))
   (.block 1
    (.seq
     (.reg [23] [
       ⟨none, (some 21), .mov (.t 10), []⟩,
       ⟨none, (some 22), .mov (.t 11), []⟩,
       ⟨none, (some 23), .bin .gtr (.t 21) (.t 22), []⟩])
     (.cond (.t 23)
      (.seq
       (.reg [] [
         ⟨none, (some 24), .mov (.t 0), []⟩,
         ⟨none, (some 25), .mov (.t 2), []⟩,
         ⟨none, (some 26), .mov (.t 10), []⟩,
         ⟨none, (some 27), .bin .sub (.t 25) (.t 26), []⟩,
         ⟨none, (some 28), .mov (.t 2), []⟩,
         ⟨none, (some 29), .mov (.t 11), []⟩,
         ⟨none, (some 30), .mov (.t 4), []⟩,
         ⟨none, (some 31), .call false 624 [.t 24, .t 27, .t 28, .t 29, .t 30], []⟩])
       (.reg [10] [
         ⟨none, (some 32), .mov (.t 10), []⟩,
         ⟨none, (some 33), .mov (.t 11), []⟩,
         ⟨none, (some 34), .bin .sub (.t 32) (.t 33), []⟩,
         ⟨none, (some 10), .mov (.t 34), []⟩]))
      (.seq
       (.reg [] [
         ⟨none, (some 35), .mov (.t 0), []⟩,
         ⟨none, (some 36), .mov (.t 2), []⟩,
         ⟨none, (some 37), .mov (.t 10), []⟩,
         ⟨none, (some 38), .bin .sub (.t 36) (.t 37), []⟩,
         ⟨none, (some 39), .mov (.t 2), []⟩,
         ⟨none, (some 40), .mov (.t 11), []⟩,
         ⟨none, (some 41), .bin .add (.t 39) (.t 40), []⟩,
         ⟨none, (some 42), .mov (.t 10), []⟩,
         ⟨none, (some 43), .bin .sub (.t 41) (.t 42), []⟩,
         ⟨none, (some 44), .mov (.t 10), []⟩,
         ⟨none, (some 45), .mov (.t 4), []⟩,
         ⟨none, (some 46), .call false 624 [.t 35, .t 38, .t 43, .t 44, .t 45], []⟩])
       (.reg [11] [
         ⟨none, (some 47), .mov (.t 11), []⟩,
         ⟨none, (some 48), .mov (.t 10), []⟩,
         ⟨none, (some 49), .bin .sub (.t 47) (.t 48), []⟩,
         ⟨none, (some 11), .mov (.t 49), []⟩]))))))
def k610 : Cd :=
  (.seq
   (.reg [10] [
     ⟨none, (some 12), .mov (.t 2), []⟩,
     ⟨none, (some 13), .mov (.t 1), []⟩,
     ⟨none, (some 14), .bin .sub (.t 12) (.t 13), []⟩,
     ⟨none, (some 10), .mov (.t 14), []⟩])
   (.seq
    (.reg [11] [
      ⟨none, (some 15), .mov (.t 3), []⟩,
      ⟨none, (some 16), .mov (.t 2), []⟩,
      ⟨none, (some 17), .bin .sub (.t 15) (.t 16), []⟩,
      ⟨none, (some 11), .mov (.t 17), []⟩])
    (.seq
     (.block 0
      (.loop b610_1))
     (.reg [] [
       ⟨none, (some 50), .mov (.t 0), []⟩,
       ⟨none, (some 51), .mov (.t 2), []⟩,
       ⟨none, (some 52), .mov (.t 10), []⟩,
       ⟨none, (some 53), .bin .sub (.t 51) (.t 52), []⟩,
       ⟨none, (some 54), .mov (.t 2), []⟩,
       ⟨none, (some 55), .mov (.t 10), []⟩,
       ⟨none, (some 56), .mov (.t 4), []⟩,
       ⟨none, (some 57), .call false 624 [.t 50, .t 53, .t 54, .t 55, .t 56], []⟩]))))
def c610 : Fn := { np := 5, nt := 58, kind := .args, res := [], body := k610 }

/- slices.swapRangeCmpFunc[impl.Move] -/
def b624_1 : Cd :=
  (.seq
   (.seq
    (.reg [13] [
      ⟨none, (some 11), .mov (.t 10), []⟩,
      ⟨none, (some 12), .mov (.t 3), []⟩,
      ⟨none, (some 13), .bin .lss (.t 11) (.t 12), []⟩])
    (.cond (.t 13)
     .skip
     (.exit 0)))
   (.seq
    (.block 1
     (.reg [] [
       ⟨none, (some 16), .mov (.t 0), []⟩,
       ⟨none, (some 17), .mov (.t 1), []⟩,
       ⟨none, (some 18), .mov (.t 10), []⟩,
       ⟨none, (some 19), .bin .add (.t 17) (.t 18), []⟩,
       ⟨none, (some 20), .mov (.t 0), []⟩,
       ⟨none, (some 21), .mov (.t 2), []⟩,
       ⟨none, (some 22), .mov (.t 10), []⟩,
       ⟨none, (some 23), .bin .add (.t 21) (.t 22), []⟩,
       ⟨none, (some 24), .mov (.t 0), []⟩,
       ⟨none, (some 25), .mov (.t 2), []⟩,
       ⟨none, (some 26), .mov (.t 10), []⟩,
       ⟨none, (some 27), .bin .add (.t 25) (.t 26), []⟩,
       ⟨none, (some 28), .idxA 2 (.t 24) (.t 27), []⟩,
       ⟨none, (some 29), .ld 2 true (.t 28), []⟩,
       ⟨none, (some 30), .mov (.t 0), []⟩,
       ⟨none, (some 31), .mov (.t 1), []⟩,
       ⟨none, (some 32), .mov (.t 10), []⟩,
       ⟨none, (some 33), .bin .add (.t 31) (.t 32), []⟩,
       ⟨none, (some 34), .idxA 2 (.t 30) (.t 33), []⟩,
       ⟨none, (some 35), .ld 2 true (.t 34), []⟩,
       ⟨none, (some 36), .idxA 2 (.t 16) (.t 19), []⟩,
       ⟨none, none, .st 2 (.t 36) (.t 29), []⟩,
       ⟨none, (some 37), .idxA 2 (.t 20) (.t 23), []⟩,
       ⟨none, none, .st 2 (.t 37) (.t 35), []⟩]))
    (.reg [10] [
      ⟨none, (some 14), .mov (.t 10), []⟩,
      ⟨none, (some 15), .bin .add (.t 14) (.c (.int .i64 1)), []⟩,
      ⟨none, (some 10), .mov (.t 15), []⟩])))
def k624 : Cd :=
  (.seq
   (.reg [10] [
     ⟨none, (some 10), .mov (.c (.int .i64 0)), []⟩])
   (.block 0
    (.loop b624_1)))
def c624 : Fn := { np := 5, nt := 38, kind := .args, res := [], body := k624 }


end Fb
