/- The functions of the law, in the small language. -/
import Derived.Test.YtholaggmhhjjkaaDen
set_option linter.unusedVariables false
set_option linter.unusedSimpArgs false
namespace Fb
open Go

/- laws.FnExactMeetTicks -/
def k41 : Cd :=
  (.seq
   (.reg [4, 5, 8] [
     ⟨none, (some 4), .mov (.t 0), []⟩,
     ⟨none, (some 5), .mov (.t 1), []⟩,
     ⟨none, (some 8), .mov (.c (.bool false)), []⟩])
   (.seq
    (.reg [9] [
      ⟨none, (some 9), .mov (.c (.int .i64 1000000)), []⟩])
    (.seq
     (.reg [9] [
       ⟨none, (some 21), .ldV 4 none 14 true, []⟩,
       ⟨none, (some 22), .mov (.t 9), []⟩,
       ⟨none, (some 23), .call true 205 [.t 21, .t 22], []⟩,
       ⟨none, (some 9), .mov (.t 23), []⟩])
     (.seq
      (.seq
       (.reg [25] [
         ⟨none, (some 24), .mov (.t 9), []⟩,
         ⟨none, (some 25), .bin .lss (.t 24) (.c (.int .i64 0)), []⟩])
       (.cond (.t 25)
        (.seq
         (.reg [8] [
           ⟨none, (some 8), .mov (.c (.bool true)), []⟩])
         .ret)
        .skip))
      (.seq
       (.reg [9] [
         ⟨none, (some 26), .ldV 5 none 14 true, []⟩,
         ⟨none, (some 27), .mov (.t 9), []⟩,
         ⟨none, (some 28), .call true 205 [.t 26, .t 27], []⟩,
         ⟨none, (some 9), .mov (.t 28), []⟩])
       (.seq
        (.seq
         (.reg [30] [
           ⟨none, (some 29), .mov (.t 9), []⟩,
           ⟨none, (some 30), .bin .lss (.t 29) (.c (.int .i64 0)), []⟩])
         (.cond (.t 30)
          (.seq
           (.reg [8] [
             ⟨none, (some 8), .mov (.c (.bool true)), []⟩])
           .ret)
          .skip))
        (.seq
         (.reg [10, 11] [
           ⟨none, (some 32), .ldV 4 none 14 true, []⟩,
           ⟨none, (some 34), .ldV 5 none 14 true, []⟩,
           ⟨none, (some 36), .mov (.t 2), []⟩,
           ⟨none, (some 37), .mov (.t 3), []⟩,
           ⟨none, (some 33), .call true 207 [.t 32, .c (.bool false)], []⟩,
           ⟨none, (some 35), .call true 207 [.t 34, .c (.bool false)], []⟩,
           ⟨none, (some 38), .call true 206 [.t 33, .t 35, .t 36, .t 37], []⟩,
           ⟨none, (some 31), .mov (.t 38), []⟩,
           ⟨none, (some 39), .ext (.t 31) 0, []⟩,
           ⟨none, (some 40), .ext (.t 31) 1, []⟩,
           ⟨none, (some 10), .mov (.t 39), []⟩,
           ⟨none, (some 11), .mov (.t 40), []⟩])
         (.seq
          (.reg [12] [
            ⟨none, (some 41), .ldV 4 none 14 true, []⟩,
            ⟨none, (some 42), .call true 207 [.t 41, .c (.bool false)], []⟩,
            ⟨none, (some 12), .zero true [.int .u16 0, .int .u16 0, .int .u16 0, .int .u16 0, .int .u16 0, .int .u16 0, .int .u16 0, .int .u16 0, .int .u16 0, .int .u16 0, .int .u16 0, .int .u16 0, .int .i8 0, .slice none 0 0], []⟩,
            ⟨none, (some 12), .stV 12 none 14 (.t 42), []⟩])
          (.seq
           (.reg [13] [
             ⟨none, (some 43), .ldV 5 none 14 true, []⟩,
             ⟨none, (some 44), .call true 207 [.t 43, .c (.bool false)], []⟩,
             ⟨none, (some 13), .zero true [.int .u16 0, .int .u16 0, .int .u16 0, .int .u16 0, .int .u16 0, .int .u16 0, .int .u16 0, .int .u16 0, .int .u16 0, .int .u16 0, .int .u16 0, .int .u16 0, .int .i8 0, .slice none 0 0], []⟩,
             ⟨none, (some 13), .stV 13 none 14 (.t 44), []⟩])
           (.seq
            (.reg [14, 15] [
              ⟨none, (some 46), .ldV 12 none 14 true, []⟩,
              ⟨none, (some 47), .ldV 13 none 14 true, []⟩,
              ⟨none, (some 48), .mov (.t 2), []⟩,
              ⟨none, (some 49), .mov (.t 3), []⟩,
              ⟨none, (some 50), .call true 208 [.t 46, .t 47, .t 48, .t 49], []⟩,
              ⟨none, (some 45), .mov (.t 50), []⟩,
              ⟨none, (some 51), .ext (.t 45) 0, []⟩,
              ⟨none, (some 52), .ext (.t 45) 1, []⟩,
              ⟨none, (some 14), .mov (.t 51), []⟩,
              ⟨none, (some 15), .mov (.t 52), []⟩])
            (.seq
             (.seq
              (.reg [61] [
                ⟨none, (some 53), .mov (.t 14), []⟩,
                ⟨none, (some 54), .mov (.t 10), []⟩,
                ⟨none, (some 55), .call true 180 [.t 53, .t 54], []⟩,
                ⟨none, (some 56), .un .not (.t 55), []⟩,
                ⟨none, (some 57), .mov (.t 56), []⟩,
                ⟨(some (57, false)), (some 58), .mov (.t 15), []⟩,
                ⟨(some (57, false)), (some 59), .mov (.t 11), []⟩,
                ⟨(some (57, false)), (some 60), .bin .neq (.t 58) (.t 59), []⟩,
                ⟨none, (some 61), .pick (.t 57) (.c (.bool true)) (.t 60), []⟩])
              (.cond (.t 61)
               (.seq
                (.reg [8] [
                  ⟨none, (some 8), .mov (.c (.bool false)), []⟩])
                .ret)
               .skip))
             (.seq
              (.seq
               (.reg [66] [
                 ⟨none, (some 62), .ldV 12 none 14 true, []⟩,
                 ⟨none, (some 63), .ldV 4 none 14 true, []⟩,
                 ⟨none, (some 64), .call true 207 [.t 63, .c (.bool false)], []⟩,
                 ⟨none, (some 65), .call true 209 [.t 62, .t 64], []⟩,
                 ⟨none, (some 66), .un .not (.t 65), []⟩])
               (.cond (.t 66)
                (.seq
                 (.reg [8] [
                   ⟨none, (some 8), .mov (.c (.bool false)), []⟩])
                 .ret)
                .skip))
              (.seq
               (.seq
                (.reg [71] [
                  ⟨none, (some 67), .ldV 13 none 14 true, []⟩,
                  ⟨none, (some 68), .ldV 5 none 14 true, []⟩,
                  ⟨none, (some 69), .call true 207 [.t 68, .c (.bool false)], []⟩,
                  ⟨none, (some 70), .call true 209 [.t 67, .t 69], []⟩,
                  ⟨none, (some 71), .un .not (.t 70), []⟩])
                (.cond (.t 71)
                 (.seq
                  (.reg [8] [
                    ⟨none, (some 8), .mov (.c (.bool false)), []⟩])
                  .ret)
                 .skip))
               (.seq
                (.reg [16] [
                  ⟨none, (some 16), .mov (.c (.int .i64 101)), []⟩])
                (.seq
                 (.reg [16] [
                   ⟨none, (some 72), .ldV 12 none 14 true, []⟩,
                   ⟨none, (some 73), .mov (.t 16), []⟩,
                   ⟨none, (some 74), .call false 210 [.t 72, .t 73], []⟩,
                   ⟨none, (some 16), .mov (.t 74), []⟩])
                 (.seq
                  (.reg [16] [
                    ⟨none, (some 75), .ldV 13 none 14 true, []⟩,
                    ⟨none, (some 76), .mov (.t 16), []⟩,
                    ⟨none, (some 77), .call false 210 [.t 75, .t 76], []⟩,
                    ⟨none, (some 16), .mov (.t 77), []⟩])
                  (.seq
                   (.seq
                    (.reg [90] [
                      ⟨none, (some 78), .mov (.t 16), []⟩,
                      ⟨none, (some 79), .bin .lss (.t 78) (.c (.int .i64 0)), []⟩,
                      ⟨none, (some 80), .mov (.t 79), []⟩,
                      ⟨(some (80, false)), (some 81), .mov (.t 14), []⟩,
                      ⟨(some (80, false)), (some 82), .mov (.t 10), []⟩,
                      ⟨(some (80, false)), (some 83), .call true 180 [.t 81, .t 82], []⟩,
                      ⟨(some (80, false)), (some 84), .un .not (.t 83), []⟩,
                      ⟨none, (some 85), .pick (.t 80) (.c (.bool true)) (.t 84), []⟩,
                      ⟨none, (some 86), .mov (.t 85), []⟩,
                      ⟨(some (86, false)), (some 87), .mov (.t 15), []⟩,
                      ⟨(some (86, false)), (some 88), .mov (.t 11), []⟩,
                      ⟨(some (86, false)), (some 89), .bin .neq (.t 87) (.t 88), []⟩,
                      ⟨none, (some 90), .pick (.t 86) (.c (.bool true)) (.t 89), []⟩])
                    (.cond (.t 90)
                     (.seq
                      (.reg [8] [
                        ⟨none, (some 8), .mov (.c (.bool false)), []⟩])
                      .ret)
                     .skip))
                   (.seq
                    (.reg [17] [
                      ⟨none, (some 17), .mov (.c (.int .i64 101)), []⟩])
                    (.seq
                     (.reg [17] [
                       ⟨none, (some 91), .mov (.t 14), []⟩,
                       ⟨none, (some 92), .mov (.t 17), []⟩,
                       ⟨none, (some 93), .call false 182 [.t 91, .t 92], []⟩,
                       ⟨none, (some 17), .mov (.t 93), []⟩])
                     (.seq
                      (.reg [18] [
                        ⟨none, (some 18), .mov (.c (.int .i64 101)), []⟩])
                      (.seq
                       (.reg [18] [
                         ⟨none, (some 94), .mov (.t 14), []⟩,
                         ⟨none, (some 95), .mov (.t 18), []⟩,
                         ⟨none, (some 96), .call true 183 [.t 94, .t 95], []⟩,
                         ⟨none, (some 18), .mov (.t 96), []⟩])
                       (.seq
                        (.seq
                         (.reg [98] [
                           ⟨none, (some 97), .mov (.t 18), []⟩,
                           ⟨none, (some 98), .bin .lss (.t 97) (.c (.int .i64 0)), []⟩])
                         (.cond (.t 98)
                          (.seq
                           (.reg [8] [
                             ⟨none, (some 8), .mov (.c (.bool false)), []⟩])
                           .ret)
                          .skip))
                        (.seq
                         (.seq
                          (.reg [101] [
                            ⟨none, (some 99), .mov (.t 18), []⟩,
                            ⟨none, (some 100), .mov (.t 17), []⟩,
                            ⟨none, (some 101), .bin .neq (.t 99) (.t 100), []⟩])
                          (.cond (.t 101)
                           (.seq
                            (.reg [8] [
                              ⟨none, (some 8), .mov (.c (.bool false)), []⟩])
                            .ret)
                           .skip))
                         (.seq
                          (.reg [19, 20] [
                            ⟨none, (some 103), .ldV 4 none 14 true, []⟩,
                            ⟨none, (some 105), .ldV 5 none 14 true, []⟩,
                            ⟨none, (some 107), .mov (.t 2), []⟩,
                            ⟨none, (some 108), .mov (.t 3), []⟩,
                            ⟨none, (some 104), .call true 207 [.t 103, .c (.bool true)], []⟩,
                            ⟨none, (some 106), .call true 207 [.t 105, .c (.bool true)], []⟩,
                            ⟨none, (some 109), .call true 208 [.t 104, .t 106, .t 107, .t 108], []⟩,
                            ⟨none, (some 102), .mov (.t 109), []⟩,
                            ⟨none, (some 110), .ext (.t 102) 0, []⟩,
                            ⟨none, (some 111), .ext (.t 102) 1, []⟩,
                            ⟨none, (some 19), .mov (.t 110), []⟩,
                            ⟨none, (some 20), .mov (.t 111), []⟩])
                          (.seq
                           (.seq
                            (.reg [120] [
                              ⟨none, (some 112), .mov (.t 19), []⟩,
                              ⟨none, (some 113), .mov (.t 10), []⟩,
                              ⟨none, (some 114), .call true 180 [.t 112, .t 113], []⟩,
                              ⟨none, (some 115), .un .not (.t 114), []⟩,
                              ⟨none, (some 116), .mov (.t 115), []⟩,
                              ⟨(some (116, false)), (some 117), .mov (.t 20), []⟩,
                              ⟨(some (116, false)), (some 118), .mov (.t 11), []⟩,
                              ⟨(some (116, false)), (some 119), .bin .neq (.t 117) (.t 118), []⟩,
                              ⟨none, (some 120), .pick (.t 116) (.c (.bool true)) (.t 119), []⟩])
                            (.cond (.t 120)
                             (.seq
                              (.reg [8] [
                                ⟨none, (some 8), .mov (.c (.bool false)), []⟩])
                              .ret)
                             .skip))
                           (.seq
                            (.reg [18] [
                              ⟨none, (some 18), .mov (.c (.int .i64 101)), []⟩])
                            (.seq
                             (.reg [18] [
                               ⟨none, (some 121), .mov (.t 14), []⟩,
                               ⟨none, (some 122), .mov (.t 18), []⟩,
                               ⟨none, (some 123), .call true 183 [.t 121, .t 122], []⟩,
                               ⟨none, (some 18), .mov (.t 123), []⟩])
                             (.seq
                              (.seq
                               (.reg [125] [
                                 ⟨none, (some 124), .mov (.t 18), []⟩,
                                 ⟨none, (some 125), .bin .lss (.t 124) (.c (.int .i64 0)), []⟩])
                               (.cond (.t 125)
                                (.seq
                                 (.reg [8] [
                                   ⟨none, (some 8), .mov (.c (.bool false)), []⟩])
                                 .ret)
                                .skip))
                              (.seq
                               (.seq
                                (.reg [128] [
                                  ⟨none, (some 126), .mov (.t 18), []⟩,
                                  ⟨none, (some 127), .mov (.t 17), []⟩,
                                  ⟨none, (some 128), .bin .neq (.t 126) (.t 127), []⟩])
                                (.cond (.t 128)
                                 (.seq
                                  (.reg [8] [
                                    ⟨none, (some 8), .mov (.c (.bool false)), []⟩])
                                  .ret)
                                 .skip))
                               (.seq
                                (.reg [8] [
                                  ⟨none, (some 8), .mov (.c (.bool true)), []⟩])
                                .ret))))))))))))))))))))))))))))))
def c41 : Fn := { np := 4, nt := 129, kind := .pure, res := [.t 8], body := k41 }

/- laws.eqFrame -/
def b78_1 : Cd :=
  (.seq
   (.seq
    (.reg [7] [
      ⟨none, (some 6), .mov (.t 5), []⟩,
      ⟨none, (some 7), .bin .lss (.t 6) (.c (.int .i64 12)), []⟩])
    (.cond (.t 7)
     .skip
     (.exit 0)))
   (.seq
    (.block 1
     (.seq
      (.reg [16] [
        ⟨none, (some 10), .mov (.t 5), []⟩,
        ⟨none, (some 11), .adrI 2 none 12 1 (.t 10), []⟩,
        ⟨none, (some 12), .ldV 2 (some 11) 1 false, []⟩,
        ⟨none, (some 13), .mov (.t 5), []⟩,
        ⟨none, (some 14), .adrI 3 none 12 1 (.t 13), []⟩,
        ⟨none, (some 15), .ldV 3 (some 14) 1 false, []⟩,
        ⟨none, (some 16), .bin .neq (.t 12) (.t 15), []⟩])
      (.cond (.t 16)
       (.seq
        (.reg [4] [
          ⟨none, (some 4), .mov (.c (.bool false)), []⟩])
        .ret)
       .skip)))
    (.reg [5] [
      ⟨none, (some 8), .mov (.t 5), []⟩,
      ⟨none, (some 9), .bin .add (.t 8) (.c (.int .i64 1)), []⟩,
      ⟨none, (some 5), .mov (.t 9), []⟩])))
def k78 : Cd :=
  (.seq
   (.reg [2, 3, 4] [
     ⟨none, (some 2), .mov (.t 0), []⟩,
     ⟨none, (some 3), .mov (.t 1), []⟩,
     ⟨none, (some 4), .mov (.c (.bool false)), []⟩])
   (.seq
    (.seq
     (.reg [5] [
       ⟨none, (some 5), .mov (.c (.int .i64 0)), []⟩])
     (.block 0
      (.loop b78_1)))
    (.seq
     (.reg [4] [
       ⟨none, (some 4), .mov (.c (.bool true)), []⟩])
     .ret)))
def c78 : Fn := { np := 2, nt := 17, kind := .pure, res := [.t 4], body := k78 }

/- laws.toFrame -/
def b134_1 : Cd :=
  (.seq
   (.seq
    (.reg [6] [
      ⟨none, (some 5), .mov (.t 4), []⟩,
      ⟨none, (some 6), .bin .lss (.t 5) (.c (.int .i64 12)), []⟩])
    (.cond (.t 6)
     .skip
     (.exit 0)))
   (.seq
    (.block 1
     (.reg [3] [
       ⟨none, (some 9), .mov (.t 4), []⟩,
       ⟨none, (some 10), .mov (.t 4), []⟩,
       ⟨none, (some 11), .adrI 1 none 12 1 (.t 10), []⟩,
       ⟨none, (some 12), .ldV 1 (some 11) 1 false, []⟩,
       ⟨none, (some 13), .adrI 3 none 12 1 (.t 9), []⟩,
       ⟨none, (some 3), .stV 3 (some 13) 1 (.t 12), []⟩]))
    (.reg [4] [
      ⟨none, (some 7), .mov (.t 4), []⟩,
      ⟨none, (some 8), .bin .add (.t 7) (.c (.int .i64 1)), []⟩,
      ⟨none, (some 4), .mov (.t 8), []⟩])))
def k134 : Cd :=
  (.seq
   (.reg [1, 2] [
     ⟨none, (some 1), .mov (.t 0), []⟩,
     ⟨none, (some 2), .zero true (zs 12 (.int .u16 0)), []⟩])
   (.seq
    (.reg [3] [
      ⟨none, (some 3), .zero true (zs 12 (.int .u16 0)), []⟩])
    (.seq
     (.seq
      (.reg [4] [
        ⟨none, (some 4), .mov (.c (.int .i64 0)), []⟩])
      (.block 0
       (.loop b134_1)))
     (.seq
      (.reg [2] [
        ⟨none, (some 14), .ldV 3 none 12 true, []⟩,
        ⟨none, (some 2), .stV 2 none 12 (.t 14), []⟩])
      .ret))))
def c134 : Fn := { np := 1, nt := 15, kind := .pure, res := [.v 2 12 true], body := k134 }

/- laws.eqInt64S -/
def b180_1 : Cd :=
  (.seq
   (.seq
    (.reg [14] [
      ⟨none, (some 11), .mov (.t 5), []⟩,
      ⟨none, (some 12), .mov (.t 0), []⟩,
      ⟨none, (some 13), .len (.t 12), []⟩,
      ⟨none, (some 14), .bin .lss (.t 11) (.t 13), []⟩])
    (.cond (.t 14)
     .skip
     (.exit 0)))
   (.seq
    (.block 1
     (.seq
      (.reg [25] [
        ⟨none, (some 17), .mov (.t 0), []⟩,
        ⟨none, (some 18), .mov (.t 5), []⟩,
        ⟨none, (some 19), .idxA 1 (.t 17) (.t 18), []⟩,
        ⟨none, (some 20), .ld 1 false (.t 19), []⟩,
        ⟨none, (some 21), .mov (.t 1), []⟩,
        ⟨none, (some 22), .mov (.t 5), []⟩,
        ⟨none, (some 23), .idxA 1 (.t 21) (.t 22), []⟩,
        ⟨none, (some 24), .ld 1 false (.t 23), []⟩,
        ⟨none, (some 25), .bin .neq (.t 20) (.t 24), []⟩])
      (.cond (.t 25)
       (.seq
        (.reg [4] [
          ⟨none, (some 4), .mov (.c (.bool false)), []⟩])
        .ret)
       .skip)))
    (.reg [5] [
      ⟨none, (some 15), .mov (.t 5), []⟩,
      ⟨none, (some 16), .bin .add (.t 15) (.c (.int .i64 1)), []⟩,
      ⟨none, (some 5), .mov (.t 16), []⟩])))
def k180 : Cd :=
  (.seq
   (.reg [4] [
     ⟨none, (some 4), .mov (.c (.bool false)), []⟩])
   (.seq
    (.seq
     (.reg [10] [
       ⟨none, (some 6), .mov (.t 0), []⟩,
       ⟨none, (some 7), .len (.t 6), []⟩,
       ⟨none, (some 8), .mov (.t 1), []⟩,
       ⟨none, (some 9), .len (.t 8), []⟩,
       ⟨none, (some 10), .bin .neq (.t 7) (.t 9), []⟩])
     (.cond (.t 10)
      (.seq
       (.reg [4] [
         ⟨none, (some 4), .mov (.c (.bool false)), []⟩])
       .ret)
      .skip))
    (.seq
     (.seq
      (.reg [5] [
        ⟨none, (some 5), .mov (.c (.int .i64 0)), []⟩])
      (.block 0
       (.loop b180_1)))
     (.seq
      (.reg [4] [
        ⟨none, (some 4), .mov (.c (.bool true)), []⟩])
      .ret))))
def c180 : Fn := { np := 2, nt := 26, kind := .pure, res := [.t 4], body := k180 }

/- laws.markInt64S -/
def b182_1 : Cd :=
  (.seq
   (.seq
    (.reg [9] [
      ⟨none, (some 6), .mov (.t 5), []⟩,
      ⟨none, (some 7), .mov (.t 0), []⟩,
      ⟨none, (some 8), .len (.t 7), []⟩,
      ⟨none, (some 9), .bin .lss (.t 6) (.t 8), []⟩])
    (.cond (.t 9)
     .skip
     (.exit 0)))
   (.seq
    (.block 1
     (.seq
      (.reg [] [
        ⟨none, (some 12), .mov (.t 0), []⟩,
        ⟨none, (some 13), .mov (.t 5), []⟩,
        ⟨none, (some 14), .mov (.t 1), []⟩,
        ⟨none, (some 15), .idxA 1 (.t 12) (.t 13), []⟩,
        ⟨none, none, .st 1 (.t 15) (.t 14), []⟩])
      (.reg [1] [
        ⟨none, (some 16), .mov (.t 1), []⟩,
        ⟨none, (some 17), .bin .add (.t 16) (.c (.int .i64 1)), []⟩,
        ⟨none, (some 1), .mov (.t 17), []⟩])))
    (.reg [5] [
      ⟨none, (some 10), .mov (.t 5), []⟩,
      ⟨none, (some 11), .bin .add (.t 10) (.c (.int .i64 1)), []⟩,
      ⟨none, (some 5), .mov (.t 11), []⟩])))
def k182 : Cd :=
  (.seq
   (.reg [4] [
     ⟨none, (some 4), .mov (.c (.int .i64 0)), []⟩])
   (.seq
    (.seq
     (.reg [5] [
       ⟨none, (some 5), .mov (.c (.int .i64 0)), []⟩])
     (.block 0
      (.loop b182_1)))
    (.seq
     (.reg [4] [
       ⟨none, (some 18), .mov (.t 1), []⟩,
       ⟨none, (some 4), .mov (.t 18), []⟩])
     .ret)))
def c182 : Fn := { np := 2, nt := 19, kind := .args, res := [.t 4], body := k182 }

/- laws.heldInt64S -/
def b183_1 : Cd :=
  (.seq
   (.seq
    (.reg [9] [
      ⟨none, (some 6), .mov (.t 5), []⟩,
      ⟨none, (some 7), .mov (.t 0), []⟩,
      ⟨none, (some 8), .len (.t 7), []⟩,
      ⟨none, (some 9), .bin .lss (.t 6) (.t 8), []⟩])
    (.cond (.t 9)
     .skip
     (.exit 0)))
   (.seq
    (.block 1
     (.seq
      (.seq
       (.reg [17] [
         ⟨none, (some 12), .mov (.t 0), []⟩,
         ⟨none, (some 13), .mov (.t 5), []⟩,
         ⟨none, (some 14), .idxA 1 (.t 12) (.t 13), []⟩,
         ⟨none, (some 15), .ld 1 false (.t 14), []⟩,
         ⟨none, (some 16), .mov (.t 1), []⟩,
         ⟨none, (some 17), .bin .neq (.t 15) (.t 16), []⟩])
       (.cond (.t 17)
        (.seq
         (.reg [4] [
           ⟨none, (some 4), .mov (.c (.int .i64 (-1))), []⟩])
         .ret)
        .skip))
      (.reg [1] [
        ⟨none, (some 18), .mov (.t 1), []⟩,
        ⟨none, (some 19), .bin .add (.t 18) (.c (.int .i64 1)), []⟩,
        ⟨none, (some 1), .mov (.t 19), []⟩])))
    (.reg [5] [
      ⟨none, (some 10), .mov (.t 5), []⟩,
      ⟨none, (some 11), .bin .add (.t 10) (.c (.int .i64 1)), []⟩,
      ⟨none, (some 5), .mov (.t 11), []⟩])))
def k183 : Cd :=
  (.seq
   (.reg [4] [
     ⟨none, (some 4), .mov (.c (.int .i64 0)), []⟩])
   (.seq
    (.seq
     (.reg [5] [
       ⟨none, (some 5), .mov (.c (.int .i64 0)), []⟩])
     (.block 0
      (.loop b183_1)))
    (.seq
     (.reg [4] [
       ⟨none, (some 20), .mov (.t 1), []⟩,
       ⟨none, (some 4), .mov (.t 20), []⟩])
     .ret)))
def c183 : Fn := { np := 2, nt := 21, kind := .pure, res := [.t 4], body := k183 }

/- laws.szPart -/
def k205 : Cd :=
  (.seq
   (.reg [2, 4] [
     ⟨none, (some 2), .mov (.t 0), []⟩,
     ⟨none, (some 4), .mov (.c (.int .i64 0)), []⟩])
   (.seq
    (.reg [1] [
      ⟨none, (some 5), .adrF 2 none 13, []⟩,
      ⟨none, (some 6), .ldV 2 (some 5) 1 false, []⟩,
      ⟨none, (some 7), .mov (.t 1), []⟩,
      ⟨none, (some 8), .call true 420 [.t 6, .t 7], []⟩,
      ⟨none, (some 1), .mov (.t 8), []⟩])
    (.seq
     (.seq
      (.reg [10] [
        ⟨none, (some 9), .mov (.t 1), []⟩,
        ⟨none, (some 10), .bin .lss (.t 9) (.c (.int .i64 0)), []⟩])
      (.cond (.t 10)
       (.seq
        (.reg [4] [
          ⟨none, (some 4), .mov (.c (.int .i64 (-1))), []⟩])
        .ret)
       .skip))
     (.seq
      (.reg [4] [
        ⟨none, (some 11), .mov (.t 1), []⟩,
        ⟨none, (some 4), .mov (.t 11), []⟩])
      .ret))))
def c205 : Fn := { np := 2, nt := 12, kind := .pure, res := [.t 4], body := k205 }

/- spec.MeetTicks -/
def b206_1 : Cd :=
  (.seq
   (.seq
    (.reg [39] [
      ⟨none, (some 38), .mov (.t 15), []⟩,
      ⟨none, (some 39), .bin .lss (.t 38) (.c (.int .i64 12)), []⟩])
    (.cond (.t 39)
     .skip
     (.exit 2)))
   (.seq
    (.block 3
     (.seq
      (.reg [49] [
        ⟨none, (some 42), .mov (.t 15), []⟩,
        ⟨none, (some 43), .adrI 13 none 12 1 (.t 42), []⟩,
        ⟨none, (some 44), .ldV 13 (some 43) 1 false, []⟩,
        ⟨none, (some 45), .mov (.t 15), []⟩,
        ⟨none, (some 46), .adrI 14 none 12 1 (.t 45), []⟩,
        ⟨none, (some 47), .ldV 14 (some 46) 1 false, []⟩,
        ⟨none, (some 48), .bin .and (.t 44) (.t 47), []⟩,
        ⟨none, (some 49), .bin .neq (.t 48) (.c (.int .u16 0)), []⟩])
      (.cond (.t 49)
       (.seq
        (.reg [11] [
          ⟨none, (some 50), .mov (.t 11), []⟩,
          ⟨none, (some 51), .mov (.t 12), []⟩,
          ⟨none, (some 52), .bldS 1 1 [.int .i64 0] [(0, 1, (.t 51))], []⟩,
          ⟨none, (some 53), .app 1 8 (.t 50) (.t 52), []⟩,
          ⟨none, (some 11), .mov (.t 53), []⟩])
        (.exit 2))
       .skip)))
    (.reg [15] [
      ⟨none, (some 40), .mov (.t 15), []⟩,
      ⟨none, (some 41), .bin .add (.t 40) (.c (.int .i64 1)), []⟩,
      ⟨none, (some 15), .mov (.t 41), []⟩])))
def b206_2 : Cd :=
  (.seq
   (.seq
    (.reg [31] [
      ⟨none, (some 29), .mov (.t 12), []⟩,
      ⟨none, (some 30), .mov (.t 3), []⟩,
      ⟨none, (some 31), .bin .leq (.t 29) (.t 30), []⟩])
    (.cond (.t 31)
     .skip
     (.exit 0)))
   (.seq
    (.block 1
     (.seq
      (.reg [13] [
        ⟨none, (some 34), .mov (.t 12), []⟩,
        ⟨none, (some 35), .call true 423 [.t 4, .t 34], []⟩,
        ⟨none, (some 13), .zero true (zs 12 (.int .u16 0)), []⟩,
        ⟨none, (some 13), .stV 13 none 12 (.t 35), []⟩])
      (.seq
       (.reg [14] [
         ⟨none, (some 36), .mov (.t 12), []⟩,
         ⟨none, (some 37), .call true 423 [.t 5, .t 36], []⟩,
         ⟨none, (some 14), .zero true (zs 12 (.int .u16 0)), []⟩,
         ⟨none, (some 14), .stV 14 none 12 (.t 37), []⟩])
       (.seq
        (.reg [15] [
          ⟨none, (some 15), .mov (.c (.int .i64 0)), []⟩])
        (.block 2
         (.loop b206_1))))))
    (.reg [12] [
      ⟨none, (some 32), .mov (.t 12), []⟩,
      ⟨none, (some 33), .bin .add (.t 32) (.c (.int .i64 1)), []⟩,
      ⟨none, (some 12), .mov (.t 33), []⟩])))
def k206 : Cd :=
  (.seq
   (.reg [4, 5, 8, 9] [
     ⟨none, (some 4), .box 14 (.t 0), []⟩,
     ⟨none, (some 5), .box 14 (.t 1), []⟩,
     ⟨none, (some 8), .mov (.c (.slice none 0 0)), []⟩,
     ⟨none, (some 9), .mov (.c (.int .i64 0)), []⟩])
   (.seq
    (.seq
     (.reg [10] [
       ⟨none, (some 16), .ld 14 true (.t 4), []⟩,
       ⟨none, (some 17), .ld 14 true (.t 5), []⟩,
       ⟨none, (some 18), .bldS 14 2 [.int .u16 0, .int .u16 0, .int .u16 0, .int .u16 0, .int .u16 0, .int .u16 0, .int .u16 0, .int .u16 0, .int .u16 0, .int .u16 0, .int .u16 0, .int .u16 0, .int .i8 0, .slice none 0 0] [(0, 14, (.t 16)), (14, 14, (.t 17))], []⟩,
       ⟨none, (some 19), .mov (.t 2), []⟩,
       ⟨none, (some 20), .mov (.t 3), []⟩,
       ⟨none, (some 21), .call true 422 [.t 19, .t 20], []⟩,
       ⟨none, (some 22), .call true 421 [.t 18, .t 21], []⟩,
       ⟨none, (some 10), .mov (.t 22), []⟩])
     (.seq
      (.reg [24] [
        ⟨none, (some 23), .mov (.t 10), []⟩,
        ⟨none, (some 24), .bin .neq (.t 23) (.c (.int .i64 0)), []⟩])
      (.cond (.t 24)
       (.seq
        (.reg [8, 9] [
          ⟨none, (some 25), .bldS 1 0 [.int .i64 0] [], []⟩,
          ⟨none, (some 26), .mov (.t 10), []⟩,
          ⟨none, (some 8), .mov (.t 25), []⟩,
          ⟨none, (some 9), .mov (.t 26), []⟩])
        .ret)
       .skip)))
    (.seq
     (.reg [11] [
       ⟨none, (some 27), .bldS 1 0 [.int .i64 0] [], []⟩,
       ⟨none, (some 11), .mov (.t 27), []⟩])
     (.seq
      (.seq
       (.reg [12] [
         ⟨none, (some 28), .mov (.t 2), []⟩,
         ⟨none, (some 12), .mov (.t 28), []⟩])
       (.block 0
        (.loop b206_2)))
      (.seq
       (.reg [8, 9] [
         ⟨none, (some 54), .mov (.t 11), []⟩,
         ⟨none, (some 8), .mov (.t 54), []⟩,
         ⟨none, (some 9), .mov (.c (.int .i64 0)), []⟩])
       .ret)))))
def c206 : Fn := { np := 4, nt := 55, kind := .pure, res := [.t 8, .t 9], body := k206 }

/- laws.toPart -/
def k207 : Cd :=
  (.seq
   (.reg [2, 4] [
     ⟨none, (some 2), .mov (.t 0), []⟩,
     ⟨none, (some 4), .zero true [.int .u16 0, .int .u16 0, .int .u16 0, .int .u16 0, .int .u16 0, .int .u16 0, .int .u16 0, .int .u16 0, .int .u16 0, .int .u16 0, .int .u16 0, .int .u16 0, .int .i8 0, .slice none 0 0], []⟩])
   (.seq
    (.reg [5] [
      ⟨none, (some 5), .zero true [.int .u16 0, .int .u16 0, .int .u16 0, .int .u16 0, .int .u16 0, .int .u16 0, .int .u16 0, .int .u16 0, .int .u16 0, .int .u16 0, .int .u16 0, .int .u16 0, .int .i8 0, .slice none 0 0], []⟩])
    (.seq
     (.reg [5] [
       ⟨none, (some 6), .adrF 2 none 0, []⟩,
       ⟨none, (some 7), .ldV 2 (some 6) 12 true, []⟩,
       ⟨none, (some 8), .call true 134 [.t 7], []⟩,
       ⟨none, (some 9), .adrF 5 none 0, []⟩,
       ⟨none, (some 5), .stV 5 (some 9) 12 (.t 8), []⟩])
     (.seq
      (.reg [5] [
        ⟨none, (some 10), .adrF 2 none 12, []⟩,
        ⟨none, (some 11), .ldV 2 (some 10) 1 false, []⟩,
        ⟨none, (some 12), .adrF 5 none 12, []⟩,
        ⟨none, (some 5), .stV 5 (some 12) 1 (.t 11), []⟩])
      (.seq
       (.reg [5] [
         ⟨none, (some 13), .adrF 2 none 13, []⟩,
         ⟨none, (some 14), .ldV 2 (some 13) 1 false, []⟩,
         ⟨none, (some 15), .mov (.t 1), []⟩,
         ⟨none, (some 16), .call true 424 [.t 14, .t 15], []⟩,
         ⟨none, (some 17), .adrF 5 none 13, []⟩,
         ⟨none, (some 5), .stV 5 (some 17) 1 (.t 16), []⟩])
       (.seq
        (.reg [4] [
          ⟨none, (some 18), .ldV 5 none 14 true, []⟩,
          ⟨none, (some 4), .stV 4 none 14 (.t 18), []⟩])
        .ret))))))
def c207 : Fn := { np := 2, nt := 19, kind := .pure, res := [.v 4 14 true], body := k207 }

/- impl.MeetTicks -/
def b208_1 : Cd :=
  (.seq
   (.seq
    (.reg [27] [
      ⟨none, (some 25), .mov (.t 11), []⟩,
      ⟨none, (some 26), .mov (.t 3), []⟩,
      ⟨none, (some 27), .bin .leq (.t 25) (.t 26), []⟩])
    (.cond (.t 27)
     .skip
     (.exit 1)))
   (.seq
    (.block 2
     (.seq
      (.reg [38] [
        ⟨none, (some 30), .ldV 4 none 14 true, []⟩,
        ⟨none, (some 31), .mov (.t 11), []⟩,
        ⟨none, (some 33), .ldV 5 none 14 true, []⟩,
        ⟨none, (some 34), .mov (.t 11), []⟩,
        ⟨none, (some 32), .call true 427 [.t 30, .t 31], []⟩,
        ⟨none, (some 35), .call true 427 [.t 33, .t 34], []⟩,
        ⟨none, (some 36), .call true 348 [.t 32, .t 35], []⟩,
        ⟨none, (some 37), .call true 393 [.t 36], []⟩,
        ⟨none, (some 38), .bin .gtr (.t 37) (.c (.int .i64 0)), []⟩])
      (.cond (.t 38)
       (.reg [10] [
         ⟨none, (some 39), .mov (.t 10), []⟩,
         ⟨none, (some 40), .mov (.t 11), []⟩,
         ⟨none, (some 41), .bldS 1 1 [.int .i64 0] [(0, 1, (.t 40))], []⟩,
         ⟨none, (some 42), .app 1 8 (.t 39) (.t 41), []⟩,
         ⟨none, (some 10), .mov (.t 42), []⟩])
       .skip)))
    (.reg [11] [
      ⟨none, (some 28), .mov (.t 11), []⟩,
      ⟨none, (some 29), .bin .add (.t 28) (.c (.int .i64 1)), []⟩,
      ⟨none, (some 11), .mov (.t 29), []⟩])))
def k208 : Cd :=
  (.seq
   (.reg [4, 5, 8, 9] [
     ⟨none, (some 4), .mov (.t 0), []⟩,
     ⟨none, (some 5), .mov (.t 1), []⟩,
     ⟨none, (some 8), .mov (.c (.slice none 0 0)), []⟩,
     ⟨none, (some 9), .mov (.c (.int .i64 0)), []⟩])
   (.seq
    (.block 0
     (.seq
      (.reg [12] [
        ⟨none, (some 13), .ldV 4 none 14 true, []⟩,
        ⟨none, (some 14), .ldV 5 none 14 true, []⟩,
        ⟨none, (some 15), .bldS 14 2 [.int .u16 0, .int .u16 0, .int .u16 0, .int .u16 0, .int .u16 0, .int .u16 0, .int .u16 0, .int .u16 0, .int .u16 0, .int .u16 0, .int .u16 0, .int .u16 0, .int .i8 0, .slice none 0 0] [(0, 14, (.t 13)), (14, 14, (.t 14))], []⟩,
        ⟨none, (some 16), .call true 425 [.t 15], []⟩,
        ⟨none, (some 17), .un .not (.t 16), []⟩,
        ⟨none, (some 12), .mov (.t 17), []⟩])
      (.cond (.t 12)
       (.seq
        (.reg [8, 9] [
          ⟨none, (some 8), .mov (.c (.slice none 0 0)), []⟩,
          ⟨none, (some 9), .mov (.c (.int .i64 1)), []⟩])
        .ret)
       (.seq
        (.reg [18] [
          ⟨none, (some 19), .mov (.t 2), []⟩,
          ⟨none, (some 20), .mov (.t 3), []⟩,
          ⟨none, (some 21), .call true 426 [.t 19, .t 20], []⟩,
          ⟨none, (some 22), .un .not (.t 21), []⟩,
          ⟨none, (some 18), .mov (.t 22), []⟩])
        (.cond (.t 18)
         (.seq
          (.reg [8, 9] [
            ⟨none, (some 8), .mov (.c (.slice none 0 0)), []⟩,
            ⟨none, (some 9), .mov (.c (.int .i64 2)), []⟩])
          .ret)
         .skip)))))
    (.seq
     (.reg [10] [
       ⟨none, (some 23), .bldS 1 0 [.int .i64 0] [], []⟩,
       ⟨none, (some 10), .mov (.t 23), []⟩])
     (.seq
      (.seq
       (.reg [11] [
         ⟨none, (some 24), .mov (.t 2), []⟩,
         ⟨none, (some 11), .mov (.t 24), []⟩])
       (.block 1
        (.loop b208_1)))
      (.seq
       (.reg [8, 9] [
         ⟨none, (some 43), .mov (.t 10), []⟩,
         ⟨none, (some 8), .mov (.t 43), []⟩,
         ⟨none, (some 9), .mov (.c (.int .i64 0)), []⟩])
       .ret)))))
def c208 : Fn := { np := 4, nt := 44, kind := .pure, res := [.t 8, .t 9], body := k208 }

/- laws.intactPart -/
def k209 : Cd :=
  (.seq
   (.reg [2, 3, 4] [
     ⟨none, (some 2), .mov (.t 0), []⟩,
     ⟨none, (some 3), .mov (.t 1), []⟩,
     ⟨none, (some 4), .mov (.c (.bool false)), []⟩])
   (.seq
    (.seq
     (.reg [10] [
       ⟨none, (some 5), .adrF 2 none 0, []⟩,
       ⟨none, (some 6), .ldV 2 (some 5) 12 true, []⟩,
       ⟨none, (some 7), .adrF 3 none 0, []⟩,
       ⟨none, (some 8), .ldV 3 (some 7) 12 true, []⟩,
       ⟨none, (some 9), .call true 78 [.t 6, .t 8], []⟩,
       ⟨none, (some 10), .un .not (.t 9), []⟩])
     (.cond (.t 10)
      (.seq
       (.reg [4] [
         ⟨none, (some 4), .mov (.c (.bool false)), []⟩])
       .ret)
      .skip))
    (.seq
     (.seq
      (.reg [15] [
        ⟨none, (some 11), .adrF 2 none 12, []⟩,
        ⟨none, (some 12), .ldV 2 (some 11) 1 false, []⟩,
        ⟨none, (some 13), .adrF 3 none 12, []⟩,
        ⟨none, (some 14), .ldV 3 (some 13) 1 false, []⟩,
        ⟨none, (some 15), .bin .neq (.t 12) (.t 14), []⟩])
      (.cond (.t 15)
       (.seq
        (.reg [4] [
          ⟨none, (some 4), .mov (.c (.bool false)), []⟩])
        .ret)
       .skip))
     (.seq
      (.seq
       (.reg [21] [
         ⟨none, (some 16), .adrF 2 none 13, []⟩,
         ⟨none, (some 17), .ldV 2 (some 16) 1 false, []⟩,
         ⟨none, (some 18), .adrF 3 none 13, []⟩,
         ⟨none, (some 19), .ldV 3 (some 18) 1 false, []⟩,
         ⟨none, (some 20), .call true 428 [.t 17, .t 19], []⟩,
         ⟨none, (some 21), .un .not (.t 20), []⟩])
       (.cond (.t 21)
        (.seq
         (.reg [4] [
           ⟨none, (some 4), .mov (.c (.bool false)), []⟩])
         .ret)
        .skip))
      (.seq
       (.reg [4] [
         ⟨none, (some 4), .mov (.c (.bool true)), []⟩])
       .ret)))))
def c209 : Fn := { np := 2, nt := 22, kind := .pure, res := [.t 4], body := k209 }

/- laws.markPart -/
def k210 : Cd :=
  (.seq
   (.reg [2, 4] [
     ⟨none, (some 2), .mov (.t 0), []⟩,
     ⟨none, (some 4), .mov (.c (.int .i64 0)), []⟩])
   (.seq
    (.reg [1] [
      ⟨none, (some 5), .adrF 2 none 13, []⟩,
      ⟨none, (some 6), .ldV 2 (some 5) 1 false, []⟩,
      ⟨none, (some 7), .mov (.t 1), []⟩,
      ⟨none, (some 8), .call false 429 [.t 6, .t 7], []⟩,
      ⟨none, (some 1), .mov (.t 8), []⟩])
    (.seq
     (.reg [4] [
       ⟨none, (some 9), .mov (.t 1), []⟩,
       ⟨none, (some 4), .mov (.t 9), []⟩])
     .ret)))
def c210 : Fn := { np := 2, nt := 10, kind := .args, res := [.t 4], body := k210 }

/- impl.ValidFrame -/
def k234 : Cd :=
  (.seq
   (.reg [1, 2] [
     ⟨none, (some 1), .box 12 (.t 0), []⟩,
     ⟨none, (some 2), .mov (.c (.bool false)), []⟩])
   (.seq
    (.reg [2] [
      ⟨none, (some 3), .slcP 12 1 (.t 1), []⟩,
      ⟨none, (some 4), .call true 445 [.t 3, .f 446], []⟩,
      ⟨none, (some 5), .un .not (.t 4), []⟩,
      ⟨none, (some 2), .mov (.t 5), []⟩])
    .ret))
def c234 : Fn := { np := 1, nt := 6, kind := .pure, res := [.t 2], body := k234 }

/- impl.ValidPart -/
def k263 : Cd :=
  (.seq
   (.reg [1, 2] [
     ⟨none, (some 1), .mov (.t 0), []⟩,
     ⟨none, (some 2), .mov (.c (.bool false)), []⟩])
   (.seq
    (.reg [2] [
      ⟨none, (some 3), .adrF 1 none 0, []⟩,
      ⟨none, (some 4), .ldV 1 (some 3) 12 true, []⟩,
      ⟨none, (some 5), .call true 234 [.t 4], []⟩,
      ⟨none, (some 6), .mov (.t 5), []⟩,
      ⟨(some (6, true)), (some 7), .adrF 1 none 13, []⟩,
      ⟨(some (6, true)), (some 8), .ldV 1 (some 7) 1 false, []⟩,
      ⟨(some (6, true)), (some 9), .call true 461 [.t 8], []⟩,
      ⟨none, (some 10), .pick (.t 6) (.t 9) (.c (.bool false)), []⟩,
      ⟨none, (some 11), .mov (.t 10), []⟩,
      ⟨(some (11, true)), (some 12), .adrF 1 none 12, []⟩,
      ⟨(some (11, true)), (some 13), .ldV 1 (some 12) 1 false, []⟩,
      ⟨(some (11, true)), (some 14), .conv .i64 (.t 13), []⟩,
      ⟨(some (11, true)), (some 15), .call true 462 [.t 14], []⟩,
      ⟨none, (some 16), .pick (.t 11) (.t 15) (.c (.bool false)), []⟩,
      ⟨none, (some 2), .mov (.t 16), []⟩])
    .ret))
def c263 : Fn := { np := 1, nt := 17, kind := .pure, res := [.t 2], body := k263 }

/- impl.inRange -/
def k295 : Cd :=
  (.seq
   (.reg [6] [
     ⟨none, (some 6), .mov (.c (.bool false)), []⟩])
   (.seq
    (.reg [6] [
      ⟨none, (some 7), .mov (.t 1), []⟩,
      ⟨none, (some 8), .mov (.t 0), []⟩,
      ⟨none, (some 9), .bin .leq (.t 7) (.t 8), []⟩,
      ⟨none, (some 10), .mov (.t 9), []⟩,
      ⟨(some (10, true)), (some 11), .mov (.t 0), []⟩,
      ⟨(some (10, true)), (some 12), .mov (.t 2), []⟩,
      ⟨(some (10, true)), (some 13), .bin .leq (.t 11) (.t 12), []⟩,
      ⟨none, (some 14), .pick (.t 10) (.t 13) (.c (.bool false)), []⟩,
      ⟨none, (some 6), .mov (.t 14), []⟩])
    .ret))
def c295 : Fn := { np := 3, nt := 15, kind := .pure, res := [.t 6], body := k295 }

/- laws.roomBehind -/
def k296 : Cd :=
  (.seq
   (.reg [2] [
     ⟨none, (some 2), .mov (.c (.int .i64 0)), []⟩])
   (.seq
    (.seq
     (.reg [5] [
       ⟨none, (some 3), .mov (.t 0), []⟩,
       ⟨none, (some 4), .bin .rem (.t 3) (.c (.int .i64 6)), []⟩,
       ⟨none, (some 5), .bin .eql (.t 4) (.c (.int .i64 5)), []⟩])
     (.cond (.t 5)
      (.seq
       (.reg [2] [
         ⟨none, (some 2), .mov (.c (.int .i64 0)), []⟩])
       .ret)
      .skip))
    (.seq
     (.seq
      (.reg [8] [
        ⟨none, (some 6), .mov (.t 0), []⟩,
        ⟨none, (some 7), .bin .rem (.t 6) (.c (.int .i64 3)), []⟩,
        ⟨none, (some 8), .bin .eql (.t 7) (.c (.int .i64 0)), []⟩])
      (.cond (.t 8)
       (.seq
        (.reg [2] [
          ⟨none, (some 2), .mov (.c (.int .i64 1)), []⟩])
        .ret)
       .skip))
     (.seq
      (.reg [2] [
        ⟨none, (some 9), .mov (.t 0), []⟩,
        ⟨none, (some 2), .mov (.t 9), []⟩])
      .ret))))
def c296 : Fn := { np := 1, nt := 10, kind := .pure, res := [.t 2], body := k296 }

/- spec.l00In -/
def k304 : Cd :=
  (.seq
   (.reg [6] [
     ⟨none, (some 6), .mov (.c (.bool false)), []⟩])
   (.seq
    (.reg [6] [
      ⟨none, (some 7), .mov (.t 0), []⟩,
      ⟨none, (some 8), .mov (.t 1), []⟩,
      ⟨none, (some 9), .bin .geq (.t 7) (.t 8), []⟩,
      ⟨none, (some 10), .mov (.t 9), []⟩,
      ⟨(some (10, true)), (some 11), .mov (.t 0), []⟩,
      ⟨(some (10, true)), (some 12), .mov (.t 2), []⟩,
      ⟨(some (10, true)), (some 13), .bin .leq (.t 11) (.t 12), []⟩,
      ⟨none, (some 14), .pick (.t 10) (.t 13) (.c (.bool false)), []⟩,
      ⟨none, (some 6), .mov (.t 14), []⟩])
    .ret))
def c304 : Fn := { np := 3, nt := 15, kind := .pure, res := [.t 6], body := k304 }

/- spec.l01Put -/
def k305 : Cd :=
  (.seq
   (.reg [8] [
     ⟨none, (some 6), .mov (.t 1), []⟩,
     ⟨none, (some 7), .mov (.t 2), []⟩,
     ⟨none, (some 8), .call true 342 [.t 6, .t 7], []⟩])
   (.cond (.t 8)
    (.reg [] [
      ⟨none, (some 9), .mov (.t 0), []⟩,
      ⟨none, (some 10), .mov (.t 2), []⟩,
      ⟨none, (some 11), .mov (.t 0), []⟩,
      ⟨none, (some 12), .mov (.t 2), []⟩,
      ⟨none, (some 13), .nil (.t 11), []⟩,
      ⟨none, (some 14), .idxP 12 1 (.t 13) (.t 12), []⟩,
      ⟨none, (some 15), .ld 1 false (.t 14), []⟩,
      ⟨none, (some 16), .mov (.t 1), []⟩,
      ⟨none, (some 17), .conv .u64 (.t 16), []⟩,
      ⟨none, (some 18), .bin .shl (.c (.int .u16 1)) (.t 17), []⟩,
      ⟨none, (some 19), .bin .or (.t 15) (.t 18), []⟩,
      ⟨none, (some 20), .nil (.t 9), []⟩,
      ⟨none, (some 21), .idxP 12 1 (.t 20) (.t 10), []⟩,
      ⟨none, none, .st 1 (.t 21) (.t 19), []⟩])
    .skip))
def c305 : Fn := { np := 3, nt := 22, kind := .args, res := [], body := k305 }

/- spec.l01Place -/
def k342 : Cd :=
  (.seq
   (.reg [4] [
     ⟨none, (some 4), .mov (.c (.bool false)), []⟩])
   (.seq
    (.reg [4] [
      ⟨none, (some 5), .mov (.t 0), []⟩,
      ⟨none, (some 6), .call true 304 [.t 5, .c (.int .i64 0), .c (.int .i64 11)], []⟩,
      ⟨none, (some 7), .mov (.t 6), []⟩,
      ⟨(some (7, true)), (some 8), .mov (.t 1), []⟩,
      ⟨(some (7, true)), (some 9), .call true 304 [.t 8, .c (.int .i64 0), .c (.int .i64 11)], []⟩,
      ⟨none, (some 10), .pick (.t 7) (.t 9) (.c (.bool false)), []⟩,
      ⟨none, (some 4), .mov (.t 10), []⟩])
    .ret))
def c342 : Fn := { np := 2, nt := 11, kind := .pure, res := [.t 4], body := k342 }

/- (impl.Frame).meet -/
def k348 : Cd :=
  (.seq
   (.reg [2, 3, 4] [
     ⟨none, (some 2), .mov (.t 0), []⟩,
     ⟨none, (some 3), .mov (.t 1), []⟩,
     ⟨none, (some 4), .zero true (zs 12 (.int .u16 0)), []⟩])
   (.seq
    (.reg [4] [
      ⟨none, (some 5), .ldV 2 none 12 true, []⟩,
      ⟨none, (some 6), .ldV 3 none 12 true, []⟩,
      ⟨none, (some 7), .call true 443 [.t 5, .t 6, .f 503], []⟩,
      ⟨none, (some 4), .stV 4 none 12 (.t 7), []⟩])
    .ret))
def c348 : Fn := { np := 2, nt := 8, kind := .pure, res := [.v 4 12 true], body := k348 }

/- spec.l01Moved -/
def b355_1 : Cd :=
  (.seq
   (.seq
    (.reg [16] [
      ⟨none, (some 13), .mov (.t 9), []⟩,
      ⟨none, (some 14), .mov (.t 8), []⟩,
      ⟨none, (some 15), .len (.t 14), []⟩,
      ⟨none, (some 16), .bin .lss (.t 13) (.t 15), []⟩])
    (.cond (.t 16)
     .skip
     (.exit 0)))
   (.seq
    (.block 1
     (.reg [] [
       ⟨none, (some 19), .mov (.t 8), []⟩,
       ⟨none, (some 20), .mov (.t 9), []⟩,
       ⟨none, (some 21), .idxA 2 (.t 19) (.t 20), []⟩,
       ⟨none, (some 22), .fldP 0 (.t 21), []⟩,
       ⟨none, (some 23), .ld 1 false (.t 22), []⟩,
       ⟨none, (some 24), .conv .i64 (.t 23), []⟩,
       ⟨none, (some 25), .mov (.t 1), []⟩,
       ⟨none, (some 26), .bin .add (.t 24) (.t 25), []⟩,
       ⟨none, (some 27), .mov (.t 8), []⟩,
       ⟨none, (some 28), .mov (.t 9), []⟩,
       ⟨none, (some 29), .idxA 2 (.t 27) (.t 28), []⟩,
       ⟨none, (some 30), .fldP 1 (.t 29), []⟩,
       ⟨none, (some 31), .ld 1 false (.t 30), []⟩,
       ⟨none, (some 32), .conv .i64 (.t 31), []⟩,
       ⟨none, (some 33), .mov (.t 2), []⟩,
       ⟨none, (some 34), .bin .add (.t 32) (.t 33), []⟩,
       ⟨none, (some 35), .call false 305 [.t 7, .t 26, .t 34], []⟩]))
    (.reg [9] [
      ⟨none, (some 17), .mov (.t 9), []⟩,
      ⟨none, (some 18), .bin .add (.t 17) (.c (.int .i64 1)), []⟩,
      ⟨none, (some 9), .mov (.t 18), []⟩])))
def k355 : Cd :=
  (.seq
   (.reg [6] [
     ⟨none, (some 6), .zero true (zs 12 (.int .u16 0)), []⟩])
   (.seq
    (.reg [7] [
      ⟨none, (some 10), .agg (zs 12 (.int .u16 0)) [], []⟩,
      ⟨none, (some 7), .new 1 (zs 12 (.int .u16 0)), []⟩,
      ⟨none, none, .st 12 (.t 7) (.t 10), []⟩])
    (.seq
     (.reg [8] [
       ⟨none, (some 11), .mov (.t 0), []⟩,
       ⟨none, (some 12), .call true 440 [.t 11], []⟩,
       ⟨none, (some 8), .mov (.t 12), []⟩])
     (.seq
      (.seq
       (.reg [9] [
         ⟨none, (some 9), .mov (.c (.int .i64 0)), []⟩])
       (.block 0
        (.loop b355_1)))
      (.seq
       (.reg [6] [
         ⟨none, (some 36), .ld 12 true (.t 7), []⟩,
         ⟨none, (some 6), .stV 6 none 12 (.t 36), []⟩])
       .ret)))))
def c355 : Fn := { np := 3, nt := 37, kind := .pure, res := [.v 6 12 true], body := k355 }

/- (impl.Frame).moved -/
def b358_1 : Cd :=
  (.seq
   (.reg [16] [
     ⟨none, (some 16), .bin .lss (.t 15) (.c (.int .i64 12)), []⟩])
   (.seq
    (.cond (.t 16)
     .skip
     (.exit 0))
    (.seq
     (.block 1
      (.seq
       (.reg [8] [
         ⟨none, (some 17), .mov (.t 15), []⟩,
         ⟨none, (some 8), .mov (.t 17), []⟩])
       (.seq
        (.reg [9] [
          ⟨none, (some 18), .mov (.t 8), []⟩,
          ⟨none, (some 19), .mov (.t 2), []⟩,
          ⟨none, (some 20), .bin .sub (.t 18) (.t 19), []⟩,
          ⟨none, (some 9), .mov (.t 20), []⟩])
        (.seq
         (.seq
          (.reg [23] [
            ⟨none, (some 21), .mov (.t 9), []⟩,
            ⟨none, (some 22), .call true 295 [.t 21, .c (.int .i64 0), .c (.int .i64 11)], []⟩,
            ⟨none, (some 23), .un .not (.t 22), []⟩])
          (.cond (.t 23)
           (.exit 1)
           .skip))
         (.seq
          (.reg [25] [
            ⟨none, (some 24), .mov (.t 1), []⟩,
            ⟨none, (some 25), .bin .geq (.t 24) (.c (.int .i64 0)), []⟩])
          (.cond (.t 25)
           (.reg [7] [
             ⟨none, (some 26), .mov (.t 8), []⟩,
             ⟨none, (some 27), .mov (.t 9), []⟩,
             ⟨none, (some 28), .adrI 3 none 12 1 (.t 27), []⟩,
             ⟨none, (some 29), .ldV 3 (some 28) 1 false, []⟩,
             ⟨none, (some 30), .mov (.t 1), []⟩,
             ⟨none, (some 31), .bin .shl (.t 29) (.t 30), []⟩,
             ⟨none, (some 32), .bin .and (.t 31) (.c (.int .u16 4095)), []⟩,
             ⟨none, (some 33), .adrI 7 none 12 1 (.t 26), []⟩,
             ⟨none, (some 7), .stV 7 (some 33) 1 (.t 32), []⟩])
           (.reg [7] [
             ⟨none, (some 34), .mov (.t 8), []⟩,
             ⟨none, (some 35), .mov (.t 9), []⟩,
             ⟨none, (some 36), .adrI 3 none 12 1 (.t 35), []⟩,
             ⟨none, (some 37), .ldV 3 (some 36) 1 false, []⟩,
             ⟨none, (some 38), .mov (.t 1), []⟩,
             ⟨none, (some 39), .un .neg (.t 38), []⟩,
             ⟨none, (some 40), .bin .shr (.t 37) (.t 39), []⟩,
             ⟨none, (some 41), .adrI 7 none 12 1 (.t 34), []⟩,
             ⟨none, (some 7), .stV 7 (some 41) 1 (.t 40), []⟩])))))))
     (.reg [15] [
       ⟨none, (some 42), .bin .add (.t 15) (.c (.int .i64 1)), []⟩,
       ⟨none, (some 15), .mov (.t 42), []⟩]))))
def k358 : Cd :=
  (.seq
   (.reg [3, 6] [
     ⟨none, (some 3), .mov (.t 0), []⟩,
     ⟨none, (some 6), .zero true (zs 12 (.int .u16 0)), []⟩])
   (.seq
    (.reg [7] [
      ⟨none, (some 10), .agg (zs 12 (.int .u16 0)) [], []⟩,
      ⟨none, (some 7), .zero true (zs 12 (.int .u16 0)), []⟩,
      ⟨none, (some 7), .stV 7 none 12 (.t 10), []⟩])
    (.seq
     (.seq
      (.reg [13] [
        ⟨none, (some 11), .mov (.t 1), []⟩,
        ⟨none, (some 12), .call true 295 [.t 11, .c (.int .i64 (-12)), .c (.int .i64 12)], []⟩,
        ⟨none, (some 13), .un .not (.t 12), []⟩])
      (.cond (.t 13)
       (.seq
        (.reg [6] [
          ⟨none, (some 14), .ldV 7 none 12 true, []⟩,
          ⟨none, (some 6), .stV 6 none 12 (.t 14), []⟩])
        .ret)
       .skip))
     (.seq
      (.seq
       (.reg [15] [
         ⟨none, (some 15), .mov (.c (.int .i64 0)), []⟩])
       (.block 0
        (.loop b358_1)))
      (.seq
       (.reg [6] [
         ⟨none, (some 43), .ldV 7 none 12 true, []⟩,
         ⟨none, (some 6), .stV 6 none 12 (.t 43), []⟩])
       .ret)))))
def c358 : Fn := { np := 3, nt := 44, kind := .pure, res := [.v 6 12 true], body := k358 }

/- spec.l01Ok -/
def b359_1 : Cd :=
  (.seq
   (.seq
    (.reg [5] [
      ⟨none, (some 4), .mov (.t 3), []⟩,
      ⟨none, (some 5), .bin .lss (.t 4) (.c (.int .i64 12)), []⟩])
    (.cond (.t 5)
     .skip
     (.exit 0)))
   (.seq
    (.block 1
     (.seq
      (.reg [13] [
        ⟨none, (some 8), .mov (.t 0), []⟩,
        ⟨none, (some 9), .mov (.t 3), []⟩,
        ⟨none, (some 10), .nil (.t 8), []⟩,
        ⟨none, (some 11), .idxP 12 1 (.t 10) (.t 9), []⟩,
        ⟨none, (some 12), .ld 1 false (.t 11), []⟩,
        ⟨none, (some 13), .bin .gtr (.t 12) (.c (.int .u16 4095)), []⟩])
      (.cond (.t 13)
       (.seq
        (.reg [2] [
          ⟨none, (some 2), .mov (.c (.bool false)), []⟩])
        .ret)
       .skip)))
    (.reg [3] [
      ⟨none, (some 6), .mov (.t 3), []⟩,
      ⟨none, (some 7), .bin .add (.t 6) (.c (.int .i64 1)), []⟩,
      ⟨none, (some 3), .mov (.t 7), []⟩])))
def k359 : Cd :=
  (.seq
   (.reg [2] [
     ⟨none, (some 2), .mov (.c (.bool false)), []⟩])
   (.seq
    (.seq
     (.reg [3] [
       ⟨none, (some 3), .mov (.c (.int .i64 0)), []⟩])
     (.block 0
      (.loop b359_1)))
    (.seq
     (.reg [2] [
       ⟨none, (some 2), .mov (.c (.bool true)), []⟩])
     .ret)))
def c359 : Fn := { np := 1, nt := 14, kind := .pure, res := [.t 2], body := k359 }

/- (impl.Frame).count -/
def b393_1 : Cd :=
  (.seq
   (.reg [8] [
     ⟨none, (some 8), .bin .lss (.t 7) (.c (.int .i64 12)), []⟩])
   (.seq
    (.cond (.t 8)
     .skip
     (.exit 0))
    (.seq
     (.block 1
      (.seq
       (.reg [5] [
         ⟨none, (some 9), .idx 12 1 false (.t 6) (.t 7), []⟩,
         ⟨none, (some 5), .mov (.t 9), []⟩])
       (.reg [3] [
         ⟨none, (some 10), .mov (.t 3), []⟩,
         ⟨none, (some 11), .mov (.t 5), []⟩,
         ⟨none, (some 12), .call true 530 [.t 11], []⟩,
         ⟨none, (some 13), .bin .add (.t 10) (.t 12), []⟩,
         ⟨none, (some 3), .mov (.t 13), []⟩])))
     (.reg [7] [
       ⟨none, (some 14), .bin .add (.t 7) (.c (.int .i64 1)), []⟩,
       ⟨none, (some 7), .mov (.t 14), []⟩]))))
def k393 : Cd :=
  (.seq
   (.reg [1, 2] [
     ⟨none, (some 1), .mov (.t 0), []⟩,
     ⟨none, (some 2), .mov (.c (.int .i64 0)), []⟩])
   (.seq
    (.reg [3] [
      ⟨none, (some 3), .mov (.c (.int .i64 0)), []⟩])
    (.seq
     (.seq
      (.reg [6, 7] [
        ⟨none, (some 6), .ldV 1 none 12 true, []⟩,
        ⟨none, (some 7), .mov (.c (.int .i64 0)), []⟩])
      (.block 0
       (.loop b393_1)))
     (.seq
      (.reg [2] [
        ⟨none, (some 15), .mov (.t 3), []⟩,
        ⟨none, (some 2), .mov (.t 15), []⟩])
      .ret))))
def c393 : Fn := { np := 1, nt := 16, kind := .pure, res := [.t 2], body := k393 }

/- laws.szTrack -/
def k420 : Cd :=
  (.seq
   (.reg [4] [
     ⟨none, (some 4), .mov (.c (.int .i64 0)), []⟩])
   (.seq
    (.reg [1] [
      ⟨none, (some 5), .mov (.t 1), []⟩,
      ⟨none, (some 6), .mov (.t 0), []⟩,
      ⟨none, (some 7), .len (.t 6), []⟩,
      ⟨none, (some 8), .bin .sub (.t 5) (.t 7), []⟩,
      ⟨none, (some 1), .mov (.t 8), []⟩])
    (.seq
     (.seq
      (.reg [10] [
        ⟨none, (some 9), .mov (.t 1), []⟩,
        ⟨none, (some 10), .bin .lss (.t 9) (.c (.int .i64 0)), []⟩])
      (.cond (.t 10)
       (.seq
        (.reg [4] [
          ⟨none, (some 4), .mov (.c (.int .i64 (-1))), []⟩])
        .ret)
       .skip))
     (.seq
      (.reg [4] [
        ⟨none, (some 11), .mov (.t 1), []⟩,
        ⟨none, (some 4), .mov (.t 11), []⟩])
      .ret))))
def c420 : Fn := { np := 2, nt := 12, kind := .pure, res := [.t 4], body := k420 }

/- spec.l03Parts -/
def b421_1 : Cd :=
  (.seq
   (.seq
    (.reg [9] [
      ⟨none, (some 6), .mov (.t 5), []⟩,
      ⟨none, (some 7), .mov (.t 0), []⟩,
      ⟨none, (some 8), .len (.t 7), []⟩,
      ⟨none, (some 9), .bin .lss (.t 6) (.t 8), []⟩])
    (.cond (.t 9)
     .skip
     (.exit 0)))
   (.seq
    (.block 1
     (.seq
      (.reg [16] [
        ⟨none, (some 12), .mov (.t 0), []⟩,
        ⟨none, (some 13), .mov (.t 5), []⟩,
        ⟨none, (some 14), .idxA 14 (.t 12) (.t 13), []⟩,
        ⟨none, (some 15), .call true 537 [.t 14], []⟩,
        ⟨none, (some 16), .un .not (.t 15), []⟩])
      (.cond (.t 16)
       (.seq
        (.reg [4] [
          ⟨none, (some 4), .mov (.c (.int .i64 1)), []⟩])
        .ret)
       .skip)))
    (.reg [5] [
      ⟨none, (some 10), .mov (.t 5), []⟩,
      ⟨none, (some 11), .bin .add (.t 10) (.c (.int .i64 1)), []⟩,
      ⟨none, (some 5), .mov (.t 11), []⟩])))
def k421 : Cd :=
  (.seq
   (.reg [4] [
     ⟨none, (some 4), .mov (.c (.int .i64 0)), []⟩])
   (.seq
    (.seq
     (.reg [5] [
       ⟨none, (some 5), .mov (.c (.int .i64 0)), []⟩])
     (.block 0
      (.loop b421_1)))
    (.seq
     (.seq
      (.reg [18] [
        ⟨none, (some 17), .mov (.t 1), []⟩,
        ⟨none, (some 18), .un .not (.t 17), []⟩])
      (.cond (.t 18)
       (.seq
        (.reg [4] [
          ⟨none, (some 4), .mov (.c (.int .i64 2)), []⟩])
        .ret)
       .skip))
     (.seq
      (.seq
       (.reg [21] [
         ⟨none, (some 19), .mov (.t 0), []⟩,
         ⟨none, (some 20), .len (.t 19), []⟩,
         ⟨none, (some 21), .bin .gtr (.t 20) (.c (.int .i64 6)), []⟩])
       (.cond (.t 21)
        (.seq
         (.reg [4] [
           ⟨none, (some 4), .mov (.c (.int .i64 3)), []⟩])
         .ret)
        .skip))
      (.seq
       (.reg [4] [
         ⟨none, (some 4), .mov (.c (.int .i64 0)), []⟩])
       .ret)))))
def c421 : Fn := { np := 2, nt := 22, kind := .pure, res := [.t 4], body := k421 }

/- spec.l03Span -/
def k422 : Cd :=
  (.seq
   (.reg [4] [
     ⟨none, (some 4), .mov (.c (.bool false)), []⟩])
   (.seq
    (.reg [4] [
      ⟨none, (some 5), .mov (.t 0), []⟩,
      ⟨none, (some 6), .call true 432 [.t 5], []⟩,
      ⟨none, (some 7), .mov (.t 6), []⟩,
      ⟨(some (7, true)), (some 8), .mov (.t 1), []⟩,
      ⟨(some (7, true)), (some 9), .call true 432 [.t 8], []⟩,
      ⟨none, (some 10), .pick (.t 7) (.t 9) (.c (.bool false)), []⟩,
      ⟨none, (some 11), .mov (.t 10), []⟩,
      ⟨(some (11, true)), (some 12), .mov (.t 0), []⟩,
      ⟨(some (11, true)), (some 13), .mov (.t 1), []⟩,
      ⟨(some (11, true)), (some 14), .bin .leq (.t 12) (.t 13), []⟩,
      ⟨none, (some 15), .pick (.t 11) (.t 14) (.c (.bool false)), []⟩,
      ⟨none, (some 4), .mov (.t 15), []⟩])
    .ret))
def c422 : Fn := { np := 2, nt := 16, kind := .pure, res := [.t 4], body := k422 }

/- spec.l03Frame -/
def k423 : Cd :=
  (.seq
   (.reg [4] [
     ⟨none, (some 4), .zero true (zs 12 (.int .u16 0)), []⟩])
   (.seq
    (.reg [5, 6] [
      ⟨none, (some 8), .mov (.t 0), []⟩,
      ⟨none, (some 9), .nil (.t 8), []⟩,
      ⟨none, (some 10), .fldP 13 (.t 9), []⟩,
      ⟨none, (some 11), .ld 1 false (.t 10), []⟩,
      ⟨none, (some 12), .mov (.t 0), []⟩,
      ⟨none, (some 13), .nil (.t 12), []⟩,
      ⟨none, (some 14), .fldP 12 (.t 13), []⟩,
      ⟨none, (some 15), .ld 1 false (.t 14), []⟩,
      ⟨none, (some 16), .conv .i64 (.t 15), []⟩,
      ⟨none, (some 17), .mov (.t 1), []⟩,
      ⟨none, (some 18), .call true 538 [.t 11, .t 16, .t 17], []⟩,
      ⟨none, (some 7), .mov (.t 18), []⟩,
      ⟨none, (some 19), .ext (.t 7) 0, []⟩,
      ⟨none, (some 20), .ext (.t 7) 1, []⟩,
      ⟨none, (some 5), .mov (.t 19), []⟩,
      ⟨none, (some 6), .mov (.t 20), []⟩])
    (.seq
     (.reg [4] [
       ⟨none, (some 21), .mov (.t 0), []⟩,
       ⟨none, (some 22), .nil (.t 21), []⟩,
       ⟨none, (some 23), .fldP 0 (.t 22), []⟩,
       ⟨none, (some 24), .mov (.t 5), []⟩,
       ⟨none, (some 25), .mov (.t 6), []⟩,
       ⟨none, (some 26), .call true 355 [.t 23, .t 24, .t 25], []⟩,
       ⟨none, (some 4), .stV 4 none 12 (.t 26), []⟩])
     .ret)))
def c423 : Fn := { np := 2, nt := 27, kind := .pure, res := [.v 4 12 true], body := k423 }

/- laws.toTrack -/
def b424_1 : Cd :=
  (.seq
   (.seq
    (.reg [24] [
      ⟨none, (some 21), .mov (.t 6), []⟩,
      ⟨none, (some 22), .mov (.t 0), []⟩,
      ⟨none, (some 23), .len (.t 22), []⟩,
      ⟨none, (some 24), .bin .lss (.t 21) (.t 23), []⟩])
    (.cond (.t 24)
     .skip
     (.exit 0)))
   (.seq
    (.block 1
     (.reg [] [
       ⟨none, (some 27), .mov (.t 5), []⟩,
       ⟨none, (some 28), .mov (.t 6), []⟩,
       ⟨none, (some 29), .mov (.t 0), []⟩,
       ⟨none, (some 30), .mov (.t 6), []⟩,
       ⟨none, (some 31), .idxA 3 (.t 29) (.t 30), []⟩,
       ⟨none, (some 32), .ld 3 true (.t 31), []⟩,
       ⟨none, (some 33), .call true 539 [.t 32], []⟩,
       ⟨none, (some 34), .idxA 3 (.t 27) (.t 28), []⟩,
       ⟨none, none, .st 3 (.t 34) (.t 33), []⟩]))
    (.reg [6] [
      ⟨none, (some 25), .mov (.t 6), []⟩,
      ⟨none, (some 26), .bin .add (.t 25) (.c (.int .i64 1)), []⟩,
      ⟨none, (some 6), .mov (.t 26), []⟩])))
def b424_2 : Cd :=
  (.seq
   (.seq
    (.reg [40] [
      ⟨none, (some 37), .mov (.t 7), []⟩,
      ⟨none, (some 38), .mov (.t 5), []⟩,
      ⟨none, (some 39), .len (.t 38), []⟩,
      ⟨none, (some 40), .bin .lss (.t 37) (.t 39), []⟩])
    (.cond (.t 40)
     .skip
     (.exit 2)))
   (.seq
    (.block 3
     (.reg [] [
       ⟨none, (some 43), .mov (.t 5), []⟩,
       ⟨none, (some 44), .mov (.t 7), []⟩,
       ⟨none, (some 45), .call true 540 [], []⟩,
       ⟨none, (some 46), .idxA 3 (.t 43) (.t 44), []⟩,
       ⟨none, none, .st 3 (.t 46) (.t 45), []⟩]))
    (.reg [7] [
      ⟨none, (some 41), .mov (.t 7), []⟩,
      ⟨none, (some 42), .bin .add (.t 41) (.c (.int .i64 1)), []⟩,
      ⟨none, (some 7), .mov (.t 42), []⟩])))
def k424 : Cd :=
  (.seq
   (.reg [4] [
     ⟨none, (some 4), .mov (.c (.slice none 0 0)), []⟩])
   (.seq
    (.seq
     (.reg [13] [
       ⟨none, (some 8), .mov (.t 1), []⟩,
       ⟨none, (some 9), .mov (.t 8), []⟩,
       ⟨(some (9, true)), (some 10), .mov (.t 0), []⟩,
       ⟨(some (9, true)), (some 11), .len (.t 10), []⟩,
       ⟨(some (9, true)), (some 12), .bin .eql (.t 11) (.c (.int .i64 0)), []⟩,
       ⟨none, (some 13), .pick (.t 9) (.t 12) (.c (.bool false)), []⟩])
     (.cond (.t 13)
      (.seq
       (.reg [4] [
         ⟨none, (some 4), .mov (.c (.slice none 0 0)), []⟩])
       .ret)
      .skip))
    (.seq
     (.reg [5] [
       ⟨none, (some 14), .mov (.t 0), []⟩,
       ⟨none, (some 15), .len (.t 14), []⟩,
       ⟨none, (some 16), .mov (.t 0), []⟩,
       ⟨none, (some 17), .len (.t 16), []⟩,
       ⟨none, (some 18), .call true 296 [.t 17], []⟩,
       ⟨none, (some 19), .bin .add (.t 15) (.t 18), []⟩,
       ⟨none, (some 20), .mkS 3 4 [.int .i16 0, .int .i8 0, .int .i8 0] (.t 19) (.t 19), []⟩,
       ⟨none, (some 5), .mov (.t 20), []⟩])
     (.seq
      (.seq
       (.reg [6] [
         ⟨none, (some 6), .mov (.c (.int .i64 0)), []⟩])
       (.block 0
        (.loop b424_1)))
      (.seq
       (.seq
        (.reg [7] [
          ⟨none, (some 35), .mov (.t 0), []⟩,
          ⟨none, (some 36), .len (.t 35), []⟩,
          ⟨none, (some 7), .mov (.t 36), []⟩])
        (.block 2
         (.loop b424_2)))
       (.seq
        (.reg [4] [
          ⟨none, (some 47), .mov (.t 5), []⟩,
          ⟨none, (some 48), .mov (.t 0), []⟩,
          ⟨none, (some 49), .len (.t 48), []⟩,
          ⟨none, (some 50), .slcA 3 (.t 47) none (some (.t 49)) none, []⟩,
          ⟨none, (some 4), .mov (.t 50), []⟩])
        .ret))))))
def c424 : Fn := { np := 2, nt := 51, kind := .pure, res := [.t 4], body := k424 }

/- impl.areParts -/
def k425 : Cd :=
  (.seq
   (.reg [2] [
     ⟨none, (some 2), .mov (.c (.bool false)), []⟩])
   (.seq
    (.reg [2] [
      ⟨none, (some 3), .mov (.t 0), []⟩,
      ⟨none, (some 4), .call true 541 [.t 3, .f 542], []⟩,
      ⟨none, (some 5), .un .not (.t 4), []⟩,
      ⟨none, (some 2), .mov (.t 5), []⟩])
    .ret))
def c425 : Fn := { np := 1, nt := 6, kind := .pure, res := [.t 2], body := k425 }

/- impl.isSpan -/
def k426 : Cd :=
  (.seq
   (.reg [4] [
     ⟨none, (some 4), .mov (.c (.bool false)), []⟩])
   (.seq
    (.reg [4] [
      ⟨none, (some 5), .mov (.t 0), []⟩,
      ⟨none, (some 6), .call true 435 [.t 5], []⟩,
      ⟨none, (some 7), .mov (.t 6), []⟩,
      ⟨(some (7, true)), (some 8), .mov (.t 1), []⟩,
      ⟨(some (7, true)), (some 9), .call true 435 [.t 8], []⟩,
      ⟨none, (some 10), .pick (.t 7) (.t 9) (.c (.bool false)), []⟩,
      ⟨none, (some 11), .mov (.t 10), []⟩,
      ⟨(some (11, true)), (some 12), .mov (.t 0), []⟩,
      ⟨(some (11, true)), (some 13), .mov (.t 1), []⟩,
      ⟨(some (11, true)), (some 14), .bin .leq (.t 12) (.t 13), []⟩,
      ⟨none, (some 15), .pick (.t 11) (.t 14) (.c (.bool false)), []⟩,
      ⟨none, (some 4), .mov (.t 15), []⟩])
    .ret))
def c426 : Fn := { np := 2, nt := 16, kind := .pure, res := [.t 4], body := k426 }

/- (impl.Part).at -/
def k427 : Cd :=
  (.seq
   (.reg [2, 4] [
     ⟨none, (some 2), .mov (.t 0), []⟩,
     ⟨none, (some 4), .zero true (zs 12 (.int .u16 0)), []⟩])
   (.seq
    (.reg [4] [
      ⟨none, (some 5), .adrF 2 none 0, []⟩,
      ⟨none, (some 6), .ldV 2 (some 5) 12 true, []⟩,
      ⟨none, (some 7), .adrF 2 none 13, []⟩,
      ⟨none, (some 8), .ldV 2 (some 7) 1 false, []⟩,
      ⟨none, (some 9), .adrF 2 none 12, []⟩,
      ⟨none, (some 10), .ldV 2 (some 9) 1 false, []⟩,
      ⟨none, (some 11), .conv .i64 (.t 10), []⟩,
      ⟨none, (some 12), .mov (.t 1), []⟩,
      ⟨none, (some 13), .call true 543 [.t 8, .t 11, .t 12], []⟩,
      ⟨none, (some 14), .ext (.t 13) 0, []⟩,
      ⟨none, (some 15), .ext (.t 13) 1, []⟩,
      ⟨none, (some 16), .call true 358 [.t 6, .t 14, .t 15], []⟩,
      ⟨none, (some 4), .stV 4 none 12 (.t 16), []⟩])
    .ret))
def c427 : Fn := { np := 2, nt := 17, kind := .pure, res := [.v 4 12 true], body := k427 }

/- laws.intactTrack -/
def k428 : Cd :=
  (.seq
   (.reg [4] [
     ⟨none, (some 4), .mov (.c (.bool false)), []⟩])
   (.seq
    (.reg [5] [
      ⟨none, (some 6), .mov (.t 1), []⟩,
      ⟨none, (some 7), .len (.t 6), []⟩,
      ⟨none, (some 8), .mov (.t 1), []⟩,
      ⟨none, (some 9), .len (.t 8), []⟩,
      ⟨none, (some 10), .call true 296 [.t 9], []⟩,
      ⟨none, (some 11), .bin .add (.t 7) (.t 10), []⟩,
      ⟨none, (some 5), .mov (.t 11), []⟩])
    (.seq
     (.reg [4] [
       ⟨none, (some 12), .mov (.t 0), []⟩,
       ⟨none, (some 13), .len (.t 12), []⟩,
       ⟨none, (some 14), .mov (.t 1), []⟩,
       ⟨none, (some 15), .len (.t 14), []⟩,
       ⟨none, (some 16), .bin .eql (.t 13) (.t 15), []⟩,
       ⟨none, (some 17), .mov (.t 16), []⟩,
       ⟨(some (17, true)), (some 18), .mov (.t 0), []⟩,
       ⟨(some (17, true)), (some 19), .mov (.t 5), []⟩,
       ⟨(some (17, true)), (some 20), .slcA 3 (.t 18) none (some (.t 19)) none, []⟩,
       ⟨(some (17, true)), (some 21), .mov (.t 1), []⟩,
       ⟨(some (17, true)), (some 22), .mov (.t 5), []⟩,
       ⟨(some (17, true)), (some 23), .slcA 3 (.t 21) none (some (.t 22)) none, []⟩,
       ⟨(some (17, true)), (some 24), .call true 544 [.t 20, .t 23], []⟩,
       ⟨none, (some 25), .pick (.t 17) (.t 24) (.c (.bool false)), []⟩,
       ⟨none, (some 4), .mov (.t 25), []⟩])
     .ret)))
def c428 : Fn := { np := 2, nt := 26, kind := .pure, res := [.t 4], body := k428 }

/- laws.markTrack -/
def b429_1 : Cd :=
  (.seq
   (.seq
    (.reg [9] [
      ⟨none, (some 6), .mov (.t 5), []⟩,
      ⟨none, (some 7), .mov (.t 0), []⟩,
      ⟨none, (some 8), .len (.t 7), []⟩,
      ⟨none, (some 9), .bin .lss (.t 6) (.t 8), []⟩])
    (.cond (.t 9)
     .skip
     (.exit 0)))
   (.seq
    (.block 1
     (.seq
      (.reg [] [
        ⟨none, (some 12), .mov (.t 0), []⟩,
        ⟨none, (some 13), .mov (.t 5), []⟩,
        ⟨none, (some 14), .mov (.t 1), []⟩,
        ⟨none, (some 15), .conv .i16 (.t 14), []⟩,
        ⟨none, (some 16), .idxA 3 (.t 12) (.t 13), []⟩,
        ⟨none, (some 17), .fldP 0 (.t 16), []⟩,
        ⟨none, none, .st 1 (.t 17) (.t 15), []⟩])
      (.seq
       (.reg [1] [
         ⟨none, (some 18), .mov (.t 1), []⟩,
         ⟨none, (some 19), .bin .add (.t 18) (.c (.int .i64 1)), []⟩,
         ⟨none, (some 1), .mov (.t 19), []⟩])
       (.seq
        (.reg [] [
          ⟨none, (some 20), .mov (.t 0), []⟩,
          ⟨none, (some 21), .mov (.t 5), []⟩,
          ⟨none, (some 22), .mov (.t 1), []⟩,
          ⟨none, (some 23), .conv .i8 (.t 22), []⟩,
          ⟨none, (some 24), .idxA 3 (.t 20) (.t 21), []⟩,
          ⟨none, (some 25), .fldP 1 (.t 24), []⟩,
          ⟨none, none, .st 1 (.t 25) (.t 23), []⟩])
        (.seq
         (.reg [1] [
           ⟨none, (some 26), .mov (.t 1), []⟩,
           ⟨none, (some 27), .bin .add (.t 26) (.c (.int .i64 1)), []⟩,
           ⟨none, (some 1), .mov (.t 27), []⟩])
         (.seq
          (.reg [] [
            ⟨none, (some 28), .mov (.t 0), []⟩,
            ⟨none, (some 29), .mov (.t 5), []⟩,
            ⟨none, (some 30), .mov (.t 1), []⟩,
            ⟨none, (some 31), .conv .i8 (.t 30), []⟩,
            ⟨none, (some 32), .idxA 3 (.t 28) (.t 29), []⟩,
            ⟨none, (some 33), .fldP 2 (.t 32), []⟩,
            ⟨none, none, .st 1 (.t 33) (.t 31), []⟩])
          (.reg [1] [
            ⟨none, (some 34), .mov (.t 1), []⟩,
            ⟨none, (some 35), .bin .add (.t 34) (.c (.int .i64 1)), []⟩,
            ⟨none, (some 1), .mov (.t 35), []⟩])))))))
    (.reg [5] [
      ⟨none, (some 10), .mov (.t 5), []⟩,
      ⟨none, (some 11), .bin .add (.t 10) (.c (.int .i64 1)), []⟩,
      ⟨none, (some 5), .mov (.t 11), []⟩])))
def k429 : Cd :=
  (.seq
   (.reg [4] [
     ⟨none, (some 4), .mov (.c (.int .i64 0)), []⟩])
   (.seq
    (.seq
     (.reg [5] [
       ⟨none, (some 5), .mov (.c (.int .i64 0)), []⟩])
     (.block 0
      (.loop b429_1)))
    (.seq
     (.reg [4] [
       ⟨none, (some 36), .mov (.t 1), []⟩,
       ⟨none, (some 4), .mov (.t 36), []⟩])
     .ret)))
def c429 : Fn := { np := 2, nt := 37, kind := .args, res := [.t 4], body := k429 }

/- spec.l03Tick -/
def k432 : Cd :=
  (.seq
   (.reg [2] [
     ⟨none, (some 2), .mov (.c (.bool false)), []⟩])
   (.seq
    (.reg [2] [
      ⟨none, (some 3), .mov (.t 0), []⟩,
      ⟨none, (some 4), .call true 304 [.t 3, .c (.int .i64 0), .c (.int .i64 200)], []⟩,
      ⟨none, (some 2), .mov (.t 4), []⟩])
    .ret))
def c432 : Fn := { np := 1, nt := 5, kind := .pure, res := [.t 2], body := k432 }

/- impl.isTick -/
def k435 : Cd :=
  (.seq
   (.reg [2] [
     ⟨none, (some 2), .mov (.c (.bool false)), []⟩])
   (.seq
    (.reg [2] [
      ⟨none, (some 3), .mov (.t 0), []⟩,
      ⟨none, (some 4), .call true 295 [.t 3, .c (.int .i64 0), .c (.int .i64 200)], []⟩,
      ⟨none, (some 2), .mov (.t 4), []⟩])
    .ret))
def c435 : Fn := { np := 1, nt := 5, kind := .pure, res := [.t 2], body := k435 }

/- spec.l01Dots -/
def b440_1 : Cd :=
  (.seq
   (.seq
    (.reg [12] [
      ⟨none, (some 11), .mov (.t 5), []⟩,
      ⟨none, (some 12), .bin .lss (.t 11) (.c (.int .i64 12)), []⟩])
    (.cond (.t 12)
     .skip
     (.exit 2)))
   (.seq
    (.block 3
     (.seq
      (.reg [18] [
        ⟨none, (some 15), .mov (.t 0), []⟩,
        ⟨none, (some 16), .mov (.t 5), []⟩,
        ⟨none, (some 17), .mov (.t 4), []⟩,
        ⟨none, (some 18), .call true 456 [.t 15, .t 16, .t 17], []⟩])
      (.cond (.t 18)
       (.reg [3] [
         ⟨none, (some 19), .mov (.t 3), []⟩,
         ⟨none, (some 20), .mov (.t 5), []⟩,
         ⟨none, (some 21), .conv .i8 (.t 20), []⟩,
         ⟨none, (some 22), .mov (.t 4), []⟩,
         ⟨none, (some 23), .conv .i8 (.t 22), []⟩,
         ⟨none, (some 24), .agg [.int .i8 0, .int .i8 0] [(0, 1, (.t 21)), (1, 1, (.t 23))], []⟩,
         ⟨none, (some 25), .bldS 2 1 [.int .i8 0, .int .i8 0] [(0, 2, (.t 24))], []⟩,
         ⟨none, (some 26), .app 2 2 (.t 19) (.t 25), []⟩,
         ⟨none, (some 3), .mov (.t 26), []⟩])
       .skip)))
    (.reg [5] [
      ⟨none, (some 13), .mov (.t 5), []⟩,
      ⟨none, (some 14), .bin .add (.t 13) (.c (.int .i64 1)), []⟩,
      ⟨none, (some 5), .mov (.t 14), []⟩])))
def b440_2 : Cd :=
  (.seq
   (.seq
    (.reg [8] [
      ⟨none, (some 7), .mov (.t 4), []⟩,
      ⟨none, (some 8), .bin .lss (.t 7) (.c (.int .i64 12)), []⟩])
    (.cond (.t 8)
     .skip
     (.exit 0)))
   (.seq
    (.block 1
     (.seq
      (.reg [5] [
        ⟨none, (some 5), .mov (.c (.int .i64 0)), []⟩])
      (.block 2
       (.loop b440_1))))
    (.reg [4] [
      ⟨none, (some 9), .mov (.t 4), []⟩,
      ⟨none, (some 10), .bin .add (.t 9) (.c (.int .i64 1)), []⟩,
      ⟨none, (some 4), .mov (.t 10), []⟩])))
def k440 : Cd :=
  (.seq
   (.reg [2] [
     ⟨none, (some 2), .mov (.c (.slice none 0 0)), []⟩])
   (.seq
    (.reg [3] [
      ⟨none, (some 6), .bldS 2 0 [.int .i8 0, .int .i8 0] [], []⟩,
      ⟨none, (some 3), .mov (.t 6), []⟩])
    (.seq
     (.seq
      (.reg [4] [
        ⟨none, (some 4), .mov (.c (.int .i64 0)), []⟩])
      (.block 0
       (.loop b440_2)))
     (.seq
      (.reg [2] [
        ⟨none, (some 27), .mov (.t 3), []⟩,
        ⟨none, (some 2), .mov (.t 27), []⟩])
      .ret))))
def c440 : Fn := { np := 1, nt := 28, kind := .pure, res := [.t 2], body := k440 }

/- (impl.Frame).mix -/
def b443_1 : Cd :=
  (.seq
   (.reg [11] [
     ⟨none, (some 11), .bin .lss (.t 10) (.c (.int .i64 12)), []⟩])
   (.seq
    (.cond (.t 11)
     .skip
     (.exit 0))
    (.seq
     (.block 1
      (.seq
       (.reg [7, 8] [
         ⟨none, (some 12), .mov (.t 10), []⟩,
         ⟨none, (some 13), .idx 12 1 false (.t 9) (.t 10), []⟩,
         ⟨none, (some 7), .mov (.t 12), []⟩,
         ⟨none, (some 8), .mov (.t 13), []⟩])
       (.reg [3] [
         ⟨none, (some 14), .mov (.t 7), []⟩,
         ⟨none, (some 15), .mov (.t 2), []⟩,
         ⟨none, (some 16), .mov (.t 8), []⟩,
         ⟨none, (some 17), .mov (.t 7), []⟩,
         ⟨none, (some 18), .adrI 4 none 12 1 (.t 17), []⟩,
         ⟨none, (some 19), .ldV 4 (some 18) 1 false, []⟩,
         ⟨none, (some 20), .callv (.t 15) [.t 16, .t 19], []⟩,
         ⟨none, (some 21), .adrI 3 none 12 1 (.t 14), []⟩,
         ⟨none, (some 3), .stV 3 (some 21) 1 (.t 20), []⟩])))
     (.reg [10] [
       ⟨none, (some 22), .bin .add (.t 10) (.c (.int .i64 1)), []⟩,
       ⟨none, (some 10), .mov (.t 22), []⟩]))))
def k443 : Cd :=
  (.seq
   (.reg [3, 4, 6] [
     ⟨none, (some 3), .mov (.t 0), []⟩,
     ⟨none, (some 4), .mov (.t 1), []⟩,
     ⟨none, (some 6), .zero true (zs 12 (.int .u16 0)), []⟩])
   (.seq
    (.seq
     (.reg [9, 10] [
       ⟨none, (some 9), .ldV 3 none 12 true, []⟩,
       ⟨none, (some 10), .mov (.c (.int .i64 0)), []⟩])
     (.block 0
      (.loop b443_1)))
    (.seq
     (.reg [6] [
       ⟨none, (some 23), .ldV 3 none 12 true, []⟩,
       ⟨none, (some 6), .stV 6 none 12 (.t 23), []⟩])
     .ret)))
def c443 : Fn := { np := 3, nt := 24, kind := .pure, res := [.v 6 12 true], body := k443 }

/- slices.ContainsFunc[[]uint16,uint16] -/
def k445 : Cd :=
  (.seq
   (.reg [4] [
     ⟨none, (some 4), .mov (.c (.bool false)), []⟩])
   (.seq
    (.reg [4] [
      ⟨none, (some 5), .mov (.t 0), []⟩,
      ⟨none, (some 6), .mov (.t 1), []⟩,
      ⟨none, (some 7), .call true 547 [.t 5, .t 6], []⟩,
      ⟨none, (some 8), .bin .geq (.t 7) (.c (.int .i64 0)), []⟩,
      ⟨none, (some 4), .mov (.t 8), []⟩])
    .ret))
def c445 : Fn := { np := 2, nt := 9, kind := .pure, res := [.t 4], body := k445 }

/- impl.ValidFrame$1 -/
def k446 : Cd :=
  (.seq
   (.reg [2] [
     ⟨none, (some 2), .mov (.c (.bool false)), []⟩])
   (.seq
    (.reg [2] [
      ⟨none, (some 3), .mov (.t 0), []⟩,
      ⟨none, (some 4), .bin .gtr (.t 3) (.c (.int .u16 4095)), []⟩,
      ⟨none, (some 2), .mov (.t 4), []⟩])
    .ret))
def c446 : Fn := { np := 1, nt := 5, kind := .pure, res := [.t 2], body := k446 }

/- spec.l01Has -/
def k456 : Cd :=
  (.seq
   (.reg [6] [
     ⟨none, (some 6), .mov (.c (.bool false)), []⟩])
   (.seq
    (.reg [6] [
      ⟨none, (some 7), .mov (.t 1), []⟩,
      ⟨none, (some 8), .mov (.t 2), []⟩,
      ⟨none, (some 9), .call true 342 [.t 7, .t 8], []⟩,
      ⟨none, (some 10), .mov (.t 9), []⟩,
      ⟨(some (10, true)), (some 11), .mov (.t 0), []⟩,
      ⟨(some (10, true)), (some 12), .mov (.t 2), []⟩,
      ⟨(some (10, true)), (some 13), .nil (.t 11), []⟩,
      ⟨(some (10, true)), (some 14), .idxP 12 1 (.t 13) (.t 12), []⟩,
      ⟨(some (10, true)), (some 15), .ld 1 false (.t 14), []⟩,
      ⟨(some (10, true)), (some 16), .mov (.t 1), []⟩,
      ⟨(some (10, true)), (some 17), .conv .u64 (.t 16), []⟩,
      ⟨(some (10, true)), (some 18), .bin .shr (.t 15) (.t 17), []⟩,
      ⟨(some (10, true)), (some 19), .bin .rem (.t 18) (.c (.int .u16 2)), []⟩,
      ⟨(some (10, true)), (some 20), .bin .eql (.t 19) (.c (.int .u16 1)), []⟩,
      ⟨none, (some 21), .pick (.t 10) (.t 20) (.c (.bool false)), []⟩,
      ⟨none, (some 6), .mov (.t 21), []⟩])
    .ret))
def c456 : Fn := { np := 3, nt := 22, kind := .pure, res := [.t 6], body := k456 }

/- impl.ValidTrack -/
def b461_1 : Cd :=
  (.seq
   (.reg [8] [
     ⟨none, (some 8), .bin .lss (.t 7) (.t 6), []⟩])
   (.seq
    (.cond (.t 8)
     .skip
     (.exit 0))
    (.seq
     (.block 1
      (.seq
       (.reg [4, 3] [
         ⟨none, (some 9), .mov (.t 7), []⟩,
         ⟨none, (some 10), .idxA 3 (.t 5) (.t 7), []⟩,
         ⟨none, (some 11), .ld 3 true (.t 10), []⟩,
         ⟨none, (some 4), .zero true [.int .i16 0, .int .i8 0, .int .i8 0], []⟩,
         ⟨none, (some 3), .mov (.t 9), []⟩,
         ⟨none, (some 4), .stV 4 none 3 (.t 11), []⟩])
       (.seq
        (.reg [45] [
          ⟨none, (some 12), .adrF 4 none 0, []⟩,
          ⟨none, (some 13), .ldV 4 (some 12) 1 false, []⟩,
          ⟨none, (some 14), .conv .i64 (.t 13), []⟩,
          ⟨none, (some 15), .call true 435 [.t 14], []⟩,
          ⟨none, (some 16), .un .not (.t 15), []⟩,
          ⟨none, (some 17), .mov (.t 16), []⟩,
          ⟨(some (17, false)), (some 18), .adrF 4 none 1, []⟩,
          ⟨(some (17, false)), (some 19), .ldV 4 (some 18) 1 false, []⟩,
          ⟨(some (17, false)), (some 20), .conv .i64 (.t 19), []⟩,
          ⟨(some (17, false)), (some 21), .call true 551 [.t 20], []⟩,
          ⟨(some (17, false)), (some 22), .un .not (.t 21), []⟩,
          ⟨none, (some 23), .pick (.t 17) (.c (.bool true)) (.t 22), []⟩,
          ⟨none, (some 24), .mov (.t 23), []⟩,
          ⟨(some (24, false)), (some 25), .adrF 4 none 2, []⟩,
          ⟨(some (24, false)), (some 26), .ldV 4 (some 25) 1 false, []⟩,
          ⟨(some (24, false)), (some 27), .conv .i64 (.t 26), []⟩,
          ⟨(some (24, false)), (some 28), .call true 551 [.t 27], []⟩,
          ⟨(some (24, false)), (some 29), .un .not (.t 28), []⟩,
          ⟨none, (some 30), .pick (.t 24) (.c (.bool true)) (.t 29), []⟩,
          ⟨none, (some 31), .mov (.t 30), []⟩,
          ⟨(some (31, false)), (some 32), .mov (.t 3), []⟩,
          ⟨(some (31, false)), (some 33), .bin .gtr (.t 32) (.c (.int .i64 0)), []⟩,
          ⟨(some (31, false)), (some 34), .mov (.t 33), []⟩,
          ⟨(some (34, true)), (some 35), .mov (.t 0), []⟩,
          ⟨(some (34, true)), (some 36), .mov (.t 3), []⟩,
          ⟨(some (34, true)), (some 37), .bin .sub (.t 36) (.c (.int .i64 1)), []⟩,
          ⟨(some (34, true)), (some 38), .idxA 3 (.t 35) (.t 37), []⟩,
          ⟨(some (34, true)), (some 39), .fldP 0 (.t 38), []⟩,
          ⟨(some (34, true)), (some 40), .ld 1 false (.t 39), []⟩,
          ⟨(some (34, true)), (some 41), .adrF 4 none 0, []⟩,
          ⟨(some (34, true)), (some 42), .ldV 4 (some 41) 1 false, []⟩,
          ⟨(some (34, true)), (some 43), .bin .geq (.t 40) (.t 42), []⟩,
          ⟨(some (31, false)), (some 44), .pick (.t 34) (.t 43) (.c (.bool false)), []⟩,
          ⟨none, (some 45), .pick (.t 31) (.c (.bool true)) (.t 44), []⟩])
        (.cond (.t 45)
         (.seq
          (.reg [2] [
            ⟨none, (some 2), .mov (.c (.bool false)), []⟩])
          .ret)
         .skip))))
     (.reg [7] [
       ⟨none, (some 46), .bin .add (.t 7) (.c (.int .i64 1)), []⟩,
       ⟨none, (some 7), .mov (.t 46), []⟩]))))
def k461 : Cd :=
  (.seq
   (.reg [2] [
     ⟨none, (some 2), .mov (.c (.bool false)), []⟩])
   (.seq
    (.seq
     (.reg [5, 6, 7] [
       ⟨none, (some 5), .mov (.t 0), []⟩,
       ⟨none, (some 6), .len (.t 5), []⟩,
       ⟨none, (some 7), .mov (.c (.int .i64 0)), []⟩])
     (.block 0
      (.loop b461_1)))
    (.seq
     (.reg [2] [
       ⟨none, (some 47), .mov (.t 0), []⟩,
       ⟨none, (some 48), .len (.t 47), []⟩,
       ⟨none, (some 49), .call true 295 [.t 48, .c (.int .i64 1), .c (.int .i64 20)], []⟩,
       ⟨none, (some 2), .mov (.t 49), []⟩])
     .ret)))
def c461 : Fn := { np := 1, nt := 50, kind := .pure, res := [.t 2], body := k461 }

/- impl.isEase -/
def k462 : Cd :=
  (.seq
   (.reg [2] [
     ⟨none, (some 2), .mov (.c (.bool false)), []⟩])
   (.seq
    (.reg [2] [
      ⟨none, (some 3), .mov (.t 0), []⟩,
      ⟨none, (some 4), .call true 295 [.t 3, .c (.int .i64 0), .c (.int .i64 3)], []⟩,
      ⟨none, (some 2), .mov (.t 4), []⟩])
    .ret))
def c462 : Fn := { np := 1, nt := 5, kind := .pure, res := [.t 2], body := k462 }

/- (impl.Frame).meet$1 -/
def k503 : Cd :=
  (.seq
   (.reg [4] [
     ⟨none, (some 4), .mov (.c (.int .u16 0)), []⟩])
   (.seq
    (.reg [4] [
      ⟨none, (some 5), .mov (.t 0), []⟩,
      ⟨none, (some 6), .mov (.t 1), []⟩,
      ⟨none, (some 7), .bin .and (.t 5) (.t 6), []⟩,
      ⟨none, (some 4), .mov (.t 7), []⟩])
    .ret))
def c503 : Fn := { np := 2, nt := 8, kind := .pure, res := [.t 4], body := k503 }

/- math/bits.OnesCount16 -/
def k530 : Cd :=
  (.seq
   (.reg [2] [
     ⟨none, (some 2), .mov (.c (.int .i64 0)), []⟩])
   (.seq
    (.reg [2] [
      ⟨none, (some 3), .mov (.t 0), []⟩,
      ⟨none, (some 4), .bin .shr (.t 3) (.c (.int .u64 8)), []⟩,
      ⟨none, (some 5), .idxs (.c (.string ⟨#[0, 1, 1, 2, 1, 2, 2, 3, 1, 2, 2, 3, 2, 3, 3, 4, 1, 2, 2, 3, 2, 3, 3, 4, 2, 3, 3, 4, 3, 4, 4, 5, 1, 2, 2, 3, 2, 3, 3, 4, 2, 3, 3, 4, 3, 4, 4, 5, 2, 3, 3, 4, 3, 4, 4, 5, 3, 4, 4, 5, 4, 5, 5, 6, 1, 2, 2, 3, 2, 3, 3, 4, 2, 3, 3, 4, 3, 4, 4, 5, 2, 3, 3, 4, 3, 4, 4, 5, 3, 4, 4, 5, 4, 5, 5, 6, 2, 3, 3, 4, 3, 4, 4, 5, 3, 4, 4, 5, 4, 5, 5, 6, 3, 4, 4, 5, 4, 5, 5, 6, 4, 5, 5, 6, 5, 6, 6, 7, 1, 2, 2, 3, 2, 3, 3, 4, 2, 3, 3, 4, 3, 4, 4, 5, 2, 3, 3, 4, 3, 4, 4, 5, 3, 4, 4, 5, 4, 5, 5, 6, 2, 3, 3, 4, 3, 4, 4, 5, 3, 4, 4, 5, 4, 5, 5, 6, 3, 4, 4, 5, 4, 5, 5, 6, 4, 5, 5, 6, 5, 6, 6, 7, 2, 3, 3, 4, 3, 4, 4, 5, 3, 4, 4, 5, 4, 5, 5, 6, 3, 4, 4, 5, 4, 5, 5, 6, 4, 5, 5, 6, 5, 6, 6, 7, 3, 4, 4, 5, 4, 5, 5, 6, 4, 5, 5, 6, 5, 6, 6, 7, 4, 5, 5, 6, 5, 6, 6, 7, 5, 6, 6, 7, 6, 7, 7, 8]⟩)) (.t 4), []⟩,
      ⟨none, (some 6), .mov (.t 0), []⟩,
      ⟨none, (some 7), .bin .and (.t 6) (.c (.int .u16 255)), []⟩,
      ⟨none, (some 8), .idxs (.c (.string ⟨#[0, 1, 1, 2, 1, 2, 2, 3, 1, 2, 2, 3, 2, 3, 3, 4, 1, 2, 2, 3, 2, 3, 3, 4, 2, 3, 3, 4, 3, 4, 4, 5, 1, 2, 2, 3, 2, 3, 3, 4, 2, 3, 3, 4, 3, 4, 4, 5, 2, 3, 3, 4, 3, 4, 4, 5, 3, 4, 4, 5, 4, 5, 5, 6, 1, 2, 2, 3, 2, 3, 3, 4, 2, 3, 3, 4, 3, 4, 4, 5, 2, 3, 3, 4, 3, 4, 4, 5, 3, 4, 4, 5, 4, 5, 5, 6, 2, 3, 3, 4, 3, 4, 4, 5, 3, 4, 4, 5, 4, 5, 5, 6, 3, 4, 4, 5, 4, 5, 5, 6, 4, 5, 5, 6, 5, 6, 6, 7, 1, 2, 2, 3, 2, 3, 3, 4, 2, 3, 3, 4, 3, 4, 4, 5, 2, 3, 3, 4, 3, 4, 4, 5, 3, 4, 4, 5, 4, 5, 5, 6, 2, 3, 3, 4, 3, 4, 4, 5, 3, 4, 4, 5, 4, 5, 5, 6, 3, 4, 4, 5, 4, 5, 5, 6, 4, 5, 5, 6, 5, 6, 6, 7, 2, 3, 3, 4, 3, 4, 4, 5, 3, 4, 4, 5, 4, 5, 5, 6, 3, 4, 4, 5, 4, 5, 5, 6, 4, 5, 5, 6, 5, 6, 6, 7, 3, 4, 4, 5, 4, 5, 5, 6, 4, 5, 5, 6, 5, 6, 6, 7, 4, 5, 5, 6, 5, 6, 6, 7, 5, 6, 6, 7, 6, 7, 7, 8]⟩)) (.t 7), []⟩,
      ⟨none, (some 9), .bin .add (.t 5) (.t 8), []⟩,
      ⟨none, (some 10), .conv .i64 (.t 9), []⟩,
      ⟨none, (some 2), .mov (.t 10), []⟩])
    .ret))
def c530 : Fn := { np := 1, nt := 11, kind := .pure, res := [.t 2], body := k530 }

/- spec.l03Part -/
def k537 : Cd :=
  (.seq
   (.reg [2] [
     ⟨none, (some 2), .mov (.c (.bool false)), []⟩])
   (.seq
    (.reg [2] [
      ⟨none, (some 3), .mov (.t 0), []⟩,
      ⟨none, (some 4), .nil (.t 3), []⟩,
      ⟨none, (some 5), .fldP 0 (.t 4), []⟩,
      ⟨none, (some 6), .call true 359 [.t 5], []⟩,
      ⟨none, (some 7), .mov (.t 6), []⟩,
      ⟨(some (7, true)), (some 8), .mov (.t 0), []⟩,
      ⟨(some (7, true)), (some 9), .nil (.t 8), []⟩,
      ⟨(some (7, true)), (some 10), .fldP 12 (.t 9), []⟩,
      ⟨(some (7, true)), (some 11), .ld 1 false (.t 10), []⟩,
      ⟨(some (7, true)), (some 12), .conv .i64 (.t 11), []⟩,
      ⟨(some (7, true)), (some 13), .call true 574 [.t 12], []⟩,
      ⟨none, (some 14), .pick (.t 7) (.t 13) (.c (.bool false)), []⟩,
      ⟨none, (some 15), .mov (.t 14), []⟩,
      ⟨(some (15, true)), (some 16), .mov (.t 0), []⟩,
      ⟨(some (15, true)), (some 17), .nil (.t 16), []⟩,
      ⟨(some (15, true)), (some 18), .fldP 13 (.t 17), []⟩,
      ⟨(some (15, true)), (some 19), .ld 1 false (.t 18), []⟩,
      ⟨(some (15, true)), (some 20), .call true 575 [.t 19], []⟩,
      ⟨none, (some 21), .pick (.t 15) (.t 20) (.c (.bool false)), []⟩,
      ⟨none, (some 2), .mov (.t 21), []⟩])
    .ret))
def c537 : Fn := { np := 1, nt := 22, kind := .pure, res := [.t 2], body := k537 }

/- spec.l03Place -/
def b538_1 : Cd :=
  (.seq
   (.seq
    (.reg [27] [
      ⟨none, (some 12), .mov (.t 8), []⟩,
      ⟨none, (some 13), .bin .add (.t 12) (.c (.int .i64 1)), []⟩,
      ⟨none, (some 14), .mov (.t 0), []⟩,
      ⟨none, (some 15), .len (.t 14), []⟩,
      ⟨none, (some 16), .bin .lss (.t 13) (.t 15), []⟩,
      ⟨none, (some 17), .mov (.t 16), []⟩,
      ⟨(some (17, true)), (some 18), .mov (.t 0), []⟩,
      ⟨(some (17, true)), (some 19), .mov (.t 8), []⟩,
      ⟨(some (17, true)), (some 20), .bin .add (.t 19) (.c (.int .i64 1)), []⟩,
      ⟨(some (17, true)), (some 21), .idxA 3 (.t 18) (.t 20), []⟩,
      ⟨(some (17, true)), (some 22), .fldP 0 (.t 21), []⟩,
      ⟨(some (17, true)), (some 23), .ld 1 false (.t 22), []⟩,
      ⟨(some (17, true)), (some 24), .conv .i64 (.t 23), []⟩,
      ⟨(some (17, true)), (some 25), .mov (.t 2), []⟩,
      ⟨(some (17, true)), (some 26), .bin .leq (.t 24) (.t 25), []⟩,
      ⟨none, (some 27), .pick (.t 17) (.t 26) (.c (.bool false)), []⟩])
    (.cond (.t 27)
     .skip
     (.exit 0)))
   (.block 1
    (.reg [8] [
      ⟨none, (some 28), .mov (.t 8), []⟩,
      ⟨none, (some 29), .bin .add (.t 28) (.c (.int .i64 1)), []⟩,
      ⟨none, (some 8), .mov (.t 29), []⟩])))
def k538 : Cd :=
  (.seq
   (.reg [6, 7] [
     ⟨none, (some 6), .mov (.c (.int .i64 0)), []⟩,
     ⟨none, (some 7), .mov (.c (.int .i64 0)), []⟩])
   (.seq
    (.reg [8] [
      ⟨none, (some 8), .mov (.c (.int .i64 0)), []⟩])
    (.seq
     (.block 0
      (.loop b538_1))
     (.seq
      (.reg [9] [
        ⟨none, (some 30), .mov (.t 0), []⟩,
        ⟨none, (some 31), .mov (.t 8), []⟩,
        ⟨none, (some 32), .idxA 3 (.t 30) (.t 31), []⟩,
        ⟨none, (some 33), .fldP 1 (.t 32), []⟩,
        ⟨none, (some 34), .ld 1 false (.t 33), []⟩,
        ⟨none, (some 35), .conv .i64 (.t 34), []⟩,
        ⟨none, (some 9), .mov (.t 35), []⟩])
      (.seq
       (.reg [10] [
         ⟨none, (some 36), .mov (.t 0), []⟩,
         ⟨none, (some 37), .mov (.t 8), []⟩,
         ⟨none, (some 38), .idxA 3 (.t 36) (.t 37), []⟩,
         ⟨none, (some 39), .fldP 2 (.t 38), []⟩,
         ⟨none, (some 40), .ld 1 false (.t 39), []⟩,
         ⟨none, (some 41), .conv .i64 (.t 40), []⟩,
         ⟨none, (some 10), .mov (.t 41), []⟩])
       (.seq
        (.seq
         (.reg [56] [
           ⟨none, (some 42), .mov (.t 8), []⟩,
           ⟨none, (some 43), .bin .add (.t 42) (.c (.int .i64 1)), []⟩,
           ⟨none, (some 44), .mov (.t 0), []⟩,
           ⟨none, (some 45), .len (.t 44), []⟩,
           ⟨none, (some 46), .bin .eql (.t 43) (.t 45), []⟩,
           ⟨none, (some 47), .mov (.t 46), []⟩,
           ⟨(some (47, false)), (some 48), .mov (.t 2), []⟩,
           ⟨(some (47, false)), (some 49), .mov (.t 0), []⟩,
           ⟨(some (47, false)), (some 50), .mov (.t 8), []⟩,
           ⟨(some (47, false)), (some 51), .idxA 3 (.t 49) (.t 50), []⟩,
           ⟨(some (47, false)), (some 52), .fldP 0 (.t 51), []⟩,
           ⟨(some (47, false)), (some 53), .ld 1 false (.t 52), []⟩,
           ⟨(some (47, false)), (some 54), .conv .i64 (.t 53), []⟩,
           ⟨(some (47, false)), (some 55), .bin .leq (.t 48) (.t 54), []⟩,
           ⟨none, (some 56), .pick (.t 47) (.c (.bool true)) (.t 55), []⟩])
         (.cond (.t 56)
          (.seq
           (.reg [6, 7] [
             ⟨none, (some 57), .mov (.t 9), []⟩,
             ⟨none, (some 58), .mov (.t 10), []⟩,
             ⟨none, (some 6), .mov (.t 57), []⟩,
             ⟨none, (some 7), .mov (.t 58), []⟩])
           .ret)
          .skip))
        (.seq
         (.reg [11] [
           ⟨none, (some 59), .mov (.t 1), []⟩,
           ⟨none, (some 60), .mov (.t 2), []⟩,
           ⟨none, (some 61), .mov (.t 0), []⟩,
           ⟨none, (some 62), .mov (.t 8), []⟩,
           ⟨none, (some 63), .idxA 3 (.t 61) (.t 62), []⟩,
           ⟨none, (some 64), .fldP 0 (.t 63), []⟩,
           ⟨none, (some 65), .ld 1 false (.t 64), []⟩,
           ⟨none, (some 66), .conv .i64 (.t 65), []⟩,
           ⟨none, (some 67), .bin .sub (.t 60) (.t 66), []⟩,
           ⟨none, (some 68), .mov (.t 0), []⟩,
           ⟨none, (some 69), .mov (.t 8), []⟩,
           ⟨none, (some 70), .bin .add (.t 69) (.c (.int .i64 1)), []⟩,
           ⟨none, (some 71), .idxA 3 (.t 68) (.t 70), []⟩,
           ⟨none, (some 72), .fldP 0 (.t 71), []⟩,
           ⟨none, (some 73), .ld 1 false (.t 72), []⟩,
           ⟨none, (some 74), .conv .i64 (.t 73), []⟩,
           ⟨none, (some 75), .mov (.t 0), []⟩,
           ⟨none, (some 76), .mov (.t 8), []⟩,
           ⟨none, (some 77), .idxA 3 (.t 75) (.t 76), []⟩,
           ⟨none, (some 78), .fldP 0 (.t 77), []⟩,
           ⟨none, (some 79), .ld 1 false (.t 78), []⟩,
           ⟨none, (some 80), .conv .i64 (.t 79), []⟩,
           ⟨none, (some 81), .bin .sub (.t 74) (.t 80), []⟩,
           ⟨none, (some 82), .call true 576 [.t 59, .t 67, .t 81], []⟩,
           ⟨none, (some 11), .mov (.t 82), []⟩])
         (.seq
          (.reg [6, 7] [
            ⟨none, (some 83), .mov (.t 9), []⟩,
            ⟨none, (some 84), .mov (.t 0), []⟩,
            ⟨none, (some 85), .mov (.t 8), []⟩,
            ⟨none, (some 86), .bin .add (.t 85) (.c (.int .i64 1)), []⟩,
            ⟨none, (some 87), .idxA 3 (.t 84) (.t 86), []⟩,
            ⟨none, (some 88), .fldP 1 (.t 87), []⟩,
            ⟨none, (some 89), .ld 1 false (.t 88), []⟩,
            ⟨none, (some 90), .conv .i64 (.t 89), []⟩,
            ⟨none, (some 91), .mov (.t 11), []⟩,
            ⟨none, (some 93), .mov (.t 10), []⟩,
            ⟨none, (some 94), .mov (.t 0), []⟩,
            ⟨none, (some 95), .mov (.t 8), []⟩,
            ⟨none, (some 96), .bin .add (.t 95) (.c (.int .i64 1)), []⟩,
            ⟨none, (some 97), .idxA 3 (.t 94) (.t 96), []⟩,
            ⟨none, (some 98), .fldP 2 (.t 97), []⟩,
            ⟨none, (some 99), .ld 1 false (.t 98), []⟩,
            ⟨none, (some 100), .conv .i64 (.t 99), []⟩,
            ⟨none, (some 101), .mov (.t 11), []⟩,
            ⟨none, (some 92), .call true 577 [.t 83, .t 90, .t 91], []⟩,
            ⟨none, (some 102), .call true 577 [.t 93, .t 100, .t 101], []⟩,
            ⟨none, (some 6), .mov (.t 92), []⟩,
            ⟨none, (some 7), .mov (.t 102), []⟩])
          .ret))))))))
def c538 : Fn := { np := 3, nt := 103, kind := .pure, res := [.t 6, .t 7], body := k538 }

/- laws.toKey -/
def k539 : Cd :=
  (.seq
   (.reg [1, 2] [
     ⟨none, (some 1), .mov (.t 0), []⟩,
     ⟨none, (some 2), .zero true [.int .i16 0, .int .i8 0, .int .i8 0], []⟩])
   (.seq
    (.reg [3] [
      ⟨none, (some 3), .zero true [.int .i16 0, .int .i8 0, .int .i8 0], []⟩])
    (.seq
     (.reg [3] [
       ⟨none, (some 4), .adrF 1 none 0, []⟩,
       ⟨none, (some 5), .ldV 1 (some 4) 1 false, []⟩,
       ⟨none, (some 6), .adrF 3 none 0, []⟩,
       ⟨none, (some 3), .stV 3 (some 6) 1 (.t 5), []⟩])
     (.seq
      (.reg [3] [
        ⟨none, (some 7), .adrF 1 none 1, []⟩,
        ⟨none, (some 8), .ldV 1 (some 7) 1 false, []⟩,
        ⟨none, (some 9), .adrF 3 none 1, []⟩,
        ⟨none, (some 3), .stV 3 (some 9) 1 (.t 8), []⟩])
      (.seq
       (.reg [3] [
         ⟨none, (some 10), .adrF 1 none 2, []⟩,
         ⟨none, (some 11), .ldV 1 (some 10) 1 false, []⟩,
         ⟨none, (some 12), .adrF 3 none 2, []⟩,
         ⟨none, (some 3), .stV 3 (some 12) 1 (.t 11), []⟩])
       (.seq
        (.reg [2] [
          ⟨none, (some 13), .ldV 3 none 3 true, []⟩,
          ⟨none, (some 2), .stV 2 none 3 (.t 13), []⟩])
        .ret))))))
def c539 : Fn := { np := 1, nt := 14, kind := .pure, res := [.v 2 3 true], body := k539 }

/- laws.fillerKey -/
def k540 : Cd :=
  (.seq
   (.reg [0] [
     ⟨none, (some 0), .zero true [.int .i16 0, .int .i8 0, .int .i8 0], []⟩])
   (.seq
    (.reg [0] [
      ⟨none, (some 1), .agg [.int .i16 0, .int .i8 0, .int .i8 0] [(0, 1, (.c (.int .i16 (-30101)))), (1, 1, (.c (.int .i8 (-101)))), (2, 1, (.c (.int .i8 (-101))))], []⟩,
      ⟨none, (some 0), .stV 0 none 3 (.t 1), []⟩])
    .ret))
def c540 : Fn := { np := 0, nt := 2, kind := .pure, res := [.v 0 3 true], body := k540 }

/- slices.ContainsFunc[[]impl.Part,impl.Part] -/
def k541 : Cd :=
  (.seq
   (.reg [4] [
     ⟨none, (some 4), .mov (.c (.bool false)), []⟩])
   (.seq
    (.reg [4] [
      ⟨none, (some 5), .mov (.t 0), []⟩,
      ⟨none, (some 6), .mov (.t 1), []⟩,
      ⟨none, (some 7), .call true 578 [.t 5, .t 6], []⟩,
      ⟨none, (some 8), .bin .geq (.t 7) (.c (.int .i64 0)), []⟩,
      ⟨none, (some 4), .mov (.t 8), []⟩])
    .ret))
def c541 : Fn := { np := 2, nt := 9, kind := .pure, res := [.t 4], body := k541 }

/- impl.areParts$1 -/
def k542 : Cd :=
  (.seq
   (.reg [1, 2] [
     ⟨none, (some 1), .mov (.t 0), []⟩,
     ⟨none, (some 2), .mov (.c (.bool false)), []⟩])
   (.seq
    (.reg [2] [
      ⟨none, (some 3), .ldV 1 none 14 true, []⟩,
      ⟨none, (some 4), .call true 263 [.t 3], []⟩,
      ⟨none, (some 5), .un .not (.t 4), []⟩,
      ⟨none, (some 2), .mov (.t 5), []⟩])
    .ret))
def c542 : Fn := { np := 1, nt := 6, kind := .pure, res := [.t 2], body := k542 }

/- (impl.Track).at -/
def b543_1 : Cd :=
  (.seq
   (.seq
    (.reg [26] [
      ⟨none, (some 13), .mov (.t 8), []⟩,
      ⟨none, (some 14), .mov (.t 0), []⟩,
      ⟨none, (some 15), .len (.t 14), []⟩,
      ⟨none, (some 16), .bin .lss (.t 13) (.t 15), []⟩,
      ⟨none, (some 17), .mov (.t 16), []⟩,
      ⟨(some (17, true)), (some 18), .mov (.t 0), []⟩,
      ⟨(some (17, true)), (some 19), .mov (.t 8), []⟩,
      ⟨(some (17, true)), (some 20), .idxA 3 (.t 18) (.t 19), []⟩,
      ⟨(some (17, true)), (some 21), .fldP 0 (.t 20), []⟩,
      ⟨(some (17, true)), (some 22), .ld 1 false (.t 21), []⟩,
      ⟨(some (17, true)), (some 23), .conv .i64 (.t 22), []⟩,
      ⟨(some (17, true)), (some 24), .mov (.t 2), []⟩,
      ⟨(some (17, true)), (some 25), .bin .leq (.t 23) (.t 24), []⟩,
      ⟨none, (some 26), .pick (.t 17) (.t 25) (.c (.bool false)), []⟩])
    (.cond (.t 26)
     .skip
     (.exit 0)))
   (.block 1
    (.reg [8] [
      ⟨none, (some 27), .mov (.t 8), []⟩,
      ⟨none, (some 28), .bin .add (.t 27) (.c (.int .i64 1)), []⟩,
      ⟨none, (some 8), .mov (.t 28), []⟩])))
def k543 : Cd :=
  (.seq
   (.reg [6, 7] [
     ⟨none, (some 6), .mov (.c (.int .i64 0)), []⟩,
     ⟨none, (some 7), .mov (.c (.int .i64 0)), []⟩])
   (.seq
    (.reg [8] [
      ⟨none, (some 8), .mov (.c (.int .i64 0)), []⟩])
    (.seq
     (.block 0
      (.loop b543_1))
     (.seq
      (.seq
       (.reg [36] [
         ⟨none, (some 29), .mov (.t 8), []⟩,
         ⟨none, (some 30), .bin .eql (.t 29) (.c (.int .i64 0)), []⟩,
         ⟨none, (some 31), .mov (.t 30), []⟩,
         ⟨(some (31, false)), (some 32), .mov (.t 8), []⟩,
         ⟨(some (31, false)), (some 33), .mov (.t 0), []⟩,
         ⟨(some (31, false)), (some 34), .len (.t 33), []⟩,
         ⟨(some (31, false)), (some 35), .bin .eql (.t 32) (.t 34), []⟩,
         ⟨none, (some 36), .pick (.t 31) (.c (.bool true)) (.t 35), []⟩])
       (.cond (.t 36)
        (.seq
         (.reg [9] [
           ⟨none, (some 37), .mov (.t 0), []⟩,
           ⟨none, (some 38), .mov (.t 8), []⟩,
           ⟨none, (some 39), .bin .sub (.t 38) (.c (.int .i64 1)), []⟩,
           ⟨none, (some 40), .mx (.c (.int .i64 0)) (.t 39), []⟩,
           ⟨none, (some 41), .idxA 3 (.t 37) (.t 40), []⟩,
           ⟨none, (some 42), .ld 3 true (.t 41), []⟩,
           ⟨none, (some 9), .zero true [.int .i16 0, .int .i8 0, .int .i8 0], []⟩,
           ⟨none, (some 9), .stV 9 none 3 (.t 42), []⟩])
         (.seq
          (.reg [6, 7] [
            ⟨none, (some 43), .adrF 9 none 1, []⟩,
            ⟨none, (some 44), .ldV 9 (some 43) 1 false, []⟩,
            ⟨none, (some 45), .conv .i64 (.t 44), []⟩,
            ⟨none, (some 46), .adrF 9 none 2, []⟩,
            ⟨none, (some 47), .ldV 9 (some 46) 1 false, []⟩,
            ⟨none, (some 48), .conv .i64 (.t 47), []⟩,
            ⟨none, (some 6), .mov (.t 45), []⟩,
            ⟨none, (some 7), .mov (.t 48), []⟩])
          .ret))
        .skip))
      (.seq
       (.reg [10, 11] [
         ⟨none, (some 49), .mov (.t 0), []⟩,
         ⟨none, (some 50), .mov (.t 8), []⟩,
         ⟨none, (some 51), .bin .sub (.t 50) (.c (.int .i64 1)), []⟩,
         ⟨none, (some 52), .idxA 3 (.t 49) (.t 51), []⟩,
         ⟨none, (some 53), .ld 3 true (.t 52), []⟩,
         ⟨none, (some 54), .mov (.t 0), []⟩,
         ⟨none, (some 55), .mov (.t 8), []⟩,
         ⟨none, (some 56), .idxA 3 (.t 54) (.t 55), []⟩,
         ⟨none, (some 57), .ld 3 true (.t 56), []⟩,
         ⟨none, (some 10), .zero true [.int .i16 0, .int .i8 0, .int .i8 0], []⟩,
         ⟨none, (some 11), .zero true [.int .i16 0, .int .i8 0, .int .i8 0], []⟩,
         ⟨none, (some 10), .stV 10 none 3 (.t 53), []⟩,
         ⟨none, (some 11), .stV 11 none 3 (.t 57), []⟩])
       (.seq
        (.reg [12] [
          ⟨none, (some 58), .mov (.t 1), []⟩,
          ⟨none, (some 59), .mov (.t 2), []⟩,
          ⟨none, (some 60), .adrF 10 none 0, []⟩,
          ⟨none, (some 61), .ldV 10 (some 60) 1 false, []⟩,
          ⟨none, (some 62), .conv .i64 (.t 61), []⟩,
          ⟨none, (some 63), .bin .sub (.t 59) (.t 62), []⟩,
          ⟨none, (some 64), .adrF 11 none 0, []⟩,
          ⟨none, (some 65), .ldV 11 (some 64) 1 false, []⟩,
          ⟨none, (some 66), .adrF 10 none 0, []⟩,
          ⟨none, (some 67), .ldV 10 (some 66) 1 false, []⟩,
          ⟨none, (some 68), .bin .sub (.t 65) (.t 67), []⟩,
          ⟨none, (some 69), .conv .i64 (.t 68), []⟩,
          ⟨none, (some 70), .call true 579 [.t 58, .t 63, .t 69], []⟩,
          ⟨none, (some 12), .mov (.t 70), []⟩])
        (.seq
         (.reg [6, 7] [
           ⟨none, (some 71), .adrF 10 none 1, []⟩,
           ⟨none, (some 72), .ldV 10 (some 71) 1 false, []⟩,
           ⟨none, (some 73), .conv .i64 (.t 72), []⟩,
           ⟨none, (some 74), .adrF 11 none 1, []⟩,
           ⟨none, (some 75), .ldV 11 (some 74) 1 false, []⟩,
           ⟨none, (some 76), .conv .i64 (.t 75), []⟩,
           ⟨none, (some 77), .mov (.t 12), []⟩,
           ⟨none, (some 79), .adrF 10 none 2, []⟩,
           ⟨none, (some 80), .ldV 10 (some 79) 1 false, []⟩,
           ⟨none, (some 81), .conv .i64 (.t 80), []⟩,
           ⟨none, (some 82), .adrF 11 none 2, []⟩,
           ⟨none, (some 83), .ldV 11 (some 82) 1 false, []⟩,
           ⟨none, (some 84), .conv .i64 (.t 83), []⟩,
           ⟨none, (some 85), .mov (.t 12), []⟩,
           ⟨none, (some 78), .call true 580 [.t 73, .t 76, .t 77], []⟩,
           ⟨none, (some 86), .call true 580 [.t 81, .t 84, .t 85], []⟩,
           ⟨none, (some 6), .mov (.t 78), []⟩,
           ⟨none, (some 7), .mov (.t 86), []⟩])
         .ret)))))))
def c543 : Fn := { np := 3, nt := 87, kind := .pure, res := [.t 6, .t 7], body := k543 }

/- laws.eqTrack -/
def b544_1 : Cd :=
  (.seq
   (.seq
    (.reg [14] [
      ⟨none, (some 11), .mov (.t 5), []⟩,
      ⟨none, (some 12), .mov (.t 0), []⟩,
      ⟨none, (some 13), .len (.t 12), []⟩,
      ⟨none, (some 14), .bin .lss (.t 11) (.t 13), []⟩])
    (.cond (.t 14)
     .skip
     (.exit 0)))
   (.seq
    (.block 1
     (.seq
      (.reg [26] [
        ⟨none, (some 17), .mov (.t 0), []⟩,
        ⟨none, (some 18), .mov (.t 5), []⟩,
        ⟨none, (some 19), .idxA 3 (.t 17) (.t 18), []⟩,
        ⟨none, (some 20), .ld 3 true (.t 19), []⟩,
        ⟨none, (some 21), .mov (.t 1), []⟩,
        ⟨none, (some 22), .mov (.t 5), []⟩,
        ⟨none, (some 23), .idxA 3 (.t 21) (.t 22), []⟩,
        ⟨none, (some 24), .ld 3 true (.t 23), []⟩,
        ⟨none, (some 25), .call true 581 [.t 20, .t 24], []⟩,
        ⟨none, (some 26), .un .not (.t 25), []⟩])
      (.cond (.t 26)
       (.seq
        (.reg [4] [
          ⟨none, (some 4), .mov (.c (.bool false)), []⟩])
        .ret)
       .skip)))
    (.reg [5] [
      ⟨none, (some 15), .mov (.t 5), []⟩,
      ⟨none, (some 16), .bin .add (.t 15) (.c (.int .i64 1)), []⟩,
      ⟨none, (some 5), .mov (.t 16), []⟩])))
def k544 : Cd :=
  (.seq
   (.reg [4] [
     ⟨none, (some 4), .mov (.c (.bool false)), []⟩])
   (.seq
    (.seq
     (.reg [10] [
       ⟨none, (some 6), .mov (.t 0), []⟩,
       ⟨none, (some 7), .len (.t 6), []⟩,
       ⟨none, (some 8), .mov (.t 1), []⟩,
       ⟨none, (some 9), .len (.t 8), []⟩,
       ⟨none, (some 10), .bin .neq (.t 7) (.t 9), []⟩])
     (.cond (.t 10)
      (.seq
       (.reg [4] [
         ⟨none, (some 4), .mov (.c (.bool false)), []⟩])
       .ret)
      .skip))
    (.seq
     (.seq
      (.reg [5] [
        ⟨none, (some 5), .mov (.c (.int .i64 0)), []⟩])
      (.block 0
       (.loop b544_1)))
     (.seq
      (.reg [4] [
        ⟨none, (some 4), .mov (.c (.bool true)), []⟩])
      .ret))))
def c544 : Fn := { np := 2, nt := 27, kind := .pure, res := [.t 4], body := k544 }

/- slices.IndexFunc[[]uint16,uint16] -/
def b547_1 : Cd :=
  (.seq
   (.reg [9] [
     ⟨none, (some 9), .bin .lss (.t 8) (.t 7), []⟩])
   (.seq
    (.cond (.t 9)
     .skip
     (.exit 0))
    (.seq
     (.block 1
      (.seq
       (.reg [5] [
         ⟨none, (some 10), .mov (.t 8), []⟩,
         ⟨none, (some 5), .mov (.t 10), []⟩])
       (.seq
        (.reg [16] [
          ⟨none, (some 11), .mov (.t 1), []⟩,
          ⟨none, (some 12), .mov (.t 0), []⟩,
          ⟨none, (some 13), .mov (.t 5), []⟩,
          ⟨none, (some 14), .idxA 1 (.t 12) (.t 13), []⟩,
          ⟨none, (some 15), .ld 1 false (.t 14), []⟩,
          ⟨none, (some 16), .callv (.t 11) [.t 15], []⟩])
        (.cond (.t 16)
         (.seq
          (.reg [4] [
            ⟨none, (some 17), .mov (.t 5), []⟩,
            ⟨none, (some 4), .mov (.t 17), []⟩])
          .ret)
         .skip))))
     (.reg [8] [
       ⟨none, (some 18), .bin .add (.t 8) (.c (.int .i64 1)), []⟩,
       ⟨none, (some 8), .mov (.t 18), []⟩]))))
def k547 : Cd :=
  (.seq
   (.reg [4] [
     ⟨none, (some 4), .mov (.c (.int .i64 0)), []⟩])
   (.seq
    (.seq
     (.reg [7, 8] [
       ⟨none, (some 6), .mov (.t 0), []⟩,
       ⟨none, (some 7), .len (.t 6), []⟩,
       ⟨none, (some 8), .mov (.c (.int .i64 0)), []⟩])
     (.block 0
      (.loop b547_1)))
    (.seq
     (.reg [4] [
       ⟨none, (some 4), .mov (.c (.int .i64 (-1))), []⟩])
     .ret)))
def c547 : Fn := { np := 2, nt := 19, kind := .pure, res := [.t 4], body := k547 }

/- spec.l00Max -/
def k549 : Cd :=
  (.seq
   (.reg [4] [
     ⟨none, (some 4), .mov (.c (.int .i64 0)), []⟩])
   (.seq
    (.seq
     (.reg [7] [
       ⟨none, (some 5), .mov (.t 0), []⟩,
       ⟨none, (some 6), .mov (.t 1), []⟩,
       ⟨none, (some 7), .bin .gtr (.t 5) (.t 6), []⟩])
     (.cond (.t 7)
      (.seq
       (.reg [4] [
         ⟨none, (some 8), .mov (.t 0), []⟩,
         ⟨none, (some 4), .mov (.t 8), []⟩])
       .ret)
      .skip))
    (.seq
     (.reg [4] [
       ⟨none, (some 9), .mov (.t 1), []⟩,
       ⟨none, (some 4), .mov (.t 9), []⟩])
     .ret)))
def c549 : Fn := { np := 2, nt := 10, kind := .pure, res := [.t 4], body := k549 }

/- impl.isReach -/
def k551 : Cd :=
  (.seq
   (.reg [2] [
     ⟨none, (some 2), .mov (.c (.bool false)), []⟩])
   (.seq
    (.reg [2] [
      ⟨none, (some 3), .mov (.t 0), []⟩,
      ⟨none, (some 4), .call true 295 [.t 3, .c (.int .i64 (-24)), .c (.int .i64 24)], []⟩,
      ⟨none, (some 2), .mov (.t 4), []⟩])
    .ret))
def c551 : Fn := { np := 1, nt := 5, kind := .pure, res := [.t 2], body := k551 }

/- spec.l03Ease -/
def k574 : Cd :=
  (.seq
   (.reg [2] [
     ⟨none, (some 2), .mov (.c (.bool false)), []⟩])
   (.seq
    (.reg [2] [
      ⟨none, (some 3), .mov (.t 0), []⟩,
      ⟨none, (some 4), .call true 304 [.t 3, .c (.int .i64 0), .c (.int .i64 3)], []⟩,
      ⟨none, (some 2), .mov (.t 4), []⟩])
    .ret))
def c574 : Fn := { np := 1, nt := 5, kind := .pure, res := [.t 2], body := k574 }

/- spec.l03Ok -/
def b575_1 : Cd :=
  (.seq
   (.seq
    (.reg [7] [
      ⟨none, (some 4), .mov (.t 3), []⟩,
      ⟨none, (some 5), .mov (.t 0), []⟩,
      ⟨none, (some 6), .len (.t 5), []⟩,
      ⟨none, (some 7), .bin .lss (.t 4) (.t 6), []⟩])
    (.cond (.t 7)
     .skip
     (.exit 0)))
   (.seq
    (.block 1
     (.seq
      (.seq
       (.reg [37] [
         ⟨none, (some 10), .mov (.t 0), []⟩,
         ⟨none, (some 11), .mov (.t 3), []⟩,
         ⟨none, (some 12), .idxA 3 (.t 10) (.t 11), []⟩,
         ⟨none, (some 13), .fldP 0 (.t 12), []⟩,
         ⟨none, (some 14), .ld 1 false (.t 13), []⟩,
         ⟨none, (some 15), .conv .i64 (.t 14), []⟩,
         ⟨none, (some 16), .call true 432 [.t 15], []⟩,
         ⟨none, (some 17), .un .not (.t 16), []⟩,
         ⟨none, (some 18), .mov (.t 17), []⟩,
         ⟨(some (18, false)), (some 19), .mov (.t 0), []⟩,
         ⟨(some (18, false)), (some 20), .mov (.t 3), []⟩,
         ⟨(some (18, false)), (some 21), .idxA 3 (.t 19) (.t 20), []⟩,
         ⟨(some (18, false)), (some 22), .fldP 1 (.t 21), []⟩,
         ⟨(some (18, false)), (some 23), .ld 1 false (.t 22), []⟩,
         ⟨(some (18, false)), (some 24), .conv .i64 (.t 23), []⟩,
         ⟨(some (18, false)), (some 25), .call true 605 [.t 24], []⟩,
         ⟨(some (18, false)), (some 26), .un .not (.t 25), []⟩,
         ⟨none, (some 27), .pick (.t 18) (.c (.bool true)) (.t 26), []⟩,
         ⟨none, (some 28), .mov (.t 27), []⟩,
         ⟨(some (28, false)), (some 29), .mov (.t 0), []⟩,
         ⟨(some (28, false)), (some 30), .mov (.t 3), []⟩,
         ⟨(some (28, false)), (some 31), .idxA 3 (.t 29) (.t 30), []⟩,
         ⟨(some (28, false)), (some 32), .fldP 2 (.t 31), []⟩,
         ⟨(some (28, false)), (some 33), .ld 1 false (.t 32), []⟩,
         ⟨(some (28, false)), (some 34), .conv .i64 (.t 33), []⟩,
         ⟨(some (28, false)), (some 35), .call true 605 [.t 34], []⟩,
         ⟨(some (28, false)), (some 36), .un .not (.t 35), []⟩,
         ⟨none, (some 37), .pick (.t 28) (.c (.bool true)) (.t 36), []⟩])
       (.cond (.t 37)
        (.seq
         (.reg [2] [
           ⟨none, (some 2), .mov (.c (.bool false)), []⟩])
         .ret)
        .skip))
      (.seq
       (.reg [53] [
         ⟨none, (some 38), .mov (.t 3), []⟩,
         ⟨none, (some 39), .bin .gtr (.t 38) (.c (.int .i64 0)), []⟩,
         ⟨none, (some 40), .mov (.t 39), []⟩,
         ⟨(some (40, true)), (some 41), .mov (.t 0), []⟩,
         ⟨(some (40, true)), (some 42), .mov (.t 3), []⟩,
         ⟨(some (40, true)), (some 43), .idxA 3 (.t 41) (.t 42), []⟩,
         ⟨(some (40, true)), (some 44), .fldP 0 (.t 43), []⟩,
         ⟨(some (40, true)), (some 45), .ld 1 false (.t 44), []⟩,
         ⟨(some (40, true)), (some 46), .mov (.t 0), []⟩,
         ⟨(some (40, true)), (some 47), .mov (.t 3), []⟩,
         ⟨(some (40, true)), (some 48), .bin .sub (.t 47) (.c (.int .i64 1)), []⟩,
         ⟨(some (40, true)), (some 49), .idxA 3 (.t 46) (.t 48), []⟩,
         ⟨(some (40, true)), (some 50), .fldP 0 (.t 49), []⟩,
         ⟨(some (40, true)), (some 51), .ld 1 false (.t 50), []⟩,
         ⟨(some (40, true)), (some 52), .bin .leq (.t 45) (.t 51), []⟩,
         ⟨none, (some 53), .pick (.t 40) (.t 52) (.c (.bool false)), []⟩])
       (.cond (.t 53)
        (.seq
         (.reg [2] [
           ⟨none, (some 2), .mov (.c (.bool false)), []⟩])
         .ret)
        .skip))))
    (.reg [3] [
      ⟨none, (some 8), .mov (.t 3), []⟩,
      ⟨none, (some 9), .bin .add (.t 8) (.c (.int .i64 1)), []⟩,
      ⟨none, (some 3), .mov (.t 9), []⟩])))
def k575 : Cd :=
  (.seq
   (.reg [2] [
     ⟨none, (some 2), .mov (.c (.bool false)), []⟩])
   (.seq
    (.seq
     (.reg [3] [
       ⟨none, (some 3), .mov (.c (.int .i64 0)), []⟩])
     (.block 0
      (.loop b575_1)))
    (.seq
     (.reg [2] [
       ⟨none, (some 54), .mov (.t 0), []⟩,
       ⟨none, (some 55), .len (.t 54), []⟩,
       ⟨none, (some 56), .call true 304 [.t 55, .c (.int .i64 1), .c (.int .i64 20)], []⟩,
       ⟨none, (some 2), .mov (.t 56), []⟩])
     .ret)))
def c575 : Fn := { np := 1, nt := 57, kind := .pure, res := [.t 2], body := k575 }

/- spec.l03Share -/
def k576 : Cd :=
  (.seq
   (.reg [6] [
     ⟨none, (some 6), .mov (.c (.int .i64 0)), []⟩])
   (.seq
    (.reg [7] [
      ⟨none, (some 9), .mov (.t 2), []⟩,
      ⟨none, (some 10), .mov (.t 1), []⟩,
      ⟨none, (some 11), .bin .sub (.t 9) (.t 10), []⟩,
      ⟨none, (some 7), .mov (.t 11), []⟩])
    (.seq
     (.reg [8] [
       ⟨none, (some 12), .mov (.t 2), []⟩,
       ⟨none, (some 13), .mov (.t 2), []⟩,
       ⟨none, (some 14), .bin .mul (.t 12) (.t 13), []⟩,
       ⟨none, (some 8), .mov (.t 14), []⟩])
     (.seq
      (.seq
       (.reg [15] [
         ⟨none, (some 15), .mov (.t 0), []⟩])
       (.block 0
        (.seq
         (.reg [16] [
           ⟨none, (some 17), .bin .eql (.t 15) (.c (.int .i64 0)), []⟩,
           ⟨none, (some 16), .mov (.t 17), []⟩])
         (.cond (.t 16)
          (.seq
           (.reg [6] [
             ⟨none, (some 18), .mov (.t 1), []⟩,
             ⟨none, (some 19), .bin .mul (.t 18) (.c (.int .i64 1000)), []⟩,
             ⟨none, (some 20), .mov (.t 2), []⟩,
             ⟨none, (some 21), .bin .quo (.t 19) (.t 20), []⟩,
             ⟨none, (some 6), .mov (.t 21), []⟩])
           .ret)
          (.seq
           (.reg [22] [
             ⟨none, (some 23), .bin .eql (.t 15) (.c (.int .i64 1)), []⟩,
             ⟨none, (some 22), .mov (.t 23), []⟩])
           (.cond (.t 22)
            (.seq
             (.reg [6] [
               ⟨none, (some 24), .mov (.t 1), []⟩,
               ⟨none, (some 25), .mov (.t 1), []⟩,
               ⟨none, (some 26), .bin .mul (.t 24) (.t 25), []⟩,
               ⟨none, (some 27), .bin .mul (.t 26) (.c (.int .i64 1000)), []⟩,
               ⟨none, (some 28), .mov (.t 8), []⟩,
               ⟨none, (some 29), .bin .quo (.t 27) (.t 28), []⟩,
               ⟨none, (some 6), .mov (.t 29), []⟩])
             .ret)
            (.seq
             (.reg [30] [
               ⟨none, (some 31), .bin .eql (.t 15) (.c (.int .i64 2)), []⟩,
               ⟨none, (some 30), .mov (.t 31), []⟩])
             (.cond (.t 30)
              (.seq
               (.reg [6] [
                 ⟨none, (some 32), .mov (.t 7), []⟩,
                 ⟨none, (some 33), .mov (.t 7), []⟩,
                 ⟨none, (some 34), .bin .mul (.t 32) (.t 33), []⟩,
                 ⟨none, (some 35), .bin .mul (.t 34) (.c (.int .i64 1000)), []⟩,
                 ⟨none, (some 36), .mov (.t 8), []⟩,
                 ⟨none, (some 37), .bin .quo (.t 35) (.t 36), []⟩,
                 ⟨none, (some 38), .bin .sub (.c (.int .i64 1000)) (.t 37), []⟩,
                 ⟨none, (some 6), .mov (.t 38), []⟩])
               .ret)
              .skip))))))))
      (.seq
       (.seq
        (.reg [42] [
          ⟨none, (some 39), .mov (.t 1), []⟩,
          ⟨none, (some 40), .bin .mul (.c (.int .i64 2)) (.t 39), []⟩,
          ⟨none, (some 41), .mov (.t 2), []⟩,
          ⟨none, (some 42), .bin .lss (.t 40) (.t 41), []⟩])
        (.cond (.t 42)
         (.seq
          (.reg [6] [
            ⟨none, (some 43), .mov (.t 1), []⟩,
            ⟨none, (some 44), .bin .mul (.c (.int .i64 2)) (.t 43), []⟩,
            ⟨none, (some 45), .mov (.t 1), []⟩,
            ⟨none, (some 46), .bin .mul (.t 44) (.t 45), []⟩,
            ⟨none, (some 47), .bin .mul (.t 46) (.c (.int .i64 1000)), []⟩,
            ⟨none, (some 48), .mov (.t 8), []⟩,
            ⟨none, (some 49), .bin .quo (.t 47) (.t 48), []⟩,
            ⟨none, (some 6), .mov (.t 49), []⟩])
          .ret)
         .skip))
       (.seq
        (.reg [6] [
          ⟨none, (some 50), .mov (.t 7), []⟩,
          ⟨none, (some 51), .bin .mul (.c (.int .i64 2)) (.t 50), []⟩,
          ⟨none, (some 52), .mov (.t 7), []⟩,
          ⟨none, (some 53), .bin .mul (.t 51) (.t 52), []⟩,
          ⟨none, (some 54), .bin .mul (.t 53) (.c (.int .i64 1000)), []⟩,
          ⟨none, (some 55), .mov (.t 8), []⟩,
          ⟨none, (some 56), .bin .quo (.t 54) (.t 55), []⟩,
          ⟨none, (some 57), .bin .sub (.c (.int .i64 1000)) (.t 56), []⟩,
          ⟨none, (some 6), .mov (.t 57), []⟩])
        .ret))))))
def c576 : Fn := { np := 3, nt := 58, kind := .pure, res := [.t 6], body := k576 }

/- spec.l03Between -/
def k577 : Cd :=
  (.seq
   (.reg [6] [
     ⟨none, (some 6), .mov (.c (.int .i64 0)), []⟩])
   (.seq
    (.reg [7] [
      ⟨none, (some 8), .mov (.t 1), []⟩,
      ⟨none, (some 9), .mov (.t 0), []⟩,
      ⟨none, (some 10), .bin .sub (.t 8) (.t 9), []⟩,
      ⟨none, (some 11), .call true 606 [.t 10], []⟩,
      ⟨none, (some 12), .mov (.t 2), []⟩,
      ⟨none, (some 13), .bin .mul (.t 11) (.t 12), []⟩,
      ⟨none, (some 14), .bin .add (.t 13) (.c (.int .i64 500)), []⟩,
      ⟨none, (some 15), .bin .quo (.t 14) (.c (.int .i64 1000)), []⟩,
      ⟨none, (some 7), .mov (.t 15), []⟩])
    (.seq
     (.seq
      (.reg [18] [
        ⟨none, (some 16), .mov (.t 1), []⟩,
        ⟨none, (some 17), .mov (.t 0), []⟩,
        ⟨none, (some 18), .bin .lss (.t 16) (.t 17), []⟩])
      (.cond (.t 18)
       (.seq
        (.reg [6] [
          ⟨none, (some 19), .mov (.t 0), []⟩,
          ⟨none, (some 20), .mov (.t 7), []⟩,
          ⟨none, (some 21), .bin .sub (.t 19) (.t 20), []⟩,
          ⟨none, (some 6), .mov (.t 21), []⟩])
        .ret)
       .skip))
     (.seq
      (.reg [6] [
        ⟨none, (some 22), .mov (.t 0), []⟩,
        ⟨none, (some 23), .mov (.t 7), []⟩,
        ⟨none, (some 24), .bin .add (.t 22) (.t 23), []⟩,
        ⟨none, (some 6), .mov (.t 24), []⟩])
      .ret))))
def c577 : Fn := { np := 3, nt := 25, kind := .pure, res := [.t 6], body := k577 }

/- slices.IndexFunc[[]impl.Part,impl.Part] -/
def b578_1 : Cd :=
  (.seq
   (.reg [9] [
     ⟨none, (some 9), .bin .lss (.t 8) (.t 7), []⟩])
   (.seq
    (.cond (.t 9)
     .skip
     (.exit 0))
    (.seq
     (.block 1
      (.seq
       (.reg [5] [
         ⟨none, (some 10), .mov (.t 8), []⟩,
         ⟨none, (some 5), .mov (.t 10), []⟩])
       (.seq
        (.reg [16] [
          ⟨none, (some 11), .mov (.t 1), []⟩,
          ⟨none, (some 12), .mov (.t 0), []⟩,
          ⟨none, (some 13), .mov (.t 5), []⟩,
          ⟨none, (some 14), .idxA 14 (.t 12) (.t 13), []⟩,
          ⟨none, (some 15), .ld 14 true (.t 14), []⟩,
          ⟨none, (some 16), .callv (.t 11) [.t 15], []⟩])
        (.cond (.t 16)
         (.seq
          (.reg [4] [
            ⟨none, (some 17), .mov (.t 5), []⟩,
            ⟨none, (some 4), .mov (.t 17), []⟩])
          .ret)
         .skip))))
     (.reg [8] [
       ⟨none, (some 18), .bin .add (.t 8) (.c (.int .i64 1)), []⟩,
       ⟨none, (some 8), .mov (.t 18), []⟩]))))
def k578 : Cd :=
  (.seq
   (.reg [4] [
     ⟨none, (some 4), .mov (.c (.int .i64 0)), []⟩])
   (.seq
    (.seq
     (.reg [7, 8] [
       ⟨none, (some 6), .mov (.t 0), []⟩,
       ⟨none, (some 7), .len (.t 6), []⟩,
       ⟨none, (some 8), .mov (.c (.int .i64 0)), []⟩])
     (.block 0
      (.loop b578_1)))
    (.seq
     (.reg [4] [
       ⟨none, (some 4), .mov (.c (.int .i64 (-1))), []⟩])
     .ret)))
def c578 : Fn := { np := 2, nt := 19, kind := .pure, res := [.t 4], body := k578 }

/- impl.easeOf -/
def k579 : Cd :=
  (.seq
   (.reg [6] [
     ⟨none, (some 6), .mov (.c (.int .i64 0)), []⟩])
   (.seq
    (.reg [7, 8] [
      ⟨none, (some 9), .mov (.t 2), []⟩,
      ⟨none, (some 10), .mov (.t 1), []⟩,
      ⟨none, (some 11), .bin .sub (.t 9) (.t 10), []⟩,
      ⟨none, (some 12), .mov (.t 2), []⟩,
      ⟨none, (some 13), .mov (.t 2), []⟩,
      ⟨none, (some 14), .bin .mul (.t 12) (.t 13), []⟩,
      ⟨none, (some 7), .mov (.t 11), []⟩,
      ⟨none, (some 8), .mov (.t 14), []⟩])
    (.seq
     (.block 0
      (.seq
       (.reg [15] [
         ⟨none, (some 16), .mov (.t 0), []⟩,
         ⟨none, (some 17), .bin .eql (.t 16) (.c (.int .i64 0)), []⟩,
         ⟨none, (some 15), .mov (.t 17), []⟩])
       (.cond (.t 15)
        (.seq
         (.reg [6] [
           ⟨none, (some 18), .mov (.t 1), []⟩,
           ⟨none, (some 19), .bin .mul (.t 18) (.c (.int .i64 1000)), []⟩,
           ⟨none, (some 20), .mov (.t 2), []⟩,
           ⟨none, (some 21), .bin .quo (.t 19) (.t 20), []⟩,
           ⟨none, (some 6), .mov (.t 21), []⟩])
         .ret)
        (.seq
         (.reg [22] [
           ⟨none, (some 23), .mov (.t 0), []⟩,
           ⟨none, (some 24), .bin .eql (.t 23) (.c (.int .i64 1)), []⟩,
           ⟨none, (some 22), .mov (.t 24), []⟩])
         (.cond (.t 22)
          (.seq
           (.reg [6] [
             ⟨none, (some 25), .mov (.t 1), []⟩,
             ⟨none, (some 26), .mov (.t 1), []⟩,
             ⟨none, (some 27), .bin .mul (.t 25) (.t 26), []⟩,
             ⟨none, (some 28), .bin .mul (.t 27) (.c (.int .i64 1000)), []⟩,
             ⟨none, (some 29), .mov (.t 8), []⟩,
             ⟨none, (some 30), .bin .quo (.t 28) (.t 29), []⟩,
             ⟨none, (some 6), .mov (.t 30), []⟩])
           .ret)
          (.seq
           (.reg [31] [
             ⟨none, (some 32), .mov (.t 0), []⟩,
             ⟨none, (some 33), .bin .eql (.t 32) (.c (.int .i64 2)), []⟩,
             ⟨none, (some 31), .mov (.t 33), []⟩])
           (.cond (.t 31)
            (.seq
             (.reg [6] [
               ⟨none, (some 34), .mov (.t 7), []⟩,
               ⟨none, (some 35), .mov (.t 7), []⟩,
               ⟨none, (some 36), .bin .mul (.t 34) (.t 35), []⟩,
               ⟨none, (some 37), .bin .mul (.t 36) (.c (.int .i64 1000)), []⟩,
               ⟨none, (some 38), .mov (.t 8), []⟩,
               ⟨none, (some 39), .bin .quo (.t 37) (.t 38), []⟩,
               ⟨none, (some 40), .bin .sub (.c (.int .i64 1000)) (.t 39), []⟩,
               ⟨none, (some 6), .mov (.t 40), []⟩])
             .ret)
            (.seq
             (.reg [41] [
               ⟨none, (some 42), .mov (.t 1), []⟩,
               ⟨none, (some 43), .bin .mul (.c (.int .i64 2)) (.t 42), []⟩,
               ⟨none, (some 44), .mov (.t 2), []⟩,
               ⟨none, (some 45), .bin .lss (.t 43) (.t 44), []⟩,
               ⟨none, (some 41), .mov (.t 45), []⟩])
             (.cond (.t 41)
              (.seq
               (.reg [6] [
                 ⟨none, (some 46), .mov (.t 1), []⟩,
                 ⟨none, (some 47), .bin .mul (.c (.int .i64 2)) (.t 46), []⟩,
                 ⟨none, (some 48), .mov (.t 1), []⟩,
                 ⟨none, (some 49), .bin .mul (.t 47) (.t 48), []⟩,
                 ⟨none, (some 50), .bin .mul (.t 49) (.c (.int .i64 1000)), []⟩,
                 ⟨none, (some 51), .mov (.t 8), []⟩,
                 ⟨none, (some 52), .bin .quo (.t 50) (.t 51), []⟩,
                 ⟨none, (some 6), .mov (.t 52), []⟩])
               .ret)
              .skip)))))))))
     (.seq
      (.reg [6] [
        ⟨none, (some 53), .mov (.t 7), []⟩,
        ⟨none, (some 54), .bin .mul (.c (.int .i64 2)) (.t 53), []⟩,
        ⟨none, (some 55), .mov (.t 7), []⟩,
        ⟨none, (some 56), .bin .mul (.t 54) (.t 55), []⟩,
        ⟨none, (some 57), .bin .mul (.t 56) (.c (.int .i64 1000)), []⟩,
        ⟨none, (some 58), .mov (.t 8), []⟩,
        ⟨none, (some 59), .bin .quo (.t 57) (.t 58), []⟩,
        ⟨none, (some 60), .bin .sub (.c (.int .i64 1000)) (.t 59), []⟩,
        ⟨none, (some 6), .mov (.t 60), []⟩])
      .ret))))
def c579 : Fn := { np := 3, nt := 61, kind := .pure, res := [.t 6], body := k579 }

/- impl.between -/
def k580 : Cd :=
  (.seq
   (.reg [6] [
     ⟨none, (some 6), .mov (.c (.int .i64 0)), []⟩])
   (.seq
    (.seq
     (.reg [9] [
       ⟨none, (some 7), .mov (.t 1), []⟩,
       ⟨none, (some 8), .mov (.t 0), []⟩,
       ⟨none, (some 9), .bin .lss (.t 7) (.t 8), []⟩])
     (.cond (.t 9)
      (.seq
       (.reg [6] [
         ⟨none, (some 10), .mov (.t 0), []⟩,
         ⟨none, (some 11), .mov (.t 0), []⟩,
         ⟨none, (some 12), .mov (.t 1), []⟩,
         ⟨none, (some 13), .bin .sub (.t 11) (.t 12), []⟩,
         ⟨none, (some 14), .mov (.t 2), []⟩,
         ⟨none, (some 15), .bin .mul (.t 13) (.t 14), []⟩,
         ⟨none, (some 16), .bin .add (.t 15) (.c (.int .i64 500)), []⟩,
         ⟨none, (some 17), .bin .quo (.t 16) (.c (.int .i64 1000)), []⟩,
         ⟨none, (some 18), .bin .sub (.t 10) (.t 17), []⟩,
         ⟨none, (some 6), .mov (.t 18), []⟩])
       .ret)
      .skip))
    (.seq
     (.reg [6] [
       ⟨none, (some 19), .mov (.t 0), []⟩,
       ⟨none, (some 20), .mov (.t 1), []⟩,
       ⟨none, (some 21), .mov (.t 0), []⟩,
       ⟨none, (some 22), .bin .sub (.t 20) (.t 21), []⟩,
       ⟨none, (some 23), .mov (.t 2), []⟩,
       ⟨none, (some 24), .bin .mul (.t 22) (.t 23), []⟩,
       ⟨none, (some 25), .bin .add (.t 24) (.c (.int .i64 500)), []⟩,
       ⟨none, (some 26), .bin .quo (.t 25) (.c (.int .i64 1000)), []⟩,
       ⟨none, (some 27), .bin .add (.t 19) (.t 26), []⟩,
       ⟨none, (some 6), .mov (.t 27), []⟩])
     .ret)))
def c580 : Fn := { np := 3, nt := 28, kind := .pure, res := [.t 6], body := k580 }

/- laws.eqKey -/
def k581 : Cd :=
  (.seq
   (.reg [2, 3, 4] [
     ⟨none, (some 2), .mov (.t 0), []⟩,
     ⟨none, (some 3), .mov (.t 1), []⟩,
     ⟨none, (some 4), .mov (.c (.bool false)), []⟩])
   (.seq
    (.seq
     (.reg [9] [
       ⟨none, (some 5), .adrF 2 none 0, []⟩,
       ⟨none, (some 6), .ldV 2 (some 5) 1 false, []⟩,
       ⟨none, (some 7), .adrF 3 none 0, []⟩,
       ⟨none, (some 8), .ldV 3 (some 7) 1 false, []⟩,
       ⟨none, (some 9), .bin .neq (.t 6) (.t 8), []⟩])
     (.cond (.t 9)
      (.seq
       (.reg [4] [
         ⟨none, (some 4), .mov (.c (.bool false)), []⟩])
       .ret)
      .skip))
    (.seq
     (.seq
      (.reg [14] [
        ⟨none, (some 10), .adrF 2 none 1, []⟩,
        ⟨none, (some 11), .ldV 2 (some 10) 1 false, []⟩,
        ⟨none, (some 12), .adrF 3 none 1, []⟩,
        ⟨none, (some 13), .ldV 3 (some 12) 1 false, []⟩,
        ⟨none, (some 14), .bin .neq (.t 11) (.t 13), []⟩])
      (.cond (.t 14)
       (.seq
        (.reg [4] [
          ⟨none, (some 4), .mov (.c (.bool false)), []⟩])
        .ret)
       .skip))
     (.seq
      (.seq
       (.reg [19] [
         ⟨none, (some 15), .adrF 2 none 2, []⟩,
         ⟨none, (some 16), .ldV 2 (some 15) 1 false, []⟩,
         ⟨none, (some 17), .adrF 3 none 2, []⟩,
         ⟨none, (some 18), .ldV 3 (some 17) 1 false, []⟩,
         ⟨none, (some 19), .bin .neq (.t 16) (.t 18), []⟩])
       (.cond (.t 19)
        (.seq
         (.reg [4] [
           ⟨none, (some 4), .mov (.c (.bool false)), []⟩])
         .ret)
        .skip))
      (.seq
       (.reg [4] [
         ⟨none, (some 4), .mov (.c (.bool true)), []⟩])
       .ret)))))
def c581 : Fn := { np := 2, nt := 20, kind := .pure, res := [.t 4], body := k581 }

/- spec.l03Reach -/
def k605 : Cd :=
  (.seq
   (.reg [2] [
     ⟨none, (some 2), .mov (.c (.bool false)), []⟩])
   (.seq
    (.reg [2] [
      ⟨none, (some 3), .mov (.t 0), []⟩,
      ⟨none, (some 4), .call true 304 [.t 3, .c (.int .i64 (-24)), .c (.int .i64 24)], []⟩,
      ⟨none, (some 2), .mov (.t 4), []⟩])
    .ret))
def c605 : Fn := { np := 1, nt := 5, kind := .pure, res := [.t 2], body := k605 }

/- spec.l03Size -/
def k606 : Cd :=
  (.seq
   (.reg [2] [
     ⟨none, (some 2), .mov (.c (.int .i64 0)), []⟩])
   (.seq
    (.reg [2] [
      ⟨none, (some 3), .mov (.t 0), []⟩,
      ⟨none, (some 4), .mov (.t 0), []⟩,
      ⟨none, (some 5), .un .neg (.t 4), []⟩,
      ⟨none, (some 6), .call true 549 [.t 3, .t 5], []⟩,
      ⟨none, (some 2), .mov (.t 6), []⟩])
    .ret))
def c606 : Fn := { np := 1, nt := 7, kind := .pure, res := [.t 2], body := k606 }


end Fb
