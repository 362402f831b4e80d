/- The functions of the law, in the small language. -/
import Derived.Test.YtholaggmhhjjkaaDen
set_option linter.unusedVariables false
set_option linter.unusedSimpArgs false
namespace Fb
open Go

/- laws.FnExactTrimScene -/
def k35 : Cd :=
  (.seq
   (.reg [6] [
     ⟨none, (some 6), .mov (.c (.bool false)), []⟩])
   (.seq
    (.reg [7] [
      ⟨none, (some 7), .mov (.c (.int .i64 1000000)), []⟩])
    (.seq
     (.reg [7] [
       ⟨none, (some 18), .mov (.t 0), []⟩,
       ⟨none, (some 19), .mov (.t 7), []⟩,
       ⟨none, (some 20), .call true 189 [.t 18, .t 19], []⟩,
       ⟨none, (some 7), .mov (.t 20), []⟩])
     (.seq
      (.seq
       (.reg [22] [
         ⟨none, (some 21), .mov (.t 7), []⟩,
         ⟨none, (some 22), .bin .lss (.t 21) (.c (.int .i64 0)), []⟩])
       (.cond (.t 22)
        (.seq
         (.reg [6] [
           ⟨none, (some 6), .mov (.c (.bool true)), []⟩])
         .ret)
        .skip))
      (.seq
       (.reg [8, 9] [
         ⟨none, (some 24), .mov (.t 0), []⟩,
         ⟨none, (some 25), .call true 191 [.t 24, .c (.bool false)], []⟩,
         ⟨none, (some 26), .mov (.t 1), []⟩,
         ⟨none, (some 27), .mov (.t 2), []⟩,
         ⟨none, (some 28), .call true 190 [.t 25, .t 26, .t 27], []⟩,
         ⟨none, (some 23), .mov (.t 28), []⟩,
         ⟨none, (some 29), .ext (.t 23) 0, []⟩,
         ⟨none, (some 30), .ext (.t 23) 1, []⟩,
         ⟨none, (some 8), .mov (.t 29), []⟩,
         ⟨none, (some 9), .mov (.t 30), []⟩])
       (.seq
        (.reg [10] [
          ⟨none, (some 31), .mov (.t 0), []⟩,
          ⟨none, (some 32), .call true 191 [.t 31, .c (.bool false)], []⟩,
          ⟨none, (some 10), .mov (.t 32), []⟩])
        (.seq
         (.reg [11, 12] [
           ⟨none, (some 34), .mov (.t 10), []⟩,
           ⟨none, (some 35), .mov (.t 1), []⟩,
           ⟨none, (some 36), .mov (.t 2), []⟩,
           ⟨none, (some 37), .call true 192 [.t 34, .t 35, .t 36], []⟩,
           ⟨none, (some 33), .mov (.t 37), []⟩,
           ⟨none, (some 38), .ext (.t 33) 0, []⟩,
           ⟨none, (some 39), .ext (.t 33) 1, []⟩,
           ⟨none, (some 11), .mov (.t 38), []⟩,
           ⟨none, (some 12), .mov (.t 39), []⟩])
         (.seq
          (.seq
           (.reg [48] [
             ⟨none, (some 40), .mov (.t 11), []⟩,
             ⟨none, (some 41), .mov (.t 8), []⟩,
             ⟨none, (some 42), .call true 193 [.t 40, .t 41], []⟩,
             ⟨none, (some 43), .un .not (.t 42), []⟩,
             ⟨none, (some 44), .mov (.t 43), []⟩,
             ⟨(some (44, false)), (some 45), .mov (.t 12), []⟩,
             ⟨(some (44, false)), (some 46), .mov (.t 9), []⟩,
             ⟨(some (44, false)), (some 47), .bin .neq (.t 45) (.t 46), []⟩,
             ⟨none, (some 48), .pick (.t 44) (.c (.bool true)) (.t 47), []⟩])
           (.cond (.t 48)
            (.seq
             (.reg [6] [
               ⟨none, (some 6), .mov (.c (.bool false)), []⟩])
             .ret)
            .skip))
          (.seq
           (.seq
            (.reg [53] [
              ⟨none, (some 49), .mov (.t 10), []⟩,
              ⟨none, (some 50), .mov (.t 0), []⟩,
              ⟨none, (some 51), .call true 191 [.t 50, .c (.bool false)], []⟩,
              ⟨none, (some 52), .call true 194 [.t 49, .t 51], []⟩,
              ⟨none, (some 53), .un .not (.t 52), []⟩])
            (.cond (.t 53)
             (.seq
              (.reg [6] [
                ⟨none, (some 6), .mov (.c (.bool false)), []⟩])
              .ret)
             .skip))
           (.seq
            (.reg [13] [
              ⟨none, (some 13), .mov (.c (.int .i64 101)), []⟩])
            (.seq
             (.reg [13] [
               ⟨none, (some 54), .mov (.t 10), []⟩,
               ⟨none, (some 55), .mov (.t 13), []⟩,
               ⟨none, (some 56), .call false 195 [.t 54, .t 55], []⟩,
               ⟨none, (some 13), .mov (.t 56), []⟩])
             (.seq
              (.seq
               (.reg [69] [
                 ⟨none, (some 57), .mov (.t 13), []⟩,
                 ⟨none, (some 58), .bin .lss (.t 57) (.c (.int .i64 0)), []⟩,
                 ⟨none, (some 59), .mov (.t 58), []⟩,
                 ⟨(some (59, false)), (some 60), .mov (.t 11), []⟩,
                 ⟨(some (59, false)), (some 61), .mov (.t 8), []⟩,
                 ⟨(some (59, false)), (some 62), .call true 193 [.t 60, .t 61], []⟩,
                 ⟨(some (59, false)), (some 63), .un .not (.t 62), []⟩,
                 ⟨none, (some 64), .pick (.t 59) (.c (.bool true)) (.t 63), []⟩,
                 ⟨none, (some 65), .mov (.t 64), []⟩,
                 ⟨(some (65, false)), (some 66), .mov (.t 12), []⟩,
                 ⟨(some (65, false)), (some 67), .mov (.t 9), []⟩,
                 ⟨(some (65, false)), (some 68), .bin .neq (.t 66) (.t 67), []⟩,
                 ⟨none, (some 69), .pick (.t 65) (.c (.bool true)) (.t 68), []⟩])
               (.cond (.t 69)
                (.seq
                 (.reg [6] [
                   ⟨none, (some 6), .mov (.c (.bool false)), []⟩])
                 .ret)
                .skip))
              (.seq
               (.reg [14] [
                 ⟨none, (some 14), .mov (.c (.int .i64 101)), []⟩])
               (.seq
                (.reg [14] [
                  ⟨none, (some 70), .mov (.t 11), []⟩,
                  ⟨none, (some 71), .mov (.t 14), []⟩,
                  ⟨none, (some 72), .call false 195 [.t 70, .t 71], []⟩,
                  ⟨none, (some 14), .mov (.t 72), []⟩])
                (.seq
                 (.reg [15] [
                   ⟨none, (some 15), .mov (.c (.int .i64 101)), []⟩])
                 (.seq
                  (.reg [15] [
                    ⟨none, (some 73), .mov (.t 11), []⟩,
                    ⟨none, (some 74), .mov (.t 15), []⟩,
                    ⟨none, (some 75), .call true 196 [.t 73, .t 74], []⟩,
                    ⟨none, (some 15), .mov (.t 75), []⟩])
                  (.seq
                   (.seq
                    (.reg [77] [
                      ⟨none, (some 76), .mov (.t 15), []⟩,
                      ⟨none, (some 77), .bin .lss (.t 76) (.c (.int .i64 0)), []⟩])
                    (.cond (.t 77)
                     (.seq
                      (.reg [6] [
                        ⟨none, (some 6), .mov (.c (.bool false)), []⟩])
                      .ret)
                     .skip))
                   (.seq
                    (.seq
                     (.reg [80] [
                       ⟨none, (some 78), .mov (.t 15), []⟩,
                       ⟨none, (some 79), .mov (.t 14), []⟩,
                       ⟨none, (some 80), .bin .neq (.t 78) (.t 79), []⟩])
                     (.cond (.t 80)
                      (.seq
                       (.reg [6] [
                         ⟨none, (some 6), .mov (.c (.bool false)), []⟩])
                       .ret)
                      .skip))
                    (.seq
                     (.reg [16, 17] [
                       ⟨none, (some 82), .mov (.t 0), []⟩,
                       ⟨none, (some 83), .call true 191 [.t 82, .c (.bool true)], []⟩,
                       ⟨none, (some 84), .mov (.t 1), []⟩,
                       ⟨none, (some 85), .mov (.t 2), []⟩,
                       ⟨none, (some 86), .call true 192 [.t 83, .t 84, .t 85], []⟩,
                       ⟨none, (some 81), .mov (.t 86), []⟩,
                       ⟨none, (some 87), .ext (.t 81) 0, []⟩,
                       ⟨none, (some 88), .ext (.t 81) 1, []⟩,
                       ⟨none, (some 16), .mov (.t 87), []⟩,
                       ⟨none, (some 17), .mov (.t 88), []⟩])
                     (.seq
                      (.seq
                       (.reg [97] [
                         ⟨none, (some 89), .mov (.t 16), []⟩,
                         ⟨none, (some 90), .mov (.t 8), []⟩,
                         ⟨none, (some 91), .call true 193 [.t 89, .t 90], []⟩,
                         ⟨none, (some 92), .un .not (.t 91), []⟩,
                         ⟨none, (some 93), .mov (.t 92), []⟩,
                         ⟨(some (93, false)), (some 94), .mov (.t 17), []⟩,
                         ⟨(some (93, false)), (some 95), .mov (.t 9), []⟩,
                         ⟨(some (93, false)), (some 96), .bin .neq (.t 94) (.t 95), []⟩,
                         ⟨none, (some 97), .pick (.t 93) (.c (.bool true)) (.t 96), []⟩])
                       (.cond (.t 97)
                        (.seq
                         (.reg [6] [
                           ⟨none, (some 6), .mov (.c (.bool false)), []⟩])
                         .ret)
                        .skip))
                      (.seq
                       (.reg [15] [
                         ⟨none, (some 15), .mov (.c (.int .i64 101)), []⟩])
                       (.seq
                        (.reg [15] [
                          ⟨none, (some 98), .mov (.t 11), []⟩,
                          ⟨none, (some 99), .mov (.t 15), []⟩,
                          ⟨none, (some 100), .call true 196 [.t 98, .t 99], []⟩,
                          ⟨none, (some 15), .mov (.t 100), []⟩])
                        (.seq
                         (.seq
                          (.reg [102] [
                            ⟨none, (some 101), .mov (.t 15), []⟩,
                            ⟨none, (some 102), .bin .lss (.t 101) (.c (.int .i64 0)), []⟩])
                          (.cond (.t 102)
                           (.seq
                            (.reg [6] [
                              ⟨none, (some 6), .mov (.c (.bool false)), []⟩])
                            .ret)
                           .skip))
                         (.seq
                          (.seq
                           (.reg [105] [
                             ⟨none, (some 103), .mov (.t 15), []⟩,
                             ⟨none, (some 104), .mov (.t 14), []⟩,
                             ⟨none, (some 105), .bin .neq (.t 103) (.t 104), []⟩])
                           (.cond (.t 105)
                            (.seq
                             (.reg [6] [
                               ⟨none, (some 6), .mov (.c (.bool false)), []⟩])
                             .ret)
                            .skip))
                          (.seq
                           (.reg [6] [
                             ⟨none, (some 6), .mov (.c (.bool true)), []⟩])
                           .ret)))))))))))))))))))))))))
def c35 : Fn := { np := 3, nt := 106, kind := .pure, res := [.t 6], body := k35 }

/- laws.eqFrame -/
def b78_1 : Cd :=
  (.seq
   (.seq
    (.reg [7] [
      ⟨none, (some 6), .mov (.t 5), []⟩,
      ⟨none, (some 7), .bin .lss (.t 6) (.c (.int .i64 12)), []⟩])
    (.cond (.t 7)
     .skip
     (.exit 0)))
   (.seq
    (.block 1
     (.seq
      (.reg [16] [
        ⟨none, (some 10), .mov (.t 5), []⟩,
        ⟨none, (some 11), .adrI 2 none 12 1 (.t 10), []⟩,
        ⟨none, (some 12), .ldV 2 (some 11) 1 false, []⟩,
        ⟨none, (some 13), .mov (.t 5), []⟩,
        ⟨none, (some 14), .adrI 3 none 12 1 (.t 13), []⟩,
        ⟨none, (some 15), .ldV 3 (some 14) 1 false, []⟩,
        ⟨none, (some 16), .bin .neq (.t 12) (.t 15), []⟩])
      (.cond (.t 16)
       (.seq
        (.reg [4] [
          ⟨none, (some 4), .mov (.c (.bool false)), []⟩])
        .ret)
       .skip)))
    (.reg [5] [
      ⟨none, (some 8), .mov (.t 5), []⟩,
      ⟨none, (some 9), .bin .add (.t 8) (.c (.int .i64 1)), []⟩,
      ⟨none, (some 5), .mov (.t 9), []⟩])))
def k78 : Cd :=
  (.seq
   (.reg [2, 3, 4] [
     ⟨none, (some 2), .mov (.t 0), []⟩,
     ⟨none, (some 3), .mov (.t 1), []⟩,
     ⟨none, (some 4), .mov (.c (.bool false)), []⟩])
   (.seq
    (.seq
     (.reg [5] [
       ⟨none, (some 5), .mov (.c (.int .i64 0)), []⟩])
     (.block 0
      (.loop b78_1)))
    (.seq
     (.reg [4] [
       ⟨none, (some 4), .mov (.c (.bool true)), []⟩])
     .ret)))
def c78 : Fn := { np := 2, nt := 17, kind := .pure, res := [.t 4], body := k78 }

/- laws.toFrame -/
def b134_1 : Cd :=
  (.seq
   (.seq
    (.reg [6] [
      ⟨none, (some 5), .mov (.t 4), []⟩,
      ⟨none, (some 6), .bin .lss (.t 5) (.c (.int .i64 12)), []⟩])
    (.cond (.t 6)
     .skip
     (.exit 0)))
   (.seq
    (.block 1
     (.reg [3] [
       ⟨none, (some 9), .mov (.t 4), []⟩,
       ⟨none, (some 10), .mov (.t 4), []⟩,
       ⟨none, (some 11), .adrI 1 none 12 1 (.t 10), []⟩,
       ⟨none, (some 12), .ldV 1 (some 11) 1 false, []⟩,
       ⟨none, (some 13), .adrI 3 none 12 1 (.t 9), []⟩,
       ⟨none, (some 3), .stV 3 (some 13) 1 (.t 12), []⟩]))
    (.reg [4] [
      ⟨none, (some 7), .mov (.t 4), []⟩,
      ⟨none, (some 8), .bin .add (.t 7) (.c (.int .i64 1)), []⟩,
      ⟨none, (some 4), .mov (.t 8), []⟩])))
def k134 : Cd :=
  (.seq
   (.reg [1, 2] [
     ⟨none, (some 1), .mov (.t 0), []⟩,
     ⟨none, (some 2), .zero true (zs 12 (.int .u16 0)), []⟩])
   (.seq
    (.reg [3] [
      ⟨none, (some 3), .zero true (zs 12 (.int .u16 0)), []⟩])
    (.seq
     (.seq
      (.reg [4] [
        ⟨none, (some 4), .mov (.c (.int .i64 0)), []⟩])
      (.block 0
       (.loop b134_1)))
     (.seq
      (.reg [2] [
        ⟨none, (some 14), .ldV 3 none 12 true, []⟩,
        ⟨none, (some 2), .stV 2 none 12 (.t 14), []⟩])
      .ret))))
def c134 : Fn := { np := 1, nt := 15, kind := .pure, res := [.v 2 12 true], body := k134 }

/- laws.szScene -/
def k189 : Cd :=
  (.seq
   (.reg [4] [
     ⟨none, (some 4), .mov (.c (.int .i64 0)), []⟩])
   (.seq
    (.reg [1] [
      ⟨none, (some 5), .mov (.t 1), []⟩,
      ⟨none, (some 6), .mov (.t 0), []⟩,
      ⟨none, (some 7), .len (.t 6), []⟩,
      ⟨none, (some 8), .bin .sub (.t 5) (.t 7), []⟩,
      ⟨none, (some 1), .mov (.t 8), []⟩])
    (.seq
     (.seq
      (.reg [10] [
        ⟨none, (some 9), .mov (.t 1), []⟩,
        ⟨none, (some 10), .bin .lss (.t 9) (.c (.int .i64 0)), []⟩])
      (.cond (.t 10)
       (.seq
        (.reg [4] [
          ⟨none, (some 4), .mov (.c (.int .i64 (-1))), []⟩])
        .ret)
       .skip))
     (.seq
      (.reg [4] [
        ⟨none, (some 11), .mov (.t 1), []⟩,
        ⟨none, (some 4), .mov (.t 11), []⟩])
      .ret))))
def c189 : Fn := { np := 2, nt := 12, kind := .pure, res := [.t 4], body := k189 }

/- spec.TrimScene -/
def b190_1 : Cd :=
  (.seq
   (.seq
    (.reg [28] [
      ⟨none, (some 25), .mov (.t 11), []⟩,
      ⟨none, (some 26), .mov (.t 10), []⟩,
      ⟨none, (some 27), .len (.t 26), []⟩,
      ⟨none, (some 28), .bin .lss (.t 25) (.t 27), []⟩])
    (.cond (.t 28)
     .skip
     (.exit 0)))
   (.seq
    (.block 1
     (.seq
      (.reg [35] [
        ⟨none, (some 31), .mov (.t 10), []⟩,
        ⟨none, (some 32), .mov (.t 11), []⟩,
        ⟨none, (some 33), .idxA 12 (.t 31) (.t 32), []⟩,
        ⟨none, (some 34), .call true 409 [.t 33], []⟩,
        ⟨none, (some 35), .bin .gtr (.t 34) (.c (.int .i64 0)), []⟩])
      (.cond (.t 35)
       (.reg [9] [
         ⟨none, (some 36), .mov (.t 9), []⟩,
         ⟨none, (some 37), .mov (.t 0), []⟩,
         ⟨none, (some 38), .mov (.t 11), []⟩,
         ⟨none, (some 39), .idxA 27 (.t 37) (.t 38), []⟩,
         ⟨none, (some 40), .ld 27 true (.t 39), []⟩,
         ⟨none, (some 41), .bldS 27 1 [.int .u16 0, .int .u16 0, .int .u16 0, .int .u16 0, .int .u16 0, .int .u16 0, .int .u16 0, .int .u16 0, .int .u16 0, .int .u16 0, .int .u16 0, .int .u16 0, .int .u16 0, .int .u16 0, .int .u16 0, .int .u16 0, .int .u16 0, .int .u16 0, .int .u16 0, .int .u16 0, .int .u16 0, .int .u16 0, .int .u16 0, .int .u16 0, .int .i8 0, .int .i8 0, .int .i8 0] [(0, 27, (.t 40))], []⟩,
         ⟨none, (some 42), .app 27 52 (.t 36) (.t 41), []⟩,
         ⟨none, (some 9), .mov (.t 42), []⟩])
       .skip)))
    (.reg [11] [
      ⟨none, (some 29), .mov (.t 11), []⟩,
      ⟨none, (some 30), .bin .add (.t 29) (.c (.int .i64 1)), []⟩,
      ⟨none, (some 11), .mov (.t 30), []⟩])))
def k190 : Cd :=
  (.seq
   (.reg [6, 7] [
     ⟨none, (some 6), .mov (.c (.slice none 0 0)), []⟩,
     ⟨none, (some 7), .mov (.c (.int .i64 0)), []⟩])
   (.seq
    (.seq
     (.reg [8] [
       ⟨none, (some 12), .mov (.t 0), []⟩,
       ⟨none, (some 13), .mov (.t 1), []⟩,
       ⟨none, (some 14), .mov (.t 2), []⟩,
       ⟨none, (some 15), .call true 331 [.t 12, .t 13, .t 14], []⟩,
       ⟨none, (some 8), .mov (.t 15), []⟩])
     (.seq
      (.reg [17] [
        ⟨none, (some 16), .mov (.t 8), []⟩,
        ⟨none, (some 17), .bin .neq (.t 16) (.c (.int .i64 0)), []⟩])
      (.cond (.t 17)
       (.seq
        (.reg [6, 7] [
          ⟨none, (some 18), .bldS 27 0 [.int .u16 0, .int .u16 0, .int .u16 0, .int .u16 0, .int .u16 0, .int .u16 0, .int .u16 0, .int .u16 0, .int .u16 0, .int .u16 0, .int .u16 0, .int .u16 0, .int .u16 0, .int .u16 0, .int .u16 0, .int .u16 0, .int .u16 0, .int .u16 0, .int .u16 0, .int .u16 0, .int .u16 0, .int .u16 0, .int .u16 0, .int .u16 0, .int .i8 0, .int .i8 0, .int .i8 0] [], []⟩,
          ⟨none, (some 19), .mov (.t 8), []⟩,
          ⟨none, (some 6), .mov (.t 18), []⟩,
          ⟨none, (some 7), .mov (.t 19), []⟩])
        .ret)
       .skip)))
    (.seq
     (.reg [9] [
       ⟨none, (some 20), .bldS 27 0 [.int .u16 0, .int .u16 0, .int .u16 0, .int .u16 0, .int .u16 0, .int .u16 0, .int .u16 0, .int .u16 0, .int .u16 0, .int .u16 0, .int .u16 0, .int .u16 0, .int .u16 0, .int .u16 0, .int .u16 0, .int .u16 0, .int .u16 0, .int .u16 0, .int .u16 0, .int .u16 0, .int .u16 0, .int .u16 0, .int .u16 0, .int .u16 0, .int .i8 0, .int .i8 0, .int .i8 0] [], []⟩,
       ⟨none, (some 9), .mov (.t 20), []⟩])
     (.seq
      (.reg [10] [
        ⟨none, (some 21), .mov (.t 0), []⟩,
        ⟨none, (some 22), .mov (.t 1), []⟩,
        ⟨none, (some 23), .mov (.t 2), []⟩,
        ⟨none, (some 24), .call true 408 [.t 21, .t 22, .t 23], []⟩,
        ⟨none, (some 10), .mov (.t 24), []⟩])
      (.seq
       (.seq
        (.reg [11] [
          ⟨none, (some 11), .mov (.c (.int .i64 0)), []⟩])
        (.block 0
         (.loop b190_1)))
       (.seq
        (.reg [6, 7] [
          ⟨none, (some 43), .mov (.t 9), []⟩,
          ⟨none, (some 6), .mov (.t 43), []⟩,
          ⟨none, (some 7), .mov (.c (.int .i64 0)), []⟩])
        .ret))))))
def c190 : Fn := { np := 3, nt := 44, kind := .pure, res := [.t 6, .t 7], body := k190 }

/- laws.toScene -/
def b191_1 : Cd :=
  (.seq
   (.seq
    (.reg [24] [
      ⟨none, (some 21), .mov (.t 6), []⟩,
      ⟨none, (some 22), .mov (.t 0), []⟩,
      ⟨none, (some 23), .len (.t 22), []⟩,
      ⟨none, (some 24), .bin .lss (.t 21) (.t 23), []⟩])
    (.cond (.t 24)
     .skip
     (.exit 0)))
   (.seq
    (.block 1
     (.reg [] [
       ⟨none, (some 27), .mov (.t 5), []⟩,
       ⟨none, (some 28), .mov (.t 6), []⟩,
       ⟨none, (some 29), .mov (.t 0), []⟩,
       ⟨none, (some 30), .mov (.t 6), []⟩,
       ⟨none, (some 31), .idxA 27 (.t 29) (.t 30), []⟩,
       ⟨none, (some 32), .ld 27 true (.t 31), []⟩,
       ⟨none, (some 33), .call true 410 [.t 32], []⟩,
       ⟨none, (some 34), .idxA 27 (.t 27) (.t 28), []⟩,
       ⟨none, none, .st 27 (.t 34) (.t 33), []⟩]))
    (.reg [6] [
      ⟨none, (some 25), .mov (.t 6), []⟩,
      ⟨none, (some 26), .bin .add (.t 25) (.c (.int .i64 1)), []⟩,
      ⟨none, (some 6), .mov (.t 26), []⟩])))
def b191_2 : Cd :=
  (.seq
   (.seq
    (.reg [40] [
      ⟨none, (some 37), .mov (.t 7), []⟩,
      ⟨none, (some 38), .mov (.t 5), []⟩,
      ⟨none, (some 39), .len (.t 38), []⟩,
      ⟨none, (some 40), .bin .lss (.t 37) (.t 39), []⟩])
    (.cond (.t 40)
     .skip
     (.exit 2)))
   (.seq
    (.block 3
     (.reg [] [
       ⟨none, (some 43), .mov (.t 5), []⟩,
       ⟨none, (some 44), .mov (.t 7), []⟩,
       ⟨none, (some 45), .call true 411 [], []⟩,
       ⟨none, (some 46), .idxA 27 (.t 43) (.t 44), []⟩,
       ⟨none, none, .st 27 (.t 46) (.t 45), []⟩]))
    (.reg [7] [
      ⟨none, (some 41), .mov (.t 7), []⟩,
      ⟨none, (some 42), .bin .add (.t 41) (.c (.int .i64 1)), []⟩,
      ⟨none, (some 7), .mov (.t 42), []⟩])))
def k191 : Cd :=
  (.seq
   (.reg [4] [
     ⟨none, (some 4), .mov (.c (.slice none 0 0)), []⟩])
   (.seq
    (.seq
     (.reg [13] [
       ⟨none, (some 8), .mov (.t 1), []⟩,
       ⟨none, (some 9), .mov (.t 8), []⟩,
       ⟨(some (9, true)), (some 10), .mov (.t 0), []⟩,
       ⟨(some (9, true)), (some 11), .len (.t 10), []⟩,
       ⟨(some (9, true)), (some 12), .bin .eql (.t 11) (.c (.int .i64 0)), []⟩,
       ⟨none, (some 13), .pick (.t 9) (.t 12) (.c (.bool false)), []⟩])
     (.cond (.t 13)
      (.seq
       (.reg [4] [
         ⟨none, (some 4), .mov (.c (.slice none 0 0)), []⟩])
       .ret)
      .skip))
    (.seq
     (.reg [5] [
       ⟨none, (some 14), .mov (.t 0), []⟩,
       ⟨none, (some 15), .len (.t 14), []⟩,
       ⟨none, (some 16), .mov (.t 0), []⟩,
       ⟨none, (some 17), .len (.t 16), []⟩,
       ⟨none, (some 18), .call true 296 [.t 17], []⟩,
       ⟨none, (some 19), .bin .add (.t 15) (.t 18), []⟩,
       ⟨none, (some 20), .mkS 27 52 [.int .u16 0, .int .u16 0, .int .u16 0, .int .u16 0, .int .u16 0, .int .u16 0, .int .u16 0, .int .u16 0, .int .u16 0, .int .u16 0, .int .u16 0, .int .u16 0, .int .u16 0, .int .u16 0, .int .u16 0, .int .u16 0, .int .u16 0, .int .u16 0, .int .u16 0, .int .u16 0, .int .u16 0, .int .u16 0, .int .u16 0, .int .u16 0, .int .i8 0, .int .i8 0, .int .i8 0] (.t 19) (.t 19), []⟩,
       ⟨none, (some 5), .mov (.t 20), []⟩])
     (.seq
      (.seq
       (.reg [6] [
         ⟨none, (some 6), .mov (.c (.int .i64 0)), []⟩])
       (.block 0
        (.loop b191_1)))
      (.seq
       (.seq
        (.reg [7] [
          ⟨none, (some 35), .mov (.t 0), []⟩,
          ⟨none, (some 36), .len (.t 35), []⟩,
          ⟨none, (some 7), .mov (.t 36), []⟩])
        (.block 2
         (.loop b191_2)))
       (.seq
        (.reg [4] [
          ⟨none, (some 47), .mov (.t 5), []⟩,
          ⟨none, (some 48), .mov (.t 0), []⟩,
          ⟨none, (some 49), .len (.t 48), []⟩,
          ⟨none, (some 50), .slcA 27 (.t 47) none (some (.t 49)) none, []⟩,
          ⟨none, (some 4), .mov (.t 50), []⟩])
        .ret))))))
def c191 : Fn := { np := 2, nt := 51, kind := .pure, res := [.t 4], body := k191 }

/- impl.TrimScene -/
def b192_1 : Cd :=
  (.seq
   (.reg [26] [
     ⟨none, (some 26), .bin .lss (.t 25) (.t 24), []⟩])
   (.seq
    (.cond (.t 26)
     .skip
     (.exit 0))
    (.seq
     (.block 1
      (.seq
       (.reg [11, 10] [
         ⟨none, (some 27), .mov (.t 25), []⟩,
         ⟨none, (some 28), .idxA 12 (.t 23) (.t 25), []⟩,
         ⟨none, (some 29), .ld 12 true (.t 28), []⟩,
         ⟨none, (some 11), .zero true (zs 12 (.int .u16 0)), []⟩,
         ⟨none, (some 10), .mov (.t 27), []⟩,
         ⟨none, (some 11), .stV 11 none 12 (.t 29), []⟩])
       (.seq
        (.reg [32] [
          ⟨none, (some 30), .ldV 11 none 12 true, []⟩,
          ⟨none, (some 31), .call true 393 [.t 30], []⟩,
          ⟨none, (some 32), .bin .gtr (.t 31) (.c (.int .i64 0)), []⟩])
        (.cond (.t 32)
         (.reg [9] [
           ⟨none, (some 33), .mov (.t 9), []⟩,
           ⟨none, (some 34), .mov (.t 0), []⟩,
           ⟨none, (some 35), .mov (.t 10), []⟩,
           ⟨none, (some 36), .idxA 27 (.t 34) (.t 35), []⟩,
           ⟨none, (some 37), .ld 27 true (.t 36), []⟩,
           ⟨none, (some 38), .bldS 27 1 [.int .u16 0, .int .u16 0, .int .u16 0, .int .u16 0, .int .u16 0, .int .u16 0, .int .u16 0, .int .u16 0, .int .u16 0, .int .u16 0, .int .u16 0, .int .u16 0, .int .u16 0, .int .u16 0, .int .u16 0, .int .u16 0, .int .u16 0, .int .u16 0, .int .u16 0, .int .u16 0, .int .u16 0, .int .u16 0, .int .u16 0, .int .u16 0, .int .i8 0, .int .i8 0, .int .i8 0] [(0, 27, (.t 37))], []⟩,
           ⟨none, (some 39), .app 27 52 (.t 33) (.t 38), []⟩,
           ⟨none, (some 9), .mov (.t 39), []⟩])
         .skip))))
     (.reg [25] [
       ⟨none, (some 40), .bin .add (.t 25) (.c (.int .i64 1)), []⟩,
       ⟨none, (some 25), .mov (.t 40), []⟩]))))
def k192 : Cd :=
  (.seq
   (.reg [6, 7] [
     ⟨none, (some 6), .mov (.c (.slice none 0 0)), []⟩,
     ⟨none, (some 7), .mov (.c (.int .i64 0)), []⟩])
   (.seq
    (.seq
     (.reg [8] [
       ⟨none, (some 12), .mov (.t 0), []⟩,
       ⟨none, (some 13), .mov (.t 1), []⟩,
       ⟨none, (some 14), .mov (.t 2), []⟩,
       ⟨none, (some 15), .call true 329 [.t 12, .t 13, .t 14], []⟩,
       ⟨none, (some 8), .mov (.t 15), []⟩])
     (.seq
      (.reg [17] [
        ⟨none, (some 16), .mov (.t 8), []⟩,
        ⟨none, (some 17), .bin .neq (.t 16) (.c (.int .i64 0)), []⟩])
      (.cond (.t 17)
       (.seq
        (.reg [6, 7] [
          ⟨none, (some 18), .mov (.t 8), []⟩,
          ⟨none, (some 6), .mov (.c (.slice none 0 0)), []⟩,
          ⟨none, (some 7), .mov (.t 18), []⟩])
        .ret)
       .skip)))
    (.seq
     (.reg [9] [
       ⟨none, (some 19), .bldS 27 0 [.int .u16 0, .int .u16 0, .int .u16 0, .int .u16 0, .int .u16 0, .int .u16 0, .int .u16 0, .int .u16 0, .int .u16 0, .int .u16 0, .int .u16 0, .int .u16 0, .int .u16 0, .int .u16 0, .int .u16 0, .int .u16 0, .int .u16 0, .int .u16 0, .int .u16 0, .int .u16 0, .int .u16 0, .int .u16 0, .int .u16 0, .int .u16 0, .int .i8 0, .int .i8 0, .int .i8 0] [], []⟩,
       ⟨none, (some 9), .mov (.t 19), []⟩])
     (.seq
      (.seq
       (.reg [23, 24, 25] [
         ⟨none, (some 20), .mov (.t 0), []⟩,
         ⟨none, (some 21), .mov (.t 1), []⟩,
         ⟨none, (some 22), .mov (.t 2), []⟩,
         ⟨none, (some 23), .call true 412 [.t 20, .t 21, .t 22], []⟩,
         ⟨none, (some 24), .len (.t 23), []⟩,
         ⟨none, (some 25), .mov (.c (.int .i64 0)), []⟩])
       (.block 0
        (.loop b192_1)))
      (.seq
       (.reg [6, 7] [
         ⟨none, (some 41), .mov (.t 9), []⟩,
         ⟨none, (some 6), .mov (.t 41), []⟩,
         ⟨none, (some 7), .mov (.c (.int .i64 0)), []⟩])
       .ret)))))
def c192 : Fn := { np := 3, nt := 42, kind := .pure, res := [.t 6, .t 7], body := k192 }

/- laws.eqScene -/
def b193_1 : Cd :=
  (.seq
   (.seq
    (.reg [14] [
      ⟨none, (some 11), .mov (.t 5), []⟩,
      ⟨none, (some 12), .mov (.t 0), []⟩,
      ⟨none, (some 13), .len (.t 12), []⟩,
      ⟨none, (some 14), .bin .lss (.t 11) (.t 13), []⟩])
    (.cond (.t 14)
     .skip
     (.exit 0)))
   (.seq
    (.block 1
     (.seq
      (.reg [26] [
        ⟨none, (some 17), .mov (.t 0), []⟩,
        ⟨none, (some 18), .mov (.t 5), []⟩,
        ⟨none, (some 19), .idxA 27 (.t 17) (.t 18), []⟩,
        ⟨none, (some 20), .ld 27 true (.t 19), []⟩,
        ⟨none, (some 21), .mov (.t 1), []⟩,
        ⟨none, (some 22), .mov (.t 5), []⟩,
        ⟨none, (some 23), .idxA 27 (.t 21) (.t 22), []⟩,
        ⟨none, (some 24), .ld 27 true (.t 23), []⟩,
        ⟨none, (some 25), .call true 413 [.t 20, .t 24], []⟩,
        ⟨none, (some 26), .un .not (.t 25), []⟩])
      (.cond (.t 26)
       (.seq
        (.reg [4] [
          ⟨none, (some 4), .mov (.c (.bool false)), []⟩])
        .ret)
       .skip)))
    (.reg [5] [
      ⟨none, (some 15), .mov (.t 5), []⟩,
      ⟨none, (some 16), .bin .add (.t 15) (.c (.int .i64 1)), []⟩,
      ⟨none, (some 5), .mov (.t 16), []⟩])))
def k193 : Cd :=
  (.seq
   (.reg [4] [
     ⟨none, (some 4), .mov (.c (.bool false)), []⟩])
   (.seq
    (.seq
     (.reg [10] [
       ⟨none, (some 6), .mov (.t 0), []⟩,
       ⟨none, (some 7), .len (.t 6), []⟩,
       ⟨none, (some 8), .mov (.t 1), []⟩,
       ⟨none, (some 9), .len (.t 8), []⟩,
       ⟨none, (some 10), .bin .neq (.t 7) (.t 9), []⟩])
     (.cond (.t 10)
      (.seq
       (.reg [4] [
         ⟨none, (some 4), .mov (.c (.bool false)), []⟩])
       .ret)
      .skip))
    (.seq
     (.seq
      (.reg [5] [
        ⟨none, (some 5), .mov (.c (.int .i64 0)), []⟩])
      (.block 0
       (.loop b193_1)))
     (.seq
      (.reg [4] [
        ⟨none, (some 4), .mov (.c (.bool true)), []⟩])
      .ret))))
def c193 : Fn := { np := 2, nt := 27, kind := .pure, res := [.t 4], body := k193 }

/- laws.intactScene -/
def k194 : Cd :=
  (.seq
   (.reg [4] [
     ⟨none, (some 4), .mov (.c (.bool false)), []⟩])
   (.seq
    (.reg [5] [
      ⟨none, (some 6), .mov (.t 1), []⟩,
      ⟨none, (some 7), .len (.t 6), []⟩,
      ⟨none, (some 8), .mov (.t 1), []⟩,
      ⟨none, (some 9), .len (.t 8), []⟩,
      ⟨none, (some 10), .call true 296 [.t 9], []⟩,
      ⟨none, (some 11), .bin .add (.t 7) (.t 10), []⟩,
      ⟨none, (some 5), .mov (.t 11), []⟩])
    (.seq
     (.reg [4] [
       ⟨none, (some 12), .mov (.t 0), []⟩,
       ⟨none, (some 13), .len (.t 12), []⟩,
       ⟨none, (some 14), .mov (.t 1), []⟩,
       ⟨none, (some 15), .len (.t 14), []⟩,
       ⟨none, (some 16), .bin .eql (.t 13) (.t 15), []⟩,
       ⟨none, (some 17), .mov (.t 16), []⟩,
       ⟨(some (17, true)), (some 18), .mov (.t 0), []⟩,
       ⟨(some (17, true)), (some 19), .mov (.t 5), []⟩,
       ⟨(some (17, true)), (some 20), .slcA 27 (.t 18) none (some (.t 19)) none, []⟩,
       ⟨(some (17, true)), (some 21), .mov (.t 1), []⟩,
       ⟨(some (17, true)), (some 22), .mov (.t 5), []⟩,
       ⟨(some (17, true)), (some 23), .slcA 27 (.t 21) none (some (.t 22)) none, []⟩,
       ⟨(some (17, true)), (some 24), .call true 193 [.t 20, .t 23], []⟩,
       ⟨none, (some 25), .pick (.t 17) (.t 24) (.c (.bool false)), []⟩,
       ⟨none, (some 4), .mov (.t 25), []⟩])
     .ret)))
def c194 : Fn := { np := 2, nt := 26, kind := .pure, res := [.t 4], body := k194 }

/- laws.markScene -/
def b195_1 : Cd :=
  (.seq
   (.seq
    (.reg [15] [
      ⟨none, (some 14), .mov (.t 6), []⟩,
      ⟨none, (some 15), .bin .lss (.t 14) (.c (.int .i64 12)), []⟩])
    (.cond (.t 15)
     .skip
     (.exit 2)))
   (.seq
    (.block 3
     (.seq
      (.reg [] [
        ⟨none, (some 18), .mov (.t 0), []⟩,
        ⟨none, (some 19), .mov (.t 5), []⟩,
        ⟨none, (some 20), .mov (.t 6), []⟩,
        ⟨none, (some 21), .mov (.t 1), []⟩,
        ⟨none, (some 22), .conv .u16 (.t 21), []⟩,
        ⟨none, (some 23), .idxA 27 (.t 18) (.t 19), []⟩,
        ⟨none, (some 24), .fldP 0 (.t 23), []⟩,
        ⟨none, (some 25), .fldP 0 (.t 24), []⟩,
        ⟨none, (some 26), .idxP 12 1 (.t 25) (.t 20), []⟩,
        ⟨none, none, .st 1 (.t 26) (.t 22), []⟩])
      (.reg [1] [
        ⟨none, (some 27), .mov (.t 1), []⟩,
        ⟨none, (some 28), .bin .add (.t 27) (.c (.int .i64 1)), []⟩,
        ⟨none, (some 1), .mov (.t 28), []⟩])))
    (.reg [6] [
      ⟨none, (some 16), .mov (.t 6), []⟩,
      ⟨none, (some 17), .bin .add (.t 16) (.c (.int .i64 1)), []⟩,
      ⟨none, (some 6), .mov (.t 17), []⟩])))
def b195_2 : Cd :=
  (.seq
   (.seq
    (.reg [30] [
      ⟨none, (some 29), .mov (.t 7), []⟩,
      ⟨none, (some 30), .bin .lss (.t 29) (.c (.int .i64 12)), []⟩])
    (.cond (.t 30)
     .skip
     (.exit 4)))
   (.seq
    (.block 5
     (.seq
      (.reg [] [
        ⟨none, (some 33), .mov (.t 0), []⟩,
        ⟨none, (some 34), .mov (.t 5), []⟩,
        ⟨none, (some 35), .mov (.t 7), []⟩,
        ⟨none, (some 36), .mov (.t 1), []⟩,
        ⟨none, (some 37), .conv .u16 (.t 36), []⟩,
        ⟨none, (some 38), .idxA 27 (.t 33) (.t 34), []⟩,
        ⟨none, (some 39), .fldP 0 (.t 38), []⟩,
        ⟨none, (some 40), .fldP 12 (.t 39), []⟩,
        ⟨none, (some 41), .idxP 12 1 (.t 40) (.t 35), []⟩,
        ⟨none, none, .st 1 (.t 41) (.t 37), []⟩])
      (.reg [1] [
        ⟨none, (some 42), .mov (.t 1), []⟩,
        ⟨none, (some 43), .bin .add (.t 42) (.c (.int .i64 1)), []⟩,
        ⟨none, (some 1), .mov (.t 43), []⟩])))
    (.reg [7] [
      ⟨none, (some 31), .mov (.t 7), []⟩,
      ⟨none, (some 32), .bin .add (.t 31) (.c (.int .i64 1)), []⟩,
      ⟨none, (some 7), .mov (.t 32), []⟩])))
def b195_3 : Cd :=
  (.seq
   (.seq
    (.reg [11] [
      ⟨none, (some 8), .mov (.t 5), []⟩,
      ⟨none, (some 9), .mov (.t 0), []⟩,
      ⟨none, (some 10), .len (.t 9), []⟩,
      ⟨none, (some 11), .bin .lss (.t 8) (.t 10), []⟩])
    (.cond (.t 11)
     .skip
     (.exit 0)))
   (.seq
    (.block 1
     (.seq
      (.seq
       (.reg [6] [
         ⟨none, (some 6), .mov (.c (.int .i64 0)), []⟩])
       (.block 2
        (.loop b195_1)))
      (.seq
       (.seq
        (.reg [7] [
          ⟨none, (some 7), .mov (.c (.int .i64 0)), []⟩])
        (.block 4
         (.loop b195_2)))
       (.seq
        (.reg [] [
          ⟨none, (some 44), .mov (.t 0), []⟩,
          ⟨none, (some 45), .mov (.t 5), []⟩,
          ⟨none, (some 46), .mov (.t 1), []⟩,
          ⟨none, (some 47), .conv .i8 (.t 46), []⟩,
          ⟨none, (some 48), .idxA 27 (.t 44) (.t 45), []⟩,
          ⟨none, (some 49), .fldP 24 (.t 48), []⟩,
          ⟨none, none, .st 1 (.t 49) (.t 47), []⟩])
        (.seq
         (.reg [1] [
           ⟨none, (some 50), .mov (.t 1), []⟩,
           ⟨none, (some 51), .bin .add (.t 50) (.c (.int .i64 1)), []⟩,
           ⟨none, (some 1), .mov (.t 51), []⟩])
         (.seq
          (.reg [] [
            ⟨none, (some 52), .mov (.t 0), []⟩,
            ⟨none, (some 53), .mov (.t 5), []⟩,
            ⟨none, (some 54), .mov (.t 1), []⟩,
            ⟨none, (some 55), .conv .i8 (.t 54), []⟩,
            ⟨none, (some 56), .idxA 27 (.t 52) (.t 53), []⟩,
            ⟨none, (some 57), .fldP 25 (.t 56), []⟩,
            ⟨none, none, .st 1 (.t 57) (.t 55), []⟩])
          (.seq
           (.reg [1] [
             ⟨none, (some 58), .mov (.t 1), []⟩,
             ⟨none, (some 59), .bin .add (.t 58) (.c (.int .i64 1)), []⟩,
             ⟨none, (some 1), .mov (.t 59), []⟩])
           (.seq
            (.reg [] [
              ⟨none, (some 60), .mov (.t 0), []⟩,
              ⟨none, (some 61), .mov (.t 5), []⟩,
              ⟨none, (some 62), .mov (.t 1), []⟩,
              ⟨none, (some 63), .conv .i8 (.t 62), []⟩,
              ⟨none, (some 64), .idxA 27 (.t 60) (.t 61), []⟩,
              ⟨none, (some 65), .fldP 26 (.t 64), []⟩,
              ⟨none, none, .st 1 (.t 65) (.t 63), []⟩])
            (.reg [1] [
              ⟨none, (some 66), .mov (.t 1), []⟩,
              ⟨none, (some 67), .bin .add (.t 66) (.c (.int .i64 1)), []⟩,
              ⟨none, (some 1), .mov (.t 67), []⟩])))))))))
    (.reg [5] [
      ⟨none, (some 12), .mov (.t 5), []⟩,
      ⟨none, (some 13), .bin .add (.t 12) (.c (.int .i64 1)), []⟩,
      ⟨none, (some 5), .mov (.t 13), []⟩])))
def k195 : Cd :=
  (.seq
   (.reg [4] [
     ⟨none, (some 4), .mov (.c (.int .i64 0)), []⟩])
   (.seq
    (.seq
     (.reg [5] [
       ⟨none, (some 5), .mov (.c (.int .i64 0)), []⟩])
     (.block 0
      (.loop b195_3)))
    (.seq
     (.reg [4] [
       ⟨none, (some 68), .mov (.t 1), []⟩,
       ⟨none, (some 4), .mov (.t 68), []⟩])
     .ret)))
def c195 : Fn := { np := 2, nt := 69, kind := .args, res := [.t 4], body := k195 }

/- laws.heldScene -/
def b196_1 : Cd :=
  (.seq
   (.seq
    (.reg [15] [
      ⟨none, (some 14), .mov (.t 6), []⟩,
      ⟨none, (some 15), .bin .lss (.t 14) (.c (.int .i64 12)), []⟩])
    (.cond (.t 15)
     .skip
     (.exit 2)))
   (.seq
    (.block 3
     (.seq
      (.seq
       (.reg [28] [
         ⟨none, (some 18), .mov (.t 0), []⟩,
         ⟨none, (some 19), .mov (.t 5), []⟩,
         ⟨none, (some 20), .mov (.t 6), []⟩,
         ⟨none, (some 21), .idxA 27 (.t 18) (.t 19), []⟩,
         ⟨none, (some 22), .fldP 0 (.t 21), []⟩,
         ⟨none, (some 23), .fldP 0 (.t 22), []⟩,
         ⟨none, (some 24), .idxP 12 1 (.t 23) (.t 20), []⟩,
         ⟨none, (some 25), .ld 1 false (.t 24), []⟩,
         ⟨none, (some 26), .mov (.t 1), []⟩,
         ⟨none, (some 27), .conv .u16 (.t 26), []⟩,
         ⟨none, (some 28), .bin .neq (.t 25) (.t 27), []⟩])
       (.cond (.t 28)
        (.seq
         (.reg [4] [
           ⟨none, (some 4), .mov (.c (.int .i64 (-1))), []⟩])
         .ret)
        .skip))
      (.reg [1] [
        ⟨none, (some 29), .mov (.t 1), []⟩,
        ⟨none, (some 30), .bin .add (.t 29) (.c (.int .i64 1)), []⟩,
        ⟨none, (some 1), .mov (.t 30), []⟩])))
    (.reg [6] [
      ⟨none, (some 16), .mov (.t 6), []⟩,
      ⟨none, (some 17), .bin .add (.t 16) (.c (.int .i64 1)), []⟩,
      ⟨none, (some 6), .mov (.t 17), []⟩])))
def b196_2 : Cd :=
  (.seq
   (.seq
    (.reg [32] [
      ⟨none, (some 31), .mov (.t 7), []⟩,
      ⟨none, (some 32), .bin .lss (.t 31) (.c (.int .i64 12)), []⟩])
    (.cond (.t 32)
     .skip
     (.exit 4)))
   (.seq
    (.block 5
     (.seq
      (.seq
       (.reg [45] [
         ⟨none, (some 35), .mov (.t 0), []⟩,
         ⟨none, (some 36), .mov (.t 5), []⟩,
         ⟨none, (some 37), .mov (.t 7), []⟩,
         ⟨none, (some 38), .idxA 27 (.t 35) (.t 36), []⟩,
         ⟨none, (some 39), .fldP 0 (.t 38), []⟩,
         ⟨none, (some 40), .fldP 12 (.t 39), []⟩,
         ⟨none, (some 41), .idxP 12 1 (.t 40) (.t 37), []⟩,
         ⟨none, (some 42), .ld 1 false (.t 41), []⟩,
         ⟨none, (some 43), .mov (.t 1), []⟩,
         ⟨none, (some 44), .conv .u16 (.t 43), []⟩,
         ⟨none, (some 45), .bin .neq (.t 42) (.t 44), []⟩])
       (.cond (.t 45)
        (.seq
         (.reg [4] [
           ⟨none, (some 4), .mov (.c (.int .i64 (-1))), []⟩])
         .ret)
        .skip))
      (.reg [1] [
        ⟨none, (some 46), .mov (.t 1), []⟩,
        ⟨none, (some 47), .bin .add (.t 46) (.c (.int .i64 1)), []⟩,
        ⟨none, (some 1), .mov (.t 47), []⟩])))
    (.reg [7] [
      ⟨none, (some 33), .mov (.t 7), []⟩,
      ⟨none, (some 34), .bin .add (.t 33) (.c (.int .i64 1)), []⟩,
      ⟨none, (some 7), .mov (.t 34), []⟩])))
def b196_3 : Cd :=
  (.seq
   (.seq
    (.reg [11] [
      ⟨none, (some 8), .mov (.t 5), []⟩,
      ⟨none, (some 9), .mov (.t 0), []⟩,
      ⟨none, (some 10), .len (.t 9), []⟩,
      ⟨none, (some 11), .bin .lss (.t 8) (.t 10), []⟩])
    (.cond (.t 11)
     .skip
     (.exit 0)))
   (.seq
    (.block 1
     (.seq
      (.seq
       (.reg [6] [
         ⟨none, (some 6), .mov (.c (.int .i64 0)), []⟩])
       (.block 2
        (.loop b196_1)))
      (.seq
       (.seq
        (.reg [7] [
          ⟨none, (some 7), .mov (.c (.int .i64 0)), []⟩])
        (.block 4
         (.loop b196_2)))
       (.seq
        (.seq
         (.reg [55] [
           ⟨none, (some 48), .mov (.t 0), []⟩,
           ⟨none, (some 49), .mov (.t 5), []⟩,
           ⟨none, (some 50), .idxA 27 (.t 48) (.t 49), []⟩,
           ⟨none, (some 51), .fldP 24 (.t 50), []⟩,
           ⟨none, (some 52), .ld 1 false (.t 51), []⟩,
           ⟨none, (some 53), .mov (.t 1), []⟩,
           ⟨none, (some 54), .conv .i8 (.t 53), []⟩,
           ⟨none, (some 55), .bin .neq (.t 52) (.t 54), []⟩])
         (.cond (.t 55)
          (.seq
           (.reg [4] [
             ⟨none, (some 4), .mov (.c (.int .i64 (-1))), []⟩])
           .ret)
          .skip))
        (.seq
         (.reg [1] [
           ⟨none, (some 56), .mov (.t 1), []⟩,
           ⟨none, (some 57), .bin .add (.t 56) (.c (.int .i64 1)), []⟩,
           ⟨none, (some 1), .mov (.t 57), []⟩])
         (.seq
          (.seq
           (.reg [65] [
             ⟨none, (some 58), .mov (.t 0), []⟩,
             ⟨none, (some 59), .mov (.t 5), []⟩,
             ⟨none, (some 60), .idxA 27 (.t 58) (.t 59), []⟩,
             ⟨none, (some 61), .fldP 25 (.t 60), []⟩,
             ⟨none, (some 62), .ld 1 false (.t 61), []⟩,
             ⟨none, (some 63), .mov (.t 1), []⟩,
             ⟨none, (some 64), .conv .i8 (.t 63), []⟩,
             ⟨none, (some 65), .bin .neq (.t 62) (.t 64), []⟩])
           (.cond (.t 65)
            (.seq
             (.reg [4] [
               ⟨none, (some 4), .mov (.c (.int .i64 (-1))), []⟩])
             .ret)
            .skip))
          (.seq
           (.reg [1] [
             ⟨none, (some 66), .mov (.t 1), []⟩,
             ⟨none, (some 67), .bin .add (.t 66) (.c (.int .i64 1)), []⟩,
             ⟨none, (some 1), .mov (.t 67), []⟩])
           (.seq
            (.seq
             (.reg [75] [
               ⟨none, (some 68), .mov (.t 0), []⟩,
               ⟨none, (some 69), .mov (.t 5), []⟩,
               ⟨none, (some 70), .idxA 27 (.t 68) (.t 69), []⟩,
               ⟨none, (some 71), .fldP 26 (.t 70), []⟩,
               ⟨none, (some 72), .ld 1 false (.t 71), []⟩,
               ⟨none, (some 73), .mov (.t 1), []⟩,
               ⟨none, (some 74), .conv .i8 (.t 73), []⟩,
               ⟨none, (some 75), .bin .neq (.t 72) (.t 74), []⟩])
             (.cond (.t 75)
              (.seq
               (.reg [4] [
                 ⟨none, (some 4), .mov (.c (.int .i64 (-1))), []⟩])
               .ret)
              .skip))
            (.reg [1] [
              ⟨none, (some 76), .mov (.t 1), []⟩,
              ⟨none, (some 77), .bin .add (.t 76) (.c (.int .i64 1)), []⟩,
              ⟨none, (some 1), .mov (.t 77), []⟩])))))))))
    (.reg [5] [
      ⟨none, (some 12), .mov (.t 5), []⟩,
      ⟨none, (some 13), .bin .add (.t 12) (.c (.int .i64 1)), []⟩,
      ⟨none, (some 5), .mov (.t 13), []⟩])))
def k196 : Cd :=
  (.seq
   (.reg [4] [
     ⟨none, (some 4), .mov (.c (.int .i64 0)), []⟩])
   (.seq
    (.seq
     (.reg [5] [
       ⟨none, (some 5), .mov (.c (.int .i64 0)), []⟩])
     (.block 0
      (.loop b196_3)))
    (.seq
     (.reg [4] [
       ⟨none, (some 78), .mov (.t 1), []⟩,
       ⟨none, (some 4), .mov (.t 78), []⟩])
     .ret)))
def c196 : Fn := { np := 2, nt := 79, kind := .pure, res := [.t 4], body := k196 }

/- impl.ValidFrame -/
def k234 : Cd :=
  (.seq
   (.reg [1, 2] [
     ⟨none, (some 1), .box 12 (.t 0), []⟩,
     ⟨none, (some 2), .mov (.c (.bool false)), []⟩])
   (.seq
    (.reg [2] [
      ⟨none, (some 3), .slcP 12 1 (.t 1), []⟩,
      ⟨none, (some 4), .call true 445 [.t 3, .f 446], []⟩,
      ⟨none, (some 5), .un .not (.t 4), []⟩,
      ⟨none, (some 2), .mov (.t 5), []⟩])
    .ret))
def c234 : Fn := { np := 1, nt := 6, kind := .pure, res := [.t 2], body := k234 }

/- impl.ValidScene -/
def k281 : Cd :=
  (.seq
   (.reg [2] [
     ⟨none, (some 2), .mov (.c (.bool false)), []⟩])
   (.seq
    (.reg [2] [
      ⟨none, (some 3), .mov (.t 0), []⟩,
      ⟨none, (some 4), .len (.t 3), []⟩,
      ⟨none, (some 5), .bin .leq (.t 4) (.c (.int .i64 8)), []⟩,
      ⟨none, (some 6), .mov (.t 5), []⟩,
      ⟨(some (6, true)), (some 7), .mov (.t 0), []⟩,
      ⟨(some (6, true)), (some 8), .call true 471 [.t 7, .f 472], []⟩,
      ⟨(some (6, true)), (some 9), .un .not (.t 8), []⟩,
      ⟨none, (some 10), .pick (.t 6) (.t 9) (.c (.bool false)), []⟩,
      ⟨none, (some 2), .mov (.t 10), []⟩])
    .ret))
def c281 : Fn := { np := 1, nt := 11, kind := .pure, res := [.t 2], body := k281 }

/- impl.inRange -/
def k295 : Cd :=
  (.seq
   (.reg [6] [
     ⟨none, (some 6), .mov (.c (.bool false)), []⟩])
   (.seq
    (.reg [6] [
      ⟨none, (some 7), .mov (.t 1), []⟩,
      ⟨none, (some 8), .mov (.t 0), []⟩,
      ⟨none, (some 9), .bin .leq (.t 7) (.t 8), []⟩,
      ⟨none, (some 10), .mov (.t 9), []⟩,
      ⟨(some (10, true)), (some 11), .mov (.t 0), []⟩,
      ⟨(some (10, true)), (some 12), .mov (.t 2), []⟩,
      ⟨(some (10, true)), (some 13), .bin .leq (.t 11) (.t 12), []⟩,
      ⟨none, (some 14), .pick (.t 10) (.t 13) (.c (.bool false)), []⟩,
      ⟨none, (some 6), .mov (.t 14), []⟩])
    .ret))
def c295 : Fn := { np := 3, nt := 15, kind := .pure, res := [.t 6], body := k295 }

/- laws.roomBehind -/
def k296 : Cd :=
  (.seq
   (.reg [2] [
     ⟨none, (some 2), .mov (.c (.int .i64 0)), []⟩])
   (.seq
    (.seq
     (.reg [5] [
       ⟨none, (some 3), .mov (.t 0), []⟩,
       ⟨none, (some 4), .bin .rem (.t 3) (.c (.int .i64 6)), []⟩,
       ⟨none, (some 5), .bin .eql (.t 4) (.c (.int .i64 5)), []⟩])
     (.cond (.t 5)
      (.seq
       (.reg [2] [
         ⟨none, (some 2), .mov (.c (.int .i64 0)), []⟩])
       .ret)
      .skip))
    (.seq
     (.seq
      (.reg [8] [
        ⟨none, (some 6), .mov (.t 0), []⟩,
        ⟨none, (some 7), .bin .rem (.t 6) (.c (.int .i64 3)), []⟩,
        ⟨none, (some 8), .bin .eql (.t 7) (.c (.int .i64 0)), []⟩])
      (.cond (.t 8)
       (.seq
        (.reg [2] [
          ⟨none, (some 2), .mov (.c (.int .i64 1)), []⟩])
        .ret)
       .skip))
     (.seq
      (.reg [2] [
        ⟨none, (some 9), .mov (.t 0), []⟩,
        ⟨none, (some 2), .mov (.t 9), []⟩])
      .ret))))
def c296 : Fn := { np := 1, nt := 10, kind := .pure, res := [.t 2], body := k296 }

/- spec.l00In -/
def k304 : Cd :=
  (.seq
   (.reg [6] [
     ⟨none, (some 6), .mov (.c (.bool false)), []⟩])
   (.seq
    (.reg [6] [
      ⟨none, (some 7), .mov (.t 0), []⟩,
      ⟨none, (some 8), .mov (.t 1), []⟩,
      ⟨none, (some 9), .bin .geq (.t 7) (.t 8), []⟩,
      ⟨none, (some 10), .mov (.t 9), []⟩,
      ⟨(some (10, true)), (some 11), .mov (.t 0), []⟩,
      ⟨(some (10, true)), (some 12), .mov (.t 2), []⟩,
      ⟨(some (10, true)), (some 13), .bin .leq (.t 11) (.t 12), []⟩,
      ⟨none, (some 14), .pick (.t 10) (.t 13) (.c (.bool false)), []⟩,
      ⟨none, (some 6), .mov (.t 14), []⟩])
    .ret))
def c304 : Fn := { np := 3, nt := 15, kind := .pure, res := [.t 6], body := k304 }

/- spec.l01Put -/
def k305 : Cd :=
  (.seq
   (.reg [8] [
     ⟨none, (some 6), .mov (.t 1), []⟩,
     ⟨none, (some 7), .mov (.t 2), []⟩,
     ⟨none, (some 8), .call true 342 [.t 6, .t 7], []⟩])
   (.cond (.t 8)
    (.reg [] [
      ⟨none, (some 9), .mov (.t 0), []⟩,
      ⟨none, (some 10), .mov (.t 2), []⟩,
      ⟨none, (some 11), .mov (.t 0), []⟩,
      ⟨none, (some 12), .mov (.t 2), []⟩,
      ⟨none, (some 13), .nil (.t 11), []⟩,
      ⟨none, (some 14), .idxP 12 1 (.t 13) (.t 12), []⟩,
      ⟨none, (some 15), .ld 1 false (.t 14), []⟩,
      ⟨none, (some 16), .mov (.t 1), []⟩,
      ⟨none, (some 17), .conv .u64 (.t 16), []⟩,
      ⟨none, (some 18), .bin .shl (.c (.int .u16 1)) (.t 17), []⟩,
      ⟨none, (some 19), .bin .or (.t 15) (.t 18), []⟩,
      ⟨none, (some 20), .nil (.t 9), []⟩,
      ⟨none, (some 21), .idxP 12 1 (.t 20) (.t 10), []⟩,
      ⟨none, none, .st 1 (.t 21) (.t 19), []⟩])
    .skip))
def c305 : Fn := { np := 3, nt := 22, kind := .args, res := [], body := k305 }

/- impl.checkCamera -/
def k329 : Cd :=
  (.seq
   (.reg [6] [
     ⟨none, (some 6), .mov (.c (.int .i64 0)), []⟩])
   (.seq
    (.block 0
     (.seq
      (.reg [7] [
        ⟨none, (some 8), .mov (.t 0), []⟩,
        ⟨none, (some 9), .call true 281 [.t 8], []⟩,
        ⟨none, (some 10), .un .not (.t 9), []⟩,
        ⟨none, (some 7), .mov (.t 10), []⟩])
      (.cond (.t 7)
       (.seq
        (.reg [6] [
          ⟨none, (some 6), .mov (.c (.int .i64 1)), []⟩])
        .ret)
       (.seq
        (.reg [11] [
          ⟨none, (some 12), .mov (.t 1), []⟩,
          ⟨none, (some 13), .mov (.t 2), []⟩,
          ⟨none, (some 14), .call true 416 [.t 12, .t 13], []⟩,
          ⟨none, (some 15), .un .not (.t 14), []⟩,
          ⟨none, (some 11), .mov (.t 15), []⟩])
        (.cond (.t 11)
         (.seq
          (.reg [6] [
            ⟨none, (some 6), .mov (.c (.int .i64 2)), []⟩])
          .ret)
         .skip)))))
    (.seq
     (.reg [6] [
       ⟨none, (some 6), .mov (.c (.int .i64 0)), []⟩])
     .ret)))
def c329 : Fn := { np := 3, nt := 16, kind := .pure, res := [.t 6], body := k329 }

/- spec.l05Camera -/
def k331 : Cd :=
  (.seq
   (.reg [6] [
     ⟨none, (some 6), .mov (.c (.int .i64 0)), []⟩])
   (.seq
    (.seq
     (.reg [9] [
       ⟨none, (some 7), .mov (.t 0), []⟩,
       ⟨none, (some 8), .call true 498 [.t 7], []⟩,
       ⟨none, (some 9), .un .not (.t 8), []⟩])
     (.cond (.t 9)
      (.seq
       (.reg [6] [
         ⟨none, (some 6), .mov (.c (.int .i64 1)), []⟩])
       .ret)
      .skip))
    (.seq
     (.seq
      (.reg [17] [
        ⟨none, (some 10), .mov (.t 1), []⟩,
        ⟨none, (some 11), .call true 304 [.t 10, .c (.int .i64 (-100)), .c (.int .i64 100)], []⟩,
        ⟨none, (some 12), .un .not (.t 11), []⟩,
        ⟨none, (some 13), .mov (.t 12), []⟩,
        ⟨(some (13, false)), (some 14), .mov (.t 2), []⟩,
        ⟨(some (13, false)), (some 15), .call true 304 [.t 14, .c (.int .i64 (-100)), .c (.int .i64 100)], []⟩,
        ⟨(some (13, false)), (some 16), .un .not (.t 15), []⟩,
        ⟨none, (some 17), .pick (.t 13) (.c (.bool true)) (.t 16), []⟩])
      (.cond (.t 17)
       (.seq
        (.reg [6] [
          ⟨none, (some 6), .mov (.c (.int .i64 2)), []⟩])
        .ret)
       .skip))
     (.seq
      (.reg [6] [
        ⟨none, (some 6), .mov (.c (.int .i64 0)), []⟩])
      .ret))))
def c331 : Fn := { np := 3, nt := 18, kind := .pure, res := [.t 6], body := k331 }

/- impl.ValidCel -/
def k333 : Cd :=
  (.seq
   (.reg [1, 2] [
     ⟨none, (some 1), .mov (.t 0), []⟩,
     ⟨none, (some 2), .mov (.c (.bool false)), []⟩])
   (.seq
    (.reg [2] [
      ⟨none, (some 3), .adrF 1 none 0, []⟩,
      ⟨none, (some 4), .ldV 1 (some 3) 12 true, []⟩,
      ⟨none, (some 5), .adrF 1 none 12, []⟩,
      ⟨none, (some 6), .ldV 1 (some 5) 12 true, []⟩,
      ⟨none, (some 7), .bldS 12 2 (zs 12 (.int .u16 0)) [(0, 12, (.t 4)), (12, 12, (.t 6))], []⟩,
      ⟨none, (some 8), .call true 351 [.t 7], []⟩,
      ⟨none, (some 9), .mov (.t 8), []⟩,
      ⟨(some (9, true)), (some 10), .adrF 1 none 0, []⟩,
      ⟨(some (9, true)), (some 11), .ldV 1 (some 10) 12 true, []⟩,
      ⟨(some (9, true)), (some 12), .adrF 1 none 12, []⟩,
      ⟨(some (9, true)), (some 13), .ldV 1 (some 12) 12 true, []⟩,
      ⟨(some (9, true)), (some 14), .call true 350 [.t 11, .t 13], []⟩,
      ⟨(some (9, true)), (some 15), .agg (zs 12 (.int .u16 0)) [], []⟩,
      ⟨(some (9, true)), (some 16), .eq (.a (rb 12 (some .u16))) false (.t 14) (.t 15), []⟩,
      ⟨none, (some 17), .pick (.t 9) (.t 16) (.c (.bool false)), []⟩,
      ⟨none, (some 2), .mov (.t 17), []⟩])
    .ret))
def c333 : Fn := { np := 1, nt := 18, kind := .pure, res := [.t 2], body := k333 }

/- (impl.Layer).offset -/
def k335 : Cd :=
  (.seq
   (.reg [3, 6, 7] [
     ⟨none, (some 3), .mov (.t 0), []⟩,
     ⟨none, (some 6), .mov (.c (.int .i64 0)), []⟩,
     ⟨none, (some 7), .mov (.c (.int .i64 0)), []⟩])
   (.seq
    (.reg [6, 7] [
      ⟨none, (some 8), .adrF 3 none 24, []⟩,
      ⟨none, (some 9), .ldV 3 (some 8) 1 false, []⟩,
      ⟨none, (some 10), .conv .i64 (.t 9), []⟩,
      ⟨none, (some 11), .mov (.t 1), []⟩,
      ⟨none, (some 12), .adrF 3 none 26, []⟩,
      ⟨none, (some 13), .ldV 3 (some 12) 1 false, []⟩,
      ⟨none, (some 14), .conv .i64 (.t 13), []⟩,
      ⟨none, (some 17), .adrF 3 none 25, []⟩,
      ⟨none, (some 18), .ldV 3 (some 17) 1 false, []⟩,
      ⟨none, (some 19), .conv .i64 (.t 18), []⟩,
      ⟨none, (some 20), .mov (.t 2), []⟩,
      ⟨none, (some 21), .adrF 3 none 26, []⟩,
      ⟨none, (some 22), .ldV 3 (some 21) 1 false, []⟩,
      ⟨none, (some 23), .conv .i64 (.t 22), []⟩,
      ⟨none, (some 15), .call true 501 [.t 11, .t 14], []⟩,
      ⟨none, (some 16), .bin .sub (.t 10) (.t 15), []⟩,
      ⟨none, (some 24), .call true 501 [.t 20, .t 23], []⟩,
      ⟨none, (some 25), .bin .sub (.t 19) (.t 24), []⟩,
      ⟨none, (some 6), .mov (.t 16), []⟩,
      ⟨none, (some 7), .mov (.t 25), []⟩])
    .ret))
def c335 : Fn := { np := 3, nt := 26, kind := .pure, res := [.t 6, .t 7], body := k335 }

/- (impl.Cel).moved -/
def k336 : Cd :=
  (.seq
   (.reg [3, 6] [
     ⟨none, (some 3), .mov (.t 0), []⟩,
     ⟨none, (some 6), .zero true (zs 24 (.int .u16 0)), []⟩])
   (.seq
    (.reg [6] [
      ⟨none, (some 7), .adrF 3 none 0, []⟩,
      ⟨none, (some 8), .ldV 3 (some 7) 12 true, []⟩,
      ⟨none, (some 9), .mov (.t 1), []⟩,
      ⟨none, (some 10), .mov (.t 2), []⟩,
      ⟨none, (some 12), .adrF 3 none 12, []⟩,
      ⟨none, (some 13), .ldV 3 (some 12) 12 true, []⟩,
      ⟨none, (some 14), .mov (.t 1), []⟩,
      ⟨none, (some 15), .mov (.t 2), []⟩,
      ⟨none, (some 11), .call true 358 [.t 8, .t 9, .t 10], []⟩,
      ⟨none, (some 16), .call true 358 [.t 13, .t 14, .t 15], []⟩,
      ⟨none, (some 17), .agg (zs 24 (.int .u16 0)) [(0, 12, (.t 11)), (12, 12, (.t 16))], []⟩,
      ⟨none, (some 6), .stV 6 none 24 (.t 17), []⟩])
    .ret))
def c336 : Fn := { np := 3, nt := 18, kind := .pure, res := [.v 6 24 true], body := k336 }

/- spec.l01Join -/
def b337_1 : Cd :=
  (.seq
   (.seq
    (.reg [9] [
      ⟨none, (some 8), .mov (.t 6), []⟩,
      ⟨none, (some 9), .bin .lss (.t 8) (.c (.int .i64 12)), []⟩])
    (.cond (.t 9)
     .skip
     (.exit 0)))
   (.seq
    (.block 1
     (.reg [5] [
       ⟨none, (some 12), .mov (.t 6), []⟩,
       ⟨none, (some 13), .mov (.t 0), []⟩,
       ⟨none, (some 14), .mov (.t 6), []⟩,
       ⟨none, (some 15), .nil (.t 13), []⟩,
       ⟨none, (some 16), .idxP 12 1 (.t 15) (.t 14), []⟩,
       ⟨none, (some 17), .ld 1 false (.t 16), []⟩,
       ⟨none, (some 18), .mov (.t 1), []⟩,
       ⟨none, (some 19), .mov (.t 6), []⟩,
       ⟨none, (some 20), .nil (.t 18), []⟩,
       ⟨none, (some 21), .idxP 12 1 (.t 20) (.t 19), []⟩,
       ⟨none, (some 22), .ld 1 false (.t 21), []⟩,
       ⟨none, (some 23), .bin .or (.t 17) (.t 22), []⟩,
       ⟨none, (some 24), .adrI 5 none 12 1 (.t 12), []⟩,
       ⟨none, (some 5), .stV 5 (some 24) 1 (.t 23), []⟩]))
    (.reg [6] [
      ⟨none, (some 10), .mov (.t 6), []⟩,
      ⟨none, (some 11), .bin .add (.t 10) (.c (.int .i64 1)), []⟩,
      ⟨none, (some 6), .mov (.t 11), []⟩])))
def k337 : Cd :=
  (.seq
   (.reg [4] [
     ⟨none, (some 4), .zero true (zs 12 (.int .u16 0)), []⟩])
   (.seq
    (.reg [5] [
      ⟨none, (some 7), .agg (zs 12 (.int .u16 0)) [], []⟩,
      ⟨none, (some 5), .zero true (zs 12 (.int .u16 0)), []⟩,
      ⟨none, (some 5), .stV 5 none 12 (.t 7), []⟩])
    (.seq
     (.seq
      (.reg [6] [
        ⟨none, (some 6), .mov (.c (.int .i64 0)), []⟩])
      (.block 0
       (.loop b337_1)))
     (.seq
      (.reg [4] [
        ⟨none, (some 25), .ldV 5 none 12 true, []⟩,
        ⟨none, (some 4), .stV 4 none 12 (.t 25), []⟩])
      .ret))))
def c337 : Fn := { np := 2, nt := 26, kind := .pure, res := [.v 4 12 true], body := k337 }

/- (impl.Frame).join -/
def k338 : Cd :=
  (.seq
   (.reg [2, 3, 4] [
     ⟨none, (some 2), .mov (.t 0), []⟩,
     ⟨none, (some 3), .mov (.t 1), []⟩,
     ⟨none, (some 4), .zero true (zs 12 (.int .u16 0)), []⟩])
   (.seq
    (.reg [4] [
      ⟨none, (some 5), .ldV 2 none 12 true, []⟩,
      ⟨none, (some 6), .ldV 3 none 12 true, []⟩,
      ⟨none, (some 7), .call true 443 [.t 5, .t 6, .f 502], []⟩,
      ⟨none, (some 4), .stV 4 none 12 (.t 7), []⟩])
    .ret))
def c338 : Fn := { np := 2, nt := 8, kind := .pure, res := [.v 4 12 true], body := k338 }

/- spec.l01Place -/
def k342 : Cd :=
  (.seq
   (.reg [4] [
     ⟨none, (some 4), .mov (.c (.bool false)), []⟩])
   (.seq
    (.reg [4] [
      ⟨none, (some 5), .mov (.t 0), []⟩,
      ⟨none, (some 6), .call true 304 [.t 5, .c (.int .i64 0), .c (.int .i64 11)], []⟩,
      ⟨none, (some 7), .mov (.t 6), []⟩,
      ⟨(some (7, true)), (some 8), .mov (.t 1), []⟩,
      ⟨(some (7, true)), (some 9), .call true 304 [.t 8, .c (.int .i64 0), .c (.int .i64 11)], []⟩,
      ⟨none, (some 10), .pick (.t 7) (.t 9) (.c (.bool false)), []⟩,
      ⟨none, (some 4), .mov (.t 10), []⟩])
    .ret))
def c342 : Fn := { np := 2, nt := 11, kind := .pure, res := [.t 4], body := k342 }

/- spec.l01Less -/
def b349_1 : Cd :=
  (.seq
   (.seq
    (.reg [9] [
      ⟨none, (some 8), .mov (.t 6), []⟩,
      ⟨none, (some 9), .bin .lss (.t 8) (.c (.int .i64 12)), []⟩])
    (.cond (.t 9)
     .skip
     (.exit 0)))
   (.seq
    (.block 1
     (.reg [5] [
       ⟨none, (some 12), .mov (.t 6), []⟩,
       ⟨none, (some 13), .mov (.t 0), []⟩,
       ⟨none, (some 14), .mov (.t 6), []⟩,
       ⟨none, (some 15), .nil (.t 13), []⟩,
       ⟨none, (some 16), .idxP 12 1 (.t 15) (.t 14), []⟩,
       ⟨none, (some 17), .ld 1 false (.t 16), []⟩,
       ⟨none, (some 18), .mov (.t 1), []⟩,
       ⟨none, (some 19), .mov (.t 6), []⟩,
       ⟨none, (some 20), .nil (.t 18), []⟩,
       ⟨none, (some 21), .idxP 12 1 (.t 20) (.t 19), []⟩,
       ⟨none, (some 22), .ld 1 false (.t 21), []⟩,
       ⟨none, (some 23), .bin .andNot (.t 17) (.t 22), []⟩,
       ⟨none, (some 24), .adrI 5 none 12 1 (.t 12), []⟩,
       ⟨none, (some 5), .stV 5 (some 24) 1 (.t 23), []⟩]))
    (.reg [6] [
      ⟨none, (some 10), .mov (.t 6), []⟩,
      ⟨none, (some 11), .bin .add (.t 10) (.c (.int .i64 1)), []⟩,
      ⟨none, (some 6), .mov (.t 11), []⟩])))
def k349 : Cd :=
  (.seq
   (.reg [4] [
     ⟨none, (some 4), .zero true (zs 12 (.int .u16 0)), []⟩])
   (.seq
    (.reg [5] [
      ⟨none, (some 7), .agg (zs 12 (.int .u16 0)) [], []⟩,
      ⟨none, (some 5), .zero true (zs 12 (.int .u16 0)), []⟩,
      ⟨none, (some 5), .stV 5 none 12 (.t 7), []⟩])
    (.seq
     (.seq
      (.reg [6] [
        ⟨none, (some 6), .mov (.c (.int .i64 0)), []⟩])
      (.block 0
       (.loop b349_1)))
     (.seq
      (.reg [4] [
        ⟨none, (some 25), .ldV 5 none 12 true, []⟩,
        ⟨none, (some 4), .stV 4 none 12 (.t 25), []⟩])
      .ret))))
def c349 : Fn := { np := 2, nt := 26, kind := .pure, res := [.v 4 12 true], body := k349 }

/- (impl.Frame).less -/
def k350 : Cd :=
  (.seq
   (.reg [2, 3, 4] [
     ⟨none, (some 2), .mov (.t 0), []⟩,
     ⟨none, (some 3), .mov (.t 1), []⟩,
     ⟨none, (some 4), .zero true (zs 12 (.int .u16 0)), []⟩])
   (.seq
    (.reg [4] [
      ⟨none, (some 5), .ldV 2 none 12 true, []⟩,
      ⟨none, (some 6), .ldV 3 none 12 true, []⟩,
      ⟨none, (some 7), .call true 443 [.t 5, .t 6, .f 504], []⟩,
      ⟨none, (some 4), .stV 4 none 12 (.t 7), []⟩])
    .ret))
def c350 : Fn := { np := 2, nt := 8, kind := .pure, res := [.v 4 12 true], body := k350 }

/- impl.areFrames -/
def k351 : Cd :=
  (.seq
   (.reg [2] [
     ⟨none, (some 2), .mov (.c (.bool false)), []⟩])
   (.seq
    (.reg [2] [
      ⟨none, (some 3), .mov (.t 0), []⟩,
      ⟨none, (some 4), .call true 505 [.t 3, .f 506], []⟩,
      ⟨none, (some 5), .un .not (.t 4), []⟩,
      ⟨none, (some 2), .mov (.t 5), []⟩])
    .ret))
def c351 : Fn := { np := 1, nt := 6, kind := .pure, res := [.t 2], body := k351 }

/- spec.l01Moved -/
def b355_1 : Cd :=
  (.seq
   (.seq
    (.reg [16] [
      ⟨none, (some 13), .mov (.t 9), []⟩,
      ⟨none, (some 14), .mov (.t 8), []⟩,
      ⟨none, (some 15), .len (.t 14), []⟩,
      ⟨none, (some 16), .bin .lss (.t 13) (.t 15), []⟩])
    (.cond (.t 16)
     .skip
     (.exit 0)))
   (.seq
    (.block 1
     (.reg [] [
       ⟨none, (some 19), .mov (.t 8), []⟩,
       ⟨none, (some 20), .mov (.t 9), []⟩,
       ⟨none, (some 21), .idxA 2 (.t 19) (.t 20), []⟩,
       ⟨none, (some 22), .fldP 0 (.t 21), []⟩,
       ⟨none, (some 23), .ld 1 false (.t 22), []⟩,
       ⟨none, (some 24), .conv .i64 (.t 23), []⟩,
       ⟨none, (some 25), .mov (.t 1), []⟩,
       ⟨none, (some 26), .bin .add (.t 24) (.t 25), []⟩,
       ⟨none, (some 27), .mov (.t 8), []⟩,
       ⟨none, (some 28), .mov (.t 9), []⟩,
       ⟨none, (some 29), .idxA 2 (.t 27) (.t 28), []⟩,
       ⟨none, (some 30), .fldP 1 (.t 29), []⟩,
       ⟨none, (some 31), .ld 1 false (.t 30), []⟩,
       ⟨none, (some 32), .conv .i64 (.t 31), []⟩,
       ⟨none, (some 33), .mov (.t 2), []⟩,
       ⟨none, (some 34), .bin .add (.t 32) (.t 33), []⟩,
       ⟨none, (some 35), .call false 305 [.t 7, .t 26, .t 34], []⟩]))
    (.reg [9] [
      ⟨none, (some 17), .mov (.t 9), []⟩,
      ⟨none, (some 18), .bin .add (.t 17) (.c (.int .i64 1)), []⟩,
      ⟨none, (some 9), .mov (.t 18), []⟩])))
def k355 : Cd :=
  (.seq
   (.reg [6] [
     ⟨none, (some 6), .zero true (zs 12 (.int .u16 0)), []⟩])
   (.seq
    (.reg [7] [
      ⟨none, (some 10), .agg (zs 12 (.int .u16 0)) [], []⟩,
      ⟨none, (some 7), .new 1 (zs 12 (.int .u16 0)), []⟩,
      ⟨none, none, .st 12 (.t 7) (.t 10), []⟩])
    (.seq
     (.reg [8] [
       ⟨none, (some 11), .mov (.t 0), []⟩,
       ⟨none, (some 12), .call true 440 [.t 11], []⟩,
       ⟨none, (some 8), .mov (.t 12), []⟩])
     (.seq
      (.seq
       (.reg [9] [
         ⟨none, (some 9), .mov (.c (.int .i64 0)), []⟩])
       (.block 0
        (.loop b355_1)))
      (.seq
       (.reg [6] [
         ⟨none, (some 36), .ld 12 true (.t 7), []⟩,
         ⟨none, (some 6), .stV 6 none 12 (.t 36), []⟩])
       .ret)))))
def c355 : Fn := { np := 3, nt := 37, kind := .pure, res := [.v 6 12 true], body := k355 }

/- (impl.Frame).moved -/
def b358_1 : Cd :=
  (.seq
   (.reg [16] [
     ⟨none, (some 16), .bin .lss (.t 15) (.c (.int .i64 12)), []⟩])
   (.seq
    (.cond (.t 16)
     .skip
     (.exit 0))
    (.seq
     (.block 1
      (.seq
       (.reg [8] [
         ⟨none, (some 17), .mov (.t 15), []⟩,
         ⟨none, (some 8), .mov (.t 17), []⟩])
       (.seq
        (.reg [9] [
          ⟨none, (some 18), .mov (.t 8), []⟩,
          ⟨none, (some 19), .mov (.t 2), []⟩,
          ⟨none, (some 20), .bin .sub (.t 18) (.t 19), []⟩,
          ⟨none, (some 9), .mov (.t 20), []⟩])
        (.seq
         (.seq
          (.reg [23] [
            ⟨none, (some 21), .mov (.t 9), []⟩,
            ⟨none, (some 22), .call true 295 [.t 21, .c (.int .i64 0), .c (.int .i64 11)], []⟩,
            ⟨none, (some 23), .un .not (.t 22), []⟩])
          (.cond (.t 23)
           (.exit 1)
           .skip))
         (.seq
          (.reg [25] [
            ⟨none, (some 24), .mov (.t 1), []⟩,
            ⟨none, (some 25), .bin .geq (.t 24) (.c (.int .i64 0)), []⟩])
          (.cond (.t 25)
           (.reg [7] [
             ⟨none, (some 26), .mov (.t 8), []⟩,
             ⟨none, (some 27), .mov (.t 9), []⟩,
             ⟨none, (some 28), .adrI 3 none 12 1 (.t 27), []⟩,
             ⟨none, (some 29), .ldV 3 (some 28) 1 false, []⟩,
             ⟨none, (some 30), .mov (.t 1), []⟩,
             ⟨none, (some 31), .bin .shl (.t 29) (.t 30), []⟩,
             ⟨none, (some 32), .bin .and (.t 31) (.c (.int .u16 4095)), []⟩,
             ⟨none, (some 33), .adrI 7 none 12 1 (.t 26), []⟩,
             ⟨none, (some 7), .stV 7 (some 33) 1 (.t 32), []⟩])
           (.reg [7] [
             ⟨none, (some 34), .mov (.t 8), []⟩,
             ⟨none, (some 35), .mov (.t 9), []⟩,
             ⟨none, (some 36), .adrI 3 none 12 1 (.t 35), []⟩,
             ⟨none, (some 37), .ldV 3 (some 36) 1 false, []⟩,
             ⟨none, (some 38), .mov (.t 1), []⟩,
             ⟨none, (some 39), .un .neg (.t 38), []⟩,
             ⟨none, (some 40), .bin .shr (.t 37) (.t 39), []⟩,
             ⟨none, (some 41), .adrI 7 none 12 1 (.t 34), []⟩,
             ⟨none, (some 7), .stV 7 (some 41) 1 (.t 40), []⟩])))))))
     (.reg [15] [
       ⟨none, (some 42), .bin .add (.t 15) (.c (.int .i64 1)), []⟩,
       ⟨none, (some 15), .mov (.t 42), []⟩]))))
def k358 : Cd :=
  (.seq
   (.reg [3, 6] [
     ⟨none, (some 3), .mov (.t 0), []⟩,
     ⟨none, (some 6), .zero true (zs 12 (.int .u16 0)), []⟩])
   (.seq
    (.reg [7] [
      ⟨none, (some 10), .agg (zs 12 (.int .u16 0)) [], []⟩,
      ⟨none, (some 7), .zero true (zs 12 (.int .u16 0)), []⟩,
      ⟨none, (some 7), .stV 7 none 12 (.t 10), []⟩])
    (.seq
     (.seq
      (.reg [13] [
        ⟨none, (some 11), .mov (.t 1), []⟩,
        ⟨none, (some 12), .call true 295 [.t 11, .c (.int .i64 (-12)), .c (.int .i64 12)], []⟩,
        ⟨none, (some 13), .un .not (.t 12), []⟩])
      (.cond (.t 13)
       (.seq
        (.reg [6] [
          ⟨none, (some 14), .ldV 7 none 12 true, []⟩,
          ⟨none, (some 6), .stV 6 none 12 (.t 14), []⟩])
        .ret)
       .skip))
     (.seq
      (.seq
       (.reg [15] [
         ⟨none, (some 15), .mov (.c (.int .i64 0)), []⟩])
       (.block 0
        (.loop b358_1)))
      (.seq
       (.reg [6] [
         ⟨none, (some 43), .ldV 7 none 12 true, []⟩,
         ⟨none, (some 6), .stV 6 none 12 (.t 43), []⟩])
       .ret)))))
def c358 : Fn := { np := 3, nt := 44, kind := .pure, res := [.v 6 12 true], body := k358 }

/- spec.l01Ok -/
def b359_1 : Cd :=
  (.seq
   (.seq
    (.reg [5] [
      ⟨none, (some 4), .mov (.t 3), []⟩,
      ⟨none, (some 5), .bin .lss (.t 4) (.c (.int .i64 12)), []⟩])
    (.cond (.t 5)
     .skip
     (.exit 0)))
   (.seq
    (.block 1
     (.seq
      (.reg [13] [
        ⟨none, (some 8), .mov (.t 0), []⟩,
        ⟨none, (some 9), .mov (.t 3), []⟩,
        ⟨none, (some 10), .nil (.t 8), []⟩,
        ⟨none, (some 11), .idxP 12 1 (.t 10) (.t 9), []⟩,
        ⟨none, (some 12), .ld 1 false (.t 11), []⟩,
        ⟨none, (some 13), .bin .gtr (.t 12) (.c (.int .u16 4095)), []⟩])
      (.cond (.t 13)
       (.seq
        (.reg [2] [
          ⟨none, (some 2), .mov (.c (.bool false)), []⟩])
        .ret)
       .skip)))
    (.reg [3] [
      ⟨none, (some 6), .mov (.t 3), []⟩,
      ⟨none, (some 7), .bin .add (.t 6) (.c (.int .i64 1)), []⟩,
      ⟨none, (some 3), .mov (.t 7), []⟩])))
def k359 : Cd :=
  (.seq
   (.reg [2] [
     ⟨none, (some 2), .mov (.c (.bool false)), []⟩])
   (.seq
    (.seq
     (.reg [3] [
       ⟨none, (some 3), .mov (.c (.int .i64 0)), []⟩])
     (.block 0
      (.loop b359_1)))
    (.seq
     (.reg [2] [
       ⟨none, (some 2), .mov (.c (.bool true)), []⟩])
     .ret)))
def c359 : Fn := { np := 1, nt := 14, kind := .pure, res := [.t 2], body := k359 }

/- (impl.Frame).count -/
def b393_1 : Cd :=
  (.seq
   (.reg [8] [
     ⟨none, (some 8), .bin .lss (.t 7) (.c (.int .i64 12)), []⟩])
   (.seq
    (.cond (.t 8)
     .skip
     (.exit 0))
    (.seq
     (.block 1
      (.seq
       (.reg [5] [
         ⟨none, (some 9), .idx 12 1 false (.t 6) (.t 7), []⟩,
         ⟨none, (some 5), .mov (.t 9), []⟩])
       (.reg [3] [
         ⟨none, (some 10), .mov (.t 3), []⟩,
         ⟨none, (some 11), .mov (.t 5), []⟩,
         ⟨none, (some 12), .call true 530 [.t 11], []⟩,
         ⟨none, (some 13), .bin .add (.t 10) (.t 12), []⟩,
         ⟨none, (some 3), .mov (.t 13), []⟩])))
     (.reg [7] [
       ⟨none, (some 14), .bin .add (.t 7) (.c (.int .i64 1)), []⟩,
       ⟨none, (some 7), .mov (.t 14), []⟩]))))
def k393 : Cd :=
  (.seq
   (.reg [1, 2] [
     ⟨none, (some 1), .mov (.t 0), []⟩,
     ⟨none, (some 2), .mov (.c (.int .i64 0)), []⟩])
   (.seq
    (.reg [3] [
      ⟨none, (some 3), .mov (.c (.int .i64 0)), []⟩])
    (.seq
     (.seq
      (.reg [6, 7] [
        ⟨none, (some 6), .ldV 1 none 12 true, []⟩,
        ⟨none, (some 7), .mov (.c (.int .i64 0)), []⟩])
      (.block 0
       (.loop b393_1)))
     (.seq
      (.reg [2] [
        ⟨none, (some 15), .mov (.t 3), []⟩,
        ⟨none, (some 2), .mov (.t 15), []⟩])
      .ret))))
def c393 : Fn := { np := 1, nt := 16, kind := .pure, res := [.t 2], body := k393 }

/- spec.l05Seen -/
def b408_1 : Cd :=
  (.seq
   (.seq
    (.reg [18] [
      ⟨none, (some 15), .mov (.t 9), []⟩,
      ⟨none, (some 16), .mov (.t 0), []⟩,
      ⟨none, (some 17), .len (.t 16), []⟩,
      ⟨none, (some 18), .bin .lss (.t 15) (.t 17), []⟩])
    (.cond (.t 18)
     .skip
     (.exit 0)))
   (.seq
    (.block 1
     (.seq
      (.reg [10, 11] [
        ⟨none, (some 22), .mov (.t 0), []⟩,
        ⟨none, (some 23), .mov (.t 9), []⟩,
        ⟨none, (some 24), .idxA 27 (.t 22) (.t 23), []⟩,
        ⟨none, (some 25), .mov (.t 1), []⟩,
        ⟨none, (some 26), .mov (.t 2), []⟩,
        ⟨none, (some 27), .call true 499 [.t 24, .t 25, .t 26], []⟩,
        ⟨none, (some 21), .mov (.t 27), []⟩,
        ⟨none, (some 28), .ext (.t 21) 0, []⟩,
        ⟨none, (some 29), .ext (.t 21) 1, []⟩,
        ⟨none, (some 10), .mov (.t 28), []⟩,
        ⟨none, (some 11), .mov (.t 29), []⟩])
      (.seq
       (.reg [12] [
         ⟨none, (some 30), .mov (.t 0), []⟩,
         ⟨none, (some 31), .mov (.t 9), []⟩,
         ⟨none, (some 32), .idxA 27 (.t 30) (.t 31), []⟩,
         ⟨none, (some 33), .fldP 0 (.t 32), []⟩,
         ⟨none, (some 34), .fldP 12 (.t 33), []⟩,
         ⟨none, (some 35), .mov (.t 10), []⟩,
         ⟨none, (some 36), .mov (.t 11), []⟩,
         ⟨none, (some 37), .call true 355 [.t 34, .t 35, .t 36], []⟩,
         ⟨none, (some 12), .new 1 (zs 12 (.int .u16 0)), []⟩,
         ⟨none, none, .st 12 (.t 12) (.t 37), []⟩])
       (.seq
        (.reg [7] [
          ⟨none, (some 38), .mov (.t 7), []⟩,
          ⟨none, (some 39), .call true 349 [.t 12, .t 8], []⟩,
          ⟨none, (some 40), .bldS 12 1 (zs 12 (.int .u16 0)) [(0, 12, (.t 39))], []⟩,
          ⟨none, (some 41), .app 12 24 (.t 38) (.t 40), []⟩,
          ⟨none, (some 7), .mov (.t 41), []⟩])
        (.reg [] [
          ⟨none, (some 42), .call true 337 [.t 8, .t 12], []⟩,
          ⟨none, none, .st 12 (.t 8) (.t 42), []⟩])))))
    (.reg [9] [
      ⟨none, (some 19), .mov (.t 9), []⟩,
      ⟨none, (some 20), .bin .add (.t 19) (.c (.int .i64 1)), []⟩,
      ⟨none, (some 9), .mov (.t 20), []⟩])))
def k408 : Cd :=
  (.seq
   (.reg [6] [
     ⟨none, (some 6), .mov (.c (.slice none 0 0)), []⟩])
   (.seq
    (.reg [7] [
      ⟨none, (some 13), .bldS 12 0 (zs 12 (.int .u16 0)) [], []⟩,
      ⟨none, (some 7), .mov (.t 13), []⟩])
    (.seq
     (.reg [8] [
       ⟨none, (some 14), .agg (zs 12 (.int .u16 0)) [], []⟩,
       ⟨none, (some 8), .new 1 (zs 12 (.int .u16 0)), []⟩,
       ⟨none, none, .st 12 (.t 8) (.t 14), []⟩])
     (.seq
      (.seq
       (.reg [9] [
         ⟨none, (some 9), .mov (.c (.int .i64 0)), []⟩])
       (.block 0
        (.loop b408_1)))
      (.seq
       (.reg [6] [
         ⟨none, (some 43), .mov (.t 7), []⟩,
         ⟨none, (some 6), .mov (.t 43), []⟩])
       .ret)))))
def c408 : Fn := { np := 3, nt := 44, kind := .pure, res := [.t 6], body := k408 }

/- spec.l01Count -/
def k409 : Cd :=
  (.seq
   (.reg [2] [
     ⟨none, (some 2), .mov (.c (.int .i64 0)), []⟩])
   (.seq
    (.reg [2] [
      ⟨none, (some 3), .mov (.t 0), []⟩,
      ⟨none, (some 4), .call true 440 [.t 3], []⟩,
      ⟨none, (some 5), .len (.t 4), []⟩,
      ⟨none, (some 2), .mov (.t 5), []⟩])
    .ret))
def c409 : Fn := { np := 1, nt := 6, kind := .pure, res := [.t 2], body := k409 }

/- laws.toLayer -/
def k410 : Cd :=
  (.seq
   (.reg [1, 2] [
     ⟨none, (some 1), .mov (.t 0), []⟩,
     ⟨none, (some 2), .zero true [.int .u16 0, .int .u16 0, .int .u16 0, .int .u16 0, .int .u16 0, .int .u16 0, .int .u16 0, .int .u16 0, .int .u16 0, .int .u16 0, .int .u16 0, .int .u16 0, .int .u16 0, .int .u16 0, .int .u16 0, .int .u16 0, .int .u16 0, .int .u16 0, .int .u16 0, .int .u16 0, .int .u16 0, .int .u16 0, .int .u16 0, .int .u16 0, .int .i8 0, .int .i8 0, .int .i8 0], []⟩])
   (.seq
    (.reg [3] [
      ⟨none, (some 3), .zero true [.int .u16 0, .int .u16 0, .int .u16 0, .int .u16 0, .int .u16 0, .int .u16 0, .int .u16 0, .int .u16 0, .int .u16 0, .int .u16 0, .int .u16 0, .int .u16 0, .int .u16 0, .int .u16 0, .int .u16 0, .int .u16 0, .int .u16 0, .int .u16 0, .int .u16 0, .int .u16 0, .int .u16 0, .int .u16 0, .int .u16 0, .int .u16 0, .int .i8 0, .int .i8 0, .int .i8 0], []⟩])
    (.seq
     (.reg [3] [
       ⟨none, (some 4), .adrF 1 none 0, []⟩,
       ⟨none, (some 5), .ldV 1 (some 4) 24 true, []⟩,
       ⟨none, (some 6), .call true 533 [.t 5], []⟩,
       ⟨none, (some 7), .adrF 3 none 0, []⟩,
       ⟨none, (some 3), .stV 3 (some 7) 24 (.t 6), []⟩])
     (.seq
      (.reg [3] [
        ⟨none, (some 8), .adrF 1 none 24, []⟩,
        ⟨none, (some 9), .ldV 1 (some 8) 1 false, []⟩,
        ⟨none, (some 10), .adrF 3 none 24, []⟩,
        ⟨none, (some 3), .stV 3 (some 10) 1 (.t 9), []⟩])
      (.seq
       (.reg [3] [
         ⟨none, (some 11), .adrF 1 none 25, []⟩,
         ⟨none, (some 12), .ldV 1 (some 11) 1 false, []⟩,
         ⟨none, (some 13), .adrF 3 none 25, []⟩,
         ⟨none, (some 3), .stV 3 (some 13) 1 (.t 12), []⟩])
       (.seq
        (.reg [3] [
          ⟨none, (some 14), .adrF 1 none 26, []⟩,
          ⟨none, (some 15), .ldV 1 (some 14) 1 false, []⟩,
          ⟨none, (some 16), .adrF 3 none 26, []⟩,
          ⟨none, (some 3), .stV 3 (some 16) 1 (.t 15), []⟩])
        (.seq
         (.reg [2] [
           ⟨none, (some 17), .ldV 3 none 27 true, []⟩,
           ⟨none, (some 2), .stV 2 none 27 (.t 17), []⟩])
         .ret)))))))
def c410 : Fn := { np := 1, nt := 18, kind := .pure, res := [.v 2 27 true], body := k410 }

/- laws.fillerLayer -/
def k411 : Cd :=
  (.seq
   (.reg [0] [
     ⟨none, (some 0), .zero true [.int .u16 0, .int .u16 0, .int .u16 0, .int .u16 0, .int .u16 0, .int .u16 0, .int .u16 0, .int .u16 0, .int .u16 0, .int .u16 0, .int .u16 0, .int .u16 0, .int .u16 0, .int .u16 0, .int .u16 0, .int .u16 0, .int .u16 0, .int .u16 0, .int .u16 0, .int .u16 0, .int .u16 0, .int .u16 0, .int .u16 0, .int .u16 0, .int .i8 0, .int .i8 0, .int .i8 0], []⟩])
   (.seq
    (.reg [0] [
      ⟨none, (some 1), .call true 534 [], []⟩,
      ⟨none, (some 2), .agg [.int .u16 0, .int .u16 0, .int .u16 0, .int .u16 0, .int .u16 0, .int .u16 0, .int .u16 0, .int .u16 0, .int .u16 0, .int .u16 0, .int .u16 0, .int .u16 0, .int .u16 0, .int .u16 0, .int .u16 0, .int .u16 0, .int .u16 0, .int .u16 0, .int .u16 0, .int .u16 0, .int .u16 0, .int .u16 0, .int .u16 0, .int .u16 0, .int .i8 0, .int .i8 0, .int .i8 0] [(0, 24, (.t 1)), (24, 1, (.c (.int .i8 (-101)))), (25, 1, (.c (.int .i8 (-101)))), (26, 1, (.c (.int .i8 (-101))))], []⟩,
      ⟨none, (some 0), .stV 0 none 27 (.t 2), []⟩])
    .ret))
def c411 : Fn := { np := 0, nt := 3, kind := .pure, res := [.v 0 27 true], body := k411 }

/- (impl.Scene).seen -/
def b412_1 : Cd :=
  (.seq
   (.reg [17] [
     ⟨none, (some 17), .bin .lss (.t 16) (.t 15), []⟩])
   (.seq
    (.cond (.t 17)
     .skip
     (.exit 0))
    (.seq
     (.block 1
      (.seq
       (.reg [10] [
         ⟨none, (some 18), .idxA 27 (.t 14) (.t 16), []⟩,
         ⟨none, (some 19), .ld 27 true (.t 18), []⟩,
         ⟨none, (some 10), .zero true [.int .u16 0, .int .u16 0, .int .u16 0, .int .u16 0, .int .u16 0, .int .u16 0, .int .u16 0, .int .u16 0, .int .u16 0, .int .u16 0, .int .u16 0, .int .u16 0, .int .u16 0, .int .u16 0, .int .u16 0, .int .u16 0, .int .u16 0, .int .u16 0, .int .u16 0, .int .u16 0, .int .u16 0, .int .u16 0, .int .u16 0, .int .u16 0, .int .i8 0, .int .i8 0, .int .i8 0], []⟩,
         ⟨none, (some 10), .stV 10 none 27 (.t 19), []⟩])
       (.seq
        (.reg [11] [
          ⟨none, (some 20), .adrF 10 none 0, []⟩,
          ⟨none, (some 21), .ldV 10 (some 20) 24 true, []⟩,
          ⟨none, (some 22), .ldV 10 none 27 true, []⟩,
          ⟨none, (some 23), .mov (.t 1), []⟩,
          ⟨none, (some 24), .mov (.t 2), []⟩,
          ⟨none, (some 11), .zero true (zs 12 (.int .u16 0)), []⟩,
          ⟨none, (some 25), .call true 335 [.t 22, .t 23, .t 24], []⟩,
          ⟨none, (some 26), .ext (.t 25) 0, []⟩,
          ⟨none, (some 27), .ext (.t 25) 1, []⟩,
          ⟨none, (some 28), .call true 336 [.t 21, .t 26, .t 27], []⟩,
          ⟨none, (some 29), .fld 12 12 true (.t 28), []⟩,
          ⟨none, (some 11), .stV 11 none 12 (.t 29), []⟩])
        (.seq
         (.reg [7] [
           ⟨none, (some 30), .mov (.t 7), []⟩,
           ⟨none, (some 31), .ldV 11 none 12 true, []⟩,
           ⟨none, (some 32), .ldV 8 none 12 true, []⟩,
           ⟨none, (some 33), .call true 350 [.t 31, .t 32], []⟩,
           ⟨none, (some 34), .bldS 12 1 (zs 12 (.int .u16 0)) [(0, 12, (.t 33))], []⟩,
           ⟨none, (some 35), .app 12 24 (.t 30) (.t 34), []⟩,
           ⟨none, (some 7), .mov (.t 35), []⟩])
         (.reg [8] [
           ⟨none, (some 36), .ldV 8 none 12 true, []⟩,
           ⟨none, (some 37), .ldV 11 none 12 true, []⟩,
           ⟨none, (some 38), .call true 338 [.t 36, .t 37], []⟩,
           ⟨none, (some 8), .stV 8 none 12 (.t 38), []⟩])))))
     (.reg [16] [
       ⟨none, (some 39), .bin .add (.t 16) (.c (.int .i64 1)), []⟩,
       ⟨none, (some 16), .mov (.t 39), []⟩]))))
def k412 : Cd :=
  (.seq
   (.reg [6] [
     ⟨none, (some 6), .mov (.c (.slice none 0 0)), []⟩])
   (.seq
    (.reg [8, 7] [
      ⟨none, (some 12), .bldS 12 0 (zs 12 (.int .u16 0)) [], []⟩,
      ⟨none, (some 13), .agg (zs 12 (.int .u16 0)) [], []⟩,
      ⟨none, (some 8), .zero true (zs 12 (.int .u16 0)), []⟩,
      ⟨none, (some 7), .mov (.t 12), []⟩,
      ⟨none, (some 8), .stV 8 none 12 (.t 13), []⟩])
    (.seq
     (.seq
      (.reg [14, 15, 16] [
        ⟨none, (some 14), .mov (.t 0), []⟩,
        ⟨none, (some 15), .len (.t 14), []⟩,
        ⟨none, (some 16), .mov (.c (.int .i64 0)), []⟩])
      (.block 0
       (.loop b412_1)))
     (.seq
      (.reg [6] [
        ⟨none, (some 40), .mov (.t 7), []⟩,
        ⟨none, (some 6), .mov (.t 40), []⟩])
      .ret))))
def c412 : Fn := { np := 3, nt := 41, kind := .pure, res := [.t 6], body := k412 }

/- laws.eqLayer -/
def k413 : Cd :=
  (.seq
   (.reg [2, 3, 4] [
     ⟨none, (some 2), .mov (.t 0), []⟩,
     ⟨none, (some 3), .mov (.t 1), []⟩,
     ⟨none, (some 4), .mov (.c (.bool false)), []⟩])
   (.seq
    (.seq
     (.reg [10] [
       ⟨none, (some 5), .adrF 2 none 0, []⟩,
       ⟨none, (some 6), .ldV 2 (some 5) 24 true, []⟩,
       ⟨none, (some 7), .adrF 3 none 0, []⟩,
       ⟨none, (some 8), .ldV 3 (some 7) 24 true, []⟩,
       ⟨none, (some 9), .call true 535 [.t 6, .t 8], []⟩,
       ⟨none, (some 10), .un .not (.t 9), []⟩])
     (.cond (.t 10)
      (.seq
       (.reg [4] [
         ⟨none, (some 4), .mov (.c (.bool false)), []⟩])
       .ret)
      .skip))
    (.seq
     (.seq
      (.reg [15] [
        ⟨none, (some 11), .adrF 2 none 24, []⟩,
        ⟨none, (some 12), .ldV 2 (some 11) 1 false, []⟩,
        ⟨none, (some 13), .adrF 3 none 24, []⟩,
        ⟨none, (some 14), .ldV 3 (some 13) 1 false, []⟩,
        ⟨none, (some 15), .bin .neq (.t 12) (.t 14), []⟩])
      (.cond (.t 15)
       (.seq
        (.reg [4] [
          ⟨none, (some 4), .mov (.c (.bool false)), []⟩])
        .ret)
       .skip))
     (.seq
      (.seq
       (.reg [20] [
         ⟨none, (some 16), .adrF 2 none 25, []⟩,
         ⟨none, (some 17), .ldV 2 (some 16) 1 false, []⟩,
         ⟨none, (some 18), .adrF 3 none 25, []⟩,
         ⟨none, (some 19), .ldV 3 (some 18) 1 false, []⟩,
         ⟨none, (some 20), .bin .neq (.t 17) (.t 19), []⟩])
       (.cond (.t 20)
        (.seq
         (.reg [4] [
           ⟨none, (some 4), .mov (.c (.bool false)), []⟩])
         .ret)
        .skip))
      (.seq
       (.seq
        (.reg [25] [
          ⟨none, (some 21), .adrF 2 none 26, []⟩,
          ⟨none, (some 22), .ldV 2 (some 21) 1 false, []⟩,
          ⟨none, (some 23), .adrF 3 none 26, []⟩,
          ⟨none, (some 24), .ldV 3 (some 23) 1 false, []⟩,
          ⟨none, (some 25), .bin .neq (.t 22) (.t 24), []⟩])
        (.cond (.t 25)
         (.seq
          (.reg [4] [
            ⟨none, (some 4), .mov (.c (.bool false)), []⟩])
          .ret)
         .skip))
       (.seq
        (.reg [4] [
          ⟨none, (some 4), .mov (.c (.bool true)), []⟩])
        .ret))))))
def c413 : Fn := { np := 2, nt := 26, kind := .pure, res := [.t 4], body := k413 }

/- impl.isCamera -/
def k416 : Cd :=
  (.seq
   (.reg [4] [
     ⟨none, (some 4), .mov (.c (.bool false)), []⟩])
   (.seq
    (.reg [4] [
      ⟨none, (some 5), .mov (.t 0), []⟩,
      ⟨none, (some 6), .call true 295 [.t 5, .c (.int .i64 (-100)), .c (.int .i64 100)], []⟩,
      ⟨none, (some 7), .mov (.t 6), []⟩,
      ⟨(some (7, true)), (some 8), .mov (.t 1), []⟩,
      ⟨(some (7, true)), (some 9), .call true 295 [.t 8, .c (.int .i64 (-100)), .c (.int .i64 100)], []⟩,
      ⟨none, (some 10), .pick (.t 7) (.t 9) (.c (.bool false)), []⟩,
      ⟨none, (some 4), .mov (.t 10), []⟩])
    .ret))
def c416 : Fn := { np := 2, nt := 11, kind := .pure, res := [.t 4], body := k416 }

/- spec.l01Dots -/
def b440_1 : Cd :=
  (.seq
   (.seq
    (.reg [12] [
      ⟨none, (some 11), .mov (.t 5), []⟩,
      ⟨none, (some 12), .bin .lss (.t 11) (.c (.int .i64 12)), []⟩])
    (.cond (.t 12)
     .skip
     (.exit 2)))
   (.seq
    (.block 3
     (.seq
      (.reg [18] [
        ⟨none, (some 15), .mov (.t 0), []⟩,
        ⟨none, (some 16), .mov (.t 5), []⟩,
        ⟨none, (some 17), .mov (.t 4), []⟩,
        ⟨none, (some 18), .call true 456 [.t 15, .t 16, .t 17], []⟩])
      (.cond (.t 18)
       (.reg [3] [
         ⟨none, (some 19), .mov (.t 3), []⟩,
         ⟨none, (some 20), .mov (.t 5), []⟩,
         ⟨none, (some 21), .conv .i8 (.t 20), []⟩,
         ⟨none, (some 22), .mov (.t 4), []⟩,
         ⟨none, (some 23), .conv .i8 (.t 22), []⟩,
         ⟨none, (some 24), .agg [.int .i8 0, .int .i8 0] [(0, 1, (.t 21)), (1, 1, (.t 23))], []⟩,
         ⟨none, (some 25), .bldS 2 1 [.int .i8 0, .int .i8 0] [(0, 2, (.t 24))], []⟩,
         ⟨none, (some 26), .app 2 2 (.t 19) (.t 25), []⟩,
         ⟨none, (some 3), .mov (.t 26), []⟩])
       .skip)))
    (.reg [5] [
      ⟨none, (some 13), .mov (.t 5), []⟩,
      ⟨none, (some 14), .bin .add (.t 13) (.c (.int .i64 1)), []⟩,
      ⟨none, (some 5), .mov (.t 14), []⟩])))
def b440_2 : Cd :=
  (.seq
   (.seq
    (.reg [8] [
      ⟨none, (some 7), .mov (.t 4), []⟩,
      ⟨none, (some 8), .bin .lss (.t 7) (.c (.int .i64 12)), []⟩])
    (.cond (.t 8)
     .skip
     (.exit 0)))
   (.seq
    (.block 1
     (.seq
      (.reg [5] [
        ⟨none, (some 5), .mov (.c (.int .i64 0)), []⟩])
      (.block 2
       (.loop b440_1))))
    (.reg [4] [
      ⟨none, (some 9), .mov (.t 4), []⟩,
      ⟨none, (some 10), .bin .add (.t 9) (.c (.int .i64 1)), []⟩,
      ⟨none, (some 4), .mov (.t 10), []⟩])))
def k440 : Cd :=
  (.seq
   (.reg [2] [
     ⟨none, (some 2), .mov (.c (.slice none 0 0)), []⟩])
   (.seq
    (.reg [3] [
      ⟨none, (some 6), .bldS 2 0 [.int .i8 0, .int .i8 0] [], []⟩,
      ⟨none, (some 3), .mov (.t 6), []⟩])
    (.seq
     (.seq
      (.reg [4] [
        ⟨none, (some 4), .mov (.c (.int .i64 0)), []⟩])
      (.block 0
       (.loop b440_2)))
     (.seq
      (.reg [2] [
        ⟨none, (some 27), .mov (.t 3), []⟩,
        ⟨none, (some 2), .mov (.t 27), []⟩])
      .ret))))
def c440 : Fn := { np := 1, nt := 28, kind := .pure, res := [.t 2], body := k440 }

/- (impl.Frame).mix -/
def b443_1 : Cd :=
  (.seq
   (.reg [11] [
     ⟨none, (some 11), .bin .lss (.t 10) (.c (.int .i64 12)), []⟩])
   (.seq
    (.cond (.t 11)
     .skip
     (.exit 0))
    (.seq
     (.block 1
      (.seq
       (.reg [7, 8] [
         ⟨none, (some 12), .mov (.t 10), []⟩,
         ⟨none, (some 13), .idx 12 1 false (.t 9) (.t 10), []⟩,
         ⟨none, (some 7), .mov (.t 12), []⟩,
         ⟨none, (some 8), .mov (.t 13), []⟩])
       (.reg [3] [
         ⟨none, (some 14), .mov (.t 7), []⟩,
         ⟨none, (some 15), .mov (.t 2), []⟩,
         ⟨none, (some 16), .mov (.t 8), []⟩,
         ⟨none, (some 17), .mov (.t 7), []⟩,
         ⟨none, (some 18), .adrI 4 none 12 1 (.t 17), []⟩,
         ⟨none, (some 19), .ldV 4 (some 18) 1 false, []⟩,
         ⟨none, (some 20), .callv (.t 15) [.t 16, .t 19], []⟩,
         ⟨none, (some 21), .adrI 3 none 12 1 (.t 14), []⟩,
         ⟨none, (some 3), .stV 3 (some 21) 1 (.t 20), []⟩])))
     (.reg [10] [
       ⟨none, (some 22), .bin .add (.t 10) (.c (.int .i64 1)), []⟩,
       ⟨none, (some 10), .mov (.t 22), []⟩]))))
def k443 : Cd :=
  (.seq
   (.reg [3, 4, 6] [
     ⟨none, (some 3), .mov (.t 0), []⟩,
     ⟨none, (some 4), .mov (.t 1), []⟩,
     ⟨none, (some 6), .zero true (zs 12 (.int .u16 0)), []⟩])
   (.seq
    (.seq
     (.reg [9, 10] [
       ⟨none, (some 9), .ldV 3 none 12 true, []⟩,
       ⟨none, (some 10), .mov (.c (.int .i64 0)), []⟩])
     (.block 0
      (.loop b443_1)))
    (.seq
     (.reg [6] [
       ⟨none, (some 23), .ldV 3 none 12 true, []⟩,
       ⟨none, (some 6), .stV 6 none 12 (.t 23), []⟩])
     .ret)))
def c443 : Fn := { np := 3, nt := 24, kind := .pure, res := [.v 6 12 true], body := k443 }

/- slices.ContainsFunc[[]uint16,uint16] -/
def k445 : Cd :=
  (.seq
   (.reg [4] [
     ⟨none, (some 4), .mov (.c (.bool false)), []⟩])
   (.seq
    (.reg [4] [
      ⟨none, (some 5), .mov (.t 0), []⟩,
      ⟨none, (some 6), .mov (.t 1), []⟩,
      ⟨none, (some 7), .call true 547 [.t 5, .t 6], []⟩,
      ⟨none, (some 8), .bin .geq (.t 7) (.c (.int .i64 0)), []⟩,
      ⟨none, (some 4), .mov (.t 8), []⟩])
    .ret))
def c445 : Fn := { np := 2, nt := 9, kind := .pure, res := [.t 4], body := k445 }

/- impl.ValidFrame$1 -/
def k446 : Cd :=
  (.seq
   (.reg [2] [
     ⟨none, (some 2), .mov (.c (.bool false)), []⟩])
   (.seq
    (.reg [2] [
      ⟨none, (some 3), .mov (.t 0), []⟩,
      ⟨none, (some 4), .bin .gtr (.t 3) (.c (.int .u16 4095)), []⟩,
      ⟨none, (some 2), .mov (.t 4), []⟩])
    .ret))
def c446 : Fn := { np := 1, nt := 5, kind := .pure, res := [.t 2], body := k446 }

/- spec.l01Has -/
def k456 : Cd :=
  (.seq
   (.reg [6] [
     ⟨none, (some 6), .mov (.c (.bool false)), []⟩])
   (.seq
    (.reg [6] [
      ⟨none, (some 7), .mov (.t 1), []⟩,
      ⟨none, (some 8), .mov (.t 2), []⟩,
      ⟨none, (some 9), .call true 342 [.t 7, .t 8], []⟩,
      ⟨none, (some 10), .mov (.t 9), []⟩,
      ⟨(some (10, true)), (some 11), .mov (.t 0), []⟩,
      ⟨(some (10, true)), (some 12), .mov (.t 2), []⟩,
      ⟨(some (10, true)), (some 13), .nil (.t 11), []⟩,
      ⟨(some (10, true)), (some 14), .idxP 12 1 (.t 13) (.t 12), []⟩,
      ⟨(some (10, true)), (some 15), .ld 1 false (.t 14), []⟩,
      ⟨(some (10, true)), (some 16), .mov (.t 1), []⟩,
      ⟨(some (10, true)), (some 17), .conv .u64 (.t 16), []⟩,
      ⟨(some (10, true)), (some 18), .bin .shr (.t 15) (.t 17), []⟩,
      ⟨(some (10, true)), (some 19), .bin .rem (.t 18) (.c (.int .u16 2)), []⟩,
      ⟨(some (10, true)), (some 20), .bin .eql (.t 19) (.c (.int .u16 1)), []⟩,
      ⟨none, (some 21), .pick (.t 10) (.t 20) (.c (.bool false)), []⟩,
      ⟨none, (some 6), .mov (.t 21), []⟩])
    .ret))
def c456 : Fn := { np := 3, nt := 22, kind := .pure, res := [.t 6], body := k456 }

/- spec.l05Cel -/
def k467 : Cd :=
  (.seq
   (.reg [2] [
     ⟨none, (some 2), .mov (.c (.bool false)), []⟩])
   (.seq
    (.seq
     (.reg [14] [
       ⟨none, (some 3), .mov (.t 0), []⟩,
       ⟨none, (some 4), .nil (.t 3), []⟩,
       ⟨none, (some 5), .fldP 0 (.t 4), []⟩,
       ⟨none, (some 6), .call true 359 [.t 5], []⟩,
       ⟨none, (some 7), .un .not (.t 6), []⟩,
       ⟨none, (some 8), .mov (.t 7), []⟩,
       ⟨(some (8, false)), (some 9), .mov (.t 0), []⟩,
       ⟨(some (8, false)), (some 10), .nil (.t 9), []⟩,
       ⟨(some (8, false)), (some 11), .fldP 12 (.t 10), []⟩,
       ⟨(some (8, false)), (some 12), .call true 359 [.t 11], []⟩,
       ⟨(some (8, false)), (some 13), .un .not (.t 12), []⟩,
       ⟨none, (some 14), .pick (.t 8) (.c (.bool true)) (.t 13), []⟩])
     (.cond (.t 14)
      (.seq
       (.reg [2] [
         ⟨none, (some 2), .mov (.c (.bool false)), []⟩])
       .ret)
      .skip))
    (.seq
     (.reg [2] [
       ⟨none, (some 15), .mov (.t 0), []⟩,
       ⟨none, (some 16), .nil (.t 15), []⟩,
       ⟨none, (some 17), .fldP 0 (.t 16), []⟩,
       ⟨none, (some 18), .mov (.t 0), []⟩,
       ⟨none, (some 19), .nil (.t 18), []⟩,
       ⟨none, (some 20), .fldP 12 (.t 19), []⟩,
       ⟨none, (some 22), .agg (zs 12 (.int .u16 0)) [], []⟩,
       ⟨none, (some 21), .call true 349 [.t 17, .t 20], []⟩,
       ⟨none, (some 23), .eq (.a (rb 12 (some .u16))) false (.t 21) (.t 22), []⟩,
       ⟨none, (some 2), .mov (.t 23), []⟩])
     .ret)))
def c467 : Fn := { np := 1, nt := 24, kind := .pure, res := [.t 2], body := k467 }

/- slices.ContainsFunc[impl.Scene,impl.Layer] -/
def k471 : Cd :=
  (.seq
   (.reg [4] [
     ⟨none, (some 4), .mov (.c (.bool false)), []⟩])
   (.seq
    (.reg [4] [
      ⟨none, (some 5), .mov (.t 0), []⟩,
      ⟨none, (some 6), .mov (.t 1), []⟩,
      ⟨none, (some 7), .call true 555 [.t 5, .t 6], []⟩,
      ⟨none, (some 8), .bin .geq (.t 7) (.c (.int .i64 0)), []⟩,
      ⟨none, (some 4), .mov (.t 8), []⟩])
    .ret))
def c471 : Fn := { np := 2, nt := 9, kind := .pure, res := [.t 4], body := k471 }

/- impl.ValidScene$1 -/
def k472 : Cd :=
  (.seq
   (.reg [1, 2] [
     ⟨none, (some 1), .mov (.t 0), []⟩,
     ⟨none, (some 2), .mov (.c (.bool false)), []⟩])
   (.seq
    (.reg [2] [
      ⟨none, (some 3), .ldV 1 none 27 true, []⟩,
      ⟨none, (some 4), .call true 473 [.t 3], []⟩,
      ⟨none, (some 5), .un .not (.t 4), []⟩,
      ⟨none, (some 2), .mov (.t 5), []⟩])
    .ret))
def c472 : Fn := { np := 1, nt := 6, kind := .pure, res := [.t 2], body := k472 }

/- impl.isLayer -/
def k473 : Cd :=
  (.seq
   (.reg [1, 2] [
     ⟨none, (some 1), .mov (.t 0), []⟩,
     ⟨none, (some 2), .mov (.c (.bool false)), []⟩])
   (.seq
    (.reg [2] [
      ⟨none, (some 3), .adrF 1 none 0, []⟩,
      ⟨none, (some 4), .ldV 1 (some 3) 24 true, []⟩,
      ⟨none, (some 5), .call true 333 [.t 4], []⟩,
      ⟨none, (some 6), .mov (.t 5), []⟩,
      ⟨(some (6, true)), (some 7), .adrF 1 none 24, []⟩,
      ⟨(some (6, true)), (some 8), .ldV 1 (some 7) 1 false, []⟩,
      ⟨(some (6, true)), (some 9), .conv .i64 (.t 8), []⟩,
      ⟨(some (6, true)), (some 10), .call true 295 [.t 9, .c (.int .i64 (-12)), .c (.int .i64 12)], []⟩,
      ⟨none, (some 11), .pick (.t 6) (.t 10) (.c (.bool false)), []⟩,
      ⟨none, (some 12), .mov (.t 11), []⟩,
      ⟨(some (12, true)), (some 13), .adrF 1 none 25, []⟩,
      ⟨(some (12, true)), (some 14), .ldV 1 (some 13) 1 false, []⟩,
      ⟨(some (12, true)), (some 15), .conv .i64 (.t 14), []⟩,
      ⟨(some (12, true)), (some 16), .call true 295 [.t 15, .c (.int .i64 (-12)), .c (.int .i64 12)], []⟩,
      ⟨none, (some 17), .pick (.t 12) (.t 16) (.c (.bool false)), []⟩,
      ⟨none, (some 18), .mov (.t 17), []⟩,
      ⟨(some (18, true)), (some 19), .adrF 1 none 26, []⟩,
      ⟨(some (18, true)), (some 20), .ldV 1 (some 19) 1 false, []⟩,
      ⟨(some (18, true)), (some 21), .conv .i64 (.t 20), []⟩,
      ⟨(some (18, true)), (some 22), .call true 295 [.t 21, .c (.int .i64 0), .c (.int .i64 8)], []⟩,
      ⟨none, (some 23), .pick (.t 18) (.t 22) (.c (.bool false)), []⟩,
      ⟨none, (some 2), .mov (.t 23), []⟩])
    .ret))
def c473 : Fn := { np := 1, nt := 24, kind := .pure, res := [.t 2], body := k473 }

/- slices.IndexFunc[[]impl.Frame,impl.Frame] -/
def b474_1 : Cd :=
  (.seq
   (.reg [9] [
     ⟨none, (some 9), .bin .lss (.t 8) (.t 7), []⟩])
   (.seq
    (.cond (.t 9)
     .skip
     (.exit 0))
    (.seq
     (.block 1
      (.seq
       (.reg [5] [
         ⟨none, (some 10), .mov (.t 8), []⟩,
         ⟨none, (some 5), .mov (.t 10), []⟩])
       (.seq
        (.reg [16] [
          ⟨none, (some 11), .mov (.t 1), []⟩,
          ⟨none, (some 12), .mov (.t 0), []⟩,
          ⟨none, (some 13), .mov (.t 5), []⟩,
          ⟨none, (some 14), .idxA 12 (.t 12) (.t 13), []⟩,
          ⟨none, (some 15), .ld 12 true (.t 14), []⟩,
          ⟨none, (some 16), .callv (.t 11) [.t 15], []⟩])
        (.cond (.t 16)
         (.seq
          (.reg [4] [
            ⟨none, (some 17), .mov (.t 5), []⟩,
            ⟨none, (some 4), .mov (.t 17), []⟩])
          .ret)
         .skip))))
     (.reg [8] [
       ⟨none, (some 18), .bin .add (.t 8) (.c (.int .i64 1)), []⟩,
       ⟨none, (some 8), .mov (.t 18), []⟩]))))
def k474 : Cd :=
  (.seq
   (.reg [4] [
     ⟨none, (some 4), .mov (.c (.int .i64 0)), []⟩])
   (.seq
    (.seq
     (.reg [7, 8] [
       ⟨none, (some 6), .mov (.t 0), []⟩,
       ⟨none, (some 7), .len (.t 6), []⟩,
       ⟨none, (some 8), .mov (.c (.int .i64 0)), []⟩])
     (.block 0
      (.loop b474_1)))
    (.seq
     (.reg [4] [
       ⟨none, (some 4), .mov (.c (.int .i64 (-1))), []⟩])
     .ret)))
def c474 : Fn := { np := 2, nt := 19, kind := .pure, res := [.t 4], body := k474 }

/- spec.l05Ok -/
def b498_1 : Cd :=
  (.seq
   (.seq
    (.reg [7] [
      ⟨none, (some 4), .mov (.t 3), []⟩,
      ⟨none, (some 5), .mov (.t 0), []⟩,
      ⟨none, (some 6), .len (.t 5), []⟩,
      ⟨none, (some 7), .bin .lss (.t 4) (.t 6), []⟩])
    (.cond (.t 7)
     .skip
     (.exit 0)))
   (.seq
    (.block 1
     (.seq
      (.reg [14] [
        ⟨none, (some 10), .mov (.t 0), []⟩,
        ⟨none, (some 11), .mov (.t 3), []⟩,
        ⟨none, (some 12), .idxA 27 (.t 10) (.t 11), []⟩,
        ⟨none, (some 13), .call true 563 [.t 12], []⟩,
        ⟨none, (some 14), .un .not (.t 13), []⟩])
      (.cond (.t 14)
       (.seq
        (.reg [2] [
          ⟨none, (some 2), .mov (.c (.bool false)), []⟩])
        .ret)
       .skip)))
    (.reg [3] [
      ⟨none, (some 8), .mov (.t 3), []⟩,
      ⟨none, (some 9), .bin .add (.t 8) (.c (.int .i64 1)), []⟩,
      ⟨none, (some 3), .mov (.t 9), []⟩])))
def k498 : Cd :=
  (.seq
   (.reg [2] [
     ⟨none, (some 2), .mov (.c (.bool false)), []⟩])
   (.seq
    (.seq
     (.reg [3] [
       ⟨none, (some 3), .mov (.c (.int .i64 0)), []⟩])
     (.block 0
      (.loop b498_1)))
    (.seq
     (.reg [2] [
       ⟨none, (some 15), .mov (.t 0), []⟩,
       ⟨none, (some 16), .len (.t 15), []⟩,
       ⟨none, (some 17), .bin .leq (.t 16) (.c (.int .i64 8)), []⟩,
       ⟨none, (some 2), .mov (.t 17), []⟩])
     .ret)))
def c498 : Fn := { np := 1, nt := 18, kind := .pure, res := [.t 2], body := k498 }

/- spec.l05Offset -/
def k499 : Cd :=
  (.seq
   (.reg [6, 7] [
     ⟨none, (some 6), .mov (.c (.int .i64 0)), []⟩,
     ⟨none, (some 7), .mov (.c (.int .i64 0)), []⟩])
   (.seq
    (.reg [8] [
      ⟨none, (some 9), .mov (.t 0), []⟩,
      ⟨none, (some 10), .nil (.t 9), []⟩,
      ⟨none, (some 11), .fldP 24 (.t 10), []⟩,
      ⟨none, (some 12), .ld 1 false (.t 11), []⟩,
      ⟨none, (some 13), .conv .i64 (.t 12), []⟩,
      ⟨none, (some 14), .mov (.t 1), []⟩,
      ⟨none, (some 15), .mov (.t 0), []⟩,
      ⟨none, (some 16), .nil (.t 15), []⟩,
      ⟨none, (some 17), .fldP 26 (.t 16), []⟩,
      ⟨none, (some 18), .ld 1 false (.t 17), []⟩,
      ⟨none, (some 19), .conv .i64 (.t 18), []⟩,
      ⟨none, (some 20), .call true 564 [.t 14, .t 19], []⟩,
      ⟨none, (some 21), .bin .sub (.t 13) (.t 20), []⟩,
      ⟨none, (some 8), .mov (.t 21), []⟩])
    (.seq
     (.reg [6, 7] [
       ⟨none, (some 22), .mov (.t 8), []⟩,
       ⟨none, (some 23), .mov (.t 0), []⟩,
       ⟨none, (some 24), .nil (.t 23), []⟩,
       ⟨none, (some 25), .fldP 25 (.t 24), []⟩,
       ⟨none, (some 26), .ld 1 false (.t 25), []⟩,
       ⟨none, (some 27), .conv .i64 (.t 26), []⟩,
       ⟨none, (some 28), .mov (.t 2), []⟩,
       ⟨none, (some 29), .mov (.t 0), []⟩,
       ⟨none, (some 30), .nil (.t 29), []⟩,
       ⟨none, (some 31), .fldP 26 (.t 30), []⟩,
       ⟨none, (some 32), .ld 1 false (.t 31), []⟩,
       ⟨none, (some 33), .conv .i64 (.t 32), []⟩,
       ⟨none, (some 34), .call true 564 [.t 28, .t 33], []⟩,
       ⟨none, (some 35), .bin .sub (.t 27) (.t 34), []⟩,
       ⟨none, (some 6), .mov (.t 22), []⟩,
       ⟨none, (some 7), .mov (.t 35), []⟩])
     .ret)))
def c499 : Fn := { np := 3, nt := 36, kind := .pure, res := [.t 6, .t 7], body := k499 }

/- impl.eighths -/
def k501 : Cd :=
  (.seq
   (.reg [4] [
     ⟨none, (some 4), .mov (.c (.int .i64 0)), []⟩])
   (.seq
    (.reg [4] [
      ⟨none, (some 5), .mov (.t 0), []⟩,
      ⟨none, (some 6), .mov (.t 1), []⟩,
      ⟨none, (some 7), .bin .mul (.t 5) (.t 6), []⟩,
      ⟨none, (some 8), .bin .shr (.t 7) (.c (.int .u64 3)), []⟩,
      ⟨none, (some 4), .mov (.t 8), []⟩])
    .ret))
def c501 : Fn := { np := 2, nt := 9, kind := .pure, res := [.t 4], body := k501 }

/- (impl.Frame).join$1 -/
def k502 : Cd :=
  (.seq
   (.reg [4] [
     ⟨none, (some 4), .mov (.c (.int .u16 0)), []⟩])
   (.seq
    (.reg [4] [
      ⟨none, (some 5), .mov (.t 0), []⟩,
      ⟨none, (some 6), .mov (.t 1), []⟩,
      ⟨none, (some 7), .bin .or (.t 5) (.t 6), []⟩,
      ⟨none, (some 4), .mov (.t 7), []⟩])
    .ret))
def c502 : Fn := { np := 2, nt := 8, kind := .pure, res := [.t 4], body := k502 }

/- (impl.Frame).less$1 -/
def k504 : Cd :=
  (.seq
   (.reg [4] [
     ⟨none, (some 4), .mov (.c (.int .u16 0)), []⟩])
   (.seq
    (.reg [4] [
      ⟨none, (some 5), .mov (.t 0), []⟩,
      ⟨none, (some 6), .mov (.t 1), []⟩,
      ⟨none, (some 7), .bin .andNot (.t 5) (.t 6), []⟩,
      ⟨none, (some 4), .mov (.t 7), []⟩])
    .ret))
def c504 : Fn := { np := 2, nt := 8, kind := .pure, res := [.t 4], body := k504 }

/- slices.ContainsFunc[[]impl.Frame,impl.Frame] -/
def k505 : Cd :=
  (.seq
   (.reg [4] [
     ⟨none, (some 4), .mov (.c (.bool false)), []⟩])
   (.seq
    (.reg [4] [
      ⟨none, (some 5), .mov (.t 0), []⟩,
      ⟨none, (some 6), .mov (.t 1), []⟩,
      ⟨none, (some 7), .call true 474 [.t 5, .t 6], []⟩,
      ⟨none, (some 8), .bin .geq (.t 7) (.c (.int .i64 0)), []⟩,
      ⟨none, (some 4), .mov (.t 8), []⟩])
    .ret))
def c505 : Fn := { np := 2, nt := 9, kind := .pure, res := [.t 4], body := k505 }

/- impl.areFrames$1 -/
def k506 : Cd :=
  (.seq
   (.reg [1, 2] [
     ⟨none, (some 1), .mov (.t 0), []⟩,
     ⟨none, (some 2), .mov (.c (.bool false)), []⟩])
   (.seq
    (.reg [2] [
      ⟨none, (some 3), .ldV 1 none 12 true, []⟩,
      ⟨none, (some 4), .call true 234 [.t 3], []⟩,
      ⟨none, (some 5), .un .not (.t 4), []⟩,
      ⟨none, (some 2), .mov (.t 5), []⟩])
    .ret))
def c506 : Fn := { np := 1, nt := 6, kind := .pure, res := [.t 2], body := k506 }

/- math/bits.OnesCount16 -/
def k530 : Cd :=
  (.seq
   (.reg [2] [
     ⟨none, (some 2), .mov (.c (.int .i64 0)), []⟩])
   (.seq
    (.reg [2] [
      ⟨none, (some 3), .mov (.t 0), []⟩,
      ⟨none, (some 4), .bin .shr (.t 3) (.c (.int .u64 8)), []⟩,
      ⟨none, (some 5), .idxs (.c (.string ⟨#[0, 1, 1, 2, 1, 2, 2, 3, 1, 2, 2, 3, 2, 3, 3, 4, 1, 2, 2, 3, 2, 3, 3, 4, 2, 3, 3, 4, 3, 4, 4, 5, 1, 2, 2, 3, 2, 3, 3, 4, 2, 3, 3, 4, 3, 4, 4, 5, 2, 3, 3, 4, 3, 4, 4, 5, 3, 4, 4, 5, 4, 5, 5, 6, 1, 2, 2, 3, 2, 3, 3, 4, 2, 3, 3, 4, 3, 4, 4, 5, 2, 3, 3, 4, 3, 4, 4, 5, 3, 4, 4, 5, 4, 5, 5, 6, 2, 3, 3, 4, 3, 4, 4, 5, 3, 4, 4, 5, 4, 5, 5, 6, 3, 4, 4, 5, 4, 5, 5, 6, 4, 5, 5, 6, 5, 6, 6, 7, 1, 2, 2, 3, 2, 3, 3, 4, 2, 3, 3, 4, 3, 4, 4, 5, 2, 3, 3, 4, 3, 4, 4, 5, 3, 4, 4, 5, 4, 5, 5, 6, 2, 3, 3, 4, 3, 4, 4, 5, 3, 4, 4, 5, 4, 5, 5, 6, 3, 4, 4, 5, 4, 5, 5, 6, 4, 5, 5, 6, 5, 6, 6, 7, 2, 3, 3, 4, 3, 4, 4, 5, 3, 4, 4, 5, 4, 5, 5, 6, 3, 4, 4, 5, 4, 5, 5, 6, 4, 5, 5, 6, 5, 6, 6, 7, 3, 4, 4, 5, 4, 5, 5, 6, 4, 5, 5, 6, 5, 6, 6, 7, 4, 5, 5, 6, 5, 6, 6, 7, 5, 6, 6, 7, 6, 7, 7, 8]⟩)) (.t 4), []⟩,
      ⟨none, (some 6), .mov (.t 0), []⟩,
      ⟨none, (some 7), .bin .and (.t 6) (.c (.int .u16 255)), []⟩,
      ⟨none, (some 8), .idxs (.c (.string ⟨#[0, 1, 1, 2, 1, 2, 2, 3, 1, 2, 2, 3, 2, 3, 3, 4, 1, 2, 2, 3, 2, 3, 3, 4, 2, 3, 3, 4, 3, 4, 4, 5, 1, 2, 2, 3, 2, 3, 3, 4, 2, 3, 3, 4, 3, 4, 4, 5, 2, 3, 3, 4, 3, 4, 4, 5, 3, 4, 4, 5, 4, 5, 5, 6, 1, 2, 2, 3, 2, 3, 3, 4, 2, 3, 3, 4, 3, 4, 4, 5, 2, 3, 3, 4, 3, 4, 4, 5, 3, 4, 4, 5, 4, 5, 5, 6, 2, 3, 3, 4, 3, 4, 4, 5, 3, 4, 4, 5, 4, 5, 5, 6, 3, 4, 4, 5, 4, 5, 5, 6, 4, 5, 5, 6, 5, 6, 6, 7, 1, 2, 2, 3, 2, 3, 3, 4, 2, 3, 3, 4, 3, 4, 4, 5, 2, 3, 3, 4, 3, 4, 4, 5, 3, 4, 4, 5, 4, 5, 5, 6, 2, 3, 3, 4, 3, 4, 4, 5, 3, 4, 4, 5, 4, 5, 5, 6, 3, 4, 4, 5, 4, 5, 5, 6, 4, 5, 5, 6, 5, 6, 6, 7, 2, 3, 3, 4, 3, 4, 4, 5, 3, 4, 4, 5, 4, 5, 5, 6, 3, 4, 4, 5, 4, 5, 5, 6, 4, 5, 5, 6, 5, 6, 6, 7, 3, 4, 4, 5, 4, 5, 5, 6, 4, 5, 5, 6, 5, 6, 6, 7, 4, 5, 5, 6, 5, 6, 6, 7, 5, 6, 6, 7, 6, 7, 7, 8]⟩)) (.t 7), []⟩,
      ⟨none, (some 9), .bin .add (.t 5) (.t 8), []⟩,
      ⟨none, (some 10), .conv .i64 (.t 9), []⟩,
      ⟨none, (some 2), .mov (.t 10), []⟩])
    .ret))
def c530 : Fn := { np := 1, nt := 11, kind := .pure, res := [.t 2], body := k530 }

/- laws.toCel -/
def k533 : Cd :=
  (.seq
   (.reg [1, 2] [
     ⟨none, (some 1), .mov (.t 0), []⟩,
     ⟨none, (some 2), .zero true (zs 24 (.int .u16 0)), []⟩])
   (.seq
    (.reg [3] [
      ⟨none, (some 3), .zero true (zs 24 (.int .u16 0)), []⟩])
    (.seq
     (.reg [3] [
       ⟨none, (some 4), .adrF 1 none 0, []⟩,
       ⟨none, (some 5), .ldV 1 (some 4) 12 true, []⟩,
       ⟨none, (some 6), .call true 134 [.t 5], []⟩,
       ⟨none, (some 7), .adrF 3 none 0, []⟩,
       ⟨none, (some 3), .stV 3 (some 7) 12 (.t 6), []⟩])
     (.seq
      (.reg [3] [
        ⟨none, (some 8), .adrF 1 none 12, []⟩,
        ⟨none, (some 9), .ldV 1 (some 8) 12 true, []⟩,
        ⟨none, (some 10), .call true 134 [.t 9], []⟩,
        ⟨none, (some 11), .adrF 3 none 12, []⟩,
        ⟨none, (some 3), .stV 3 (some 11) 12 (.t 10), []⟩])
      (.seq
       (.reg [2] [
         ⟨none, (some 12), .ldV 3 none 24 true, []⟩,
         ⟨none, (some 2), .stV 2 none 24 (.t 12), []⟩])
       .ret)))))
def c533 : Fn := { np := 1, nt := 13, kind := .pure, res := [.v 2 24 true], body := k533 }

/- laws.fillerCel -/
def k534 : Cd :=
  (.seq
   (.reg [0] [
     ⟨none, (some 0), .zero true (zs 24 (.int .u16 0)), []⟩])
   (.seq
    (.reg [0] [
      ⟨none, (some 1), .agg (zs 12 (.int .u16 0)) [(0, 1, (.c (.int .u16 60201)))], []⟩,
      ⟨none, (some 2), .agg (zs 12 (.int .u16 0)) [(0, 1, (.c (.int .u16 60201)))], []⟩,
      ⟨none, (some 3), .agg (zs 24 (.int .u16 0)) [(0, 12, (.t 1)), (12, 12, (.t 2))], []⟩,
      ⟨none, (some 0), .stV 0 none 24 (.t 3), []⟩])
    .ret))
def c534 : Fn := { np := 0, nt := 4, kind := .pure, res := [.v 0 24 true], body := k534 }

/- laws.eqCel -/
def k535 : Cd :=
  (.seq
   (.reg [2, 3, 4] [
     ⟨none, (some 2), .mov (.t 0), []⟩,
     ⟨none, (some 3), .mov (.t 1), []⟩,
     ⟨none, (some 4), .mov (.c (.bool false)), []⟩])
   (.seq
    (.seq
     (.reg [10] [
       ⟨none, (some 5), .adrF 2 none 0, []⟩,
       ⟨none, (some 6), .ldV 2 (some 5) 12 true, []⟩,
       ⟨none, (some 7), .adrF 3 none 0, []⟩,
       ⟨none, (some 8), .ldV 3 (some 7) 12 true, []⟩,
       ⟨none, (some 9), .call true 78 [.t 6, .t 8], []⟩,
       ⟨none, (some 10), .un .not (.t 9), []⟩])
     (.cond (.t 10)
      (.seq
       (.reg [4] [
         ⟨none, (some 4), .mov (.c (.bool false)), []⟩])
       .ret)
      .skip))
    (.seq
     (.seq
      (.reg [16] [
        ⟨none, (some 11), .adrF 2 none 12, []⟩,
        ⟨none, (some 12), .ldV 2 (some 11) 12 true, []⟩,
        ⟨none, (some 13), .adrF 3 none 12, []⟩,
        ⟨none, (some 14), .ldV 3 (some 13) 12 true, []⟩,
        ⟨none, (some 15), .call true 78 [.t 12, .t 14], []⟩,
        ⟨none, (some 16), .un .not (.t 15), []⟩])
      (.cond (.t 16)
       (.seq
        (.reg [4] [
          ⟨none, (some 4), .mov (.c (.bool false)), []⟩])
        .ret)
       .skip))
     (.seq
      (.reg [4] [
        ⟨none, (some 4), .mov (.c (.bool true)), []⟩])
      .ret))))
def c535 : Fn := { np := 2, nt := 17, kind := .pure, res := [.t 4], body := k535 }

/- slices.IndexFunc[[]uint16,uint16] -/
def b547_1 : Cd :=
  (.seq
   (.reg [9] [
     ⟨none, (some 9), .bin .lss (.t 8) (.t 7), []⟩])
   (.seq
    (.cond (.t 9)
     .skip
     (.exit 0))
    (.seq
     (.block 1
      (.seq
       (.reg [5] [
         ⟨none, (some 10), .mov (.t 8), []⟩,
         ⟨none, (some 5), .mov (.t 10), []⟩])
       (.seq
        (.reg [16] [
          ⟨none, (some 11), .mov (.t 1), []⟩,
          ⟨none, (some 12), .mov (.t 0), []⟩,
          ⟨none, (some 13), .mov (.t 5), []⟩,
          ⟨none, (some 14), .idxA 1 (.t 12) (.t 13), []⟩,
          ⟨none, (some 15), .ld 1 false (.t 14), []⟩,
          ⟨none, (some 16), .callv (.t 11) [.t 15], []⟩])
        (.cond (.t 16)
         (.seq
          (.reg [4] [
            ⟨none, (some 17), .mov (.t 5), []⟩,
            ⟨none, (some 4), .mov (.t 17), []⟩])
          .ret)
         .skip))))
     (.reg [8] [
       ⟨none, (some 18), .bin .add (.t 8) (.c (.int .i64 1)), []⟩,
       ⟨none, (some 8), .mov (.t 18), []⟩]))))
def k547 : Cd :=
  (.seq
   (.reg [4] [
     ⟨none, (some 4), .mov (.c (.int .i64 0)), []⟩])
   (.seq
    (.seq
     (.reg [7, 8] [
       ⟨none, (some 6), .mov (.t 0), []⟩,
       ⟨none, (some 7), .len (.t 6), []⟩,
       ⟨none, (some 8), .mov (.c (.int .i64 0)), []⟩])
     (.block 0
      (.loop b547_1)))
    (.seq
     (.reg [4] [
       ⟨none, (some 4), .mov (.c (.int .i64 (-1))), []⟩])
     .ret)))
def c547 : Fn := { np := 2, nt := 19, kind := .pure, res := [.t 4], body := k547 }

/- slices.IndexFunc[impl.Scene,impl.Layer] -/
def b555_1 : Cd :=
  (.seq
   (.reg [9] [
     ⟨none, (some 9), .bin .lss (.t 8) (.t 7), []⟩])
   (.seq
    (.cond (.t 9)
     .skip
     (.exit 0))
    (.seq
     (.block 1
      (.seq
       (.reg [5] [
         ⟨none, (some 10), .mov (.t 8), []⟩,
         ⟨none, (some 5), .mov (.t 10), []⟩])
       (.seq
        (.reg [16] [
          ⟨none, (some 11), .mov (.t 1), []⟩,
          ⟨none, (some 12), .mov (.t 0), []⟩,
          ⟨none, (some 13), .mov (.t 5), []⟩,
          ⟨none, (some 14), .idxA 27 (.t 12) (.t 13), []⟩,
          ⟨none, (some 15), .ld 27 true (.t 14), []⟩,
          ⟨none, (some 16), .callv (.t 11) [.t 15], []⟩])
        (.cond (.t 16)
         (.seq
          (.reg [4] [
            ⟨none, (some 17), .mov (.t 5), []⟩,
            ⟨none, (some 4), .mov (.t 17), []⟩])
          .ret)
         .skip))))
     (.reg [8] [
       ⟨none, (some 18), .bin .add (.t 8) (.c (.int .i64 1)), []⟩,
       ⟨none, (some 8), .mov (.t 18), []⟩]))))
def k555 : Cd :=
  (.seq
   (.reg [4] [
     ⟨none, (some 4), .mov (.c (.int .i64 0)), []⟩])
   (.seq
    (.seq
     (.reg [7, 8] [
       ⟨none, (some 6), .mov (.t 0), []⟩,
       ⟨none, (some 7), .len (.t 6), []⟩,
       ⟨none, (some 8), .mov (.c (.int .i64 0)), []⟩])
     (.block 0
      (.loop b555_1)))
    (.seq
     (.reg [4] [
       ⟨none, (some 4), .mov (.c (.int .i64 (-1))), []⟩])
     .ret)))
def c555 : Fn := { np := 2, nt := 19, kind := .pure, res := [.t 4], body := k555 }

/- spec.l05Layer -/
def k563 : Cd :=
  (.seq
   (.reg [2] [
     ⟨none, (some 2), .mov (.c (.bool false)), []⟩])
   (.seq
    (.reg [2] [
      ⟨none, (some 3), .mov (.t 0), []⟩,
      ⟨none, (some 4), .nil (.t 3), []⟩,
      ⟨none, (some 5), .fldP 0 (.t 4), []⟩,
      ⟨none, (some 6), .call true 467 [.t 5], []⟩,
      ⟨none, (some 7), .mov (.t 6), []⟩,
      ⟨(some (7, true)), (some 8), .mov (.t 0), []⟩,
      ⟨(some (7, true)), (some 9), .nil (.t 8), []⟩,
      ⟨(some (7, true)), (some 10), .fldP 24 (.t 9), []⟩,
      ⟨(some (7, true)), (some 11), .ld 1 false (.t 10), []⟩,
      ⟨(some (7, true)), (some 12), .conv .i64 (.t 11), []⟩,
      ⟨(some (7, true)), (some 13), .call true 304 [.t 12, .c (.int .i64 (-12)), .c (.int .i64 12)], []⟩,
      ⟨none, (some 14), .pick (.t 7) (.t 13) (.c (.bool false)), []⟩,
      ⟨none, (some 15), .mov (.t 14), []⟩,
      ⟨(some (15, true)), (some 16), .mov (.t 0), []⟩,
      ⟨(some (15, true)), (some 17), .nil (.t 16), []⟩,
      ⟨(some (15, true)), (some 18), .fldP 25 (.t 17), []⟩,
      ⟨(some (15, true)), (some 19), .ld 1 false (.t 18), []⟩,
      ⟨(some (15, true)), (some 20), .conv .i64 (.t 19), []⟩,
      ⟨(some (15, true)), (some 21), .call true 304 [.t 20, .c (.int .i64 (-12)), .c (.int .i64 12)], []⟩,
      ⟨none, (some 22), .pick (.t 15) (.t 21) (.c (.bool false)), []⟩,
      ⟨none, (some 23), .mov (.t 22), []⟩,
      ⟨(some (23, true)), (some 24), .mov (.t 0), []⟩,
      ⟨(some (23, true)), (some 25), .nil (.t 24), []⟩,
      ⟨(some (23, true)), (some 26), .fldP 26 (.t 25), []⟩,
      ⟨(some (23, true)), (some 27), .ld 1 false (.t 26), []⟩,
      ⟨(some (23, true)), (some 28), .conv .i64 (.t 27), []⟩,
      ⟨(some (23, true)), (some 29), .call true 304 [.t 28, .c (.int .i64 0), .c (.int .i64 8)], []⟩,
      ⟨none, (some 30), .pick (.t 23) (.t 29) (.c (.bool false)), []⟩,
      ⟨none, (some 2), .mov (.t 30), []⟩])
    .ret))
def c563 : Fn := { np := 1, nt := 31, kind := .pure, res := [.t 2], body := k563 }

/- spec.l05Eighths -/
def k564 : Cd :=
  (.seq
   (.reg [4] [
     ⟨none, (some 4), .mov (.c (.int .i64 0)), []⟩])
   (.seq
    (.reg [5] [
      ⟨none, (some 6), .mov (.t 0), []⟩,
      ⟨none, (some 7), .mov (.t 1), []⟩,
      ⟨none, (some 8), .bin .mul (.t 6) (.t 7), []⟩,
      ⟨none, (some 9), .bin .quo (.t 8) (.c (.int .i64 8)), []⟩,
      ⟨none, (some 5), .mov (.t 9), []⟩])
    (.seq
     (.seq
      (.reg [20] [
        ⟨none, (some 10), .mov (.t 0), []⟩,
        ⟨none, (some 11), .mov (.t 1), []⟩,
        ⟨none, (some 12), .bin .mul (.t 10) (.t 11), []⟩,
        ⟨none, (some 13), .bin .lss (.t 12) (.c (.int .i64 0)), []⟩,
        ⟨none, (some 14), .mov (.t 13), []⟩,
        ⟨(some (14, true)), (some 15), .mov (.t 0), []⟩,
        ⟨(some (14, true)), (some 16), .mov (.t 1), []⟩,
        ⟨(some (14, true)), (some 17), .bin .mul (.t 15) (.t 16), []⟩,
        ⟨(some (14, true)), (some 18), .bin .rem (.t 17) (.c (.int .i64 8)), []⟩,
        ⟨(some (14, true)), (some 19), .bin .neq (.t 18) (.c (.int .i64 0)), []⟩,
        ⟨none, (some 20), .pick (.t 14) (.t 19) (.c (.bool false)), []⟩])
      (.cond (.t 20)
       (.reg [5] [
         ⟨none, (some 21), .mov (.t 5), []⟩,
         ⟨none, (some 22), .bin .sub (.t 21) (.c (.int .i64 1)), []⟩,
         ⟨none, (some 5), .mov (.t 22), []⟩])
       .skip))
     (.seq
      (.reg [4] [
        ⟨none, (some 23), .mov (.t 5), []⟩,
        ⟨none, (some 4), .mov (.t 23), []⟩])
      .ret))))
def c564 : Fn := { np := 2, nt := 24, kind := .pure, res := [.t 4], body := k564 }


end Fb
