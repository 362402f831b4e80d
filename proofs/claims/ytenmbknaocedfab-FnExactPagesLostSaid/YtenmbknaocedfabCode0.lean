/- The functions of the law, in the small language. -/
import Derived.Test.YtenmbknaocedfabDen
set_option linter.unusedVariables false
set_option linter.unusedSimpArgs false
namespace Fb
open Go

/- laws.FnExactPagesLost -/
def k32 : Cd :=
  (.seq
   (.reg [4] [
     ⟨none, (some 4), .mov (.c (.bool false)), []⟩])
   (.seq
    (.reg [5] [
      ⟨none, (some 5), .mov (.c (.int .i64 1000000)), []⟩])
    (.seq
     (.reg [5] [
       ⟨none, (some 16), .mov (.t 0), []⟩,
       ⟨none, (some 17), .mov (.t 5), []⟩,
       ⟨none, (some 18), .call true 157 [.t 16, .t 17], []⟩,
       ⟨none, (some 5), .mov (.t 18), []⟩])
     (.seq
      (.seq
       (.reg [20] [
         ⟨none, (some 19), .mov (.t 5), []⟩,
         ⟨none, (some 20), .bin .lss (.t 19) (.c (.int .i64 0)), []⟩])
       (.cond (.t 20)
        (.seq
         (.reg [4] [
           ⟨none, (some 4), .mov (.c (.bool true)), []⟩])
         .ret)
        .skip))
      (.seq
       (.reg [6, 7] [
         ⟨none, (some 22), .mov (.t 0), []⟩,
         ⟨none, (some 23), .call true 159 [.t 22, .c (.bool false)], []⟩,
         ⟨none, (some 24), .mov (.t 1), []⟩,
         ⟨none, (some 25), .call true 184 [.t 23, .t 24], []⟩,
         ⟨none, (some 21), .mov (.t 25), []⟩,
         ⟨none, (some 26), .ext (.t 21) 0, []⟩,
         ⟨none, (some 27), .ext (.t 21) 1, []⟩,
         ⟨none, (some 6), .mov (.t 26), []⟩,
         ⟨none, (some 7), .mov (.t 27), []⟩])
       (.seq
        (.reg [8] [
          ⟨none, (some 28), .mov (.t 0), []⟩,
          ⟨none, (some 29), .call true 159 [.t 28, .c (.bool false)], []⟩,
          ⟨none, (some 8), .mov (.t 29), []⟩])
        (.seq
         (.reg [9, 10] [
           ⟨none, (some 31), .mov (.t 8), []⟩,
           ⟨none, (some 32), .mov (.t 1), []⟩,
           ⟨none, (some 33), .call true 185 [.t 31, .t 32], []⟩,
           ⟨none, (some 30), .mov (.t 33), []⟩,
           ⟨none, (some 34), .ext (.t 30) 0, []⟩,
           ⟨none, (some 35), .ext (.t 30) 1, []⟩,
           ⟨none, (some 9), .mov (.t 34), []⟩,
           ⟨none, (some 10), .mov (.t 35), []⟩])
         (.seq
          (.seq
           (.reg [44] [
             ⟨none, (some 36), .mov (.t 9), []⟩,
             ⟨none, (some 37), .mov (.t 6), []⟩,
             ⟨none, (some 38), .call true 180 [.t 36, .t 37], []⟩,
             ⟨none, (some 39), .un .not (.t 38), []⟩,
             ⟨none, (some 40), .mov (.t 39), []⟩,
             ⟨(some (40, false)), (some 41), .mov (.t 10), []⟩,
             ⟨(some (40, false)), (some 42), .mov (.t 7), []⟩,
             ⟨(some (40, false)), (some 43), .bin .neq (.t 41) (.t 42), []⟩,
             ⟨none, (some 44), .pick (.t 40) (.c (.bool true)) (.t 43), []⟩])
           (.cond (.t 44)
            (.seq
             (.reg [4] [
               ⟨none, (some 4), .mov (.c (.bool false)), []⟩])
             .ret)
            .skip))
          (.seq
           (.seq
            (.reg [49] [
              ⟨none, (some 45), .mov (.t 8), []⟩,
              ⟨none, (some 46), .mov (.t 0), []⟩,
              ⟨none, (some 47), .call true 159 [.t 46, .c (.bool false)], []⟩,
              ⟨none, (some 48), .call true 161 [.t 45, .t 47], []⟩,
              ⟨none, (some 49), .un .not (.t 48), []⟩])
            (.cond (.t 49)
             (.seq
              (.reg [4] [
                ⟨none, (some 4), .mov (.c (.bool false)), []⟩])
              .ret)
             .skip))
           (.seq
            (.reg [11] [
              ⟨none, (some 11), .mov (.c (.int .i64 101)), []⟩])
            (.seq
             (.reg [11] [
               ⟨none, (some 50), .mov (.t 8), []⟩,
               ⟨none, (some 51), .mov (.t 11), []⟩,
               ⟨none, (some 52), .call false 181 [.t 50, .t 51], []⟩,
               ⟨none, (some 11), .mov (.t 52), []⟩])
             (.seq
              (.seq
               (.reg [65] [
                 ⟨none, (some 53), .mov (.t 11), []⟩,
                 ⟨none, (some 54), .bin .lss (.t 53) (.c (.int .i64 0)), []⟩,
                 ⟨none, (some 55), .mov (.t 54), []⟩,
                 ⟨(some (55, false)), (some 56), .mov (.t 9), []⟩,
                 ⟨(some (55, false)), (some 57), .mov (.t 6), []⟩,
                 ⟨(some (55, false)), (some 58), .call true 180 [.t 56, .t 57], []⟩,
                 ⟨(some (55, false)), (some 59), .un .not (.t 58), []⟩,
                 ⟨none, (some 60), .pick (.t 55) (.c (.bool true)) (.t 59), []⟩,
                 ⟨none, (some 61), .mov (.t 60), []⟩,
                 ⟨(some (61, false)), (some 62), .mov (.t 10), []⟩,
                 ⟨(some (61, false)), (some 63), .mov (.t 7), []⟩,
                 ⟨(some (61, false)), (some 64), .bin .neq (.t 62) (.t 63), []⟩,
                 ⟨none, (some 65), .pick (.t 61) (.c (.bool true)) (.t 64), []⟩])
               (.cond (.t 65)
                (.seq
                 (.reg [4] [
                   ⟨none, (some 4), .mov (.c (.bool false)), []⟩])
                 .ret)
                .skip))
              (.seq
               (.reg [12] [
                 ⟨none, (some 12), .mov (.c (.int .i64 101)), []⟩])
               (.seq
                (.reg [12] [
                  ⟨none, (some 66), .mov (.t 9), []⟩,
                  ⟨none, (some 67), .mov (.t 12), []⟩,
                  ⟨none, (some 68), .call false 182 [.t 66, .t 67], []⟩,
                  ⟨none, (some 12), .mov (.t 68), []⟩])
                (.seq
                 (.reg [13] [
                   ⟨none, (some 13), .mov (.c (.int .i64 101)), []⟩])
                 (.seq
                  (.reg [13] [
                    ⟨none, (some 69), .mov (.t 9), []⟩,
                    ⟨none, (some 70), .mov (.t 13), []⟩,
                    ⟨none, (some 71), .call true 183 [.t 69, .t 70], []⟩,
                    ⟨none, (some 13), .mov (.t 71), []⟩])
                  (.seq
                   (.seq
                    (.reg [73] [
                      ⟨none, (some 72), .mov (.t 13), []⟩,
                      ⟨none, (some 73), .bin .lss (.t 72) (.c (.int .i64 0)), []⟩])
                    (.cond (.t 73)
                     (.seq
                      (.reg [4] [
                        ⟨none, (some 4), .mov (.c (.bool false)), []⟩])
                      .ret)
                     .skip))
                   (.seq
                    (.seq
                     (.reg [76] [
                       ⟨none, (some 74), .mov (.t 13), []⟩,
                       ⟨none, (some 75), .mov (.t 12), []⟩,
                       ⟨none, (some 76), .bin .neq (.t 74) (.t 75), []⟩])
                     (.cond (.t 76)
                      (.seq
                       (.reg [4] [
                         ⟨none, (some 4), .mov (.c (.bool false)), []⟩])
                       .ret)
                      .skip))
                    (.seq
                     (.reg [14, 15] [
                       ⟨none, (some 78), .mov (.t 0), []⟩,
                       ⟨none, (some 79), .call true 159 [.t 78, .c (.bool true)], []⟩,
                       ⟨none, (some 80), .mov (.t 1), []⟩,
                       ⟨none, (some 81), .call true 185 [.t 79, .t 80], []⟩,
                       ⟨none, (some 77), .mov (.t 81), []⟩,
                       ⟨none, (some 82), .ext (.t 77) 0, []⟩,
                       ⟨none, (some 83), .ext (.t 77) 1, []⟩,
                       ⟨none, (some 14), .mov (.t 82), []⟩,
                       ⟨none, (some 15), .mov (.t 83), []⟩])
                     (.seq
                      (.seq
                       (.reg [92] [
                         ⟨none, (some 84), .mov (.t 14), []⟩,
                         ⟨none, (some 85), .mov (.t 6), []⟩,
                         ⟨none, (some 86), .call true 180 [.t 84, .t 85], []⟩,
                         ⟨none, (some 87), .un .not (.t 86), []⟩,
                         ⟨none, (some 88), .mov (.t 87), []⟩,
                         ⟨(some (88, false)), (some 89), .mov (.t 15), []⟩,
                         ⟨(some (88, false)), (some 90), .mov (.t 7), []⟩,
                         ⟨(some (88, false)), (some 91), .bin .neq (.t 89) (.t 90), []⟩,
                         ⟨none, (some 92), .pick (.t 88) (.c (.bool true)) (.t 91), []⟩])
                       (.cond (.t 92)
                        (.seq
                         (.reg [4] [
                           ⟨none, (some 4), .mov (.c (.bool false)), []⟩])
                         .ret)
                        .skip))
                      (.seq
                       (.reg [13] [
                         ⟨none, (some 13), .mov (.c (.int .i64 101)), []⟩])
                       (.seq
                        (.reg [13] [
                          ⟨none, (some 93), .mov (.t 9), []⟩,
                          ⟨none, (some 94), .mov (.t 13), []⟩,
                          ⟨none, (some 95), .call true 183 [.t 93, .t 94], []⟩,
                          ⟨none, (some 13), .mov (.t 95), []⟩])
                        (.seq
                         (.seq
                          (.reg [97] [
                            ⟨none, (some 96), .mov (.t 13), []⟩,
                            ⟨none, (some 97), .bin .lss (.t 96) (.c (.int .i64 0)), []⟩])
                          (.cond (.t 97)
                           (.seq
                            (.reg [4] [
                              ⟨none, (some 4), .mov (.c (.bool false)), []⟩])
                            .ret)
                           .skip))
                         (.seq
                          (.seq
                           (.reg [100] [
                             ⟨none, (some 98), .mov (.t 13), []⟩,
                             ⟨none, (some 99), .mov (.t 12), []⟩,
                             ⟨none, (some 100), .bin .neq (.t 98) (.t 99), []⟩])
                           (.cond (.t 100)
                            (.seq
                             (.reg [4] [
                               ⟨none, (some 4), .mov (.c (.bool false)), []⟩])
                             .ret)
                            .skip))
                          (.seq
                           (.reg [4] [
                             ⟨none, (some 4), .mov (.c (.bool true)), []⟩])
                           .ret)))))))))))))))))))))))))
def c32 : Fn := { np := 2, nt := 101, kind := .pure, res := [.t 4], body := k32 }

/- laws.szStep -/
def k79 : Cd :=
  (.seq
   (.reg [2, 4] [
     ⟨none, (some 2), .mov (.t 0), []⟩,
     ⟨none, (some 4), .mov (.c (.int .i64 0)), []⟩])
   (.seq
    (.reg [1] [
      ⟨none, (some 5), .adrF 2 none 4, []⟩,
      ⟨none, (some 6), .ldV 2 (some 5) 1 false, []⟩,
      ⟨none, (some 7), .mov (.t 1), []⟩,
      ⟨none, (some 8), .call true 308 [.t 6, .t 7], []⟩,
      ⟨none, (some 1), .mov (.t 8), []⟩])
    (.seq
     (.seq
      (.reg [10] [
        ⟨none, (some 9), .mov (.t 1), []⟩,
        ⟨none, (some 10), .bin .lss (.t 9) (.c (.int .i64 0)), []⟩])
      (.cond (.t 10)
       (.seq
        (.reg [4] [
          ⟨none, (some 4), .mov (.c (.int .i64 (-1))), []⟩])
        .ret)
       .skip))
     (.seq
      (.reg [4] [
        ⟨none, (some 11), .mov (.t 1), []⟩,
        ⟨none, (some 4), .mov (.t 11), []⟩])
      .ret))))
def c79 : Fn := { np := 2, nt := 12, kind := .pure, res := [.t 4], body := k79 }

/- laws.toStep -/
def k81 : Cd :=
  (.seq
   (.reg [2, 4] [
     ⟨none, (some 2), .mov (.t 0), []⟩,
     ⟨none, (some 4), .zero true [.int .i8 0, .int .i8 0, .int .i8 0, .int .i8 0, .slice none 0 0], []⟩])
   (.seq
    (.reg [5] [
      ⟨none, (some 5), .zero true [.int .i8 0, .int .i8 0, .int .i8 0, .int .i8 0, .slice none 0 0], []⟩])
    (.seq
     (.reg [5] [
       ⟨none, (some 6), .adrF 2 none 0, []⟩,
       ⟨none, (some 7), .ldV 2 (some 6) 1 false, []⟩,
       ⟨none, (some 8), .adrF 5 none 0, []⟩,
       ⟨none, (some 5), .stV 5 (some 8) 1 (.t 7), []⟩])
     (.seq
      (.reg [5] [
        ⟨none, (some 9), .adrF 2 none 1, []⟩,
        ⟨none, (some 10), .ldV 2 (some 9) 1 false, []⟩,
        ⟨none, (some 11), .adrF 5 none 1, []⟩,
        ⟨none, (some 5), .stV 5 (some 11) 1 (.t 10), []⟩])
      (.seq
       (.reg [5] [
         ⟨none, (some 12), .adrF 2 none 2, []⟩,
         ⟨none, (some 13), .ldV 2 (some 12) 1 false, []⟩,
         ⟨none, (some 14), .adrF 5 none 2, []⟩,
         ⟨none, (some 5), .stV 5 (some 14) 1 (.t 13), []⟩])
       (.seq
        (.reg [5] [
          ⟨none, (some 15), .adrF 2 none 3, []⟩,
          ⟨none, (some 16), .ldV 2 (some 15) 1 false, []⟩,
          ⟨none, (some 17), .adrF 5 none 3, []⟩,
          ⟨none, (some 5), .stV 5 (some 17) 1 (.t 16), []⟩])
        (.seq
         (.reg [5] [
           ⟨none, (some 18), .adrF 2 none 4, []⟩,
           ⟨none, (some 19), .ldV 2 (some 18) 1 false, []⟩,
           ⟨none, (some 20), .mov (.t 1), []⟩,
           ⟨none, (some 21), .call true 311 [.t 19, .t 20], []⟩,
           ⟨none, (some 22), .adrF 5 none 4, []⟩,
           ⟨none, (some 5), .stV 5 (some 22) 1 (.t 21), []⟩])
         (.seq
          (.reg [4] [
            ⟨none, (some 23), .ldV 5 none 5 true, []⟩,
            ⟨none, (some 4), .stV 4 none 5 (.t 23), []⟩])
          .ret))))))))
def c81 : Fn := { np := 2, nt := 24, kind := .pure, res := [.v 4 5 true], body := k81 }

/- laws.intactStep -/
def k83 : Cd :=
  (.seq
   (.reg [2, 3, 4] [
     ⟨none, (some 2), .mov (.t 0), []⟩,
     ⟨none, (some 3), .mov (.t 1), []⟩,
     ⟨none, (some 4), .mov (.c (.bool false)), []⟩])
   (.seq
    (.seq
     (.reg [9] [
       ⟨none, (some 5), .adrF 2 none 0, []⟩,
       ⟨none, (some 6), .ldV 2 (some 5) 1 false, []⟩,
       ⟨none, (some 7), .adrF 3 none 0, []⟩,
       ⟨none, (some 8), .ldV 3 (some 7) 1 false, []⟩,
       ⟨none, (some 9), .bin .neq (.t 6) (.t 8), []⟩])
     (.cond (.t 9)
      (.seq
       (.reg [4] [
         ⟨none, (some 4), .mov (.c (.bool false)), []⟩])
       .ret)
      .skip))
    (.seq
     (.seq
      (.reg [14] [
        ⟨none, (some 10), .adrF 2 none 1, []⟩,
        ⟨none, (some 11), .ldV 2 (some 10) 1 false, []⟩,
        ⟨none, (some 12), .adrF 3 none 1, []⟩,
        ⟨none, (some 13), .ldV 3 (some 12) 1 false, []⟩,
        ⟨none, (some 14), .bin .neq (.t 11) (.t 13), []⟩])
      (.cond (.t 14)
       (.seq
        (.reg [4] [
          ⟨none, (some 4), .mov (.c (.bool false)), []⟩])
        .ret)
       .skip))
     (.seq
      (.seq
       (.reg [19] [
         ⟨none, (some 15), .adrF 2 none 2, []⟩,
         ⟨none, (some 16), .ldV 2 (some 15) 1 false, []⟩,
         ⟨none, (some 17), .adrF 3 none 2, []⟩,
         ⟨none, (some 18), .ldV 3 (some 17) 1 false, []⟩,
         ⟨none, (some 19), .bin .neq (.t 16) (.t 18), []⟩])
       (.cond (.t 19)
        (.seq
         (.reg [4] [
           ⟨none, (some 4), .mov (.c (.bool false)), []⟩])
         .ret)
        .skip))
      (.seq
       (.seq
        (.reg [24] [
          ⟨none, (some 20), .adrF 2 none 3, []⟩,
          ⟨none, (some 21), .ldV 2 (some 20) 1 false, []⟩,
          ⟨none, (some 22), .adrF 3 none 3, []⟩,
          ⟨none, (some 23), .ldV 3 (some 22) 1 false, []⟩,
          ⟨none, (some 24), .bin .neq (.t 21) (.t 23), []⟩])
        (.cond (.t 24)
         (.seq
          (.reg [4] [
            ⟨none, (some 4), .mov (.c (.bool false)), []⟩])
          .ret)
         .skip))
       (.seq
        (.seq
         (.reg [30] [
           ⟨none, (some 25), .adrF 2 none 4, []⟩,
           ⟨none, (some 26), .ldV 2 (some 25) 1 false, []⟩,
           ⟨none, (some 27), .adrF 3 none 4, []⟩,
           ⟨none, (some 28), .ldV 3 (some 27) 1 false, []⟩,
           ⟨none, (some 29), .call true 313 [.t 26, .t 28], []⟩,
           ⟨none, (some 30), .un .not (.t 29), []⟩])
         (.cond (.t 30)
          (.seq
           (.reg [4] [
             ⟨none, (some 4), .mov (.c (.bool false)), []⟩])
           .ret)
          .skip))
        (.seq
         (.reg [4] [
           ⟨none, (some 4), .mov (.c (.bool true)), []⟩])
         .ret)))))))
def c83 : Fn := { np := 2, nt := 31, kind := .pure, res := [.t 4], body := k83 }

/- laws.szStepS -/
def b157_1 : Cd :=
  (.seq
   (.seq
    (.reg [15] [
      ⟨none, (some 12), .mov (.t 5), []⟩,
      ⟨none, (some 13), .mov (.t 0), []⟩,
      ⟨none, (some 14), .len (.t 13), []⟩,
      ⟨none, (some 15), .bin .lss (.t 12) (.t 14), []⟩])
    (.cond (.t 15)
     .skip
     (.exit 0)))
   (.seq
    (.block 1
     (.seq
      (.reg [1] [
        ⟨none, (some 18), .mov (.t 0), []⟩,
        ⟨none, (some 19), .mov (.t 5), []⟩,
        ⟨none, (some 20), .idxA 5 (.t 18) (.t 19), []⟩,
        ⟨none, (some 21), .ld 5 true (.t 20), []⟩,
        ⟨none, (some 22), .mov (.t 1), []⟩,
        ⟨none, (some 23), .call true 79 [.t 21, .t 22], []⟩,
        ⟨none, (some 1), .mov (.t 23), []⟩])
      (.seq
       (.reg [25] [
         ⟨none, (some 24), .mov (.t 1), []⟩,
         ⟨none, (some 25), .bin .lss (.t 24) (.c (.int .i64 0)), []⟩])
       (.cond (.t 25)
        (.seq
         (.reg [4] [
           ⟨none, (some 4), .mov (.c (.int .i64 (-1))), []⟩])
         .ret)
        .skip))))
    (.reg [5] [
      ⟨none, (some 16), .mov (.t 5), []⟩,
      ⟨none, (some 17), .bin .add (.t 16) (.c (.int .i64 1)), []⟩,
      ⟨none, (some 5), .mov (.t 17), []⟩])))
def k157 : Cd :=
  (.seq
   (.reg [4] [
     ⟨none, (some 4), .mov (.c (.int .i64 0)), []⟩])
   (.seq
    (.reg [1] [
      ⟨none, (some 6), .mov (.t 1), []⟩,
      ⟨none, (some 7), .mov (.t 0), []⟩,
      ⟨none, (some 8), .len (.t 7), []⟩,
      ⟨none, (some 9), .bin .sub (.t 6) (.t 8), []⟩,
      ⟨none, (some 1), .mov (.t 9), []⟩])
    (.seq
     (.seq
      (.reg [11] [
        ⟨none, (some 10), .mov (.t 1), []⟩,
        ⟨none, (some 11), .bin .lss (.t 10) (.c (.int .i64 0)), []⟩])
      (.cond (.t 11)
       (.seq
        (.reg [4] [
          ⟨none, (some 4), .mov (.c (.int .i64 (-1))), []⟩])
        .ret)
       .skip))
     (.seq
      (.seq
       (.reg [5] [
         ⟨none, (some 5), .mov (.c (.int .i64 0)), []⟩])
       (.block 0
        (.loop b157_1)))
      (.seq
       (.reg [4] [
         ⟨none, (some 26), .mov (.t 1), []⟩,
         ⟨none, (some 4), .mov (.t 26), []⟩])
       .ret)))))
def c157 : Fn := { np := 2, nt := 27, kind := .pure, res := [.t 4], body := k157 }

/- laws.toStepS -/
def b159_1 : Cd :=
  (.seq
   (.seq
    (.reg [24] [
      ⟨none, (some 21), .mov (.t 6), []⟩,
      ⟨none, (some 22), .mov (.t 0), []⟩,
      ⟨none, (some 23), .len (.t 22), []⟩,
      ⟨none, (some 24), .bin .lss (.t 21) (.t 23), []⟩])
    (.cond (.t 24)
     .skip
     (.exit 0)))
   (.seq
    (.block 1
     (.reg [] [
       ⟨none, (some 27), .mov (.t 5), []⟩,
       ⟨none, (some 28), .mov (.t 6), []⟩,
       ⟨none, (some 29), .mov (.t 0), []⟩,
       ⟨none, (some 30), .mov (.t 6), []⟩,
       ⟨none, (some 31), .idxA 5 (.t 29) (.t 30), []⟩,
       ⟨none, (some 32), .ld 5 true (.t 31), []⟩,
       ⟨none, (some 33), .mov (.t 1), []⟩,
       ⟨none, (some 34), .call true 81 [.t 32, .t 33], []⟩,
       ⟨none, (some 35), .idxA 5 (.t 27) (.t 28), []⟩,
       ⟨none, none, .st 5 (.t 35) (.t 34), []⟩]))
    (.reg [6] [
      ⟨none, (some 25), .mov (.t 6), []⟩,
      ⟨none, (some 26), .bin .add (.t 25) (.c (.int .i64 1)), []⟩,
      ⟨none, (some 6), .mov (.t 26), []⟩])))
def b159_2 : Cd :=
  (.seq
   (.seq
    (.reg [41] [
      ⟨none, (some 38), .mov (.t 7), []⟩,
      ⟨none, (some 39), .mov (.t 5), []⟩,
      ⟨none, (some 40), .len (.t 39), []⟩,
      ⟨none, (some 41), .bin .lss (.t 38) (.t 40), []⟩])
    (.cond (.t 41)
     .skip
     (.exit 2)))
   (.seq
    (.block 3
     (.reg [] [
       ⟨none, (some 44), .mov (.t 5), []⟩,
       ⟨none, (some 45), .mov (.t 7), []⟩,
       ⟨none, (some 46), .call true 382 [], []⟩,
       ⟨none, (some 47), .idxA 5 (.t 44) (.t 45), []⟩,
       ⟨none, none, .st 5 (.t 47) (.t 46), []⟩]))
    (.reg [7] [
      ⟨none, (some 42), .mov (.t 7), []⟩,
      ⟨none, (some 43), .bin .add (.t 42) (.c (.int .i64 1)), []⟩,
      ⟨none, (some 7), .mov (.t 43), []⟩])))
def k159 : Cd :=
  (.seq
   (.reg [4] [
     ⟨none, (some 4), .mov (.c (.slice none 0 0)), []⟩])
   (.seq
    (.seq
     (.reg [13] [
       ⟨none, (some 8), .mov (.t 1), []⟩,
       ⟨none, (some 9), .mov (.t 8), []⟩,
       ⟨(some (9, true)), (some 10), .mov (.t 0), []⟩,
       ⟨(some (9, true)), (some 11), .len (.t 10), []⟩,
       ⟨(some (9, true)), (some 12), .bin .eql (.t 11) (.c (.int .i64 0)), []⟩,
       ⟨none, (some 13), .pick (.t 9) (.t 12) (.c (.bool false)), []⟩])
     (.cond (.t 13)
      (.seq
       (.reg [4] [
         ⟨none, (some 4), .mov (.c (.slice none 0 0)), []⟩])
       .ret)
      .skip))
    (.seq
     (.reg [5] [
       ⟨none, (some 14), .mov (.t 0), []⟩,
       ⟨none, (some 15), .len (.t 14), []⟩,
       ⟨none, (some 16), .mov (.t 0), []⟩,
       ⟨none, (some 17), .len (.t 16), []⟩,
       ⟨none, (some 18), .call true 296 [.t 17], []⟩,
       ⟨none, (some 19), .bin .add (.t 15) (.t 18), []⟩,
       ⟨none, (some 20), .mkS 5 32 [.int .i8 0, .int .i8 0, .int .i8 0, .int .i8 0, .slice none 0 0] (.t 19) (.t 19), []⟩,
       ⟨none, (some 5), .mov (.t 20), []⟩])
     (.seq
      (.seq
       (.reg [6] [
         ⟨none, (some 6), .mov (.c (.int .i64 0)), []⟩])
       (.block 0
        (.loop b159_1)))
      (.seq
       (.seq
        (.reg [7] [
          ⟨none, (some 36), .mov (.t 0), []⟩,
          ⟨none, (some 37), .len (.t 36), []⟩,
          ⟨none, (some 7), .mov (.t 37), []⟩])
        (.block 2
         (.loop b159_2)))
       (.seq
        (.reg [4] [
          ⟨none, (some 48), .mov (.t 5), []⟩,
          ⟨none, (some 49), .mov (.t 0), []⟩,
          ⟨none, (some 50), .len (.t 49), []⟩,
          ⟨none, (some 51), .slcA 5 (.t 48) none (some (.t 50)) none, []⟩,
          ⟨none, (some 4), .mov (.t 51), []⟩])
        .ret))))))
def c159 : Fn := { np := 2, nt := 52, kind := .pure, res := [.t 4], body := k159 }

/- laws.intactStepS -/
def b161_1 : Cd :=
  (.seq
   (.seq
    (.reg [21] [
      ⟨none, (some 18), .mov (.t 6), []⟩,
      ⟨none, (some 19), .mov (.t 1), []⟩,
      ⟨none, (some 20), .len (.t 19), []⟩,
      ⟨none, (some 21), .bin .lss (.t 18) (.t 20), []⟩])
    (.cond (.t 21)
     .skip
     (.exit 0)))
   (.seq
    (.block 1
     (.seq
      (.reg [33] [
        ⟨none, (some 24), .mov (.t 0), []⟩,
        ⟨none, (some 25), .mov (.t 6), []⟩,
        ⟨none, (some 26), .idxA 5 (.t 24) (.t 25), []⟩,
        ⟨none, (some 27), .ld 5 true (.t 26), []⟩,
        ⟨none, (some 28), .mov (.t 1), []⟩,
        ⟨none, (some 29), .mov (.t 6), []⟩,
        ⟨none, (some 30), .idxA 5 (.t 28) (.t 29), []⟩,
        ⟨none, (some 31), .ld 5 true (.t 30), []⟩,
        ⟨none, (some 32), .call true 83 [.t 27, .t 31], []⟩,
        ⟨none, (some 33), .un .not (.t 32), []⟩])
      (.cond (.t 33)
       (.seq
        (.reg [4] [
          ⟨none, (some 4), .mov (.c (.bool false)), []⟩])
        .ret)
       .skip)))
    (.reg [6] [
      ⟨none, (some 22), .mov (.t 6), []⟩,
      ⟨none, (some 23), .bin .add (.t 22) (.c (.int .i64 1)), []⟩,
      ⟨none, (some 6), .mov (.t 23), []⟩])))
def k161 : Cd :=
  (.seq
   (.reg [4] [
     ⟨none, (some 4), .mov (.c (.bool false)), []⟩])
   (.seq
    (.reg [5] [
      ⟨none, (some 7), .mov (.t 1), []⟩,
      ⟨none, (some 8), .len (.t 7), []⟩,
      ⟨none, (some 9), .mov (.t 1), []⟩,
      ⟨none, (some 10), .len (.t 9), []⟩,
      ⟨none, (some 11), .call true 296 [.t 10], []⟩,
      ⟨none, (some 12), .bin .add (.t 8) (.t 11), []⟩,
      ⟨none, (some 5), .mov (.t 12), []⟩])
    (.seq
     (.seq
      (.reg [17] [
        ⟨none, (some 13), .mov (.t 0), []⟩,
        ⟨none, (some 14), .len (.t 13), []⟩,
        ⟨none, (some 15), .mov (.t 1), []⟩,
        ⟨none, (some 16), .len (.t 15), []⟩,
        ⟨none, (some 17), .bin .neq (.t 14) (.t 16), []⟩])
      (.cond (.t 17)
       (.seq
        (.reg [4] [
          ⟨none, (some 4), .mov (.c (.bool false)), []⟩])
        .ret)
       .skip))
     (.seq
      (.seq
       (.reg [6] [
         ⟨none, (some 6), .mov (.c (.int .i64 0)), []⟩])
       (.block 0
        (.loop b161_1)))
      (.seq
       (.reg [4] [
         ⟨none, (some 34), .mov (.t 0), []⟩,
         ⟨none, (some 35), .mov (.t 1), []⟩,
         ⟨none, (some 36), .len (.t 35), []⟩,
         ⟨none, (some 37), .mov (.t 5), []⟩,
         ⟨none, (some 38), .slcA 5 (.t 34) (some (.t 36)) (some (.t 37)) none, []⟩,
         ⟨none, (some 39), .mov (.t 1), []⟩,
         ⟨none, (some 40), .mov (.t 1), []⟩,
         ⟨none, (some 41), .len (.t 40), []⟩,
         ⟨none, (some 42), .mov (.t 5), []⟩,
         ⟨none, (some 43), .slcA 5 (.t 39) (some (.t 41)) (some (.t 42)) none, []⟩,
         ⟨none, (some 44), .call true 213 [.t 38, .t 43], []⟩,
         ⟨none, (some 4), .mov (.t 44), []⟩])
       .ret)))))
def c161 : Fn := { np := 2, nt := 45, kind := .pure, res := [.t 4], body := k161 }

/- impl.ValidSteps -/
def b163_1 : Cd :=
  (.seq
   (.reg [8] [
     ⟨none, (some 8), .bin .lss (.t 7) (.t 6), []⟩])
   (.seq
    (.cond (.t 8)
     .skip
     (.exit 0))
    (.seq
     (.block 1
      (.seq
       (.reg [4, 3] [
         ⟨none, (some 9), .mov (.t 7), []⟩,
         ⟨none, (some 10), .idxA 5 (.t 5) (.t 7), []⟩,
         ⟨none, (some 11), .ld 5 true (.t 10), []⟩,
         ⟨none, (some 4), .zero true [.int .i8 0, .int .i8 0, .int .i8 0, .int .i8 0, .slice none 0 0], []⟩,
         ⟨none, (some 3), .mov (.t 9), []⟩,
         ⟨none, (some 4), .stV 4 none 5 (.t 11), []⟩])
       (.seq
        (.reg [15] [
          ⟨none, (some 12), .ldV 4 none 5 true, []⟩,
          ⟨none, (some 13), .mov (.t 3), []⟩,
          ⟨none, (some 14), .call true 387 [.t 12, .t 13], []⟩,
          ⟨none, (some 15), .un .not (.t 14), []⟩])
        (.cond (.t 15)
         (.seq
          (.reg [2] [
            ⟨none, (some 2), .mov (.c (.bool false)), []⟩])
          .ret)
         .skip))))
     (.reg [7] [
       ⟨none, (some 16), .bin .add (.t 7) (.c (.int .i64 1)), []⟩,
       ⟨none, (some 7), .mov (.t 16), []⟩]))))
def k163 : Cd :=
  (.seq
   (.reg [2] [
     ⟨none, (some 2), .mov (.c (.bool false)), []⟩])
   (.seq
    (.seq
     (.reg [5, 6, 7] [
       ⟨none, (some 5), .mov (.t 0), []⟩,
       ⟨none, (some 6), .len (.t 5), []⟩,
       ⟨none, (some 7), .mov (.c (.int .i64 0)), []⟩])
     (.block 0
      (.loop b163_1)))
    (.seq
     (.reg [2] [
       ⟨none, (some 17), .mov (.t 0), []⟩,
       ⟨none, (some 18), .len (.t 17), []⟩,
       ⟨none, (some 19), .bin .leq (.t 18) (.c (.int .i64 40)), []⟩,
       ⟨none, (some 2), .mov (.t 19), []⟩])
     .ret)))
def c163 : Fn := { np := 1, nt := 20, kind := .pure, res := [.t 2], body := k163 }

/- laws.eqStep -/
def k166 : Cd :=
  (.seq
   (.reg [2, 3, 4] [
     ⟨none, (some 2), .mov (.t 0), []⟩,
     ⟨none, (some 3), .mov (.t 1), []⟩,
     ⟨none, (some 4), .mov (.c (.bool false)), []⟩])
   (.seq
    (.seq
     (.reg [9] [
       ⟨none, (some 5), .adrF 2 none 0, []⟩,
       ⟨none, (some 6), .ldV 2 (some 5) 1 false, []⟩,
       ⟨none, (some 7), .adrF 3 none 0, []⟩,
       ⟨none, (some 8), .ldV 3 (some 7) 1 false, []⟩,
       ⟨none, (some 9), .bin .neq (.t 6) (.t 8), []⟩])
     (.cond (.t 9)
      (.seq
       (.reg [4] [
         ⟨none, (some 4), .mov (.c (.bool false)), []⟩])
       .ret)
      .skip))
    (.seq
     (.seq
      (.reg [14] [
        ⟨none, (some 10), .adrF 2 none 1, []⟩,
        ⟨none, (some 11), .ldV 2 (some 10) 1 false, []⟩,
        ⟨none, (some 12), .adrF 3 none 1, []⟩,
        ⟨none, (some 13), .ldV 3 (some 12) 1 false, []⟩,
        ⟨none, (some 14), .bin .neq (.t 11) (.t 13), []⟩])
      (.cond (.t 14)
       (.seq
        (.reg [4] [
          ⟨none, (some 4), .mov (.c (.bool false)), []⟩])
        .ret)
       .skip))
     (.seq
      (.seq
       (.reg [19] [
         ⟨none, (some 15), .adrF 2 none 2, []⟩,
         ⟨none, (some 16), .ldV 2 (some 15) 1 false, []⟩,
         ⟨none, (some 17), .adrF 3 none 2, []⟩,
         ⟨none, (some 18), .ldV 3 (some 17) 1 false, []⟩,
         ⟨none, (some 19), .bin .neq (.t 16) (.t 18), []⟩])
       (.cond (.t 19)
        (.seq
         (.reg [4] [
           ⟨none, (some 4), .mov (.c (.bool false)), []⟩])
         .ret)
        .skip))
      (.seq
       (.seq
        (.reg [24] [
          ⟨none, (some 20), .adrF 2 none 3, []⟩,
          ⟨none, (some 21), .ldV 2 (some 20) 1 false, []⟩,
          ⟨none, (some 22), .adrF 3 none 3, []⟩,
          ⟨none, (some 23), .ldV 3 (some 22) 1 false, []⟩,
          ⟨none, (some 24), .bin .neq (.t 21) (.t 23), []⟩])
        (.cond (.t 24)
         (.seq
          (.reg [4] [
            ⟨none, (some 4), .mov (.c (.bool false)), []⟩])
          .ret)
         .skip))
       (.seq
        (.seq
         (.reg [30] [
           ⟨none, (some 25), .adrF 2 none 4, []⟩,
           ⟨none, (some 26), .ldV 2 (some 25) 1 false, []⟩,
           ⟨none, (some 27), .adrF 3 none 4, []⟩,
           ⟨none, (some 28), .ldV 3 (some 27) 1 false, []⟩,
           ⟨none, (some 29), .call true 390 [.t 26, .t 28], []⟩,
           ⟨none, (some 30), .un .not (.t 29), []⟩])
         (.cond (.t 30)
          (.seq
           (.reg [4] [
             ⟨none, (some 4), .mov (.c (.bool false)), []⟩])
           .ret)
          .skip))
        (.seq
         (.reg [4] [
           ⟨none, (some 4), .mov (.c (.bool true)), []⟩])
         .ret)))))))
def c166 : Fn := { np := 2, nt := 31, kind := .pure, res := [.t 4], body := k166 }

/- laws.eqInt64S -/
def b180_1 : Cd :=
  (.seq
   (.seq
    (.reg [14] [
      ⟨none, (some 11), .mov (.t 5), []⟩,
      ⟨none, (some 12), .mov (.t 0), []⟩,
      ⟨none, (some 13), .len (.t 12), []⟩,
      ⟨none, (some 14), .bin .lss (.t 11) (.t 13), []⟩])
    (.cond (.t 14)
     .skip
     (.exit 0)))
   (.seq
    (.block 1
     (.seq
      (.reg [25] [
        ⟨none, (some 17), .mov (.t 0), []⟩,
        ⟨none, (some 18), .mov (.t 5), []⟩,
        ⟨none, (some 19), .idxA 1 (.t 17) (.t 18), []⟩,
        ⟨none, (some 20), .ld 1 false (.t 19), []⟩,
        ⟨none, (some 21), .mov (.t 1), []⟩,
        ⟨none, (some 22), .mov (.t 5), []⟩,
        ⟨none, (some 23), .idxA 1 (.t 21) (.t 22), []⟩,
        ⟨none, (some 24), .ld 1 false (.t 23), []⟩,
        ⟨none, (some 25), .bin .neq (.t 20) (.t 24), []⟩])
      (.cond (.t 25)
       (.seq
        (.reg [4] [
          ⟨none, (some 4), .mov (.c (.bool false)), []⟩])
        .ret)
       .skip)))
    (.reg [5] [
      ⟨none, (some 15), .mov (.t 5), []⟩,
      ⟨none, (some 16), .bin .add (.t 15) (.c (.int .i64 1)), []⟩,
      ⟨none, (some 5), .mov (.t 16), []⟩])))
def k180 : Cd :=
  (.seq
   (.reg [4] [
     ⟨none, (some 4), .mov (.c (.bool false)), []⟩])
   (.seq
    (.seq
     (.reg [10] [
       ⟨none, (some 6), .mov (.t 0), []⟩,
       ⟨none, (some 7), .len (.t 6), []⟩,
       ⟨none, (some 8), .mov (.t 1), []⟩,
       ⟨none, (some 9), .len (.t 8), []⟩,
       ⟨none, (some 10), .bin .neq (.t 7) (.t 9), []⟩])
     (.cond (.t 10)
      (.seq
       (.reg [4] [
         ⟨none, (some 4), .mov (.c (.bool false)), []⟩])
       .ret)
      .skip))
    (.seq
     (.seq
      (.reg [5] [
        ⟨none, (some 5), .mov (.c (.int .i64 0)), []⟩])
      (.block 0
       (.loop b180_1)))
     (.seq
      (.reg [4] [
        ⟨none, (some 4), .mov (.c (.bool true)), []⟩])
      .ret))))
def c180 : Fn := { np := 2, nt := 26, kind := .pure, res := [.t 4], body := k180 }

/- laws.markStepS -/
def b181_1 : Cd :=
  (.seq
   (.seq
    (.reg [9] [
      ⟨none, (some 6), .mov (.t 5), []⟩,
      ⟨none, (some 7), .mov (.t 0), []⟩,
      ⟨none, (some 8), .len (.t 7), []⟩,
      ⟨none, (some 9), .bin .lss (.t 6) (.t 8), []⟩])
    (.cond (.t 9)
     .skip
     (.exit 0)))
   (.seq
    (.block 1
     (.seq
      (.reg [] [
        ⟨none, (some 12), .mov (.t 0), []⟩,
        ⟨none, (some 13), .mov (.t 5), []⟩,
        ⟨none, (some 14), .mov (.t 1), []⟩,
        ⟨none, (some 15), .conv .i8 (.t 14), []⟩,
        ⟨none, (some 16), .idxA 5 (.t 12) (.t 13), []⟩,
        ⟨none, (some 17), .fldP 0 (.t 16), []⟩,
        ⟨none, none, .st 1 (.t 17) (.t 15), []⟩])
      (.seq
       (.reg [1] [
         ⟨none, (some 18), .mov (.t 1), []⟩,
         ⟨none, (some 19), .bin .add (.t 18) (.c (.int .i64 1)), []⟩,
         ⟨none, (some 1), .mov (.t 19), []⟩])
       (.seq
        (.reg [] [
          ⟨none, (some 20), .mov (.t 0), []⟩,
          ⟨none, (some 21), .mov (.t 5), []⟩,
          ⟨none, (some 22), .mov (.t 1), []⟩,
          ⟨none, (some 23), .conv .i8 (.t 22), []⟩,
          ⟨none, (some 24), .idxA 5 (.t 20) (.t 21), []⟩,
          ⟨none, (some 25), .fldP 1 (.t 24), []⟩,
          ⟨none, none, .st 1 (.t 25) (.t 23), []⟩])
        (.seq
         (.reg [1] [
           ⟨none, (some 26), .mov (.t 1), []⟩,
           ⟨none, (some 27), .bin .add (.t 26) (.c (.int .i64 1)), []⟩,
           ⟨none, (some 1), .mov (.t 27), []⟩])
         (.seq
          (.reg [] [
            ⟨none, (some 28), .mov (.t 0), []⟩,
            ⟨none, (some 29), .mov (.t 5), []⟩,
            ⟨none, (some 30), .mov (.t 1), []⟩,
            ⟨none, (some 31), .conv .i8 (.t 30), []⟩,
            ⟨none, (some 32), .idxA 5 (.t 28) (.t 29), []⟩,
            ⟨none, (some 33), .fldP 2 (.t 32), []⟩,
            ⟨none, none, .st 1 (.t 33) (.t 31), []⟩])
          (.seq
           (.reg [1] [
             ⟨none, (some 34), .mov (.t 1), []⟩,
             ⟨none, (some 35), .bin .add (.t 34) (.c (.int .i64 1)), []⟩,
             ⟨none, (some 1), .mov (.t 35), []⟩])
           (.seq
            (.reg [] [
              ⟨none, (some 36), .mov (.t 0), []⟩,
              ⟨none, (some 37), .mov (.t 5), []⟩,
              ⟨none, (some 38), .mov (.t 1), []⟩,
              ⟨none, (some 39), .conv .i8 (.t 38), []⟩,
              ⟨none, (some 40), .idxA 5 (.t 36) (.t 37), []⟩,
              ⟨none, (some 41), .fldP 3 (.t 40), []⟩,
              ⟨none, none, .st 1 (.t 41) (.t 39), []⟩])
            (.seq
             (.reg [1] [
               ⟨none, (some 42), .mov (.t 1), []⟩,
               ⟨none, (some 43), .bin .add (.t 42) (.c (.int .i64 1)), []⟩,
               ⟨none, (some 1), .mov (.t 43), []⟩])
             (.reg [1] [
               ⟨none, (some 44), .mov (.t 0), []⟩,
               ⟨none, (some 45), .mov (.t 5), []⟩,
               ⟨none, (some 46), .idxA 5 (.t 44) (.t 45), []⟩,
               ⟨none, (some 47), .fldP 4 (.t 46), []⟩,
               ⟨none, (some 48), .ld 1 false (.t 47), []⟩,
               ⟨none, (some 49), .mov (.t 1), []⟩,
               ⟨none, (some 50), .call false 391 [.t 48, .t 49], []⟩,
               ⟨none, (some 1), .mov (.t 50), []⟩]))))))))))
    (.reg [5] [
      ⟨none, (some 10), .mov (.t 5), []⟩,
      ⟨none, (some 11), .bin .add (.t 10) (.c (.int .i64 1)), []⟩,
      ⟨none, (some 5), .mov (.t 11), []⟩])))
def k181 : Cd :=
  (.seq
   (.reg [4] [
     ⟨none, (some 4), .mov (.c (.int .i64 0)), []⟩])
   (.seq
    (.seq
     (.reg [5] [
       ⟨none, (some 5), .mov (.c (.int .i64 0)), []⟩])
     (.block 0
      (.loop b181_1)))
    (.seq
     (.reg [4] [
       ⟨none, (some 51), .mov (.t 1), []⟩,
       ⟨none, (some 4), .mov (.t 51), []⟩])
     .ret)))
def c181 : Fn := { np := 2, nt := 52, kind := .args, res := [.t 4], body := k181 }

/- laws.markInt64S -/
def b182_1 : Cd :=
  (.seq
   (.seq
    (.reg [9] [
      ⟨none, (some 6), .mov (.t 5), []⟩,
      ⟨none, (some 7), .mov (.t 0), []⟩,
      ⟨none, (some 8), .len (.t 7), []⟩,
      ⟨none, (some 9), .bin .lss (.t 6) (.t 8), []⟩])
    (.cond (.t 9)
     .skip
     (.exit 0)))
   (.seq
    (.block 1
     (.seq
      (.reg [] [
        ⟨none, (some 12), .mov (.t 0), []⟩,
        ⟨none, (some 13), .mov (.t 5), []⟩,
        ⟨none, (some 14), .mov (.t 1), []⟩,
        ⟨none, (some 15), .idxA 1 (.t 12) (.t 13), []⟩,
        ⟨none, none, .st 1 (.t 15) (.t 14), []⟩])
      (.reg [1] [
        ⟨none, (some 16), .mov (.t 1), []⟩,
        ⟨none, (some 17), .bin .add (.t 16) (.c (.int .i64 1)), []⟩,
        ⟨none, (some 1), .mov (.t 17), []⟩])))
    (.reg [5] [
      ⟨none, (some 10), .mov (.t 5), []⟩,
      ⟨none, (some 11), .bin .add (.t 10) (.c (.int .i64 1)), []⟩,
      ⟨none, (some 5), .mov (.t 11), []⟩])))
def k182 : Cd :=
  (.seq
   (.reg [4] [
     ⟨none, (some 4), .mov (.c (.int .i64 0)), []⟩])
   (.seq
    (.seq
     (.reg [5] [
       ⟨none, (some 5), .mov (.c (.int .i64 0)), []⟩])
     (.block 0
      (.loop b182_1)))
    (.seq
     (.reg [4] [
       ⟨none, (some 18), .mov (.t 1), []⟩,
       ⟨none, (some 4), .mov (.t 18), []⟩])
     .ret)))
def c182 : Fn := { np := 2, nt := 19, kind := .args, res := [.t 4], body := k182 }

/- laws.heldInt64S -/
def b183_1 : Cd :=
  (.seq
   (.seq
    (.reg [9] [
      ⟨none, (some 6), .mov (.t 5), []⟩,
      ⟨none, (some 7), .mov (.t 0), []⟩,
      ⟨none, (some 8), .len (.t 7), []⟩,
      ⟨none, (some 9), .bin .lss (.t 6) (.t 8), []⟩])
    (.cond (.t 9)
     .skip
     (.exit 0)))
   (.seq
    (.block 1
     (.seq
      (.seq
       (.reg [17] [
         ⟨none, (some 12), .mov (.t 0), []⟩,
         ⟨none, (some 13), .mov (.t 5), []⟩,
         ⟨none, (some 14), .idxA 1 (.t 12) (.t 13), []⟩,
         ⟨none, (some 15), .ld 1 false (.t 14), []⟩,
         ⟨none, (some 16), .mov (.t 1), []⟩,
         ⟨none, (some 17), .bin .neq (.t 15) (.t 16), []⟩])
       (.cond (.t 17)
        (.seq
         (.reg [4] [
           ⟨none, (some 4), .mov (.c (.int .i64 (-1))), []⟩])
         .ret)
        .skip))
      (.reg [1] [
        ⟨none, (some 18), .mov (.t 1), []⟩,
        ⟨none, (some 19), .bin .add (.t 18) (.c (.int .i64 1)), []⟩,
        ⟨none, (some 1), .mov (.t 19), []⟩])))
    (.reg [5] [
      ⟨none, (some 10), .mov (.t 5), []⟩,
      ⟨none, (some 11), .bin .add (.t 10) (.c (.int .i64 1)), []⟩,
      ⟨none, (some 5), .mov (.t 11), []⟩])))
def k183 : Cd :=
  (.seq
   (.reg [4] [
     ⟨none, (some 4), .mov (.c (.int .i64 0)), []⟩])
   (.seq
    (.seq
     (.reg [5] [
       ⟨none, (some 5), .mov (.c (.int .i64 0)), []⟩])
     (.block 0
      (.loop b183_1)))
    (.seq
     (.reg [4] [
       ⟨none, (some 20), .mov (.t 1), []⟩,
       ⟨none, (some 4), .mov (.t 20), []⟩])
     .ret)))
def c183 : Fn := { np := 2, nt := 21, kind := .pure, res := [.t 4], body := k183 }

/- spec.PagesLost -/
def b184_1 : Cd :=
  (.seq
   (.seq
    (.reg [23] [
      ⟨none, (some 20), .mov (.t 8), []⟩,
      ⟨none, (some 21), .mov (.t 0), []⟩,
      ⟨none, (some 22), .len (.t 21), []⟩,
      ⟨none, (some 23), .bin .lss (.t 20) (.t 22), []⟩])
    (.cond (.t 23)
     .skip
     (.exit 0)))
   (.seq
    (.block 1
     (.seq
      (.reg [41] [
        ⟨none, (some 26), .mov (.t 0), []⟩,
        ⟨none, (some 27), .mov (.t 8), []⟩,
        ⟨none, (some 28), .idxA 5 (.t 26) (.t 27), []⟩,
        ⟨none, (some 29), .fldP 0 (.t 28), []⟩,
        ⟨none, (some 30), .ld 1 false (.t 29), []⟩,
        ⟨none, (some 31), .bin .neq (.t 30) (.c (.int .i8 0)), []⟩,
        ⟨none, (some 32), .mov (.t 31), []⟩,
        ⟨(some (32, true)), (some 33), .mov (.t 7), []⟩,
        ⟨(some (32, true)), (some 34), .mov (.t 0), []⟩,
        ⟨(some (32, true)), (some 35), .mov (.t 8), []⟩,
        ⟨(some (32, true)), (some 36), .idxA 5 (.t 34) (.t 35), []⟩,
        ⟨(some (32, true)), (some 37), .fldP 1 (.t 36), []⟩,
        ⟨(some (32, true)), (some 38), .ld 1 false (.t 37), []⟩,
        ⟨(some (32, true)), (some 39), .conv .i64 (.t 38), []⟩,
        ⟨(some (32, true)), (some 40), .call true 401 [.t 33, .t 39], []⟩,
        ⟨none, (some 41), .pick (.t 32) (.t 40) (.c (.bool false)), []⟩])
      (.cond (.t 41)
       (.reg [7] [
         ⟨none, (some 42), .mov (.t 7), []⟩,
         ⟨none, (some 43), .mov (.t 8), []⟩,
         ⟨none, (some 44), .bldS 1 1 [.int .i64 0] [(0, 1, (.t 43))], []⟩,
         ⟨none, (some 45), .app 1 8 (.t 42) (.t 44), []⟩,
         ⟨none, (some 7), .mov (.t 45), []⟩])
       .skip)))
    (.reg [8] [
      ⟨none, (some 24), .mov (.t 8), []⟩,
      ⟨none, (some 25), .bin .add (.t 24) (.c (.int .i64 1)), []⟩,
      ⟨none, (some 8), .mov (.t 25), []⟩])))
def k184 : Cd :=
  (.seq
   (.reg [4, 5] [
     ⟨none, (some 4), .mov (.c (.slice none 0 0)), []⟩,
     ⟨none, (some 5), .mov (.c (.int .i64 0)), []⟩])
   (.seq
    (.seq
     (.reg [6] [
       ⟨none, (some 9), .mov (.t 0), []⟩,
       ⟨none, (some 10), .mov (.t 1), []⟩,
       ⟨none, (some 11), .call true 398 [.t 9, .t 10], []⟩,
       ⟨none, (some 6), .mov (.t 11), []⟩])
     (.seq
      (.reg [13] [
        ⟨none, (some 12), .mov (.t 6), []⟩,
        ⟨none, (some 13), .bin .neq (.t 12) (.c (.int .i64 0)), []⟩])
      (.cond (.t 13)
       (.seq
        (.reg [4, 5] [
          ⟨none, (some 14), .bldS 1 0 [.int .i64 0] [], []⟩,
          ⟨none, (some 15), .mov (.t 6), []⟩,
          ⟨none, (some 4), .mov (.t 14), []⟩,
          ⟨none, (some 5), .mov (.t 15), []⟩])
        .ret)
       .skip)))
    (.seq
     (.reg [7] [
       ⟨none, (some 16), .mov (.t 1), []⟩,
       ⟨none, (some 17), .bldS 1 1 [.int .i64 0] [(0, 1, (.t 16))], []⟩,
       ⟨none, (some 7), .mov (.t 17), []⟩])
     (.seq
      (.seq
       (.reg [8] [
         ⟨none, (some 18), .mov (.t 1), []⟩,
         ⟨none, (some 19), .bin .add (.t 18) (.c (.int .i64 1)), []⟩,
         ⟨none, (some 8), .mov (.t 19), []⟩])
       (.block 0
        (.loop b184_1)))
      (.seq
       (.reg [4, 5] [
         ⟨none, (some 46), .mov (.t 7), []⟩,
         ⟨none, (some 4), .mov (.t 46), []⟩,
         ⟨none, (some 5), .mov (.c (.int .i64 0)), []⟩])
       .ret)))))
def c184 : Fn := { np := 2, nt := 47, kind := .pure, res := [.t 4, .t 5], body := k184 }

/- impl.PagesLost -/
def b185_1 : Cd :=
  (.seq
   (.reg [21] [
     ⟨none, (some 21), .bin .lss (.t 20) (.t 19), []⟩])
   (.seq
    (.cond (.t 21)
     .skip
     (.exit 0))
    (.seq
     (.block 1
      (.seq
       (.reg [9, 8] [
         ⟨none, (some 22), .mov (.t 20), []⟩,
         ⟨none, (some 23), .idxA 5 (.t 18) (.t 20), []⟩,
         ⟨none, (some 24), .ld 5 true (.t 23), []⟩,
         ⟨none, (some 9), .zero true [.int .i8 0, .int .i8 0, .int .i8 0, .int .i8 0, .slice none 0 0], []⟩,
         ⟨none, (some 8), .mov (.t 22), []⟩,
         ⟨none, (some 9), .stV 9 none 5 (.t 24), []⟩])
       (.seq
        (.reg [39] [
          ⟨none, (some 25), .adrF 9 none 0, []⟩,
          ⟨none, (some 26), .ldV 9 (some 25) 1 false, []⟩,
          ⟨none, (some 27), .bin .neq (.t 26) (.c (.int .i8 0)), []⟩,
          ⟨none, (some 28), .mov (.t 27), []⟩,
          ⟨(some (28, true)), (some 29), .mov (.t 7), []⟩,
          ⟨(some (28, true)), (some 30), .adrF 9 none 1, []⟩,
          ⟨(some (28, true)), (some 31), .ldV 9 (some 30) 1 false, []⟩,
          ⟨(some (28, true)), (some 32), .conv .i64 (.t 31), []⟩,
          ⟨(some (28, true)), (some 33), .call true 402 [.t 29, .t 32], []⟩,
          ⟨none, (some 34), .pick (.t 28) (.t 33) (.c (.bool false)), []⟩,
          ⟨none, (some 35), .mov (.t 34), []⟩,
          ⟨(some (35, true)), (some 36), .mov (.t 8), []⟩,
          ⟨(some (35, true)), (some 37), .mov (.t 1), []⟩,
          ⟨(some (35, true)), (some 38), .bin .gtr (.t 36) (.t 37), []⟩,
          ⟨none, (some 39), .pick (.t 35) (.t 38) (.c (.bool false)), []⟩])
        (.cond (.t 39)
         (.reg [7] [
           ⟨none, (some 40), .mov (.t 7), []⟩,
           ⟨none, (some 41), .mov (.t 8), []⟩,
           ⟨none, (some 42), .bldS 1 1 [.int .i64 0] [(0, 1, (.t 41))], []⟩,
           ⟨none, (some 43), .app 1 8 (.t 40) (.t 42), []⟩,
           ⟨none, (some 7), .mov (.t 43), []⟩])
         .skip))))
     (.reg [20] [
       ⟨none, (some 44), .bin .add (.t 20) (.c (.int .i64 1)), []⟩,
       ⟨none, (some 20), .mov (.t 44), []⟩]))))
def k185 : Cd :=
  (.seq
   (.reg [4, 5] [
     ⟨none, (some 4), .mov (.c (.slice none 0 0)), []⟩,
     ⟨none, (some 5), .mov (.c (.int .i64 0)), []⟩])
   (.seq
    (.seq
     (.reg [6] [
       ⟨none, (some 10), .mov (.t 0), []⟩,
       ⟨none, (some 11), .mov (.t 1), []⟩,
       ⟨none, (some 12), .call true 399 [.t 10, .t 11], []⟩,
       ⟨none, (some 6), .mov (.t 12), []⟩])
     (.seq
      (.reg [14] [
        ⟨none, (some 13), .mov (.t 6), []⟩,
        ⟨none, (some 14), .bin .neq (.t 13) (.c (.int .i64 0)), []⟩])
      (.cond (.t 14)
       (.seq
        (.reg [4, 5] [
          ⟨none, (some 15), .mov (.t 6), []⟩,
          ⟨none, (some 4), .mov (.c (.slice none 0 0)), []⟩,
          ⟨none, (some 5), .mov (.t 15), []⟩])
        .ret)
       .skip)))
    (.seq
     (.reg [7] [
       ⟨none, (some 16), .mov (.t 1), []⟩,
       ⟨none, (some 17), .bldS 1 1 [.int .i64 0] [(0, 1, (.t 16))], []⟩,
       ⟨none, (some 7), .mov (.t 17), []⟩])
     (.seq
      (.seq
       (.reg [18, 19, 20] [
         ⟨none, (some 18), .mov (.t 0), []⟩,
         ⟨none, (some 19), .len (.t 18), []⟩,
         ⟨none, (some 20), .mov (.c (.int .i64 0)), []⟩])
       (.block 0
        (.loop b185_1)))
      (.seq
       (.reg [4, 5] [
         ⟨none, (some 45), .mov (.t 7), []⟩,
         ⟨none, (some 4), .mov (.t 45), []⟩,
         ⟨none, (some 5), .mov (.c (.int .i64 0)), []⟩])
       .ret)))))
def c185 : Fn := { np := 2, nt := 46, kind := .pure, res := [.t 4, .t 5], body := k185 }

/- laws.eqStepS -/
def b213_1 : Cd :=
  (.seq
   (.seq
    (.reg [14] [
      ⟨none, (some 11), .mov (.t 5), []⟩,
      ⟨none, (some 12), .mov (.t 0), []⟩,
      ⟨none, (some 13), .len (.t 12), []⟩,
      ⟨none, (some 14), .bin .lss (.t 11) (.t 13), []⟩])
    (.cond (.t 14)
     .skip
     (.exit 0)))
   (.seq
    (.block 1
     (.seq
      (.reg [26] [
        ⟨none, (some 17), .mov (.t 0), []⟩,
        ⟨none, (some 18), .mov (.t 5), []⟩,
        ⟨none, (some 19), .idxA 5 (.t 17) (.t 18), []⟩,
        ⟨none, (some 20), .ld 5 true (.t 19), []⟩,
        ⟨none, (some 21), .mov (.t 1), []⟩,
        ⟨none, (some 22), .mov (.t 5), []⟩,
        ⟨none, (some 23), .idxA 5 (.t 21) (.t 22), []⟩,
        ⟨none, (some 24), .ld 5 true (.t 23), []⟩,
        ⟨none, (some 25), .call true 166 [.t 20, .t 24], []⟩,
        ⟨none, (some 26), .un .not (.t 25), []⟩])
      (.cond (.t 26)
       (.seq
        (.reg [4] [
          ⟨none, (some 4), .mov (.c (.bool false)), []⟩])
        .ret)
       .skip)))
    (.reg [5] [
      ⟨none, (some 15), .mov (.t 5), []⟩,
      ⟨none, (some 16), .bin .add (.t 15) (.c (.int .i64 1)), []⟩,
      ⟨none, (some 5), .mov (.t 16), []⟩])))
def k213 : Cd :=
  (.seq
   (.reg [4] [
     ⟨none, (some 4), .mov (.c (.bool false)), []⟩])
   (.seq
    (.seq
     (.reg [10] [
       ⟨none, (some 6), .mov (.t 0), []⟩,
       ⟨none, (some 7), .len (.t 6), []⟩,
       ⟨none, (some 8), .mov (.t 1), []⟩,
       ⟨none, (some 9), .len (.t 8), []⟩,
       ⟨none, (some 10), .bin .neq (.t 7) (.t 9), []⟩])
     (.cond (.t 10)
      (.seq
       (.reg [4] [
         ⟨none, (some 4), .mov (.c (.bool false)), []⟩])
       .ret)
      .skip))
    (.seq
     (.seq
      (.reg [5] [
        ⟨none, (some 5), .mov (.c (.int .i64 0)), []⟩])
      (.block 0
       (.loop b213_1)))
     (.seq
      (.reg [4] [
        ⟨none, (some 4), .mov (.c (.bool true)), []⟩])
      .ret))))
def c213 : Fn := { np := 2, nt := 27, kind := .pure, res := [.t 4], body := k213 }

/- impl.inRange -/
def k295 : Cd :=
  (.seq
   (.reg [6] [
     ⟨none, (some 6), .mov (.c (.bool false)), []⟩])
   (.seq
    (.reg [6] [
      ⟨none, (some 7), .mov (.t 1), []⟩,
      ⟨none, (some 8), .mov (.t 0), []⟩,
      ⟨none, (some 9), .bin .leq (.t 7) (.t 8), []⟩,
      ⟨none, (some 10), .mov (.t 9), []⟩,
      ⟨(some (10, true)), (some 11), .mov (.t 0), []⟩,
      ⟨(some (10, true)), (some 12), .mov (.t 2), []⟩,
      ⟨(some (10, true)), (some 13), .bin .leq (.t 11) (.t 12), []⟩,
      ⟨none, (some 14), .pick (.t 10) (.t 13) (.c (.bool false)), []⟩,
      ⟨none, (some 6), .mov (.t 14), []⟩])
    .ret))
def c295 : Fn := { np := 3, nt := 15, kind := .pure, res := [.t 6], body := k295 }

/- laws.roomBehind -/
def k296 : Cd :=
  (.seq
   (.reg [2] [
     ⟨none, (some 2), .mov (.c (.int .i64 0)), []⟩])
   (.seq
    (.seq
     (.reg [5] [
       ⟨none, (some 3), .mov (.t 0), []⟩,
       ⟨none, (some 4), .bin .rem (.t 3) (.c (.int .i64 6)), []⟩,
       ⟨none, (some 5), .bin .eql (.t 4) (.c (.int .i64 5)), []⟩])
     (.cond (.t 5)
      (.seq
       (.reg [2] [
         ⟨none, (some 2), .mov (.c (.int .i64 0)), []⟩])
       .ret)
      .skip))
    (.seq
     (.seq
      (.reg [8] [
        ⟨none, (some 6), .mov (.t 0), []⟩,
        ⟨none, (some 7), .bin .rem (.t 6) (.c (.int .i64 3)), []⟩,
        ⟨none, (some 8), .bin .eql (.t 7) (.c (.int .i64 0)), []⟩])
      (.cond (.t 8)
       (.seq
        (.reg [2] [
          ⟨none, (some 2), .mov (.c (.int .i64 1)), []⟩])
        .ret)
       .skip))
     (.seq
      (.reg [2] [
        ⟨none, (some 9), .mov (.t 0), []⟩,
        ⟨none, (some 2), .mov (.t 9), []⟩])
      .ret))))
def c296 : Fn := { np := 1, nt := 10, kind := .pure, res := [.t 2], body := k296 }

/- spec.l00In -/
def k304 : Cd :=
  (.seq
   (.reg [6] [
     ⟨none, (some 6), .mov (.c (.bool false)), []⟩])
   (.seq
    (.reg [6] [
      ⟨none, (some 7), .mov (.t 0), []⟩,
      ⟨none, (some 8), .mov (.t 1), []⟩,
      ⟨none, (some 9), .bin .geq (.t 7) (.t 8), []⟩,
      ⟨none, (some 10), .mov (.t 9), []⟩,
      ⟨(some (10, true)), (some 11), .mov (.t 0), []⟩,
      ⟨(some (10, true)), (some 12), .mov (.t 2), []⟩,
      ⟨(some (10, true)), (some 13), .bin .leq (.t 11) (.t 12), []⟩,
      ⟨none, (some 14), .pick (.t 10) (.t 13) (.c (.bool false)), []⟩,
      ⟨none, (some 6), .mov (.t 14), []⟩])
    .ret))
def c304 : Fn := { np := 3, nt := 15, kind := .pure, res := [.t 6], body := k304 }

/- laws.szChangeS -/
def k308 : Cd :=
  (.seq
   (.reg [4] [
     ⟨none, (some 4), .mov (.c (.int .i64 0)), []⟩])
   (.seq
    (.reg [1] [
      ⟨none, (some 5), .mov (.t 1), []⟩,
      ⟨none, (some 6), .mov (.t 0), []⟩,
      ⟨none, (some 7), .len (.t 6), []⟩,
      ⟨none, (some 8), .bin .sub (.t 5) (.t 7), []⟩,
      ⟨none, (some 1), .mov (.t 8), []⟩])
    (.seq
     (.seq
      (.reg [10] [
        ⟨none, (some 9), .mov (.t 1), []⟩,
        ⟨none, (some 10), .bin .lss (.t 9) (.c (.int .i64 0)), []⟩])
      (.cond (.t 10)
       (.seq
        (.reg [4] [
          ⟨none, (some 4), .mov (.c (.int .i64 (-1))), []⟩])
        .ret)
       .skip))
     (.seq
      (.reg [4] [
        ⟨none, (some 11), .mov (.t 1), []⟩,
        ⟨none, (some 4), .mov (.t 11), []⟩])
      .ret))))
def c308 : Fn := { np := 2, nt := 12, kind := .pure, res := [.t 4], body := k308 }

/- spec.l06How -/
def k309 : Cd :=
  (.seq
   (.reg [2] [
     ⟨none, (some 2), .mov (.c (.bool false)), []⟩])
   (.seq
    (.reg [2] [
      ⟨none, (some 3), .mov (.t 0), []⟩,
      ⟨none, (some 4), .call true 304 [.t 3, .c (.int .i64 0), .c (.int .i64 2)], []⟩,
      ⟨none, (some 2), .mov (.t 4), []⟩])
    .ret))
def c309 : Fn := { np := 1, nt := 5, kind := .pure, res := [.t 2], body := k309 }

/- laws.toChangeS -/
def b311_1 : Cd :=
  (.seq
   (.seq
    (.reg [24] [
      ⟨none, (some 21), .mov (.t 6), []⟩,
      ⟨none, (some 22), .mov (.t 0), []⟩,
      ⟨none, (some 23), .len (.t 22), []⟩,
      ⟨none, (some 24), .bin .lss (.t 21) (.t 23), []⟩])
    (.cond (.t 24)
     .skip
     (.exit 0)))
   (.seq
    (.block 1
     (.reg [] [
       ⟨none, (some 27), .mov (.t 5), []⟩,
       ⟨none, (some 28), .mov (.t 6), []⟩,
       ⟨none, (some 29), .mov (.t 0), []⟩,
       ⟨none, (some 30), .mov (.t 6), []⟩,
       ⟨none, (some 31), .idxA 2 (.t 29) (.t 30), []⟩,
       ⟨none, (some 32), .ld 2 true (.t 31), []⟩,
       ⟨none, (some 33), .call true 488 [.t 32], []⟩,
       ⟨none, (some 34), .idxA 2 (.t 27) (.t 28), []⟩,
       ⟨none, none, .st 2 (.t 34) (.t 33), []⟩]))
    (.reg [6] [
      ⟨none, (some 25), .mov (.t 6), []⟩,
      ⟨none, (some 26), .bin .add (.t 25) (.c (.int .i64 1)), []⟩,
      ⟨none, (some 6), .mov (.t 26), []⟩])))
def b311_2 : Cd :=
  (.seq
   (.seq
    (.reg [40] [
      ⟨none, (some 37), .mov (.t 7), []⟩,
      ⟨none, (some 38), .mov (.t 5), []⟩,
      ⟨none, (some 39), .len (.t 38), []⟩,
      ⟨none, (some 40), .bin .lss (.t 37) (.t 39), []⟩])
    (.cond (.t 40)
     .skip
     (.exit 2)))
   (.seq
    (.block 3
     (.reg [] [
       ⟨none, (some 43), .mov (.t 5), []⟩,
       ⟨none, (some 44), .mov (.t 7), []⟩,
       ⟨none, (some 45), .call true 489 [], []⟩,
       ⟨none, (some 46), .idxA 2 (.t 43) (.t 44), []⟩,
       ⟨none, none, .st 2 (.t 46) (.t 45), []⟩]))
    (.reg [7] [
      ⟨none, (some 41), .mov (.t 7), []⟩,
      ⟨none, (some 42), .bin .add (.t 41) (.c (.int .i64 1)), []⟩,
      ⟨none, (some 7), .mov (.t 42), []⟩])))
def k311 : Cd :=
  (.seq
   (.reg [4] [
     ⟨none, (some 4), .mov (.c (.slice none 0 0)), []⟩])
   (.seq
    (.seq
     (.reg [13] [
       ⟨none, (some 8), .mov (.t 1), []⟩,
       ⟨none, (some 9), .mov (.t 8), []⟩,
       ⟨(some (9, true)), (some 10), .mov (.t 0), []⟩,
       ⟨(some (9, true)), (some 11), .len (.t 10), []⟩,
       ⟨(some (9, true)), (some 12), .bin .eql (.t 11) (.c (.int .i64 0)), []⟩,
       ⟨none, (some 13), .pick (.t 9) (.t 12) (.c (.bool false)), []⟩])
     (.cond (.t 13)
      (.seq
       (.reg [4] [
         ⟨none, (some 4), .mov (.c (.slice none 0 0)), []⟩])
       .ret)
      .skip))
    (.seq
     (.reg [5] [
       ⟨none, (some 14), .mov (.t 0), []⟩,
       ⟨none, (some 15), .len (.t 14), []⟩,
       ⟨none, (some 16), .mov (.t 0), []⟩,
       ⟨none, (some 17), .len (.t 16), []⟩,
       ⟨none, (some 18), .call true 296 [.t 17], []⟩,
       ⟨none, (some 19), .bin .add (.t 15) (.t 18), []⟩,
       ⟨none, (some 20), .mkS 2 4 [.int .i8 0, .int .u16 0] (.t 19) (.t 19), []⟩,
       ⟨none, (some 5), .mov (.t 20), []⟩])
     (.seq
      (.seq
       (.reg [6] [
         ⟨none, (some 6), .mov (.c (.int .i64 0)), []⟩])
       (.block 0
        (.loop b311_1)))
      (.seq
       (.seq
        (.reg [7] [
          ⟨none, (some 35), .mov (.t 0), []⟩,
          ⟨none, (some 36), .len (.t 35), []⟩,
          ⟨none, (some 7), .mov (.t 36), []⟩])
        (.block 2
         (.loop b311_2)))
       (.seq
        (.reg [4] [
          ⟨none, (some 47), .mov (.t 5), []⟩,
          ⟨none, (some 48), .mov (.t 0), []⟩,
          ⟨none, (some 49), .len (.t 48), []⟩,
          ⟨none, (some 50), .slcA 2 (.t 47) none (some (.t 49)) none, []⟩,
          ⟨none, (some 4), .mov (.t 50), []⟩])
        .ret))))))
def c311 : Fn := { np := 2, nt := 51, kind := .pure, res := [.t 4], body := k311 }

/- laws.intactChangeS -/
def k313 : Cd :=
  (.seq
   (.reg [4] [
     ⟨none, (some 4), .mov (.c (.bool false)), []⟩])
   (.seq
    (.reg [5] [
      ⟨none, (some 6), .mov (.t 1), []⟩,
      ⟨none, (some 7), .len (.t 6), []⟩,
      ⟨none, (some 8), .mov (.t 1), []⟩,
      ⟨none, (some 9), .len (.t 8), []⟩,
      ⟨none, (some 10), .call true 296 [.t 9], []⟩,
      ⟨none, (some 11), .bin .add (.t 7) (.t 10), []⟩,
      ⟨none, (some 5), .mov (.t 11), []⟩])
    (.seq
     (.reg [4] [
       ⟨none, (some 12), .mov (.t 0), []⟩,
       ⟨none, (some 13), .len (.t 12), []⟩,
       ⟨none, (some 14), .mov (.t 1), []⟩,
       ⟨none, (some 15), .len (.t 14), []⟩,
       ⟨none, (some 16), .bin .eql (.t 13) (.t 15), []⟩,
       ⟨none, (some 17), .mov (.t 16), []⟩,
       ⟨(some (17, true)), (some 18), .mov (.t 0), []⟩,
       ⟨(some (17, true)), (some 19), .mov (.t 5), []⟩,
       ⟨(some (17, true)), (some 20), .slcA 2 (.t 18) none (some (.t 19)) none, []⟩,
       ⟨(some (17, true)), (some 21), .mov (.t 1), []⟩,
       ⟨(some (17, true)), (some 22), .mov (.t 5), []⟩,
       ⟨(some (17, true)), (some 23), .slcA 2 (.t 21) none (some (.t 22)) none, []⟩,
       ⟨(some (17, true)), (some 24), .call true 390 [.t 20, .t 23], []⟩,
       ⟨none, (some 25), .pick (.t 17) (.t 24) (.c (.bool false)), []⟩,
       ⟨none, (some 4), .mov (.t 25), []⟩])
     .ret)))
def c313 : Fn := { np := 2, nt := 26, kind := .pure, res := [.t 4], body := k313 }

/- laws.fillerStep -/
def k382 : Cd :=
  (.seq
   (.reg [0] [
     ⟨none, (some 0), .zero true [.int .i8 0, .int .i8 0, .int .i8 0, .int .i8 0, .slice none 0 0], []⟩])
   (.seq
    (.reg [0] [
      ⟨none, (some 1), .call true 489 [], []⟩,
      ⟨none, (some 2), .bldS 2 1 [.int .i8 0, .int .u16 0] [(0, 2, (.t 1))], []⟩,
      ⟨none, (some 3), .agg [.int .i8 0, .int .i8 0, .int .i8 0, .int .i8 0, .slice none 0 0] [(0, 1, (.c (.int .i8 (-101)))), (1, 1, (.c (.int .i8 (-101)))), (2, 1, (.c (.int .i8 (-101)))), (3, 1, (.c (.int .i8 (-101)))), (4, 1, (.t 2))], []⟩,
      ⟨none, (some 0), .stV 0 none 5 (.t 3), []⟩])
    .ret))
def c382 : Fn := { np := 0, nt := 4, kind := .pure, res := [.v 0 5 true], body := k382 }

/- spec.l06Ok -/
def b386_1 : Cd :=
  (.seq
   (.seq
    (.reg [7] [
      ⟨none, (some 4), .mov (.t 3), []⟩,
      ⟨none, (some 5), .mov (.t 0), []⟩,
      ⟨none, (some 6), .len (.t 5), []⟩,
      ⟨none, (some 7), .bin .lss (.t 4) (.t 6), []⟩])
    (.cond (.t 7)
     .skip
     (.exit 0)))
   (.seq
    (.block 1
     (.seq
      (.reg [15] [
        ⟨none, (some 10), .mov (.t 0), []⟩,
        ⟨none, (some 11), .mov (.t 3), []⟩,
        ⟨none, (some 12), .idxA 5 (.t 10) (.t 11), []⟩,
        ⟨none, (some 13), .mov (.t 3), []⟩,
        ⟨none, (some 14), .call true 524 [.t 12, .t 13], []⟩,
        ⟨none, (some 15), .un .not (.t 14), []⟩])
      (.cond (.t 15)
       (.seq
        (.reg [2] [
          ⟨none, (some 2), .mov (.c (.bool false)), []⟩])
        .ret)
       .skip)))
    (.reg [3] [
      ⟨none, (some 8), .mov (.t 3), []⟩,
      ⟨none, (some 9), .bin .add (.t 8) (.c (.int .i64 1)), []⟩,
      ⟨none, (some 3), .mov (.t 9), []⟩])))
def k386 : Cd :=
  (.seq
   (.reg [2] [
     ⟨none, (some 2), .mov (.c (.bool false)), []⟩])
   (.seq
    (.seq
     (.reg [3] [
       ⟨none, (some 3), .mov (.c (.int .i64 0)), []⟩])
     (.block 0
      (.loop b386_1)))
    (.seq
     (.reg [2] [
       ⟨none, (some 16), .mov (.t 0), []⟩,
       ⟨none, (some 17), .len (.t 16), []⟩,
       ⟨none, (some 18), .bin .leq (.t 17) (.c (.int .i64 40)), []⟩,
       ⟨none, (some 2), .mov (.t 18), []⟩])
     .ret)))
def c386 : Fn := { np := 1, nt := 19, kind := .pure, res := [.t 2], body := k386 }

/- impl.isStep -/
def b387_1 : Cd :=
  (.seq
   (.reg [13] [
     ⟨none, (some 13), .bin .lss (.t 12) (.t 11), []⟩])
   (.seq
    (.cond (.t 13)
     .skip
     (.exit 0))
    (.seq
     (.block 1
      (.seq
       (.reg [6, 5] [
         ⟨none, (some 14), .mov (.t 12), []⟩,
         ⟨none, (some 15), .idxA 2 (.t 10) (.t 12), []⟩,
         ⟨none, (some 16), .ld 2 true (.t 15), []⟩,
         ⟨none, (some 6), .zero true [.int .i8 0, .int .u16 0], []⟩,
         ⟨none, (some 5), .mov (.t 14), []⟩,
         ⟨none, (some 6), .stV 6 none 2 (.t 16), []⟩])
       (.seq
        (.reg [44] [
          ⟨none, (some 17), .adrF 6 none 0, []⟩,
          ⟨none, (some 18), .ldV 6 (some 17) 1 false, []⟩,
          ⟨none, (some 19), .conv .i64 (.t 18), []⟩,
          ⟨none, (some 20), .call true 295 [.t 19, .c (.int .i64 0), .c (.int .i64 11)], []⟩,
          ⟨none, (some 21), .un .not (.t 20), []⟩,
          ⟨none, (some 22), .mov (.t 21), []⟩,
          ⟨(some (22, false)), (some 23), .adrF 6 none 1, []⟩,
          ⟨(some (22, false)), (some 24), .ldV 6 (some 23) 1 false, []⟩,
          ⟨(some (22, false)), (some 25), .conv .i64 (.t 24), []⟩,
          ⟨(some (22, false)), (some 26), .call true 295 [.t 25, .c (.int .i64 1), .c (.int .i64 4095)], []⟩,
          ⟨(some (22, false)), (some 27), .un .not (.t 26), []⟩,
          ⟨none, (some 28), .pick (.t 22) (.c (.bool true)) (.t 27), []⟩,
          ⟨none, (some 29), .mov (.t 28), []⟩,
          ⟨(some (29, false)), (some 30), .mov (.t 5), []⟩,
          ⟨(some (29, false)), (some 31), .bin .gtr (.t 30) (.c (.int .i64 0)), []⟩,
          ⟨(some (29, false)), (some 32), .mov (.t 31), []⟩,
          ⟨(some (32, true)), (some 33), .adrF 2 none 4, []⟩,
          ⟨(some (32, true)), (some 34), .ldV 2 (some 33) 1 false, []⟩,
          ⟨(some (32, true)), (some 35), .mov (.t 5), []⟩,
          ⟨(some (32, true)), (some 36), .bin .sub (.t 35) (.c (.int .i64 1)), []⟩,
          ⟨(some (32, true)), (some 37), .idxA 2 (.t 34) (.t 36), []⟩,
          ⟨(some (32, true)), (some 38), .fldP 0 (.t 37), []⟩,
          ⟨(some (32, true)), (some 39), .ld 1 false (.t 38), []⟩,
          ⟨(some (32, true)), (some 40), .adrF 6 none 0, []⟩,
          ⟨(some (32, true)), (some 41), .ldV 6 (some 40) 1 false, []⟩,
          ⟨(some (32, true)), (some 42), .bin .geq (.t 39) (.t 41), []⟩,
          ⟨(some (29, false)), (some 43), .pick (.t 32) (.t 42) (.c (.bool false)), []⟩,
          ⟨none, (some 44), .pick (.t 29) (.c (.bool true)) (.t 43), []⟩])
        (.cond (.t 44)
         (.seq
          (.reg [4] [
            ⟨none, (some 4), .mov (.c (.bool false)), []⟩])
          .ret)
         .skip))))
     (.reg [12] [
       ⟨none, (some 45), .bin .add (.t 12) (.c (.int .i64 1)), []⟩,
       ⟨none, (some 12), .mov (.t 45), []⟩]))))
def k387 : Cd :=
  (.seq
   (.reg [2, 4] [
     ⟨none, (some 2), .mov (.t 0), []⟩,
     ⟨none, (some 4), .mov (.c (.bool false)), []⟩])
   (.seq
    (.seq
     (.reg [10, 11, 12] [
       ⟨none, (some 9), .adrF 2 none 4, []⟩,
       ⟨none, (some 10), .ldV 2 (some 9) 1 false, []⟩,
       ⟨none, (some 11), .len (.t 10), []⟩,
       ⟨none, (some 12), .mov (.c (.int .i64 0)), []⟩])
     (.block 0
      (.loop b387_1)))
    (.seq
     (.reg [7] [
       ⟨none, (some 46), .adrF 2 none 2, []⟩,
       ⟨none, (some 47), .ldV 2 (some 46) 1 false, []⟩,
       ⟨none, (some 48), .bin .eql (.t 47) (.c (.int .i8 0)), []⟩,
       ⟨none, (some 49), .mov (.t 48), []⟩,
       ⟨(some (49, true)), (some 50), .adrF 2 none 3, []⟩,
       ⟨(some (49, true)), (some 51), .ldV 2 (some 50) 1 false, []⟩,
       ⟨(some (49, true)), (some 52), .bin .eql (.t 51) (.c (.int .i8 0)), []⟩,
       ⟨none, (some 53), .pick (.t 49) (.t 52) (.c (.bool false)), []⟩,
       ⟨none, (some 7), .mov (.t 53), []⟩])
     (.seq
      (.reg [8] [
        ⟨none, (some 54), .adrF 2 none 1, []⟩,
        ⟨none, (some 55), .ldV 2 (some 54) 1 false, []⟩,
        ⟨none, (some 56), .conv .i64 (.t 55), []⟩,
        ⟨none, (some 57), .mov (.t 1), []⟩,
        ⟨none, (some 58), .bin .sub (.t 57) (.c (.int .i64 1)), []⟩,
        ⟨none, (some 59), .call true 295 [.t 56, .c (.int .i64 0), .t 58], []⟩,
        ⟨none, (some 8), .mov (.t 59), []⟩])
      (.seq
       (.seq
        (.reg [61] [
          ⟨none, (some 60), .adrF 2 none 0, []⟩,
          ⟨none, (some 61), .ldV 2 (some 60) 1 false, []⟩])
        (.block 2
         (.seq
          (.reg [62] [
            ⟨none, (some 63), .bin .eql (.t 61) (.c (.int .i8 0)), []⟩,
            ⟨none, (some 62), .mov (.t 63), []⟩])
          (.cond (.t 62)
           (.seq
            (.reg [4] [
              ⟨none, (some 64), .mov (.t 7), []⟩,
              ⟨none, (some 65), .mov (.t 64), []⟩,
              ⟨(some (65, true)), (some 66), .adrF 2 none 1, []⟩,
              ⟨(some (65, true)), (some 67), .ldV 2 (some 66) 1 false, []⟩,
              ⟨(some (65, true)), (some 68), .bin .eql (.t 67) (.c (.int .i8 0)), []⟩,
              ⟨none, (some 69), .pick (.t 65) (.t 68) (.c (.bool false)), []⟩,
              ⟨none, (some 4), .mov (.t 69), []⟩])
            .ret)
           (.seq
            (.reg [70] [
              ⟨none, (some 71), .bin .eql (.t 61) (.c (.int .i8 1)), []⟩,
              ⟨none, (some 70), .mov (.t 71), []⟩])
            (.cond (.t 70)
             (.seq
              (.reg [4] [
                ⟨none, (some 72), .mov (.t 7), []⟩,
                ⟨none, (some 73), .mov (.t 72), []⟩,
                ⟨(some (73, true)), (some 74), .mov (.t 8), []⟩,
                ⟨none, (some 75), .pick (.t 73) (.t 74) (.c (.bool false)), []⟩,
                ⟨none, (some 4), .mov (.t 75), []⟩])
              .ret)
             (.seq
              (.reg [76] [
                ⟨none, (some 77), .bin .eql (.t 61) (.c (.int .i8 2)), []⟩,
                ⟨none, (some 76), .mov (.t 77), []⟩])
              (.cond (.t 76)
               (.seq
                (.reg [4] [
                  ⟨none, (some 78), .mov (.t 7), []⟩,
                  ⟨none, (some 79), .un .not (.t 78), []⟩,
                  ⟨none, (some 80), .mov (.t 79), []⟩,
                  ⟨(some (80, true)), (some 81), .mov (.t 8), []⟩,
                  ⟨none, (some 82), .pick (.t 80) (.t 81) (.c (.bool false)), []⟩,
                  ⟨none, (some 83), .mov (.t 82), []⟩,
                  ⟨(some (83, true)), (some 84), .adrF 2 none 2, []⟩,
                  ⟨(some (83, true)), (some 85), .ldV 2 (some 84) 1 false, []⟩,
                  ⟨(some (83, true)), (some 86), .conv .i64 (.t 85), []⟩,
                  ⟨(some (83, true)), (some 87), .call true 295 [.t 86, .c (.int .i64 (-12)), .c (.int .i64 12)], []⟩,
                  ⟨none, (some 88), .pick (.t 83) (.t 87) (.c (.bool false)), []⟩,
                  ⟨none, (some 89), .mov (.t 88), []⟩,
                  ⟨(some (89, true)), (some 90), .adrF 2 none 3, []⟩,
                  ⟨(some (89, true)), (some 91), .ldV 2 (some 90) 1 false, []⟩,
                  ⟨(some (89, true)), (some 92), .conv .i64 (.t 91), []⟩,
                  ⟨(some (89, true)), (some 93), .call true 295 [.t 92, .c (.int .i64 (-12)), .c (.int .i64 12)], []⟩,
                  ⟨none, (some 94), .pick (.t 89) (.t 93) (.c (.bool false)), []⟩,
                  ⟨none, (some 4), .mov (.t 94), []⟩])
                .ret)
               .skip))))))))
       (.seq
        (.reg [4] [
          ⟨none, (some 4), .mov (.c (.bool false)), []⟩])
        .ret))))))
def c387 : Fn := { np := 2, nt := 95, kind := .pure, res := [.t 4], body := k387 }

/- laws.eqChangeS -/
def b390_1 : Cd :=
  (.seq
   (.seq
    (.reg [14] [
      ⟨none, (some 11), .mov (.t 5), []⟩,
      ⟨none, (some 12), .mov (.t 0), []⟩,
      ⟨none, (some 13), .len (.t 12), []⟩,
      ⟨none, (some 14), .bin .lss (.t 11) (.t 13), []⟩])
    (.cond (.t 14)
     .skip
     (.exit 0)))
   (.seq
    (.block 1
     (.seq
      (.reg [26] [
        ⟨none, (some 17), .mov (.t 0), []⟩,
        ⟨none, (some 18), .mov (.t 5), []⟩,
        ⟨none, (some 19), .idxA 2 (.t 17) (.t 18), []⟩,
        ⟨none, (some 20), .ld 2 true (.t 19), []⟩,
        ⟨none, (some 21), .mov (.t 1), []⟩,
        ⟨none, (some 22), .mov (.t 5), []⟩,
        ⟨none, (some 23), .idxA 2 (.t 21) (.t 22), []⟩,
        ⟨none, (some 24), .ld 2 true (.t 23), []⟩,
        ⟨none, (some 25), .call true 529 [.t 20, .t 24], []⟩,
        ⟨none, (some 26), .un .not (.t 25), []⟩])
      (.cond (.t 26)
       (.seq
        (.reg [4] [
          ⟨none, (some 4), .mov (.c (.bool false)), []⟩])
        .ret)
       .skip)))
    (.reg [5] [
      ⟨none, (some 15), .mov (.t 5), []⟩,
      ⟨none, (some 16), .bin .add (.t 15) (.c (.int .i64 1)), []⟩,
      ⟨none, (some 5), .mov (.t 16), []⟩])))
def k390 : Cd :=
  (.seq
   (.reg [4] [
     ⟨none, (some 4), .mov (.c (.bool false)), []⟩])
   (.seq
    (.seq
     (.reg [10] [
       ⟨none, (some 6), .mov (.t 0), []⟩,
       ⟨none, (some 7), .len (.t 6), []⟩,
       ⟨none, (some 8), .mov (.t 1), []⟩,
       ⟨none, (some 9), .len (.t 8), []⟩,
       ⟨none, (some 10), .bin .neq (.t 7) (.t 9), []⟩])
     (.cond (.t 10)
      (.seq
       (.reg [4] [
         ⟨none, (some 4), .mov (.c (.bool false)), []⟩])
       .ret)
      .skip))
    (.seq
     (.seq
      (.reg [5] [
        ⟨none, (some 5), .mov (.c (.int .i64 0)), []⟩])
      (.block 0
       (.loop b390_1)))
     (.seq
      (.reg [4] [
        ⟨none, (some 4), .mov (.c (.bool true)), []⟩])
      .ret))))
def c390 : Fn := { np := 2, nt := 27, kind := .pure, res := [.t 4], body := k390 }

/- laws.markChangeS -/
def b391_1 : Cd :=
  (.seq
   (.seq
    (.reg [9] [
      ⟨none, (some 6), .mov (.t 5), []⟩,
      ⟨none, (some 7), .mov (.t 0), []⟩,
      ⟨none, (some 8), .len (.t 7), []⟩,
      ⟨none, (some 9), .bin .lss (.t 6) (.t 8), []⟩])
    (.cond (.t 9)
     .skip
     (.exit 0)))
   (.seq
    (.block 1
     (.seq
      (.reg [] [
        ⟨none, (some 12), .mov (.t 0), []⟩,
        ⟨none, (some 13), .mov (.t 5), []⟩,
        ⟨none, (some 14), .mov (.t 1), []⟩,
        ⟨none, (some 15), .conv .i8 (.t 14), []⟩,
        ⟨none, (some 16), .idxA 2 (.t 12) (.t 13), []⟩,
        ⟨none, (some 17), .fldP 0 (.t 16), []⟩,
        ⟨none, none, .st 1 (.t 17) (.t 15), []⟩])
      (.seq
       (.reg [1] [
         ⟨none, (some 18), .mov (.t 1), []⟩,
         ⟨none, (some 19), .bin .add (.t 18) (.c (.int .i64 1)), []⟩,
         ⟨none, (some 1), .mov (.t 19), []⟩])
       (.seq
        (.reg [] [
          ⟨none, (some 20), .mov (.t 0), []⟩,
          ⟨none, (some 21), .mov (.t 5), []⟩,
          ⟨none, (some 22), .mov (.t 1), []⟩,
          ⟨none, (some 23), .conv .u16 (.t 22), []⟩,
          ⟨none, (some 24), .idxA 2 (.t 20) (.t 21), []⟩,
          ⟨none, (some 25), .fldP 1 (.t 24), []⟩,
          ⟨none, none, .st 1 (.t 25) (.t 23), []⟩])
        (.reg [1] [
          ⟨none, (some 26), .mov (.t 1), []⟩,
          ⟨none, (some 27), .bin .add (.t 26) (.c (.int .i64 1)), []⟩,
          ⟨none, (some 1), .mov (.t 27), []⟩])))))
    (.reg [5] [
      ⟨none, (some 10), .mov (.t 5), []⟩,
      ⟨none, (some 11), .bin .add (.t 10) (.c (.int .i64 1)), []⟩,
      ⟨none, (some 5), .mov (.t 11), []⟩])))
def k391 : Cd :=
  (.seq
   (.reg [4] [
     ⟨none, (some 4), .mov (.c (.int .i64 0)), []⟩])
   (.seq
    (.seq
     (.reg [5] [
       ⟨none, (some 5), .mov (.c (.int .i64 0)), []⟩])
     (.block 0
      (.loop b391_1)))
    (.seq
     (.reg [4] [
       ⟨none, (some 28), .mov (.t 1), []⟩,
       ⟨none, (some 4), .mov (.t 28), []⟩])
     .ret)))
def c391 : Fn := { np := 2, nt := 29, kind := .args, res := [.t 4], body := k391 }

/- spec.l06Asked -/
def k398 : Cd :=
  (.seq
   (.reg [4] [
     ⟨none, (some 4), .mov (.c (.int .i64 0)), []⟩])
   (.seq
    (.seq
     (.reg [7] [
       ⟨none, (some 5), .mov (.t 0), []⟩,
       ⟨none, (some 6), .call true 386 [.t 5], []⟩,
       ⟨none, (some 7), .un .not (.t 6), []⟩])
     (.cond (.t 7)
      (.seq
       (.reg [4] [
         ⟨none, (some 4), .mov (.c (.int .i64 1)), []⟩])
       .ret)
      .skip))
    (.seq
     (.seq
      (.reg [13] [
        ⟨none, (some 8), .mov (.t 1), []⟩,
        ⟨none, (some 9), .mov (.t 0), []⟩,
        ⟨none, (some 10), .len (.t 9), []⟩,
        ⟨none, (some 11), .bin .sub (.t 10) (.c (.int .i64 1)), []⟩,
        ⟨none, (some 12), .call true 304 [.t 8, .c (.int .i64 0), .t 11], []⟩,
        ⟨none, (some 13), .un .not (.t 12), []⟩])
      (.cond (.t 13)
       (.seq
        (.reg [4] [
          ⟨none, (some 4), .mov (.c (.int .i64 2)), []⟩])
        .ret)
       .skip))
     (.seq
      (.reg [4] [
        ⟨none, (some 4), .mov (.c (.int .i64 0)), []⟩])
      .ret))))
def c398 : Fn := { np := 2, nt := 14, kind := .pure, res := [.t 4], body := k398 }

/- impl.checkStep -/
def k399 : Cd :=
  (.seq
   (.reg [4] [
     ⟨none, (some 4), .mov (.c (.int .i64 0)), []⟩])
   (.seq
    (.block 0
     (.seq
      (.reg [5] [
        ⟨none, (some 6), .mov (.t 0), []⟩,
        ⟨none, (some 7), .call true 163 [.t 6], []⟩,
        ⟨none, (some 8), .un .not (.t 7), []⟩,
        ⟨none, (some 5), .mov (.t 8), []⟩])
      (.cond (.t 5)
       (.seq
        (.reg [4] [
          ⟨none, (some 4), .mov (.c (.int .i64 1)), []⟩])
        .ret)
       (.seq
        (.reg [9] [
          ⟨none, (some 10), .mov (.t 1), []⟩,
          ⟨none, (some 11), .mov (.t 0), []⟩,
          ⟨none, (some 12), .call true 531 [.t 11], []⟩,
          ⟨none, (some 13), .bin .sub (.t 12) (.c (.int .i64 1)), []⟩,
          ⟨none, (some 14), .call true 295 [.t 10, .c (.int .i64 0), .t 13], []⟩,
          ⟨none, (some 15), .un .not (.t 14), []⟩,
          ⟨none, (some 9), .mov (.t 15), []⟩])
        (.cond (.t 9)
         (.seq
          (.reg [4] [
            ⟨none, (some 4), .mov (.c (.int .i64 2)), []⟩])
          .ret)
         .skip)))))
    (.seq
     (.reg [4] [
       ⟨none, (some 4), .mov (.c (.int .i64 0)), []⟩])
     .ret)))
def c399 : Fn := { np := 2, nt := 16, kind := .pure, res := [.t 4], body := k399 }

/- spec.l00Has -/
def b401_1 : Cd :=
  (.seq
   (.seq
    (.reg [9] [
      ⟨none, (some 6), .mov (.t 5), []⟩,
      ⟨none, (some 7), .mov (.t 0), []⟩,
      ⟨none, (some 8), .len (.t 7), []⟩,
      ⟨none, (some 9), .bin .lss (.t 6) (.t 8), []⟩])
    (.cond (.t 9)
     .skip
     (.exit 0)))
   (.seq
    (.block 1
     (.seq
      (.reg [17] [
        ⟨none, (some 12), .mov (.t 0), []⟩,
        ⟨none, (some 13), .mov (.t 5), []⟩,
        ⟨none, (some 14), .idxA 1 (.t 12) (.t 13), []⟩,
        ⟨none, (some 15), .ld 1 false (.t 14), []⟩,
        ⟨none, (some 16), .mov (.t 1), []⟩,
        ⟨none, (some 17), .bin .eql (.t 15) (.t 16), []⟩])
      (.cond (.t 17)
       (.seq
        (.reg [4] [
          ⟨none, (some 4), .mov (.c (.bool true)), []⟩])
        .ret)
       .skip)))
    (.reg [5] [
      ⟨none, (some 10), .mov (.t 5), []⟩,
      ⟨none, (some 11), .bin .add (.t 10) (.c (.int .i64 1)), []⟩,
      ⟨none, (some 5), .mov (.t 11), []⟩])))
def k401 : Cd :=
  (.seq
   (.reg [4] [
     ⟨none, (some 4), .mov (.c (.bool false)), []⟩])
   (.seq
    (.seq
     (.reg [5] [
       ⟨none, (some 5), .mov (.c (.int .i64 0)), []⟩])
     (.block 0
      (.loop b401_1)))
    (.seq
     (.reg [4] [
       ⟨none, (some 4), .mov (.c (.bool false)), []⟩])
     .ret)))
def c401 : Fn := { np := 2, nt := 18, kind := .pure, res := [.t 4], body := k401 }

/- slices.Contains[[]int64,int64] -/
def k402 : Cd :=
  (.seq
   (.reg [4] [
     ⟨none, (some 4), .mov (.c (.bool false)), []⟩])
   (.seq
    (.reg [4] [
      ⟨none, (some 5), .mov (.t 0), []⟩,
      ⟨none, (some 6), .mov (.t 1), []⟩,
      ⟨none, (some 7), .call true 532 [.t 5, .t 6], []⟩,
      ⟨none, (some 8), .bin .geq (.t 7) (.c (.int .i64 0)), []⟩,
      ⟨none, (some 4), .mov (.t 8), []⟩])
    .ret))
def c402 : Fn := { np := 2, nt := 9, kind := .pure, res := [.t 4], body := k402 }

/- laws.toChange -/
def k488 : Cd :=
  (.seq
   (.reg [1, 2] [
     ⟨none, (some 1), .mov (.t 0), []⟩,
     ⟨none, (some 2), .zero true [.int .i8 0, .int .u16 0], []⟩])
   (.seq
    (.reg [3] [
      ⟨none, (some 3), .zero true [.int .i8 0, .int .u16 0], []⟩])
    (.seq
     (.reg [3] [
       ⟨none, (some 4), .adrF 1 none 0, []⟩,
       ⟨none, (some 5), .ldV 1 (some 4) 1 false, []⟩,
       ⟨none, (some 6), .adrF 3 none 0, []⟩,
       ⟨none, (some 3), .stV 3 (some 6) 1 (.t 5), []⟩])
     (.seq
      (.reg [3] [
        ⟨none, (some 7), .adrF 1 none 1, []⟩,
        ⟨none, (some 8), .ldV 1 (some 7) 1 false, []⟩,
        ⟨none, (some 9), .adrF 3 none 1, []⟩,
        ⟨none, (some 3), .stV 3 (some 9) 1 (.t 8), []⟩])
      (.seq
       (.reg [2] [
         ⟨none, (some 10), .ldV 3 none 2 true, []⟩,
         ⟨none, (some 2), .stV 2 none 2 (.t 10), []⟩])
       .ret)))))
def c488 : Fn := { np := 1, nt := 11, kind := .pure, res := [.v 2 2 true], body := k488 }

/- laws.fillerChange -/
def k489 : Cd :=
  (.seq
   (.reg [0] [
     ⟨none, (some 0), .zero true [.int .i8 0, .int .u16 0], []⟩])
   (.seq
    (.reg [0] [
      ⟨none, (some 1), .agg [.int .i8 0, .int .u16 0] [(0, 1, (.c (.int .i8 (-101)))), (1, 1, (.c (.int .u16 60201)))], []⟩,
      ⟨none, (some 0), .stV 0 none 2 (.t 1), []⟩])
    .ret))
def c489 : Fn := { np := 0, nt := 2, kind := .pure, res := [.v 0 2 true], body := k489 }

/- spec.l06Step -/
def k524 : Cd :=
  (.seq
   (.reg [4] [
     ⟨none, (some 4), .mov (.c (.bool false)), []⟩])
   (.seq
    (.seq
     (.reg [38] [
       ⟨none, (some 6), .mov (.t 0), []⟩,
       ⟨none, (some 7), .nil (.t 6), []⟩,
       ⟨none, (some 8), .fldP 0 (.t 7), []⟩,
       ⟨none, (some 9), .ld 1 false (.t 8), []⟩,
       ⟨none, (some 10), .conv .i64 (.t 9), []⟩,
       ⟨none, (some 11), .call true 309 [.t 10], []⟩,
       ⟨none, (some 12), .un .not (.t 11), []⟩,
       ⟨none, (some 13), .mov (.t 12), []⟩,
       ⟨(some (13, false)), (some 14), .mov (.t 0), []⟩,
       ⟨(some (13, false)), (some 15), .nil (.t 14), []⟩,
       ⟨(some (13, false)), (some 16), .fldP 2 (.t 15), []⟩,
       ⟨(some (13, false)), (some 17), .ld 1 false (.t 16), []⟩,
       ⟨(some (13, false)), (some 18), .conv .i64 (.t 17), []⟩,
       ⟨(some (13, false)), (some 19), .call true 572 [.t 18], []⟩,
       ⟨(some (13, false)), (some 20), .un .not (.t 19), []⟩,
       ⟨none, (some 21), .pick (.t 13) (.c (.bool true)) (.t 20), []⟩,
       ⟨none, (some 22), .mov (.t 21), []⟩,
       ⟨(some (22, false)), (some 23), .mov (.t 0), []⟩,
       ⟨(some (22, false)), (some 24), .nil (.t 23), []⟩,
       ⟨(some (22, false)), (some 25), .fldP 3 (.t 24), []⟩,
       ⟨(some (22, false)), (some 26), .ld 1 false (.t 25), []⟩,
       ⟨(some (22, false)), (some 27), .conv .i64 (.t 26), []⟩,
       ⟨(some (22, false)), (some 28), .call true 572 [.t 27], []⟩,
       ⟨(some (22, false)), (some 29), .un .not (.t 28), []⟩,
       ⟨none, (some 30), .pick (.t 22) (.c (.bool true)) (.t 29), []⟩,
       ⟨none, (some 31), .mov (.t 30), []⟩,
       ⟨(some (31, false)), (some 32), .mov (.t 0), []⟩,
       ⟨(some (31, false)), (some 33), .nil (.t 32), []⟩,
       ⟨(some (31, false)), (some 34), .fldP 4 (.t 33), []⟩,
       ⟨(some (31, false)), (some 35), .ld 1 false (.t 34), []⟩,
       ⟨(some (31, false)), (some 36), .call true 573 [.t 35], []⟩,
       ⟨(some (31, false)), (some 37), .un .not (.t 36), []⟩,
       ⟨none, (some 38), .pick (.t 31) (.c (.bool true)) (.t 37), []⟩])
     (.cond (.t 38)
      (.seq
       (.reg [4] [
         ⟨none, (some 4), .mov (.c (.bool false)), []⟩])
       .ret)
      .skip))
    (.seq
     (.reg [5] [
       ⟨none, (some 39), .mov (.t 0), []⟩,
       ⟨none, (some 40), .nil (.t 39), []⟩,
       ⟨none, (some 41), .fldP 2 (.t 40), []⟩,
       ⟨none, (some 42), .ld 1 false (.t 41), []⟩,
       ⟨none, (some 43), .bin .eql (.t 42) (.c (.int .i8 0)), []⟩,
       ⟨none, (some 44), .mov (.t 43), []⟩,
       ⟨(some (44, true)), (some 45), .mov (.t 0), []⟩,
       ⟨(some (44, true)), (some 46), .nil (.t 45), []⟩,
       ⟨(some (44, true)), (some 47), .fldP 3 (.t 46), []⟩,
       ⟨(some (44, true)), (some 48), .ld 1 false (.t 47), []⟩,
       ⟨(some (44, true)), (some 49), .bin .eql (.t 48) (.c (.int .i8 0)), []⟩,
       ⟨none, (some 50), .pick (.t 44) (.t 49) (.c (.bool false)), []⟩,
       ⟨none, (some 5), .mov (.t 50), []⟩])
     (.seq
      (.seq
       (.reg [54] [
         ⟨none, (some 51), .mov (.t 0), []⟩,
         ⟨none, (some 52), .nil (.t 51), []⟩,
         ⟨none, (some 53), .fldP 0 (.t 52), []⟩,
         ⟨none, (some 54), .ld 1 false (.t 53), []⟩])
       (.block 0
        (.seq
         (.reg [55] [
           ⟨none, (some 56), .bin .eql (.t 54) (.c (.int .i8 0)), []⟩,
           ⟨none, (some 55), .mov (.t 56), []⟩])
         (.cond (.t 55)
          (.seq
           (.reg [4] [
             ⟨none, (some 57), .mov (.t 0), []⟩,
             ⟨none, (some 58), .nil (.t 57), []⟩,
             ⟨none, (some 59), .fldP 1 (.t 58), []⟩,
             ⟨none, (some 60), .ld 1 false (.t 59), []⟩,
             ⟨none, (some 61), .bin .eql (.t 60) (.c (.int .i8 0)), []⟩,
             ⟨none, (some 62), .mov (.t 61), []⟩,
             ⟨(some (62, true)), (some 63), .mov (.t 5), []⟩,
             ⟨none, (some 64), .pick (.t 62) (.t 63) (.c (.bool false)), []⟩,
             ⟨none, (some 4), .mov (.t 64), []⟩])
           .ret)
          (.seq
           (.reg [65] [
             ⟨none, (some 66), .bin .eql (.t 54) (.c (.int .i8 1)), []⟩,
             ⟨none, (some 65), .mov (.t 66), []⟩])
           (.cond (.t 65)
            (.seq
             (.reg [4] [
               ⟨none, (some 67), .mov (.t 0), []⟩,
               ⟨none, (some 68), .nil (.t 67), []⟩,
               ⟨none, (some 69), .fldP 1 (.t 68), []⟩,
               ⟨none, (some 70), .ld 1 false (.t 69), []⟩,
               ⟨none, (some 71), .conv .i64 (.t 70), []⟩,
               ⟨none, (some 72), .mov (.t 1), []⟩,
               ⟨none, (some 73), .bin .sub (.t 72) (.c (.int .i64 1)), []⟩,
               ⟨none, (some 74), .call true 304 [.t 71, .c (.int .i64 0), .t 73], []⟩,
               ⟨none, (some 75), .mov (.t 74), []⟩,
               ⟨(some (75, true)), (some 76), .mov (.t 5), []⟩,
               ⟨none, (some 77), .pick (.t 75) (.t 76) (.c (.bool false)), []⟩,
               ⟨none, (some 4), .mov (.t 77), []⟩])
             .ret)
            .skip))))))
      (.seq
       (.reg [4] [
         ⟨none, (some 78), .mov (.t 0), []⟩,
         ⟨none, (some 79), .nil (.t 78), []⟩,
         ⟨none, (some 80), .fldP 1 (.t 79), []⟩,
         ⟨none, (some 81), .ld 1 false (.t 80), []⟩,
         ⟨none, (some 82), .conv .i64 (.t 81), []⟩,
         ⟨none, (some 83), .mov (.t 1), []⟩,
         ⟨none, (some 84), .bin .sub (.t 83) (.c (.int .i64 1)), []⟩,
         ⟨none, (some 85), .call true 304 [.t 82, .c (.int .i64 0), .t 84], []⟩,
         ⟨none, (some 86), .mov (.t 85), []⟩,
         ⟨(some (86, true)), (some 87), .mov (.t 5), []⟩,
         ⟨(some (86, true)), (some 88), .un .not (.t 87), []⟩,
         ⟨none, (some 89), .pick (.t 86) (.t 88) (.c (.bool false)), []⟩,
         ⟨none, (some 4), .mov (.t 89), []⟩])
       .ret)))))
def c524 : Fn := { np := 2, nt := 90, kind := .pure, res := [.t 4], body := k524 }

/- laws.eqChange -/
def k529 : Cd :=
  (.seq
   (.reg [2, 3, 4] [
     ⟨none, (some 2), .mov (.t 0), []⟩,
     ⟨none, (some 3), .mov (.t 1), []⟩,
     ⟨none, (some 4), .mov (.c (.bool false)), []⟩])
   (.seq
    (.seq
     (.reg [9] [
       ⟨none, (some 5), .adrF 2 none 0, []⟩,
       ⟨none, (some 6), .ldV 2 (some 5) 1 false, []⟩,
       ⟨none, (some 7), .adrF 3 none 0, []⟩,
       ⟨none, (some 8), .ldV 3 (some 7) 1 false, []⟩,
       ⟨none, (some 9), .bin .neq (.t 6) (.t 8), []⟩])
     (.cond (.t 9)
      (.seq
       (.reg [4] [
         ⟨none, (some 4), .mov (.c (.bool false)), []⟩])
       .ret)
      .skip))
    (.seq
     (.seq
      (.reg [14] [
        ⟨none, (some 10), .adrF 2 none 1, []⟩,
        ⟨none, (some 11), .ldV 2 (some 10) 1 false, []⟩,
        ⟨none, (some 12), .adrF 3 none 1, []⟩,
        ⟨none, (some 13), .ldV 3 (some 12) 1 false, []⟩,
        ⟨none, (some 14), .bin .neq (.t 11) (.t 13), []⟩])
      (.cond (.t 14)
       (.seq
        (.reg [4] [
          ⟨none, (some 4), .mov (.c (.bool false)), []⟩])
        .ret)
       .skip))
     (.seq
      (.reg [4] [
        ⟨none, (some 4), .mov (.c (.bool true)), []⟩])
      .ret))))
def c529 : Fn := { np := 2, nt := 15, kind := .pure, res := [.t 4], body := k529 }

/- impl.length[impl.Step] -/
def k531 : Cd :=
  (.seq
   (.reg [2] [
     ⟨none, (some 2), .mov (.c (.int .i64 0)), []⟩])
   (.seq
    (.reg [2] [
      ⟨none, (some 3), .mov (.t 0), []⟩,
      ⟨none, (some 4), .len (.t 3), []⟩,
      ⟨none, (some 2), .mov (.t 4), []⟩])
    .ret))
def c531 : Fn := { np := 1, nt := 5, kind := .pure, res := [.t 2], body := k531 }

/- slices.Index[[]int64,int64] -/
def b532_1 : Cd :=
  (.seq
   (.reg [9] [
     ⟨none, (some 9), .bin .lss (.t 8) (.t 7), []⟩])
   (.seq
    (.cond (.t 9)
     .skip
     (.exit 0))
    (.seq
     (.block 1
      (.seq
       (.reg [5] [
         ⟨none, (some 10), .mov (.t 8), []⟩,
         ⟨none, (some 5), .mov (.t 10), []⟩])
       (.seq
        (.reg [16] [
          ⟨none, (some 11), .mov (.t 1), []⟩,
          ⟨none, (some 12), .mov (.t 0), []⟩,
          ⟨none, (some 13), .mov (.t 5), []⟩,
          ⟨none, (some 14), .idxA 1 (.t 12) (.t 13), []⟩,
          ⟨none, (some 15), .ld 1 false (.t 14), []⟩,
          ⟨none, (some 16), .bin .eql (.t 11) (.t 15), []⟩])
        (.cond (.t 16)
         (.seq
          (.reg [4] [
            ⟨none, (some 17), .mov (.t 5), []⟩,
            ⟨none, (some 4), .mov (.t 17), []⟩])
          .ret)
         .skip))))
     (.reg [8] [
       ⟨none, (some 18), .bin .add (.t 8) (.c (.int .i64 1)), []⟩,
       ⟨none, (some 8), .mov (.t 18), []⟩]))))
def k532 : Cd :=
  (.seq
   (.reg [4] [
     ⟨none, (some 4), .mov (.c (.int .i64 0)), []⟩])
   (.seq
    (.seq
     (.reg [7, 8] [
       ⟨none, (some 6), .mov (.t 0), []⟩,
       ⟨none, (some 7), .len (.t 6), []⟩,
       ⟨none, (some 8), .mov (.c (.int .i64 0)), []⟩])
     (.block 0
      (.loop b532_1)))
    (.seq
     (.reg [4] [
       ⟨none, (some 4), .mov (.c (.int .i64 (-1))), []⟩])
     .ret)))
def c532 : Fn := { np := 2, nt := 19, kind := .pure, res := [.t 4], body := k532 }

/- spec.l06Far -/
def k572 : Cd :=
  (.seq
   (.reg [2] [
     ⟨none, (some 2), .mov (.c (.bool false)), []⟩])
   (.seq
    (.reg [2] [
      ⟨none, (some 3), .mov (.t 0), []⟩,
      ⟨none, (some 4), .call true 304 [.t 3, .c (.int .i64 (-12)), .c (.int .i64 12)], []⟩,
      ⟨none, (some 2), .mov (.t 4), []⟩])
    .ret))
def c572 : Fn := { np := 1, nt := 5, kind := .pure, res := [.t 2], body := k572 }

/- spec.l06Rows -/
def b573_1 : Cd :=
  (.seq
   (.seq
    (.reg [7] [
      ⟨none, (some 4), .mov (.t 3), []⟩,
      ⟨none, (some 5), .mov (.t 0), []⟩,
      ⟨none, (some 6), .len (.t 5), []⟩,
      ⟨none, (some 7), .bin .lss (.t 4) (.t 6), []⟩])
    (.cond (.t 7)
     .skip
     (.exit 0)))
   (.seq
    (.block 1
     (.seq
      (.seq
       (.reg [27] [
         ⟨none, (some 10), .mov (.t 0), []⟩,
         ⟨none, (some 11), .mov (.t 3), []⟩,
         ⟨none, (some 12), .idxA 2 (.t 10) (.t 11), []⟩,
         ⟨none, (some 13), .fldP 0 (.t 12), []⟩,
         ⟨none, (some 14), .ld 1 false (.t 13), []⟩,
         ⟨none, (some 15), .conv .i64 (.t 14), []⟩,
         ⟨none, (some 16), .call true 304 [.t 15, .c (.int .i64 0), .c (.int .i64 11)], []⟩,
         ⟨none, (some 17), .un .not (.t 16), []⟩,
         ⟨none, (some 18), .mov (.t 17), []⟩,
         ⟨(some (18, false)), (some 19), .mov (.t 0), []⟩,
         ⟨(some (18, false)), (some 20), .mov (.t 3), []⟩,
         ⟨(some (18, false)), (some 21), .idxA 2 (.t 19) (.t 20), []⟩,
         ⟨(some (18, false)), (some 22), .fldP 1 (.t 21), []⟩,
         ⟨(some (18, false)), (some 23), .ld 1 false (.t 22), []⟩,
         ⟨(some (18, false)), (some 24), .conv .i64 (.t 23), []⟩,
         ⟨(some (18, false)), (some 25), .call true 304 [.t 24, .c (.int .i64 1), .c (.int .i64 4095)], []⟩,
         ⟨(some (18, false)), (some 26), .un .not (.t 25), []⟩,
         ⟨none, (some 27), .pick (.t 18) (.c (.bool true)) (.t 26), []⟩])
       (.cond (.t 27)
        (.seq
         (.reg [2] [
           ⟨none, (some 2), .mov (.c (.bool false)), []⟩])
         .ret)
        .skip))
      (.seq
       (.reg [43] [
         ⟨none, (some 28), .mov (.t 3), []⟩,
         ⟨none, (some 29), .bin .gtr (.t 28) (.c (.int .i64 0)), []⟩,
         ⟨none, (some 30), .mov (.t 29), []⟩,
         ⟨(some (30, true)), (some 31), .mov (.t 0), []⟩,
         ⟨(some (30, true)), (some 32), .mov (.t 3), []⟩,
         ⟨(some (30, true)), (some 33), .idxA 2 (.t 31) (.t 32), []⟩,
         ⟨(some (30, true)), (some 34), .fldP 0 (.t 33), []⟩,
         ⟨(some (30, true)), (some 35), .ld 1 false (.t 34), []⟩,
         ⟨(some (30, true)), (some 36), .mov (.t 0), []⟩,
         ⟨(some (30, true)), (some 37), .mov (.t 3), []⟩,
         ⟨(some (30, true)), (some 38), .bin .sub (.t 37) (.c (.int .i64 1)), []⟩,
         ⟨(some (30, true)), (some 39), .idxA 2 (.t 36) (.t 38), []⟩,
         ⟨(some (30, true)), (some 40), .fldP 0 (.t 39), []⟩,
         ⟨(some (30, true)), (some 41), .ld 1 false (.t 40), []⟩,
         ⟨(some (30, true)), (some 42), .bin .leq (.t 35) (.t 41), []⟩,
         ⟨none, (some 43), .pick (.t 30) (.t 42) (.c (.bool false)), []⟩])
       (.cond (.t 43)
        (.seq
         (.reg [2] [
           ⟨none, (some 2), .mov (.c (.bool false)), []⟩])
         .ret)
        .skip))))
    (.reg [3] [
      ⟨none, (some 8), .mov (.t 3), []⟩,
      ⟨none, (some 9), .bin .add (.t 8) (.c (.int .i64 1)), []⟩,
      ⟨none, (some 3), .mov (.t 9), []⟩])))
def k573 : Cd :=
  (.seq
   (.reg [2] [
     ⟨none, (some 2), .mov (.c (.bool false)), []⟩])
   (.seq
    (.seq
     (.reg [3] [
       ⟨none, (some 3), .mov (.c (.int .i64 0)), []⟩])
     (.block 0
      (.loop b573_1)))
    (.seq
     (.reg [2] [
       ⟨none, (some 2), .mov (.c (.bool true)), []⟩])
     .ret)))
def c573 : Fn := { np := 1, nt := 44, kind := .pure, res := [.t 2], body := k573 }


end Fb
