/- The functions of the law, in the small language. -/
import Derived.Test.YtholaggmhhjjkaaDen
set_option linter.unusedVariables false
set_option linter.unusedSimpArgs false
namespace Fb
open Go

/- laws.FnExactPanScene -/
def k37 : Cd :=
  (.seq
   (.reg [12] [
     ⟨none, (some 12), .mov (.c (.bool false)), []⟩])
   (.seq
    (.reg [13] [
      ⟨none, (some 13), .mov (.c (.int .i64 1000000)), []⟩])
    (.seq
     (.reg [13] [
       ⟨none, (some 24), .mov (.t 0), []⟩,
       ⟨none, (some 25), .mov (.t 13), []⟩,
       ⟨none, (some 26), .call true 189 [.t 24, .t 25], []⟩,
       ⟨none, (some 13), .mov (.t 26), []⟩])
     (.seq
      (.seq
       (.reg [28] [
         ⟨none, (some 27), .mov (.t 13), []⟩,
         ⟨none, (some 28), .bin .lss (.t 27) (.c (.int .i64 0)), []⟩])
       (.cond (.t 28)
        (.seq
         (.reg [12] [
           ⟨none, (some 12), .mov (.c (.bool true)), []⟩])
         .ret)
        .skip))
      (.seq
       (.reg [14, 15] [
         ⟨none, (some 30), .mov (.t 0), []⟩,
         ⟨none, (some 31), .call true 191 [.t 30, .c (.bool false)], []⟩,
         ⟨none, (some 32), .mov (.t 1), []⟩,
         ⟨none, (some 33), .mov (.t 2), []⟩,
         ⟨none, (some 34), .mov (.t 3), []⟩,
         ⟨none, (some 35), .mov (.t 4), []⟩,
         ⟨none, (some 36), .mov (.t 5), []⟩,
         ⟨none, (some 37), .call true 198 [.t 31, .t 32, .t 33, .t 34, .t 35, .t 36], []⟩,
         ⟨none, (some 29), .mov (.t 37), []⟩,
         ⟨none, (some 38), .ext (.t 29) 0, []⟩,
         ⟨none, (some 39), .ext (.t 29) 1, []⟩,
         ⟨none, (some 14), .mov (.t 38), []⟩,
         ⟨none, (some 15), .mov (.t 39), []⟩])
       (.seq
        (.reg [16] [
          ⟨none, (some 40), .mov (.t 0), []⟩,
          ⟨none, (some 41), .call true 191 [.t 40, .c (.bool false)], []⟩,
          ⟨none, (some 16), .mov (.t 41), []⟩])
        (.seq
         (.reg [17, 18] [
           ⟨none, (some 43), .mov (.t 16), []⟩,
           ⟨none, (some 44), .mov (.t 1), []⟩,
           ⟨none, (some 45), .mov (.t 2), []⟩,
           ⟨none, (some 46), .mov (.t 3), []⟩,
           ⟨none, (some 47), .mov (.t 4), []⟩,
           ⟨none, (some 48), .mov (.t 5), []⟩,
           ⟨none, (some 49), .call true 199 [.t 43, .t 44, .t 45, .t 46, .t 47, .t 48], []⟩,
           ⟨none, (some 42), .mov (.t 49), []⟩,
           ⟨none, (some 50), .ext (.t 42) 0, []⟩,
           ⟨none, (some 51), .ext (.t 42) 1, []⟩,
           ⟨none, (some 17), .mov (.t 50), []⟩,
           ⟨none, (some 18), .mov (.t 51), []⟩])
         (.seq
          (.seq
           (.reg [60] [
             ⟨none, (some 52), .mov (.t 17), []⟩,
             ⟨none, (some 53), .mov (.t 14), []⟩,
             ⟨none, (some 54), .call true 121 [.t 52, .t 53], []⟩,
             ⟨none, (some 55), .un .not (.t 54), []⟩,
             ⟨none, (some 56), .mov (.t 55), []⟩,
             ⟨(some (56, false)), (some 57), .mov (.t 18), []⟩,
             ⟨(some (56, false)), (some 58), .mov (.t 15), []⟩,
             ⟨(some (56, false)), (some 59), .bin .neq (.t 57) (.t 58), []⟩,
             ⟨none, (some 60), .pick (.t 56) (.c (.bool true)) (.t 59), []⟩])
           (.cond (.t 60)
            (.seq
             (.reg [12] [
               ⟨none, (some 12), .mov (.c (.bool false)), []⟩])
             .ret)
            .skip))
          (.seq
           (.seq
            (.reg [65] [
              ⟨none, (some 61), .mov (.t 16), []⟩,
              ⟨none, (some 62), .mov (.t 0), []⟩,
              ⟨none, (some 63), .call true 191 [.t 62, .c (.bool false)], []⟩,
              ⟨none, (some 64), .call true 194 [.t 61, .t 63], []⟩,
              ⟨none, (some 65), .un .not (.t 64), []⟩])
            (.cond (.t 65)
             (.seq
              (.reg [12] [
                ⟨none, (some 12), .mov (.c (.bool false)), []⟩])
              .ret)
             .skip))
           (.seq
            (.reg [19] [
              ⟨none, (some 19), .mov (.c (.int .i64 101)), []⟩])
            (.seq
             (.reg [19] [
               ⟨none, (some 66), .mov (.t 16), []⟩,
               ⟨none, (some 67), .mov (.t 19), []⟩,
               ⟨none, (some 68), .call false 195 [.t 66, .t 67], []⟩,
               ⟨none, (some 19), .mov (.t 68), []⟩])
             (.seq
              (.seq
               (.reg [81] [
                 ⟨none, (some 69), .mov (.t 19), []⟩,
                 ⟨none, (some 70), .bin .lss (.t 69) (.c (.int .i64 0)), []⟩,
                 ⟨none, (some 71), .mov (.t 70), []⟩,
                 ⟨(some (71, false)), (some 72), .mov (.t 17), []⟩,
                 ⟨(some (71, false)), (some 73), .mov (.t 14), []⟩,
                 ⟨(some (71, false)), (some 74), .call true 121 [.t 72, .t 73], []⟩,
                 ⟨(some (71, false)), (some 75), .un .not (.t 74), []⟩,
                 ⟨none, (some 76), .pick (.t 71) (.c (.bool true)) (.t 75), []⟩,
                 ⟨none, (some 77), .mov (.t 76), []⟩,
                 ⟨(some (77, false)), (some 78), .mov (.t 18), []⟩,
                 ⟨(some (77, false)), (some 79), .mov (.t 15), []⟩,
                 ⟨(some (77, false)), (some 80), .bin .neq (.t 78) (.t 79), []⟩,
                 ⟨none, (some 81), .pick (.t 77) (.c (.bool true)) (.t 80), []⟩])
               (.cond (.t 81)
                (.seq
                 (.reg [12] [
                   ⟨none, (some 12), .mov (.c (.bool false)), []⟩])
                 .ret)
                .skip))
              (.seq
               (.reg [20] [
                 ⟨none, (some 20), .mov (.c (.int .i64 101)), []⟩])
               (.seq
                (.reg [20] [
                  ⟨none, (some 82), .mov (.t 17), []⟩,
                  ⟨none, (some 83), .mov (.t 20), []⟩,
                  ⟨none, (some 84), .call false 122 [.t 82, .t 83], []⟩,
                  ⟨none, (some 20), .mov (.t 84), []⟩])
                (.seq
                 (.reg [21] [
                   ⟨none, (some 21), .mov (.c (.int .i64 101)), []⟩])
                 (.seq
                  (.reg [21] [
                    ⟨none, (some 85), .mov (.t 17), []⟩,
                    ⟨none, (some 86), .mov (.t 21), []⟩,
                    ⟨none, (some 87), .call true 123 [.t 85, .t 86], []⟩,
                    ⟨none, (some 21), .mov (.t 87), []⟩])
                  (.seq
                   (.seq
                    (.reg [89] [
                      ⟨none, (some 88), .mov (.t 21), []⟩,
                      ⟨none, (some 89), .bin .lss (.t 88) (.c (.int .i64 0)), []⟩])
                    (.cond (.t 89)
                     (.seq
                      (.reg [12] [
                        ⟨none, (some 12), .mov (.c (.bool false)), []⟩])
                      .ret)
                     .skip))
                   (.seq
                    (.seq
                     (.reg [92] [
                       ⟨none, (some 90), .mov (.t 21), []⟩,
                       ⟨none, (some 91), .mov (.t 20), []⟩,
                       ⟨none, (some 92), .bin .neq (.t 90) (.t 91), []⟩])
                     (.cond (.t 92)
                      (.seq
                       (.reg [12] [
                         ⟨none, (some 12), .mov (.c (.bool false)), []⟩])
                       .ret)
                      .skip))
                    (.seq
                     (.reg [22, 23] [
                       ⟨none, (some 94), .mov (.t 0), []⟩,
                       ⟨none, (some 95), .call true 191 [.t 94, .c (.bool true)], []⟩,
                       ⟨none, (some 96), .mov (.t 1), []⟩,
                       ⟨none, (some 97), .mov (.t 2), []⟩,
                       ⟨none, (some 98), .mov (.t 3), []⟩,
                       ⟨none, (some 99), .mov (.t 4), []⟩,
                       ⟨none, (some 100), .mov (.t 5), []⟩,
                       ⟨none, (some 101), .call true 199 [.t 95, .t 96, .t 97, .t 98, .t 99, .t 100], []⟩,
                       ⟨none, (some 93), .mov (.t 101), []⟩,
                       ⟨none, (some 102), .ext (.t 93) 0, []⟩,
                       ⟨none, (some 103), .ext (.t 93) 1, []⟩,
                       ⟨none, (some 22), .mov (.t 102), []⟩,
                       ⟨none, (some 23), .mov (.t 103), []⟩])
                     (.seq
                      (.seq
                       (.reg [112] [
                         ⟨none, (some 104), .mov (.t 22), []⟩,
                         ⟨none, (some 105), .mov (.t 14), []⟩,
                         ⟨none, (some 106), .call true 121 [.t 104, .t 105], []⟩,
                         ⟨none, (some 107), .un .not (.t 106), []⟩,
                         ⟨none, (some 108), .mov (.t 107), []⟩,
                         ⟨(some (108, false)), (some 109), .mov (.t 23), []⟩,
                         ⟨(some (108, false)), (some 110), .mov (.t 15), []⟩,
                         ⟨(some (108, false)), (some 111), .bin .neq (.t 109) (.t 110), []⟩,
                         ⟨none, (some 112), .pick (.t 108) (.c (.bool true)) (.t 111), []⟩])
                       (.cond (.t 112)
                        (.seq
                         (.reg [12] [
                           ⟨none, (some 12), .mov (.c (.bool false)), []⟩])
                         .ret)
                        .skip))
                      (.seq
                       (.reg [21] [
                         ⟨none, (some 21), .mov (.c (.int .i64 101)), []⟩])
                       (.seq
                        (.reg [21] [
                          ⟨none, (some 113), .mov (.t 17), []⟩,
                          ⟨none, (some 114), .mov (.t 21), []⟩,
                          ⟨none, (some 115), .call true 123 [.t 113, .t 114], []⟩,
                          ⟨none, (some 21), .mov (.t 115), []⟩])
                        (.seq
                         (.seq
                          (.reg [117] [
                            ⟨none, (some 116), .mov (.t 21), []⟩,
                            ⟨none, (some 117), .bin .lss (.t 116) (.c (.int .i64 0)), []⟩])
                          (.cond (.t 117)
                           (.seq
                            (.reg [12] [
                              ⟨none, (some 12), .mov (.c (.bool false)), []⟩])
                            .ret)
                           .skip))
                         (.seq
                          (.seq
                           (.reg [120] [
                             ⟨none, (some 118), .mov (.t 21), []⟩,
                             ⟨none, (some 119), .mov (.t 20), []⟩,
                             ⟨none, (some 120), .bin .neq (.t 118) (.t 119), []⟩])
                           (.cond (.t 120)
                            (.seq
                             (.reg [12] [
                               ⟨none, (some 12), .mov (.c (.bool false)), []⟩])
                             .ret)
                            .skip))
                          (.seq
                           (.reg [12] [
                             ⟨none, (some 12), .mov (.c (.bool true)), []⟩])
                           .ret)))))))))))))))))))))))))
def c37 : Fn := { np := 6, nt := 121, kind := .pure, res := [.t 12], body := k37 }

/- laws.eqFrame -/
def b78_1 : Cd :=
  (.seq
   (.seq
    (.reg [7] [
      ⟨none, (some 6), .mov (.t 5), []⟩,
      ⟨none, (some 7), .bin .lss (.t 6) (.c (.int .i64 12)), []⟩])
    (.cond (.t 7)
     .skip
     (.exit 0)))
   (.seq
    (.block 1
     (.seq
      (.reg [16] [
        ⟨none, (some 10), .mov (.t 5), []⟩,
        ⟨none, (some 11), .adrI 2 none 12 1 (.t 10), []⟩,
        ⟨none, (some 12), .ldV 2 (some 11) 1 false, []⟩,
        ⟨none, (some 13), .mov (.t 5), []⟩,
        ⟨none, (some 14), .adrI 3 none 12 1 (.t 13), []⟩,
        ⟨none, (some 15), .ldV 3 (some 14) 1 false, []⟩,
        ⟨none, (some 16), .bin .neq (.t 12) (.t 15), []⟩])
      (.cond (.t 16)
       (.seq
        (.reg [4] [
          ⟨none, (some 4), .mov (.c (.bool false)), []⟩])
        .ret)
       .skip)))
    (.reg [5] [
      ⟨none, (some 8), .mov (.t 5), []⟩,
      ⟨none, (some 9), .bin .add (.t 8) (.c (.int .i64 1)), []⟩,
      ⟨none, (some 5), .mov (.t 9), []⟩])))
def k78 : Cd :=
  (.seq
   (.reg [2, 3, 4] [
     ⟨none, (some 2), .mov (.t 0), []⟩,
     ⟨none, (some 3), .mov (.t 1), []⟩,
     ⟨none, (some 4), .mov (.c (.bool false)), []⟩])
   (.seq
    (.seq
     (.reg [5] [
       ⟨none, (some 5), .mov (.c (.int .i64 0)), []⟩])
     (.block 0
      (.loop b78_1)))
    (.seq
     (.reg [4] [
       ⟨none, (some 4), .mov (.c (.bool true)), []⟩])
     .ret)))
def c78 : Fn := { np := 2, nt := 17, kind := .pure, res := [.t 4], body := k78 }

/- laws.eqBook -/
def b121_1 : Cd :=
  (.seq
   (.seq
    (.reg [14] [
      ⟨none, (some 11), .mov (.t 5), []⟩,
      ⟨none, (some 12), .mov (.t 0), []⟩,
      ⟨none, (some 13), .len (.t 12), []⟩,
      ⟨none, (some 14), .bin .lss (.t 11) (.t 13), []⟩])
    (.cond (.t 14)
     .skip
     (.exit 0)))
   (.seq
    (.block 1
     (.seq
      (.reg [26] [
        ⟨none, (some 17), .mov (.t 0), []⟩,
        ⟨none, (some 18), .mov (.t 5), []⟩,
        ⟨none, (some 19), .idxA 12 (.t 17) (.t 18), []⟩,
        ⟨none, (some 20), .ld 12 true (.t 19), []⟩,
        ⟨none, (some 21), .mov (.t 1), []⟩,
        ⟨none, (some 22), .mov (.t 5), []⟩,
        ⟨none, (some 23), .idxA 12 (.t 21) (.t 22), []⟩,
        ⟨none, (some 24), .ld 12 true (.t 23), []⟩,
        ⟨none, (some 25), .call true 78 [.t 20, .t 24], []⟩,
        ⟨none, (some 26), .un .not (.t 25), []⟩])
      (.cond (.t 26)
       (.seq
        (.reg [4] [
          ⟨none, (some 4), .mov (.c (.bool false)), []⟩])
        .ret)
       .skip)))
    (.reg [5] [
      ⟨none, (some 15), .mov (.t 5), []⟩,
      ⟨none, (some 16), .bin .add (.t 15) (.c (.int .i64 1)), []⟩,
      ⟨none, (some 5), .mov (.t 16), []⟩])))
def k121 : Cd :=
  (.seq
   (.reg [4] [
     ⟨none, (some 4), .mov (.c (.bool false)), []⟩])
   (.seq
    (.seq
     (.reg [10] [
       ⟨none, (some 6), .mov (.t 0), []⟩,
       ⟨none, (some 7), .len (.t 6), []⟩,
       ⟨none, (some 8), .mov (.t 1), []⟩,
       ⟨none, (some 9), .len (.t 8), []⟩,
       ⟨none, (some 10), .bin .neq (.t 7) (.t 9), []⟩])
     (.cond (.t 10)
      (.seq
       (.reg [4] [
         ⟨none, (some 4), .mov (.c (.bool false)), []⟩])
       .ret)
      .skip))
    (.seq
     (.seq
      (.reg [5] [
        ⟨none, (some 5), .mov (.c (.int .i64 0)), []⟩])
      (.block 0
       (.loop b121_1)))
     (.seq
      (.reg [4] [
        ⟨none, (some 4), .mov (.c (.bool true)), []⟩])
      .ret))))
def c121 : Fn := { np := 2, nt := 27, kind := .pure, res := [.t 4], body := k121 }

/- laws.markBook -/
def b122_1 : Cd :=
  (.seq
   (.seq
    (.reg [14] [
      ⟨none, (some 13), .mov (.t 6), []⟩,
      ⟨none, (some 14), .bin .lss (.t 13) (.c (.int .i64 12)), []⟩])
    (.cond (.t 14)
     .skip
     (.exit 2)))
   (.seq
    (.block 3
     (.seq
      (.reg [] [
        ⟨none, (some 17), .mov (.t 0), []⟩,
        ⟨none, (some 18), .mov (.t 5), []⟩,
        ⟨none, (some 19), .mov (.t 6), []⟩,
        ⟨none, (some 20), .mov (.t 1), []⟩,
        ⟨none, (some 21), .conv .u16 (.t 20), []⟩,
        ⟨none, (some 22), .idxA 12 (.t 17) (.t 18), []⟩,
        ⟨none, (some 23), .idxP 12 1 (.t 22) (.t 19), []⟩,
        ⟨none, none, .st 1 (.t 23) (.t 21), []⟩])
      (.reg [1] [
        ⟨none, (some 24), .mov (.t 1), []⟩,
        ⟨none, (some 25), .bin .add (.t 24) (.c (.int .i64 1)), []⟩,
        ⟨none, (some 1), .mov (.t 25), []⟩])))
    (.reg [6] [
      ⟨none, (some 15), .mov (.t 6), []⟩,
      ⟨none, (some 16), .bin .add (.t 15) (.c (.int .i64 1)), []⟩,
      ⟨none, (some 6), .mov (.t 16), []⟩])))
def b122_2 : Cd :=
  (.seq
   (.seq
    (.reg [10] [
      ⟨none, (some 7), .mov (.t 5), []⟩,
      ⟨none, (some 8), .mov (.t 0), []⟩,
      ⟨none, (some 9), .len (.t 8), []⟩,
      ⟨none, (some 10), .bin .lss (.t 7) (.t 9), []⟩])
    (.cond (.t 10)
     .skip
     (.exit 0)))
   (.seq
    (.block 1
     (.seq
      (.reg [6] [
        ⟨none, (some 6), .mov (.c (.int .i64 0)), []⟩])
      (.block 2
       (.loop b122_1))))
    (.reg [5] [
      ⟨none, (some 11), .mov (.t 5), []⟩,
      ⟨none, (some 12), .bin .add (.t 11) (.c (.int .i64 1)), []⟩,
      ⟨none, (some 5), .mov (.t 12), []⟩])))
def k122 : Cd :=
  (.seq
   (.reg [4] [
     ⟨none, (some 4), .mov (.c (.int .i64 0)), []⟩])
   (.seq
    (.seq
     (.reg [5] [
       ⟨none, (some 5), .mov (.c (.int .i64 0)), []⟩])
     (.block 0
      (.loop b122_2)))
    (.seq
     (.reg [4] [
       ⟨none, (some 26), .mov (.t 1), []⟩,
       ⟨none, (some 4), .mov (.t 26), []⟩])
     .ret)))
def c122 : Fn := { np := 2, nt := 27, kind := .args, res := [.t 4], body := k122 }

/- laws.heldBook -/
def b123_1 : Cd :=
  (.seq
   (.seq
    (.reg [14] [
      ⟨none, (some 13), .mov (.t 6), []⟩,
      ⟨none, (some 14), .bin .lss (.t 13) (.c (.int .i64 12)), []⟩])
    (.cond (.t 14)
     .skip
     (.exit 2)))
   (.seq
    (.block 3
     (.seq
      (.seq
       (.reg [25] [
         ⟨none, (some 17), .mov (.t 0), []⟩,
         ⟨none, (some 18), .mov (.t 5), []⟩,
         ⟨none, (some 19), .mov (.t 6), []⟩,
         ⟨none, (some 20), .idxA 12 (.t 17) (.t 18), []⟩,
         ⟨none, (some 21), .idxP 12 1 (.t 20) (.t 19), []⟩,
         ⟨none, (some 22), .ld 1 false (.t 21), []⟩,
         ⟨none, (some 23), .mov (.t 1), []⟩,
         ⟨none, (some 24), .conv .u16 (.t 23), []⟩,
         ⟨none, (some 25), .bin .neq (.t 22) (.t 24), []⟩])
       (.cond (.t 25)
        (.seq
         (.reg [4] [
           ⟨none, (some 4), .mov (.c (.int .i64 (-1))), []⟩])
         .ret)
        .skip))
      (.reg [1] [
        ⟨none, (some 26), .mov (.t 1), []⟩,
        ⟨none, (some 27), .bin .add (.t 26) (.c (.int .i64 1)), []⟩,
        ⟨none, (some 1), .mov (.t 27), []⟩])))
    (.reg [6] [
      ⟨none, (some 15), .mov (.t 6), []⟩,
      ⟨none, (some 16), .bin .add (.t 15) (.c (.int .i64 1)), []⟩,
      ⟨none, (some 6), .mov (.t 16), []⟩])))
def b123_2 : Cd :=
  (.seq
   (.seq
    (.reg [10] [
      ⟨none, (some 7), .mov (.t 5), []⟩,
      ⟨none, (some 8), .mov (.t 0), []⟩,
      ⟨none, (some 9), .len (.t 8), []⟩,
      ⟨none, (some 10), .bin .lss (.t 7) (.t 9), []⟩])
    (.cond (.t 10)
     .skip
     (.exit 0)))
   (.seq
    (.block 1
     (.seq
      (.reg [6] [
        ⟨none, (some 6), .mov (.c (.int .i64 0)), []⟩])
      (.block 2
       (.loop b123_1))))
    (.reg [5] [
      ⟨none, (some 11), .mov (.t 5), []⟩,
      ⟨none, (some 12), .bin .add (.t 11) (.c (.int .i64 1)), []⟩,
      ⟨none, (some 5), .mov (.t 12), []⟩])))
def k123 : Cd :=
  (.seq
   (.reg [4] [
     ⟨none, (some 4), .mov (.c (.int .i64 0)), []⟩])
   (.seq
    (.seq
     (.reg [5] [
       ⟨none, (some 5), .mov (.c (.int .i64 0)), []⟩])
     (.block 0
      (.loop b123_2)))
    (.seq
     (.reg [4] [
       ⟨none, (some 28), .mov (.t 1), []⟩,
       ⟨none, (some 4), .mov (.t 28), []⟩])
     .ret)))
def c123 : Fn := { np := 2, nt := 29, kind := .pure, res := [.t 4], body := k123 }

/- laws.toFrame -/
def b134_1 : Cd :=
  (.seq
   (.seq
    (.reg [6] [
      ⟨none, (some 5), .mov (.t 4), []⟩,
      ⟨none, (some 6), .bin .lss (.t 5) (.c (.int .i64 12)), []⟩])
    (.cond (.t 6)
     .skip
     (.exit 0)))
   (.seq
    (.block 1
     (.reg [3] [
       ⟨none, (some 9), .mov (.t 4), []⟩,
       ⟨none, (some 10), .mov (.t 4), []⟩,
       ⟨none, (some 11), .adrI 1 none 12 1 (.t 10), []⟩,
       ⟨none, (some 12), .ldV 1 (some 11) 1 false, []⟩,
       ⟨none, (some 13), .adrI 3 none 12 1 (.t 9), []⟩,
       ⟨none, (some 3), .stV 3 (some 13) 1 (.t 12), []⟩]))
    (.reg [4] [
      ⟨none, (some 7), .mov (.t 4), []⟩,
      ⟨none, (some 8), .bin .add (.t 7) (.c (.int .i64 1)), []⟩,
      ⟨none, (some 4), .mov (.t 8), []⟩])))
def k134 : Cd :=
  (.seq
   (.reg [1, 2] [
     ⟨none, (some 1), .mov (.t 0), []⟩,
     ⟨none, (some 2), .zero true (zs 12 (.int .u16 0)), []⟩])
   (.seq
    (.reg [3] [
      ⟨none, (some 3), .zero true (zs 12 (.int .u16 0)), []⟩])
    (.seq
     (.seq
      (.reg [4] [
        ⟨none, (some 4), .mov (.c (.int .i64 0)), []⟩])
      (.block 0
       (.loop b134_1)))
     (.seq
      (.reg [2] [
        ⟨none, (some 14), .ldV 3 none 12 true, []⟩,
        ⟨none, (some 2), .stV 2 none 12 (.t 14), []⟩])
      .ret))))
def c134 : Fn := { np := 1, nt := 15, kind := .pure, res := [.v 2 12 true], body := k134 }

/- laws.szScene -/
def k189 : Cd :=
  (.seq
   (.reg [4] [
     ⟨none, (some 4), .mov (.c (.int .i64 0)), []⟩])
   (.seq
    (.reg [1] [
      ⟨none, (some 5), .mov (.t 1), []⟩,
      ⟨none, (some 6), .mov (.t 0), []⟩,
      ⟨none, (some 7), .len (.t 6), []⟩,
      ⟨none, (some 8), .bin .sub (.t 5) (.t 7), []⟩,
      ⟨none, (some 1), .mov (.t 8), []⟩])
    (.seq
     (.seq
      (.reg [10] [
        ⟨none, (some 9), .mov (.t 1), []⟩,
        ⟨none, (some 10), .bin .lss (.t 9) (.c (.int .i64 0)), []⟩])
      (.cond (.t 10)
       (.seq
        (.reg [4] [
          ⟨none, (some 4), .mov (.c (.int .i64 (-1))), []⟩])
        .ret)
       .skip))
     (.seq
      (.reg [4] [
        ⟨none, (some 11), .mov (.t 1), []⟩,
        ⟨none, (some 4), .mov (.t 11), []⟩])
      .ret))))
def c189 : Fn := { np := 2, nt := 12, kind := .pure, res := [.t 4], body := k189 }

/- laws.toScene -/
def b191_1 : Cd :=
  (.seq
   (.seq
    (.reg [24] [
      ⟨none, (some 21), .mov (.t 6), []⟩,
      ⟨none, (some 22), .mov (.t 0), []⟩,
      ⟨none, (some 23), .len (.t 22), []⟩,
      ⟨none, (some 24), .bin .lss (.t 21) (.t 23), []⟩])
    (.cond (.t 24)
     .skip
     (.exit 0)))
   (.seq
    (.block 1
     (.reg [] [
       ⟨none, (some 27), .mov (.t 5), []⟩,
       ⟨none, (some 28), .mov (.t 6), []⟩,
       ⟨none, (some 29), .mov (.t 0), []⟩,
       ⟨none, (some 30), .mov (.t 6), []⟩,
       ⟨none, (some 31), .idxA 27 (.t 29) (.t 30), []⟩,
       ⟨none, (some 32), .ld 27 true (.t 31), []⟩,
       ⟨none, (some 33), .call true 410 [.t 32], []⟩,
       ⟨none, (some 34), .idxA 27 (.t 27) (.t 28), []⟩,
       ⟨none, none, .st 27 (.t 34) (.t 33), []⟩]))
    (.reg [6] [
      ⟨none, (some 25), .mov (.t 6), []⟩,
      ⟨none, (some 26), .bin .add (.t 25) (.c (.int .i64 1)), []⟩,
      ⟨none, (some 6), .mov (.t 26), []⟩])))
def b191_2 : Cd :=
  (.seq
   (.seq
    (.reg [40] [
      ⟨none, (some 37), .mov (.t 7), []⟩,
      ⟨none, (some 38), .mov (.t 5), []⟩,
      ⟨none, (some 39), .len (.t 38), []⟩,
      ⟨none, (some 40), .bin .lss (.t 37) (.t 39), []⟩])
    (.cond (.t 40)
     .skip
     (.exit 2)))
   (.seq
    (.block 3
     (.reg [] [
       ⟨none, (some 43), .mov (.t 5), []⟩,
       ⟨none, (some 44), .mov (.t 7), []⟩,
       ⟨none, (some 45), .call true 411 [], []⟩,
       ⟨none, (some 46), .idxA 27 (.t 43) (.t 44), []⟩,
       ⟨none, none, .st 27 (.t 46) (.t 45), []⟩]))
    (.reg [7] [
      ⟨none, (some 41), .mov (.t 7), []⟩,
      ⟨none, (some 42), .bin .add (.t 41) (.c (.int .i64 1)), []⟩,
      ⟨none, (some 7), .mov (.t 42), []⟩])))
def k191 : Cd :=
  (.seq
   (.reg [4] [
     ⟨none, (some 4), .mov (.c (.slice none 0 0)), []⟩])
   (.seq
    (.seq
     (.reg [13] [
       ⟨none, (some 8), .mov (.t 1), []⟩,
       ⟨none, (some 9), .mov (.t 8), []⟩,
       ⟨(some (9, true)), (some 10), .mov (.t 0), []⟩,
       ⟨(some (9, true)), (some 11), .len (.t 10), []⟩,
       ⟨(some (9, true)), (some 12), .bin .eql (.t 11) (.c (.int .i64 0)), []⟩,
       ⟨none, (some 13), .pick (.t 9) (.t 12) (.c (.bool false)), []⟩])
     (.cond (.t 13)
      (.seq
       (.reg [4] [
         ⟨none, (some 4), .mov (.c (.slice none 0 0)), []⟩])
       .ret)
      .skip))
    (.seq
     (.reg [5] [
       ⟨none, (some 14), .mov (.t 0), []⟩,
       ⟨none, (some 15), .len (.t 14), []⟩,
       ⟨none, (some 16), .mov (.t 0), []⟩,
       ⟨none, (some 17), .len (.t 16), []⟩,
       ⟨none, (some 18), .call true 296 [.t 17], []⟩,
       ⟨none, (some 19), .bin .add (.t 15) (.t 18), []⟩,
       ⟨none, (some 20), .mkS 27 52 [.int .u16 0, .int .u16 0, .int .u16 0, .int .u16 0, .int .u16 0, .int .u16 0, .int .u16 0, .int .u16 0, .int .u16 0, .int .u16 0, .int .u16 0, .int .u16 0, .int .u16 0, .int .u16 0, .int .u16 0, .int .u16 0, .int .u16 0, .int .u16 0, .int .u16 0, .int .u16 0, .int .u16 0, .int .u16 0, .int .u16 0, .int .u16 0, .int .i8 0, .int .i8 0, .int .i8 0] (.t 19) (.t 19), []⟩,
       ⟨none, (some 5), .mov (.t 20), []⟩])
     (.seq
      (.seq
       (.reg [6] [
         ⟨none, (some 6), .mov (.c (.int .i64 0)), []⟩])
       (.block 0
        (.loop b191_1)))
      (.seq
       (.seq
        (.reg [7] [
          ⟨none, (some 35), .mov (.t 0), []⟩,
          ⟨none, (some 36), .len (.t 35), []⟩,
          ⟨none, (some 7), .mov (.t 36), []⟩])
        (.block 2
         (.loop b191_2)))
       (.seq
        (.reg [4] [
          ⟨none, (some 47), .mov (.t 5), []⟩,
          ⟨none, (some 48), .mov (.t 0), []⟩,
          ⟨none, (some 49), .len (.t 48), []⟩,
          ⟨none, (some 50), .slcA 27 (.t 47) none (some (.t 49)) none, []⟩,
          ⟨none, (some 4), .mov (.t 50), []⟩])
        .ret))))))
def c191 : Fn := { np := 2, nt := 51, kind := .pure, res := [.t 4], body := k191 }

/- laws.eqScene -/
def b193_1 : Cd :=
  (.seq
   (.seq
    (.reg [14] [
      ⟨none, (some 11), .mov (.t 5), []⟩,
      ⟨none, (some 12), .mov (.t 0), []⟩,
      ⟨none, (some 13), .len (.t 12), []⟩,
      ⟨none, (some 14), .bin .lss (.t 11) (.t 13), []⟩])
    (.cond (.t 14)
     .skip
     (.exit 0)))
   (.seq
    (.block 1
     (.seq
      (.reg [26] [
        ⟨none, (some 17), .mov (.t 0), []⟩,
        ⟨none, (some 18), .mov (.t 5), []⟩,
        ⟨none, (some 19), .idxA 27 (.t 17) (.t 18), []⟩,
        ⟨none, (some 20), .ld 27 true (.t 19), []⟩,
        ⟨none, (some 21), .mov (.t 1), []⟩,
        ⟨none, (some 22), .mov (.t 5), []⟩,
        ⟨none, (some 23), .idxA 27 (.t 21) (.t 22), []⟩,
        ⟨none, (some 24), .ld 27 true (.t 23), []⟩,
        ⟨none, (some 25), .call true 413 [.t 20, .t 24], []⟩,
        ⟨none, (some 26), .un .not (.t 25), []⟩])
      (.cond (.t 26)
       (.seq
        (.reg [4] [
          ⟨none, (some 4), .mov (.c (.bool false)), []⟩])
        .ret)
       .skip)))
    (.reg [5] [
      ⟨none, (some 15), .mov (.t 5), []⟩,
      ⟨none, (some 16), .bin .add (.t 15) (.c (.int .i64 1)), []⟩,
      ⟨none, (some 5), .mov (.t 16), []⟩])))
def k193 : Cd :=
  (.seq
   (.reg [4] [
     ⟨none, (some 4), .mov (.c (.bool false)), []⟩])
   (.seq
    (.seq
     (.reg [10] [
       ⟨none, (some 6), .mov (.t 0), []⟩,
       ⟨none, (some 7), .len (.t 6), []⟩,
       ⟨none, (some 8), .mov (.t 1), []⟩,
       ⟨none, (some 9), .len (.t 8), []⟩,
       ⟨none, (some 10), .bin .neq (.t 7) (.t 9), []⟩])
     (.cond (.t 10)
      (.seq
       (.reg [4] [
         ⟨none, (some 4), .mov (.c (.bool false)), []⟩])
       .ret)
      .skip))
    (.seq
     (.seq
      (.reg [5] [
        ⟨none, (some 5), .mov (.c (.int .i64 0)), []⟩])
      (.block 0
       (.loop b193_1)))
     (.seq
      (.reg [4] [
        ⟨none, (some 4), .mov (.c (.bool true)), []⟩])
      .ret))))
def c193 : Fn := { np := 2, nt := 27, kind := .pure, res := [.t 4], body := k193 }

/- laws.intactScene -/
def k194 : Cd :=
  (.seq
   (.reg [4] [
     ⟨none, (some 4), .mov (.c (.bool false)), []⟩])
   (.seq
    (.reg [5] [
      ⟨none, (some 6), .mov (.t 1), []⟩,
      ⟨none, (some 7), .len (.t 6), []⟩,
      ⟨none, (some 8), .mov (.t 1), []⟩,
      ⟨none, (some 9), .len (.t 8), []⟩,
      ⟨none, (some 10), .call true 296 [.t 9], []⟩,
      ⟨none, (some 11), .bin .add (.t 7) (.t 10), []⟩,
      ⟨none, (some 5), .mov (.t 11), []⟩])
    (.seq
     (.reg [4] [
       ⟨none, (some 12), .mov (.t 0), []⟩,
       ⟨none, (some 13), .len (.t 12), []⟩,
       ⟨none, (some 14), .mov (.t 1), []⟩,
       ⟨none, (some 15), .len (.t 14), []⟩,
       ⟨none, (some 16), .bin .eql (.t 13) (.t 15), []⟩,
       ⟨none, (some 17), .mov (.t 16), []⟩,
       ⟨(some (17, true)), (some 18), .mov (.t 0), []⟩,
       ⟨(some (17, true)), (some 19), .mov (.t 5), []⟩,
       ⟨(some (17, true)), (some 20), .slcA 27 (.t 18) none (some (.t 19)) none, []⟩,
       ⟨(some (17, true)), (some 21), .mov (.t 1), []⟩,
       ⟨(some (17, true)), (some 22), .mov (.t 5), []⟩,
       ⟨(some (17, true)), (some 23), .slcA 27 (.t 21) none (some (.t 22)) none, []⟩,
       ⟨(some (17, true)), (some 24), .call true 193 [.t 20, .t 23], []⟩,
       ⟨none, (some 25), .pick (.t 17) (.t 24) (.c (.bool false)), []⟩,
       ⟨none, (some 4), .mov (.t 25), []⟩])
     .ret)))
def c194 : Fn := { np := 2, nt := 26, kind := .pure, res := [.t 4], body := k194 }

/- laws.markScene -/
def b195_1 : Cd :=
  (.seq
   (.seq
    (.reg [15] [
      ⟨none, (some 14), .mov (.t 6), []⟩,
      ⟨none, (some 15), .bin .lss (.t 14) (.c (.int .i64 12)), []⟩])
    (.cond (.t 15)
     .skip
     (.exit 2)))
   (.seq
    (.block 3
     (.seq
      (.reg [] [
        ⟨none, (some 18), .mov (.t 0), []⟩,
        ⟨none, (some 19), .mov (.t 5), []⟩,
        ⟨none, (some 20), .mov (.t 6), []⟩,
        ⟨none, (some 21), .mov (.t 1), []⟩,
        ⟨none, (some 22), .conv .u16 (.t 21), []⟩,
        ⟨none, (some 23), .idxA 27 (.t 18) (.t 19), []⟩,
        ⟨none, (some 24), .fldP 0 (.t 23), []⟩,
        ⟨none, (some 25), .fldP 0 (.t 24), []⟩,
        ⟨none, (some 26), .idxP 12 1 (.t 25) (.t 20), []⟩,
        ⟨none, none, .st 1 (.t 26) (.t 22), []⟩])
      (.reg [1] [
        ⟨none, (some 27), .mov (.t 1), []⟩,
        ⟨none, (some 28), .bin .add (.t 27) (.c (.int .i64 1)), []⟩,
        ⟨none, (some 1), .mov (.t 28), []⟩])))
    (.reg [6] [
      ⟨none, (some 16), .mov (.t 6), []⟩,
      ⟨none, (some 17), .bin .add (.t 16) (.c (.int .i64 1)), []⟩,
      ⟨none, (some 6), .mov (.t 17), []⟩])))
def b195_2 : Cd :=
  (.seq
   (.seq
    (.reg [30] [
      ⟨none, (some 29), .mov (.t 7), []⟩,
      ⟨none, (some 30), .bin .lss (.t 29) (.c (.int .i64 12)), []⟩])
    (.cond (.t 30)
     .skip
     (.exit 4)))
   (.seq
    (.block 5
     (.seq
      (.reg [] [
        ⟨none, (some 33), .mov (.t 0), []⟩,
        ⟨none, (some 34), .mov (.t 5), []⟩,
        ⟨none, (some 35), .mov (.t 7), []⟩,
        ⟨none, (some 36), .mov (.t 1), []⟩,
        ⟨none, (some 37), .conv .u16 (.t 36), []⟩,
        ⟨none, (some 38), .idxA 27 (.t 33) (.t 34), []⟩,
        ⟨none, (some 39), .fldP 0 (.t 38), []⟩,
        ⟨none, (some 40), .fldP 12 (.t 39), []⟩,
        ⟨none, (some 41), .idxP 12 1 (.t 40) (.t 35), []⟩,
        ⟨none, none, .st 1 (.t 41) (.t 37), []⟩])
      (.reg [1] [
        ⟨none, (some 42), .mov (.t 1), []⟩,
        ⟨none, (some 43), .bin .add (.t 42) (.c (.int .i64 1)), []⟩,
        ⟨none, (some 1), .mov (.t 43), []⟩])))
    (.reg [7] [
      ⟨none, (some 31), .mov (.t 7), []⟩,
      ⟨none, (some 32), .bin .add (.t 31) (.c (.int .i64 1)), []⟩,
      ⟨none, (some 7), .mov (.t 32), []⟩])))
def b195_3 : Cd :=
  (.seq
   (.seq
    (.reg [11] [
      ⟨none, (some 8), .mov (.t 5), []⟩,
      ⟨none, (some 9), .mov (.t 0), []⟩,
      ⟨none, (some 10), .len (.t 9), []⟩,
      ⟨none, (some 11), .bin .lss (.t 8) (.t 10), []⟩])
    (.cond (.t 11)
     .skip
     (.exit 0)))
   (.seq
    (.block 1
     (.seq
      (.seq
       (.reg [6] [
         ⟨none, (some 6), .mov (.c (.int .i64 0)), []⟩])
       (.block 2
        (.loop b195_1)))
      (.seq
       (.seq
        (.reg [7] [
          ⟨none, (some 7), .mov (.c (.int .i64 0)), []⟩])
        (.block 4
         (.loop b195_2)))
       (.seq
        (.reg [] [
          ⟨none, (some 44), .mov (.t 0), []⟩,
          ⟨none, (some 45), .mov (.t 5), []⟩,
          ⟨none, (some 46), .mov (.t 1), []⟩,
          ⟨none, (some 47), .conv .i8 (.t 46), []⟩,
          ⟨none, (some 48), .idxA 27 (.t 44) (.t 45), []⟩,
          ⟨none, (some 49), .fldP 24 (.t 48), []⟩,
          ⟨none, none, .st 1 (.t 49) (.t 47), []⟩])
        (.seq
         (.reg [1] [
           ⟨none, (some 50), .mov (.t 1), []⟩,
           ⟨none, (some 51), .bin .add (.t 50) (.c (.int .i64 1)), []⟩,
           ⟨none, (some 1), .mov (.t 51), []⟩])
         (.seq
          (.reg [] [
            ⟨none, (some 52), .mov (.t 0), []⟩,
            ⟨none, (some 53), .mov (.t 5), []⟩,
            ⟨none, (some 54), .mov (.t 1), []⟩,
            ⟨none, (some 55), .conv .i8 (.t 54), []⟩,
            ⟨none, (some 56), .idxA 27 (.t 52) (.t 53), []⟩,
            ⟨none, (some 57), .fldP 25 (.t 56), []⟩,
            ⟨none, none, .st 1 (.t 57) (.t 55), []⟩])
          (.seq
           (.reg [1] [
             ⟨none, (some 58), .mov (.t 1), []⟩,
             ⟨none, (some 59), .bin .add (.t 58) (.c (.int .i64 1)), []⟩,
             ⟨none, (some 1), .mov (.t 59), []⟩])
           (.seq
            (.reg [] [
              ⟨none, (some 60), .mov (.t 0), []⟩,
              ⟨none, (some 61), .mov (.t 5), []⟩,
              ⟨none, (some 62), .mov (.t 1), []⟩,
              ⟨none, (some 63), .conv .i8 (.t 62), []⟩,
              ⟨none, (some 64), .idxA 27 (.t 60) (.t 61), []⟩,
              ⟨none, (some 65), .fldP 26 (.t 64), []⟩,
              ⟨none, none, .st 1 (.t 65) (.t 63), []⟩])
            (.reg [1] [
              ⟨none, (some 66), .mov (.t 1), []⟩,
              ⟨none, (some 67), .bin .add (.t 66) (.c (.int .i64 1)), []⟩,
              ⟨none, (some 1), .mov (.t 67), []⟩])))))))))
    (.reg [5] [
      ⟨none, (some 12), .mov (.t 5), []⟩,
      ⟨none, (some 13), .bin .add (.t 12) (.c (.int .i64 1)), []⟩,
      ⟨none, (some 5), .mov (.t 13), []⟩])))
def k195 : Cd :=
  (.seq
   (.reg [4] [
     ⟨none, (some 4), .mov (.c (.int .i64 0)), []⟩])
   (.seq
    (.seq
     (.reg [5] [
       ⟨none, (some 5), .mov (.c (.int .i64 0)), []⟩])
     (.block 0
      (.loop b195_3)))
    (.seq
     (.reg [4] [
       ⟨none, (some 68), .mov (.t 1), []⟩,
       ⟨none, (some 4), .mov (.t 68), []⟩])
     .ret)))
def c195 : Fn := { np := 2, nt := 69, kind := .args, res := [.t 4], body := k195 }

/- spec.PanScene -/
def b198_1 : Cd :=
  (.seq
   (.seq
    (.reg [46] [
      ⟨none, (some 40), .mov (.t 15), []⟩,
      ⟨none, (some 41), .mov (.t 5), []⟩,
      ⟨none, (some 42), .bin .lss (.t 40) (.t 41), []⟩,
      ⟨none, (some 43), .mov (.t 42), []⟩,
      ⟨(some (43, true)), (some 44), .mov (.t 14), []⟩,
      ⟨(some (43, true)), (some 45), .bin .eql (.t 44) (.c (.int .i64 0)), []⟩,
      ⟨none, (some 46), .pick (.t 43) (.t 45) (.c (.bool false)), []⟩])
    (.cond (.t 46)
     .skip
     (.exit 0)))
   (.seq
    (.block 1
     (.reg [14] [
       ⟨none, (some 49), .mov (.t 0), []⟩,
       ⟨none, (some 50), .mov (.t 1), []⟩,
       ⟨none, (some 51), .mov (.t 15), []⟩,
       ⟨none, (some 52), .mov (.t 3), []⟩,
       ⟨none, (some 53), .bin .mul (.t 51) (.t 52), []⟩,
       ⟨none, (some 54), .bin .add (.t 50) (.t 53), []⟩,
       ⟨none, (some 55), .mov (.t 2), []⟩,
       ⟨none, (some 56), .mov (.t 15), []⟩,
       ⟨none, (some 57), .mov (.t 4), []⟩,
       ⟨none, (some 58), .bin .mul (.t 56) (.t 57), []⟩,
       ⟨none, (some 59), .bin .add (.t 55) (.t 58), []⟩,
       ⟨none, (some 60), .call true 331 [.t 49, .t 54, .t 59], []⟩,
       ⟨none, (some 14), .mov (.t 60), []⟩]))
    (.reg [15] [
      ⟨none, (some 47), .mov (.t 15), []⟩,
      ⟨none, (some 48), .bin .add (.t 47) (.c (.int .i64 1)), []⟩,
      ⟨none, (some 15), .mov (.t 48), []⟩])))
def b198_2 : Cd :=
  (.seq
   (.seq
    (.reg [68] [
      ⟨none, (some 66), .mov (.t 17), []⟩,
      ⟨none, (some 67), .mov (.t 5), []⟩,
      ⟨none, (some 68), .bin .lss (.t 66) (.t 67), []⟩])
    (.cond (.t 68)
     .skip
     (.exit 2)))
   (.seq
    (.block 3
     (.seq
      (.reg [18] [
        ⟨none, (some 71), .mov (.t 0), []⟩,
        ⟨none, (some 72), .mov (.t 1), []⟩,
        ⟨none, (some 73), .mov (.t 17), []⟩,
        ⟨none, (some 74), .mov (.t 3), []⟩,
        ⟨none, (some 75), .bin .mul (.t 73) (.t 74), []⟩,
        ⟨none, (some 76), .bin .add (.t 72) (.t 75), []⟩,
        ⟨none, (some 77), .mov (.t 2), []⟩,
        ⟨none, (some 78), .mov (.t 17), []⟩,
        ⟨none, (some 79), .mov (.t 4), []⟩,
        ⟨none, (some 80), .bin .mul (.t 78) (.t 79), []⟩,
        ⟨none, (some 81), .bin .add (.t 77) (.t 80), []⟩,
        ⟨none, (some 82), .call true 332 [.t 71, .t 76, .t 81], []⟩,
        ⟨none, (some 18), .zero true (zs 24 (.int .u16 0)), []⟩,
        ⟨none, (some 18), .stV 18 none 24 (.t 82), []⟩])
      (.reg [16] [
        ⟨none, (some 83), .mov (.t 16), []⟩,
        ⟨none, (some 84), .adrF 18 none 0, []⟩,
        ⟨none, (some 85), .ldV 18 (some 84) 12 true, []⟩,
        ⟨none, (some 86), .bldS 12 1 (zs 12 (.int .u16 0)) [(0, 12, (.t 85))], []⟩,
        ⟨none, (some 87), .app 12 24 (.t 83) (.t 86), []⟩,
        ⟨none, (some 16), .mov (.t 87), []⟩])))
    (.reg [17] [
      ⟨none, (some 69), .mov (.t 17), []⟩,
      ⟨none, (some 70), .bin .add (.t 69) (.c (.int .i64 1)), []⟩,
      ⟨none, (some 17), .mov (.t 70), []⟩])))
def k198 : Cd :=
  (.seq
   (.reg [12, 13] [
     ⟨none, (some 12), .mov (.c (.slice none 0 0)), []⟩,
     ⟨none, (some 13), .mov (.c (.int .i64 0)), []⟩])
   (.seq
    (.reg [14] [
      ⟨none, (some 19), .mov (.t 0), []⟩,
      ⟨none, (some 20), .mov (.t 1), []⟩,
      ⟨none, (some 21), .mov (.t 2), []⟩,
      ⟨none, (some 22), .call true 331 [.t 19, .t 20, .t 21], []⟩,
      ⟨none, (some 14), .mov (.t 22), []⟩])
    (.seq
     (.seq
      (.reg [39] [
        ⟨none, (some 23), .mov (.t 14), []⟩,
        ⟨none, (some 24), .bin .eql (.t 23) (.c (.int .i64 0)), []⟩,
        ⟨none, (some 25), .mov (.t 24), []⟩,
        ⟨(some (25, true)), (some 26), .mov (.t 5), []⟩,
        ⟨(some (25, true)), (some 27), .call true 304 [.t 26, .c (.int .i64 0), .c (.int .i64 40)], []⟩,
        ⟨(some (25, true)), (some 28), .un .not (.t 27), []⟩,
        ⟨(some (25, true)), (some 29), .mov (.t 28), []⟩,
        ⟨(some (29, false)), (some 30), .mov (.t 3), []⟩,
        ⟨(some (29, false)), (some 31), .call true 304 [.t 30, .c (.int .i64 (-100)), .c (.int .i64 100)], []⟩,
        ⟨(some (29, false)), (some 32), .un .not (.t 31), []⟩,
        ⟨(some (25, true)), (some 33), .pick (.t 29) (.c (.bool true)) (.t 32), []⟩,
        ⟨(some (25, true)), (some 34), .mov (.t 33), []⟩,
        ⟨(some (34, false)), (some 35), .mov (.t 4), []⟩,
        ⟨(some (34, false)), (some 36), .call true 304 [.t 35, .c (.int .i64 (-100)), .c (.int .i64 100)], []⟩,
        ⟨(some (34, false)), (some 37), .un .not (.t 36), []⟩,
        ⟨(some (25, true)), (some 38), .pick (.t 34) (.c (.bool true)) (.t 37), []⟩,
        ⟨none, (some 39), .pick (.t 25) (.t 38) (.c (.bool false)), []⟩])
      (.cond (.t 39)
       (.reg [14] [
         ⟨none, (some 14), .mov (.c (.int .i64 2)), []⟩])
       .skip))
     (.seq
      (.seq
       (.reg [15] [
         ⟨none, (some 15), .mov (.c (.int .i64 0)), []⟩])
       (.block 0
        (.loop b198_1)))
      (.seq
       (.seq
        (.reg [62] [
          ⟨none, (some 61), .mov (.t 14), []⟩,
          ⟨none, (some 62), .bin .neq (.t 61) (.c (.int .i64 0)), []⟩])
        (.cond (.t 62)
         (.seq
          (.reg [12, 13] [
            ⟨none, (some 63), .bldS 12 0 (zs 12 (.int .u16 0)) [], []⟩,
            ⟨none, (some 64), .mov (.t 14), []⟩,
            ⟨none, (some 12), .mov (.t 63), []⟩,
            ⟨none, (some 13), .mov (.t 64), []⟩])
          .ret)
         .skip))
       (.seq
        (.reg [16] [
          ⟨none, (some 65), .bldS 12 0 (zs 12 (.int .u16 0)) [], []⟩,
          ⟨none, (some 16), .mov (.t 65), []⟩])
        (.seq
         (.seq
          (.reg [17] [
            ⟨none, (some 17), .mov (.c (.int .i64 0)), []⟩])
          (.block 2
           (.loop b198_2)))
         (.seq
          (.reg [12, 13] [
            ⟨none, (some 88), .mov (.t 16), []⟩,
            ⟨none, (some 12), .mov (.t 88), []⟩,
            ⟨none, (some 13), .mov (.c (.int .i64 0)), []⟩])
          .ret))))))))
def c198 : Fn := { np := 6, nt := 89, kind := .pure, res := [.t 12, .t 13], body := k198 }

/- impl.PanScene -/
def b199_1 : Cd :=
  (.seq
   (.reg [36] [
     ⟨none, (some 36), .bin .lss (.t 35) (.t 34), []⟩])
   (.seq
    (.cond (.t 36)
     .skip
     (.exit 0))
    (.seq
     (.block 1
      (.seq
       (.reg [16] [
         ⟨none, (some 37), .mov (.t 35), []⟩,
         ⟨none, (some 16), .mov (.t 37), []⟩])
       (.seq
        (.seq
         (.reg [49] [
           ⟨none, (some 38), .mov (.t 1), []⟩,
           ⟨none, (some 39), .mov (.t 16), []⟩,
           ⟨none, (some 40), .mov (.t 3), []⟩,
           ⟨none, (some 41), .bin .mul (.t 39) (.t 40), []⟩,
           ⟨none, (some 42), .bin .add (.t 38) (.t 41), []⟩,
           ⟨none, (some 43), .mov (.t 2), []⟩,
           ⟨none, (some 44), .mov (.t 16), []⟩,
           ⟨none, (some 45), .mov (.t 4), []⟩,
           ⟨none, (some 46), .bin .mul (.t 44) (.t 45), []⟩,
           ⟨none, (some 47), .bin .add (.t 43) (.t 46), []⟩,
           ⟨none, (some 48), .call true 416 [.t 42, .t 47], []⟩,
           ⟨none, (some 49), .un .not (.t 48), []⟩])
         (.cond (.t 49)
          (.seq
           (.reg [12, 13] [
             ⟨none, (some 12), .mov (.c (.slice none 0 0)), []⟩,
             ⟨none, (some 13), .mov (.c (.int .i64 2)), []⟩])
           .ret)
          .skip))
        (.reg [15] [
          ⟨none, (some 50), .mov (.t 15), []⟩,
          ⟨none, (some 51), .mov (.t 0), []⟩,
          ⟨none, (some 52), .mov (.t 1), []⟩,
          ⟨none, (some 53), .mov (.t 16), []⟩,
          ⟨none, (some 54), .mov (.t 3), []⟩,
          ⟨none, (some 55), .bin .mul (.t 53) (.t 54), []⟩,
          ⟨none, (some 56), .bin .add (.t 52) (.t 55), []⟩,
          ⟨none, (some 57), .mov (.t 2), []⟩,
          ⟨none, (some 58), .mov (.t 16), []⟩,
          ⟨none, (some 59), .mov (.t 4), []⟩,
          ⟨none, (some 60), .bin .mul (.t 58) (.t 59), []⟩,
          ⟨none, (some 61), .bin .add (.t 57) (.t 60), []⟩,
          ⟨none, (some 62), .call true 330 [.t 51, .t 56, .t 61], []⟩,
          ⟨none, (some 63), .fld 0 12 true (.t 62), []⟩,
          ⟨none, (some 64), .bldS 12 1 (zs 12 (.int .u16 0)) [(0, 12, (.t 63))], []⟩,
          ⟨none, (some 65), .app 12 24 (.t 50) (.t 64), []⟩,
          ⟨none, (some 15), .mov (.t 65), []⟩]))))
     (.reg [35] [
       ⟨none, (some 66), .bin .add (.t 35) (.c (.int .i64 1)), []⟩,
       ⟨none, (some 35), .mov (.t 66), []⟩]))))
def k199 : Cd :=
  (.seq
   (.reg [12, 13] [
     ⟨none, (some 12), .mov (.c (.slice none 0 0)), []⟩,
     ⟨none, (some 13), .mov (.c (.int .i64 0)), []⟩])
   (.seq
    (.seq
     (.reg [14] [
       ⟨none, (some 17), .mov (.t 0), []⟩,
       ⟨none, (some 18), .mov (.t 1), []⟩,
       ⟨none, (some 19), .mov (.t 2), []⟩,
       ⟨none, (some 20), .call true 329 [.t 17, .t 18, .t 19], []⟩,
       ⟨none, (some 14), .mov (.t 20), []⟩])
     (.seq
      (.reg [22] [
        ⟨none, (some 21), .mov (.t 14), []⟩,
        ⟨none, (some 22), .bin .neq (.t 21) (.c (.int .i64 0)), []⟩])
      (.cond (.t 22)
       (.seq
        (.reg [12, 13] [
          ⟨none, (some 23), .mov (.t 14), []⟩,
          ⟨none, (some 12), .mov (.c (.slice none 0 0)), []⟩,
          ⟨none, (some 13), .mov (.t 23), []⟩])
        .ret)
       .skip)))
    (.seq
     (.seq
      (.reg [32] [
        ⟨none, (some 24), .mov (.t 5), []⟩,
        ⟨none, (some 25), .call true 295 [.t 24, .c (.int .i64 0), .c (.int .i64 40)], []⟩,
        ⟨none, (some 26), .un .not (.t 25), []⟩,
        ⟨none, (some 27), .mov (.t 26), []⟩,
        ⟨(some (27, false)), (some 28), .mov (.t 3), []⟩,
        ⟨(some (27, false)), (some 29), .mov (.t 4), []⟩,
        ⟨(some (27, false)), (some 30), .call true 416 [.t 28, .t 29], []⟩,
        ⟨(some (27, false)), (some 31), .un .not (.t 30), []⟩,
        ⟨none, (some 32), .pick (.t 27) (.c (.bool true)) (.t 31), []⟩])
      (.cond (.t 32)
       (.seq
        (.reg [12, 13] [
          ⟨none, (some 12), .mov (.c (.slice none 0 0)), []⟩,
          ⟨none, (some 13), .mov (.c (.int .i64 2)), []⟩])
        .ret)
       .skip))
     (.seq
      (.reg [15] [
        ⟨none, (some 33), .bldS 12 0 (zs 12 (.int .u16 0)) [], []⟩,
        ⟨none, (some 15), .mov (.t 33), []⟩])
      (.seq
       (.seq
        (.reg [34, 35] [
          ⟨none, (some 34), .mov (.t 5), []⟩,
          ⟨none, (some 35), .mov (.c (.int .i64 0)), []⟩])
        (.block 0
         (.loop b199_1)))
       (.seq
        (.reg [12, 13] [
          ⟨none, (some 67), .mov (.t 15), []⟩,
          ⟨none, (some 12), .mov (.t 67), []⟩,
          ⟨none, (some 13), .mov (.c (.int .i64 0)), []⟩])
        .ret))))))
def c199 : Fn := { np := 6, nt := 68, kind := .pure, res := [.t 12, .t 13], body := k199 }

/- impl.ValidFrame -/
def k234 : Cd :=
  (.seq
   (.reg [1, 2] [
     ⟨none, (some 1), .box 12 (.t 0), []⟩,
     ⟨none, (some 2), .mov (.c (.bool false)), []⟩])
   (.seq
    (.reg [2] [
      ⟨none, (some 3), .slcP 12 1 (.t 1), []⟩,
      ⟨none, (some 4), .call true 445 [.t 3, .f 446], []⟩,
      ⟨none, (some 5), .un .not (.t 4), []⟩,
      ⟨none, (some 2), .mov (.t 5), []⟩])
    .ret))
def c234 : Fn := { np := 1, nt := 6, kind := .pure, res := [.t 2], body := k234 }

/- impl.ValidScene -/
def k281 : Cd :=
  (.seq
   (.reg [2] [
     ⟨none, (some 2), .mov (.c (.bool false)), []⟩])
   (.seq
    (.reg [2] [
      ⟨none, (some 3), .mov (.t 0), []⟩,
      ⟨none, (some 4), .len (.t 3), []⟩,
      ⟨none, (some 5), .bin .leq (.t 4) (.c (.int .i64 8)), []⟩,
      ⟨none, (some 6), .mov (.t 5), []⟩,
      ⟨(some (6, true)), (some 7), .mov (.t 0), []⟩,
      ⟨(some (6, true)), (some 8), .call true 471 [.t 7, .f 472], []⟩,
      ⟨(some (6, true)), (some 9), .un .not (.t 8), []⟩,
      ⟨none, (some 10), .pick (.t 6) (.t 9) (.c (.bool false)), []⟩,
      ⟨none, (some 2), .mov (.t 10), []⟩])
    .ret))
def c281 : Fn := { np := 1, nt := 11, kind := .pure, res := [.t 2], body := k281 }

/- impl.inRange -/
def k295 : Cd :=
  (.seq
   (.reg [6] [
     ⟨none, (some 6), .mov (.c (.bool false)), []⟩])
   (.seq
    (.reg [6] [
      ⟨none, (some 7), .mov (.t 1), []⟩,
      ⟨none, (some 8), .mov (.t 0), []⟩,
      ⟨none, (some 9), .bin .leq (.t 7) (.t 8), []⟩,
      ⟨none, (some 10), .mov (.t 9), []⟩,
      ⟨(some (10, true)), (some 11), .mov (.t 0), []⟩,
      ⟨(some (10, true)), (some 12), .mov (.t 2), []⟩,
      ⟨(some (10, true)), (some 13), .bin .leq (.t 11) (.t 12), []⟩,
      ⟨none, (some 14), .pick (.t 10) (.t 13) (.c (.bool false)), []⟩,
      ⟨none, (some 6), .mov (.t 14), []⟩])
    .ret))
def c295 : Fn := { np := 3, nt := 15, kind := .pure, res := [.t 6], body := k295 }

/- laws.roomBehind -/
def k296 : Cd :=
  (.seq
   (.reg [2] [
     ⟨none, (some 2), .mov (.c (.int .i64 0)), []⟩])
   (.seq
    (.seq
     (.reg [5] [
       ⟨none, (some 3), .mov (.t 0), []⟩,
       ⟨none, (some 4), .bin .rem (.t 3) (.c (.int .i64 6)), []⟩,
       ⟨none, (some 5), .bin .eql (.t 4) (.c (.int .i64 5)), []⟩])
     (.cond (.t 5)
      (.seq
       (.reg [2] [
         ⟨none, (some 2), .mov (.c (.int .i64 0)), []⟩])
       .ret)
      .skip))
    (.seq
     (.seq
      (.reg [8] [
        ⟨none, (some 6), .mov (.t 0), []⟩,
        ⟨none, (some 7), .bin .rem (.t 6) (.c (.int .i64 3)), []⟩,
        ⟨none, (some 8), .bin .eql (.t 7) (.c (.int .i64 0)), []⟩])
      (.cond (.t 8)
       (.seq
        (.reg [2] [
          ⟨none, (some 2), .mov (.c (.int .i64 1)), []⟩])
        .ret)
       .skip))
     (.seq
      (.reg [2] [
        ⟨none, (some 9), .mov (.t 0), []⟩,
        ⟨none, (some 2), .mov (.t 9), []⟩])
      .ret))))
def c296 : Fn := { np := 1, nt := 10, kind := .pure, res := [.t 2], body := k296 }

/- spec.l00In -/
def k304 : Cd :=
  (.seq
   (.reg [6] [
     ⟨none, (some 6), .mov (.c (.bool false)), []⟩])
   (.seq
    (.reg [6] [
      ⟨none, (some 7), .mov (.t 0), []⟩,
      ⟨none, (some 8), .mov (.t 1), []⟩,
      ⟨none, (some 9), .bin .geq (.t 7) (.t 8), []⟩,
      ⟨none, (some 10), .mov (.t 9), []⟩,
      ⟨(some (10, true)), (some 11), .mov (.t 0), []⟩,
      ⟨(some (10, true)), (some 12), .mov (.t 2), []⟩,
      ⟨(some (10, true)), (some 13), .bin .leq (.t 11) (.t 12), []⟩,
      ⟨none, (some 14), .pick (.t 10) (.t 13) (.c (.bool false)), []⟩,
      ⟨none, (some 6), .mov (.t 14), []⟩])
    .ret))
def c304 : Fn := { np := 3, nt := 15, kind := .pure, res := [.t 6], body := k304 }

/- spec.l01Put -/
def k305 : Cd :=
  (.seq
   (.reg [8] [
     ⟨none, (some 6), .mov (.t 1), []⟩,
     ⟨none, (some 7), .mov (.t 2), []⟩,
     ⟨none, (some 8), .call true 342 [.t 6, .t 7], []⟩])
   (.cond (.t 8)
    (.reg [] [
      ⟨none, (some 9), .mov (.t 0), []⟩,
      ⟨none, (some 10), .mov (.t 2), []⟩,
      ⟨none, (some 11), .mov (.t 0), []⟩,
      ⟨none, (some 12), .mov (.t 2), []⟩,
      ⟨none, (some 13), .nil (.t 11), []⟩,
      ⟨none, (some 14), .idxP 12 1 (.t 13) (.t 12), []⟩,
      ⟨none, (some 15), .ld 1 false (.t 14), []⟩,
      ⟨none, (some 16), .mov (.t 1), []⟩,
      ⟨none, (some 17), .conv .u64 (.t 16), []⟩,
      ⟨none, (some 18), .bin .shl (.c (.int .u16 1)) (.t 17), []⟩,
      ⟨none, (some 19), .bin .or (.t 15) (.t 18), []⟩,
      ⟨none, (some 20), .nil (.t 9), []⟩,
      ⟨none, (some 21), .idxP 12 1 (.t 20) (.t 10), []⟩,
      ⟨none, none, .st 1 (.t 21) (.t 19), []⟩])
    .skip))
def c305 : Fn := { np := 3, nt := 22, kind := .args, res := [], body := k305 }

/- impl.checkCamera -/
def k329 : Cd :=
  (.seq
   (.reg [6] [
     ⟨none, (some 6), .mov (.c (.int .i64 0)), []⟩])
   (.seq
    (.block 0
     (.seq
      (.reg [7] [
        ⟨none, (some 8), .mov (.t 0), []⟩,
        ⟨none, (some 9), .call true 281 [.t 8], []⟩,
        ⟨none, (some 10), .un .not (.t 9), []⟩,
        ⟨none, (some 7), .mov (.t 10), []⟩])
      (.cond (.t 7)
       (.seq
        (.reg [6] [
          ⟨none, (some 6), .mov (.c (.int .i64 1)), []⟩])
        .ret)
       (.seq
        (.reg [11] [
          ⟨none, (some 12), .mov (.t 1), []⟩,
          ⟨none, (some 13), .mov (.t 2), []⟩,
          ⟨none, (some 14), .call true 416 [.t 12, .t 13], []⟩,
          ⟨none, (some 15), .un .not (.t 14), []⟩,
          ⟨none, (some 11), .mov (.t 15), []⟩])
        (.cond (.t 11)
         (.seq
          (.reg [6] [
            ⟨none, (some 6), .mov (.c (.int .i64 2)), []⟩])
          .ret)
         .skip)))))
    (.seq
     (.reg [6] [
       ⟨none, (some 6), .mov (.c (.int .i64 0)), []⟩])
     .ret)))
def c329 : Fn := { np := 3, nt := 16, kind := .pure, res := [.t 6], body := k329 }

/- (impl.Scene).flat -/
def b330_1 : Cd :=
  (.seq
   (.reg [14] [
     ⟨none, (some 14), .bin .lss (.t 13) (.t 12), []⟩])
   (.seq
    (.cond (.t 14)
     .skip
     (.exit 0))
    (.seq
     (.block 1
      (.seq
       (.reg [9] [
         ⟨none, (some 15), .idxA 27 (.t 11) (.t 13), []⟩,
         ⟨none, (some 16), .ld 27 true (.t 15), []⟩,
         ⟨none, (some 9), .zero true [.int .u16 0, .int .u16 0, .int .u16 0, .int .u16 0, .int .u16 0, .int .u16 0, .int .u16 0, .int .u16 0, .int .u16 0, .int .u16 0, .int .u16 0, .int .u16 0, .int .u16 0, .int .u16 0, .int .u16 0, .int .u16 0, .int .u16 0, .int .u16 0, .int .u16 0, .int .u16 0, .int .u16 0, .int .u16 0, .int .u16 0, .int .u16 0, .int .i8 0, .int .i8 0, .int .i8 0], []⟩,
         ⟨none, (some 9), .stV 9 none 27 (.t 16), []⟩])
       (.reg [7] [
         ⟨none, (some 17), .ldV 7 none 24 true, []⟩,
         ⟨none, (some 18), .adrF 9 none 0, []⟩,
         ⟨none, (some 19), .ldV 9 (some 18) 24 true, []⟩,
         ⟨none, (some 20), .ldV 9 none 27 true, []⟩,
         ⟨none, (some 21), .mov (.t 1), []⟩,
         ⟨none, (some 22), .mov (.t 2), []⟩,
         ⟨none, (some 23), .call true 335 [.t 20, .t 21, .t 22], []⟩,
         ⟨none, (some 24), .ext (.t 23) 0, []⟩,
         ⟨none, (some 25), .ext (.t 23) 1, []⟩,
         ⟨none, (some 26), .call true 336 [.t 19, .t 24, .t 25], []⟩,
         ⟨none, (some 27), .call true 497 [.t 17, .t 26], []⟩,
         ⟨none, (some 7), .stV 7 none 24 (.t 27), []⟩])))
     (.reg [13] [
       ⟨none, (some 28), .bin .add (.t 13) (.c (.int .i64 1)), []⟩,
       ⟨none, (some 13), .mov (.t 28), []⟩]))))
def k330 : Cd :=
  (.seq
   (.reg [6] [
     ⟨none, (some 6), .zero true (zs 24 (.int .u16 0)), []⟩])
   (.seq
    (.reg [7] [
      ⟨none, (some 10), .agg (zs 24 (.int .u16 0)) [], []⟩,
      ⟨none, (some 7), .zero true (zs 24 (.int .u16 0)), []⟩,
      ⟨none, (some 7), .stV 7 none 24 (.t 10), []⟩])
    (.seq
     (.seq
      (.reg [11, 12, 13] [
        ⟨none, (some 11), .mov (.t 0), []⟩,
        ⟨none, (some 12), .len (.t 11), []⟩,
        ⟨none, (some 13), .mov (.c (.int .i64 0)), []⟩])
      (.block 0
       (.loop b330_1)))
     (.seq
      (.reg [6] [
        ⟨none, (some 29), .ldV 7 none 24 true, []⟩,
        ⟨none, (some 6), .stV 6 none 24 (.t 29), []⟩])
      .ret))))
def c330 : Fn := { np := 3, nt := 30, kind := .pure, res := [.v 6 24 true], body := k330 }

/- spec.l05Camera -/
def k331 : Cd :=
  (.seq
   (.reg [6] [
     ⟨none, (some 6), .mov (.c (.int .i64 0)), []⟩])
   (.seq
    (.seq
     (.reg [9] [
       ⟨none, (some 7), .mov (.t 0), []⟩,
       ⟨none, (some 8), .call true 498 [.t 7], []⟩,
       ⟨none, (some 9), .un .not (.t 8), []⟩])
     (.cond (.t 9)
      (.seq
       (.reg [6] [
         ⟨none, (some 6), .mov (.c (.int .i64 1)), []⟩])
       .ret)
      .skip))
    (.seq
     (.seq
      (.reg [17] [
        ⟨none, (some 10), .mov (.t 1), []⟩,
        ⟨none, (some 11), .call true 304 [.t 10, .c (.int .i64 (-100)), .c (.int .i64 100)], []⟩,
        ⟨none, (some 12), .un .not (.t 11), []⟩,
        ⟨none, (some 13), .mov (.t 12), []⟩,
        ⟨(some (13, false)), (some 14), .mov (.t 2), []⟩,
        ⟨(some (13, false)), (some 15), .call true 304 [.t 14, .c (.int .i64 (-100)), .c (.int .i64 100)], []⟩,
        ⟨(some (13, false)), (some 16), .un .not (.t 15), []⟩,
        ⟨none, (some 17), .pick (.t 13) (.c (.bool true)) (.t 16), []⟩])
      (.cond (.t 17)
       (.seq
        (.reg [6] [
          ⟨none, (some 6), .mov (.c (.int .i64 2)), []⟩])
        .ret)
       .skip))
     (.seq
      (.reg [6] [
        ⟨none, (some 6), .mov (.c (.int .i64 0)), []⟩])
      .ret))))
def c331 : Fn := { np := 3, nt := 18, kind := .pure, res := [.t 6], body := k331 }

/- spec.l05Flat -/
def b332_1 : Cd :=
  (.seq
   (.seq
    (.reg [16] [
      ⟨none, (some 13), .mov (.t 8), []⟩,
      ⟨none, (some 14), .mov (.t 0), []⟩,
      ⟨none, (some 15), .len (.t 14), []⟩,
      ⟨none, (some 16), .bin .lss (.t 13) (.t 15), []⟩])
    (.cond (.t 16)
     .skip
     (.exit 0)))
   (.seq
    (.block 1
     (.seq
      (.reg [9, 10] [
        ⟨none, (some 20), .mov (.t 0), []⟩,
        ⟨none, (some 21), .mov (.t 8), []⟩,
        ⟨none, (some 22), .idxA 27 (.t 20) (.t 21), []⟩,
        ⟨none, (some 23), .mov (.t 1), []⟩,
        ⟨none, (some 24), .mov (.t 2), []⟩,
        ⟨none, (some 25), .call true 499 [.t 22, .t 23, .t 24], []⟩,
        ⟨none, (some 19), .mov (.t 25), []⟩,
        ⟨none, (some 26), .ext (.t 19) 0, []⟩,
        ⟨none, (some 27), .ext (.t 19) 1, []⟩,
        ⟨none, (some 9), .mov (.t 26), []⟩,
        ⟨none, (some 10), .mov (.t 27), []⟩])
      (.seq
       (.reg [11] [
         ⟨none, (some 28), .mov (.t 0), []⟩,
         ⟨none, (some 29), .mov (.t 8), []⟩,
         ⟨none, (some 30), .idxA 27 (.t 28) (.t 29), []⟩,
         ⟨none, (some 31), .fldP 0 (.t 30), []⟩,
         ⟨none, (some 32), .mov (.t 9), []⟩,
         ⟨none, (some 33), .mov (.t 10), []⟩,
         ⟨none, (some 34), .call true 468 [.t 31, .t 32, .t 33], []⟩,
         ⟨none, (some 11), .new 1 (zs 24 (.int .u16 0)), []⟩,
         ⟨none, none, .st 24 (.t 11) (.t 34), []⟩])
       (.reg [] [
         ⟨none, (some 35), .call true 500 [.t 7, .t 11], []⟩,
         ⟨none, none, .st 24 (.t 7) (.t 35), []⟩]))))
    (.reg [8] [
      ⟨none, (some 17), .mov (.t 8), []⟩,
      ⟨none, (some 18), .bin .add (.t 17) (.c (.int .i64 1)), []⟩,
      ⟨none, (some 8), .mov (.t 18), []⟩])))
def k332 : Cd :=
  (.seq
   (.reg [6] [
     ⟨none, (some 6), .zero true (zs 24 (.int .u16 0)), []⟩])
   (.seq
    (.reg [7] [
      ⟨none, (some 12), .agg (zs 24 (.int .u16 0)) [], []⟩,
      ⟨none, (some 7), .new 1 (zs 24 (.int .u16 0)), []⟩,
      ⟨none, none, .st 24 (.t 7) (.t 12), []⟩])
    (.seq
     (.seq
      (.reg [8] [
        ⟨none, (some 8), .mov (.c (.int .i64 0)), []⟩])
      (.block 0
       (.loop b332_1)))
     (.seq
      (.reg [6] [
        ⟨none, (some 36), .ld 24 true (.t 7), []⟩,
        ⟨none, (some 6), .stV 6 none 24 (.t 36), []⟩])
      .ret))))
def c332 : Fn := { np := 3, nt := 37, kind := .pure, res := [.v 6 24 true], body := k332 }

/- impl.ValidCel -/
def k333 : Cd :=
  (.seq
   (.reg [1, 2] [
     ⟨none, (some 1), .mov (.t 0), []⟩,
     ⟨none, (some 2), .mov (.c (.bool false)), []⟩])
   (.seq
    (.reg [2] [
      ⟨none, (some 3), .adrF 1 none 0, []⟩,
      ⟨none, (some 4), .ldV 1 (some 3) 12 true, []⟩,
      ⟨none, (some 5), .adrF 1 none 12, []⟩,
      ⟨none, (some 6), .ldV 1 (some 5) 12 true, []⟩,
      ⟨none, (some 7), .bldS 12 2 (zs 12 (.int .u16 0)) [(0, 12, (.t 4)), (12, 12, (.t 6))], []⟩,
      ⟨none, (some 8), .call true 351 [.t 7], []⟩,
      ⟨none, (some 9), .mov (.t 8), []⟩,
      ⟨(some (9, true)), (some 10), .adrF 1 none 0, []⟩,
      ⟨(some (9, true)), (some 11), .ldV 1 (some 10) 12 true, []⟩,
      ⟨(some (9, true)), (some 12), .adrF 1 none 12, []⟩,
      ⟨(some (9, true)), (some 13), .ldV 1 (some 12) 12 true, []⟩,
      ⟨(some (9, true)), (some 14), .call true 350 [.t 11, .t 13], []⟩,
      ⟨(some (9, true)), (some 15), .agg (zs 12 (.int .u16 0)) [], []⟩,
      ⟨(some (9, true)), (some 16), .eq (.a (rb 12 (some .u16))) false (.t 14) (.t 15), []⟩,
      ⟨none, (some 17), .pick (.t 9) (.t 16) (.c (.bool false)), []⟩,
      ⟨none, (some 2), .mov (.t 17), []⟩])
    .ret))
def c333 : Fn := { np := 1, nt := 18, kind := .pure, res := [.t 2], body := k333 }

/- (impl.Layer).offset -/
def k335 : Cd :=
  (.seq
   (.reg [3, 6, 7] [
     ⟨none, (some 3), .mov (.t 0), []⟩,
     ⟨none, (some 6), .mov (.c (.int .i64 0)), []⟩,
     ⟨none, (some 7), .mov (.c (.int .i64 0)), []⟩])
   (.seq
    (.reg [6, 7] [
      ⟨none, (some 8), .adrF 3 none 24, []⟩,
      ⟨none, (some 9), .ldV 3 (some 8) 1 false, []⟩,
      ⟨none, (some 10), .conv .i64 (.t 9), []⟩,
      ⟨none, (some 11), .mov (.t 1), []⟩,
      ⟨none, (some 12), .adrF 3 none 26, []⟩,
      ⟨none, (some 13), .ldV 3 (some 12) 1 false, []⟩,
      ⟨none, (some 14), .conv .i64 (.t 13), []⟩,
      ⟨none, (some 17), .adrF 3 none 25, []⟩,
      ⟨none, (some 18), .ldV 3 (some 17) 1 false, []⟩,
      ⟨none, (some 19), .conv .i64 (.t 18), []⟩,
      ⟨none, (some 20), .mov (.t 2), []⟩,
      ⟨none, (some 21), .adrF 3 none 26, []⟩,
      ⟨none, (some 22), .ldV 3 (some 21) 1 false, []⟩,
      ⟨none, (some 23), .conv .i64 (.t 22), []⟩,
      ⟨none, (some 15), .call true 501 [.t 11, .t 14], []⟩,
      ⟨none, (some 16), .bin .sub (.t 10) (.t 15), []⟩,
      ⟨none, (some 24), .call true 501 [.t 20, .t 23], []⟩,
      ⟨none, (some 25), .bin .sub (.t 19) (.t 24), []⟩,
      ⟨none, (some 6), .mov (.t 16), []⟩,
      ⟨none, (some 7), .mov (.t 25), []⟩])
    .ret))
def c335 : Fn := { np := 3, nt := 26, kind := .pure, res := [.t 6, .t 7], body := k335 }

/- (impl.Cel).moved -/
def k336 : Cd :=
  (.seq
   (.reg [3, 6] [
     ⟨none, (some 3), .mov (.t 0), []⟩,
     ⟨none, (some 6), .zero true (zs 24 (.int .u16 0)), []⟩])
   (.seq
    (.reg [6] [
      ⟨none, (some 7), .adrF 3 none 0, []⟩,
      ⟨none, (some 8), .ldV 3 (some 7) 12 true, []⟩,
      ⟨none, (some 9), .mov (.t 1), []⟩,
      ⟨none, (some 10), .mov (.t 2), []⟩,
      ⟨none, (some 12), .adrF 3 none 12, []⟩,
      ⟨none, (some 13), .ldV 3 (some 12) 12 true, []⟩,
      ⟨none, (some 14), .mov (.t 1), []⟩,
      ⟨none, (some 15), .mov (.t 2), []⟩,
      ⟨none, (some 11), .call true 358 [.t 8, .t 9, .t 10], []⟩,
      ⟨none, (some 16), .call true 358 [.t 13, .t 14, .t 15], []⟩,
      ⟨none, (some 17), .agg (zs 24 (.int .u16 0)) [(0, 12, (.t 11)), (12, 12, (.t 16))], []⟩,
      ⟨none, (some 6), .stV 6 none 24 (.t 17), []⟩])
    .ret))
def c336 : Fn := { np := 3, nt := 18, kind := .pure, res := [.v 6 24 true], body := k336 }

/- spec.l01Join -/
def b337_1 : Cd :=
  (.seq
   (.seq
    (.reg [9] [
      ⟨none, (some 8), .mov (.t 6), []⟩,
      ⟨none, (some 9), .bin .lss (.t 8) (.c (.int .i64 12)), []⟩])
    (.cond (.t 9)
     .skip
     (.exit 0)))
   (.seq
    (.block 1
     (.reg [5] [
       ⟨none, (some 12), .mov (.t 6), []⟩,
       ⟨none, (some 13), .mov (.t 0), []⟩,
       ⟨none, (some 14), .mov (.t 6), []⟩,
       ⟨none, (some 15), .nil (.t 13), []⟩,
       ⟨none, (some 16), .idxP 12 1 (.t 15) (.t 14), []⟩,
       ⟨none, (some 17), .ld 1 false (.t 16), []⟩,
       ⟨none, (some 18), .mov (.t 1), []⟩,
       ⟨none, (some 19), .mov (.t 6), []⟩,
       ⟨none, (some 20), .nil (.t 18), []⟩,
       ⟨none, (some 21), .idxP 12 1 (.t 20) (.t 19), []⟩,
       ⟨none, (some 22), .ld 1 false (.t 21), []⟩,
       ⟨none, (some 23), .bin .or (.t 17) (.t 22), []⟩,
       ⟨none, (some 24), .adrI 5 none 12 1 (.t 12), []⟩,
       ⟨none, (some 5), .stV 5 (some 24) 1 (.t 23), []⟩]))
    (.reg [6] [
      ⟨none, (some 10), .mov (.t 6), []⟩,
      ⟨none, (some 11), .bin .add (.t 10) (.c (.int .i64 1)), []⟩,
      ⟨none, (some 6), .mov (.t 11), []⟩])))
def k337 : Cd :=
  (.seq
   (.reg [4] [
     ⟨none, (some 4), .zero true (zs 12 (.int .u16 0)), []⟩])
   (.seq
    (.reg [5] [
      ⟨none, (some 7), .agg (zs 12 (.int .u16 0)) [], []⟩,
      ⟨none, (some 5), .zero true (zs 12 (.int .u16 0)), []⟩,
      ⟨none, (some 5), .stV 5 none 12 (.t 7), []⟩])
    (.seq
     (.seq
      (.reg [6] [
        ⟨none, (some 6), .mov (.c (.int .i64 0)), []⟩])
      (.block 0
       (.loop b337_1)))
     (.seq
      (.reg [4] [
        ⟨none, (some 25), .ldV 5 none 12 true, []⟩,
        ⟨none, (some 4), .stV 4 none 12 (.t 25), []⟩])
      .ret))))
def c337 : Fn := { np := 2, nt := 26, kind := .pure, res := [.v 4 12 true], body := k337 }

/- (impl.Frame).join -/
def k338 : Cd :=
  (.seq
   (.reg [2, 3, 4] [
     ⟨none, (some 2), .mov (.t 0), []⟩,
     ⟨none, (some 3), .mov (.t 1), []⟩,
     ⟨none, (some 4), .zero true (zs 12 (.int .u16 0)), []⟩])
   (.seq
    (.reg [4] [
      ⟨none, (some 5), .ldV 2 none 12 true, []⟩,
      ⟨none, (some 6), .ldV 3 none 12 true, []⟩,
      ⟨none, (some 7), .call true 443 [.t 5, .t 6, .f 502], []⟩,
      ⟨none, (some 4), .stV 4 none 12 (.t 7), []⟩])
    .ret))
def c338 : Fn := { np := 2, nt := 8, kind := .pure, res := [.v 4 12 true], body := k338 }

/- spec.l01Place -/
def k342 : Cd :=
  (.seq
   (.reg [4] [
     ⟨none, (some 4), .mov (.c (.bool false)), []⟩])
   (.seq
    (.reg [4] [
      ⟨none, (some 5), .mov (.t 0), []⟩,
      ⟨none, (some 6), .call true 304 [.t 5, .c (.int .i64 0), .c (.int .i64 11)], []⟩,
      ⟨none, (some 7), .mov (.t 6), []⟩,
      ⟨(some (7, true)), (some 8), .mov (.t 1), []⟩,
      ⟨(some (7, true)), (some 9), .call true 304 [.t 8, .c (.int .i64 0), .c (.int .i64 11)], []⟩,
      ⟨none, (some 10), .pick (.t 7) (.t 9) (.c (.bool false)), []⟩,
      ⟨none, (some 4), .mov (.t 10), []⟩])
    .ret))
def c342 : Fn := { np := 2, nt := 11, kind := .pure, res := [.t 4], body := k342 }

/- spec.l01Less -/
def b349_1 : Cd :=
  (.seq
   (.seq
    (.reg [9] [
      ⟨none, (some 8), .mov (.t 6), []⟩,
      ⟨none, (some 9), .bin .lss (.t 8) (.c (.int .i64 12)), []⟩])
    (.cond (.t 9)
     .skip
     (.exit 0)))
   (.seq
    (.block 1
     (.reg [5] [
       ⟨none, (some 12), .mov (.t 6), []⟩,
       ⟨none, (some 13), .mov (.t 0), []⟩,
       ⟨none, (some 14), .mov (.t 6), []⟩,
       ⟨none, (some 15), .nil (.t 13), []⟩,
       ⟨none, (some 16), .idxP 12 1 (.t 15) (.t 14), []⟩,
       ⟨none, (some 17), .ld 1 false (.t 16), []⟩,
       ⟨none, (some 18), .mov (.t 1), []⟩,
       ⟨none, (some 19), .mov (.t 6), []⟩,
       ⟨none, (some 20), .nil (.t 18), []⟩,
       ⟨none, (some 21), .idxP 12 1 (.t 20) (.t 19), []⟩,
       ⟨none, (some 22), .ld 1 false (.t 21), []⟩,
       ⟨none, (some 23), .bin .andNot (.t 17) (.t 22), []⟩,
       ⟨none, (some 24), .adrI 5 none 12 1 (.t 12), []⟩,
       ⟨none, (some 5), .stV 5 (some 24) 1 (.t 23), []⟩]))
    (.reg [6] [
      ⟨none, (some 10), .mov (.t 6), []⟩,
      ⟨none, (some 11), .bin .add (.t 10) (.c (.int .i64 1)), []⟩,
      ⟨none, (some 6), .mov (.t 11), []⟩])))
def k349 : Cd :=
  (.seq
   (.reg [4] [
     ⟨none, (some 4), .zero true (zs 12 (.int .u16 0)), []⟩])
   (.seq
    (.reg [5] [
      ⟨none, (some 7), .agg (zs 12 (.int .u16 0)) [], []⟩,
      ⟨none, (some 5), .zero true (zs 12 (.int .u16 0)), []⟩,
      ⟨none, (some 5), .stV 5 none 12 (.t 7), []⟩])
    (.seq
     (.seq
      (.reg [6] [
        ⟨none, (some 6), .mov (.c (.int .i64 0)), []⟩])
      (.block 0
       (.loop b349_1)))
     (.seq
      (.reg [4] [
        ⟨none, (some 25), .ldV 5 none 12 true, []⟩,
        ⟨none, (some 4), .stV 4 none 12 (.t 25), []⟩])
      .ret))))
def c349 : Fn := { np := 2, nt := 26, kind := .pure, res := [.v 4 12 true], body := k349 }

/- (impl.Frame).less -/
def k350 : Cd :=
  (.seq
   (.reg [2, 3, 4] [
     ⟨none, (some 2), .mov (.t 0), []⟩,
     ⟨none, (some 3), .mov (.t 1), []⟩,
     ⟨none, (some 4), .zero true (zs 12 (.int .u16 0)), []⟩])
   (.seq
    (.reg [4] [
      ⟨none, (some 5), .ldV 2 none 12 true, []⟩,
      ⟨none, (some 6), .ldV 3 none 12 true, []⟩,
      ⟨none, (some 7), .call true 443 [.t 5, .t 6, .f 504], []⟩,
      ⟨none, (some 4), .stV 4 none 12 (.t 7), []⟩])
    .ret))
def c350 : Fn := { np := 2, nt := 8, kind := .pure, res := [.v 4 12 true], body := k350 }

/- impl.areFrames -/
def k351 : Cd :=
  (.seq
   (.reg [2] [
     ⟨none, (some 2), .mov (.c (.bool false)), []⟩])
   (.seq
    (.reg [2] [
      ⟨none, (some 3), .mov (.t 0), []⟩,
      ⟨none, (some 4), .call true 505 [.t 3, .f 506], []⟩,
      ⟨none, (some 5), .un .not (.t 4), []⟩,
      ⟨none, (some 2), .mov (.t 5), []⟩])
    .ret))
def c351 : Fn := { np := 1, nt := 6, kind := .pure, res := [.t 2], body := k351 }

/- spec.l01Moved -/
def b355_1 : Cd :=
  (.seq
   (.seq
    (.reg [16] [
      ⟨none, (some 13), .mov (.t 9), []⟩,
      ⟨none, (some 14), .mov (.t 8), []⟩,
      ⟨none, (some 15), .len (.t 14), []⟩,
      ⟨none, (some 16), .bin .lss (.t 13) (.t 15), []⟩])
    (.cond (.t 16)
     .skip
     (.exit 0)))
   (.seq
    (.block 1
     (.reg [] [
       ⟨none, (some 19), .mov (.t 8), []⟩,
       ⟨none, (some 20), .mov (.t 9), []⟩,
       ⟨none, (some 21), .idxA 2 (.t 19) (.t 20), []⟩,
       ⟨none, (some 22), .fldP 0 (.t 21), []⟩,
       ⟨none, (some 23), .ld 1 false (.t 22), []⟩,
       ⟨none, (some 24), .conv .i64 (.t 23), []⟩,
       ⟨none, (some 25), .mov (.t 1), []⟩,
       ⟨none, (some 26), .bin .add (.t 24) (.t 25), []⟩,
       ⟨none, (some 27), .mov (.t 8), []⟩,
       ⟨none, (some 28), .mov (.t 9), []⟩,
       ⟨none, (some 29), .idxA 2 (.t 27) (.t 28), []⟩,
       ⟨none, (some 30), .fldP 1 (.t 29), []⟩,
       ⟨none, (some 31), .ld 1 false (.t 30), []⟩,
       ⟨none, (some 32), .conv .i64 (.t 31), []⟩,
       ⟨none, (some 33), .mov (.t 2), []⟩,
       ⟨none, (some 34), .bin .add (.t 32) (.t 33), []⟩,
       ⟨none, (some 35), .call false 305 [.t 7, .t 26, .t 34], []⟩]))
    (.reg [9] [
      ⟨none, (some 17), .mov (.t 9), []⟩,
      ⟨none, (some 18), .bin .add (.t 17) (.c (.int .i64 1)), []⟩,
      ⟨none, (some 9), .mov (.t 18), []⟩])))
def k355 : Cd :=
  (.seq
   (.reg [6] [
     ⟨none, (some 6), .zero true (zs 12 (.int .u16 0)), []⟩])
   (.seq
    (.reg [7] [
      ⟨none, (some 10), .agg (zs 12 (.int .u16 0)) [], []⟩,
      ⟨none, (some 7), .new 1 (zs 12 (.int .u16 0)), []⟩,
      ⟨none, none, .st 12 (.t 7) (.t 10), []⟩])
    (.seq
     (.reg [8] [
       ⟨none, (some 11), .mov (.t 0), []⟩,
       ⟨none, (some 12), .call true 440 [.t 11], []⟩,
       ⟨none, (some 8), .mov (.t 12), []⟩])
     (.seq
      (.seq
       (.reg [9] [
         ⟨none, (some 9), .mov (.c (.int .i64 0)), []⟩])
       (.block 0
        (.loop b355_1)))
      (.seq
       (.reg [6] [
         ⟨none, (some 36), .ld 12 true (.t 7), []⟩,
         ⟨none, (some 6), .stV 6 none 12 (.t 36), []⟩])
       .ret)))))
def c355 : Fn := { np := 3, nt := 37, kind := .pure, res := [.v 6 12 true], body := k355 }

/- (impl.Frame).moved -/
def b358_1 : Cd :=
  (.seq
   (.reg [16] [
     ⟨none, (some 16), .bin .lss (.t 15) (.c (.int .i64 12)), []⟩])
   (.seq
    (.cond (.t 16)
     .skip
     (.exit 0))
    (.seq
     (.block 1
      (.seq
       (.reg [8] [
         ⟨none, (some 17), .mov (.t 15), []⟩,
         ⟨none, (some 8), .mov (.t 17), []⟩])
       (.seq
        (.reg [9] [
          ⟨none, (some 18), .mov (.t 8), []⟩,
          ⟨none, (some 19), .mov (.t 2), []⟩,
          ⟨none, (some 20), .bin .sub (.t 18) (.t 19), []⟩,
          ⟨none, (some 9), .mov (.t 20), []⟩])
        (.seq
         (.seq
          (.reg [23] [
            ⟨none, (some 21), .mov (.t 9), []⟩,
            ⟨none, (some 22), .call true 295 [.t 21, .c (.int .i64 0), .c (.int .i64 11)], []⟩,
            ⟨none, (some 23), .un .not (.t 22), []⟩])
          (.cond (.t 23)
           (.exit 1)
           .skip))
         (.seq
          (.reg [25] [
            ⟨none, (some 24), .mov (.t 1), []⟩,
            ⟨none, (some 25), .bin .geq (.t 24) (.c (.int .i64 0)), []⟩])
          (.cond (.t 25)
           (.reg [7] [
             ⟨none, (some 26), .mov (.t 8), []⟩,
             ⟨none, (some 27), .mov (.t 9), []⟩,
             ⟨none, (some 28), .adrI 3 none 12 1 (.t 27), []⟩,
             ⟨none, (some 29), .ldV 3 (some 28) 1 false, []⟩,
             ⟨none, (some 30), .mov (.t 1), []⟩,
             ⟨none, (some 31), .bin .shl (.t 29) (.t 30), []⟩,
             ⟨none, (some 32), .bin .and (.t 31) (.c (.int .u16 4095)), []⟩,
             ⟨none, (some 33), .adrI 7 none 12 1 (.t 26), []⟩,
             ⟨none, (some 7), .stV 7 (some 33) 1 (.t 32), []⟩])
           (.reg [7] [
             ⟨none, (some 34), .mov (.t 8), []⟩,
             ⟨none, (some 35), .mov (.t 9), []⟩,
             ⟨none, (some 36), .adrI 3 none 12 1 (.t 35), []⟩,
             ⟨none, (some 37), .ldV 3 (some 36) 1 false, []⟩,
             ⟨none, (some 38), .mov (.t 1), []⟩,
             ⟨none, (some 39), .un .neg (.t 38), []⟩,
             ⟨none, (some 40), .bin .shr (.t 37) (.t 39), []⟩,
             ⟨none, (some 41), .adrI 7 none 12 1 (.t 34), []⟩,
             ⟨none, (some 7), .stV 7 (some 41) 1 (.t 40), []⟩])))))))
     (.reg [15] [
       ⟨none, (some 42), .bin .add (.t 15) (.c (.int .i64 1)), []⟩,
       ⟨none, (some 15), .mov (.t 42), []⟩]))))
def k358 : Cd :=
  (.seq
   (.reg [3, 6] [
     ⟨none, (some 3), .mov (.t 0), []⟩,
     ⟨none, (some 6), .zero true (zs 12 (.int .u16 0)), []⟩])
   (.seq
    (.reg [7] [
      ⟨none, (some 10), .agg (zs 12 (.int .u16 0)) [], []⟩,
      ⟨none, (some 7), .zero true (zs 12 (.int .u16 0)), []⟩,
      ⟨none, (some 7), .stV 7 none 12 (.t 10), []⟩])
    (.seq
     (.seq
      (.reg [13] [
        ⟨none, (some 11), .mov (.t 1), []⟩,
        ⟨none, (some 12), .call true 295 [.t 11, .c (.int .i64 (-12)), .c (.int .i64 12)], []⟩,
        ⟨none, (some 13), .un .not (.t 12), []⟩])
      (.cond (.t 13)
       (.seq
        (.reg [6] [
          ⟨none, (some 14), .ldV 7 none 12 true, []⟩,
          ⟨none, (some 6), .stV 6 none 12 (.t 14), []⟩])
        .ret)
       .skip))
     (.seq
      (.seq
       (.reg [15] [
         ⟨none, (some 15), .mov (.c (.int .i64 0)), []⟩])
       (.block 0
        (.loop b358_1)))
      (.seq
       (.reg [6] [
         ⟨none, (some 43), .ldV 7 none 12 true, []⟩,
         ⟨none, (some 6), .stV 6 none 12 (.t 43), []⟩])
       .ret)))))
def c358 : Fn := { np := 3, nt := 44, kind := .pure, res := [.v 6 12 true], body := k358 }

/- spec.l01Ok -/
def b359_1 : Cd :=
  (.seq
   (.seq
    (.reg [5] [
      ⟨none, (some 4), .mov (.t 3), []⟩,
      ⟨none, (some 5), .bin .lss (.t 4) (.c (.int .i64 12)), []⟩])
    (.cond (.t 5)
     .skip
     (.exit 0)))
   (.seq
    (.block 1
     (.seq
      (.reg [13] [
        ⟨none, (some 8), .mov (.t 0), []⟩,
        ⟨none, (some 9), .mov (.t 3), []⟩,
        ⟨none, (some 10), .nil (.t 8), []⟩,
        ⟨none, (some 11), .idxP 12 1 (.t 10) (.t 9), []⟩,
        ⟨none, (some 12), .ld 1 false (.t 11), []⟩,
        ⟨none, (some 13), .bin .gtr (.t 12) (.c (.int .u16 4095)), []⟩])
      (.cond (.t 13)
       (.seq
        (.reg [2] [
          ⟨none, (some 2), .mov (.c (.bool false)), []⟩])
        .ret)
       .skip)))
    (.reg [3] [
      ⟨none, (some 6), .mov (.t 3), []⟩,
      ⟨none, (some 7), .bin .add (.t 6) (.c (.int .i64 1)), []⟩,
      ⟨none, (some 3), .mov (.t 7), []⟩])))
def k359 : Cd :=
  (.seq
   (.reg [2] [
     ⟨none, (some 2), .mov (.c (.bool false)), []⟩])
   (.seq
    (.seq
     (.reg [3] [
       ⟨none, (some 3), .mov (.c (.int .i64 0)), []⟩])
     (.block 0
      (.loop b359_1)))
    (.seq
     (.reg [2] [
       ⟨none, (some 2), .mov (.c (.bool true)), []⟩])
     .ret)))
def c359 : Fn := { np := 1, nt := 14, kind := .pure, res := [.t 2], body := k359 }

/- laws.toLayer -/
def k410 : Cd :=
  (.seq
   (.reg [1, 2] [
     ⟨none, (some 1), .mov (.t 0), []⟩,
     ⟨none, (some 2), .zero true [.int .u16 0, .int .u16 0, .int .u16 0, .int .u16 0, .int .u16 0, .int .u16 0, .int .u16 0, .int .u16 0, .int .u16 0, .int .u16 0, .int .u16 0, .int .u16 0, .int .u16 0, .int .u16 0, .int .u16 0, .int .u16 0, .int .u16 0, .int .u16 0, .int .u16 0, .int .u16 0, .int .u16 0, .int .u16 0, .int .u16 0, .int .u16 0, .int .i8 0, .int .i8 0, .int .i8 0], []⟩])
   (.seq
    (.reg [3] [
      ⟨none, (some 3), .zero true [.int .u16 0, .int .u16 0, .int .u16 0, .int .u16 0, .int .u16 0, .int .u16 0, .int .u16 0, .int .u16 0, .int .u16 0, .int .u16 0, .int .u16 0, .int .u16 0, .int .u16 0, .int .u16 0, .int .u16 0, .int .u16 0, .int .u16 0, .int .u16 0, .int .u16 0, .int .u16 0, .int .u16 0, .int .u16 0, .int .u16 0, .int .u16 0, .int .i8 0, .int .i8 0, .int .i8 0], []⟩])
    (.seq
     (.reg [3] [
       ⟨none, (some 4), .adrF 1 none 0, []⟩,
       ⟨none, (some 5), .ldV 1 (some 4) 24 true, []⟩,
       ⟨none, (some 6), .call true 533 [.t 5], []⟩,
       ⟨none, (some 7), .adrF 3 none 0, []⟩,
       ⟨none, (some 3), .stV 3 (some 7) 24 (.t 6), []⟩])
     (.seq
      (.reg [3] [
        ⟨none, (some 8), .adrF 1 none 24, []⟩,
        ⟨none, (some 9), .ldV 1 (some 8) 1 false, []⟩,
        ⟨none, (some 10), .adrF 3 none 24, []⟩,
        ⟨none, (some 3), .stV 3 (some 10) 1 (.t 9), []⟩])
      (.seq
       (.reg [3] [
         ⟨none, (some 11), .adrF 1 none 25, []⟩,
         ⟨none, (some 12), .ldV 1 (some 11) 1 false, []⟩,
         ⟨none, (some 13), .adrF 3 none 25, []⟩,
         ⟨none, (some 3), .stV 3 (some 13) 1 (.t 12), []⟩])
       (.seq
        (.reg [3] [
          ⟨none, (some 14), .adrF 1 none 26, []⟩,
          ⟨none, (some 15), .ldV 1 (some 14) 1 false, []⟩,
          ⟨none, (some 16), .adrF 3 none 26, []⟩,
          ⟨none, (some 3), .stV 3 (some 16) 1 (.t 15), []⟩])
        (.seq
         (.reg [2] [
           ⟨none, (some 17), .ldV 3 none 27 true, []⟩,
           ⟨none, (some 2), .stV 2 none 27 (.t 17), []⟩])
         .ret)))))))
def c410 : Fn := { np := 1, nt := 18, kind := .pure, res := [.v 2 27 true], body := k410 }

/- laws.fillerLayer -/
def k411 : Cd :=
  (.seq
   (.reg [0] [
     ⟨none, (some 0), .zero true [.int .u16 0, .int .u16 0, .int .u16 0, .int .u16 0, .int .u16 0, .int .u16 0, .int .u16 0, .int .u16 0, .int .u16 0, .int .u16 0, .int .u16 0, .int .u16 0, .int .u16 0, .int .u16 0, .int .u16 0, .int .u16 0, .int .u16 0, .int .u16 0, .int .u16 0, .int .u16 0, .int .u16 0, .int .u16 0, .int .u16 0, .int .u16 0, .int .i8 0, .int .i8 0, .int .i8 0], []⟩])
   (.seq
    (.reg [0] [
      ⟨none, (some 1), .call true 534 [], []⟩,
      ⟨none, (some 2), .agg [.int .u16 0, .int .u16 0, .int .u16 0, .int .u16 0, .int .u16 0, .int .u16 0, .int .u16 0, .int .u16 0, .int .u16 0, .int .u16 0, .int .u16 0, .int .u16 0, .int .u16 0, .int .u16 0, .int .u16 0, .int .u16 0, .int .u16 0, .int .u16 0, .int .u16 0, .int .u16 0, .int .u16 0, .int .u16 0, .int .u16 0, .int .u16 0, .int .i8 0, .int .i8 0, .int .i8 0] [(0, 24, (.t 1)), (24, 1, (.c (.int .i8 (-101)))), (25, 1, (.c (.int .i8 (-101)))), (26, 1, (.c (.int .i8 (-101))))], []⟩,
      ⟨none, (some 0), .stV 0 none 27 (.t 2), []⟩])
    .ret))
def c411 : Fn := { np := 0, nt := 3, kind := .pure, res := [.v 0 27 true], body := k411 }

/- laws.eqLayer -/
def k413 : Cd :=
  (.seq
   (.reg [2, 3, 4] [
     ⟨none, (some 2), .mov (.t 0), []⟩,
     ⟨none, (some 3), .mov (.t 1), []⟩,
     ⟨none, (some 4), .mov (.c (.bool false)), []⟩])
   (.seq
    (.seq
     (.reg [10] [
       ⟨none, (some 5), .adrF 2 none 0, []⟩,
       ⟨none, (some 6), .ldV 2 (some 5) 24 true, []⟩,
       ⟨none, (some 7), .adrF 3 none 0, []⟩,
       ⟨none, (some 8), .ldV 3 (some 7) 24 true, []⟩,
       ⟨none, (some 9), .call true 535 [.t 6, .t 8], []⟩,
       ⟨none, (some 10), .un .not (.t 9), []⟩])
     (.cond (.t 10)
      (.seq
       (.reg [4] [
         ⟨none, (some 4), .mov (.c (.bool false)), []⟩])
       .ret)
      .skip))
    (.seq
     (.seq
      (.reg [15] [
        ⟨none, (some 11), .adrF 2 none 24, []⟩,
        ⟨none, (some 12), .ldV 2 (some 11) 1 false, []⟩,
        ⟨none, (some 13), .adrF 3 none 24, []⟩,
        ⟨none, (some 14), .ldV 3 (some 13) 1 false, []⟩,
        ⟨none, (some 15), .bin .neq (.t 12) (.t 14), []⟩])
      (.cond (.t 15)
       (.seq
        (.reg [4] [
          ⟨none, (some 4), .mov (.c (.bool false)), []⟩])
        .ret)
       .skip))
     (.seq
      (.seq
       (.reg [20] [
         ⟨none, (some 16), .adrF 2 none 25, []⟩,
         ⟨none, (some 17), .ldV 2 (some 16) 1 false, []⟩,
         ⟨none, (some 18), .adrF 3 none 25, []⟩,
         ⟨none, (some 19), .ldV 3 (some 18) 1 false, []⟩,
         ⟨none, (some 20), .bin .neq (.t 17) (.t 19), []⟩])
       (.cond (.t 20)
        (.seq
         (.reg [4] [
           ⟨none, (some 4), .mov (.c (.bool false)), []⟩])
         .ret)
        .skip))
      (.seq
       (.seq
        (.reg [25] [
          ⟨none, (some 21), .adrF 2 none 26, []⟩,
          ⟨none, (some 22), .ldV 2 (some 21) 1 false, []⟩,
          ⟨none, (some 23), .adrF 3 none 26, []⟩,
          ⟨none, (some 24), .ldV 3 (some 23) 1 false, []⟩,
          ⟨none, (some 25), .bin .neq (.t 22) (.t 24), []⟩])
        (.cond (.t 25)
         (.seq
          (.reg [4] [
            ⟨none, (some 4), .mov (.c (.bool false)), []⟩])
          .ret)
         .skip))
       (.seq
        (.reg [4] [
          ⟨none, (some 4), .mov (.c (.bool true)), []⟩])
        .ret))))))
def c413 : Fn := { np := 2, nt := 26, kind := .pure, res := [.t 4], body := k413 }

/- impl.isCamera -/
def k416 : Cd :=
  (.seq
   (.reg [4] [
     ⟨none, (some 4), .mov (.c (.bool false)), []⟩])
   (.seq
    (.reg [4] [
      ⟨none, (some 5), .mov (.t 0), []⟩,
      ⟨none, (some 6), .call true 295 [.t 5, .c (.int .i64 (-100)), .c (.int .i64 100)], []⟩,
      ⟨none, (some 7), .mov (.t 6), []⟩,
      ⟨(some (7, true)), (some 8), .mov (.t 1), []⟩,
      ⟨(some (7, true)), (some 9), .call true 295 [.t 8, .c (.int .i64 (-100)), .c (.int .i64 100)], []⟩,
      ⟨none, (some 10), .pick (.t 7) (.t 9) (.c (.bool false)), []⟩,
      ⟨none, (some 4), .mov (.t 10), []⟩])
    .ret))
def c416 : Fn := { np := 2, nt := 11, kind := .pure, res := [.t 4], body := k416 }

/- spec.l01Dots -/
def b440_1 : Cd :=
  (.seq
   (.seq
    (.reg [12] [
      ⟨none, (some 11), .mov (.t 5), []⟩,
      ⟨none, (some 12), .bin .lss (.t 11) (.c (.int .i64 12)), []⟩])
    (.cond (.t 12)
     .skip
     (.exit 2)))
   (.seq
    (.block 3
     (.seq
      (.reg [18] [
        ⟨none, (some 15), .mov (.t 0), []⟩,
        ⟨none, (some 16), .mov (.t 5), []⟩,
        ⟨none, (some 17), .mov (.t 4), []⟩,
        ⟨none, (some 18), .call true 456 [.t 15, .t 16, .t 17], []⟩])
      (.cond (.t 18)
       (.reg [3] [
         ⟨none, (some 19), .mov (.t 3), []⟩,
         ⟨none, (some 20), .mov (.t 5), []⟩,
         ⟨none, (some 21), .conv .i8 (.t 20), []⟩,
         ⟨none, (some 22), .mov (.t 4), []⟩,
         ⟨none, (some 23), .conv .i8 (.t 22), []⟩,
         ⟨none, (some 24), .agg [.int .i8 0, .int .i8 0] [(0, 1, (.t 21)), (1, 1, (.t 23))], []⟩,
         ⟨none, (some 25), .bldS 2 1 [.int .i8 0, .int .i8 0] [(0, 2, (.t 24))], []⟩,
         ⟨none, (some 26), .app 2 2 (.t 19) (.t 25), []⟩,
         ⟨none, (some 3), .mov (.t 26), []⟩])
       .skip)))
    (.reg [5] [
      ⟨none, (some 13), .mov (.t 5), []⟩,
      ⟨none, (some 14), .bin .add (.t 13) (.c (.int .i64 1)), []⟩,
      ⟨none, (some 5), .mov (.t 14), []⟩])))
def b440_2 : Cd :=
  (.seq
   (.seq
    (.reg [8] [
      ⟨none, (some 7), .mov (.t 4), []⟩,
      ⟨none, (some 8), .bin .lss (.t 7) (.c (.int .i64 12)), []⟩])
    (.cond (.t 8)
     .skip
     (.exit 0)))
   (.seq
    (.block 1
     (.seq
      (.reg [5] [
        ⟨none, (some 5), .mov (.c (.int .i64 0)), []⟩])
      (.block 2
       (.loop b440_1))))
    (.reg [4] [
      ⟨none, (some 9), .mov (.t 4), []⟩,
      ⟨none, (some 10), .bin .add (.t 9) (.c (.int .i64 1)), []⟩,
      ⟨none, (some 4), .mov (.t 10), []⟩])))
def k440 : Cd :=
  (.seq
   (.reg [2] [
     ⟨none, (some 2), .mov (.c (.slice none 0 0)), []⟩])
   (.seq
    (.reg [3] [
      ⟨none, (some 6), .bldS 2 0 [.int .i8 0, .int .i8 0] [], []⟩,
      ⟨none, (some 3), .mov (.t 6), []⟩])
    (.seq
     (.seq
      (.reg [4] [
        ⟨none, (some 4), .mov (.c (.int .i64 0)), []⟩])
      (.block 0
       (.loop b440_2)))
     (.seq
      (.reg [2] [
        ⟨none, (some 27), .mov (.t 3), []⟩,
        ⟨none, (some 2), .mov (.t 27), []⟩])
      .ret))))
def c440 : Fn := { np := 1, nt := 28, kind := .pure, res := [.t 2], body := k440 }

/- (impl.Frame).mix -/
def b443_1 : Cd :=
  (.seq
   (.reg [11] [
     ⟨none, (some 11), .bin .lss (.t 10) (.c (.int .i64 12)), []⟩])
   (.seq
    (.cond (.t 11)
     .skip
     (.exit 0))
    (.seq
     (.block 1
      (.seq
       (.reg [7, 8] [
         ⟨none, (some 12), .mov (.t 10), []⟩,
         ⟨none, (some 13), .idx 12 1 false (.t 9) (.t 10), []⟩,
         ⟨none, (some 7), .mov (.t 12), []⟩,
         ⟨none, (some 8), .mov (.t 13), []⟩])
       (.reg [3] [
         ⟨none, (some 14), .mov (.t 7), []⟩,
         ⟨none, (some 15), .mov (.t 2), []⟩,
         ⟨none, (some 16), .mov (.t 8), []⟩,
         ⟨none, (some 17), .mov (.t 7), []⟩,
         ⟨none, (some 18), .adrI 4 none 12 1 (.t 17), []⟩,
         ⟨none, (some 19), .ldV 4 (some 18) 1 false, []⟩,
         ⟨none, (some 20), .callv (.t 15) [.t 16, .t 19], []⟩,
         ⟨none, (some 21), .adrI 3 none 12 1 (.t 14), []⟩,
         ⟨none, (some 3), .stV 3 (some 21) 1 (.t 20), []⟩])))
     (.reg [10] [
       ⟨none, (some 22), .bin .add (.t 10) (.c (.int .i64 1)), []⟩,
       ⟨none, (some 10), .mov (.t 22), []⟩]))))
def k443 : Cd :=
  (.seq
   (.reg [3, 4, 6] [
     ⟨none, (some 3), .mov (.t 0), []⟩,
     ⟨none, (some 4), .mov (.t 1), []⟩,
     ⟨none, (some 6), .zero true (zs 12 (.int .u16 0)), []⟩])
   (.seq
    (.seq
     (.reg [9, 10] [
       ⟨none, (some 9), .ldV 3 none 12 true, []⟩,
       ⟨none, (some 10), .mov (.c (.int .i64 0)), []⟩])
     (.block 0
      (.loop b443_1)))
    (.seq
     (.reg [6] [
       ⟨none, (some 23), .ldV 3 none 12 true, []⟩,
       ⟨none, (some 6), .stV 6 none 12 (.t 23), []⟩])
     .ret)))
def c443 : Fn := { np := 3, nt := 24, kind := .pure, res := [.v 6 12 true], body := k443 }

/- slices.ContainsFunc[[]uint16,uint16] -/
def k445 : Cd :=
  (.seq
   (.reg [4] [
     ⟨none, (some 4), .mov (.c (.bool false)), []⟩])
   (.seq
    (.reg [4] [
      ⟨none, (some 5), .mov (.t 0), []⟩,
      ⟨none, (some 6), .mov (.t 1), []⟩,
      ⟨none, (some 7), .call true 547 [.t 5, .t 6], []⟩,
      ⟨none, (some 8), .bin .geq (.t 7) (.c (.int .i64 0)), []⟩,
      ⟨none, (some 4), .mov (.t 8), []⟩])
    .ret))
def c445 : Fn := { np := 2, nt := 9, kind := .pure, res := [.t 4], body := k445 }

/- impl.ValidFrame$1 -/
def k446 : Cd :=
  (.seq
   (.reg [2] [
     ⟨none, (some 2), .mov (.c (.bool false)), []⟩])
   (.seq
    (.reg [2] [
      ⟨none, (some 3), .mov (.t 0), []⟩,
      ⟨none, (some 4), .bin .gtr (.t 3) (.c (.int .u16 4095)), []⟩,
      ⟨none, (some 2), .mov (.t 4), []⟩])
    .ret))
def c446 : Fn := { np := 1, nt := 5, kind := .pure, res := [.t 2], body := k446 }

/- spec.l01Has -/
def k456 : Cd :=
  (.seq
   (.reg [6] [
     ⟨none, (some 6), .mov (.c (.bool false)), []⟩])
   (.seq
    (.reg [6] [
      ⟨none, (some 7), .mov (.t 1), []⟩,
      ⟨none, (some 8), .mov (.t 2), []⟩,
      ⟨none, (some 9), .call true 342 [.t 7, .t 8], []⟩,
      ⟨none, (some 10), .mov (.t 9), []⟩,
      ⟨(some (10, true)), (some 11), .mov (.t 0), []⟩,
      ⟨(some (10, true)), (some 12), .mov (.t 2), []⟩,
      ⟨(some (10, true)), (some 13), .nil (.t 11), []⟩,
      ⟨(some (10, true)), (some 14), .idxP 12 1 (.t 13) (.t 12), []⟩,
      ⟨(some (10, true)), (some 15), .ld 1 false (.t 14), []⟩,
      ⟨(some (10, true)), (some 16), .mov (.t 1), []⟩,
      ⟨(some (10, true)), (some 17), .conv .u64 (.t 16), []⟩,
      ⟨(some (10, true)), (some 18), .bin .shr (.t 15) (.t 17), []⟩,
      ⟨(some (10, true)), (some 19), .bin .rem (.t 18) (.c (.int .u16 2)), []⟩,
      ⟨(some (10, true)), (some 20), .bin .eql (.t 19) (.c (.int .u16 1)), []⟩,
      ⟨none, (some 21), .pick (.t 10) (.t 20) (.c (.bool false)), []⟩,
      ⟨none, (some 6), .mov (.t 21), []⟩])
    .ret))
def c456 : Fn := { np := 3, nt := 22, kind := .pure, res := [.t 6], body := k456 }

/- spec.l05Cel -/
def k467 : Cd :=
  (.seq
   (.reg [2] [
     ⟨none, (some 2), .mov (.c (.bool false)), []⟩])
   (.seq
    (.seq
     (.reg [14] [
       ⟨none, (some 3), .mov (.t 0), []⟩,
       ⟨none, (some 4), .nil (.t 3), []⟩,
       ⟨none, (some 5), .fldP 0 (.t 4), []⟩,
       ⟨none, (some 6), .call true 359 [.t 5], []⟩,
       ⟨none, (some 7), .un .not (.t 6), []⟩,
       ⟨none, (some 8), .mov (.t 7), []⟩,
       ⟨(some (8, false)), (some 9), .mov (.t 0), []⟩,
       ⟨(some (8, false)), (some 10), .nil (.t 9), []⟩,
       ⟨(some (8, false)), (some 11), .fldP 12 (.t 10), []⟩,
       ⟨(some (8, false)), (some 12), .call true 359 [.t 11], []⟩,
       ⟨(some (8, false)), (some 13), .un .not (.t 12), []⟩,
       ⟨none, (some 14), .pick (.t 8) (.c (.bool true)) (.t 13), []⟩])
     (.cond (.t 14)
      (.seq
       (.reg [2] [
         ⟨none, (some 2), .mov (.c (.bool false)), []⟩])
       .ret)
      .skip))
    (.seq
     (.reg [2] [
       ⟨none, (some 15), .mov (.t 0), []⟩,
       ⟨none, (some 16), .nil (.t 15), []⟩,
       ⟨none, (some 17), .fldP 0 (.t 16), []⟩,
       ⟨none, (some 18), .mov (.t 0), []⟩,
       ⟨none, (some 19), .nil (.t 18), []⟩,
       ⟨none, (some 20), .fldP 12 (.t 19), []⟩,
       ⟨none, (some 22), .agg (zs 12 (.int .u16 0)) [], []⟩,
       ⟨none, (some 21), .call true 349 [.t 17, .t 20], []⟩,
       ⟨none, (some 23), .eq (.a (rb 12 (some .u16))) false (.t 21) (.t 22), []⟩,
       ⟨none, (some 2), .mov (.t 23), []⟩])
     .ret)))
def c467 : Fn := { np := 1, nt := 24, kind := .pure, res := [.t 2], body := k467 }

/- spec.l05Moved -/
def k468 : Cd :=
  (.seq
   (.reg [6] [
     ⟨none, (some 6), .zero true (zs 24 (.int .u16 0)), []⟩])
   (.seq
    (.reg [6] [
      ⟨none, (some 7), .mov (.t 0), []⟩,
      ⟨none, (some 8), .nil (.t 7), []⟩,
      ⟨none, (some 9), .fldP 0 (.t 8), []⟩,
      ⟨none, (some 10), .mov (.t 1), []⟩,
      ⟨none, (some 11), .mov (.t 2), []⟩,
      ⟨none, (some 13), .mov (.t 0), []⟩,
      ⟨none, (some 14), .nil (.t 13), []⟩,
      ⟨none, (some 15), .fldP 12 (.t 14), []⟩,
      ⟨none, (some 16), .mov (.t 1), []⟩,
      ⟨none, (some 17), .mov (.t 2), []⟩,
      ⟨none, (some 12), .call true 355 [.t 9, .t 10, .t 11], []⟩,
      ⟨none, (some 18), .call true 355 [.t 15, .t 16, .t 17], []⟩,
      ⟨none, (some 19), .agg (zs 24 (.int .u16 0)) [(0, 12, (.t 12)), (12, 12, (.t 18))], []⟩,
      ⟨none, (some 6), .stV 6 none 24 (.t 19), []⟩])
    .ret))
def c468 : Fn := { np := 3, nt := 20, kind := .pure, res := [.v 6 24 true], body := k468 }

/- slices.ContainsFunc[impl.Scene,impl.Layer] -/
def k471 : Cd :=
  (.seq
   (.reg [4] [
     ⟨none, (some 4), .mov (.c (.bool false)), []⟩])
   (.seq
    (.reg [4] [
      ⟨none, (some 5), .mov (.t 0), []⟩,
      ⟨none, (some 6), .mov (.t 1), []⟩,
      ⟨none, (some 7), .call true 555 [.t 5, .t 6], []⟩,
      ⟨none, (some 8), .bin .geq (.t 7) (.c (.int .i64 0)), []⟩,
      ⟨none, (some 4), .mov (.t 8), []⟩])
    .ret))
def c471 : Fn := { np := 2, nt := 9, kind := .pure, res := [.t 4], body := k471 }

/- impl.ValidScene$1 -/
def k472 : Cd :=
  (.seq
   (.reg [1, 2] [
     ⟨none, (some 1), .mov (.t 0), []⟩,
     ⟨none, (some 2), .mov (.c (.bool false)), []⟩])
   (.seq
    (.reg [2] [
      ⟨none, (some 3), .ldV 1 none 27 true, []⟩,
      ⟨none, (some 4), .call true 473 [.t 3], []⟩,
      ⟨none, (some 5), .un .not (.t 4), []⟩,
      ⟨none, (some 2), .mov (.t 5), []⟩])
    .ret))
def c472 : Fn := { np := 1, nt := 6, kind := .pure, res := [.t 2], body := k472 }

/- impl.isLayer -/
def k473 : Cd :=
  (.seq
   (.reg [1, 2] [
     ⟨none, (some 1), .mov (.t 0), []⟩,
     ⟨none, (some 2), .mov (.c (.bool false)), []⟩])
   (.seq
    (.reg [2] [
      ⟨none, (some 3), .adrF 1 none 0, []⟩,
      ⟨none, (some 4), .ldV 1 (some 3) 24 true, []⟩,
      ⟨none, (some 5), .call true 333 [.t 4], []⟩,
      ⟨none, (some 6), .mov (.t 5), []⟩,
      ⟨(some (6, true)), (some 7), .adrF 1 none 24, []⟩,
      ⟨(some (6, true)), (some 8), .ldV 1 (some 7) 1 false, []⟩,
      ⟨(some (6, true)), (some 9), .conv .i64 (.t 8), []⟩,
      ⟨(some (6, true)), (some 10), .call true 295 [.t 9, .c (.int .i64 (-12)), .c (.int .i64 12)], []⟩,
      ⟨none, (some 11), .pick (.t 6) (.t 10) (.c (.bool false)), []⟩,
      ⟨none, (some 12), .mov (.t 11), []⟩,
      ⟨(some (12, true)), (some 13), .adrF 1 none 25, []⟩,
      ⟨(some (12, true)), (some 14), .ldV 1 (some 13) 1 false, []⟩,
      ⟨(some (12, true)), (some 15), .conv .i64 (.t 14), []⟩,
      ⟨(some (12, true)), (some 16), .call true 295 [.t 15, .c (.int .i64 (-12)), .c (.int .i64 12)], []⟩,
      ⟨none, (some 17), .pick (.t 12) (.t 16) (.c (.bool false)), []⟩,
      ⟨none, (some 18), .mov (.t 17), []⟩,
      ⟨(some (18, true)), (some 19), .adrF 1 none 26, []⟩,
      ⟨(some (18, true)), (some 20), .ldV 1 (some 19) 1 false, []⟩,
      ⟨(some (18, true)), (some 21), .conv .i64 (.t 20), []⟩,
      ⟨(some (18, true)), (some 22), .call true 295 [.t 21, .c (.int .i64 0), .c (.int .i64 8)], []⟩,
      ⟨none, (some 23), .pick (.t 18) (.t 22) (.c (.bool false)), []⟩,
      ⟨none, (some 2), .mov (.t 23), []⟩])
    .ret))
def c473 : Fn := { np := 1, nt := 24, kind := .pure, res := [.t 2], body := k473 }

/- slices.IndexFunc[[]impl.Frame,impl.Frame] -/
def b474_1 : Cd :=
  (.seq
   (.reg [9] [
     ⟨none, (some 9), .bin .lss (.t 8) (.t 7), []⟩])
   (.seq
    (.cond (.t 9)
     .skip
     (.exit 0))
    (.seq
     (.block 1
      (.seq
       (.reg [5] [
         ⟨none, (some 10), .mov (.t 8), []⟩,
         ⟨none, (some 5), .mov (.t 10), []⟩])
       (.seq
        (.reg [16] [
          ⟨none, (some 11), .mov (.t 1), []⟩,
          ⟨none, (some 12), .mov (.t 0), []⟩,
          ⟨none, (some 13), .mov (.t 5), []⟩,
          ⟨none, (some 14), .idxA 12 (.t 12) (.t 13), []⟩,
          ⟨none, (some 15), .ld 12 true (.t 14), []⟩,
          ⟨none, (some 16), .callv (.t 11) [.t 15], []⟩])
        (.cond (.t 16)
         (.seq
          (.reg [4] [
            ⟨none, (some 17), .mov (.t 5), []⟩,
            ⟨none, (some 4), .mov (.t 17), []⟩])
          .ret)
         .skip))))
     (.reg [8] [
       ⟨none, (some 18), .bin .add (.t 8) (.c (.int .i64 1)), []⟩,
       ⟨none, (some 8), .mov (.t 18), []⟩]))))
def k474 : Cd :=
  (.seq
   (.reg [4] [
     ⟨none, (some 4), .mov (.c (.int .i64 0)), []⟩])
   (.seq
    (.seq
     (.reg [7, 8] [
       ⟨none, (some 6), .mov (.t 0), []⟩,
       ⟨none, (some 7), .len (.t 6), []⟩,
       ⟨none, (some 8), .mov (.c (.int .i64 0)), []⟩])
     (.block 0
      (.loop b474_1)))
    (.seq
     (.reg [4] [
       ⟨none, (some 4), .mov (.c (.int .i64 (-1))), []⟩])
     .ret)))
def c474 : Fn := { np := 2, nt := 19, kind := .pure, res := [.t 4], body := k474 }

/- (impl.Cel).over -/
def k497 : Cd :=
  (.seq
   (.reg [2, 3, 4] [
     ⟨none, (some 2), .mov (.t 0), []⟩,
     ⟨none, (some 3), .mov (.t 1), []⟩,
     ⟨none, (some 4), .zero true (zs 24 (.int .u16 0)), []⟩])
   (.seq
    (.reg [4] [
      ⟨none, (some 5), .adrF 2 none 0, []⟩,
      ⟨none, (some 6), .ldV 2 (some 5) 12 true, []⟩,
      ⟨none, (some 7), .adrF 3 none 0, []⟩,
      ⟨none, (some 8), .ldV 3 (some 7) 12 true, []⟩,
      ⟨none, (some 9), .adrF 2 none 12, []⟩,
      ⟨none, (some 10), .ldV 2 (some 9) 12 true, []⟩,
      ⟨none, (some 13), .adrF 2 none 12, []⟩,
      ⟨none, (some 14), .ldV 2 (some 13) 12 true, []⟩,
      ⟨none, (some 15), .adrF 3 none 12, []⟩,
      ⟨none, (some 16), .ldV 3 (some 15) 12 true, []⟩,
      ⟨none, (some 11), .call true 350 [.t 8, .t 10], []⟩,
      ⟨none, (some 12), .call true 338 [.t 6, .t 11], []⟩,
      ⟨none, (some 17), .call true 338 [.t 14, .t 16], []⟩,
      ⟨none, (some 18), .agg (zs 24 (.int .u16 0)) [(0, 12, (.t 12)), (12, 12, (.t 17))], []⟩,
      ⟨none, (some 4), .stV 4 none 24 (.t 18), []⟩])
    .ret))
def c497 : Fn := { np := 2, nt := 19, kind := .pure, res := [.v 4 24 true], body := k497 }

/- spec.l05Ok -/
def b498_1 : Cd :=
  (.seq
   (.seq
    (.reg [7] [
      ⟨none, (some 4), .mov (.t 3), []⟩,
      ⟨none, (some 5), .mov (.t 0), []⟩,
      ⟨none, (some 6), .len (.t 5), []⟩,
      ⟨none, (some 7), .bin .lss (.t 4) (.t 6), []⟩])
    (.cond (.t 7)
     .skip
     (.exit 0)))
   (.seq
    (.block 1
     (.seq
      (.reg [14] [
        ⟨none, (some 10), .mov (.t 0), []⟩,
        ⟨none, (some 11), .mov (.t 3), []⟩,
        ⟨none, (some 12), .idxA 27 (.t 10) (.t 11), []⟩,
        ⟨none, (some 13), .call true 563 [.t 12], []⟩,
        ⟨none, (some 14), .un .not (.t 13), []⟩])
      (.cond (.t 14)
       (.seq
        (.reg [2] [
          ⟨none, (some 2), .mov (.c (.bool false)), []⟩])
        .ret)
       .skip)))
    (.reg [3] [
      ⟨none, (some 8), .mov (.t 3), []⟩,
      ⟨none, (some 9), .bin .add (.t 8) (.c (.int .i64 1)), []⟩,
      ⟨none, (some 3), .mov (.t 9), []⟩])))
def k498 : Cd :=
  (.seq
   (.reg [2] [
     ⟨none, (some 2), .mov (.c (.bool false)), []⟩])
   (.seq
    (.seq
     (.reg [3] [
       ⟨none, (some 3), .mov (.c (.int .i64 0)), []⟩])
     (.block 0
      (.loop b498_1)))
    (.seq
     (.reg [2] [
       ⟨none, (some 15), .mov (.t 0), []⟩,
       ⟨none, (some 16), .len (.t 15), []⟩,
       ⟨none, (some 17), .bin .leq (.t 16) (.c (.int .i64 8)), []⟩,
       ⟨none, (some 2), .mov (.t 17), []⟩])
     .ret)))
def c498 : Fn := { np := 1, nt := 18, kind := .pure, res := [.t 2], body := k498 }

/- spec.l05Offset -/
def k499 : Cd :=
  (.seq
   (.reg [6, 7] [
     ⟨none, (some 6), .mov (.c (.int .i64 0)), []⟩,
     ⟨none, (some 7), .mov (.c (.int .i64 0)), []⟩])
   (.seq
    (.reg [8] [
      ⟨none, (some 9), .mov (.t 0), []⟩,
      ⟨none, (some 10), .nil (.t 9), []⟩,
      ⟨none, (some 11), .fldP 24 (.t 10), []⟩,
      ⟨none, (some 12), .ld 1 false (.t 11), []⟩,
      ⟨none, (some 13), .conv .i64 (.t 12), []⟩,
      ⟨none, (some 14), .mov (.t 1), []⟩,
      ⟨none, (some 15), .mov (.t 0), []⟩,
      ⟨none, (some 16), .nil (.t 15), []⟩,
      ⟨none, (some 17), .fldP 26 (.t 16), []⟩,
      ⟨none, (some 18), .ld 1 false (.t 17), []⟩,
      ⟨none, (some 19), .conv .i64 (.t 18), []⟩,
      ⟨none, (some 20), .call true 564 [.t 14, .t 19], []⟩,
      ⟨none, (some 21), .bin .sub (.t 13) (.t 20), []⟩,
      ⟨none, (some 8), .mov (.t 21), []⟩])
    (.seq
     (.reg [6, 7] [
       ⟨none, (some 22), .mov (.t 8), []⟩,
       ⟨none, (some 23), .mov (.t 0), []⟩,
       ⟨none, (some 24), .nil (.t 23), []⟩,
       ⟨none, (some 25), .fldP 25 (.t 24), []⟩,
       ⟨none, (some 26), .ld 1 false (.t 25), []⟩,
       ⟨none, (some 27), .conv .i64 (.t 26), []⟩,
       ⟨none, (some 28), .mov (.t 2), []⟩,
       ⟨none, (some 29), .mov (.t 0), []⟩,
       ⟨none, (some 30), .nil (.t 29), []⟩,
       ⟨none, (some 31), .fldP 26 (.t 30), []⟩,
       ⟨none, (some 32), .ld 1 false (.t 31), []⟩,
       ⟨none, (some 33), .conv .i64 (.t 32), []⟩,
       ⟨none, (some 34), .call true 564 [.t 28, .t 33], []⟩,
       ⟨none, (some 35), .bin .sub (.t 27) (.t 34), []⟩,
       ⟨none, (some 6), .mov (.t 22), []⟩,
       ⟨none, (some 7), .mov (.t 35), []⟩])
     .ret)))
def c499 : Fn := { np := 3, nt := 36, kind := .pure, res := [.t 6, .t 7], body := k499 }

/- spec.l05Over -/
def k500 : Cd :=
  (.seq
   (.reg [4] [
     ⟨none, (some 4), .zero true (zs 24 (.int .u16 0)), []⟩])
   (.seq
    (.reg [5] [
      ⟨none, (some 6), .mov (.t 1), []⟩,
      ⟨none, (some 7), .nil (.t 6), []⟩,
      ⟨none, (some 8), .fldP 0 (.t 7), []⟩,
      ⟨none, (some 9), .mov (.t 0), []⟩,
      ⟨none, (some 10), .nil (.t 9), []⟩,
      ⟨none, (some 11), .fldP 12 (.t 10), []⟩,
      ⟨none, (some 5), .new 1 (zs 12 (.int .u16 0)), []⟩,
      ⟨none, (some 12), .call true 349 [.t 8, .t 11], []⟩,
      ⟨none, none, .st 12 (.t 5) (.t 12), []⟩])
    (.seq
     (.reg [4] [
       ⟨none, (some 13), .mov (.t 0), []⟩,
       ⟨none, (some 14), .nil (.t 13), []⟩,
       ⟨none, (some 15), .fldP 0 (.t 14), []⟩,
       ⟨none, (some 17), .mov (.t 0), []⟩,
       ⟨none, (some 18), .nil (.t 17), []⟩,
       ⟨none, (some 19), .fldP 12 (.t 18), []⟩,
       ⟨none, (some 20), .mov (.t 1), []⟩,
       ⟨none, (some 21), .nil (.t 20), []⟩,
       ⟨none, (some 22), .fldP 12 (.t 21), []⟩,
       ⟨none, (some 16), .call true 337 [.t 15, .t 5], []⟩,
       ⟨none, (some 23), .call true 337 [.t 19, .t 22], []⟩,
       ⟨none, (some 24), .agg (zs 24 (.int .u16 0)) [(0, 12, (.t 16)), (12, 12, (.t 23))], []⟩,
       ⟨none, (some 4), .stV 4 none 24 (.t 24), []⟩])
     .ret)))
def c500 : Fn := { np := 2, nt := 25, kind := .pure, res := [.v 4 24 true], body := k500 }

/- impl.eighths -/
def k501 : Cd :=
  (.seq
   (.reg [4] [
     ⟨none, (some 4), .mov (.c (.int .i64 0)), []⟩])
   (.seq
    (.reg [4] [
      ⟨none, (some 5), .mov (.t 0), []⟩,
      ⟨none, (some 6), .mov (.t 1), []⟩,
      ⟨none, (some 7), .bin .mul (.t 5) (.t 6), []⟩,
      ⟨none, (some 8), .bin .shr (.t 7) (.c (.int .u64 3)), []⟩,
      ⟨none, (some 4), .mov (.t 8), []⟩])
    .ret))
def c501 : Fn := { np := 2, nt := 9, kind := .pure, res := [.t 4], body := k501 }

/- (impl.Frame).join$1 -/
def k502 : Cd :=
  (.seq
   (.reg [4] [
     ⟨none, (some 4), .mov (.c (.int .u16 0)), []⟩])
   (.seq
    (.reg [4] [
      ⟨none, (some 5), .mov (.t 0), []⟩,
      ⟨none, (some 6), .mov (.t 1), []⟩,
      ⟨none, (some 7), .bin .or (.t 5) (.t 6), []⟩,
      ⟨none, (some 4), .mov (.t 7), []⟩])
    .ret))
def c502 : Fn := { np := 2, nt := 8, kind := .pure, res := [.t 4], body := k502 }

/- (impl.Frame).less$1 -/
def k504 : Cd :=
  (.seq
   (.reg [4] [
     ⟨none, (some 4), .mov (.c (.int .u16 0)), []⟩])
   (.seq
    (.reg [4] [
      ⟨none, (some 5), .mov (.t 0), []⟩,
      ⟨none, (some 6), .mov (.t 1), []⟩,
      ⟨none, (some 7), .bin .andNot (.t 5) (.t 6), []⟩,
      ⟨none, (some 4), .mov (.t 7), []⟩])
    .ret))
def c504 : Fn := { np := 2, nt := 8, kind := .pure, res := [.t 4], body := k504 }

/- slices.ContainsFunc[[]impl.Frame,impl.Frame] -/
def k505 : Cd :=
  (.seq
   (.reg [4] [
     ⟨none, (some 4), .mov (.c (.bool false)), []⟩])
   (.seq
    (.reg [4] [
      ⟨none, (some 5), .mov (.t 0), []⟩,
      ⟨none, (some 6), .mov (.t 1), []⟩,
      ⟨none, (some 7), .call true 474 [.t 5, .t 6], []⟩,
      ⟨none, (some 8), .bin .geq (.t 7) (.c (.int .i64 0)), []⟩,
      ⟨none, (some 4), .mov (.t 8), []⟩])
    .ret))
def c505 : Fn := { np := 2, nt := 9, kind := .pure, res := [.t 4], body := k505 }

/- impl.areFrames$1 -/
def k506 : Cd :=
  (.seq
   (.reg [1, 2] [
     ⟨none, (some 1), .mov (.t 0), []⟩,
     ⟨none, (some 2), .mov (.c (.bool false)), []⟩])
   (.seq
    (.reg [2] [
      ⟨none, (some 3), .ldV 1 none 12 true, []⟩,
      ⟨none, (some 4), .call true 234 [.t 3], []⟩,
      ⟨none, (some 5), .un .not (.t 4), []⟩,
      ⟨none, (some 2), .mov (.t 5), []⟩])
    .ret))
def c506 : Fn := { np := 1, nt := 6, kind := .pure, res := [.t 2], body := k506 }

/- laws.toCel -/
def k533 : Cd :=
  (.seq
   (.reg [1, 2] [
     ⟨none, (some 1), .mov (.t 0), []⟩,
     ⟨none, (some 2), .zero true (zs 24 (.int .u16 0)), []⟩])
   (.seq
    (.reg [3] [
      ⟨none, (some 3), .zero true (zs 24 (.int .u16 0)), []⟩])
    (.seq
     (.reg [3] [
       ⟨none, (some 4), .adrF 1 none 0, []⟩,
       ⟨none, (some 5), .ldV 1 (some 4) 12 true, []⟩,
       ⟨none, (some 6), .call true 134 [.t 5], []⟩,
       ⟨none, (some 7), .adrF 3 none 0, []⟩,
       ⟨none, (some 3), .stV 3 (some 7) 12 (.t 6), []⟩])
     (.seq
      (.reg [3] [
        ⟨none, (some 8), .adrF 1 none 12, []⟩,
        ⟨none, (some 9), .ldV 1 (some 8) 12 true, []⟩,
        ⟨none, (some 10), .call true 134 [.t 9], []⟩,
        ⟨none, (some 11), .adrF 3 none 12, []⟩,
        ⟨none, (some 3), .stV 3 (some 11) 12 (.t 10), []⟩])
      (.seq
       (.reg [2] [
         ⟨none, (some 12), .ldV 3 none 24 true, []⟩,
         ⟨none, (some 2), .stV 2 none 24 (.t 12), []⟩])
       .ret)))))
def c533 : Fn := { np := 1, nt := 13, kind := .pure, res := [.v 2 24 true], body := k533 }

/- laws.fillerCel -/
def k534 : Cd :=
  (.seq
   (.reg [0] [
     ⟨none, (some 0), .zero true (zs 24 (.int .u16 0)), []⟩])
   (.seq
    (.reg [0] [
      ⟨none, (some 1), .agg (zs 12 (.int .u16 0)) [(0, 1, (.c (.int .u16 60201)))], []⟩,
      ⟨none, (some 2), .agg (zs 12 (.int .u16 0)) [(0, 1, (.c (.int .u16 60201)))], []⟩,
      ⟨none, (some 3), .agg (zs 24 (.int .u16 0)) [(0, 12, (.t 1)), (12, 12, (.t 2))], []⟩,
      ⟨none, (some 0), .stV 0 none 24 (.t 3), []⟩])
    .ret))
def c534 : Fn := { np := 0, nt := 4, kind := .pure, res := [.v 0 24 true], body := k534 }

/- laws.eqCel -/
def k535 : Cd :=
  (.seq
   (.reg [2, 3, 4] [
     ⟨none, (some 2), .mov (.t 0), []⟩,
     ⟨none, (some 3), .mov (.t 1), []⟩,
     ⟨none, (some 4), .mov (.c (.bool false)), []⟩])
   (.seq
    (.seq
     (.reg [10] [
       ⟨none, (some 5), .adrF 2 none 0, []⟩,
       ⟨none, (some 6), .ldV 2 (some 5) 12 true, []⟩,
       ⟨none, (some 7), .adrF 3 none 0, []⟩,
       ⟨none, (some 8), .ldV 3 (some 7) 12 true, []⟩,
       ⟨none, (some 9), .call true 78 [.t 6, .t 8], []⟩,
       ⟨none, (some 10), .un .not (.t 9), []⟩])
     (.cond (.t 10)
      (.seq
       (.reg [4] [
         ⟨none, (some 4), .mov (.c (.bool false)), []⟩])
       .ret)
      .skip))
    (.seq
     (.seq
      (.reg [16] [
        ⟨none, (some 11), .adrF 2 none 12, []⟩,
        ⟨none, (some 12), .ldV 2 (some 11) 12 true, []⟩,
        ⟨none, (some 13), .adrF 3 none 12, []⟩,
        ⟨none, (some 14), .ldV 3 (some 13) 12 true, []⟩,
        ⟨none, (some 15), .call true 78 [.t 12, .t 14], []⟩,
        ⟨none, (some 16), .un .not (.t 15), []⟩])
      (.cond (.t 16)
       (.seq
        (.reg [4] [
          ⟨none, (some 4), .mov (.c (.bool false)), []⟩])
        .ret)
       .skip))
     (.seq
      (.reg [4] [
        ⟨none, (some 4), .mov (.c (.bool true)), []⟩])
      .ret))))
def c535 : Fn := { np := 2, nt := 17, kind := .pure, res := [.t 4], body := k535 }

/- slices.IndexFunc[[]uint16,uint16] -/
def b547_1 : Cd :=
  (.seq
   (.reg [9] [
     ⟨none, (some 9), .bin .lss (.t 8) (.t 7), []⟩])
   (.seq
    (.cond (.t 9)
     .skip
     (.exit 0))
    (.seq
     (.block 1
      (.seq
       (.reg [5] [
         ⟨none, (some 10), .mov (.t 8), []⟩,
         ⟨none, (some 5), .mov (.t 10), []⟩])
       (.seq
        (.reg [16] [
          ⟨none, (some 11), .mov (.t 1), []⟩,
          ⟨none, (some 12), .mov (.t 0), []⟩,
          ⟨none, (some 13), .mov (.t 5), []⟩,
          ⟨none, (some 14), .idxA 1 (.t 12) (.t 13), []⟩,
          ⟨none, (some 15), .ld 1 false (.t 14), []⟩,
          ⟨none, (some 16), .callv (.t 11) [.t 15], []⟩])
        (.cond (.t 16)
         (.seq
          (.reg [4] [
            ⟨none, (some 17), .mov (.t 5), []⟩,
            ⟨none, (some 4), .mov (.t 17), []⟩])
          .ret)
         .skip))))
     (.reg [8] [
       ⟨none, (some 18), .bin .add (.t 8) (.c (.int .i64 1)), []⟩,
       ⟨none, (some 8), .mov (.t 18), []⟩]))))
def k547 : Cd :=
  (.seq
   (.reg [4] [
     ⟨none, (some 4), .mov (.c (.int .i64 0)), []⟩])
   (.seq
    (.seq
     (.reg [7, 8] [
       ⟨none, (some 6), .mov (.t 0), []⟩,
       ⟨none, (some 7), .len (.t 6), []⟩,
       ⟨none, (some 8), .mov (.c (.int .i64 0)), []⟩])
     (.block 0
      (.loop b547_1)))
    (.seq
     (.reg [4] [
       ⟨none, (some 4), .mov (.c (.int .i64 (-1))), []⟩])
     .ret)))
def c547 : Fn := { np := 2, nt := 19, kind := .pure, res := [.t 4], body := k547 }

/- slices.IndexFunc[impl.Scene,impl.Layer] -/
def b555_1 : Cd :=
  (.seq
   (.reg [9] [
     ⟨none, (some 9), .bin .lss (.t 8) (.t 7), []⟩])
   (.seq
    (.cond (.t 9)
     .skip
     (.exit 0))
    (.seq
     (.block 1
      (.seq
       (.reg [5] [
         ⟨none, (some 10), .mov (.t 8), []⟩,
         ⟨none, (some 5), .mov (.t 10), []⟩])
       (.seq
        (.reg [16] [
          ⟨none, (some 11), .mov (.t 1), []⟩,
          ⟨none, (some 12), .mov (.t 0), []⟩,
          ⟨none, (some 13), .mov (.t 5), []⟩,
          ⟨none, (some 14), .idxA 27 (.t 12) (.t 13), []⟩,
          ⟨none, (some 15), .ld 27 true (.t 14), []⟩,
          ⟨none, (some 16), .callv (.t 11) [.t 15], []⟩])
        (.cond (.t 16)
         (.seq
          (.reg [4] [
            ⟨none, (some 17), .mov (.t 5), []⟩,
            ⟨none, (some 4), .mov (.t 17), []⟩])
          .ret)
         .skip))))
     (.reg [8] [
       ⟨none, (some 18), .bin .add (.t 8) (.c (.int .i64 1)), []⟩,
       ⟨none, (some 8), .mov (.t 18), []⟩]))))
def k555 : Cd :=
  (.seq
   (.reg [4] [
     ⟨none, (some 4), .mov (.c (.int .i64 0)), []⟩])
   (.seq
    (.seq
     (.reg [7, 8] [
       ⟨none, (some 6), .mov (.t 0), []⟩,
       ⟨none, (some 7), .len (.t 6), []⟩,
       ⟨none, (some 8), .mov (.c (.int .i64 0)), []⟩])
     (.block 0
      (.loop b555_1)))
    (.seq
     (.reg [4] [
       ⟨none, (some 4), .mov (.c (.int .i64 (-1))), []⟩])
     .ret)))
def c555 : Fn := { np := 2, nt := 19, kind := .pure, res := [.t 4], body := k555 }

/- spec.l05Layer -/
def k563 : Cd :=
  (.seq
   (.reg [2] [
     ⟨none, (some 2), .mov (.c (.bool false)), []⟩])
   (.seq
    (.reg [2] [
      ⟨none, (some 3), .mov (.t 0), []⟩,
      ⟨none, (some 4), .nil (.t 3), []⟩,
      ⟨none, (some 5), .fldP 0 (.t 4), []⟩,
      ⟨none, (some 6), .call true 467 [.t 5], []⟩,
      ⟨none, (some 7), .mov (.t 6), []⟩,
      ⟨(some (7, true)), (some 8), .mov (.t 0), []⟩,
      ⟨(some (7, true)), (some 9), .nil (.t 8), []⟩,
      ⟨(some (7, true)), (some 10), .fldP 24 (.t 9), []⟩,
      ⟨(some (7, true)), (some 11), .ld 1 false (.t 10), []⟩,
      ⟨(some (7, true)), (some 12), .conv .i64 (.t 11), []⟩,
      ⟨(some (7, true)), (some 13), .call true 304 [.t 12, .c (.int .i64 (-12)), .c (.int .i64 12)], []⟩,
      ⟨none, (some 14), .pick (.t 7) (.t 13) (.c (.bool false)), []⟩,
      ⟨none, (some 15), .mov (.t 14), []⟩,
      ⟨(some (15, true)), (some 16), .mov (.t 0), []⟩,
      ⟨(some (15, true)), (some 17), .nil (.t 16), []⟩,
      ⟨(some (15, true)), (some 18), .fldP 25 (.t 17), []⟩,
      ⟨(some (15, true)), (some 19), .ld 1 false (.t 18), []⟩,
      ⟨(some (15, true)), (some 20), .conv .i64 (.t 19), []⟩,
      ⟨(some (15, true)), (some 21), .call true 304 [.t 20, .c (.int .i64 (-12)), .c (.int .i64 12)], []⟩,
      ⟨none, (some 22), .pick (.t 15) (.t 21) (.c (.bool false)), []⟩,
      ⟨none, (some 23), .mov (.t 22), []⟩,
      ⟨(some (23, true)), (some 24), .mov (.t 0), []⟩,
      ⟨(some (23, true)), (some 25), .nil (.t 24), []⟩,
      ⟨(some (23, true)), (some 26), .fldP 26 (.t 25), []⟩,
      ⟨(some (23, true)), (some 27), .ld 1 false (.t 26), []⟩,
      ⟨(some (23, true)), (some 28), .conv .i64 (.t 27), []⟩,
      ⟨(some (23, true)), (some 29), .call true 304 [.t 28, .c (.int .i64 0), .c (.int .i64 8)], []⟩,
      ⟨none, (some 30), .pick (.t 23) (.t 29) (.c (.bool false)), []⟩,
      ⟨none, (some 2), .mov (.t 30), []⟩])
    .ret))
def c563 : Fn := { np := 1, nt := 31, kind := .pure, res := [.t 2], body := k563 }

/- spec.l05Eighths -/
def k564 : Cd :=
  (.seq
   (.reg [4] [
     ⟨none, (some 4), .mov (.c (.int .i64 0)), []⟩])
   (.seq
    (.reg [5] [
      ⟨none, (some 6), .mov (.t 0), []⟩,
      ⟨none, (some 7), .mov (.t 1), []⟩,
      ⟨none, (some 8), .bin .mul (.t 6) (.t 7), []⟩,
      ⟨none, (some 9), .bin .quo (.t 8) (.c (.int .i64 8)), []⟩,
      ⟨none, (some 5), .mov (.t 9), []⟩])
    (.seq
     (.seq
      (.reg [20] [
        ⟨none, (some 10), .mov (.t 0), []⟩,
        ⟨none, (some 11), .mov (.t 1), []⟩,
        ⟨none, (some 12), .bin .mul (.t 10) (.t 11), []⟩,
        ⟨none, (some 13), .bin .lss (.t 12) (.c (.int .i64 0)), []⟩,
        ⟨none, (some 14), .mov (.t 13), []⟩,
        ⟨(some (14, true)), (some 15), .mov (.t 0), []⟩,
        ⟨(some (14, true)), (some 16), .mov (.t 1), []⟩,
        ⟨(some (14, true)), (some 17), .bin .mul (.t 15) (.t 16), []⟩,
        ⟨(some (14, true)), (some 18), .bin .rem (.t 17) (.c (.int .i64 8)), []⟩,
        ⟨(some (14, true)), (some 19), .bin .neq (.t 18) (.c (.int .i64 0)), []⟩,
        ⟨none, (some 20), .pick (.t 14) (.t 19) (.c (.bool false)), []⟩])
      (.cond (.t 20)
       (.reg [5] [
         ⟨none, (some 21), .mov (.t 5), []⟩,
         ⟨none, (some 22), .bin .sub (.t 21) (.c (.int .i64 1)), []⟩,
         ⟨none, (some 5), .mov (.t 22), []⟩])
       .skip))
     (.seq
      (.reg [4] [
        ⟨none, (some 23), .mov (.t 5), []⟩,
        ⟨none, (some 4), .mov (.t 23), []⟩])
      .ret))))
def c564 : Fn := { np := 2, nt := 24, kind := .pure, res := [.t 4], body := k564 }


end Fb
