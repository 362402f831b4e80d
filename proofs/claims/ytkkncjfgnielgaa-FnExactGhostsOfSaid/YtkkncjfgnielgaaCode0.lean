/- The functions of the law, in the small language. -/
import Derived.Test.YtkkncjfgnielgaaDen
set_option linter.unusedVariables false
set_option linter.unusedSimpArgs false
namespace Fb
open Go

/- laws.FnExactGhostsOf -/
def k16 : Cd :=
  (.seq
   (.reg [2] [
     ⟨none, (some 2), .mov (.c (.bool false)), []⟩])
   (.seq
    (.reg [3] [
      ⟨none, (some 3), .mov (.c (.int .i64 1000000)), []⟩])
    (.seq
     (.reg [3] [
       ⟨none, (some 14), .mov (.t 0), []⟩,
       ⟨none, (some 15), .mov (.t 3), []⟩,
       ⟨none, (some 16), .call true 103 [.t 14, .t 15], []⟩,
       ⟨none, (some 3), .mov (.t 16), []⟩])
     (.seq
      (.seq
       (.reg [18] [
         ⟨none, (some 17), .mov (.t 3), []⟩,
         ⟨none, (some 18), .bin .lss (.t 17) (.c (.int .i64 0)), []⟩])
       (.cond (.t 18)
        (.seq
         (.reg [2] [
           ⟨none, (some 2), .mov (.c (.bool true)), []⟩])
         .ret)
        .skip))
      (.seq
       (.reg [4, 5] [
         ⟨none, (some 20), .mov (.t 0), []⟩,
         ⟨none, (some 21), .call true 105 [.t 20, .c (.bool false)], []⟩,
         ⟨none, (some 22), .call true 119 [.t 21], []⟩,
         ⟨none, (some 19), .mov (.t 22), []⟩,
         ⟨none, (some 23), .ext (.t 19) 0, []⟩,
         ⟨none, (some 24), .ext (.t 19) 1, []⟩,
         ⟨none, (some 4), .mov (.t 23), []⟩,
         ⟨none, (some 5), .mov (.t 24), []⟩])
       (.seq
        (.reg [6] [
          ⟨none, (some 25), .mov (.t 0), []⟩,
          ⟨none, (some 26), .call true 105 [.t 25, .c (.bool false)], []⟩,
          ⟨none, (some 6), .mov (.t 26), []⟩])
        (.seq
         (.reg [7, 8] [
           ⟨none, (some 28), .mov (.t 6), []⟩,
           ⟨none, (some 29), .call true 120 [.t 28], []⟩,
           ⟨none, (some 27), .mov (.t 29), []⟩,
           ⟨none, (some 30), .ext (.t 27) 0, []⟩,
           ⟨none, (some 31), .ext (.t 27) 1, []⟩,
           ⟨none, (some 7), .mov (.t 30), []⟩,
           ⟨none, (some 8), .mov (.t 31), []⟩])
         (.seq
          (.seq
           (.reg [40] [
             ⟨none, (some 32), .mov (.t 7), []⟩,
             ⟨none, (some 33), .mov (.t 4), []⟩,
             ⟨none, (some 34), .call true 121 [.t 32, .t 33], []⟩,
             ⟨none, (some 35), .un .not (.t 34), []⟩,
             ⟨none, (some 36), .mov (.t 35), []⟩,
             ⟨(some (36, false)), (some 37), .mov (.t 8), []⟩,
             ⟨(some (36, false)), (some 38), .mov (.t 5), []⟩,
             ⟨(some (36, false)), (some 39), .bin .neq (.t 37) (.t 38), []⟩,
             ⟨none, (some 40), .pick (.t 36) (.c (.bool true)) (.t 39), []⟩])
           (.cond (.t 40)
            (.seq
             (.reg [2] [
               ⟨none, (some 2), .mov (.c (.bool false)), []⟩])
             .ret)
            .skip))
          (.seq
           (.seq
            (.reg [45] [
              ⟨none, (some 41), .mov (.t 6), []⟩,
              ⟨none, (some 42), .mov (.t 0), []⟩,
              ⟨none, (some 43), .call true 105 [.t 42, .c (.bool false)], []⟩,
              ⟨none, (some 44), .call true 107 [.t 41, .t 43], []⟩,
              ⟨none, (some 45), .un .not (.t 44), []⟩])
            (.cond (.t 45)
             (.seq
              (.reg [2] [
                ⟨none, (some 2), .mov (.c (.bool false)), []⟩])
              .ret)
             .skip))
           (.seq
            (.reg [9] [
              ⟨none, (some 9), .mov (.c (.int .i64 101)), []⟩])
            (.seq
             (.reg [9] [
               ⟨none, (some 46), .mov (.t 6), []⟩,
               ⟨none, (some 47), .mov (.t 9), []⟩,
               ⟨none, (some 48), .call false 122 [.t 46, .t 47], []⟩,
               ⟨none, (some 9), .mov (.t 48), []⟩])
             (.seq
              (.seq
               (.reg [61] [
                 ⟨none, (some 49), .mov (.t 9), []⟩,
                 ⟨none, (some 50), .bin .lss (.t 49) (.c (.int .i64 0)), []⟩,
                 ⟨none, (some 51), .mov (.t 50), []⟩,
                 ⟨(some (51, false)), (some 52), .mov (.t 7), []⟩,
                 ⟨(some (51, false)), (some 53), .mov (.t 4), []⟩,
                 ⟨(some (51, false)), (some 54), .call true 121 [.t 52, .t 53], []⟩,
                 ⟨(some (51, false)), (some 55), .un .not (.t 54), []⟩,
                 ⟨none, (some 56), .pick (.t 51) (.c (.bool true)) (.t 55), []⟩,
                 ⟨none, (some 57), .mov (.t 56), []⟩,
                 ⟨(some (57, false)), (some 58), .mov (.t 8), []⟩,
                 ⟨(some (57, false)), (some 59), .mov (.t 5), []⟩,
                 ⟨(some (57, false)), (some 60), .bin .neq (.t 58) (.t 59), []⟩,
                 ⟨none, (some 61), .pick (.t 57) (.c (.bool true)) (.t 60), []⟩])
               (.cond (.t 61)
                (.seq
                 (.reg [2] [
                   ⟨none, (some 2), .mov (.c (.bool false)), []⟩])
                 .ret)
                .skip))
              (.seq
               (.reg [10] [
                 ⟨none, (some 10), .mov (.c (.int .i64 101)), []⟩])
               (.seq
                (.reg [10] [
                  ⟨none, (some 62), .mov (.t 7), []⟩,
                  ⟨none, (some 63), .mov (.t 10), []⟩,
                  ⟨none, (some 64), .call false 122 [.t 62, .t 63], []⟩,
                  ⟨none, (some 10), .mov (.t 64), []⟩])
                (.seq
                 (.reg [11] [
                   ⟨none, (some 11), .mov (.c (.int .i64 101)), []⟩])
                 (.seq
                  (.reg [11] [
                    ⟨none, (some 65), .mov (.t 7), []⟩,
                    ⟨none, (some 66), .mov (.t 11), []⟩,
                    ⟨none, (some 67), .call true 123 [.t 65, .t 66], []⟩,
                    ⟨none, (some 11), .mov (.t 67), []⟩])
                  (.seq
                   (.seq
                    (.reg [69] [
                      ⟨none, (some 68), .mov (.t 11), []⟩,
                      ⟨none, (some 69), .bin .lss (.t 68) (.c (.int .i64 0)), []⟩])
                    (.cond (.t 69)
                     (.seq
                      (.reg [2] [
                        ⟨none, (some 2), .mov (.c (.bool false)), []⟩])
                      .ret)
                     .skip))
                   (.seq
                    (.seq
                     (.reg [72] [
                       ⟨none, (some 70), .mov (.t 11), []⟩,
                       ⟨none, (some 71), .mov (.t 10), []⟩,
                       ⟨none, (some 72), .bin .neq (.t 70) (.t 71), []⟩])
                     (.cond (.t 72)
                      (.seq
                       (.reg [2] [
                         ⟨none, (some 2), .mov (.c (.bool false)), []⟩])
                       .ret)
                      .skip))
                    (.seq
                     (.reg [12, 13] [
                       ⟨none, (some 74), .mov (.t 0), []⟩,
                       ⟨none, (some 75), .call true 105 [.t 74, .c (.bool true)], []⟩,
                       ⟨none, (some 76), .call true 120 [.t 75], []⟩,
                       ⟨none, (some 73), .mov (.t 76), []⟩,
                       ⟨none, (some 77), .ext (.t 73) 0, []⟩,
                       ⟨none, (some 78), .ext (.t 73) 1, []⟩,
                       ⟨none, (some 12), .mov (.t 77), []⟩,
                       ⟨none, (some 13), .mov (.t 78), []⟩])
                     (.seq
                      (.seq
                       (.reg [87] [
                         ⟨none, (some 79), .mov (.t 12), []⟩,
                         ⟨none, (some 80), .mov (.t 4), []⟩,
                         ⟨none, (some 81), .call true 121 [.t 79, .t 80], []⟩,
                         ⟨none, (some 82), .un .not (.t 81), []⟩,
                         ⟨none, (some 83), .mov (.t 82), []⟩,
                         ⟨(some (83, false)), (some 84), .mov (.t 13), []⟩,
                         ⟨(some (83, false)), (some 85), .mov (.t 5), []⟩,
                         ⟨(some (83, false)), (some 86), .bin .neq (.t 84) (.t 85), []⟩,
                         ⟨none, (some 87), .pick (.t 83) (.c (.bool true)) (.t 86), []⟩])
                       (.cond (.t 87)
                        (.seq
                         (.reg [2] [
                           ⟨none, (some 2), .mov (.c (.bool false)), []⟩])
                         .ret)
                        .skip))
                      (.seq
                       (.reg [11] [
                         ⟨none, (some 11), .mov (.c (.int .i64 101)), []⟩])
                       (.seq
                        (.reg [11] [
                          ⟨none, (some 88), .mov (.t 7), []⟩,
                          ⟨none, (some 89), .mov (.t 11), []⟩,
                          ⟨none, (some 90), .call true 123 [.t 88, .t 89], []⟩,
                          ⟨none, (some 11), .mov (.t 90), []⟩])
                        (.seq
                         (.seq
                          (.reg [92] [
                            ⟨none, (some 91), .mov (.t 11), []⟩,
                            ⟨none, (some 92), .bin .lss (.t 91) (.c (.int .i64 0)), []⟩])
                          (.cond (.t 92)
                           (.seq
                            (.reg [2] [
                              ⟨none, (some 2), .mov (.c (.bool false)), []⟩])
                            .ret)
                           .skip))
                         (.seq
                          (.seq
                           (.reg [95] [
                             ⟨none, (some 93), .mov (.t 11), []⟩,
                             ⟨none, (some 94), .mov (.t 10), []⟩,
                             ⟨none, (some 95), .bin .neq (.t 93) (.t 94), []⟩])
                           (.cond (.t 95)
                            (.seq
                             (.reg [2] [
                               ⟨none, (some 2), .mov (.c (.bool false)), []⟩])
                             .ret)
                            .skip))
                          (.seq
                           (.reg [2] [
                             ⟨none, (some 2), .mov (.c (.bool true)), []⟩])
                           .ret)))))))))))))))))))))))))
def c16 : Fn := { np := 1, nt := 96, kind := .pure, res := [.t 2], body := k16 }

/- laws.eqFrame -/
def b78_1 : Cd :=
  (.seq
   (.seq
    (.reg [7] [
      ⟨none, (some 6), .mov (.t 5), []⟩,
      ⟨none, (some 7), .bin .lss (.t 6) (.c (.int .i64 12)), []⟩])
    (.cond (.t 7)
     .skip
     (.exit 0)))
   (.seq
    (.block 1
     (.seq
      (.reg [16] [
        ⟨none, (some 10), .mov (.t 5), []⟩,
        ⟨none, (some 11), .adrI 2 none 12 1 (.t 10), []⟩,
        ⟨none, (some 12), .ldV 2 (some 11) 1 false, []⟩,
        ⟨none, (some 13), .mov (.t 5), []⟩,
        ⟨none, (some 14), .adrI 3 none 12 1 (.t 13), []⟩,
        ⟨none, (some 15), .ldV 3 (some 14) 1 false, []⟩,
        ⟨none, (some 16), .bin .neq (.t 12) (.t 15), []⟩])
      (.cond (.t 16)
       (.seq
        (.reg [4] [
          ⟨none, (some 4), .mov (.c (.bool false)), []⟩])
        .ret)
       .skip)))
    (.reg [5] [
      ⟨none, (some 8), .mov (.t 5), []⟩,
      ⟨none, (some 9), .bin .add (.t 8) (.c (.int .i64 1)), []⟩,
      ⟨none, (some 5), .mov (.t 9), []⟩])))
def k78 : Cd :=
  (.seq
   (.reg [2, 3, 4] [
     ⟨none, (some 2), .mov (.t 0), []⟩,
     ⟨none, (some 3), .mov (.t 1), []⟩,
     ⟨none, (some 4), .mov (.c (.bool false)), []⟩])
   (.seq
    (.seq
     (.reg [5] [
       ⟨none, (some 5), .mov (.c (.int .i64 0)), []⟩])
     (.block 0
      (.loop b78_1)))
    (.seq
     (.reg [4] [
       ⟨none, (some 4), .mov (.c (.bool true)), []⟩])
     .ret)))
def c78 : Fn := { np := 2, nt := 17, kind := .pure, res := [.t 4], body := k78 }

/- laws.szBook -/
def k103 : Cd :=
  (.seq
   (.reg [4] [
     ⟨none, (some 4), .mov (.c (.int .i64 0)), []⟩])
   (.seq
    (.reg [1] [
      ⟨none, (some 5), .mov (.t 1), []⟩,
      ⟨none, (some 6), .mov (.t 0), []⟩,
      ⟨none, (some 7), .len (.t 6), []⟩,
      ⟨none, (some 8), .bin .sub (.t 5) (.t 7), []⟩,
      ⟨none, (some 1), .mov (.t 8), []⟩])
    (.seq
     (.seq
      (.reg [10] [
        ⟨none, (some 9), .mov (.t 1), []⟩,
        ⟨none, (some 10), .bin .lss (.t 9) (.c (.int .i64 0)), []⟩])
      (.cond (.t 10)
       (.seq
        (.reg [4] [
          ⟨none, (some 4), .mov (.c (.int .i64 (-1))), []⟩])
        .ret)
       .skip))
     (.seq
      (.reg [4] [
        ⟨none, (some 11), .mov (.t 1), []⟩,
        ⟨none, (some 4), .mov (.t 11), []⟩])
      .ret))))
def c103 : Fn := { np := 2, nt := 12, kind := .pure, res := [.t 4], body := k103 }

/- laws.toBook -/
def b105_1 : Cd :=
  (.seq
   (.seq
    (.reg [24] [
      ⟨none, (some 21), .mov (.t 6), []⟩,
      ⟨none, (some 22), .mov (.t 0), []⟩,
      ⟨none, (some 23), .len (.t 22), []⟩,
      ⟨none, (some 24), .bin .lss (.t 21) (.t 23), []⟩])
    (.cond (.t 24)
     .skip
     (.exit 0)))
   (.seq
    (.block 1
     (.reg [] [
       ⟨none, (some 27), .mov (.t 5), []⟩,
       ⟨none, (some 28), .mov (.t 6), []⟩,
       ⟨none, (some 29), .mov (.t 0), []⟩,
       ⟨none, (some 30), .mov (.t 6), []⟩,
       ⟨none, (some 31), .idxA 12 (.t 29) (.t 30), []⟩,
       ⟨none, (some 32), .ld 12 true (.t 31), []⟩,
       ⟨none, (some 33), .call true 134 [.t 32], []⟩,
       ⟨none, (some 34), .idxA 12 (.t 27) (.t 28), []⟩,
       ⟨none, none, .st 12 (.t 34) (.t 33), []⟩]))
    (.reg [6] [
      ⟨none, (some 25), .mov (.t 6), []⟩,
      ⟨none, (some 26), .bin .add (.t 25) (.c (.int .i64 1)), []⟩,
      ⟨none, (some 6), .mov (.t 26), []⟩])))
def b105_2 : Cd :=
  (.seq
   (.seq
    (.reg [40] [
      ⟨none, (some 37), .mov (.t 7), []⟩,
      ⟨none, (some 38), .mov (.t 5), []⟩,
      ⟨none, (some 39), .len (.t 38), []⟩,
      ⟨none, (some 40), .bin .lss (.t 37) (.t 39), []⟩])
    (.cond (.t 40)
     .skip
     (.exit 2)))
   (.seq
    (.block 3
     (.reg [] [
       ⟨none, (some 43), .mov (.t 5), []⟩,
       ⟨none, (some 44), .mov (.t 7), []⟩,
       ⟨none, (some 45), .agg (zs 12 (.int .u16 0)) [(0, 1, (.c (.int .u16 60201)))], []⟩,
       ⟨none, (some 46), .idxA 12 (.t 43) (.t 44), []⟩,
       ⟨none, none, .st 12 (.t 46) (.t 45), []⟩]))
    (.reg [7] [
      ⟨none, (some 41), .mov (.t 7), []⟩,
      ⟨none, (some 42), .bin .add (.t 41) (.c (.int .i64 1)), []⟩,
      ⟨none, (some 7), .mov (.t 42), []⟩])))
def k105 : Cd :=
  (.seq
   (.reg [4] [
     ⟨none, (some 4), .mov (.c (.slice none 0 0)), []⟩])
   (.seq
    (.seq
     (.reg [13] [
       ⟨none, (some 8), .mov (.t 1), []⟩,
       ⟨none, (some 9), .mov (.t 8), []⟩,
       ⟨(some (9, true)), (some 10), .mov (.t 0), []⟩,
       ⟨(some (9, true)), (some 11), .len (.t 10), []⟩,
       ⟨(some (9, true)), (some 12), .bin .eql (.t 11) (.c (.int .i64 0)), []⟩,
       ⟨none, (some 13), .pick (.t 9) (.t 12) (.c (.bool false)), []⟩])
     (.cond (.t 13)
      (.seq
       (.reg [4] [
         ⟨none, (some 4), .mov (.c (.slice none 0 0)), []⟩])
       .ret)
      .skip))
    (.seq
     (.reg [5] [
       ⟨none, (some 14), .mov (.t 0), []⟩,
       ⟨none, (some 15), .len (.t 14), []⟩,
       ⟨none, (some 16), .mov (.t 0), []⟩,
       ⟨none, (some 17), .len (.t 16), []⟩,
       ⟨none, (some 18), .call true 296 [.t 17], []⟩,
       ⟨none, (some 19), .bin .add (.t 15) (.t 18), []⟩,
       ⟨none, (some 20), .mkS 12 24 (zs 12 (.int .u16 0)) (.t 19) (.t 19), []⟩,
       ⟨none, (some 5), .mov (.t 20), []⟩])
     (.seq
      (.seq
       (.reg [6] [
         ⟨none, (some 6), .mov (.c (.int .i64 0)), []⟩])
       (.block 0
        (.loop b105_1)))
      (.seq
       (.seq
        (.reg [7] [
          ⟨none, (some 35), .mov (.t 0), []⟩,
          ⟨none, (some 36), .len (.t 35), []⟩,
          ⟨none, (some 7), .mov (.t 36), []⟩])
        (.block 2
         (.loop b105_2)))
       (.seq
        (.reg [4] [
          ⟨none, (some 47), .mov (.t 5), []⟩,
          ⟨none, (some 48), .mov (.t 0), []⟩,
          ⟨none, (some 49), .len (.t 48), []⟩,
          ⟨none, (some 50), .slcA 12 (.t 47) none (some (.t 49)) none, []⟩,
          ⟨none, (some 4), .mov (.t 50), []⟩])
        .ret))))))
def c105 : Fn := { np := 2, nt := 51, kind := .pure, res := [.t 4], body := k105 }

/- laws.intactBook -/
def k107 : Cd :=
  (.seq
   (.reg [4] [
     ⟨none, (some 4), .mov (.c (.bool false)), []⟩])
   (.seq
    (.reg [5] [
      ⟨none, (some 6), .mov (.t 1), []⟩,
      ⟨none, (some 7), .len (.t 6), []⟩,
      ⟨none, (some 8), .mov (.t 1), []⟩,
      ⟨none, (some 9), .len (.t 8), []⟩,
      ⟨none, (some 10), .call true 296 [.t 9], []⟩,
      ⟨none, (some 11), .bin .add (.t 7) (.t 10), []⟩,
      ⟨none, (some 5), .mov (.t 11), []⟩])
    (.seq
     (.reg [4] [
       ⟨none, (some 12), .mov (.t 0), []⟩,
       ⟨none, (some 13), .len (.t 12), []⟩,
       ⟨none, (some 14), .mov (.t 1), []⟩,
       ⟨none, (some 15), .len (.t 14), []⟩,
       ⟨none, (some 16), .bin .eql (.t 13) (.t 15), []⟩,
       ⟨none, (some 17), .mov (.t 16), []⟩,
       ⟨(some (17, true)), (some 18), .mov (.t 0), []⟩,
       ⟨(some (17, true)), (some 19), .mov (.t 5), []⟩,
       ⟨(some (17, true)), (some 20), .slcA 12 (.t 18) none (some (.t 19)) none, []⟩,
       ⟨(some (17, true)), (some 21), .mov (.t 1), []⟩,
       ⟨(some (17, true)), (some 22), .mov (.t 5), []⟩,
       ⟨(some (17, true)), (some 23), .slcA 12 (.t 21) none (some (.t 22)) none, []⟩,
       ⟨(some (17, true)), (some 24), .call true 121 [.t 20, .t 23], []⟩,
       ⟨none, (some 25), .pick (.t 17) (.t 24) (.c (.bool false)), []⟩,
       ⟨none, (some 4), .mov (.t 25), []⟩])
     .ret)))
def c107 : Fn := { np := 2, nt := 26, kind := .pure, res := [.t 4], body := k107 }

/- spec.GhostsOf -/
def b119_1 : Cd :=
  (.seq
   (.seq
    (.reg [14] [
      ⟨none, (some 11), .mov (.t 5), []⟩,
      ⟨none, (some 12), .mov (.t 0), []⟩,
      ⟨none, (some 13), .len (.t 12), []⟩,
      ⟨none, (some 14), .bin .lss (.t 11) (.t 13), []⟩])
    (.cond (.t 14)
     .skip
     (.exit 0)))
   (.seq
    (.block 1
     (.reg [4] [
       ⟨none, (some 17), .mov (.t 4), []⟩,
       ⟨none, (some 18), .mov (.t 0), []⟩,
       ⟨none, (some 19), .mov (.t 5), []⟩,
       ⟨none, (some 20), .bin .sub (.t 19) (.c (.int .i64 1)), []⟩,
       ⟨none, (some 21), .idxA 12 (.t 18) (.t 20), []⟩,
       ⟨none, (some 22), .mov (.t 0), []⟩,
       ⟨none, (some 23), .mov (.t 5), []⟩,
       ⟨none, (some 24), .idxA 12 (.t 22) (.t 23), []⟩,
       ⟨none, (some 25), .call true 349 [.t 21, .t 24], []⟩,
       ⟨none, (some 26), .bldS 12 1 (zs 12 (.int .u16 0)) [(0, 12, (.t 25))], []⟩,
       ⟨none, (some 27), .app 12 24 (.t 17) (.t 26), []⟩,
       ⟨none, (some 4), .mov (.t 27), []⟩]))
    (.reg [5] [
      ⟨none, (some 15), .mov (.t 5), []⟩,
      ⟨none, (some 16), .bin .add (.t 15) (.c (.int .i64 1)), []⟩,
      ⟨none, (some 5), .mov (.t 16), []⟩])))
def k119 : Cd :=
  (.seq
   (.reg [2, 3] [
     ⟨none, (some 2), .mov (.c (.slice none 0 0)), []⟩,
     ⟨none, (some 3), .mov (.c (.int .i64 0)), []⟩])
   (.seq
    (.seq
     (.reg [8] [
       ⟨none, (some 6), .mov (.t 0), []⟩,
       ⟨none, (some 7), .call true 318 [.t 6], []⟩,
       ⟨none, (some 8), .un .not (.t 7), []⟩])
     (.cond (.t 8)
      (.seq
       (.reg [2, 3] [
         ⟨none, (some 9), .bldS 12 0 (zs 12 (.int .u16 0)) [], []⟩,
         ⟨none, (some 2), .mov (.t 9), []⟩,
         ⟨none, (some 3), .mov (.c (.int .i64 1)), []⟩])
       .ret)
      .skip))
    (.seq
     (.reg [4] [
       ⟨none, (some 10), .bldS 12 0 (zs 12 (.int .u16 0)) [], []⟩,
       ⟨none, (some 4), .mov (.t 10), []⟩])
     (.seq
      (.seq
       (.reg [5] [
         ⟨none, (some 5), .mov (.c (.int .i64 1)), []⟩])
       (.block 0
        (.loop b119_1)))
      (.seq
       (.reg [2, 3] [
         ⟨none, (some 28), .mov (.t 4), []⟩,
         ⟨none, (some 2), .mov (.t 28), []⟩,
         ⟨none, (some 3), .mov (.c (.int .i64 0)), []⟩])
       .ret)))))
def c119 : Fn := { np := 1, nt := 29, kind := .pure, res := [.t 2, .t 3], body := k119 }

/- impl.GhostsOf -/
def b120_1 : Cd :=
  (.seq
   (.seq
    (.reg [13] [
      ⟨none, (some 10), .mov (.t 5), []⟩,
      ⟨none, (some 11), .mov (.t 0), []⟩,
      ⟨none, (some 12), .len (.t 11), []⟩,
      ⟨none, (some 13), .bin .lss (.t 10) (.t 12), []⟩])
    (.cond (.t 13)
     .skip
     (.exit 0)))
   (.seq
    (.block 1
     (.reg [4] [
       ⟨none, (some 16), .mov (.t 4), []⟩,
       ⟨none, (some 17), .mov (.t 0), []⟩,
       ⟨none, (some 18), .mov (.t 5), []⟩,
       ⟨none, (some 19), .bin .sub (.t 18) (.c (.int .i64 1)), []⟩,
       ⟨none, (some 20), .idxA 12 (.t 17) (.t 19), []⟩,
       ⟨none, (some 21), .ld 12 true (.t 20), []⟩,
       ⟨none, (some 22), .mov (.t 0), []⟩,
       ⟨none, (some 23), .mov (.t 5), []⟩,
       ⟨none, (some 24), .idxA 12 (.t 22) (.t 23), []⟩,
       ⟨none, (some 25), .ld 12 true (.t 24), []⟩,
       ⟨none, (some 26), .call true 350 [.t 21, .t 25], []⟩,
       ⟨none, (some 27), .bldS 12 1 (zs 12 (.int .u16 0)) [(0, 12, (.t 26))], []⟩,
       ⟨none, (some 28), .app 12 24 (.t 16) (.t 27), []⟩,
       ⟨none, (some 4), .mov (.t 28), []⟩]))
    (.reg [5] [
      ⟨none, (some 14), .mov (.t 5), []⟩,
      ⟨none, (some 15), .bin .add (.t 14) (.c (.int .i64 1)), []⟩,
      ⟨none, (some 5), .mov (.t 15), []⟩])))
def k120 : Cd :=
  (.seq
   (.reg [2, 3] [
     ⟨none, (some 2), .mov (.c (.slice none 0 0)), []⟩,
     ⟨none, (some 3), .mov (.c (.int .i64 0)), []⟩])
   (.seq
    (.seq
     (.reg [8] [
       ⟨none, (some 6), .mov (.t 0), []⟩,
       ⟨none, (some 7), .call true 316 [.t 6], []⟩,
       ⟨none, (some 8), .un .not (.t 7), []⟩])
     (.cond (.t 8)
      (.seq
       (.reg [2, 3] [
         ⟨none, (some 2), .mov (.c (.slice none 0 0)), []⟩,
         ⟨none, (some 3), .mov (.c (.int .i64 1)), []⟩])
       .ret)
      .skip))
    (.seq
     (.reg [4] [
       ⟨none, (some 9), .bldS 12 0 (zs 12 (.int .u16 0)) [], []⟩,
       ⟨none, (some 4), .mov (.t 9), []⟩])
     (.seq
      (.seq
       (.reg [5] [
         ⟨none, (some 5), .mov (.c (.int .i64 1)), []⟩])
       (.block 0
        (.loop b120_1)))
      (.seq
       (.reg [2, 3] [
         ⟨none, (some 29), .mov (.t 4), []⟩,
         ⟨none, (some 2), .mov (.t 29), []⟩,
         ⟨none, (some 3), .mov (.c (.int .i64 0)), []⟩])
       .ret)))))
def c120 : Fn := { np := 1, nt := 30, kind := .pure, res := [.t 2, .t 3], body := k120 }

/- laws.eqBook -/
def b121_1 : Cd :=
  (.seq
   (.seq
    (.reg [14] [
      ⟨none, (some 11), .mov (.t 5), []⟩,
      ⟨none, (some 12), .mov (.t 0), []⟩,
      ⟨none, (some 13), .len (.t 12), []⟩,
      ⟨none, (some 14), .bin .lss (.t 11) (.t 13), []⟩])
    (.cond (.t 14)
     .skip
     (.exit 0)))
   (.seq
    (.block 1
     (.seq
      (.reg [26] [
        ⟨none, (some 17), .mov (.t 0), []⟩,
        ⟨none, (some 18), .mov (.t 5), []⟩,
        ⟨none, (some 19), .idxA 12 (.t 17) (.t 18), []⟩,
        ⟨none, (some 20), .ld 12 true (.t 19), []⟩,
        ⟨none, (some 21), .mov (.t 1), []⟩,
        ⟨none, (some 22), .mov (.t 5), []⟩,
        ⟨none, (some 23), .idxA 12 (.t 21) (.t 22), []⟩,
        ⟨none, (some 24), .ld 12 true (.t 23), []⟩,
        ⟨none, (some 25), .call true 78 [.t 20, .t 24], []⟩,
        ⟨none, (some 26), .un .not (.t 25), []⟩])
      (.cond (.t 26)
       (.seq
        (.reg [4] [
          ⟨none, (some 4), .mov (.c (.bool false)), []⟩])
        .ret)
       .skip)))
    (.reg [5] [
      ⟨none, (some 15), .mov (.t 5), []⟩,
      ⟨none, (some 16), .bin .add (.t 15) (.c (.int .i64 1)), []⟩,
      ⟨none, (some 5), .mov (.t 16), []⟩])))
def k121 : Cd :=
  (.seq
   (.reg [4] [
     ⟨none, (some 4), .mov (.c (.bool false)), []⟩])
   (.seq
    (.seq
     (.reg [10] [
       ⟨none, (some 6), .mov (.t 0), []⟩,
       ⟨none, (some 7), .len (.t 6), []⟩,
       ⟨none, (some 8), .mov (.t 1), []⟩,
       ⟨none, (some 9), .len (.t 8), []⟩,
       ⟨none, (some 10), .bin .neq (.t 7) (.t 9), []⟩])
     (.cond (.t 10)
      (.seq
       (.reg [4] [
         ⟨none, (some 4), .mov (.c (.bool false)), []⟩])
       .ret)
      .skip))
    (.seq
     (.seq
      (.reg [5] [
        ⟨none, (some 5), .mov (.c (.int .i64 0)), []⟩])
      (.block 0
       (.loop b121_1)))
     (.seq
      (.reg [4] [
        ⟨none, (some 4), .mov (.c (.bool true)), []⟩])
      .ret))))
def c121 : Fn := { np := 2, nt := 27, kind := .pure, res := [.t 4], body := k121 }

/- laws.markBook -/
def b122_1 : Cd :=
  (.seq
   (.seq
    (.reg [14] [
      ⟨none, (some 13), .mov (.t 6), []⟩,
      ⟨none, (some 14), .bin .lss (.t 13) (.c (.int .i64 12)), []⟩])
    (.cond (.t 14)
     .skip
     (.exit 2)))
   (.seq
    (.block 3
     (.seq
      (.reg [] [
        ⟨none, (some 17), .mov (.t 0), []⟩,
        ⟨none, (some 18), .mov (.t 5), []⟩,
        ⟨none, (some 19), .mov (.t 6), []⟩,
        ⟨none, (some 20), .mov (.t 1), []⟩,
        ⟨none, (some 21), .conv .u16 (.t 20), []⟩,
        ⟨none, (some 22), .idxA 12 (.t 17) (.t 18), []⟩,
        ⟨none, (some 23), .idxP 12 1 (.t 22) (.t 19), []⟩,
        ⟨none, none, .st 1 (.t 23) (.t 21), []⟩])
      (.reg [1] [
        ⟨none, (some 24), .mov (.t 1), []⟩,
        ⟨none, (some 25), .bin .add (.t 24) (.c (.int .i64 1)), []⟩,
        ⟨none, (some 1), .mov (.t 25), []⟩])))
    (.reg [6] [
      ⟨none, (some 15), .mov (.t 6), []⟩,
      ⟨none, (some 16), .bin .add (.t 15) (.c (.int .i64 1)), []⟩,
      ⟨none, (some 6), .mov (.t 16), []⟩])))
def b122_2 : Cd :=
  (.seq
   (.seq
    (.reg [10] [
      ⟨none, (some 7), .mov (.t 5), []⟩,
      ⟨none, (some 8), .mov (.t 0), []⟩,
      ⟨none, (some 9), .len (.t 8), []⟩,
      ⟨none, (some 10), .bin .lss (.t 7) (.t 9), []⟩])
    (.cond (.t 10)
     .skip
     (.exit 0)))
   (.seq
    (.block 1
     (.seq
      (.reg [6] [
        ⟨none, (some 6), .mov (.c (.int .i64 0)), []⟩])
      (.block 2
       (.loop b122_1))))
    (.reg [5] [
      ⟨none, (some 11), .mov (.t 5), []⟩,
      ⟨none, (some 12), .bin .add (.t 11) (.c (.int .i64 1)), []⟩,
      ⟨none, (some 5), .mov (.t 12), []⟩])))
def k122 : Cd :=
  (.seq
   (.reg [4] [
     ⟨none, (some 4), .mov (.c (.int .i64 0)), []⟩])
   (.seq
    (.seq
     (.reg [5] [
       ⟨none, (some 5), .mov (.c (.int .i64 0)), []⟩])
     (.block 0
      (.loop b122_2)))
    (.seq
     (.reg [4] [
       ⟨none, (some 26), .mov (.t 1), []⟩,
       ⟨none, (some 4), .mov (.t 26), []⟩])
     .ret)))
def c122 : Fn := { np := 2, nt := 27, kind := .args, res := [.t 4], body := k122 }

/- laws.heldBook -/
def b123_1 : Cd :=
  (.seq
   (.seq
    (.reg [14] [
      ⟨none, (some 13), .mov (.t 6), []⟩,
      ⟨none, (some 14), .bin .lss (.t 13) (.c (.int .i64 12)), []⟩])
    (.cond (.t 14)
     .skip
     (.exit 2)))
   (.seq
    (.block 3
     (.seq
      (.seq
       (.reg [25] [
         ⟨none, (some 17), .mov (.t 0), []⟩,
         ⟨none, (some 18), .mov (.t 5), []⟩,
         ⟨none, (some 19), .mov (.t 6), []⟩,
         ⟨none, (some 20), .idxA 12 (.t 17) (.t 18), []⟩,
         ⟨none, (some 21), .idxP 12 1 (.t 20) (.t 19), []⟩,
         ⟨none, (some 22), .ld 1 false (.t 21), []⟩,
         ⟨none, (some 23), .mov (.t 1), []⟩,
         ⟨none, (some 24), .conv .u16 (.t 23), []⟩,
         ⟨none, (some 25), .bin .neq (.t 22) (.t 24), []⟩])
       (.cond (.t 25)
        (.seq
         (.reg [4] [
           ⟨none, (some 4), .mov (.c (.int .i64 (-1))), []⟩])
         .ret)
        .skip))
      (.reg [1] [
        ⟨none, (some 26), .mov (.t 1), []⟩,
        ⟨none, (some 27), .bin .add (.t 26) (.c (.int .i64 1)), []⟩,
        ⟨none, (some 1), .mov (.t 27), []⟩])))
    (.reg [6] [
      ⟨none, (some 15), .mov (.t 6), []⟩,
      ⟨none, (some 16), .bin .add (.t 15) (.c (.int .i64 1)), []⟩,
      ⟨none, (some 6), .mov (.t 16), []⟩])))
def b123_2 : Cd :=
  (.seq
   (.seq
    (.reg [10] [
      ⟨none, (some 7), .mov (.t 5), []⟩,
      ⟨none, (some 8), .mov (.t 0), []⟩,
      ⟨none, (some 9), .len (.t 8), []⟩,
      ⟨none, (some 10), .bin .lss (.t 7) (.t 9), []⟩])
    (.cond (.t 10)
     .skip
     (.exit 0)))
   (.seq
    (.block 1
     (.seq
      (.reg [6] [
        ⟨none, (some 6), .mov (.c (.int .i64 0)), []⟩])
      (.block 2
       (.loop b123_1))))
    (.reg [5] [
      ⟨none, (some 11), .mov (.t 5), []⟩,
      ⟨none, (some 12), .bin .add (.t 11) (.c (.int .i64 1)), []⟩,
      ⟨none, (some 5), .mov (.t 12), []⟩])))
def k123 : Cd :=
  (.seq
   (.reg [4] [
     ⟨none, (some 4), .mov (.c (.int .i64 0)), []⟩])
   (.seq
    (.seq
     (.reg [5] [
       ⟨none, (some 5), .mov (.c (.int .i64 0)), []⟩])
     (.block 0
      (.loop b123_2)))
    (.seq
     (.reg [4] [
       ⟨none, (some 28), .mov (.t 1), []⟩,
       ⟨none, (some 4), .mov (.t 28), []⟩])
     .ret)))
def c123 : Fn := { np := 2, nt := 29, kind := .pure, res := [.t 4], body := k123 }

/- laws.toFrame -/
def b134_1 : Cd :=
  (.seq
   (.seq
    (.reg [6] [
      ⟨none, (some 5), .mov (.t 4), []⟩,
      ⟨none, (some 6), .bin .lss (.t 5) (.c (.int .i64 12)), []⟩])
    (.cond (.t 6)
     .skip
     (.exit 0)))
   (.seq
    (.block 1
     (.reg [3] [
       ⟨none, (some 9), .mov (.t 4), []⟩,
       ⟨none, (some 10), .mov (.t 4), []⟩,
       ⟨none, (some 11), .adrI 1 none 12 1 (.t 10), []⟩,
       ⟨none, (some 12), .ldV 1 (some 11) 1 false, []⟩,
       ⟨none, (some 13), .adrI 3 none 12 1 (.t 9), []⟩,
       ⟨none, (some 3), .stV 3 (some 13) 1 (.t 12), []⟩]))
    (.reg [4] [
      ⟨none, (some 7), .mov (.t 4), []⟩,
      ⟨none, (some 8), .bin .add (.t 7) (.c (.int .i64 1)), []⟩,
      ⟨none, (some 4), .mov (.t 8), []⟩])))
def k134 : Cd :=
  (.seq
   (.reg [1, 2] [
     ⟨none, (some 1), .mov (.t 0), []⟩,
     ⟨none, (some 2), .zero true (zs 12 (.int .u16 0)), []⟩])
   (.seq
    (.reg [3] [
      ⟨none, (some 3), .zero true (zs 12 (.int .u16 0)), []⟩])
    (.seq
     (.seq
      (.reg [4] [
        ⟨none, (some 4), .mov (.c (.int .i64 0)), []⟩])
      (.block 0
       (.loop b134_1)))
     (.seq
      (.reg [2] [
        ⟨none, (some 14), .ldV 3 none 12 true, []⟩,
        ⟨none, (some 2), .stV 2 none 12 (.t 14), []⟩])
      .ret))))
def c134 : Fn := { np := 1, nt := 15, kind := .pure, res := [.v 2 12 true], body := k134 }

/- impl.ValidFrame -/
def k234 : Cd :=
  (.seq
   (.reg [1, 2] [
     ⟨none, (some 1), .box 12 (.t 0), []⟩,
     ⟨none, (some 2), .mov (.c (.bool false)), []⟩])
   (.seq
    (.reg [2] [
      ⟨none, (some 3), .slcP 12 1 (.t 1), []⟩,
      ⟨none, (some 4), .call true 445 [.t 3, .f 446], []⟩,
      ⟨none, (some 5), .un .not (.t 4), []⟩,
      ⟨none, (some 2), .mov (.t 5), []⟩])
    .ret))
def c234 : Fn := { np := 1, nt := 6, kind := .pure, res := [.t 2], body := k234 }

/- laws.roomBehind -/
def k296 : Cd :=
  (.seq
   (.reg [2] [
     ⟨none, (some 2), .mov (.c (.int .i64 0)), []⟩])
   (.seq
    (.seq
     (.reg [5] [
       ⟨none, (some 3), .mov (.t 0), []⟩,
       ⟨none, (some 4), .bin .rem (.t 3) (.c (.int .i64 6)), []⟩,
       ⟨none, (some 5), .bin .eql (.t 4) (.c (.int .i64 5)), []⟩])
     (.cond (.t 5)
      (.seq
       (.reg [2] [
         ⟨none, (some 2), .mov (.c (.int .i64 0)), []⟩])
       .ret)
      .skip))
    (.seq
     (.seq
      (.reg [8] [
        ⟨none, (some 6), .mov (.t 0), []⟩,
        ⟨none, (some 7), .bin .rem (.t 6) (.c (.int .i64 3)), []⟩,
        ⟨none, (some 8), .bin .eql (.t 7) (.c (.int .i64 0)), []⟩])
      (.cond (.t 8)
       (.seq
        (.reg [2] [
          ⟨none, (some 2), .mov (.c (.int .i64 1)), []⟩])
        .ret)
       .skip))
     (.seq
      (.reg [2] [
        ⟨none, (some 9), .mov (.t 0), []⟩,
        ⟨none, (some 2), .mov (.t 9), []⟩])
      .ret))))
def c296 : Fn := { np := 1, nt := 10, kind := .pure, res := [.t 2], body := k296 }

/- impl.ValidBook -/
def k316 : Cd :=
  (.seq
   (.reg [2] [
     ⟨none, (some 2), .mov (.c (.bool false)), []⟩])
   (.seq
    (.reg [2] [
      ⟨none, (some 3), .mov (.t 0), []⟩,
      ⟨none, (some 4), .len (.t 3), []⟩,
      ⟨none, (some 5), .bin .leq (.t 4) (.c (.int .i64 40)), []⟩,
      ⟨none, (some 6), .mov (.t 5), []⟩,
      ⟨(some (6, true)), (some 7), .mov (.t 0), []⟩,
      ⟨(some (6, true)), (some 8), .call true 351 [.t 7], []⟩,
      ⟨none, (some 9), .pick (.t 6) (.t 8) (.c (.bool false)), []⟩,
      ⟨none, (some 2), .mov (.t 9), []⟩])
    .ret))
def c316 : Fn := { np := 1, nt := 10, kind := .pure, res := [.t 2], body := k316 }

/- spec.l02Ok -/
def b318_1 : Cd :=
  (.seq
   (.seq
    (.reg [7] [
      ⟨none, (some 4), .mov (.t 3), []⟩,
      ⟨none, (some 5), .mov (.t 0), []⟩,
      ⟨none, (some 6), .len (.t 5), []⟩,
      ⟨none, (some 7), .bin .lss (.t 4) (.t 6), []⟩])
    (.cond (.t 7)
     .skip
     (.exit 0)))
   (.seq
    (.block 1
     (.seq
      (.reg [14] [
        ⟨none, (some 10), .mov (.t 0), []⟩,
        ⟨none, (some 11), .mov (.t 3), []⟩,
        ⟨none, (some 12), .idxA 12 (.t 10) (.t 11), []⟩,
        ⟨none, (some 13), .call true 359 [.t 12], []⟩,
        ⟨none, (some 14), .un .not (.t 13), []⟩])
      (.cond (.t 14)
       (.seq
        (.reg [2] [
          ⟨none, (some 2), .mov (.c (.bool false)), []⟩])
        .ret)
       .skip)))
    (.reg [3] [
      ⟨none, (some 8), .mov (.t 3), []⟩,
      ⟨none, (some 9), .bin .add (.t 8) (.c (.int .i64 1)), []⟩,
      ⟨none, (some 3), .mov (.t 9), []⟩])))
def k318 : Cd :=
  (.seq
   (.reg [2] [
     ⟨none, (some 2), .mov (.c (.bool false)), []⟩])
   (.seq
    (.seq
     (.reg [3] [
       ⟨none, (some 3), .mov (.c (.int .i64 0)), []⟩])
     (.block 0
      (.loop b318_1)))
    (.seq
     (.reg [2] [
       ⟨none, (some 15), .mov (.t 0), []⟩,
       ⟨none, (some 16), .len (.t 15), []⟩,
       ⟨none, (some 17), .bin .leq (.t 16) (.c (.int .i64 40)), []⟩,
       ⟨none, (some 2), .mov (.t 17), []⟩])
     .ret)))
def c318 : Fn := { np := 1, nt := 18, kind := .pure, res := [.t 2], body := k318 }

/- spec.l01Less -/
def b349_1 : Cd :=
  (.seq
   (.seq
    (.reg [9] [
      ⟨none, (some 8), .mov (.t 6), []⟩,
      ⟨none, (some 9), .bin .lss (.t 8) (.c (.int .i64 12)), []⟩])
    (.cond (.t 9)
     .skip
     (.exit 0)))
   (.seq
    (.block 1
     (.reg [5] [
       ⟨none, (some 12), .mov (.t 6), []⟩,
       ⟨none, (some 13), .mov (.t 0), []⟩,
       ⟨none, (some 14), .mov (.t 6), []⟩,
       ⟨none, (some 15), .nil (.t 13), []⟩,
       ⟨none, (some 16), .idxP 12 1 (.t 15) (.t 14), []⟩,
       ⟨none, (some 17), .ld 1 false (.t 16), []⟩,
       ⟨none, (some 18), .mov (.t 1), []⟩,
       ⟨none, (some 19), .mov (.t 6), []⟩,
       ⟨none, (some 20), .nil (.t 18), []⟩,
       ⟨none, (some 21), .idxP 12 1 (.t 20) (.t 19), []⟩,
       ⟨none, (some 22), .ld 1 false (.t 21), []⟩,
       ⟨none, (some 23), .bin .andNot (.t 17) (.t 22), []⟩,
       ⟨none, (some 24), .adrI 5 none 12 1 (.t 12), []⟩,
       ⟨none, (some 5), .stV 5 (some 24) 1 (.t 23), []⟩]))
    (.reg [6] [
      ⟨none, (some 10), .mov (.t 6), []⟩,
      ⟨none, (some 11), .bin .add (.t 10) (.c (.int .i64 1)), []⟩,
      ⟨none, (some 6), .mov (.t 11), []⟩])))
def k349 : Cd :=
  (.seq
   (.reg [4] [
     ⟨none, (some 4), .zero true (zs 12 (.int .u16 0)), []⟩])
   (.seq
    (.reg [5] [
      ⟨none, (some 7), .agg (zs 12 (.int .u16 0)) [], []⟩,
      ⟨none, (some 5), .zero true (zs 12 (.int .u16 0)), []⟩,
      ⟨none, (some 5), .stV 5 none 12 (.t 7), []⟩])
    (.seq
     (.seq
      (.reg [6] [
        ⟨none, (some 6), .mov (.c (.int .i64 0)), []⟩])
      (.block 0
       (.loop b349_1)))
     (.seq
      (.reg [4] [
        ⟨none, (some 25), .ldV 5 none 12 true, []⟩,
        ⟨none, (some 4), .stV 4 none 12 (.t 25), []⟩])
      .ret))))
def c349 : Fn := { np := 2, nt := 26, kind := .pure, res := [.v 4 12 true], body := k349 }

/- (impl.Frame).less -/
def k350 : Cd :=
  (.seq
   (.reg [2, 3, 4] [
     ⟨none, (some 2), .mov (.t 0), []⟩,
     ⟨none, (some 3), .mov (.t 1), []⟩,
     ⟨none, (some 4), .zero true (zs 12 (.int .u16 0)), []⟩])
   (.seq
    (.reg [4] [
      ⟨none, (some 5), .ldV 2 none 12 true, []⟩,
      ⟨none, (some 6), .ldV 3 none 12 true, []⟩,
      ⟨none, (some 7), .call true 443 [.t 5, .t 6, .f 504], []⟩,
      ⟨none, (some 4), .stV 4 none 12 (.t 7), []⟩])
    .ret))
def c350 : Fn := { np := 2, nt := 8, kind := .pure, res := [.v 4 12 true], body := k350 }

/- impl.areFrames -/
def k351 : Cd :=
  (.seq
   (.reg [2] [
     ⟨none, (some 2), .mov (.c (.bool false)), []⟩])
   (.seq
    (.reg [2] [
      ⟨none, (some 3), .mov (.t 0), []⟩,
      ⟨none, (some 4), .call true 505 [.t 3, .f 506], []⟩,
      ⟨none, (some 5), .un .not (.t 4), []⟩,
      ⟨none, (some 2), .mov (.t 5), []⟩])
    .ret))
def c351 : Fn := { np := 1, nt := 6, kind := .pure, res := [.t 2], body := k351 }

/- spec.l01Ok -/
def b359_1 : Cd :=
  (.seq
   (.seq
    (.reg [5] [
      ⟨none, (some 4), .mov (.t 3), []⟩,
      ⟨none, (some 5), .bin .lss (.t 4) (.c (.int .i64 12)), []⟩])
    (.cond (.t 5)
     .skip
     (.exit 0)))
   (.seq
    (.block 1
     (.seq
      (.reg [13] [
        ⟨none, (some 8), .mov (.t 0), []⟩,
        ⟨none, (some 9), .mov (.t 3), []⟩,
        ⟨none, (some 10), .nil (.t 8), []⟩,
        ⟨none, (some 11), .idxP 12 1 (.t 10) (.t 9), []⟩,
        ⟨none, (some 12), .ld 1 false (.t 11), []⟩,
        ⟨none, (some 13), .bin .gtr (.t 12) (.c (.int .u16 4095)), []⟩])
      (.cond (.t 13)
       (.seq
        (.reg [2] [
          ⟨none, (some 2), .mov (.c (.bool false)), []⟩])
        .ret)
       .skip)))
    (.reg [3] [
      ⟨none, (some 6), .mov (.t 3), []⟩,
      ⟨none, (some 7), .bin .add (.t 6) (.c (.int .i64 1)), []⟩,
      ⟨none, (some 3), .mov (.t 7), []⟩])))
def k359 : Cd :=
  (.seq
   (.reg [2] [
     ⟨none, (some 2), .mov (.c (.bool false)), []⟩])
   (.seq
    (.seq
     (.reg [3] [
       ⟨none, (some 3), .mov (.c (.int .i64 0)), []⟩])
     (.block 0
      (.loop b359_1)))
    (.seq
     (.reg [2] [
       ⟨none, (some 2), .mov (.c (.bool true)), []⟩])
     .ret)))
def c359 : Fn := { np := 1, nt := 14, kind := .pure, res := [.t 2], body := k359 }

/- (impl.Frame).mix -/
def b443_1 : Cd :=
  (.seq
   (.reg [11] [
     ⟨none, (some 11), .bin .lss (.t 10) (.c (.int .i64 12)), []⟩])
   (.seq
    (.cond (.t 11)
     .skip
     (.exit 0))
    (.seq
     (.block 1
      (.seq
       (.reg [7, 8] [
         ⟨none, (some 12), .mov (.t 10), []⟩,
         ⟨none, (some 13), .idx 12 1 false (.t 9) (.t 10), []⟩,
         ⟨none, (some 7), .mov (.t 12), []⟩,
         ⟨none, (some 8), .mov (.t 13), []⟩])
       (.reg [3] [
         ⟨none, (some 14), .mov (.t 7), []⟩,
         ⟨none, (some 15), .mov (.t 2), []⟩,
         ⟨none, (some 16), .mov (.t 8), []⟩,
         ⟨none, (some 17), .mov (.t 7), []⟩,
         ⟨none, (some 18), .adrI 4 none 12 1 (.t 17), []⟩,
         ⟨none, (some 19), .ldV 4 (some 18) 1 false, []⟩,
         ⟨none, (some 20), .callv (.t 15) [.t 16, .t 19], []⟩,
         ⟨none, (some 21), .adrI 3 none 12 1 (.t 14), []⟩,
         ⟨none, (some 3), .stV 3 (some 21) 1 (.t 20), []⟩])))
     (.reg [10] [
       ⟨none, (some 22), .bin .add (.t 10) (.c (.int .i64 1)), []⟩,
       ⟨none, (some 10), .mov (.t 22), []⟩]))))
def k443 : Cd :=
  (.seq
   (.reg [3, 4, 6] [
     ⟨none, (some 3), .mov (.t 0), []⟩,
     ⟨none, (some 4), .mov (.t 1), []⟩,
     ⟨none, (some 6), .zero true (zs 12 (.int .u16 0)), []⟩])
   (.seq
    (.seq
     (.reg [9, 10] [
       ⟨none, (some 9), .ldV 3 none 12 true, []⟩,
       ⟨none, (some 10), .mov (.c (.int .i64 0)), []⟩])
     (.block 0
      (.loop b443_1)))
    (.seq
     (.reg [6] [
       ⟨none, (some 23), .ldV 3 none 12 true, []⟩,
       ⟨none, (some 6), .stV 6 none 12 (.t 23), []⟩])
     .ret)))
def c443 : Fn := { np := 3, nt := 24, kind := .pure, res := [.v 6 12 true], body := k443 }

/- slices.ContainsFunc[[]uint16,uint16] -/
def k445 : Cd :=
  (.seq
   (.reg [4] [
     ⟨none, (some 4), .mov (.c (.bool false)), []⟩])
   (.seq
    (.reg [4] [
      ⟨none, (some 5), .mov (.t 0), []⟩,
      ⟨none, (some 6), .mov (.t 1), []⟩,
      ⟨none, (some 7), .call true 547 [.t 5, .t 6], []⟩,
      ⟨none, (some 8), .bin .geq (.t 7) (.c (.int .i64 0)), []⟩,
      ⟨none, (some 4), .mov (.t 8), []⟩])
    .ret))
def c445 : Fn := { np := 2, nt := 9, kind := .pure, res := [.t 4], body := k445 }

/- impl.ValidFrame$1 -/
def k446 : Cd :=
  (.seq
   (.reg [2] [
     ⟨none, (some 2), .mov (.c (.bool false)), []⟩])
   (.seq
    (.reg [2] [
      ⟨none, (some 3), .mov (.t 0), []⟩,
      ⟨none, (some 4), .bin .gtr (.t 3) (.c (.int .u16 4095)), []⟩,
      ⟨none, (some 2), .mov (.t 4), []⟩])
    .ret))
def c446 : Fn := { np := 1, nt := 5, kind := .pure, res := [.t 2], body := k446 }

/- slices.IndexFunc[[]impl.Frame,impl.Frame] -/
def b474_1 : Cd :=
  (.seq
   (.reg [9] [
     ⟨none, (some 9), .bin .lss (.t 8) (.t 7), []⟩])
   (.seq
    (.cond (.t 9)
     .skip
     (.exit 0))
    (.seq
     (.block 1
      (.seq
       (.reg [5] [
         ⟨none, (some 10), .mov (.t 8), []⟩,
         ⟨none, (some 5), .mov (.t 10), []⟩])
       (.seq
        (.reg [16] [
          ⟨none, (some 11), .mov (.t 1), []⟩,
          ⟨none, (some 12), .mov (.t 0), []⟩,
          ⟨none, (some 13), .mov (.t 5), []⟩,
          ⟨none, (some 14), .idxA 12 (.t 12) (.t 13), []⟩,
          ⟨none, (some 15), .ld 12 true (.t 14), []⟩,
          ⟨none, (some 16), .callv (.t 11) [.t 15], []⟩])
        (.cond (.t 16)
         (.seq
          (.reg [4] [
            ⟨none, (some 17), .mov (.t 5), []⟩,
            ⟨none, (some 4), .mov (.t 17), []⟩])
          .ret)
         .skip))))
     (.reg [8] [
       ⟨none, (some 18), .bin .add (.t 8) (.c (.int .i64 1)), []⟩,
       ⟨none, (some 8), .mov (.t 18), []⟩]))))
def k474 : Cd :=
  (.seq
   (.reg [4] [
     ⟨none, (some 4), .mov (.c (.int .i64 0)), []⟩])
   (.seq
    (.seq
     (.reg [7, 8] [
       ⟨none, (some 6), .mov (.t 0), []⟩,
       ⟨none, (some 7), .len (.t 6), []⟩,
       ⟨none, (some 8), .mov (.c (.int .i64 0)), []⟩])
     (.block 0
      (.loop b474_1)))
    (.seq
     (.reg [4] [
       ⟨none, (some 4), .mov (.c (.int .i64 (-1))), []⟩])
     .ret)))
def c474 : Fn := { np := 2, nt := 19, kind := .pure, res := [.t 4], body := k474 }

/- (impl.Frame).less$1 -/
def k504 : Cd :=
  (.seq
   (.reg [4] [
     ⟨none, (some 4), .mov (.c (.int .u16 0)), []⟩])
   (.seq
    (.reg [4] [
      ⟨none, (some 5), .mov (.t 0), []⟩,
      ⟨none, (some 6), .mov (.t 1), []⟩,
      ⟨none, (some 7), .bin .andNot (.t 5) (.t 6), []⟩,
      ⟨none, (some 4), .mov (.t 7), []⟩])
    .ret))
def c504 : Fn := { np := 2, nt := 8, kind := .pure, res := [.t 4], body := k504 }

/- slices.ContainsFunc[[]impl.Frame,impl.Frame] -/
def k505 : Cd :=
  (.seq
   (.reg [4] [
     ⟨none, (some 4), .mov (.c (.bool false)), []⟩])
   (.seq
    (.reg [4] [
      ⟨none, (some 5), .mov (.t 0), []⟩,
      ⟨none, (some 6), .mov (.t 1), []⟩,
      ⟨none, (some 7), .call true 474 [.t 5, .t 6], []⟩,
      ⟨none, (some 8), .bin .geq (.t 7) (.c (.int .i64 0)), []⟩,
      ⟨none, (some 4), .mov (.t 8), []⟩])
    .ret))
def c505 : Fn := { np := 2, nt := 9, kind := .pure, res := [.t 4], body := k505 }

/- impl.areFrames$1 -/
def k506 : Cd :=
  (.seq
   (.reg [1, 2] [
     ⟨none, (some 1), .mov (.t 0), []⟩,
     ⟨none, (some 2), .mov (.c (.bool false)), []⟩])
   (.seq
    (.reg [2] [
      ⟨none, (some 3), .ldV 1 none 12 true, []⟩,
      ⟨none, (some 4), .call true 234 [.t 3], []⟩,
      ⟨none, (some 5), .un .not (.t 4), []⟩,
      ⟨none, (some 2), .mov (.t 5), []⟩])
    .ret))
def c506 : Fn := { np := 1, nt := 6, kind := .pure, res := [.t 2], body := k506 }

/- slices.IndexFunc[[]uint16,uint16] -/
def b547_1 : Cd :=
  (.seq
   (.reg [9] [
     ⟨none, (some 9), .bin .lss (.t 8) (.t 7), []⟩])
   (.seq
    (.cond (.t 9)
     .skip
     (.exit 0))
    (.seq
     (.block 1
      (.seq
       (.reg [5] [
         ⟨none, (some 10), .mov (.t 8), []⟩,
         ⟨none, (some 5), .mov (.t 10), []⟩])
       (.seq
        (.reg [16] [
          ⟨none, (some 11), .mov (.t 1), []⟩,
          ⟨none, (some 12), .mov (.t 0), []⟩,
          ⟨none, (some 13), .mov (.t 5), []⟩,
          ⟨none, (some 14), .idxA 1 (.t 12) (.t 13), []⟩,
          ⟨none, (some 15), .ld 1 false (.t 14), []⟩,
          ⟨none, (some 16), .callv (.t 11) [.t 15], []⟩])
        (.cond (.t 16)
         (.seq
          (.reg [4] [
            ⟨none, (some 17), .mov (.t 5), []⟩,
            ⟨none, (some 4), .mov (.t 17), []⟩])
          .ret)
         .skip))))
     (.reg [8] [
       ⟨none, (some 18), .bin .add (.t 8) (.c (.int .i64 1)), []⟩,
       ⟨none, (some 8), .mov (.t 18), []⟩]))))
def k547 : Cd :=
  (.seq
   (.reg [4] [
     ⟨none, (some 4), .mov (.c (.int .i64 0)), []⟩])
   (.seq
    (.seq
     (.reg [7, 8] [
       ⟨none, (some 6), .mov (.t 0), []⟩,
       ⟨none, (some 7), .len (.t 6), []⟩,
       ⟨none, (some 8), .mov (.c (.int .i64 0)), []⟩])
     (.block 0
      (.loop b547_1)))
    (.seq
     (.reg [4] [
       ⟨none, (some 4), .mov (.c (.int .i64 (-1))), []⟩])
     .ret)))
def c547 : Fn := { np := 2, nt := 19, kind := .pure, res := [.t 4], body := k547 }


end Fb
