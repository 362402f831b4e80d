/- The functions of the law, in the small language. -/
import Derived.Test.YtkkncjfgnielgabDen
set_option linter.unusedVariables false
set_option linter.unusedSimpArgs false
namespace Fb
open Go

/- laws.FnExactBestLoop -/
def k22 : Cd :=
  (.seq
   (.reg [4] [
     ⟨none, (some 4), .mov (.c (.bool false)), []⟩])
   (.seq
    (.reg [5] [
      ⟨none, (some 5), .mov (.c (.int .i64 1000000)), []⟩])
    (.seq
     (.reg [5] [
       ⟨none, (some 19), .mov (.t 0), []⟩,
       ⟨none, (some 20), .mov (.t 5), []⟩,
       ⟨none, (some 21), .call true 103 [.t 19, .t 20], []⟩,
       ⟨none, (some 5), .mov (.t 21), []⟩])
     (.seq
      (.seq
       (.reg [23] [
         ⟨none, (some 22), .mov (.t 5), []⟩,
         ⟨none, (some 23), .bin .lss (.t 22) (.c (.int .i64 0)), []⟩])
       (.cond (.t 23)
        (.seq
         (.reg [4] [
           ⟨none, (some 4), .mov (.c (.bool true)), []⟩])
         .ret)
        .skip))
      (.seq
       (.reg [6, 7, 8, 9] [
         ⟨none, (some 25), .mov (.t 0), []⟩,
         ⟨none, (some 26), .call true 105 [.t 25, .c (.bool false)], []⟩,
         ⟨none, (some 27), .mov (.t 1), []⟩,
         ⟨none, (some 28), .call true 93 [.t 26, .t 27], []⟩,
         ⟨none, (some 24), .mov (.t 28), []⟩,
         ⟨none, (some 29), .ext (.t 24) 0, []⟩,
         ⟨none, (some 30), .ext (.t 24) 1, []⟩,
         ⟨none, (some 31), .ext (.t 24) 2, []⟩,
         ⟨none, (some 32), .ext (.t 24) 3, []⟩,
         ⟨none, (some 6), .mov (.t 29), []⟩,
         ⟨none, (some 7), .mov (.t 30), []⟩,
         ⟨none, (some 8), .mov (.t 31), []⟩,
         ⟨none, (some 9), .mov (.t 32), []⟩])
       (.seq
        (.reg [10] [
          ⟨none, (some 33), .mov (.t 0), []⟩,
          ⟨none, (some 34), .call true 105 [.t 33, .c (.bool false)], []⟩,
          ⟨none, (some 10), .mov (.t 34), []⟩])
        (.seq
         (.reg [11, 12, 13, 14] [
           ⟨none, (some 36), .mov (.t 10), []⟩,
           ⟨none, (some 37), .mov (.t 1), []⟩,
           ⟨none, (some 38), .call true 92 [.t 36, .t 37], []⟩,
           ⟨none, (some 35), .mov (.t 38), []⟩,
           ⟨none, (some 39), .ext (.t 35) 0, []⟩,
           ⟨none, (some 40), .ext (.t 35) 1, []⟩,
           ⟨none, (some 41), .ext (.t 35) 2, []⟩,
           ⟨none, (some 42), .ext (.t 35) 3, []⟩,
           ⟨none, (some 11), .mov (.t 39), []⟩,
           ⟨none, (some 12), .mov (.t 40), []⟩,
           ⟨none, (some 13), .mov (.t 41), []⟩,
           ⟨none, (some 14), .mov (.t 42), []⟩])
         (.seq
          (.seq
           (.reg [60] [
             ⟨none, (some 43), .mov (.t 11), []⟩,
             ⟨none, (some 44), .mov (.t 6), []⟩,
             ⟨none, (some 45), .bin .neq (.t 43) (.t 44), []⟩,
             ⟨none, (some 46), .mov (.t 45), []⟩,
             ⟨(some (46, false)), (some 47), .mov (.t 12), []⟩,
             ⟨(some (46, false)), (some 48), .mov (.t 7), []⟩,
             ⟨(some (46, false)), (some 49), .bin .neq (.t 47) (.t 48), []⟩,
             ⟨none, (some 50), .pick (.t 46) (.c (.bool true)) (.t 49), []⟩,
             ⟨none, (some 51), .mov (.t 50), []⟩,
             ⟨(some (51, false)), (some 52), .mov (.t 13), []⟩,
             ⟨(some (51, false)), (some 53), .mov (.t 8), []⟩,
             ⟨(some (51, false)), (some 54), .bin .neq (.t 52) (.t 53), []⟩,
             ⟨none, (some 55), .pick (.t 51) (.c (.bool true)) (.t 54), []⟩,
             ⟨none, (some 56), .mov (.t 55), []⟩,
             ⟨(some (56, false)), (some 57), .mov (.t 14), []⟩,
             ⟨(some (56, false)), (some 58), .mov (.t 9), []⟩,
             ⟨(some (56, false)), (some 59), .bin .neq (.t 57) (.t 58), []⟩,
             ⟨none, (some 60), .pick (.t 56) (.c (.bool true)) (.t 59), []⟩])
           (.cond (.t 60)
            (.seq
             (.reg [4] [
               ⟨none, (some 4), .mov (.c (.bool false)), []⟩])
             .ret)
            .skip))
          (.seq
           (.seq
            (.reg [65] [
              ⟨none, (some 61), .mov (.t 10), []⟩,
              ⟨none, (some 62), .mov (.t 0), []⟩,
              ⟨none, (some 63), .call true 105 [.t 62, .c (.bool false)], []⟩,
              ⟨none, (some 64), .call true 107 [.t 61, .t 63], []⟩,
              ⟨none, (some 65), .un .not (.t 64), []⟩])
            (.cond (.t 65)
             (.seq
              (.reg [4] [
                ⟨none, (some 4), .mov (.c (.bool false)), []⟩])
              .ret)
             .skip))
           (.seq
            (.reg [15, 16, 17, 18] [
              ⟨none, (some 67), .mov (.t 0), []⟩,
              ⟨none, (some 68), .call true 105 [.t 67, .c (.bool true)], []⟩,
              ⟨none, (some 69), .mov (.t 1), []⟩,
              ⟨none, (some 70), .call true 92 [.t 68, .t 69], []⟩,
              ⟨none, (some 66), .mov (.t 70), []⟩,
              ⟨none, (some 71), .ext (.t 66) 0, []⟩,
              ⟨none, (some 72), .ext (.t 66) 1, []⟩,
              ⟨none, (some 73), .ext (.t 66) 2, []⟩,
              ⟨none, (some 74), .ext (.t 66) 3, []⟩,
              ⟨none, (some 15), .mov (.t 71), []⟩,
              ⟨none, (some 16), .mov (.t 72), []⟩,
              ⟨none, (some 17), .mov (.t 73), []⟩,
              ⟨none, (some 18), .mov (.t 74), []⟩])
            (.seq
             (.seq
              (.reg [92] [
                ⟨none, (some 75), .mov (.t 15), []⟩,
                ⟨none, (some 76), .mov (.t 6), []⟩,
                ⟨none, (some 77), .bin .neq (.t 75) (.t 76), []⟩,
                ⟨none, (some 78), .mov (.t 77), []⟩,
                ⟨(some (78, false)), (some 79), .mov (.t 16), []⟩,
                ⟨(some (78, false)), (some 80), .mov (.t 7), []⟩,
                ⟨(some (78, false)), (some 81), .bin .neq (.t 79) (.t 80), []⟩,
                ⟨none, (some 82), .pick (.t 78) (.c (.bool true)) (.t 81), []⟩,
                ⟨none, (some 83), .mov (.t 82), []⟩,
                ⟨(some (83, false)), (some 84), .mov (.t 17), []⟩,
                ⟨(some (83, false)), (some 85), .mov (.t 8), []⟩,
                ⟨(some (83, false)), (some 86), .bin .neq (.t 84) (.t 85), []⟩,
                ⟨none, (some 87), .pick (.t 83) (.c (.bool true)) (.t 86), []⟩,
                ⟨none, (some 88), .mov (.t 87), []⟩,
                ⟨(some (88, false)), (some 89), .mov (.t 18), []⟩,
                ⟨(some (88, false)), (some 90), .mov (.t 9), []⟩,
                ⟨(some (88, false)), (some 91), .bin .neq (.t 89) (.t 90), []⟩,
                ⟨none, (some 92), .pick (.t 88) (.c (.bool true)) (.t 91), []⟩])
              (.cond (.t 92)
               (.seq
                (.reg [4] [
                  ⟨none, (some 4), .mov (.c (.bool false)), []⟩])
                .ret)
               .skip))
             (.seq
              (.reg [4] [
                ⟨none, (some 4), .mov (.c (.bool true)), []⟩])
              .ret))))))))))))
def c22 : Fn := { np := 2, nt := 93, kind := .pure, res := [.t 4], body := k22 }

/- laws.eqFrame -/
def b78_1 : Cd :=
  (.seq
   (.seq
    (.reg [7] [
      ⟨none, (some 6), .mov (.t 5), []⟩,
      ⟨none, (some 7), .bin .lss (.t 6) (.c (.int .i64 12)), []⟩])
    (.cond (.t 7)
     .skip
     (.exit 0)))
   (.seq
    (.block 1
     (.seq
      (.reg [16] [
        ⟨none, (some 10), .mov (.t 5), []⟩,
        ⟨none, (some 11), .adrI 2 none 12 1 (.t 10), []⟩,
        ⟨none, (some 12), .ldV 2 (some 11) 1 false, []⟩,
        ⟨none, (some 13), .mov (.t 5), []⟩,
        ⟨none, (some 14), .adrI 3 none 12 1 (.t 13), []⟩,
        ⟨none, (some 15), .ldV 3 (some 14) 1 false, []⟩,
        ⟨none, (some 16), .bin .neq (.t 12) (.t 15), []⟩])
      (.cond (.t 16)
       (.seq
        (.reg [4] [
          ⟨none, (some 4), .mov (.c (.bool false)), []⟩])
        .ret)
       .skip)))
    (.reg [5] [
      ⟨none, (some 8), .mov (.t 5), []⟩,
      ⟨none, (some 9), .bin .add (.t 8) (.c (.int .i64 1)), []⟩,
      ⟨none, (some 5), .mov (.t 9), []⟩])))
def k78 : Cd :=
  (.seq
   (.reg [2, 3, 4] [
     ⟨none, (some 2), .mov (.t 0), []⟩,
     ⟨none, (some 3), .mov (.t 1), []⟩,
     ⟨none, (some 4), .mov (.c (.bool false)), []⟩])
   (.seq
    (.seq
     (.reg [5] [
       ⟨none, (some 5), .mov (.c (.int .i64 0)), []⟩])
     (.block 0
      (.loop b78_1)))
    (.seq
     (.reg [4] [
       ⟨none, (some 4), .mov (.c (.bool true)), []⟩])
     .ret)))
def c78 : Fn := { np := 2, nt := 17, kind := .pure, res := [.t 4], body := k78 }

/- impl.BestLoop -/
def b92_1 : Cd :=
  (.seq
   (.seq
    (.reg [38] [
      ⟨none, (some 33), .mov (.t 12), []⟩,
      ⟨none, (some 34), .mov (.t 11), []⟩,
      ⟨none, (some 35), .bin .add (.t 33) (.t 34), []⟩,
      ⟨none, (some 36), .mov (.t 0), []⟩,
      ⟨none, (some 37), .len (.t 36), []⟩,
      ⟨none, (some 38), .bin .leq (.t 35) (.t 37), []⟩])
    (.cond (.t 38)
     .skip
     (.exit 3)))
   (.seq
    (.block 4
     (.seq
      (.reg [13] [
        ⟨none, (some 41), .mov (.t 0), []⟩,
        ⟨none, (some 42), .mov (.t 12), []⟩,
        ⟨none, (some 43), .mov (.t 11), []⟩,
        ⟨none, (some 44), .bin .add (.t 42) (.t 43), []⟩,
        ⟨none, (some 45), .bin .sub (.t 44) (.c (.int .i64 1)), []⟩,
        ⟨none, (some 46), .idxA 12 (.t 41) (.t 45), []⟩,
        ⟨none, (some 47), .ld 12 true (.t 46), []⟩,
        ⟨none, (some 48), .mov (.t 0), []⟩,
        ⟨none, (some 49), .mov (.t 12), []⟩,
        ⟨none, (some 50), .idxA 12 (.t 48) (.t 49), []⟩,
        ⟨none, (some 51), .ld 12 true (.t 50), []⟩,
        ⟨none, (some 52), .call true 324 [.t 47, .t 51], []⟩,
        ⟨none, (some 13), .mov (.t 52), []⟩])
      (.seq
       (.reg [59] [
         ⟨none, (some 53), .mov (.t 10), []⟩,
         ⟨none, (some 54), .bin .lss (.t 53) (.c (.int .i64 0)), []⟩,
         ⟨none, (some 55), .mov (.t 54), []⟩,
         ⟨(some (55, false)), (some 56), .mov (.t 13), []⟩,
         ⟨(some (55, false)), (some 57), .mov (.t 10), []⟩,
         ⟨(some (55, false)), (some 58), .bin .lss (.t 56) (.t 57), []⟩,
         ⟨none, (some 59), .pick (.t 55) (.c (.bool true)) (.t 58), []⟩])
       (.cond (.t 59)
        (.reg [8, 9, 10] [
          ⟨none, (some 60), .mov (.t 12), []⟩,
          ⟨none, (some 61), .mov (.t 11), []⟩,
          ⟨none, (some 62), .mov (.t 13), []⟩,
          ⟨none, (some 8), .mov (.t 60), []⟩,
          ⟨none, (some 9), .mov (.t 61), []⟩,
          ⟨none, (some 10), .mov (.t 62), []⟩])
        .skip))))
    (.reg [12] [
      ⟨none, (some 39), .mov (.t 12), []⟩,
      ⟨none, (some 40), .bin .add (.t 39) (.c (.int .i64 1)), []⟩,
      ⟨none, (some 12), .mov (.t 40), []⟩])))
def b92_2 : Cd :=
  (.seq
   (.seq
    (.reg [30] [
      ⟨none, (some 28), .mov (.t 11), []⟩,
      ⟨none, (some 29), .mov (.t 1), []⟩,
      ⟨none, (some 30), .bin .geq (.t 28) (.t 29), []⟩])
    (.cond (.t 30)
     .skip
     (.exit 1)))
   (.seq
    (.block 2
     (.seq
      (.reg [12] [
        ⟨none, (some 12), .mov (.c (.int .i64 0)), []⟩])
      (.block 3
       (.loop b92_1))))
    (.reg [11] [
      ⟨none, (some 31), .mov (.t 11), []⟩,
      ⟨none, (some 32), .bin .sub (.t 31) (.c (.int .i64 1)), []⟩,
      ⟨none, (some 11), .mov (.t 32), []⟩])))
def k92 : Cd :=
  (.seq
   (.reg [4, 5, 6, 7] [
     ⟨none, (some 4), .mov (.c (.int .i64 0)), []⟩,
     ⟨none, (some 5), .mov (.c (.int .i64 0)), []⟩,
     ⟨none, (some 6), .mov (.c (.int .i64 0)), []⟩,
     ⟨none, (some 7), .mov (.c (.int .i64 0)), []⟩])
   (.seq
    (.block 0
     (.seq
      (.reg [14] [
        ⟨none, (some 15), .mov (.t 0), []⟩,
        ⟨none, (some 16), .call true 316 [.t 15], []⟩,
        ⟨none, (some 17), .un .not (.t 16), []⟩,
        ⟨none, (some 14), .mov (.t 17), []⟩])
      (.cond (.t 14)
       (.seq
        (.reg [4, 5, 6, 7] [
          ⟨none, (some 4), .mov (.c (.int .i64 0)), []⟩,
          ⟨none, (some 5), .mov (.c (.int .i64 0)), []⟩,
          ⟨none, (some 6), .mov (.c (.int .i64 0)), []⟩,
          ⟨none, (some 7), .mov (.c (.int .i64 1)), []⟩])
        .ret)
       (.seq
        (.reg [18] [
          ⟨none, (some 19), .mov (.t 1), []⟩,
          ⟨none, (some 20), .bin .lss (.t 19) (.c (.int .i64 1)), []⟩,
          ⟨none, (some 18), .mov (.t 20), []⟩])
        (.cond (.t 18)
         (.seq
          (.reg [4, 5, 6, 7] [
            ⟨none, (some 4), .mov (.c (.int .i64 0)), []⟩,
            ⟨none, (some 5), .mov (.c (.int .i64 0)), []⟩,
            ⟨none, (some 6), .mov (.c (.int .i64 0)), []⟩,
            ⟨none, (some 7), .mov (.c (.int .i64 2)), []⟩])
          .ret)
         (.seq
          (.reg [21] [
            ⟨none, (some 22), .mov (.t 1), []⟩,
            ⟨none, (some 23), .mov (.t 0), []⟩,
            ⟨none, (some 24), .len (.t 23), []⟩,
            ⟨none, (some 25), .bin .gtr (.t 22) (.t 24), []⟩,
            ⟨none, (some 21), .mov (.t 25), []⟩])
          (.cond (.t 21)
           (.seq
            (.reg [4, 5, 6, 7] [
              ⟨none, (some 4), .mov (.c (.int .i64 0)), []⟩,
              ⟨none, (some 5), .mov (.c (.int .i64 0)), []⟩,
              ⟨none, (some 6), .mov (.c (.int .i64 0)), []⟩,
              ⟨none, (some 7), .mov (.c (.int .i64 6)), []⟩])
            .ret)
           .skip)))))))
    (.seq
     (.reg [8, 9, 10] [
       ⟨none, (some 8), .mov (.c (.int .i64 0)), []⟩,
       ⟨none, (some 9), .mov (.c (.int .i64 0)), []⟩,
       ⟨none, (some 10), .mov (.c (.int .i64 (-1))), []⟩])
     (.seq
      (.seq
       (.reg [11] [
         ⟨none, (some 26), .mov (.t 0), []⟩,
         ⟨none, (some 27), .len (.t 26), []⟩,
         ⟨none, (some 11), .mov (.t 27), []⟩])
       (.block 1
        (.loop b92_2)))
      (.seq
       (.reg [4, 5, 6, 7] [
         ⟨none, (some 63), .mov (.t 8), []⟩,
         ⟨none, (some 64), .mov (.t 9), []⟩,
         ⟨none, (some 65), .mov (.t 10), []⟩,
         ⟨none, (some 4), .mov (.t 63), []⟩,
         ⟨none, (some 5), .mov (.t 64), []⟩,
         ⟨none, (some 6), .mov (.t 65), []⟩,
         ⟨none, (some 7), .mov (.c (.int .i64 0)), []⟩])
       .ret)))))
def c92 : Fn := { np := 2, nt := 66, kind := .pure, res := [.t 4, .t 5, .t 6, .t 7], body := k92 }

/- spec.BestLoop -/
def b93_1 : Cd :=
  (.seq
   (.seq
    (.reg [35] [
      ⟨none, (some 30), .mov (.t 12), []⟩,
      ⟨none, (some 31), .mov (.t 11), []⟩,
      ⟨none, (some 32), .bin .add (.t 30) (.t 31), []⟩,
      ⟨none, (some 33), .mov (.t 0), []⟩,
      ⟨none, (some 34), .len (.t 33), []⟩,
      ⟨none, (some 35), .bin .leq (.t 32) (.t 34), []⟩])
    (.cond (.t 35)
     .skip
     (.exit 2)))
   (.seq
    (.block 3
     (.seq
      (.reg [13] [
        ⟨none, (some 38), .mov (.t 0), []⟩,
        ⟨none, (some 39), .mov (.t 12), []⟩,
        ⟨none, (some 40), .mov (.t 11), []⟩,
        ⟨none, (some 41), .bin .add (.t 39) (.t 40), []⟩,
        ⟨none, (some 42), .bin .sub (.t 41) (.c (.int .i64 1)), []⟩,
        ⟨none, (some 43), .idxA 12 (.t 38) (.t 42), []⟩,
        ⟨none, (some 44), .mov (.t 0), []⟩,
        ⟨none, (some 45), .mov (.t 12), []⟩,
        ⟨none, (some 46), .idxA 12 (.t 44) (.t 45), []⟩,
        ⟨none, (some 47), .call true 325 [.t 43, .t 46], []⟩,
        ⟨none, (some 13), .mov (.t 47), []⟩])
      (.seq
       (.reg [54] [
         ⟨none, (some 48), .mov (.t 8), []⟩,
         ⟨none, (some 49), .bin .lss (.t 48) (.c (.int .i64 0)), []⟩,
         ⟨none, (some 50), .mov (.t 49), []⟩,
         ⟨(some (50, false)), (some 51), .mov (.t 13), []⟩,
         ⟨(some (50, false)), (some 52), .mov (.t 10), []⟩,
         ⟨(some (50, false)), (some 53), .bin .lss (.t 51) (.t 52), []⟩,
         ⟨none, (some 54), .pick (.t 50) (.c (.bool true)) (.t 53), []⟩])
       (.cond (.t 54)
        (.seq
         (.reg [8] [
           ⟨none, (some 55), .mov (.t 12), []⟩,
           ⟨none, (some 8), .mov (.t 55), []⟩])
         (.seq
          (.reg [9] [
            ⟨none, (some 56), .mov (.t 11), []⟩,
            ⟨none, (some 9), .mov (.t 56), []⟩])
          (.reg [10] [
            ⟨none, (some 57), .mov (.t 13), []⟩,
            ⟨none, (some 10), .mov (.t 57), []⟩])))
        .skip))))
    (.reg [12] [
      ⟨none, (some 36), .mov (.t 12), []⟩,
      ⟨none, (some 37), .bin .add (.t 36) (.c (.int .i64 1)), []⟩,
      ⟨none, (some 12), .mov (.t 37), []⟩])))
def b93_2 : Cd :=
  (.seq
   (.seq
    (.reg [27] [
      ⟨none, (some 25), .mov (.t 11), []⟩,
      ⟨none, (some 26), .mov (.t 1), []⟩,
      ⟨none, (some 27), .bin .geq (.t 25) (.t 26), []⟩])
    (.cond (.t 27)
     .skip
     (.exit 0)))
   (.seq
    (.block 1
     (.seq
      (.reg [12] [
        ⟨none, (some 12), .mov (.c (.int .i64 0)), []⟩])
      (.block 2
       (.loop b93_1))))
    (.reg [11] [
      ⟨none, (some 28), .mov (.t 11), []⟩,
      ⟨none, (some 29), .bin .sub (.t 28) (.c (.int .i64 1)), []⟩,
      ⟨none, (some 11), .mov (.t 29), []⟩])))
def k93 : Cd :=
  (.seq
   (.reg [4, 5, 6, 7] [
     ⟨none, (some 4), .mov (.c (.int .i64 0)), []⟩,
     ⟨none, (some 5), .mov (.c (.int .i64 0)), []⟩,
     ⟨none, (some 6), .mov (.c (.int .i64 0)), []⟩,
     ⟨none, (some 7), .mov (.c (.int .i64 0)), []⟩])
   (.seq
    (.seq
     (.reg [16] [
       ⟨none, (some 14), .mov (.t 0), []⟩,
       ⟨none, (some 15), .call true 318 [.t 14], []⟩,
       ⟨none, (some 16), .un .not (.t 15), []⟩])
     (.cond (.t 16)
      (.seq
       (.reg [4, 5, 6, 7] [
         ⟨none, (some 4), .mov (.c (.int .i64 0)), []⟩,
         ⟨none, (some 5), .mov (.c (.int .i64 0)), []⟩,
         ⟨none, (some 6), .mov (.c (.int .i64 0)), []⟩,
         ⟨none, (some 7), .mov (.c (.int .i64 1)), []⟩])
       .ret)
      .skip))
    (.seq
     (.seq
      (.reg [18] [
        ⟨none, (some 17), .mov (.t 1), []⟩,
        ⟨none, (some 18), .bin .lss (.t 17) (.c (.int .i64 1)), []⟩])
      (.cond (.t 18)
       (.seq
        (.reg [4, 5, 6, 7] [
          ⟨none, (some 4), .mov (.c (.int .i64 0)), []⟩,
          ⟨none, (some 5), .mov (.c (.int .i64 0)), []⟩,
          ⟨none, (some 6), .mov (.c (.int .i64 0)), []⟩,
          ⟨none, (some 7), .mov (.c (.int .i64 2)), []⟩])
        .ret)
       .skip))
     (.seq
      (.seq
       (.reg [22] [
         ⟨none, (some 19), .mov (.t 1), []⟩,
         ⟨none, (some 20), .mov (.t 0), []⟩,
         ⟨none, (some 21), .len (.t 20), []⟩,
         ⟨none, (some 22), .bin .gtr (.t 19) (.t 21), []⟩])
       (.cond (.t 22)
        (.seq
         (.reg [4, 5, 6, 7] [
           ⟨none, (some 4), .mov (.c (.int .i64 0)), []⟩,
           ⟨none, (some 5), .mov (.c (.int .i64 0)), []⟩,
           ⟨none, (some 6), .mov (.c (.int .i64 0)), []⟩,
           ⟨none, (some 7), .mov (.c (.int .i64 6)), []⟩])
         .ret)
        .skip))
      (.seq
       (.reg [8] [
         ⟨none, (some 8), .mov (.c (.int .i64 (-1))), []⟩])
       (.seq
        (.reg [9] [
          ⟨none, (some 9), .mov (.c (.int .i64 0)), []⟩])
        (.seq
         (.reg [10] [
           ⟨none, (some 10), .mov (.c (.int .i64 0)), []⟩])
         (.seq
          (.seq
           (.reg [11] [
             ⟨none, (some 23), .mov (.t 0), []⟩,
             ⟨none, (some 24), .len (.t 23), []⟩,
             ⟨none, (some 11), .mov (.t 24), []⟩])
           (.block 0
            (.loop b93_2)))
          (.seq
           (.reg [4, 5, 6, 7] [
             ⟨none, (some 58), .mov (.t 8), []⟩,
             ⟨none, (some 59), .mov (.t 9), []⟩,
             ⟨none, (some 60), .mov (.t 10), []⟩,
             ⟨none, (some 4), .mov (.t 58), []⟩,
             ⟨none, (some 5), .mov (.t 59), []⟩,
             ⟨none, (some 6), .mov (.t 60), []⟩,
             ⟨none, (some 7), .mov (.c (.int .i64 0)), []⟩])
           .ret)))))))))
def c93 : Fn := { np := 2, nt := 61, kind := .pure, res := [.t 4, .t 5, .t 6, .t 7], body := k93 }

/- laws.szBook -/
def k103 : Cd :=
  (.seq
   (.reg [4] [
     ⟨none, (some 4), .mov (.c (.int .i64 0)), []⟩])
   (.seq
    (.reg [1] [
      ⟨none, (some 5), .mov (.t 1), []⟩,
      ⟨none, (some 6), .mov (.t 0), []⟩,
      ⟨none, (some 7), .len (.t 6), []⟩,
      ⟨none, (some 8), .bin .sub (.t 5) (.t 7), []⟩,
      ⟨none, (some 1), .mov (.t 8), []⟩])
    (.seq
     (.seq
      (.reg [10] [
        ⟨none, (some 9), .mov (.t 1), []⟩,
        ⟨none, (some 10), .bin .lss (.t 9) (.c (.int .i64 0)), []⟩])
      (.cond (.t 10)
       (.seq
        (.reg [4] [
          ⟨none, (some 4), .mov (.c (.int .i64 (-1))), []⟩])
        .ret)
       .skip))
     (.seq
      (.reg [4] [
        ⟨none, (some 11), .mov (.t 1), []⟩,
        ⟨none, (some 4), .mov (.t 11), []⟩])
      .ret))))
def c103 : Fn := { np := 2, nt := 12, kind := .pure, res := [.t 4], body := k103 }

/- laws.toBook -/
def b105_1 : Cd :=
  (.seq
   (.seq
    (.reg [24] [
      ⟨none, (some 21), .mov (.t 6), []⟩,
      ⟨none, (some 22), .mov (.t 0), []⟩,
      ⟨none, (some 23), .len (.t 22), []⟩,
      ⟨none, (some 24), .bin .lss (.t 21) (.t 23), []⟩])
    (.cond (.t 24)
     .skip
     (.exit 0)))
   (.seq
    (.block 1
     (.reg [] [
       ⟨none, (some 27), .mov (.t 5), []⟩,
       ⟨none, (some 28), .mov (.t 6), []⟩,
       ⟨none, (some 29), .mov (.t 0), []⟩,
       ⟨none, (some 30), .mov (.t 6), []⟩,
       ⟨none, (some 31), .idxA 12 (.t 29) (.t 30), []⟩,
       ⟨none, (some 32), .ld 12 true (.t 31), []⟩,
       ⟨none, (some 33), .call true 134 [.t 32], []⟩,
       ⟨none, (some 34), .idxA 12 (.t 27) (.t 28), []⟩,
       ⟨none, none, .st 12 (.t 34) (.t 33), []⟩]))
    (.reg [6] [
      ⟨none, (some 25), .mov (.t 6), []⟩,
      ⟨none, (some 26), .bin .add (.t 25) (.c (.int .i64 1)), []⟩,
      ⟨none, (some 6), .mov (.t 26), []⟩])))
def b105_2 : Cd :=
  (.seq
   (.seq
    (.reg [40] [
      ⟨none, (some 37), .mov (.t 7), []⟩,
      ⟨none, (some 38), .mov (.t 5), []⟩,
      ⟨none, (some 39), .len (.t 38), []⟩,
      ⟨none, (some 40), .bin .lss (.t 37) (.t 39), []⟩])
    (.cond (.t 40)
     .skip
     (.exit 2)))
   (.seq
    (.block 3
     (.reg [] [
       ⟨none, (some 43), .mov (.t 5), []⟩,
       ⟨none, (some 44), .mov (.t 7), []⟩,
       ⟨none, (some 45), .agg (zs 12 (.int .u16 0)) [(0, 1, (.c (.int .u16 60201)))], []⟩,
       ⟨none, (some 46), .idxA 12 (.t 43) (.t 44), []⟩,
       ⟨none, none, .st 12 (.t 46) (.t 45), []⟩]))
    (.reg [7] [
      ⟨none, (some 41), .mov (.t 7), []⟩,
      ⟨none, (some 42), .bin .add (.t 41) (.c (.int .i64 1)), []⟩,
      ⟨none, (some 7), .mov (.t 42), []⟩])))
def k105 : Cd :=
  (.seq
   (.reg [4] [
     ⟨none, (some 4), .mov (.c (.slice none 0 0)), []⟩])
   (.seq
    (.seq
     (.reg [13] [
       ⟨none, (some 8), .mov (.t 1), []⟩,
       ⟨none, (some 9), .mov (.t 8), []⟩,
       ⟨(some (9, true)), (some 10), .mov (.t 0), []⟩,
       ⟨(some (9, true)), (some 11), .len (.t 10), []⟩,
       ⟨(some (9, true)), (some 12), .bin .eql (.t 11) (.c (.int .i64 0)), []⟩,
       ⟨none, (some 13), .pick (.t 9) (.t 12) (.c (.bool false)), []⟩])
     (.cond (.t 13)
      (.seq
       (.reg [4] [
         ⟨none, (some 4), .mov (.c (.slice none 0 0)), []⟩])
       .ret)
      .skip))
    (.seq
     (.reg [5] [
       ⟨none, (some 14), .mov (.t 0), []⟩,
       ⟨none, (some 15), .len (.t 14), []⟩,
       ⟨none, (some 16), .mov (.t 0), []⟩,
       ⟨none, (some 17), .len (.t 16), []⟩,
       ⟨none, (some 18), .call true 296 [.t 17], []⟩,
       ⟨none, (some 19), .bin .add (.t 15) (.t 18), []⟩,
       ⟨none, (some 20), .mkS 12 24 (zs 12 (.int .u16 0)) (.t 19) (.t 19), []⟩,
       ⟨none, (some 5), .mov (.t 20), []⟩])
     (.seq
      (.seq
       (.reg [6] [
         ⟨none, (some 6), .mov (.c (.int .i64 0)), []⟩])
       (.block 0
        (.loop b105_1)))
      (.seq
       (.seq
        (.reg [7] [
          ⟨none, (some 35), .mov (.t 0), []⟩,
          ⟨none, (some 36), .len (.t 35), []⟩,
          ⟨none, (some 7), .mov (.t 36), []⟩])
        (.block 2
         (.loop b105_2)))
       (.seq
        (.reg [4] [
          ⟨none, (some 47), .mov (.t 5), []⟩,
          ⟨none, (some 48), .mov (.t 0), []⟩,
          ⟨none, (some 49), .len (.t 48), []⟩,
          ⟨none, (some 50), .slcA 12 (.t 47) none (some (.t 49)) none, []⟩,
          ⟨none, (some 4), .mov (.t 50), []⟩])
        .ret))))))
def c105 : Fn := { np := 2, nt := 51, kind := .pure, res := [.t 4], body := k105 }

/- laws.intactBook -/
def k107 : Cd :=
  (.seq
   (.reg [4] [
     ⟨none, (some 4), .mov (.c (.bool false)), []⟩])
   (.seq
    (.reg [5] [
      ⟨none, (some 6), .mov (.t 1), []⟩,
      ⟨none, (some 7), .len (.t 6), []⟩,
      ⟨none, (some 8), .mov (.t 1), []⟩,
      ⟨none, (some 9), .len (.t 8), []⟩,
      ⟨none, (some 10), .call true 296 [.t 9], []⟩,
      ⟨none, (some 11), .bin .add (.t 7) (.t 10), []⟩,
      ⟨none, (some 5), .mov (.t 11), []⟩])
    (.seq
     (.reg [4] [
       ⟨none, (some 12), .mov (.t 0), []⟩,
       ⟨none, (some 13), .len (.t 12), []⟩,
       ⟨none, (some 14), .mov (.t 1), []⟩,
       ⟨none, (some 15), .len (.t 14), []⟩,
       ⟨none, (some 16), .bin .eql (.t 13) (.t 15), []⟩,
       ⟨none, (some 17), .mov (.t 16), []⟩,
       ⟨(some (17, true)), (some 18), .mov (.t 0), []⟩,
       ⟨(some (17, true)), (some 19), .mov (.t 5), []⟩,
       ⟨(some (17, true)), (some 20), .slcA 12 (.t 18) none (some (.t 19)) none, []⟩,
       ⟨(some (17, true)), (some 21), .mov (.t 1), []⟩,
       ⟨(some (17, true)), (some 22), .mov (.t 5), []⟩,
       ⟨(some (17, true)), (some 23), .slcA 12 (.t 21) none (some (.t 22)) none, []⟩,
       ⟨(some (17, true)), (some 24), .call true 121 [.t 20, .t 23], []⟩,
       ⟨none, (some 25), .pick (.t 17) (.t 24) (.c (.bool false)), []⟩,
       ⟨none, (some 4), .mov (.t 25), []⟩])
     .ret)))
def c107 : Fn := { np := 2, nt := 26, kind := .pure, res := [.t 4], body := k107 }

/- laws.eqBook -/
def b121_1 : Cd :=
  (.seq
   (.seq
    (.reg [14] [
      ⟨none, (some 11), .mov (.t 5), []⟩,
      ⟨none, (some 12), .mov (.t 0), []⟩,
      ⟨none, (some 13), .len (.t 12), []⟩,
      ⟨none, (some 14), .bin .lss (.t 11) (.t 13), []⟩])
    (.cond (.t 14)
     .skip
     (.exit 0)))
   (.seq
    (.block 1
     (.seq
      (.reg [26] [
        ⟨none, (some 17), .mov (.t 0), []⟩,
        ⟨none, (some 18), .mov (.t 5), []⟩,
        ⟨none, (some 19), .idxA 12 (.t 17) (.t 18), []⟩,
        ⟨none, (some 20), .ld 12 true (.t 19), []⟩,
        ⟨none, (some 21), .mov (.t 1), []⟩,
        ⟨none, (some 22), .mov (.t 5), []⟩,
        ⟨none, (some 23), .idxA 12 (.t 21) (.t 22), []⟩,
        ⟨none, (some 24), .ld 12 true (.t 23), []⟩,
        ⟨none, (some 25), .call true 78 [.t 20, .t 24], []⟩,
        ⟨none, (some 26), .un .not (.t 25), []⟩])
      (.cond (.t 26)
       (.seq
        (.reg [4] [
          ⟨none, (some 4), .mov (.c (.bool false)), []⟩])
        .ret)
       .skip)))
    (.reg [5] [
      ⟨none, (some 15), .mov (.t 5), []⟩,
      ⟨none, (some 16), .bin .add (.t 15) (.c (.int .i64 1)), []⟩,
      ⟨none, (some 5), .mov (.t 16), []⟩])))
def k121 : Cd :=
  (.seq
   (.reg [4] [
     ⟨none, (some 4), .mov (.c (.bool false)), []⟩])
   (.seq
    (.seq
     (.reg [10] [
       ⟨none, (some 6), .mov (.t 0), []⟩,
       ⟨none, (some 7), .len (.t 6), []⟩,
       ⟨none, (some 8), .mov (.t 1), []⟩,
       ⟨none, (some 9), .len (.t 8), []⟩,
       ⟨none, (some 10), .bin .neq (.t 7) (.t 9), []⟩])
     (.cond (.t 10)
      (.seq
       (.reg [4] [
         ⟨none, (some 4), .mov (.c (.bool false)), []⟩])
       .ret)
      .skip))
    (.seq
     (.seq
      (.reg [5] [
        ⟨none, (some 5), .mov (.c (.int .i64 0)), []⟩])
      (.block 0
       (.loop b121_1)))
     (.seq
      (.reg [4] [
        ⟨none, (some 4), .mov (.c (.bool true)), []⟩])
      .ret))))
def c121 : Fn := { np := 2, nt := 27, kind := .pure, res := [.t 4], body := k121 }

/- laws.toFrame -/
def b134_1 : Cd :=
  (.seq
   (.seq
    (.reg [6] [
      ⟨none, (some 5), .mov (.t 4), []⟩,
      ⟨none, (some 6), .bin .lss (.t 5) (.c (.int .i64 12)), []⟩])
    (.cond (.t 6)
     .skip
     (.exit 0)))
   (.seq
    (.block 1
     (.reg [3] [
       ⟨none, (some 9), .mov (.t 4), []⟩,
       ⟨none, (some 10), .mov (.t 4), []⟩,
       ⟨none, (some 11), .adrI 1 none 12 1 (.t 10), []⟩,
       ⟨none, (some 12), .ldV 1 (some 11) 1 false, []⟩,
       ⟨none, (some 13), .adrI 3 none 12 1 (.t 9), []⟩,
       ⟨none, (some 3), .stV 3 (some 13) 1 (.t 12), []⟩]))
    (.reg [4] [
      ⟨none, (some 7), .mov (.t 4), []⟩,
      ⟨none, (some 8), .bin .add (.t 7) (.c (.int .i64 1)), []⟩,
      ⟨none, (some 4), .mov (.t 8), []⟩])))
def k134 : Cd :=
  (.seq
   (.reg [1, 2] [
     ⟨none, (some 1), .mov (.t 0), []⟩,
     ⟨none, (some 2), .zero true (zs 12 (.int .u16 0)), []⟩])
   (.seq
    (.reg [3] [
      ⟨none, (some 3), .zero true (zs 12 (.int .u16 0)), []⟩])
    (.seq
     (.seq
      (.reg [4] [
        ⟨none, (some 4), .mov (.c (.int .i64 0)), []⟩])
      (.block 0
       (.loop b134_1)))
     (.seq
      (.reg [2] [
        ⟨none, (some 14), .ldV 3 none 12 true, []⟩,
        ⟨none, (some 2), .stV 2 none 12 (.t 14), []⟩])
      .ret))))
def c134 : Fn := { np := 1, nt := 15, kind := .pure, res := [.v 2 12 true], body := k134 }

/- impl.ValidFrame -/
def k234 : Cd :=
  (.seq
   (.reg [1, 2] [
     ⟨none, (some 1), .box 12 (.t 0), []⟩,
     ⟨none, (some 2), .mov (.c (.bool false)), []⟩])
   (.seq
    (.reg [2] [
      ⟨none, (some 3), .slcP 12 1 (.t 1), []⟩,
      ⟨none, (some 4), .call true 445 [.t 3, .f 446], []⟩,
      ⟨none, (some 5), .un .not (.t 4), []⟩,
      ⟨none, (some 2), .mov (.t 5), []⟩])
    .ret))
def c234 : Fn := { np := 1, nt := 6, kind := .pure, res := [.t 2], body := k234 }

/- laws.roomBehind -/
def k296 : Cd :=
  (.seq
   (.reg [2] [
     ⟨none, (some 2), .mov (.c (.int .i64 0)), []⟩])
   (.seq
    (.seq
     (.reg [5] [
       ⟨none, (some 3), .mov (.t 0), []⟩,
       ⟨none, (some 4), .bin .rem (.t 3) (.c (.int .i64 6)), []⟩,
       ⟨none, (some 5), .bin .eql (.t 4) (.c (.int .i64 5)), []⟩])
     (.cond (.t 5)
      (.seq
       (.reg [2] [
         ⟨none, (some 2), .mov (.c (.int .i64 0)), []⟩])
       .ret)
      .skip))
    (.seq
     (.seq
      (.reg [8] [
        ⟨none, (some 6), .mov (.t 0), []⟩,
        ⟨none, (some 7), .bin .rem (.t 6) (.c (.int .i64 3)), []⟩,
        ⟨none, (some 8), .bin .eql (.t 7) (.c (.int .i64 0)), []⟩])
      (.cond (.t 8)
       (.seq
        (.reg [2] [
          ⟨none, (some 2), .mov (.c (.int .i64 1)), []⟩])
        .ret)
       .skip))
     (.seq
      (.reg [2] [
        ⟨none, (some 9), .mov (.t 0), []⟩,
        ⟨none, (some 2), .mov (.t 9), []⟩])
      .ret))))
def c296 : Fn := { np := 1, nt := 10, kind := .pure, res := [.t 2], body := k296 }

/- spec.l00In -/
def k304 : Cd :=
  (.seq
   (.reg [6] [
     ⟨none, (some 6), .mov (.c (.bool false)), []⟩])
   (.seq
    (.reg [6] [
      ⟨none, (some 7), .mov (.t 0), []⟩,
      ⟨none, (some 8), .mov (.t 1), []⟩,
      ⟨none, (some 9), .bin .geq (.t 7) (.t 8), []⟩,
      ⟨none, (some 10), .mov (.t 9), []⟩,
      ⟨(some (10, true)), (some 11), .mov (.t 0), []⟩,
      ⟨(some (10, true)), (some 12), .mov (.t 2), []⟩,
      ⟨(some (10, true)), (some 13), .bin .leq (.t 11) (.t 12), []⟩,
      ⟨none, (some 14), .pick (.t 10) (.t 13) (.c (.bool false)), []⟩,
      ⟨none, (some 6), .mov (.t 14), []⟩])
    .ret))
def c304 : Fn := { np := 3, nt := 15, kind := .pure, res := [.t 6], body := k304 }

/- impl.ValidBook -/
def k316 : Cd :=
  (.seq
   (.reg [2] [
     ⟨none, (some 2), .mov (.c (.bool false)), []⟩])
   (.seq
    (.reg [2] [
      ⟨none, (some 3), .mov (.t 0), []⟩,
      ⟨none, (some 4), .len (.t 3), []⟩,
      ⟨none, (some 5), .bin .leq (.t 4) (.c (.int .i64 40)), []⟩,
      ⟨none, (some 6), .mov (.t 5), []⟩,
      ⟨(some (6, true)), (some 7), .mov (.t 0), []⟩,
      ⟨(some (6, true)), (some 8), .call true 351 [.t 7], []⟩,
      ⟨none, (some 9), .pick (.t 6) (.t 8) (.c (.bool false)), []⟩,
      ⟨none, (some 2), .mov (.t 9), []⟩])
    .ret))
def c316 : Fn := { np := 1, nt := 10, kind := .pure, res := [.t 2], body := k316 }

/- spec.l02Ok -/
def b318_1 : Cd :=
  (.seq
   (.seq
    (.reg [7] [
      ⟨none, (some 4), .mov (.t 3), []⟩,
      ⟨none, (some 5), .mov (.t 0), []⟩,
      ⟨none, (some 6), .len (.t 5), []⟩,
      ⟨none, (some 7), .bin .lss (.t 4) (.t 6), []⟩])
    (.cond (.t 7)
     .skip
     (.exit 0)))
   (.seq
    (.block 1
     (.seq
      (.reg [14] [
        ⟨none, (some 10), .mov (.t 0), []⟩,
        ⟨none, (some 11), .mov (.t 3), []⟩,
        ⟨none, (some 12), .idxA 12 (.t 10) (.t 11), []⟩,
        ⟨none, (some 13), .call true 359 [.t 12], []⟩,
        ⟨none, (some 14), .un .not (.t 13), []⟩])
      (.cond (.t 14)
       (.seq
        (.reg [2] [
          ⟨none, (some 2), .mov (.c (.bool false)), []⟩])
        .ret)
       .skip)))
    (.reg [3] [
      ⟨none, (some 8), .mov (.t 3), []⟩,
      ⟨none, (some 9), .bin .add (.t 8) (.c (.int .i64 1)), []⟩,
      ⟨none, (some 3), .mov (.t 9), []⟩])))
def k318 : Cd :=
  (.seq
   (.reg [2] [
     ⟨none, (some 2), .mov (.c (.bool false)), []⟩])
   (.seq
    (.seq
     (.reg [3] [
       ⟨none, (some 3), .mov (.c (.int .i64 0)), []⟩])
     (.block 0
      (.loop b318_1)))
    (.seq
     (.reg [2] [
       ⟨none, (some 15), .mov (.t 0), []⟩,
       ⟨none, (some 16), .len (.t 15), []⟩,
       ⟨none, (some 17), .bin .leq (.t 16) (.c (.int .i64 40)), []⟩,
       ⟨none, (some 2), .mov (.t 17), []⟩])
     .ret)))
def c318 : Fn := { np := 1, nt := 18, kind := .pure, res := [.t 2], body := k318 }

/- impl.jump -/
def k324 : Cd :=
  (.seq
   (.reg [2, 3, 4] [
     ⟨none, (some 2), .mov (.t 0), []⟩,
     ⟨none, (some 3), .mov (.t 1), []⟩,
     ⟨none, (some 4), .mov (.c (.int .i64 0)), []⟩])
   (.seq
    (.reg [4] [
      ⟨none, (some 5), .ldV 2 none 12 true, []⟩,
      ⟨none, (some 6), .ldV 3 none 12 true, []⟩,
      ⟨none, (some 7), .call true 367 [.t 5, .t 6], []⟩,
      ⟨none, (some 8), .call true 393 [.t 7], []⟩,
      ⟨none, (some 4), .mov (.t 8), []⟩])
    .ret))
def c324 : Fn := { np := 2, nt := 9, kind := .pure, res := [.t 4], body := k324 }

/- spec.l01Differ -/
def b325_1 : Cd :=
  (.seq
   (.seq
    (.reg [9] [
      ⟨none, (some 8), .mov (.t 6), []⟩,
      ⟨none, (some 9), .bin .lss (.t 8) (.c (.int .i64 12)), []⟩])
    (.cond (.t 9)
     .skip
     (.exit 0)))
   (.seq
    (.block 1
     (.reg [] [
       ⟨none, (some 12), .mov (.t 6), []⟩,
       ⟨none, (some 13), .mov (.t 0), []⟩,
       ⟨none, (some 14), .mov (.t 6), []⟩,
       ⟨none, (some 15), .nil (.t 13), []⟩,
       ⟨none, (some 16), .idxP 12 1 (.t 15) (.t 14), []⟩,
       ⟨none, (some 17), .ld 1 false (.t 16), []⟩,
       ⟨none, (some 18), .mov (.t 1), []⟩,
       ⟨none, (some 19), .mov (.t 6), []⟩,
       ⟨none, (some 20), .nil (.t 18), []⟩,
       ⟨none, (some 21), .idxP 12 1 (.t 20) (.t 19), []⟩,
       ⟨none, (some 22), .ld 1 false (.t 21), []⟩,
       ⟨none, (some 23), .bin .xor (.t 17) (.t 22), []⟩,
       ⟨none, (some 24), .idxP 12 1 (.t 5) (.t 12), []⟩,
       ⟨none, none, .st 1 (.t 24) (.t 23), []⟩]))
    (.reg [6] [
      ⟨none, (some 10), .mov (.t 6), []⟩,
      ⟨none, (some 11), .bin .add (.t 10) (.c (.int .i64 1)), []⟩,
      ⟨none, (some 6), .mov (.t 11), []⟩])))
def k325 : Cd :=
  (.seq
   (.reg [4] [
     ⟨none, (some 4), .mov (.c (.int .i64 0)), []⟩])
   (.seq
    (.reg [5] [
      ⟨none, (some 7), .agg (zs 12 (.int .u16 0)) [], []⟩,
      ⟨none, (some 5), .new 1 (zs 12 (.int .u16 0)), []⟩,
      ⟨none, none, .st 12 (.t 5) (.t 7), []⟩])
    (.seq
     (.seq
      (.reg [6] [
        ⟨none, (some 6), .mov (.c (.int .i64 0)), []⟩])
      (.block 0
       (.loop b325_1)))
     (.seq
      (.reg [4] [
        ⟨none, (some 25), .call true 409 [.t 5], []⟩,
        ⟨none, (some 4), .mov (.t 25), []⟩])
      .ret))))
def c325 : Fn := { np := 2, nt := 26, kind := .pure, res := [.t 4], body := k325 }

/- spec.l01Place -/
def k342 : Cd :=
  (.seq
   (.reg [4] [
     ⟨none, (some 4), .mov (.c (.bool false)), []⟩])
   (.seq
    (.reg [4] [
      ⟨none, (some 5), .mov (.t 0), []⟩,
      ⟨none, (some 6), .call true 304 [.t 5, .c (.int .i64 0), .c (.int .i64 11)], []⟩,
      ⟨none, (some 7), .mov (.t 6), []⟩,
      ⟨(some (7, true)), (some 8), .mov (.t 1), []⟩,
      ⟨(some (7, true)), (some 9), .call true 304 [.t 8, .c (.int .i64 0), .c (.int .i64 11)], []⟩,
      ⟨none, (some 10), .pick (.t 7) (.t 9) (.c (.bool false)), []⟩,
      ⟨none, (some 4), .mov (.t 10), []⟩])
    .ret))
def c342 : Fn := { np := 2, nt := 11, kind := .pure, res := [.t 4], body := k342 }

/- impl.areFrames -/
def k351 : Cd :=
  (.seq
   (.reg [2] [
     ⟨none, (some 2), .mov (.c (.bool false)), []⟩])
   (.seq
    (.reg [2] [
      ⟨none, (some 3), .mov (.t 0), []⟩,
      ⟨none, (some 4), .call true 505 [.t 3, .f 506], []⟩,
      ⟨none, (some 5), .un .not (.t 4), []⟩,
      ⟨none, (some 2), .mov (.t 5), []⟩])
    .ret))
def c351 : Fn := { np := 1, nt := 6, kind := .pure, res := [.t 2], body := k351 }

/- spec.l01Ok -/
def b359_1 : Cd :=
  (.seq
   (.seq
    (.reg [5] [
      ⟨none, (some 4), .mov (.t 3), []⟩,
      ⟨none, (some 5), .bin .lss (.t 4) (.c (.int .i64 12)), []⟩])
    (.cond (.t 5)
     .skip
     (.exit 0)))
   (.seq
    (.block 1
     (.seq
      (.reg [13] [
        ⟨none, (some 8), .mov (.t 0), []⟩,
        ⟨none, (some 9), .mov (.t 3), []⟩,
        ⟨none, (some 10), .nil (.t 8), []⟩,
        ⟨none, (some 11), .idxP 12 1 (.t 10) (.t 9), []⟩,
        ⟨none, (some 12), .ld 1 false (.t 11), []⟩,
        ⟨none, (some 13), .bin .gtr (.t 12) (.c (.int .u16 4095)), []⟩])
      (.cond (.t 13)
       (.seq
        (.reg [2] [
          ⟨none, (some 2), .mov (.c (.bool false)), []⟩])
        .ret)
       .skip)))
    (.reg [3] [
      ⟨none, (some 6), .mov (.t 3), []⟩,
      ⟨none, (some 7), .bin .add (.t 6) (.c (.int .i64 1)), []⟩,
      ⟨none, (some 3), .mov (.t 7), []⟩])))
def k359 : Cd :=
  (.seq
   (.reg [2] [
     ⟨none, (some 2), .mov (.c (.bool false)), []⟩])
   (.seq
    (.seq
     (.reg [3] [
       ⟨none, (some 3), .mov (.c (.int .i64 0)), []⟩])
     (.block 0
      (.loop b359_1)))
    (.seq
     (.reg [2] [
       ⟨none, (some 2), .mov (.c (.bool true)), []⟩])
     .ret)))
def c359 : Fn := { np := 1, nt := 14, kind := .pure, res := [.t 2], body := k359 }

/- (impl.Frame).differ -/
def k367 : Cd :=
  (.seq
   (.reg [2, 3, 4] [
     ⟨none, (some 2), .mov (.t 0), []⟩,
     ⟨none, (some 3), .mov (.t 1), []⟩,
     ⟨none, (some 4), .zero true (zs 12 (.int .u16 0)), []⟩])
   (.seq
    (.reg [4] [
      ⟨none, (some 5), .ldV 2 none 12 true, []⟩,
      ⟨none, (some 6), .ldV 3 none 12 true, []⟩,
      ⟨none, (some 7), .call true 443 [.t 5, .t 6, .f 512], []⟩,
      ⟨none, (some 4), .stV 4 none 12 (.t 7), []⟩])
    .ret))
def c367 : Fn := { np := 2, nt := 8, kind := .pure, res := [.v 4 12 true], body := k367 }

/- (impl.Frame).count -/
def b393_1 : Cd :=
  (.seq
   (.reg [8] [
     ⟨none, (some 8), .bin .lss (.t 7) (.c (.int .i64 12)), []⟩])
   (.seq
    (.cond (.t 8)
     .skip
     (.exit 0))
    (.seq
     (.block 1
      (.seq
       (.reg [5] [
         ⟨none, (some 9), .idx 12 1 false (.t 6) (.t 7), []⟩,
         ⟨none, (some 5), .mov (.t 9), []⟩])
       (.reg [3] [
         ⟨none, (some 10), .mov (.t 3), []⟩,
         ⟨none, (some 11), .mov (.t 5), []⟩,
         ⟨none, (some 12), .call true 530 [.t 11], []⟩,
         ⟨none, (some 13), .bin .add (.t 10) (.t 12), []⟩,
         ⟨none, (some 3), .mov (.t 13), []⟩])))
     (.reg [7] [
       ⟨none, (some 14), .bin .add (.t 7) (.c (.int .i64 1)), []⟩,
       ⟨none, (some 7), .mov (.t 14), []⟩]))))
def k393 : Cd :=
  (.seq
   (.reg [1, 2] [
     ⟨none, (some 1), .mov (.t 0), []⟩,
     ⟨none, (some 2), .mov (.c (.int .i64 0)), []⟩])
   (.seq
    (.reg [3] [
      ⟨none, (some 3), .mov (.c (.int .i64 0)), []⟩])
    (.seq
     (.seq
      (.reg [6, 7] [
        ⟨none, (some 6), .ldV 1 none 12 true, []⟩,
        ⟨none, (some 7), .mov (.c (.int .i64 0)), []⟩])
      (.block 0
       (.loop b393_1)))
     (.seq
      (.reg [2] [
        ⟨none, (some 15), .mov (.t 3), []⟩,
        ⟨none, (some 2), .mov (.t 15), []⟩])
      .ret))))
def c393 : Fn := { np := 1, nt := 16, kind := .pure, res := [.t 2], body := k393 }

/- spec.l01Count -/
def k409 : Cd :=
  (.seq
   (.reg [2] [
     ⟨none, (some 2), .mov (.c (.int .i64 0)), []⟩])
   (.seq
    (.reg [2] [
      ⟨none, (some 3), .mov (.t 0), []⟩,
      ⟨none, (some 4), .call true 440 [.t 3], []⟩,
      ⟨none, (some 5), .len (.t 4), []⟩,
      ⟨none, (some 2), .mov (.t 5), []⟩])
    .ret))
def c409 : Fn := { np := 1, nt := 6, kind := .pure, res := [.t 2], body := k409 }

/- spec.l01Dots -/
def b440_1 : Cd :=
  (.seq
   (.seq
    (.reg [12] [
      ⟨none, (some 11), .mov (.t 5), []⟩,
      ⟨none, (some 12), .bin .lss (.t 11) (.c (.int .i64 12)), []⟩])
    (.cond (.t 12)
     .skip
     (.exit 2)))
   (.seq
    (.block 3
     (.seq
      (.reg [18] [
        ⟨none, (some 15), .mov (.t 0), []⟩,
        ⟨none, (some 16), .mov (.t 5), []⟩,
        ⟨none, (some 17), .mov (.t 4), []⟩,
        ⟨none, (some 18), .call true 456 [.t 15, .t 16, .t 17], []⟩])
      (.cond (.t 18)
       (.reg [3] [
         ⟨none, (some 19), .mov (.t 3), []⟩,
         ⟨none, (some 20), .mov (.t 5), []⟩,
         ⟨none, (some 21), .conv .i8 (.t 20), []⟩,
         ⟨none, (some 22), .mov (.t 4), []⟩,
         ⟨none, (some 23), .conv .i8 (.t 22), []⟩,
         ⟨none, (some 24), .agg [.int .i8 0, .int .i8 0] [(0, 1, (.t 21)), (1, 1, (.t 23))], []⟩,
         ⟨none, (some 25), .bldS 2 1 [.int .i8 0, .int .i8 0] [(0, 2, (.t 24))], []⟩,
         ⟨none, (some 26), .app 2 2 (.t 19) (.t 25), []⟩,
         ⟨none, (some 3), .mov (.t 26), []⟩])
       .skip)))
    (.reg [5] [
      ⟨none, (some 13), .mov (.t 5), []⟩,
      ⟨none, (some 14), .bin .add (.t 13) (.c (.int .i64 1)), []⟩,
      ⟨none, (some 5), .mov (.t 14), []⟩])))
def b440_2 : Cd :=
  (.seq
   (.seq
    (.reg [8] [
      ⟨none, (some 7), .mov (.t 4), []⟩,
      ⟨none, (some 8), .bin .lss (.t 7) (.c (.int .i64 12)), []⟩])
    (.cond (.t 8)
     .skip
     (.exit 0)))
   (.seq
    (.block 1
     (.seq
      (.reg [5] [
        ⟨none, (some 5), .mov (.c (.int .i64 0)), []⟩])
      (.block 2
       (.loop b440_1))))
    (.reg [4] [
      ⟨none, (some 9), .mov (.t 4), []⟩,
      ⟨none, (some 10), .bin .add (.t 9) (.c (.int .i64 1)), []⟩,
      ⟨none, (some 4), .mov (.t 10), []⟩])))
def k440 : Cd :=
  (.seq
   (.reg [2] [
     ⟨none, (some 2), .mov (.c (.slice none 0 0)), []⟩])
   (.seq
    (.reg [3] [
      ⟨none, (some 6), .bldS 2 0 [.int .i8 0, .int .i8 0] [], []⟩,
      ⟨none, (some 3), .mov (.t 6), []⟩])
    (.seq
     (.seq
      (.reg [4] [
        ⟨none, (some 4), .mov (.c (.int .i64 0)), []⟩])
      (.block 0
       (.loop b440_2)))
     (.seq
      (.reg [2] [
        ⟨none, (some 27), .mov (.t 3), []⟩,
        ⟨none, (some 2), .mov (.t 27), []⟩])
      .ret))))
def c440 : Fn := { np := 1, nt := 28, kind := .pure, res := [.t 2], body := k440 }

/- (impl.Frame).mix -/
def b443_1 : Cd :=
  (.seq
   (.reg [11] [
     ⟨none, (some 11), .bin .lss (.t 10) (.c (.int .i64 12)), []⟩])
   (.seq
    (.cond (.t 11)
     .skip
     (.exit 0))
    (.seq
     (.block 1
      (.seq
       (.reg [7, 8] [
         ⟨none, (some 12), .mov (.t 10), []⟩,
         ⟨none, (some 13), .idx 12 1 false (.t 9) (.t 10), []⟩,
         ⟨none, (some 7), .mov (.t 12), []⟩,
         ⟨none, (some 8), .mov (.t 13), []⟩])
       (.reg [3] [
         ⟨none, (some 14), .mov (.t 7), []⟩,
         ⟨none, (some 15), .mov (.t 2), []⟩,
         ⟨none, (some 16), .mov (.t 8), []⟩,
         ⟨none, (some 17), .mov (.t 7), []⟩,
         ⟨none, (some 18), .adrI 4 none 12 1 (.t 17), []⟩,
         ⟨none, (some 19), .ldV 4 (some 18) 1 false, []⟩,
         ⟨none, (some 20), .callv (.t 15) [.t 16, .t 19], []⟩,
         ⟨none, (some 21), .adrI 3 none 12 1 (.t 14), []⟩,
         ⟨none, (some 3), .stV 3 (some 21) 1 (.t 20), []⟩])))
     (.reg [10] [
       ⟨none, (some 22), .bin .add (.t 10) (.c (.int .i64 1)), []⟩,
       ⟨none, (some 10), .mov (.t 22), []⟩]))))
def k443 : Cd :=
  (.seq
   (.reg [3, 4, 6] [
     ⟨none, (some 3), .mov (.t 0), []⟩,
     ⟨none, (some 4), .mov (.t 1), []⟩,
     ⟨none, (some 6), .zero true (zs 12 (.int .u16 0)), []⟩])
   (.seq
    (.seq
     (.reg [9, 10] [
       ⟨none, (some 9), .ldV 3 none 12 true, []⟩,
       ⟨none, (some 10), .mov (.c (.int .i64 0)), []⟩])
     (.block 0
      (.loop b443_1)))
    (.seq
     (.reg [6] [
       ⟨none, (some 23), .ldV 3 none 12 true, []⟩,
       ⟨none, (some 6), .stV 6 none 12 (.t 23), []⟩])
     .ret)))
def c443 : Fn := { np := 3, nt := 24, kind := .pure, res := [.v 6 12 true], body := k443 }

/- slices.ContainsFunc[[]uint16,uint16] -/
def k445 : Cd :=
  (.seq
   (.reg [4] [
     ⟨none, (some 4), .mov (.c (.bool false)), []⟩])
   (.seq
    (.reg [4] [
      ⟨none, (some 5), .mov (.t 0), []⟩,
      ⟨none, (some 6), .mov (.t 1), []⟩,
      ⟨none, (some 7), .call true 547 [.t 5, .t 6], []⟩,
      ⟨none, (some 8), .bin .geq (.t 7) (.c (.int .i64 0)), []⟩,
      ⟨none, (some 4), .mov (.t 8), []⟩])
    .ret))
def c445 : Fn := { np := 2, nt := 9, kind := .pure, res := [.t 4], body := k445 }

/- impl.ValidFrame$1 -/
def k446 : Cd :=
  (.seq
   (.reg [2] [
     ⟨none, (some 2), .mov (.c (.bool false)), []⟩])
   (.seq
    (.reg [2] [
      ⟨none, (some 3), .mov (.t 0), []⟩,
      ⟨none, (some 4), .bin .gtr (.t 3) (.c (.int .u16 4095)), []⟩,
      ⟨none, (some 2), .mov (.t 4), []⟩])
    .ret))
def c446 : Fn := { np := 1, nt := 5, kind := .pure, res := [.t 2], body := k446 }

/- spec.l01Has -/
def k456 : Cd :=
  (.seq
   (.reg [6] [
     ⟨none, (some 6), .mov (.c (.bool false)), []⟩])
   (.seq
    (.reg [6] [
      ⟨none, (some 7), .mov (.t 1), []⟩,
      ⟨none, (some 8), .mov (.t 2), []⟩,
      ⟨none, (some 9), .call true 342 [.t 7, .t 8], []⟩,
      ⟨none, (some 10), .mov (.t 9), []⟩,
      ⟨(some (10, true)), (some 11), .mov (.t 0), []⟩,
      ⟨(some (10, true)), (some 12), .mov (.t 2), []⟩,
      ⟨(some (10, true)), (some 13), .nil (.t 11), []⟩,
      ⟨(some (10, true)), (some 14), .idxP 12 1 (.t 13) (.t 12), []⟩,
      ⟨(some (10, true)), (some 15), .ld 1 false (.t 14), []⟩,
      ⟨(some (10, true)), (some 16), .mov (.t 1), []⟩,
      ⟨(some (10, true)), (some 17), .conv .u64 (.t 16), []⟩,
      ⟨(some (10, true)), (some 18), .bin .shr (.t 15) (.t 17), []⟩,
      ⟨(some (10, true)), (some 19), .bin .rem (.t 18) (.c (.int .u16 2)), []⟩,
      ⟨(some (10, true)), (some 20), .bin .eql (.t 19) (.c (.int .u16 1)), []⟩,
      ⟨none, (some 21), .pick (.t 10) (.t 20) (.c (.bool false)), []⟩,
      ⟨none, (some 6), .mov (.t 21), []⟩])
    .ret))
def c456 : Fn := { np := 3, nt := 22, kind := .pure, res := [.t 6], body := k456 }

/- slices.IndexFunc[[]impl.Frame,impl.Frame] -/
def b474_1 : Cd :=
  (.seq
   (.reg [9] [
     ⟨none, (some 9), .bin .lss (.t 8) (.t 7), []⟩])
   (.seq
    (.cond (.t 9)
     .skip
     (.exit 0))
    (.seq
     (.block 1
      (.seq
       (.reg [5] [
         ⟨none, (some 10), .mov (.t 8), []⟩,
         ⟨none, (some 5), .mov (.t 10), []⟩])
       (.seq
        (.reg [16] [
          ⟨none, (some 11), .mov (.t 1), []⟩,
          ⟨none, (some 12), .mov (.t 0), []⟩,
          ⟨none, (some 13), .mov (.t 5), []⟩,
          ⟨none, (some 14), .idxA 12 (.t 12) (.t 13), []⟩,
          ⟨none, (some 15), .ld 12 true (.t 14), []⟩,
          ⟨none, (some 16), .callv (.t 11) [.t 15], []⟩])
        (.cond (.t 16)
         (.seq
          (.reg [4] [
            ⟨none, (some 17), .mov (.t 5), []⟩,
            ⟨none, (some 4), .mov (.t 17), []⟩])
          .ret)
         .skip))))
     (.reg [8] [
       ⟨none, (some 18), .bin .add (.t 8) (.c (.int .i64 1)), []⟩,
       ⟨none, (some 8), .mov (.t 18), []⟩]))))
def k474 : Cd :=
  (.seq
   (.reg [4] [
     ⟨none, (some 4), .mov (.c (.int .i64 0)), []⟩])
   (.seq
    (.seq
     (.reg [7, 8] [
       ⟨none, (some 6), .mov (.t 0), []⟩,
       ⟨none, (some 7), .len (.t 6), []⟩,
       ⟨none, (some 8), .mov (.c (.int .i64 0)), []⟩])
     (.block 0
      (.loop b474_1)))
    (.seq
     (.reg [4] [
       ⟨none, (some 4), .mov (.c (.int .i64 (-1))), []⟩])
     .ret)))
def c474 : Fn := { np := 2, nt := 19, kind := .pure, res := [.t 4], body := k474 }

/- slices.ContainsFunc[[]impl.Frame,impl.Frame] -/
def k505 : Cd :=
  (.seq
   (.reg [4] [
     ⟨none, (some 4), .mov (.c (.bool false)), []⟩])
   (.seq
    (.reg [4] [
      ⟨none, (some 5), .mov (.t 0), []⟩,
      ⟨none, (some 6), .mov (.t 1), []⟩,
      ⟨none, (some 7), .call true 474 [.t 5, .t 6], []⟩,
      ⟨none, (some 8), .bin .geq (.t 7) (.c (.int .i64 0)), []⟩,
      ⟨none, (some 4), .mov (.t 8), []⟩])
    .ret))
def c505 : Fn := { np := 2, nt := 9, kind := .pure, res := [.t 4], body := k505 }

/- impl.areFrames$1 -/
def k506 : Cd :=
  (.seq
   (.reg [1, 2] [
     ⟨none, (some 1), .mov (.t 0), []⟩,
     ⟨none, (some 2), .mov (.c (.bool false)), []⟩])
   (.seq
    (.reg [2] [
      ⟨none, (some 3), .ldV 1 none 12 true, []⟩,
      ⟨none, (some 4), .call true 234 [.t 3], []⟩,
      ⟨none, (some 5), .un .not (.t 4), []⟩,
      ⟨none, (some 2), .mov (.t 5), []⟩])
    .ret))
def c506 : Fn := { np := 1, nt := 6, kind := .pure, res := [.t 2], body := k506 }

/- (impl.Frame).differ$1 -/
def k512 : Cd :=
  (.seq
   (.reg [4] [
     ⟨none, (some 4), .mov (.c (.int .u16 0)), []⟩])
   (.seq
    (.reg [4] [
      ⟨none, (some 5), .mov (.t 0), []⟩,
      ⟨none, (some 6), .mov (.t 1), []⟩,
      ⟨none, (some 7), .bin .xor (.t 5) (.t 6), []⟩,
      ⟨none, (some 4), .mov (.t 7), []⟩])
    .ret))
def c512 : Fn := { np := 2, nt := 8, kind := .pure, res := [.t 4], body := k512 }

/- math/bits.OnesCount16 -/
def k530 : Cd :=
  (.seq
   (.reg [2] [
     ⟨none, (some 2), .mov (.c (.int .i64 0)), []⟩])
   (.seq
    (.reg [2] [
      ⟨none, (some 3), .mov (.t 0), []⟩,
      ⟨none, (some 4), .bin .shr (.t 3) (.c (.int .u64 8)), []⟩,
      ⟨none, (some 5), .idxs (.c (.string ⟨#[0, 1, 1, 2, 1, 2, 2, 3, 1, 2, 2, 3, 2, 3, 3, 4, 1, 2, 2, 3, 2, 3, 3, 4, 2, 3, 3, 4, 3, 4, 4, 5, 1, 2, 2, 3, 2, 3, 3, 4, 2, 3, 3, 4, 3, 4, 4, 5, 2, 3, 3, 4, 3, 4, 4, 5, 3, 4, 4, 5, 4, 5, 5, 6, 1, 2, 2, 3, 2, 3, 3, 4, 2, 3, 3, 4, 3, 4, 4, 5, 2, 3, 3, 4, 3, 4, 4, 5, 3, 4, 4, 5, 4, 5, 5, 6, 2, 3, 3, 4, 3, 4, 4, 5, 3, 4, 4, 5, 4, 5, 5, 6, 3, 4, 4, 5, 4, 5, 5, 6, 4, 5, 5, 6, 5, 6, 6, 7, 1, 2, 2, 3, 2, 3, 3, 4, 2, 3, 3, 4, 3, 4, 4, 5, 2, 3, 3, 4, 3, 4, 4, 5, 3, 4, 4, 5, 4, 5, 5, 6, 2, 3, 3, 4, 3, 4, 4, 5, 3, 4, 4, 5, 4, 5, 5, 6, 3, 4, 4, 5, 4, 5, 5, 6, 4, 5, 5, 6, 5, 6, 6, 7, 2, 3, 3, 4, 3, 4, 4, 5, 3, 4, 4, 5, 4, 5, 5, 6, 3, 4, 4, 5, 4, 5, 5, 6, 4, 5, 5, 6, 5, 6, 6, 7, 3, 4, 4, 5, 4, 5, 5, 6, 4, 5, 5, 6, 5, 6, 6, 7, 4, 5, 5, 6, 5, 6, 6, 7, 5, 6, 6, 7, 6, 7, 7, 8]⟩)) (.t 4), []⟩,
      ⟨none, (some 6), .mov (.t 0), []⟩,
      ⟨none, (some 7), .bin .and (.t 6) (.c (.int .u16 255)), []⟩,
      ⟨none, (some 8), .idxs (.c (.string ⟨#[0, 1, 1, 2, 1, 2, 2, 3, 1, 2, 2, 3, 2, 3, 3, 4, 1, 2, 2, 3, 2, 3, 3, 4, 2, 3, 3, 4, 3, 4, 4, 5, 1, 2, 2, 3, 2, 3, 3, 4, 2, 3, 3, 4, 3, 4, 4, 5, 2, 3, 3, 4, 3, 4, 4, 5, 3, 4, 4, 5, 4, 5, 5, 6, 1, 2, 2, 3, 2, 3, 3, 4, 2, 3, 3, 4, 3, 4, 4, 5, 2, 3, 3, 4, 3, 4, 4, 5, 3, 4, 4, 5, 4, 5, 5, 6, 2, 3, 3, 4, 3, 4, 4, 5, 3, 4, 4, 5, 4, 5, 5, 6, 3, 4, 4, 5, 4, 5, 5, 6, 4, 5, 5, 6, 5, 6, 6, 7, 1, 2, 2, 3, 2, 3, 3, 4, 2, 3, 3, 4, 3, 4, 4, 5, 2, 3, 3, 4, 3, 4, 4, 5, 3, 4, 4, 5, 4, 5, 5, 6, 2, 3, 3, 4, 3, 4, 4, 5, 3, 4, 4, 5, 4, 5, 5, 6, 3, 4, 4, 5, 4, 5, 5, 6, 4, 5, 5, 6, 5, 6, 6, 7, 2, 3, 3, 4, 3, 4, 4, 5, 3, 4, 4, 5, 4, 5, 5, 6, 3, 4, 4, 5, 4, 5, 5, 6, 4, 5, 5, 6, 5, 6, 6, 7, 3, 4, 4, 5, 4, 5, 5, 6, 4, 5, 5, 6, 5, 6, 6, 7, 4, 5, 5, 6, 5, 6, 6, 7, 5, 6, 6, 7, 6, 7, 7, 8]⟩)) (.t 7), []⟩,
      ⟨none, (some 9), .bin .add (.t 5) (.t 8), []⟩,
      ⟨none, (some 10), .conv .i64 (.t 9), []⟩,
      ⟨none, (some 2), .mov (.t 10), []⟩])
    .ret))
def c530 : Fn := { np := 1, nt := 11, kind := .pure, res := [.t 2], body := k530 }

/- slices.IndexFunc[[]uint16,uint16] -/
def b547_1 : Cd :=
  (.seq
   (.reg [9] [
     ⟨none, (some 9), .bin .lss (.t 8) (.t 7), []⟩])
   (.seq
    (.cond (.t 9)
     .skip
     (.exit 0))
    (.seq
     (.block 1
      (.seq
       (.reg [5] [
         ⟨none, (some 10), .mov (.t 8), []⟩,
         ⟨none, (some 5), .mov (.t 10), []⟩])
       (.seq
        (.reg [16] [
          ⟨none, (some 11), .mov (.t 1), []⟩,
          ⟨none, (some 12), .mov (.t 0), []⟩,
          ⟨none, (some 13), .mov (.t 5), []⟩,
          ⟨none, (some 14), .idxA 1 (.t 12) (.t 13), []⟩,
          ⟨none, (some 15), .ld 1 false (.t 14), []⟩,
          ⟨none, (some 16), .callv (.t 11) [.t 15], []⟩])
        (.cond (.t 16)
         (.seq
          (.reg [4] [
            ⟨none, (some 17), .mov (.t 5), []⟩,
            ⟨none, (some 4), .mov (.t 17), []⟩])
          .ret)
         .skip))))
     (.reg [8] [
       ⟨none, (some 18), .bin .add (.t 8) (.c (.int .i64 1)), []⟩,
       ⟨none, (some 8), .mov (.t 18), []⟩]))))
def k547 : Cd :=
  (.seq
   (.reg [4] [
     ⟨none, (some 4), .mov (.c (.int .i64 0)), []⟩])
   (.seq
    (.seq
     (.reg [7, 8] [
       ⟨none, (some 6), .mov (.t 0), []⟩,
       ⟨none, (some 7), .len (.t 6), []⟩,
       ⟨none, (some 8), .mov (.c (.int .i64 0)), []⟩])
     (.block 0
      (.loop b547_1)))
    (.seq
     (.reg [4] [
       ⟨none, (some 4), .mov (.c (.int .i64 (-1))), []⟩])
     .ret)))
def c547 : Fn := { np := 2, nt := 19, kind := .pure, res := [.t 4], body := k547 }


end Fb
