/- The functions of the law, in the small language. -/
import Derived.Test.YtjfmgpnkippbpaaDen
set_option linter.unusedVariables false
set_option linter.unusedSimpArgs false
namespace Fb
open Go

/- laws.FnExactSumOfMoves -/
def k6 : Cd :=
  (.seq
   (.reg [2] [
     ⟨none, (some 2), .mov (.c (.bool false)), []⟩])
   (.seq
    (.reg [3] [
      ⟨none, (some 3), .mov (.c (.int .i64 1000000)), []⟩])
    (.seq
     (.reg [3] [
       ⟨none, (some 14), .mov (.t 0), []⟩,
       ⟨none, (some 15), .mov (.t 3), []⟩,
       ⟨none, (some 16), .call true 68 [.t 14, .t 15], []⟩,
       ⟨none, (some 3), .mov (.t 16), []⟩])
     (.seq
      (.seq
       (.reg [18] [
         ⟨none, (some 17), .mov (.t 3), []⟩,
         ⟨none, (some 18), .bin .lss (.t 17) (.c (.int .i64 0)), []⟩])
       (.cond (.t 18)
        (.seq
         (.reg [2] [
           ⟨none, (some 2), .mov (.c (.bool true)), []⟩])
         .ret)
        .skip))
      (.seq
       (.reg [4, 5, 6] [
         ⟨none, (some 20), .mov (.t 0), []⟩,
         ⟨none, (some 21), .call true 70 [.t 20, .c (.bool false)], []⟩,
         ⟨none, (some 22), .call true 69 [.t 21], []⟩,
         ⟨none, (some 19), .mov (.t 22), []⟩,
         ⟨none, (some 23), .ext (.t 19) 0, []⟩,
         ⟨none, (some 24), .ext (.t 19) 1, []⟩,
         ⟨none, (some 25), .ext (.t 19) 2, []⟩,
         ⟨none, (some 4), .mov (.t 23), []⟩,
         ⟨none, (some 5), .mov (.t 24), []⟩,
         ⟨none, (some 6), .mov (.t 25), []⟩])
       (.seq
        (.reg [7] [
          ⟨none, (some 26), .mov (.t 0), []⟩,
          ⟨none, (some 27), .call true 70 [.t 26, .c (.bool false)], []⟩,
          ⟨none, (some 7), .mov (.t 27), []⟩])
        (.seq
         (.reg [8, 9, 10] [
           ⟨none, (some 29), .mov (.t 7), []⟩,
           ⟨none, (some 30), .call true 71 [.t 29], []⟩,
           ⟨none, (some 28), .mov (.t 30), []⟩,
           ⟨none, (some 31), .ext (.t 28) 0, []⟩,
           ⟨none, (some 32), .ext (.t 28) 1, []⟩,
           ⟨none, (some 33), .ext (.t 28) 2, []⟩,
           ⟨none, (some 8), .mov (.t 31), []⟩,
           ⟨none, (some 9), .mov (.t 32), []⟩,
           ⟨none, (some 10), .mov (.t 33), []⟩])
         (.seq
          (.seq
           (.reg [46] [
             ⟨none, (some 34), .mov (.t 8), []⟩,
             ⟨none, (some 35), .mov (.t 4), []⟩,
             ⟨none, (some 36), .bin .neq (.t 34) (.t 35), []⟩,
             ⟨none, (some 37), .mov (.t 36), []⟩,
             ⟨(some (37, false)), (some 38), .mov (.t 9), []⟩,
             ⟨(some (37, false)), (some 39), .mov (.t 5), []⟩,
             ⟨(some (37, false)), (some 40), .bin .neq (.t 38) (.t 39), []⟩,
             ⟨none, (some 41), .pick (.t 37) (.c (.bool true)) (.t 40), []⟩,
             ⟨none, (some 42), .mov (.t 41), []⟩,
             ⟨(some (42, false)), (some 43), .mov (.t 10), []⟩,
             ⟨(some (42, false)), (some 44), .mov (.t 6), []⟩,
             ⟨(some (42, false)), (some 45), .bin .neq (.t 43) (.t 44), []⟩,
             ⟨none, (some 46), .pick (.t 42) (.c (.bool true)) (.t 45), []⟩])
           (.cond (.t 46)
            (.seq
             (.reg [2] [
               ⟨none, (some 2), .mov (.c (.bool false)), []⟩])
             .ret)
            .skip))
          (.seq
           (.seq
            (.reg [51] [
              ⟨none, (some 47), .mov (.t 7), []⟩,
              ⟨none, (some 48), .mov (.t 0), []⟩,
              ⟨none, (some 49), .call true 70 [.t 48, .c (.bool false)], []⟩,
              ⟨none, (some 50), .call true 72 [.t 47, .t 49], []⟩,
              ⟨none, (some 51), .un .not (.t 50), []⟩])
            (.cond (.t 51)
             (.seq
              (.reg [2] [
                ⟨none, (some 2), .mov (.c (.bool false)), []⟩])
              .ret)
             .skip))
           (.seq
            (.reg [11, 12, 13] [
              ⟨none, (some 53), .mov (.t 0), []⟩,
              ⟨none, (some 54), .call true 70 [.t 53, .c (.bool true)], []⟩,
              ⟨none, (some 55), .call true 71 [.t 54], []⟩,
              ⟨none, (some 52), .mov (.t 55), []⟩,
              ⟨none, (some 56), .ext (.t 52) 0, []⟩,
              ⟨none, (some 57), .ext (.t 52) 1, []⟩,
              ⟨none, (some 58), .ext (.t 52) 2, []⟩,
              ⟨none, (some 11), .mov (.t 56), []⟩,
              ⟨none, (some 12), .mov (.t 57), []⟩,
              ⟨none, (some 13), .mov (.t 58), []⟩])
            (.seq
             (.seq
              (.reg [71] [
                ⟨none, (some 59), .mov (.t 11), []⟩,
                ⟨none, (some 60), .mov (.t 4), []⟩,
                ⟨none, (some 61), .bin .neq (.t 59) (.t 60), []⟩,
                ⟨none, (some 62), .mov (.t 61), []⟩,
                ⟨(some (62, false)), (some 63), .mov (.t 12), []⟩,
                ⟨(some (62, false)), (some 64), .mov (.t 5), []⟩,
                ⟨(some (62, false)), (some 65), .bin .neq (.t 63) (.t 64), []⟩,
                ⟨none, (some 66), .pick (.t 62) (.c (.bool true)) (.t 65), []⟩,
                ⟨none, (some 67), .mov (.t 66), []⟩,
                ⟨(some (67, false)), (some 68), .mov (.t 13), []⟩,
                ⟨(some (67, false)), (some 69), .mov (.t 6), []⟩,
                ⟨(some (67, false)), (some 70), .bin .neq (.t 68) (.t 69), []⟩,
                ⟨none, (some 71), .pick (.t 67) (.c (.bool true)) (.t 70), []⟩])
              (.cond (.t 71)
               (.seq
                (.reg [2] [
                  ⟨none, (some 2), .mov (.c (.bool false)), []⟩])
                .ret)
               .skip))
             (.seq
              (.reg [2] [
                ⟨none, (some 2), .mov (.c (.bool true)), []⟩])
              .ret))))))))))))
def c6 : Fn := { np := 1, nt := 72, kind := .pure, res := [.t 2], body := k6 }

/- laws.szMoveS -/
def k68 : Cd :=
  (.seq
   (.reg [4] [
     ⟨none, (some 4), .mov (.c (.int .i64 0)), []⟩])
   (.seq
    (.reg [1] [
      ⟨none, (some 5), .mov (.t 1), []⟩,
      ⟨none, (some 6), .mov (.t 0), []⟩,
      ⟨none, (some 7), .len (.t 6), []⟩,
      ⟨none, (some 8), .bin .sub (.t 5) (.t 7), []⟩,
      ⟨none, (some 1), .mov (.t 8), []⟩])
    (.seq
     (.seq
      (.reg [10] [
        ⟨none, (some 9), .mov (.t 1), []⟩,
        ⟨none, (some 10), .bin .lss (.t 9) (.c (.int .i64 0)), []⟩])
      (.cond (.t 10)
       (.seq
        (.reg [4] [
          ⟨none, (some 4), .mov (.c (.int .i64 (-1))), []⟩])
        .ret)
       .skip))
     (.seq
      (.reg [4] [
        ⟨none, (some 11), .mov (.t 1), []⟩,
        ⟨none, (some 4), .mov (.t 11), []⟩])
      .ret))))
def c68 : Fn := { np := 2, nt := 12, kind := .pure, res := [.t 4], body := k68 }

/- spec.SumOfMoves -/
def b69_1 : Cd :=
  (.seq
   (.seq
    (.reg [11] [
      ⟨none, (some 8), .mov (.t 7), []⟩,
      ⟨none, (some 9), .mov (.t 0), []⟩,
      ⟨none, (some 10), .len (.t 9), []⟩,
      ⟨none, (some 11), .bin .lss (.t 8) (.t 10), []⟩])
    (.cond (.t 11)
     .skip
     (.exit 0)))
   (.seq
    (.block 1
     (.seq
      (.reg [5] [
        ⟨none, (some 14), .mov (.t 5), []⟩,
        ⟨none, (some 15), .mov (.t 0), []⟩,
        ⟨none, (some 16), .mov (.t 7), []⟩,
        ⟨none, (some 17), .idxA 2 (.t 15) (.t 16), []⟩,
        ⟨none, (some 18), .fldP 0 (.t 17), []⟩,
        ⟨none, (some 19), .ld 1 false (.t 18), []⟩,
        ⟨none, (some 20), .conv .i64 (.t 19), []⟩,
        ⟨none, (some 21), .bin .add (.t 14) (.t 20), []⟩,
        ⟨none, (some 5), .mov (.t 21), []⟩])
      (.reg [6] [
        ⟨none, (some 22), .mov (.t 6), []⟩,
        ⟨none, (some 23), .mov (.t 0), []⟩,
        ⟨none, (some 24), .mov (.t 7), []⟩,
        ⟨none, (some 25), .idxA 2 (.t 23) (.t 24), []⟩,
        ⟨none, (some 26), .fldP 1 (.t 25), []⟩,
        ⟨none, (some 27), .ld 1 false (.t 26), []⟩,
        ⟨none, (some 28), .conv .i64 (.t 27), []⟩,
        ⟨none, (some 29), .bin .add (.t 22) (.t 28), []⟩,
        ⟨none, (some 6), .mov (.t 29), []⟩])))
    (.reg [7] [
      ⟨none, (some 12), .mov (.t 7), []⟩,
      ⟨none, (some 13), .bin .add (.t 12) (.c (.int .i64 1)), []⟩,
      ⟨none, (some 7), .mov (.t 13), []⟩])))
def k69 : Cd :=
  (.seq
   (.reg [2, 3, 4] [
     ⟨none, (some 2), .mov (.c (.int .i64 0)), []⟩,
     ⟨none, (some 3), .mov (.c (.int .i64 0)), []⟩,
     ⟨none, (some 4), .mov (.c (.int .i64 0)), []⟩])
   (.seq
    (.reg [5] [
      ⟨none, (some 5), .mov (.c (.int .i64 0)), []⟩])
    (.seq
     (.reg [6] [
       ⟨none, (some 6), .mov (.c (.int .i64 0)), []⟩])
     (.seq
      (.seq
       (.reg [7] [
         ⟨none, (some 7), .mov (.c (.int .i64 0)), []⟩])
       (.block 0
        (.loop b69_1)))
      (.seq
       (.reg [2, 3, 4] [
         ⟨none, (some 30), .mov (.t 5), []⟩,
         ⟨none, (some 31), .mov (.t 6), []⟩,
         ⟨none, (some 2), .mov (.t 30), []⟩,
         ⟨none, (some 3), .mov (.t 31), []⟩,
         ⟨none, (some 4), .mov (.c (.int .i64 0)), []⟩])
       .ret)))))
def c69 : Fn := { np := 1, nt := 32, kind := .pure, res := [.t 2, .t 3, .t 4], body := k69 }

/- laws.toMoveS -/
def b70_1 : Cd :=
  (.seq
   (.seq
    (.reg [24] [
      ⟨none, (some 21), .mov (.t 6), []⟩,
      ⟨none, (some 22), .mov (.t 0), []⟩,
      ⟨none, (some 23), .len (.t 22), []⟩,
      ⟨none, (some 24), .bin .lss (.t 21) (.t 23), []⟩])
    (.cond (.t 24)
     .skip
     (.exit 0)))
   (.seq
    (.block 1
     (.reg [] [
       ⟨none, (some 27), .mov (.t 5), []⟩,
       ⟨none, (some 28), .mov (.t 6), []⟩,
       ⟨none, (some 29), .mov (.t 0), []⟩,
       ⟨none, (some 30), .mov (.t 6), []⟩,
       ⟨none, (some 31), .idxA 2 (.t 29) (.t 30), []⟩,
       ⟨none, (some 32), .ld 2 true (.t 31), []⟩,
       ⟨none, (some 33), .call true 297 [.t 32], []⟩,
       ⟨none, (some 34), .idxA 2 (.t 27) (.t 28), []⟩,
       ⟨none, none, .st 2 (.t 34) (.t 33), []⟩]))
    (.reg [6] [
      ⟨none, (some 25), .mov (.t 6), []⟩,
      ⟨none, (some 26), .bin .add (.t 25) (.c (.int .i64 1)), []⟩,
      ⟨none, (some 6), .mov (.t 26), []⟩])))
def b70_2 : Cd :=
  (.seq
   (.seq
    (.reg [40] [
      ⟨none, (some 37), .mov (.t 7), []⟩,
      ⟨none, (some 38), .mov (.t 5), []⟩,
      ⟨none, (some 39), .len (.t 38), []⟩,
      ⟨none, (some 40), .bin .lss (.t 37) (.t 39), []⟩])
    (.cond (.t 40)
     .skip
     (.exit 2)))
   (.seq
    (.block 3
     (.reg [] [
       ⟨none, (some 43), .mov (.t 5), []⟩,
       ⟨none, (some 44), .mov (.t 7), []⟩,
       ⟨none, (some 45), .call true 298 [], []⟩,
       ⟨none, (some 46), .idxA 2 (.t 43) (.t 44), []⟩,
       ⟨none, none, .st 2 (.t 46) (.t 45), []⟩]))
    (.reg [7] [
      ⟨none, (some 41), .mov (.t 7), []⟩,
      ⟨none, (some 42), .bin .add (.t 41) (.c (.int .i64 1)), []⟩,
      ⟨none, (some 7), .mov (.t 42), []⟩])))
def k70 : Cd :=
  (.seq
   (.reg [4] [
     ⟨none, (some 4), .mov (.c (.slice none 0 0)), []⟩])
   (.seq
    (.seq
     (.reg [13] [
       ⟨none, (some 8), .mov (.t 1), []⟩,
       ⟨none, (some 9), .mov (.t 8), []⟩,
       ⟨(some (9, true)), (some 10), .mov (.t 0), []⟩,
       ⟨(some (9, true)), (some 11), .len (.t 10), []⟩,
       ⟨(some (9, true)), (some 12), .bin .eql (.t 11) (.c (.int .i64 0)), []⟩,
       ⟨none, (some 13), .pick (.t 9) (.t 12) (.c (.bool false)), []⟩])
     (.cond (.t 13)
      (.seq
       (.reg [4] [
         ⟨none, (some 4), .mov (.c (.slice none 0 0)), []⟩])
       .ret)
      .skip))
    (.seq
     (.reg [5] [
       ⟨none, (some 14), .mov (.t 0), []⟩,
       ⟨none, (some 15), .len (.t 14), []⟩,
       ⟨none, (some 16), .mov (.t 0), []⟩,
       ⟨none, (some 17), .len (.t 16), []⟩,
       ⟨none, (some 18), .call true 296 [.t 17], []⟩,
       ⟨none, (some 19), .bin .add (.t 15) (.t 18), []⟩,
       ⟨none, (some 20), .mkS 2 2 [.int .i8 0, .int .i8 0] (.t 19) (.t 19), []⟩,
       ⟨none, (some 5), .mov (.t 20), []⟩])
     (.seq
      (.seq
       (.reg [6] [
         ⟨none, (some 6), .mov (.c (.int .i64 0)), []⟩])
       (.block 0
        (.loop b70_1)))
      (.seq
       (.seq
        (.reg [7] [
          ⟨none, (some 35), .mov (.t 0), []⟩,
          ⟨none, (some 36), .len (.t 35), []⟩,
          ⟨none, (some 7), .mov (.t 36), []⟩])
        (.block 2
         (.loop b70_2)))
       (.seq
        (.reg [4] [
          ⟨none, (some 47), .mov (.t 5), []⟩,
          ⟨none, (some 48), .mov (.t 0), []⟩,
          ⟨none, (some 49), .len (.t 48), []⟩,
          ⟨none, (some 50), .slcA 2 (.t 47) none (some (.t 49)) none, []⟩,
          ⟨none, (some 4), .mov (.t 50), []⟩])
        .ret))))))
def c70 : Fn := { np := 2, nt := 51, kind := .pure, res := [.t 4], body := k70 }

/- impl.SumOfMoves -/
def b71_1 : Cd :=
  (.seq
   (.reg [12] [
     ⟨none, (some 12), .bin .lss (.t 11) (.t 10), []⟩])
   (.seq
    (.cond (.t 12)
     .skip
     (.exit 0))
    (.seq
     (.block 1
      (.seq
       (.reg [8] [
         ⟨none, (some 13), .idxA 2 (.t 9) (.t 11), []⟩,
         ⟨none, (some 14), .ld 2 true (.t 13), []⟩,
         ⟨none, (some 8), .zero true [.int .i8 0, .int .i8 0], []⟩,
         ⟨none, (some 8), .stV 8 none 2 (.t 14), []⟩])
       (.reg [5, 6] [
         ⟨none, (some 15), .mov (.t 5), []⟩,
         ⟨none, (some 16), .adrF 8 none 0, []⟩,
         ⟨none, (some 17), .ldV 8 (some 16) 1 false, []⟩,
         ⟨none, (some 18), .conv .i64 (.t 17), []⟩,
         ⟨none, (some 19), .bin .add (.t 15) (.t 18), []⟩,
         ⟨none, (some 20), .mov (.t 6), []⟩,
         ⟨none, (some 21), .adrF 8 none 1, []⟩,
         ⟨none, (some 22), .ldV 8 (some 21) 1 false, []⟩,
         ⟨none, (some 23), .conv .i64 (.t 22), []⟩,
         ⟨none, (some 24), .bin .add (.t 20) (.t 23), []⟩,
         ⟨none, (some 5), .mov (.t 19), []⟩,
         ⟨none, (some 6), .mov (.t 24), []⟩])))
     (.reg [11] [
       ⟨none, (some 25), .bin .add (.t 11) (.c (.int .i64 1)), []⟩,
       ⟨none, (some 11), .mov (.t 25), []⟩]))))
def k71 : Cd :=
  (.seq
   (.reg [2, 3, 4] [
     ⟨none, (some 2), .mov (.c (.int .i64 0)), []⟩,
     ⟨none, (some 3), .mov (.c (.int .i64 0)), []⟩,
     ⟨none, (some 4), .mov (.c (.int .i64 0)), []⟩])
   (.seq
    (.reg [5, 6] [
      ⟨none, (some 5), .mov (.c (.int .i64 0)), []⟩,
      ⟨none, (some 6), .mov (.c (.int .i64 0)), []⟩])
    (.seq
     (.seq
      (.reg [9, 10, 11] [
        ⟨none, (some 9), .mov (.t 0), []⟩,
        ⟨none, (some 10), .len (.t 9), []⟩,
        ⟨none, (some 11), .mov (.c (.int .i64 0)), []⟩])
      (.block 0
       (.loop b71_1)))
     (.seq
      (.reg [2, 3, 4] [
        ⟨none, (some 26), .mov (.t 5), []⟩,
        ⟨none, (some 27), .mov (.t 6), []⟩,
        ⟨none, (some 2), .mov (.t 26), []⟩,
        ⟨none, (some 3), .mov (.t 27), []⟩,
        ⟨none, (some 4), .mov (.c (.int .i64 0)), []⟩])
      .ret))))
def c71 : Fn := { np := 1, nt := 28, kind := .pure, res := [.t 2, .t 3, .t 4], body := k71 }

/- laws.intactMoveS -/
def k72 : Cd :=
  (.seq
   (.reg [4] [
     ⟨none, (some 4), .mov (.c (.bool false)), []⟩])
   (.seq
    (.reg [5] [
      ⟨none, (some 6), .mov (.t 1), []⟩,
      ⟨none, (some 7), .len (.t 6), []⟩,
      ⟨none, (some 8), .mov (.t 1), []⟩,
      ⟨none, (some 9), .len (.t 8), []⟩,
      ⟨none, (some 10), .call true 296 [.t 9], []⟩,
      ⟨none, (some 11), .bin .add (.t 7) (.t 10), []⟩,
      ⟨none, (some 5), .mov (.t 11), []⟩])
    (.seq
     (.reg [4] [
       ⟨none, (some 12), .mov (.t 0), []⟩,
       ⟨none, (some 13), .len (.t 12), []⟩,
       ⟨none, (some 14), .mov (.t 1), []⟩,
       ⟨none, (some 15), .len (.t 14), []⟩,
       ⟨none, (some 16), .bin .eql (.t 13) (.t 15), []⟩,
       ⟨none, (some 17), .mov (.t 16), []⟩,
       ⟨(some (17, true)), (some 18), .mov (.t 0), []⟩,
       ⟨(some (17, true)), (some 19), .mov (.t 5), []⟩,
       ⟨(some (17, true)), (some 20), .slcA 2 (.t 18) none (some (.t 19)) none, []⟩,
       ⟨(some (17, true)), (some 21), .mov (.t 1), []⟩,
       ⟨(some (17, true)), (some 22), .mov (.t 5), []⟩,
       ⟨(some (17, true)), (some 23), .slcA 2 (.t 21) none (some (.t 22)) none, []⟩,
       ⟨(some (17, true)), (some 24), .call true 266 [.t 20, .t 23], []⟩,
       ⟨none, (some 25), .pick (.t 17) (.t 24) (.c (.bool false)), []⟩,
       ⟨none, (some 4), .mov (.t 25), []⟩])
     .ret)))
def c72 : Fn := { np := 2, nt := 26, kind := .pure, res := [.t 4], body := k72 }

/- laws.eqMove -/
def k188 : Cd :=
  (.seq
   (.reg [2, 3, 4] [
     ⟨none, (some 2), .mov (.t 0), []⟩,
     ⟨none, (some 3), .mov (.t 1), []⟩,
     ⟨none, (some 4), .mov (.c (.bool false)), []⟩])
   (.seq
    (.seq
     (.reg [9] [
       ⟨none, (some 5), .adrF 2 none 0, []⟩,
       ⟨none, (some 6), .ldV 2 (some 5) 1 false, []⟩,
       ⟨none, (some 7), .adrF 3 none 0, []⟩,
       ⟨none, (some 8), .ldV 3 (some 7) 1 false, []⟩,
       ⟨none, (some 9), .bin .neq (.t 6) (.t 8), []⟩])
     (.cond (.t 9)
      (.seq
       (.reg [4] [
         ⟨none, (some 4), .mov (.c (.bool false)), []⟩])
       .ret)
      .skip))
    (.seq
     (.seq
      (.reg [14] [
        ⟨none, (some 10), .adrF 2 none 1, []⟩,
        ⟨none, (some 11), .ldV 2 (some 10) 1 false, []⟩,
        ⟨none, (some 12), .adrF 3 none 1, []⟩,
        ⟨none, (some 13), .ldV 3 (some 12) 1 false, []⟩,
        ⟨none, (some 14), .bin .neq (.t 11) (.t 13), []⟩])
      (.cond (.t 14)
       (.seq
        (.reg [4] [
          ⟨none, (some 4), .mov (.c (.bool false)), []⟩])
        .ret)
       .skip))
     (.seq
      (.reg [4] [
        ⟨none, (some 4), .mov (.c (.bool true)), []⟩])
      .ret))))
def c188 : Fn := { np := 2, nt := 15, kind := .pure, res := [.t 4], body := k188 }

/- laws.eqMoveS -/
def b266_1 : Cd :=
  (.seq
   (.seq
    (.reg [14] [
      ⟨none, (some 11), .mov (.t 5), []⟩,
      ⟨none, (some 12), .mov (.t 0), []⟩,
      ⟨none, (some 13), .len (.t 12), []⟩,
      ⟨none, (some 14), .bin .lss (.t 11) (.t 13), []⟩])
    (.cond (.t 14)
     .skip
     (.exit 0)))
   (.seq
    (.block 1
     (.seq
      (.reg [26] [
        ⟨none, (some 17), .mov (.t 0), []⟩,
        ⟨none, (some 18), .mov (.t 5), []⟩,
        ⟨none, (some 19), .idxA 2 (.t 17) (.t 18), []⟩,
        ⟨none, (some 20), .ld 2 true (.t 19), []⟩,
        ⟨none, (some 21), .mov (.t 1), []⟩,
        ⟨none, (some 22), .mov (.t 5), []⟩,
        ⟨none, (some 23), .idxA 2 (.t 21) (.t 22), []⟩,
        ⟨none, (some 24), .ld 2 true (.t 23), []⟩,
        ⟨none, (some 25), .call true 188 [.t 20, .t 24], []⟩,
        ⟨none, (some 26), .un .not (.t 25), []⟩])
      (.cond (.t 26)
       (.seq
        (.reg [4] [
          ⟨none, (some 4), .mov (.c (.bool false)), []⟩])
        .ret)
       .skip)))
    (.reg [5] [
      ⟨none, (some 15), .mov (.t 5), []⟩,
      ⟨none, (some 16), .bin .add (.t 15) (.c (.int .i64 1)), []⟩,
      ⟨none, (some 5), .mov (.t 16), []⟩])))
def k266 : Cd :=
  (.seq
   (.reg [4] [
     ⟨none, (some 4), .mov (.c (.bool false)), []⟩])
   (.seq
    (.seq
     (.reg [10] [
       ⟨none, (some 6), .mov (.t 0), []⟩,
       ⟨none, (some 7), .len (.t 6), []⟩,
       ⟨none, (some 8), .mov (.t 1), []⟩,
       ⟨none, (some 9), .len (.t 8), []⟩,
       ⟨none, (some 10), .bin .neq (.t 7) (.t 9), []⟩])
     (.cond (.t 10)
      (.seq
       (.reg [4] [
         ⟨none, (some 4), .mov (.c (.bool false)), []⟩])
       .ret)
      .skip))
    (.seq
     (.seq
      (.reg [5] [
        ⟨none, (some 5), .mov (.c (.int .i64 0)), []⟩])
      (.block 0
       (.loop b266_1)))
     (.seq
      (.reg [4] [
        ⟨none, (some 4), .mov (.c (.bool true)), []⟩])
      .ret))))
def c266 : Fn := { np := 2, nt := 27, kind := .pure, res := [.t 4], body := k266 }

/- laws.roomBehind -/
def k296 : Cd :=
  (.seq
   (.reg [2] [
     ⟨none, (some 2), .mov (.c (.int .i64 0)), []⟩])
   (.seq
    (.seq
     (.reg [5] [
       ⟨none, (some 3), .mov (.t 0), []⟩,
       ⟨none, (some 4), .bin .rem (.t 3) (.c (.int .i64 6)), []⟩,
       ⟨none, (some 5), .bin .eql (.t 4) (.c (.int .i64 5)), []⟩])
     (.cond (.t 5)
      (.seq
       (.reg [2] [
         ⟨none, (some 2), .mov (.c (.int .i64 0)), []⟩])
       .ret)
      .skip))
    (.seq
     (.seq
      (.reg [8] [
        ⟨none, (some 6), .mov (.t 0), []⟩,
        ⟨none, (some 7), .bin .rem (.t 6) (.c (.int .i64 3)), []⟩,
        ⟨none, (some 8), .bin .eql (.t 7) (.c (.int .i64 0)), []⟩])
      (.cond (.t 8)
       (.seq
        (.reg [2] [
          ⟨none, (some 2), .mov (.c (.int .i64 1)), []⟩])
        .ret)
       .skip))
     (.seq
      (.reg [2] [
        ⟨none, (some 9), .mov (.t 0), []⟩,
        ⟨none, (some 2), .mov (.t 9), []⟩])
      .ret))))
def c296 : Fn := { np := 1, nt := 10, kind := .pure, res := [.t 2], body := k296 }

/- laws.toMove -/
def k297 : Cd :=
  (.seq
   (.reg [1, 2] [
     ⟨none, (some 1), .mov (.t 0), []⟩,
     ⟨none, (some 2), .zero true [.int .i8 0, .int .i8 0], []⟩])
   (.seq
    (.reg [3] [
      ⟨none, (some 3), .zero true [.int .i8 0, .int .i8 0], []⟩])
    (.seq
     (.reg [3] [
       ⟨none, (some 4), .adrF 1 none 0, []⟩,
       ⟨none, (some 5), .ldV 1 (some 4) 1 false, []⟩,
       ⟨none, (some 6), .adrF 3 none 0, []⟩,
       ⟨none, (some 3), .stV 3 (some 6) 1 (.t 5), []⟩])
     (.seq
      (.reg [3] [
        ⟨none, (some 7), .adrF 1 none 1, []⟩,
        ⟨none, (some 8), .ldV 1 (some 7) 1 false, []⟩,
        ⟨none, (some 9), .adrF 3 none 1, []⟩,
        ⟨none, (some 3), .stV 3 (some 9) 1 (.t 8), []⟩])
      (.seq
       (.reg [2] [
         ⟨none, (some 10), .ldV 3 none 2 true, []⟩,
         ⟨none, (some 2), .stV 2 none 2 (.t 10), []⟩])
       .ret)))))
def c297 : Fn := { np := 1, nt := 11, kind := .pure, res := [.v 2 2 true], body := k297 }

/- laws.fillerMove -/
def k298 : Cd :=
  (.seq
   (.reg [0] [
     ⟨none, (some 0), .zero true [.int .i8 0, .int .i8 0], []⟩])
   (.seq
    (.reg [0] [
      ⟨none, (some 1), .agg [.int .i8 0, .int .i8 0] [(0, 1, (.c (.int .i8 (-101)))), (1, 1, (.c (.int .i8 (-101))))], []⟩,
      ⟨none, (some 0), .stV 0 none 2 (.t 1), []⟩])
    .ret))
def c298 : Fn := { np := 0, nt := 2, kind := .pure, res := [.v 0 2 true], body := k298 }


end Fb
