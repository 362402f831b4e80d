/- The functions of the law, in the small language. -/
import Derived.Test.YtbldpapjilnnfaaDoorDen
set_option linter.unusedVariables false
set_option linter.unusedSimpArgs false
namespace Fb
open Go

/- laws.FnExactMovesText -/
def k36 : Cd :=
  (.seq
   (.reg [2] [
     ⟨none, (some 2), .mov (.c (.bool false)), []⟩])
   (.seq
    (.reg [3] [
      ⟨none, (some 3), .mov (.c (.int .i64 1000000)), []⟩])
    (.seq
     (.reg [3] [
       ⟨none, (some 8), .mov (.t 0), []⟩,
       ⟨none, (some 9), .mov (.t 3), []⟩,
       ⟨none, (some 10), .call true 68 [.t 8, .t 9], []⟩,
       ⟨none, (some 3), .mov (.t 10), []⟩])
     (.seq
      (.seq
       (.reg [12] [
         ⟨none, (some 11), .mov (.t 3), []⟩,
         ⟨none, (some 12), .bin .lss (.t 11) (.c (.int .i64 0)), []⟩])
       (.cond (.t 12)
        (.seq
         (.reg [2] [
           ⟨none, (some 2), .mov (.c (.bool true)), []⟩])
         .ret)
        .skip))
      (.seq
       (.reg [4] [
         ⟨none, (some 13), .mov (.t 0), []⟩,
         ⟨none, (some 14), .call true 70 [.t 13, .c (.bool false)], []⟩,
         ⟨none, (some 15), .call true 197 [.t 14], []⟩,
         ⟨none, (some 4), .mov (.t 15), []⟩])
       (.seq
        (.reg [5] [
          ⟨none, (some 16), .mov (.t 0), []⟩,
          ⟨none, (some 17), .call true 70 [.t 16, .c (.bool false)], []⟩,
          ⟨none, (some 5), .mov (.t 17), []⟩])
        (.seq
         (.reg [6] [
           ⟨none, (some 18), .mov (.t 5), []⟩,
           ⟨none, (some 19), .call true 154 [.t 18], []⟩,
           ⟨none, (some 6), .mov (.t 19), []⟩])
         (.seq
          (.seq
           (.reg [22] [
             ⟨none, (some 20), .mov (.t 6), []⟩,
             ⟨none, (some 21), .mov (.t 4), []⟩,
             ⟨none, (some 22), .eq .s true (.t 20) (.t 21), []⟩])
           (.cond (.t 22)
            (.seq
             (.reg [2] [
               ⟨none, (some 2), .mov (.c (.bool false)), []⟩])
             .ret)
            .skip))
          (.seq
           (.seq
            (.reg [27] [
              ⟨none, (some 23), .mov (.t 5), []⟩,
              ⟨none, (some 24), .mov (.t 0), []⟩,
              ⟨none, (some 25), .call true 70 [.t 24, .c (.bool false)], []⟩,
              ⟨none, (some 26), .call true 72 [.t 23, .t 25], []⟩,
              ⟨none, (some 27), .un .not (.t 26), []⟩])
            (.cond (.t 27)
             (.seq
              (.reg [2] [
                ⟨none, (some 2), .mov (.c (.bool false)), []⟩])
              .ret)
             .skip))
           (.seq
            (.reg [7] [
              ⟨none, (some 28), .mov (.t 0), []⟩,
              ⟨none, (some 29), .call true 70 [.t 28, .c (.bool true)], []⟩,
              ⟨none, (some 30), .call true 154 [.t 29], []⟩,
              ⟨none, (some 7), .mov (.t 30), []⟩])
            (.seq
             (.seq
              (.reg [33] [
                ⟨none, (some 31), .mov (.t 7), []⟩,
                ⟨none, (some 32), .mov (.t 4), []⟩,
                ⟨none, (some 33), .eq .s true (.t 31) (.t 32), []⟩])
              (.cond (.t 33)
               (.seq
                (.reg [2] [
                  ⟨none, (some 2), .mov (.c (.bool false)), []⟩])
                .ret)
               .skip))
             (.seq
              (.reg [2] [
                ⟨none, (some 2), .mov (.c (.bool true)), []⟩])
              .ret))))))))))))
def c36 : Fn := { np := 1, nt := 34, kind := .pure, res := [.t 2], body := k36 }

/- laws.szMoveS -/
def k68 : Cd :=
  (.seq
   (.reg [4] [
     ⟨none, (some 4), .mov (.c (.int .i64 0)), []⟩])
   (.seq
    (.reg [1] [
      ⟨none, (some 5), .mov (.t 1), []⟩,
      ⟨none, (some 6), .mov (.t 0), []⟩,
      ⟨none, (some 7), .len (.t 6), []⟩,
      ⟨none, (some 8), .bin .sub (.t 5) (.t 7), []⟩,
      ⟨none, (some 1), .mov (.t 8), []⟩])
    (.seq
     (.seq
      (.reg [10] [
        ⟨none, (some 9), .mov (.t 1), []⟩,
        ⟨none, (some 10), .bin .lss (.t 9) (.c (.int .i64 0)), []⟩])
      (.cond (.t 10)
       (.seq
        (.reg [4] [
          ⟨none, (some 4), .mov (.c (.int .i64 (-1))), []⟩])
        .ret)
       .skip))
     (.seq
      (.reg [4] [
        ⟨none, (some 11), .mov (.t 1), []⟩,
        ⟨none, (some 4), .mov (.t 11), []⟩])
      .ret))))
def c68 : Fn := { np := 2, nt := 12, kind := .pure, res := [.t 4], body := k68 }

/- laws.toMoveS -/
def b70_1 : Cd :=
  (.seq
   (.seq
    (.reg [24] [
      ⟨none, (some 21), .mov (.t 6), []⟩,
      ⟨none, (some 22), .mov (.t 0), []⟩,
      ⟨none, (some 23), .len (.t 22), []⟩,
      ⟨none, (some 24), .bin .lss (.t 21) (.t 23), []⟩])
    (.cond (.t 24)
     .skip
     (.exit 0)))
   (.seq
    (.block 1
     (.reg [] [
       ⟨none, (some 27), .mov (.t 5), []⟩,
       ⟨none, (some 28), .mov (.t 6), []⟩,
       ⟨none, (some 29), .mov (.t 0), []⟩,
       ⟨none, (some 30), .mov (.t 6), []⟩,
       ⟨none, (some 31), .idxA 2 (.t 29) (.t 30), []⟩,
       ⟨none, (some 32), .ld 2 true (.t 31), []⟩,
       ⟨none, (some 33), .call true 297 [.t 32], []⟩,
       ⟨none, (some 34), .idxA 2 (.t 27) (.t 28), []⟩,
       ⟨none, none, .st 2 (.t 34) (.t 33), []⟩]))
    (.reg [6] [
      ⟨none, (some 25), .mov (.t 6), []⟩,
      ⟨none, (some 26), .bin .add (.t 25) (.c (.int .i64 1)), []⟩,
      ⟨none, (some 6), .mov (.t 26), []⟩])))
def b70_2 : Cd :=
  (.seq
   (.seq
    (.reg [40] [
      ⟨none, (some 37), .mov (.t 7), []⟩,
      ⟨none, (some 38), .mov (.t 5), []⟩,
      ⟨none, (some 39), .len (.t 38), []⟩,
      ⟨none, (some 40), .bin .lss (.t 37) (.t 39), []⟩])
    (.cond (.t 40)
     .skip
     (.exit 2)))
   (.seq
    (.block 3
     (.reg [] [
       ⟨none, (some 43), .mov (.t 5), []⟩,
       ⟨none, (some 44), .mov (.t 7), []⟩,
       ⟨none, (some 45), .call true 298 [], []⟩,
       ⟨none, (some 46), .idxA 2 (.t 43) (.t 44), []⟩,
       ⟨none, none, .st 2 (.t 46) (.t 45), []⟩]))
    (.reg [7] [
      ⟨none, (some 41), .mov (.t 7), []⟩,
      ⟨none, (some 42), .bin .add (.t 41) (.c (.int .i64 1)), []⟩,
      ⟨none, (some 7), .mov (.t 42), []⟩])))
def k70 : Cd :=
  (.seq
   (.reg [4] [
     ⟨none, (some 4), .mov (.c (.slice none 0 0)), []⟩])
   (.seq
    (.seq
     (.reg [13] [
       ⟨none, (some 8), .mov (.t 1), []⟩,
       ⟨none, (some 9), .mov (.t 8), []⟩,
       ⟨(some (9, true)), (some 10), .mov (.t 0), []⟩,
       ⟨(some (9, true)), (some 11), .len (.t 10), []⟩,
       ⟨(some (9, true)), (some 12), .bin .eql (.t 11) (.c (.int .i64 0)), []⟩,
       ⟨none, (some 13), .pick (.t 9) (.t 12) (.c (.bool false)), []⟩])
     (.cond (.t 13)
      (.seq
       (.reg [4] [
         ⟨none, (some 4), .mov (.c (.slice none 0 0)), []⟩])
       .ret)
      .skip))
    (.seq
     (.reg [5] [
       ⟨none, (some 14), .mov (.t 0), []⟩,
       ⟨none, (some 15), .len (.t 14), []⟩,
       ⟨none, (some 16), .mov (.t 0), []⟩,
       ⟨none, (some 17), .len (.t 16), []⟩,
       ⟨none, (some 18), .call true 296 [.t 17], []⟩,
       ⟨none, (some 19), .bin .add (.t 15) (.t 18), []⟩,
       ⟨none, (some 20), .mkS 2 2 [.int .i8 0, .int .i8 0] (.t 19) (.t 19), []⟩,
       ⟨none, (some 5), .mov (.t 20), []⟩])
     (.seq
      (.seq
       (.reg [6] [
         ⟨none, (some 6), .mov (.c (.int .i64 0)), []⟩])
       (.block 0
        (.loop b70_1)))
      (.seq
       (.seq
        (.reg [7] [
          ⟨none, (some 35), .mov (.t 0), []⟩,
          ⟨none, (some 36), .len (.t 35), []⟩,
          ⟨none, (some 7), .mov (.t 36), []⟩])
        (.block 2
         (.loop b70_2)))
       (.seq
        (.reg [4] [
          ⟨none, (some 47), .mov (.t 5), []⟩,
          ⟨none, (some 48), .mov (.t 0), []⟩,
          ⟨none, (some 49), .len (.t 48), []⟩,
          ⟨none, (some 50), .slcA 2 (.t 47) none (some (.t 49)) none, []⟩,
          ⟨none, (some 4), .mov (.t 50), []⟩])
        .ret))))))
def c70 : Fn := { np := 2, nt := 51, kind := .pure, res := [.t 4], body := k70 }

/- laws.intactMoveS -/
def k72 : Cd :=
  (.seq
   (.reg [4] [
     ⟨none, (some 4), .mov (.c (.bool false)), []⟩])
   (.seq
    (.reg [5] [
      ⟨none, (some 6), .mov (.t 1), []⟩,
      ⟨none, (some 7), .len (.t 6), []⟩,
      ⟨none, (some 8), .mov (.t 1), []⟩,
      ⟨none, (some 9), .len (.t 8), []⟩,
      ⟨none, (some 10), .call true 296 [.t 9], []⟩,
      ⟨none, (some 11), .bin .add (.t 7) (.t 10), []⟩,
      ⟨none, (some 5), .mov (.t 11), []⟩])
    (.seq
     (.reg [4] [
       ⟨none, (some 12), .mov (.t 0), []⟩,
       ⟨none, (some 13), .len (.t 12), []⟩,
       ⟨none, (some 14), .mov (.t 1), []⟩,
       ⟨none, (some 15), .len (.t 14), []⟩,
       ⟨none, (some 16), .bin .eql (.t 13) (.t 15), []⟩,
       ⟨none, (some 17), .mov (.t 16), []⟩,
       ⟨(some (17, true)), (some 18), .mov (.t 0), []⟩,
       ⟨(some (17, true)), (some 19), .mov (.t 5), []⟩,
       ⟨(some (17, true)), (some 20), .slcA 2 (.t 18) none (some (.t 19)) none, []⟩,
       ⟨(some (17, true)), (some 21), .mov (.t 1), []⟩,
       ⟨(some (17, true)), (some 22), .mov (.t 5), []⟩,
       ⟨(some (17, true)), (some 23), .slcA 2 (.t 21) none (some (.t 22)) none, []⟩,
       ⟨(some (17, true)), (some 24), .call true 266 [.t 20, .t 23], []⟩,
       ⟨none, (some 25), .pick (.t 17) (.t 24) (.c (.bool false)), []⟩,
       ⟨none, (some 4), .mov (.t 25), []⟩])
     .ret)))
def c72 : Fn := { np := 2, nt := 26, kind := .pure, res := [.t 4], body := k72 }

/- impl.MovesText -/
def b154_1 : Cd :=
  (.seq
   (.reg [10] [
     ⟨none, (some 10), .bin .lss (.t 9) (.t 8), []⟩])
   (.seq
    (.cond (.t 10)
     .skip
     (.exit 0))
    (.seq
     (.block 1
      (.seq
       (.reg [5] [
         ⟨none, (some 11), .idxA 2 (.t 7) (.t 9), []⟩,
         ⟨none, (some 12), .ld 2 true (.t 11), []⟩,
         ⟨none, (some 5), .zero true [.int .i8 0, .int .i8 0], []⟩,
         ⟨none, (some 5), .stV 5 none 2 (.t 12), []⟩])
       (.seq
        (.seq
         (.reg [24] [
           ⟨none, (some 13), .adrF 5 none 0, []⟩,
           ⟨none, (some 14), .ldV 5 (some 13) 1 false, []⟩,
           ⟨none, (some 15), .conv .i64 (.t 14), []⟩,
           ⟨none, (some 16), .call true 295 [.t 15, .c (.int .i64 (-12)), .c (.int .i64 12)], []⟩,
           ⟨none, (some 17), .un .not (.t 16), []⟩,
           ⟨none, (some 18), .mov (.t 17), []⟩,
           ⟨(some (18, false)), (some 19), .adrF 5 none 1, []⟩,
           ⟨(some (18, false)), (some 20), .ldV 5 (some 19) 1 false, []⟩,
           ⟨(some (18, false)), (some 21), .conv .i64 (.t 20), []⟩,
           ⟨(some (18, false)), (some 22), .call true 295 [.t 21, .c (.int .i64 (-12)), .c (.int .i64 12)], []⟩,
           ⟨(some (18, false)), (some 23), .un .not (.t 22), []⟩,
           ⟨none, (some 24), .pick (.t 18) (.c (.bool true)) (.t 23), []⟩])
         (.cond (.t 24)
          (.seq
           (.reg [2] [
             ⟨none, (some 2), .mov (.c (.string ⟨#[]⟩)), []⟩])
           .ret)
          .skip))
        (.reg [3] [
          ⟨none, (some 25), .mov (.t 3), []⟩,
          ⟨none, (some 26), .adrF 5 none 0, []⟩,
          ⟨none, (some 27), .ldV 5 (some 26) 1 false, []⟩,
          ⟨none, (some 28), .conv .i64 (.t 27), []⟩,
          ⟨none, (some 31), .adrF 5 none 1, []⟩,
          ⟨none, (some 32), .ldV 5 (some 31) 1 false, []⟩,
          ⟨none, (some 33), .conv .i64 (.t 32), []⟩,
          ⟨none, (some 29), .call true 379 [.t 28], []⟩,
          ⟨none, (some 30), .bin .add (.t 29) (.c (.string ⟨#[47]⟩)), []⟩,
          ⟨none, (some 34), .call true 379 [.t 33], []⟩,
          ⟨none, (some 35), .bin .add (.t 30) (.t 34), []⟩,
          ⟨none, (some 36), .bldS 1 1 [.string ⟨#[]⟩] [(0, 1, (.t 35))], []⟩,
          ⟨none, (some 37), .app 1 16 (.t 25) (.t 36), []⟩,
          ⟨none, (some 3), .mov (.t 37), []⟩]))))
     (.reg [9] [
       ⟨none, (some 38), .bin .add (.t 9) (.c (.int .i64 1)), []⟩,
       ⟨none, (some 9), .mov (.t 38), []⟩]))))
def k154 : Cd :=
  (.seq
   (.reg [2] [
     ⟨none, (some 2), .mov (.c (.string ⟨#[]⟩)), []⟩])
   (.seq
    (.reg [3] [
      ⟨none, (some 6), .bldS 1 0 [.string ⟨#[]⟩] [], []⟩,
      ⟨none, (some 3), .mov (.t 6), []⟩])
    (.seq
     (.seq
      (.reg [7, 8, 9] [
        ⟨none, (some 7), .mov (.t 0), []⟩,
        ⟨none, (some 8), .len (.t 7), []⟩,
        ⟨none, (some 9), .mov (.c (.int .i64 0)), []⟩])
      (.block 0
       (.loop b154_1)))
     (.seq
      (.reg [2] [
        ⟨none, (some 39), .mov (.t 3), []⟩,
        ⟨none, (some 40), .call false 380 [.t 39, .c (.string ⟨#[32]⟩)], []⟩,
        ⟨none, (some 2), .mov (.t 40), []⟩])
      .ret))))
def c154 : Fn := { np := 1, nt := 41, kind := .pure, res := [.t 2], body := k154 }

/- laws.eqMove -/
def k188 : Cd :=
  (.seq
   (.reg [2, 3, 4] [
     ⟨none, (some 2), .mov (.t 0), []⟩,
     ⟨none, (some 3), .mov (.t 1), []⟩,
     ⟨none, (some 4), .mov (.c (.bool false)), []⟩])
   (.seq
    (.seq
     (.reg [9] [
       ⟨none, (some 5), .adrF 2 none 0, []⟩,
       ⟨none, (some 6), .ldV 2 (some 5) 1 false, []⟩,
       ⟨none, (some 7), .adrF 3 none 0, []⟩,
       ⟨none, (some 8), .ldV 3 (some 7) 1 false, []⟩,
       ⟨none, (some 9), .bin .neq (.t 6) (.t 8), []⟩])
     (.cond (.t 9)
      (.seq
       (.reg [4] [
         ⟨none, (some 4), .mov (.c (.bool false)), []⟩])
       .ret)
      .skip))
    (.seq
     (.seq
      (.reg [14] [
        ⟨none, (some 10), .adrF 2 none 1, []⟩,
        ⟨none, (some 11), .ldV 2 (some 10) 1 false, []⟩,
        ⟨none, (some 12), .adrF 3 none 1, []⟩,
        ⟨none, (some 13), .ldV 3 (some 12) 1 false, []⟩,
        ⟨none, (some 14), .bin .neq (.t 11) (.t 13), []⟩])
      (.cond (.t 14)
       (.seq
        (.reg [4] [
          ⟨none, (some 4), .mov (.c (.bool false)), []⟩])
        .ret)
       .skip))
     (.seq
      (.reg [4] [
        ⟨none, (some 4), .mov (.c (.bool true)), []⟩])
      .ret))))
def c188 : Fn := { np := 2, nt := 15, kind := .pure, res := [.t 4], body := k188 }

/- spec.MovesText -/
def k197 : Cd :=
  (.seq
   (.reg [2] [
     ⟨none, (some 2), .mov (.c (.string ⟨#[]⟩)), []⟩])
   (.seq
    (.seq
     (.reg [5] [
       ⟨none, (some 3), .mov (.t 0), []⟩,
       ⟨none, (some 4), .call true 414 [.t 3], []⟩,
       ⟨none, (some 5), .un .not (.t 4), []⟩])
     (.cond (.t 5)
      (.seq
       (.reg [2] [
         ⟨none, (some 2), .mov (.c (.string ⟨#[]⟩)), []⟩])
       .ret)
      .skip))
    (.seq
     (.reg [2] [
       ⟨none, (some 6), .mov (.t 0), []⟩,
       ⟨none, (some 7), .call true 415 [.t 6], []⟩,
       ⟨none, (some 2), .mov (.t 7), []⟩])
     .ret)))
def c197 : Fn := { np := 1, nt := 8, kind := .pure, res := [.t 2], body := k197 }

/- laws.eqMoveS -/
def b266_1 : Cd :=
  (.seq
   (.seq
    (.reg [14] [
      ⟨none, (some 11), .mov (.t 5), []⟩,
      ⟨none, (some 12), .mov (.t 0), []⟩,
      ⟨none, (some 13), .len (.t 12), []⟩,
      ⟨none, (some 14), .bin .lss (.t 11) (.t 13), []⟩])
    (.cond (.t 14)
     .skip
     (.exit 0)))
   (.seq
    (.block 1
     (.seq
      (.reg [26] [
        ⟨none, (some 17), .mov (.t 0), []⟩,
        ⟨none, (some 18), .mov (.t 5), []⟩,
        ⟨none, (some 19), .idxA 2 (.t 17) (.t 18), []⟩,
        ⟨none, (some 20), .ld 2 true (.t 19), []⟩,
        ⟨none, (some 21), .mov (.t 1), []⟩,
        ⟨none, (some 22), .mov (.t 5), []⟩,
        ⟨none, (some 23), .idxA 2 (.t 21) (.t 22), []⟩,
        ⟨none, (some 24), .ld 2 true (.t 23), []⟩,
        ⟨none, (some 25), .call true 188 [.t 20, .t 24], []⟩,
        ⟨none, (some 26), .un .not (.t 25), []⟩])
      (.cond (.t 26)
       (.seq
        (.reg [4] [
          ⟨none, (some 4), .mov (.c (.bool false)), []⟩])
        .ret)
       .skip)))
    (.reg [5] [
      ⟨none, (some 15), .mov (.t 5), []⟩,
      ⟨none, (some 16), .bin .add (.t 15) (.c (.int .i64 1)), []⟩,
      ⟨none, (some 5), .mov (.t 16), []⟩])))
def k266 : Cd :=
  (.seq
   (.reg [4] [
     ⟨none, (some 4), .mov (.c (.bool false)), []⟩])
   (.seq
    (.seq
     (.reg [10] [
       ⟨none, (some 6), .mov (.t 0), []⟩,
       ⟨none, (some 7), .len (.t 6), []⟩,
       ⟨none, (some 8), .mov (.t 1), []⟩,
       ⟨none, (some 9), .len (.t 8), []⟩,
       ⟨none, (some 10), .bin .neq (.t 7) (.t 9), []⟩])
     (.cond (.t 10)
      (.seq
       (.reg [4] [
         ⟨none, (some 4), .mov (.c (.bool false)), []⟩])
       .ret)
      .skip))
    (.seq
     (.seq
      (.reg [5] [
        ⟨none, (some 5), .mov (.c (.int .i64 0)), []⟩])
      (.block 0
       (.loop b266_1)))
     (.seq
      (.reg [4] [
        ⟨none, (some 4), .mov (.c (.bool true)), []⟩])
      .ret))))
def c266 : Fn := { np := 2, nt := 27, kind := .pure, res := [.t 4], body := k266 }

/- impl.inRange -/
def k295 : Cd :=
  (.seq
   (.reg [6] [
     ⟨none, (some 6), .mov (.c (.bool false)), []⟩])
   (.seq
    (.reg [6] [
      ⟨none, (some 7), .mov (.t 1), []⟩,
      ⟨none, (some 8), .mov (.t 0), []⟩,
      ⟨none, (some 9), .bin .leq (.t 7) (.t 8), []⟩,
      ⟨none, (some 10), .mov (.t 9), []⟩,
      ⟨(some (10, true)), (some 11), .mov (.t 0), []⟩,
      ⟨(some (10, true)), (some 12), .mov (.t 2), []⟩,
      ⟨(some (10, true)), (some 13), .bin .leq (.t 11) (.t 12), []⟩,
      ⟨none, (some 14), .pick (.t 10) (.t 13) (.c (.bool false)), []⟩,
      ⟨none, (some 6), .mov (.t 14), []⟩])
    .ret))
def c295 : Fn := { np := 3, nt := 15, kind := .pure, res := [.t 6], body := k295 }

/- laws.roomBehind -/
def k296 : Cd :=
  (.seq
   (.reg [2] [
     ⟨none, (some 2), .mov (.c (.int .i64 0)), []⟩])
   (.seq
    (.seq
     (.reg [5] [
       ⟨none, (some 3), .mov (.t 0), []⟩,
       ⟨none, (some 4), .bin .rem (.t 3) (.c (.int .i64 6)), []⟩,
       ⟨none, (some 5), .bin .eql (.t 4) (.c (.int .i64 5)), []⟩])
     (.cond (.t 5)
      (.seq
       (.reg [2] [
         ⟨none, (some 2), .mov (.c (.int .i64 0)), []⟩])
       .ret)
      .skip))
    (.seq
     (.seq
      (.reg [8] [
        ⟨none, (some 6), .mov (.t 0), []⟩,
        ⟨none, (some 7), .bin .rem (.t 6) (.c (.int .i64 3)), []⟩,
        ⟨none, (some 8), .bin .eql (.t 7) (.c (.int .i64 0)), []⟩])
      (.cond (.t 8)
       (.seq
        (.reg [2] [
          ⟨none, (some 2), .mov (.c (.int .i64 1)), []⟩])
        .ret)
       .skip))
     (.seq
      (.reg [2] [
        ⟨none, (some 9), .mov (.t 0), []⟩,
        ⟨none, (some 2), .mov (.t 9), []⟩])
      .ret))))
def c296 : Fn := { np := 1, nt := 10, kind := .pure, res := [.t 2], body := k296 }

/- laws.toMove -/
def k297 : Cd :=
  (.seq
   (.reg [1, 2] [
     ⟨none, (some 1), .mov (.t 0), []⟩,
     ⟨none, (some 2), .zero true [.int .i8 0, .int .i8 0], []⟩])
   (.seq
    (.reg [3] [
      ⟨none, (some 3), .zero true [.int .i8 0, .int .i8 0], []⟩])
    (.seq
     (.reg [3] [
       ⟨none, (some 4), .adrF 1 none 0, []⟩,
       ⟨none, (some 5), .ldV 1 (some 4) 1 false, []⟩,
       ⟨none, (some 6), .adrF 3 none 0, []⟩,
       ⟨none, (some 3), .stV 3 (some 6) 1 (.t 5), []⟩])
     (.seq
      (.reg [3] [
        ⟨none, (some 7), .adrF 1 none 1, []⟩,
        ⟨none, (some 8), .ldV 1 (some 7) 1 false, []⟩,
        ⟨none, (some 9), .adrF 3 none 1, []⟩,
        ⟨none, (some 3), .stV 3 (some 9) 1 (.t 8), []⟩])
      (.seq
       (.reg [2] [
         ⟨none, (some 10), .ldV 3 none 2 true, []⟩,
         ⟨none, (some 2), .stV 2 none 2 (.t 10), []⟩])
       .ret)))))
def c297 : Fn := { np := 1, nt := 11, kind := .pure, res := [.v 2 2 true], body := k297 }

/- laws.fillerMove -/
def k298 : Cd :=
  (.seq
   (.reg [0] [
     ⟨none, (some 0), .zero true [.int .i8 0, .int .i8 0], []⟩])
   (.seq
    (.reg [0] [
      ⟨none, (some 1), .agg [.int .i8 0, .int .i8 0] [(0, 1, (.c (.int .i8 (-101)))), (1, 1, (.c (.int .i8 (-101))))], []⟩,
      ⟨none, (some 0), .stV 0 none 2 (.t 1), []⟩])
    .ret))
def c298 : Fn := { np := 0, nt := 2, kind := .pure, res := [.v 0 2 true], body := k298 }

/- spec.l00In -/
def k304 : Cd :=
  (.seq
   (.reg [6] [
     ⟨none, (some 6), .mov (.c (.bool false)), []⟩])
   (.seq
    (.reg [6] [
      ⟨none, (some 7), .mov (.t 0), []⟩,
      ⟨none, (some 8), .mov (.t 1), []⟩,
      ⟨none, (some 9), .bin .geq (.t 7) (.t 8), []⟩,
      ⟨none, (some 10), .mov (.t 9), []⟩,
      ⟨(some (10, true)), (some 11), .mov (.t 0), []⟩,
      ⟨(some (10, true)), (some 12), .mov (.t 2), []⟩,
      ⟨(some (10, true)), (some 13), .bin .leq (.t 11) (.t 12), []⟩,
      ⟨none, (some 14), .pick (.t 10) (.t 13) (.c (.bool false)), []⟩,
      ⟨none, (some 6), .mov (.t 14), []⟩])
    .ret))
def c304 : Fn := { np := 3, nt := 15, kind := .pure, res := [.t 6], body := k304 }

/- impl.decimal -/
def k379 : Cd :=
  (.seq
   (.reg [2] [
     ⟨none, (some 2), .mov (.c (.string ⟨#[]⟩)), []⟩])
   (.seq
    (.reg [2] [
      ⟨none, (some 3), .mov (.t 0), []⟩,
      ⟨none, (some 4), .call false 522 [.t 3, .c (.int .i64 10)], []⟩,
      ⟨none, (some 2), .mov (.t 4), []⟩])
    .ret))
def c379 : Fn := { np := 1, nt := 5, kind := .pure, res := [.t 2], body := k379 }

/- spec.l07Plain -/
def b414_1 : Cd :=
  (.seq
   (.seq
    (.reg [7] [
      ⟨none, (some 4), .mov (.t 3), []⟩,
      ⟨none, (some 5), .mov (.t 0), []⟩,
      ⟨none, (some 6), .len (.t 5), []⟩,
      ⟨none, (some 7), .bin .lss (.t 4) (.t 6), []⟩])
    (.cond (.t 7)
     .skip
     (.exit 0)))
   (.seq
    (.block 1
     (.seq
      (.reg [27] [
        ⟨none, (some 10), .mov (.t 0), []⟩,
        ⟨none, (some 11), .mov (.t 3), []⟩,
        ⟨none, (some 12), .idxA 2 (.t 10) (.t 11), []⟩,
        ⟨none, (some 13), .fldP 0 (.t 12), []⟩,
        ⟨none, (some 14), .ld 1 false (.t 13), []⟩,
        ⟨none, (some 15), .conv .i64 (.t 14), []⟩,
        ⟨none, (some 16), .call true 304 [.t 15, .c (.int .i64 (-12)), .c (.int .i64 12)], []⟩,
        ⟨none, (some 17), .un .not (.t 16), []⟩,
        ⟨none, (some 18), .mov (.t 17), []⟩,
        ⟨(some (18, false)), (some 19), .mov (.t 0), []⟩,
        ⟨(some (18, false)), (some 20), .mov (.t 3), []⟩,
        ⟨(some (18, false)), (some 21), .idxA 2 (.t 19) (.t 20), []⟩,
        ⟨(some (18, false)), (some 22), .fldP 1 (.t 21), []⟩,
        ⟨(some (18, false)), (some 23), .ld 1 false (.t 22), []⟩,
        ⟨(some (18, false)), (some 24), .conv .i64 (.t 23), []⟩,
        ⟨(some (18, false)), (some 25), .call true 304 [.t 24, .c (.int .i64 (-12)), .c (.int .i64 12)], []⟩,
        ⟨(some (18, false)), (some 26), .un .not (.t 25), []⟩,
        ⟨none, (some 27), .pick (.t 18) (.c (.bool true)) (.t 26), []⟩])
      (.cond (.t 27)
       (.seq
        (.reg [2] [
          ⟨none, (some 2), .mov (.c (.bool false)), []⟩])
        .ret)
       .skip)))
    (.reg [3] [
      ⟨none, (some 8), .mov (.t 3), []⟩,
      ⟨none, (some 9), .bin .add (.t 8) (.c (.int .i64 1)), []⟩,
      ⟨none, (some 3), .mov (.t 9), []⟩])))
def k414 : Cd :=
  (.seq
   (.reg [2] [
     ⟨none, (some 2), .mov (.c (.bool false)), []⟩])
   (.seq
    (.seq
     (.reg [3] [
       ⟨none, (some 3), .mov (.c (.int .i64 0)), []⟩])
     (.block 0
      (.loop b414_1)))
    (.seq
     (.reg [2] [
       ⟨none, (some 2), .mov (.c (.bool true)), []⟩])
     .ret)))
def c414 : Fn := { np := 1, nt := 28, kind := .pure, res := [.t 2], body := k414 }

/- spec.l07Text -/
def b415_1 : Cd :=
  (.seq
   (.seq
    (.reg [8] [
      ⟨none, (some 5), .mov (.t 4), []⟩,
      ⟨none, (some 6), .mov (.t 0), []⟩,
      ⟨none, (some 7), .len (.t 6), []⟩,
      ⟨none, (some 8), .bin .lss (.t 5) (.t 7), []⟩])
    (.cond (.t 8)
     .skip
     (.exit 0)))
   (.seq
    (.block 1
     (.seq
      (.seq
       (.reg [12] [
         ⟨none, (some 11), .mov (.t 4), []⟩,
         ⟨none, (some 12), .bin .gtr (.t 11) (.c (.int .i64 0)), []⟩])
       (.cond (.t 12)
        (.reg [3] [
          ⟨none, (some 13), .mov (.t 3), []⟩,
          ⟨none, (some 14), .bin .add (.t 13) (.c (.string ⟨#[32]⟩)), []⟩,
          ⟨none, (some 3), .mov (.t 14), []⟩])
        .skip))
      (.reg [3] [
        ⟨none, (some 15), .mov (.t 3), []⟩,
        ⟨none, (some 16), .mov (.t 0), []⟩,
        ⟨none, (some 17), .mov (.t 4), []⟩,
        ⟨none, (some 18), .idxA 2 (.t 16) (.t 17), []⟩,
        ⟨none, (some 19), .fldP 0 (.t 18), []⟩,
        ⟨none, (some 20), .ld 1 false (.t 19), []⟩,
        ⟨none, (some 23), .mov (.t 0), []⟩,
        ⟨none, (some 24), .mov (.t 4), []⟩,
        ⟨none, (some 25), .idxA 2 (.t 23) (.t 24), []⟩,
        ⟨none, (some 26), .fldP 1 (.t 25), []⟩,
        ⟨none, (some 27), .ld 1 false (.t 26), []⟩,
        ⟨none, (some 21), .call true 536 [.t 20], []⟩,
        ⟨none, (some 22), .bin .add (.t 21) (.c (.string ⟨#[47]⟩)), []⟩,
        ⟨none, (some 28), .call true 536 [.t 27], []⟩,
        ⟨none, (some 29), .bin .add (.t 22) (.t 28), []⟩,
        ⟨none, (some 30), .bin .add (.t 15) (.t 29), []⟩,
        ⟨none, (some 3), .mov (.t 30), []⟩])))
    (.reg [4] [
      ⟨none, (some 9), .mov (.t 4), []⟩,
      ⟨none, (some 10), .bin .add (.t 9) (.c (.int .i64 1)), []⟩,
      ⟨none, (some 4), .mov (.t 10), []⟩])))
def k415 : Cd :=
  (.seq
   (.reg [2] [
     ⟨none, (some 2), .mov (.c (.string ⟨#[]⟩)), []⟩])
   (.seq
    (.reg [3] [
      ⟨none, (some 3), .mov (.c (.string ⟨#[]⟩)), []⟩])
    (.seq
     (.seq
      (.reg [4] [
        ⟨none, (some 4), .mov (.c (.int .i64 0)), []⟩])
      (.block 0
       (.loop b415_1)))
     (.seq
      (.reg [2] [
        ⟨none, (some 31), .mov (.t 3), []⟩,
        ⟨none, (some 2), .mov (.t 31), []⟩])
      .ret))))
def c415 : Fn := { np := 1, nt := 32, kind := .pure, res := [.t 2], body := k415 }

/- spec.l07Small -/
def k536 : Cd :=
  (.seq
   (.reg [2] [
     ⟨none, (some 2), .mov (.c (.string ⟨#[]⟩)), []⟩])
   (.seq
    (.seq
     (.reg [4] [
       ⟨none, (some 3), .mov (.t 0), []⟩,
       ⟨none, (some 4), .bin .lss (.t 3) (.c (.int .i8 0)), []⟩])
     (.cond (.t 4)
      (.seq
       (.reg [2] [
         ⟨none, (some 5), .mov (.t 0), []⟩,
         ⟨none, (some 6), .un .neg (.t 5), []⟩,
         ⟨none, (some 7), .conv .i64 (.t 6), []⟩,
         ⟨none, (some 8), .call true 552 [.t 7], []⟩,
         ⟨none, (some 9), .bin .add (.c (.string ⟨#[45]⟩)) (.t 8), []⟩,
         ⟨none, (some 2), .mov (.t 9), []⟩])
       .ret)
      .skip))
    (.seq
     (.reg [2] [
       ⟨none, (some 10), .mov (.t 0), []⟩,
       ⟨none, (some 11), .conv .i64 (.t 10), []⟩,
       ⟨none, (some 12), .call true 552 [.t 11], []⟩,
       ⟨none, (some 2), .mov (.t 12), []⟩])
     .ret)))
def c536 : Fn := { np := 1, nt := 13, kind := .pure, res := [.t 2], body := k536 }

/- spec.Decimal -/
def k552 : Cd :=
  (.seq
   (.reg [2] [
     ⟨none, (some 2), .mov (.c (.string ⟨#[]⟩)), []⟩])
   (.seq
    (.seq
     (.reg [4] [
       ⟨none, (some 3), .mov (.t 0), []⟩,
       ⟨none, (some 4), .bin .lss (.t 3) (.c (.int .i64 10)), []⟩])
     (.cond (.t 4)
      (.seq
       (.reg [2] [
         ⟨none, (some 5), .mov (.t 0), []⟩,
         ⟨none, (some 6), .bin .rem (.t 5) (.c (.int .i64 10)), []⟩,
         ⟨none, (some 7), .bin .add (.c (.int .i64 48)) (.t 6), []⟩,
         ⟨none, (some 8), .conv .u8 (.t 7), []⟩,
         ⟨none, (some 9), .bldS 1 1 [.int .u8 0] [(0, 1, (.t 8))], []⟩,
         ⟨none, (some 10), .b2s (.t 9), []⟩,
         ⟨none, (some 2), .mov (.t 10), []⟩])
       .ret)
      .skip))
    (.seq
     (.reg [2] [
       ⟨none, (some 11), .mov (.t 0), []⟩,
       ⟨none, (some 12), .bin .quo (.t 11) (.c (.int .i64 10)), []⟩,
       ⟨none, (some 14), .mov (.t 0), []⟩,
       ⟨none, (some 15), .bin .rem (.t 14) (.c (.int .i64 10)), []⟩,
       ⟨none, (some 16), .bin .add (.c (.int .i64 48)) (.t 15), []⟩,
       ⟨none, (some 17), .conv .u8 (.t 16), []⟩,
       ⟨none, (some 18), .bldS 1 1 [.int .u8 0] [(0, 1, (.t 17))], []⟩,
       ⟨none, (some 19), .b2s (.t 18), []⟩,
       ⟨none, (some 13), .call true 552 [.t 12], []⟩,
       ⟨none, (some 20), .bin .add (.t 13) (.t 19), []⟩,
       ⟨none, (some 2), .mov (.t 20), []⟩])
     .ret)))
def c552 : Fn := { np := 1, nt := 21, kind := .pure, res := [.t 2], body := k552 }


end Fb
