/- The functions of the law, in the small language. -/
import Derived.Test.YtenmbknaocedfaaDen
set_option linter.unusedVariables false
set_option linter.unusedSimpArgs false
namespace Fb
open Go

/- laws.FnExactSameSteps -/
def k25 : Cd :=
  (.seq
   (.reg [4] [
     ⟨none, (some 4), .mov (.c (.bool false)), []⟩])
   (.seq
    (.reg [5] [
      ⟨none, (some 5), .mov (.c (.int .i64 1000000)), []⟩])
    (.seq
     (.reg [5] [
       ⟨none, (some 11), .mov (.t 0), []⟩,
       ⟨none, (some 12), .mov (.t 5), []⟩,
       ⟨none, (some 13), .call true 157 [.t 11, .t 12], []⟩,
       ⟨none, (some 5), .mov (.t 13), []⟩])
     (.seq
      (.seq
       (.reg [15] [
         ⟨none, (some 14), .mov (.t 5), []⟩,
         ⟨none, (some 15), .bin .lss (.t 14) (.c (.int .i64 0)), []⟩])
       (.cond (.t 15)
        (.seq
         (.reg [4] [
           ⟨none, (some 4), .mov (.c (.bool true)), []⟩])
         .ret)
        .skip))
      (.seq
       (.reg [5] [
         ⟨none, (some 16), .mov (.t 1), []⟩,
         ⟨none, (some 17), .mov (.t 5), []⟩,
         ⟨none, (some 18), .call true 157 [.t 16, .t 17], []⟩,
         ⟨none, (some 5), .mov (.t 18), []⟩])
       (.seq
        (.seq
         (.reg [20] [
           ⟨none, (some 19), .mov (.t 5), []⟩,
           ⟨none, (some 20), .bin .lss (.t 19) (.c (.int .i64 0)), []⟩])
         (.cond (.t 20)
          (.seq
           (.reg [4] [
             ⟨none, (some 4), .mov (.c (.bool true)), []⟩])
           .ret)
          .skip))
        (.seq
         (.reg [6] [
           ⟨none, (some 21), .mov (.t 0), []⟩,
           ⟨none, (some 22), .call true 159 [.t 21, .c (.bool false)], []⟩,
           ⟨none, (some 23), .mov (.t 1), []⟩,
           ⟨none, (some 24), .call true 159 [.t 23, .c (.bool false)], []⟩,
           ⟨none, (some 25), .call true 158 [.t 22, .t 24], []⟩,
           ⟨none, (some 6), .mov (.t 25), []⟩])
         (.seq
          (.reg [7] [
            ⟨none, (some 26), .mov (.t 0), []⟩,
            ⟨none, (some 27), .call true 159 [.t 26, .c (.bool false)], []⟩,
            ⟨none, (some 7), .mov (.t 27), []⟩])
          (.seq
           (.reg [8] [
             ⟨none, (some 28), .mov (.t 1), []⟩,
             ⟨none, (some 29), .call true 159 [.t 28, .c (.bool false)], []⟩,
             ⟨none, (some 8), .mov (.t 29), []⟩])
           (.seq
            (.reg [9] [
              ⟨none, (some 30), .mov (.t 7), []⟩,
              ⟨none, (some 31), .mov (.t 8), []⟩,
              ⟨none, (some 32), .call true 160 [.t 30, .t 31], []⟩,
              ⟨none, (some 9), .mov (.t 32), []⟩])
            (.seq
             (.seq
              (.reg [35] [
                ⟨none, (some 33), .mov (.t 9), []⟩,
                ⟨none, (some 34), .mov (.t 6), []⟩,
                ⟨none, (some 35), .eq .b true (.t 33) (.t 34), []⟩])
              (.cond (.t 35)
               (.seq
                (.reg [4] [
                  ⟨none, (some 4), .mov (.c (.bool false)), []⟩])
                .ret)
               .skip))
             (.seq
              (.seq
               (.reg [40] [
                 ⟨none, (some 36), .mov (.t 7), []⟩,
                 ⟨none, (some 37), .mov (.t 0), []⟩,
                 ⟨none, (some 38), .call true 159 [.t 37, .c (.bool false)], []⟩,
                 ⟨none, (some 39), .call true 161 [.t 36, .t 38], []⟩,
                 ⟨none, (some 40), .un .not (.t 39), []⟩])
               (.cond (.t 40)
                (.seq
                 (.reg [4] [
                   ⟨none, (some 4), .mov (.c (.bool false)), []⟩])
                 .ret)
                .skip))
              (.seq
               (.seq
                (.reg [45] [
                  ⟨none, (some 41), .mov (.t 8), []⟩,
                  ⟨none, (some 42), .mov (.t 1), []⟩,
                  ⟨none, (some 43), .call true 159 [.t 42, .c (.bool false)], []⟩,
                  ⟨none, (some 44), .call true 161 [.t 41, .t 43], []⟩,
                  ⟨none, (some 45), .un .not (.t 44), []⟩])
                (.cond (.t 45)
                 (.seq
                  (.reg [4] [
                    ⟨none, (some 4), .mov (.c (.bool false)), []⟩])
                  .ret)
                 .skip))
               (.seq
                (.reg [10] [
                  ⟨none, (some 46), .mov (.t 0), []⟩,
                  ⟨none, (some 47), .call true 159 [.t 46, .c (.bool true)], []⟩,
                  ⟨none, (some 48), .mov (.t 1), []⟩,
                  ⟨none, (some 49), .call true 159 [.t 48, .c (.bool true)], []⟩,
                  ⟨none, (some 50), .call true 160 [.t 47, .t 49], []⟩,
                  ⟨none, (some 10), .mov (.t 50), []⟩])
                (.seq
                 (.seq
                  (.reg [53] [
                    ⟨none, (some 51), .mov (.t 10), []⟩,
                    ⟨none, (some 52), .mov (.t 6), []⟩,
                    ⟨none, (some 53), .eq .b true (.t 51) (.t 52), []⟩])
                  (.cond (.t 53)
                   (.seq
                    (.reg [4] [
                      ⟨none, (some 4), .mov (.c (.bool false)), []⟩])
                    .ret)
                   .skip))
                 (.seq
                  (.reg [4] [
                    ⟨none, (some 4), .mov (.c (.bool true)), []⟩])
                  .ret))))))))))))))))
def c25 : Fn := { np := 2, nt := 54, kind := .pure, res := [.t 4], body := k25 }

/- laws.szStep -/
def k79 : Cd :=
  (.seq
   (.reg [2, 4] [
     ⟨none, (some 2), .mov (.t 0), []⟩,
     ⟨none, (some 4), .mov (.c (.int .i64 0)), []⟩])
   (.seq
    (.reg [1] [
      ⟨none, (some 5), .adrF 2 none 4, []⟩,
      ⟨none, (some 6), .ldV 2 (some 5) 1 false, []⟩,
      ⟨none, (some 7), .mov (.t 1), []⟩,
      ⟨none, (some 8), .call true 308 [.t 6, .t 7], []⟩,
      ⟨none, (some 1), .mov (.t 8), []⟩])
    (.seq
     (.seq
      (.reg [10] [
        ⟨none, (some 9), .mov (.t 1), []⟩,
        ⟨none, (some 10), .bin .lss (.t 9) (.c (.int .i64 0)), []⟩])
      (.cond (.t 10)
       (.seq
        (.reg [4] [
          ⟨none, (some 4), .mov (.c (.int .i64 (-1))), []⟩])
        .ret)
       .skip))
     (.seq
      (.reg [4] [
        ⟨none, (some 11), .mov (.t 1), []⟩,
        ⟨none, (some 4), .mov (.t 11), []⟩])
      .ret))))
def c79 : Fn := { np := 2, nt := 12, kind := .pure, res := [.t 4], body := k79 }

/- laws.toStep -/
def k81 : Cd :=
  (.seq
   (.reg [2, 4] [
     ⟨none, (some 2), .mov (.t 0), []⟩,
     ⟨none, (some 4), .zero true [.int .i8 0, .int .i8 0, .int .i8 0, .int .i8 0, .slice none 0 0], []⟩])
   (.seq
    (.reg [5] [
      ⟨none, (some 5), .zero true [.int .i8 0, .int .i8 0, .int .i8 0, .int .i8 0, .slice none 0 0], []⟩])
    (.seq
     (.reg [5] [
       ⟨none, (some 6), .adrF 2 none 0, []⟩,
       ⟨none, (some 7), .ldV 2 (some 6) 1 false, []⟩,
       ⟨none, (some 8), .adrF 5 none 0, []⟩,
       ⟨none, (some 5), .stV 5 (some 8) 1 (.t 7), []⟩])
     (.seq
      (.reg [5] [
        ⟨none, (some 9), .adrF 2 none 1, []⟩,
        ⟨none, (some 10), .ldV 2 (some 9) 1 false, []⟩,
        ⟨none, (some 11), .adrF 5 none 1, []⟩,
        ⟨none, (some 5), .stV 5 (some 11) 1 (.t 10), []⟩])
      (.seq
       (.reg [5] [
         ⟨none, (some 12), .adrF 2 none 2, []⟩,
         ⟨none, (some 13), .ldV 2 (some 12) 1 false, []⟩,
         ⟨none, (some 14), .adrF 5 none 2, []⟩,
         ⟨none, (some 5), .stV 5 (some 14) 1 (.t 13), []⟩])
       (.seq
        (.reg [5] [
          ⟨none, (some 15), .adrF 2 none 3, []⟩,
          ⟨none, (some 16), .ldV 2 (some 15) 1 false, []⟩,
          ⟨none, (some 17), .adrF 5 none 3, []⟩,
          ⟨none, (some 5), .stV 5 (some 17) 1 (.t 16), []⟩])
        (.seq
         (.reg [5] [
           ⟨none, (some 18), .adrF 2 none 4, []⟩,
           ⟨none, (some 19), .ldV 2 (some 18) 1 false, []⟩,
           ⟨none, (some 20), .mov (.t 1), []⟩,
           ⟨none, (some 21), .call true 311 [.t 19, .t 20], []⟩,
           ⟨none, (some 22), .adrF 5 none 4, []⟩,
           ⟨none, (some 5), .stV 5 (some 22) 1 (.t 21), []⟩])
         (.seq
          (.reg [4] [
            ⟨none, (some 23), .ldV 5 none 5 true, []⟩,
            ⟨none, (some 4), .stV 4 none 5 (.t 23), []⟩])
          .ret))))))))
def c81 : Fn := { np := 2, nt := 24, kind := .pure, res := [.v 4 5 true], body := k81 }

/- laws.intactStep -/
def k83 : Cd :=
  (.seq
   (.reg [2, 3, 4] [
     ⟨none, (some 2), .mov (.t 0), []⟩,
     ⟨none, (some 3), .mov (.t 1), []⟩,
     ⟨none, (some 4), .mov (.c (.bool false)), []⟩])
   (.seq
    (.seq
     (.reg [9] [
       ⟨none, (some 5), .adrF 2 none 0, []⟩,
       ⟨none, (some 6), .ldV 2 (some 5) 1 false, []⟩,
       ⟨none, (some 7), .adrF 3 none 0, []⟩,
       ⟨none, (some 8), .ldV 3 (some 7) 1 false, []⟩,
       ⟨none, (some 9), .bin .neq (.t 6) (.t 8), []⟩])
     (.cond (.t 9)
      (.seq
       (.reg [4] [
         ⟨none, (some 4), .mov (.c (.bool false)), []⟩])
       .ret)
      .skip))
    (.seq
     (.seq
      (.reg [14] [
        ⟨none, (some 10), .adrF 2 none 1, []⟩,
        ⟨none, (some 11), .ldV 2 (some 10) 1 false, []⟩,
        ⟨none, (some 12), .adrF 3 none 1, []⟩,
        ⟨none, (some 13), .ldV 3 (some 12) 1 false, []⟩,
        ⟨none, (some 14), .bin .neq (.t 11) (.t 13), []⟩])
      (.cond (.t 14)
       (.seq
        (.reg [4] [
          ⟨none, (some 4), .mov (.c (.bool false)), []⟩])
        .ret)
       .skip))
     (.seq
      (.seq
       (.reg [19] [
         ⟨none, (some 15), .adrF 2 none 2, []⟩,
         ⟨none, (some 16), .ldV 2 (some 15) 1 false, []⟩,
         ⟨none, (some 17), .adrF 3 none 2, []⟩,
         ⟨none, (some 18), .ldV 3 (some 17) 1 false, []⟩,
         ⟨none, (some 19), .bin .neq (.t 16) (.t 18), []⟩])
       (.cond (.t 19)
        (.seq
         (.reg [4] [
           ⟨none, (some 4), .mov (.c (.bool false)), []⟩])
         .ret)
        .skip))
      (.seq
       (.seq
        (.reg [24] [
          ⟨none, (some 20), .adrF 2 none 3, []⟩,
          ⟨none, (some 21), .ldV 2 (some 20) 1 false, []⟩,
          ⟨none, (some 22), .adrF 3 none 3, []⟩,
          ⟨none, (some 23), .ldV 3 (some 22) 1 false, []⟩,
          ⟨none, (some 24), .bin .neq (.t 21) (.t 23), []⟩])
        (.cond (.t 24)
         (.seq
          (.reg [4] [
            ⟨none, (some 4), .mov (.c (.bool false)), []⟩])
          .ret)
         .skip))
       (.seq
        (.seq
         (.reg [30] [
           ⟨none, (some 25), .adrF 2 none 4, []⟩,
           ⟨none, (some 26), .ldV 2 (some 25) 1 false, []⟩,
           ⟨none, (some 27), .adrF 3 none 4, []⟩,
           ⟨none, (some 28), .ldV 3 (some 27) 1 false, []⟩,
           ⟨none, (some 29), .call true 313 [.t 26, .t 28], []⟩,
           ⟨none, (some 30), .un .not (.t 29), []⟩])
         (.cond (.t 30)
          (.seq
           (.reg [4] [
             ⟨none, (some 4), .mov (.c (.bool false)), []⟩])
           .ret)
          .skip))
        (.seq
         (.reg [4] [
           ⟨none, (some 4), .mov (.c (.bool true)), []⟩])
         .ret)))))))
def c83 : Fn := { np := 2, nt := 31, kind := .pure, res := [.t 4], body := k83 }

/- laws.szStepS -/
def b157_1 : Cd :=
  (.seq
   (.seq
    (.reg [15] [
      ⟨none, (some 12), .mov (.t 5), []⟩,
      ⟨none, (some 13), .mov (.t 0), []⟩,
      ⟨none, (some 14), .len (.t 13), []⟩,
      ⟨none, (some 15), .bin .lss (.t 12) (.t 14), []⟩])
    (.cond (.t 15)
     .skip
     (.exit 0)))
   (.seq
    (.block 1
     (.seq
      (.reg [1] [
        ⟨none, (some 18), .mov (.t 0), []⟩,
        ⟨none, (some 19), .mov (.t 5), []⟩,
        ⟨none, (some 20), .idxA 5 (.t 18) (.t 19), []⟩,
        ⟨none, (some 21), .ld 5 true (.t 20), []⟩,
        ⟨none, (some 22), .mov (.t 1), []⟩,
        ⟨none, (some 23), .call true 79 [.t 21, .t 22], []⟩,
        ⟨none, (some 1), .mov (.t 23), []⟩])
      (.seq
       (.reg [25] [
         ⟨none, (some 24), .mov (.t 1), []⟩,
         ⟨none, (some 25), .bin .lss (.t 24) (.c (.int .i64 0)), []⟩])
       (.cond (.t 25)
        (.seq
         (.reg [4] [
           ⟨none, (some 4), .mov (.c (.int .i64 (-1))), []⟩])
         .ret)
        .skip))))
    (.reg [5] [
      ⟨none, (some 16), .mov (.t 5), []⟩,
      ⟨none, (some 17), .bin .add (.t 16) (.c (.int .i64 1)), []⟩,
      ⟨none, (some 5), .mov (.t 17), []⟩])))
def k157 : Cd :=
  (.seq
   (.reg [4] [
     ⟨none, (some 4), .mov (.c (.int .i64 0)), []⟩])
   (.seq
    (.reg [1] [
      ⟨none, (some 6), .mov (.t 1), []⟩,
      ⟨none, (some 7), .mov (.t 0), []⟩,
      ⟨none, (some 8), .len (.t 7), []⟩,
      ⟨none, (some 9), .bin .sub (.t 6) (.t 8), []⟩,
      ⟨none, (some 1), .mov (.t 9), []⟩])
    (.seq
     (.seq
      (.reg [11] [
        ⟨none, (some 10), .mov (.t 1), []⟩,
        ⟨none, (some 11), .bin .lss (.t 10) (.c (.int .i64 0)), []⟩])
      (.cond (.t 11)
       (.seq
        (.reg [4] [
          ⟨none, (some 4), .mov (.c (.int .i64 (-1))), []⟩])
        .ret)
       .skip))
     (.seq
      (.seq
       (.reg [5] [
         ⟨none, (some 5), .mov (.c (.int .i64 0)), []⟩])
       (.block 0
        (.loop b157_1)))
      (.seq
       (.reg [4] [
         ⟨none, (some 26), .mov (.t 1), []⟩,
         ⟨none, (some 4), .mov (.t 26), []⟩])
       .ret)))))
def c157 : Fn := { np := 2, nt := 27, kind := .pure, res := [.t 4], body := k157 }

/- spec.SameSteps -/
def b158_1 : Cd :=
  (.seq
   (.seq
    (.reg [14] [
      ⟨none, (some 11), .mov (.t 5), []⟩,
      ⟨none, (some 12), .mov (.t 0), []⟩,
      ⟨none, (some 13), .len (.t 12), []⟩,
      ⟨none, (some 14), .bin .lss (.t 11) (.t 13), []⟩])
    (.cond (.t 14)
     .skip
     (.exit 0)))
   (.seq
    (.block 1
     (.seq
      (.reg [24] [
        ⟨none, (some 17), .mov (.t 0), []⟩,
        ⟨none, (some 18), .mov (.t 5), []⟩,
        ⟨none, (some 19), .idxA 5 (.t 17) (.t 18), []⟩,
        ⟨none, (some 20), .mov (.t 1), []⟩,
        ⟨none, (some 21), .mov (.t 5), []⟩,
        ⟨none, (some 22), .idxA 5 (.t 20) (.t 21), []⟩,
        ⟨none, (some 23), .call true 381 [.t 19, .t 22], []⟩,
        ⟨none, (some 24), .un .not (.t 23), []⟩])
      (.cond (.t 24)
       (.seq
        (.reg [4] [
          ⟨none, (some 4), .mov (.c (.bool false)), []⟩])
        .ret)
       .skip)))
    (.reg [5] [
      ⟨none, (some 15), .mov (.t 5), []⟩,
      ⟨none, (some 16), .bin .add (.t 15) (.c (.int .i64 1)), []⟩,
      ⟨none, (some 5), .mov (.t 16), []⟩])))
def k158 : Cd :=
  (.seq
   (.reg [4] [
     ⟨none, (some 4), .mov (.c (.bool false)), []⟩])
   (.seq
    (.seq
     (.reg [10] [
       ⟨none, (some 6), .mov (.t 0), []⟩,
       ⟨none, (some 7), .len (.t 6), []⟩,
       ⟨none, (some 8), .mov (.t 1), []⟩,
       ⟨none, (some 9), .len (.t 8), []⟩,
       ⟨none, (some 10), .bin .neq (.t 7) (.t 9), []⟩])
     (.cond (.t 10)
      (.seq
       (.reg [4] [
         ⟨none, (some 4), .mov (.c (.bool false)), []⟩])
       .ret)
      .skip))
    (.seq
     (.seq
      (.reg [5] [
        ⟨none, (some 5), .mov (.c (.int .i64 0)), []⟩])
      (.block 0
       (.loop b158_1)))
     (.seq
      (.reg [4] [
        ⟨none, (some 4), .mov (.c (.bool true)), []⟩])
      .ret))))
def c158 : Fn := { np := 2, nt := 25, kind := .pure, res := [.t 4], body := k158 }

/- laws.toStepS -/
def b159_1 : Cd :=
  (.seq
   (.seq
    (.reg [24] [
      ⟨none, (some 21), .mov (.t 6), []⟩,
      ⟨none, (some 22), .mov (.t 0), []⟩,
      ⟨none, (some 23), .len (.t 22), []⟩,
      ⟨none, (some 24), .bin .lss (.t 21) (.t 23), []⟩])
    (.cond (.t 24)
     .skip
     (.exit 0)))
   (.seq
    (.block 1
     (.reg [] [
       ⟨none, (some 27), .mov (.t 5), []⟩,
       ⟨none, (some 28), .mov (.t 6), []⟩,
       ⟨none, (some 29), .mov (.t 0), []⟩,
       ⟨none, (some 30), .mov (.t 6), []⟩,
       ⟨none, (some 31), .idxA 5 (.t 29) (.t 30), []⟩,
       ⟨none, (some 32), .ld 5 true (.t 31), []⟩,
       ⟨none, (some 33), .mov (.t 1), []⟩,
       ⟨none, (some 34), .call true 81 [.t 32, .t 33], []⟩,
       ⟨none, (some 35), .idxA 5 (.t 27) (.t 28), []⟩,
       ⟨none, none, .st 5 (.t 35) (.t 34), []⟩]))
    (.reg [6] [
      ⟨none, (some 25), .mov (.t 6), []⟩,
      ⟨none, (some 26), .bin .add (.t 25) (.c (.int .i64 1)), []⟩,
      ⟨none, (some 6), .mov (.t 26), []⟩])))
def b159_2 : Cd :=
  (.seq
   (.seq
    (.reg [41] [
      ⟨none, (some 38), .mov (.t 7), []⟩,
      ⟨none, (some 39), .mov (.t 5), []⟩,
      ⟨none, (some 40), .len (.t 39), []⟩,
      ⟨none, (some 41), .bin .lss (.t 38) (.t 40), []⟩])
    (.cond (.t 41)
     .skip
     (.exit 2)))
   (.seq
    (.block 3
     (.reg [] [
       ⟨none, (some 44), .mov (.t 5), []⟩,
       ⟨none, (some 45), .mov (.t 7), []⟩,
       ⟨none, (some 46), .call true 382 [], []⟩,
       ⟨none, (some 47), .idxA 5 (.t 44) (.t 45), []⟩,
       ⟨none, none, .st 5 (.t 47) (.t 46), []⟩]))
    (.reg [7] [
      ⟨none, (some 42), .mov (.t 7), []⟩,
      ⟨none, (some 43), .bin .add (.t 42) (.c (.int .i64 1)), []⟩,
      ⟨none, (some 7), .mov (.t 43), []⟩])))
def k159 : Cd :=
  (.seq
   (.reg [4] [
     ⟨none, (some 4), .mov (.c (.slice none 0 0)), []⟩])
   (.seq
    (.seq
     (.reg [13] [
       ⟨none, (some 8), .mov (.t 1), []⟩,
       ⟨none, (some 9), .mov (.t 8), []⟩,
       ⟨(some (9, true)), (some 10), .mov (.t 0), []⟩,
       ⟨(some (9, true)), (some 11), .len (.t 10), []⟩,
       ⟨(some (9, true)), (some 12), .bin .eql (.t 11) (.c (.int .i64 0)), []⟩,
       ⟨none, (some 13), .pick (.t 9) (.t 12) (.c (.bool false)), []⟩])
     (.cond (.t 13)
      (.seq
       (.reg [4] [
         ⟨none, (some 4), .mov (.c (.slice none 0 0)), []⟩])
       .ret)
      .skip))
    (.seq
     (.reg [5] [
       ⟨none, (some 14), .mov (.t 0), []⟩,
       ⟨none, (some 15), .len (.t 14), []⟩,
       ⟨none, (some 16), .mov (.t 0), []⟩,
       ⟨none, (some 17), .len (.t 16), []⟩,
       ⟨none, (some 18), .call true 296 [.t 17], []⟩,
       ⟨none, (some 19), .bin .add (.t 15) (.t 18), []⟩,
       ⟨none, (some 20), .mkS 5 32 [.int .i8 0, .int .i8 0, .int .i8 0, .int .i8 0, .slice none 0 0] (.t 19) (.t 19), []⟩,
       ⟨none, (some 5), .mov (.t 20), []⟩])
     (.seq
      (.seq
       (.reg [6] [
         ⟨none, (some 6), .mov (.c (.int .i64 0)), []⟩])
       (.block 0
        (.loop b159_1)))
      (.seq
       (.seq
        (.reg [7] [
          ⟨none, (some 36), .mov (.t 0), []⟩,
          ⟨none, (some 37), .len (.t 36), []⟩,
          ⟨none, (some 7), .mov (.t 37), []⟩])
        (.block 2
         (.loop b159_2)))
       (.seq
        (.reg [4] [
          ⟨none, (some 48), .mov (.t 5), []⟩,
          ⟨none, (some 49), .mov (.t 0), []⟩,
          ⟨none, (some 50), .len (.t 49), []⟩,
          ⟨none, (some 51), .slcA 5 (.t 48) none (some (.t 50)) none, []⟩,
          ⟨none, (some 4), .mov (.t 51), []⟩])
        .ret))))))
def c159 : Fn := { np := 2, nt := 52, kind := .pure, res := [.t 4], body := k159 }

/- impl.SameSteps -/
def k160 : Cd :=
  (.seq
   (.reg [4] [
     ⟨none, (some 4), .mov (.c (.bool false)), []⟩])
   (.seq
    (.reg [4] [
      ⟨none, (some 5), .mov (.t 0), []⟩,
      ⟨none, (some 6), .mov (.t 1), []⟩,
      ⟨none, (some 7), .call true 383 [.t 5, .t 6, .f 384], []⟩,
      ⟨none, (some 4), .mov (.t 7), []⟩])
    .ret))
def c160 : Fn := { np := 2, nt := 8, kind := .pure, res := [.t 4], body := k160 }

/- laws.intactStepS -/
def b161_1 : Cd :=
  (.seq
   (.seq
    (.reg [21] [
      ⟨none, (some 18), .mov (.t 6), []⟩,
      ⟨none, (some 19), .mov (.t 1), []⟩,
      ⟨none, (some 20), .len (.t 19), []⟩,
      ⟨none, (some 21), .bin .lss (.t 18) (.t 20), []⟩])
    (.cond (.t 21)
     .skip
     (.exit 0)))
   (.seq
    (.block 1
     (.seq
      (.reg [33] [
        ⟨none, (some 24), .mov (.t 0), []⟩,
        ⟨none, (some 25), .mov (.t 6), []⟩,
        ⟨none, (some 26), .idxA 5 (.t 24) (.t 25), []⟩,
        ⟨none, (some 27), .ld 5 true (.t 26), []⟩,
        ⟨none, (some 28), .mov (.t 1), []⟩,
        ⟨none, (some 29), .mov (.t 6), []⟩,
        ⟨none, (some 30), .idxA 5 (.t 28) (.t 29), []⟩,
        ⟨none, (some 31), .ld 5 true (.t 30), []⟩,
        ⟨none, (some 32), .call true 83 [.t 27, .t 31], []⟩,
        ⟨none, (some 33), .un .not (.t 32), []⟩])
      (.cond (.t 33)
       (.seq
        (.reg [4] [
          ⟨none, (some 4), .mov (.c (.bool false)), []⟩])
        .ret)
       .skip)))
    (.reg [6] [
      ⟨none, (some 22), .mov (.t 6), []⟩,
      ⟨none, (some 23), .bin .add (.t 22) (.c (.int .i64 1)), []⟩,
      ⟨none, (some 6), .mov (.t 23), []⟩])))
def k161 : Cd :=
  (.seq
   (.reg [4] [
     ⟨none, (some 4), .mov (.c (.bool false)), []⟩])
   (.seq
    (.reg [5] [
      ⟨none, (some 7), .mov (.t 1), []⟩,
      ⟨none, (some 8), .len (.t 7), []⟩,
      ⟨none, (some 9), .mov (.t 1), []⟩,
      ⟨none, (some 10), .len (.t 9), []⟩,
      ⟨none, (some 11), .call true 296 [.t 10], []⟩,
      ⟨none, (some 12), .bin .add (.t 8) (.t 11), []⟩,
      ⟨none, (some 5), .mov (.t 12), []⟩])
    (.seq
     (.seq
      (.reg [17] [
        ⟨none, (some 13), .mov (.t 0), []⟩,
        ⟨none, (some 14), .len (.t 13), []⟩,
        ⟨none, (some 15), .mov (.t 1), []⟩,
        ⟨none, (some 16), .len (.t 15), []⟩,
        ⟨none, (some 17), .bin .neq (.t 14) (.t 16), []⟩])
      (.cond (.t 17)
       (.seq
        (.reg [4] [
          ⟨none, (some 4), .mov (.c (.bool false)), []⟩])
        .ret)
       .skip))
     (.seq
      (.seq
       (.reg [6] [
         ⟨none, (some 6), .mov (.c (.int .i64 0)), []⟩])
       (.block 0
        (.loop b161_1)))
      (.seq
       (.reg [4] [
         ⟨none, (some 34), .mov (.t 0), []⟩,
         ⟨none, (some 35), .mov (.t 1), []⟩,
         ⟨none, (some 36), .len (.t 35), []⟩,
         ⟨none, (some 37), .mov (.t 5), []⟩,
         ⟨none, (some 38), .slcA 5 (.t 34) (some (.t 36)) (some (.t 37)) none, []⟩,
         ⟨none, (some 39), .mov (.t 1), []⟩,
         ⟨none, (some 40), .mov (.t 1), []⟩,
         ⟨none, (some 41), .len (.t 40), []⟩,
         ⟨none, (some 42), .mov (.t 5), []⟩,
         ⟨none, (some 43), .slcA 5 (.t 39) (some (.t 41)) (some (.t 42)) none, []⟩,
         ⟨none, (some 44), .call true 213 [.t 38, .t 43], []⟩,
         ⟨none, (some 4), .mov (.t 44), []⟩])
       .ret)))))
def c161 : Fn := { np := 2, nt := 45, kind := .pure, res := [.t 4], body := k161 }

/- laws.eqStep -/
def k166 : Cd :=
  (.seq
   (.reg [2, 3, 4] [
     ⟨none, (some 2), .mov (.t 0), []⟩,
     ⟨none, (some 3), .mov (.t 1), []⟩,
     ⟨none, (some 4), .mov (.c (.bool false)), []⟩])
   (.seq
    (.seq
     (.reg [9] [
       ⟨none, (some 5), .adrF 2 none 0, []⟩,
       ⟨none, (some 6), .ldV 2 (some 5) 1 false, []⟩,
       ⟨none, (some 7), .adrF 3 none 0, []⟩,
       ⟨none, (some 8), .ldV 3 (some 7) 1 false, []⟩,
       ⟨none, (some 9), .bin .neq (.t 6) (.t 8), []⟩])
     (.cond (.t 9)
      (.seq
       (.reg [4] [
         ⟨none, (some 4), .mov (.c (.bool false)), []⟩])
       .ret)
      .skip))
    (.seq
     (.seq
      (.reg [14] [
        ⟨none, (some 10), .adrF 2 none 1, []⟩,
        ⟨none, (some 11), .ldV 2 (some 10) 1 false, []⟩,
        ⟨none, (some 12), .adrF 3 none 1, []⟩,
        ⟨none, (some 13), .ldV 3 (some 12) 1 false, []⟩,
        ⟨none, (some 14), .bin .neq (.t 11) (.t 13), []⟩])
      (.cond (.t 14)
       (.seq
        (.reg [4] [
          ⟨none, (some 4), .mov (.c (.bool false)), []⟩])
        .ret)
       .skip))
     (.seq
      (.seq
       (.reg [19] [
         ⟨none, (some 15), .adrF 2 none 2, []⟩,
         ⟨none, (some 16), .ldV 2 (some 15) 1 false, []⟩,
         ⟨none, (some 17), .adrF 3 none 2, []⟩,
         ⟨none, (some 18), .ldV 3 (some 17) 1 false, []⟩,
         ⟨none, (some 19), .bin .neq (.t 16) (.t 18), []⟩])
       (.cond (.t 19)
        (.seq
         (.reg [4] [
           ⟨none, (some 4), .mov (.c (.bool false)), []⟩])
         .ret)
        .skip))
      (.seq
       (.seq
        (.reg [24] [
          ⟨none, (some 20), .adrF 2 none 3, []⟩,
          ⟨none, (some 21), .ldV 2 (some 20) 1 false, []⟩,
          ⟨none, (some 22), .adrF 3 none 3, []⟩,
          ⟨none, (some 23), .ldV 3 (some 22) 1 false, []⟩,
          ⟨none, (some 24), .bin .neq (.t 21) (.t 23), []⟩])
        (.cond (.t 24)
         (.seq
          (.reg [4] [
            ⟨none, (some 4), .mov (.c (.bool false)), []⟩])
          .ret)
         .skip))
       (.seq
        (.seq
         (.reg [30] [
           ⟨none, (some 25), .adrF 2 none 4, []⟩,
           ⟨none, (some 26), .ldV 2 (some 25) 1 false, []⟩,
           ⟨none, (some 27), .adrF 3 none 4, []⟩,
           ⟨none, (some 28), .ldV 3 (some 27) 1 false, []⟩,
           ⟨none, (some 29), .call true 390 [.t 26, .t 28], []⟩,
           ⟨none, (some 30), .un .not (.t 29), []⟩])
         (.cond (.t 30)
          (.seq
           (.reg [4] [
             ⟨none, (some 4), .mov (.c (.bool false)), []⟩])
           .ret)
          .skip))
        (.seq
         (.reg [4] [
           ⟨none, (some 4), .mov (.c (.bool true)), []⟩])
         .ret)))))))
def c166 : Fn := { np := 2, nt := 31, kind := .pure, res := [.t 4], body := k166 }

/- laws.eqStepS -/
def b213_1 : Cd :=
  (.seq
   (.seq
    (.reg [14] [
      ⟨none, (some 11), .mov (.t 5), []⟩,
      ⟨none, (some 12), .mov (.t 0), []⟩,
      ⟨none, (some 13), .len (.t 12), []⟩,
      ⟨none, (some 14), .bin .lss (.t 11) (.t 13), []⟩])
    (.cond (.t 14)
     .skip
     (.exit 0)))
   (.seq
    (.block 1
     (.seq
      (.reg [26] [
        ⟨none, (some 17), .mov (.t 0), []⟩,
        ⟨none, (some 18), .mov (.t 5), []⟩,
        ⟨none, (some 19), .idxA 5 (.t 17) (.t 18), []⟩,
        ⟨none, (some 20), .ld 5 true (.t 19), []⟩,
        ⟨none, (some 21), .mov (.t 1), []⟩,
        ⟨none, (some 22), .mov (.t 5), []⟩,
        ⟨none, (some 23), .idxA 5 (.t 21) (.t 22), []⟩,
        ⟨none, (some 24), .ld 5 true (.t 23), []⟩,
        ⟨none, (some 25), .call true 166 [.t 20, .t 24], []⟩,
        ⟨none, (some 26), .un .not (.t 25), []⟩])
      (.cond (.t 26)
       (.seq
        (.reg [4] [
          ⟨none, (some 4), .mov (.c (.bool false)), []⟩])
        .ret)
       .skip)))
    (.reg [5] [
      ⟨none, (some 15), .mov (.t 5), []⟩,
      ⟨none, (some 16), .bin .add (.t 15) (.c (.int .i64 1)), []⟩,
      ⟨none, (some 5), .mov (.t 16), []⟩])))
def k213 : Cd :=
  (.seq
   (.reg [4] [
     ⟨none, (some 4), .mov (.c (.bool false)), []⟩])
   (.seq
    (.seq
     (.reg [10] [
       ⟨none, (some 6), .mov (.t 0), []⟩,
       ⟨none, (some 7), .len (.t 6), []⟩,
       ⟨none, (some 8), .mov (.t 1), []⟩,
       ⟨none, (some 9), .len (.t 8), []⟩,
       ⟨none, (some 10), .bin .neq (.t 7) (.t 9), []⟩])
     (.cond (.t 10)
      (.seq
       (.reg [4] [
         ⟨none, (some 4), .mov (.c (.bool false)), []⟩])
       .ret)
      .skip))
    (.seq
     (.seq
      (.reg [5] [
        ⟨none, (some 5), .mov (.c (.int .i64 0)), []⟩])
      (.block 0
       (.loop b213_1)))
     (.seq
      (.reg [4] [
        ⟨none, (some 4), .mov (.c (.bool true)), []⟩])
      .ret))))
def c213 : Fn := { np := 2, nt := 27, kind := .pure, res := [.t 4], body := k213 }

/- laws.roomBehind -/
def k296 : Cd :=
  (.seq
   (.reg [2] [
     ⟨none, (some 2), .mov (.c (.int .i64 0)), []⟩])
   (.seq
    (.seq
     (.reg [5] [
       ⟨none, (some 3), .mov (.t 0), []⟩,
       ⟨none, (some 4), .bin .rem (.t 3) (.c (.int .i64 6)), []⟩,
       ⟨none, (some 5), .bin .eql (.t 4) (.c (.int .i64 5)), []⟩])
     (.cond (.t 5)
      (.seq
       (.reg [2] [
         ⟨none, (some 2), .mov (.c (.int .i64 0)), []⟩])
       .ret)
      .skip))
    (.seq
     (.seq
      (.reg [8] [
        ⟨none, (some 6), .mov (.t 0), []⟩,
        ⟨none, (some 7), .bin .rem (.t 6) (.c (.int .i64 3)), []⟩,
        ⟨none, (some 8), .bin .eql (.t 7) (.c (.int .i64 0)), []⟩])
      (.cond (.t 8)
       (.seq
        (.reg [2] [
          ⟨none, (some 2), .mov (.c (.int .i64 1)), []⟩])
        .ret)
       .skip))
     (.seq
      (.reg [2] [
        ⟨none, (some 9), .mov (.t 0), []⟩,
        ⟨none, (some 2), .mov (.t 9), []⟩])
      .ret))))
def c296 : Fn := { np := 1, nt := 10, kind := .pure, res := [.t 2], body := k296 }

/- laws.szChangeS -/
def k308 : Cd :=
  (.seq
   (.reg [4] [
     ⟨none, (some 4), .mov (.c (.int .i64 0)), []⟩])
   (.seq
    (.reg [1] [
      ⟨none, (some 5), .mov (.t 1), []⟩,
      ⟨none, (some 6), .mov (.t 0), []⟩,
      ⟨none, (some 7), .len (.t 6), []⟩,
      ⟨none, (some 8), .bin .sub (.t 5) (.t 7), []⟩,
      ⟨none, (some 1), .mov (.t 8), []⟩])
    (.seq
     (.seq
      (.reg [10] [
        ⟨none, (some 9), .mov (.t 1), []⟩,
        ⟨none, (some 10), .bin .lss (.t 9) (.c (.int .i64 0)), []⟩])
      (.cond (.t 10)
       (.seq
        (.reg [4] [
          ⟨none, (some 4), .mov (.c (.int .i64 (-1))), []⟩])
        .ret)
       .skip))
     (.seq
      (.reg [4] [
        ⟨none, (some 11), .mov (.t 1), []⟩,
        ⟨none, (some 4), .mov (.t 11), []⟩])
      .ret))))
def c308 : Fn := { np := 2, nt := 12, kind := .pure, res := [.t 4], body := k308 }

/- laws.toChangeS -/
def b311_1 : Cd :=
  (.seq
   (.seq
    (.reg [24] [
      ⟨none, (some 21), .mov (.t 6), []⟩,
      ⟨none, (some 22), .mov (.t 0), []⟩,
      ⟨none, (some 23), .len (.t 22), []⟩,
      ⟨none, (some 24), .bin .lss (.t 21) (.t 23), []⟩])
    (.cond (.t 24)
     .skip
     (.exit 0)))
   (.seq
    (.block 1
     (.reg [] [
       ⟨none, (some 27), .mov (.t 5), []⟩,
       ⟨none, (some 28), .mov (.t 6), []⟩,
       ⟨none, (some 29), .mov (.t 0), []⟩,
       ⟨none, (some 30), .mov (.t 6), []⟩,
       ⟨none, (some 31), .idxA 2 (.t 29) (.t 30), []⟩,
       ⟨none, (some 32), .ld 2 true (.t 31), []⟩,
       ⟨none, (some 33), .call true 488 [.t 32], []⟩,
       ⟨none, (some 34), .idxA 2 (.t 27) (.t 28), []⟩,
       ⟨none, none, .st 2 (.t 34) (.t 33), []⟩]))
    (.reg [6] [
      ⟨none, (some 25), .mov (.t 6), []⟩,
      ⟨none, (some 26), .bin .add (.t 25) (.c (.int .i64 1)), []⟩,
      ⟨none, (some 6), .mov (.t 26), []⟩])))
def b311_2 : Cd :=
  (.seq
   (.seq
    (.reg [40] [
      ⟨none, (some 37), .mov (.t 7), []⟩,
      ⟨none, (some 38), .mov (.t 5), []⟩,
      ⟨none, (some 39), .len (.t 38), []⟩,
      ⟨none, (some 40), .bin .lss (.t 37) (.t 39), []⟩])
    (.cond (.t 40)
     .skip
     (.exit 2)))
   (.seq
    (.block 3
     (.reg [] [
       ⟨none, (some 43), .mov (.t 5), []⟩,
       ⟨none, (some 44), .mov (.t 7), []⟩,
       ⟨none, (some 45), .call true 489 [], []⟩,
       ⟨none, (some 46), .idxA 2 (.t 43) (.t 44), []⟩,
       ⟨none, none, .st 2 (.t 46) (.t 45), []⟩]))
    (.reg [7] [
      ⟨none, (some 41), .mov (.t 7), []⟩,
      ⟨none, (some 42), .bin .add (.t 41) (.c (.int .i64 1)), []⟩,
      ⟨none, (some 7), .mov (.t 42), []⟩])))
def k311 : Cd :=
  (.seq
   (.reg [4] [
     ⟨none, (some 4), .mov (.c (.slice none 0 0)), []⟩])
   (.seq
    (.seq
     (.reg [13] [
       ⟨none, (some 8), .mov (.t 1), []⟩,
       ⟨none, (some 9), .mov (.t 8), []⟩,
       ⟨(some (9, true)), (some 10), .mov (.t 0), []⟩,
       ⟨(some (9, true)), (some 11), .len (.t 10), []⟩,
       ⟨(some (9, true)), (some 12), .bin .eql (.t 11) (.c (.int .i64 0)), []⟩,
       ⟨none, (some 13), .pick (.t 9) (.t 12) (.c (.bool false)), []⟩])
     (.cond (.t 13)
      (.seq
       (.reg [4] [
         ⟨none, (some 4), .mov (.c (.slice none 0 0)), []⟩])
       .ret)
      .skip))
    (.seq
     (.reg [5] [
       ⟨none, (some 14), .mov (.t 0), []⟩,
       ⟨none, (some 15), .len (.t 14), []⟩,
       ⟨none, (some 16), .mov (.t 0), []⟩,
       ⟨none, (some 17), .len (.t 16), []⟩,
       ⟨none, (some 18), .call true 296 [.t 17], []⟩,
       ⟨none, (some 19), .bin .add (.t 15) (.t 18), []⟩,
       ⟨none, (some 20), .mkS 2 4 [.int .i8 0, .int .u16 0] (.t 19) (.t 19), []⟩,
       ⟨none, (some 5), .mov (.t 20), []⟩])
     (.seq
      (.seq
       (.reg [6] [
         ⟨none, (some 6), .mov (.c (.int .i64 0)), []⟩])
       (.block 0
        (.loop b311_1)))
      (.seq
       (.seq
        (.reg [7] [
          ⟨none, (some 35), .mov (.t 0), []⟩,
          ⟨none, (some 36), .len (.t 35), []⟩,
          ⟨none, (some 7), .mov (.t 36), []⟩])
        (.block 2
         (.loop b311_2)))
       (.seq
        (.reg [4] [
          ⟨none, (some 47), .mov (.t 5), []⟩,
          ⟨none, (some 48), .mov (.t 0), []⟩,
          ⟨none, (some 49), .len (.t 48), []⟩,
          ⟨none, (some 50), .slcA 2 (.t 47) none (some (.t 49)) none, []⟩,
          ⟨none, (some 4), .mov (.t 50), []⟩])
        .ret))))))
def c311 : Fn := { np := 2, nt := 51, kind := .pure, res := [.t 4], body := k311 }

/- laws.intactChangeS -/
def k313 : Cd :=
  (.seq
   (.reg [4] [
     ⟨none, (some 4), .mov (.c (.bool false)), []⟩])
   (.seq
    (.reg [5] [
      ⟨none, (some 6), .mov (.t 1), []⟩,
      ⟨none, (some 7), .len (.t 6), []⟩,
      ⟨none, (some 8), .mov (.t 1), []⟩,
      ⟨none, (some 9), .len (.t 8), []⟩,
      ⟨none, (some 10), .call true 296 [.t 9], []⟩,
      ⟨none, (some 11), .bin .add (.t 7) (.t 10), []⟩,
      ⟨none, (some 5), .mov (.t 11), []⟩])
    (.seq
     (.reg [4] [
       ⟨none, (some 12), .mov (.t 0), []⟩,
       ⟨none, (some 13), .len (.t 12), []⟩,
       ⟨none, (some 14), .mov (.t 1), []⟩,
       ⟨none, (some 15), .len (.t 14), []⟩,
       ⟨none, (some 16), .bin .eql (.t 13) (.t 15), []⟩,
       ⟨none, (some 17), .mov (.t 16), []⟩,
       ⟨(some (17, true)), (some 18), .mov (.t 0), []⟩,
       ⟨(some (17, true)), (some 19), .mov (.t 5), []⟩,
       ⟨(some (17, true)), (some 20), .slcA 2 (.t 18) none (some (.t 19)) none, []⟩,
       ⟨(some (17, true)), (some 21), .mov (.t 1), []⟩,
       ⟨(some (17, true)), (some 22), .mov (.t 5), []⟩,
       ⟨(some (17, true)), (some 23), .slcA 2 (.t 21) none (some (.t 22)) none, []⟩,
       ⟨(some (17, true)), (some 24), .call true 390 [.t 20, .t 23], []⟩,
       ⟨none, (some 25), .pick (.t 17) (.t 24) (.c (.bool false)), []⟩,
       ⟨none, (some 4), .mov (.t 25), []⟩])
     .ret)))
def c313 : Fn := { np := 2, nt := 26, kind := .pure, res := [.t 4], body := k313 }

/- spec.l06SameStep -/
def b381_1 : Cd :=
  (.seq
   (.seq
    (.reg [67] [
      ⟨none, (some 61), .mov (.t 5), []⟩,
      ⟨none, (some 62), .mov (.t 0), []⟩,
      ⟨none, (some 63), .nil (.t 62), []⟩,
      ⟨none, (some 64), .fldP 4 (.t 63), []⟩,
      ⟨none, (some 65), .ld 1 false (.t 64), []⟩,
      ⟨none, (some 66), .len (.t 65), []⟩,
      ⟨none, (some 67), .bin .lss (.t 61) (.t 66), []⟩])
    (.cond (.t 67)
     .skip
     (.exit 0)))
   (.seq
    (.block 1
     (.seq
      (.reg [84] [
        ⟨none, (some 70), .mov (.t 0), []⟩,
        ⟨none, (some 71), .nil (.t 70), []⟩,
        ⟨none, (some 72), .fldP 4 (.t 71), []⟩,
        ⟨none, (some 73), .ld 1 false (.t 72), []⟩,
        ⟨none, (some 74), .mov (.t 5), []⟩,
        ⟨none, (some 75), .idxA 2 (.t 73) (.t 74), []⟩,
        ⟨none, (some 76), .ld 2 true (.t 75), []⟩,
        ⟨none, (some 77), .mov (.t 1), []⟩,
        ⟨none, (some 78), .nil (.t 77), []⟩,
        ⟨none, (some 79), .fldP 4 (.t 78), []⟩,
        ⟨none, (some 80), .ld 1 false (.t 79), []⟩,
        ⟨none, (some 81), .mov (.t 5), []⟩,
        ⟨none, (some 82), .idxA 2 (.t 80) (.t 81), []⟩,
        ⟨none, (some 83), .ld 2 true (.t 82), []⟩,
        ⟨none, (some 84), .eq (.a (rb 1 (some .i8) ++ rb 1 (some .u16))) true (.t 76) (.t 83), []⟩])
      (.cond (.t 84)
       (.seq
        (.reg [4] [
          ⟨none, (some 4), .mov (.c (.bool false)), []⟩])
        .ret)
       .skip)))
    (.reg [5] [
      ⟨none, (some 68), .mov (.t 5), []⟩,
      ⟨none, (some 69), .bin .add (.t 68) (.c (.int .i64 1)), []⟩,
      ⟨none, (some 5), .mov (.t 69), []⟩])))
def k381 : Cd :=
  (.seq
   (.reg [4] [
     ⟨none, (some 4), .mov (.c (.bool false)), []⟩])
   (.seq
    (.seq
     (.reg [60] [
       ⟨none, (some 6), .mov (.t 0), []⟩,
       ⟨none, (some 7), .nil (.t 6), []⟩,
       ⟨none, (some 8), .fldP 0 (.t 7), []⟩,
       ⟨none, (some 9), .ld 1 false (.t 8), []⟩,
       ⟨none, (some 10), .mov (.t 1), []⟩,
       ⟨none, (some 11), .nil (.t 10), []⟩,
       ⟨none, (some 12), .fldP 0 (.t 11), []⟩,
       ⟨none, (some 13), .ld 1 false (.t 12), []⟩,
       ⟨none, (some 14), .bin .neq (.t 9) (.t 13), []⟩,
       ⟨none, (some 15), .mov (.t 14), []⟩,
       ⟨(some (15, false)), (some 16), .mov (.t 0), []⟩,
       ⟨(some (15, false)), (some 17), .nil (.t 16), []⟩,
       ⟨(some (15, false)), (some 18), .fldP 1 (.t 17), []⟩,
       ⟨(some (15, false)), (some 19), .ld 1 false (.t 18), []⟩,
       ⟨(some (15, false)), (some 20), .mov (.t 1), []⟩,
       ⟨(some (15, false)), (some 21), .nil (.t 20), []⟩,
       ⟨(some (15, false)), (some 22), .fldP 1 (.t 21), []⟩,
       ⟨(some (15, false)), (some 23), .ld 1 false (.t 22), []⟩,
       ⟨(some (15, false)), (some 24), .bin .neq (.t 19) (.t 23), []⟩,
       ⟨none, (some 25), .pick (.t 15) (.c (.bool true)) (.t 24), []⟩,
       ⟨none, (some 26), .mov (.t 25), []⟩,
       ⟨(some (26, false)), (some 27), .mov (.t 0), []⟩,
       ⟨(some (26, false)), (some 28), .nil (.t 27), []⟩,
       ⟨(some (26, false)), (some 29), .fldP 2 (.t 28), []⟩,
       ⟨(some (26, false)), (some 30), .ld 1 false (.t 29), []⟩,
       ⟨(some (26, false)), (some 31), .mov (.t 1), []⟩,
       ⟨(some (26, false)), (some 32), .nil (.t 31), []⟩,
       ⟨(some (26, false)), (some 33), .fldP 2 (.t 32), []⟩,
       ⟨(some (26, false)), (some 34), .ld 1 false (.t 33), []⟩,
       ⟨(some (26, false)), (some 35), .bin .neq (.t 30) (.t 34), []⟩,
       ⟨none, (some 36), .pick (.t 26) (.c (.bool true)) (.t 35), []⟩,
       ⟨none, (some 37), .mov (.t 36), []⟩,
       ⟨(some (37, false)), (some 38), .mov (.t 0), []⟩,
       ⟨(some (37, false)), (some 39), .nil (.t 38), []⟩,
       ⟨(some (37, false)), (some 40), .fldP 3 (.t 39), []⟩,
       ⟨(some (37, false)), (some 41), .ld 1 false (.t 40), []⟩,
       ⟨(some (37, false)), (some 42), .mov (.t 1), []⟩,
       ⟨(some (37, false)), (some 43), .nil (.t 42), []⟩,
       ⟨(some (37, false)), (some 44), .fldP 3 (.t 43), []⟩,
       ⟨(some (37, false)), (some 45), .ld 1 false (.t 44), []⟩,
       ⟨(some (37, false)), (some 46), .bin .neq (.t 41) (.t 45), []⟩,
       ⟨none, (some 47), .pick (.t 37) (.c (.bool true)) (.t 46), []⟩,
       ⟨none, (some 48), .mov (.t 47), []⟩,
       ⟨(some (48, false)), (some 49), .mov (.t 0), []⟩,
       ⟨(some (48, false)), (some 50), .nil (.t 49), []⟩,
       ⟨(some (48, false)), (some 51), .fldP 4 (.t 50), []⟩,
       ⟨(some (48, false)), (some 52), .ld 1 false (.t 51), []⟩,
       ⟨(some (48, false)), (some 53), .len (.t 52), []⟩,
       ⟨(some (48, false)), (some 54), .mov (.t 1), []⟩,
       ⟨(some (48, false)), (some 55), .nil (.t 54), []⟩,
       ⟨(some (48, false)), (some 56), .fldP 4 (.t 55), []⟩,
       ⟨(some (48, false)), (some 57), .ld 1 false (.t 56), []⟩,
       ⟨(some (48, false)), (some 58), .len (.t 57), []⟩,
       ⟨(some (48, false)), (some 59), .bin .neq (.t 53) (.t 58), []⟩,
       ⟨none, (some 60), .pick (.t 48) (.c (.bool true)) (.t 59), []⟩])
     (.cond (.t 60)
      (.seq
       (.reg [4] [
         ⟨none, (some 4), .mov (.c (.bool false)), []⟩])
       .ret)
      .skip))
    (.seq
     (.seq
      (.reg [5] [
        ⟨none, (some 5), .mov (.c (.int .i64 0)), []⟩])
      (.block 0
       (.loop b381_1)))
     (.seq
      (.reg [4] [
        ⟨none, (some 4), .mov (.c (.bool true)), []⟩])
      .ret))))
def c381 : Fn := { np := 2, nt := 85, kind := .pure, res := [.t 4], body := k381 }

/- laws.fillerStep -/
def k382 : Cd :=
  (.seq
   (.reg [0] [
     ⟨none, (some 0), .zero true [.int .i8 0, .int .i8 0, .int .i8 0, .int .i8 0, .slice none 0 0], []⟩])
   (.seq
    (.reg [0] [
      ⟨none, (some 1), .call true 489 [], []⟩,
      ⟨none, (some 2), .bldS 2 1 [.int .i8 0, .int .u16 0] [(0, 2, (.t 1))], []⟩,
      ⟨none, (some 3), .agg [.int .i8 0, .int .i8 0, .int .i8 0, .int .i8 0, .slice none 0 0] [(0, 1, (.c (.int .i8 (-101)))), (1, 1, (.c (.int .i8 (-101)))), (2, 1, (.c (.int .i8 (-101)))), (3, 1, (.c (.int .i8 (-101)))), (4, 1, (.t 2))], []⟩,
      ⟨none, (some 0), .stV 0 none 5 (.t 3), []⟩])
    .ret))
def c382 : Fn := { np := 0, nt := 4, kind := .pure, res := [.v 0 5 true], body := k382 }

/- slices.EqualFunc[[]impl.Step,[]impl.Step,impl.Step,impl.Step] -/
def b383_1 : Cd :=
  (.seq
   (.reg [18] [
     ⟨none, (some 18), .bin .lss (.t 17) (.t 16), []⟩])
   (.seq
    (.cond (.t 18)
     .skip
     (.exit 0))
    (.seq
     (.block 1
      (.seq
       (.reg [8, 7] [
         ⟨none, (some 19), .mov (.t 17), []⟩,
         ⟨none, (some 20), .idxA 5 (.t 15) (.t 17), []⟩,
         ⟨none, (some 21), .ld 5 true (.t 20), []⟩,
         ⟨none, (some 8), .zero true [.int .i8 0, .int .i8 0, .int .i8 0, .int .i8 0, .slice none 0 0], []⟩,
         ⟨none, (some 7), .mov (.t 19), []⟩,
         ⟨none, (some 8), .stV 8 none 5 (.t 21), []⟩])
       (.seq
        (.reg [9] [
          ⟨none, (some 22), .mov (.t 1), []⟩,
          ⟨none, (some 23), .mov (.t 7), []⟩,
          ⟨none, (some 24), .idxA 5 (.t 22) (.t 23), []⟩,
          ⟨none, (some 25), .ld 5 true (.t 24), []⟩,
          ⟨none, (some 9), .zero true [.int .i8 0, .int .i8 0, .int .i8 0, .int .i8 0, .slice none 0 0], []⟩,
          ⟨none, (some 9), .stV 9 none 5 (.t 25), []⟩])
        (.seq
         (.reg [30] [
           ⟨none, (some 26), .mov (.t 2), []⟩,
           ⟨none, (some 27), .ldV 8 none 5 true, []⟩,
           ⟨none, (some 28), .ldV 9 none 5 true, []⟩,
           ⟨none, (some 29), .callv (.t 26) [.t 27, .t 28], []⟩,
           ⟨none, (some 30), .un .not (.t 29), []⟩])
         (.cond (.t 30)
          (.seq
           (.reg [6] [
             ⟨none, (some 6), .mov (.c (.bool false)), []⟩])
           .ret)
          .skip)))))
     (.reg [17] [
       ⟨none, (some 31), .bin .add (.t 17) (.c (.int .i64 1)), []⟩,
       ⟨none, (some 17), .mov (.t 31), []⟩]))))
def k383 : Cd :=
  (.seq
   (.reg [6] [
     ⟨none, (some 6), .mov (.c (.bool false)), []⟩])
   (.seq
    (.seq
     (.reg [14] [
       ⟨none, (some 10), .mov (.t 0), []⟩,
       ⟨none, (some 11), .len (.t 10), []⟩,
       ⟨none, (some 12), .mov (.t 1), []⟩,
       ⟨none, (some 13), .len (.t 12), []⟩,
       ⟨none, (some 14), .bin .neq (.t 11) (.t 13), []⟩])
     (.cond (.t 14)
      (.seq
       (.reg [6] [
         ⟨none, (some 6), .mov (.c (.bool false)), []⟩])
       .ret)
      .skip))
    (.seq
     (.seq
      (.reg [15, 16, 17] [
        ⟨none, (some 15), .mov (.t 0), []⟩,
        ⟨none, (some 16), .len (.t 15), []⟩,
        ⟨none, (some 17), .mov (.c (.int .i64 0)), []⟩])
      (.block 0
       (.loop b383_1)))
     (.seq
      (.reg [6] [
        ⟨none, (some 6), .mov (.c (.bool true)), []⟩])
      .ret))))
def c383 : Fn := { np := 3, nt := 32, kind := .pure, res := [.t 6], body := k383 }

/- impl.SameSteps$1 -/
def k384 : Cd :=
  (.seq
   (.reg [2, 3, 4] [
     ⟨none, (some 2), .mov (.t 0), []⟩,
     ⟨none, (some 3), .mov (.t 1), []⟩,
     ⟨none, (some 4), .mov (.c (.bool false)), []⟩])
   (.seq
    (.reg [4] [
      ⟨none, (some 5), .adrF 2 none 0, []⟩,
      ⟨none, (some 6), .ldV 2 (some 5) 1 false, []⟩,
      ⟨none, (some 7), .adrF 3 none 0, []⟩,
      ⟨none, (some 8), .ldV 3 (some 7) 1 false, []⟩,
      ⟨none, (some 9), .bin .eql (.t 6) (.t 8), []⟩,
      ⟨none, (some 10), .mov (.t 9), []⟩,
      ⟨(some (10, true)), (some 11), .adrF 2 none 1, []⟩,
      ⟨(some (10, true)), (some 12), .ldV 2 (some 11) 1 false, []⟩,
      ⟨(some (10, true)), (some 13), .adrF 3 none 1, []⟩,
      ⟨(some (10, true)), (some 14), .ldV 3 (some 13) 1 false, []⟩,
      ⟨(some (10, true)), (some 15), .bin .eql (.t 12) (.t 14), []⟩,
      ⟨none, (some 16), .pick (.t 10) (.t 15) (.c (.bool false)), []⟩,
      ⟨none, (some 17), .mov (.t 16), []⟩,
      ⟨(some (17, true)), (some 18), .adrF 2 none 2, []⟩,
      ⟨(some (17, true)), (some 19), .ldV 2 (some 18) 1 false, []⟩,
      ⟨(some (17, true)), (some 20), .adrF 3 none 2, []⟩,
      ⟨(some (17, true)), (some 21), .ldV 3 (some 20) 1 false, []⟩,
      ⟨(some (17, true)), (some 22), .bin .eql (.t 19) (.t 21), []⟩,
      ⟨none, (some 23), .pick (.t 17) (.t 22) (.c (.bool false)), []⟩,
      ⟨none, (some 24), .mov (.t 23), []⟩,
      ⟨(some (24, true)), (some 25), .adrF 2 none 3, []⟩,
      ⟨(some (24, true)), (some 26), .ldV 2 (some 25) 1 false, []⟩,
      ⟨(some (24, true)), (some 27), .adrF 3 none 3, []⟩,
      ⟨(some (24, true)), (some 28), .ldV 3 (some 27) 1 false, []⟩,
      ⟨(some (24, true)), (some 29), .bin .eql (.t 26) (.t 28), []⟩,
      ⟨none, (some 30), .pick (.t 24) (.t 29) (.c (.bool false)), []⟩,
      ⟨none, (some 31), .mov (.t 30), []⟩,
      ⟨(some (31, true)), (some 32), .adrF 2 none 4, []⟩,
      ⟨(some (31, true)), (some 33), .ldV 2 (some 32) 1 false, []⟩,
      ⟨(some (31, true)), (some 34), .adrF 3 none 4, []⟩,
      ⟨(some (31, true)), (some 35), .ldV 3 (some 34) 1 false, []⟩,
      ⟨(some (31, true)), (some 36), .call true 385 [.t 33, .t 35], []⟩,
      ⟨none, (some 37), .pick (.t 31) (.t 36) (.c (.bool false)), []⟩,
      ⟨none, (some 4), .mov (.t 37), []⟩])
    .ret))
def c384 : Fn := { np := 2, nt := 38, kind := .pure, res := [.t 4], body := k384 }

/- slices.Equal[[]impl.Change,impl.Change] -/
def b385_1 : Cd :=
  (.seq
   (.reg [14] [
     ⟨none, (some 14), .bin .lss (.t 13) (.t 12), []⟩])
   (.seq
    (.cond (.t 14)
     .skip
     (.exit 0))
    (.seq
     (.block 1
      (.seq
       (.reg [5] [
         ⟨none, (some 15), .mov (.t 13), []⟩,
         ⟨none, (some 5), .mov (.t 15), []⟩])
       (.seq
        (.reg [24] [
          ⟨none, (some 16), .mov (.t 0), []⟩,
          ⟨none, (some 17), .mov (.t 5), []⟩,
          ⟨none, (some 18), .idxA 2 (.t 16) (.t 17), []⟩,
          ⟨none, (some 19), .ld 2 true (.t 18), []⟩,
          ⟨none, (some 20), .mov (.t 1), []⟩,
          ⟨none, (some 21), .mov (.t 5), []⟩,
          ⟨none, (some 22), .idxA 2 (.t 20) (.t 21), []⟩,
          ⟨none, (some 23), .ld 2 true (.t 22), []⟩,
          ⟨none, (some 24), .eq (.a (rb 1 (some .i8) ++ rb 1 (some .u16))) true (.t 19) (.t 23), []⟩])
        (.cond (.t 24)
         (.seq
          (.reg [4] [
            ⟨none, (some 4), .mov (.c (.bool false)), []⟩])
          .ret)
         .skip))))
     (.reg [13] [
       ⟨none, (some 25), .bin .add (.t 13) (.c (.int .i64 1)), []⟩,
       ⟨none, (some 13), .mov (.t 25), []⟩]))))
def k385 : Cd :=
  (.seq
   (.reg [4] [
     ⟨none, (some 4), .mov (.c (.bool false)), []⟩])
   (.seq
    (.seq
     (.reg [10] [
       ⟨none, (some 6), .mov (.t 0), []⟩,
       ⟨none, (some 7), .len (.t 6), []⟩,
       ⟨none, (some 8), .mov (.t 1), []⟩,
       ⟨none, (some 9), .len (.t 8), []⟩,
       ⟨none, (some 10), .bin .neq (.t 7) (.t 9), []⟩])
     (.cond (.t 10)
      (.seq
       (.reg [4] [
         ⟨none, (some 4), .mov (.c (.bool false)), []⟩])
       .ret)
      .skip))
    (.seq
     (.seq
      (.reg [12, 13] [
        ⟨none, (some 11), .mov (.t 0), []⟩,
        ⟨none, (some 12), .len (.t 11), []⟩,
        ⟨none, (some 13), .mov (.c (.int .i64 0)), []⟩])
      (.block 0
       (.loop b385_1)))
     (.seq
      (.reg [4] [
        ⟨none, (some 4), .mov (.c (.bool true)), []⟩])
      .ret))))
def c385 : Fn := { np := 2, nt := 26, kind := .pure, res := [.t 4], body := k385 }

/- laws.eqChangeS -/
def b390_1 : Cd :=
  (.seq
   (.seq
    (.reg [14] [
      ⟨none, (some 11), .mov (.t 5), []⟩,
      ⟨none, (some 12), .mov (.t 0), []⟩,
      ⟨none, (some 13), .len (.t 12), []⟩,
      ⟨none, (some 14), .bin .lss (.t 11) (.t 13), []⟩])
    (.cond (.t 14)
     .skip
     (.exit 0)))
   (.seq
    (.block 1
     (.seq
      (.reg [26] [
        ⟨none, (some 17), .mov (.t 0), []⟩,
        ⟨none, (some 18), .mov (.t 5), []⟩,
        ⟨none, (some 19), .idxA 2 (.t 17) (.t 18), []⟩,
        ⟨none, (some 20), .ld 2 true (.t 19), []⟩,
        ⟨none, (some 21), .mov (.t 1), []⟩,
        ⟨none, (some 22), .mov (.t 5), []⟩,
        ⟨none, (some 23), .idxA 2 (.t 21) (.t 22), []⟩,
        ⟨none, (some 24), .ld 2 true (.t 23), []⟩,
        ⟨none, (some 25), .call true 529 [.t 20, .t 24], []⟩,
        ⟨none, (some 26), .un .not (.t 25), []⟩])
      (.cond (.t 26)
       (.seq
        (.reg [4] [
          ⟨none, (some 4), .mov (.c (.bool false)), []⟩])
        .ret)
       .skip)))
    (.reg [5] [
      ⟨none, (some 15), .mov (.t 5), []⟩,
      ⟨none, (some 16), .bin .add (.t 15) (.c (.int .i64 1)), []⟩,
      ⟨none, (some 5), .mov (.t 16), []⟩])))
def k390 : Cd :=
  (.seq
   (.reg [4] [
     ⟨none, (some 4), .mov (.c (.bool false)), []⟩])
   (.seq
    (.seq
     (.reg [10] [
       ⟨none, (some 6), .mov (.t 0), []⟩,
       ⟨none, (some 7), .len (.t 6), []⟩,
       ⟨none, (some 8), .mov (.t 1), []⟩,
       ⟨none, (some 9), .len (.t 8), []⟩,
       ⟨none, (some 10), .bin .neq (.t 7) (.t 9), []⟩])
     (.cond (.t 10)
      (.seq
       (.reg [4] [
         ⟨none, (some 4), .mov (.c (.bool false)), []⟩])
       .ret)
      .skip))
    (.seq
     (.seq
      (.reg [5] [
        ⟨none, (some 5), .mov (.c (.int .i64 0)), []⟩])
      (.block 0
       (.loop b390_1)))
     (.seq
      (.reg [4] [
        ⟨none, (some 4), .mov (.c (.bool true)), []⟩])
      .ret))))
def c390 : Fn := { np := 2, nt := 27, kind := .pure, res := [.t 4], body := k390 }

/- laws.toChange -/
def k488 : Cd :=
  (.seq
   (.reg [1, 2] [
     ⟨none, (some 1), .mov (.t 0), []⟩,
     ⟨none, (some 2), .zero true [.int .i8 0, .int .u16 0], []⟩])
   (.seq
    (.reg [3] [
      ⟨none, (some 3), .zero true [.int .i8 0, .int .u16 0], []⟩])
    (.seq
     (.reg [3] [
       ⟨none, (some 4), .adrF 1 none 0, []⟩,
       ⟨none, (some 5), .ldV 1 (some 4) 1 false, []⟩,
       ⟨none, (some 6), .adrF 3 none 0, []⟩,
       ⟨none, (some 3), .stV 3 (some 6) 1 (.t 5), []⟩])
     (.seq
      (.reg [3] [
        ⟨none, (some 7), .adrF 1 none 1, []⟩,
        ⟨none, (some 8), .ldV 1 (some 7) 1 false, []⟩,
        ⟨none, (some 9), .adrF 3 none 1, []⟩,
        ⟨none, (some 3), .stV 3 (some 9) 1 (.t 8), []⟩])
      (.seq
       (.reg [2] [
         ⟨none, (some 10), .ldV 3 none 2 true, []⟩,
         ⟨none, (some 2), .stV 2 none 2 (.t 10), []⟩])
       .ret)))))
def c488 : Fn := { np := 1, nt := 11, kind := .pure, res := [.v 2 2 true], body := k488 }

/- laws.fillerChange -/
def k489 : Cd :=
  (.seq
   (.reg [0] [
     ⟨none, (some 0), .zero true [.int .i8 0, .int .u16 0], []⟩])
   (.seq
    (.reg [0] [
      ⟨none, (some 1), .agg [.int .i8 0, .int .u16 0] [(0, 1, (.c (.int .i8 (-101)))), (1, 1, (.c (.int .u16 60201)))], []⟩,
      ⟨none, (some 0), .stV 0 none 2 (.t 1), []⟩])
    .ret))
def c489 : Fn := { np := 0, nt := 2, kind := .pure, res := [.v 0 2 true], body := k489 }

/- laws.eqChange -/
def k529 : Cd :=
  (.seq
   (.reg [2, 3, 4] [
     ⟨none, (some 2), .mov (.t 0), []⟩,
     ⟨none, (some 3), .mov (.t 1), []⟩,
     ⟨none, (some 4), .mov (.c (.bool false)), []⟩])
   (.seq
    (.seq
     (.reg [9] [
       ⟨none, (some 5), .adrF 2 none 0, []⟩,
       ⟨none, (some 6), .ldV 2 (some 5) 1 false, []⟩,
       ⟨none, (some 7), .adrF 3 none 0, []⟩,
       ⟨none, (some 8), .ldV 3 (some 7) 1 false, []⟩,
       ⟨none, (some 9), .bin .neq (.t 6) (.t 8), []⟩])
     (.cond (.t 9)
      (.seq
       (.reg [4] [
         ⟨none, (some 4), .mov (.c (.bool false)), []⟩])
       .ret)
      .skip))
    (.seq
     (.seq
      (.reg [14] [
        ⟨none, (some 10), .adrF 2 none 1, []⟩,
        ⟨none, (some 11), .ldV 2 (some 10) 1 false, []⟩,
        ⟨none, (some 12), .adrF 3 none 1, []⟩,
        ⟨none, (some 13), .ldV 3 (some 12) 1 false, []⟩,
        ⟨none, (some 14), .bin .neq (.t 11) (.t 13), []⟩])
      (.cond (.t 14)
       (.seq
        (.reg [4] [
          ⟨none, (some 4), .mov (.c (.bool false)), []⟩])
        .ret)
       .skip))
     (.seq
      (.reg [4] [
        ⟨none, (some 4), .mov (.c (.bool true)), []⟩])
      .ret))))
def c529 : Fn := { np := 2, nt := 15, kind := .pure, res := [.t 4], body := k529 }


end Fb
