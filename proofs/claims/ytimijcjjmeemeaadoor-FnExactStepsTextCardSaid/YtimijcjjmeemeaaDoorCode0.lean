/- The functions of the law, in the small language. -/
import Derived.Test.YtimijcjjmeemeaaDoorDen
set_option linter.unusedVariables false
set_option linter.unusedSimpArgs false
namespace Fb
open Go

/- laws.FnExactStepsText -/
def k54 : Cd :=
  (.seq
   (.reg [2] [
     ⟨none, (some 2), .mov (.c (.bool false)), []⟩])
   (.seq
    (.reg [3] [
      ⟨none, (some 3), .mov (.c (.int .i64 1000000)), []⟩])
    (.seq
     (.reg [3] [
       ⟨none, (some 8), .mov (.t 0), []⟩,
       ⟨none, (some 9), .mov (.t 3), []⟩,
       ⟨none, (some 10), .call true 157 [.t 8, .t 9], []⟩,
       ⟨none, (some 3), .mov (.t 10), []⟩])
     (.seq
      (.seq
       (.reg [12] [
         ⟨none, (some 11), .mov (.t 3), []⟩,
         ⟨none, (some 12), .bin .lss (.t 11) (.c (.int .i64 0)), []⟩])
       (.cond (.t 12)
        (.seq
         (.reg [2] [
           ⟨none, (some 2), .mov (.c (.bool true)), []⟩])
         .ret)
        .skip))
      (.seq
       (.reg [4] [
         ⟨none, (some 13), .mov (.t 0), []⟩,
         ⟨none, (some 14), .call true 159 [.t 13, .c (.bool false)], []⟩,
         ⟨none, (some 15), .call true 270 [.t 14], []⟩,
         ⟨none, (some 4), .mov (.t 15), []⟩])
       (.seq
        (.reg [5] [
          ⟨none, (some 16), .mov (.t 0), []⟩,
          ⟨none, (some 17), .call true 159 [.t 16, .c (.bool false)], []⟩,
          ⟨none, (some 5), .mov (.t 17), []⟩])
        (.seq
         (.reg [6] [
           ⟨none, (some 18), .mov (.t 5), []⟩,
           ⟨none, (some 19), .call true 271 [.t 18], []⟩,
           ⟨none, (some 6), .mov (.t 19), []⟩])
         (.seq
          (.seq
           (.reg [22] [
             ⟨none, (some 20), .mov (.t 6), []⟩,
             ⟨none, (some 21), .mov (.t 4), []⟩,
             ⟨none, (some 22), .eq .s true (.t 20) (.t 21), []⟩])
           (.cond (.t 22)
            (.seq
             (.reg [2] [
               ⟨none, (some 2), .mov (.c (.bool false)), []⟩])
             .ret)
            .skip))
          (.seq
           (.seq
            (.reg [27] [
              ⟨none, (some 23), .mov (.t 5), []⟩,
              ⟨none, (some 24), .mov (.t 0), []⟩,
              ⟨none, (some 25), .call true 159 [.t 24, .c (.bool false)], []⟩,
              ⟨none, (some 26), .call true 161 [.t 23, .t 25], []⟩,
              ⟨none, (some 27), .un .not (.t 26), []⟩])
            (.cond (.t 27)
             (.seq
              (.reg [2] [
                ⟨none, (some 2), .mov (.c (.bool false)), []⟩])
              .ret)
             .skip))
           (.seq
            (.reg [7] [
              ⟨none, (some 28), .mov (.t 0), []⟩,
              ⟨none, (some 29), .call true 159 [.t 28, .c (.bool true)], []⟩,
              ⟨none, (some 30), .call true 271 [.t 29], []⟩,
              ⟨none, (some 7), .mov (.t 30), []⟩])
            (.seq
             (.seq
              (.reg [33] [
                ⟨none, (some 31), .mov (.t 7), []⟩,
                ⟨none, (some 32), .mov (.t 4), []⟩,
                ⟨none, (some 33), .eq .s true (.t 31) (.t 32), []⟩])
              (.cond (.t 33)
               (.seq
                (.reg [2] [
                  ⟨none, (some 2), .mov (.c (.bool false)), []⟩])
                .ret)
               .skip))
             (.seq
              (.reg [2] [
                ⟨none, (some 2), .mov (.c (.bool true)), []⟩])
              .ret))))))))))))
def c54 : Fn := { np := 1, nt := 34, kind := .pure, res := [.t 2], body := k54 }

/- laws.szStep -/
def k79 : Cd :=
  (.seq
   (.reg [2, 4] [
     ⟨none, (some 2), .mov (.t 0), []⟩,
     ⟨none, (some 4), .mov (.c (.int .i64 0)), []⟩])
   (.seq
    (.reg [1] [
      ⟨none, (some 5), .adrF 2 none 4, []⟩,
      ⟨none, (some 6), .ldV 2 (some 5) 1 false, []⟩,
      ⟨none, (some 7), .mov (.t 1), []⟩,
      ⟨none, (some 8), .call true 308 [.t 6, .t 7], []⟩,
      ⟨none, (some 1), .mov (.t 8), []⟩])
    (.seq
     (.seq
      (.reg [10] [
        ⟨none, (some 9), .mov (.t 1), []⟩,
        ⟨none, (some 10), .bin .lss (.t 9) (.c (.int .i64 0)), []⟩])
      (.cond (.t 10)
       (.seq
        (.reg [4] [
          ⟨none, (some 4), .mov (.c (.int .i64 (-1))), []⟩])
        .ret)
       .skip))
     (.seq
      (.reg [4] [
        ⟨none, (some 11), .mov (.t 1), []⟩,
        ⟨none, (some 4), .mov (.t 11), []⟩])
      .ret))))
def c79 : Fn := { np := 2, nt := 12, kind := .pure, res := [.t 4], body := k79 }

/- laws.toStep -/
def k81 : Cd :=
  (.seq
   (.reg [2, 4] [
     ⟨none, (some 2), .mov (.t 0), []⟩,
     ⟨none, (some 4), .zero true [.int .i8 0, .int .i8 0, .int .i8 0, .int .i8 0, .slice none 0 0], []⟩])
   (.seq
    (.reg [5] [
      ⟨none, (some 5), .zero true [.int .i8 0, .int .i8 0, .int .i8 0, .int .i8 0, .slice none 0 0], []⟩])
    (.seq
     (.reg [5] [
       ⟨none, (some 6), .adrF 2 none 0, []⟩,
       ⟨none, (some 7), .ldV 2 (some 6) 1 false, []⟩,
       ⟨none, (some 8), .adrF 5 none 0, []⟩,
       ⟨none, (some 5), .stV 5 (some 8) 1 (.t 7), []⟩])
     (.seq
      (.reg [5] [
        ⟨none, (some 9), .adrF 2 none 1, []⟩,
        ⟨none, (some 10), .ldV 2 (some 9) 1 false, []⟩,
        ⟨none, (some 11), .adrF 5 none 1, []⟩,
        ⟨none, (some 5), .stV 5 (some 11) 1 (.t 10), []⟩])
      (.seq
       (.reg [5] [
         ⟨none, (some 12), .adrF 2 none 2, []⟩,
         ⟨none, (some 13), .ldV 2 (some 12) 1 false, []⟩,
         ⟨none, (some 14), .adrF 5 none 2, []⟩,
         ⟨none, (some 5), .stV 5 (some 14) 1 (.t 13), []⟩])
       (.seq
        (.reg [5] [
          ⟨none, (some 15), .adrF 2 none 3, []⟩,
          ⟨none, (some 16), .ldV 2 (some 15) 1 false, []⟩,
          ⟨none, (some 17), .adrF 5 none 3, []⟩,
          ⟨none, (some 5), .stV 5 (some 17) 1 (.t 16), []⟩])
        (.seq
         (.reg [5] [
           ⟨none, (some 18), .adrF 2 none 4, []⟩,
           ⟨none, (some 19), .ldV 2 (some 18) 1 false, []⟩,
           ⟨none, (some 20), .mov (.t 1), []⟩,
           ⟨none, (some 21), .call true 311 [.t 19, .t 20], []⟩,
           ⟨none, (some 22), .adrF 5 none 4, []⟩,
           ⟨none, (some 5), .stV 5 (some 22) 1 (.t 21), []⟩])
         (.seq
          (.reg [4] [
            ⟨none, (some 23), .ldV 5 none 5 true, []⟩,
            ⟨none, (some 4), .stV 4 none 5 (.t 23), []⟩])
          .ret))))))))
def c81 : Fn := { np := 2, nt := 24, kind := .pure, res := [.v 4 5 true], body := k81 }

/- laws.intactStep -/
def k83 : Cd :=
  (.seq
   (.reg [2, 3, 4] [
     ⟨none, (some 2), .mov (.t 0), []⟩,
     ⟨none, (some 3), .mov (.t 1), []⟩,
     ⟨none, (some 4), .mov (.c (.bool false)), []⟩])
   (.seq
    (.seq
     (.reg [9] [
       ⟨none, (some 5), .adrF 2 none 0, []⟩,
       ⟨none, (some 6), .ldV 2 (some 5) 1 false, []⟩,
       ⟨none, (some 7), .adrF 3 none 0, []⟩,
       ⟨none, (some 8), .ldV 3 (some 7) 1 false, []⟩,
       ⟨none, (some 9), .bin .neq (.t 6) (.t 8), []⟩])
     (.cond (.t 9)
      (.seq
       (.reg [4] [
         ⟨none, (some 4), .mov (.c (.bool false)), []⟩])
       .ret)
      .skip))
    (.seq
     (.seq
      (.reg [14] [
        ⟨none, (some 10), .adrF 2 none 1, []⟩,
        ⟨none, (some 11), .ldV 2 (some 10) 1 false, []⟩,
        ⟨none, (some 12), .adrF 3 none 1, []⟩,
        ⟨none, (some 13), .ldV 3 (some 12) 1 false, []⟩,
        ⟨none, (some 14), .bin .neq (.t 11) (.t 13), []⟩])
      (.cond (.t 14)
       (.seq
        (.reg [4] [
          ⟨none, (some 4), .mov (.c (.bool false)), []⟩])
        .ret)
       .skip))
     (.seq
      (.seq
       (.reg [19] [
         ⟨none, (some 15), .adrF 2 none 2, []⟩,
         ⟨none, (some 16), .ldV 2 (some 15) 1 false, []⟩,
         ⟨none, (some 17), .adrF 3 none 2, []⟩,
         ⟨none, (some 18), .ldV 3 (some 17) 1 false, []⟩,
         ⟨none, (some 19), .bin .neq (.t 16) (.t 18), []⟩])
       (.cond (.t 19)
        (.seq
         (.reg [4] [
           ⟨none, (some 4), .mov (.c (.bool false)), []⟩])
         .ret)
        .skip))
      (.seq
       (.seq
        (.reg [24] [
          ⟨none, (some 20), .adrF 2 none 3, []⟩,
          ⟨none, (some 21), .ldV 2 (some 20) 1 false, []⟩,
          ⟨none, (some 22), .adrF 3 none 3, []⟩,
          ⟨none, (some 23), .ldV 3 (some 22) 1 false, []⟩,
          ⟨none, (some 24), .bin .neq (.t 21) (.t 23), []⟩])
        (.cond (.t 24)
         (.seq
          (.reg [4] [
            ⟨none, (some 4), .mov (.c (.bool false)), []⟩])
          .ret)
         .skip))
       (.seq
        (.seq
         (.reg [30] [
           ⟨none, (some 25), .adrF 2 none 4, []⟩,
           ⟨none, (some 26), .ldV 2 (some 25) 1 false, []⟩,
           ⟨none, (some 27), .adrF 3 none 4, []⟩,
           ⟨none, (some 28), .ldV 3 (some 27) 1 false, []⟩,
           ⟨none, (some 29), .call true 313 [.t 26, .t 28], []⟩,
           ⟨none, (some 30), .un .not (.t 29), []⟩])
         (.cond (.t 30)
          (.seq
           (.reg [4] [
             ⟨none, (some 4), .mov (.c (.bool false)), []⟩])
           .ret)
          .skip))
        (.seq
         (.reg [4] [
           ⟨none, (some 4), .mov (.c (.bool true)), []⟩])
         .ret)))))))
def c83 : Fn := { np := 2, nt := 31, kind := .pure, res := [.t 4], body := k83 }

/- laws.szStepS -/
def b157_1 : Cd :=
  (.seq
   (.seq
    (.reg [15] [
      ⟨none, (some 12), .mov (.t 5), []⟩,
      ⟨none, (some 13), .mov (.t 0), []⟩,
      ⟨none, (some 14), .len (.t 13), []⟩,
      ⟨none, (some 15), .bin .lss (.t 12) (.t 14), []⟩])
    (.cond (.t 15)
     .skip
     (.exit 0)))
   (.seq
    (.block 1
     (.seq
      (.reg [1] [
        ⟨none, (some 18), .mov (.t 0), []⟩,
        ⟨none, (some 19), .mov (.t 5), []⟩,
        ⟨none, (some 20), .idxA 5 (.t 18) (.t 19), []⟩,
        ⟨none, (some 21), .ld 5 true (.t 20), []⟩,
        ⟨none, (some 22), .mov (.t 1), []⟩,
        ⟨none, (some 23), .call true 79 [.t 21, .t 22], []⟩,
        ⟨none, (some 1), .mov (.t 23), []⟩])
      (.seq
       (.reg [25] [
         ⟨none, (some 24), .mov (.t 1), []⟩,
         ⟨none, (some 25), .bin .lss (.t 24) (.c (.int .i64 0)), []⟩])
       (.cond (.t 25)
        (.seq
         (.reg [4] [
           ⟨none, (some 4), .mov (.c (.int .i64 (-1))), []⟩])
         .ret)
        .skip))))
    (.reg [5] [
      ⟨none, (some 16), .mov (.t 5), []⟩,
      ⟨none, (some 17), .bin .add (.t 16) (.c (.int .i64 1)), []⟩,
      ⟨none, (some 5), .mov (.t 17), []⟩])))
def k157 : Cd :=
  (.seq
   (.reg [4] [
     ⟨none, (some 4), .mov (.c (.int .i64 0)), []⟩])
   (.seq
    (.reg [1] [
      ⟨none, (some 6), .mov (.t 1), []⟩,
      ⟨none, (some 7), .mov (.t 0), []⟩,
      ⟨none, (some 8), .len (.t 7), []⟩,
      ⟨none, (some 9), .bin .sub (.t 6) (.t 8), []⟩,
      ⟨none, (some 1), .mov (.t 9), []⟩])
    (.seq
     (.seq
      (.reg [11] [
        ⟨none, (some 10), .mov (.t 1), []⟩,
        ⟨none, (some 11), .bin .lss (.t 10) (.c (.int .i64 0)), []⟩])
      (.cond (.t 11)
       (.seq
        (.reg [4] [
          ⟨none, (some 4), .mov (.c (.int .i64 (-1))), []⟩])
        .ret)
       .skip))
     (.seq
      (.seq
       (.reg [5] [
         ⟨none, (some 5), .mov (.c (.int .i64 0)), []⟩])
       (.block 0
        (.loop b157_1)))
      (.seq
       (.reg [4] [
         ⟨none, (some 26), .mov (.t 1), []⟩,
         ⟨none, (some 4), .mov (.t 26), []⟩])
       .ret)))))
def c157 : Fn := { np := 2, nt := 27, kind := .pure, res := [.t 4], body := k157 }

/- laws.toStepS -/
def b159_1 : Cd :=
  (.seq
   (.seq
    (.reg [24] [
      ⟨none, (some 21), .mov (.t 6), []⟩,
      ⟨none, (some 22), .mov (.t 0), []⟩,
      ⟨none, (some 23), .len (.t 22), []⟩,
      ⟨none, (some 24), .bin .lss (.t 21) (.t 23), []⟩])
    (.cond (.t 24)
     .skip
     (.exit 0)))
   (.seq
    (.block 1
     (.reg [] [
       ⟨none, (some 27), .mov (.t 5), []⟩,
       ⟨none, (some 28), .mov (.t 6), []⟩,
       ⟨none, (some 29), .mov (.t 0), []⟩,
       ⟨none, (some 30), .mov (.t 6), []⟩,
       ⟨none, (some 31), .idxA 5 (.t 29) (.t 30), []⟩,
       ⟨none, (some 32), .ld 5 true (.t 31), []⟩,
       ⟨none, (some 33), .mov (.t 1), []⟩,
       ⟨none, (some 34), .call true 81 [.t 32, .t 33], []⟩,
       ⟨none, (some 35), .idxA 5 (.t 27) (.t 28), []⟩,
       ⟨none, none, .st 5 (.t 35) (.t 34), []⟩]))
    (.reg [6] [
      ⟨none, (some 25), .mov (.t 6), []⟩,
      ⟨none, (some 26), .bin .add (.t 25) (.c (.int .i64 1)), []⟩,
      ⟨none, (some 6), .mov (.t 26), []⟩])))
def b159_2 : Cd :=
  (.seq
   (.seq
    (.reg [41] [
      ⟨none, (some 38), .mov (.t 7), []⟩,
      ⟨none, (some 39), .mov (.t 5), []⟩,
      ⟨none, (some 40), .len (.t 39), []⟩,
      ⟨none, (some 41), .bin .lss (.t 38) (.t 40), []⟩])
    (.cond (.t 41)
     .skip
     (.exit 2)))
   (.seq
    (.block 3
     (.reg [] [
       ⟨none, (some 44), .mov (.t 5), []⟩,
       ⟨none, (some 45), .mov (.t 7), []⟩,
       ⟨none, (some 46), .call true 382 [], []⟩,
       ⟨none, (some 47), .idxA 5 (.t 44) (.t 45), []⟩,
       ⟨none, none, .st 5 (.t 47) (.t 46), []⟩]))
    (.reg [7] [
      ⟨none, (some 42), .mov (.t 7), []⟩,
      ⟨none, (some 43), .bin .add (.t 42) (.c (.int .i64 1)), []⟩,
      ⟨none, (some 7), .mov (.t 43), []⟩])))
def k159 : Cd :=
  (.seq
   (.reg [4] [
     ⟨none, (some 4), .mov (.c (.slice none 0 0)), []⟩])
   (.seq
    (.seq
     (.reg [13] [
       ⟨none, (some 8), .mov (.t 1), []⟩,
       ⟨none, (some 9), .mov (.t 8), []⟩,
       ⟨(some (9, true)), (some 10), .mov (.t 0), []⟩,
       ⟨(some (9, true)), (some 11), .len (.t 10), []⟩,
       ⟨(some (9, true)), (some 12), .bin .eql (.t 11) (.c (.int .i64 0)), []⟩,
       ⟨none, (some 13), .pick (.t 9) (.t 12) (.c (.bool false)), []⟩])
     (.cond (.t 13)
      (.seq
       (.reg [4] [
         ⟨none, (some 4), .mov (.c (.slice none 0 0)), []⟩])
       .ret)
      .skip))
    (.seq
     (.reg [5] [
       ⟨none, (some 14), .mov (.t 0), []⟩,
       ⟨none, (some 15), .len (.t 14), []⟩,
       ⟨none, (some 16), .mov (.t 0), []⟩,
       ⟨none, (some 17), .len (.t 16), []⟩,
       ⟨none, (some 18), .call true 296 [.t 17], []⟩,
       ⟨none, (some 19), .bin .add (.t 15) (.t 18), []⟩,
       ⟨none, (some 20), .mkS 5 32 [.int .i8 0, .int .i8 0, .int .i8 0, .int .i8 0, .slice none 0 0] (.t 19) (.t 19), []⟩,
       ⟨none, (some 5), .mov (.t 20), []⟩])
     (.seq
      (.seq
       (.reg [6] [
         ⟨none, (some 6), .mov (.c (.int .i64 0)), []⟩])
       (.block 0
        (.loop b159_1)))
      (.seq
       (.seq
        (.reg [7] [
          ⟨none, (some 36), .mov (.t 0), []⟩,
          ⟨none, (some 37), .len (.t 36), []⟩,
          ⟨none, (some 7), .mov (.t 37), []⟩])
        (.block 2
         (.loop b159_2)))
       (.seq
        (.reg [4] [
          ⟨none, (some 48), .mov (.t 5), []⟩,
          ⟨none, (some 49), .mov (.t 0), []⟩,
          ⟨none, (some 50), .len (.t 49), []⟩,
          ⟨none, (some 51), .slcA 5 (.t 48) none (some (.t 50)) none, []⟩,
          ⟨none, (some 4), .mov (.t 51), []⟩])
        .ret))))))
def c159 : Fn := { np := 2, nt := 52, kind := .pure, res := [.t 4], body := k159 }

/- laws.intactStepS -/
def b161_1 : Cd :=
  (.seq
   (.seq
    (.reg [21] [
      ⟨none, (some 18), .mov (.t 6), []⟩,
      ⟨none, (some 19), .mov (.t 1), []⟩,
      ⟨none, (some 20), .len (.t 19), []⟩,
      ⟨none, (some 21), .bin .lss (.t 18) (.t 20), []⟩])
    (.cond (.t 21)
     .skip
     (.exit 0)))
   (.seq
    (.block 1
     (.seq
      (.reg [33] [
        ⟨none, (some 24), .mov (.t 0), []⟩,
        ⟨none, (some 25), .mov (.t 6), []⟩,
        ⟨none, (some 26), .idxA 5 (.t 24) (.t 25), []⟩,
        ⟨none, (some 27), .ld 5 true (.t 26), []⟩,
        ⟨none, (some 28), .mov (.t 1), []⟩,
        ⟨none, (some 29), .mov (.t 6), []⟩,
        ⟨none, (some 30), .idxA 5 (.t 28) (.t 29), []⟩,
        ⟨none, (some 31), .ld 5 true (.t 30), []⟩,
        ⟨none, (some 32), .call true 83 [.t 27, .t 31], []⟩,
        ⟨none, (some 33), .un .not (.t 32), []⟩])
      (.cond (.t 33)
       (.seq
        (.reg [4] [
          ⟨none, (some 4), .mov (.c (.bool false)), []⟩])
        .ret)
       .skip)))
    (.reg [6] [
      ⟨none, (some 22), .mov (.t 6), []⟩,
      ⟨none, (some 23), .bin .add (.t 22) (.c (.int .i64 1)), []⟩,
      ⟨none, (some 6), .mov (.t 23), []⟩])))
def k161 : Cd :=
  (.seq
   (.reg [4] [
     ⟨none, (some 4), .mov (.c (.bool false)), []⟩])
   (.seq
    (.reg [5] [
      ⟨none, (some 7), .mov (.t 1), []⟩,
      ⟨none, (some 8), .len (.t 7), []⟩,
      ⟨none, (some 9), .mov (.t 1), []⟩,
      ⟨none, (some 10), .len (.t 9), []⟩,
      ⟨none, (some 11), .call true 296 [.t 10], []⟩,
      ⟨none, (some 12), .bin .add (.t 8) (.t 11), []⟩,
      ⟨none, (some 5), .mov (.t 12), []⟩])
    (.seq
     (.seq
      (.reg [17] [
        ⟨none, (some 13), .mov (.t 0), []⟩,
        ⟨none, (some 14), .len (.t 13), []⟩,
        ⟨none, (some 15), .mov (.t 1), []⟩,
        ⟨none, (some 16), .len (.t 15), []⟩,
        ⟨none, (some 17), .bin .neq (.t 14) (.t 16), []⟩])
      (.cond (.t 17)
       (.seq
        (.reg [4] [
          ⟨none, (some 4), .mov (.c (.bool false)), []⟩])
        .ret)
       .skip))
     (.seq
      (.seq
       (.reg [6] [
         ⟨none, (some 6), .mov (.c (.int .i64 0)), []⟩])
       (.block 0
        (.loop b161_1)))
      (.seq
       (.reg [4] [
         ⟨none, (some 34), .mov (.t 0), []⟩,
         ⟨none, (some 35), .mov (.t 1), []⟩,
         ⟨none, (some 36), .len (.t 35), []⟩,
         ⟨none, (some 37), .mov (.t 5), []⟩,
         ⟨none, (some 38), .slcA 5 (.t 34) (some (.t 36)) (some (.t 37)) none, []⟩,
         ⟨none, (some 39), .mov (.t 1), []⟩,
         ⟨none, (some 40), .mov (.t 1), []⟩,
         ⟨none, (some 41), .len (.t 40), []⟩,
         ⟨none, (some 42), .mov (.t 5), []⟩,
         ⟨none, (some 43), .slcA 5 (.t 39) (some (.t 41)) (some (.t 42)) none, []⟩,
         ⟨none, (some 44), .call true 213 [.t 38, .t 43], []⟩,
         ⟨none, (some 4), .mov (.t 44), []⟩])
       .ret)))))
def c161 : Fn := { np := 2, nt := 45, kind := .pure, res := [.t 4], body := k161 }

/- impl.ValidSteps -/
def b163_1 : Cd :=
  (.seq
   (.reg [8] [
     ⟨none, (some 8), .bin .lss (.t 7) (.t 6), []⟩])
   (.seq
    (.cond (.t 8)
     .skip
     (.exit 0))
    (.seq
     (.block 1
      (.seq
       (.reg [4, 3] [
         ⟨none, (some 9), .mov (.t 7), []⟩,
         ⟨none, (some 10), .idxA 5 (.t 5) (.t 7), []⟩,
         ⟨none, (some 11), .ld 5 true (.t 10), []⟩,
         ⟨none, (some 4), .zero true [.int .i8 0, .int .i8 0, .int .i8 0, .int .i8 0, .slice none 0 0], []⟩,
         ⟨none, (some 3), .mov (.t 9), []⟩,
         ⟨none, (some 4), .stV 4 none 5 (.t 11), []⟩])
       (.seq
        (.reg [15] [
          ⟨none, (some 12), .ldV 4 none 5 true, []⟩,
          ⟨none, (some 13), .mov (.t 3), []⟩,
          ⟨none, (some 14), .call true 387 [.t 12, .t 13], []⟩,
          ⟨none, (some 15), .un .not (.t 14), []⟩])
        (.cond (.t 15)
         (.seq
          (.reg [2] [
            ⟨none, (some 2), .mov (.c (.bool false)), []⟩])
          .ret)
         .skip))))
     (.reg [7] [
       ⟨none, (some 16), .bin .add (.t 7) (.c (.int .i64 1)), []⟩,
       ⟨none, (some 7), .mov (.t 16), []⟩]))))
def k163 : Cd :=
  (.seq
   (.reg [2] [
     ⟨none, (some 2), .mov (.c (.bool false)), []⟩])
   (.seq
    (.seq
     (.reg [5, 6, 7] [
       ⟨none, (some 5), .mov (.t 0), []⟩,
       ⟨none, (some 6), .len (.t 5), []⟩,
       ⟨none, (some 7), .mov (.c (.int .i64 0)), []⟩])
     (.block 0
      (.loop b163_1)))
    (.seq
     (.reg [2] [
       ⟨none, (some 17), .mov (.t 0), []⟩,
       ⟨none, (some 18), .len (.t 17), []⟩,
       ⟨none, (some 19), .bin .leq (.t 18) (.c (.int .i64 40)), []⟩,
       ⟨none, (some 2), .mov (.t 19), []⟩])
     .ret)))
def c163 : Fn := { np := 1, nt := 20, kind := .pure, res := [.t 2], body := k163 }

/- laws.eqStep -/
def k166 : Cd :=
  (.seq
   (.reg [2, 3, 4] [
     ⟨none, (some 2), .mov (.t 0), []⟩,
     ⟨none, (some 3), .mov (.t 1), []⟩,
     ⟨none, (some 4), .mov (.c (.bool false)), []⟩])
   (.seq
    (.seq
     (.reg [9] [
       ⟨none, (some 5), .adrF 2 none 0, []⟩,
       ⟨none, (some 6), .ldV 2 (some 5) 1 false, []⟩,
       ⟨none, (some 7), .adrF 3 none 0, []⟩,
       ⟨none, (some 8), .ldV 3 (some 7) 1 false, []⟩,
       ⟨none, (some 9), .bin .neq (.t 6) (.t 8), []⟩])
     (.cond (.t 9)
      (.seq
       (.reg [4] [
         ⟨none, (some 4), .mov (.c (.bool false)), []⟩])
       .ret)
      .skip))
    (.seq
     (.seq
      (.reg [14] [
        ⟨none, (some 10), .adrF 2 none 1, []⟩,
        ⟨none, (some 11), .ldV 2 (some 10) 1 false, []⟩,
        ⟨none, (some 12), .adrF 3 none 1, []⟩,
        ⟨none, (some 13), .ldV 3 (some 12) 1 false, []⟩,
        ⟨none, (some 14), .bin .neq (.t 11) (.t 13), []⟩])
      (.cond (.t 14)
       (.seq
        (.reg [4] [
          ⟨none, (some 4), .mov (.c (.bool false)), []⟩])
        .ret)
       .skip))
     (.seq
      (.seq
       (.reg [19] [
         ⟨none, (some 15), .adrF 2 none 2, []⟩,
         ⟨none, (some 16), .ldV 2 (some 15) 1 false, []⟩,
         ⟨none, (some 17), .adrF 3 none 2, []⟩,
         ⟨none, (some 18), .ldV 3 (some 17) 1 false, []⟩,
         ⟨none, (some 19), .bin .neq (.t 16) (.t 18), []⟩])
       (.cond (.t 19)
        (.seq
         (.reg [4] [
           ⟨none, (some 4), .mov (.c (.bool false)), []⟩])
         .ret)
        .skip))
      (.seq
       (.seq
        (.reg [24] [
          ⟨none, (some 20), .adrF 2 none 3, []⟩,
          ⟨none, (some 21), .ldV 2 (some 20) 1 false, []⟩,
          ⟨none, (some 22), .adrF 3 none 3, []⟩,
          ⟨none, (some 23), .ldV 3 (some 22) 1 false, []⟩,
          ⟨none, (some 24), .bin .neq (.t 21) (.t 23), []⟩])
        (.cond (.t 24)
         (.seq
          (.reg [4] [
            ⟨none, (some 4), .mov (.c (.bool false)), []⟩])
          .ret)
         .skip))
       (.seq
        (.seq
         (.reg [30] [
           ⟨none, (some 25), .adrF 2 none 4, []⟩,
           ⟨none, (some 26), .ldV 2 (some 25) 1 false, []⟩,
           ⟨none, (some 27), .adrF 3 none 4, []⟩,
           ⟨none, (some 28), .ldV 3 (some 27) 1 false, []⟩,
           ⟨none, (some 29), .call true 390 [.t 26, .t 28], []⟩,
           ⟨none, (some 30), .un .not (.t 29), []⟩])
         (.cond (.t 30)
          (.seq
           (.reg [4] [
             ⟨none, (some 4), .mov (.c (.bool false)), []⟩])
           .ret)
          .skip))
        (.seq
         (.reg [4] [
           ⟨none, (some 4), .mov (.c (.bool true)), []⟩])
         .ret)))))))
def c166 : Fn := { np := 2, nt := 31, kind := .pure, res := [.t 4], body := k166 }

/- laws.eqStepS -/
def b213_1 : Cd :=
  (.seq
   (.seq
    (.reg [14] [
      ⟨none, (some 11), .mov (.t 5), []⟩,
      ⟨none, (some 12), .mov (.t 0), []⟩,
      ⟨none, (some 13), .len (.t 12), []⟩,
      ⟨none, (some 14), .bin .lss (.t 11) (.t 13), []⟩])
    (.cond (.t 14)
     .skip
     (.exit 0)))
   (.seq
    (.block 1
     (.seq
      (.reg [26] [
        ⟨none, (some 17), .mov (.t 0), []⟩,
        ⟨none, (some 18), .mov (.t 5), []⟩,
        ⟨none, (some 19), .idxA 5 (.t 17) (.t 18), []⟩,
        ⟨none, (some 20), .ld 5 true (.t 19), []⟩,
        ⟨none, (some 21), .mov (.t 1), []⟩,
        ⟨none, (some 22), .mov (.t 5), []⟩,
        ⟨none, (some 23), .idxA 5 (.t 21) (.t 22), []⟩,
        ⟨none, (some 24), .ld 5 true (.t 23), []⟩,
        ⟨none, (some 25), .call true 166 [.t 20, .t 24], []⟩,
        ⟨none, (some 26), .un .not (.t 25), []⟩])
      (.cond (.t 26)
       (.seq
        (.reg [4] [
          ⟨none, (some 4), .mov (.c (.bool false)), []⟩])
        .ret)
       .skip)))
    (.reg [5] [
      ⟨none, (some 15), .mov (.t 5), []⟩,
      ⟨none, (some 16), .bin .add (.t 15) (.c (.int .i64 1)), []⟩,
      ⟨none, (some 5), .mov (.t 16), []⟩])))
def k213 : Cd :=
  (.seq
   (.reg [4] [
     ⟨none, (some 4), .mov (.c (.bool false)), []⟩])
   (.seq
    (.seq
     (.reg [10] [
       ⟨none, (some 6), .mov (.t 0), []⟩,
       ⟨none, (some 7), .len (.t 6), []⟩,
       ⟨none, (some 8), .mov (.t 1), []⟩,
       ⟨none, (some 9), .len (.t 8), []⟩,
       ⟨none, (some 10), .bin .neq (.t 7) (.t 9), []⟩])
     (.cond (.t 10)
      (.seq
       (.reg [4] [
         ⟨none, (some 4), .mov (.c (.bool false)), []⟩])
       .ret)
      .skip))
    (.seq
     (.seq
      (.reg [5] [
        ⟨none, (some 5), .mov (.c (.int .i64 0)), []⟩])
      (.block 0
       (.loop b213_1)))
     (.seq
      (.reg [4] [
        ⟨none, (some 4), .mov (.c (.bool true)), []⟩])
      .ret))))
def c213 : Fn := { np := 2, nt := 27, kind := .pure, res := [.t 4], body := k213 }

/- spec.StepsText -/
def k270 : Cd :=
  (.seq
   (.reg [2] [
     ⟨none, (some 2), .mov (.c (.string ⟨#[]⟩)), []⟩])
   (.seq
    (.seq
     (.reg [5] [
       ⟨none, (some 3), .mov (.t 0), []⟩,
       ⟨none, (some 4), .call true 386 [.t 3], []⟩,
       ⟨none, (some 5), .un .not (.t 4), []⟩])
     (.cond (.t 5)
      (.seq
       (.reg [2] [
         ⟨none, (some 2), .mov (.c (.string ⟨#[]⟩)), []⟩])
       .ret)
      .skip))
    (.seq
     (.reg [2] [
       ⟨none, (some 6), .mov (.t 0), []⟩,
       ⟨none, (some 7), .call true 463 [.t 6], []⟩,
       ⟨none, (some 2), .mov (.t 7), []⟩])
     .ret)))
def c270 : Fn := { np := 1, nt := 8, kind := .pure, res := [.t 2], body := k270 }

/- impl.inRange -/
def k295 : Cd :=
  (.seq
   (.reg [6] [
     ⟨none, (some 6), .mov (.c (.bool false)), []⟩])
   (.seq
    (.reg [6] [
      ⟨none, (some 7), .mov (.t 1), []⟩,
      ⟨none, (some 8), .mov (.t 0), []⟩,
      ⟨none, (some 9), .bin .leq (.t 7) (.t 8), []⟩,
      ⟨none, (some 10), .mov (.t 9), []⟩,
      ⟨(some (10, true)), (some 11), .mov (.t 0), []⟩,
      ⟨(some (10, true)), (some 12), .mov (.t 2), []⟩,
      ⟨(some (10, true)), (some 13), .bin .leq (.t 11) (.t 12), []⟩,
      ⟨none, (some 14), .pick (.t 10) (.t 13) (.c (.bool false)), []⟩,
      ⟨none, (some 6), .mov (.t 14), []⟩])
    .ret))
def c295 : Fn := { np := 3, nt := 15, kind := .pure, res := [.t 6], body := k295 }

/- laws.roomBehind -/
def k296 : Cd :=
  (.seq
   (.reg [2] [
     ⟨none, (some 2), .mov (.c (.int .i64 0)), []⟩])
   (.seq
    (.seq
     (.reg [5] [
       ⟨none, (some 3), .mov (.t 0), []⟩,
       ⟨none, (some 4), .bin .rem (.t 3) (.c (.int .i64 6)), []⟩,
       ⟨none, (some 5), .bin .eql (.t 4) (.c (.int .i64 5)), []⟩])
     (.cond (.t 5)
      (.seq
       (.reg [2] [
         ⟨none, (some 2), .mov (.c (.int .i64 0)), []⟩])
       .ret)
      .skip))
    (.seq
     (.seq
      (.reg [8] [
        ⟨none, (some 6), .mov (.t 0), []⟩,
        ⟨none, (some 7), .bin .rem (.t 6) (.c (.int .i64 3)), []⟩,
        ⟨none, (some 8), .bin .eql (.t 7) (.c (.int .i64 0)), []⟩])
      (.cond (.t 8)
       (.seq
        (.reg [2] [
          ⟨none, (some 2), .mov (.c (.int .i64 1)), []⟩])
        .ret)
       .skip))
     (.seq
      (.reg [2] [
        ⟨none, (some 9), .mov (.t 0), []⟩,
        ⟨none, (some 2), .mov (.t 9), []⟩])
      .ret))))
def c296 : Fn := { np := 1, nt := 10, kind := .pure, res := [.t 2], body := k296 }

/- spec.l00In -/
def k304 : Cd :=
  (.seq
   (.reg [6] [
     ⟨none, (some 6), .mov (.c (.bool false)), []⟩])
   (.seq
    (.reg [6] [
      ⟨none, (some 7), .mov (.t 0), []⟩,
      ⟨none, (some 8), .mov (.t 1), []⟩,
      ⟨none, (some 9), .bin .geq (.t 7) (.t 8), []⟩,
      ⟨none, (some 10), .mov (.t 9), []⟩,
      ⟨(some (10, true)), (some 11), .mov (.t 0), []⟩,
      ⟨(some (10, true)), (some 12), .mov (.t 2), []⟩,
      ⟨(some (10, true)), (some 13), .bin .leq (.t 11) (.t 12), []⟩,
      ⟨none, (some 14), .pick (.t 10) (.t 13) (.c (.bool false)), []⟩,
      ⟨none, (some 6), .mov (.t 14), []⟩])
    .ret))
def c304 : Fn := { np := 3, nt := 15, kind := .pure, res := [.t 6], body := k304 }

/- laws.szChangeS -/
def k308 : Cd :=
  (.seq
   (.reg [4] [
     ⟨none, (some 4), .mov (.c (.int .i64 0)), []⟩])
   (.seq
    (.reg [1] [
      ⟨none, (some 5), .mov (.t 1), []⟩,
      ⟨none, (some 6), .mov (.t 0), []⟩,
      ⟨none, (some 7), .len (.t 6), []⟩,
      ⟨none, (some 8), .bin .sub (.t 5) (.t 7), []⟩,
      ⟨none, (some 1), .mov (.t 8), []⟩])
    (.seq
     (.seq
      (.reg [10] [
        ⟨none, (some 9), .mov (.t 1), []⟩,
        ⟨none, (some 10), .bin .lss (.t 9) (.c (.int .i64 0)), []⟩])
      (.cond (.t 10)
       (.seq
        (.reg [4] [
          ⟨none, (some 4), .mov (.c (.int .i64 (-1))), []⟩])
        .ret)
       .skip))
     (.seq
      (.reg [4] [
        ⟨none, (some 11), .mov (.t 1), []⟩,
        ⟨none, (some 4), .mov (.t 11), []⟩])
      .ret))))
def c308 : Fn := { np := 2, nt := 12, kind := .pure, res := [.t 4], body := k308 }

/- spec.l06How -/
def k309 : Cd :=
  (.seq
   (.reg [2] [
     ⟨none, (some 2), .mov (.c (.bool false)), []⟩])
   (.seq
    (.reg [2] [
      ⟨none, (some 3), .mov (.t 0), []⟩,
      ⟨none, (some 4), .call true 304 [.t 3, .c (.int .i64 0), .c (.int .i64 2)], []⟩,
      ⟨none, (some 2), .mov (.t 4), []⟩])
    .ret))
def c309 : Fn := { np := 1, nt := 5, kind := .pure, res := [.t 2], body := k309 }

/- laws.toChangeS -/
def b311_1 : Cd :=
  (.seq
   (.seq
    (.reg [24] [
      ⟨none, (some 21), .mov (.t 6), []⟩,
      ⟨none, (some 22), .mov (.t 0), []⟩,
      ⟨none, (some 23), .len (.t 22), []⟩,
      ⟨none, (some 24), .bin .lss (.t 21) (.t 23), []⟩])
    (.cond (.t 24)
     .skip
     (.exit 0)))
   (.seq
    (.block 1
     (.reg [] [
       ⟨none, (some 27), .mov (.t 5), []⟩,
       ⟨none, (some 28), .mov (.t 6), []⟩,
       ⟨none, (some 29), .mov (.t 0), []⟩,
       ⟨none, (some 30), .mov (.t 6), []⟩,
       ⟨none, (some 31), .idxA 2 (.t 29) (.t 30), []⟩,
       ⟨none, (some 32), .ld 2 true (.t 31), []⟩,
       ⟨none, (some 33), .call true 488 [.t 32], []⟩,
       ⟨none, (some 34), .idxA 2 (.t 27) (.t 28), []⟩,
       ⟨none, none, .st 2 (.t 34) (.t 33), []⟩]))
    (.reg [6] [
      ⟨none, (some 25), .mov (.t 6), []⟩,
      ⟨none, (some 26), .bin .add (.t 25) (.c (.int .i64 1)), []⟩,
      ⟨none, (some 6), .mov (.t 26), []⟩])))
def b311_2 : Cd :=
  (.seq
   (.seq
    (.reg [40] [
      ⟨none, (some 37), .mov (.t 7), []⟩,
      ⟨none, (some 38), .mov (.t 5), []⟩,
      ⟨none, (some 39), .len (.t 38), []⟩,
      ⟨none, (some 40), .bin .lss (.t 37) (.t 39), []⟩])
    (.cond (.t 40)
     .skip
     (.exit 2)))
   (.seq
    (.block 3
     (.reg [] [
       ⟨none, (some 43), .mov (.t 5), []⟩,
       ⟨none, (some 44), .mov (.t 7), []⟩,
       ⟨none, (some 45), .call true 489 [], []⟩,
       ⟨none, (some 46), .idxA 2 (.t 43) (.t 44), []⟩,
       ⟨none, none, .st 2 (.t 46) (.t 45), []⟩]))
    (.reg [7] [
      ⟨none, (some 41), .mov (.t 7), []⟩,
      ⟨none, (some 42), .bin .add (.t 41) (.c (.int .i64 1)), []⟩,
      ⟨none, (some 7), .mov (.t 42), []⟩])))
def k311 : Cd :=
  (.seq
   (.reg [4] [
     ⟨none, (some 4), .mov (.c (.slice none 0 0)), []⟩])
   (.seq
    (.seq
     (.reg [13] [
       ⟨none, (some 8), .mov (.t 1), []⟩,
       ⟨none, (some 9), .mov (.t 8), []⟩,
       ⟨(some (9, true)), (some 10), .mov (.t 0), []⟩,
       ⟨(some (9, true)), (some 11), .len (.t 10), []⟩,
       ⟨(some (9, true)), (some 12), .bin .eql (.t 11) (.c (.int .i64 0)), []⟩,
       ⟨none, (some 13), .pick (.t 9) (.t 12) (.c (.bool false)), []⟩])
     (.cond (.t 13)
      (.seq
       (.reg [4] [
         ⟨none, (some 4), .mov (.c (.slice none 0 0)), []⟩])
       .ret)
      .skip))
    (.seq
     (.reg [5] [
       ⟨none, (some 14), .mov (.t 0), []⟩,
       ⟨none, (some 15), .len (.t 14), []⟩,
       ⟨none, (some 16), .mov (.t 0), []⟩,
       ⟨none, (some 17), .len (.t 16), []⟩,
       ⟨none, (some 18), .call true 296 [.t 17], []⟩,
       ⟨none, (some 19), .bin .add (.t 15) (.t 18), []⟩,
       ⟨none, (some 20), .mkS 2 4 [.int .i8 0, .int .u16 0] (.t 19) (.t 19), []⟩,
       ⟨none, (some 5), .mov (.t 20), []⟩])
     (.seq
      (.seq
       (.reg [6] [
         ⟨none, (some 6), .mov (.c (.int .i64 0)), []⟩])
       (.block 0
        (.loop b311_1)))
      (.seq
       (.seq
        (.reg [7] [
          ⟨none, (some 35), .mov (.t 0), []⟩,
          ⟨none, (some 36), .len (.t 35), []⟩,
          ⟨none, (some 7), .mov (.t 36), []⟩])
        (.block 2
         (.loop b311_2)))
       (.seq
        (.reg [4] [
          ⟨none, (some 47), .mov (.t 5), []⟩,
          ⟨none, (some 48), .mov (.t 0), []⟩,
          ⟨none, (some 49), .len (.t 48), []⟩,
          ⟨none, (some 50), .slcA 2 (.t 47) none (some (.t 49)) none, []⟩,
          ⟨none, (some 4), .mov (.t 50), []⟩])
        .ret))))))
def c311 : Fn := { np := 2, nt := 51, kind := .pure, res := [.t 4], body := k311 }

/- laws.intactChangeS -/
def k313 : Cd :=
  (.seq
   (.reg [4] [
     ⟨none, (some 4), .mov (.c (.bool false)), []⟩])
   (.seq
    (.reg [5] [
      ⟨none, (some 6), .mov (.t 1), []⟩,
      ⟨none, (some 7), .len (.t 6), []⟩,
      ⟨none, (some 8), .mov (.t 1), []⟩,
      ⟨none, (some 9), .len (.t 8), []⟩,
      ⟨none, (some 10), .call true 296 [.t 9], []⟩,
      ⟨none, (some 11), .bin .add (.t 7) (.t 10), []⟩,
      ⟨none, (some 5), .mov (.t 11), []⟩])
    (.seq
     (.reg [4] [
       ⟨none, (some 12), .mov (.t 0), []⟩,
       ⟨none, (some 13), .len (.t 12), []⟩,
       ⟨none, (some 14), .mov (.t 1), []⟩,
       ⟨none, (some 15), .len (.t 14), []⟩,
       ⟨none, (some 16), .bin .eql (.t 13) (.t 15), []⟩,
       ⟨none, (some 17), .mov (.t 16), []⟩,
       ⟨(some (17, true)), (some 18), .mov (.t 0), []⟩,
       ⟨(some (17, true)), (some 19), .mov (.t 5), []⟩,
       ⟨(some (17, true)), (some 20), .slcA 2 (.t 18) none (some (.t 19)) none, []⟩,
       ⟨(some (17, true)), (some 21), .mov (.t 1), []⟩,
       ⟨(some (17, true)), (some 22), .mov (.t 5), []⟩,
       ⟨(some (17, true)), (some 23), .slcA 2 (.t 21) none (some (.t 22)) none, []⟩,
       ⟨(some (17, true)), (some 24), .call true 390 [.t 20, .t 23], []⟩,
       ⟨none, (some 25), .pick (.t 17) (.t 24) (.c (.bool false)), []⟩,
       ⟨none, (some 4), .mov (.t 25), []⟩])
     .ret)))
def c313 : Fn := { np := 2, nt := 26, kind := .pure, res := [.t 4], body := k313 }

/- impl.decimal -/
def k379 : Cd :=
  (.seq
   (.reg [2] [
     ⟨none, (some 2), .mov (.c (.string ⟨#[]⟩)), []⟩])
   (.seq
    (.reg [2] [
      ⟨none, (some 3), .mov (.t 0), []⟩,
      ⟨none, (some 4), .call false 522 [.t 3, .c (.int .i64 10)], []⟩,
      ⟨none, (some 2), .mov (.t 4), []⟩])
    .ret))
def c379 : Fn := { np := 1, nt := 5, kind := .pure, res := [.t 2], body := k379 }

/- laws.fillerStep -/
def k382 : Cd :=
  (.seq
   (.reg [0] [
     ⟨none, (some 0), .zero true [.int .i8 0, .int .i8 0, .int .i8 0, .int .i8 0, .slice none 0 0], []⟩])
   (.seq
    (.reg [0] [
      ⟨none, (some 1), .call true 489 [], []⟩,
      ⟨none, (some 2), .bldS 2 1 [.int .i8 0, .int .u16 0] [(0, 2, (.t 1))], []⟩,
      ⟨none, (some 3), .agg [.int .i8 0, .int .i8 0, .int .i8 0, .int .i8 0, .slice none 0 0] [(0, 1, (.c (.int .i8 (-101)))), (1, 1, (.c (.int .i8 (-101)))), (2, 1, (.c (.int .i8 (-101)))), (3, 1, (.c (.int .i8 (-101)))), (4, 1, (.t 2))], []⟩,
      ⟨none, (some 0), .stV 0 none 5 (.t 3), []⟩])
    .ret))
def c382 : Fn := { np := 0, nt := 4, kind := .pure, res := [.v 0 5 true], body := k382 }

/- spec.l06Ok -/
def b386_1 : Cd :=
  (.seq
   (.seq
    (.reg [7] [
      ⟨none, (some 4), .mov (.t 3), []⟩,
      ⟨none, (some 5), .mov (.t 0), []⟩,
      ⟨none, (some 6), .len (.t 5), []⟩,
      ⟨none, (some 7), .bin .lss (.t 4) (.t 6), []⟩])
    (.cond (.t 7)
     .skip
     (.exit 0)))
   (.seq
    (.block 1
     (.seq
      (.reg [15] [
        ⟨none, (some 10), .mov (.t 0), []⟩,
        ⟨none, (some 11), .mov (.t 3), []⟩,
        ⟨none, (some 12), .idxA 5 (.t 10) (.t 11), []⟩,
        ⟨none, (some 13), .mov (.t 3), []⟩,
        ⟨none, (some 14), .call true 524 [.t 12, .t 13], []⟩,
        ⟨none, (some 15), .un .not (.t 14), []⟩])
      (.cond (.t 15)
       (.seq
        (.reg [2] [
          ⟨none, (some 2), .mov (.c (.bool false)), []⟩])
        .ret)
       .skip)))
    (.reg [3] [
      ⟨none, (some 8), .mov (.t 3), []⟩,
      ⟨none, (some 9), .bin .add (.t 8) (.c (.int .i64 1)), []⟩,
      ⟨none, (some 3), .mov (.t 9), []⟩])))
def k386 : Cd :=
  (.seq
   (.reg [2] [
     ⟨none, (some 2), .mov (.c (.bool false)), []⟩])
   (.seq
    (.seq
     (.reg [3] [
       ⟨none, (some 3), .mov (.c (.int .i64 0)), []⟩])
     (.block 0
      (.loop b386_1)))
    (.seq
     (.reg [2] [
       ⟨none, (some 16), .mov (.t 0), []⟩,
       ⟨none, (some 17), .len (.t 16), []⟩,
       ⟨none, (some 18), .bin .leq (.t 17) (.c (.int .i64 40)), []⟩,
       ⟨none, (some 2), .mov (.t 18), []⟩])
     .ret)))
def c386 : Fn := { np := 1, nt := 19, kind := .pure, res := [.t 2], body := k386 }

/- impl.isStep -/
def b387_1 : Cd :=
  (.seq
   (.reg [13] [
     ⟨none, (some 13), .bin .lss (.t 12) (.t 11), []⟩])
   (.seq
    (.cond (.t 13)
     .skip
     (.exit 0))
    (.seq
     (.block 1
      (.seq
       (.reg [6, 5] [
         ⟨none, (some 14), .mov (.t 12), []⟩,
         ⟨none, (some 15), .idxA 2 (.t 10) (.t 12), []⟩,
         ⟨none, (some 16), .ld 2 true (.t 15), []⟩,
         ⟨none, (some 6), .zero true [.int .i8 0, .int .u16 0], []⟩,
         ⟨none, (some 5), .mov (.t 14), []⟩,
         ⟨none, (some 6), .stV 6 none 2 (.t 16), []⟩])
       (.seq
        (.reg [44] [
          ⟨none, (some 17), .adrF 6 none 0, []⟩,
          ⟨none, (some 18), .ldV 6 (some 17) 1 false, []⟩,
          ⟨none, (some 19), .conv .i64 (.t 18), []⟩,
          ⟨none, (some 20), .call true 295 [.t 19, .c (.int .i64 0), .c (.int .i64 11)], []⟩,
          ⟨none, (some 21), .un .not (.t 20), []⟩,
          ⟨none, (some 22), .mov (.t 21), []⟩,
          ⟨(some (22, false)), (some 23), .adrF 6 none 1, []⟩,
          ⟨(some (22, false)), (some 24), .ldV 6 (some 23) 1 false, []⟩,
          ⟨(some (22, false)), (some 25), .conv .i64 (.t 24), []⟩,
          ⟨(some (22, false)), (some 26), .call true 295 [.t 25, .c (.int .i64 1), .c (.int .i64 4095)], []⟩,
          ⟨(some (22, false)), (some 27), .un .not (.t 26), []⟩,
          ⟨none, (some 28), .pick (.t 22) (.c (.bool true)) (.t 27), []⟩,
          ⟨none, (some 29), .mov (.t 28), []⟩,
          ⟨(some (29, false)), (some 30), .mov (.t 5), []⟩,
          ⟨(some (29, false)), (some 31), .bin .gtr (.t 30) (.c (.int .i64 0)), []⟩,
          ⟨(some (29, false)), (some 32), .mov (.t 31), []⟩,
          ⟨(some (32, true)), (some 33), .adrF 2 none 4, []⟩,
          ⟨(some (32, true)), (some 34), .ldV 2 (some 33) 1 false, []⟩,
          ⟨(some (32, true)), (some 35), .mov (.t 5), []⟩,
          ⟨(some (32, true)), (some 36), .bin .sub (.t 35) (.c (.int .i64 1)), []⟩,
          ⟨(some (32, true)), (some 37), .idxA 2 (.t 34) (.t 36), []⟩,
          ⟨(some (32, true)), (some 38), .fldP 0 (.t 37), []⟩,
          ⟨(some (32, true)), (some 39), .ld 1 false (.t 38), []⟩,
          ⟨(some (32, true)), (some 40), .adrF 6 none 0, []⟩,
          ⟨(some (32, true)), (some 41), .ldV 6 (some 40) 1 false, []⟩,
          ⟨(some (32, true)), (some 42), .bin .geq (.t 39) (.t 41), []⟩,
          ⟨(some (29, false)), (some 43), .pick (.t 32) (.t 42) (.c (.bool false)), []⟩,
          ⟨none, (some 44), .pick (.t 29) (.c (.bool true)) (.t 43), []⟩])
        (.cond (.t 44)
         (.seq
          (.reg [4] [
            ⟨none, (some 4), .mov (.c (.bool false)), []⟩])
          .ret)
         .skip))))
     (.reg [12] [
       ⟨none, (some 45), .bin .add (.t 12) (.c (.int .i64 1)), []⟩,
       ⟨none, (some 12), .mov (.t 45), []⟩]))))
def k387 : Cd :=
  (.seq
   (.reg [2, 4] [
     ⟨none, (some 2), .mov (.t 0), []⟩,
     ⟨none, (some 4), .mov (.c (.bool false)), []⟩])
   (.seq
    (.seq
     (.reg [10, 11, 12] [
       ⟨none, (some 9), .adrF 2 none 4, []⟩,
       ⟨none, (some 10), .ldV 2 (some 9) 1 false, []⟩,
       ⟨none, (some 11), .len (.t 10), []⟩,
       ⟨none, (some 12), .mov (.c (.int .i64 0)), []⟩])
     (.block 0
      (.loop b387_1)))
    (.seq
     (.reg [7] [
       ⟨none, (some 46), .adrF 2 none 2, []⟩,
       ⟨none, (some 47), .ldV 2 (some 46) 1 false, []⟩,
       ⟨none, (some 48), .bin .eql (.t 47) (.c (.int .i8 0)), []⟩,
       ⟨none, (some 49), .mov (.t 48), []⟩,
       ⟨(some (49, true)), (some 50), .adrF 2 none 3, []⟩,
       ⟨(some (49, true)), (some 51), .ldV 2 (some 50) 1 false, []⟩,
       ⟨(some (49, true)), (some 52), .bin .eql (.t 51) (.c (.int .i8 0)), []⟩,
       ⟨none, (some 53), .pick (.t 49) (.t 52) (.c (.bool false)), []⟩,
       ⟨none, (some 7), .mov (.t 53), []⟩])
     (.seq
      (.reg [8] [
        ⟨none, (some 54), .adrF 2 none 1, []⟩,
        ⟨none, (some 55), .ldV 2 (some 54) 1 false, []⟩,
        ⟨none, (some 56), .conv .i64 (.t 55), []⟩,
        ⟨none, (some 57), .mov (.t 1), []⟩,
        ⟨none, (some 58), .bin .sub (.t 57) (.c (.int .i64 1)), []⟩,
        ⟨none, (some 59), .call true 295 [.t 56, .c (.int .i64 0), .t 58], []⟩,
        ⟨none, (some 8), .mov (.t 59), []⟩])
      (.seq
       (.seq
        (.reg [61] [
          ⟨none, (some 60), .adrF 2 none 0, []⟩,
          ⟨none, (some 61), .ldV 2 (some 60) 1 false, []⟩])
        (.block 2
         (.seq
          (.reg [62] [
            ⟨none, (some 63), .bin .eql (.t 61) (.c (.int .i8 0)), []⟩,
            ⟨none, (some 62), .mov (.t 63), []⟩])
          (.cond (.t 62)
           (.seq
            (.reg [4] [
              ⟨none, (some 64), .mov (.t 7), []⟩,
              ⟨none, (some 65), .mov (.t 64), []⟩,
              ⟨(some (65, true)), (some 66), .adrF 2 none 1, []⟩,
              ⟨(some (65, true)), (some 67), .ldV 2 (some 66) 1 false, []⟩,
              ⟨(some (65, true)), (some 68), .bin .eql (.t 67) (.c (.int .i8 0)), []⟩,
              ⟨none, (some 69), .pick (.t 65) (.t 68) (.c (.bool false)), []⟩,
              ⟨none, (some 4), .mov (.t 69), []⟩])
            .ret)
           (.seq
            (.reg [70] [
              ⟨none, (some 71), .bin .eql (.t 61) (.c (.int .i8 1)), []⟩,
              ⟨none, (some 70), .mov (.t 71), []⟩])
            (.cond (.t 70)
             (.seq
              (.reg [4] [
                ⟨none, (some 72), .mov (.t 7), []⟩,
                ⟨none, (some 73), .mov (.t 72), []⟩,
                ⟨(some (73, true)), (some 74), .mov (.t 8), []⟩,
                ⟨none, (some 75), .pick (.t 73) (.t 74) (.c (.bool false)), []⟩,
                ⟨none, (some 4), .mov (.t 75), []⟩])
              .ret)
             (.seq
              (.reg [76] [
                ⟨none, (some 77), .bin .eql (.t 61) (.c (.int .i8 2)), []⟩,
                ⟨none, (some 76), .mov (.t 77), []⟩])
              (.cond (.t 76)
               (.seq
                (.reg [4] [
                  ⟨none, (some 78), .mov (.t 7), []⟩,
                  ⟨none, (some 79), .un .not (.t 78), []⟩,
                  ⟨none, (some 80), .mov (.t 79), []⟩,
                  ⟨(some (80, true)), (some 81), .mov (.t 8), []⟩,
                  ⟨none, (some 82), .pick (.t 80) (.t 81) (.c (.bool false)), []⟩,
                  ⟨none, (some 83), .mov (.t 82), []⟩,
                  ⟨(some (83, true)), (some 84), .adrF 2 none 2, []⟩,
                  ⟨(some (83, true)), (some 85), .ldV 2 (some 84) 1 false, []⟩,
                  ⟨(some (83, true)), (some 86), .conv .i64 (.t 85), []⟩,
                  ⟨(some (83, true)), (some 87), .call true 295 [.t 86, .c (.int .i64 (-12)), .c (.int .i64 12)], []⟩,
                  ⟨none, (some 88), .pick (.t 83) (.t 87) (.c (.bool false)), []⟩,
                  ⟨none, (some 89), .mov (.t 88), []⟩,
                  ⟨(some (89, true)), (some 90), .adrF 2 none 3, []⟩,
                  ⟨(some (89, true)), (some 91), .ldV 2 (some 90) 1 false, []⟩,
                  ⟨(some (89, true)), (some 92), .conv .i64 (.t 91), []⟩,
                  ⟨(some (89, true)), (some 93), .call true 295 [.t 92, .c (.int .i64 (-12)), .c (.int .i64 12)], []⟩,
                  ⟨none, (some 94), .pick (.t 89) (.t 93) (.c (.bool false)), []⟩,
                  ⟨none, (some 4), .mov (.t 94), []⟩])
                .ret)
               .skip))))))))
       (.seq
        (.reg [4] [
          ⟨none, (some 4), .mov (.c (.bool false)), []⟩])
        .ret))))))
def c387 : Fn := { np := 2, nt := 95, kind := .pure, res := [.t 4], body := k387 }

/- laws.eqChangeS -/
def b390_1 : Cd :=
  (.seq
   (.seq
    (.reg [14] [
      ⟨none, (some 11), .mov (.t 5), []⟩,
      ⟨none, (some 12), .mov (.t 0), []⟩,
      ⟨none, (some 13), .len (.t 12), []⟩,
      ⟨none, (some 14), .bin .lss (.t 11) (.t 13), []⟩])
    (.cond (.t 14)
     .skip
     (.exit 0)))
   (.seq
    (.block 1
     (.seq
      (.reg [26] [
        ⟨none, (some 17), .mov (.t 0), []⟩,
        ⟨none, (some 18), .mov (.t 5), []⟩,
        ⟨none, (some 19), .idxA 2 (.t 17) (.t 18), []⟩,
        ⟨none, (some 20), .ld 2 true (.t 19), []⟩,
        ⟨none, (some 21), .mov (.t 1), []⟩,
        ⟨none, (some 22), .mov (.t 5), []⟩,
        ⟨none, (some 23), .idxA 2 (.t 21) (.t 22), []⟩,
        ⟨none, (some 24), .ld 2 true (.t 23), []⟩,
        ⟨none, (some 25), .call true 529 [.t 20, .t 24], []⟩,
        ⟨none, (some 26), .un .not (.t 25), []⟩])
      (.cond (.t 26)
       (.seq
        (.reg [4] [
          ⟨none, (some 4), .mov (.c (.bool false)), []⟩])
        .ret)
       .skip)))
    (.reg [5] [
      ⟨none, (some 15), .mov (.t 5), []⟩,
      ⟨none, (some 16), .bin .add (.t 15) (.c (.int .i64 1)), []⟩,
      ⟨none, (some 5), .mov (.t 16), []⟩])))
def k390 : Cd :=
  (.seq
   (.reg [4] [
     ⟨none, (some 4), .mov (.c (.bool false)), []⟩])
   (.seq
    (.seq
     (.reg [10] [
       ⟨none, (some 6), .mov (.t 0), []⟩,
       ⟨none, (some 7), .len (.t 6), []⟩,
       ⟨none, (some 8), .mov (.t 1), []⟩,
       ⟨none, (some 9), .len (.t 8), []⟩,
       ⟨none, (some 10), .bin .neq (.t 7) (.t 9), []⟩])
     (.cond (.t 10)
      (.seq
       (.reg [4] [
         ⟨none, (some 4), .mov (.c (.bool false)), []⟩])
       .ret)
      .skip))
    (.seq
     (.seq
      (.reg [5] [
        ⟨none, (some 5), .mov (.c (.int .i64 0)), []⟩])
      (.block 0
       (.loop b390_1)))
     (.seq
      (.reg [4] [
        ⟨none, (some 4), .mov (.c (.bool true)), []⟩])
      .ret))))
def c390 : Fn := { np := 2, nt := 27, kind := .pure, res := [.t 4], body := k390 }

/- spec.l06Text -/
def b463_1 : Cd :=
  (.seq
   (.seq
    (.reg [57] [
      ⟨none, (some 53), .mov (.t 6), []⟩,
      ⟨none, (some 54), .adrF 5 none 4, []⟩,
      ⟨none, (some 55), .ldV 5 (some 54) 1 false, []⟩,
      ⟨none, (some 56), .len (.t 55), []⟩,
      ⟨none, (some 57), .bin .lss (.t 53) (.t 56), []⟩])
    (.cond (.t 57)
     .skip
     (.exit 3)))
   (.seq
    (.block 4
     (.reg [3] [
       ⟨none, (some 60), .mov (.t 3), []⟩,
       ⟨none, (some 61), .adrF 5 none 4, []⟩,
       ⟨none, (some 62), .ldV 5 (some 61) 1 false, []⟩,
       ⟨none, (some 63), .mov (.t 6), []⟩,
       ⟨none, (some 64), .idxA 2 (.t 62) (.t 63), []⟩,
       ⟨none, (some 65), .fldP 0 (.t 64), []⟩,
       ⟨none, (some 66), .ld 1 false (.t 65), []⟩,
       ⟨none, (some 67), .conv .i64 (.t 66), []⟩,
       ⟨none, (some 71), .adrF 5 none 4, []⟩,
       ⟨none, (some 72), .ldV 5 (some 71) 1 false, []⟩,
       ⟨none, (some 73), .mov (.t 6), []⟩,
       ⟨none, (some 74), .idxA 2 (.t 72) (.t 73), []⟩,
       ⟨none, (some 75), .fldP 1 (.t 74), []⟩,
       ⟨none, (some 76), .ld 1 false (.t 75), []⟩,
       ⟨none, (some 77), .conv .i64 (.t 76), []⟩,
       ⟨none, (some 68), .call true 552 [.t 67], []⟩,
       ⟨none, (some 69), .bin .add (.c (.string ⟨#[32]⟩)) (.t 68), []⟩,
       ⟨none, (some 70), .bin .add (.t 69) (.c (.string ⟨#[58]⟩)), []⟩,
       ⟨none, (some 78), .call true 552 [.t 77], []⟩,
       ⟨none, (some 79), .bin .add (.t 70) (.t 78), []⟩,
       ⟨none, (some 80), .bin .add (.t 60) (.t 79), []⟩,
       ⟨none, (some 3), .mov (.t 80), []⟩]))
    (.reg [6] [
      ⟨none, (some 58), .mov (.t 6), []⟩,
      ⟨none, (some 59), .bin .add (.t 58) (.c (.int .i64 1)), []⟩,
      ⟨none, (some 6), .mov (.t 59), []⟩])))
def b463_2 : Cd :=
  (.seq
   (.seq
    (.reg [10] [
      ⟨none, (some 7), .mov (.t 4), []⟩,
      ⟨none, (some 8), .mov (.t 0), []⟩,
      ⟨none, (some 9), .len (.t 8), []⟩,
      ⟨none, (some 10), .bin .lss (.t 7) (.t 9), []⟩])
    (.cond (.t 10)
     .skip
     (.exit 0)))
   (.seq
    (.block 1
     (.seq
      (.reg [5] [
        ⟨none, (some 13), .mov (.t 0), []⟩,
        ⟨none, (some 14), .mov (.t 4), []⟩,
        ⟨none, (some 15), .idxA 5 (.t 13) (.t 14), []⟩,
        ⟨none, (some 16), .ld 5 true (.t 15), []⟩,
        ⟨none, (some 5), .zero true [.int .i8 0, .int .i8 0, .int .i8 0, .int .i8 0, .slice none 0 0], []⟩,
        ⟨none, (some 5), .stV 5 none 5 (.t 16), []⟩])
      (.seq
       (.seq
        (.reg [18] [
          ⟨none, (some 17), .adrF 5 none 0, []⟩,
          ⟨none, (some 18), .ldV 5 (some 17) 1 false, []⟩])
        (.block 2
         (.seq
          (.reg [19] [
            ⟨none, (some 20), .bin .eql (.t 18) (.c (.int .i8 0)), []⟩,
            ⟨none, (some 19), .mov (.t 20), []⟩])
          (.cond (.t 19)
           (.reg [3] [
             ⟨none, (some 21), .mov (.t 3), []⟩,
             ⟨none, (some 22), .bin .add (.t 21) (.c (.string ⟨#[119, 104, 111, 108, 101]⟩)), []⟩,
             ⟨none, (some 3), .mov (.t 22), []⟩])
           (.seq
            (.reg [23] [
              ⟨none, (some 24), .bin .eql (.t 18) (.c (.int .i8 1)), []⟩,
              ⟨none, (some 23), .mov (.t 24), []⟩])
            (.cond (.t 23)
             (.reg [3] [
               ⟨none, (some 25), .mov (.t 3), []⟩,
               ⟨none, (some 26), .adrF 5 none 1, []⟩,
               ⟨none, (some 27), .ldV 5 (some 26) 1 false, []⟩,
               ⟨none, (some 28), .conv .i64 (.t 27), []⟩,
               ⟨none, (some 29), .call true 552 [.t 28], []⟩,
               ⟨none, (some 30), .bin .add (.c (.string ⟨#[99, 111, 112, 121, 32]⟩)) (.t 29), []⟩,
               ⟨none, (some 31), .bin .add (.t 25) (.t 30), []⟩,
               ⟨none, (some 3), .mov (.t 31), []⟩])
             (.seq
              (.reg [32] [
                ⟨none, (some 33), .bin .eql (.t 18) (.c (.int .i8 2)), []⟩,
                ⟨none, (some 32), .mov (.t 33), []⟩])
              (.cond (.t 32)
               (.reg [3] [
                 ⟨none, (some 34), .mov (.t 3), []⟩,
                 ⟨none, (some 35), .adrF 5 none 1, []⟩,
                 ⟨none, (some 36), .ldV 5 (some 35) 1 false, []⟩,
                 ⟨none, (some 37), .conv .i64 (.t 36), []⟩,
                 ⟨none, (some 41), .adrF 5 none 2, []⟩,
                 ⟨none, (some 42), .ldV 5 (some 41) 1 false, []⟩,
                 ⟨none, (some 43), .conv .i64 (.t 42), []⟩,
                 ⟨none, (some 47), .adrF 5 none 3, []⟩,
                 ⟨none, (some 48), .ldV 5 (some 47) 1 false, []⟩,
                 ⟨none, (some 49), .conv .i64 (.t 48), []⟩,
                 ⟨none, (some 38), .call true 552 [.t 37], []⟩,
                 ⟨none, (some 39), .bin .add (.c (.string ⟨#[109, 111, 118, 101, 32]⟩)) (.t 38), []⟩,
                 ⟨none, (some 40), .bin .add (.t 39) (.c (.string ⟨#[32]⟩)), []⟩,
                 ⟨none, (some 44), .call true 553 [.t 43], []⟩,
                 ⟨none, (some 45), .bin .add (.t 40) (.t 44), []⟩,
                 ⟨none, (some 46), .bin .add (.t 45) (.c (.string ⟨#[32]⟩)), []⟩,
                 ⟨none, (some 50), .call true 553 [.t 49], []⟩,
                 ⟨none, (some 51), .bin .add (.t 46) (.t 50), []⟩,
                 ⟨none, (some 52), .bin .add (.t 34) (.t 51), []⟩,
                 ⟨none, (some 3), .mov (.t 52), []⟩])
               .skip))))))))
       (.seq
        (.seq
         (.reg [6] [
           ⟨none, (some 6), .mov (.c (.int .i64 0)), []⟩])
         (.block 3
          (.loop b463_1)))
        (.reg [3] [
          ⟨none, (some 81), .mov (.t 3), []⟩,
          ⟨none, (some 82), .bin .add (.t 81) (.c (.string ⟨#[10]⟩)), []⟩,
          ⟨none, (some 3), .mov (.t 82), []⟩])))))
    (.reg [4] [
      ⟨none, (some 11), .mov (.t 4), []⟩,
      ⟨none, (some 12), .bin .add (.t 11) (.c (.int .i64 1)), []⟩,
      ⟨none, (some 4), .mov (.t 12), []⟩])))
def k463 : Cd :=
  (.seq
   (.reg [2] [
     ⟨none, (some 2), .mov (.c (.string ⟨#[]⟩)), []⟩])
   (.seq
    (.reg [3] [
      ⟨none, (some 3), .mov (.c (.string ⟨#[]⟩)), []⟩])
    (.seq
     (.seq
      (.reg [4] [
        ⟨none, (some 4), .mov (.c (.int .i64 0)), []⟩])
      (.block 0
       (.loop b463_2)))
     (.seq
      (.reg [2] [
        ⟨none, (some 83), .mov (.t 3), []⟩,
        ⟨none, (some 2), .mov (.t 83), []⟩])
      .ret))))
def c463 : Fn := { np := 1, nt := 84, kind := .pure, res := [.t 2], body := k463 }

/- impl.stepText -/
def b465_1 : Cd :=
  (.seq
   (.reg [40] [
     ⟨none, (some 40), .bin .lss (.t 39) (.t 38), []⟩])
   (.seq
    (.cond (.t 40)
     .skip
     (.exit 0))
    (.seq
     (.block 1
      (.seq
       (.reg [5] [
         ⟨none, (some 41), .idxA 2 (.t 37) (.t 39), []⟩,
         ⟨none, (some 42), .ld 2 true (.t 41), []⟩,
         ⟨none, (some 5), .zero true [.int .i8 0, .int .u16 0], []⟩,
         ⟨none, (some 5), .stV 5 none 2 (.t 42), []⟩])
       (.reg [3] [
         ⟨none, (some 43), .mov (.t 3), []⟩,
         ⟨none, (some 44), .adrF 5 none 0, []⟩,
         ⟨none, (some 45), .ldV 5 (some 44) 1 false, []⟩,
         ⟨none, (some 46), .conv .i64 (.t 45), []⟩,
         ⟨none, (some 50), .adrF 5 none 1, []⟩,
         ⟨none, (some 51), .ldV 5 (some 50) 1 false, []⟩,
         ⟨none, (some 52), .conv .i64 (.t 51), []⟩,
         ⟨none, (some 47), .call true 379 [.t 46], []⟩,
         ⟨none, (some 48), .bin .add (.c (.string ⟨#[32]⟩)) (.t 47), []⟩,
         ⟨none, (some 49), .bin .add (.t 48) (.c (.string ⟨#[58]⟩)), []⟩,
         ⟨none, (some 53), .call true 379 [.t 52], []⟩,
         ⟨none, (some 54), .bin .add (.t 49) (.t 53), []⟩,
         ⟨none, (some 55), .bin .add (.t 43) (.t 54), []⟩,
         ⟨none, (some 3), .mov (.t 55), []⟩])))
     (.reg [39] [
       ⟨none, (some 56), .bin .add (.t 39) (.c (.int .i64 1)), []⟩,
       ⟨none, (some 39), .mov (.t 56), []⟩]))))
def k465 : Cd :=
  (.seq
   (.reg [1, 2] [
     ⟨none, (some 1), .mov (.t 0), []⟩,
     ⟨none, (some 2), .mov (.c (.string ⟨#[]⟩)), []⟩])
   (.seq
    (.reg [3] [
      ⟨none, (some 6), .adrF 1 none 0, []⟩,
      ⟨none, (some 7), .ldV 1 (some 6) 1 false, []⟩,
      ⟨none, (some 8), .idxP 3 1 (.c (.pointer (some ⟨0, 0, some 0⟩))) (.t 7), []⟩,
      ⟨none, (some 9), .ld 1 false (.t 8), []⟩,
      ⟨none, (some 3), .mov (.t 9), []⟩])
    (.seq
     (.seq
      (.reg [12] [
        ⟨none, (some 10), .adrF 1 none 0, []⟩,
        ⟨none, (some 11), .ldV 1 (some 10) 1 false, []⟩,
        ⟨none, (some 12), .bin .neq (.t 11) (.c (.int .i8 0)), []⟩])
      (.cond (.t 12)
       (.reg [3] [
         ⟨none, (some 13), .mov (.t 3), []⟩,
         ⟨none, (some 14), .adrF 1 none 1, []⟩,
         ⟨none, (some 15), .ldV 1 (some 14) 1 false, []⟩,
         ⟨none, (some 16), .conv .i64 (.t 15), []⟩,
         ⟨none, (some 17), .call true 379 [.t 16], []⟩,
         ⟨none, (some 18), .bin .add (.c (.string ⟨#[32]⟩)) (.t 17), []⟩,
         ⟨none, (some 19), .bin .add (.t 13) (.t 18), []⟩,
         ⟨none, (some 3), .mov (.t 19), []⟩])
       .skip))
     (.seq
      (.seq
       (.reg [22] [
         ⟨none, (some 20), .adrF 1 none 0, []⟩,
         ⟨none, (some 21), .ldV 1 (some 20) 1 false, []⟩,
         ⟨none, (some 22), .bin .eql (.t 21) (.c (.int .i8 2)), []⟩])
       (.cond (.t 22)
        (.reg [3] [
          ⟨none, (some 23), .mov (.t 3), []⟩,
          ⟨none, (some 24), .adrF 1 none 2, []⟩,
          ⟨none, (some 25), .ldV 1 (some 24) 1 false, []⟩,
          ⟨none, (some 26), .conv .i64 (.t 25), []⟩,
          ⟨none, (some 30), .adrF 1 none 3, []⟩,
          ⟨none, (some 31), .ldV 1 (some 30) 1 false, []⟩,
          ⟨none, (some 32), .conv .i64 (.t 31), []⟩,
          ⟨none, (some 27), .call true 379 [.t 26], []⟩,
          ⟨none, (some 28), .bin .add (.c (.string ⟨#[32]⟩)) (.t 27), []⟩,
          ⟨none, (some 29), .bin .add (.t 28) (.c (.string ⟨#[32]⟩)), []⟩,
          ⟨none, (some 33), .call true 379 [.t 32], []⟩,
          ⟨none, (some 34), .bin .add (.t 29) (.t 33), []⟩,
          ⟨none, (some 35), .bin .add (.t 23) (.t 34), []⟩,
          ⟨none, (some 3), .mov (.t 35), []⟩])
        .skip))
      (.seq
       (.seq
        (.reg [37, 38, 39] [
          ⟨none, (some 36), .adrF 1 none 4, []⟩,
          ⟨none, (some 37), .ldV 1 (some 36) 1 false, []⟩,
          ⟨none, (some 38), .len (.t 37), []⟩,
          ⟨none, (some 39), .mov (.c (.int .i64 0)), []⟩])
        (.block 0
         (.loop b465_1)))
       (.seq
        (.reg [2] [
          ⟨none, (some 57), .mov (.t 3), []⟩,
          ⟨none, (some 2), .mov (.t 57), []⟩])
        .ret))))))
def c465 : Fn := { np := 1, nt := 58, kind := .pure, res := [.t 2], body := k465 }

/- laws.toChange -/
def k488 : Cd :=
  (.seq
   (.reg [1, 2] [
     ⟨none, (some 1), .mov (.t 0), []⟩,
     ⟨none, (some 2), .zero true [.int .i8 0, .int .u16 0], []⟩])
   (.seq
    (.reg [3] [
      ⟨none, (some 3), .zero true [.int .i8 0, .int .u16 0], []⟩])
    (.seq
     (.reg [3] [
       ⟨none, (some 4), .adrF 1 none 0, []⟩,
       ⟨none, (some 5), .ldV 1 (some 4) 1 false, []⟩,
       ⟨none, (some 6), .adrF 3 none 0, []⟩,
       ⟨none, (some 3), .stV 3 (some 6) 1 (.t 5), []⟩])
     (.seq
      (.reg [3] [
        ⟨none, (some 7), .adrF 1 none 1, []⟩,
        ⟨none, (some 8), .ldV 1 (some 7) 1 false, []⟩,
        ⟨none, (some 9), .adrF 3 none 1, []⟩,
        ⟨none, (some 3), .stV 3 (some 9) 1 (.t 8), []⟩])
      (.seq
       (.reg [2] [
         ⟨none, (some 10), .ldV 3 none 2 true, []⟩,
         ⟨none, (some 2), .stV 2 none 2 (.t 10), []⟩])
       .ret)))))
def c488 : Fn := { np := 1, nt := 11, kind := .pure, res := [.v 2 2 true], body := k488 }

/- laws.fillerChange -/
def k489 : Cd :=
  (.seq
   (.reg [0] [
     ⟨none, (some 0), .zero true [.int .i8 0, .int .u16 0], []⟩])
   (.seq
    (.reg [0] [
      ⟨none, (some 1), .agg [.int .i8 0, .int .u16 0] [(0, 1, (.c (.int .i8 (-101)))), (1, 1, (.c (.int .u16 60201)))], []⟩,
      ⟨none, (some 0), .stV 0 none 2 (.t 1), []⟩])
    .ret))
def c489 : Fn := { np := 0, nt := 2, kind := .pure, res := [.v 0 2 true], body := k489 }

/- spec.l06Step -/
def k524 : Cd :=
  (.seq
   (.reg [4] [
     ⟨none, (some 4), .mov (.c (.bool false)), []⟩])
   (.seq
    (.seq
     (.reg [38] [
       ⟨none, (some 6), .mov (.t 0), []⟩,
       ⟨none, (some 7), .nil (.t 6), []⟩,
       ⟨none, (some 8), .fldP 0 (.t 7), []⟩,
       ⟨none, (some 9), .ld 1 false (.t 8), []⟩,
       ⟨none, (some 10), .conv .i64 (.t 9), []⟩,
       ⟨none, (some 11), .call true 309 [.t 10], []⟩,
       ⟨none, (some 12), .un .not (.t 11), []⟩,
       ⟨none, (some 13), .mov (.t 12), []⟩,
       ⟨(some (13, false)), (some 14), .mov (.t 0), []⟩,
       ⟨(some (13, false)), (some 15), .nil (.t 14), []⟩,
       ⟨(some (13, false)), (some 16), .fldP 2 (.t 15), []⟩,
       ⟨(some (13, false)), (some 17), .ld 1 false (.t 16), []⟩,
       ⟨(some (13, false)), (some 18), .conv .i64 (.t 17), []⟩,
       ⟨(some (13, false)), (some 19), .call true 572 [.t 18], []⟩,
       ⟨(some (13, false)), (some 20), .un .not (.t 19), []⟩,
       ⟨none, (some 21), .pick (.t 13) (.c (.bool true)) (.t 20), []⟩,
       ⟨none, (some 22), .mov (.t 21), []⟩,
       ⟨(some (22, false)), (some 23), .mov (.t 0), []⟩,
       ⟨(some (22, false)), (some 24), .nil (.t 23), []⟩,
       ⟨(some (22, false)), (some 25), .fldP 3 (.t 24), []⟩,
       ⟨(some (22, false)), (some 26), .ld 1 false (.t 25), []⟩,
       ⟨(some (22, false)), (some 27), .conv .i64 (.t 26), []⟩,
       ⟨(some (22, false)), (some 28), .call true 572 [.t 27], []⟩,
       ⟨(some (22, false)), (some 29), .un .not (.t 28), []⟩,
       ⟨none, (some 30), .pick (.t 22) (.c (.bool true)) (.t 29), []⟩,
       ⟨none, (some 31), .mov (.t 30), []⟩,
       ⟨(some (31, false)), (some 32), .mov (.t 0), []⟩,
       ⟨(some (31, false)), (some 33), .nil (.t 32), []⟩,
       ⟨(some (31, false)), (some 34), .fldP 4 (.t 33), []⟩,
       ⟨(some (31, false)), (some 35), .ld 1 false (.t 34), []⟩,
       ⟨(some (31, false)), (some 36), .call true 573 [.t 35], []⟩,
       ⟨(some (31, false)), (some 37), .un .not (.t 36), []⟩,
       ⟨none, (some 38), .pick (.t 31) (.c (.bool true)) (.t 37), []⟩])
     (.cond (.t 38)
      (.seq
       (.reg [4] [
         ⟨none, (some 4), .mov (.c (.bool false)), []⟩])
       .ret)
      .skip))
    (.seq
     (.reg [5] [
       ⟨none, (some 39), .mov (.t 0), []⟩,
       ⟨none, (some 40), .nil (.t 39), []⟩,
       ⟨none, (some 41), .fldP 2 (.t 40), []⟩,
       ⟨none, (some 42), .ld 1 false (.t 41), []⟩,
       ⟨none, (some 43), .bin .eql (.t 42) (.c (.int .i8 0)), []⟩,
       ⟨none, (some 44), .mov (.t 43), []⟩,
       ⟨(some (44, true)), (some 45), .mov (.t 0), []⟩,
       ⟨(some (44, true)), (some 46), .nil (.t 45), []⟩,
       ⟨(some (44, true)), (some 47), .fldP 3 (.t 46), []⟩,
       ⟨(some (44, true)), (some 48), .ld 1 false (.t 47), []⟩,
       ⟨(some (44, true)), (some 49), .bin .eql (.t 48) (.c (.int .i8 0)), []⟩,
       ⟨none, (some 50), .pick (.t 44) (.t 49) (.c (.bool false)), []⟩,
       ⟨none, (some 5), .mov (.t 50), []⟩])
     (.seq
      (.seq
       (.reg [54] [
         ⟨none, (some 51), .mov (.t 0), []⟩,
         ⟨none, (some 52), .nil (.t 51), []⟩,
         ⟨none, (some 53), .fldP 0 (.t 52), []⟩,
         ⟨none, (some 54), .ld 1 false (.t 53), []⟩])
       (.block 0
        (.seq
         (.reg [55] [
           ⟨none, (some 56), .bin .eql (.t 54) (.c (.int .i8 0)), []⟩,
           ⟨none, (some 55), .mov (.t 56), []⟩])
         (.cond (.t 55)
          (.seq
           (.reg [4] [
             ⟨none, (some 57), .mov (.t 0), []⟩,
             ⟨none, (some 58), .nil (.t 57), []⟩,
             ⟨none, (some 59), .fldP 1 (.t 58), []⟩,
             ⟨none, (some 60), .ld 1 false (.t 59), []⟩,
             ⟨none, (some 61), .bin .eql (.t 60) (.c (.int .i8 0)), []⟩,
             ⟨none, (some 62), .mov (.t 61), []⟩,
             ⟨(some (62, true)), (some 63), .mov (.t 5), []⟩,
             ⟨none, (some 64), .pick (.t 62) (.t 63) (.c (.bool false)), []⟩,
             ⟨none, (some 4), .mov (.t 64), []⟩])
           .ret)
          (.seq
           (.reg [65] [
             ⟨none, (some 66), .bin .eql (.t 54) (.c (.int .i8 1)), []⟩,
             ⟨none, (some 65), .mov (.t 66), []⟩])
           (.cond (.t 65)
            (.seq
             (.reg [4] [
               ⟨none, (some 67), .mov (.t 0), []⟩,
               ⟨none, (some 68), .nil (.t 67), []⟩,
               ⟨none, (some 69), .fldP 1 (.t 68), []⟩,
               ⟨none, (some 70), .ld 1 false (.t 69), []⟩,
               ⟨none, (some 71), .conv .i64 (.t 70), []⟩,
               ⟨none, (some 72), .mov (.t 1), []⟩,
               ⟨none, (some 73), .bin .sub (.t 72) (.c (.int .i64 1)), []⟩,
               ⟨none, (some 74), .call true 304 [.t 71, .c (.int .i64 0), .t 73], []⟩,
               ⟨none, (some 75), .mov (.t 74), []⟩,
               ⟨(some (75, true)), (some 76), .mov (.t 5), []⟩,
               ⟨none, (some 77), .pick (.t 75) (.t 76) (.c (.bool false)), []⟩,
               ⟨none, (some 4), .mov (.t 77), []⟩])
             .ret)
            .skip))))))
      (.seq
       (.reg [4] [
         ⟨none, (some 78), .mov (.t 0), []⟩,
         ⟨none, (some 79), .nil (.t 78), []⟩,
         ⟨none, (some 80), .fldP 1 (.t 79), []⟩,
         ⟨none, (some 81), .ld 1 false (.t 80), []⟩,
         ⟨none, (some 82), .conv .i64 (.t 81), []⟩,
         ⟨none, (some 83), .mov (.t 1), []⟩,
         ⟨none, (some 84), .bin .sub (.t 83) (.c (.int .i64 1)), []⟩,
         ⟨none, (some 85), .call true 304 [.t 82, .c (.int .i64 0), .t 84], []⟩,
         ⟨none, (some 86), .mov (.t 85), []⟩,
         ⟨(some (86, true)), (some 87), .mov (.t 5), []⟩,
         ⟨(some (86, true)), (some 88), .un .not (.t 87), []⟩,
         ⟨none, (some 89), .pick (.t 86) (.t 88) (.c (.bool false)), []⟩,
         ⟨none, (some 4), .mov (.t 89), []⟩])
       .ret)))))
def c524 : Fn := { np := 2, nt := 90, kind := .pure, res := [.t 4], body := k524 }

/- laws.eqChange -/
def k529 : Cd :=
  (.seq
   (.reg [2, 3, 4] [
     ⟨none, (some 2), .mov (.t 0), []⟩,
     ⟨none, (some 3), .mov (.t 1), []⟩,
     ⟨none, (some 4), .mov (.c (.bool false)), []⟩])
   (.seq
    (.seq
     (.reg [9] [
       ⟨none, (some 5), .adrF 2 none 0, []⟩,
       ⟨none, (some 6), .ldV 2 (some 5) 1 false, []⟩,
       ⟨none, (some 7), .adrF 3 none 0, []⟩,
       ⟨none, (some 8), .ldV 3 (some 7) 1 false, []⟩,
       ⟨none, (some 9), .bin .neq (.t 6) (.t 8), []⟩])
     (.cond (.t 9)
      (.seq
       (.reg [4] [
         ⟨none, (some 4), .mov (.c (.bool false)), []⟩])
       .ret)
      .skip))
    (.seq
     (.seq
      (.reg [14] [
        ⟨none, (some 10), .adrF 2 none 1, []⟩,
        ⟨none, (some 11), .ldV 2 (some 10) 1 false, []⟩,
        ⟨none, (some 12), .adrF 3 none 1, []⟩,
        ⟨none, (some 13), .ldV 3 (some 12) 1 false, []⟩,
        ⟨none, (some 14), .bin .neq (.t 11) (.t 13), []⟩])
      (.cond (.t 14)
       (.seq
        (.reg [4] [
          ⟨none, (some 4), .mov (.c (.bool false)), []⟩])
        .ret)
       .skip))
     (.seq
      (.reg [4] [
        ⟨none, (some 4), .mov (.c (.bool true)), []⟩])
      .ret))))
def c529 : Fn := { np := 2, nt := 15, kind := .pure, res := [.t 4], body := k529 }

/- spec.Decimal -/
def k552 : Cd :=
  (.seq
   (.reg [2] [
     ⟨none, (some 2), .mov (.c (.string ⟨#[]⟩)), []⟩])
   (.seq
    (.seq
     (.reg [4] [
       ⟨none, (some 3), .mov (.t 0), []⟩,
       ⟨none, (some 4), .bin .lss (.t 3) (.c (.int .i64 10)), []⟩])
     (.cond (.t 4)
      (.seq
       (.reg [2] [
         ⟨none, (some 5), .mov (.t 0), []⟩,
         ⟨none, (some 6), .bin .rem (.t 5) (.c (.int .i64 10)), []⟩,
         ⟨none, (some 7), .bin .add (.c (.int .i64 48)) (.t 6), []⟩,
         ⟨none, (some 8), .conv .u8 (.t 7), []⟩,
         ⟨none, (some 9), .bldS 1 1 [.int .u8 0] [(0, 1, (.t 8))], []⟩,
         ⟨none, (some 10), .b2s (.t 9), []⟩,
         ⟨none, (some 2), .mov (.t 10), []⟩])
       .ret)
      .skip))
    (.seq
     (.reg [2] [
       ⟨none, (some 11), .mov (.t 0), []⟩,
       ⟨none, (some 12), .bin .quo (.t 11) (.c (.int .i64 10)), []⟩,
       ⟨none, (some 14), .mov (.t 0), []⟩,
       ⟨none, (some 15), .bin .rem (.t 14) (.c (.int .i64 10)), []⟩,
       ⟨none, (some 16), .bin .add (.c (.int .i64 48)) (.t 15), []⟩,
       ⟨none, (some 17), .conv .u8 (.t 16), []⟩,
       ⟨none, (some 18), .bldS 1 1 [.int .u8 0] [(0, 1, (.t 17))], []⟩,
       ⟨none, (some 19), .b2s (.t 18), []⟩,
       ⟨none, (some 13), .call true 552 [.t 12], []⟩,
       ⟨none, (some 20), .bin .add (.t 13) (.t 19), []⟩,
       ⟨none, (some 2), .mov (.t 20), []⟩])
     .ret)))
def c552 : Fn := { np := 1, nt := 21, kind := .pure, res := [.t 2], body := k552 }

/- spec.Signed -/
def k553 : Cd :=
  (.seq
   (.reg [2] [
     ⟨none, (some 2), .mov (.c (.string ⟨#[]⟩)), []⟩])
   (.seq
    (.seq
     (.reg [4] [
       ⟨none, (some 3), .mov (.t 0), []⟩,
       ⟨none, (some 4), .bin .lss (.t 3) (.c (.int .i64 0)), []⟩])
     (.cond (.t 4)
      (.seq
       (.reg [2] [
         ⟨none, (some 5), .mov (.t 0), []⟩,
         ⟨none, (some 6), .un .neg (.t 5), []⟩,
         ⟨none, (some 7), .call true 552 [.t 6], []⟩,
         ⟨none, (some 8), .bin .add (.c (.string ⟨#[45]⟩)) (.t 7), []⟩,
         ⟨none, (some 2), .mov (.t 8), []⟩])
       .ret)
      .skip))
    (.seq
     (.reg [2] [
       ⟨none, (some 9), .mov (.t 0), []⟩,
       ⟨none, (some 10), .call true 552 [.t 9], []⟩,
       ⟨none, (some 2), .mov (.t 10), []⟩])
     .ret)))
def c553 : Fn := { np := 1, nt := 11, kind := .pure, res := [.t 2], body := k553 }

/- spec.l06Far -/
def k572 : Cd :=
  (.seq
   (.reg [2] [
     ⟨none, (some 2), .mov (.c (.bool false)), []⟩])
   (.seq
    (.reg [2] [
      ⟨none, (some 3), .mov (.t 0), []⟩,
      ⟨none, (some 4), .call true 304 [.t 3, .c (.int .i64 (-12)), .c (.int .i64 12)], []⟩,
      ⟨none, (some 2), .mov (.t 4), []⟩])
    .ret))
def c572 : Fn := { np := 1, nt := 5, kind := .pure, res := [.t 2], body := k572 }

/- spec.l06Rows -/
def b573_1 : Cd :=
  (.seq
   (.seq
    (.reg [7] [
      ⟨none, (some 4), .mov (.t 3), []⟩,
      ⟨none, (some 5), .mov (.t 0), []⟩,
      ⟨none, (some 6), .len (.t 5), []⟩,
      ⟨none, (some 7), .bin .lss (.t 4) (.t 6), []⟩])
    (.cond (.t 7)
     .skip
     (.exit 0)))
   (.seq
    (.block 1
     (.seq
      (.seq
       (.reg [27] [
         ⟨none, (some 10), .mov (.t 0), []⟩,
         ⟨none, (some 11), .mov (.t 3), []⟩,
         ⟨none, (some 12), .idxA 2 (.t 10) (.t 11), []⟩,
         ⟨none, (some 13), .fldP 0 (.t 12), []⟩,
         ⟨none, (some 14), .ld 1 false (.t 13), []⟩,
         ⟨none, (some 15), .conv .i64 (.t 14), []⟩,
         ⟨none, (some 16), .call true 304 [.t 15, .c (.int .i64 0), .c (.int .i64 11)], []⟩,
         ⟨none, (some 17), .un .not (.t 16), []⟩,
         ⟨none, (some 18), .mov (.t 17), []⟩,
         ⟨(some (18, false)), (some 19), .mov (.t 0), []⟩,
         ⟨(some (18, false)), (some 20), .mov (.t 3), []⟩,
         ⟨(some (18, false)), (some 21), .idxA 2 (.t 19) (.t 20), []⟩,
         ⟨(some (18, false)), (some 22), .fldP 1 (.t 21), []⟩,
         ⟨(some (18, false)), (some 23), .ld 1 false (.t 22), []⟩,
         ⟨(some (18, false)), (some 24), .conv .i64 (.t 23), []⟩,
         ⟨(some (18, false)), (some 25), .call true 304 [.t 24, .c (.int .i64 1), .c (.int .i64 4095)], []⟩,
         ⟨(some (18, false)), (some 26), .un .not (.t 25), []⟩,
         ⟨none, (some 27), .pick (.t 18) (.c (.bool true)) (.t 26), []⟩])
       (.cond (.t 27)
        (.seq
         (.reg [2] [
           ⟨none, (some 2), .mov (.c (.bool false)), []⟩])
         .ret)
        .skip))
      (.seq
       (.reg [43] [
         ⟨none, (some 28), .mov (.t 3), []⟩,
         ⟨none, (some 29), .bin .gtr (.t 28) (.c (.int .i64 0)), []⟩,
         ⟨none, (some 30), .mov (.t 29), []⟩,
         ⟨(some (30, true)), (some 31), .mov (.t 0), []⟩,
         ⟨(some (30, true)), (some 32), .mov (.t 3), []⟩,
         ⟨(some (30, true)), (some 33), .idxA 2 (.t 31) (.t 32), []⟩,
         ⟨(some (30, true)), (some 34), .fldP 0 (.t 33), []⟩,
         ⟨(some (30, true)), (some 35), .ld 1 false (.t 34), []⟩,
         ⟨(some (30, true)), (some 36), .mov (.t 0), []⟩,
         ⟨(some (30, true)), (some 37), .mov (.t 3), []⟩,
         ⟨(some (30, true)), (some 38), .bin .sub (.t 37) (.c (.int .i64 1)), []⟩,
         ⟨(some (30, true)), (some 39), .idxA 2 (.t 36) (.t 38), []⟩,
         ⟨(some (30, true)), (some 40), .fldP 0 (.t 39), []⟩,
         ⟨(some (30, true)), (some 41), .ld 1 false (.t 40), []⟩,
         ⟨(some (30, true)), (some 42), .bin .leq (.t 35) (.t 41), []⟩,
         ⟨none, (some 43), .pick (.t 30) (.t 42) (.c (.bool false)), []⟩])
       (.cond (.t 43)
        (.seq
         (.reg [2] [
           ⟨none, (some 2), .mov (.c (.bool false)), []⟩])
         .ret)
        .skip))))
    (.reg [3] [
      ⟨none, (some 8), .mov (.t 3), []⟩,
      ⟨none, (some 9), .bin .add (.t 8) (.c (.int .i64 1)), []⟩,
      ⟨none, (some 3), .mov (.t 9), []⟩])))
def k573 : Cd :=
  (.seq
   (.reg [2] [
     ⟨none, (some 2), .mov (.c (.bool false)), []⟩])
   (.seq
    (.seq
     (.reg [3] [
       ⟨none, (some 3), .mov (.c (.int .i64 0)), []⟩])
     (.block 0
      (.loop b573_1)))
    (.seq
     (.reg [2] [
       ⟨none, (some 2), .mov (.c (.bool true)), []⟩])
     .ret)))
def c573 : Fn := { np := 1, nt := 44, kind := .pure, res := [.t 2], body := k573 }


end Fb
