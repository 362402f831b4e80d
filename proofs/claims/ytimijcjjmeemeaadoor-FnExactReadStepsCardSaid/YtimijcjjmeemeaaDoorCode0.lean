/- The functions of the law, in the small language. -/
import Derived.Test.YtimijcjjmeemeaaDoorDen
set_option linter.unusedVariables false
set_option linter.unusedSimpArgs false
namespace Fb
open Go

/- laws.FnExactReadSteps -/
def k59 : Cd :=
  (.seq
   (.reg [2] [
     ⟨none, (some 2), .mov (.c (.bool false)), []⟩])
   (.seq
    (.seq
     (.reg [13] [
       ⟨none, (some 11), .mov (.t 0), []⟩,
       ⟨none, (some 12), .lens (.t 11), []⟩,
       ⟨none, (some 13), .bin .gtr (.t 12) (.c (.int .i64 1000000)), []⟩])
     (.cond (.t 13)
      (.seq
       (.reg [2] [
         ⟨none, (some 2), .mov (.c (.bool true)), []⟩])
       .ret)
      .skip))
    (.seq
     (.reg [3, 4] [
       ⟨none, (some 15), .mov (.t 0), []⟩,
       ⟨none, (some 16), .call true 289 [.t 15], []⟩,
       ⟨none, (some 14), .mov (.t 16), []⟩,
       ⟨none, (some 17), .ext (.t 14) 0, []⟩,
       ⟨none, (some 18), .ext (.t 14) 1, []⟩,
       ⟨none, (some 3), .mov (.t 17), []⟩,
       ⟨none, (some 4), .mov (.t 18), []⟩])
     (.seq
      (.reg [5, 6] [
        ⟨none, (some 20), .mov (.t 0), []⟩,
        ⟨none, (some 21), .call true 290 [.t 20], []⟩,
        ⟨none, (some 19), .mov (.t 21), []⟩,
        ⟨none, (some 22), .ext (.t 19) 0, []⟩,
        ⟨none, (some 23), .ext (.t 19) 1, []⟩,
        ⟨none, (some 5), .mov (.t 22), []⟩,
        ⟨none, (some 6), .mov (.t 23), []⟩])
      (.seq
       (.seq
        (.reg [32] [
          ⟨none, (some 24), .mov (.t 5), []⟩,
          ⟨none, (some 25), .mov (.t 3), []⟩,
          ⟨none, (some 26), .call true 213 [.t 24, .t 25], []⟩,
          ⟨none, (some 27), .un .not (.t 26), []⟩,
          ⟨none, (some 28), .mov (.t 27), []⟩,
          ⟨(some (28, false)), (some 29), .mov (.t 6), []⟩,
          ⟨(some (28, false)), (some 30), .mov (.t 4), []⟩,
          ⟨(some (28, false)), (some 31), .bin .neq (.t 29) (.t 30), []⟩,
          ⟨none, (some 32), .pick (.t 28) (.c (.bool true)) (.t 31), []⟩])
        (.cond (.t 32)
         (.seq
          (.reg [2] [
            ⟨none, (some 2), .mov (.c (.bool false)), []⟩])
          .ret)
         .skip))
       (.seq
        (.reg [7] [
          ⟨none, (some 7), .mov (.c (.int .i64 101)), []⟩])
        (.seq
         (.reg [7] [
           ⟨none, (some 33), .mov (.t 5), []⟩,
           ⟨none, (some 34), .mov (.t 7), []⟩,
           ⟨none, (some 35), .call false 181 [.t 33, .t 34], []⟩,
           ⟨none, (some 7), .mov (.t 35), []⟩])
         (.seq
          (.reg [8] [
            ⟨none, (some 8), .mov (.c (.int .i64 101)), []⟩])
          (.seq
           (.reg [8] [
             ⟨none, (some 36), .mov (.t 5), []⟩,
             ⟨none, (some 37), .mov (.t 8), []⟩,
             ⟨none, (some 38), .call true 214 [.t 36, .t 37], []⟩,
             ⟨none, (some 8), .mov (.t 38), []⟩])
           (.seq
            (.seq
             (.reg [40] [
               ⟨none, (some 39), .mov (.t 8), []⟩,
               ⟨none, (some 40), .bin .lss (.t 39) (.c (.int .i64 0)), []⟩])
             (.cond (.t 40)
              (.seq
               (.reg [2] [
                 ⟨none, (some 2), .mov (.c (.bool false)), []⟩])
               .ret)
              .skip))
            (.seq
             (.seq
              (.reg [43] [
                ⟨none, (some 41), .mov (.t 8), []⟩,
                ⟨none, (some 42), .mov (.t 7), []⟩,
                ⟨none, (some 43), .bin .neq (.t 41) (.t 42), []⟩])
              (.cond (.t 43)
               (.seq
                (.reg [2] [
                  ⟨none, (some 2), .mov (.c (.bool false)), []⟩])
                .ret)
               .skip))
             (.seq
              (.reg [9, 10] [
                ⟨none, (some 45), .mov (.t 0), []⟩,
                ⟨none, (some 46), .call true 290 [.t 45], []⟩,
                ⟨none, (some 44), .mov (.t 46), []⟩,
                ⟨none, (some 47), .ext (.t 44) 0, []⟩,
                ⟨none, (some 48), .ext (.t 44) 1, []⟩,
                ⟨none, (some 9), .mov (.t 47), []⟩,
                ⟨none, (some 10), .mov (.t 48), []⟩])
              (.seq
               (.seq
                (.reg [57] [
                  ⟨none, (some 49), .mov (.t 9), []⟩,
                  ⟨none, (some 50), .mov (.t 3), []⟩,
                  ⟨none, (some 51), .call true 213 [.t 49, .t 50], []⟩,
                  ⟨none, (some 52), .un .not (.t 51), []⟩,
                  ⟨none, (some 53), .mov (.t 52), []⟩,
                  ⟨(some (53, false)), (some 54), .mov (.t 10), []⟩,
                  ⟨(some (53, false)), (some 55), .mov (.t 4), []⟩,
                  ⟨(some (53, false)), (some 56), .bin .neq (.t 54) (.t 55), []⟩,
                  ⟨none, (some 57), .pick (.t 53) (.c (.bool true)) (.t 56), []⟩])
                (.cond (.t 57)
                 (.seq
                  (.reg [2] [
                    ⟨none, (some 2), .mov (.c (.bool false)), []⟩])
                  .ret)
                 .skip))
               (.seq
                (.reg [8] [
                  ⟨none, (some 8), .mov (.c (.int .i64 101)), []⟩])
                (.seq
                 (.reg [8] [
                   ⟨none, (some 58), .mov (.t 5), []⟩,
                   ⟨none, (some 59), .mov (.t 8), []⟩,
                   ⟨none, (some 60), .call true 214 [.t 58, .t 59], []⟩,
                   ⟨none, (some 8), .mov (.t 60), []⟩])
                 (.seq
                  (.seq
                   (.reg [62] [
                     ⟨none, (some 61), .mov (.t 8), []⟩,
                     ⟨none, (some 62), .bin .lss (.t 61) (.c (.int .i64 0)), []⟩])
                   (.cond (.t 62)
                    (.seq
                     (.reg [2] [
                       ⟨none, (some 2), .mov (.c (.bool false)), []⟩])
                     .ret)
                    .skip))
                  (.seq
                   (.seq
                    (.reg [65] [
                      ⟨none, (some 63), .mov (.t 8), []⟩,
                      ⟨none, (some 64), .mov (.t 7), []⟩,
                      ⟨none, (some 65), .bin .neq (.t 63) (.t 64), []⟩])
                    (.cond (.t 65)
                     (.seq
                      (.reg [2] [
                        ⟨none, (some 2), .mov (.c (.bool false)), []⟩])
                      .ret)
                     .skip))
                   (.seq
                    (.reg [2] [
                      ⟨none, (some 2), .mov (.c (.bool true)), []⟩])
                    .ret))))))))))))))))))
def c59 : Fn := { np := 1, nt := 66, kind := .pure, res := [.t 2], body := k59 }

/- impl.ValidSteps -/
def b163_1 : Cd :=
  (.seq
   (.reg [8] [
     ⟨none, (some 8), .bin .lss (.t 7) (.t 6), []⟩])
   (.seq
    (.cond (.t 8)
     .skip
     (.exit 0))
    (.seq
     (.block 1
      (.seq
       (.reg [4, 3] [
         ⟨none, (some 9), .mov (.t 7), []⟩,
         ⟨none, (some 10), .idxA 5 (.t 5) (.t 7), []⟩,
         ⟨none, (some 11), .ld 5 true (.t 10), []⟩,
         ⟨none, (some 4), .zero true [.int .i8 0, .int .i8 0, .int .i8 0, .int .i8 0, .slice none 0 0], []⟩,
         ⟨none, (some 3), .mov (.t 9), []⟩,
         ⟨none, (some 4), .stV 4 none 5 (.t 11), []⟩])
       (.seq
        (.reg [15] [
          ⟨none, (some 12), .ldV 4 none 5 true, []⟩,
          ⟨none, (some 13), .mov (.t 3), []⟩,
          ⟨none, (some 14), .call true 387 [.t 12, .t 13], []⟩,
          ⟨none, (some 15), .un .not (.t 14), []⟩])
        (.cond (.t 15)
         (.seq
          (.reg [2] [
            ⟨none, (some 2), .mov (.c (.bool false)), []⟩])
          .ret)
         .skip))))
     (.reg [7] [
       ⟨none, (some 16), .bin .add (.t 7) (.c (.int .i64 1)), []⟩,
       ⟨none, (some 7), .mov (.t 16), []⟩]))))
def k163 : Cd :=
  (.seq
   (.reg [2] [
     ⟨none, (some 2), .mov (.c (.bool false)), []⟩])
   (.seq
    (.seq
     (.reg [5, 6, 7] [
       ⟨none, (some 5), .mov (.t 0), []⟩,
       ⟨none, (some 6), .len (.t 5), []⟩,
       ⟨none, (some 7), .mov (.c (.int .i64 0)), []⟩])
     (.block 0
      (.loop b163_1)))
    (.seq
     (.reg [2] [
       ⟨none, (some 17), .mov (.t 0), []⟩,
       ⟨none, (some 18), .len (.t 17), []⟩,
       ⟨none, (some 19), .bin .leq (.t 18) (.c (.int .i64 40)), []⟩,
       ⟨none, (some 2), .mov (.t 19), []⟩])
     .ret)))
def c163 : Fn := { np := 1, nt := 20, kind := .pure, res := [.t 2], body := k163 }

/- laws.eqStep -/
def k166 : Cd :=
  (.seq
   (.reg [2, 3, 4] [
     ⟨none, (some 2), .mov (.t 0), []⟩,
     ⟨none, (some 3), .mov (.t 1), []⟩,
     ⟨none, (some 4), .mov (.c (.bool false)), []⟩])
   (.seq
    (.seq
     (.reg [9] [
       ⟨none, (some 5), .adrF 2 none 0, []⟩,
       ⟨none, (some 6), .ldV 2 (some 5) 1 false, []⟩,
       ⟨none, (some 7), .adrF 3 none 0, []⟩,
       ⟨none, (some 8), .ldV 3 (some 7) 1 false, []⟩,
       ⟨none, (some 9), .bin .neq (.t 6) (.t 8), []⟩])
     (.cond (.t 9)
      (.seq
       (.reg [4] [
         ⟨none, (some 4), .mov (.c (.bool false)), []⟩])
       .ret)
      .skip))
    (.seq
     (.seq
      (.reg [14] [
        ⟨none, (some 10), .adrF 2 none 1, []⟩,
        ⟨none, (some 11), .ldV 2 (some 10) 1 false, []⟩,
        ⟨none, (some 12), .adrF 3 none 1, []⟩,
        ⟨none, (some 13), .ldV 3 (some 12) 1 false, []⟩,
        ⟨none, (some 14), .bin .neq (.t 11) (.t 13), []⟩])
      (.cond (.t 14)
       (.seq
        (.reg [4] [
          ⟨none, (some 4), .mov (.c (.bool false)), []⟩])
        .ret)
       .skip))
     (.seq
      (.seq
       (.reg [19] [
         ⟨none, (some 15), .adrF 2 none 2, []⟩,
         ⟨none, (some 16), .ldV 2 (some 15) 1 false, []⟩,
         ⟨none, (some 17), .adrF 3 none 2, []⟩,
         ⟨none, (some 18), .ldV 3 (some 17) 1 false, []⟩,
         ⟨none, (some 19), .bin .neq (.t 16) (.t 18), []⟩])
       (.cond (.t 19)
        (.seq
         (.reg [4] [
           ⟨none, (some 4), .mov (.c (.bool false)), []⟩])
         .ret)
        .skip))
      (.seq
       (.seq
        (.reg [24] [
          ⟨none, (some 20), .adrF 2 none 3, []⟩,
          ⟨none, (some 21), .ldV 2 (some 20) 1 false, []⟩,
          ⟨none, (some 22), .adrF 3 none 3, []⟩,
          ⟨none, (some 23), .ldV 3 (some 22) 1 false, []⟩,
          ⟨none, (some 24), .bin .neq (.t 21) (.t 23), []⟩])
        (.cond (.t 24)
         (.seq
          (.reg [4] [
            ⟨none, (some 4), .mov (.c (.bool false)), []⟩])
          .ret)
         .skip))
       (.seq
        (.seq
         (.reg [30] [
           ⟨none, (some 25), .adrF 2 none 4, []⟩,
           ⟨none, (some 26), .ldV 2 (some 25) 1 false, []⟩,
           ⟨none, (some 27), .adrF 3 none 4, []⟩,
           ⟨none, (some 28), .ldV 3 (some 27) 1 false, []⟩,
           ⟨none, (some 29), .call true 390 [.t 26, .t 28], []⟩,
           ⟨none, (some 30), .un .not (.t 29), []⟩])
         (.cond (.t 30)
          (.seq
           (.reg [4] [
             ⟨none, (some 4), .mov (.c (.bool false)), []⟩])
           .ret)
          .skip))
        (.seq
         (.reg [4] [
           ⟨none, (some 4), .mov (.c (.bool true)), []⟩])
         .ret)))))))
def c166 : Fn := { np := 2, nt := 31, kind := .pure, res := [.t 4], body := k166 }

/- laws.markStepS -/
def b181_1 : Cd :=
  (.seq
   (.seq
    (.reg [9] [
      ⟨none, (some 6), .mov (.t 5), []⟩,
      ⟨none, (some 7), .mov (.t 0), []⟩,
      ⟨none, (some 8), .len (.t 7), []⟩,
      ⟨none, (some 9), .bin .lss (.t 6) (.t 8), []⟩])
    (.cond (.t 9)
     .skip
     (.exit 0)))
   (.seq
    (.block 1
     (.seq
      (.reg [] [
        ⟨none, (some 12), .mov (.t 0), []⟩,
        ⟨none, (some 13), .mov (.t 5), []⟩,
        ⟨none, (some 14), .mov (.t 1), []⟩,
        ⟨none, (some 15), .conv .i8 (.t 14), []⟩,
        ⟨none, (some 16), .idxA 5 (.t 12) (.t 13), []⟩,
        ⟨none, (some 17), .fldP 0 (.t 16), []⟩,
        ⟨none, none, .st 1 (.t 17) (.t 15), []⟩])
      (.seq
       (.reg [1] [
         ⟨none, (some 18), .mov (.t 1), []⟩,
         ⟨none, (some 19), .bin .add (.t 18) (.c (.int .i64 1)), []⟩,
         ⟨none, (some 1), .mov (.t 19), []⟩])
       (.seq
        (.reg [] [
          ⟨none, (some 20), .mov (.t 0), []⟩,
          ⟨none, (some 21), .mov (.t 5), []⟩,
          ⟨none, (some 22), .mov (.t 1), []⟩,
          ⟨none, (some 23), .conv .i8 (.t 22), []⟩,
          ⟨none, (some 24), .idxA 5 (.t 20) (.t 21), []⟩,
          ⟨none, (some 25), .fldP 1 (.t 24), []⟩,
          ⟨none, none, .st 1 (.t 25) (.t 23), []⟩])
        (.seq
         (.reg [1] [
           ⟨none, (some 26), .mov (.t 1), []⟩,
           ⟨none, (some 27), .bin .add (.t 26) (.c (.int .i64 1)), []⟩,
           ⟨none, (some 1), .mov (.t 27), []⟩])
         (.seq
          (.reg [] [
            ⟨none, (some 28), .mov (.t 0), []⟩,
            ⟨none, (some 29), .mov (.t 5), []⟩,
            ⟨none, (some 30), .mov (.t 1), []⟩,
            ⟨none, (some 31), .conv .i8 (.t 30), []⟩,
            ⟨none, (some 32), .idxA 5 (.t 28) (.t 29), []⟩,
            ⟨none, (some 33), .fldP 2 (.t 32), []⟩,
            ⟨none, none, .st 1 (.t 33) (.t 31), []⟩])
          (.seq
           (.reg [1] [
             ⟨none, (some 34), .mov (.t 1), []⟩,
             ⟨none, (some 35), .bin .add (.t 34) (.c (.int .i64 1)), []⟩,
             ⟨none, (some 1), .mov (.t 35), []⟩])
           (.seq
            (.reg [] [
              ⟨none, (some 36), .mov (.t 0), []⟩,
              ⟨none, (some 37), .mov (.t 5), []⟩,
              ⟨none, (some 38), .mov (.t 1), []⟩,
              ⟨none, (some 39), .conv .i8 (.t 38), []⟩,
              ⟨none, (some 40), .idxA 5 (.t 36) (.t 37), []⟩,
              ⟨none, (some 41), .fldP 3 (.t 40), []⟩,
              ⟨none, none, .st 1 (.t 41) (.t 39), []⟩])
            (.seq
             (.reg [1] [
               ⟨none, (some 42), .mov (.t 1), []⟩,
               ⟨none, (some 43), .bin .add (.t 42) (.c (.int .i64 1)), []⟩,
               ⟨none, (some 1), .mov (.t 43), []⟩])
             (.reg [1] [
               ⟨none, (some 44), .mov (.t 0), []⟩,
               ⟨none, (some 45), .mov (.t 5), []⟩,
               ⟨none, (some 46), .idxA 5 (.t 44) (.t 45), []⟩,
               ⟨none, (some 47), .fldP 4 (.t 46), []⟩,
               ⟨none, (some 48), .ld 1 false (.t 47), []⟩,
               ⟨none, (some 49), .mov (.t 1), []⟩,
               ⟨none, (some 50), .call false 391 [.t 48, .t 49], []⟩,
               ⟨none, (some 1), .mov (.t 50), []⟩]))))))))))
    (.reg [5] [
      ⟨none, (some 10), .mov (.t 5), []⟩,
      ⟨none, (some 11), .bin .add (.t 10) (.c (.int .i64 1)), []⟩,
      ⟨none, (some 5), .mov (.t 11), []⟩])))
def k181 : Cd :=
  (.seq
   (.reg [4] [
     ⟨none, (some 4), .mov (.c (.int .i64 0)), []⟩])
   (.seq
    (.seq
     (.reg [5] [
       ⟨none, (some 5), .mov (.c (.int .i64 0)), []⟩])
     (.block 0
      (.loop b181_1)))
    (.seq
     (.reg [4] [
       ⟨none, (some 51), .mov (.t 1), []⟩,
       ⟨none, (some 4), .mov (.t 51), []⟩])
     .ret)))
def c181 : Fn := { np := 2, nt := 52, kind := .args, res := [.t 4], body := k181 }

/- laws.eqStepS -/
def b213_1 : Cd :=
  (.seq
   (.seq
    (.reg [14] [
      ⟨none, (some 11), .mov (.t 5), []⟩,
      ⟨none, (some 12), .mov (.t 0), []⟩,
      ⟨none, (some 13), .len (.t 12), []⟩,
      ⟨none, (some 14), .bin .lss (.t 11) (.t 13), []⟩])
    (.cond (.t 14)
     .skip
     (.exit 0)))
   (.seq
    (.block 1
     (.seq
      (.reg [26] [
        ⟨none, (some 17), .mov (.t 0), []⟩,
        ⟨none, (some 18), .mov (.t 5), []⟩,
        ⟨none, (some 19), .idxA 5 (.t 17) (.t 18), []⟩,
        ⟨none, (some 20), .ld 5 true (.t 19), []⟩,
        ⟨none, (some 21), .mov (.t 1), []⟩,
        ⟨none, (some 22), .mov (.t 5), []⟩,
        ⟨none, (some 23), .idxA 5 (.t 21) (.t 22), []⟩,
        ⟨none, (some 24), .ld 5 true (.t 23), []⟩,
        ⟨none, (some 25), .call true 166 [.t 20, .t 24], []⟩,
        ⟨none, (some 26), .un .not (.t 25), []⟩])
      (.cond (.t 26)
       (.seq
        (.reg [4] [
          ⟨none, (some 4), .mov (.c (.bool false)), []⟩])
        .ret)
       .skip)))
    (.reg [5] [
      ⟨none, (some 15), .mov (.t 5), []⟩,
      ⟨none, (some 16), .bin .add (.t 15) (.c (.int .i64 1)), []⟩,
      ⟨none, (some 5), .mov (.t 16), []⟩])))
def k213 : Cd :=
  (.seq
   (.reg [4] [
     ⟨none, (some 4), .mov (.c (.bool false)), []⟩])
   (.seq
    (.seq
     (.reg [10] [
       ⟨none, (some 6), .mov (.t 0), []⟩,
       ⟨none, (some 7), .len (.t 6), []⟩,
       ⟨none, (some 8), .mov (.t 1), []⟩,
       ⟨none, (some 9), .len (.t 8), []⟩,
       ⟨none, (some 10), .bin .neq (.t 7) (.t 9), []⟩])
     (.cond (.t 10)
      (.seq
       (.reg [4] [
         ⟨none, (some 4), .mov (.c (.bool false)), []⟩])
       .ret)
      .skip))
    (.seq
     (.seq
      (.reg [5] [
        ⟨none, (some 5), .mov (.c (.int .i64 0)), []⟩])
      (.block 0
       (.loop b213_1)))
     (.seq
      (.reg [4] [
        ⟨none, (some 4), .mov (.c (.bool true)), []⟩])
      .ret))))
def c213 : Fn := { np := 2, nt := 27, kind := .pure, res := [.t 4], body := k213 }

/- laws.heldStepS -/
def b214_1 : Cd :=
  (.seq
   (.seq
    (.reg [9] [
      ⟨none, (some 6), .mov (.t 5), []⟩,
      ⟨none, (some 7), .mov (.t 0), []⟩,
      ⟨none, (some 8), .len (.t 7), []⟩,
      ⟨none, (some 9), .bin .lss (.t 6) (.t 8), []⟩])
    (.cond (.t 9)
     .skip
     (.exit 0)))
   (.seq
    (.block 1
     (.seq
      (.seq
       (.reg [19] [
         ⟨none, (some 12), .mov (.t 0), []⟩,
         ⟨none, (some 13), .mov (.t 5), []⟩,
         ⟨none, (some 14), .idxA 5 (.t 12) (.t 13), []⟩,
         ⟨none, (some 15), .fldP 0 (.t 14), []⟩,
         ⟨none, (some 16), .ld 1 false (.t 15), []⟩,
         ⟨none, (some 17), .mov (.t 1), []⟩,
         ⟨none, (some 18), .conv .i8 (.t 17), []⟩,
         ⟨none, (some 19), .bin .neq (.t 16) (.t 18), []⟩])
       (.cond (.t 19)
        (.seq
         (.reg [4] [
           ⟨none, (some 4), .mov (.c (.int .i64 (-1))), []⟩])
         .ret)
        .skip))
      (.seq
       (.reg [1] [
         ⟨none, (some 20), .mov (.t 1), []⟩,
         ⟨none, (some 21), .bin .add (.t 20) (.c (.int .i64 1)), []⟩,
         ⟨none, (some 1), .mov (.t 21), []⟩])
       (.seq
        (.seq
         (.reg [29] [
           ⟨none, (some 22), .mov (.t 0), []⟩,
           ⟨none, (some 23), .mov (.t 5), []⟩,
           ⟨none, (some 24), .idxA 5 (.t 22) (.t 23), []⟩,
           ⟨none, (some 25), .fldP 1 (.t 24), []⟩,
           ⟨none, (some 26), .ld 1 false (.t 25), []⟩,
           ⟨none, (some 27), .mov (.t 1), []⟩,
           ⟨none, (some 28), .conv .i8 (.t 27), []⟩,
           ⟨none, (some 29), .bin .neq (.t 26) (.t 28), []⟩])
         (.cond (.t 29)
          (.seq
           (.reg [4] [
             ⟨none, (some 4), .mov (.c (.int .i64 (-1))), []⟩])
           .ret)
          .skip))
        (.seq
         (.reg [1] [
           ⟨none, (some 30), .mov (.t 1), []⟩,
           ⟨none, (some 31), .bin .add (.t 30) (.c (.int .i64 1)), []⟩,
           ⟨none, (some 1), .mov (.t 31), []⟩])
         (.seq
          (.seq
           (.reg [39] [
             ⟨none, (some 32), .mov (.t 0), []⟩,
             ⟨none, (some 33), .mov (.t 5), []⟩,
             ⟨none, (some 34), .idxA 5 (.t 32) (.t 33), []⟩,
             ⟨none, (some 35), .fldP 2 (.t 34), []⟩,
             ⟨none, (some 36), .ld 1 false (.t 35), []⟩,
             ⟨none, (some 37), .mov (.t 1), []⟩,
             ⟨none, (some 38), .conv .i8 (.t 37), []⟩,
             ⟨none, (some 39), .bin .neq (.t 36) (.t 38), []⟩])
           (.cond (.t 39)
            (.seq
             (.reg [4] [
               ⟨none, (some 4), .mov (.c (.int .i64 (-1))), []⟩])
             .ret)
            .skip))
          (.seq
           (.reg [1] [
             ⟨none, (some 40), .mov (.t 1), []⟩,
             ⟨none, (some 41), .bin .add (.t 40) (.c (.int .i64 1)), []⟩,
             ⟨none, (some 1), .mov (.t 41), []⟩])
           (.seq
            (.seq
             (.reg [49] [
               ⟨none, (some 42), .mov (.t 0), []⟩,
               ⟨none, (some 43), .mov (.t 5), []⟩,
               ⟨none, (some 44), .idxA 5 (.t 42) (.t 43), []⟩,
               ⟨none, (some 45), .fldP 3 (.t 44), []⟩,
               ⟨none, (some 46), .ld 1 false (.t 45), []⟩,
               ⟨none, (some 47), .mov (.t 1), []⟩,
               ⟨none, (some 48), .conv .i8 (.t 47), []⟩,
               ⟨none, (some 49), .bin .neq (.t 46) (.t 48), []⟩])
             (.cond (.t 49)
              (.seq
               (.reg [4] [
                 ⟨none, (some 4), .mov (.c (.int .i64 (-1))), []⟩])
               .ret)
              .skip))
            (.seq
             (.reg [1] [
               ⟨none, (some 50), .mov (.t 1), []⟩,
               ⟨none, (some 51), .bin .add (.t 50) (.c (.int .i64 1)), []⟩,
               ⟨none, (some 1), .mov (.t 51), []⟩])
             (.seq
              (.reg [1] [
                ⟨none, (some 52), .mov (.t 0), []⟩,
                ⟨none, (some 53), .mov (.t 5), []⟩,
                ⟨none, (some 54), .idxA 5 (.t 52) (.t 53), []⟩,
                ⟨none, (some 55), .fldP 4 (.t 54), []⟩,
                ⟨none, (some 56), .ld 1 false (.t 55), []⟩,
                ⟨none, (some 57), .mov (.t 1), []⟩,
                ⟨none, (some 58), .call true 392 [.t 56, .t 57], []⟩,
                ⟨none, (some 1), .mov (.t 58), []⟩])
              (.seq
               (.reg [60] [
                 ⟨none, (some 59), .mov (.t 1), []⟩,
                 ⟨none, (some 60), .bin .lss (.t 59) (.c (.int .i64 0)), []⟩])
               (.cond (.t 60)
                (.seq
                 (.reg [4] [
                   ⟨none, (some 4), .mov (.c (.int .i64 (-1))), []⟩])
                 .ret)
                .skip))))))))))))
    (.reg [5] [
      ⟨none, (some 10), .mov (.t 5), []⟩,
      ⟨none, (some 11), .bin .add (.t 10) (.c (.int .i64 1)), []⟩,
      ⟨none, (some 5), .mov (.t 11), []⟩])))
def k214 : Cd :=
  (.seq
   (.reg [4] [
     ⟨none, (some 4), .mov (.c (.int .i64 0)), []⟩])
   (.seq
    (.seq
     (.reg [5] [
       ⟨none, (some 5), .mov (.c (.int .i64 0)), []⟩])
     (.block 0
      (.loop b214_1)))
    (.seq
     (.reg [4] [
       ⟨none, (some 61), .mov (.t 1), []⟩,
       ⟨none, (some 4), .mov (.t 61), []⟩])
     .ret)))
def c214 : Fn := { np := 2, nt := 62, kind := .pure, res := [.t 4], body := k214 }

/- spec.ReadSteps -/
def b289_1 : Cd :=
  (.seq
   (.seq
    (.reg [60] [
      ⟨none, (some 57), .mov (.t 11), []⟩,
      ⟨none, (some 58), .mov (.t 8), []⟩,
      ⟨none, (some 59), .len (.t 58), []⟩,
      ⟨none, (some 60), .bin .lss (.t 57) (.t 59), []⟩])
    (.cond (.t 60)
     .skip
     (.exit 2)))
   (.seq
    (.block 3
     (.seq
      (.reg [12] [
        ⟨none, (some 63), .mov (.t 8), []⟩,
        ⟨none, (some 64), .mov (.t 11), []⟩,
        ⟨none, (some 65), .idxA 1 (.t 63) (.t 64), []⟩,
        ⟨none, (some 66), .ld 1 false (.t 65), []⟩,
        ⟨none, (some 67), .call true 481 [.t 66, .c (.int .u8 58)], []⟩,
        ⟨none, (some 12), .mov (.t 67), []⟩])
      (.seq
       (.seq
        (.reg [70] [
          ⟨none, (some 68), .mov (.t 12), []⟩,
          ⟨none, (some 69), .len (.t 68), []⟩,
          ⟨none, (some 70), .bin .neq (.t 69) (.c (.int .i64 2)), []⟩])
        (.cond (.t 70)
         (.seq
          (.reg [2, 3] [
            ⟨none, (some 71), .bldS 5 0 [.int .i8 0, .int .i8 0, .int .i8 0, .int .i8 0, .slice none 0 0] [], []⟩,
            ⟨none, (some 2), .mov (.t 71), []⟩,
            ⟨none, (some 3), .mov (.c (.int .i64 5)), []⟩])
          .ret)
         .skip))
       (.seq
        (.reg [13, 14] [
          ⟨none, (some 73), .mov (.t 12), []⟩,
          ⟨none, (some 74), .idxA 1 (.t 73) (.c (.int .i64 0)), []⟩,
          ⟨none, (some 75), .ld 1 false (.t 74), []⟩,
          ⟨none, (some 76), .call true 484 [.t 75], []⟩,
          ⟨none, (some 72), .mov (.t 76), []⟩,
          ⟨none, (some 77), .ext (.t 72) 0, []⟩,
          ⟨none, (some 78), .ext (.t 72) 1, []⟩,
          ⟨none, (some 13), .mov (.t 77), []⟩,
          ⟨none, (some 14), .mov (.t 78), []⟩])
        (.seq
         (.reg [15, 16] [
           ⟨none, (some 80), .mov (.t 12), []⟩,
           ⟨none, (some 81), .idxA 1 (.t 80) (.c (.int .i64 1)), []⟩,
           ⟨none, (some 82), .ld 1 false (.t 81), []⟩,
           ⟨none, (some 83), .call true 484 [.t 82], []⟩,
           ⟨none, (some 79), .mov (.t 83), []⟩,
           ⟨none, (some 84), .ext (.t 79) 0, []⟩,
           ⟨none, (some 85), .ext (.t 79) 1, []⟩,
           ⟨none, (some 15), .mov (.t 84), []⟩,
           ⟨none, (some 16), .mov (.t 85), []⟩])
         (.seq
          (.seq
           (.reg [99] [
             ⟨none, (some 86), .mov (.t 14), []⟩,
             ⟨none, (some 87), .un .not (.t 86), []⟩,
             ⟨none, (some 88), .mov (.t 87), []⟩,
             ⟨(some (88, false)), (some 89), .mov (.t 16), []⟩,
             ⟨(some (88, false)), (some 90), .un .not (.t 89), []⟩,
             ⟨none, (some 91), .pick (.t 88) (.c (.bool true)) (.t 90), []⟩,
             ⟨none, (some 92), .mov (.t 91), []⟩,
             ⟨(some (92, false)), (some 93), .mov (.t 13), []⟩,
             ⟨(some (92, false)), (some 94), .bin .geq (.t 93) (.c (.int .i64 12)), []⟩,
             ⟨none, (some 95), .pick (.t 92) (.c (.bool true)) (.t 94), []⟩,
             ⟨none, (some 96), .mov (.t 95), []⟩,
             ⟨(some (96, false)), (some 97), .mov (.t 15), []⟩,
             ⟨(some (96, false)), (some 98), .bin .gtr (.t 97) (.c (.int .i64 4095)), []⟩,
             ⟨none, (some 99), .pick (.t 96) (.c (.bool true)) (.t 98), []⟩])
           (.cond (.t 99)
            (.seq
             (.reg [2, 3] [
               ⟨none, (some 100), .bldS 5 0 [.int .i8 0, .int .i8 0, .int .i8 0, .int .i8 0, .slice none 0 0] [], []⟩,
               ⟨none, (some 2), .mov (.t 100), []⟩,
               ⟨none, (some 3), .mov (.c (.int .i64 5)), []⟩])
             .ret)
            .skip))
          (.reg [] [
            ⟨none, (some 101), .fldP 4 (.t 9), []⟩,
            ⟨none, (some 102), .ld 1 false (.t 101), []⟩,
            ⟨none, (some 103), .mov (.t 13), []⟩,
            ⟨none, (some 104), .conv .i8 (.t 103), []⟩,
            ⟨none, (some 105), .mov (.t 15), []⟩,
            ⟨none, (some 106), .conv .u16 (.t 105), []⟩,
            ⟨none, (some 107), .agg [.int .i8 0, .int .u16 0] [(0, 1, (.t 104)), (1, 1, (.t 106))], []⟩,
            ⟨none, (some 108), .bldS 2 1 [.int .i8 0, .int .u16 0] [(0, 2, (.t 107))], []⟩,
            ⟨none, (some 109), .app 2 4 (.t 102) (.t 108), []⟩,
            ⟨none, (some 110), .fldP 4 (.t 9), []⟩,
            ⟨none, none, .st 1 (.t 110) (.t 109), []⟩])))))))
    (.reg [11] [
      ⟨none, (some 61), .mov (.t 11), []⟩,
      ⟨none, (some 62), .bin .add (.t 61) (.c (.int .i64 1)), []⟩,
      ⟨none, (some 11), .mov (.t 62), []⟩])))
def b289_2 : Cd :=
  (.seq
   (.seq
    (.reg [35] [
      ⟨none, (some 33), .mov (.t 7), []⟩,
      ⟨none, (some 34), .mov (.t 5), []⟩,
      ⟨none, (some 35), .bin .lss (.t 33) (.t 34), []⟩])
    (.cond (.t 35)
     .skip
     (.exit 0)))
   (.seq
    (.block 1
     (.seq
      (.reg [8] [
        ⟨none, (some 38), .mov (.t 4), []⟩,
        ⟨none, (some 39), .mov (.t 7), []⟩,
        ⟨none, (some 40), .idxA 1 (.t 38) (.t 39), []⟩,
        ⟨none, (some 41), .ld 1 false (.t 40), []⟩,
        ⟨none, (some 42), .call true 481 [.t 41, .c (.int .u8 32)], []⟩,
        ⟨none, (some 8), .mov (.t 42), []⟩])
      (.seq
       (.reg [9] [
         ⟨none, (some 43), .agg [.int .i8 0, .int .i8 0, .int .i8 0, .int .i8 0, .slice none 0 0] [], []⟩,
         ⟨none, (some 9), .new 1 [.int .i8 0, .int .i8 0, .int .i8 0, .int .i8 0, .slice none 0 0], []⟩,
         ⟨none, none, .st 5 (.t 9) (.t 43), []⟩])
       (.seq
        (.reg [10] [
          ⟨none, (some 44), .mov (.t 8), []⟩,
          ⟨none, (some 45), .call false 483 [.t 44, .t 9], []⟩,
          ⟨none, (some 10), .mov (.t 45), []⟩])
        (.seq
         (.seq
          (.reg [54] [
            ⟨none, (some 46), .mov (.t 10), []⟩,
            ⟨none, (some 47), .bin .eql (.t 46) (.c (.int .i64 0)), []⟩,
            ⟨none, (some 48), .mov (.t 47), []⟩,
            ⟨(some (48, false)), (some 49), .mov (.t 8), []⟩,
            ⟨(some (48, false)), (some 50), .len (.t 49), []⟩,
            ⟨(some (48, false)), (some 51), .mov (.t 10), []⟩,
            ⟨(some (48, false)), (some 52), .bin .add (.t 51) (.c (.int .i64 12)), []⟩,
            ⟨(some (48, false)), (some 53), .bin .gtr (.t 50) (.t 52), []⟩,
            ⟨none, (some 54), .pick (.t 48) (.c (.bool true)) (.t 53), []⟩])
          (.cond (.t 54)
           (.seq
            (.reg [2, 3] [
              ⟨none, (some 55), .bldS 5 0 [.int .i8 0, .int .i8 0, .int .i8 0, .int .i8 0, .slice none 0 0] [], []⟩,
              ⟨none, (some 2), .mov (.t 55), []⟩,
              ⟨none, (some 3), .mov (.c (.int .i64 5)), []⟩])
            .ret)
           .skip))
         (.seq
          (.seq
           (.reg [11] [
             ⟨none, (some 56), .mov (.t 10), []⟩,
             ⟨none, (some 11), .mov (.t 56), []⟩])
           (.block 2
            (.loop b289_1)))
          (.reg [6] [
            ⟨none, (some 111), .mov (.t 6), []⟩,
            ⟨none, (some 112), .ld 5 true (.t 9), []⟩,
            ⟨none, (some 113), .bldS 5 1 [.int .i8 0, .int .i8 0, .int .i8 0, .int .i8 0, .slice none 0 0] [(0, 5, (.t 112))], []⟩,
            ⟨none, (some 114), .app 5 32 (.t 111) (.t 113), []⟩,
            ⟨none, (some 6), .mov (.t 114), []⟩])))))))
    (.reg [7] [
      ⟨none, (some 36), .mov (.t 7), []⟩,
      ⟨none, (some 37), .bin .add (.t 36) (.c (.int .i64 1)), []⟩,
      ⟨none, (some 7), .mov (.t 37), []⟩])))
def k289 : Cd :=
  (.seq
   (.reg [2, 3] [
     ⟨none, (some 2), .mov (.c (.slice none 0 0)), []⟩,
     ⟨none, (some 3), .mov (.c (.int .i64 0)), []⟩])
   (.seq
    (.reg [4] [
      ⟨none, (some 17), .mov (.t 0), []⟩,
      ⟨none, (some 18), .call true 481 [.t 17, .c (.int .u8 10)], []⟩,
      ⟨none, (some 4), .mov (.t 18), []⟩])
    (.seq
     (.reg [5] [
       ⟨none, (some 19), .mov (.t 4), []⟩,
       ⟨none, (some 20), .len (.t 19), []⟩,
       ⟨none, (some 21), .bin .sub (.t 20) (.c (.int .i64 1)), []⟩,
       ⟨none, (some 5), .mov (.t 21), []⟩])
     (.seq
      (.seq
       (.reg [30] [
         ⟨none, (some 22), .mov (.t 4), []⟩,
         ⟨none, (some 23), .mov (.t 5), []⟩,
         ⟨none, (some 24), .idxA 1 (.t 22) (.t 23), []⟩,
         ⟨none, (some 25), .ld 1 false (.t 24), []⟩,
         ⟨none, (some 26), .eq .s true (.t 25) (.c (.string ⟨#[]⟩)), []⟩,
         ⟨none, (some 27), .mov (.t 26), []⟩,
         ⟨(some (27, false)), (some 28), .mov (.t 5), []⟩,
         ⟨(some (27, false)), (some 29), .bin .gtr (.t 28) (.c (.int .i64 40)), []⟩,
         ⟨none, (some 30), .pick (.t 27) (.c (.bool true)) (.t 29), []⟩])
       (.cond (.t 30)
        (.seq
         (.reg [2, 3] [
           ⟨none, (some 31), .bldS 5 0 [.int .i8 0, .int .i8 0, .int .i8 0, .int .i8 0, .slice none 0 0] [], []⟩,
           ⟨none, (some 2), .mov (.t 31), []⟩,
           ⟨none, (some 3), .mov (.c (.int .i64 5)), []⟩])
         .ret)
        .skip))
      (.seq
       (.reg [6] [
         ⟨none, (some 32), .bldS 5 0 [.int .i8 0, .int .i8 0, .int .i8 0, .int .i8 0, .slice none 0 0] [], []⟩,
         ⟨none, (some 6), .mov (.t 32), []⟩])
       (.seq
        (.seq
         (.reg [7] [
           ⟨none, (some 7), .mov (.c (.int .i64 0)), []⟩])
         (.block 0
          (.loop b289_2)))
        (.seq
         (.seq
          (.reg [117] [
            ⟨none, (some 115), .mov (.t 6), []⟩,
            ⟨none, (some 116), .call true 386 [.t 115], []⟩,
            ⟨none, (some 117), .un .not (.t 116), []⟩])
          (.cond (.t 117)
           (.seq
            (.reg [2, 3] [
              ⟨none, (some 118), .bldS 5 0 [.int .i8 0, .int .i8 0, .int .i8 0, .int .i8 0, .slice none 0 0] [], []⟩,
              ⟨none, (some 2), .mov (.t 118), []⟩,
              ⟨none, (some 3), .mov (.c (.int .i64 5)), []⟩])
            .ret)
           .skip))
         (.seq
          (.reg [2, 3] [
            ⟨none, (some 119), .mov (.t 6), []⟩,
            ⟨none, (some 2), .mov (.t 119), []⟩,
            ⟨none, (some 3), .mov (.c (.int .i64 0)), []⟩])
          .ret))))))))
def c289 : Fn := { np := 1, nt := 120, kind := .pure, res := [.t 2, .t 3], body := k289 }

/- impl.ReadSteps -/
def b290_1 : Cd :=
  (.seq
   (.reg [20] [
     ⟨none, (some 20), .bin .lss (.t 19) (.t 18), []⟩])
   (.seq
    (.cond (.t 20)
     .skip
     (.exit 0))
    (.seq
     (.block 1
      (.seq
       (.reg [7] [
         ⟨none, (some 21), .idxA 1 (.t 17) (.t 19), []⟩,
         ⟨none, (some 22), .ld 1 false (.t 21), []⟩,
         ⟨none, (some 7), .mov (.t 22), []⟩])
       (.seq
        (.reg [8, 9] [
          ⟨none, (some 24), .mov (.t 7), []⟩,
          ⟨none, (some 25), .call true 486 [.t 24], []⟩,
          ⟨none, (some 23), .mov (.t 25), []⟩,
          ⟨none, (some 26), .ext (.t 23) 0, []⟩,
          ⟨none, (some 27), .ext (.t 23) 1, []⟩,
          ⟨none, (some 8), .zero true [.int .i8 0, .int .i8 0, .int .i8 0, .int .i8 0, .slice none 0 0], []⟩,
          ⟨none, (some 8), .stV 8 none 5 (.t 26), []⟩,
          ⟨none, (some 9), .mov (.t 27), []⟩])
        (.seq
         (.seq
          (.reg [29] [
            ⟨none, (some 28), .mov (.t 9), []⟩,
            ⟨none, (some 29), .un .not (.t 28), []⟩])
          (.cond (.t 29)
           (.seq
            (.reg [2, 3] [
              ⟨none, (some 2), .mov (.c (.slice none 0 0)), []⟩,
              ⟨none, (some 3), .mov (.c (.int .i64 5)), []⟩])
            .ret)
           .skip))
         (.reg [4] [
           ⟨none, (some 30), .mov (.t 4), []⟩,
           ⟨none, (some 31), .ldV 8 none 5 true, []⟩,
           ⟨none, (some 32), .bldS 5 1 [.int .i8 0, .int .i8 0, .int .i8 0, .int .i8 0, .slice none 0 0] [(0, 5, (.t 31))], []⟩,
           ⟨none, (some 33), .app 5 32 (.t 30) (.t 32), []⟩,
           ⟨none, (some 4), .mov (.t 33), []⟩])))))
     (.reg [19] [
       ⟨none, (some 34), .bin .add (.t 19) (.c (.int .i64 1)), []⟩,
       ⟨none, (some 19), .mov (.t 34), []⟩]))))
def k290 : Cd :=
  (.seq
   (.reg [2, 3] [
     ⟨none, (some 2), .mov (.c (.slice none 0 0)), []⟩,
     ⟨none, (some 3), .mov (.c (.int .i64 0)), []⟩])
   (.seq
    (.reg [4, 5] [
      ⟨none, (some 10), .bldS 5 0 [.int .i8 0, .int .i8 0, .int .i8 0, .int .i8 0, .slice none 0 0] [], []⟩,
      ⟨none, (some 11), .mov (.t 0), []⟩,
      ⟨none, (some 12), .call false 485 [.t 11, .c (.string ⟨#[10]⟩)], []⟩,
      ⟨none, (some 4), .mov (.t 10), []⟩,
      ⟨none, (some 5), .mov (.t 12), []⟩])
    (.seq
     (.seq
      (.reg [17, 18, 19] [
        ⟨none, (some 13), .mov (.t 5), []⟩,
        ⟨none, (some 14), .mov (.t 5), []⟩,
        ⟨none, (some 15), .len (.t 14), []⟩,
        ⟨none, (some 16), .bin .sub (.t 15) (.c (.int .i64 1)), []⟩,
        ⟨none, (some 17), .slcA 1 (.t 13) none (some (.t 16)) none, []⟩,
        ⟨none, (some 18), .len (.t 17), []⟩,
        ⟨none, (some 19), .mov (.c (.int .i64 0)), []⟩])
      (.block 0
       (.loop b290_1)))
     (.seq
      (.seq
       (.reg [43] [
         ⟨none, (some 35), .mov (.t 4), []⟩,
         ⟨none, (some 36), .call true 163 [.t 35], []⟩,
         ⟨none, (some 37), .un .not (.t 36), []⟩,
         ⟨none, (some 38), .mov (.t 37), []⟩,
         ⟨(some (38, false)), (some 39), .mov (.t 4), []⟩,
         ⟨(some (38, false)), (some 40), .call true 271 [.t 39], []⟩,
         ⟨(some (38, false)), (some 41), .mov (.t 0), []⟩,
         ⟨(some (38, false)), (some 42), .eq .s true (.t 40) (.t 41), []⟩,
         ⟨none, (some 43), .pick (.t 38) (.c (.bool true)) (.t 42), []⟩])
       (.cond (.t 43)
        (.seq
         (.reg [2, 3] [
           ⟨none, (some 2), .mov (.c (.slice none 0 0)), []⟩,
           ⟨none, (some 3), .mov (.c (.int .i64 5)), []⟩])
         .ret)
        .skip))
      (.seq
       (.reg [2, 3] [
         ⟨none, (some 44), .mov (.t 4), []⟩,
         ⟨none, (some 2), .mov (.t 44), []⟩,
         ⟨none, (some 3), .mov (.c (.int .i64 0)), []⟩])
       .ret)))))
def c290 : Fn := { np := 1, nt := 45, kind := .pure, res := [.t 2, .t 3], body := k290 }

/- impl.inRange -/
def k295 : Cd :=
  (.seq
   (.reg [6] [
     ⟨none, (some 6), .mov (.c (.bool false)), []⟩])
   (.seq
    (.reg [6] [
      ⟨none, (some 7), .mov (.t 1), []⟩,
      ⟨none, (some 8), .mov (.t 0), []⟩,
      ⟨none, (some 9), .bin .leq (.t 7) (.t 8), []⟩,
      ⟨none, (some 10), .mov (.t 9), []⟩,
      ⟨(some (10, true)), (some 11), .mov (.t 0), []⟩,
      ⟨(some (10, true)), (some 12), .mov (.t 2), []⟩,
      ⟨(some (10, true)), (some 13), .bin .leq (.t 11) (.t 12), []⟩,
      ⟨none, (some 14), .pick (.t 10) (.t 13) (.c (.bool false)), []⟩,
      ⟨none, (some 6), .mov (.t 14), []⟩])
    .ret))
def c295 : Fn := { np := 3, nt := 15, kind := .pure, res := [.t 6], body := k295 }

/- spec.l00In -/
def k304 : Cd :=
  (.seq
   (.reg [6] [
     ⟨none, (some 6), .mov (.c (.bool false)), []⟩])
   (.seq
    (.reg [6] [
      ⟨none, (some 7), .mov (.t 0), []⟩,
      ⟨none, (some 8), .mov (.t 1), []⟩,
      ⟨none, (some 9), .bin .geq (.t 7) (.t 8), []⟩,
      ⟨none, (some 10), .mov (.t 9), []⟩,
      ⟨(some (10, true)), (some 11), .mov (.t 0), []⟩,
      ⟨(some (10, true)), (some 12), .mov (.t 2), []⟩,
      ⟨(some (10, true)), (some 13), .bin .leq (.t 11) (.t 12), []⟩,
      ⟨none, (some 14), .pick (.t 10) (.t 13) (.c (.bool false)), []⟩,
      ⟨none, (some 6), .mov (.t 14), []⟩])
    .ret))
def c304 : Fn := { np := 3, nt := 15, kind := .pure, res := [.t 6], body := k304 }

/- spec.l06How -/
def k309 : Cd :=
  (.seq
   (.reg [2] [
     ⟨none, (some 2), .mov (.c (.bool false)), []⟩])
   (.seq
    (.reg [2] [
      ⟨none, (some 3), .mov (.t 0), []⟩,
      ⟨none, (some 4), .call true 304 [.t 3, .c (.int .i64 0), .c (.int .i64 2)], []⟩,
      ⟨none, (some 2), .mov (.t 4), []⟩])
    .ret))
def c309 : Fn := { np := 1, nt := 5, kind := .pure, res := [.t 2], body := k309 }

/- impl.readDecimal -/
def k378 : Cd :=
  (.seq
   (.reg [6, 7] [
     ⟨none, (some 6), .mov (.c (.int .i64 0)), []⟩,
     ⟨none, (some 7), .mov (.c (.bool false)), []⟩])
   (.seq
    (.reg [8, 9] [
      ⟨none, (some 11), .mov (.t 0), []⟩,
      ⟨none, (some 12), .call false 521 [.t 11, .c (.int .i64 10), .c (.int .i64 64)], []⟩,
      ⟨none, (some 10), .mov (.t 12), []⟩,
      ⟨none, (some 13), .ext (.t 10) 0, []⟩,
      ⟨none, (some 14), .ext (.t 10) 1, []⟩,
      ⟨none, (some 8), .mov (.t 13), []⟩,
      ⟨none, (some 9), .mov (.t 14), []⟩])
    (.seq
     (.reg [6, 7] [
       ⟨none, (some 15), .mov (.t 8), []⟩,
       ⟨none, (some 16), .mov (.t 9), []⟩,
       ⟨none, (some 17), .eq .i false (.t 16) (.c (.nilIface)), []⟩,
       ⟨none, (some 18), .mov (.t 17), []⟩,
       ⟨(some (18, true)), (some 19), .mov (.t 8), []⟩,
       ⟨(some (18, true)), (some 20), .mov (.t 1), []⟩,
       ⟨(some (18, true)), (some 21), .mov (.t 2), []⟩,
       ⟨(some (18, true)), (some 22), .call true 295 [.t 19, .t 20, .t 21], []⟩,
       ⟨none, (some 23), .pick (.t 18) (.t 22) (.c (.bool false)), []⟩,
       ⟨none, (some 24), .mov (.t 23), []⟩,
       ⟨(some (24, true)), (some 25), .mov (.t 8), []⟩,
       ⟨(some (24, true)), (some 26), .call true 379 [.t 25], []⟩,
       ⟨(some (24, true)), (some 27), .mov (.t 0), []⟩,
       ⟨(some (24, true)), (some 28), .eq .s false (.t 26) (.t 27), []⟩,
       ⟨none, (some 29), .pick (.t 24) (.t 28) (.c (.bool false)), []⟩,
       ⟨none, (some 6), .mov (.t 15), []⟩,
       ⟨none, (some 7), .mov (.t 29), []⟩])
     .ret)))
def c378 : Fn := { np := 3, nt := 30, kind := .pure, res := [.t 6, .t 7], body := k378 }

/- impl.decimal -/
def k379 : Cd :=
  (.seq
   (.reg [2] [
     ⟨none, (some 2), .mov (.c (.string ⟨#[]⟩)), []⟩])
   (.seq
    (.reg [2] [
      ⟨none, (some 3), .mov (.t 0), []⟩,
      ⟨none, (some 4), .call false 522 [.t 3, .c (.int .i64 10)], []⟩,
      ⟨none, (some 2), .mov (.t 4), []⟩])
    .ret))
def c379 : Fn := { np := 1, nt := 5, kind := .pure, res := [.t 2], body := k379 }

/- spec.l06Ok -/
def b386_1 : Cd :=
  (.seq
   (.seq
    (.reg [7] [
      ⟨none, (some 4), .mov (.t 3), []⟩,
      ⟨none, (some 5), .mov (.t 0), []⟩,
      ⟨none, (some 6), .len (.t 5), []⟩,
      ⟨none, (some 7), .bin .lss (.t 4) (.t 6), []⟩])
    (.cond (.t 7)
     .skip
     (.exit 0)))
   (.seq
    (.block 1
     (.seq
      (.reg [15] [
        ⟨none, (some 10), .mov (.t 0), []⟩,
        ⟨none, (some 11), .mov (.t 3), []⟩,
        ⟨none, (some 12), .idxA 5 (.t 10) (.t 11), []⟩,
        ⟨none, (some 13), .mov (.t 3), []⟩,
        ⟨none, (some 14), .call true 524 [.t 12, .t 13], []⟩,
        ⟨none, (some 15), .un .not (.t 14), []⟩])
      (.cond (.t 15)
       (.seq
        (.reg [2] [
          ⟨none, (some 2), .mov (.c (.bool false)), []⟩])
        .ret)
       .skip)))
    (.reg [3] [
      ⟨none, (some 8), .mov (.t 3), []⟩,
      ⟨none, (some 9), .bin .add (.t 8) (.c (.int .i64 1)), []⟩,
      ⟨none, (some 3), .mov (.t 9), []⟩])))
def k386 : Cd :=
  (.seq
   (.reg [2] [
     ⟨none, (some 2), .mov (.c (.bool false)), []⟩])
   (.seq
    (.seq
     (.reg [3] [
       ⟨none, (some 3), .mov (.c (.int .i64 0)), []⟩])
     (.block 0
      (.loop b386_1)))
    (.seq
     (.reg [2] [
       ⟨none, (some 16), .mov (.t 0), []⟩,
       ⟨none, (some 17), .len (.t 16), []⟩,
       ⟨none, (some 18), .bin .leq (.t 17) (.c (.int .i64 40)), []⟩,
       ⟨none, (some 2), .mov (.t 18), []⟩])
     .ret)))
def c386 : Fn := { np := 1, nt := 19, kind := .pure, res := [.t 2], body := k386 }

/- impl.isStep -/
def b387_1 : Cd :=
  (.seq
   (.reg [13] [
     ⟨none, (some 13), .bin .lss (.t 12) (.t 11), []⟩])
   (.seq
    (.cond (.t 13)
     .skip
     (.exit 0))
    (.seq
     (.block 1
      (.seq
       (.reg [6, 5] [
         ⟨none, (some 14), .mov (.t 12), []⟩,
         ⟨none, (some 15), .idxA 2 (.t 10) (.t 12), []⟩,
         ⟨none, (some 16), .ld 2 true (.t 15), []⟩,
         ⟨none, (some 6), .zero true [.int .i8 0, .int .u16 0], []⟩,
         ⟨none, (some 5), .mov (.t 14), []⟩,
         ⟨none, (some 6), .stV 6 none 2 (.t 16), []⟩])
       (.seq
        (.reg [44] [
          ⟨none, (some 17), .adrF 6 none 0, []⟩,
          ⟨none, (some 18), .ldV 6 (some 17) 1 false, []⟩,
          ⟨none, (some 19), .conv .i64 (.t 18), []⟩,
          ⟨none, (some 20), .call true 295 [.t 19, .c (.int .i64 0), .c (.int .i64 11)], []⟩,
          ⟨none, (some 21), .un .not (.t 20), []⟩,
          ⟨none, (some 22), .mov (.t 21), []⟩,
          ⟨(some (22, false)), (some 23), .adrF 6 none 1, []⟩,
          ⟨(some (22, false)), (some 24), .ldV 6 (some 23) 1 false, []⟩,
          ⟨(some (22, false)), (some 25), .conv .i64 (.t 24), []⟩,
          ⟨(some (22, false)), (some 26), .call true 295 [.t 25, .c (.int .i64 1), .c (.int .i64 4095)], []⟩,
          ⟨(some (22, false)), (some 27), .un .not (.t 26), []⟩,
          ⟨none, (some 28), .pick (.t 22) (.c (.bool true)) (.t 27), []⟩,
          ⟨none, (some 29), .mov (.t 28), []⟩,
          ⟨(some (29, false)), (some 30), .mov (.t 5), []⟩,
          ⟨(some (29, false)), (some 31), .bin .gtr (.t 30) (.c (.int .i64 0)), []⟩,
          ⟨(some (29, false)), (some 32), .mov (.t 31), []⟩,
          ⟨(some (32, true)), (some 33), .adrF 2 none 4, []⟩,
          ⟨(some (32, true)), (some 34), .ldV 2 (some 33) 1 false, []⟩,
          ⟨(some (32, true)), (some 35), .mov (.t 5), []⟩,
          ⟨(some (32, true)), (some 36), .bin .sub (.t 35) (.c (.int .i64 1)), []⟩,
          ⟨(some (32, true)), (some 37), .idxA 2 (.t 34) (.t 36), []⟩,
          ⟨(some (32, true)), (some 38), .fldP 0 (.t 37), []⟩,
          ⟨(some (32, true)), (some 39), .ld 1 false (.t 38), []⟩,
          ⟨(some (32, true)), (some 40), .adrF 6 none 0, []⟩,
          ⟨(some (32, true)), (some 41), .ldV 6 (some 40) 1 false, []⟩,
          ⟨(some (32, true)), (some 42), .bin .geq (.t 39) (.t 41), []⟩,
          ⟨(some (29, false)), (some 43), .pick (.t 32) (.t 42) (.c (.bool false)), []⟩,
          ⟨none, (some 44), .pick (.t 29) (.c (.bool true)) (.t 43), []⟩])
        (.cond (.t 44)
         (.seq
          (.reg [4] [
            ⟨none, (some 4), .mov (.c (.bool false)), []⟩])
          .ret)
         .skip))))
     (.reg [12] [
       ⟨none, (some 45), .bin .add (.t 12) (.c (.int .i64 1)), []⟩,
       ⟨none, (some 12), .mov (.t 45), []⟩]))))
def k387 : Cd :=
  (.seq
   (.reg [2, 4] [
     ⟨none, (some 2), .mov (.t 0), []⟩,
     ⟨none, (some 4), .mov (.c (.bool false)), []⟩])
   (.seq
    (.seq
     (.reg [10, 11, 12] [
       ⟨none, (some 9), .adrF 2 none 4, []⟩,
       ⟨none, (some 10), .ldV 2 (some 9) 1 false, []⟩,
       ⟨none, (some 11), .len (.t 10), []⟩,
       ⟨none, (some 12), .mov (.c (.int .i64 0)), []⟩])
     (.block 0
      (.loop b387_1)))
    (.seq
     (.reg [7] [
       ⟨none, (some 46), .adrF 2 none 2, []⟩,
       ⟨none, (some 47), .ldV 2 (some 46) 1 false, []⟩,
       ⟨none, (some 48), .bin .eql (.t 47) (.c (.int .i8 0)), []⟩,
       ⟨none, (some 49), .mov (.t 48), []⟩,
       ⟨(some (49, true)), (some 50), .adrF 2 none 3, []⟩,
       ⟨(some (49, true)), (some 51), .ldV 2 (some 50) 1 false, []⟩,
       ⟨(some (49, true)), (some 52), .bin .eql (.t 51) (.c (.int .i8 0)), []⟩,
       ⟨none, (some 53), .pick (.t 49) (.t 52) (.c (.bool false)), []⟩,
       ⟨none, (some 7), .mov (.t 53), []⟩])
     (.seq
      (.reg [8] [
        ⟨none, (some 54), .adrF 2 none 1, []⟩,
        ⟨none, (some 55), .ldV 2 (some 54) 1 false, []⟩,
        ⟨none, (some 56), .conv .i64 (.t 55), []⟩,
        ⟨none, (some 57), .mov (.t 1), []⟩,
        ⟨none, (some 58), .bin .sub (.t 57) (.c (.int .i64 1)), []⟩,
        ⟨none, (some 59), .call true 295 [.t 56, .c (.int .i64 0), .t 58], []⟩,
        ⟨none, (some 8), .mov (.t 59), []⟩])
      (.seq
       (.seq
        (.reg [61] [
          ⟨none, (some 60), .adrF 2 none 0, []⟩,
          ⟨none, (some 61), .ldV 2 (some 60) 1 false, []⟩])
        (.block 2
         (.seq
          (.reg [62] [
            ⟨none, (some 63), .bin .eql (.t 61) (.c (.int .i8 0)), []⟩,
            ⟨none, (some 62), .mov (.t 63), []⟩])
          (.cond (.t 62)
           (.seq
            (.reg [4] [
              ⟨none, (some 64), .mov (.t 7), []⟩,
              ⟨none, (some 65), .mov (.t 64), []⟩,
              ⟨(some (65, true)), (some 66), .adrF 2 none 1, []⟩,
              ⟨(some (65, true)), (some 67), .ldV 2 (some 66) 1 false, []⟩,
              ⟨(some (65, true)), (some 68), .bin .eql (.t 67) (.c (.int .i8 0)), []⟩,
              ⟨none, (some 69), .pick (.t 65) (.t 68) (.c (.bool false)), []⟩,
              ⟨none, (some 4), .mov (.t 69), []⟩])
            .ret)
           (.seq
            (.reg [70] [
              ⟨none, (some 71), .bin .eql (.t 61) (.c (.int .i8 1)), []⟩,
              ⟨none, (some 70), .mov (.t 71), []⟩])
            (.cond (.t 70)
             (.seq
              (.reg [4] [
                ⟨none, (some 72), .mov (.t 7), []⟩,
                ⟨none, (some 73), .mov (.t 72), []⟩,
                ⟨(some (73, true)), (some 74), .mov (.t 8), []⟩,
                ⟨none, (some 75), .pick (.t 73) (.t 74) (.c (.bool false)), []⟩,
                ⟨none, (some 4), .mov (.t 75), []⟩])
              .ret)
             (.seq
              (.reg [76] [
                ⟨none, (some 77), .bin .eql (.t 61) (.c (.int .i8 2)), []⟩,
                ⟨none, (some 76), .mov (.t 77), []⟩])
              (.cond (.t 76)
               (.seq
                (.reg [4] [
                  ⟨none, (some 78), .mov (.t 7), []⟩,
                  ⟨none, (some 79), .un .not (.t 78), []⟩,
                  ⟨none, (some 80), .mov (.t 79), []⟩,
                  ⟨(some (80, true)), (some 81), .mov (.t 8), []⟩,
                  ⟨none, (some 82), .pick (.t 80) (.t 81) (.c (.bool false)), []⟩,
                  ⟨none, (some 83), .mov (.t 82), []⟩,
                  ⟨(some (83, true)), (some 84), .adrF 2 none 2, []⟩,
                  ⟨(some (83, true)), (some 85), .ldV 2 (some 84) 1 false, []⟩,
                  ⟨(some (83, true)), (some 86), .conv .i64 (.t 85), []⟩,
                  ⟨(some (83, true)), (some 87), .call true 295 [.t 86, .c (.int .i64 (-12)), .c (.int .i64 12)], []⟩,
                  ⟨none, (some 88), .pick (.t 83) (.t 87) (.c (.bool false)), []⟩,
                  ⟨none, (some 89), .mov (.t 88), []⟩,
                  ⟨(some (89, true)), (some 90), .adrF 2 none 3, []⟩,
                  ⟨(some (89, true)), (some 91), .ldV 2 (some 90) 1 false, []⟩,
                  ⟨(some (89, true)), (some 92), .conv .i64 (.t 91), []⟩,
                  ⟨(some (89, true)), (some 93), .call true 295 [.t 92, .c (.int .i64 (-12)), .c (.int .i64 12)], []⟩,
                  ⟨none, (some 94), .pick (.t 89) (.t 93) (.c (.bool false)), []⟩,
                  ⟨none, (some 4), .mov (.t 94), []⟩])
                .ret)
               .skip))))))))
       (.seq
        (.reg [4] [
          ⟨none, (some 4), .mov (.c (.bool false)), []⟩])
        .ret))))))
def c387 : Fn := { np := 2, nt := 95, kind := .pure, res := [.t 4], body := k387 }

/- laws.eqChangeS -/
def b390_1 : Cd :=
  (.seq
   (.seq
    (.reg [14] [
      ⟨none, (some 11), .mov (.t 5), []⟩,
      ⟨none, (some 12), .mov (.t 0), []⟩,
      ⟨none, (some 13), .len (.t 12), []⟩,
      ⟨none, (some 14), .bin .lss (.t 11) (.t 13), []⟩])
    (.cond (.t 14)
     .skip
     (.exit 0)))
   (.seq
    (.block 1
     (.seq
      (.reg [26] [
        ⟨none, (some 17), .mov (.t 0), []⟩,
        ⟨none, (some 18), .mov (.t 5), []⟩,
        ⟨none, (some 19), .idxA 2 (.t 17) (.t 18), []⟩,
        ⟨none, (some 20), .ld 2 true (.t 19), []⟩,
        ⟨none, (some 21), .mov (.t 1), []⟩,
        ⟨none, (some 22), .mov (.t 5), []⟩,
        ⟨none, (some 23), .idxA 2 (.t 21) (.t 22), []⟩,
        ⟨none, (some 24), .ld 2 true (.t 23), []⟩,
        ⟨none, (some 25), .call true 529 [.t 20, .t 24], []⟩,
        ⟨none, (some 26), .un .not (.t 25), []⟩])
      (.cond (.t 26)
       (.seq
        (.reg [4] [
          ⟨none, (some 4), .mov (.c (.bool false)), []⟩])
        .ret)
       .skip)))
    (.reg [5] [
      ⟨none, (some 15), .mov (.t 5), []⟩,
      ⟨none, (some 16), .bin .add (.t 15) (.c (.int .i64 1)), []⟩,
      ⟨none, (some 5), .mov (.t 16), []⟩])))
def k390 : Cd :=
  (.seq
   (.reg [4] [
     ⟨none, (some 4), .mov (.c (.bool false)), []⟩])
   (.seq
    (.seq
     (.reg [10] [
       ⟨none, (some 6), .mov (.t 0), []⟩,
       ⟨none, (some 7), .len (.t 6), []⟩,
       ⟨none, (some 8), .mov (.t 1), []⟩,
       ⟨none, (some 9), .len (.t 8), []⟩,
       ⟨none, (some 10), .bin .neq (.t 7) (.t 9), []⟩])
     (.cond (.t 10)
      (.seq
       (.reg [4] [
         ⟨none, (some 4), .mov (.c (.bool false)), []⟩])
       .ret)
      .skip))
    (.seq
     (.seq
      (.reg [5] [
        ⟨none, (some 5), .mov (.c (.int .i64 0)), []⟩])
      (.block 0
       (.loop b390_1)))
     (.seq
      (.reg [4] [
        ⟨none, (some 4), .mov (.c (.bool true)), []⟩])
      .ret))))
def c390 : Fn := { np := 2, nt := 27, kind := .pure, res := [.t 4], body := k390 }

/- laws.markChangeS -/
def b391_1 : Cd :=
  (.seq
   (.seq
    (.reg [9] [
      ⟨none, (some 6), .mov (.t 5), []⟩,
      ⟨none, (some 7), .mov (.t 0), []⟩,
      ⟨none, (some 8), .len (.t 7), []⟩,
      ⟨none, (some 9), .bin .lss (.t 6) (.t 8), []⟩])
    (.cond (.t 9)
     .skip
     (.exit 0)))
   (.seq
    (.block 1
     (.seq
      (.reg [] [
        ⟨none, (some 12), .mov (.t 0), []⟩,
        ⟨none, (some 13), .mov (.t 5), []⟩,
        ⟨none, (some 14), .mov (.t 1), []⟩,
        ⟨none, (some 15), .conv .i8 (.t 14), []⟩,
        ⟨none, (some 16), .idxA 2 (.t 12) (.t 13), []⟩,
        ⟨none, (some 17), .fldP 0 (.t 16), []⟩,
        ⟨none, none, .st 1 (.t 17) (.t 15), []⟩])
      (.seq
       (.reg [1] [
         ⟨none, (some 18), .mov (.t 1), []⟩,
         ⟨none, (some 19), .bin .add (.t 18) (.c (.int .i64 1)), []⟩,
         ⟨none, (some 1), .mov (.t 19), []⟩])
       (.seq
        (.reg [] [
          ⟨none, (some 20), .mov (.t 0), []⟩,
          ⟨none, (some 21), .mov (.t 5), []⟩,
          ⟨none, (some 22), .mov (.t 1), []⟩,
          ⟨none, (some 23), .conv .u16 (.t 22), []⟩,
          ⟨none, (some 24), .idxA 2 (.t 20) (.t 21), []⟩,
          ⟨none, (some 25), .fldP 1 (.t 24), []⟩,
          ⟨none, none, .st 1 (.t 25) (.t 23), []⟩])
        (.reg [1] [
          ⟨none, (some 26), .mov (.t 1), []⟩,
          ⟨none, (some 27), .bin .add (.t 26) (.c (.int .i64 1)), []⟩,
          ⟨none, (some 1), .mov (.t 27), []⟩])))))
    (.reg [5] [
      ⟨none, (some 10), .mov (.t 5), []⟩,
      ⟨none, (some 11), .bin .add (.t 10) (.c (.int .i64 1)), []⟩,
      ⟨none, (some 5), .mov (.t 11), []⟩])))
def k391 : Cd :=
  (.seq
   (.reg [4] [
     ⟨none, (some 4), .mov (.c (.int .i64 0)), []⟩])
   (.seq
    (.seq
     (.reg [5] [
       ⟨none, (some 5), .mov (.c (.int .i64 0)), []⟩])
     (.block 0
      (.loop b391_1)))
    (.seq
     (.reg [4] [
       ⟨none, (some 28), .mov (.t 1), []⟩,
       ⟨none, (some 4), .mov (.t 28), []⟩])
     .ret)))
def c391 : Fn := { np := 2, nt := 29, kind := .args, res := [.t 4], body := k391 }

/- laws.heldChangeS -/
def b392_1 : Cd :=
  (.seq
   (.seq
    (.reg [9] [
      ⟨none, (some 6), .mov (.t 5), []⟩,
      ⟨none, (some 7), .mov (.t 0), []⟩,
      ⟨none, (some 8), .len (.t 7), []⟩,
      ⟨none, (some 9), .bin .lss (.t 6) (.t 8), []⟩])
    (.cond (.t 9)
     .skip
     (.exit 0)))
   (.seq
    (.block 1
     (.seq
      (.seq
       (.reg [19] [
         ⟨none, (some 12), .mov (.t 0), []⟩,
         ⟨none, (some 13), .mov (.t 5), []⟩,
         ⟨none, (some 14), .idxA 2 (.t 12) (.t 13), []⟩,
         ⟨none, (some 15), .fldP 0 (.t 14), []⟩,
         ⟨none, (some 16), .ld 1 false (.t 15), []⟩,
         ⟨none, (some 17), .mov (.t 1), []⟩,
         ⟨none, (some 18), .conv .i8 (.t 17), []⟩,
         ⟨none, (some 19), .bin .neq (.t 16) (.t 18), []⟩])
       (.cond (.t 19)
        (.seq
         (.reg [4] [
           ⟨none, (some 4), .mov (.c (.int .i64 (-1))), []⟩])
         .ret)
        .skip))
      (.seq
       (.reg [1] [
         ⟨none, (some 20), .mov (.t 1), []⟩,
         ⟨none, (some 21), .bin .add (.t 20) (.c (.int .i64 1)), []⟩,
         ⟨none, (some 1), .mov (.t 21), []⟩])
       (.seq
        (.seq
         (.reg [29] [
           ⟨none, (some 22), .mov (.t 0), []⟩,
           ⟨none, (some 23), .mov (.t 5), []⟩,
           ⟨none, (some 24), .idxA 2 (.t 22) (.t 23), []⟩,
           ⟨none, (some 25), .fldP 1 (.t 24), []⟩,
           ⟨none, (some 26), .ld 1 false (.t 25), []⟩,
           ⟨none, (some 27), .mov (.t 1), []⟩,
           ⟨none, (some 28), .conv .u16 (.t 27), []⟩,
           ⟨none, (some 29), .bin .neq (.t 26) (.t 28), []⟩])
         (.cond (.t 29)
          (.seq
           (.reg [4] [
             ⟨none, (some 4), .mov (.c (.int .i64 (-1))), []⟩])
           .ret)
          .skip))
        (.reg [1] [
          ⟨none, (some 30), .mov (.t 1), []⟩,
          ⟨none, (some 31), .bin .add (.t 30) (.c (.int .i64 1)), []⟩,
          ⟨none, (some 1), .mov (.t 31), []⟩])))))
    (.reg [5] [
      ⟨none, (some 10), .mov (.t 5), []⟩,
      ⟨none, (some 11), .bin .add (.t 10) (.c (.int .i64 1)), []⟩,
      ⟨none, (some 5), .mov (.t 11), []⟩])))
def k392 : Cd :=
  (.seq
   (.reg [4] [
     ⟨none, (some 4), .mov (.c (.int .i64 0)), []⟩])
   (.seq
    (.seq
     (.reg [5] [
       ⟨none, (some 5), .mov (.c (.int .i64 0)), []⟩])
     (.block 0
      (.loop b392_1)))
    (.seq
     (.reg [4] [
       ⟨none, (some 32), .mov (.t 1), []⟩,
       ⟨none, (some 4), .mov (.t 32), []⟩])
     .ret)))
def c392 : Fn := { np := 2, nt := 33, kind := .pure, res := [.t 4], body := k392 }

/- impl.stepText -/
def b465_1 : Cd :=
  (.seq
   (.reg [40] [
     ⟨none, (some 40), .bin .lss (.t 39) (.t 38), []⟩])
   (.seq
    (.cond (.t 40)
     .skip
     (.exit 0))
    (.seq
     (.block 1
      (.seq
       (.reg [5] [
         ⟨none, (some 41), .idxA 2 (.t 37) (.t 39), []⟩,
         ⟨none, (some 42), .ld 2 true (.t 41), []⟩,
         ⟨none, (some 5), .zero true [.int .i8 0, .int .u16 0], []⟩,
         ⟨none, (some 5), .stV 5 none 2 (.t 42), []⟩])
       (.reg [3] [
         ⟨none, (some 43), .mov (.t 3), []⟩,
         ⟨none, (some 44), .adrF 5 none 0, []⟩,
         ⟨none, (some 45), .ldV 5 (some 44) 1 false, []⟩,
         ⟨none, (some 46), .conv .i64 (.t 45), []⟩,
         ⟨none, (some 50), .adrF 5 none 1, []⟩,
         ⟨none, (some 51), .ldV 5 (some 50) 1 false, []⟩,
         ⟨none, (some 52), .conv .i64 (.t 51), []⟩,
         ⟨none, (some 47), .call true 379 [.t 46], []⟩,
         ⟨none, (some 48), .bin .add (.c (.string ⟨#[32]⟩)) (.t 47), []⟩,
         ⟨none, (some 49), .bin .add (.t 48) (.c (.string ⟨#[58]⟩)), []⟩,
         ⟨none, (some 53), .call true 379 [.t 52], []⟩,
         ⟨none, (some 54), .bin .add (.t 49) (.t 53), []⟩,
         ⟨none, (some 55), .bin .add (.t 43) (.t 54), []⟩,
         ⟨none, (some 3), .mov (.t 55), []⟩])))
     (.reg [39] [
       ⟨none, (some 56), .bin .add (.t 39) (.c (.int .i64 1)), []⟩,
       ⟨none, (some 39), .mov (.t 56), []⟩]))))
def k465 : Cd :=
  (.seq
   (.reg [1, 2] [
     ⟨none, (some 1), .mov (.t 0), []⟩,
     ⟨none, (some 2), .mov (.c (.string ⟨#[]⟩)), []⟩])
   (.seq
    (.reg [3] [
      ⟨none, (some 6), .adrF 1 none 0, []⟩,
      ⟨none, (some 7), .ldV 1 (some 6) 1 false, []⟩,
      ⟨none, (some 8), .idxP 3 1 (.c (.pointer (some ⟨0, 0, some 0⟩))) (.t 7), []⟩,
      ⟨none, (some 9), .ld 1 false (.t 8), []⟩,
      ⟨none, (some 3), .mov (.t 9), []⟩])
    (.seq
     (.seq
      (.reg [12] [
        ⟨none, (some 10), .adrF 1 none 0, []⟩,
        ⟨none, (some 11), .ldV 1 (some 10) 1 false, []⟩,
        ⟨none, (some 12), .bin .neq (.t 11) (.c (.int .i8 0)), []⟩])
      (.cond (.t 12)
       (.reg [3] [
         ⟨none, (some 13), .mov (.t 3), []⟩,
         ⟨none, (some 14), .adrF 1 none 1, []⟩,
         ⟨none, (some 15), .ldV 1 (some 14) 1 false, []⟩,
         ⟨none, (some 16), .conv .i64 (.t 15), []⟩,
         ⟨none, (some 17), .call true 379 [.t 16], []⟩,
         ⟨none, (some 18), .bin .add (.c (.string ⟨#[32]⟩)) (.t 17), []⟩,
         ⟨none, (some 19), .bin .add (.t 13) (.t 18), []⟩,
         ⟨none, (some 3), .mov (.t 19), []⟩])
       .skip))
     (.seq
      (.seq
       (.reg [22] [
         ⟨none, (some 20), .adrF 1 none 0, []⟩,
         ⟨none, (some 21), .ldV 1 (some 20) 1 false, []⟩,
         ⟨none, (some 22), .bin .eql (.t 21) (.c (.int .i8 2)), []⟩])
       (.cond (.t 22)
        (.reg [3] [
          ⟨none, (some 23), .mov (.t 3), []⟩,
          ⟨none, (some 24), .adrF 1 none 2, []⟩,
          ⟨none, (some 25), .ldV 1 (some 24) 1 false, []⟩,
          ⟨none, (some 26), .conv .i64 (.t 25), []⟩,
          ⟨none, (some 30), .adrF 1 none 3, []⟩,
          ⟨none, (some 31), .ldV 1 (some 30) 1 false, []⟩,
          ⟨none, (some 32), .conv .i64 (.t 31), []⟩,
          ⟨none, (some 27), .call true 379 [.t 26], []⟩,
          ⟨none, (some 28), .bin .add (.c (.string ⟨#[32]⟩)) (.t 27), []⟩,
          ⟨none, (some 29), .bin .add (.t 28) (.c (.string ⟨#[32]⟩)), []⟩,
          ⟨none, (some 33), .call true 379 [.t 32], []⟩,
          ⟨none, (some 34), .bin .add (.t 29) (.t 33), []⟩,
          ⟨none, (some 35), .bin .add (.t 23) (.t 34), []⟩,
          ⟨none, (some 3), .mov (.t 35), []⟩])
        .skip))
      (.seq
       (.seq
        (.reg [37, 38, 39] [
          ⟨none, (some 36), .adrF 1 none 4, []⟩,
          ⟨none, (some 37), .ldV 1 (some 36) 1 false, []⟩,
          ⟨none, (some 38), .len (.t 37), []⟩,
          ⟨none, (some 39), .mov (.c (.int .i64 0)), []⟩])
        (.block 0
         (.loop b465_1)))
       (.seq
        (.reg [2] [
          ⟨none, (some 57), .mov (.t 3), []⟩,
          ⟨none, (some 2), .mov (.t 57), []⟩])
        .ret))))))
def c465 : Fn := { np := 1, nt := 58, kind := .pure, res := [.t 2], body := k465 }

/- spec.l01Split -/
def b481_1 : Cd :=
  (.seq
   (.seq
    (.reg [12] [
      ⟨none, (some 9), .mov (.t 7), []⟩,
      ⟨none, (some 10), .mov (.t 0), []⟩,
      ⟨none, (some 11), .lens (.t 10), []⟩,
      ⟨none, (some 12), .bin .lss (.t 9) (.t 11), []⟩])
    (.cond (.t 12)
     .skip
     (.exit 0)))
   (.seq
    (.block 1
     (.seq
      (.reg [19] [
        ⟨none, (some 15), .mov (.t 0), []⟩,
        ⟨none, (some 16), .mov (.t 7), []⟩,
        ⟨none, (some 17), .idxs (.t 15) (.t 16), []⟩,
        ⟨none, (some 18), .mov (.t 1), []⟩,
        ⟨none, (some 19), .bin .eql (.t 17) (.t 18), []⟩])
      (.cond (.t 19)
       (.seq
        (.reg [5] [
          ⟨none, (some 20), .mov (.t 5), []⟩,
          ⟨none, (some 21), .mov (.t 0), []⟩,
          ⟨none, (some 22), .mov (.t 6), []⟩,
          ⟨none, (some 23), .mov (.t 7), []⟩,
          ⟨none, (some 24), .slcs (.t 21) (some (.t 22)) (some (.t 23)), []⟩,
          ⟨none, (some 25), .bldS 1 1 [.string ⟨#[]⟩] [(0, 1, (.t 24))], []⟩,
          ⟨none, (some 26), .app 1 16 (.t 20) (.t 25), []⟩,
          ⟨none, (some 5), .mov (.t 26), []⟩])
        (.reg [6] [
          ⟨none, (some 27), .mov (.t 7), []⟩,
          ⟨none, (some 28), .bin .add (.t 27) (.c (.int .i64 1)), []⟩,
          ⟨none, (some 6), .mov (.t 28), []⟩]))
       .skip)))
    (.reg [7] [
      ⟨none, (some 13), .mov (.t 7), []⟩,
      ⟨none, (some 14), .bin .add (.t 13) (.c (.int .i64 1)), []⟩,
      ⟨none, (some 7), .mov (.t 14), []⟩])))
def k481 : Cd :=
  (.seq
   (.reg [4] [
     ⟨none, (some 4), .mov (.c (.slice none 0 0)), []⟩])
   (.seq
    (.reg [5] [
      ⟨none, (some 8), .bldS 1 0 [.string ⟨#[]⟩] [], []⟩,
      ⟨none, (some 5), .mov (.t 8), []⟩])
    (.seq
     (.reg [6] [
       ⟨none, (some 6), .mov (.c (.int .i64 0)), []⟩])
     (.seq
      (.seq
       (.reg [7] [
         ⟨none, (some 7), .mov (.c (.int .i64 0)), []⟩])
       (.block 0
        (.loop b481_1)))
      (.seq
       (.reg [4] [
         ⟨none, (some 29), .mov (.t 5), []⟩,
         ⟨none, (some 30), .mov (.t 0), []⟩,
         ⟨none, (some 31), .mov (.t 6), []⟩,
         ⟨none, (some 32), .slcs (.t 30) (some (.t 31)) none, []⟩,
         ⟨none, (some 33), .bldS 1 1 [.string ⟨#[]⟩] [(0, 1, (.t 32))], []⟩,
         ⟨none, (some 34), .app 1 16 (.t 29) (.t 33), []⟩,
         ⟨none, (some 4), .mov (.t 34), []⟩])
       .ret)))))
def c481 : Fn := { np := 2, nt := 35, kind := .pure, res := [.t 4], body := k481 }

/- spec.l06Head -/
def b483_1 : Cd :=
  (.seq
   (.seq
    (.reg [25] [
      ⟨none, (some 14), .mov (.t 7), []⟩,
      ⟨none, (some 15), .bin .lss (.t 14) (.c (.int .i64 3)), []⟩,
      ⟨none, (some 16), .mov (.t 15), []⟩,
      ⟨(some (16, true)), (some 17), .mov (.t 0), []⟩,
      ⟨(some (16, true)), (some 18), .idxA 1 (.t 17) (.c (.int .i64 0)), []⟩,
      ⟨(some (16, true)), (some 19), .ld 1 false (.t 18), []⟩,
      ⟨(some (16, true)), (some 20), .mov (.t 6), []⟩,
      ⟨(some (16, true)), (some 21), .mov (.t 7), []⟩,
      ⟨(some (16, true)), (some 22), .idxA 1 (.t 20) (.t 21), []⟩,
      ⟨(some (16, true)), (some 23), .ld 1 false (.t 22), []⟩,
      ⟨(some (16, true)), (some 24), .eq .s true (.t 19) (.t 23), []⟩,
      ⟨none, (some 25), .pick (.t 16) (.t 24) (.c (.bool false)), []⟩])
    (.cond (.t 25)
     .skip
     (.exit 0)))
   (.block 1
    (.reg [7] [
      ⟨none, (some 26), .mov (.t 7), []⟩,
      ⟨none, (some 27), .bin .add (.t 26) (.c (.int .i64 1)), []⟩,
      ⟨none, (some 7), .mov (.t 27), []⟩])))
def b483_2 : Cd :=
  (.seq
   (.seq
    (.reg [48] [
      ⟨none, (some 44), .mov (.t 9), []⟩,
      ⟨none, (some 45), .mov (.t 7), []⟩,
      ⟨none, (some 46), .adrI 5 none 3 1 (.t 45), []⟩,
      ⟨none, (some 47), .ldV 5 (some 46) 1 false, []⟩,
      ⟨none, (some 48), .bin .lss (.t 44) (.t 47), []⟩])
    (.cond (.t 48)
     .skip
     (.exit 2)))
   (.seq
    (.block 3
     (.seq
      (.reg [10, 11] [
        ⟨none, (some 52), .mov (.t 0), []⟩,
        ⟨none, (some 53), .mov (.t 9), []⟩,
        ⟨none, (some 54), .idxA 1 (.t 52) (.t 53), []⟩,
        ⟨none, (some 55), .ld 1 false (.t 54), []⟩,
        ⟨none, (some 56), .call true 557 [.t 55], []⟩,
        ⟨none, (some 51), .mov (.t 56), []⟩,
        ⟨none, (some 57), .ext (.t 51) 0, []⟩,
        ⟨none, (some 58), .ext (.t 51) 1, []⟩,
        ⟨none, (some 10), .mov (.t 57), []⟩,
        ⟨none, (some 11), .mov (.t 58), []⟩])
      (.seq
       (.seq
        (.reg [65] [
          ⟨none, (some 59), .mov (.t 11), []⟩,
          ⟨none, (some 60), .un .not (.t 59), []⟩,
          ⟨none, (some 61), .mov (.t 60), []⟩,
          ⟨(some (61, false)), (some 62), .mov (.t 10), []⟩,
          ⟨(some (61, false)), (some 63), .call true 304 [.t 62, .c (.int .i64 (-12)), .c (.int .i64 40)], []⟩,
          ⟨(some (61, false)), (some 64), .un .not (.t 63), []⟩,
          ⟨none, (some 65), .pick (.t 61) (.c (.bool true)) (.t 64), []⟩])
        (.cond (.t 65)
         (.seq
          (.reg [4] [
            ⟨none, (some 4), .mov (.c (.int .i64 0)), []⟩])
          .ret)
         .skip))
       (.reg [8] [
         ⟨none, (some 66), .mov (.t 9), []⟩,
         ⟨none, (some 67), .bin .sub (.t 66) (.c (.int .i64 1)), []⟩,
         ⟨none, (some 68), .mov (.t 10), []⟩,
         ⟨none, (some 69), .adrI 8 none 3 1 (.t 67), []⟩,
         ⟨none, (some 8), .stV 8 (some 69) 1 (.t 68), []⟩]))))
    (.reg [9] [
      ⟨none, (some 49), .mov (.t 9), []⟩,
      ⟨none, (some 50), .bin .add (.t 49) (.c (.int .i64 1)), []⟩,
      ⟨none, (some 9), .mov (.t 50), []⟩])))
def k483 : Cd :=
  (.seq
   (.reg [4] [
     ⟨none, (some 4), .mov (.c (.int .i64 0)), []⟩])
   (.seq
    (.reg [5] [
      ⟨none, (some 12), .agg [.int .i64 0, .int .i64 0, .int .i64 0] [(0, 1, (.c (.int .i64 1))), (1, 1, (.c (.int .i64 2))), (2, 1, (.c (.int .i64 4)))], []⟩,
      ⟨none, (some 5), .zero true [.int .i64 0, .int .i64 0, .int .i64 0], []⟩,
      ⟨none, (some 5), .stV 5 none 3 (.t 12), []⟩])
    (.seq
     (.reg [6] [
       ⟨none, (some 13), .bldS 1 3 [.string ⟨#[]⟩] [(0, 1, (.c (.string ⟨#[119, 104, 111, 108, 101]⟩))), (1, 1, (.c (.string ⟨#[99, 111, 112, 121]⟩))), (2, 1, (.c (.string ⟨#[109, 111, 118, 101]⟩)))], []⟩,
       ⟨none, (some 6), .mov (.t 13), []⟩])
     (.seq
      (.reg [7] [
        ⟨none, (some 7), .mov (.c (.int .i64 0)), []⟩])
      (.seq
       (.block 0
        (.loop b483_1))
       (.seq
        (.seq
         (.reg [37] [
           ⟨none, (some 28), .mov (.t 7), []⟩,
           ⟨none, (some 29), .bin .eql (.t 28) (.c (.int .i64 3)), []⟩,
           ⟨none, (some 30), .mov (.t 29), []⟩,
           ⟨(some (30, false)), (some 31), .mov (.t 0), []⟩,
           ⟨(some (30, false)), (some 32), .len (.t 31), []⟩,
           ⟨(some (30, false)), (some 33), .mov (.t 7), []⟩,
           ⟨(some (30, false)), (some 34), .adrI 5 none 3 1 (.t 33), []⟩,
           ⟨(some (30, false)), (some 35), .ldV 5 (some 34) 1 false, []⟩,
           ⟨(some (30, false)), (some 36), .bin .lss (.t 32) (.t 35), []⟩,
           ⟨none, (some 37), .pick (.t 30) (.c (.bool true)) (.t 36), []⟩])
         (.cond (.t 37)
          (.seq
           (.reg [4] [
             ⟨none, (some 4), .mov (.c (.int .i64 0)), []⟩])
           .ret)
          .skip))
        (.seq
         (.reg [] [
           ⟨none, (some 38), .mov (.t 1), []⟩,
           ⟨none, (some 39), .mov (.t 7), []⟩,
           ⟨none, (some 40), .conv .i8 (.t 39), []⟩,
           ⟨none, (some 41), .nil (.t 38), []⟩,
           ⟨none, (some 42), .fldP 0 (.t 41), []⟩,
           ⟨none, none, .st 1 (.t 42) (.t 40), []⟩])
         (.seq
          (.reg [8] [
            ⟨none, (some 43), .agg [.int .i64 0, .int .i64 0, .int .i64 0] [], []⟩,
            ⟨none, (some 8), .zero true [.int .i64 0, .int .i64 0, .int .i64 0], []⟩,
            ⟨none, (some 8), .stV 8 none 3 (.t 43), []⟩])
          (.seq
           (.seq
            (.reg [9] [
              ⟨none, (some 9), .mov (.c (.int .i64 1)), []⟩])
            (.block 2
             (.loop b483_2)))
           (.seq
            (.reg [] [
              ⟨none, (some 70), .mov (.t 1), []⟩,
              ⟨none, (some 71), .adrI 8 none 3 1 (.c (.int .i64 0)), []⟩,
              ⟨none, (some 72), .ldV 8 (some 71) 1 false, []⟩,
              ⟨none, (some 73), .conv .i8 (.t 72), []⟩,
              ⟨none, (some 74), .nil (.t 70), []⟩,
              ⟨none, (some 75), .fldP 1 (.t 74), []⟩,
              ⟨none, none, .st 1 (.t 75) (.t 73), []⟩])
            (.seq
             (.reg [] [
               ⟨none, (some 76), .mov (.t 1), []⟩,
               ⟨none, (some 77), .adrI 8 none 3 1 (.c (.int .i64 1)), []⟩,
               ⟨none, (some 78), .ldV 8 (some 77) 1 false, []⟩,
               ⟨none, (some 79), .conv .i8 (.t 78), []⟩,
               ⟨none, (some 80), .nil (.t 76), []⟩,
               ⟨none, (some 81), .fldP 2 (.t 80), []⟩,
               ⟨none, none, .st 1 (.t 81) (.t 79), []⟩])
             (.seq
              (.reg [] [
                ⟨none, (some 82), .mov (.t 1), []⟩,
                ⟨none, (some 83), .adrI 8 none 3 1 (.c (.int .i64 2)), []⟩,
                ⟨none, (some 84), .ldV 8 (some 83) 1 false, []⟩,
                ⟨none, (some 85), .conv .i8 (.t 84), []⟩,
                ⟨none, (some 86), .nil (.t 82), []⟩,
                ⟨none, (some 87), .fldP 3 (.t 86), []⟩,
                ⟨none, none, .st 1 (.t 87) (.t 85), []⟩])
              (.seq
               (.reg [4] [
                 ⟨none, (some 88), .mov (.t 7), []⟩,
                 ⟨none, (some 89), .adrI 5 none 3 1 (.t 88), []⟩,
                 ⟨none, (some 90), .ldV 5 (some 89) 1 false, []⟩,
                 ⟨none, (some 4), .mov (.t 90), []⟩])
               .ret)))))))))))))
def c483 : Fn := { np := 2, nt := 91, kind := .args, res := [.t 4], body := k483 }

/- spec.l01Number -/
def b484_1 : Cd :=
  (.seq
   (.seq
    (.reg [26] [
      ⟨none, (some 23), .mov (.t 5), []⟩,
      ⟨none, (some 24), .mov (.t 0), []⟩,
      ⟨none, (some 25), .lens (.t 24), []⟩,
      ⟨none, (some 26), .bin .lss (.t 23) (.t 25), []⟩])
    (.cond (.t 26)
     .skip
     (.exit 0)))
   (.seq
    (.block 1
     (.seq
      (.seq
       (.reg [38] [
         ⟨none, (some 29), .mov (.t 0), []⟩,
         ⟨none, (some 30), .mov (.t 5), []⟩,
         ⟨none, (some 31), .idxs (.t 29) (.t 30), []⟩,
         ⟨none, (some 32), .bin .lss (.t 31) (.c (.int .u8 48)), []⟩,
         ⟨none, (some 33), .mov (.t 32), []⟩,
         ⟨(some (33, false)), (some 34), .mov (.t 0), []⟩,
         ⟨(some (33, false)), (some 35), .mov (.t 5), []⟩,
         ⟨(some (33, false)), (some 36), .idxs (.t 34) (.t 35), []⟩,
         ⟨(some (33, false)), (some 37), .bin .gtr (.t 36) (.c (.int .u8 57)), []⟩,
         ⟨none, (some 38), .pick (.t 33) (.c (.bool true)) (.t 37), []⟩])
       (.cond (.t 38)
        (.seq
         (.reg [2, 3] [
           ⟨none, (some 2), .mov (.c (.int .i64 0)), []⟩,
           ⟨none, (some 3), .mov (.c (.bool false)), []⟩])
         .ret)
        .skip))
      (.reg [4] [
        ⟨none, (some 39), .mov (.t 4), []⟩,
        ⟨none, (some 40), .bin .mul (.c (.int .i64 10)) (.t 39), []⟩,
        ⟨none, (some 41), .mov (.t 0), []⟩,
        ⟨none, (some 42), .mov (.t 5), []⟩,
        ⟨none, (some 43), .idxs (.t 41) (.t 42), []⟩,
        ⟨none, (some 44), .bin .sub (.t 43) (.c (.int .u8 48)), []⟩,
        ⟨none, (some 45), .conv .i64 (.t 44), []⟩,
        ⟨none, (some 46), .bin .add (.t 40) (.t 45), []⟩,
        ⟨none, (some 4), .mov (.t 46), []⟩])))
    (.reg [5] [
      ⟨none, (some 27), .mov (.t 5), []⟩,
      ⟨none, (some 28), .bin .add (.t 27) (.c (.int .i64 1)), []⟩,
      ⟨none, (some 5), .mov (.t 28), []⟩])))
def k484 : Cd :=
  (.seq
   (.reg [2, 3] [
     ⟨none, (some 2), .mov (.c (.int .i64 0)), []⟩,
     ⟨none, (some 3), .mov (.c (.bool false)), []⟩])
   (.seq
    (.seq
     (.reg [22] [
       ⟨none, (some 6), .mov (.t 0), []⟩,
       ⟨none, (some 7), .eq .s false (.t 6) (.c (.string ⟨#[]⟩)), []⟩,
       ⟨none, (some 8), .mov (.t 7), []⟩,
       ⟨(some (8, false)), (some 9), .mov (.t 0), []⟩,
       ⟨(some (8, false)), (some 10), .lens (.t 9), []⟩,
       ⟨(some (8, false)), (some 11), .bin .gtr (.t 10) (.c (.int .i64 10)), []⟩,
       ⟨none, (some 12), .pick (.t 8) (.c (.bool true)) (.t 11), []⟩,
       ⟨none, (some 13), .mov (.t 12), []⟩,
       ⟨(some (13, false)), (some 14), .mov (.t 0), []⟩,
       ⟨(some (13, false)), (some 15), .idxs (.t 14) (.c (.int .i64 0)), []⟩,
       ⟨(some (13, false)), (some 16), .bin .eql (.t 15) (.c (.int .u8 48)), []⟩,
       ⟨(some (13, false)), (some 17), .mov (.t 16), []⟩,
       ⟨(some (17, true)), (some 18), .mov (.t 0), []⟩,
       ⟨(some (17, true)), (some 19), .lens (.t 18), []⟩,
       ⟨(some (17, true)), (some 20), .bin .gtr (.t 19) (.c (.int .i64 1)), []⟩,
       ⟨(some (13, false)), (some 21), .pick (.t 17) (.t 20) (.c (.bool false)), []⟩,
       ⟨none, (some 22), .pick (.t 13) (.c (.bool true)) (.t 21), []⟩])
     (.cond (.t 22)
      (.seq
       (.reg [2, 3] [
         ⟨none, (some 2), .mov (.c (.int .i64 0)), []⟩,
         ⟨none, (some 3), .mov (.c (.bool false)), []⟩])
       .ret)
      .skip))
    (.seq
     (.reg [4] [
       ⟨none, (some 4), .mov (.c (.int .i64 0)), []⟩])
     (.seq
      (.seq
       (.reg [5] [
         ⟨none, (some 5), .mov (.c (.int .i64 0)), []⟩])
       (.block 0
        (.loop b484_1)))
      (.seq
       (.reg [2, 3] [
         ⟨none, (some 47), .mov (.t 4), []⟩,
         ⟨none, (some 2), .mov (.t 47), []⟩,
         ⟨none, (some 3), .mov (.c (.bool true)), []⟩])
       .ret)))))
def c484 : Fn := { np := 1, nt := 48, kind := .pure, res := [.t 2, .t 3], body := k484 }

/- impl.readStep -/
def b486_1 : Cd :=
  (.seq
   (.reg [52] [
     ⟨none, (some 52), .bin .lss (.t 51) (.t 50), []⟩])
   (.seq
    (.cond (.t 52)
     .skip
     (.exit 0))
    (.seq
     (.block 1
      (.seq
       (.reg [8, 9] [
         ⟨none, (some 53), .mov (.t 51), []⟩,
         ⟨none, (some 54), .idxA 1 (.t 49) (.t 51), []⟩,
         ⟨none, (some 55), .ld 1 false (.t 54), []⟩,
         ⟨none, (some 8), .mov (.t 53), []⟩,
         ⟨none, (some 9), .mov (.t 55), []⟩])
       (.seq
        (.reg [10, 11] [
          ⟨none, (some 57), .mov (.t 4), []⟩,
          ⟨none, (some 58), .mov (.t 8), []⟩,
          ⟨none, (some 59), .bin .add (.t 58) (.c (.int .i64 1)), []⟩,
          ⟨none, (some 60), .idxA 1 (.t 57) (.t 59), []⟩,
          ⟨none, (some 61), .ld 1 false (.t 60), []⟩,
          ⟨none, (some 62), .call true 378 [.t 61, .c (.int .i64 (-12)), .c (.int .i64 40)], []⟩,
          ⟨none, (some 56), .mov (.t 62), []⟩,
          ⟨none, (some 63), .ext (.t 56) 0, []⟩,
          ⟨none, (some 64), .ext (.t 56) 1, []⟩,
          ⟨none, (some 10), .mov (.t 63), []⟩,
          ⟨none, (some 11), .mov (.t 64), []⟩])
        (.seq
         (.seq
          (.reg [66] [
            ⟨none, (some 65), .mov (.t 11), []⟩,
            ⟨none, (some 66), .un .not (.t 65), []⟩])
          (.cond (.t 66)
           (.seq
            (.reg [2, 3] [
              ⟨none, (some 67), .agg [.int .i8 0, .int .i8 0, .int .i8 0, .int .i8 0, .slice none 0 0] [], []⟩,
              ⟨none, (some 2), .stV 2 none 5 (.t 67), []⟩,
              ⟨none, (some 3), .mov (.c (.bool false)), []⟩])
            .ret)
           .skip))
         (.reg [] [
           ⟨none, (some 68), .mov (.t 9), []⟩,
           ⟨none, (some 69), .mov (.t 10), []⟩,
           ⟨none, (some 70), .conv .i8 (.t 69), []⟩,
           ⟨none, (some 71), .nil (.t 68), []⟩,
           ⟨none, none, .st 1 (.t 71) (.t 70), []⟩])))))
     (.reg [51] [
       ⟨none, (some 72), .bin .add (.t 51) (.c (.int .i64 1)), []⟩,
       ⟨none, (some 51), .mov (.t 72), []⟩]))))
def b486_2 : Cd :=
  (.seq
   (.reg [80] [
     ⟨none, (some 80), .bin .lss (.t 79) (.t 78), []⟩])
   (.seq
    (.cond (.t 80)
     .skip
     (.exit 2))
    (.seq
     (.block 3
      (.seq
       (.reg [13] [
         ⟨none, (some 81), .idxA 1 (.t 77) (.t 79), []⟩,
         ⟨none, (some 82), .ld 1 false (.t 81), []⟩,
         ⟨none, (some 13), .mov (.t 82), []⟩])
       (.seq
        (.reg [14, 15, 16] [
          ⟨none, (some 84), .mov (.t 13), []⟩,
          ⟨none, (some 85), .call false 377 [.t 84, .c (.string ⟨#[58]⟩)], []⟩,
          ⟨none, (some 83), .mov (.t 85), []⟩,
          ⟨none, (some 86), .ext (.t 83) 0, []⟩,
          ⟨none, (some 87), .ext (.t 83) 1, []⟩,
          ⟨none, (some 88), .ext (.t 83) 2, []⟩,
          ⟨none, (some 14), .mov (.t 86), []⟩,
          ⟨none, (some 15), .mov (.t 87), []⟩,
          ⟨none, (some 16), .mov (.t 88), []⟩])
        (.seq
         (.reg [17, 18] [
           ⟨none, (some 90), .mov (.t 14), []⟩,
           ⟨none, (some 91), .call true 378 [.t 90, .c (.int .i64 0), .c (.int .i64 11)], []⟩,
           ⟨none, (some 89), .mov (.t 91), []⟩,
           ⟨none, (some 92), .ext (.t 89) 0, []⟩,
           ⟨none, (some 93), .ext (.t 89) 1, []⟩,
           ⟨none, (some 17), .mov (.t 92), []⟩,
           ⟨none, (some 18), .mov (.t 93), []⟩])
         (.seq
          (.reg [19, 20] [
            ⟨none, (some 95), .mov (.t 15), []⟩,
            ⟨none, (some 96), .call true 378 [.t 95, .c (.int .i64 1), .c (.int .i64 4095)], []⟩,
            ⟨none, (some 94), .mov (.t 96), []⟩,
            ⟨none, (some 97), .ext (.t 94) 0, []⟩,
            ⟨none, (some 98), .ext (.t 94) 1, []⟩,
            ⟨none, (some 19), .mov (.t 97), []⟩,
            ⟨none, (some 20), .mov (.t 98), []⟩])
          (.seq
           (.seq
            (.reg [108] [
              ⟨none, (some 99), .mov (.t 16), []⟩,
              ⟨none, (some 100), .un .not (.t 99), []⟩,
              ⟨none, (some 101), .mov (.t 100), []⟩,
              ⟨(some (101, false)), (some 102), .mov (.t 18), []⟩,
              ⟨(some (101, false)), (some 103), .un .not (.t 102), []⟩,
              ⟨none, (some 104), .pick (.t 101) (.c (.bool true)) (.t 103), []⟩,
              ⟨none, (some 105), .mov (.t 104), []⟩,
              ⟨(some (105, false)), (some 106), .mov (.t 20), []⟩,
              ⟨(some (105, false)), (some 107), .un .not (.t 106), []⟩,
              ⟨none, (some 108), .pick (.t 105) (.c (.bool true)) (.t 107), []⟩])
            (.cond (.t 108)
             (.seq
              (.reg [2, 3] [
                ⟨none, (some 109), .agg [.int .i8 0, .int .i8 0, .int .i8 0, .int .i8 0, .slice none 0 0] [], []⟩,
                ⟨none, (some 2), .stV 2 none 5 (.t 109), []⟩,
                ⟨none, (some 3), .mov (.c (.bool false)), []⟩])
              .ret)
             .skip))
           (.reg [] [
             ⟨none, (some 110), .fldP 4 (.t 6), []⟩,
             ⟨none, (some 111), .ld 1 false (.t 110), []⟩,
             ⟨none, (some 112), .mov (.t 17), []⟩,
             ⟨none, (some 113), .conv .i8 (.t 112), []⟩,
             ⟨none, (some 114), .mov (.t 19), []⟩,
             ⟨none, (some 115), .conv .u16 (.t 114), []⟩,
             ⟨none, (some 116), .agg [.int .i8 0, .int .u16 0] [(0, 1, (.t 113)), (1, 1, (.t 115))], []⟩,
             ⟨none, (some 117), .bldS 2 1 [.int .i8 0, .int .u16 0] [(0, 2, (.t 116))], []⟩,
             ⟨none, (some 118), .app 2 4 (.t 111) (.t 117), []⟩,
             ⟨none, (some 119), .fldP 4 (.t 6), []⟩,
             ⟨none, none, .st 1 (.t 119) (.t 118), []⟩])))))))
     (.reg [79] [
       ⟨none, (some 120), .bin .add (.t 79) (.c (.int .i64 1)), []⟩,
       ⟨none, (some 79), .mov (.t 120), []⟩]))))
def k486 : Cd :=
  (.seq
   (.reg [2, 3] [
     ⟨none, (some 2), .zero true [.int .i8 0, .int .i8 0, .int .i8 0, .int .i8 0, .slice none 0 0], []⟩,
     ⟨none, (some 3), .mov (.c (.bool false)), []⟩])
   (.seq
    (.reg [4] [
      ⟨none, (some 21), .mov (.t 0), []⟩,
      ⟨none, (some 22), .call false 485 [.t 21, .c (.string ⟨#[32]⟩)], []⟩,
      ⟨none, (some 4), .mov (.t 22), []⟩])
    (.seq
     (.reg [5] [
       ⟨none, (some 23), .slcP 3 1 (.c (.pointer (some ⟨0, 0, some 0⟩))), []⟩,
       ⟨none, (some 24), .mov (.t 4), []⟩,
       ⟨none, (some 25), .idxA 1 (.t 24) (.c (.int .i64 0)), []⟩,
       ⟨none, (some 26), .ld 1 false (.t 25), []⟩,
       ⟨none, (some 27), .call true 559 [.t 23, .t 26], []⟩,
       ⟨none, (some 5), .mov (.t 27), []⟩])
     (.seq
      (.seq
       (.reg [29] [
         ⟨none, (some 28), .mov (.t 5), []⟩,
         ⟨none, (some 29), .bin .lss (.t 28) (.c (.int .i64 0)), []⟩])
       (.cond (.t 29)
        (.seq
         (.reg [2, 3] [
           ⟨none, (some 30), .agg [.int .i8 0, .int .i8 0, .int .i8 0, .int .i8 0, .slice none 0 0] [], []⟩,
           ⟨none, (some 2), .stV 2 none 5 (.t 30), []⟩,
           ⟨none, (some 3), .mov (.c (.bool false)), []⟩])
         .ret)
        .skip))
      (.seq
       (.reg [6] [
         ⟨none, (some 31), .mov (.t 5), []⟩,
         ⟨none, (some 32), .conv .i8 (.t 31), []⟩,
         ⟨none, (some 33), .agg [.int .i8 0, .int .i8 0, .int .i8 0, .int .i8 0, .slice none 0 0] [(0, 1, (.t 32))], []⟩,
         ⟨none, (some 6), .new 1 [.int .i8 0, .int .i8 0, .int .i8 0, .int .i8 0, .slice none 0 0], []⟩,
         ⟨none, none, .st 5 (.t 6) (.t 33), []⟩])
       (.seq
        (.reg [7] [
          ⟨none, (some 34), .fldP 1 (.t 6), []⟩,
          ⟨none, (some 35), .fldP 2 (.t 6), []⟩,
          ⟨none, (some 36), .fldP 3 (.t 6), []⟩,
          ⟨none, (some 37), .bldS 1 3 [.pointer none] [(0, 1, (.t 34)), (1, 1, (.t 35)), (2, 1, (.t 36))], []⟩,
          ⟨none, (some 38), .agg [.int .i64 0, .int .i64 0, .int .i64 0] [(0, 1, (.c (.int .i64 0))), (1, 1, (.c (.int .i64 1))), (2, 1, (.c (.int .i64 3)))], []⟩,
          ⟨none, (some 39), .mov (.t 5), []⟩,
          ⟨none, (some 40), .idx 3 1 false (.t 38) (.t 39), []⟩,
          ⟨none, (some 41), .slcA 1 (.t 37) none (some (.t 40)) none, []⟩,
          ⟨none, (some 7), .mov (.t 41), []⟩])
        (.seq
         (.seq
          (.reg [47] [
            ⟨none, (some 42), .mov (.t 4), []⟩,
            ⟨none, (some 43), .len (.t 42), []⟩,
            ⟨none, (some 44), .mov (.t 7), []⟩,
            ⟨none, (some 45), .len (.t 44), []⟩,
            ⟨none, (some 46), .bin .add (.t 45) (.c (.int .i64 1)), []⟩,
            ⟨none, (some 47), .bin .lss (.t 43) (.t 46), []⟩])
          (.cond (.t 47)
           (.seq
            (.reg [2, 3] [
              ⟨none, (some 48), .agg [.int .i8 0, .int .i8 0, .int .i8 0, .int .i8 0, .slice none 0 0] [], []⟩,
              ⟨none, (some 2), .stV 2 none 5 (.t 48), []⟩,
              ⟨none, (some 3), .mov (.c (.bool false)), []⟩])
            .ret)
           .skip))
         (.seq
          (.seq
           (.reg [49, 50, 51] [
             ⟨none, (some 49), .mov (.t 7), []⟩,
             ⟨none, (some 50), .len (.t 49), []⟩,
             ⟨none, (some 51), .mov (.c (.int .i64 0)), []⟩])
           (.block 0
            (.loop b486_1)))
          (.seq
           (.seq
            (.reg [77, 78, 79] [
              ⟨none, (some 73), .mov (.t 4), []⟩,
              ⟨none, (some 74), .mov (.t 7), []⟩,
              ⟨none, (some 75), .len (.t 74), []⟩,
              ⟨none, (some 76), .bin .add (.t 75) (.c (.int .i64 1)), []⟩,
              ⟨none, (some 77), .slcA 1 (.t 73) (some (.t 76)) none none, []⟩,
              ⟨none, (some 78), .len (.t 77), []⟩,
              ⟨none, (some 79), .mov (.c (.int .i64 0)), []⟩])
            (.block 2
             (.loop b486_2)))
           (.seq
            (.reg [2, 3] [
              ⟨none, (some 121), .ld 5 true (.t 6), []⟩,
              ⟨none, (some 2), .stV 2 none 5 (.t 121), []⟩,
              ⟨none, (some 3), .mov (.c (.bool true)), []⟩])
            .ret))))))))))
def c486 : Fn := { np := 1, nt := 122, kind := .pure, res := [.v 2 5 true, .t 3], body := k486 }

/- spec.l06Step -/
def k524 : Cd :=
  (.seq
   (.reg [4] [
     ⟨none, (some 4), .mov (.c (.bool false)), []⟩])
   (.seq
    (.seq
     (.reg [38] [
       ⟨none, (some 6), .mov (.t 0), []⟩,
       ⟨none, (some 7), .nil (.t 6), []⟩,
       ⟨none, (some 8), .fldP 0 (.t 7), []⟩,
       ⟨none, (some 9), .ld 1 false (.t 8), []⟩,
       ⟨none, (some 10), .conv .i64 (.t 9), []⟩,
       ⟨none, (some 11), .call true 309 [.t 10], []⟩,
       ⟨none, (some 12), .un .not (.t 11), []⟩,
       ⟨none, (some 13), .mov (.t 12), []⟩,
       ⟨(some (13, false)), (some 14), .mov (.t 0), []⟩,
       ⟨(some (13, false)), (some 15), .nil (.t 14), []⟩,
       ⟨(some (13, false)), (some 16), .fldP 2 (.t 15), []⟩,
       ⟨(some (13, false)), (some 17), .ld 1 false (.t 16), []⟩,
       ⟨(some (13, false)), (some 18), .conv .i64 (.t 17), []⟩,
       ⟨(some (13, false)), (some 19), .call true 572 [.t 18], []⟩,
       ⟨(some (13, false)), (some 20), .un .not (.t 19), []⟩,
       ⟨none, (some 21), .pick (.t 13) (.c (.bool true)) (.t 20), []⟩,
       ⟨none, (some 22), .mov (.t 21), []⟩,
       ⟨(some (22, false)), (some 23), .mov (.t 0), []⟩,
       ⟨(some (22, false)), (some 24), .nil (.t 23), []⟩,
       ⟨(some (22, false)), (some 25), .fldP 3 (.t 24), []⟩,
       ⟨(some (22, false)), (some 26), .ld 1 false (.t 25), []⟩,
       ⟨(some (22, false)), (some 27), .conv .i64 (.t 26), []⟩,
       ⟨(some (22, false)), (some 28), .call true 572 [.t 27], []⟩,
       ⟨(some (22, false)), (some 29), .un .not (.t 28), []⟩,
       ⟨none, (some 30), .pick (.t 22) (.c (.bool true)) (.t 29), []⟩,
       ⟨none, (some 31), .mov (.t 30), []⟩,
       ⟨(some (31, false)), (some 32), .mov (.t 0), []⟩,
       ⟨(some (31, false)), (some 33), .nil (.t 32), []⟩,
       ⟨(some (31, false)), (some 34), .fldP 4 (.t 33), []⟩,
       ⟨(some (31, false)), (some 35), .ld 1 false (.t 34), []⟩,
       ⟨(some (31, false)), (some 36), .call true 573 [.t 35], []⟩,
       ⟨(some (31, false)), (some 37), .un .not (.t 36), []⟩,
       ⟨none, (some 38), .pick (.t 31) (.c (.bool true)) (.t 37), []⟩])
     (.cond (.t 38)
      (.seq
       (.reg [4] [
         ⟨none, (some 4), .mov (.c (.bool false)), []⟩])
       .ret)
      .skip))
    (.seq
     (.reg [5] [
       ⟨none, (some 39), .mov (.t 0), []⟩,
       ⟨none, (some 40), .nil (.t 39), []⟩,
       ⟨none, (some 41), .fldP 2 (.t 40), []⟩,
       ⟨none, (some 42), .ld 1 false (.t 41), []⟩,
       ⟨none, (some 43), .bin .eql (.t 42) (.c (.int .i8 0)), []⟩,
       ⟨none, (some 44), .mov (.t 43), []⟩,
       ⟨(some (44, true)), (some 45), .mov (.t 0), []⟩,
       ⟨(some (44, true)), (some 46), .nil (.t 45), []⟩,
       ⟨(some (44, true)), (some 47), .fldP 3 (.t 46), []⟩,
       ⟨(some (44, true)), (some 48), .ld 1 false (.t 47), []⟩,
       ⟨(some (44, true)), (some 49), .bin .eql (.t 48) (.c (.int .i8 0)), []⟩,
       ⟨none, (some 50), .pick (.t 44) (.t 49) (.c (.bool false)), []⟩,
       ⟨none, (some 5), .mov (.t 50), []⟩])
     (.seq
      (.seq
       (.reg [54] [
         ⟨none, (some 51), .mov (.t 0), []⟩,
         ⟨none, (some 52), .nil (.t 51), []⟩,
         ⟨none, (some 53), .fldP 0 (.t 52), []⟩,
         ⟨none, (some 54), .ld 1 false (.t 53), []⟩])
       (.block 0
        (.seq
         (.reg [55] [
           ⟨none, (some 56), .bin .eql (.t 54) (.c (.int .i8 0)), []⟩,
           ⟨none, (some 55), .mov (.t 56), []⟩])
         (.cond (.t 55)
          (.seq
           (.reg [4] [
             ⟨none, (some 57), .mov (.t 0), []⟩,
             ⟨none, (some 58), .nil (.t 57), []⟩,
             ⟨none, (some 59), .fldP 1 (.t 58), []⟩,
             ⟨none, (some 60), .ld 1 false (.t 59), []⟩,
             ⟨none, (some 61), .bin .eql (.t 60) (.c (.int .i8 0)), []⟩,
             ⟨none, (some 62), .mov (.t 61), []⟩,
             ⟨(some (62, true)), (some 63), .mov (.t 5), []⟩,
             ⟨none, (some 64), .pick (.t 62) (.t 63) (.c (.bool false)), []⟩,
             ⟨none, (some 4), .mov (.t 64), []⟩])
           .ret)
          (.seq
           (.reg [65] [
             ⟨none, (some 66), .bin .eql (.t 54) (.c (.int .i8 1)), []⟩,
             ⟨none, (some 65), .mov (.t 66), []⟩])
           (.cond (.t 65)
            (.seq
             (.reg [4] [
               ⟨none, (some 67), .mov (.t 0), []⟩,
               ⟨none, (some 68), .nil (.t 67), []⟩,
               ⟨none, (some 69), .fldP 1 (.t 68), []⟩,
               ⟨none, (some 70), .ld 1 false (.t 69), []⟩,
               ⟨none, (some 71), .conv .i64 (.t 70), []⟩,
               ⟨none, (some 72), .mov (.t 1), []⟩,
               ⟨none, (some 73), .bin .sub (.t 72) (.c (.int .i64 1)), []⟩,
               ⟨none, (some 74), .call true 304 [.t 71, .c (.int .i64 0), .t 73], []⟩,
               ⟨none, (some 75), .mov (.t 74), []⟩,
               ⟨(some (75, true)), (some 76), .mov (.t 5), []⟩,
               ⟨none, (some 77), .pick (.t 75) (.t 76) (.c (.bool false)), []⟩,
               ⟨none, (some 4), .mov (.t 77), []⟩])
             .ret)
            .skip))))))
      (.seq
       (.reg [4] [
         ⟨none, (some 78), .mov (.t 0), []⟩,
         ⟨none, (some 79), .nil (.t 78), []⟩,
         ⟨none, (some 80), .fldP 1 (.t 79), []⟩,
         ⟨none, (some 81), .ld 1 false (.t 80), []⟩,
         ⟨none, (some 82), .conv .i64 (.t 81), []⟩,
         ⟨none, (some 83), .mov (.t 1), []⟩,
         ⟨none, (some 84), .bin .sub (.t 83) (.c (.int .i64 1)), []⟩,
         ⟨none, (some 85), .call true 304 [.t 82, .c (.int .i64 0), .t 84], []⟩,
         ⟨none, (some 86), .mov (.t 85), []⟩,
         ⟨(some (86, true)), (some 87), .mov (.t 5), []⟩,
         ⟨(some (86, true)), (some 88), .un .not (.t 87), []⟩,
         ⟨none, (some 89), .pick (.t 86) (.t 88) (.c (.bool false)), []⟩,
         ⟨none, (some 4), .mov (.t 89), []⟩])
       .ret)))))
def c524 : Fn := { np := 2, nt := 90, kind := .pure, res := [.t 4], body := k524 }

/- laws.eqChange -/
def k529 : Cd :=
  (.seq
   (.reg [2, 3, 4] [
     ⟨none, (some 2), .mov (.t 0), []⟩,
     ⟨none, (some 3), .mov (.t 1), []⟩,
     ⟨none, (some 4), .mov (.c (.bool false)), []⟩])
   (.seq
    (.seq
     (.reg [9] [
       ⟨none, (some 5), .adrF 2 none 0, []⟩,
       ⟨none, (some 6), .ldV 2 (some 5) 1 false, []⟩,
       ⟨none, (some 7), .adrF 3 none 0, []⟩,
       ⟨none, (some 8), .ldV 3 (some 7) 1 false, []⟩,
       ⟨none, (some 9), .bin .neq (.t 6) (.t 8), []⟩])
     (.cond (.t 9)
      (.seq
       (.reg [4] [
         ⟨none, (some 4), .mov (.c (.bool false)), []⟩])
       .ret)
      .skip))
    (.seq
     (.seq
      (.reg [14] [
        ⟨none, (some 10), .adrF 2 none 1, []⟩,
        ⟨none, (some 11), .ldV 2 (some 10) 1 false, []⟩,
        ⟨none, (some 12), .adrF 3 none 1, []⟩,
        ⟨none, (some 13), .ldV 3 (some 12) 1 false, []⟩,
        ⟨none, (some 14), .bin .neq (.t 11) (.t 13), []⟩])
      (.cond (.t 14)
       (.seq
        (.reg [4] [
          ⟨none, (some 4), .mov (.c (.bool false)), []⟩])
        .ret)
       .skip))
     (.seq
      (.reg [4] [
        ⟨none, (some 4), .mov (.c (.bool true)), []⟩])
      .ret))))
def c529 : Fn := { np := 2, nt := 15, kind := .pure, res := [.t 4], body := k529 }

/- spec.l01Signed -/
def k557 : Cd :=
  (.seq
   (.reg [2, 3] [
     ⟨none, (some 2), .mov (.c (.int .i64 0)), []⟩,
     ⟨none, (some 3), .mov (.c (.bool false)), []⟩])
   (.seq
    (.seq
     (.reg [12] [
       ⟨none, (some 6), .mov (.t 0), []⟩,
       ⟨none, (some 7), .eq .s true (.t 6) (.c (.string ⟨#[]⟩)), []⟩,
       ⟨none, (some 8), .mov (.t 7), []⟩,
       ⟨(some (8, true)), (some 9), .mov (.t 0), []⟩,
       ⟨(some (8, true)), (some 10), .idxs (.t 9) (.c (.int .i64 0)), []⟩,
       ⟨(some (8, true)), (some 11), .bin .eql (.t 10) (.c (.int .u8 45)), []⟩,
       ⟨none, (some 12), .pick (.t 8) (.t 11) (.c (.bool false)), []⟩])
     (.cond (.t 12)
      (.seq
       (.reg [4, 5] [
         ⟨none, (some 14), .mov (.t 0), []⟩,
         ⟨none, (some 15), .slcs (.t 14) (some (.c (.int .i64 1))) none, []⟩,
         ⟨none, (some 16), .call true 484 [.t 15], []⟩,
         ⟨none, (some 13), .mov (.t 16), []⟩,
         ⟨none, (some 17), .ext (.t 13) 0, []⟩,
         ⟨none, (some 18), .ext (.t 13) 1, []⟩,
         ⟨none, (some 4), .mov (.t 17), []⟩,
         ⟨none, (some 5), .mov (.t 18), []⟩])
       (.seq
        (.reg [2, 3] [
          ⟨none, (some 19), .mov (.t 4), []⟩,
          ⟨none, (some 20), .un .neg (.t 19), []⟩,
          ⟨none, (some 21), .mov (.t 5), []⟩,
          ⟨none, (some 22), .mov (.t 21), []⟩,
          ⟨(some (22, true)), (some 23), .mov (.t 4), []⟩,
          ⟨(some (22, true)), (some 24), .bin .gtr (.t 23) (.c (.int .i64 0)), []⟩,
          ⟨none, (some 25), .pick (.t 22) (.t 24) (.c (.bool false)), []⟩,
          ⟨none, (some 2), .mov (.t 20), []⟩,
          ⟨none, (some 3), .mov (.t 25), []⟩])
        .ret))
      .skip))
    (.seq
     (.reg [2, 3] [
       ⟨none, (some 26), .mov (.t 0), []⟩,
       ⟨none, (some 27), .call true 484 [.t 26], []⟩,
       ⟨none, (some 28), .ext (.t 27) 0, []⟩,
       ⟨none, (some 29), .ext (.t 27) 1, []⟩,
       ⟨none, (some 2), .mov (.t 28), []⟩,
       ⟨none, (some 3), .mov (.t 29), []⟩])
     .ret)))
def c557 : Fn := { np := 1, nt := 30, kind := .pure, res := [.t 2, .t 3], body := k557 }

/- slices.Index[[]string,string] -/
def b559_1 : Cd :=
  (.seq
   (.reg [9] [
     ⟨none, (some 9), .bin .lss (.t 8) (.t 7), []⟩])
   (.seq
    (.cond (.t 9)
     .skip
     (.exit 0))
    (.seq
     (.block 1
      (.seq
       (.reg [5] [
         ⟨none, (some 10), .mov (.t 8), []⟩,
         ⟨none, (some 5), .mov (.t 10), []⟩])
       (.seq
        (.reg [16] [
          ⟨none, (some 11), .mov (.t 1), []⟩,
          ⟨none, (some 12), .mov (.t 0), []⟩,
          ⟨none, (some 13), .mov (.t 5), []⟩,
          ⟨none, (some 14), .idxA 1 (.t 12) (.t 13), []⟩,
          ⟨none, (some 15), .ld 1 false (.t 14), []⟩,
          ⟨none, (some 16), .eq .s false (.t 11) (.t 15), []⟩])
        (.cond (.t 16)
         (.seq
          (.reg [4] [
            ⟨none, (some 17), .mov (.t 5), []⟩,
            ⟨none, (some 4), .mov (.t 17), []⟩])
          .ret)
         .skip))))
     (.reg [8] [
       ⟨none, (some 18), .bin .add (.t 8) (.c (.int .i64 1)), []⟩,
       ⟨none, (some 8), .mov (.t 18), []⟩]))))
def k559 : Cd :=
  (.seq
   (.reg [4] [
     ⟨none, (some 4), .mov (.c (.int .i64 0)), []⟩])
   (.seq
    (.seq
     (.reg [7, 8] [
       ⟨none, (some 6), .mov (.t 0), []⟩,
       ⟨none, (some 7), .len (.t 6), []⟩,
       ⟨none, (some 8), .mov (.c (.int .i64 0)), []⟩])
     (.block 0
      (.loop b559_1)))
    (.seq
     (.reg [4] [
       ⟨none, (some 4), .mov (.c (.int .i64 (-1))), []⟩])
     .ret)))
def c559 : Fn := { np := 2, nt := 19, kind := .pure, res := [.t 4], body := k559 }

/- spec.l06Far -/
def k572 : Cd :=
  (.seq
   (.reg [2] [
     ⟨none, (some 2), .mov (.c (.bool false)), []⟩])
   (.seq
    (.reg [2] [
      ⟨none, (some 3), .mov (.t 0), []⟩,
      ⟨none, (some 4), .call true 304 [.t 3, .c (.int .i64 (-12)), .c (.int .i64 12)], []⟩,
      ⟨none, (some 2), .mov (.t 4), []⟩])
    .ret))
def c572 : Fn := { np := 1, nt := 5, kind := .pure, res := [.t 2], body := k572 }

/- spec.l06Rows -/
def b573_1 : Cd :=
  (.seq
   (.seq
    (.reg [7] [
      ⟨none, (some 4), .mov (.t 3), []⟩,
      ⟨none, (some 5), .mov (.t 0), []⟩,
      ⟨none, (some 6), .len (.t 5), []⟩,
      ⟨none, (some 7), .bin .lss (.t 4) (.t 6), []⟩])
    (.cond (.t 7)
     .skip
     (.exit 0)))
   (.seq
    (.block 1
     (.seq
      (.seq
       (.reg [27] [
         ⟨none, (some 10), .mov (.t 0), []⟩,
         ⟨none, (some 11), .mov (.t 3), []⟩,
         ⟨none, (some 12), .idxA 2 (.t 10) (.t 11), []⟩,
         ⟨none, (some 13), .fldP 0 (.t 12), []⟩,
         ⟨none, (some 14), .ld 1 false (.t 13), []⟩,
         ⟨none, (some 15), .conv .i64 (.t 14), []⟩,
         ⟨none, (some 16), .call true 304 [.t 15, .c (.int .i64 0), .c (.int .i64 11)], []⟩,
         ⟨none, (some 17), .un .not (.t 16), []⟩,
         ⟨none, (some 18), .mov (.t 17), []⟩,
         ⟨(some (18, false)), (some 19), .mov (.t 0), []⟩,
         ⟨(some (18, false)), (some 20), .mov (.t 3), []⟩,
         ⟨(some (18, false)), (some 21), .idxA 2 (.t 19) (.t 20), []⟩,
         ⟨(some (18, false)), (some 22), .fldP 1 (.t 21), []⟩,
         ⟨(some (18, false)), (some 23), .ld 1 false (.t 22), []⟩,
         ⟨(some (18, false)), (some 24), .conv .i64 (.t 23), []⟩,
         ⟨(some (18, false)), (some 25), .call true 304 [.t 24, .c (.int .i64 1), .c (.int .i64 4095)], []⟩,
         ⟨(some (18, false)), (some 26), .un .not (.t 25), []⟩,
         ⟨none, (some 27), .pick (.t 18) (.c (.bool true)) (.t 26), []⟩])
       (.cond (.t 27)
        (.seq
         (.reg [2] [
           ⟨none, (some 2), .mov (.c (.bool false)), []⟩])
         .ret)
        .skip))
      (.seq
       (.reg [43] [
         ⟨none, (some 28), .mov (.t 3), []⟩,
         ⟨none, (some 29), .bin .gtr (.t 28) (.c (.int .i64 0)), []⟩,
         ⟨none, (some 30), .mov (.t 29), []⟩,
         ⟨(some (30, true)), (some 31), .mov (.t 0), []⟩,
         ⟨(some (30, true)), (some 32), .mov (.t 3), []⟩,
         ⟨(some (30, true)), (some 33), .idxA 2 (.t 31) (.t 32), []⟩,
         ⟨(some (30, true)), (some 34), .fldP 0 (.t 33), []⟩,
         ⟨(some (30, true)), (some 35), .ld 1 false (.t 34), []⟩,
         ⟨(some (30, true)), (some 36), .mov (.t 0), []⟩,
         ⟨(some (30, true)), (some 37), .mov (.t 3), []⟩,
         ⟨(some (30, true)), (some 38), .bin .sub (.t 37) (.c (.int .i64 1)), []⟩,
         ⟨(some (30, true)), (some 39), .idxA 2 (.t 36) (.t 38), []⟩,
         ⟨(some (30, true)), (some 40), .fldP 0 (.t 39), []⟩,
         ⟨(some (30, true)), (some 41), .ld 1 false (.t 40), []⟩,
         ⟨(some (30, true)), (some 42), .bin .leq (.t 35) (.t 41), []⟩,
         ⟨none, (some 43), .pick (.t 30) (.t 42) (.c (.bool false)), []⟩])
       (.cond (.t 43)
        (.seq
         (.reg [2] [
           ⟨none, (some 2), .mov (.c (.bool false)), []⟩])
         .ret)
        .skip))))
    (.reg [3] [
      ⟨none, (some 8), .mov (.t 3), []⟩,
      ⟨none, (some 9), .bin .add (.t 8) (.c (.int .i64 1)), []⟩,
      ⟨none, (some 3), .mov (.t 9), []⟩])))
def k573 : Cd :=
  (.seq
   (.reg [2] [
     ⟨none, (some 2), .mov (.c (.bool false)), []⟩])
   (.seq
    (.seq
     (.reg [3] [
       ⟨none, (some 3), .mov (.c (.int .i64 0)), []⟩])
     (.block 0
      (.loop b573_1)))
    (.seq
     (.reg [2] [
       ⟨none, (some 2), .mov (.c (.bool true)), []⟩])
     .ret)))
def c573 : Fn := { np := 1, nt := 44, kind := .pure, res := [.t 2], body := k573 }


end Fb
