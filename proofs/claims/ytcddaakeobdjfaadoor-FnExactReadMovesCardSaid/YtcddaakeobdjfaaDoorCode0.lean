/- The functions of the law, in the small language. -/
import Derived.Test.YtcddaakeobdjfaaDoorDen
set_option linter.unusedVariables false
set_option linter.unusedSimpArgs false
namespace Fb
open Go

/- laws.FnExactReadMoves -/
def k58 : Cd :=
  (.seq
   (.reg [2] [
     ⟨none, (some 2), .mov (.c (.bool false)), []⟩])
   (.seq
    (.seq
     (.reg [13] [
       ⟨none, (some 11), .mov (.t 0), []⟩,
       ⟨none, (some 12), .lens (.t 11), []⟩,
       ⟨none, (some 13), .bin .gtr (.t 12) (.c (.int .i64 1000000)), []⟩])
     (.cond (.t 13)
      (.seq
       (.reg [2] [
         ⟨none, (some 2), .mov (.c (.bool true)), []⟩])
       .ret)
      .skip))
    (.seq
     (.reg [3, 4] [
       ⟨none, (some 15), .mov (.t 0), []⟩,
       ⟨none, (some 16), .call true 288 [.t 15], []⟩,
       ⟨none, (some 14), .mov (.t 16), []⟩,
       ⟨none, (some 17), .ext (.t 14) 0, []⟩,
       ⟨none, (some 18), .ext (.t 14) 1, []⟩,
       ⟨none, (some 3), .mov (.t 17), []⟩,
       ⟨none, (some 4), .mov (.t 18), []⟩])
     (.seq
      (.reg [5, 6] [
        ⟨none, (some 20), .mov (.t 0), []⟩,
        ⟨none, (some 21), .call true 153 [.t 20], []⟩,
        ⟨none, (some 19), .mov (.t 21), []⟩,
        ⟨none, (some 22), .ext (.t 19) 0, []⟩,
        ⟨none, (some 23), .ext (.t 19) 1, []⟩,
        ⟨none, (some 5), .mov (.t 22), []⟩,
        ⟨none, (some 6), .mov (.t 23), []⟩])
      (.seq
       (.seq
        (.reg [32] [
          ⟨none, (some 24), .mov (.t 5), []⟩,
          ⟨none, (some 25), .mov (.t 3), []⟩,
          ⟨none, (some 26), .call true 266 [.t 24, .t 25], []⟩,
          ⟨none, (some 27), .un .not (.t 26), []⟩,
          ⟨none, (some 28), .mov (.t 27), []⟩,
          ⟨(some (28, false)), (some 29), .mov (.t 6), []⟩,
          ⟨(some (28, false)), (some 30), .mov (.t 4), []⟩,
          ⟨(some (28, false)), (some 31), .bin .neq (.t 29) (.t 30), []⟩,
          ⟨none, (some 32), .pick (.t 28) (.c (.bool true)) (.t 31), []⟩])
        (.cond (.t 32)
         (.seq
          (.reg [2] [
            ⟨none, (some 2), .mov (.c (.bool false)), []⟩])
          .ret)
         .skip))
       (.seq
        (.reg [7] [
          ⟨none, (some 7), .mov (.c (.int .i64 101)), []⟩])
        (.seq
         (.reg [7] [
           ⟨none, (some 33), .mov (.t 5), []⟩,
           ⟨none, (some 34), .mov (.t 7), []⟩,
           ⟨none, (some 35), .call false 267 [.t 33, .t 34], []⟩,
           ⟨none, (some 7), .mov (.t 35), []⟩])
         (.seq
          (.reg [8] [
            ⟨none, (some 8), .mov (.c (.int .i64 101)), []⟩])
          (.seq
           (.reg [8] [
             ⟨none, (some 36), .mov (.t 5), []⟩,
             ⟨none, (some 37), .mov (.t 8), []⟩,
             ⟨none, (some 38), .call true 268 [.t 36, .t 37], []⟩,
             ⟨none, (some 8), .mov (.t 38), []⟩])
           (.seq
            (.seq
             (.reg [40] [
               ⟨none, (some 39), .mov (.t 8), []⟩,
               ⟨none, (some 40), .bin .lss (.t 39) (.c (.int .i64 0)), []⟩])
             (.cond (.t 40)
              (.seq
               (.reg [2] [
                 ⟨none, (some 2), .mov (.c (.bool false)), []⟩])
               .ret)
              .skip))
            (.seq
             (.seq
              (.reg [43] [
                ⟨none, (some 41), .mov (.t 8), []⟩,
                ⟨none, (some 42), .mov (.t 7), []⟩,
                ⟨none, (some 43), .bin .neq (.t 41) (.t 42), []⟩])
              (.cond (.t 43)
               (.seq
                (.reg [2] [
                  ⟨none, (some 2), .mov (.c (.bool false)), []⟩])
                .ret)
               .skip))
             (.seq
              (.reg [9, 10] [
                ⟨none, (some 45), .mov (.t 0), []⟩,
                ⟨none, (some 46), .call true 153 [.t 45], []⟩,
                ⟨none, (some 44), .mov (.t 46), []⟩,
                ⟨none, (some 47), .ext (.t 44) 0, []⟩,
                ⟨none, (some 48), .ext (.t 44) 1, []⟩,
                ⟨none, (some 9), .mov (.t 47), []⟩,
                ⟨none, (some 10), .mov (.t 48), []⟩])
              (.seq
               (.seq
                (.reg [57] [
                  ⟨none, (some 49), .mov (.t 9), []⟩,
                  ⟨none, (some 50), .mov (.t 3), []⟩,
                  ⟨none, (some 51), .call true 266 [.t 49, .t 50], []⟩,
                  ⟨none, (some 52), .un .not (.t 51), []⟩,
                  ⟨none, (some 53), .mov (.t 52), []⟩,
                  ⟨(some (53, false)), (some 54), .mov (.t 10), []⟩,
                  ⟨(some (53, false)), (some 55), .mov (.t 4), []⟩,
                  ⟨(some (53, false)), (some 56), .bin .neq (.t 54) (.t 55), []⟩,
                  ⟨none, (some 57), .pick (.t 53) (.c (.bool true)) (.t 56), []⟩])
                (.cond (.t 57)
                 (.seq
                  (.reg [2] [
                    ⟨none, (some 2), .mov (.c (.bool false)), []⟩])
                  .ret)
                 .skip))
               (.seq
                (.reg [8] [
                  ⟨none, (some 8), .mov (.c (.int .i64 101)), []⟩])
                (.seq
                 (.reg [8] [
                   ⟨none, (some 58), .mov (.t 5), []⟩,
                   ⟨none, (some 59), .mov (.t 8), []⟩,
                   ⟨none, (some 60), .call true 268 [.t 58, .t 59], []⟩,
                   ⟨none, (some 8), .mov (.t 60), []⟩])
                 (.seq
                  (.seq
                   (.reg [62] [
                     ⟨none, (some 61), .mov (.t 8), []⟩,
                     ⟨none, (some 62), .bin .lss (.t 61) (.c (.int .i64 0)), []⟩])
                   (.cond (.t 62)
                    (.seq
                     (.reg [2] [
                       ⟨none, (some 2), .mov (.c (.bool false)), []⟩])
                     .ret)
                    .skip))
                  (.seq
                   (.seq
                    (.reg [65] [
                      ⟨none, (some 63), .mov (.t 8), []⟩,
                      ⟨none, (some 64), .mov (.t 7), []⟩,
                      ⟨none, (some 65), .bin .neq (.t 63) (.t 64), []⟩])
                    (.cond (.t 65)
                     (.seq
                      (.reg [2] [
                        ⟨none, (some 2), .mov (.c (.bool false)), []⟩])
                      .ret)
                     .skip))
                   (.seq
                    (.reg [2] [
                      ⟨none, (some 2), .mov (.c (.bool true)), []⟩])
                    .ret))))))))))))))))))
def c58 : Fn := { np := 1, nt := 66, kind := .pure, res := [.t 2], body := k58 }

/- impl.ReadMoves -/
def b153_1 : Cd :=
  (.seq
   (.reg [19] [
     ⟨none, (some 19), .bin .lss (.t 18) (.t 17), []⟩])
   (.seq
    (.cond (.t 19)
     .skip
     (.exit 0))
    (.seq
     (.block 1
      (.seq
       (.reg [6] [
         ⟨none, (some 20), .idxA 1 (.t 16) (.t 18), []⟩,
         ⟨none, (some 21), .ld 1 false (.t 20), []⟩,
         ⟨none, (some 6), .mov (.t 21), []⟩])
       (.seq
        (.reg [7, 8, 9] [
          ⟨none, (some 23), .mov (.t 6), []⟩,
          ⟨none, (some 24), .call false 377 [.t 23, .c (.string ⟨#[47]⟩)], []⟩,
          ⟨none, (some 22), .mov (.t 24), []⟩,
          ⟨none, (some 25), .ext (.t 22) 0, []⟩,
          ⟨none, (some 26), .ext (.t 22) 1, []⟩,
          ⟨none, (some 27), .ext (.t 22) 2, []⟩,
          ⟨none, (some 7), .mov (.t 25), []⟩,
          ⟨none, (some 8), .mov (.t 26), []⟩,
          ⟨none, (some 9), .mov (.t 27), []⟩])
        (.seq
         (.reg [10, 11] [
           ⟨none, (some 29), .mov (.t 7), []⟩,
           ⟨none, (some 30), .call true 378 [.t 29, .c (.int .i64 (-12)), .c (.int .i64 12)], []⟩,
           ⟨none, (some 28), .mov (.t 30), []⟩,
           ⟨none, (some 31), .ext (.t 28) 0, []⟩,
           ⟨none, (some 32), .ext (.t 28) 1, []⟩,
           ⟨none, (some 10), .mov (.t 31), []⟩,
           ⟨none, (some 11), .mov (.t 32), []⟩])
         (.seq
          (.reg [12, 13] [
            ⟨none, (some 34), .mov (.t 8), []⟩,
            ⟨none, (some 35), .call true 378 [.t 34, .c (.int .i64 (-12)), .c (.int .i64 12)], []⟩,
            ⟨none, (some 33), .mov (.t 35), []⟩,
            ⟨none, (some 36), .ext (.t 33) 0, []⟩,
            ⟨none, (some 37), .ext (.t 33) 1, []⟩,
            ⟨none, (some 12), .mov (.t 36), []⟩,
            ⟨none, (some 13), .mov (.t 37), []⟩])
          (.seq
           (.seq
            (.reg [47] [
              ⟨none, (some 38), .mov (.t 9), []⟩,
              ⟨none, (some 39), .un .not (.t 38), []⟩,
              ⟨none, (some 40), .mov (.t 39), []⟩,
              ⟨(some (40, false)), (some 41), .mov (.t 11), []⟩,
              ⟨(some (40, false)), (some 42), .un .not (.t 41), []⟩,
              ⟨none, (some 43), .pick (.t 40) (.c (.bool true)) (.t 42), []⟩,
              ⟨none, (some 44), .mov (.t 43), []⟩,
              ⟨(some (44, false)), (some 45), .mov (.t 13), []⟩,
              ⟨(some (44, false)), (some 46), .un .not (.t 45), []⟩,
              ⟨none, (some 47), .pick (.t 44) (.c (.bool true)) (.t 46), []⟩])
            (.cond (.t 47)
             (.seq
              (.reg [2, 3] [
                ⟨none, (some 2), .mov (.c (.slice none 0 0)), []⟩,
                ⟨none, (some 3), .mov (.c (.int .i64 5)), []⟩])
              .ret)
             .skip))
           (.reg [4] [
             ⟨none, (some 48), .mov (.t 4), []⟩,
             ⟨none, (some 49), .mov (.t 10), []⟩,
             ⟨none, (some 50), .conv .i8 (.t 49), []⟩,
             ⟨none, (some 51), .mov (.t 12), []⟩,
             ⟨none, (some 52), .conv .i8 (.t 51), []⟩,
             ⟨none, (some 53), .agg [.int .i8 0, .int .i8 0] [(0, 1, (.t 50)), (1, 1, (.t 52))], []⟩,
             ⟨none, (some 54), .bldS 2 1 [.int .i8 0, .int .i8 0] [(0, 2, (.t 53))], []⟩,
             ⟨none, (some 55), .app 2 2 (.t 48) (.t 54), []⟩,
             ⟨none, (some 4), .mov (.t 55), []⟩])))))))
     (.reg [18] [
       ⟨none, (some 56), .bin .add (.t 18) (.c (.int .i64 1)), []⟩,
       ⟨none, (some 18), .mov (.t 56), []⟩]))))
def k153 : Cd :=
  (.seq
   (.reg [2, 3] [
     ⟨none, (some 2), .mov (.c (.slice none 0 0)), []⟩,
     ⟨none, (some 3), .mov (.c (.int .i64 0)), []⟩])
   (.seq
    (.reg [4] [
      ⟨none, (some 14), .bldS 2 0 [.int .i8 0, .int .i8 0] [], []⟩,
      ⟨none, (some 4), .mov (.t 14), []⟩])
    (.seq
     (.seq
      (.reg [16, 17, 18] [
        ⟨none, (some 15), .mov (.t 0), []⟩,
        ⟨none, (some 16), .call true 376 [.t 15], []⟩,
        ⟨none, (some 17), .len (.t 16), []⟩,
        ⟨none, (some 18), .mov (.c (.int .i64 0)), []⟩])
      (.block 0
       (.loop b153_1)))
     (.seq
      (.reg [2, 3] [
        ⟨none, (some 57), .mov (.t 4), []⟩,
        ⟨none, (some 2), .mov (.t 57), []⟩,
        ⟨none, (some 3), .mov (.c (.int .i64 0)), []⟩])
      .ret))))
def c153 : Fn := { np := 1, nt := 58, kind := .pure, res := [.t 2, .t 3], body := k153 }

/- laws.eqMove -/
def k188 : Cd :=
  (.seq
   (.reg [2, 3, 4] [
     ⟨none, (some 2), .mov (.t 0), []⟩,
     ⟨none, (some 3), .mov (.t 1), []⟩,
     ⟨none, (some 4), .mov (.c (.bool false)), []⟩])
   (.seq
    (.seq
     (.reg [9] [
       ⟨none, (some 5), .adrF 2 none 0, []⟩,
       ⟨none, (some 6), .ldV 2 (some 5) 1 false, []⟩,
       ⟨none, (some 7), .adrF 3 none 0, []⟩,
       ⟨none, (some 8), .ldV 3 (some 7) 1 false, []⟩,
       ⟨none, (some 9), .bin .neq (.t 6) (.t 8), []⟩])
     (.cond (.t 9)
      (.seq
       (.reg [4] [
         ⟨none, (some 4), .mov (.c (.bool false)), []⟩])
       .ret)
      .skip))
    (.seq
     (.seq
      (.reg [14] [
        ⟨none, (some 10), .adrF 2 none 1, []⟩,
        ⟨none, (some 11), .ldV 2 (some 10) 1 false, []⟩,
        ⟨none, (some 12), .adrF 3 none 1, []⟩,
        ⟨none, (some 13), .ldV 3 (some 12) 1 false, []⟩,
        ⟨none, (some 14), .bin .neq (.t 11) (.t 13), []⟩])
      (.cond (.t 14)
       (.seq
        (.reg [4] [
          ⟨none, (some 4), .mov (.c (.bool false)), []⟩])
        .ret)
       .skip))
     (.seq
      (.reg [4] [
        ⟨none, (some 4), .mov (.c (.bool true)), []⟩])
      .ret))))
def c188 : Fn := { np := 2, nt := 15, kind := .pure, res := [.t 4], body := k188 }

/- laws.eqMoveS -/
def b266_1 : Cd :=
  (.seq
   (.seq
    (.reg [14] [
      ⟨none, (some 11), .mov (.t 5), []⟩,
      ⟨none, (some 12), .mov (.t 0), []⟩,
      ⟨none, (some 13), .len (.t 12), []⟩,
      ⟨none, (some 14), .bin .lss (.t 11) (.t 13), []⟩])
    (.cond (.t 14)
     .skip
     (.exit 0)))
   (.seq
    (.block 1
     (.seq
      (.reg [26] [
        ⟨none, (some 17), .mov (.t 0), []⟩,
        ⟨none, (some 18), .mov (.t 5), []⟩,
        ⟨none, (some 19), .idxA 2 (.t 17) (.t 18), []⟩,
        ⟨none, (some 20), .ld 2 true (.t 19), []⟩,
        ⟨none, (some 21), .mov (.t 1), []⟩,
        ⟨none, (some 22), .mov (.t 5), []⟩,
        ⟨none, (some 23), .idxA 2 (.t 21) (.t 22), []⟩,
        ⟨none, (some 24), .ld 2 true (.t 23), []⟩,
        ⟨none, (some 25), .call true 188 [.t 20, .t 24], []⟩,
        ⟨none, (some 26), .un .not (.t 25), []⟩])
      (.cond (.t 26)
       (.seq
        (.reg [4] [
          ⟨none, (some 4), .mov (.c (.bool false)), []⟩])
        .ret)
       .skip)))
    (.reg [5] [
      ⟨none, (some 15), .mov (.t 5), []⟩,
      ⟨none, (some 16), .bin .add (.t 15) (.c (.int .i64 1)), []⟩,
      ⟨none, (some 5), .mov (.t 16), []⟩])))
def k266 : Cd :=
  (.seq
   (.reg [4] [
     ⟨none, (some 4), .mov (.c (.bool false)), []⟩])
   (.seq
    (.seq
     (.reg [10] [
       ⟨none, (some 6), .mov (.t 0), []⟩,
       ⟨none, (some 7), .len (.t 6), []⟩,
       ⟨none, (some 8), .mov (.t 1), []⟩,
       ⟨none, (some 9), .len (.t 8), []⟩,
       ⟨none, (some 10), .bin .neq (.t 7) (.t 9), []⟩])
     (.cond (.t 10)
      (.seq
       (.reg [4] [
         ⟨none, (some 4), .mov (.c (.bool false)), []⟩])
       .ret)
      .skip))
    (.seq
     (.seq
      (.reg [5] [
        ⟨none, (some 5), .mov (.c (.int .i64 0)), []⟩])
      (.block 0
       (.loop b266_1)))
     (.seq
      (.reg [4] [
        ⟨none, (some 4), .mov (.c (.bool true)), []⟩])
      .ret))))
def c266 : Fn := { np := 2, nt := 27, kind := .pure, res := [.t 4], body := k266 }

/- laws.markMoveS -/
def b267_1 : Cd :=
  (.seq
   (.seq
    (.reg [9] [
      ⟨none, (some 6), .mov (.t 5), []⟩,
      ⟨none, (some 7), .mov (.t 0), []⟩,
      ⟨none, (some 8), .len (.t 7), []⟩,
      ⟨none, (some 9), .bin .lss (.t 6) (.t 8), []⟩])
    (.cond (.t 9)
     .skip
     (.exit 0)))
   (.seq
    (.block 1
     (.seq
      (.reg [] [
        ⟨none, (some 12), .mov (.t 0), []⟩,
        ⟨none, (some 13), .mov (.t 5), []⟩,
        ⟨none, (some 14), .mov (.t 1), []⟩,
        ⟨none, (some 15), .conv .i8 (.t 14), []⟩,
        ⟨none, (some 16), .idxA 2 (.t 12) (.t 13), []⟩,
        ⟨none, (some 17), .fldP 0 (.t 16), []⟩,
        ⟨none, none, .st 1 (.t 17) (.t 15), []⟩])
      (.seq
       (.reg [1] [
         ⟨none, (some 18), .mov (.t 1), []⟩,
         ⟨none, (some 19), .bin .add (.t 18) (.c (.int .i64 1)), []⟩,
         ⟨none, (some 1), .mov (.t 19), []⟩])
       (.seq
        (.reg [] [
          ⟨none, (some 20), .mov (.t 0), []⟩,
          ⟨none, (some 21), .mov (.t 5), []⟩,
          ⟨none, (some 22), .mov (.t 1), []⟩,
          ⟨none, (some 23), .conv .i8 (.t 22), []⟩,
          ⟨none, (some 24), .idxA 2 (.t 20) (.t 21), []⟩,
          ⟨none, (some 25), .fldP 1 (.t 24), []⟩,
          ⟨none, none, .st 1 (.t 25) (.t 23), []⟩])
        (.reg [1] [
          ⟨none, (some 26), .mov (.t 1), []⟩,
          ⟨none, (some 27), .bin .add (.t 26) (.c (.int .i64 1)), []⟩,
          ⟨none, (some 1), .mov (.t 27), []⟩])))))
    (.reg [5] [
      ⟨none, (some 10), .mov (.t 5), []⟩,
      ⟨none, (some 11), .bin .add (.t 10) (.c (.int .i64 1)), []⟩,
      ⟨none, (some 5), .mov (.t 11), []⟩])))
def k267 : Cd :=
  (.seq
   (.reg [4] [
     ⟨none, (some 4), .mov (.c (.int .i64 0)), []⟩])
   (.seq
    (.seq
     (.reg [5] [
       ⟨none, (some 5), .mov (.c (.int .i64 0)), []⟩])
     (.block 0
      (.loop b267_1)))
    (.seq
     (.reg [4] [
       ⟨none, (some 28), .mov (.t 1), []⟩,
       ⟨none, (some 4), .mov (.t 28), []⟩])
     .ret)))
def c267 : Fn := { np := 2, nt := 29, kind := .args, res := [.t 4], body := k267 }

/- laws.heldMoveS -/
def b268_1 : Cd :=
  (.seq
   (.seq
    (.reg [9] [
      ⟨none, (some 6), .mov (.t 5), []⟩,
      ⟨none, (some 7), .mov (.t 0), []⟩,
      ⟨none, (some 8), .len (.t 7), []⟩,
      ⟨none, (some 9), .bin .lss (.t 6) (.t 8), []⟩])
    (.cond (.t 9)
     .skip
     (.exit 0)))
   (.seq
    (.block 1
     (.seq
      (.seq
       (.reg [19] [
         ⟨none, (some 12), .mov (.t 0), []⟩,
         ⟨none, (some 13), .mov (.t 5), []⟩,
         ⟨none, (some 14), .idxA 2 (.t 12) (.t 13), []⟩,
         ⟨none, (some 15), .fldP 0 (.t 14), []⟩,
         ⟨none, (some 16), .ld 1 false (.t 15), []⟩,
         ⟨none, (some 17), .mov (.t 1), []⟩,
         ⟨none, (some 18), .conv .i8 (.t 17), []⟩,
         ⟨none, (some 19), .bin .neq (.t 16) (.t 18), []⟩])
       (.cond (.t 19)
        (.seq
         (.reg [4] [
           ⟨none, (some 4), .mov (.c (.int .i64 (-1))), []⟩])
         .ret)
        .skip))
      (.seq
       (.reg [1] [
         ⟨none, (some 20), .mov (.t 1), []⟩,
         ⟨none, (some 21), .bin .add (.t 20) (.c (.int .i64 1)), []⟩,
         ⟨none, (some 1), .mov (.t 21), []⟩])
       (.seq
        (.seq
         (.reg [29] [
           ⟨none, (some 22), .mov (.t 0), []⟩,
           ⟨none, (some 23), .mov (.t 5), []⟩,
           ⟨none, (some 24), .idxA 2 (.t 22) (.t 23), []⟩,
           ⟨none, (some 25), .fldP 1 (.t 24), []⟩,
           ⟨none, (some 26), .ld 1 false (.t 25), []⟩,
           ⟨none, (some 27), .mov (.t 1), []⟩,
           ⟨none, (some 28), .conv .i8 (.t 27), []⟩,
           ⟨none, (some 29), .bin .neq (.t 26) (.t 28), []⟩])
         (.cond (.t 29)
          (.seq
           (.reg [4] [
             ⟨none, (some 4), .mov (.c (.int .i64 (-1))), []⟩])
           .ret)
          .skip))
        (.reg [1] [
          ⟨none, (some 30), .mov (.t 1), []⟩,
          ⟨none, (some 31), .bin .add (.t 30) (.c (.int .i64 1)), []⟩,
          ⟨none, (some 1), .mov (.t 31), []⟩])))))
    (.reg [5] [
      ⟨none, (some 10), .mov (.t 5), []⟩,
      ⟨none, (some 11), .bin .add (.t 10) (.c (.int .i64 1)), []⟩,
      ⟨none, (some 5), .mov (.t 11), []⟩])))
def k268 : Cd :=
  (.seq
   (.reg [4] [
     ⟨none, (some 4), .mov (.c (.int .i64 0)), []⟩])
   (.seq
    (.seq
     (.reg [5] [
       ⟨none, (some 5), .mov (.c (.int .i64 0)), []⟩])
     (.block 0
      (.loop b268_1)))
    (.seq
     (.reg [4] [
       ⟨none, (some 32), .mov (.t 1), []⟩,
       ⟨none, (some 4), .mov (.t 32), []⟩])
     .ret)))
def c268 : Fn := { np := 2, nt := 33, kind := .pure, res := [.t 4], body := k268 }

/- spec.ReadMoves -/
def b288_1 : Cd :=
  (.seq
   (.seq
    (.reg [21] [
      ⟨none, (some 18), .mov (.t 6), []⟩,
      ⟨none, (some 19), .mov (.t 5), []⟩,
      ⟨none, (some 20), .len (.t 19), []⟩,
      ⟨none, (some 21), .bin .lss (.t 18) (.t 20), []⟩])
    (.cond (.t 21)
     .skip
     (.exit 0)))
   (.seq
    (.block 1
     (.seq
      (.reg [7] [
        ⟨none, (some 24), .mov (.t 5), []⟩,
        ⟨none, (some 25), .mov (.t 6), []⟩,
        ⟨none, (some 26), .idxA 1 (.t 24) (.t 25), []⟩,
        ⟨none, (some 27), .ld 1 false (.t 26), []⟩,
        ⟨none, (some 28), .call true 481 [.t 27, .c (.int .u8 47)], []⟩,
        ⟨none, (some 7), .mov (.t 28), []⟩])
      (.seq
       (.seq
        (.reg [31] [
          ⟨none, (some 29), .mov (.t 7), []⟩,
          ⟨none, (some 30), .len (.t 29), []⟩,
          ⟨none, (some 31), .bin .neq (.t 30) (.c (.int .i64 2)), []⟩])
        (.cond (.t 31)
         (.seq
          (.reg [2, 3] [
            ⟨none, (some 32), .bldS 2 0 [.int .i8 0, .int .i8 0] [], []⟩,
            ⟨none, (some 2), .mov (.t 32), []⟩,
            ⟨none, (some 3), .mov (.c (.int .i64 5)), []⟩])
          .ret)
         .skip))
       (.seq
        (.reg [8, 9] [
          ⟨none, (some 34), .mov (.t 7), []⟩,
          ⟨none, (some 35), .idxA 1 (.t 34) (.c (.int .i64 0)), []⟩,
          ⟨none, (some 36), .ld 1 false (.t 35), []⟩,
          ⟨none, (some 37), .call true 482 [.t 36], []⟩,
          ⟨none, (some 33), .mov (.t 37), []⟩,
          ⟨none, (some 38), .ext (.t 33) 0, []⟩,
          ⟨none, (some 39), .ext (.t 33) 1, []⟩,
          ⟨none, (some 8), .mov (.t 38), []⟩,
          ⟨none, (some 9), .mov (.t 39), []⟩])
        (.seq
         (.reg [10, 11] [
           ⟨none, (some 41), .mov (.t 7), []⟩,
           ⟨none, (some 42), .idxA 1 (.t 41) (.c (.int .i64 1)), []⟩,
           ⟨none, (some 43), .ld 1 false (.t 42), []⟩,
           ⟨none, (some 44), .call true 482 [.t 43], []⟩,
           ⟨none, (some 40), .mov (.t 44), []⟩,
           ⟨none, (some 45), .ext (.t 40) 0, []⟩,
           ⟨none, (some 46), .ext (.t 40) 1, []⟩,
           ⟨none, (some 10), .mov (.t 45), []⟩,
           ⟨none, (some 11), .mov (.t 46), []⟩])
         (.seq
          (.seq
           (.reg [52] [
             ⟨none, (some 47), .mov (.t 9), []⟩,
             ⟨none, (some 48), .un .not (.t 47), []⟩,
             ⟨none, (some 49), .mov (.t 48), []⟩,
             ⟨(some (49, false)), (some 50), .mov (.t 11), []⟩,
             ⟨(some (49, false)), (some 51), .un .not (.t 50), []⟩,
             ⟨none, (some 52), .pick (.t 49) (.c (.bool true)) (.t 51), []⟩])
           (.cond (.t 52)
            (.seq
             (.reg [2, 3] [
               ⟨none, (some 53), .bldS 2 0 [.int .i8 0, .int .i8 0] [], []⟩,
               ⟨none, (some 2), .mov (.t 53), []⟩,
               ⟨none, (some 3), .mov (.c (.int .i64 5)), []⟩])
             .ret)
            .skip))
          (.reg [4] [
            ⟨none, (some 54), .mov (.t 4), []⟩,
            ⟨none, (some 55), .mov (.t 8), []⟩,
            ⟨none, (some 56), .mov (.t 10), []⟩,
            ⟨none, (some 57), .agg [.int .i8 0, .int .i8 0] [(0, 1, (.t 55)), (1, 1, (.t 56))], []⟩,
            ⟨none, (some 58), .bldS 2 1 [.int .i8 0, .int .i8 0] [(0, 2, (.t 57))], []⟩,
            ⟨none, (some 59), .app 2 2 (.t 54) (.t 58), []⟩,
            ⟨none, (some 4), .mov (.t 59), []⟩])))))))
    (.reg [6] [
      ⟨none, (some 22), .mov (.t 6), []⟩,
      ⟨none, (some 23), .bin .add (.t 22) (.c (.int .i64 1)), []⟩,
      ⟨none, (some 6), .mov (.t 23), []⟩])))
def k288 : Cd :=
  (.seq
   (.reg [2, 3] [
     ⟨none, (some 2), .mov (.c (.slice none 0 0)), []⟩,
     ⟨none, (some 3), .mov (.c (.int .i64 0)), []⟩])
   (.seq
    (.reg [4] [
      ⟨none, (some 12), .bldS 2 0 [.int .i8 0, .int .i8 0] [], []⟩,
      ⟨none, (some 4), .mov (.t 12), []⟩])
    (.seq
     (.seq
      (.reg [14] [
        ⟨none, (some 13), .mov (.t 0), []⟩,
        ⟨none, (some 14), .eq .s false (.t 13) (.c (.string ⟨#[]⟩)), []⟩])
      (.cond (.t 14)
       (.seq
        (.reg [2, 3] [
          ⟨none, (some 15), .mov (.t 4), []⟩,
          ⟨none, (some 2), .mov (.t 15), []⟩,
          ⟨none, (some 3), .mov (.c (.int .i64 0)), []⟩])
        .ret)
       .skip))
     (.seq
      (.reg [5] [
        ⟨none, (some 16), .mov (.t 0), []⟩,
        ⟨none, (some 17), .call true 481 [.t 16, .c (.int .u8 32)], []⟩,
        ⟨none, (some 5), .mov (.t 17), []⟩])
      (.seq
       (.seq
        (.reg [6] [
          ⟨none, (some 6), .mov (.c (.int .i64 0)), []⟩])
        (.block 0
         (.loop b288_1)))
       (.seq
        (.reg [2, 3] [
          ⟨none, (some 60), .mov (.t 4), []⟩,
          ⟨none, (some 2), .mov (.t 60), []⟩,
          ⟨none, (some 3), .mov (.c (.int .i64 0)), []⟩])
        .ret))))))
def c288 : Fn := { np := 1, nt := 61, kind := .pure, res := [.t 2, .t 3], body := k288 }

/- impl.inRange -/
def k295 : Cd :=
  (.seq
   (.reg [6] [
     ⟨none, (some 6), .mov (.c (.bool false)), []⟩])
   (.seq
    (.reg [6] [
      ⟨none, (some 7), .mov (.t 1), []⟩,
      ⟨none, (some 8), .mov (.t 0), []⟩,
      ⟨none, (some 9), .bin .leq (.t 7) (.t 8), []⟩,
      ⟨none, (some 10), .mov (.t 9), []⟩,
      ⟨(some (10, true)), (some 11), .mov (.t 0), []⟩,
      ⟨(some (10, true)), (some 12), .mov (.t 2), []⟩,
      ⟨(some (10, true)), (some 13), .bin .leq (.t 11) (.t 12), []⟩,
      ⟨none, (some 14), .pick (.t 10) (.t 13) (.c (.bool false)), []⟩,
      ⟨none, (some 6), .mov (.t 14), []⟩])
    .ret))
def c295 : Fn := { np := 3, nt := 15, kind := .pure, res := [.t 6], body := k295 }

/- impl.wordsOf -/
def k376 : Cd :=
  (.seq
   (.reg [2] [
     ⟨none, (some 2), .mov (.c (.slice none 0 0)), []⟩])
   (.seq
    (.seq
     (.reg [4] [
       ⟨none, (some 3), .mov (.t 0), []⟩,
       ⟨none, (some 4), .eq .s false (.t 3) (.c (.string ⟨#[]⟩)), []⟩])
     (.cond (.t 4)
      (.seq
       (.reg [2] [
         ⟨none, (some 2), .mov (.c (.slice none 0 0)), []⟩])
       .ret)
      .skip))
    (.seq
     (.reg [2] [
       ⟨none, (some 5), .mov (.t 0), []⟩,
       ⟨none, (some 6), .call false 485 [.t 5, .c (.string ⟨#[32]⟩)], []⟩,
       ⟨none, (some 2), .mov (.t 6), []⟩])
     .ret)))
def c376 : Fn := { np := 1, nt := 7, kind := .pure, res := [.t 2], body := k376 }

/- impl.readDecimal -/
def k378 : Cd :=
  (.seq
   (.reg [6, 7] [
     ⟨none, (some 6), .mov (.c (.int .i64 0)), []⟩,
     ⟨none, (some 7), .mov (.c (.bool false)), []⟩])
   (.seq
    (.reg [8, 9] [
      ⟨none, (some 11), .mov (.t 0), []⟩,
      ⟨none, (some 12), .call false 521 [.t 11, .c (.int .i64 10), .c (.int .i64 64)], []⟩,
      ⟨none, (some 10), .mov (.t 12), []⟩,
      ⟨none, (some 13), .ext (.t 10) 0, []⟩,
      ⟨none, (some 14), .ext (.t 10) 1, []⟩,
      ⟨none, (some 8), .mov (.t 13), []⟩,
      ⟨none, (some 9), .mov (.t 14), []⟩])
    (.seq
     (.reg [6, 7] [
       ⟨none, (some 15), .mov (.t 8), []⟩,
       ⟨none, (some 16), .mov (.t 9), []⟩,
       ⟨none, (some 17), .eq .i false (.t 16) (.c (.nilIface)), []⟩,
       ⟨none, (some 18), .mov (.t 17), []⟩,
       ⟨(some (18, true)), (some 19), .mov (.t 8), []⟩,
       ⟨(some (18, true)), (some 20), .mov (.t 1), []⟩,
       ⟨(some (18, true)), (some 21), .mov (.t 2), []⟩,
       ⟨(some (18, true)), (some 22), .call true 295 [.t 19, .t 20, .t 21], []⟩,
       ⟨none, (some 23), .pick (.t 18) (.t 22) (.c (.bool false)), []⟩,
       ⟨none, (some 24), .mov (.t 23), []⟩,
       ⟨(some (24, true)), (some 25), .mov (.t 8), []⟩,
       ⟨(some (24, true)), (some 26), .call true 379 [.t 25], []⟩,
       ⟨(some (24, true)), (some 27), .mov (.t 0), []⟩,
       ⟨(some (24, true)), (some 28), .eq .s false (.t 26) (.t 27), []⟩,
       ⟨none, (some 29), .pick (.t 24) (.t 28) (.c (.bool false)), []⟩,
       ⟨none, (some 6), .mov (.t 15), []⟩,
       ⟨none, (some 7), .mov (.t 29), []⟩])
     .ret)))
def c378 : Fn := { np := 3, nt := 30, kind := .pure, res := [.t 6, .t 7], body := k378 }

/- impl.decimal -/
def k379 : Cd :=
  (.seq
   (.reg [2] [
     ⟨none, (some 2), .mov (.c (.string ⟨#[]⟩)), []⟩])
   (.seq
    (.reg [2] [
      ⟨none, (some 3), .mov (.t 0), []⟩,
      ⟨none, (some 4), .call false 522 [.t 3, .c (.int .i64 10)], []⟩,
      ⟨none, (some 2), .mov (.t 4), []⟩])
    .ret))
def c379 : Fn := { np := 1, nt := 5, kind := .pure, res := [.t 2], body := k379 }

/- spec.l01Split -/
def b481_1 : Cd :=
  (.seq
   (.seq
    (.reg [12] [
      ⟨none, (some 9), .mov (.t 7), []⟩,
      ⟨none, (some 10), .mov (.t 0), []⟩,
      ⟨none, (some 11), .lens (.t 10), []⟩,
      ⟨none, (some 12), .bin .lss (.t 9) (.t 11), []⟩])
    (.cond (.t 12)
     .skip
     (.exit 0)))
   (.seq
    (.block 1
     (.seq
      (.reg [19] [
        ⟨none, (some 15), .mov (.t 0), []⟩,
        ⟨none, (some 16), .mov (.t 7), []⟩,
        ⟨none, (some 17), .idxs (.t 15) (.t 16), []⟩,
        ⟨none, (some 18), .mov (.t 1), []⟩,
        ⟨none, (some 19), .bin .eql (.t 17) (.t 18), []⟩])
      (.cond (.t 19)
       (.seq
        (.reg [5] [
          ⟨none, (some 20), .mov (.t 5), []⟩,
          ⟨none, (some 21), .mov (.t 0), []⟩,
          ⟨none, (some 22), .mov (.t 6), []⟩,
          ⟨none, (some 23), .mov (.t 7), []⟩,
          ⟨none, (some 24), .slcs (.t 21) (some (.t 22)) (some (.t 23)), []⟩,
          ⟨none, (some 25), .bldS 1 1 [.string ⟨#[]⟩] [(0, 1, (.t 24))], []⟩,
          ⟨none, (some 26), .app 1 16 (.t 20) (.t 25), []⟩,
          ⟨none, (some 5), .mov (.t 26), []⟩])
        (.reg [6] [
          ⟨none, (some 27), .mov (.t 7), []⟩,
          ⟨none, (some 28), .bin .add (.t 27) (.c (.int .i64 1)), []⟩,
          ⟨none, (some 6), .mov (.t 28), []⟩]))
       .skip)))
    (.reg [7] [
      ⟨none, (some 13), .mov (.t 7), []⟩,
      ⟨none, (some 14), .bin .add (.t 13) (.c (.int .i64 1)), []⟩,
      ⟨none, (some 7), .mov (.t 14), []⟩])))
def k481 : Cd :=
  (.seq
   (.reg [4] [
     ⟨none, (some 4), .mov (.c (.slice none 0 0)), []⟩])
   (.seq
    (.reg [5] [
      ⟨none, (some 8), .bldS 1 0 [.string ⟨#[]⟩] [], []⟩,
      ⟨none, (some 5), .mov (.t 8), []⟩])
    (.seq
     (.reg [6] [
       ⟨none, (some 6), .mov (.c (.int .i64 0)), []⟩])
     (.seq
      (.seq
       (.reg [7] [
         ⟨none, (some 7), .mov (.c (.int .i64 0)), []⟩])
       (.block 0
        (.loop b481_1)))
      (.seq
       (.reg [4] [
         ⟨none, (some 29), .mov (.t 5), []⟩,
         ⟨none, (some 30), .mov (.t 0), []⟩,
         ⟨none, (some 31), .mov (.t 6), []⟩,
         ⟨none, (some 32), .slcs (.t 30) (some (.t 31)) none, []⟩,
         ⟨none, (some 33), .bldS 1 1 [.string ⟨#[]⟩] [(0, 1, (.t 32))], []⟩,
         ⟨none, (some 34), .app 1 16 (.t 29) (.t 33), []⟩,
         ⟨none, (some 4), .mov (.t 34), []⟩])
       .ret)))))
def c481 : Fn := { np := 2, nt := 35, kind := .pure, res := [.t 4], body := k481 }

/- spec.l07Read -/
def k482 : Cd :=
  (.seq
   (.reg [2, 3] [
     ⟨none, (some 2), .mov (.c (.int .i8 0)), []⟩,
     ⟨none, (some 3), .mov (.c (.bool false)), []⟩])
   (.seq
    (.reg [4] [
      ⟨none, (some 7), .mov (.t 0), []⟩,
      ⟨none, (some 8), .lens (.t 7), []⟩,
      ⟨none, (some 9), .bin .gtr (.t 8) (.c (.int .i64 1)), []⟩,
      ⟨none, (some 10), .mov (.t 9), []⟩,
      ⟨(some (10, true)), (some 11), .mov (.t 0), []⟩,
      ⟨(some (10, true)), (some 12), .idxs (.t 11) (.c (.int .i64 0)), []⟩,
      ⟨(some (10, true)), (some 13), .bin .eql (.t 12) (.c (.int .u8 45)), []⟩,
      ⟨none, (some 14), .pick (.t 10) (.t 13) (.c (.bool false)), []⟩,
      ⟨none, (some 4), .mov (.t 14), []⟩])
    (.seq
     (.seq
      (.reg [15] [
        ⟨none, (some 15), .mov (.t 4), []⟩])
      (.cond (.t 15)
       (.reg [0] [
         ⟨none, (some 16), .mov (.t 0), []⟩,
         ⟨none, (some 17), .slcs (.t 16) (some (.c (.int .i64 1))) none, []⟩,
         ⟨none, (some 0), .mov (.t 17), []⟩])
       .skip))
     (.seq
      (.reg [5, 6] [
        ⟨none, (some 19), .mov (.t 0), []⟩,
        ⟨none, (some 20), .call true 484 [.t 19], []⟩,
        ⟨none, (some 18), .mov (.t 20), []⟩,
        ⟨none, (some 21), .ext (.t 18) 0, []⟩,
        ⟨none, (some 22), .ext (.t 18) 1, []⟩,
        ⟨none, (some 5), .mov (.t 21), []⟩,
        ⟨none, (some 6), .mov (.t 22), []⟩])
      (.seq
       (.seq
        (.reg [35] [
          ⟨none, (some 23), .mov (.t 6), []⟩,
          ⟨none, (some 24), .un .not (.t 23), []⟩,
          ⟨none, (some 25), .mov (.t 24), []⟩,
          ⟨(some (25, false)), (some 26), .mov (.t 5), []⟩,
          ⟨(some (25, false)), (some 27), .bin .gtr (.t 26) (.c (.int .i64 12)), []⟩,
          ⟨none, (some 28), .pick (.t 25) (.c (.bool true)) (.t 27), []⟩,
          ⟨none, (some 29), .mov (.t 28), []⟩,
          ⟨(some (29, false)), (some 30), .mov (.t 4), []⟩,
          ⟨(some (29, false)), (some 31), .mov (.t 30), []⟩,
          ⟨(some (31, true)), (some 32), .mov (.t 5), []⟩,
          ⟨(some (31, true)), (some 33), .bin .eql (.t 32) (.c (.int .i64 0)), []⟩,
          ⟨(some (29, false)), (some 34), .pick (.t 31) (.t 33) (.c (.bool false)), []⟩,
          ⟨none, (some 35), .pick (.t 29) (.c (.bool true)) (.t 34), []⟩])
        (.cond (.t 35)
         (.seq
          (.reg [2, 3] [
            ⟨none, (some 2), .mov (.c (.int .i8 0)), []⟩,
            ⟨none, (some 3), .mov (.c (.bool false)), []⟩])
          .ret)
         .skip))
       (.seq
        (.seq
         (.reg [36] [
           ⟨none, (some 36), .mov (.t 4), []⟩])
         (.cond (.t 36)
          (.seq
           (.reg [2, 3] [
             ⟨none, (some 37), .mov (.t 5), []⟩,
             ⟨none, (some 38), .un .neg (.t 37), []⟩,
             ⟨none, (some 39), .conv .i8 (.t 38), []⟩,
             ⟨none, (some 2), .mov (.t 39), []⟩,
             ⟨none, (some 3), .mov (.c (.bool true)), []⟩])
           .ret)
          .skip))
        (.seq
         (.reg [2, 3] [
           ⟨none, (some 40), .mov (.t 5), []⟩,
           ⟨none, (some 41), .conv .i8 (.t 40), []⟩,
           ⟨none, (some 2), .mov (.t 41), []⟩,
           ⟨none, (some 3), .mov (.c (.bool true)), []⟩])
         .ret)))))))
def c482 : Fn := { np := 1, nt := 42, kind := .pure, res := [.t 2, .t 3], body := k482 }

/- spec.l01Number -/
def b484_1 : Cd :=
  (.seq
   (.seq
    (.reg [26] [
      ⟨none, (some 23), .mov (.t 5), []⟩,
      ⟨none, (some 24), .mov (.t 0), []⟩,
      ⟨none, (some 25), .lens (.t 24), []⟩,
      ⟨none, (some 26), .bin .lss (.t 23) (.t 25), []⟩])
    (.cond (.t 26)
     .skip
     (.exit 0)))
   (.seq
    (.block 1
     (.seq
      (.seq
       (.reg [38] [
         ⟨none, (some 29), .mov (.t 0), []⟩,
         ⟨none, (some 30), .mov (.t 5), []⟩,
         ⟨none, (some 31), .idxs (.t 29) (.t 30), []⟩,
         ⟨none, (some 32), .bin .lss (.t 31) (.c (.int .u8 48)), []⟩,
         ⟨none, (some 33), .mov (.t 32), []⟩,
         ⟨(some (33, false)), (some 34), .mov (.t 0), []⟩,
         ⟨(some (33, false)), (some 35), .mov (.t 5), []⟩,
         ⟨(some (33, false)), (some 36), .idxs (.t 34) (.t 35), []⟩,
         ⟨(some (33, false)), (some 37), .bin .gtr (.t 36) (.c (.int .u8 57)), []⟩,
         ⟨none, (some 38), .pick (.t 33) (.c (.bool true)) (.t 37), []⟩])
       (.cond (.t 38)
        (.seq
         (.reg [2, 3] [
           ⟨none, (some 2), .mov (.c (.int .i64 0)), []⟩,
           ⟨none, (some 3), .mov (.c (.bool false)), []⟩])
         .ret)
        .skip))
      (.reg [4] [
        ⟨none, (some 39), .mov (.t 4), []⟩,
        ⟨none, (some 40), .bin .mul (.c (.int .i64 10)) (.t 39), []⟩,
        ⟨none, (some 41), .mov (.t 0), []⟩,
        ⟨none, (some 42), .mov (.t 5), []⟩,
        ⟨none, (some 43), .idxs (.t 41) (.t 42), []⟩,
        ⟨none, (some 44), .bin .sub (.t 43) (.c (.int .u8 48)), []⟩,
        ⟨none, (some 45), .conv .i64 (.t 44), []⟩,
        ⟨none, (some 46), .bin .add (.t 40) (.t 45), []⟩,
        ⟨none, (some 4), .mov (.t 46), []⟩])))
    (.reg [5] [
      ⟨none, (some 27), .mov (.t 5), []⟩,
      ⟨none, (some 28), .bin .add (.t 27) (.c (.int .i64 1)), []⟩,
      ⟨none, (some 5), .mov (.t 28), []⟩])))
def k484 : Cd :=
  (.seq
   (.reg [2, 3] [
     ⟨none, (some 2), .mov (.c (.int .i64 0)), []⟩,
     ⟨none, (some 3), .mov (.c (.bool false)), []⟩])
   (.seq
    (.seq
     (.reg [22] [
       ⟨none, (some 6), .mov (.t 0), []⟩,
       ⟨none, (some 7), .eq .s false (.t 6) (.c (.string ⟨#[]⟩)), []⟩,
       ⟨none, (some 8), .mov (.t 7), []⟩,
       ⟨(some (8, false)), (some 9), .mov (.t 0), []⟩,
       ⟨(some (8, false)), (some 10), .lens (.t 9), []⟩,
       ⟨(some (8, false)), (some 11), .bin .gtr (.t 10) (.c (.int .i64 10)), []⟩,
       ⟨none, (some 12), .pick (.t 8) (.c (.bool true)) (.t 11), []⟩,
       ⟨none, (some 13), .mov (.t 12), []⟩,
       ⟨(some (13, false)), (some 14), .mov (.t 0), []⟩,
       ⟨(some (13, false)), (some 15), .idxs (.t 14) (.c (.int .i64 0)), []⟩,
       ⟨(some (13, false)), (some 16), .bin .eql (.t 15) (.c (.int .u8 48)), []⟩,
       ⟨(some (13, false)), (some 17), .mov (.t 16), []⟩,
       ⟨(some (17, true)), (some 18), .mov (.t 0), []⟩,
       ⟨(some (17, true)), (some 19), .lens (.t 18), []⟩,
       ⟨(some (17, true)), (some 20), .bin .gtr (.t 19) (.c (.int .i64 1)), []⟩,
       ⟨(some (13, false)), (some 21), .pick (.t 17) (.t 20) (.c (.bool false)), []⟩,
       ⟨none, (some 22), .pick (.t 13) (.c (.bool true)) (.t 21), []⟩])
     (.cond (.t 22)
      (.seq
       (.reg [2, 3] [
         ⟨none, (some 2), .mov (.c (.int .i64 0)), []⟩,
         ⟨none, (some 3), .mov (.c (.bool false)), []⟩])
       .ret)
      .skip))
    (.seq
     (.reg [4] [
       ⟨none, (some 4), .mov (.c (.int .i64 0)), []⟩])
     (.seq
      (.seq
       (.reg [5] [
         ⟨none, (some 5), .mov (.c (.int .i64 0)), []⟩])
       (.block 0
        (.loop b484_1)))
      (.seq
       (.reg [2, 3] [
         ⟨none, (some 47), .mov (.t 4), []⟩,
         ⟨none, (some 2), .mov (.t 47), []⟩,
         ⟨none, (some 3), .mov (.c (.bool true)), []⟩])
       .ret)))))
def c484 : Fn := { np := 1, nt := 48, kind := .pure, res := [.t 2, .t 3], body := k484 }


end Fb
