/- The functions of the law, in the small language. -/
import Derived.Test.YtkkncjfgnielgaaDen
set_option linter.unusedVariables false
set_option linter.unusedSimpArgs false
namespace Fb
open Go

/- laws.FnExactInkStrokes -/
def k14 : Cd :=
  (.seq
   (.reg [2] [
     ⟨none, (some 2), .mov (.c (.bool false)), []⟩])
   (.seq
    (.reg [3] [
      ⟨none, (some 3), .mov (.c (.int .i64 1000000)), []⟩])
    (.seq
     (.reg [3] [
       ⟨none, (some 11), .mov (.t 0), []⟩,
       ⟨none, (some 12), .mov (.t 3), []⟩,
       ⟨none, (some 13), .call true 112 [.t 11, .t 12], []⟩,
       ⟨none, (some 3), .mov (.t 13), []⟩])
     (.seq
      (.seq
       (.reg [15] [
         ⟨none, (some 14), .mov (.t 3), []⟩,
         ⟨none, (some 15), .bin .lss (.t 14) (.c (.int .i64 0)), []⟩])
       (.cond (.t 15)
        (.seq
         (.reg [2] [
           ⟨none, (some 2), .mov (.c (.bool true)), []⟩])
         .ret)
        .skip))
      (.seq
       (.reg [4, 5] [
         ⟨none, (some 17), .mov (.t 0), []⟩,
         ⟨none, (some 18), .call true 114 [.t 17, .c (.bool false)], []⟩,
         ⟨none, (some 19), .call true 113 [.t 18], []⟩,
         ⟨none, (some 16), .mov (.t 19), []⟩,
         ⟨none, (some 20), .ext (.t 16) 0, []⟩,
         ⟨none, (some 21), .ext (.t 16) 1, []⟩,
         ⟨none, (some 4), .zero true (zs 12 (.int .u16 0)), []⟩,
         ⟨none, (some 4), .stV 4 none 12 (.t 20), []⟩,
         ⟨none, (some 5), .mov (.t 21), []⟩])
       (.seq
        (.reg [6] [
          ⟨none, (some 22), .mov (.t 0), []⟩,
          ⟨none, (some 23), .call true 114 [.t 22, .c (.bool false)], []⟩,
          ⟨none, (some 6), .mov (.t 23), []⟩])
        (.seq
         (.reg [7, 8] [
           ⟨none, (some 25), .mov (.t 6), []⟩,
           ⟨none, (some 26), .call true 115 [.t 25], []⟩,
           ⟨none, (some 24), .mov (.t 26), []⟩,
           ⟨none, (some 27), .ext (.t 24) 0, []⟩,
           ⟨none, (some 28), .ext (.t 24) 1, []⟩,
           ⟨none, (some 7), .zero true (zs 12 (.int .u16 0)), []⟩,
           ⟨none, (some 7), .stV 7 none 12 (.t 27), []⟩,
           ⟨none, (some 8), .mov (.t 28), []⟩])
         (.seq
          (.seq
           (.reg [37] [
             ⟨none, (some 29), .ldV 7 none 12 true, []⟩,
             ⟨none, (some 30), .ldV 4 none 12 true, []⟩,
             ⟨none, (some 31), .call true 78 [.t 29, .t 30], []⟩,
             ⟨none, (some 32), .un .not (.t 31), []⟩,
             ⟨none, (some 33), .mov (.t 32), []⟩,
             ⟨(some (33, false)), (some 34), .mov (.t 8), []⟩,
             ⟨(some (33, false)), (some 35), .mov (.t 5), []⟩,
             ⟨(some (33, false)), (some 36), .bin .neq (.t 34) (.t 35), []⟩,
             ⟨none, (some 37), .pick (.t 33) (.c (.bool true)) (.t 36), []⟩])
           (.cond (.t 37)
            (.seq
             (.reg [2] [
               ⟨none, (some 2), .mov (.c (.bool false)), []⟩])
             .ret)
            .skip))
          (.seq
           (.seq
            (.reg [42] [
              ⟨none, (some 38), .mov (.t 6), []⟩,
              ⟨none, (some 39), .mov (.t 0), []⟩,
              ⟨none, (some 40), .call true 114 [.t 39, .c (.bool false)], []⟩,
              ⟨none, (some 41), .call true 116 [.t 38, .t 40], []⟩,
              ⟨none, (some 42), .un .not (.t 41), []⟩])
            (.cond (.t 42)
             (.seq
              (.reg [2] [
                ⟨none, (some 2), .mov (.c (.bool false)), []⟩])
              .ret)
             .skip))
           (.seq
            (.reg [9, 10] [
              ⟨none, (some 44), .mov (.t 0), []⟩,
              ⟨none, (some 45), .call true 114 [.t 44, .c (.bool true)], []⟩,
              ⟨none, (some 46), .call true 115 [.t 45], []⟩,
              ⟨none, (some 43), .mov (.t 46), []⟩,
              ⟨none, (some 47), .ext (.t 43) 0, []⟩,
              ⟨none, (some 48), .ext (.t 43) 1, []⟩,
              ⟨none, (some 9), .zero true (zs 12 (.int .u16 0)), []⟩,
              ⟨none, (some 9), .stV 9 none 12 (.t 47), []⟩,
              ⟨none, (some 10), .mov (.t 48), []⟩])
            (.seq
             (.seq
              (.reg [57] [
                ⟨none, (some 49), .ldV 9 none 12 true, []⟩,
                ⟨none, (some 50), .ldV 4 none 12 true, []⟩,
                ⟨none, (some 51), .call true 78 [.t 49, .t 50], []⟩,
                ⟨none, (some 52), .un .not (.t 51), []⟩,
                ⟨none, (some 53), .mov (.t 52), []⟩,
                ⟨(some (53, false)), (some 54), .mov (.t 10), []⟩,
                ⟨(some (53, false)), (some 55), .mov (.t 5), []⟩,
                ⟨(some (53, false)), (some 56), .bin .neq (.t 54) (.t 55), []⟩,
                ⟨none, (some 57), .pick (.t 53) (.c (.bool true)) (.t 56), []⟩])
              (.cond (.t 57)
               (.seq
                (.reg [2] [
                  ⟨none, (some 2), .mov (.c (.bool false)), []⟩])
                .ret)
               .skip))
             (.seq
              (.reg [2] [
                ⟨none, (some 2), .mov (.c (.bool true)), []⟩])
              .ret))))))))))))
def c14 : Fn := { np := 1, nt := 58, kind := .pure, res := [.t 2], body := k14 }

/- laws.eqFrame -/
def b78_1 : Cd :=
  (.seq
   (.seq
    (.reg [7] [
      ⟨none, (some 6), .mov (.t 5), []⟩,
      ⟨none, (some 7), .bin .lss (.t 6) (.c (.int .i64 12)), []⟩])
    (.cond (.t 7)
     .skip
     (.exit 0)))
   (.seq
    (.block 1
     (.seq
      (.reg [16] [
        ⟨none, (some 10), .mov (.t 5), []⟩,
        ⟨none, (some 11), .adrI 2 none 12 1 (.t 10), []⟩,
        ⟨none, (some 12), .ldV 2 (some 11) 1 false, []⟩,
        ⟨none, (some 13), .mov (.t 5), []⟩,
        ⟨none, (some 14), .adrI 3 none 12 1 (.t 13), []⟩,
        ⟨none, (some 15), .ldV 3 (some 14) 1 false, []⟩,
        ⟨none, (some 16), .bin .neq (.t 12) (.t 15), []⟩])
      (.cond (.t 16)
       (.seq
        (.reg [4] [
          ⟨none, (some 4), .mov (.c (.bool false)), []⟩])
        .ret)
       .skip)))
    (.reg [5] [
      ⟨none, (some 8), .mov (.t 5), []⟩,
      ⟨none, (some 9), .bin .add (.t 8) (.c (.int .i64 1)), []⟩,
      ⟨none, (some 5), .mov (.t 9), []⟩])))
def k78 : Cd :=
  (.seq
   (.reg [2, 3, 4] [
     ⟨none, (some 2), .mov (.t 0), []⟩,
     ⟨none, (some 3), .mov (.t 1), []⟩,
     ⟨none, (some 4), .mov (.c (.bool false)), []⟩])
   (.seq
    (.seq
     (.reg [5] [
       ⟨none, (some 5), .mov (.c (.int .i64 0)), []⟩])
     (.block 0
      (.loop b78_1)))
    (.seq
     (.reg [4] [
       ⟨none, (some 4), .mov (.c (.bool true)), []⟩])
     .ret)))
def c78 : Fn := { np := 2, nt := 17, kind := .pure, res := [.t 4], body := k78 }

/- laws.szStrokeS -/
def k112 : Cd :=
  (.seq
   (.reg [4] [
     ⟨none, (some 4), .mov (.c (.int .i64 0)), []⟩])
   (.seq
    (.reg [1] [
      ⟨none, (some 5), .mov (.t 1), []⟩,
      ⟨none, (some 6), .mov (.t 0), []⟩,
      ⟨none, (some 7), .len (.t 6), []⟩,
      ⟨none, (some 8), .bin .sub (.t 5) (.t 7), []⟩,
      ⟨none, (some 1), .mov (.t 8), []⟩])
    (.seq
     (.seq
      (.reg [10] [
        ⟨none, (some 9), .mov (.t 1), []⟩,
        ⟨none, (some 10), .bin .lss (.t 9) (.c (.int .i64 0)), []⟩])
      (.cond (.t 10)
       (.seq
        (.reg [4] [
          ⟨none, (some 4), .mov (.c (.int .i64 (-1))), []⟩])
        .ret)
       .skip))
     (.seq
      (.reg [4] [
        ⟨none, (some 11), .mov (.t 1), []⟩,
        ⟨none, (some 4), .mov (.t 11), []⟩])
      .ret))))
def c112 : Fn := { np := 2, nt := 12, kind := .pure, res := [.t 4], body := k112 }

/- spec.InkStrokes -/
def b113_1 : Cd :=
  (.seq
   (.seq
    (.reg [46] [
      ⟨none, (some 39), .mov (.t 8), []⟩,
      ⟨none, (some 40), .mov (.t 0), []⟩,
      ⟨none, (some 41), .mov (.t 5), []⟩,
      ⟨none, (some 42), .idxA 4 (.t 40) (.t 41), []⟩,
      ⟨none, (some 43), .fldP 2 (.t 42), []⟩,
      ⟨none, (some 44), .ld 1 false (.t 43), []⟩,
      ⟨none, (some 45), .conv .i64 (.t 44), []⟩,
      ⟨none, (some 46), .bin .lss (.t 39) (.t 45), []⟩])
    (.cond (.t 46)
     .skip
     (.exit 2)))
   (.seq
    (.block 3
     (.seq
      (.seq
       (.reg [52] [
         ⟨none, (some 49), .mov (.t 6), []⟩,
         ⟨none, (some 50), .mov (.t 7), []⟩,
         ⟨none, (some 51), .call true 342 [.t 49, .t 50], []⟩,
         ⟨none, (some 52), .un .not (.t 51), []⟩])
       (.cond (.t 52)
        (.seq
         (.reg [2, 3] [
           ⟨none, (some 53), .agg (zs 12 (.int .u16 0)) [], []⟩,
           ⟨none, (some 2), .stV 2 none 12 (.t 53), []⟩,
           ⟨none, (some 3), .mov (.c (.int .i64 2)), []⟩])
         .ret)
        .skip))
      (.seq
       (.reg [] [
         ⟨none, (some 54), .mov (.t 6), []⟩,
         ⟨none, (some 55), .mov (.t 7), []⟩,
         ⟨none, (some 56), .call false 305 [.t 4, .t 54, .t 55], []⟩])
       (.seq
        (.reg [61] [
          ⟨none, (some 57), .mov (.t 0), []⟩,
          ⟨none, (some 58), .mov (.t 5), []⟩,
          ⟨none, (some 59), .idxA 4 (.t 57) (.t 58), []⟩,
          ⟨none, (some 60), .fldP 3 (.t 59), []⟩,
          ⟨none, (some 61), .ld 1 false (.t 60), []⟩])
        (.cond (.t 61)
         (.reg [7] [
           ⟨none, (some 62), .mov (.t 7), []⟩,
           ⟨none, (some 63), .bin .add (.t 62) (.c (.int .i64 1)), []⟩,
           ⟨none, (some 7), .mov (.t 63), []⟩])
         (.reg [6] [
           ⟨none, (some 64), .mov (.t 6), []⟩,
           ⟨none, (some 65), .bin .add (.t 64) (.c (.int .i64 1)), []⟩,
           ⟨none, (some 6), .mov (.t 65), []⟩]))))))
    (.reg [8] [
      ⟨none, (some 47), .mov (.t 8), []⟩,
      ⟨none, (some 48), .bin .add (.t 47) (.c (.int .i64 1)), []⟩,
      ⟨none, (some 8), .mov (.t 48), []⟩])))
def b113_2 : Cd :=
  (.seq
   (.seq
    (.reg [17] [
      ⟨none, (some 14), .mov (.t 5), []⟩,
      ⟨none, (some 15), .mov (.t 0), []⟩,
      ⟨none, (some 16), .len (.t 15), []⟩,
      ⟨none, (some 17), .bin .lss (.t 14) (.t 16), []⟩])
    (.cond (.t 17)
     .skip
     (.exit 0)))
   (.seq
    (.block 1
     (.seq
      (.reg [6] [
        ⟨none, (some 20), .mov (.t 0), []⟩,
        ⟨none, (some 21), .mov (.t 5), []⟩,
        ⟨none, (some 22), .idxA 4 (.t 20) (.t 21), []⟩,
        ⟨none, (some 23), .fldP 0 (.t 22), []⟩,
        ⟨none, (some 24), .ld 1 false (.t 23), []⟩,
        ⟨none, (some 25), .conv .i64 (.t 24), []⟩,
        ⟨none, (some 6), .mov (.t 25), []⟩])
      (.seq
       (.reg [7] [
         ⟨none, (some 26), .mov (.t 0), []⟩,
         ⟨none, (some 27), .mov (.t 5), []⟩,
         ⟨none, (some 28), .idxA 4 (.t 26) (.t 27), []⟩,
         ⟨none, (some 29), .fldP 1 (.t 28), []⟩,
         ⟨none, (some 30), .ld 1 false (.t 29), []⟩,
         ⟨none, (some 31), .conv .i64 (.t 30), []⟩,
         ⟨none, (some 7), .mov (.t 31), []⟩])
       (.seq
        (.seq
         (.reg [37] [
           ⟨none, (some 32), .mov (.t 0), []⟩,
           ⟨none, (some 33), .mov (.t 5), []⟩,
           ⟨none, (some 34), .idxA 4 (.t 32) (.t 33), []⟩,
           ⟨none, (some 35), .fldP 2 (.t 34), []⟩,
           ⟨none, (some 36), .ld 1 false (.t 35), []⟩,
           ⟨none, (some 37), .bin .lss (.t 36) (.c (.int .i8 1)), []⟩])
         (.cond (.t 37)
          (.seq
           (.reg [2, 3] [
             ⟨none, (some 38), .agg (zs 12 (.int .u16 0)) [], []⟩,
             ⟨none, (some 2), .stV 2 none 12 (.t 38), []⟩,
             ⟨none, (some 3), .mov (.c (.int .i64 2)), []⟩])
           .ret)
          .skip))
        (.seq
         (.reg [8] [
           ⟨none, (some 8), .mov (.c (.int .i64 0)), []⟩])
         (.block 2
          (.loop b113_1)))))))
    (.reg [5] [
      ⟨none, (some 18), .mov (.t 5), []⟩,
      ⟨none, (some 19), .bin .add (.t 18) (.c (.int .i64 1)), []⟩,
      ⟨none, (some 5), .mov (.t 19), []⟩])))
def k113 : Cd :=
  (.seq
   (.reg [2, 3] [
     ⟨none, (some 2), .zero true (zs 12 (.int .u16 0)), []⟩,
     ⟨none, (some 3), .mov (.c (.int .i64 0)), []⟩])
   (.seq
    (.reg [4] [
      ⟨none, (some 9), .agg (zs 12 (.int .u16 0)) [], []⟩,
      ⟨none, (some 4), .new 1 (zs 12 (.int .u16 0)), []⟩,
      ⟨none, none, .st 12 (.t 4) (.t 9), []⟩])
    (.seq
     (.seq
      (.reg [12] [
        ⟨none, (some 10), .mov (.t 0), []⟩,
        ⟨none, (some 11), .len (.t 10), []⟩,
        ⟨none, (some 12), .bin .gtr (.t 11) (.c (.int .i64 80)), []⟩])
      (.cond (.t 12)
       (.seq
        (.reg [2, 3] [
          ⟨none, (some 13), .ld 12 true (.t 4), []⟩,
          ⟨none, (some 2), .stV 2 none 12 (.t 13), []⟩,
          ⟨none, (some 3), .mov (.c (.int .i64 2)), []⟩])
        .ret)
       .skip))
     (.seq
      (.seq
       (.reg [5] [
         ⟨none, (some 5), .mov (.c (.int .i64 0)), []⟩])
       (.block 0
        (.loop b113_2)))
      (.seq
       (.reg [2, 3] [
         ⟨none, (some 66), .ld 12 true (.t 4), []⟩,
         ⟨none, (some 2), .stV 2 none 12 (.t 66), []⟩,
         ⟨none, (some 3), .mov (.c (.int .i64 0)), []⟩])
       .ret)))))
def c113 : Fn := { np := 1, nt := 67, kind := .pure, res := [.v 2 12 true, .t 3], body := k113 }

/- laws.toStrokeS -/
def b114_1 : Cd :=
  (.seq
   (.seq
    (.reg [24] [
      ⟨none, (some 21), .mov (.t 6), []⟩,
      ⟨none, (some 22), .mov (.t 0), []⟩,
      ⟨none, (some 23), .len (.t 22), []⟩,
      ⟨none, (some 24), .bin .lss (.t 21) (.t 23), []⟩])
    (.cond (.t 24)
     .skip
     (.exit 0)))
   (.seq
    (.block 1
     (.reg [] [
       ⟨none, (some 27), .mov (.t 5), []⟩,
       ⟨none, (some 28), .mov (.t 6), []⟩,
       ⟨none, (some 29), .mov (.t 0), []⟩,
       ⟨none, (some 30), .mov (.t 6), []⟩,
       ⟨none, (some 31), .idxA 4 (.t 29) (.t 30), []⟩,
       ⟨none, (some 32), .ld 4 true (.t 31), []⟩,
       ⟨none, (some 33), .call true 343 [.t 32], []⟩,
       ⟨none, (some 34), .idxA 4 (.t 27) (.t 28), []⟩,
       ⟨none, none, .st 4 (.t 34) (.t 33), []⟩]))
    (.reg [6] [
      ⟨none, (some 25), .mov (.t 6), []⟩,
      ⟨none, (some 26), .bin .add (.t 25) (.c (.int .i64 1)), []⟩,
      ⟨none, (some 6), .mov (.t 26), []⟩])))
def b114_2 : Cd :=
  (.seq
   (.seq
    (.reg [40] [
      ⟨none, (some 37), .mov (.t 7), []⟩,
      ⟨none, (some 38), .mov (.t 5), []⟩,
      ⟨none, (some 39), .len (.t 38), []⟩,
      ⟨none, (some 40), .bin .lss (.t 37) (.t 39), []⟩])
    (.cond (.t 40)
     .skip
     (.exit 2)))
   (.seq
    (.block 3
     (.reg [] [
       ⟨none, (some 43), .mov (.t 5), []⟩,
       ⟨none, (some 44), .mov (.t 7), []⟩,
       ⟨none, (some 45), .call true 344 [], []⟩,
       ⟨none, (some 46), .idxA 4 (.t 43) (.t 44), []⟩,
       ⟨none, none, .st 4 (.t 46) (.t 45), []⟩]))
    (.reg [7] [
      ⟨none, (some 41), .mov (.t 7), []⟩,
      ⟨none, (some 42), .bin .add (.t 41) (.c (.int .i64 1)), []⟩,
      ⟨none, (some 7), .mov (.t 42), []⟩])))
def k114 : Cd :=
  (.seq
   (.reg [4] [
     ⟨none, (some 4), .mov (.c (.slice none 0 0)), []⟩])
   (.seq
    (.seq
     (.reg [13] [
       ⟨none, (some 8), .mov (.t 1), []⟩,
       ⟨none, (some 9), .mov (.t 8), []⟩,
       ⟨(some (9, true)), (some 10), .mov (.t 0), []⟩,
       ⟨(some (9, true)), (some 11), .len (.t 10), []⟩,
       ⟨(some (9, true)), (some 12), .bin .eql (.t 11) (.c (.int .i64 0)), []⟩,
       ⟨none, (some 13), .pick (.t 9) (.t 12) (.c (.bool false)), []⟩])
     (.cond (.t 13)
      (.seq
       (.reg [4] [
         ⟨none, (some 4), .mov (.c (.slice none 0 0)), []⟩])
       .ret)
      .skip))
    (.seq
     (.reg [5] [
       ⟨none, (some 14), .mov (.t 0), []⟩,
       ⟨none, (some 15), .len (.t 14), []⟩,
       ⟨none, (some 16), .mov (.t 0), []⟩,
       ⟨none, (some 17), .len (.t 16), []⟩,
       ⟨none, (some 18), .call true 296 [.t 17], []⟩,
       ⟨none, (some 19), .bin .add (.t 15) (.t 18), []⟩,
       ⟨none, (some 20), .mkS 4 4 [.int .i8 0, .int .i8 0, .int .i8 0, .bool false] (.t 19) (.t 19), []⟩,
       ⟨none, (some 5), .mov (.t 20), []⟩])
     (.seq
      (.seq
       (.reg [6] [
         ⟨none, (some 6), .mov (.c (.int .i64 0)), []⟩])
       (.block 0
        (.loop b114_1)))
      (.seq
       (.seq
        (.reg [7] [
          ⟨none, (some 35), .mov (.t 0), []⟩,
          ⟨none, (some 36), .len (.t 35), []⟩,
          ⟨none, (some 7), .mov (.t 36), []⟩])
        (.block 2
         (.loop b114_2)))
       (.seq
        (.reg [4] [
          ⟨none, (some 47), .mov (.t 5), []⟩,
          ⟨none, (some 48), .mov (.t 0), []⟩,
          ⟨none, (some 49), .len (.t 48), []⟩,
          ⟨none, (some 50), .slcA 4 (.t 47) none (some (.t 49)) none, []⟩,
          ⟨none, (some 4), .mov (.t 50), []⟩])
        .ret))))))
def c114 : Fn := { np := 2, nt := 51, kind := .pure, res := [.t 4], body := k114 }

/- impl.InkStrokes -/
def b115_1 : Cd :=
  (.seq
   (.reg [29] [
     ⟨none, (some 29), .bin .lss (.t 28) (.t 27), []⟩])
   (.seq
    (.cond (.t 29)
     .skip
     (.exit 2))
    (.seq
     (.block 3
      (.seq
       (.reg [7] [
         ⟨none, (some 30), .mov (.t 28), []⟩,
         ⟨none, (some 7), .mov (.t 30), []⟩])
       (.seq
        (.reg [8, 9] [
          ⟨none, (some 31), .adrF 6 none 0, []⟩,
          ⟨none, (some 32), .ldV 6 (some 31) 1 false, []⟩,
          ⟨none, (some 33), .conv .i64 (.t 32), []⟩,
          ⟨none, (some 34), .mov (.t 7), []⟩,
          ⟨none, (some 35), .bin .add (.t 33) (.t 34), []⟩,
          ⟨none, (some 36), .adrF 6 none 1, []⟩,
          ⟨none, (some 37), .ldV 6 (some 36) 1 false, []⟩,
          ⟨none, (some 38), .conv .i64 (.t 37), []⟩,
          ⟨none, (some 8), .mov (.t 35), []⟩,
          ⟨none, (some 9), .mov (.t 38), []⟩])
        (.seq
         (.seq
          (.reg [40] [
            ⟨none, (some 39), .adrF 6 none 3, []⟩,
            ⟨none, (some 40), .ldV 6 (some 39) 1 false, []⟩])
          (.cond (.t 40)
           (.reg [8, 9] [
             ⟨none, (some 41), .adrF 6 none 0, []⟩,
             ⟨none, (some 42), .ldV 6 (some 41) 1 false, []⟩,
             ⟨none, (some 43), .conv .i64 (.t 42), []⟩,
             ⟨none, (some 44), .adrF 6 none 1, []⟩,
             ⟨none, (some 45), .ldV 6 (some 44) 1 false, []⟩,
             ⟨none, (some 46), .conv .i64 (.t 45), []⟩,
             ⟨none, (some 47), .mov (.t 7), []⟩,
             ⟨none, (some 48), .bin .add (.t 46) (.t 47), []⟩,
             ⟨none, (some 8), .mov (.t 43), []⟩,
             ⟨none, (some 9), .mov (.t 48), []⟩])
           .skip))
         (.seq
          (.seq
           (.reg [52] [
             ⟨none, (some 49), .mov (.t 8), []⟩,
             ⟨none, (some 50), .mov (.t 9), []⟩,
             ⟨none, (some 51), .call true 345 [.t 49, .t 50], []⟩,
             ⟨none, (some 52), .un .not (.t 51), []⟩])
           (.cond (.t 52)
            (.seq
             (.reg [2, 3] [
               ⟨none, (some 53), .agg (zs 12 (.int .u16 0)) [], []⟩,
               ⟨none, (some 2), .stV 2 none 12 (.t 53), []⟩,
               ⟨none, (some 3), .mov (.c (.int .i64 2)), []⟩])
             .ret)
            .skip))
          (.reg [4] [
            ⟨none, (some 54), .ldV 4 none 12 true, []⟩,
            ⟨none, (some 55), .mov (.t 8), []⟩,
            ⟨none, (some 56), .mov (.t 9), []⟩,
            ⟨none, (some 57), .call true 346 [.t 54, .t 55, .t 56], []⟩,
            ⟨none, (some 4), .stV 4 none 12 (.t 57), []⟩]))))))
     (.reg [28] [
       ⟨none, (some 58), .bin .add (.t 28) (.c (.int .i64 1)), []⟩,
       ⟨none, (some 28), .mov (.t 58), []⟩]))))
def b115_2 : Cd :=
  (.seq
   (.reg [18] [
     ⟨none, (some 18), .bin .lss (.t 17) (.t 16), []⟩])
   (.seq
    (.cond (.t 18)
     .skip
     (.exit 0))
    (.seq
     (.block 1
      (.seq
       (.reg [6] [
         ⟨none, (some 19), .idxA 4 (.t 15) (.t 17), []⟩,
         ⟨none, (some 20), .ld 4 true (.t 19), []⟩,
         ⟨none, (some 6), .zero true [.int .i8 0, .int .i8 0, .int .i8 0, .bool false], []⟩,
         ⟨none, (some 6), .stV 6 none 4 (.t 20), []⟩])
       (.seq
        (.seq
         (.reg [23] [
           ⟨none, (some 21), .adrF 6 none 2, []⟩,
           ⟨none, (some 22), .ldV 6 (some 21) 1 false, []⟩,
           ⟨none, (some 23), .bin .lss (.t 22) (.c (.int .i8 1)), []⟩])
         (.cond (.t 23)
          (.seq
           (.reg [2, 3] [
             ⟨none, (some 24), .agg (zs 12 (.int .u16 0)) [], []⟩,
             ⟨none, (some 2), .stV 2 none 12 (.t 24), []⟩,
             ⟨none, (some 3), .mov (.c (.int .i64 2)), []⟩])
           .ret)
          .skip))
        (.seq
         (.reg [27, 28] [
           ⟨none, (some 25), .adrF 6 none 2, []⟩,
           ⟨none, (some 26), .ldV 6 (some 25) 1 false, []⟩,
           ⟨none, (some 27), .conv .i64 (.t 26), []⟩,
           ⟨none, (some 28), .mov (.c (.int .i64 0)), []⟩])
         (.block 2
          (.loop b115_1))))))
     (.reg [17] [
       ⟨none, (some 59), .bin .add (.t 17) (.c (.int .i64 1)), []⟩,
       ⟨none, (some 17), .mov (.t 59), []⟩]))))
def k115 : Cd :=
  (.seq
   (.reg [2, 3] [
     ⟨none, (some 2), .zero true (zs 12 (.int .u16 0)), []⟩,
     ⟨none, (some 3), .mov (.c (.int .i64 0)), []⟩])
   (.seq
    (.seq
     (.reg [12] [
       ⟨none, (some 10), .mov (.t 0), []⟩,
       ⟨none, (some 11), .len (.t 10), []⟩,
       ⟨none, (some 12), .bin .gtr (.t 11) (.c (.int .i64 80)), []⟩])
     (.cond (.t 12)
      (.seq
       (.reg [2, 3] [
         ⟨none, (some 13), .agg (zs 12 (.int .u16 0)) [], []⟩,
         ⟨none, (some 2), .stV 2 none 12 (.t 13), []⟩,
         ⟨none, (some 3), .mov (.c (.int .i64 2)), []⟩])
       .ret)
      .skip))
    (.seq
     (.reg [4] [
       ⟨none, (some 14), .agg (zs 12 (.int .u16 0)) [], []⟩,
       ⟨none, (some 4), .zero true (zs 12 (.int .u16 0)), []⟩,
       ⟨none, (some 4), .stV 4 none 12 (.t 14), []⟩])
     (.seq
      (.seq
       (.reg [15, 16, 17] [
         ⟨none, (some 15), .mov (.t 0), []⟩,
         ⟨none, (some 16), .len (.t 15), []⟩,
         ⟨none, (some 17), .mov (.c (.int .i64 0)), []⟩])
       (.block 0
        (.loop b115_2)))
      (.seq
       (.reg [2, 3] [
         ⟨none, (some 60), .ldV 4 none 12 true, []⟩,
         ⟨none, (some 2), .stV 2 none 12 (.t 60), []⟩,
         ⟨none, (some 3), .mov (.c (.int .i64 0)), []⟩])
       .ret)))))
def c115 : Fn := { np := 1, nt := 61, kind := .pure, res := [.v 2 12 true, .t 3], body := k115 }

/- laws.intactStrokeS -/
def k116 : Cd :=
  (.seq
   (.reg [4] [
     ⟨none, (some 4), .mov (.c (.bool false)), []⟩])
   (.seq
    (.reg [5] [
      ⟨none, (some 6), .mov (.t 1), []⟩,
      ⟨none, (some 7), .len (.t 6), []⟩,
      ⟨none, (some 8), .mov (.t 1), []⟩,
      ⟨none, (some 9), .len (.t 8), []⟩,
      ⟨none, (some 10), .call true 296 [.t 9], []⟩,
      ⟨none, (some 11), .bin .add (.t 7) (.t 10), []⟩,
      ⟨none, (some 5), .mov (.t 11), []⟩])
    (.seq
     (.reg [4] [
       ⟨none, (some 12), .mov (.t 0), []⟩,
       ⟨none, (some 13), .len (.t 12), []⟩,
       ⟨none, (some 14), .mov (.t 1), []⟩,
       ⟨none, (some 15), .len (.t 14), []⟩,
       ⟨none, (some 16), .bin .eql (.t 13) (.t 15), []⟩,
       ⟨none, (some 17), .mov (.t 16), []⟩,
       ⟨(some (17, true)), (some 18), .mov (.t 0), []⟩,
       ⟨(some (17, true)), (some 19), .mov (.t 5), []⟩,
       ⟨(some (17, true)), (some 20), .slcA 4 (.t 18) none (some (.t 19)) none, []⟩,
       ⟨(some (17, true)), (some 21), .mov (.t 1), []⟩,
       ⟨(some (17, true)), (some 22), .mov (.t 5), []⟩,
       ⟨(some (17, true)), (some 23), .slcA 4 (.t 21) none (some (.t 22)) none, []⟩,
       ⟨(some (17, true)), (some 24), .call true 138 [.t 20, .t 23], []⟩,
       ⟨none, (some 25), .pick (.t 17) (.t 24) (.c (.bool false)), []⟩,
       ⟨none, (some 4), .mov (.t 25), []⟩])
     .ret)))
def c116 : Fn := { np := 2, nt := 26, kind := .pure, res := [.t 4], body := k116 }

/- laws.eqStrokeS -/
def b138_1 : Cd :=
  (.seq
   (.seq
    (.reg [14] [
      ⟨none, (some 11), .mov (.t 5), []⟩,
      ⟨none, (some 12), .mov (.t 0), []⟩,
      ⟨none, (some 13), .len (.t 12), []⟩,
      ⟨none, (some 14), .bin .lss (.t 11) (.t 13), []⟩])
    (.cond (.t 14)
     .skip
     (.exit 0)))
   (.seq
    (.block 1
     (.seq
      (.reg [26] [
        ⟨none, (some 17), .mov (.t 0), []⟩,
        ⟨none, (some 18), .mov (.t 5), []⟩,
        ⟨none, (some 19), .idxA 4 (.t 17) (.t 18), []⟩,
        ⟨none, (some 20), .ld 4 true (.t 19), []⟩,
        ⟨none, (some 21), .mov (.t 1), []⟩,
        ⟨none, (some 22), .mov (.t 5), []⟩,
        ⟨none, (some 23), .idxA 4 (.t 21) (.t 22), []⟩,
        ⟨none, (some 24), .ld 4 true (.t 23), []⟩,
        ⟨none, (some 25), .call true 364 [.t 20, .t 24], []⟩,
        ⟨none, (some 26), .un .not (.t 25), []⟩])
      (.cond (.t 26)
       (.seq
        (.reg [4] [
          ⟨none, (some 4), .mov (.c (.bool false)), []⟩])
        .ret)
       .skip)))
    (.reg [5] [
      ⟨none, (some 15), .mov (.t 5), []⟩,
      ⟨none, (some 16), .bin .add (.t 15) (.c (.int .i64 1)), []⟩,
      ⟨none, (some 5), .mov (.t 16), []⟩])))
def k138 : Cd :=
  (.seq
   (.reg [4] [
     ⟨none, (some 4), .mov (.c (.bool false)), []⟩])
   (.seq
    (.seq
     (.reg [10] [
       ⟨none, (some 6), .mov (.t 0), []⟩,
       ⟨none, (some 7), .len (.t 6), []⟩,
       ⟨none, (some 8), .mov (.t 1), []⟩,
       ⟨none, (some 9), .len (.t 8), []⟩,
       ⟨none, (some 10), .bin .neq (.t 7) (.t 9), []⟩])
     (.cond (.t 10)
      (.seq
       (.reg [4] [
         ⟨none, (some 4), .mov (.c (.bool false)), []⟩])
       .ret)
      .skip))
    (.seq
     (.seq
      (.reg [5] [
        ⟨none, (some 5), .mov (.c (.int .i64 0)), []⟩])
      (.block 0
       (.loop b138_1)))
     (.seq
      (.reg [4] [
        ⟨none, (some 4), .mov (.c (.bool true)), []⟩])
      .ret))))
def c138 : Fn := { np := 2, nt := 27, kind := .pure, res := [.t 4], body := k138 }

/- impl.inRange -/
def k295 : Cd :=
  (.seq
   (.reg [6] [
     ⟨none, (some 6), .mov (.c (.bool false)), []⟩])
   (.seq
    (.reg [6] [
      ⟨none, (some 7), .mov (.t 1), []⟩,
      ⟨none, (some 8), .mov (.t 0), []⟩,
      ⟨none, (some 9), .bin .leq (.t 7) (.t 8), []⟩,
      ⟨none, (some 10), .mov (.t 9), []⟩,
      ⟨(some (10, true)), (some 11), .mov (.t 0), []⟩,
      ⟨(some (10, true)), (some 12), .mov (.t 2), []⟩,
      ⟨(some (10, true)), (some 13), .bin .leq (.t 11) (.t 12), []⟩,
      ⟨none, (some 14), .pick (.t 10) (.t 13) (.c (.bool false)), []⟩,
      ⟨none, (some 6), .mov (.t 14), []⟩])
    .ret))
def c295 : Fn := { np := 3, nt := 15, kind := .pure, res := [.t 6], body := k295 }

/- laws.roomBehind -/
def k296 : Cd :=
  (.seq
   (.reg [2] [
     ⟨none, (some 2), .mov (.c (.int .i64 0)), []⟩])
   (.seq
    (.seq
     (.reg [5] [
       ⟨none, (some 3), .mov (.t 0), []⟩,
       ⟨none, (some 4), .bin .rem (.t 3) (.c (.int .i64 6)), []⟩,
       ⟨none, (some 5), .bin .eql (.t 4) (.c (.int .i64 5)), []⟩])
     (.cond (.t 5)
      (.seq
       (.reg [2] [
         ⟨none, (some 2), .mov (.c (.int .i64 0)), []⟩])
       .ret)
      .skip))
    (.seq
     (.seq
      (.reg [8] [
        ⟨none, (some 6), .mov (.t 0), []⟩,
        ⟨none, (some 7), .bin .rem (.t 6) (.c (.int .i64 3)), []⟩,
        ⟨none, (some 8), .bin .eql (.t 7) (.c (.int .i64 0)), []⟩])
      (.cond (.t 8)
       (.seq
        (.reg [2] [
          ⟨none, (some 2), .mov (.c (.int .i64 1)), []⟩])
        .ret)
       .skip))
     (.seq
      (.reg [2] [
        ⟨none, (some 9), .mov (.t 0), []⟩,
        ⟨none, (some 2), .mov (.t 9), []⟩])
      .ret))))
def c296 : Fn := { np := 1, nt := 10, kind := .pure, res := [.t 2], body := k296 }

/- spec.l00In -/
def k304 : Cd :=
  (.seq
   (.reg [6] [
     ⟨none, (some 6), .mov (.c (.bool false)), []⟩])
   (.seq
    (.reg [6] [
      ⟨none, (some 7), .mov (.t 0), []⟩,
      ⟨none, (some 8), .mov (.t 1), []⟩,
      ⟨none, (some 9), .bin .geq (.t 7) (.t 8), []⟩,
      ⟨none, (some 10), .mov (.t 9), []⟩,
      ⟨(some (10, true)), (some 11), .mov (.t 0), []⟩,
      ⟨(some (10, true)), (some 12), .mov (.t 2), []⟩,
      ⟨(some (10, true)), (some 13), .bin .leq (.t 11) (.t 12), []⟩,
      ⟨none, (some 14), .pick (.t 10) (.t 13) (.c (.bool false)), []⟩,
      ⟨none, (some 6), .mov (.t 14), []⟩])
    .ret))
def c304 : Fn := { np := 3, nt := 15, kind := .pure, res := [.t 6], body := k304 }

/- spec.l01Put -/
def k305 : Cd :=
  (.seq
   (.reg [8] [
     ⟨none, (some 6), .mov (.t 1), []⟩,
     ⟨none, (some 7), .mov (.t 2), []⟩,
     ⟨none, (some 8), .call true 342 [.t 6, .t 7], []⟩])
   (.cond (.t 8)
    (.reg [] [
      ⟨none, (some 9), .mov (.t 0), []⟩,
      ⟨none, (some 10), .mov (.t 2), []⟩,
      ⟨none, (some 11), .mov (.t 0), []⟩,
      ⟨none, (some 12), .mov (.t 2), []⟩,
      ⟨none, (some 13), .nil (.t 11), []⟩,
      ⟨none, (some 14), .idxP 12 1 (.t 13) (.t 12), []⟩,
      ⟨none, (some 15), .ld 1 false (.t 14), []⟩,
      ⟨none, (some 16), .mov (.t 1), []⟩,
      ⟨none, (some 17), .conv .u64 (.t 16), []⟩,
      ⟨none, (some 18), .bin .shl (.c (.int .u16 1)) (.t 17), []⟩,
      ⟨none, (some 19), .bin .or (.t 15) (.t 18), []⟩,
      ⟨none, (some 20), .nil (.t 9), []⟩,
      ⟨none, (some 21), .idxP 12 1 (.t 20) (.t 10), []⟩,
      ⟨none, none, .st 1 (.t 21) (.t 19), []⟩])
    .skip))
def c305 : Fn := { np := 3, nt := 22, kind := .args, res := [], body := k305 }

/- spec.l01Place -/
def k342 : Cd :=
  (.seq
   (.reg [4] [
     ⟨none, (some 4), .mov (.c (.bool false)), []⟩])
   (.seq
    (.reg [4] [
      ⟨none, (some 5), .mov (.t 0), []⟩,
      ⟨none, (some 6), .call true 304 [.t 5, .c (.int .i64 0), .c (.int .i64 11)], []⟩,
      ⟨none, (some 7), .mov (.t 6), []⟩,
      ⟨(some (7, true)), (some 8), .mov (.t 1), []⟩,
      ⟨(some (7, true)), (some 9), .call true 304 [.t 8, .c (.int .i64 0), .c (.int .i64 11)], []⟩,
      ⟨none, (some 10), .pick (.t 7) (.t 9) (.c (.bool false)), []⟩,
      ⟨none, (some 4), .mov (.t 10), []⟩])
    .ret))
def c342 : Fn := { np := 2, nt := 11, kind := .pure, res := [.t 4], body := k342 }

/- laws.toStroke -/
def k343 : Cd :=
  (.seq
   (.reg [1, 2] [
     ⟨none, (some 1), .mov (.t 0), []⟩,
     ⟨none, (some 2), .zero true [.int .i8 0, .int .i8 0, .int .i8 0, .bool false], []⟩])
   (.seq
    (.reg [3] [
      ⟨none, (some 3), .zero true [.int .i8 0, .int .i8 0, .int .i8 0, .bool false], []⟩])
    (.seq
     (.reg [3] [
       ⟨none, (some 4), .adrF 1 none 0, []⟩,
       ⟨none, (some 5), .ldV 1 (some 4) 1 false, []⟩,
       ⟨none, (some 6), .adrF 3 none 0, []⟩,
       ⟨none, (some 3), .stV 3 (some 6) 1 (.t 5), []⟩])
     (.seq
      (.reg [3] [
        ⟨none, (some 7), .adrF 1 none 1, []⟩,
        ⟨none, (some 8), .ldV 1 (some 7) 1 false, []⟩,
        ⟨none, (some 9), .adrF 3 none 1, []⟩,
        ⟨none, (some 3), .stV 3 (some 9) 1 (.t 8), []⟩])
      (.seq
       (.reg [3] [
         ⟨none, (some 10), .adrF 1 none 2, []⟩,
         ⟨none, (some 11), .ldV 1 (some 10) 1 false, []⟩,
         ⟨none, (some 12), .adrF 3 none 2, []⟩,
         ⟨none, (some 3), .stV 3 (some 12) 1 (.t 11), []⟩])
       (.seq
        (.reg [3] [
          ⟨none, (some 13), .adrF 1 none 3, []⟩,
          ⟨none, (some 14), .ldV 1 (some 13) 1 false, []⟩,
          ⟨none, (some 15), .adrF 3 none 3, []⟩,
          ⟨none, (some 3), .stV 3 (some 15) 1 (.t 14), []⟩])
        (.seq
         (.reg [2] [
           ⟨none, (some 16), .ldV 3 none 4 true, []⟩,
           ⟨none, (some 2), .stV 2 none 4 (.t 16), []⟩])
         .ret)))))))
def c343 : Fn := { np := 1, nt := 17, kind := .pure, res := [.v 2 4 true], body := k343 }

/- laws.fillerStroke -/
def k344 : Cd :=
  (.seq
   (.reg [0] [
     ⟨none, (some 0), .zero true [.int .i8 0, .int .i8 0, .int .i8 0, .bool false], []⟩])
   (.seq
    (.reg [0] [
      ⟨none, (some 1), .agg [.int .i8 0, .int .i8 0, .int .i8 0, .bool false] [(0, 1, (.c (.int .i8 (-101)))), (1, 1, (.c (.int .i8 (-101)))), (2, 1, (.c (.int .i8 (-101)))), (3, 1, (.c (.bool true)))], []⟩,
      ⟨none, (some 0), .stV 0 none 4 (.t 1), []⟩])
    .ret))
def c344 : Fn := { np := 0, nt := 2, kind := .pure, res := [.v 0 4 true], body := k344 }

/- impl.isPlace -/
def k345 : Cd :=
  (.seq
   (.reg [4] [
     ⟨none, (some 4), .mov (.c (.bool false)), []⟩])
   (.seq
    (.reg [4] [
      ⟨none, (some 5), .mov (.t 0), []⟩,
      ⟨none, (some 6), .call true 295 [.t 5, .c (.int .i64 0), .c (.int .i64 11)], []⟩,
      ⟨none, (some 7), .mov (.t 6), []⟩,
      ⟨(some (7, true)), (some 8), .mov (.t 1), []⟩,
      ⟨(some (7, true)), (some 9), .call true 295 [.t 8, .c (.int .i64 0), .c (.int .i64 11)], []⟩,
      ⟨none, (some 10), .pick (.t 7) (.t 9) (.c (.bool false)), []⟩,
      ⟨none, (some 4), .mov (.t 10), []⟩])
    .ret))
def c345 : Fn := { np := 2, nt := 11, kind := .pure, res := [.t 4], body := k345 }

/- (impl.Frame).with -/
def k346 : Cd :=
  (.seq
   (.reg [3, 6] [
     ⟨none, (some 3), .mov (.t 0), []⟩,
     ⟨none, (some 6), .zero true (zs 12 (.int .u16 0)), []⟩])
   (.seq
    (.reg [3] [
      ⟨none, (some 7), .mov (.t 2), []⟩,
      ⟨none, (some 8), .adrI 3 none 12 1 (.t 7), []⟩,
      ⟨none, (some 9), .ldV 3 (some 8) 1 false, []⟩,
      ⟨none, (some 10), .mov (.t 1), []⟩,
      ⟨none, (some 11), .bin .shl (.c (.int .u16 1)) (.t 10), []⟩,
      ⟨none, (some 12), .bin .or (.t 9) (.t 11), []⟩,
      ⟨none, (some 13), .adrI 3 none 12 1 (.t 7), []⟩,
      ⟨none, (some 3), .stV 3 (some 13) 1 (.t 12), []⟩])
    (.seq
     (.reg [6] [
       ⟨none, (some 14), .ldV 3 none 12 true, []⟩,
       ⟨none, (some 6), .stV 6 none 12 (.t 14), []⟩])
     .ret)))
def c346 : Fn := { np := 3, nt := 15, kind := .pure, res := [.v 6 12 true], body := k346 }

/- laws.eqStroke -/
def k364 : Cd :=
  (.seq
   (.reg [2, 3, 4] [
     ⟨none, (some 2), .mov (.t 0), []⟩,
     ⟨none, (some 3), .mov (.t 1), []⟩,
     ⟨none, (some 4), .mov (.c (.bool false)), []⟩])
   (.seq
    (.seq
     (.reg [9] [
       ⟨none, (some 5), .adrF 2 none 0, []⟩,
       ⟨none, (some 6), .ldV 2 (some 5) 1 false, []⟩,
       ⟨none, (some 7), .adrF 3 none 0, []⟩,
       ⟨none, (some 8), .ldV 3 (some 7) 1 false, []⟩,
       ⟨none, (some 9), .bin .neq (.t 6) (.t 8), []⟩])
     (.cond (.t 9)
      (.seq
       (.reg [4] [
         ⟨none, (some 4), .mov (.c (.bool false)), []⟩])
       .ret)
      .skip))
    (.seq
     (.seq
      (.reg [14] [
        ⟨none, (some 10), .adrF 2 none 1, []⟩,
        ⟨none, (some 11), .ldV 2 (some 10) 1 false, []⟩,
        ⟨none, (some 12), .adrF 3 none 1, []⟩,
        ⟨none, (some 13), .ldV 3 (some 12) 1 false, []⟩,
        ⟨none, (some 14), .bin .neq (.t 11) (.t 13), []⟩])
      (.cond (.t 14)
       (.seq
        (.reg [4] [
          ⟨none, (some 4), .mov (.c (.bool false)), []⟩])
        .ret)
       .skip))
     (.seq
      (.seq
       (.reg [19] [
         ⟨none, (some 15), .adrF 2 none 2, []⟩,
         ⟨none, (some 16), .ldV 2 (some 15) 1 false, []⟩,
         ⟨none, (some 17), .adrF 3 none 2, []⟩,
         ⟨none, (some 18), .ldV 3 (some 17) 1 false, []⟩,
         ⟨none, (some 19), .bin .neq (.t 16) (.t 18), []⟩])
       (.cond (.t 19)
        (.seq
         (.reg [4] [
           ⟨none, (some 4), .mov (.c (.bool false)), []⟩])
         .ret)
        .skip))
      (.seq
       (.seq
        (.reg [24] [
          ⟨none, (some 20), .adrF 2 none 3, []⟩,
          ⟨none, (some 21), .ldV 2 (some 20) 1 false, []⟩,
          ⟨none, (some 22), .adrF 3 none 3, []⟩,
          ⟨none, (some 23), .ldV 3 (some 22) 1 false, []⟩,
          ⟨none, (some 24), .eq .b true (.t 21) (.t 23), []⟩])
        (.cond (.t 24)
         (.seq
          (.reg [4] [
            ⟨none, (some 4), .mov (.c (.bool false)), []⟩])
          .ret)
         .skip))
       (.seq
        (.reg [4] [
          ⟨none, (some 4), .mov (.c (.bool true)), []⟩])
        .ret))))))
def c364 : Fn := { np := 2, nt := 25, kind := .pure, res := [.t 4], body := k364 }


end Fb
