/- The functions of the law, in the small language. -/
import Derived.Test.YtkkncjfgnielgabDen
set_option linter.unusedVariables false
set_option linter.unusedSimpArgs false
namespace Fb
open Go

/- laws.FnExactFewestStrokes -/
def k20 : Cd :=
  (.seq
   (.reg [1, 2] [
     ⟨none, (some 1), .mov (.t 0), []⟩,
     ⟨none, (some 2), .mov (.c (.bool false)), []⟩])
   (.seq
    (.reg [3, 4] [
      ⟨none, (some 12), .ldV 1 none 12 true, []⟩,
      ⟨none, (some 13), .call true 134 [.t 12], []⟩,
      ⟨none, (some 14), .call true 141 [.t 13], []⟩,
      ⟨none, (some 11), .mov (.t 14), []⟩,
      ⟨none, (some 15), .ext (.t 11) 0, []⟩,
      ⟨none, (some 16), .ext (.t 11) 1, []⟩,
      ⟨none, (some 3), .mov (.t 15), []⟩,
      ⟨none, (some 4), .mov (.t 16), []⟩])
    (.seq
     (.reg [5, 6] [
       ⟨none, (some 18), .ldV 1 none 12 true, []⟩,
       ⟨none, (some 19), .call true 134 [.t 18], []⟩,
       ⟨none, (some 20), .call true 142 [.t 19], []⟩,
       ⟨none, (some 17), .mov (.t 20), []⟩,
       ⟨none, (some 21), .ext (.t 17) 0, []⟩,
       ⟨none, (some 22), .ext (.t 17) 1, []⟩,
       ⟨none, (some 5), .mov (.t 21), []⟩,
       ⟨none, (some 6), .mov (.t 22), []⟩])
     (.seq
      (.seq
       (.reg [31] [
         ⟨none, (some 23), .mov (.t 5), []⟩,
         ⟨none, (some 24), .mov (.t 3), []⟩,
         ⟨none, (some 25), .call true 138 [.t 23, .t 24], []⟩,
         ⟨none, (some 26), .un .not (.t 25), []⟩,
         ⟨none, (some 27), .mov (.t 26), []⟩,
         ⟨(some (27, false)), (some 28), .mov (.t 6), []⟩,
         ⟨(some (27, false)), (some 29), .mov (.t 4), []⟩,
         ⟨(some (27, false)), (some 30), .bin .neq (.t 28) (.t 29), []⟩,
         ⟨none, (some 31), .pick (.t 27) (.c (.bool true)) (.t 30), []⟩])
       (.cond (.t 31)
        (.seq
         (.reg [2] [
           ⟨none, (some 2), .mov (.c (.bool false)), []⟩])
         .ret)
        .skip))
      (.seq
       (.reg [7] [
         ⟨none, (some 7), .mov (.c (.int .i64 101)), []⟩])
       (.seq
        (.reg [7] [
          ⟨none, (some 32), .mov (.t 5), []⟩,
          ⟨none, (some 33), .mov (.t 7), []⟩,
          ⟨none, (some 34), .call false 139 [.t 32, .t 33], []⟩,
          ⟨none, (some 7), .mov (.t 34), []⟩])
        (.seq
         (.reg [8] [
           ⟨none, (some 8), .mov (.c (.int .i64 101)), []⟩])
         (.seq
          (.reg [8] [
            ⟨none, (some 35), .mov (.t 5), []⟩,
            ⟨none, (some 36), .mov (.t 8), []⟩,
            ⟨none, (some 37), .call true 140 [.t 35, .t 36], []⟩,
            ⟨none, (some 8), .mov (.t 37), []⟩])
          (.seq
           (.seq
            (.reg [39] [
              ⟨none, (some 38), .mov (.t 8), []⟩,
              ⟨none, (some 39), .bin .lss (.t 38) (.c (.int .i64 0)), []⟩])
            (.cond (.t 39)
             (.seq
              (.reg [2] [
                ⟨none, (some 2), .mov (.c (.bool false)), []⟩])
              .ret)
             .skip))
           (.seq
            (.seq
             (.reg [42] [
               ⟨none, (some 40), .mov (.t 8), []⟩,
               ⟨none, (some 41), .mov (.t 7), []⟩,
               ⟨none, (some 42), .bin .neq (.t 40) (.t 41), []⟩])
             (.cond (.t 42)
              (.seq
               (.reg [2] [
                 ⟨none, (some 2), .mov (.c (.bool false)), []⟩])
               .ret)
              .skip))
            (.seq
             (.reg [9, 10] [
               ⟨none, (some 44), .ldV 1 none 12 true, []⟩,
               ⟨none, (some 45), .call true 134 [.t 44], []⟩,
               ⟨none, (some 46), .call true 142 [.t 45], []⟩,
               ⟨none, (some 43), .mov (.t 46), []⟩,
               ⟨none, (some 47), .ext (.t 43) 0, []⟩,
               ⟨none, (some 48), .ext (.t 43) 1, []⟩,
               ⟨none, (some 9), .mov (.t 47), []⟩,
               ⟨none, (some 10), .mov (.t 48), []⟩])
             (.seq
              (.seq
               (.reg [57] [
                 ⟨none, (some 49), .mov (.t 9), []⟩,
                 ⟨none, (some 50), .mov (.t 3), []⟩,
                 ⟨none, (some 51), .call true 138 [.t 49, .t 50], []⟩,
                 ⟨none, (some 52), .un .not (.t 51), []⟩,
                 ⟨none, (some 53), .mov (.t 52), []⟩,
                 ⟨(some (53, false)), (some 54), .mov (.t 10), []⟩,
                 ⟨(some (53, false)), (some 55), .mov (.t 4), []⟩,
                 ⟨(some (53, false)), (some 56), .bin .neq (.t 54) (.t 55), []⟩,
                 ⟨none, (some 57), .pick (.t 53) (.c (.bool true)) (.t 56), []⟩])
               (.cond (.t 57)
                (.seq
                 (.reg [2] [
                   ⟨none, (some 2), .mov (.c (.bool false)), []⟩])
                 .ret)
                .skip))
              (.seq
               (.reg [8] [
                 ⟨none, (some 8), .mov (.c (.int .i64 101)), []⟩])
               (.seq
                (.reg [8] [
                  ⟨none, (some 58), .mov (.t 5), []⟩,
                  ⟨none, (some 59), .mov (.t 8), []⟩,
                  ⟨none, (some 60), .call true 140 [.t 58, .t 59], []⟩,
                  ⟨none, (some 8), .mov (.t 60), []⟩])
                (.seq
                 (.seq
                  (.reg [62] [
                    ⟨none, (some 61), .mov (.t 8), []⟩,
                    ⟨none, (some 62), .bin .lss (.t 61) (.c (.int .i64 0)), []⟩])
                  (.cond (.t 62)
                   (.seq
                    (.reg [2] [
                      ⟨none, (some 2), .mov (.c (.bool false)), []⟩])
                    .ret)
                   .skip))
                 (.seq
                  (.seq
                   (.reg [65] [
                     ⟨none, (some 63), .mov (.t 8), []⟩,
                     ⟨none, (some 64), .mov (.t 7), []⟩,
                     ⟨none, (some 65), .bin .neq (.t 63) (.t 64), []⟩])
                   (.cond (.t 65)
                    (.seq
                     (.reg [2] [
                       ⟨none, (some 2), .mov (.c (.bool false)), []⟩])
                     .ret)
                    .skip))
                  (.seq
                   (.reg [2] [
                     ⟨none, (some 2), .mov (.c (.bool true)), []⟩])
                   .ret)))))))))))))))))
def c20 : Fn := { np := 1, nt := 66, kind := .pure, res := [.t 2], body := k20 }

/- laws.toFrame -/
def b134_1 : Cd :=
  (.seq
   (.seq
    (.reg [6] [
      ⟨none, (some 5), .mov (.t 4), []⟩,
      ⟨none, (some 6), .bin .lss (.t 5) (.c (.int .i64 12)), []⟩])
    (.cond (.t 6)
     .skip
     (.exit 0)))
   (.seq
    (.block 1
     (.reg [3] [
       ⟨none, (some 9), .mov (.t 4), []⟩,
       ⟨none, (some 10), .mov (.t 4), []⟩,
       ⟨none, (some 11), .adrI 1 none 12 1 (.t 10), []⟩,
       ⟨none, (some 12), .ldV 1 (some 11) 1 false, []⟩,
       ⟨none, (some 13), .adrI 3 none 12 1 (.t 9), []⟩,
       ⟨none, (some 3), .stV 3 (some 13) 1 (.t 12), []⟩]))
    (.reg [4] [
      ⟨none, (some 7), .mov (.t 4), []⟩,
      ⟨none, (some 8), .bin .add (.t 7) (.c (.int .i64 1)), []⟩,
      ⟨none, (some 4), .mov (.t 8), []⟩])))
def k134 : Cd :=
  (.seq
   (.reg [1, 2] [
     ⟨none, (some 1), .mov (.t 0), []⟩,
     ⟨none, (some 2), .zero true (zs 12 (.int .u16 0)), []⟩])
   (.seq
    (.reg [3] [
      ⟨none, (some 3), .zero true (zs 12 (.int .u16 0)), []⟩])
    (.seq
     (.seq
      (.reg [4] [
        ⟨none, (some 4), .mov (.c (.int .i64 0)), []⟩])
      (.block 0
       (.loop b134_1)))
     (.seq
      (.reg [2] [
        ⟨none, (some 14), .ldV 3 none 12 true, []⟩,
        ⟨none, (some 2), .stV 2 none 12 (.t 14), []⟩])
      .ret))))
def c134 : Fn := { np := 1, nt := 15, kind := .pure, res := [.v 2 12 true], body := k134 }

/- laws.eqStrokeS -/
def b138_1 : Cd :=
  (.seq
   (.seq
    (.reg [14] [
      ⟨none, (some 11), .mov (.t 5), []⟩,
      ⟨none, (some 12), .mov (.t 0), []⟩,
      ⟨none, (some 13), .len (.t 12), []⟩,
      ⟨none, (some 14), .bin .lss (.t 11) (.t 13), []⟩])
    (.cond (.t 14)
     .skip
     (.exit 0)))
   (.seq
    (.block 1
     (.seq
      (.reg [26] [
        ⟨none, (some 17), .mov (.t 0), []⟩,
        ⟨none, (some 18), .mov (.t 5), []⟩,
        ⟨none, (some 19), .idxA 4 (.t 17) (.t 18), []⟩,
        ⟨none, (some 20), .ld 4 true (.t 19), []⟩,
        ⟨none, (some 21), .mov (.t 1), []⟩,
        ⟨none, (some 22), .mov (.t 5), []⟩,
        ⟨none, (some 23), .idxA 4 (.t 21) (.t 22), []⟩,
        ⟨none, (some 24), .ld 4 true (.t 23), []⟩,
        ⟨none, (some 25), .call true 364 [.t 20, .t 24], []⟩,
        ⟨none, (some 26), .un .not (.t 25), []⟩])
      (.cond (.t 26)
       (.seq
        (.reg [4] [
          ⟨none, (some 4), .mov (.c (.bool false)), []⟩])
        .ret)
       .skip)))
    (.reg [5] [
      ⟨none, (some 15), .mov (.t 5), []⟩,
      ⟨none, (some 16), .bin .add (.t 15) (.c (.int .i64 1)), []⟩,
      ⟨none, (some 5), .mov (.t 16), []⟩])))
def k138 : Cd :=
  (.seq
   (.reg [4] [
     ⟨none, (some 4), .mov (.c (.bool false)), []⟩])
   (.seq
    (.seq
     (.reg [10] [
       ⟨none, (some 6), .mov (.t 0), []⟩,
       ⟨none, (some 7), .len (.t 6), []⟩,
       ⟨none, (some 8), .mov (.t 1), []⟩,
       ⟨none, (some 9), .len (.t 8), []⟩,
       ⟨none, (some 10), .bin .neq (.t 7) (.t 9), []⟩])
     (.cond (.t 10)
      (.seq
       (.reg [4] [
         ⟨none, (some 4), .mov (.c (.bool false)), []⟩])
       .ret)
      .skip))
    (.seq
     (.seq
      (.reg [5] [
        ⟨none, (some 5), .mov (.c (.int .i64 0)), []⟩])
      (.block 0
       (.loop b138_1)))
     (.seq
      (.reg [4] [
        ⟨none, (some 4), .mov (.c (.bool true)), []⟩])
      .ret))))
def c138 : Fn := { np := 2, nt := 27, kind := .pure, res := [.t 4], body := k138 }

/- laws.markStrokeS -/
def b139_1 : Cd :=
  (.seq
   (.seq
    (.reg [9] [
      ⟨none, (some 6), .mov (.t 5), []⟩,
      ⟨none, (some 7), .mov (.t 0), []⟩,
      ⟨none, (some 8), .len (.t 7), []⟩,
      ⟨none, (some 9), .bin .lss (.t 6) (.t 8), []⟩])
    (.cond (.t 9)
     .skip
     (.exit 0)))
   (.seq
    (.block 1
     (.seq
      (.reg [] [
        ⟨none, (some 12), .mov (.t 0), []⟩,
        ⟨none, (some 13), .mov (.t 5), []⟩,
        ⟨none, (some 14), .mov (.t 1), []⟩,
        ⟨none, (some 15), .conv .i8 (.t 14), []⟩,
        ⟨none, (some 16), .idxA 4 (.t 12) (.t 13), []⟩,
        ⟨none, (some 17), .fldP 0 (.t 16), []⟩,
        ⟨none, none, .st 1 (.t 17) (.t 15), []⟩])
      (.seq
       (.reg [1] [
         ⟨none, (some 18), .mov (.t 1), []⟩,
         ⟨none, (some 19), .bin .add (.t 18) (.c (.int .i64 1)), []⟩,
         ⟨none, (some 1), .mov (.t 19), []⟩])
       (.seq
        (.reg [] [
          ⟨none, (some 20), .mov (.t 0), []⟩,
          ⟨none, (some 21), .mov (.t 5), []⟩,
          ⟨none, (some 22), .mov (.t 1), []⟩,
          ⟨none, (some 23), .conv .i8 (.t 22), []⟩,
          ⟨none, (some 24), .idxA 4 (.t 20) (.t 21), []⟩,
          ⟨none, (some 25), .fldP 1 (.t 24), []⟩,
          ⟨none, none, .st 1 (.t 25) (.t 23), []⟩])
        (.seq
         (.reg [1] [
           ⟨none, (some 26), .mov (.t 1), []⟩,
           ⟨none, (some 27), .bin .add (.t 26) (.c (.int .i64 1)), []⟩,
           ⟨none, (some 1), .mov (.t 27), []⟩])
         (.seq
          (.reg [] [
            ⟨none, (some 28), .mov (.t 0), []⟩,
            ⟨none, (some 29), .mov (.t 5), []⟩,
            ⟨none, (some 30), .mov (.t 1), []⟩,
            ⟨none, (some 31), .conv .i8 (.t 30), []⟩,
            ⟨none, (some 32), .idxA 4 (.t 28) (.t 29), []⟩,
            ⟨none, (some 33), .fldP 2 (.t 32), []⟩,
            ⟨none, none, .st 1 (.t 33) (.t 31), []⟩])
          (.seq
           (.reg [1] [
             ⟨none, (some 34), .mov (.t 1), []⟩,
             ⟨none, (some 35), .bin .add (.t 34) (.c (.int .i64 1)), []⟩,
             ⟨none, (some 1), .mov (.t 35), []⟩])
           (.seq
            (.reg [] [
              ⟨none, (some 36), .mov (.t 0), []⟩,
              ⟨none, (some 37), .mov (.t 5), []⟩,
              ⟨none, (some 38), .mov (.t 1), []⟩,
              ⟨none, (some 39), .bin .rem (.t 38) (.c (.int .i64 3)), []⟩,
              ⟨none, (some 40), .bin .eql (.t 39) (.c (.int .i64 0)), []⟩,
              ⟨none, (some 41), .idxA 4 (.t 36) (.t 37), []⟩,
              ⟨none, (some 42), .fldP 3 (.t 41), []⟩,
              ⟨none, none, .st 1 (.t 42) (.t 40), []⟩])
            (.reg [1] [
              ⟨none, (some 43), .mov (.t 1), []⟩,
              ⟨none, (some 44), .bin .add (.t 43) (.c (.int .i64 1)), []⟩,
              ⟨none, (some 1), .mov (.t 44), []⟩])))))))))
    (.reg [5] [
      ⟨none, (some 10), .mov (.t 5), []⟩,
      ⟨none, (some 11), .bin .add (.t 10) (.c (.int .i64 1)), []⟩,
      ⟨none, (some 5), .mov (.t 11), []⟩])))
def k139 : Cd :=
  (.seq
   (.reg [4] [
     ⟨none, (some 4), .mov (.c (.int .i64 0)), []⟩])
   (.seq
    (.seq
     (.reg [5] [
       ⟨none, (some 5), .mov (.c (.int .i64 0)), []⟩])
     (.block 0
      (.loop b139_1)))
    (.seq
     (.reg [4] [
       ⟨none, (some 45), .mov (.t 1), []⟩,
       ⟨none, (some 4), .mov (.t 45), []⟩])
     .ret)))
def c139 : Fn := { np := 2, nt := 46, kind := .args, res := [.t 4], body := k139 }

/- laws.heldStrokeS -/
def b140_1 : Cd :=
  (.seq
   (.seq
    (.reg [9] [
      ⟨none, (some 6), .mov (.t 5), []⟩,
      ⟨none, (some 7), .mov (.t 0), []⟩,
      ⟨none, (some 8), .len (.t 7), []⟩,
      ⟨none, (some 9), .bin .lss (.t 6) (.t 8), []⟩])
    (.cond (.t 9)
     .skip
     (.exit 0)))
   (.seq
    (.block 1
     (.seq
      (.seq
       (.reg [19] [
         ⟨none, (some 12), .mov (.t 0), []⟩,
         ⟨none, (some 13), .mov (.t 5), []⟩,
         ⟨none, (some 14), .idxA 4 (.t 12) (.t 13), []⟩,
         ⟨none, (some 15), .fldP 0 (.t 14), []⟩,
         ⟨none, (some 16), .ld 1 false (.t 15), []⟩,
         ⟨none, (some 17), .mov (.t 1), []⟩,
         ⟨none, (some 18), .conv .i8 (.t 17), []⟩,
         ⟨none, (some 19), .bin .neq (.t 16) (.t 18), []⟩])
       (.cond (.t 19)
        (.seq
         (.reg [4] [
           ⟨none, (some 4), .mov (.c (.int .i64 (-1))), []⟩])
         .ret)
        .skip))
      (.seq
       (.reg [1] [
         ⟨none, (some 20), .mov (.t 1), []⟩,
         ⟨none, (some 21), .bin .add (.t 20) (.c (.int .i64 1)), []⟩,
         ⟨none, (some 1), .mov (.t 21), []⟩])
       (.seq
        (.seq
         (.reg [29] [
           ⟨none, (some 22), .mov (.t 0), []⟩,
           ⟨none, (some 23), .mov (.t 5), []⟩,
           ⟨none, (some 24), .idxA 4 (.t 22) (.t 23), []⟩,
           ⟨none, (some 25), .fldP 1 (.t 24), []⟩,
           ⟨none, (some 26), .ld 1 false (.t 25), []⟩,
           ⟨none, (some 27), .mov (.t 1), []⟩,
           ⟨none, (some 28), .conv .i8 (.t 27), []⟩,
           ⟨none, (some 29), .bin .neq (.t 26) (.t 28), []⟩])
         (.cond (.t 29)
          (.seq
           (.reg [4] [
             ⟨none, (some 4), .mov (.c (.int .i64 (-1))), []⟩])
           .ret)
          .skip))
        (.seq
         (.reg [1] [
           ⟨none, (some 30), .mov (.t 1), []⟩,
           ⟨none, (some 31), .bin .add (.t 30) (.c (.int .i64 1)), []⟩,
           ⟨none, (some 1), .mov (.t 31), []⟩])
         (.seq
          (.seq
           (.reg [39] [
             ⟨none, (some 32), .mov (.t 0), []⟩,
             ⟨none, (some 33), .mov (.t 5), []⟩,
             ⟨none, (some 34), .idxA 4 (.t 32) (.t 33), []⟩,
             ⟨none, (some 35), .fldP 2 (.t 34), []⟩,
             ⟨none, (some 36), .ld 1 false (.t 35), []⟩,
             ⟨none, (some 37), .mov (.t 1), []⟩,
             ⟨none, (some 38), .conv .i8 (.t 37), []⟩,
             ⟨none, (some 39), .bin .neq (.t 36) (.t 38), []⟩])
           (.cond (.t 39)
            (.seq
             (.reg [4] [
               ⟨none, (some 4), .mov (.c (.int .i64 (-1))), []⟩])
             .ret)
            .skip))
          (.seq
           (.reg [1] [
             ⟨none, (some 40), .mov (.t 1), []⟩,
             ⟨none, (some 41), .bin .add (.t 40) (.c (.int .i64 1)), []⟩,
             ⟨none, (some 1), .mov (.t 41), []⟩])
           (.seq
            (.seq
             (.reg [50] [
               ⟨none, (some 42), .mov (.t 0), []⟩,
               ⟨none, (some 43), .mov (.t 5), []⟩,
               ⟨none, (some 44), .idxA 4 (.t 42) (.t 43), []⟩,
               ⟨none, (some 45), .fldP 3 (.t 44), []⟩,
               ⟨none, (some 46), .ld 1 false (.t 45), []⟩,
               ⟨none, (some 47), .mov (.t 1), []⟩,
               ⟨none, (some 48), .bin .rem (.t 47) (.c (.int .i64 3)), []⟩,
               ⟨none, (some 49), .bin .eql (.t 48) (.c (.int .i64 0)), []⟩,
               ⟨none, (some 50), .eq .b true (.t 46) (.t 49), []⟩])
             (.cond (.t 50)
              (.seq
               (.reg [4] [
                 ⟨none, (some 4), .mov (.c (.int .i64 (-1))), []⟩])
               .ret)
              .skip))
            (.reg [1] [
              ⟨none, (some 51), .mov (.t 1), []⟩,
              ⟨none, (some 52), .bin .add (.t 51) (.c (.int .i64 1)), []⟩,
              ⟨none, (some 1), .mov (.t 52), []⟩])))))))))
    (.reg [5] [
      ⟨none, (some 10), .mov (.t 5), []⟩,
      ⟨none, (some 11), .bin .add (.t 10) (.c (.int .i64 1)), []⟩,
      ⟨none, (some 5), .mov (.t 11), []⟩])))
def k140 : Cd :=
  (.seq
   (.reg [4] [
     ⟨none, (some 4), .mov (.c (.int .i64 0)), []⟩])
   (.seq
    (.seq
     (.reg [5] [
       ⟨none, (some 5), .mov (.c (.int .i64 0)), []⟩])
     (.block 0
      (.loop b140_1)))
    (.seq
     (.reg [4] [
       ⟨none, (some 53), .mov (.t 1), []⟩,
       ⟨none, (some 4), .mov (.t 53), []⟩])
     .ret)))
def c140 : Fn := { np := 2, nt := 54, kind := .pure, res := [.t 4], body := k140 }

/- spec.FewestStrokes -/
def k141 : Cd :=
  (.seq
   (.reg [1, 2, 3] [
     ⟨none, (some 1), .box 12 (.t 0), []⟩,
     ⟨none, (some 2), .mov (.c (.slice none 0 0)), []⟩,
     ⟨none, (some 3), .mov (.c (.int .i64 0)), []⟩])
   (.seq
    (.seq
     (.reg [7] [
       ⟨none, (some 6), .call true 359 [.t 1], []⟩,
       ⟨none, (some 7), .un .not (.t 6), []⟩])
     (.cond (.t 7)
      (.seq
       (.reg [2, 3] [
         ⟨none, (some 8), .bldS 4 0 [.int .i8 0, .int .i8 0, .int .i8 0, .bool false] [], []⟩,
         ⟨none, (some 2), .mov (.t 8), []⟩,
         ⟨none, (some 3), .mov (.c (.int .i64 1)), []⟩])
       .ret)
      .skip))
    (.seq
     (.reg [4] [
       ⟨none, (some 9), .call true 362 [.t 1, .c (.bool false)], []⟩,
       ⟨none, (some 4), .mov (.t 9), []⟩])
     (.seq
      (.reg [5] [
        ⟨none, (some 10), .call true 362 [.t 1, .c (.bool true)], []⟩,
        ⟨none, (some 5), .mov (.t 10), []⟩])
      (.seq
       (.seq
        (.reg [15] [
          ⟨none, (some 11), .mov (.t 5), []⟩,
          ⟨none, (some 12), .len (.t 11), []⟩,
          ⟨none, (some 13), .mov (.t 4), []⟩,
          ⟨none, (some 14), .len (.t 13), []⟩,
          ⟨none, (some 15), .bin .lss (.t 12) (.t 14), []⟩])
        (.cond (.t 15)
         (.seq
          (.reg [2, 3] [
            ⟨none, (some 16), .mov (.t 5), []⟩,
            ⟨none, (some 2), .mov (.t 16), []⟩,
            ⟨none, (some 3), .mov (.c (.int .i64 0)), []⟩])
          .ret)
         .skip))
       (.seq
        (.reg [2, 3] [
          ⟨none, (some 17), .mov (.t 4), []⟩,
          ⟨none, (some 2), .mov (.t 17), []⟩,
          ⟨none, (some 3), .mov (.c (.int .i64 0)), []⟩])
        .ret))))))
def c141 : Fn := { np := 1, nt := 18, kind := .pure, res := [.t 2, .t 3], body := k141 }

/- impl.FewestStrokes -/
def k142 : Cd :=
  (.seq
   (.reg [1, 2, 3] [
     ⟨none, (some 1), .mov (.t 0), []⟩,
     ⟨none, (some 2), .mov (.c (.slice none 0 0)), []⟩,
     ⟨none, (some 3), .mov (.c (.int .i64 0)), []⟩])
   (.seq
    (.seq
     (.reg [8] [
       ⟨none, (some 6), .ldV 1 none 12 true, []⟩,
       ⟨none, (some 7), .call true 234 [.t 6], []⟩,
       ⟨none, (some 8), .un .not (.t 7), []⟩])
     (.cond (.t 8)
      (.seq
       (.reg [2, 3] [
         ⟨none, (some 2), .mov (.c (.slice none 0 0)), []⟩,
         ⟨none, (some 3), .mov (.c (.int .i64 1)), []⟩])
       .ret)
      .skip))
    (.seq
     (.reg [4, 5] [
       ⟨none, (some 9), .ldV 1 none 12 true, []⟩,
       ⟨none, (some 11), .ldV 1 none 12 true, []⟩,
       ⟨none, (some 10), .call true 363 [.t 9, .c (.bool false)], []⟩,
       ⟨none, (some 12), .call true 363 [.t 11, .c (.bool true)], []⟩,
       ⟨none, (some 4), .mov (.t 10), []⟩,
       ⟨none, (some 5), .mov (.t 12), []⟩])
     (.seq
      (.seq
       (.reg [17] [
         ⟨none, (some 13), .mov (.t 5), []⟩,
         ⟨none, (some 14), .len (.t 13), []⟩,
         ⟨none, (some 15), .mov (.t 4), []⟩,
         ⟨none, (some 16), .len (.t 15), []⟩,
         ⟨none, (some 17), .bin .lss (.t 14) (.t 16), []⟩])
       (.cond (.t 17)
        (.seq
         (.reg [2, 3] [
           ⟨none, (some 18), .mov (.t 5), []⟩,
           ⟨none, (some 2), .mov (.t 18), []⟩,
           ⟨none, (some 3), .mov (.c (.int .i64 0)), []⟩])
         .ret)
        .skip))
      (.seq
       (.reg [2, 3] [
         ⟨none, (some 19), .mov (.t 4), []⟩,
         ⟨none, (some 2), .mov (.t 19), []⟩,
         ⟨none, (some 3), .mov (.c (.int .i64 0)), []⟩])
       .ret)))))
def c142 : Fn := { np := 1, nt := 20, kind := .pure, res := [.t 2, .t 3], body := k142 }

/- impl.ValidFrame -/
def k234 : Cd :=
  (.seq
   (.reg [1, 2] [
     ⟨none, (some 1), .box 12 (.t 0), []⟩,
     ⟨none, (some 2), .mov (.c (.bool false)), []⟩])
   (.seq
    (.reg [2] [
      ⟨none, (some 3), .slcP 12 1 (.t 1), []⟩,
      ⟨none, (some 4), .call true 445 [.t 3, .f 446], []⟩,
      ⟨none, (some 5), .un .not (.t 4), []⟩,
      ⟨none, (some 2), .mov (.t 5), []⟩])
    .ret))
def c234 : Fn := { np := 1, nt := 6, kind := .pure, res := [.t 2], body := k234 }

/- impl.inRange -/
def k295 : Cd :=
  (.seq
   (.reg [6] [
     ⟨none, (some 6), .mov (.c (.bool false)), []⟩])
   (.seq
    (.reg [6] [
      ⟨none, (some 7), .mov (.t 1), []⟩,
      ⟨none, (some 8), .mov (.t 0), []⟩,
      ⟨none, (some 9), .bin .leq (.t 7) (.t 8), []⟩,
      ⟨none, (some 10), .mov (.t 9), []⟩,
      ⟨(some (10, true)), (some 11), .mov (.t 0), []⟩,
      ⟨(some (10, true)), (some 12), .mov (.t 2), []⟩,
      ⟨(some (10, true)), (some 13), .bin .leq (.t 11) (.t 12), []⟩,
      ⟨none, (some 14), .pick (.t 10) (.t 13) (.c (.bool false)), []⟩,
      ⟨none, (some 6), .mov (.t 14), []⟩])
    .ret))
def c295 : Fn := { np := 3, nt := 15, kind := .pure, res := [.t 6], body := k295 }

/- spec.l00In -/
def k304 : Cd :=
  (.seq
   (.reg [6] [
     ⟨none, (some 6), .mov (.c (.bool false)), []⟩])
   (.seq
    (.reg [6] [
      ⟨none, (some 7), .mov (.t 0), []⟩,
      ⟨none, (some 8), .mov (.t 1), []⟩,
      ⟨none, (some 9), .bin .geq (.t 7) (.t 8), []⟩,
      ⟨none, (some 10), .mov (.t 9), []⟩,
      ⟨(some (10, true)), (some 11), .mov (.t 0), []⟩,
      ⟨(some (10, true)), (some 12), .mov (.t 2), []⟩,
      ⟨(some (10, true)), (some 13), .bin .leq (.t 11) (.t 12), []⟩,
      ⟨none, (some 14), .pick (.t 10) (.t 13) (.c (.bool false)), []⟩,
      ⟨none, (some 6), .mov (.t 14), []⟩])
    .ret))
def c304 : Fn := { np := 3, nt := 15, kind := .pure, res := [.t 6], body := k304 }

/- spec.l01Place -/
def k342 : Cd :=
  (.seq
   (.reg [4] [
     ⟨none, (some 4), .mov (.c (.bool false)), []⟩])
   (.seq
    (.reg [4] [
      ⟨none, (some 5), .mov (.t 0), []⟩,
      ⟨none, (some 6), .call true 304 [.t 5, .c (.int .i64 0), .c (.int .i64 11)], []⟩,
      ⟨none, (some 7), .mov (.t 6), []⟩,
      ⟨(some (7, true)), (some 8), .mov (.t 1), []⟩,
      ⟨(some (7, true)), (some 9), .call true 304 [.t 8, .c (.int .i64 0), .c (.int .i64 11)], []⟩,
      ⟨none, (some 10), .pick (.t 7) (.t 9) (.c (.bool false)), []⟩,
      ⟨none, (some 4), .mov (.t 10), []⟩])
    .ret))
def c342 : Fn := { np := 2, nt := 11, kind := .pure, res := [.t 4], body := k342 }

/- impl.isPlace -/
def k345 : Cd :=
  (.seq
   (.reg [4] [
     ⟨none, (some 4), .mov (.c (.bool false)), []⟩])
   (.seq
    (.reg [4] [
      ⟨none, (some 5), .mov (.t 0), []⟩,
      ⟨none, (some 6), .call true 295 [.t 5, .c (.int .i64 0), .c (.int .i64 11)], []⟩,
      ⟨none, (some 7), .mov (.t 6), []⟩,
      ⟨(some (7, true)), (some 8), .mov (.t 1), []⟩,
      ⟨(some (7, true)), (some 9), .call true 295 [.t 8, .c (.int .i64 0), .c (.int .i64 11)], []⟩,
      ⟨none, (some 10), .pick (.t 7) (.t 9) (.c (.bool false)), []⟩,
      ⟨none, (some 4), .mov (.t 10), []⟩])
    .ret))
def c345 : Fn := { np := 2, nt := 11, kind := .pure, res := [.t 4], body := k345 }

/- spec.l01Ok -/
def b359_1 : Cd :=
  (.seq
   (.seq
    (.reg [5] [
      ⟨none, (some 4), .mov (.t 3), []⟩,
      ⟨none, (some 5), .bin .lss (.t 4) (.c (.int .i64 12)), []⟩])
    (.cond (.t 5)
     .skip
     (.exit 0)))
   (.seq
    (.block 1
     (.seq
      (.reg [13] [
        ⟨none, (some 8), .mov (.t 0), []⟩,
        ⟨none, (some 9), .mov (.t 3), []⟩,
        ⟨none, (some 10), .nil (.t 8), []⟩,
        ⟨none, (some 11), .idxP 12 1 (.t 10) (.t 9), []⟩,
        ⟨none, (some 12), .ld 1 false (.t 11), []⟩,
        ⟨none, (some 13), .bin .gtr (.t 12) (.c (.int .u16 4095)), []⟩])
      (.cond (.t 13)
       (.seq
        (.reg [2] [
          ⟨none, (some 2), .mov (.c (.bool false)), []⟩])
        .ret)
       .skip)))
    (.reg [3] [
      ⟨none, (some 6), .mov (.t 3), []⟩,
      ⟨none, (some 7), .bin .add (.t 6) (.c (.int .i64 1)), []⟩,
      ⟨none, (some 3), .mov (.t 7), []⟩])))
def k359 : Cd :=
  (.seq
   (.reg [2] [
     ⟨none, (some 2), .mov (.c (.bool false)), []⟩])
   (.seq
    (.seq
     (.reg [3] [
       ⟨none, (some 3), .mov (.c (.int .i64 0)), []⟩])
     (.block 0
      (.loop b359_1)))
    (.seq
     (.reg [2] [
       ⟨none, (some 2), .mov (.c (.bool true)), []⟩])
     .ret)))
def c359 : Fn := { np := 1, nt := 14, kind := .pure, res := [.t 2], body := k359 }

/- spec.l06Strokes -/
def b362_1 : Cd :=
  (.seq
   (.seq
    (.reg [47] [
      ⟨none, (some 36), .mov (.t 0), []⟩,
      ⟨none, (some 37), .mov (.t 9), []⟩,
      ⟨none, (some 38), .mov (.t 10), []⟩,
      ⟨none, (some 39), .mov (.t 5), []⟩,
      ⟨none, (some 40), .bin .mul (.t 38) (.t 39), []⟩,
      ⟨none, (some 41), .bin .add (.t 37) (.t 40), []⟩,
      ⟨none, (some 42), .mov (.t 8), []⟩,
      ⟨none, (some 43), .mov (.t 10), []⟩,
      ⟨none, (some 44), .mov (.t 6), []⟩,
      ⟨none, (some 45), .bin .mul (.t 43) (.t 44), []⟩,
      ⟨none, (some 46), .bin .add (.t 42) (.t 45), []⟩,
      ⟨none, (some 47), .call true 456 [.t 36, .t 41, .t 46], []⟩])
    (.cond (.t 47)
     .skip
     (.exit 4)))
   (.block 5
    (.reg [10] [
      ⟨none, (some 48), .mov (.t 10), []⟩,
      ⟨none, (some 49), .bin .add (.t 48) (.c (.int .i64 1)), []⟩,
      ⟨none, (some 10), .mov (.t 49), []⟩])))
def b362_2 : Cd :=
  (.seq
   (.seq
    (.reg [18] [
      ⟨none, (some 17), .mov (.t 9), []⟩,
      ⟨none, (some 18), .bin .lss (.t 17) (.c (.int .i64 12)), []⟩])
    (.cond (.t 18)
     .skip
     (.exit 2)))
   (.seq
    (.block 3
     (.seq
      (.seq
       (.reg [35] [
         ⟨none, (some 21), .mov (.t 0), []⟩,
         ⟨none, (some 22), .mov (.t 9), []⟩,
         ⟨none, (some 23), .mov (.t 8), []⟩,
         ⟨none, (some 24), .call true 456 [.t 21, .t 22, .t 23], []⟩,
         ⟨none, (some 25), .un .not (.t 24), []⟩,
         ⟨none, (some 26), .mov (.t 25), []⟩,
         ⟨(some (26, false)), (some 27), .mov (.t 0), []⟩,
         ⟨(some (26, false)), (some 28), .mov (.t 9), []⟩,
         ⟨(some (26, false)), (some 29), .mov (.t 5), []⟩,
         ⟨(some (26, false)), (some 30), .bin .sub (.t 28) (.t 29), []⟩,
         ⟨(some (26, false)), (some 31), .mov (.t 8), []⟩,
         ⟨(some (26, false)), (some 32), .mov (.t 6), []⟩,
         ⟨(some (26, false)), (some 33), .bin .sub (.t 31) (.t 32), []⟩,
         ⟨(some (26, false)), (some 34), .call true 456 [.t 27, .t 30, .t 33], []⟩,
         ⟨none, (some 35), .pick (.t 26) (.c (.bool true)) (.t 34), []⟩])
       (.cond (.t 35)
        (.exit 3)
        .skip))
      (.seq
       (.reg [10] [
         ⟨none, (some 10), .mov (.c (.int .i64 1)), []⟩])
       (.seq
        (.block 4
         (.loop b362_1))
        (.reg [7] [
          ⟨none, (some 50), .mov (.t 7), []⟩,
          ⟨none, (some 51), .mov (.t 9), []⟩,
          ⟨none, (some 52), .conv .i8 (.t 51), []⟩,
          ⟨none, (some 53), .mov (.t 8), []⟩,
          ⟨none, (some 54), .conv .i8 (.t 53), []⟩,
          ⟨none, (some 55), .mov (.t 10), []⟩,
          ⟨none, (some 56), .conv .i8 (.t 55), []⟩,
          ⟨none, (some 57), .mov (.t 1), []⟩,
          ⟨none, (some 58), .agg [.int .i8 0, .int .i8 0, .int .i8 0, .bool false] [(0, 1, (.t 52)), (1, 1, (.t 54)), (2, 1, (.t 56)), (3, 1, (.t 57))], []⟩,
          ⟨none, (some 59), .bldS 4 1 [.int .i8 0, .int .i8 0, .int .i8 0, .bool false] [(0, 4, (.t 58))], []⟩,
          ⟨none, (some 60), .app 4 4 (.t 50) (.t 59), []⟩,
          ⟨none, (some 7), .mov (.t 60), []⟩])))))
    (.reg [9] [
      ⟨none, (some 19), .mov (.t 9), []⟩,
      ⟨none, (some 20), .bin .add (.t 19) (.c (.int .i64 1)), []⟩,
      ⟨none, (some 9), .mov (.t 20), []⟩])))
def b362_3 : Cd :=
  (.seq
   (.seq
    (.reg [14] [
      ⟨none, (some 13), .mov (.t 8), []⟩,
      ⟨none, (some 14), .bin .lss (.t 13) (.c (.int .i64 12)), []⟩])
    (.cond (.t 14)
     .skip
     (.exit 0)))
   (.seq
    (.block 1
     (.seq
      (.reg [9] [
        ⟨none, (some 9), .mov (.c (.int .i64 0)), []⟩])
      (.block 2
       (.loop b362_2))))
    (.reg [8] [
      ⟨none, (some 15), .mov (.t 8), []⟩,
      ⟨none, (some 16), .bin .add (.t 15) (.c (.int .i64 1)), []⟩,
      ⟨none, (some 8), .mov (.t 16), []⟩])))
def k362 : Cd :=
  (.seq
   (.reg [4] [
     ⟨none, (some 4), .mov (.c (.slice none 0 0)), []⟩])
   (.seq
    (.reg [5] [
      ⟨none, (some 5), .mov (.c (.int .i64 1)), []⟩])
    (.seq
     (.reg [6] [
       ⟨none, (some 6), .mov (.c (.int .i64 0)), []⟩])
     (.seq
      (.seq
       (.reg [11] [
         ⟨none, (some 11), .mov (.t 1), []⟩])
       (.cond (.t 11)
        (.seq
         (.reg [5] [
           ⟨none, (some 5), .mov (.c (.int .i64 0)), []⟩])
         (.reg [6] [
           ⟨none, (some 6), .mov (.c (.int .i64 1)), []⟩]))
        .skip))
      (.seq
       (.reg [7] [
         ⟨none, (some 12), .bldS 4 0 [.int .i8 0, .int .i8 0, .int .i8 0, .bool false] [], []⟩,
         ⟨none, (some 7), .mov (.t 12), []⟩])
       (.seq
        (.seq
         (.reg [8] [
           ⟨none, (some 8), .mov (.c (.int .i64 0)), []⟩])
         (.block 0
          (.loop b362_3)))
        (.seq
         (.reg [4] [
           ⟨none, (some 61), .mov (.t 7), []⟩,
           ⟨none, (some 4), .mov (.t 61), []⟩])
         .ret)))))))
def c362 : Fn := { np := 2, nt := 62, kind := .pure, res := [.t 4], body := k362 }

/- (impl.Frame).strokes -/
def b363_1 : Cd :=
  (.seq
   (.seq
    (.reg [47] [
      ⟨none, (some 36), .ldV 2 none 12 true, []⟩,
      ⟨none, (some 37), .mov (.t 10), []⟩,
      ⟨none, (some 38), .mov (.t 12), []⟩,
      ⟨none, (some 39), .mov (.t 5), []⟩,
      ⟨none, (some 40), .bin .mul (.t 38) (.t 39), []⟩,
      ⟨none, (some 41), .bin .add (.t 37) (.t 40), []⟩,
      ⟨none, (some 42), .mov (.t 11), []⟩,
      ⟨none, (some 43), .mov (.t 12), []⟩,
      ⟨none, (some 44), .mov (.t 6), []⟩,
      ⟨none, (some 45), .bin .mul (.t 43) (.t 44), []⟩,
      ⟨none, (some 46), .bin .add (.t 42) (.t 45), []⟩,
      ⟨none, (some 47), .call true 395 [.t 36, .t 41, .t 46], []⟩])
    (.cond (.t 47)
     .skip
     (.exit 2)))
   (.block 3
    (.reg [12] [
      ⟨none, (some 48), .mov (.t 12), []⟩,
      ⟨none, (some 49), .bin .add (.t 48) (.c (.int .i64 1)), []⟩,
      ⟨none, (some 12), .mov (.t 49), []⟩])))
def b363_2 : Cd :=
  (.seq
   (.reg [19] [
     ⟨none, (some 19), .bin .lss (.t 18) (.t 17), []⟩])
   (.seq
    (.cond (.t 19)
     .skip
     (.exit 0))
    (.seq
     (.block 1
      (.seq
       (.reg [9] [
         ⟨none, (some 20), .idxA 2 (.t 16) (.t 18), []⟩,
         ⟨none, (some 21), .ld 2 true (.t 20), []⟩,
         ⟨none, (some 9), .zero true [.int .i8 0, .int .i8 0], []⟩,
         ⟨none, (some 9), .stV 9 none 2 (.t 21), []⟩])
       (.seq
        (.reg [10, 11] [
          ⟨none, (some 22), .adrF 9 none 0, []⟩,
          ⟨none, (some 23), .ldV 9 (some 22) 1 false, []⟩,
          ⟨none, (some 24), .conv .i64 (.t 23), []⟩,
          ⟨none, (some 25), .adrF 9 none 1, []⟩,
          ⟨none, (some 26), .ldV 9 (some 25) 1 false, []⟩,
          ⟨none, (some 27), .conv .i64 (.t 26), []⟩,
          ⟨none, (some 10), .mov (.t 24), []⟩,
          ⟨none, (some 11), .mov (.t 27), []⟩])
        (.seq
         (.seq
          (.reg [35] [
            ⟨none, (some 28), .ldV 2 none 12 true, []⟩,
            ⟨none, (some 29), .mov (.t 10), []⟩,
            ⟨none, (some 30), .mov (.t 5), []⟩,
            ⟨none, (some 31), .bin .sub (.t 29) (.t 30), []⟩,
            ⟨none, (some 32), .mov (.t 11), []⟩,
            ⟨none, (some 33), .mov (.t 6), []⟩,
            ⟨none, (some 34), .bin .sub (.t 32) (.t 33), []⟩,
            ⟨none, (some 35), .call true 395 [.t 28, .t 31, .t 34], []⟩])
          (.cond (.t 35)
           (.exit 1)
           .skip))
         (.seq
          (.reg [12] [
            ⟨none, (some 12), .mov (.c (.int .i64 1)), []⟩])
          (.seq
           (.block 2
            (.loop b363_1))
           (.reg [7] [
             ⟨none, (some 50), .mov (.t 7), []⟩,
             ⟨none, (some 51), .adrF 9 none 0, []⟩,
             ⟨none, (some 52), .ldV 9 (some 51) 1 false, []⟩,
             ⟨none, (some 53), .adrF 9 none 1, []⟩,
             ⟨none, (some 54), .ldV 9 (some 53) 1 false, []⟩,
             ⟨none, (some 55), .mov (.t 12), []⟩,
             ⟨none, (some 56), .conv .i8 (.t 55), []⟩,
             ⟨none, (some 57), .mov (.t 1), []⟩,
             ⟨none, (some 58), .agg [.int .i8 0, .int .i8 0, .int .i8 0, .bool false] [(0, 1, (.t 52)), (1, 1, (.t 54)), (2, 1, (.t 56)), (3, 1, (.t 57))], []⟩,
             ⟨none, (some 59), .bldS 4 1 [.int .i8 0, .int .i8 0, .int .i8 0, .bool false] [(0, 4, (.t 58))], []⟩,
             ⟨none, (some 60), .app 4 4 (.t 50) (.t 59), []⟩,
             ⟨none, (some 7), .mov (.t 60), []⟩])))))))
     (.reg [18] [
       ⟨none, (some 61), .bin .add (.t 18) (.c (.int .i64 1)), []⟩,
       ⟨none, (some 18), .mov (.t 61), []⟩]))))
def k363 : Cd :=
  (.seq
   (.reg [2, 4] [
     ⟨none, (some 2), .mov (.t 0), []⟩,
     ⟨none, (some 4), .mov (.c (.slice none 0 0)), []⟩])
   (.seq
    (.reg [5, 6] [
      ⟨none, (some 5), .mov (.c (.int .i64 1)), []⟩,
      ⟨none, (some 6), .mov (.c (.int .i64 0)), []⟩])
    (.seq
     (.seq
      (.reg [13] [
        ⟨none, (some 13), .mov (.t 1), []⟩])
      (.cond (.t 13)
       (.reg [5, 6] [
         ⟨none, (some 5), .mov (.c (.int .i64 0)), []⟩,
         ⟨none, (some 6), .mov (.c (.int .i64 1)), []⟩])
       .skip))
     (.seq
      (.reg [7] [
        ⟨none, (some 14), .bldS 4 0 [.int .i8 0, .int .i8 0, .int .i8 0, .bool false] [], []⟩,
        ⟨none, (some 7), .mov (.t 14), []⟩])
      (.seq
       (.seq
        (.reg [16, 17, 18] [
          ⟨none, (some 15), .ldV 2 none 12 true, []⟩,
          ⟨none, (some 16), .call true 449 [.t 15], []⟩,
          ⟨none, (some 17), .len (.t 16), []⟩,
          ⟨none, (some 18), .mov (.c (.int .i64 0)), []⟩])
        (.block 0
         (.loop b363_2)))
       (.seq
        (.reg [4] [
          ⟨none, (some 62), .mov (.t 7), []⟩,
          ⟨none, (some 4), .mov (.t 62), []⟩])
        .ret))))))
def c363 : Fn := { np := 2, nt := 63, kind := .pure, res := [.t 4], body := k363 }

/- laws.eqStroke -/
def k364 : Cd :=
  (.seq
   (.reg [2, 3, 4] [
     ⟨none, (some 2), .mov (.t 0), []⟩,
     ⟨none, (some 3), .mov (.t 1), []⟩,
     ⟨none, (some 4), .mov (.c (.bool false)), []⟩])
   (.seq
    (.seq
     (.reg [9] [
       ⟨none, (some 5), .adrF 2 none 0, []⟩,
       ⟨none, (some 6), .ldV 2 (some 5) 1 false, []⟩,
       ⟨none, (some 7), .adrF 3 none 0, []⟩,
       ⟨none, (some 8), .ldV 3 (some 7) 1 false, []⟩,
       ⟨none, (some 9), .bin .neq (.t 6) (.t 8), []⟩])
     (.cond (.t 9)
      (.seq
       (.reg [4] [
         ⟨none, (some 4), .mov (.c (.bool false)), []⟩])
       .ret)
      .skip))
    (.seq
     (.seq
      (.reg [14] [
        ⟨none, (some 10), .adrF 2 none 1, []⟩,
        ⟨none, (some 11), .ldV 2 (some 10) 1 false, []⟩,
        ⟨none, (some 12), .adrF 3 none 1, []⟩,
        ⟨none, (some 13), .ldV 3 (some 12) 1 false, []⟩,
        ⟨none, (some 14), .bin .neq (.t 11) (.t 13), []⟩])
      (.cond (.t 14)
       (.seq
        (.reg [4] [
          ⟨none, (some 4), .mov (.c (.bool false)), []⟩])
        .ret)
       .skip))
     (.seq
      (.seq
       (.reg [19] [
         ⟨none, (some 15), .adrF 2 none 2, []⟩,
         ⟨none, (some 16), .ldV 2 (some 15) 1 false, []⟩,
         ⟨none, (some 17), .adrF 3 none 2, []⟩,
         ⟨none, (some 18), .ldV 3 (some 17) 1 false, []⟩,
         ⟨none, (some 19), .bin .neq (.t 16) (.t 18), []⟩])
       (.cond (.t 19)
        (.seq
         (.reg [4] [
           ⟨none, (some 4), .mov (.c (.bool false)), []⟩])
         .ret)
        .skip))
      (.seq
       (.seq
        (.reg [24] [
          ⟨none, (some 20), .adrF 2 none 3, []⟩,
          ⟨none, (some 21), .ldV 2 (some 20) 1 false, []⟩,
          ⟨none, (some 22), .adrF 3 none 3, []⟩,
          ⟨none, (some 23), .ldV 3 (some 22) 1 false, []⟩,
          ⟨none, (some 24), .eq .b true (.t 21) (.t 23), []⟩])
        (.cond (.t 24)
         (.seq
          (.reg [4] [
            ⟨none, (some 4), .mov (.c (.bool false)), []⟩])
          .ret)
         .skip))
       (.seq
        (.reg [4] [
          ⟨none, (some 4), .mov (.c (.bool true)), []⟩])
        .ret))))))
def c364 : Fn := { np := 2, nt := 25, kind := .pure, res := [.t 4], body := k364 }

/- (impl.Frame).has -/
def k395 : Cd :=
  (.seq
   (.reg [3, 6] [
     ⟨none, (some 3), .mov (.t 0), []⟩,
     ⟨none, (some 6), .mov (.c (.bool false)), []⟩])
   (.seq
    (.reg [6] [
      ⟨none, (some 7), .mov (.t 1), []⟩,
      ⟨none, (some 8), .mov (.t 2), []⟩,
      ⟨none, (some 9), .call true 345 [.t 7, .t 8], []⟩,
      ⟨none, (some 10), .mov (.t 9), []⟩,
      ⟨(some (10, true)), (some 11), .mov (.t 2), []⟩,
      ⟨(some (10, true)), (some 12), .adrI 3 none 12 1 (.t 11), []⟩,
      ⟨(some (10, true)), (some 13), .ldV 3 (some 12) 1 false, []⟩,
      ⟨(some (10, true)), (some 14), .mov (.t 1), []⟩,
      ⟨(some (10, true)), (some 15), .bin .shr (.t 13) (.t 14), []⟩,
      ⟨(some (10, true)), (some 16), .bin .and (.t 15) (.c (.int .u16 1)), []⟩,
      ⟨(some (10, true)), (some 17), .bin .eql (.t 16) (.c (.int .u16 1)), []⟩,
      ⟨none, (some 18), .pick (.t 10) (.t 17) (.c (.bool false)), []⟩,
      ⟨none, (some 6), .mov (.t 18), []⟩])
    .ret))
def c395 : Fn := { np := 3, nt := 19, kind := .pure, res := [.t 6], body := k395 }

/- slices.ContainsFunc[[]uint16,uint16] -/
def k445 : Cd :=
  (.seq
   (.reg [4] [
     ⟨none, (some 4), .mov (.c (.bool false)), []⟩])
   (.seq
    (.reg [4] [
      ⟨none, (some 5), .mov (.t 0), []⟩,
      ⟨none, (some 6), .mov (.t 1), []⟩,
      ⟨none, (some 7), .call true 547 [.t 5, .t 6], []⟩,
      ⟨none, (some 8), .bin .geq (.t 7) (.c (.int .i64 0)), []⟩,
      ⟨none, (some 4), .mov (.t 8), []⟩])
    .ret))
def c445 : Fn := { np := 2, nt := 9, kind := .pure, res := [.t 4], body := k445 }

/- impl.ValidFrame$1 -/
def k446 : Cd :=
  (.seq
   (.reg [2] [
     ⟨none, (some 2), .mov (.c (.bool false)), []⟩])
   (.seq
    (.reg [2] [
      ⟨none, (some 3), .mov (.t 0), []⟩,
      ⟨none, (some 4), .bin .gtr (.t 3) (.c (.int .u16 4095)), []⟩,
      ⟨none, (some 2), .mov (.t 4), []⟩])
    .ret))
def c446 : Fn := { np := 1, nt := 5, kind := .pure, res := [.t 2], body := k446 }

/- (impl.Frame).dots -/
def b449_1 : Cd :=
  (.seq
   (.reg [11] [
     ⟨none, (some 11), .bin .lss (.t 10) (.c (.int .i64 12)), []⟩])
   (.seq
    (.cond (.t 11)
     .skip
     (.exit 2))
    (.seq
     (.block 3
      (.seq
       (.reg [5] [
         ⟨none, (some 12), .mov (.t 10), []⟩,
         ⟨none, (some 5), .mov (.t 12), []⟩])
       (.seq
        (.reg [16] [
          ⟨none, (some 13), .ldV 1 none 12 true, []⟩,
          ⟨none, (some 14), .mov (.t 5), []⟩,
          ⟨none, (some 15), .mov (.t 4), []⟩,
          ⟨none, (some 16), .call true 395 [.t 13, .t 14, .t 15], []⟩])
        (.cond (.t 16)
         (.reg [3] [
           ⟨none, (some 17), .mov (.t 3), []⟩,
           ⟨none, (some 18), .mov (.t 5), []⟩,
           ⟨none, (some 19), .conv .i8 (.t 18), []⟩,
           ⟨none, (some 20), .mov (.t 4), []⟩,
           ⟨none, (some 21), .conv .i8 (.t 20), []⟩,
           ⟨none, (some 22), .agg [.int .i8 0, .int .i8 0] [(0, 1, (.t 19)), (1, 1, (.t 21))], []⟩,
           ⟨none, (some 23), .bldS 2 1 [.int .i8 0, .int .i8 0] [(0, 2, (.t 22))], []⟩,
           ⟨none, (some 24), .app 2 2 (.t 17) (.t 23), []⟩,
           ⟨none, (some 3), .mov (.t 24), []⟩])
         .skip))))
     (.reg [10] [
       ⟨none, (some 25), .bin .add (.t 10) (.c (.int .i64 1)), []⟩,
       ⟨none, (some 10), .mov (.t 25), []⟩]))))
def b449_2 : Cd :=
  (.seq
   (.reg [8] [
     ⟨none, (some 8), .bin .lss (.t 7) (.c (.int .i64 12)), []⟩])
   (.seq
    (.cond (.t 8)
     .skip
     (.exit 0))
    (.seq
     (.block 1
      (.seq
       (.reg [4] [
         ⟨none, (some 9), .mov (.t 7), []⟩,
         ⟨none, (some 4), .mov (.t 9), []⟩])
       (.seq
        (.reg [10] [
          ⟨none, (some 10), .mov (.c (.int .i64 0)), []⟩])
        (.block 2
         (.loop b449_1)))))
     (.reg [7] [
       ⟨none, (some 26), .bin .add (.t 7) (.c (.int .i64 1)), []⟩,
       ⟨none, (some 7), .mov (.t 26), []⟩]))))
def k449 : Cd :=
  (.seq
   (.reg [1, 2] [
     ⟨none, (some 1), .mov (.t 0), []⟩,
     ⟨none, (some 2), .mov (.c (.slice none 0 0)), []⟩])
   (.seq
    (.reg [3] [
      ⟨none, (some 6), .bldS 2 0 [.int .i8 0, .int .i8 0] [], []⟩,
      ⟨none, (some 3), .mov (.t 6), []⟩])
    (.seq
     (.seq
      (.reg [7] [
        ⟨none, (some 7), .mov (.c (.int .i64 0)), []⟩])
      (.block 0
       (.loop b449_2)))
     (.seq
      (.reg [2] [
        ⟨none, (some 27), .mov (.t 3), []⟩,
        ⟨none, (some 2), .mov (.t 27), []⟩])
      .ret))))
def c449 : Fn := { np := 1, nt := 28, kind := .pure, res := [.t 2], body := k449 }

/- spec.l01Has -/
def k456 : Cd :=
  (.seq
   (.reg [6] [
     ⟨none, (some 6), .mov (.c (.bool false)), []⟩])
   (.seq
    (.reg [6] [
      ⟨none, (some 7), .mov (.t 1), []⟩,
      ⟨none, (some 8), .mov (.t 2), []⟩,
      ⟨none, (some 9), .call true 342 [.t 7, .t 8], []⟩,
      ⟨none, (some 10), .mov (.t 9), []⟩,
      ⟨(some (10, true)), (some 11), .mov (.t 0), []⟩,
      ⟨(some (10, true)), (some 12), .mov (.t 2), []⟩,
      ⟨(some (10, true)), (some 13), .nil (.t 11), []⟩,
      ⟨(some (10, true)), (some 14), .idxP 12 1 (.t 13) (.t 12), []⟩,
      ⟨(some (10, true)), (some 15), .ld 1 false (.t 14), []⟩,
      ⟨(some (10, true)), (some 16), .mov (.t 1), []⟩,
      ⟨(some (10, true)), (some 17), .conv .u64 (.t 16), []⟩,
      ⟨(some (10, true)), (some 18), .bin .shr (.t 15) (.t 17), []⟩,
      ⟨(some (10, true)), (some 19), .bin .rem (.t 18) (.c (.int .u16 2)), []⟩,
      ⟨(some (10, true)), (some 20), .bin .eql (.t 19) (.c (.int .u16 1)), []⟩,
      ⟨none, (some 21), .pick (.t 10) (.t 20) (.c (.bool false)), []⟩,
      ⟨none, (some 6), .mov (.t 21), []⟩])
    .ret))
def c456 : Fn := { np := 3, nt := 22, kind := .pure, res := [.t 6], body := k456 }

/- slices.IndexFunc[[]uint16,uint16] -/
def b547_1 : Cd :=
  (.seq
   (.reg [9] [
     ⟨none, (some 9), .bin .lss (.t 8) (.t 7), []⟩])
   (.seq
    (.cond (.t 9)
     .skip
     (.exit 0))
    (.seq
     (.block 1
      (.seq
       (.reg [5] [
         ⟨none, (some 10), .mov (.t 8), []⟩,
         ⟨none, (some 5), .mov (.t 10), []⟩])
       (.seq
        (.reg [16] [
          ⟨none, (some 11), .mov (.t 1), []⟩,
          ⟨none, (some 12), .mov (.t 0), []⟩,
          ⟨none, (some 13), .mov (.t 5), []⟩,
          ⟨none, (some 14), .idxA 1 (.t 12) (.t 13), []⟩,
          ⟨none, (some 15), .ld 1 false (.t 14), []⟩,
          ⟨none, (some 16), .callv (.t 11) [.t 15], []⟩])
        (.cond (.t 16)
         (.seq
          (.reg [4] [
            ⟨none, (some 17), .mov (.t 5), []⟩,
            ⟨none, (some 4), .mov (.t 17), []⟩])
          .ret)
         .skip))))
     (.reg [8] [
       ⟨none, (some 18), .bin .add (.t 8) (.c (.int .i64 1)), []⟩,
       ⟨none, (some 8), .mov (.t 18), []⟩]))))
def k547 : Cd :=
  (.seq
   (.reg [4] [
     ⟨none, (some 4), .mov (.c (.int .i64 0)), []⟩])
   (.seq
    (.seq
     (.reg [7, 8] [
       ⟨none, (some 6), .mov (.t 0), []⟩,
       ⟨none, (some 7), .len (.t 6), []⟩,
       ⟨none, (some 8), .mov (.c (.int .i64 0)), []⟩])
     (.block 0
      (.loop b547_1)))
    (.seq
     (.reg [4] [
       ⟨none, (some 4), .mov (.c (.int .i64 (-1))), []⟩])
     .ret)))
def c547 : Fn := { np := 2, nt := 19, kind := .pure, res := [.t 4], body := k547 }


end Fb
