/- The functions of the law, in the small language. -/
import Derived.Test.YtjfmgpnkippbpabDen
set_option linter.unusedVariables false
set_option linter.unusedSimpArgs false
namespace Fb
open Go

/- laws.FnExactCostOf -/
def k9 : Cd :=
  (.seq
   (.reg [1, 2] [
     ⟨none, (some 1), .mov (.t 0), []⟩,
     ⟨none, (some 2), .mov (.c (.bool false)), []⟩])
   (.seq
    (.reg [3] [
      ⟨none, (some 3), .mov (.c (.int .i64 1000000)), []⟩])
    (.seq
     (.reg [3] [
       ⟨none, (some 11), .ldV 1 none 5 true, []⟩,
       ⟨none, (some 12), .mov (.t 3), []⟩,
       ⟨none, (some 13), .call true 79 [.t 11, .t 12], []⟩,
       ⟨none, (some 3), .mov (.t 13), []⟩])
     (.seq
      (.seq
       (.reg [15] [
         ⟨none, (some 14), .mov (.t 3), []⟩,
         ⟨none, (some 15), .bin .lss (.t 14) (.c (.int .i64 0)), []⟩])
       (.cond (.t 15)
        (.seq
         (.reg [2] [
           ⟨none, (some 2), .mov (.c (.bool true)), []⟩])
         .ret)
        .skip))
      (.seq
       (.reg [4, 5] [
         ⟨none, (some 17), .ldV 1 none 5 true, []⟩,
         ⟨none, (some 18), .call true 81 [.t 17, .c (.bool false)], []⟩,
         ⟨none, (some 19), .call true 80 [.t 18], []⟩,
         ⟨none, (some 16), .mov (.t 19), []⟩,
         ⟨none, (some 20), .ext (.t 16) 0, []⟩,
         ⟨none, (some 21), .ext (.t 16) 1, []⟩,
         ⟨none, (some 4), .mov (.t 20), []⟩,
         ⟨none, (some 5), .mov (.t 21), []⟩])
       (.seq
        (.reg [6] [
          ⟨none, (some 22), .ldV 1 none 5 true, []⟩,
          ⟨none, (some 23), .call true 81 [.t 22, .c (.bool false)], []⟩,
          ⟨none, (some 6), .zero true [.int .i8 0, .int .i8 0, .int .i8 0, .int .i8 0, .slice none 0 0], []⟩,
          ⟨none, (some 6), .stV 6 none 5 (.t 23), []⟩])
        (.seq
         (.reg [7, 8] [
           ⟨none, (some 25), .ldV 6 none 5 true, []⟩,
           ⟨none, (some 26), .call true 82 [.t 25], []⟩,
           ⟨none, (some 24), .mov (.t 26), []⟩,
           ⟨none, (some 27), .ext (.t 24) 0, []⟩,
           ⟨none, (some 28), .ext (.t 24) 1, []⟩,
           ⟨none, (some 7), .mov (.t 27), []⟩,
           ⟨none, (some 8), .mov (.t 28), []⟩])
         (.seq
          (.seq
           (.reg [36] [
             ⟨none, (some 29), .mov (.t 7), []⟩,
             ⟨none, (some 30), .mov (.t 4), []⟩,
             ⟨none, (some 31), .bin .neq (.t 29) (.t 30), []⟩,
             ⟨none, (some 32), .mov (.t 31), []⟩,
             ⟨(some (32, false)), (some 33), .mov (.t 8), []⟩,
             ⟨(some (32, false)), (some 34), .mov (.t 5), []⟩,
             ⟨(some (32, false)), (some 35), .bin .neq (.t 33) (.t 34), []⟩,
             ⟨none, (some 36), .pick (.t 32) (.c (.bool true)) (.t 35), []⟩])
           (.cond (.t 36)
            (.seq
             (.reg [2] [
               ⟨none, (some 2), .mov (.c (.bool false)), []⟩])
             .ret)
            .skip))
          (.seq
           (.seq
            (.reg [41] [
              ⟨none, (some 37), .ldV 6 none 5 true, []⟩,
              ⟨none, (some 38), .ldV 1 none 5 true, []⟩,
              ⟨none, (some 39), .call true 81 [.t 38, .c (.bool false)], []⟩,
              ⟨none, (some 40), .call true 83 [.t 37, .t 39], []⟩,
              ⟨none, (some 41), .un .not (.t 40), []⟩])
            (.cond (.t 41)
             (.seq
              (.reg [2] [
                ⟨none, (some 2), .mov (.c (.bool false)), []⟩])
              .ret)
             .skip))
           (.seq
            (.reg [9, 10] [
              ⟨none, (some 43), .ldV 1 none 5 true, []⟩,
              ⟨none, (some 44), .call true 81 [.t 43, .c (.bool true)], []⟩,
              ⟨none, (some 45), .call true 82 [.t 44], []⟩,
              ⟨none, (some 42), .mov (.t 45), []⟩,
              ⟨none, (some 46), .ext (.t 42) 0, []⟩,
              ⟨none, (some 47), .ext (.t 42) 1, []⟩,
              ⟨none, (some 9), .mov (.t 46), []⟩,
              ⟨none, (some 10), .mov (.t 47), []⟩])
            (.seq
             (.seq
              (.reg [55] [
                ⟨none, (some 48), .mov (.t 9), []⟩,
                ⟨none, (some 49), .mov (.t 4), []⟩,
                ⟨none, (some 50), .bin .neq (.t 48) (.t 49), []⟩,
                ⟨none, (some 51), .mov (.t 50), []⟩,
                ⟨(some (51, false)), (some 52), .mov (.t 10), []⟩,
                ⟨(some (51, false)), (some 53), .mov (.t 5), []⟩,
                ⟨(some (51, false)), (some 54), .bin .neq (.t 52) (.t 53), []⟩,
                ⟨none, (some 55), .pick (.t 51) (.c (.bool true)) (.t 54), []⟩])
              (.cond (.t 55)
               (.seq
                (.reg [2] [
                  ⟨none, (some 2), .mov (.c (.bool false)), []⟩])
                .ret)
               .skip))
             (.seq
              (.reg [2] [
                ⟨none, (some 2), .mov (.c (.bool true)), []⟩])
              .ret))))))))))))
def c9 : Fn := { np := 1, nt := 56, kind := .pure, res := [.t 2], body := k9 }

/- laws.szStep -/
def k79 : Cd :=
  (.seq
   (.reg [2, 4] [
     ⟨none, (some 2), .mov (.t 0), []⟩,
     ⟨none, (some 4), .mov (.c (.int .i64 0)), []⟩])
   (.seq
    (.reg [1] [
      ⟨none, (some 5), .adrF 2 none 4, []⟩,
      ⟨none, (some 6), .ldV 2 (some 5) 1 false, []⟩,
      ⟨none, (some 7), .mov (.t 1), []⟩,
      ⟨none, (some 8), .call true 308 [.t 6, .t 7], []⟩,
      ⟨none, (some 1), .mov (.t 8), []⟩])
    (.seq
     (.seq
      (.reg [10] [
        ⟨none, (some 9), .mov (.t 1), []⟩,
        ⟨none, (some 10), .bin .lss (.t 9) (.c (.int .i64 0)), []⟩])
      (.cond (.t 10)
       (.seq
        (.reg [4] [
          ⟨none, (some 4), .mov (.c (.int .i64 (-1))), []⟩])
        .ret)
       .skip))
     (.seq
      (.reg [4] [
        ⟨none, (some 11), .mov (.t 1), []⟩,
        ⟨none, (some 4), .mov (.t 11), []⟩])
      .ret))))
def c79 : Fn := { np := 2, nt := 12, kind := .pure, res := [.t 4], body := k79 }

/- spec.CostOf -/
def k80 : Cd :=
  (.seq
   (.reg [1, 2, 3] [
     ⟨none, (some 1), .box 5 (.t 0), []⟩,
     ⟨none, (some 2), .mov (.c (.int .i64 0)), []⟩,
     ⟨none, (some 3), .mov (.c (.int .i64 0)), []⟩])
   (.seq
    (.seq
     (.reg [14] [
       ⟨none, (some 4), .fldP 0 (.t 1), []⟩,
       ⟨none, (some 5), .ld 1 false (.t 4), []⟩,
       ⟨none, (some 6), .conv .i64 (.t 5), []⟩,
       ⟨none, (some 7), .call true 309 [.t 6], []⟩,
       ⟨none, (some 8), .un .not (.t 7), []⟩,
       ⟨none, (some 9), .mov (.t 8), []⟩,
       ⟨(some (9, false)), (some 10), .fldP 4 (.t 1), []⟩,
       ⟨(some (9, false)), (some 11), .ld 1 false (.t 10), []⟩,
       ⟨(some (9, false)), (some 12), .len (.t 11), []⟩,
       ⟨(some (9, false)), (some 13), .bin .gtr (.t 12) (.c (.int .i64 12)), []⟩,
       ⟨none, (some 14), .pick (.t 9) (.c (.bool true)) (.t 13), []⟩])
     (.cond (.t 14)
      (.seq
       (.reg [2, 3] [
         ⟨none, (some 2), .mov (.c (.int .i64 0)), []⟩,
         ⟨none, (some 3), .mov (.c (.int .i64 2)), []⟩])
       .ret)
      .skip))
    (.seq
     (.reg [2, 3] [
       ⟨none, (some 15), .call true 310 [.t 1], []⟩,
       ⟨none, (some 2), .mov (.t 15), []⟩,
       ⟨none, (some 3), .mov (.c (.int .i64 0)), []⟩])
     .ret)))
def c80 : Fn := { np := 1, nt := 16, kind := .pure, res := [.t 2, .t 3], body := k80 }

/- laws.toStep -/
def k81 : Cd :=
  (.seq
   (.reg [2, 4] [
     ⟨none, (some 2), .mov (.t 0), []⟩,
     ⟨none, (some 4), .zero true [.int .i8 0, .int .i8 0, .int .i8 0, .int .i8 0, .slice none 0 0], []⟩])
   (.seq
    (.reg [5] [
      ⟨none, (some 5), .zero true [.int .i8 0, .int .i8 0, .int .i8 0, .int .i8 0, .slice none 0 0], []⟩])
    (.seq
     (.reg [5] [
       ⟨none, (some 6), .adrF 2 none 0, []⟩,
       ⟨none, (some 7), .ldV 2 (some 6) 1 false, []⟩,
       ⟨none, (some 8), .adrF 5 none 0, []⟩,
       ⟨none, (some 5), .stV 5 (some 8) 1 (.t 7), []⟩])
     (.seq
      (.reg [5] [
        ⟨none, (some 9), .adrF 2 none 1, []⟩,
        ⟨none, (some 10), .ldV 2 (some 9) 1 false, []⟩,
        ⟨none, (some 11), .adrF 5 none 1, []⟩,
        ⟨none, (some 5), .stV 5 (some 11) 1 (.t 10), []⟩])
      (.seq
       (.reg [5] [
         ⟨none, (some 12), .adrF 2 none 2, []⟩,
         ⟨none, (some 13), .ldV 2 (some 12) 1 false, []⟩,
         ⟨none, (some 14), .adrF 5 none 2, []⟩,
         ⟨none, (some 5), .stV 5 (some 14) 1 (.t 13), []⟩])
       (.seq
        (.reg [5] [
          ⟨none, (some 15), .adrF 2 none 3, []⟩,
          ⟨none, (some 16), .ldV 2 (some 15) 1 false, []⟩,
          ⟨none, (some 17), .adrF 5 none 3, []⟩,
          ⟨none, (some 5), .stV 5 (some 17) 1 (.t 16), []⟩])
        (.seq
         (.reg [5] [
           ⟨none, (some 18), .adrF 2 none 4, []⟩,
           ⟨none, (some 19), .ldV 2 (some 18) 1 false, []⟩,
           ⟨none, (some 20), .mov (.t 1), []⟩,
           ⟨none, (some 21), .call true 311 [.t 19, .t 20], []⟩,
           ⟨none, (some 22), .adrF 5 none 4, []⟩,
           ⟨none, (some 5), .stV 5 (some 22) 1 (.t 21), []⟩])
         (.seq
          (.reg [4] [
            ⟨none, (some 23), .ldV 5 none 5 true, []⟩,
            ⟨none, (some 4), .stV 4 none 5 (.t 23), []⟩])
          .ret))))))))
def c81 : Fn := { np := 2, nt := 24, kind := .pure, res := [.v 4 5 true], body := k81 }

/- impl.CostOf -/
def k82 : Cd :=
  (.seq
   (.reg [1, 2, 3] [
     ⟨none, (some 1), .mov (.t 0), []⟩,
     ⟨none, (some 2), .mov (.c (.int .i64 0)), []⟩,
     ⟨none, (some 3), .mov (.c (.int .i64 0)), []⟩])
   (.seq
    (.seq
     (.reg [14] [
       ⟨none, (some 4), .adrF 1 none 0, []⟩,
       ⟨none, (some 5), .ldV 1 (some 4) 1 false, []⟩,
       ⟨none, (some 6), .conv .i64 (.t 5), []⟩,
       ⟨none, (some 7), .call true 295 [.t 6, .c (.int .i64 0), .c (.int .i64 2)], []⟩,
       ⟨none, (some 8), .un .not (.t 7), []⟩,
       ⟨none, (some 9), .mov (.t 8), []⟩,
       ⟨(some (9, false)), (some 10), .adrF 1 none 4, []⟩,
       ⟨(some (9, false)), (some 11), .ldV 1 (some 10) 1 false, []⟩,
       ⟨(some (9, false)), (some 12), .len (.t 11), []⟩,
       ⟨(some (9, false)), (some 13), .bin .gtr (.t 12) (.c (.int .i64 12)), []⟩,
       ⟨none, (some 14), .pick (.t 9) (.c (.bool true)) (.t 13), []⟩])
     (.cond (.t 14)
      (.seq
       (.reg [2, 3] [
         ⟨none, (some 2), .mov (.c (.int .i64 0)), []⟩,
         ⟨none, (some 3), .mov (.c (.int .i64 2)), []⟩])
       .ret)
      .skip))
    (.seq
     (.reg [2, 3] [
       ⟨none, (some 15), .ldV 1 none 5 true, []⟩,
       ⟨none, (some 16), .call true 312 [.t 15], []⟩,
       ⟨none, (some 2), .mov (.t 16), []⟩,
       ⟨none, (some 3), .mov (.c (.int .i64 0)), []⟩])
     .ret)))
def c82 : Fn := { np := 1, nt := 17, kind := .pure, res := [.t 2, .t 3], body := k82 }

/- laws.intactStep -/
def k83 : Cd :=
  (.seq
   (.reg [2, 3, 4] [
     ⟨none, (some 2), .mov (.t 0), []⟩,
     ⟨none, (some 3), .mov (.t 1), []⟩,
     ⟨none, (some 4), .mov (.c (.bool false)), []⟩])
   (.seq
    (.seq
     (.reg [9] [
       ⟨none, (some 5), .adrF 2 none 0, []⟩,
       ⟨none, (some 6), .ldV 2 (some 5) 1 false, []⟩,
       ⟨none, (some 7), .adrF 3 none 0, []⟩,
       ⟨none, (some 8), .ldV 3 (some 7) 1 false, []⟩,
       ⟨none, (some 9), .bin .neq (.t 6) (.t 8), []⟩])
     (.cond (.t 9)
      (.seq
       (.reg [4] [
         ⟨none, (some 4), .mov (.c (.bool false)), []⟩])
       .ret)
      .skip))
    (.seq
     (.seq
      (.reg [14] [
        ⟨none, (some 10), .adrF 2 none 1, []⟩,
        ⟨none, (some 11), .ldV 2 (some 10) 1 false, []⟩,
        ⟨none, (some 12), .adrF 3 none 1, []⟩,
        ⟨none, (some 13), .ldV 3 (some 12) 1 false, []⟩,
        ⟨none, (some 14), .bin .neq (.t 11) (.t 13), []⟩])
      (.cond (.t 14)
       (.seq
        (.reg [4] [
          ⟨none, (some 4), .mov (.c (.bool false)), []⟩])
        .ret)
       .skip))
     (.seq
      (.seq
       (.reg [19] [
         ⟨none, (some 15), .adrF 2 none 2, []⟩,
         ⟨none, (some 16), .ldV 2 (some 15) 1 false, []⟩,
         ⟨none, (some 17), .adrF 3 none 2, []⟩,
         ⟨none, (some 18), .ldV 3 (some 17) 1 false, []⟩,
         ⟨none, (some 19), .bin .neq (.t 16) (.t 18), []⟩])
       (.cond (.t 19)
        (.seq
         (.reg [4] [
           ⟨none, (some 4), .mov (.c (.bool false)), []⟩])
         .ret)
        .skip))
      (.seq
       (.seq
        (.reg [24] [
          ⟨none, (some 20), .adrF 2 none 3, []⟩,
          ⟨none, (some 21), .ldV 2 (some 20) 1 false, []⟩,
          ⟨none, (some 22), .adrF 3 none 3, []⟩,
          ⟨none, (some 23), .ldV 3 (some 22) 1 false, []⟩,
          ⟨none, (some 24), .bin .neq (.t 21) (.t 23), []⟩])
        (.cond (.t 24)
         (.seq
          (.reg [4] [
            ⟨none, (some 4), .mov (.c (.bool false)), []⟩])
          .ret)
         .skip))
       (.seq
        (.seq
         (.reg [30] [
           ⟨none, (some 25), .adrF 2 none 4, []⟩,
           ⟨none, (some 26), .ldV 2 (some 25) 1 false, []⟩,
           ⟨none, (some 27), .adrF 3 none 4, []⟩,
           ⟨none, (some 28), .ldV 3 (some 27) 1 false, []⟩,
           ⟨none, (some 29), .call true 313 [.t 26, .t 28], []⟩,
           ⟨none, (some 30), .un .not (.t 29), []⟩])
         (.cond (.t 30)
          (.seq
           (.reg [4] [
             ⟨none, (some 4), .mov (.c (.bool false)), []⟩])
           .ret)
          .skip))
        (.seq
         (.reg [4] [
           ⟨none, (some 4), .mov (.c (.bool true)), []⟩])
         .ret)))))))
def c83 : Fn := { np := 2, nt := 31, kind := .pure, res := [.t 4], body := k83 }

/- impl.inRange -/
def k295 : Cd :=
  (.seq
   (.reg [6] [
     ⟨none, (some 6), .mov (.c (.bool false)), []⟩])
   (.seq
    (.reg [6] [
      ⟨none, (some 7), .mov (.t 1), []⟩,
      ⟨none, (some 8), .mov (.t 0), []⟩,
      ⟨none, (some 9), .bin .leq (.t 7) (.t 8), []⟩,
      ⟨none, (some 10), .mov (.t 9), []⟩,
      ⟨(some (10, true)), (some 11), .mov (.t 0), []⟩,
      ⟨(some (10, true)), (some 12), .mov (.t 2), []⟩,
      ⟨(some (10, true)), (some 13), .bin .leq (.t 11) (.t 12), []⟩,
      ⟨none, (some 14), .pick (.t 10) (.t 13) (.c (.bool false)), []⟩,
      ⟨none, (some 6), .mov (.t 14), []⟩])
    .ret))
def c295 : Fn := { np := 3, nt := 15, kind := .pure, res := [.t 6], body := k295 }

/- laws.roomBehind -/
def k296 : Cd :=
  (.seq
   (.reg [2] [
     ⟨none, (some 2), .mov (.c (.int .i64 0)), []⟩])
   (.seq
    (.seq
     (.reg [5] [
       ⟨none, (some 3), .mov (.t 0), []⟩,
       ⟨none, (some 4), .bin .rem (.t 3) (.c (.int .i64 6)), []⟩,
       ⟨none, (some 5), .bin .eql (.t 4) (.c (.int .i64 5)), []⟩])
     (.cond (.t 5)
      (.seq
       (.reg [2] [
         ⟨none, (some 2), .mov (.c (.int .i64 0)), []⟩])
       .ret)
      .skip))
    (.seq
     (.seq
      (.reg [8] [
        ⟨none, (some 6), .mov (.t 0), []⟩,
        ⟨none, (some 7), .bin .rem (.t 6) (.c (.int .i64 3)), []⟩,
        ⟨none, (some 8), .bin .eql (.t 7) (.c (.int .i64 0)), []⟩])
      (.cond (.t 8)
       (.seq
        (.reg [2] [
          ⟨none, (some 2), .mov (.c (.int .i64 1)), []⟩])
        .ret)
       .skip))
     (.seq
      (.reg [2] [
        ⟨none, (some 9), .mov (.t 0), []⟩,
        ⟨none, (some 2), .mov (.t 9), []⟩])
      .ret))))
def c296 : Fn := { np := 1, nt := 10, kind := .pure, res := [.t 2], body := k296 }

/- spec.l00In -/
def k304 : Cd :=
  (.seq
   (.reg [6] [
     ⟨none, (some 6), .mov (.c (.bool false)), []⟩])
   (.seq
    (.reg [6] [
      ⟨none, (some 7), .mov (.t 0), []⟩,
      ⟨none, (some 8), .mov (.t 1), []⟩,
      ⟨none, (some 9), .bin .geq (.t 7) (.t 8), []⟩,
      ⟨none, (some 10), .mov (.t 9), []⟩,
      ⟨(some (10, true)), (some 11), .mov (.t 0), []⟩,
      ⟨(some (10, true)), (some 12), .mov (.t 2), []⟩,
      ⟨(some (10, true)), (some 13), .bin .leq (.t 11) (.t 12), []⟩,
      ⟨none, (some 14), .pick (.t 10) (.t 13) (.c (.bool false)), []⟩,
      ⟨none, (some 6), .mov (.t 14), []⟩])
    .ret))
def c304 : Fn := { np := 3, nt := 15, kind := .pure, res := [.t 6], body := k304 }

/- laws.szChangeS -/
def k308 : Cd :=
  (.seq
   (.reg [4] [
     ⟨none, (some 4), .mov (.c (.int .i64 0)), []⟩])
   (.seq
    (.reg [1] [
      ⟨none, (some 5), .mov (.t 1), []⟩,
      ⟨none, (some 6), .mov (.t 0), []⟩,
      ⟨none, (some 7), .len (.t 6), []⟩,
      ⟨none, (some 8), .bin .sub (.t 5) (.t 7), []⟩,
      ⟨none, (some 1), .mov (.t 8), []⟩])
    (.seq
     (.seq
      (.reg [10] [
        ⟨none, (some 9), .mov (.t 1), []⟩,
        ⟨none, (some 10), .bin .lss (.t 9) (.c (.int .i64 0)), []⟩])
      (.cond (.t 10)
       (.seq
        (.reg [4] [
          ⟨none, (some 4), .mov (.c (.int .i64 (-1))), []⟩])
        .ret)
       .skip))
     (.seq
      (.reg [4] [
        ⟨none, (some 11), .mov (.t 1), []⟩,
        ⟨none, (some 4), .mov (.t 11), []⟩])
      .ret))))
def c308 : Fn := { np := 2, nt := 12, kind := .pure, res := [.t 4], body := k308 }

/- spec.l06How -/
def k309 : Cd :=
  (.seq
   (.reg [2] [
     ⟨none, (some 2), .mov (.c (.bool false)), []⟩])
   (.seq
    (.reg [2] [
      ⟨none, (some 3), .mov (.t 0), []⟩,
      ⟨none, (some 4), .call true 304 [.t 3, .c (.int .i64 0), .c (.int .i64 2)], []⟩,
      ⟨none, (some 2), .mov (.t 4), []⟩])
    .ret))
def c309 : Fn := { np := 1, nt := 5, kind := .pure, res := [.t 2], body := k309 }

/- spec.l06Cost -/
def k310 : Cd :=
  (.seq
   (.reg [2] [
     ⟨none, (some 2), .mov (.c (.int .i64 0)), []⟩])
   (.seq
    (.reg [3] [
      ⟨none, (some 4), .agg [.int .i64 0, .int .i64 0, .int .i64 0] [(0, 1, (.c (.int .i64 1))), (1, 1, (.c (.int .i64 2))), (2, 1, (.c (.int .i64 4)))], []⟩,
      ⟨none, (some 3), .zero true [.int .i64 0, .int .i64 0, .int .i64 0], []⟩,
      ⟨none, (some 3), .stV 3 none 3 (.t 4), []⟩])
    (.seq
     (.reg [2] [
       ⟨none, (some 5), .mov (.t 0), []⟩,
       ⟨none, (some 6), .nil (.t 5), []⟩,
       ⟨none, (some 7), .fldP 0 (.t 6), []⟩,
       ⟨none, (some 8), .ld 1 false (.t 7), []⟩,
       ⟨none, (some 9), .adrI 3 none 3 1 (.t 8), []⟩,
       ⟨none, (some 10), .ldV 3 (some 9) 1 false, []⟩,
       ⟨none, (some 11), .mov (.t 0), []⟩,
       ⟨none, (some 12), .nil (.t 11), []⟩,
       ⟨none, (some 13), .fldP 4 (.t 12), []⟩,
       ⟨none, (some 14), .ld 1 false (.t 13), []⟩,
       ⟨none, (some 15), .len (.t 14), []⟩,
       ⟨none, (some 16), .bin .mul (.c (.int .i64 3)) (.t 15), []⟩,
       ⟨none, (some 17), .bin .add (.t 10) (.t 16), []⟩,
       ⟨none, (some 2), .mov (.t 17), []⟩])
     .ret)))
def c310 : Fn := { np := 1, nt := 18, kind := .pure, res := [.t 2], body := k310 }

/- laws.toChangeS -/
def b311_1 : Cd :=
  (.seq
   (.seq
    (.reg [24] [
      ⟨none, (some 21), .mov (.t 6), []⟩,
      ⟨none, (some 22), .mov (.t 0), []⟩,
      ⟨none, (some 23), .len (.t 22), []⟩,
      ⟨none, (some 24), .bin .lss (.t 21) (.t 23), []⟩])
    (.cond (.t 24)
     .skip
     (.exit 0)))
   (.seq
    (.block 1
     (.reg [] [
       ⟨none, (some 27), .mov (.t 5), []⟩,
       ⟨none, (some 28), .mov (.t 6), []⟩,
       ⟨none, (some 29), .mov (.t 0), []⟩,
       ⟨none, (some 30), .mov (.t 6), []⟩,
       ⟨none, (some 31), .idxA 2 (.t 29) (.t 30), []⟩,
       ⟨none, (some 32), .ld 2 true (.t 31), []⟩,
       ⟨none, (some 33), .call true 488 [.t 32], []⟩,
       ⟨none, (some 34), .idxA 2 (.t 27) (.t 28), []⟩,
       ⟨none, none, .st 2 (.t 34) (.t 33), []⟩]))
    (.reg [6] [
      ⟨none, (some 25), .mov (.t 6), []⟩,
      ⟨none, (some 26), .bin .add (.t 25) (.c (.int .i64 1)), []⟩,
      ⟨none, (some 6), .mov (.t 26), []⟩])))
def b311_2 : Cd :=
  (.seq
   (.seq
    (.reg [40] [
      ⟨none, (some 37), .mov (.t 7), []⟩,
      ⟨none, (some 38), .mov (.t 5), []⟩,
      ⟨none, (some 39), .len (.t 38), []⟩,
      ⟨none, (some 40), .bin .lss (.t 37) (.t 39), []⟩])
    (.cond (.t 40)
     .skip
     (.exit 2)))
   (.seq
    (.block 3
     (.reg [] [
       ⟨none, (some 43), .mov (.t 5), []⟩,
       ⟨none, (some 44), .mov (.t 7), []⟩,
       ⟨none, (some 45), .call true 489 [], []⟩,
       ⟨none, (some 46), .idxA 2 (.t 43) (.t 44), []⟩,
       ⟨none, none, .st 2 (.t 46) (.t 45), []⟩]))
    (.reg [7] [
      ⟨none, (some 41), .mov (.t 7), []⟩,
      ⟨none, (some 42), .bin .add (.t 41) (.c (.int .i64 1)), []⟩,
      ⟨none, (some 7), .mov (.t 42), []⟩])))
def k311 : Cd :=
  (.seq
   (.reg [4] [
     ⟨none, (some 4), .mov (.c (.slice none 0 0)), []⟩])
   (.seq
    (.seq
     (.reg [13] [
       ⟨none, (some 8), .mov (.t 1), []⟩,
       ⟨none, (some 9), .mov (.t 8), []⟩,
       ⟨(some (9, true)), (some 10), .mov (.t 0), []⟩,
       ⟨(some (9, true)), (some 11), .len (.t 10), []⟩,
       ⟨(some (9, true)), (some 12), .bin .eql (.t 11) (.c (.int .i64 0)), []⟩,
       ⟨none, (some 13), .pick (.t 9) (.t 12) (.c (.bool false)), []⟩])
     (.cond (.t 13)
      (.seq
       (.reg [4] [
         ⟨none, (some 4), .mov (.c (.slice none 0 0)), []⟩])
       .ret)
      .skip))
    (.seq
     (.reg [5] [
       ⟨none, (some 14), .mov (.t 0), []⟩,
       ⟨none, (some 15), .len (.t 14), []⟩,
       ⟨none, (some 16), .mov (.t 0), []⟩,
       ⟨none, (some 17), .len (.t 16), []⟩,
       ⟨none, (some 18), .call true 296 [.t 17], []⟩,
       ⟨none, (some 19), .bin .add (.t 15) (.t 18), []⟩,
       ⟨none, (some 20), .mkS 2 4 [.int .i8 0, .int .u16 0] (.t 19) (.t 19), []⟩,
       ⟨none, (some 5), .mov (.t 20), []⟩])
     (.seq
      (.seq
       (.reg [6] [
         ⟨none, (some 6), .mov (.c (.int .i64 0)), []⟩])
       (.block 0
        (.loop b311_1)))
      (.seq
       (.seq
        (.reg [7] [
          ⟨none, (some 35), .mov (.t 0), []⟩,
          ⟨none, (some 36), .len (.t 35), []⟩,
          ⟨none, (some 7), .mov (.t 36), []⟩])
        (.block 2
         (.loop b311_2)))
       (.seq
        (.reg [4] [
          ⟨none, (some 47), .mov (.t 5), []⟩,
          ⟨none, (some 48), .mov (.t 0), []⟩,
          ⟨none, (some 49), .len (.t 48), []⟩,
          ⟨none, (some 50), .slcA 2 (.t 47) none (some (.t 49)) none, []⟩,
          ⟨none, (some 4), .mov (.t 50), []⟩])
        .ret))))))
def c311 : Fn := { np := 2, nt := 51, kind := .pure, res := [.t 4], body := k311 }

/- (impl.Step).cost -/
def k312 : Cd :=
  (.seq
   (.reg [1, 2] [
     ⟨none, (some 1), .mov (.t 0), []⟩,
     ⟨none, (some 2), .mov (.c (.int .i64 0)), []⟩])
   (.seq
    (.reg [3] [
      ⟨none, (some 4), .agg [.int .i64 0, .int .i64 0, .int .i64 0] [(0, 1, (.c (.int .i64 1))), (1, 1, (.c (.int .i64 2))), (2, 1, (.c (.int .i64 4)))], []⟩,
      ⟨none, (some 3), .zero true [.int .i64 0, .int .i64 0, .int .i64 0], []⟩,
      ⟨none, (some 3), .stV 3 none 3 (.t 4), []⟩])
    (.seq
     (.reg [2] [
       ⟨none, (some 5), .adrF 1 none 4, []⟩,
       ⟨none, (some 6), .ldV 1 (some 5) 1 false, []⟩,
       ⟨none, (some 9), .adrF 1 none 0, []⟩,
       ⟨none, (some 10), .ldV 1 (some 9) 1 false, []⟩,
       ⟨none, (some 11), .adrI 3 none 3 1 (.t 10), []⟩,
       ⟨none, (some 12), .ldV 3 (some 11) 1 false, []⟩,
       ⟨none, (some 7), .call true 490 [.t 6], []⟩,
       ⟨none, (some 8), .bin .mul (.c (.int .i64 3)) (.t 7), []⟩,
       ⟨none, (some 13), .bin .add (.t 8) (.t 12), []⟩,
       ⟨none, (some 2), .mov (.t 13), []⟩])
     .ret)))
def c312 : Fn := { np := 1, nt := 14, kind := .pure, res := [.t 2], body := k312 }

/- laws.intactChangeS -/
def k313 : Cd :=
  (.seq
   (.reg [4] [
     ⟨none, (some 4), .mov (.c (.bool false)), []⟩])
   (.seq
    (.reg [5] [
      ⟨none, (some 6), .mov (.t 1), []⟩,
      ⟨none, (some 7), .len (.t 6), []⟩,
      ⟨none, (some 8), .mov (.t 1), []⟩,
      ⟨none, (some 9), .len (.t 8), []⟩,
      ⟨none, (some 10), .call true 296 [.t 9], []⟩,
      ⟨none, (some 11), .bin .add (.t 7) (.t 10), []⟩,
      ⟨none, (some 5), .mov (.t 11), []⟩])
    (.seq
     (.reg [4] [
       ⟨none, (some 12), .mov (.t 0), []⟩,
       ⟨none, (some 13), .len (.t 12), []⟩,
       ⟨none, (some 14), .mov (.t 1), []⟩,
       ⟨none, (some 15), .len (.t 14), []⟩,
       ⟨none, (some 16), .bin .eql (.t 13) (.t 15), []⟩,
       ⟨none, (some 17), .mov (.t 16), []⟩,
       ⟨(some (17, true)), (some 18), .mov (.t 0), []⟩,
       ⟨(some (17, true)), (some 19), .mov (.t 5), []⟩,
       ⟨(some (17, true)), (some 20), .slcA 2 (.t 18) none (some (.t 19)) none, []⟩,
       ⟨(some (17, true)), (some 21), .mov (.t 1), []⟩,
       ⟨(some (17, true)), (some 22), .mov (.t 5), []⟩,
       ⟨(some (17, true)), (some 23), .slcA 2 (.t 21) none (some (.t 22)) none, []⟩,
       ⟨(some (17, true)), (some 24), .call true 390 [.t 20, .t 23], []⟩,
       ⟨none, (some 25), .pick (.t 17) (.t 24) (.c (.bool false)), []⟩,
       ⟨none, (some 4), .mov (.t 25), []⟩])
     .ret)))
def c313 : Fn := { np := 2, nt := 26, kind := .pure, res := [.t 4], body := k313 }

/- laws.eqChangeS -/
def b390_1 : Cd :=
  (.seq
   (.seq
    (.reg [14] [
      ⟨none, (some 11), .mov (.t 5), []⟩,
      ⟨none, (some 12), .mov (.t 0), []⟩,
      ⟨none, (some 13), .len (.t 12), []⟩,
      ⟨none, (some 14), .bin .lss (.t 11) (.t 13), []⟩])
    (.cond (.t 14)
     .skip
     (.exit 0)))
   (.seq
    (.block 1
     (.seq
      (.reg [26] [
        ⟨none, (some 17), .mov (.t 0), []⟩,
        ⟨none, (some 18), .mov (.t 5), []⟩,
        ⟨none, (some 19), .idxA 2 (.t 17) (.t 18), []⟩,
        ⟨none, (some 20), .ld 2 true (.t 19), []⟩,
        ⟨none, (some 21), .mov (.t 1), []⟩,
        ⟨none, (some 22), .mov (.t 5), []⟩,
        ⟨none, (some 23), .idxA 2 (.t 21) (.t 22), []⟩,
        ⟨none, (some 24), .ld 2 true (.t 23), []⟩,
        ⟨none, (some 25), .call true 529 [.t 20, .t 24], []⟩,
        ⟨none, (some 26), .un .not (.t 25), []⟩])
      (.cond (.t 26)
       (.seq
        (.reg [4] [
          ⟨none, (some 4), .mov (.c (.bool false)), []⟩])
        .ret)
       .skip)))
    (.reg [5] [
      ⟨none, (some 15), .mov (.t 5), []⟩,
      ⟨none, (some 16), .bin .add (.t 15) (.c (.int .i64 1)), []⟩,
      ⟨none, (some 5), .mov (.t 16), []⟩])))
def k390 : Cd :=
  (.seq
   (.reg [4] [
     ⟨none, (some 4), .mov (.c (.bool false)), []⟩])
   (.seq
    (.seq
     (.reg [10] [
       ⟨none, (some 6), .mov (.t 0), []⟩,
       ⟨none, (some 7), .len (.t 6), []⟩,
       ⟨none, (some 8), .mov (.t 1), []⟩,
       ⟨none, (some 9), .len (.t 8), []⟩,
       ⟨none, (some 10), .bin .neq (.t 7) (.t 9), []⟩])
     (.cond (.t 10)
      (.seq
       (.reg [4] [
         ⟨none, (some 4), .mov (.c (.bool false)), []⟩])
       .ret)
      .skip))
    (.seq
     (.seq
      (.reg [5] [
        ⟨none, (some 5), .mov (.c (.int .i64 0)), []⟩])
      (.block 0
       (.loop b390_1)))
     (.seq
      (.reg [4] [
        ⟨none, (some 4), .mov (.c (.bool true)), []⟩])
      .ret))))
def c390 : Fn := { np := 2, nt := 27, kind := .pure, res := [.t 4], body := k390 }

/- laws.toChange -/
def k488 : Cd :=
  (.seq
   (.reg [1, 2] [
     ⟨none, (some 1), .mov (.t 0), []⟩,
     ⟨none, (some 2), .zero true [.int .i8 0, .int .u16 0], []⟩])
   (.seq
    (.reg [3] [
      ⟨none, (some 3), .zero true [.int .i8 0, .int .u16 0], []⟩])
    (.seq
     (.reg [3] [
       ⟨none, (some 4), .adrF 1 none 0, []⟩,
       ⟨none, (some 5), .ldV 1 (some 4) 1 false, []⟩,
       ⟨none, (some 6), .adrF 3 none 0, []⟩,
       ⟨none, (some 3), .stV 3 (some 6) 1 (.t 5), []⟩])
     (.seq
      (.reg [3] [
        ⟨none, (some 7), .adrF 1 none 1, []⟩,
        ⟨none, (some 8), .ldV 1 (some 7) 1 false, []⟩,
        ⟨none, (some 9), .adrF 3 none 1, []⟩,
        ⟨none, (some 3), .stV 3 (some 9) 1 (.t 8), []⟩])
      (.seq
       (.reg [2] [
         ⟨none, (some 10), .ldV 3 none 2 true, []⟩,
         ⟨none, (some 2), .stV 2 none 2 (.t 10), []⟩])
       .ret)))))
def c488 : Fn := { np := 1, nt := 11, kind := .pure, res := [.v 2 2 true], body := k488 }

/- laws.fillerChange -/
def k489 : Cd :=
  (.seq
   (.reg [0] [
     ⟨none, (some 0), .zero true [.int .i8 0, .int .u16 0], []⟩])
   (.seq
    (.reg [0] [
      ⟨none, (some 1), .agg [.int .i8 0, .int .u16 0] [(0, 1, (.c (.int .i8 (-101)))), (1, 1, (.c (.int .u16 60201)))], []⟩,
      ⟨none, (some 0), .stV 0 none 2 (.t 1), []⟩])
    .ret))
def c489 : Fn := { np := 0, nt := 2, kind := .pure, res := [.v 0 2 true], body := k489 }

/- impl.length[impl.Change] -/
def k490 : Cd :=
  (.seq
   (.reg [2] [
     ⟨none, (some 2), .mov (.c (.int .i64 0)), []⟩])
   (.seq
    (.reg [2] [
      ⟨none, (some 3), .mov (.t 0), []⟩,
      ⟨none, (some 4), .len (.t 3), []⟩,
      ⟨none, (some 2), .mov (.t 4), []⟩])
    .ret))
def c490 : Fn := { np := 1, nt := 5, kind := .pure, res := [.t 2], body := k490 }

/- laws.eqChange -/
def k529 : Cd :=
  (.seq
   (.reg [2, 3, 4] [
     ⟨none, (some 2), .mov (.t 0), []⟩,
     ⟨none, (some 3), .mov (.t 1), []⟩,
     ⟨none, (some 4), .mov (.c (.bool false)), []⟩])
   (.seq
    (.seq
     (.reg [9] [
       ⟨none, (some 5), .adrF 2 none 0, []⟩,
       ⟨none, (some 6), .ldV 2 (some 5) 1 false, []⟩,
       ⟨none, (some 7), .adrF 3 none 0, []⟩,
       ⟨none, (some 8), .ldV 3 (some 7) 1 false, []⟩,
       ⟨none, (some 9), .bin .neq (.t 6) (.t 8), []⟩])
     (.cond (.t 9)
      (.seq
       (.reg [4] [
         ⟨none, (some 4), .mov (.c (.bool false)), []⟩])
       .ret)
      .skip))
    (.seq
     (.seq
      (.reg [14] [
        ⟨none, (some 10), .adrF 2 none 1, []⟩,
        ⟨none, (some 11), .ldV 2 (some 10) 1 false, []⟩,
        ⟨none, (some 12), .adrF 3 none 1, []⟩,
        ⟨none, (some 13), .ldV 3 (some 12) 1 false, []⟩,
        ⟨none, (some 14), .bin .neq (.t 11) (.t 13), []⟩])
      (.cond (.t 14)
       (.seq
        (.reg [4] [
          ⟨none, (some 4), .mov (.c (.bool false)), []⟩])
        .ret)
       .skip))
     (.seq
      (.reg [4] [
        ⟨none, (some 4), .mov (.c (.bool true)), []⟩])
      .ret))))
def c529 : Fn := { np := 2, nt := 15, kind := .pure, res := [.t 4], body := k529 }


end Fb
