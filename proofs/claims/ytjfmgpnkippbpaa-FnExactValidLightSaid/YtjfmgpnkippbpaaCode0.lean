/- The functions of the law, in the small language. -/
import Derived.Test.YtjfmgpnkippbpaaDen
set_option linter.unusedVariables false
set_option linter.unusedSimpArgs false
namespace Fb
open Go

/- laws.FnExactValidLight -/
def k3 : Cd :=
  (.seq
   (.reg [1, 2] [
     ⟨none, (some 1), .mov (.t 0), []⟩,
     ⟨none, (some 2), .mov (.c (.bool false)), []⟩])
   (.seq
    (.reg [3] [
      ⟨none, (some 5), .ldV 1 none 144 true, []⟩,
      ⟨none, (some 6), .call true 62 [.t 5], []⟩,
      ⟨none, (some 7), .call true 61 [.t 6], []⟩,
      ⟨none, (some 3), .mov (.t 7), []⟩])
    (.seq
     (.reg [4] [
       ⟨none, (some 8), .ldV 1 none 144 true, []⟩,
       ⟨none, (some 9), .call true 62 [.t 8], []⟩,
       ⟨none, (some 10), .call true 63 [.t 9], []⟩,
       ⟨none, (some 4), .mov (.t 10), []⟩])
     (.seq
      (.seq
       (.reg [13] [
         ⟨none, (some 11), .mov (.t 4), []⟩,
         ⟨none, (some 12), .mov (.t 3), []⟩,
         ⟨none, (some 13), .eq .b true (.t 11) (.t 12), []⟩])
       (.cond (.t 13)
        (.seq
         (.reg [2] [
           ⟨none, (some 2), .mov (.c (.bool false)), []⟩])
         .ret)
        .skip))
      (.seq
       (.reg [2] [
         ⟨none, (some 2), .mov (.c (.bool true)), []⟩])
       .ret)))))
def c3 : Fn := { np := 1, nt := 14, kind := .pure, res := [.t 2], body := k3 }

/- spec.ValidLight -/
def k61 : Cd :=
  (.seq
   (.reg [1, 2] [
     ⟨none, (some 1), .box 144 (.t 0), []⟩,
     ⟨none, (some 2), .mov (.c (.bool false)), []⟩])
   (.seq
    (.reg [2] [
      ⟨none, (some 3), .call true 291 [.t 1], []⟩,
      ⟨none, (some 2), .mov (.t 3), []⟩])
    .ret))
def c61 : Fn := { np := 1, nt := 4, kind := .pure, res := [.t 2], body := k61 }

/- laws.toLight -/
def b62_1 : Cd :=
  (.seq
   (.seq
    (.reg [6] [
      ⟨none, (some 5), .mov (.t 4), []⟩,
      ⟨none, (some 6), .bin .lss (.t 5) (.c (.int .i64 12)), []⟩])
    (.cond (.t 6)
     .skip
     (.exit 0)))
   (.seq
    (.block 1
     (.reg [3] [
       ⟨none, (some 9), .mov (.t 4), []⟩,
       ⟨none, (some 10), .mov (.t 4), []⟩,
       ⟨none, (some 11), .adrI 1 none 12 12 (.t 10), []⟩,
       ⟨none, (some 12), .ldV 1 (some 11) 12 true, []⟩,
       ⟨none, (some 13), .call true 292 [.t 12], []⟩,
       ⟨none, (some 14), .adrI 3 none 12 12 (.t 9), []⟩,
       ⟨none, (some 3), .stV 3 (some 14) 12 (.t 13), []⟩]))
    (.reg [4] [
      ⟨none, (some 7), .mov (.t 4), []⟩,
      ⟨none, (some 8), .bin .add (.t 7) (.c (.int .i64 1)), []⟩,
      ⟨none, (some 4), .mov (.t 8), []⟩])))
def k62 : Cd :=
  (.seq
   (.reg [1, 2] [
     ⟨none, (some 1), .mov (.t 0), []⟩,
     ⟨none, (some 2), .zero true (zs 144 (.int .i16 0)), []⟩])
   (.seq
    (.reg [3] [
      ⟨none, (some 3), .zero true (zs 144 (.int .i16 0)), []⟩])
    (.seq
     (.seq
      (.reg [4] [
        ⟨none, (some 4), .mov (.c (.int .i64 0)), []⟩])
      (.block 0
       (.loop b62_1)))
     (.seq
      (.reg [2] [
        ⟨none, (some 15), .ldV 3 none 144 true, []⟩,
        ⟨none, (some 2), .stV 2 none 144 (.t 15), []⟩])
      .ret))))
def c62 : Fn := { np := 1, nt := 16, kind := .pure, res := [.v 2 144 true], body := k62 }

/- impl.ValidLight -/
def b63_1 : Cd :=
  (.seq
   (.reg [7] [
     ⟨none, (some 7), .bin .lss (.t 6) (.c (.int .i64 12)), []⟩])
   (.seq
    (.cond (.t 7)
     .skip
     (.exit 0))
    (.seq
     (.block 1
      (.seq
       (.reg [4] [
         ⟨none, (some 8), .idx 12 12 true (.t 5) (.t 6), []⟩,
         ⟨none, (some 4), .new 1 (zs 12 (.int .i16 0)), []⟩,
         ⟨none, none, .st 12 (.t 4) (.t 8), []⟩])
       (.seq
        (.reg [10] [
          ⟨none, (some 9), .slcP 12 1 (.t 4), []⟩,
          ⟨none, (some 10), .call true 293 [.t 9, .f 294], []⟩])
        (.cond (.t 10)
         (.seq
          (.reg [2] [
            ⟨none, (some 2), .mov (.c (.bool false)), []⟩])
          .ret)
         .skip))))
     (.reg [6] [
       ⟨none, (some 11), .bin .add (.t 6) (.c (.int .i64 1)), []⟩,
       ⟨none, (some 6), .mov (.t 11), []⟩]))))
def k63 : Cd :=
  (.seq
   (.reg [1, 2] [
     ⟨none, (some 1), .mov (.t 0), []⟩,
     ⟨none, (some 2), .mov (.c (.bool false)), []⟩])
   (.seq
    (.seq
     (.reg [5, 6] [
       ⟨none, (some 5), .ldV 1 none 144 true, []⟩,
       ⟨none, (some 6), .mov (.c (.int .i64 0)), []⟩])
     (.block 0
      (.loop b63_1)))
    (.seq
     (.reg [2] [
       ⟨none, (some 2), .mov (.c (.bool true)), []⟩])
     .ret)))
def c63 : Fn := { np := 1, nt := 12, kind := .pure, res := [.t 2], body := k63 }

/- spec.l07Ok -/
def b291_1 : Cd :=
  (.seq
   (.seq
    (.reg [10] [
      ⟨none, (some 9), .mov (.t 4), []⟩,
      ⟨none, (some 10), .bin .lss (.t 9) (.c (.int .i64 12)), []⟩])
    (.cond (.t 10)
     .skip
     (.exit 2)))
   (.seq
    (.block 3
     (.seq
      (.reg [22] [
        ⟨none, (some 13), .mov (.t 0), []⟩,
        ⟨none, (some 14), .mov (.t 3), []⟩,
        ⟨none, (some 15), .mov (.t 4), []⟩,
        ⟨none, (some 16), .nil (.t 13), []⟩,
        ⟨none, (some 17), .idxP 12 12 (.t 16) (.t 14), []⟩,
        ⟨none, (some 18), .idxP 12 1 (.t 17) (.t 15), []⟩,
        ⟨none, (some 19), .ld 1 false (.t 18), []⟩,
        ⟨none, (some 20), .conv .i64 (.t 19), []⟩,
        ⟨none, (some 21), .call true 304 [.t 20, .c (.int .i64 0), .c (.int .i64 1000)], []⟩,
        ⟨none, (some 22), .un .not (.t 21), []⟩])
      (.cond (.t 22)
       (.seq
        (.reg [2] [
          ⟨none, (some 2), .mov (.c (.bool false)), []⟩])
        .ret)
       .skip)))
    (.reg [4] [
      ⟨none, (some 11), .mov (.t 4), []⟩,
      ⟨none, (some 12), .bin .add (.t 11) (.c (.int .i64 1)), []⟩,
      ⟨none, (some 4), .mov (.t 12), []⟩])))
def b291_2 : Cd :=
  (.seq
   (.seq
    (.reg [6] [
      ⟨none, (some 5), .mov (.t 3), []⟩,
      ⟨none, (some 6), .bin .lss (.t 5) (.c (.int .i64 12)), []⟩])
    (.cond (.t 6)
     .skip
     (.exit 0)))
   (.seq
    (.block 1
     (.seq
      (.reg [4] [
        ⟨none, (some 4), .mov (.c (.int .i64 0)), []⟩])
      (.block 2
       (.loop b291_1))))
    (.reg [3] [
      ⟨none, (some 7), .mov (.t 3), []⟩,
      ⟨none, (some 8), .bin .add (.t 7) (.c (.int .i64 1)), []⟩,
      ⟨none, (some 3), .mov (.t 8), []⟩])))
def k291 : Cd :=
  (.seq
   (.reg [2] [
     ⟨none, (some 2), .mov (.c (.bool false)), []⟩])
   (.seq
    (.seq
     (.reg [3] [
       ⟨none, (some 3), .mov (.c (.int .i64 0)), []⟩])
     (.block 0
      (.loop b291_2)))
    (.seq
     (.reg [2] [
       ⟨none, (some 2), .mov (.c (.bool true)), []⟩])
     .ret)))
def c291 : Fn := { np := 1, nt := 23, kind := .pure, res := [.t 2], body := k291 }

/- laws.toInt16A12 -/
def b292_1 : Cd :=
  (.seq
   (.seq
    (.reg [6] [
      ⟨none, (some 5), .mov (.t 4), []⟩,
      ⟨none, (some 6), .bin .lss (.t 5) (.c (.int .i64 12)), []⟩])
    (.cond (.t 6)
     .skip
     (.exit 0)))
   (.seq
    (.block 1
     (.reg [3] [
       ⟨none, (some 9), .mov (.t 4), []⟩,
       ⟨none, (some 10), .mov (.t 4), []⟩,
       ⟨none, (some 11), .adrI 1 none 12 1 (.t 10), []⟩,
       ⟨none, (some 12), .ldV 1 (some 11) 1 false, []⟩,
       ⟨none, (some 13), .adrI 3 none 12 1 (.t 9), []⟩,
       ⟨none, (some 3), .stV 3 (some 13) 1 (.t 12), []⟩]))
    (.reg [4] [
      ⟨none, (some 7), .mov (.t 4), []⟩,
      ⟨none, (some 8), .bin .add (.t 7) (.c (.int .i64 1)), []⟩,
      ⟨none, (some 4), .mov (.t 8), []⟩])))
def k292 : Cd :=
  (.seq
   (.reg [1, 2] [
     ⟨none, (some 1), .mov (.t 0), []⟩,
     ⟨none, (some 2), .zero true (zs 12 (.int .i16 0)), []⟩])
   (.seq
    (.reg [3] [
      ⟨none, (some 3), .zero true (zs 12 (.int .i16 0)), []⟩])
    (.seq
     (.seq
      (.reg [4] [
        ⟨none, (some 4), .mov (.c (.int .i64 0)), []⟩])
      (.block 0
       (.loop b292_1)))
     (.seq
      (.reg [2] [
        ⟨none, (some 14), .ldV 3 none 12 true, []⟩,
        ⟨none, (some 2), .stV 2 none 12 (.t 14), []⟩])
      .ret))))
def c292 : Fn := { np := 1, nt := 15, kind := .pure, res := [.v 2 12 true], body := k292 }

/- slices.ContainsFunc[[]int16,int16] -/
def k293 : Cd :=
  (.seq
   (.reg [4] [
     ⟨none, (some 4), .mov (.c (.bool false)), []⟩])
   (.seq
    (.reg [4] [
      ⟨none, (some 5), .mov (.t 0), []⟩,
      ⟨none, (some 6), .mov (.t 1), []⟩,
      ⟨none, (some 7), .call true 487 [.t 5, .t 6], []⟩,
      ⟨none, (some 8), .bin .geq (.t 7) (.c (.int .i64 0)), []⟩,
      ⟨none, (some 4), .mov (.t 8), []⟩])
    .ret))
def c293 : Fn := { np := 2, nt := 9, kind := .pure, res := [.t 4], body := k293 }

/- impl.ValidLight$1 -/
def k294 : Cd :=
  (.seq
   (.reg [2] [
     ⟨none, (some 2), .mov (.c (.bool false)), []⟩])
   (.seq
    (.reg [2] [
      ⟨none, (some 3), .mov (.t 0), []⟩,
      ⟨none, (some 4), .conv .i64 (.t 3), []⟩,
      ⟨none, (some 5), .call true 295 [.t 4, .c (.int .i64 0), .c (.int .i64 1000)], []⟩,
      ⟨none, (some 6), .un .not (.t 5), []⟩,
      ⟨none, (some 2), .mov (.t 6), []⟩])
    .ret))
def c294 : Fn := { np := 1, nt := 7, kind := .pure, res := [.t 2], body := k294 }

/- impl.inRange -/
def k295 : Cd :=
  (.seq
   (.reg [6] [
     ⟨none, (some 6), .mov (.c (.bool false)), []⟩])
   (.seq
    (.reg [6] [
      ⟨none, (some 7), .mov (.t 1), []⟩,
      ⟨none, (some 8), .mov (.t 0), []⟩,
      ⟨none, (some 9), .bin .leq (.t 7) (.t 8), []⟩,
      ⟨none, (some 10), .mov (.t 9), []⟩,
      ⟨(some (10, true)), (some 11), .mov (.t 0), []⟩,
      ⟨(some (10, true)), (some 12), .mov (.t 2), []⟩,
      ⟨(some (10, true)), (some 13), .bin .leq (.t 11) (.t 12), []⟩,
      ⟨none, (some 14), .pick (.t 10) (.t 13) (.c (.bool false)), []⟩,
      ⟨none, (some 6), .mov (.t 14), []⟩])
    .ret))
def c295 : Fn := { np := 3, nt := 15, kind := .pure, res := [.t 6], body := k295 }

/- spec.l00In -/
def k304 : Cd :=
  (.seq
   (.reg [6] [
     ⟨none, (some 6), .mov (.c (.bool false)), []⟩])
   (.seq
    (.reg [6] [
      ⟨none, (some 7), .mov (.t 0), []⟩,
      ⟨none, (some 8), .mov (.t 1), []⟩,
      ⟨none, (some 9), .bin .geq (.t 7) (.t 8), []⟩,
      ⟨none, (some 10), .mov (.t 9), []⟩,
      ⟨(some (10, true)), (some 11), .mov (.t 0), []⟩,
      ⟨(some (10, true)), (some 12), .mov (.t 2), []⟩,
      ⟨(some (10, true)), (some 13), .bin .leq (.t 11) (.t 12), []⟩,
      ⟨none, (some 14), .pick (.t 10) (.t 13) (.c (.bool false)), []⟩,
      ⟨none, (some 6), .mov (.t 14), []⟩])
    .ret))
def c304 : Fn := { np := 3, nt := 15, kind := .pure, res := [.t 6], body := k304 }

/- slices.IndexFunc[[]int16,int16] -/
def b487_1 : Cd :=
  (.seq
   (.reg [9] [
     ⟨none, (some 9), .bin .lss (.t 8) (.t 7), []⟩])
   (.seq
    (.cond (.t 9)
     .skip
     (.exit 0))
    (.seq
     (.block 1
      (.seq
       (.reg [5] [
         ⟨none, (some 10), .mov (.t 8), []⟩,
         ⟨none, (some 5), .mov (.t 10), []⟩])
       (.seq
        (.reg [16] [
          ⟨none, (some 11), .mov (.t 1), []⟩,
          ⟨none, (some 12), .mov (.t 0), []⟩,
          ⟨none, (some 13), .mov (.t 5), []⟩,
          ⟨none, (some 14), .idxA 1 (.t 12) (.t 13), []⟩,
          ⟨none, (some 15), .ld 1 false (.t 14), []⟩,
          ⟨none, (some 16), .callv (.t 11) [.t 15], []⟩])
        (.cond (.t 16)
         (.seq
          (.reg [4] [
            ⟨none, (some 17), .mov (.t 5), []⟩,
            ⟨none, (some 4), .mov (.t 17), []⟩])
          .ret)
         .skip))))
     (.reg [8] [
       ⟨none, (some 18), .bin .add (.t 8) (.c (.int .i64 1)), []⟩,
       ⟨none, (some 8), .mov (.t 18), []⟩]))))
def k487 : Cd :=
  (.seq
   (.reg [4] [
     ⟨none, (some 4), .mov (.c (.int .i64 0)), []⟩])
   (.seq
    (.seq
     (.reg [7, 8] [
       ⟨none, (some 6), .mov (.t 0), []⟩,
       ⟨none, (some 7), .len (.t 6), []⟩,
       ⟨none, (some 8), .mov (.c (.int .i64 0)), []⟩])
     (.block 0
      (.loop b487_1)))
    (.seq
     (.reg [4] [
       ⟨none, (some 4), .mov (.c (.int .i64 (-1))), []⟩])
     .ret)))
def c487 : Fn := { np := 2, nt := 19, kind := .pure, res := [.t 4], body := k487 }


end Fb
