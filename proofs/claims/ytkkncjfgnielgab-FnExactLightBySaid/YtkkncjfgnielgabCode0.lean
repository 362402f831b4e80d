/- The functions of the law, in the small language. -/
import Derived.Test.YtkkncjfgnielgabDen
set_option linter.unusedVariables false
set_option linter.unusedSimpArgs false
namespace Fb
open Go

/- laws.FnExactLightBy -/
def k18 : Cd :=
  (.seq
   (.reg [3, 4, 6] [
     ⟨none, (some 3), .mov (.t 0), []⟩,
     ⟨none, (some 4), .mov (.t 1), []⟩,
     ⟨none, (some 6), .mov (.c (.bool false)), []⟩])
   (.seq
    (.reg [7, 8] [
      ⟨none, (some 12), .ldV 3 none 144 true, []⟩,
      ⟨none, (some 14), .ldV 4 none 12 true, []⟩,
      ⟨none, (some 16), .mov (.t 2), []⟩,
      ⟨none, (some 7), .zero true (zs 144 (.int .i16 0)), []⟩,
      ⟨none, (some 13), .call true 62 [.t 12], []⟩,
      ⟨none, (some 15), .call true 134 [.t 14], []⟩,
      ⟨none, (some 17), .call true 133 [.t 13, .t 15, .t 16], []⟩,
      ⟨none, (some 11), .mov (.t 17), []⟩,
      ⟨none, (some 18), .ext (.t 11) 0, []⟩,
      ⟨none, (some 19), .ext (.t 11) 1, []⟩,
      ⟨none, (some 7), .stV 7 none 144 (.t 18), []⟩,
      ⟨none, (some 8), .mov (.t 19), []⟩])
    (.seq
     (.reg [9, 10] [
       ⟨none, (some 21), .ldV 3 none 144 true, []⟩,
       ⟨none, (some 23), .ldV 4 none 12 true, []⟩,
       ⟨none, (some 25), .mov (.t 2), []⟩,
       ⟨none, (some 9), .zero true (zs 144 (.int .i16 0)), []⟩,
       ⟨none, (some 22), .call true 62 [.t 21], []⟩,
       ⟨none, (some 24), .call true 134 [.t 23], []⟩,
       ⟨none, (some 26), .call true 135 [.t 22, .t 24, .t 25], []⟩,
       ⟨none, (some 20), .mov (.t 26), []⟩,
       ⟨none, (some 27), .ext (.t 20) 0, []⟩,
       ⟨none, (some 28), .ext (.t 20) 1, []⟩,
       ⟨none, (some 9), .stV 9 none 144 (.t 27), []⟩,
       ⟨none, (some 10), .mov (.t 28), []⟩])
     (.seq
      (.seq
       (.reg [37] [
         ⟨none, (some 29), .ldV 9 none 144 true, []⟩,
         ⟨none, (some 30), .ldV 7 none 144 true, []⟩,
         ⟨none, (some 31), .call true 75 [.t 29, .t 30], []⟩,
         ⟨none, (some 32), .un .not (.t 31), []⟩,
         ⟨none, (some 33), .mov (.t 32), []⟩,
         ⟨(some (33, false)), (some 34), .mov (.t 10), []⟩,
         ⟨(some (33, false)), (some 35), .mov (.t 8), []⟩,
         ⟨(some (33, false)), (some 36), .bin .neq (.t 34) (.t 35), []⟩,
         ⟨none, (some 37), .pick (.t 33) (.c (.bool true)) (.t 36), []⟩])
       (.cond (.t 37)
        (.seq
         (.reg [6] [
           ⟨none, (some 6), .mov (.c (.bool false)), []⟩])
         .ret)
        .skip))
      (.seq
       (.reg [6] [
         ⟨none, (some 6), .mov (.c (.bool true)), []⟩])
       .ret)))))
def c18 : Fn := { np := 3, nt := 38, kind := .pure, res := [.t 6], body := k18 }

/- laws.toLight -/
def b62_1 : Cd :=
  (.seq
   (.seq
    (.reg [6] [
      ⟨none, (some 5), .mov (.t 4), []⟩,
      ⟨none, (some 6), .bin .lss (.t 5) (.c (.int .i64 12)), []⟩])
    (.cond (.t 6)
     .skip
     (.exit 0)))
   (.seq
    (.block 1
     (.reg [3] [
       ⟨none, (some 9), .mov (.t 4), []⟩,
       ⟨none, (some 10), .mov (.t 4), []⟩,
       ⟨none, (some 11), .adrI 1 none 12 12 (.t 10), []⟩,
       ⟨none, (some 12), .ldV 1 (some 11) 12 true, []⟩,
       ⟨none, (some 13), .call true 292 [.t 12], []⟩,
       ⟨none, (some 14), .adrI 3 none 12 12 (.t 9), []⟩,
       ⟨none, (some 3), .stV 3 (some 14) 12 (.t 13), []⟩]))
    (.reg [4] [
      ⟨none, (some 7), .mov (.t 4), []⟩,
      ⟨none, (some 8), .bin .add (.t 7) (.c (.int .i64 1)), []⟩,
      ⟨none, (some 4), .mov (.t 8), []⟩])))
def k62 : Cd :=
  (.seq
   (.reg [1, 2] [
     ⟨none, (some 1), .mov (.t 0), []⟩,
     ⟨none, (some 2), .zero true (zs 144 (.int .i16 0)), []⟩])
   (.seq
    (.reg [3] [
      ⟨none, (some 3), .zero true (zs 144 (.int .i16 0)), []⟩])
    (.seq
     (.seq
      (.reg [4] [
        ⟨none, (some 4), .mov (.c (.int .i64 0)), []⟩])
      (.block 0
       (.loop b62_1)))
     (.seq
      (.reg [2] [
        ⟨none, (some 15), .ldV 3 none 144 true, []⟩,
        ⟨none, (some 2), .stV 2 none 144 (.t 15), []⟩])
      .ret))))
def c62 : Fn := { np := 1, nt := 16, kind := .pure, res := [.v 2 144 true], body := k62 }

/- impl.ValidLight -/
def b63_1 : Cd :=
  (.seq
   (.reg [7] [
     ⟨none, (some 7), .bin .lss (.t 6) (.c (.int .i64 12)), []⟩])
   (.seq
    (.cond (.t 7)
     .skip
     (.exit 0))
    (.seq
     (.block 1
      (.seq
       (.reg [4] [
         ⟨none, (some 8), .idx 12 12 true (.t 5) (.t 6), []⟩,
         ⟨none, (some 4), .new 1 (zs 12 (.int .i16 0)), []⟩,
         ⟨none, none, .st 12 (.t 4) (.t 8), []⟩])
       (.seq
        (.reg [10] [
          ⟨none, (some 9), .slcP 12 1 (.t 4), []⟩,
          ⟨none, (some 10), .call true 293 [.t 9, .f 294], []⟩])
        (.cond (.t 10)
         (.seq
          (.reg [2] [
            ⟨none, (some 2), .mov (.c (.bool false)), []⟩])
          .ret)
         .skip))))
     (.reg [6] [
       ⟨none, (some 11), .bin .add (.t 6) (.c (.int .i64 1)), []⟩,
       ⟨none, (some 6), .mov (.t 11), []⟩]))))
def k63 : Cd :=
  (.seq
   (.reg [1, 2] [
     ⟨none, (some 1), .mov (.t 0), []⟩,
     ⟨none, (some 2), .mov (.c (.bool false)), []⟩])
   (.seq
    (.seq
     (.reg [5, 6] [
       ⟨none, (some 5), .ldV 1 none 144 true, []⟩,
       ⟨none, (some 6), .mov (.c (.int .i64 0)), []⟩])
     (.block 0
      (.loop b63_1)))
    (.seq
     (.reg [2] [
       ⟨none, (some 2), .mov (.c (.bool true)), []⟩])
     .ret)))
def c63 : Fn := { np := 1, nt := 12, kind := .pure, res := [.t 2], body := k63 }

/- laws.eqLight -/
def b75_1 : Cd :=
  (.seq
   (.seq
    (.reg [7] [
      ⟨none, (some 6), .mov (.t 5), []⟩,
      ⟨none, (some 7), .bin .lss (.t 6) (.c (.int .i64 12)), []⟩])
    (.cond (.t 7)
     .skip
     (.exit 0)))
   (.seq
    (.block 1
     (.seq
      (.reg [17] [
        ⟨none, (some 10), .mov (.t 5), []⟩,
        ⟨none, (some 11), .adrI 2 none 12 12 (.t 10), []⟩,
        ⟨none, (some 12), .ldV 2 (some 11) 12 true, []⟩,
        ⟨none, (some 13), .mov (.t 5), []⟩,
        ⟨none, (some 14), .adrI 3 none 12 12 (.t 13), []⟩,
        ⟨none, (some 15), .ldV 3 (some 14) 12 true, []⟩,
        ⟨none, (some 16), .call true 303 [.t 12, .t 15], []⟩,
        ⟨none, (some 17), .un .not (.t 16), []⟩])
      (.cond (.t 17)
       (.seq
        (.reg [4] [
          ⟨none, (some 4), .mov (.c (.bool false)), []⟩])
        .ret)
       .skip)))
    (.reg [5] [
      ⟨none, (some 8), .mov (.t 5), []⟩,
      ⟨none, (some 9), .bin .add (.t 8) (.c (.int .i64 1)), []⟩,
      ⟨none, (some 5), .mov (.t 9), []⟩])))
def k75 : Cd :=
  (.seq
   (.reg [2, 3, 4] [
     ⟨none, (some 2), .mov (.t 0), []⟩,
     ⟨none, (some 3), .mov (.t 1), []⟩,
     ⟨none, (some 4), .mov (.c (.bool false)), []⟩])
   (.seq
    (.seq
     (.reg [5] [
       ⟨none, (some 5), .mov (.c (.int .i64 0)), []⟩])
     (.block 0
      (.loop b75_1)))
    (.seq
     (.reg [4] [
       ⟨none, (some 4), .mov (.c (.bool true)), []⟩])
     .ret)))
def c75 : Fn := { np := 2, nt := 18, kind := .pure, res := [.t 4], body := k75 }

/- spec.LightBy -/
def k133 : Cd :=
  (.seq
   (.reg [3, 4, 6, 7] [
     ⟨none, (some 3), .box 144 (.t 0), []⟩,
     ⟨none, (some 4), .box 12 (.t 1), []⟩,
     ⟨none, (some 6), .zero true (zs 144 (.int .i16 0)), []⟩,
     ⟨none, (some 7), .mov (.c (.int .i64 0)), []⟩])
   (.seq
    (.seq
     (.reg [13] [
       ⟨none, (some 8), .call true 291 [.t 3], []⟩,
       ⟨none, (some 9), .un .not (.t 8), []⟩,
       ⟨none, (some 10), .mov (.t 9), []⟩,
       ⟨(some (10, false)), (some 11), .call true 359 [.t 4], []⟩,
       ⟨(some (10, false)), (some 12), .un .not (.t 11), []⟩,
       ⟨none, (some 13), .pick (.t 10) (.c (.bool true)) (.t 12), []⟩])
     (.cond (.t 13)
      (.seq
       (.reg [6, 7] [
         ⟨none, (some 14), .agg (zs 144 (.int .i16 0)) [], []⟩,
         ⟨none, (some 6), .stV 6 none 144 (.t 14), []⟩,
         ⟨none, (some 7), .mov (.c (.int .i64 1)), []⟩])
       .ret)
      .skip))
    (.seq
     (.seq
      (.reg [17] [
        ⟨none, (some 15), .mov (.t 2), []⟩,
        ⟨none, (some 16), .call true 299 [.t 15], []⟩,
        ⟨none, (some 17), .un .not (.t 16), []⟩])
      (.cond (.t 17)
       (.seq
        (.reg [6, 7] [
          ⟨none, (some 18), .agg (zs 144 (.int .i16 0)) [], []⟩,
          ⟨none, (some 6), .stV 6 none 144 (.t 18), []⟩,
          ⟨none, (some 7), .mov (.c (.int .i64 2)), []⟩])
        .ret)
       .skip))
     (.seq
      (.reg [6, 7] [
        ⟨none, (some 19), .ld 144 true (.t 3), []⟩,
        ⟨none, (some 20), .mov (.t 2), []⟩,
        ⟨none, (some 21), .call true 360 [.t 19, .t 4, .t 20], []⟩,
        ⟨none, (some 6), .stV 6 none 144 (.t 21), []⟩,
        ⟨none, (some 7), .mov (.c (.int .i64 0)), []⟩])
      .ret))))
def c133 : Fn := { np := 3, nt := 22, kind := .pure, res := [.v 6 144 true, .t 7], body := k133 }

/- laws.toFrame -/
def b134_1 : Cd :=
  (.seq
   (.seq
    (.reg [6] [
      ⟨none, (some 5), .mov (.t 4), []⟩,
      ⟨none, (some 6), .bin .lss (.t 5) (.c (.int .i64 12)), []⟩])
    (.cond (.t 6)
     .skip
     (.exit 0)))
   (.seq
    (.block 1
     (.reg [3] [
       ⟨none, (some 9), .mov (.t 4), []⟩,
       ⟨none, (some 10), .mov (.t 4), []⟩,
       ⟨none, (some 11), .adrI 1 none 12 1 (.t 10), []⟩,
       ⟨none, (some 12), .ldV 1 (some 11) 1 false, []⟩,
       ⟨none, (some 13), .adrI 3 none 12 1 (.t 9), []⟩,
       ⟨none, (some 3), .stV 3 (some 13) 1 (.t 12), []⟩]))
    (.reg [4] [
      ⟨none, (some 7), .mov (.t 4), []⟩,
      ⟨none, (some 8), .bin .add (.t 7) (.c (.int .i64 1)), []⟩,
      ⟨none, (some 4), .mov (.t 8), []⟩])))
def k134 : Cd :=
  (.seq
   (.reg [1, 2] [
     ⟨none, (some 1), .mov (.t 0), []⟩,
     ⟨none, (some 2), .zero true (zs 12 (.int .u16 0)), []⟩])
   (.seq
    (.reg [3] [
      ⟨none, (some 3), .zero true (zs 12 (.int .u16 0)), []⟩])
    (.seq
     (.seq
      (.reg [4] [
        ⟨none, (some 4), .mov (.c (.int .i64 0)), []⟩])
      (.block 0
       (.loop b134_1)))
     (.seq
      (.reg [2] [
        ⟨none, (some 14), .ldV 3 none 12 true, []⟩,
        ⟨none, (some 2), .stV 2 none 12 (.t 14), []⟩])
      .ret))))
def c134 : Fn := { np := 1, nt := 15, kind := .pure, res := [.v 2 12 true], body := k134 }

/- impl.LightBy -/
def k135 : Cd :=
  (.seq
   (.reg [3, 4, 6, 7] [
     ⟨none, (some 3), .mov (.t 0), []⟩,
     ⟨none, (some 4), .mov (.t 1), []⟩,
     ⟨none, (some 6), .zero true (zs 144 (.int .i16 0)), []⟩,
     ⟨none, (some 7), .mov (.c (.int .i64 0)), []⟩])
   (.seq
    (.block 0
     (.seq
      (.reg [8] [
        ⟨none, (some 9), .ldV 3 none 144 true, []⟩,
        ⟨none, (some 10), .call true 63 [.t 9], []⟩,
        ⟨none, (some 11), .un .not (.t 10), []⟩,
        ⟨none, (some 12), .mov (.t 11), []⟩,
        ⟨(some (12, false)), (some 13), .ldV 4 none 12 true, []⟩,
        ⟨(some (12, false)), (some 14), .call true 234 [.t 13], []⟩,
        ⟨(some (12, false)), (some 15), .un .not (.t 14), []⟩,
        ⟨none, (some 16), .pick (.t 12) (.c (.bool true)) (.t 15), []⟩,
        ⟨none, (some 8), .mov (.t 16), []⟩])
      (.cond (.t 8)
       (.seq
        (.reg [6, 7] [
          ⟨none, (some 17), .agg (zs 144 (.int .i16 0)) [], []⟩,
          ⟨none, (some 6), .stV 6 none 144 (.t 17), []⟩,
          ⟨none, (some 7), .mov (.c (.int .i64 1)), []⟩])
        .ret)
       (.seq
        (.reg [18] [
          ⟨none, (some 19), .mov (.t 2), []⟩,
          ⟨none, (some 20), .call true 301 [.t 19], []⟩,
          ⟨none, (some 21), .un .not (.t 20), []⟩,
          ⟨none, (some 18), .mov (.t 21), []⟩])
        (.cond (.t 18)
         (.seq
          (.reg [6, 7] [
            ⟨none, (some 22), .agg (zs 144 (.int .i16 0)) [], []⟩,
            ⟨none, (some 6), .stV 6 none 144 (.t 22), []⟩,
            ⟨none, (some 7), .mov (.c (.int .i64 2)), []⟩])
          .ret)
         .skip)))))
    (.seq
     (.reg [6, 7] [
       ⟨none, (some 23), .ldV 3 none 144 true, []⟩,
       ⟨none, (some 24), .mov (.t 2), []⟩,
       ⟨none, (some 26), .ldV 4 none 12 true, []⟩,
       ⟨none, (some 25), .call true 302 [.t 23, .t 24], []⟩,
       ⟨none, (some 27), .call true 361 [.t 25, .t 26], []⟩,
       ⟨none, (some 6), .stV 6 none 144 (.t 27), []⟩,
       ⟨none, (some 7), .mov (.c (.int .i64 0)), []⟩])
     .ret)))
def c135 : Fn := { np := 3, nt := 28, kind := .pure, res := [.v 6 144 true, .t 7], body := k135 }

/- impl.ValidFrame -/
def k234 : Cd :=
  (.seq
   (.reg [1, 2] [
     ⟨none, (some 1), .box 12 (.t 0), []⟩,
     ⟨none, (some 2), .mov (.c (.bool false)), []⟩])
   (.seq
    (.reg [2] [
      ⟨none, (some 3), .slcP 12 1 (.t 1), []⟩,
      ⟨none, (some 4), .call true 445 [.t 3, .f 446], []⟩,
      ⟨none, (some 5), .un .not (.t 4), []⟩,
      ⟨none, (some 2), .mov (.t 5), []⟩])
    .ret))
def c234 : Fn := { np := 1, nt := 6, kind := .pure, res := [.t 2], body := k234 }

/- spec.l07Ok -/
def b291_1 : Cd :=
  (.seq
   (.seq
    (.reg [10] [
      ⟨none, (some 9), .mov (.t 4), []⟩,
      ⟨none, (some 10), .bin .lss (.t 9) (.c (.int .i64 12)), []⟩])
    (.cond (.t 10)
     .skip
     (.exit 2)))
   (.seq
    (.block 3
     (.seq
      (.reg [22] [
        ⟨none, (some 13), .mov (.t 0), []⟩,
        ⟨none, (some 14), .mov (.t 3), []⟩,
        ⟨none, (some 15), .mov (.t 4), []⟩,
        ⟨none, (some 16), .nil (.t 13), []⟩,
        ⟨none, (some 17), .idxP 12 12 (.t 16) (.t 14), []⟩,
        ⟨none, (some 18), .idxP 12 1 (.t 17) (.t 15), []⟩,
        ⟨none, (some 19), .ld 1 false (.t 18), []⟩,
        ⟨none, (some 20), .conv .i64 (.t 19), []⟩,
        ⟨none, (some 21), .call true 304 [.t 20, .c (.int .i64 0), .c (.int .i64 1000)], []⟩,
        ⟨none, (some 22), .un .not (.t 21), []⟩])
      (.cond (.t 22)
       (.seq
        (.reg [2] [
          ⟨none, (some 2), .mov (.c (.bool false)), []⟩])
        .ret)
       .skip)))
    (.reg [4] [
      ⟨none, (some 11), .mov (.t 4), []⟩,
      ⟨none, (some 12), .bin .add (.t 11) (.c (.int .i64 1)), []⟩,
      ⟨none, (some 4), .mov (.t 12), []⟩])))
def b291_2 : Cd :=
  (.seq
   (.seq
    (.reg [6] [
      ⟨none, (some 5), .mov (.t 3), []⟩,
      ⟨none, (some 6), .bin .lss (.t 5) (.c (.int .i64 12)), []⟩])
    (.cond (.t 6)
     .skip
     (.exit 0)))
   (.seq
    (.block 1
     (.seq
      (.reg [4] [
        ⟨none, (some 4), .mov (.c (.int .i64 0)), []⟩])
      (.block 2
       (.loop b291_1))))
    (.reg [3] [
      ⟨none, (some 7), .mov (.t 3), []⟩,
      ⟨none, (some 8), .bin .add (.t 7) (.c (.int .i64 1)), []⟩,
      ⟨none, (some 3), .mov (.t 8), []⟩])))
def k291 : Cd :=
  (.seq
   (.reg [2] [
     ⟨none, (some 2), .mov (.c (.bool false)), []⟩])
   (.seq
    (.seq
     (.reg [3] [
       ⟨none, (some 3), .mov (.c (.int .i64 0)), []⟩])
     (.block 0
      (.loop b291_2)))
    (.seq
     (.reg [2] [
       ⟨none, (some 2), .mov (.c (.bool true)), []⟩])
     .ret)))
def c291 : Fn := { np := 1, nt := 23, kind := .pure, res := [.t 2], body := k291 }

/- laws.toInt16A12 -/
def b292_1 : Cd :=
  (.seq
   (.seq
    (.reg [6] [
      ⟨none, (some 5), .mov (.t 4), []⟩,
      ⟨none, (some 6), .bin .lss (.t 5) (.c (.int .i64 12)), []⟩])
    (.cond (.t 6)
     .skip
     (.exit 0)))
   (.seq
    (.block 1
     (.reg [3] [
       ⟨none, (some 9), .mov (.t 4), []⟩,
       ⟨none, (some 10), .mov (.t 4), []⟩,
       ⟨none, (some 11), .adrI 1 none 12 1 (.t 10), []⟩,
       ⟨none, (some 12), .ldV 1 (some 11) 1 false, []⟩,
       ⟨none, (some 13), .adrI 3 none 12 1 (.t 9), []⟩,
       ⟨none, (some 3), .stV 3 (some 13) 1 (.t 12), []⟩]))
    (.reg [4] [
      ⟨none, (some 7), .mov (.t 4), []⟩,
      ⟨none, (some 8), .bin .add (.t 7) (.c (.int .i64 1)), []⟩,
      ⟨none, (some 4), .mov (.t 8), []⟩])))
def k292 : Cd :=
  (.seq
   (.reg [1, 2] [
     ⟨none, (some 1), .mov (.t 0), []⟩,
     ⟨none, (some 2), .zero true (zs 12 (.int .i16 0)), []⟩])
   (.seq
    (.reg [3] [
      ⟨none, (some 3), .zero true (zs 12 (.int .i16 0)), []⟩])
    (.seq
     (.seq
      (.reg [4] [
        ⟨none, (some 4), .mov (.c (.int .i64 0)), []⟩])
      (.block 0
       (.loop b292_1)))
     (.seq
      (.reg [2] [
        ⟨none, (some 14), .ldV 3 none 12 true, []⟩,
        ⟨none, (some 2), .stV 2 none 12 (.t 14), []⟩])
      .ret))))
def c292 : Fn := { np := 1, nt := 15, kind := .pure, res := [.v 2 12 true], body := k292 }

/- slices.ContainsFunc[[]int16,int16] -/
def k293 : Cd :=
  (.seq
   (.reg [4] [
     ⟨none, (some 4), .mov (.c (.bool false)), []⟩])
   (.seq
    (.reg [4] [
      ⟨none, (some 5), .mov (.t 0), []⟩,
      ⟨none, (some 6), .mov (.t 1), []⟩,
      ⟨none, (some 7), .call true 487 [.t 5, .t 6], []⟩,
      ⟨none, (some 8), .bin .geq (.t 7) (.c (.int .i64 0)), []⟩,
      ⟨none, (some 4), .mov (.t 8), []⟩])
    .ret))
def c293 : Fn := { np := 2, nt := 9, kind := .pure, res := [.t 4], body := k293 }

/- impl.ValidLight$1 -/
def k294 : Cd :=
  (.seq
   (.reg [2] [
     ⟨none, (some 2), .mov (.c (.bool false)), []⟩])
   (.seq
    (.reg [2] [
      ⟨none, (some 3), .mov (.t 0), []⟩,
      ⟨none, (some 4), .conv .i64 (.t 3), []⟩,
      ⟨none, (some 5), .call true 295 [.t 4, .c (.int .i64 0), .c (.int .i64 1000)], []⟩,
      ⟨none, (some 6), .un .not (.t 5), []⟩,
      ⟨none, (some 2), .mov (.t 6), []⟩])
    .ret))
def c294 : Fn := { np := 1, nt := 7, kind := .pure, res := [.t 2], body := k294 }

/- impl.inRange -/
def k295 : Cd :=
  (.seq
   (.reg [6] [
     ⟨none, (some 6), .mov (.c (.bool false)), []⟩])
   (.seq
    (.reg [6] [
      ⟨none, (some 7), .mov (.t 1), []⟩,
      ⟨none, (some 8), .mov (.t 0), []⟩,
      ⟨none, (some 9), .bin .leq (.t 7) (.t 8), []⟩,
      ⟨none, (some 10), .mov (.t 9), []⟩,
      ⟨(some (10, true)), (some 11), .mov (.t 0), []⟩,
      ⟨(some (10, true)), (some 12), .mov (.t 2), []⟩,
      ⟨(some (10, true)), (some 13), .bin .leq (.t 11) (.t 12), []⟩,
      ⟨none, (some 14), .pick (.t 10) (.t 13) (.c (.bool false)), []⟩,
      ⟨none, (some 6), .mov (.t 14), []⟩])
    .ret))
def c295 : Fn := { np := 3, nt := 15, kind := .pure, res := [.t 6], body := k295 }

/- spec.l07Keep -/
def k299 : Cd :=
  (.seq
   (.reg [2] [
     ⟨none, (some 2), .mov (.c (.bool false)), []⟩])
   (.seq
    (.reg [2] [
      ⟨none, (some 3), .mov (.t 0), []⟩,
      ⟨none, (some 4), .call true 304 [.t 3, .c (.int .i64 0), .c (.int .i64 8)], []⟩,
      ⟨none, (some 2), .mov (.t 4), []⟩])
    .ret))
def c299 : Fn := { np := 1, nt := 5, kind := .pure, res := [.t 2], body := k299 }

/- spec.l07Fade -/
def b300_1 : Cd :=
  (.seq
   (.seq
    (.reg [12] [
      ⟨none, (some 11), .mov (.t 6), []⟩,
      ⟨none, (some 12), .bin .lss (.t 11) (.c (.int .i64 12)), []⟩])
    (.cond (.t 12)
     .skip
     (.exit 2)))
   (.seq
    (.block 3
     (.reg [2] [
       ⟨none, (some 15), .mov (.t 5), []⟩,
       ⟨none, (some 16), .mov (.t 6), []⟩,
       ⟨none, (some 17), .mov (.t 5), []⟩,
       ⟨none, (some 18), .mov (.t 6), []⟩,
       ⟨none, (some 19), .adrI 2 none 12 12 (.t 17), []⟩,
       ⟨none, (some 20), .adrI 2 (some 19) 12 1 (.t 18), []⟩,
       ⟨none, (some 21), .ldV 2 (some 20) 1 false, []⟩,
       ⟨none, (some 22), .conv .i64 (.t 21), []⟩,
       ⟨none, (some 23), .mov (.t 1), []⟩,
       ⟨none, (some 24), .bin .mul (.t 22) (.t 23), []⟩,
       ⟨none, (some 25), .bin .quo (.t 24) (.c (.int .i64 8)), []⟩,
       ⟨none, (some 26), .conv .i16 (.t 25), []⟩,
       ⟨none, (some 27), .adrI 2 none 12 12 (.t 15), []⟩,
       ⟨none, (some 28), .adrI 2 (some 27) 12 1 (.t 16), []⟩,
       ⟨none, (some 2), .stV 2 (some 28) 1 (.t 26), []⟩]))
    (.reg [6] [
      ⟨none, (some 13), .mov (.t 6), []⟩,
      ⟨none, (some 14), .bin .add (.t 13) (.c (.int .i64 1)), []⟩,
      ⟨none, (some 6), .mov (.t 14), []⟩])))
def b300_2 : Cd :=
  (.seq
   (.seq
    (.reg [8] [
      ⟨none, (some 7), .mov (.t 5), []⟩,
      ⟨none, (some 8), .bin .lss (.t 7) (.c (.int .i64 12)), []⟩])
    (.cond (.t 8)
     .skip
     (.exit 0)))
   (.seq
    (.block 1
     (.seq
      (.reg [6] [
        ⟨none, (some 6), .mov (.c (.int .i64 0)), []⟩])
      (.block 2
       (.loop b300_1))))
    (.reg [5] [
      ⟨none, (some 9), .mov (.t 5), []⟩,
      ⟨none, (some 10), .bin .add (.t 9) (.c (.int .i64 1)), []⟩,
      ⟨none, (some 5), .mov (.t 10), []⟩])))
def k300 : Cd :=
  (.seq
   (.reg [2, 4] [
     ⟨none, (some 2), .mov (.t 0), []⟩,
     ⟨none, (some 4), .zero true (zs 144 (.int .i16 0)), []⟩])
   (.seq
    (.seq
     (.reg [5] [
       ⟨none, (some 5), .mov (.c (.int .i64 0)), []⟩])
     (.block 0
      (.loop b300_2)))
    (.seq
     (.reg [4] [
       ⟨none, (some 29), .ldV 2 none 144 true, []⟩,
       ⟨none, (some 4), .stV 4 none 144 (.t 29), []⟩])
     .ret)))
def c300 : Fn := { np := 2, nt := 30, kind := .pure, res := [.v 4 144 true], body := k300 }

/- impl.isKeep -/
def k301 : Cd :=
  (.seq
   (.reg [2] [
     ⟨none, (some 2), .mov (.c (.bool false)), []⟩])
   (.seq
    (.reg [2] [
      ⟨none, (some 3), .mov (.t 0), []⟩,
      ⟨none, (some 4), .call true 295 [.t 3, .c (.int .i64 0), .c (.int .i64 8)], []⟩,
      ⟨none, (some 2), .mov (.t 4), []⟩])
    .ret))
def c301 : Fn := { np := 1, nt := 5, kind := .pure, res := [.t 2], body := k301 }

/- (impl.Light).faded -/
def b302_1 : Cd :=
  (.seq
   (.reg [15] [
     ⟨none, (some 15), .bin .lss (.t 14) (.c (.int .i64 12)), []⟩])
   (.seq
    (.cond (.t 15)
     .skip
     (.exit 2))
    (.seq
     (.block 3
      (.seq
       (.reg [6, 7] [
         ⟨none, (some 16), .mov (.t 14), []⟩,
         ⟨none, (some 17), .idx 12 1 false (.t 13) (.t 14), []⟩,
         ⟨none, (some 6), .mov (.t 16), []⟩,
         ⟨none, (some 7), .mov (.t 17), []⟩])
       (.reg [2] [
         ⟨none, (some 18), .mov (.t 5), []⟩,
         ⟨none, (some 19), .mov (.t 6), []⟩,
         ⟨none, (some 20), .mov (.t 7), []⟩,
         ⟨none, (some 21), .conv .i64 (.t 20), []⟩,
         ⟨none, (some 22), .mov (.t 1), []⟩,
         ⟨none, (some 23), .bin .mul (.t 21) (.t 22), []⟩,
         ⟨none, (some 24), .bin .quo (.t 23) (.c (.int .i64 8)), []⟩,
         ⟨none, (some 25), .conv .i16 (.t 24), []⟩,
         ⟨none, (some 26), .adrI 2 none 12 12 (.t 18), []⟩,
         ⟨none, (some 27), .adrI 2 (some 26) 12 1 (.t 19), []⟩,
         ⟨none, (some 2), .stV 2 (some 27) 1 (.t 25), []⟩])))
     (.reg [14] [
       ⟨none, (some 28), .bin .add (.t 14) (.c (.int .i64 1)), []⟩,
       ⟨none, (some 14), .mov (.t 28), []⟩]))))
def b302_2 : Cd :=
  (.seq
   (.reg [9] [
     ⟨none, (some 9), .bin .lss (.t 8) (.c (.int .i64 12)), []⟩])
   (.seq
    (.cond (.t 9)
     .skip
     (.exit 0))
    (.seq
     (.block 1
      (.seq
       (.reg [5] [
         ⟨none, (some 10), .mov (.t 8), []⟩,
         ⟨none, (some 5), .mov (.t 10), []⟩])
       (.seq
        (.reg [13, 14] [
          ⟨none, (some 11), .mov (.t 5), []⟩,
          ⟨none, (some 12), .adrI 2 none 12 12 (.t 11), []⟩,
          ⟨none, (some 13), .ldV 2 (some 12) 12 true, []⟩,
          ⟨none, (some 14), .mov (.c (.int .i64 0)), []⟩])
        (.block 2
         (.loop b302_1)))))
     (.reg [8] [
       ⟨none, (some 29), .bin .add (.t 8) (.c (.int .i64 1)), []⟩,
       ⟨none, (some 8), .mov (.t 29), []⟩]))))
def k302 : Cd :=
  (.seq
   (.reg [2, 4] [
     ⟨none, (some 2), .mov (.t 0), []⟩,
     ⟨none, (some 4), .zero true (zs 144 (.int .i16 0)), []⟩])
   (.seq
    (.seq
     (.reg [8] [
       ⟨none, (some 8), .mov (.c (.int .i64 0)), []⟩])
     (.block 0
      (.loop b302_2)))
    (.seq
     (.reg [4] [
       ⟨none, (some 30), .ldV 2 none 144 true, []⟩,
       ⟨none, (some 4), .stV 4 none 144 (.t 30), []⟩])
     .ret)))
def c302 : Fn := { np := 2, nt := 31, kind := .pure, res := [.v 4 144 true], body := k302 }

/- laws.eqInt16A12 -/
def b303_1 : Cd :=
  (.seq
   (.seq
    (.reg [7] [
      ⟨none, (some 6), .mov (.t 5), []⟩,
      ⟨none, (some 7), .bin .lss (.t 6) (.c (.int .i64 12)), []⟩])
    (.cond (.t 7)
     .skip
     (.exit 0)))
   (.seq
    (.block 1
     (.seq
      (.reg [16] [
        ⟨none, (some 10), .mov (.t 5), []⟩,
        ⟨none, (some 11), .adrI 2 none 12 1 (.t 10), []⟩,
        ⟨none, (some 12), .ldV 2 (some 11) 1 false, []⟩,
        ⟨none, (some 13), .mov (.t 5), []⟩,
        ⟨none, (some 14), .adrI 3 none 12 1 (.t 13), []⟩,
        ⟨none, (some 15), .ldV 3 (some 14) 1 false, []⟩,
        ⟨none, (some 16), .bin .neq (.t 12) (.t 15), []⟩])
      (.cond (.t 16)
       (.seq
        (.reg [4] [
          ⟨none, (some 4), .mov (.c (.bool false)), []⟩])
        .ret)
       .skip)))
    (.reg [5] [
      ⟨none, (some 8), .mov (.t 5), []⟩,
      ⟨none, (some 9), .bin .add (.t 8) (.c (.int .i64 1)), []⟩,
      ⟨none, (some 5), .mov (.t 9), []⟩])))
def k303 : Cd :=
  (.seq
   (.reg [2, 3, 4] [
     ⟨none, (some 2), .mov (.t 0), []⟩,
     ⟨none, (some 3), .mov (.t 1), []⟩,
     ⟨none, (some 4), .mov (.c (.bool false)), []⟩])
   (.seq
    (.seq
     (.reg [5] [
       ⟨none, (some 5), .mov (.c (.int .i64 0)), []⟩])
     (.block 0
      (.loop b303_1)))
    (.seq
     (.reg [4] [
       ⟨none, (some 4), .mov (.c (.bool true)), []⟩])
     .ret)))
def c303 : Fn := { np := 2, nt := 17, kind := .pure, res := [.t 4], body := k303 }

/- spec.l00In -/
def k304 : Cd :=
  (.seq
   (.reg [6] [
     ⟨none, (some 6), .mov (.c (.bool false)), []⟩])
   (.seq
    (.reg [6] [
      ⟨none, (some 7), .mov (.t 0), []⟩,
      ⟨none, (some 8), .mov (.t 1), []⟩,
      ⟨none, (some 9), .bin .geq (.t 7) (.t 8), []⟩,
      ⟨none, (some 10), .mov (.t 9), []⟩,
      ⟨(some (10, true)), (some 11), .mov (.t 0), []⟩,
      ⟨(some (10, true)), (some 12), .mov (.t 2), []⟩,
      ⟨(some (10, true)), (some 13), .bin .leq (.t 11) (.t 12), []⟩,
      ⟨none, (some 14), .pick (.t 10) (.t 13) (.c (.bool false)), []⟩,
      ⟨none, (some 6), .mov (.t 14), []⟩])
    .ret))
def c304 : Fn := { np := 3, nt := 15, kind := .pure, res := [.t 6], body := k304 }

/- spec.l01Place -/
def k342 : Cd :=
  (.seq
   (.reg [4] [
     ⟨none, (some 4), .mov (.c (.bool false)), []⟩])
   (.seq
    (.reg [4] [
      ⟨none, (some 5), .mov (.t 0), []⟩,
      ⟨none, (some 6), .call true 304 [.t 5, .c (.int .i64 0), .c (.int .i64 11)], []⟩,
      ⟨none, (some 7), .mov (.t 6), []⟩,
      ⟨(some (7, true)), (some 8), .mov (.t 1), []⟩,
      ⟨(some (7, true)), (some 9), .call true 304 [.t 8, .c (.int .i64 0), .c (.int .i64 11)], []⟩,
      ⟨none, (some 10), .pick (.t 7) (.t 9) (.c (.bool false)), []⟩,
      ⟨none, (some 4), .mov (.t 10), []⟩])
    .ret))
def c342 : Fn := { np := 2, nt := 11, kind := .pure, res := [.t 4], body := k342 }

/- impl.isPlace -/
def k345 : Cd :=
  (.seq
   (.reg [4] [
     ⟨none, (some 4), .mov (.c (.bool false)), []⟩])
   (.seq
    (.reg [4] [
      ⟨none, (some 5), .mov (.t 0), []⟩,
      ⟨none, (some 6), .call true 295 [.t 5, .c (.int .i64 0), .c (.int .i64 11)], []⟩,
      ⟨none, (some 7), .mov (.t 6), []⟩,
      ⟨(some (7, true)), (some 8), .mov (.t 1), []⟩,
      ⟨(some (7, true)), (some 9), .call true 295 [.t 8, .c (.int .i64 0), .c (.int .i64 11)], []⟩,
      ⟨none, (some 10), .pick (.t 7) (.t 9) (.c (.bool false)), []⟩,
      ⟨none, (some 4), .mov (.t 10), []⟩])
    .ret))
def c345 : Fn := { np := 2, nt := 11, kind := .pure, res := [.t 4], body := k345 }

/- spec.l01Ok -/
def b359_1 : Cd :=
  (.seq
   (.seq
    (.reg [5] [
      ⟨none, (some 4), .mov (.t 3), []⟩,
      ⟨none, (some 5), .bin .lss (.t 4) (.c (.int .i64 12)), []⟩])
    (.cond (.t 5)
     .skip
     (.exit 0)))
   (.seq
    (.block 1
     (.seq
      (.reg [13] [
        ⟨none, (some 8), .mov (.t 0), []⟩,
        ⟨none, (some 9), .mov (.t 3), []⟩,
        ⟨none, (some 10), .nil (.t 8), []⟩,
        ⟨none, (some 11), .idxP 12 1 (.t 10) (.t 9), []⟩,
        ⟨none, (some 12), .ld 1 false (.t 11), []⟩,
        ⟨none, (some 13), .bin .gtr (.t 12) (.c (.int .u16 4095)), []⟩])
      (.cond (.t 13)
       (.seq
        (.reg [2] [
          ⟨none, (some 2), .mov (.c (.bool false)), []⟩])
        .ret)
       .skip)))
    (.reg [3] [
      ⟨none, (some 6), .mov (.t 3), []⟩,
      ⟨none, (some 7), .bin .add (.t 6) (.c (.int .i64 1)), []⟩,
      ⟨none, (some 3), .mov (.t 7), []⟩])))
def k359 : Cd :=
  (.seq
   (.reg [2] [
     ⟨none, (some 2), .mov (.c (.bool false)), []⟩])
   (.seq
    (.seq
     (.reg [3] [
       ⟨none, (some 3), .mov (.c (.int .i64 0)), []⟩])
     (.block 0
      (.loop b359_1)))
    (.seq
     (.reg [2] [
       ⟨none, (some 2), .mov (.c (.bool true)), []⟩])
     .ret)))
def c359 : Fn := { np := 1, nt := 14, kind := .pure, res := [.t 2], body := k359 }

/- spec.l07By -/
def b360_1 : Cd :=
  (.seq
   (.seq
    (.reg [17] [
      ⟨none, (some 16), .mov (.t 8), []⟩,
      ⟨none, (some 17), .bin .lss (.t 16) (.c (.int .i64 12)), []⟩])
    (.cond (.t 17)
     .skip
     (.exit 2)))
   (.seq
    (.block 3
     (.seq
      (.reg [23] [
        ⟨none, (some 20), .mov (.t 1), []⟩,
        ⟨none, (some 21), .mov (.t 8), []⟩,
        ⟨none, (some 22), .mov (.t 7), []⟩,
        ⟨none, (some 23), .call true 456 [.t 20, .t 21, .t 22], []⟩])
      (.cond (.t 23)
       (.reg [3] [
         ⟨none, (some 24), .mov (.t 7), []⟩,
         ⟨none, (some 25), .mov (.t 8), []⟩,
         ⟨none, (some 26), .mov (.t 7), []⟩,
         ⟨none, (some 27), .mov (.t 8), []⟩,
         ⟨none, (some 28), .adrI 3 none 12 12 (.t 26), []⟩,
         ⟨none, (some 29), .adrI 3 (some 28) 12 1 (.t 27), []⟩,
         ⟨none, (some 30), .ldV 3 (some 29) 1 false, []⟩,
         ⟨none, (some 31), .conv .i64 (.t 30), []⟩,
         ⟨none, (some 32), .bin .add (.t 31) (.c (.int .i64 64)), []⟩,
         ⟨none, (some 35), .adrI 3 none 12 12 (.t 24), []⟩,
         ⟨none, (some 33), .call true 511 [.c (.int .i64 1000), .t 32], []⟩,
         ⟨none, (some 34), .conv .i16 (.t 33), []⟩,
         ⟨none, (some 36), .adrI 3 (some 35) 12 1 (.t 25), []⟩,
         ⟨none, (some 3), .stV 3 (some 36) 1 (.t 34), []⟩])
       .skip)))
    (.reg [8] [
      ⟨none, (some 18), .mov (.t 8), []⟩,
      ⟨none, (some 19), .bin .add (.t 18) (.c (.int .i64 1)), []⟩,
      ⟨none, (some 8), .mov (.t 19), []⟩])))
def b360_2 : Cd :=
  (.seq
   (.seq
    (.reg [13] [
      ⟨none, (some 12), .mov (.t 7), []⟩,
      ⟨none, (some 13), .bin .lss (.t 12) (.c (.int .i64 12)), []⟩])
    (.cond (.t 13)
     .skip
     (.exit 0)))
   (.seq
    (.block 1
     (.seq
      (.reg [8] [
        ⟨none, (some 8), .mov (.c (.int .i64 0)), []⟩])
      (.block 2
       (.loop b360_1))))
    (.reg [7] [
      ⟨none, (some 14), .mov (.t 7), []⟩,
      ⟨none, (some 15), .bin .add (.t 14) (.c (.int .i64 1)), []⟩,
      ⟨none, (some 7), .mov (.t 15), []⟩])))
def k360 : Cd :=
  (.seq
   (.reg [3, 6] [
     ⟨none, (some 3), .mov (.t 0), []⟩,
     ⟨none, (some 6), .zero true (zs 144 (.int .i16 0)), []⟩])
   (.seq
    (.reg [3] [
      ⟨none, (some 9), .ldV 3 none 144 true, []⟩,
      ⟨none, (some 10), .mov (.t 2), []⟩,
      ⟨none, (some 11), .call true 300 [.t 9, .t 10], []⟩,
      ⟨none, (some 3), .stV 3 none 144 (.t 11), []⟩])
    (.seq
     (.seq
      (.reg [7] [
        ⟨none, (some 7), .mov (.c (.int .i64 0)), []⟩])
      (.block 0
       (.loop b360_2)))
     (.seq
      (.reg [6] [
        ⟨none, (some 37), .ldV 3 none 144 true, []⟩,
        ⟨none, (some 6), .stV 6 none 144 (.t 37), []⟩])
      .ret))))
def c360 : Fn := { np := 3, nt := 38, kind := .pure, res := [.v 6 144 true], body := k360 }

/- (impl.Light).lit -/
def b361_1 : Cd :=
  (.seq
   (.reg [11] [
     ⟨none, (some 11), .bin .lss (.t 10) (.t 9), []⟩])
   (.seq
    (.cond (.t 11)
     .skip
     (.exit 0))
    (.seq
     (.block 1
      (.seq
       (.reg [6] [
         ⟨none, (some 12), .idxA 2 (.t 8) (.t 10), []⟩,
         ⟨none, (some 13), .ld 2 true (.t 12), []⟩,
         ⟨none, (some 6), .zero true [.int .i8 0, .int .i8 0], []⟩,
         ⟨none, (some 6), .stV 6 none 2 (.t 13), []⟩])
       (.reg [2] [
         ⟨none, (some 14), .adrF 6 none 1, []⟩,
         ⟨none, (some 15), .ldV 6 (some 14) 1 false, []⟩,
         ⟨none, (some 16), .adrF 6 none 0, []⟩,
         ⟨none, (some 17), .ldV 6 (some 16) 1 false, []⟩,
         ⟨none, (some 18), .adrF 6 none 1, []⟩,
         ⟨none, (some 19), .ldV 6 (some 18) 1 false, []⟩,
         ⟨none, (some 20), .adrF 6 none 0, []⟩,
         ⟨none, (some 21), .ldV 6 (some 20) 1 false, []⟩,
         ⟨none, (some 22), .adrI 2 none 12 12 (.t 19), []⟩,
         ⟨none, (some 23), .adrI 2 (some 22) 12 1 (.t 21), []⟩,
         ⟨none, (some 24), .ldV 2 (some 23) 1 false, []⟩,
         ⟨none, (some 25), .bin .add (.t 24) (.c (.int .i16 64)), []⟩,
         ⟨none, (some 26), .mn (.c (.int .i16 1000)) (.t 25), []⟩,
         ⟨none, (some 27), .adrI 2 none 12 12 (.t 15), []⟩,
         ⟨none, (some 28), .adrI 2 (some 27) 12 1 (.t 17), []⟩,
         ⟨none, (some 2), .stV 2 (some 28) 1 (.t 26), []⟩])))
     (.reg [10] [
       ⟨none, (some 29), .bin .add (.t 10) (.c (.int .i64 1)), []⟩,
       ⟨none, (some 10), .mov (.t 29), []⟩]))))
def k361 : Cd :=
  (.seq
   (.reg [2, 3, 4] [
     ⟨none, (some 2), .mov (.t 0), []⟩,
     ⟨none, (some 3), .mov (.t 1), []⟩,
     ⟨none, (some 4), .zero true (zs 144 (.int .i16 0)), []⟩])
   (.seq
    (.seq
     (.reg [8, 9, 10] [
       ⟨none, (some 7), .ldV 3 none 12 true, []⟩,
       ⟨none, (some 8), .call true 449 [.t 7], []⟩,
       ⟨none, (some 9), .len (.t 8), []⟩,
       ⟨none, (some 10), .mov (.c (.int .i64 0)), []⟩])
     (.block 0
      (.loop b361_1)))
    (.seq
     (.reg [4] [
       ⟨none, (some 30), .ldV 2 none 144 true, []⟩,
       ⟨none, (some 4), .stV 4 none 144 (.t 30), []⟩])
     .ret)))
def c361 : Fn := { np := 2, nt := 31, kind := .pure, res := [.v 4 144 true], body := k361 }

/- (impl.Frame).has -/
def k395 : Cd :=
  (.seq
   (.reg [3, 6] [
     ⟨none, (some 3), .mov (.t 0), []⟩,
     ⟨none, (some 6), .mov (.c (.bool false)), []⟩])
   (.seq
    (.reg [6] [
      ⟨none, (some 7), .mov (.t 1), []⟩,
      ⟨none, (some 8), .mov (.t 2), []⟩,
      ⟨none, (some 9), .call true 345 [.t 7, .t 8], []⟩,
      ⟨none, (some 10), .mov (.t 9), []⟩,
      ⟨(some (10, true)), (some 11), .mov (.t 2), []⟩,
      ⟨(some (10, true)), (some 12), .adrI 3 none 12 1 (.t 11), []⟩,
      ⟨(some (10, true)), (some 13), .ldV 3 (some 12) 1 false, []⟩,
      ⟨(some (10, true)), (some 14), .mov (.t 1), []⟩,
      ⟨(some (10, true)), (some 15), .bin .shr (.t 13) (.t 14), []⟩,
      ⟨(some (10, true)), (some 16), .bin .and (.t 15) (.c (.int .u16 1)), []⟩,
      ⟨(some (10, true)), (some 17), .bin .eql (.t 16) (.c (.int .u16 1)), []⟩,
      ⟨none, (some 18), .pick (.t 10) (.t 17) (.c (.bool false)), []⟩,
      ⟨none, (some 6), .mov (.t 18), []⟩])
    .ret))
def c395 : Fn := { np := 3, nt := 19, kind := .pure, res := [.t 6], body := k395 }

/- slices.ContainsFunc[[]uint16,uint16] -/
def k445 : Cd :=
  (.seq
   (.reg [4] [
     ⟨none, (some 4), .mov (.c (.bool false)), []⟩])
   (.seq
    (.reg [4] [
      ⟨none, (some 5), .mov (.t 0), []⟩,
      ⟨none, (some 6), .mov (.t 1), []⟩,
      ⟨none, (some 7), .call true 547 [.t 5, .t 6], []⟩,
      ⟨none, (some 8), .bin .geq (.t 7) (.c (.int .i64 0)), []⟩,
      ⟨none, (some 4), .mov (.t 8), []⟩])
    .ret))
def c445 : Fn := { np := 2, nt := 9, kind := .pure, res := [.t 4], body := k445 }

/- impl.ValidFrame$1 -/
def k446 : Cd :=
  (.seq
   (.reg [2] [
     ⟨none, (some 2), .mov (.c (.bool false)), []⟩])
   (.seq
    (.reg [2] [
      ⟨none, (some 3), .mov (.t 0), []⟩,
      ⟨none, (some 4), .bin .gtr (.t 3) (.c (.int .u16 4095)), []⟩,
      ⟨none, (some 2), .mov (.t 4), []⟩])
    .ret))
def c446 : Fn := { np := 1, nt := 5, kind := .pure, res := [.t 2], body := k446 }

/- (impl.Frame).dots -/
def b449_1 : Cd :=
  (.seq
   (.reg [11] [
     ⟨none, (some 11), .bin .lss (.t 10) (.c (.int .i64 12)), []⟩])
   (.seq
    (.cond (.t 11)
     .skip
     (.exit 2))
    (.seq
     (.block 3
      (.seq
       (.reg [5] [
         ⟨none, (some 12), .mov (.t 10), []⟩,
         ⟨none, (some 5), .mov (.t 12), []⟩])
       (.seq
        (.reg [16] [
          ⟨none, (some 13), .ldV 1 none 12 true, []⟩,
          ⟨none, (some 14), .mov (.t 5), []⟩,
          ⟨none, (some 15), .mov (.t 4), []⟩,
          ⟨none, (some 16), .call true 395 [.t 13, .t 14, .t 15], []⟩])
        (.cond (.t 16)
         (.reg [3] [
           ⟨none, (some 17), .mov (.t 3), []⟩,
           ⟨none, (some 18), .mov (.t 5), []⟩,
           ⟨none, (some 19), .conv .i8 (.t 18), []⟩,
           ⟨none, (some 20), .mov (.t 4), []⟩,
           ⟨none, (some 21), .conv .i8 (.t 20), []⟩,
           ⟨none, (some 22), .agg [.int .i8 0, .int .i8 0] [(0, 1, (.t 19)), (1, 1, (.t 21))], []⟩,
           ⟨none, (some 23), .bldS 2 1 [.int .i8 0, .int .i8 0] [(0, 2, (.t 22))], []⟩,
           ⟨none, (some 24), .app 2 2 (.t 17) (.t 23), []⟩,
           ⟨none, (some 3), .mov (.t 24), []⟩])
         .skip))))
     (.reg [10] [
       ⟨none, (some 25), .bin .add (.t 10) (.c (.int .i64 1)), []⟩,
       ⟨none, (some 10), .mov (.t 25), []⟩]))))
def b449_2 : Cd :=
  (.seq
   (.reg [8] [
     ⟨none, (some 8), .bin .lss (.t 7) (.c (.int .i64 12)), []⟩])
   (.seq
    (.cond (.t 8)
     .skip
     (.exit 0))
    (.seq
     (.block 1
      (.seq
       (.reg [4] [
         ⟨none, (some 9), .mov (.t 7), []⟩,
         ⟨none, (some 4), .mov (.t 9), []⟩])
       (.seq
        (.reg [10] [
          ⟨none, (some 10), .mov (.c (.int .i64 0)), []⟩])
        (.block 2
         (.loop b449_1)))))
     (.reg [7] [
       ⟨none, (some 26), .bin .add (.t 7) (.c (.int .i64 1)), []⟩,
       ⟨none, (some 7), .mov (.t 26), []⟩]))))
def k449 : Cd :=
  (.seq
   (.reg [1, 2] [
     ⟨none, (some 1), .mov (.t 0), []⟩,
     ⟨none, (some 2), .mov (.c (.slice none 0 0)), []⟩])
   (.seq
    (.reg [3] [
      ⟨none, (some 6), .bldS 2 0 [.int .i8 0, .int .i8 0] [], []⟩,
      ⟨none, (some 3), .mov (.t 6), []⟩])
    (.seq
     (.seq
      (.reg [7] [
        ⟨none, (some 7), .mov (.c (.int .i64 0)), []⟩])
      (.block 0
       (.loop b449_2)))
     (.seq
      (.reg [2] [
        ⟨none, (some 27), .mov (.t 3), []⟩,
        ⟨none, (some 2), .mov (.t 27), []⟩])
      .ret))))
def c449 : Fn := { np := 1, nt := 28, kind := .pure, res := [.t 2], body := k449 }

/- spec.l01Has -/
def k456 : Cd :=
  (.seq
   (.reg [6] [
     ⟨none, (some 6), .mov (.c (.bool false)), []⟩])
   (.seq
    (.reg [6] [
      ⟨none, (some 7), .mov (.t 1), []⟩,
      ⟨none, (some 8), .mov (.t 2), []⟩,
      ⟨none, (some 9), .call true 342 [.t 7, .t 8], []⟩,
      ⟨none, (some 10), .mov (.t 9), []⟩,
      ⟨(some (10, true)), (some 11), .mov (.t 0), []⟩,
      ⟨(some (10, true)), (some 12), .mov (.t 2), []⟩,
      ⟨(some (10, true)), (some 13), .nil (.t 11), []⟩,
      ⟨(some (10, true)), (some 14), .idxP 12 1 (.t 13) (.t 12), []⟩,
      ⟨(some (10, true)), (some 15), .ld 1 false (.t 14), []⟩,
      ⟨(some (10, true)), (some 16), .mov (.t 1), []⟩,
      ⟨(some (10, true)), (some 17), .conv .u64 (.t 16), []⟩,
      ⟨(some (10, true)), (some 18), .bin .shr (.t 15) (.t 17), []⟩,
      ⟨(some (10, true)), (some 19), .bin .rem (.t 18) (.c (.int .u16 2)), []⟩,
      ⟨(some (10, true)), (some 20), .bin .eql (.t 19) (.c (.int .u16 1)), []⟩,
      ⟨none, (some 21), .pick (.t 10) (.t 20) (.c (.bool false)), []⟩,
      ⟨none, (some 6), .mov (.t 21), []⟩])
    .ret))
def c456 : Fn := { np := 3, nt := 22, kind := .pure, res := [.t 6], body := k456 }

/- slices.IndexFunc[[]int16,int16] -/
def b487_1 : Cd :=
  (.seq
   (.reg [9] [
     ⟨none, (some 9), .bin .lss (.t 8) (.t 7), []⟩])
   (.seq
    (.cond (.t 9)
     .skip
     (.exit 0))
    (.seq
     (.block 1
      (.seq
       (.reg [5] [
         ⟨none, (some 10), .mov (.t 8), []⟩,
         ⟨none, (some 5), .mov (.t 10), []⟩])
       (.seq
        (.reg [16] [
          ⟨none, (some 11), .mov (.t 1), []⟩,
          ⟨none, (some 12), .mov (.t 0), []⟩,
          ⟨none, (some 13), .mov (.t 5), []⟩,
          ⟨none, (some 14), .idxA 1 (.t 12) (.t 13), []⟩,
          ⟨none, (some 15), .ld 1 false (.t 14), []⟩,
          ⟨none, (some 16), .callv (.t 11) [.t 15], []⟩])
        (.cond (.t 16)
         (.seq
          (.reg [4] [
            ⟨none, (some 17), .mov (.t 5), []⟩,
            ⟨none, (some 4), .mov (.t 17), []⟩])
          .ret)
         .skip))))
     (.reg [8] [
       ⟨none, (some 18), .bin .add (.t 8) (.c (.int .i64 1)), []⟩,
       ⟨none, (some 8), .mov (.t 18), []⟩]))))
def k487 : Cd :=
  (.seq
   (.reg [4] [
     ⟨none, (some 4), .mov (.c (.int .i64 0)), []⟩])
   (.seq
    (.seq
     (.reg [7, 8] [
       ⟨none, (some 6), .mov (.t 0), []⟩,
       ⟨none, (some 7), .len (.t 6), []⟩,
       ⟨none, (some 8), .mov (.c (.int .i64 0)), []⟩])
     (.block 0
      (.loop b487_1)))
    (.seq
     (.reg [4] [
       ⟨none, (some 4), .mov (.c (.int .i64 (-1))), []⟩])
     .ret)))
def c487 : Fn := { np := 2, nt := 19, kind := .pure, res := [.t 4], body := k487 }

/- spec.l00Min -/
def k511 : Cd :=
  (.seq
   (.reg [4] [
     ⟨none, (some 4), .mov (.c (.int .i64 0)), []⟩])
   (.seq
    (.seq
     (.reg [7] [
       ⟨none, (some 5), .mov (.t 0), []⟩,
       ⟨none, (some 6), .mov (.t 1), []⟩,
       ⟨none, (some 7), .bin .lss (.t 5) (.t 6), []⟩])
     (.cond (.t 7)
      (.seq
       (.reg [4] [
         ⟨none, (some 8), .mov (.t 0), []⟩,
         ⟨none, (some 4), .mov (.t 8), []⟩])
       .ret)
      .skip))
    (.seq
     (.reg [4] [
       ⟨none, (some 9), .mov (.t 1), []⟩,
       ⟨none, (some 4), .mov (.t 9), []⟩])
     .ret)))
def c511 : Fn := { np := 2, nt := 10, kind := .pure, res := [.t 4], body := k511 }

/- slices.IndexFunc[[]uint16,uint16] -/
def b547_1 : Cd :=
  (.seq
   (.reg [9] [
     ⟨none, (some 9), .bin .lss (.t 8) (.t 7), []⟩])
   (.seq
    (.cond (.t 9)
     .skip
     (.exit 0))
    (.seq
     (.block 1
      (.seq
       (.reg [5] [
         ⟨none, (some 10), .mov (.t 8), []⟩,
         ⟨none, (some 5), .mov (.t 10), []⟩])
       (.seq
        (.reg [16] [
          ⟨none, (some 11), .mov (.t 1), []⟩,
          ⟨none, (some 12), .mov (.t 0), []⟩,
          ⟨none, (some 13), .mov (.t 5), []⟩,
          ⟨none, (some 14), .idxA 1 (.t 12) (.t 13), []⟩,
          ⟨none, (some 15), .ld 1 false (.t 14), []⟩,
          ⟨none, (some 16), .callv (.t 11) [.t 15], []⟩])
        (.cond (.t 16)
         (.seq
          (.reg [4] [
            ⟨none, (some 17), .mov (.t 5), []⟩,
            ⟨none, (some 4), .mov (.t 17), []⟩])
          .ret)
         .skip))))
     (.reg [8] [
       ⟨none, (some 18), .bin .add (.t 8) (.c (.int .i64 1)), []⟩,
       ⟨none, (some 8), .mov (.t 18), []⟩]))))
def k547 : Cd :=
  (.seq
   (.reg [4] [
     ⟨none, (some 4), .mov (.c (.int .i64 0)), []⟩])
   (.seq
    (.seq
     (.reg [7, 8] [
       ⟨none, (some 6), .mov (.t 0), []⟩,
       ⟨none, (some 7), .len (.t 6), []⟩,
       ⟨none, (some 8), .mov (.c (.int .i64 0)), []⟩])
     (.block 0
      (.loop b547_1)))
    (.seq
     (.reg [4] [
       ⟨none, (some 4), .mov (.c (.int .i64 (-1))), []⟩])
     .ret)))
def c547 : Fn := { np := 2, nt := 19, kind := .pure, res := [.t 4], body := k547 }


end Fb
