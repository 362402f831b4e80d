/- The functions of the law, in the small language. -/
import Derived.Test.YtjfmgpnkippbpaaDen
set_option linter.unusedVariables false
set_option linter.unusedSimpArgs false
namespace Fb
open Go

/- laws.FnExactSeenAt -/
def k8 : Cd :=
  (.seq
   (.reg [2, 4] [
     ⟨none, (some 2), .mov (.t 0), []⟩,
     ⟨none, (some 4), .mov (.c (.bool false)), []⟩])
   (.seq
    (.reg [5, 6] [
      ⟨none, (some 10), .ldV 2 none 144 true, []⟩,
      ⟨none, (some 11), .call true 62 [.t 10], []⟩,
      ⟨none, (some 12), .mov (.t 1), []⟩,
      ⟨none, (some 13), .call true 76 [.t 11, .t 12], []⟩,
      ⟨none, (some 9), .mov (.t 13), []⟩,
      ⟨none, (some 14), .ext (.t 9) 0, []⟩,
      ⟨none, (some 15), .ext (.t 9) 1, []⟩,
      ⟨none, (some 5), .zero true (zs 12 (.int .u16 0)), []⟩,
      ⟨none, (some 5), .stV 5 none 12 (.t 14), []⟩,
      ⟨none, (some 6), .mov (.t 15), []⟩])
    (.seq
     (.reg [7, 8] [
       ⟨none, (some 17), .ldV 2 none 144 true, []⟩,
       ⟨none, (some 18), .call true 62 [.t 17], []⟩,
       ⟨none, (some 19), .mov (.t 1), []⟩,
       ⟨none, (some 20), .call true 77 [.t 18, .t 19], []⟩,
       ⟨none, (some 16), .mov (.t 20), []⟩,
       ⟨none, (some 21), .ext (.t 16) 0, []⟩,
       ⟨none, (some 22), .ext (.t 16) 1, []⟩,
       ⟨none, (some 7), .zero true (zs 12 (.int .u16 0)), []⟩,
       ⟨none, (some 7), .stV 7 none 12 (.t 21), []⟩,
       ⟨none, (some 8), .mov (.t 22), []⟩])
     (.seq
      (.seq
       (.reg [31] [
         ⟨none, (some 23), .ldV 7 none 12 true, []⟩,
         ⟨none, (some 24), .ldV 5 none 12 true, []⟩,
         ⟨none, (some 25), .call true 78 [.t 23, .t 24], []⟩,
         ⟨none, (some 26), .un .not (.t 25), []⟩,
         ⟨none, (some 27), .mov (.t 26), []⟩,
         ⟨(some (27, false)), (some 28), .mov (.t 8), []⟩,
         ⟨(some (27, false)), (some 29), .mov (.t 6), []⟩,
         ⟨(some (27, false)), (some 30), .bin .neq (.t 28) (.t 29), []⟩,
         ⟨none, (some 31), .pick (.t 27) (.c (.bool true)) (.t 30), []⟩])
       (.cond (.t 31)
        (.seq
         (.reg [4] [
           ⟨none, (some 4), .mov (.c (.bool false)), []⟩])
         .ret)
        .skip))
      (.seq
       (.reg [4] [
         ⟨none, (some 4), .mov (.c (.bool true)), []⟩])
       .ret)))))
def c8 : Fn := { np := 2, nt := 32, kind := .pure, res := [.t 4], body := k8 }

/- laws.toLight -/
def b62_1 : Cd :=
  (.seq
   (.seq
    (.reg [6] [
      ⟨none, (some 5), .mov (.t 4), []⟩,
      ⟨none, (some 6), .bin .lss (.t 5) (.c (.int .i64 12)), []⟩])
    (.cond (.t 6)
     .skip
     (.exit 0)))
   (.seq
    (.block 1
     (.reg [3] [
       ⟨none, (some 9), .mov (.t 4), []⟩,
       ⟨none, (some 10), .mov (.t 4), []⟩,
       ⟨none, (some 11), .adrI 1 none 12 12 (.t 10), []⟩,
       ⟨none, (some 12), .ldV 1 (some 11) 12 true, []⟩,
       ⟨none, (some 13), .call true 292 [.t 12], []⟩,
       ⟨none, (some 14), .adrI 3 none 12 12 (.t 9), []⟩,
       ⟨none, (some 3), .stV 3 (some 14) 12 (.t 13), []⟩]))
    (.reg [4] [
      ⟨none, (some 7), .mov (.t 4), []⟩,
      ⟨none, (some 8), .bin .add (.t 7) (.c (.int .i64 1)), []⟩,
      ⟨none, (some 4), .mov (.t 8), []⟩])))
def k62 : Cd :=
  (.seq
   (.reg [1, 2] [
     ⟨none, (some 1), .mov (.t 0), []⟩,
     ⟨none, (some 2), .zero true (zs 144 (.int .i16 0)), []⟩])
   (.seq
    (.reg [3] [
      ⟨none, (some 3), .zero true (zs 144 (.int .i16 0)), []⟩])
    (.seq
     (.seq
      (.reg [4] [
        ⟨none, (some 4), .mov (.c (.int .i64 0)), []⟩])
      (.block 0
       (.loop b62_1)))
     (.seq
      (.reg [2] [
        ⟨none, (some 15), .ldV 3 none 144 true, []⟩,
        ⟨none, (some 2), .stV 2 none 144 (.t 15), []⟩])
      .ret))))
def c62 : Fn := { np := 1, nt := 16, kind := .pure, res := [.v 2 144 true], body := k62 }

/- impl.ValidLight -/
def b63_1 : Cd :=
  (.seq
   (.reg [7] [
     ⟨none, (some 7), .bin .lss (.t 6) (.c (.int .i64 12)), []⟩])
   (.seq
    (.cond (.t 7)
     .skip
     (.exit 0))
    (.seq
     (.block 1
      (.seq
       (.reg [4] [
         ⟨none, (some 8), .idx 12 12 true (.t 5) (.t 6), []⟩,
         ⟨none, (some 4), .new 1 (zs 12 (.int .i16 0)), []⟩,
         ⟨none, none, .st 12 (.t 4) (.t 8), []⟩])
       (.seq
        (.reg [10] [
          ⟨none, (some 9), .slcP 12 1 (.t 4), []⟩,
          ⟨none, (some 10), .call true 293 [.t 9, .f 294], []⟩])
        (.cond (.t 10)
         (.seq
          (.reg [2] [
            ⟨none, (some 2), .mov (.c (.bool false)), []⟩])
          .ret)
         .skip))))
     (.reg [6] [
       ⟨none, (some 11), .bin .add (.t 6) (.c (.int .i64 1)), []⟩,
       ⟨none, (some 6), .mov (.t 11), []⟩]))))
def k63 : Cd :=
  (.seq
   (.reg [1, 2] [
     ⟨none, (some 1), .mov (.t 0), []⟩,
     ⟨none, (some 2), .mov (.c (.bool false)), []⟩])
   (.seq
    (.seq
     (.reg [5, 6] [
       ⟨none, (some 5), .ldV 1 none 144 true, []⟩,
       ⟨none, (some 6), .mov (.c (.int .i64 0)), []⟩])
     (.block 0
      (.loop b63_1)))
    (.seq
     (.reg [2] [
       ⟨none, (some 2), .mov (.c (.bool true)), []⟩])
     .ret)))
def c63 : Fn := { np := 1, nt := 12, kind := .pure, res := [.t 2], body := k63 }

/- spec.SeenAt -/
def b76_1 : Cd :=
  (.seq
   (.seq
    (.reg [22] [
      ⟨none, (some 21), .mov (.t 8), []⟩,
      ⟨none, (some 22), .bin .lss (.t 21) (.c (.int .i64 12)), []⟩])
    (.cond (.t 22)
     .skip
     (.exit 2)))
   (.seq
    (.block 3
     (.seq
      (.reg [32] [
        ⟨none, (some 25), .mov (.t 7), []⟩,
        ⟨none, (some 26), .mov (.t 8), []⟩,
        ⟨none, (some 27), .idxP 12 12 (.t 2) (.t 25), []⟩,
        ⟨none, (some 28), .idxP 12 1 (.t 27) (.t 26), []⟩,
        ⟨none, (some 29), .ld 1 false (.t 28), []⟩,
        ⟨none, (some 30), .conv .i64 (.t 29), []⟩,
        ⟨none, (some 31), .mov (.t 1), []⟩,
        ⟨none, (some 32), .bin .geq (.t 30) (.t 31), []⟩])
      (.cond (.t 32)
       (.reg [] [
         ⟨none, (some 33), .mov (.t 8), []⟩,
         ⟨none, (some 34), .mov (.t 7), []⟩,
         ⟨none, (some 35), .call false 305 [.t 6, .t 33, .t 34], []⟩])
       .skip)))
    (.reg [8] [
      ⟨none, (some 23), .mov (.t 8), []⟩,
      ⟨none, (some 24), .bin .add (.t 23) (.c (.int .i64 1)), []⟩,
      ⟨none, (some 8), .mov (.t 24), []⟩])))
def b76_2 : Cd :=
  (.seq
   (.seq
    (.reg [18] [
      ⟨none, (some 17), .mov (.t 7), []⟩,
      ⟨none, (some 18), .bin .lss (.t 17) (.c (.int .i64 12)), []⟩])
    (.cond (.t 18)
     .skip
     (.exit 0)))
   (.seq
    (.block 1
     (.seq
      (.reg [8] [
        ⟨none, (some 8), .mov (.c (.int .i64 0)), []⟩])
      (.block 2
       (.loop b76_1))))
    (.reg [7] [
      ⟨none, (some 19), .mov (.t 7), []⟩,
      ⟨none, (some 20), .bin .add (.t 19) (.c (.int .i64 1)), []⟩,
      ⟨none, (some 7), .mov (.t 20), []⟩])))
def k76 : Cd :=
  (.seq
   (.reg [2, 4, 5] [
     ⟨none, (some 2), .box 144 (.t 0), []⟩,
     ⟨none, (some 4), .zero true (zs 12 (.int .u16 0)), []⟩,
     ⟨none, (some 5), .mov (.c (.int .i64 0)), []⟩])
   (.seq
    (.seq
     (.reg [10] [
       ⟨none, (some 9), .call true 291 [.t 2], []⟩,
       ⟨none, (some 10), .un .not (.t 9), []⟩])
     (.cond (.t 10)
      (.seq
       (.reg [4, 5] [
         ⟨none, (some 11), .agg (zs 12 (.int .u16 0)) [], []⟩,
         ⟨none, (some 4), .stV 4 none 12 (.t 11), []⟩,
         ⟨none, (some 5), .mov (.c (.int .i64 1)), []⟩])
       .ret)
      .skip))
    (.seq
     (.seq
      (.reg [14] [
        ⟨none, (some 12), .mov (.t 1), []⟩,
        ⟨none, (some 13), .call true 304 [.t 12, .c (.int .i64 0), .c (.int .i64 1000)], []⟩,
        ⟨none, (some 14), .un .not (.t 13), []⟩])
      (.cond (.t 14)
       (.seq
        (.reg [4, 5] [
          ⟨none, (some 15), .agg (zs 12 (.int .u16 0)) [], []⟩,
          ⟨none, (some 4), .stV 4 none 12 (.t 15), []⟩,
          ⟨none, (some 5), .mov (.c (.int .i64 2)), []⟩])
        .ret)
       .skip))
     (.seq
      (.reg [6] [
        ⟨none, (some 16), .agg (zs 12 (.int .u16 0)) [], []⟩,
        ⟨none, (some 6), .new 1 (zs 12 (.int .u16 0)), []⟩,
        ⟨none, none, .st 12 (.t 6) (.t 16), []⟩])
      (.seq
       (.seq
        (.reg [7] [
          ⟨none, (some 7), .mov (.c (.int .i64 0)), []⟩])
        (.block 0
         (.loop b76_2)))
       (.seq
        (.reg [4, 5] [
          ⟨none, (some 36), .ld 12 true (.t 6), []⟩,
          ⟨none, (some 4), .stV 4 none 12 (.t 36), []⟩,
          ⟨none, (some 5), .mov (.c (.int .i64 0)), []⟩])
        .ret))))))
def c76 : Fn := { np := 2, nt := 37, kind := .pure, res := [.v 4 12 true, .t 5], body := k76 }

/- impl.SeenAt -/
def k77 : Cd :=
  (.seq
   (.reg [2, 3, 4, 5] [
     ⟨none, (some 2), .box 144 (.t 0), []⟩,
     ⟨none, (some 3), .box 1 (.t 1), []⟩,
     ⟨none, (some 4), .zero true (zs 12 (.int .u16 0)), []⟩,
     ⟨none, (some 5), .mov (.c (.int .i64 0)), []⟩])
   (.seq
    (.block 0
     (.seq
      (.reg [6] [
        ⟨none, (some 7), .ld 144 true (.t 2), []⟩,
        ⟨none, (some 8), .call true 63 [.t 7], []⟩,
        ⟨none, (some 9), .un .not (.t 8), []⟩,
        ⟨none, (some 6), .mov (.t 9), []⟩])
      (.cond (.t 6)
       (.seq
        (.reg [4, 5] [
          ⟨none, (some 10), .agg (zs 12 (.int .u16 0)) [], []⟩,
          ⟨none, (some 4), .stV 4 none 12 (.t 10), []⟩,
          ⟨none, (some 5), .mov (.c (.int .i64 1)), []⟩])
        .ret)
       (.seq
        (.reg [11] [
          ⟨none, (some 12), .ld 1 false (.t 3), []⟩,
          ⟨none, (some 13), .call true 295 [.t 12, .c (.int .i64 0), .c (.int .i64 1000)], []⟩,
          ⟨none, (some 14), .un .not (.t 13), []⟩,
          ⟨none, (some 11), .mov (.t 14), []⟩])
        (.cond (.t 11)
         (.seq
          (.reg [4, 5] [
            ⟨none, (some 15), .agg (zs 12 (.int .u16 0)) [], []⟩,
            ⟨none, (some 4), .stV 4 none 12 (.t 15), []⟩,
            ⟨none, (some 5), .mov (.c (.int .i64 2)), []⟩])
          .ret)
         .skip)))))
    (.seq
     (.reg [4, 5] [
       ⟨none, (some 16), .mkf 307 [.t 2, .t 3], []⟩,
       ⟨none, (some 17), .call true 306 [.t 16], []⟩,
       ⟨none, (some 4), .stV 4 none 12 (.t 17), []⟩,
       ⟨none, (some 5), .mov (.c (.int .i64 0)), []⟩])
     .ret)))
def c77 : Fn := { np := 2, nt := 18, kind := .pure, res := [.v 4 12 true, .t 5], body := k77 }

/- laws.eqFrame -/
def b78_1 : Cd :=
  (.seq
   (.seq
    (.reg [7] [
      ⟨none, (some 6), .mov (.t 5), []⟩,
      ⟨none, (some 7), .bin .lss (.t 6) (.c (.int .i64 12)), []⟩])
    (.cond (.t 7)
     .skip
     (.exit 0)))
   (.seq
    (.block 1
     (.seq
      (.reg [16] [
        ⟨none, (some 10), .mov (.t 5), []⟩,
        ⟨none, (some 11), .adrI 2 none 12 1 (.t 10), []⟩,
        ⟨none, (some 12), .ldV 2 (some 11) 1 false, []⟩,
        ⟨none, (some 13), .mov (.t 5), []⟩,
        ⟨none, (some 14), .adrI 3 none 12 1 (.t 13), []⟩,
        ⟨none, (some 15), .ldV 3 (some 14) 1 false, []⟩,
        ⟨none, (some 16), .bin .neq (.t 12) (.t 15), []⟩])
      (.cond (.t 16)
       (.seq
        (.reg [4] [
          ⟨none, (some 4), .mov (.c (.bool false)), []⟩])
        .ret)
       .skip)))
    (.reg [5] [
      ⟨none, (some 8), .mov (.t 5), []⟩,
      ⟨none, (some 9), .bin .add (.t 8) (.c (.int .i64 1)), []⟩,
      ⟨none, (some 5), .mov (.t 9), []⟩])))
def k78 : Cd :=
  (.seq
   (.reg [2, 3, 4] [
     ⟨none, (some 2), .mov (.t 0), []⟩,
     ⟨none, (some 3), .mov (.t 1), []⟩,
     ⟨none, (some 4), .mov (.c (.bool false)), []⟩])
   (.seq
    (.seq
     (.reg [5] [
       ⟨none, (some 5), .mov (.c (.int .i64 0)), []⟩])
     (.block 0
      (.loop b78_1)))
    (.seq
     (.reg [4] [
       ⟨none, (some 4), .mov (.c (.bool true)), []⟩])
     .ret)))
def c78 : Fn := { np := 2, nt := 17, kind := .pure, res := [.t 4], body := k78 }

/- spec.l07Ok -/
def b291_1 : Cd :=
  (.seq
   (.seq
    (.reg [10] [
      ⟨none, (some 9), .mov (.t 4), []⟩,
      ⟨none, (some 10), .bin .lss (.t 9) (.c (.int .i64 12)), []⟩])
    (.cond (.t 10)
     .skip
     (.exit 2)))
   (.seq
    (.block 3
     (.seq
      (.reg [22] [
        ⟨none, (some 13), .mov (.t 0), []⟩,
        ⟨none, (some 14), .mov (.t 3), []⟩,
        ⟨none, (some 15), .mov (.t 4), []⟩,
        ⟨none, (some 16), .nil (.t 13), []⟩,
        ⟨none, (some 17), .idxP 12 12 (.t 16) (.t 14), []⟩,
        ⟨none, (some 18), .idxP 12 1 (.t 17) (.t 15), []⟩,
        ⟨none, (some 19), .ld 1 false (.t 18), []⟩,
        ⟨none, (some 20), .conv .i64 (.t 19), []⟩,
        ⟨none, (some 21), .call true 304 [.t 20, .c (.int .i64 0), .c (.int .i64 1000)], []⟩,
        ⟨none, (some 22), .un .not (.t 21), []⟩])
      (.cond (.t 22)
       (.seq
        (.reg [2] [
          ⟨none, (some 2), .mov (.c (.bool false)), []⟩])
        .ret)
       .skip)))
    (.reg [4] [
      ⟨none, (some 11), .mov (.t 4), []⟩,
      ⟨none, (some 12), .bin .add (.t 11) (.c (.int .i64 1)), []⟩,
      ⟨none, (some 4), .mov (.t 12), []⟩])))
def b291_2 : Cd :=
  (.seq
   (.seq
    (.reg [6] [
      ⟨none, (some 5), .mov (.t 3), []⟩,
      ⟨none, (some 6), .bin .lss (.t 5) (.c (.int .i64 12)), []⟩])
    (.cond (.t 6)
     .skip
     (.exit 0)))
   (.seq
    (.block 1
     (.seq
      (.reg [4] [
        ⟨none, (some 4), .mov (.c (.int .i64 0)), []⟩])
      (.block 2
       (.loop b291_1))))
    (.reg [3] [
      ⟨none, (some 7), .mov (.t 3), []⟩,
      ⟨none, (some 8), .bin .add (.t 7) (.c (.int .i64 1)), []⟩,
      ⟨none, (some 3), .mov (.t 8), []⟩])))
def k291 : Cd :=
  (.seq
   (.reg [2] [
     ⟨none, (some 2), .mov (.c (.bool false)), []⟩])
   (.seq
    (.seq
     (.reg [3] [
       ⟨none, (some 3), .mov (.c (.int .i64 0)), []⟩])
     (.block 0
      (.loop b291_2)))
    (.seq
     (.reg [2] [
       ⟨none, (some 2), .mov (.c (.bool true)), []⟩])
     .ret)))
def c291 : Fn := { np := 1, nt := 23, kind := .pure, res := [.t 2], body := k291 }

/- laws.toInt16A12 -/
def b292_1 : Cd :=
  (.seq
   (.seq
    (.reg [6] [
      ⟨none, (some 5), .mov (.t 4), []⟩,
      ⟨none, (some 6), .bin .lss (.t 5) (.c (.int .i64 12)), []⟩])
    (.cond (.t 6)
     .skip
     (.exit 0)))
   (.seq
    (.block 1
     (.reg [3] [
       ⟨none, (some 9), .mov (.t 4), []⟩,
       ⟨none, (some 10), .mov (.t 4), []⟩,
       ⟨none, (some 11), .adrI 1 none 12 1 (.t 10), []⟩,
       ⟨none, (some 12), .ldV 1 (some 11) 1 false, []⟩,
       ⟨none, (some 13), .adrI 3 none 12 1 (.t 9), []⟩,
       ⟨none, (some 3), .stV 3 (some 13) 1 (.t 12), []⟩]))
    (.reg [4] [
      ⟨none, (some 7), .mov (.t 4), []⟩,
      ⟨none, (some 8), .bin .add (.t 7) (.c (.int .i64 1)), []⟩,
      ⟨none, (some 4), .mov (.t 8), []⟩])))
def k292 : Cd :=
  (.seq
   (.reg [1, 2] [
     ⟨none, (some 1), .mov (.t 0), []⟩,
     ⟨none, (some 2), .zero true (zs 12 (.int .i16 0)), []⟩])
   (.seq
    (.reg [3] [
      ⟨none, (some 3), .zero true (zs 12 (.int .i16 0)), []⟩])
    (.seq
     (.seq
      (.reg [4] [
        ⟨none, (some 4), .mov (.c (.int .i64 0)), []⟩])
      (.block 0
       (.loop b292_1)))
     (.seq
      (.reg [2] [
        ⟨none, (some 14), .ldV 3 none 12 true, []⟩,
        ⟨none, (some 2), .stV 2 none 12 (.t 14), []⟩])
      .ret))))
def c292 : Fn := { np := 1, nt := 15, kind := .pure, res := [.v 2 12 true], body := k292 }

/- slices.ContainsFunc[[]int16,int16] -/
def k293 : Cd :=
  (.seq
   (.reg [4] [
     ⟨none, (some 4), .mov (.c (.bool false)), []⟩])
   (.seq
    (.reg [4] [
      ⟨none, (some 5), .mov (.t 0), []⟩,
      ⟨none, (some 6), .mov (.t 1), []⟩,
      ⟨none, (some 7), .call true 487 [.t 5, .t 6], []⟩,
      ⟨none, (some 8), .bin .geq (.t 7) (.c (.int .i64 0)), []⟩,
      ⟨none, (some 4), .mov (.t 8), []⟩])
    .ret))
def c293 : Fn := { np := 2, nt := 9, kind := .pure, res := [.t 4], body := k293 }

/- impl.ValidLight$1 -/
def k294 : Cd :=
  (.seq
   (.reg [2] [
     ⟨none, (some 2), .mov (.c (.bool false)), []⟩])
   (.seq
    (.reg [2] [
      ⟨none, (some 3), .mov (.t 0), []⟩,
      ⟨none, (some 4), .conv .i64 (.t 3), []⟩,
      ⟨none, (some 5), .call true 295 [.t 4, .c (.int .i64 0), .c (.int .i64 1000)], []⟩,
      ⟨none, (some 6), .un .not (.t 5), []⟩,
      ⟨none, (some 2), .mov (.t 6), []⟩])
    .ret))
def c294 : Fn := { np := 1, nt := 7, kind := .pure, res := [.t 2], body := k294 }

/- impl.inRange -/
def k295 : Cd :=
  (.seq
   (.reg [6] [
     ⟨none, (some 6), .mov (.c (.bool false)), []⟩])
   (.seq
    (.reg [6] [
      ⟨none, (some 7), .mov (.t 1), []⟩,
      ⟨none, (some 8), .mov (.t 0), []⟩,
      ⟨none, (some 9), .bin .leq (.t 7) (.t 8), []⟩,
      ⟨none, (some 10), .mov (.t 9), []⟩,
      ⟨(some (10, true)), (some 11), .mov (.t 0), []⟩,
      ⟨(some (10, true)), (some 12), .mov (.t 2), []⟩,
      ⟨(some (10, true)), (some 13), .bin .leq (.t 11) (.t 12), []⟩,
      ⟨none, (some 14), .pick (.t 10) (.t 13) (.c (.bool false)), []⟩,
      ⟨none, (some 6), .mov (.t 14), []⟩])
    .ret))
def c295 : Fn := { np := 3, nt := 15, kind := .pure, res := [.t 6], body := k295 }

/- spec.l00In -/
def k304 : Cd :=
  (.seq
   (.reg [6] [
     ⟨none, (some 6), .mov (.c (.bool false)), []⟩])
   (.seq
    (.reg [6] [
      ⟨none, (some 7), .mov (.t 0), []⟩,
      ⟨none, (some 8), .mov (.t 1), []⟩,
      ⟨none, (some 9), .bin .geq (.t 7) (.t 8), []⟩,
      ⟨none, (some 10), .mov (.t 9), []⟩,
      ⟨(some (10, true)), (some 11), .mov (.t 0), []⟩,
      ⟨(some (10, true)), (some 12), .mov (.t 2), []⟩,
      ⟨(some (10, true)), (some 13), .bin .leq (.t 11) (.t 12), []⟩,
      ⟨none, (some 14), .pick (.t 10) (.t 13) (.c (.bool false)), []⟩,
      ⟨none, (some 6), .mov (.t 14), []⟩])
    .ret))
def c304 : Fn := { np := 3, nt := 15, kind := .pure, res := [.t 6], body := k304 }

/- spec.l01Put -/
def k305 : Cd :=
  (.seq
   (.reg [8] [
     ⟨none, (some 6), .mov (.t 1), []⟩,
     ⟨none, (some 7), .mov (.t 2), []⟩,
     ⟨none, (some 8), .call true 342 [.t 6, .t 7], []⟩])
   (.cond (.t 8)
    (.reg [] [
      ⟨none, (some 9), .mov (.t 0), []⟩,
      ⟨none, (some 10), .mov (.t 2), []⟩,
      ⟨none, (some 11), .mov (.t 0), []⟩,
      ⟨none, (some 12), .mov (.t 2), []⟩,
      ⟨none, (some 13), .nil (.t 11), []⟩,
      ⟨none, (some 14), .idxP 12 1 (.t 13) (.t 12), []⟩,
      ⟨none, (some 15), .ld 1 false (.t 14), []⟩,
      ⟨none, (some 16), .mov (.t 1), []⟩,
      ⟨none, (some 17), .conv .u64 (.t 16), []⟩,
      ⟨none, (some 18), .bin .shl (.c (.int .u16 1)) (.t 17), []⟩,
      ⟨none, (some 19), .bin .or (.t 15) (.t 18), []⟩,
      ⟨none, (some 20), .nil (.t 9), []⟩,
      ⟨none, (some 21), .idxP 12 1 (.t 20) (.t 10), []⟩,
      ⟨none, none, .st 1 (.t 21) (.t 19), []⟩])
    .skip))
def c305 : Fn := { np := 3, nt := 22, kind := .args, res := [], body := k305 }

/- impl.where -/
def b306_1 : Cd :=
  (.seq
   (.reg [11] [
     ⟨none, (some 11), .bin .lss (.t 10) (.c (.int .i64 12)), []⟩])
   (.seq
    (.cond (.t 11)
     .skip
     (.exit 2))
    (.seq
     (.block 3
      (.seq
       (.reg [5] [
         ⟨none, (some 12), .mov (.t 10), []⟩,
         ⟨none, (some 5), .mov (.t 12), []⟩])
       (.seq
        (.reg [16] [
          ⟨none, (some 13), .mov (.t 0), []⟩,
          ⟨none, (some 14), .mov (.t 5), []⟩,
          ⟨none, (some 15), .mov (.t 4), []⟩,
          ⟨none, (some 16), .callv (.t 13) [.t 14, .t 15], []⟩])
        (.cond (.t 16)
         (.reg [3] [
           ⟨none, (some 17), .ldV 3 none 12 true, []⟩,
           ⟨none, (some 18), .mov (.t 5), []⟩,
           ⟨none, (some 19), .mov (.t 4), []⟩,
           ⟨none, (some 20), .call true 346 [.t 17, .t 18, .t 19], []⟩,
           ⟨none, (some 3), .stV 3 none 12 (.t 20), []⟩])
         .skip))))
     (.reg [10] [
       ⟨none, (some 21), .bin .add (.t 10) (.c (.int .i64 1)), []⟩,
       ⟨none, (some 10), .mov (.t 21), []⟩]))))
def b306_2 : Cd :=
  (.seq
   (.reg [8] [
     ⟨none, (some 8), .bin .lss (.t 7) (.c (.int .i64 12)), []⟩])
   (.seq
    (.cond (.t 8)
     .skip
     (.exit 0))
    (.seq
     (.block 1
      (.seq
       (.reg [4] [
         ⟨none, (some 9), .mov (.t 7), []⟩,
         ⟨none, (some 4), .mov (.t 9), []⟩])
       (.seq
        (.reg [10] [
          ⟨none, (some 10), .mov (.c (.int .i64 0)), []⟩])
        (.block 2
         (.loop b306_1)))))
     (.reg [7] [
       ⟨none, (some 22), .bin .add (.t 7) (.c (.int .i64 1)), []⟩,
       ⟨none, (some 7), .mov (.t 22), []⟩]))))
def k306 : Cd :=
  (.seq
   (.reg [2] [
     ⟨none, (some 2), .zero true (zs 12 (.int .u16 0)), []⟩])
   (.seq
    (.reg [3] [
      ⟨none, (some 6), .agg (zs 12 (.int .u16 0)) [], []⟩,
      ⟨none, (some 3), .zero true (zs 12 (.int .u16 0)), []⟩,
      ⟨none, (some 3), .stV 3 none 12 (.t 6), []⟩])
    (.seq
     (.seq
      (.reg [7] [
        ⟨none, (some 7), .mov (.c (.int .i64 0)), []⟩])
      (.block 0
       (.loop b306_2)))
     (.seq
      (.reg [2] [
        ⟨none, (some 23), .ldV 3 none 12 true, []⟩,
        ⟨none, (some 2), .stV 2 none 12 (.t 23), []⟩])
      .ret))))
def c306 : Fn := { np := 1, nt := 24, kind := .pure, res := [.v 2 12 true], body := k306 }

/- impl.SeenAt$1 -/
def k307 : Cd :=
  (.seq
   (.reg [6] [
     ⟨none, (some 6), .mov (.c (.bool false)), []⟩])
   (.seq
    (.reg [6] [
      ⟨none, (some 7), .mov (.t 1), []⟩,
      ⟨none, (some 8), .mov (.t 0), []⟩,
      ⟨none, (some 9), .idxP 12 12 (.t 2) (.t 7), []⟩,
      ⟨none, (some 10), .idxP 12 1 (.t 9) (.t 8), []⟩,
      ⟨none, (some 11), .ld 1 false (.t 10), []⟩,
      ⟨none, (some 12), .conv .i64 (.t 11), []⟩,
      ⟨none, (some 13), .ld 1 false (.t 3), []⟩,
      ⟨none, (some 14), .bin .geq (.t 12) (.t 13), []⟩,
      ⟨none, (some 6), .mov (.t 14), []⟩])
    .ret))
def c307 : Fn := { np := 4, nt := 15, kind := .pure, res := [.t 6], body := k307 }

/- spec.l01Place -/
def k342 : Cd :=
  (.seq
   (.reg [4] [
     ⟨none, (some 4), .mov (.c (.bool false)), []⟩])
   (.seq
    (.reg [4] [
      ⟨none, (some 5), .mov (.t 0), []⟩,
      ⟨none, (some 6), .call true 304 [.t 5, .c (.int .i64 0), .c (.int .i64 11)], []⟩,
      ⟨none, (some 7), .mov (.t 6), []⟩,
      ⟨(some (7, true)), (some 8), .mov (.t 1), []⟩,
      ⟨(some (7, true)), (some 9), .call true 304 [.t 8, .c (.int .i64 0), .c (.int .i64 11)], []⟩,
      ⟨none, (some 10), .pick (.t 7) (.t 9) (.c (.bool false)), []⟩,
      ⟨none, (some 4), .mov (.t 10), []⟩])
    .ret))
def c342 : Fn := { np := 2, nt := 11, kind := .pure, res := [.t 4], body := k342 }

/- (impl.Frame).with -/
def k346 : Cd :=
  (.seq
   (.reg [3, 6] [
     ⟨none, (some 3), .mov (.t 0), []⟩,
     ⟨none, (some 6), .zero true (zs 12 (.int .u16 0)), []⟩])
   (.seq
    (.reg [3] [
      ⟨none, (some 7), .mov (.t 2), []⟩,
      ⟨none, (some 8), .adrI 3 none 12 1 (.t 7), []⟩,
      ⟨none, (some 9), .ldV 3 (some 8) 1 false, []⟩,
      ⟨none, (some 10), .mov (.t 1), []⟩,
      ⟨none, (some 11), .bin .shl (.c (.int .u16 1)) (.t 10), []⟩,
      ⟨none, (some 12), .bin .or (.t 9) (.t 11), []⟩,
      ⟨none, (some 13), .adrI 3 none 12 1 (.t 7), []⟩,
      ⟨none, (some 3), .stV 3 (some 13) 1 (.t 12), []⟩])
    (.seq
     (.reg [6] [
       ⟨none, (some 14), .ldV 3 none 12 true, []⟩,
       ⟨none, (some 6), .stV 6 none 12 (.t 14), []⟩])
     .ret)))
def c346 : Fn := { np := 3, nt := 15, kind := .pure, res := [.v 6 12 true], body := k346 }

/- slices.IndexFunc[[]int16,int16] -/
def b487_1 : Cd :=
  (.seq
   (.reg [9] [
     ⟨none, (some 9), .bin .lss (.t 8) (.t 7), []⟩])
   (.seq
    (.cond (.t 9)
     .skip
     (.exit 0))
    (.seq
     (.block 1
      (.seq
       (.reg [5] [
         ⟨none, (some 10), .mov (.t 8), []⟩,
         ⟨none, (some 5), .mov (.t 10), []⟩])
       (.seq
        (.reg [16] [
          ⟨none, (some 11), .mov (.t 1), []⟩,
          ⟨none, (some 12), .mov (.t 0), []⟩,
          ⟨none, (some 13), .mov (.t 5), []⟩,
          ⟨none, (some 14), .idxA 1 (.t 12) (.t 13), []⟩,
          ⟨none, (some 15), .ld 1 false (.t 14), []⟩,
          ⟨none, (some 16), .callv (.t 11) [.t 15], []⟩])
        (.cond (.t 16)
         (.seq
          (.reg [4] [
            ⟨none, (some 17), .mov (.t 5), []⟩,
            ⟨none, (some 4), .mov (.t 17), []⟩])
          .ret)
         .skip))))
     (.reg [8] [
       ⟨none, (some 18), .bin .add (.t 8) (.c (.int .i64 1)), []⟩,
       ⟨none, (some 8), .mov (.t 18), []⟩]))))
def k487 : Cd :=
  (.seq
   (.reg [4] [
     ⟨none, (some 4), .mov (.c (.int .i64 0)), []⟩])
   (.seq
    (.seq
     (.reg [7, 8] [
       ⟨none, (some 6), .mov (.t 0), []⟩,
       ⟨none, (some 7), .len (.t 6), []⟩,
       ⟨none, (some 8), .mov (.c (.int .i64 0)), []⟩])
     (.block 0
      (.loop b487_1)))
    (.seq
     (.reg [4] [
       ⟨none, (some 4), .mov (.c (.int .i64 (-1))), []⟩])
     .ret)))
def c487 : Fn := { np := 2, nt := 19, kind := .pure, res := [.t 4], body := k487 }


end Fb
