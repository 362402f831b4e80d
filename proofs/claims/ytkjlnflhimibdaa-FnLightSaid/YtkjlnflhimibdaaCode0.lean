/- The functions of the law, in the small language. -/
import Derived.Test.YtkjlnflhimibdaaDen
set_option linter.unusedVariables false
set_option linter.unusedSimpArgs false
namespace Fb
open Go

/- laws.FnLight -/
def b39_1 : Cd :=
  (.seq
   (.seq
    (.reg [164] [
      ⟨none, (some 161), .mov (.t 23), []⟩,
      ⟨none, (some 162), .mov (.t 6), []⟩,
      ⟨none, (some 163), .len (.t 162), []⟩,
      ⟨none, (some 164), .bin .lss (.t 161) (.t 163), []⟩])
    (.cond (.t 164)
     .skip
     (.exit 0)))
   (.seq
    (.block 1
     (.seq
      (.reg [24, 25] [
        ⟨none, (some 168), .ldV 22 none 144 true, []⟩,
        ⟨none, (some 169), .mov (.t 6), []⟩,
        ⟨none, (some 170), .mov (.t 23), []⟩,
        ⟨none, (some 171), .idxA 12 (.t 169) (.t 170), []⟩,
        ⟨none, (some 172), .ld 12 true (.t 171), []⟩,
        ⟨none, (some 173), .mov (.t 7), []⟩,
        ⟨none, (some 24), .zero true (zs 144 (.int .i16 0)), []⟩,
        ⟨none, (some 174), .call true 135 [.t 168, .t 172, .t 173], []⟩,
        ⟨none, (some 167), .mov (.t 174), []⟩,
        ⟨none, (some 175), .ext (.t 167) 0, []⟩,
        ⟨none, (some 176), .ext (.t 167) 1, []⟩,
        ⟨none, (some 24), .stV 24 none 144 (.t 175), []⟩,
        ⟨none, (some 25), .mov (.t 176), []⟩])
      (.seq
       (.reg [26, 27] [
         ⟨none, (some 178), .ldV 22 none 144 true, []⟩,
         ⟨none, (some 179), .mov (.t 6), []⟩,
         ⟨none, (some 180), .mov (.t 23), []⟩,
         ⟨none, (some 181), .idxA 12 (.t 179) (.t 180), []⟩,
         ⟨none, (some 182), .ld 12 true (.t 181), []⟩,
         ⟨none, (some 183), .mov (.t 7), []⟩,
         ⟨none, (some 26), .zero true (zs 144 (.int .i16 0)), []⟩,
         ⟨none, (some 184), .call true 133 [.t 178, .t 182, .t 183], []⟩,
         ⟨none, (some 177), .mov (.t 184), []⟩,
         ⟨none, (some 185), .ext (.t 177) 0, []⟩,
         ⟨none, (some 186), .ext (.t 177) 1, []⟩,
         ⟨none, (some 26), .stV 26 none 144 (.t 185), []⟩,
         ⟨none, (some 27), .mov (.t 186), []⟩])
       (.seq
        (.seq
         (.reg [198] [
           ⟨none, (some 187), .mov (.t 25), []⟩,
           ⟨none, (some 188), .mov (.t 27), []⟩,
           ⟨none, (some 189), .bin .neq (.t 187) (.t 188), []⟩,
           ⟨none, (some 190), .mov (.t 189), []⟩,
           ⟨(some (190, false)), (some 191), .mov (.t 25), []⟩,
           ⟨(some (190, false)), (some 192), .bin .neq (.t 191) (.c (.int .i64 0)), []⟩,
           ⟨none, (some 193), .pick (.t 190) (.c (.bool true)) (.t 192), []⟩,
           ⟨none, (some 194), .mov (.t 193), []⟩,
           ⟨(some (194, false)), (some 195), .ldV 24 none 144 true, []⟩,
           ⟨(some (194, false)), (some 196), .ldV 26 none 144 true, []⟩,
           ⟨(some (194, false)), (some 197), .eq (.a (rb 144 (some .i16))) true (.t 195) (.t 196), []⟩,
           ⟨none, (some 198), .pick (.t 194) (.c (.bool true)) (.t 197), []⟩])
         (.cond (.t 198)
          (.seq
           (.reg [4] [
             ⟨none, (some 4), .mov (.c (.bool false)), []⟩])
           .ret)
          .skip))
        (.reg [22] [
          ⟨none, (some 199), .ldV 26 none 144 true, []⟩,
          ⟨none, (some 22), .stV 22 none 144 (.t 199), []⟩])))))
    (.reg [23] [
      ⟨none, (some 165), .mov (.t 23), []⟩,
      ⟨none, (some 166), .bin .add (.t 165) (.c (.int .i64 1)), []⟩,
      ⟨none, (some 23), .mov (.t 166), []⟩])))
def b39_2 : Cd :=
  (.seq
   (.seq
    (.reg [245] [
      ⟨none, (some 244), .mov (.t 34), []⟩,
      ⟨none, (some 245), .bin .lss (.t 244) (.c (.int .i64 12)), []⟩])
    (.cond (.t 245)
     .skip
     (.exit 4)))
   (.seq
    (.block 5
     (.seq
      (.reg [35] [
        ⟨none, (some 248), .mov (.t 33), []⟩,
        ⟨none, (some 249), .mov (.t 34), []⟩,
        ⟨none, (some 250), .adrI 5 none 12 12 (.t 248), []⟩,
        ⟨none, (some 251), .adrI 5 (some 250) 12 1 (.t 249), []⟩,
        ⟨none, (some 252), .ldV 5 (some 251) 1 false, []⟩,
        ⟨none, (some 253), .conv .i64 (.t 252), []⟩,
        ⟨none, (some 35), .mov (.t 253), []⟩])
      (.seq
       (.reg [32] [
         ⟨none, (some 254), .mov (.t 32), []⟩,
         ⟨none, (some 255), .mov (.t 35), []⟩,
         ⟨none, (some 256), .bin .add (.t 254) (.t 255), []⟩,
         ⟨none, (some 32), .mov (.t 256), []⟩])
       (.seq
        (.reg [292] [
          ⟨none, (some 257), .mov (.t 35), []⟩,
          ⟨none, (some 258), .mov (.t 30), []⟩,
          ⟨none, (some 259), .bin .gtr (.t 257) (.t 258), []⟩,
          ⟨none, (some 260), .mov (.t 259), []⟩,
          ⟨(some (260, false)), (some 261), .mov (.t 35), []⟩,
          ⟨(some (260, false)), (some 262), .mov (.t 30), []⟩,
          ⟨(some (260, false)), (some 263), .bin .eql (.t 261) (.t 262), []⟩,
          ⟨(some (260, false)), (some 264), .mov (.t 263), []⟩,
          ⟨(some (264, true)), (some 265), .mov (.t 33), []⟩,
          ⟨(some (264, true)), (some 266), .mov (.t 29), []⟩,
          ⟨(some (264, true)), (some 267), .bin .lss (.t 265) (.t 266), []⟩,
          ⟨(some (264, true)), (some 268), .mov (.t 267), []⟩,
          ⟨(some (268, false)), (some 269), .mov (.t 33), []⟩,
          ⟨(some (268, false)), (some 270), .mov (.t 29), []⟩,
          ⟨(some (268, false)), (some 271), .bin .eql (.t 269) (.t 270), []⟩,
          ⟨(some (268, false)), (some 272), .mov (.t 271), []⟩,
          ⟨(some (272, true)), (some 273), .mov (.t 34), []⟩,
          ⟨(some (272, true)), (some 274), .mov (.t 28), []⟩,
          ⟨(some (272, true)), (some 275), .bin .lss (.t 273) (.t 274), []⟩,
          ⟨(some (268, false)), (some 276), .pick (.t 272) (.t 275) (.c (.bool false)), []⟩,
          ⟨(some (264, true)), (some 277), .pick (.t 268) (.c (.bool true)) (.t 276), []⟩,
          ⟨(some (260, false)), (some 278), .pick (.t 264) (.t 277) (.c (.bool false)), []⟩,
          ⟨none, (some 279), .pick (.t 260) (.c (.bool true)) (.t 278), []⟩,
          ⟨none, (some 280), .mov (.t 279), []⟩,
          ⟨(some (280, false)), (some 281), .mov (.t 33), []⟩,
          ⟨(some (280, false)), (some 282), .mov (.t 34), []⟩,
          ⟨(some (280, false)), (some 283), .adrI 10 none 12 12 (.t 281), []⟩,
          ⟨(some (280, false)), (some 284), .adrI 10 (some 283) 12 1 (.t 282), []⟩,
          ⟨(some (280, false)), (some 285), .ldV 10 (some 284) 1 false, []⟩,
          ⟨(some (280, false)), (some 286), .mov (.t 33), []⟩,
          ⟨(some (280, false)), (some 287), .mov (.t 34), []⟩,
          ⟨(some (280, false)), (some 288), .adrI 5 none 12 12 (.t 286), []⟩,
          ⟨(some (280, false)), (some 289), .adrI 5 (some 288) 12 1 (.t 287), []⟩,
          ⟨(some (280, false)), (some 290), .ldV 5 (some 289) 1 false, []⟩,
          ⟨(some (280, false)), (some 291), .bin .gtr (.t 285) (.t 290), []⟩,
          ⟨none, (some 292), .pick (.t 280) (.c (.bool true)) (.t 291), []⟩])
        (.cond (.t 292)
         (.seq
          (.reg [4] [
            ⟨none, (some 4), .mov (.c (.bool false)), []⟩])
          .ret)
         .skip)))))
    (.reg [34] [
      ⟨none, (some 246), .mov (.t 34), []⟩,
      ⟨none, (some 247), .bin .add (.t 246) (.c (.int .i64 1)), []⟩,
      ⟨none, (some 34), .mov (.t 247), []⟩])))
def b39_3 : Cd :=
  (.seq
   (.seq
    (.reg [241] [
      ⟨none, (some 240), .mov (.t 33), []⟩,
      ⟨none, (some 241), .bin .lss (.t 240) (.c (.int .i64 12)), []⟩])
    (.cond (.t 241)
     .skip
     (.exit 2)))
   (.seq
    (.block 3
     (.seq
      (.reg [34] [
        ⟨none, (some 34), .mov (.c (.int .i64 0)), []⟩])
      (.block 4
       (.loop b39_2))))
    (.reg [33] [
      ⟨none, (some 242), .mov (.t 33), []⟩,
      ⟨none, (some 243), .bin .add (.t 242) (.c (.int .i64 1)), []⟩,
      ⟨none, (some 33), .mov (.t 243), []⟩])))
def b39_4 : Cd :=
  (.seq
   (.seq
    (.reg [309] [
      ⟨none, (some 306), .mov (.t 39), []⟩,
      ⟨none, (some 307), .mov (.t 38), []⟩,
      ⟨none, (some 308), .len (.t 307), []⟩,
      ⟨none, (some 309), .bin .lss (.t 306) (.t 308), []⟩])
    (.cond (.t 309)
     .skip
     (.exit 6)))
   (.seq
    (.block 7
     (.seq
      (.reg [40, 41] [
        ⟨none, (some 313), .ldV 5 none 144 true, []⟩,
        ⟨none, (some 314), .mov (.t 38), []⟩,
        ⟨none, (some 315), .mov (.t 39), []⟩,
        ⟨none, (some 316), .idxA 1 (.t 314) (.t 315), []⟩,
        ⟨none, (some 317), .ld 1 false (.t 316), []⟩,
        ⟨none, (some 40), .zero true (zs 12 (.int .u16 0)), []⟩,
        ⟨none, (some 318), .call true 77 [.t 313, .t 317], []⟩,
        ⟨none, (some 312), .mov (.t 318), []⟩,
        ⟨none, (some 319), .ext (.t 312) 0, []⟩,
        ⟨none, (some 320), .ext (.t 312) 1, []⟩,
        ⟨none, (some 40), .stV 40 none 12 (.t 319), []⟩,
        ⟨none, (some 41), .mov (.t 320), []⟩])
      (.seq
       (.reg [42, 43] [
         ⟨none, (some 322), .ldV 5 none 144 true, []⟩,
         ⟨none, (some 323), .mov (.t 38), []⟩,
         ⟨none, (some 324), .mov (.t 39), []⟩,
         ⟨none, (some 325), .idxA 1 (.t 323) (.t 324), []⟩,
         ⟨none, (some 326), .ld 1 false (.t 325), []⟩,
         ⟨none, (some 42), .zero true (zs 12 (.int .u16 0)), []⟩,
         ⟨none, (some 327), .call true 76 [.t 322, .t 326], []⟩,
         ⟨none, (some 321), .mov (.t 327), []⟩,
         ⟨none, (some 328), .ext (.t 321) 0, []⟩,
         ⟨none, (some 329), .ext (.t 321) 1, []⟩,
         ⟨none, (some 42), .stV 42 none 12 (.t 328), []⟩,
         ⟨none, (some 43), .mov (.t 329), []⟩])
       (.seq
        (.reg [44, 45] [
          ⟨none, (some 331), .ldV 42 none 12 true, []⟩,
          ⟨none, (some 332), .ldV 36 none 12 true, []⟩,
          ⟨none, (some 333), .call true 202 [.t 331, .t 332], []⟩,
          ⟨none, (some 330), .mov (.t 333), []⟩,
          ⟨none, (some 334), .ext (.t 330) 0, []⟩,
          ⟨none, (some 335), .ext (.t 330) 1, []⟩,
          ⟨none, (some 44), .zero true (zs 12 (.int .u16 0)), []⟩,
          ⟨none, (some 44), .stV 44 none 12 (.t 334), []⟩,
          ⟨none, (some 45), .mov (.t 335), []⟩])
        (.seq
         (.seq
          (.reg [356] [
            ⟨none, (some 336), .mov (.t 41), []⟩,
            ⟨none, (some 337), .mov (.t 43), []⟩,
            ⟨none, (some 338), .bin .neq (.t 336) (.t 337), []⟩,
            ⟨none, (some 339), .mov (.t 338), []⟩,
            ⟨(some (339, false)), (some 340), .mov (.t 41), []⟩,
            ⟨(some (339, false)), (some 341), .bin .neq (.t 340) (.c (.int .i64 0)), []⟩,
            ⟨none, (some 342), .pick (.t 339) (.c (.bool true)) (.t 341), []⟩,
            ⟨none, (some 343), .mov (.t 342), []⟩,
            ⟨(some (343, false)), (some 344), .ldV 40 none 12 true, []⟩,
            ⟨(some (343, false)), (some 345), .ldV 42 none 12 true, []⟩,
            ⟨(some (343, false)), (some 346), .eq (.a (rb 12 (some .u16))) true (.t 344) (.t 345), []⟩,
            ⟨none, (some 347), .pick (.t 343) (.c (.bool true)) (.t 346), []⟩,
            ⟨none, (some 348), .mov (.t 347), []⟩,
            ⟨(some (348, false)), (some 349), .mov (.t 45), []⟩,
            ⟨(some (348, false)), (some 350), .bin .neq (.t 349) (.c (.int .i64 0)), []⟩,
            ⟨none, (some 351), .pick (.t 348) (.c (.bool true)) (.t 350), []⟩,
            ⟨none, (some 352), .mov (.t 351), []⟩,
            ⟨(some (352, false)), (some 353), .ldV 44 none 12 true, []⟩,
            ⟨(some (352, false)), (some 354), .agg (zs 12 (.int .u16 0)) [], []⟩,
            ⟨(some (352, false)), (some 355), .eq (.a (rb 12 (some .u16))) true (.t 353) (.t 354), []⟩,
            ⟨none, (some 356), .pick (.t 352) (.c (.bool true)) (.t 355), []⟩])
          (.cond (.t 356)
           (.seq
            (.reg [4] [
              ⟨none, (some 4), .mov (.c (.bool false)), []⟩])
            .ret)
           .skip))
         (.reg [36] [
           ⟨none, (some 357), .ldV 42 none 12 true, []⟩,
           ⟨none, (some 36), .stV 36 none 12 (.t 357), []⟩]))))))
    (.reg [39] [
      ⟨none, (some 310), .mov (.t 39), []⟩,
      ⟨none, (some 311), .bin .add (.t 310) (.c (.int .i64 1)), []⟩,
      ⟨none, (some 39), .mov (.t 311), []⟩])))
def k39 : Cd :=
  (.seq
   (.reg [4] [
     ⟨none, (some 4), .mov (.c (.bool false)), []⟩])
   (.seq
    (.seq
     (.reg [48] [
       ⟨none, (some 46), .mov (.t 0), []⟩,
       ⟨none, (some 47), .mov (.t 1), []⟩,
       ⟨none, (some 48), .call true 84 [.t 46, .t 47], []⟩])
     (.cond (.t 48)
      (.seq
       (.reg [4] [
         ⟨none, (some 4), .mov (.c (.bool true)), []⟩])
       .ret)
      .skip))
    (.seq
     (.reg [5] [
       ⟨none, (some 49), .mov (.t 0), []⟩,
       ⟨none, (some 50), .call true 200 [.t 49], []⟩,
       ⟨none, (some 5), .zero true (zs 144 (.int .i16 0)), []⟩,
       ⟨none, (some 5), .stV 5 none 144 (.t 50), []⟩])
     (.seq
      (.reg [6] [
        ⟨none, (some 51), .mov (.t 1), []⟩,
        ⟨none, (some 52), .call true 85 [.t 51], []⟩,
        ⟨none, (some 6), .mov (.t 52), []⟩])
      (.seq
       (.reg [7] [
         ⟨none, (some 53), .mov (.t 1), []⟩,
         ⟨none, (some 54), .call true 124 [.t 53, .c (.int .i64 0), .c (.int .i64 9)], []⟩,
         ⟨none, (some 7), .mov (.t 54), []⟩])
       (.seq
        (.reg [8, 9] [
          ⟨none, (some 56), .ldV 5 none 144 true, []⟩,
          ⟨none, (some 57), .mov (.t 7), []⟩,
          ⟨none, (some 58), .call true 74 [.t 56, .t 57], []⟩,
          ⟨none, (some 55), .mov (.t 58), []⟩,
          ⟨none, (some 59), .ext (.t 55) 0, []⟩,
          ⟨none, (some 60), .ext (.t 55) 1, []⟩,
          ⟨none, (some 8), .zero true (zs 144 (.int .i16 0)), []⟩,
          ⟨none, (some 8), .stV 8 none 144 (.t 59), []⟩,
          ⟨none, (some 9), .mov (.t 60), []⟩])
        (.seq
         (.reg [10, 11] [
           ⟨none, (some 62), .ldV 5 none 144 true, []⟩,
           ⟨none, (some 63), .mov (.t 7), []⟩,
           ⟨none, (some 64), .call true 73 [.t 62, .t 63], []⟩,
           ⟨none, (some 61), .mov (.t 64), []⟩,
           ⟨none, (some 65), .ext (.t 61) 0, []⟩,
           ⟨none, (some 66), .ext (.t 61) 1, []⟩,
           ⟨none, (some 10), .zero true (zs 144 (.int .i16 0)), []⟩,
           ⟨none, (some 10), .stV 10 none 144 (.t 65), []⟩,
           ⟨none, (some 11), .mov (.t 66), []⟩])
         (.seq
          (.reg [12, 13] [
            ⟨none, (some 68), .ldV 5 none 144 true, []⟩,
            ⟨none, (some 69), .call true 74 [.t 68, .c (.int .i64 8)], []⟩,
            ⟨none, (some 67), .mov (.t 69), []⟩,
            ⟨none, (some 70), .ext (.t 67) 0, []⟩,
            ⟨none, (some 71), .ext (.t 67) 1, []⟩,
            ⟨none, (some 12), .zero true (zs 144 (.int .i16 0)), []⟩,
            ⟨none, (some 12), .stV 12 none 144 (.t 70), []⟩,
            ⟨none, (some 13), .mov (.t 71), []⟩])
          (.seq
           (.reg [14, 15] [
             ⟨none, (some 73), .ldV 5 none 144 true, []⟩,
             ⟨none, (some 74), .call true 65 [.t 73], []⟩,
             ⟨none, (some 72), .mov (.t 74), []⟩,
             ⟨none, (some 75), .ext (.t 72) 0, []⟩,
             ⟨none, (some 76), .ext (.t 72) 1, []⟩,
             ⟨none, (some 14), .mov (.t 75), []⟩,
             ⟨none, (some 15), .mov (.t 76), []⟩])
           (.seq
            (.reg [16, 17] [
              ⟨none, (some 78), .ldV 10 none 144 true, []⟩,
              ⟨none, (some 79), .call true 65 [.t 78], []⟩,
              ⟨none, (some 77), .mov (.t 79), []⟩,
              ⟨none, (some 80), .ext (.t 77) 0, []⟩,
              ⟨none, (some 81), .ext (.t 77) 1, []⟩,
              ⟨none, (some 16), .mov (.t 80), []⟩,
              ⟨none, (some 17), .mov (.t 81), []⟩])
            (.seq
             (.reg [18, 19] [
               ⟨none, (some 83), .mov (.t 6), []⟩,
               ⟨none, (some 84), .mov (.t 7), []⟩,
               ⟨none, (some 85), .call true 146 [.t 83, .t 84], []⟩,
               ⟨none, (some 82), .mov (.t 85), []⟩,
               ⟨none, (some 86), .ext (.t 82) 0, []⟩,
               ⟨none, (some 87), .ext (.t 82) 1, []⟩,
               ⟨none, (some 18), .zero true (zs 144 (.int .i16 0)), []⟩,
               ⟨none, (some 18), .stV 18 none 144 (.t 86), []⟩,
               ⟨none, (some 19), .mov (.t 87), []⟩])
             (.seq
              (.reg [20, 21] [
                ⟨none, (some 89), .mov (.t 6), []⟩,
                ⟨none, (some 90), .mov (.t 7), []⟩,
                ⟨none, (some 91), .call true 145 [.t 89, .t 90], []⟩,
                ⟨none, (some 88), .mov (.t 91), []⟩,
                ⟨none, (some 92), .ext (.t 88) 0, []⟩,
                ⟨none, (some 93), .ext (.t 88) 1, []⟩,
                ⟨none, (some 20), .zero true (zs 144 (.int .i16 0)), []⟩,
                ⟨none, (some 20), .stV 20 none 144 (.t 92), []⟩,
                ⟨none, (some 21), .mov (.t 93), []⟩])
              (.seq
               (.seq
                (.reg [159] [
                  ⟨none, (some 94), .mov (.t 9), []⟩,
                  ⟨none, (some 95), .mov (.t 11), []⟩,
                  ⟨none, (some 96), .bin .neq (.t 94) (.t 95), []⟩,
                  ⟨none, (some 97), .mov (.t 96), []⟩,
                  ⟨(some (97, false)), (some 98), .mov (.t 9), []⟩,
                  ⟨(some (97, false)), (some 99), .bin .neq (.t 98) (.c (.int .i64 0)), []⟩,
                  ⟨none, (some 100), .pick (.t 97) (.c (.bool true)) (.t 99), []⟩,
                  ⟨none, (some 101), .mov (.t 100), []⟩,
                  ⟨(some (101, false)), (some 102), .ldV 8 none 144 true, []⟩,
                  ⟨(some (101, false)), (some 103), .ldV 10 none 144 true, []⟩,
                  ⟨(some (101, false)), (some 104), .eq (.a (rb 144 (some .i16))) true (.t 102) (.t 103), []⟩,
                  ⟨none, (some 105), .pick (.t 101) (.c (.bool true)) (.t 104), []⟩,
                  ⟨none, (some 106), .mov (.t 105), []⟩,
                  ⟨(some (106, false)), (some 107), .mov (.t 13), []⟩,
                  ⟨(some (106, false)), (some 108), .bin .neq (.t 107) (.c (.int .i64 0)), []⟩,
                  ⟨none, (some 109), .pick (.t 106) (.c (.bool true)) (.t 108), []⟩,
                  ⟨none, (some 110), .mov (.t 109), []⟩,
                  ⟨(some (110, false)), (some 111), .ldV 12 none 144 true, []⟩,
                  ⟨(some (110, false)), (some 112), .ldV 5 none 144 true, []⟩,
                  ⟨(some (110, false)), (some 113), .eq (.a (rb 144 (some .i16))) true (.t 111) (.t 112), []⟩,
                  ⟨none, (some 114), .pick (.t 110) (.c (.bool true)) (.t 113), []⟩,
                  ⟨none, (some 115), .mov (.t 114), []⟩,
                  ⟨(some (115, false)), (some 116), .mov (.t 15), []⟩,
                  ⟨(some (115, false)), (some 117), .bin .neq (.t 116) (.c (.int .i64 0)), []⟩,
                  ⟨none, (some 118), .pick (.t 115) (.c (.bool true)) (.t 117), []⟩,
                  ⟨none, (some 119), .mov (.t 118), []⟩,
                  ⟨(some (119, false)), (some 120), .mov (.t 17), []⟩,
                  ⟨(some (119, false)), (some 121), .bin .neq (.t 120) (.c (.int .i64 0)), []⟩,
                  ⟨none, (some 122), .pick (.t 119) (.c (.bool true)) (.t 121), []⟩,
                  ⟨none, (some 123), .mov (.t 122), []⟩,
                  ⟨(some (123, false)), (some 124), .mov (.t 16), []⟩,
                  ⟨(some (123, false)), (some 125), .mov (.t 14), []⟩,
                  ⟨(some (123, false)), (some 126), .bin .gtr (.t 124) (.t 125), []⟩,
                  ⟨none, (some 127), .pick (.t 123) (.c (.bool true)) (.t 126), []⟩,
                  ⟨none, (some 128), .mov (.t 127), []⟩,
                  ⟨(some (128, false)), (some 129), .mov (.t 16), []⟩,
                  ⟨(some (128, false)), (some 130), .bin .mul (.c (.int .i64 8)) (.t 129), []⟩,
                  ⟨(some (128, false)), (some 131), .mov (.t 7), []⟩,
                  ⟨(some (128, false)), (some 132), .mov (.t 14), []⟩,
                  ⟨(some (128, false)), (some 133), .bin .mul (.t 131) (.t 132), []⟩,
                  ⟨(some (128, false)), (some 134), .bin .gtr (.t 130) (.t 133), []⟩,
                  ⟨none, (some 135), .pick (.t 128) (.c (.bool true)) (.t 134), []⟩,
                  ⟨none, (some 136), .mov (.t 135), []⟩,
                  ⟨(some (136, false)), (some 137), .mov (.t 19), []⟩,
                  ⟨(some (136, false)), (some 138), .mov (.t 21), []⟩,
                  ⟨(some (136, false)), (some 139), .bin .neq (.t 137) (.t 138), []⟩,
                  ⟨none, (some 140), .pick (.t 136) (.c (.bool true)) (.t 139), []⟩,
                  ⟨none, (some 141), .mov (.t 140), []⟩,
                  ⟨(some (141, false)), (some 142), .mov (.t 19), []⟩,
                  ⟨(some (141, false)), (some 143), .bin .neq (.t 142) (.c (.int .i64 0)), []⟩,
                  ⟨none, (some 144), .pick (.t 141) (.c (.bool true)) (.t 143), []⟩,
                  ⟨none, (some 145), .mov (.t 144), []⟩,
                  ⟨(some (145, false)), (some 146), .ldV 18 none 144 true, []⟩,
                  ⟨(some (145, false)), (some 147), .ldV 20 none 144 true, []⟩,
                  ⟨(some (145, false)), (some 148), .eq (.a (rb 144 (some .i16))) true (.t 146) (.t 147), []⟩,
                  ⟨none, (some 149), .pick (.t 145) (.c (.bool true)) (.t 148), []⟩,
                  ⟨none, (some 150), .mov (.t 149), []⟩,
                  ⟨(some (150, false)), (some 151), .ldV 5 none 144 true, []⟩,
                  ⟨(some (150, false)), (some 152), .call true 63 [.t 151], []⟩,
                  ⟨(some (150, false)), (some 153), .un .not (.t 152), []⟩,
                  ⟨none, (some 154), .pick (.t 150) (.c (.bool true)) (.t 153), []⟩,
                  ⟨none, (some 155), .mov (.t 154), []⟩,
                  ⟨(some (155, false)), (some 156), .ldV 20 none 144 true, []⟩,
                  ⟨(some (155, false)), (some 157), .call true 63 [.t 156], []⟩,
                  ⟨(some (155, false)), (some 158), .un .not (.t 157), []⟩,
                  ⟨none, (some 159), .pick (.t 155) (.c (.bool true)) (.t 158), []⟩])
                (.cond (.t 159)
                 (.seq
                  (.reg [4] [
                    ⟨none, (some 4), .mov (.c (.bool false)), []⟩])
                  .ret)
                 .skip))
               (.seq
                (.reg [22] [
                  ⟨none, (some 160), .agg (zs 144 (.int .i16 0)) [], []⟩,
                  ⟨none, (some 22), .zero true (zs 144 (.int .i16 0)), []⟩,
                  ⟨none, (some 22), .stV 22 none 144 (.t 160), []⟩])
                (.seq
                 (.seq
                  (.reg [23] [
                    ⟨none, (some 23), .mov (.c (.int .i64 0)), []⟩])
                  (.block 0
                   (.loop b39_1)))
                 (.seq
                  (.reg [28, 29, 30, 31] [
                    ⟨none, (some 201), .ldV 5 none 144 true, []⟩,
                    ⟨none, (some 202), .call true 67 [.t 201], []⟩,
                    ⟨none, (some 200), .mov (.t 202), []⟩,
                    ⟨none, (some 203), .ext (.t 200) 0, []⟩,
                    ⟨none, (some 204), .ext (.t 200) 1, []⟩,
                    ⟨none, (some 205), .ext (.t 200) 2, []⟩,
                    ⟨none, (some 206), .ext (.t 200) 3, []⟩,
                    ⟨none, (some 28), .mov (.t 203), []⟩,
                    ⟨none, (some 29), .mov (.t 204), []⟩,
                    ⟨none, (some 30), .mov (.t 205), []⟩,
                    ⟨none, (some 31), .mov (.t 206), []⟩])
                  (.seq
                   (.seq
                    (.reg [239] [
                      ⟨none, (some 207), .ldV 22 none 144 true, []⟩,
                      ⟨none, (some 208), .ldV 20 none 144 true, []⟩,
                      ⟨none, (some 209), .eq (.a (rb 144 (some .i16))) true (.t 207) (.t 208), []⟩,
                      ⟨none, (some 210), .mov (.t 209), []⟩,
                      ⟨(some (210, false)), (some 211), .mov (.t 31), []⟩,
                      ⟨(some (210, false)), (some 212), .bin .neq (.t 211) (.c (.int .i64 0)), []⟩,
                      ⟨none, (some 213), .pick (.t 210) (.c (.bool true)) (.t 212), []⟩,
                      ⟨none, (some 214), .mov (.t 213), []⟩,
                      ⟨(some (214, false)), (some 215), .mov (.t 28), []⟩,
                      ⟨(some (214, false)), (some 216), .bin .lss (.t 215) (.c (.int .i64 0)), []⟩,
                      ⟨none, (some 217), .pick (.t 214) (.c (.bool true)) (.t 216), []⟩,
                      ⟨none, (some 218), .mov (.t 217), []⟩,
                      ⟨(some (218, false)), (some 219), .mov (.t 28), []⟩,
                      ⟨(some (218, false)), (some 220), .bin .gtr (.t 219) (.c (.int .i64 11)), []⟩,
                      ⟨none, (some 221), .pick (.t 218) (.c (.bool true)) (.t 220), []⟩,
                      ⟨none, (some 222), .mov (.t 221), []⟩,
                      ⟨(some (222, false)), (some 223), .mov (.t 29), []⟩,
                      ⟨(some (222, false)), (some 224), .bin .lss (.t 223) (.c (.int .i64 0)), []⟩,
                      ⟨none, (some 225), .pick (.t 222) (.c (.bool true)) (.t 224), []⟩,
                      ⟨none, (some 226), .mov (.t 225), []⟩,
                      ⟨(some (226, false)), (some 227), .mov (.t 29), []⟩,
                      ⟨(some (226, false)), (some 228), .bin .gtr (.t 227) (.c (.int .i64 11)), []⟩,
                      ⟨none, (some 229), .pick (.t 226) (.c (.bool true)) (.t 228), []⟩,
                      ⟨none, (some 230), .mov (.t 229), []⟩,
                      ⟨(some (230, false)), (some 231), .mov (.t 29), []⟩,
                      ⟨(some (230, false)), (some 232), .mov (.t 28), []⟩,
                      ⟨(some (230, false)), (some 233), .adrI 5 none 12 12 (.t 231), []⟩,
                      ⟨(some (230, false)), (some 234), .adrI 5 (some 233) 12 1 (.t 232), []⟩,
                      ⟨(some (230, false)), (some 235), .ldV 5 (some 234) 1 false, []⟩,
                      ⟨(some (230, false)), (some 236), .conv .i64 (.t 235), []⟩,
                      ⟨(some (230, false)), (some 237), .mov (.t 30), []⟩,
                      ⟨(some (230, false)), (some 238), .bin .neq (.t 236) (.t 237), []⟩,
                      ⟨none, (some 239), .pick (.t 230) (.c (.bool true)) (.t 238), []⟩])
                    (.cond (.t 239)
                     (.seq
                      (.reg [4] [
                        ⟨none, (some 4), .mov (.c (.bool false)), []⟩])
                      .ret)
                     .skip))
                   (.seq
                    (.reg [32] [
                      ⟨none, (some 32), .mov (.c (.int .i64 0)), []⟩])
                    (.seq
                     (.seq
                      (.reg [33] [
                        ⟨none, (some 33), .mov (.c (.int .i64 0)), []⟩])
                      (.block 2
                       (.loop b39_3)))
                     (.seq
                      (.reg [36, 37] [
                        ⟨none, (some 294), .agg (zs 12 (.int .u16 0)) [], []⟩,
                        ⟨none, (some 295), .call true 201 [.t 294], []⟩,
                        ⟨none, (some 293), .mov (.t 295), []⟩,
                        ⟨none, (some 296), .ext (.t 293) 0, []⟩,
                        ⟨none, (some 297), .ext (.t 293) 1, []⟩,
                        ⟨none, (some 36), .zero true (zs 12 (.int .u16 0)), []⟩,
                        ⟨none, (some 36), .stV 36 none 12 (.t 296), []⟩,
                        ⟨none, (some 37), .mov (.t 297), []⟩])
                      (.seq
                       (.seq
                        (.reg [304] [
                          ⟨none, (some 298), .mov (.t 37), []⟩,
                          ⟨none, (some 299), .bin .neq (.t 298) (.c (.int .i64 0)), []⟩,
                          ⟨none, (some 300), .mov (.t 299), []⟩,
                          ⟨(some (300, false)), (some 301), .mov (.t 32), []⟩,
                          ⟨(some (300, false)), (some 302), .mov (.t 14), []⟩,
                          ⟨(some (300, false)), (some 303), .bin .neq (.t 301) (.t 302), []⟩,
                          ⟨none, (some 304), .pick (.t 300) (.c (.bool true)) (.t 303), []⟩])
                        (.cond (.t 304)
                         (.seq
                          (.reg [4] [
                            ⟨none, (some 4), .mov (.c (.bool false)), []⟩])
                          .ret)
                         .skip))
                       (.seq
                        (.reg [38] [
                          ⟨none, (some 305), .bldS 1 5 [.int .i64 0] [(0, 1, (.c (.int .i64 0))), (1, 1, (.c (.int .i64 1))), (2, 1, (.c (.int .i64 64))), (3, 1, (.c (.int .i64 100))), (4, 1, (.c (.int .i64 1000)))], []⟩,
                          ⟨none, (some 38), .mov (.t 305), []⟩])
                        (.seq
                         (.seq
                          (.reg [39] [
                            ⟨none, (some 39), .mov (.c (.int .i64 0)), []⟩])
                          (.block 6
                           (.loop b39_4)))
                         (.seq
                          (.reg [4] [
                            ⟨none, (some 4), .mov (.c (.bool true)), []⟩])
                          .ret))))))))))))))))))))))))
def c39 : Fn := { np := 2, nt := 358, kind := .pure, res := [.t 4], body := k39 }

/- impl.ValidLight -/
def b63_1 : Cd :=
  (.seq
   (.reg [7] [
     ⟨none, (some 7), .bin .lss (.t 6) (.c (.int .i64 12)), []⟩])
   (.seq
    (.cond (.t 7)
     .skip
     (.exit 0))
    (.seq
     (.block 1
      (.seq
       (.reg [4] [
         ⟨none, (some 8), .idx 12 12 true (.t 5) (.t 6), []⟩,
         ⟨none, (some 4), .new 1 (zs 12 (.int .i16 0)), []⟩,
         ⟨none, none, .st 12 (.t 4) (.t 8), []⟩])
       (.seq
        (.reg [10] [
          ⟨none, (some 9), .slcP 12 1 (.t 4), []⟩,
          ⟨none, (some 10), .call true 293 [.t 9, .f 294], []⟩])
        (.cond (.t 10)
         (.seq
          (.reg [2] [
            ⟨none, (some 2), .mov (.c (.bool false)), []⟩])
          .ret)
         .skip))))
     (.reg [6] [
       ⟨none, (some 11), .bin .add (.t 6) (.c (.int .i64 1)), []⟩,
       ⟨none, (some 6), .mov (.t 11), []⟩]))))
def k63 : Cd :=
  (.seq
   (.reg [1, 2] [
     ⟨none, (some 1), .mov (.t 0), []⟩,
     ⟨none, (some 2), .mov (.c (.bool false)), []⟩])
   (.seq
    (.seq
     (.reg [5, 6] [
       ⟨none, (some 5), .ldV 1 none 144 true, []⟩,
       ⟨none, (some 6), .mov (.c (.int .i64 0)), []⟩])
     (.block 0
      (.loop b63_1)))
    (.seq
     (.reg [2] [
       ⟨none, (some 2), .mov (.c (.bool true)), []⟩])
     .ret)))
def c63 : Fn := { np := 1, nt := 12, kind := .pure, res := [.t 2], body := k63 }

/- impl.SumLight -/
def b65_1 : Cd :=
  (.seq
   (.reg [18] [
     ⟨none, (some 18), .bin .lss (.t 17) (.c (.int .i64 12)), []⟩])
   (.seq
    (.cond (.t 18)
     .skip
     (.exit 2))
    (.seq
     (.block 3
      (.seq
       (.reg [8] [
         ⟨none, (some 19), .idx 12 1 false (.t 16) (.t 17), []⟩,
         ⟨none, (some 8), .mov (.t 19), []⟩])
       (.reg [4] [
         ⟨none, (some 20), .mov (.t 4), []⟩,
         ⟨none, (some 21), .mov (.t 8), []⟩,
         ⟨none, (some 22), .conv .i64 (.t 21), []⟩,
         ⟨none, (some 23), .bin .add (.t 20) (.t 22), []⟩,
         ⟨none, (some 4), .mov (.t 23), []⟩])))
     (.reg [17] [
       ⟨none, (some 24), .bin .add (.t 17) (.c (.int .i64 1)), []⟩,
       ⟨none, (some 17), .mov (.t 24), []⟩]))))
def b65_2 : Cd :=
  (.seq
   (.reg [14] [
     ⟨none, (some 14), .bin .lss (.t 13) (.c (.int .i64 12)), []⟩])
   (.seq
    (.cond (.t 14)
     .skip
     (.exit 0))
    (.seq
     (.block 1
      (.seq
       (.reg [6] [
         ⟨none, (some 15), .idx 12 12 true (.t 12) (.t 13), []⟩,
         ⟨none, (some 6), .zero true (zs 12 (.int .i16 0)), []⟩,
         ⟨none, (some 6), .stV 6 none 12 (.t 15), []⟩])
       (.seq
        (.reg [16, 17] [
          ⟨none, (some 16), .ldV 6 none 12 true, []⟩,
          ⟨none, (some 17), .mov (.c (.int .i64 0)), []⟩])
        (.block 2
         (.loop b65_1)))))
     (.reg [13] [
       ⟨none, (some 25), .bin .add (.t 13) (.c (.int .i64 1)), []⟩,
       ⟨none, (some 13), .mov (.t 25), []⟩]))))
def k65 : Cd :=
  (.seq
   (.reg [1, 2, 3] [
     ⟨none, (some 1), .mov (.t 0), []⟩,
     ⟨none, (some 2), .mov (.c (.int .i64 0)), []⟩,
     ⟨none, (some 3), .mov (.c (.int .i64 0)), []⟩])
   (.seq
    (.seq
     (.reg [11] [
       ⟨none, (some 9), .ldV 1 none 144 true, []⟩,
       ⟨none, (some 10), .call true 63 [.t 9], []⟩,
       ⟨none, (some 11), .un .not (.t 10), []⟩])
     (.cond (.t 11)
      (.seq
       (.reg [2, 3] [
         ⟨none, (some 2), .mov (.c (.int .i64 0)), []⟩,
         ⟨none, (some 3), .mov (.c (.int .i64 1)), []⟩])
       .ret)
      .skip))
    (.seq
     (.reg [4] [
       ⟨none, (some 4), .mov (.c (.int .i64 0)), []⟩])
     (.seq
      (.seq
       (.reg [12, 13] [
         ⟨none, (some 12), .ldV 1 none 144 true, []⟩,
         ⟨none, (some 13), .mov (.c (.int .i64 0)), []⟩])
       (.block 0
        (.loop b65_2)))
      (.seq
       (.reg [2, 3] [
         ⟨none, (some 26), .mov (.t 4), []⟩,
         ⟨none, (some 2), .mov (.t 26), []⟩,
         ⟨none, (some 3), .mov (.c (.int .i64 0)), []⟩])
       .ret)))))
def c65 : Fn := { np := 1, nt := 27, kind := .pure, res := [.t 2, .t 3], body := k65 }

/- impl.BrightestAt -/
def b67_1 : Cd :=
  (.seq
   (.reg [21] [
     ⟨none, (some 21), .bin .lss (.t 20) (.c (.int .i64 12)), []⟩])
   (.seq
    (.cond (.t 21)
     .skip
     (.exit 2))
    (.seq
     (.block 3
      (.seq
       (.reg [9, 10] [
         ⟨none, (some 22), .mov (.t 20), []⟩,
         ⟨none, (some 23), .idx 12 1 false (.t 19) (.t 20), []⟩,
         ⟨none, (some 9), .mov (.t 22), []⟩,
         ⟨none, (some 10), .mov (.t 23), []⟩])
       (.seq
        (.reg [30] [
          ⟨none, (some 24), .mov (.t 10), []⟩,
          ⟨none, (some 25), .mov (.t 7), []⟩,
          ⟨none, (some 26), .mov (.t 6), []⟩,
          ⟨none, (some 27), .adrI 1 none 12 12 (.t 25), []⟩,
          ⟨none, (some 28), .adrI 1 (some 27) 12 1 (.t 26), []⟩,
          ⟨none, (some 29), .ldV 1 (some 28) 1 false, []⟩,
          ⟨none, (some 30), .bin .gtr (.t 24) (.t 29), []⟩])
        (.cond (.t 30)
         (.reg [6, 7] [
           ⟨none, (some 31), .mov (.t 9), []⟩,
           ⟨none, (some 32), .mov (.t 8), []⟩,
           ⟨none, (some 6), .mov (.t 31), []⟩,
           ⟨none, (some 7), .mov (.t 32), []⟩])
         .skip))))
     (.reg [20] [
       ⟨none, (some 33), .bin .add (.t 20) (.c (.int .i64 1)), []⟩,
       ⟨none, (some 20), .mov (.t 33), []⟩]))))
def b67_2 : Cd :=
  (.seq
   (.reg [15] [
     ⟨none, (some 15), .bin .lss (.t 14) (.c (.int .i64 12)), []⟩])
   (.seq
    (.cond (.t 15)
     .skip
     (.exit 0))
    (.seq
     (.block 1
      (.seq
       (.reg [8] [
         ⟨none, (some 16), .mov (.t 14), []⟩,
         ⟨none, (some 8), .mov (.t 16), []⟩])
       (.seq
        (.reg [19, 20] [
          ⟨none, (some 17), .mov (.t 8), []⟩,
          ⟨none, (some 18), .adrI 1 none 12 12 (.t 17), []⟩,
          ⟨none, (some 19), .ldV 1 (some 18) 12 true, []⟩,
          ⟨none, (some 20), .mov (.c (.int .i64 0)), []⟩])
        (.block 2
         (.loop b67_1)))))
     (.reg [14] [
       ⟨none, (some 34), .bin .add (.t 14) (.c (.int .i64 1)), []⟩,
       ⟨none, (some 14), .mov (.t 34), []⟩]))))
def k67 : Cd :=
  (.seq
   (.reg [1, 2, 3, 4, 5] [
     ⟨none, (some 1), .mov (.t 0), []⟩,
     ⟨none, (some 2), .mov (.c (.int .i64 0)), []⟩,
     ⟨none, (some 3), .mov (.c (.int .i64 0)), []⟩,
     ⟨none, (some 4), .mov (.c (.int .i64 0)), []⟩,
     ⟨none, (some 5), .mov (.c (.int .i64 0)), []⟩])
   (.seq
    (.seq
     (.reg [13] [
       ⟨none, (some 11), .ldV 1 none 144 true, []⟩,
       ⟨none, (some 12), .call true 63 [.t 11], []⟩,
       ⟨none, (some 13), .un .not (.t 12), []⟩])
     (.cond (.t 13)
      (.seq
       (.reg [2, 3, 4, 5] [
         ⟨none, (some 2), .mov (.c (.int .i64 0)), []⟩,
         ⟨none, (some 3), .mov (.c (.int .i64 0)), []⟩,
         ⟨none, (some 4), .mov (.c (.int .i64 0)), []⟩,
         ⟨none, (some 5), .mov (.c (.int .i64 1)), []⟩])
       .ret)
      .skip))
    (.seq
     (.reg [6, 7] [
       ⟨none, (some 6), .mov (.c (.int .i64 0)), []⟩,
       ⟨none, (some 7), .mov (.c (.int .i64 0)), []⟩])
     (.seq
      (.seq
       (.reg [14] [
         ⟨none, (some 14), .mov (.c (.int .i64 0)), []⟩])
       (.block 0
        (.loop b67_2)))
      (.seq
       (.reg [2, 3, 4, 5] [
         ⟨none, (some 35), .mov (.t 6), []⟩,
         ⟨none, (some 36), .mov (.t 7), []⟩,
         ⟨none, (some 37), .mov (.t 7), []⟩,
         ⟨none, (some 38), .mov (.t 6), []⟩,
         ⟨none, (some 39), .adrI 1 none 12 12 (.t 37), []⟩,
         ⟨none, (some 40), .adrI 1 (some 39) 12 1 (.t 38), []⟩,
         ⟨none, (some 41), .ldV 1 (some 40) 1 false, []⟩,
         ⟨none, (some 42), .conv .i64 (.t 41), []⟩,
         ⟨none, (some 2), .mov (.t 35), []⟩,
         ⟨none, (some 3), .mov (.t 36), []⟩,
         ⟨none, (some 4), .mov (.t 42), []⟩,
         ⟨none, (some 5), .mov (.c (.int .i64 0)), []⟩])
       .ret)))))
def c67 : Fn := { np := 1, nt := 43, kind := .pure, res := [.t 2, .t 3, .t 4, .t 5], body := k67 }

/- spec.Fade -/
def k73 : Cd :=
  (.seq
   (.reg [2, 4, 5] [
     ⟨none, (some 2), .box 144 (.t 0), []⟩,
     ⟨none, (some 4), .zero true (zs 144 (.int .i16 0)), []⟩,
     ⟨none, (some 5), .mov (.c (.int .i64 0)), []⟩])
   (.seq
    (.seq
     (.reg [7] [
       ⟨none, (some 6), .call true 291 [.t 2], []⟩,
       ⟨none, (some 7), .un .not (.t 6), []⟩])
     (.cond (.t 7)
      (.seq
       (.reg [4, 5] [
         ⟨none, (some 8), .agg (zs 144 (.int .i16 0)) [], []⟩,
         ⟨none, (some 4), .stV 4 none 144 (.t 8), []⟩,
         ⟨none, (some 5), .mov (.c (.int .i64 1)), []⟩])
       .ret)
      .skip))
    (.seq
     (.seq
      (.reg [11] [
        ⟨none, (some 9), .mov (.t 1), []⟩,
        ⟨none, (some 10), .call true 299 [.t 9], []⟩,
        ⟨none, (some 11), .un .not (.t 10), []⟩])
      (.cond (.t 11)
       (.seq
        (.reg [4, 5] [
          ⟨none, (some 12), .agg (zs 144 (.int .i16 0)) [], []⟩,
          ⟨none, (some 4), .stV 4 none 144 (.t 12), []⟩,
          ⟨none, (some 5), .mov (.c (.int .i64 2)), []⟩])
        .ret)
       .skip))
     (.seq
      (.reg [4, 5] [
        ⟨none, (some 13), .ld 144 true (.t 2), []⟩,
        ⟨none, (some 14), .mov (.t 1), []⟩,
        ⟨none, (some 15), .call true 300 [.t 13, .t 14], []⟩,
        ⟨none, (some 4), .stV 4 none 144 (.t 15), []⟩,
        ⟨none, (some 5), .mov (.c (.int .i64 0)), []⟩])
      .ret))))
def c73 : Fn := { np := 2, nt := 16, kind := .pure, res := [.v 4 144 true, .t 5], body := k73 }

/- impl.Fade -/
def k74 : Cd :=
  (.seq
   (.reg [2, 4, 5] [
     ⟨none, (some 2), .mov (.t 0), []⟩,
     ⟨none, (some 4), .zero true (zs 144 (.int .i16 0)), []⟩,
     ⟨none, (some 5), .mov (.c (.int .i64 0)), []⟩])
   (.seq
    (.block 0
     (.seq
      (.reg [6] [
        ⟨none, (some 7), .ldV 2 none 144 true, []⟩,
        ⟨none, (some 8), .call true 63 [.t 7], []⟩,
        ⟨none, (some 9), .un .not (.t 8), []⟩,
        ⟨none, (some 6), .mov (.t 9), []⟩])
      (.cond (.t 6)
       (.seq
        (.reg [4, 5] [
          ⟨none, (some 10), .agg (zs 144 (.int .i16 0)) [], []⟩,
          ⟨none, (some 4), .stV 4 none 144 (.t 10), []⟩,
          ⟨none, (some 5), .mov (.c (.int .i64 1)), []⟩])
        .ret)
       (.seq
        (.reg [11] [
          ⟨none, (some 12), .mov (.t 1), []⟩,
          ⟨none, (some 13), .call true 301 [.t 12], []⟩,
          ⟨none, (some 14), .un .not (.t 13), []⟩,
          ⟨none, (some 11), .mov (.t 14), []⟩])
        (.cond (.t 11)
         (.seq
          (.reg [4, 5] [
            ⟨none, (some 15), .agg (zs 144 (.int .i16 0)) [], []⟩,
            ⟨none, (some 4), .stV 4 none 144 (.t 15), []⟩,
            ⟨none, (some 5), .mov (.c (.int .i64 2)), []⟩])
          .ret)
         .skip)))))
    (.seq
     (.reg [4, 5] [
       ⟨none, (some 16), .ldV 2 none 144 true, []⟩,
       ⟨none, (some 17), .mov (.t 1), []⟩,
       ⟨none, (some 18), .call true 302 [.t 16, .t 17], []⟩,
       ⟨none, (some 4), .stV 4 none 144 (.t 18), []⟩,
       ⟨none, (some 5), .mov (.c (.int .i64 0)), []⟩])
     .ret)))
def c74 : Fn := { np := 2, nt := 19, kind := .pure, res := [.v 4 144 true, .t 5], body := k74 }

/- spec.SeenAt -/
def b76_1 : Cd :=
  (.seq
   (.seq
    (.reg [22] [
      ⟨none, (some 21), .mov (.t 8), []⟩,
      ⟨none, (some 22), .bin .lss (.t 21) (.c (.int .i64 12)), []⟩])
    (.cond (.t 22)
     .skip
     (.exit 2)))
   (.seq
    (.block 3
     (.seq
      (.reg [32] [
        ⟨none, (some 25), .mov (.t 7), []⟩,
        ⟨none, (some 26), .mov (.t 8), []⟩,
        ⟨none, (some 27), .idxP 12 12 (.t 2) (.t 25), []⟩,
        ⟨none, (some 28), .idxP 12 1 (.t 27) (.t 26), []⟩,
        ⟨none, (some 29), .ld 1 false (.t 28), []⟩,
        ⟨none, (some 30), .conv .i64 (.t 29), []⟩,
        ⟨none, (some 31), .mov (.t 1), []⟩,
        ⟨none, (some 32), .bin .geq (.t 30) (.t 31), []⟩])
      (.cond (.t 32)
       (.reg [] [
         ⟨none, (some 33), .mov (.t 8), []⟩,
         ⟨none, (some 34), .mov (.t 7), []⟩,
         ⟨none, (some 35), .call false 305 [.t 6, .t 33, .t 34], []⟩])
       .skip)))
    (.reg [8] [
      ⟨none, (some 23), .mov (.t 8), []⟩,
      ⟨none, (some 24), .bin .add (.t 23) (.c (.int .i64 1)), []⟩,
      ⟨none, (some 8), .mov (.t 24), []⟩])))
def b76_2 : Cd :=
  (.seq
   (.seq
    (.reg [18] [
      ⟨none, (some 17), .mov (.t 7), []⟩,
      ⟨none, (some 18), .bin .lss (.t 17) (.c (.int .i64 12)), []⟩])
    (.cond (.t 18)
     .skip
     (.exit 0)))
   (.seq
    (.block 1
     (.seq
      (.reg [8] [
        ⟨none, (some 8), .mov (.c (.int .i64 0)), []⟩])
      (.block 2
       (.loop b76_1))))
    (.reg [7] [
      ⟨none, (some 19), .mov (.t 7), []⟩,
      ⟨none, (some 20), .bin .add (.t 19) (.c (.int .i64 1)), []⟩,
      ⟨none, (some 7), .mov (.t 20), []⟩])))
def k76 : Cd :=
  (.seq
   (.reg [2, 4, 5] [
     ⟨none, (some 2), .box 144 (.t 0), []⟩,
     ⟨none, (some 4), .zero true (zs 12 (.int .u16 0)), []⟩,
     ⟨none, (some 5), .mov (.c (.int .i64 0)), []⟩])
   (.seq
    (.seq
     (.reg [10] [
       ⟨none, (some 9), .call true 291 [.t 2], []⟩,
       ⟨none, (some 10), .un .not (.t 9), []⟩])
     (.cond (.t 10)
      (.seq
       (.reg [4, 5] [
         ⟨none, (some 11), .agg (zs 12 (.int .u16 0)) [], []⟩,
         ⟨none, (some 4), .stV 4 none 12 (.t 11), []⟩,
         ⟨none, (some 5), .mov (.c (.int .i64 1)), []⟩])
       .ret)
      .skip))
    (.seq
     (.seq
      (.reg [14] [
        ⟨none, (some 12), .mov (.t 1), []⟩,
        ⟨none, (some 13), .call true 304 [.t 12, .c (.int .i64 0), .c (.int .i64 1000)], []⟩,
        ⟨none, (some 14), .un .not (.t 13), []⟩])
      (.cond (.t 14)
       (.seq
        (.reg [4, 5] [
          ⟨none, (some 15), .agg (zs 12 (.int .u16 0)) [], []⟩,
          ⟨none, (some 4), .stV 4 none 12 (.t 15), []⟩,
          ⟨none, (some 5), .mov (.c (.int .i64 2)), []⟩])
        .ret)
       .skip))
     (.seq
      (.reg [6] [
        ⟨none, (some 16), .agg (zs 12 (.int .u16 0)) [], []⟩,
        ⟨none, (some 6), .new 1 (zs 12 (.int .u16 0)), []⟩,
        ⟨none, none, .st 12 (.t 6) (.t 16), []⟩])
      (.seq
       (.seq
        (.reg [7] [
          ⟨none, (some 7), .mov (.c (.int .i64 0)), []⟩])
        (.block 0
         (.loop b76_2)))
       (.seq
        (.reg [4, 5] [
          ⟨none, (some 36), .ld 12 true (.t 6), []⟩,
          ⟨none, (some 4), .stV 4 none 12 (.t 36), []⟩,
          ⟨none, (some 5), .mov (.c (.int .i64 0)), []⟩])
        .ret))))))
def c76 : Fn := { np := 2, nt := 37, kind := .pure, res := [.v 4 12 true, .t 5], body := k76 }

/- impl.SeenAt -/
def k77 : Cd :=
  (.seq
   (.reg [2, 3, 4, 5] [
     ⟨none, (some 2), .box 144 (.t 0), []⟩,
     ⟨none, (some 3), .box 1 (.t 1), []⟩,
     ⟨none, (some 4), .zero true (zs 12 (.int .u16 0)), []⟩,
     ⟨none, (some 5), .mov (.c (.int .i64 0)), []⟩])
   (.seq
    (.block 0
     (.seq
      (.reg [6] [
        ⟨none, (some 7), .ld 144 true (.t 2), []⟩,
        ⟨none, (some 8), .call true 63 [.t 7], []⟩,
        ⟨none, (some 9), .un .not (.t 8), []⟩,
        ⟨none, (some 6), .mov (.t 9), []⟩])
      (.cond (.t 6)
       (.seq
        (.reg [4, 5] [
          ⟨none, (some 10), .agg (zs 12 (.int .u16 0)) [], []⟩,
          ⟨none, (some 4), .stV 4 none 12 (.t 10), []⟩,
          ⟨none, (some 5), .mov (.c (.int .i64 1)), []⟩])
        .ret)
       (.seq
        (.reg [11] [
          ⟨none, (some 12), .ld 1 false (.t 3), []⟩,
          ⟨none, (some 13), .call true 295 [.t 12, .c (.int .i64 0), .c (.int .i64 1000)], []⟩,
          ⟨none, (some 14), .un .not (.t 13), []⟩,
          ⟨none, (some 11), .mov (.t 14), []⟩])
        (.cond (.t 11)
         (.seq
          (.reg [4, 5] [
            ⟨none, (some 15), .agg (zs 12 (.int .u16 0)) [], []⟩,
            ⟨none, (some 4), .stV 4 none 12 (.t 15), []⟩,
            ⟨none, (some 5), .mov (.c (.int .i64 2)), []⟩])
          .ret)
         .skip)))))
    (.seq
     (.reg [4, 5] [
       ⟨none, (some 16), .mkf 307 [.t 2, .t 3], []⟩,
       ⟨none, (some 17), .call true 306 [.t 16], []⟩,
       ⟨none, (some 4), .stV 4 none 12 (.t 17), []⟩,
       ⟨none, (some 5), .mov (.c (.int .i64 0)), []⟩])
     .ret)))
def c77 : Fn := { np := 2, nt := 18, kind := .pure, res := [.v 4 12 true, .t 5], body := k77 }

/- laws.a2Long -/
def k84 : Cd :=
  (.seq
   (.reg [4] [
     ⟨none, (some 4), .mov (.c (.bool false)), []⟩])
   (.seq
    (.reg [4] [
      ⟨none, (some 5), .mov (.t 0), []⟩,
      ⟨none, (some 6), .len (.t 5), []⟩,
      ⟨none, (some 7), .bin .gtr (.t 6) (.c (.int .i64 3000)), []⟩,
      ⟨none, (some 8), .mov (.t 7), []⟩,
      ⟨(some (8, false)), (some 9), .mov (.t 1), []⟩,
      ⟨(some (8, false)), (some 10), .len (.t 9), []⟩,
      ⟨(some (8, false)), (some 11), .bin .gtr (.t 10) (.c (.int .i64 3000)), []⟩,
      ⟨none, (some 12), .pick (.t 8) (.c (.bool true)) (.t 11), []⟩,
      ⟨none, (some 4), .mov (.t 12), []⟩])
    .ret))
def c84 : Fn := { np := 2, nt := 13, kind := .pure, res := [.t 4], body := k84 }

/- spec.A2Book -/
def k85 : Cd :=
  (.seq
   (.reg [2] [
     ⟨none, (some 2), .mov (.c (.slice none 0 0)), []⟩])
   (.seq
    (.reg [2] [
      ⟨none, (some 3), .mov (.t 0), []⟩,
      ⟨none, (some 4), .call true 315 [.t 3], []⟩,
      ⟨none, (some 5), .call false 314 [.t 4, .c (.int .i64 7)], []⟩,
      ⟨none, (some 2), .mov (.t 5), []⟩])
    .ret))
def c85 : Fn := { np := 1, nt := 6, kind := .pure, res := [.t 2], body := k85 }

/- laws.a2At -/
def k124 : Cd :=
  (.seq
   (.reg [6] [
     ⟨none, (some 6), .mov (.c (.int .i64 0)), []⟩])
   (.seq
    (.seq
     (.reg [14] [
       ⟨none, (some 7), .mov (.t 1), []⟩,
       ⟨none, (some 8), .mov (.t 0), []⟩,
       ⟨none, (some 9), .len (.t 8), []⟩,
       ⟨none, (some 10), .bin .geq (.t 7) (.t 9), []⟩,
       ⟨none, (some 11), .mov (.t 10), []⟩,
       ⟨(some (11, false)), (some 12), .mov (.t 2), []⟩,
       ⟨(some (11, false)), (some 13), .bin .lss (.t 12) (.c (.int .i64 1)), []⟩,
       ⟨none, (some 14), .pick (.t 11) (.c (.bool true)) (.t 13), []⟩])
     (.cond (.t 14)
      (.seq
       (.reg [6] [
         ⟨none, (some 6), .mov (.c (.int .i64 0)), []⟩])
       .ret)
      .skip))
    (.seq
     (.reg [6] [
       ⟨none, (some 15), .mov (.t 0), []⟩,
       ⟨none, (some 16), .mov (.t 1), []⟩,
       ⟨none, (some 17), .idxA 1 (.t 15) (.t 16), []⟩,
       ⟨none, (some 18), .ld 1 false (.t 17), []⟩,
       ⟨none, (some 19), .conv .i64 (.t 18), []⟩,
       ⟨none, (some 20), .mov (.t 2), []⟩,
       ⟨none, (some 21), .bin .rem (.t 19) (.t 20), []⟩,
       ⟨none, (some 6), .mov (.t 21), []⟩])
     .ret)))
def c124 : Fn := { np := 3, nt := 22, kind := .pure, res := [.t 6], body := k124 }

/- spec.LightBy -/
def k133 : Cd :=
  (.seq
   (.reg [3, 4, 6, 7] [
     ⟨none, (some 3), .box 144 (.t 0), []⟩,
     ⟨none, (some 4), .box 12 (.t 1), []⟩,
     ⟨none, (some 6), .zero true (zs 144 (.int .i16 0)), []⟩,
     ⟨none, (some 7), .mov (.c (.int .i64 0)), []⟩])
   (.seq
    (.seq
     (.reg [13] [
       ⟨none, (some 8), .call true 291 [.t 3], []⟩,
       ⟨none, (some 9), .un .not (.t 8), []⟩,
       ⟨none, (some 10), .mov (.t 9), []⟩,
       ⟨(some (10, false)), (some 11), .call true 359 [.t 4], []⟩,
       ⟨(some (10, false)), (some 12), .un .not (.t 11), []⟩,
       ⟨none, (some 13), .pick (.t 10) (.c (.bool true)) (.t 12), []⟩])
     (.cond (.t 13)
      (.seq
       (.reg [6, 7] [
         ⟨none, (some 14), .agg (zs 144 (.int .i16 0)) [], []⟩,
         ⟨none, (some 6), .stV 6 none 144 (.t 14), []⟩,
         ⟨none, (some 7), .mov (.c (.int .i64 1)), []⟩])
       .ret)
      .skip))
    (.seq
     (.seq
      (.reg [17] [
        ⟨none, (some 15), .mov (.t 2), []⟩,
        ⟨none, (some 16), .call true 299 [.t 15], []⟩,
        ⟨none, (some 17), .un .not (.t 16), []⟩])
      (.cond (.t 17)
       (.seq
        (.reg [6, 7] [
          ⟨none, (some 18), .agg (zs 144 (.int .i16 0)) [], []⟩,
          ⟨none, (some 6), .stV 6 none 144 (.t 18), []⟩,
          ⟨none, (some 7), .mov (.c (.int .i64 2)), []⟩])
        .ret)
       .skip))
     (.seq
      (.reg [6, 7] [
        ⟨none, (some 19), .ld 144 true (.t 3), []⟩,
        ⟨none, (some 20), .mov (.t 2), []⟩,
        ⟨none, (some 21), .call true 360 [.t 19, .t 4, .t 20], []⟩,
        ⟨none, (some 6), .stV 6 none 144 (.t 21), []⟩,
        ⟨none, (some 7), .mov (.c (.int .i64 0)), []⟩])
      .ret))))
def c133 : Fn := { np := 3, nt := 22, kind := .pure, res := [.v 6 144 true, .t 7], body := k133 }

/- impl.LightBy -/
def k135 : Cd :=
  (.seq
   (.reg [3, 4, 6, 7] [
     ⟨none, (some 3), .mov (.t 0), []⟩,
     ⟨none, (some 4), .mov (.t 1), []⟩,
     ⟨none, (some 6), .zero true (zs 144 (.int .i16 0)), []⟩,
     ⟨none, (some 7), .mov (.c (.int .i64 0)), []⟩])
   (.seq
    (.block 0
     (.seq
      (.reg [8] [
        ⟨none, (some 9), .ldV 3 none 144 true, []⟩,
        ⟨none, (some 10), .call true 63 [.t 9], []⟩,
        ⟨none, (some 11), .un .not (.t 10), []⟩,
        ⟨none, (some 12), .mov (.t 11), []⟩,
        ⟨(some (12, false)), (some 13), .ldV 4 none 12 true, []⟩,
        ⟨(some (12, false)), (some 14), .call true 234 [.t 13], []⟩,
        ⟨(some (12, false)), (some 15), .un .not (.t 14), []⟩,
        ⟨none, (some 16), .pick (.t 12) (.c (.bool true)) (.t 15), []⟩,
        ⟨none, (some 8), .mov (.t 16), []⟩])
      (.cond (.t 8)
       (.seq
        (.reg [6, 7] [
          ⟨none, (some 17), .agg (zs 144 (.int .i16 0)) [], []⟩,
          ⟨none, (some 6), .stV 6 none 144 (.t 17), []⟩,
          ⟨none, (some 7), .mov (.c (.int .i64 1)), []⟩])
        .ret)
       (.seq
        (.reg [18] [
          ⟨none, (some 19), .mov (.t 2), []⟩,
          ⟨none, (some 20), .call true 301 [.t 19], []⟩,
          ⟨none, (some 21), .un .not (.t 20), []⟩,
          ⟨none, (some 18), .mov (.t 21), []⟩])
        (.cond (.t 18)
         (.seq
          (.reg [6, 7] [
            ⟨none, (some 22), .agg (zs 144 (.int .i16 0)) [], []⟩,
            ⟨none, (some 6), .stV 6 none 144 (.t 22), []⟩,
            ⟨none, (some 7), .mov (.c (.int .i64 2)), []⟩])
          .ret)
         .skip)))))
    (.seq
     (.reg [6, 7] [
       ⟨none, (some 23), .ldV 3 none 144 true, []⟩,
       ⟨none, (some 24), .mov (.t 2), []⟩,
       ⟨none, (some 26), .ldV 4 none 12 true, []⟩,
       ⟨none, (some 25), .call true 302 [.t 23, .t 24], []⟩,
       ⟨none, (some 27), .call true 361 [.t 25, .t 26], []⟩,
       ⟨none, (some 6), .stV 6 none 144 (.t 27), []⟩,
       ⟨none, (some 7), .mov (.c (.int .i64 0)), []⟩])
     .ret)))
def c135 : Fn := { np := 3, nt := 28, kind := .pure, res := [.v 6 144 true, .t 7], body := k135 }

/- spec.LightOf -/
def b145_1 : Cd :=
  (.seq
   (.seq
    (.reg [20] [
      ⟨none, (some 17), .mov (.t 7), []⟩,
      ⟨none, (some 18), .mov (.t 0), []⟩,
      ⟨none, (some 19), .len (.t 18), []⟩,
      ⟨none, (some 20), .bin .lss (.t 17) (.t 19), []⟩])
    (.cond (.t 20)
     .skip
     (.exit 0)))
   (.seq
    (.block 1
     (.reg [6] [
       ⟨none, (some 23), .ldV 6 none 144 true, []⟩,
       ⟨none, (some 24), .mov (.t 0), []⟩,
       ⟨none, (some 25), .mov (.t 7), []⟩,
       ⟨none, (some 26), .idxA 12 (.t 24) (.t 25), []⟩,
       ⟨none, (some 27), .mov (.t 1), []⟩,
       ⟨none, (some 28), .call true 360 [.t 23, .t 26, .t 27], []⟩,
       ⟨none, (some 6), .stV 6 none 144 (.t 28), []⟩]))
    (.reg [7] [
      ⟨none, (some 21), .mov (.t 7), []⟩,
      ⟨none, (some 22), .bin .add (.t 21) (.c (.int .i64 1)), []⟩,
      ⟨none, (some 7), .mov (.t 22), []⟩])))
def k145 : Cd :=
  (.seq
   (.reg [4, 5] [
     ⟨none, (some 4), .zero true (zs 144 (.int .i16 0)), []⟩,
     ⟨none, (some 5), .mov (.c (.int .i64 0)), []⟩])
   (.seq
    (.seq
     (.reg [10] [
       ⟨none, (some 8), .mov (.t 0), []⟩,
       ⟨none, (some 9), .call true 318 [.t 8], []⟩,
       ⟨none, (some 10), .un .not (.t 9), []⟩])
     (.cond (.t 10)
      (.seq
       (.reg [4, 5] [
         ⟨none, (some 11), .agg (zs 144 (.int .i16 0)) [], []⟩,
         ⟨none, (some 4), .stV 4 none 144 (.t 11), []⟩,
         ⟨none, (some 5), .mov (.c (.int .i64 1)), []⟩])
       .ret)
      .skip))
    (.seq
     (.seq
      (.reg [14] [
        ⟨none, (some 12), .mov (.t 1), []⟩,
        ⟨none, (some 13), .call true 299 [.t 12], []⟩,
        ⟨none, (some 14), .un .not (.t 13), []⟩])
      (.cond (.t 14)
       (.seq
        (.reg [4, 5] [
          ⟨none, (some 15), .agg (zs 144 (.int .i16 0)) [], []⟩,
          ⟨none, (some 4), .stV 4 none 144 (.t 15), []⟩,
          ⟨none, (some 5), .mov (.c (.int .i64 2)), []⟩])
        .ret)
       .skip))
     (.seq
      (.reg [6] [
        ⟨none, (some 16), .agg (zs 144 (.int .i16 0)) [], []⟩,
        ⟨none, (some 6), .zero true (zs 144 (.int .i16 0)), []⟩,
        ⟨none, (some 6), .stV 6 none 144 (.t 16), []⟩])
      (.seq
       (.seq
        (.reg [7] [
          ⟨none, (some 7), .mov (.c (.int .i64 0)), []⟩])
        (.block 0
         (.loop b145_1)))
       (.seq
        (.reg [4, 5] [
          ⟨none, (some 29), .ldV 6 none 144 true, []⟩,
          ⟨none, (some 4), .stV 4 none 144 (.t 29), []⟩,
          ⟨none, (some 5), .mov (.c (.int .i64 0)), []⟩])
        .ret))))))
def c145 : Fn := { np := 2, nt := 30, kind := .pure, res := [.v 4 144 true, .t 5], body := k145 }

/- impl.LightOf -/
def b146_1 : Cd :=
  (.seq
   (.reg [23] [
     ⟨none, (some 23), .bin .lss (.t 22) (.t 21), []⟩])
   (.seq
    (.cond (.t 23)
     .skip
     (.exit 1))
    (.seq
     (.block 2
      (.seq
       (.reg [8] [
         ⟨none, (some 24), .idxA 12 (.t 20) (.t 22), []⟩,
         ⟨none, (some 25), .ld 12 true (.t 24), []⟩,
         ⟨none, (some 8), .zero true (zs 12 (.int .u16 0)), []⟩,
         ⟨none, (some 8), .stV 8 none 12 (.t 25), []⟩])
       (.reg [6] [
         ⟨none, (some 26), .ldV 6 none 144 true, []⟩,
         ⟨none, (some 27), .mov (.t 1), []⟩,
         ⟨none, (some 29), .ldV 8 none 12 true, []⟩,
         ⟨none, (some 28), .call true 302 [.t 26, .t 27], []⟩,
         ⟨none, (some 30), .call true 361 [.t 28, .t 29], []⟩,
         ⟨none, (some 6), .stV 6 none 144 (.t 30), []⟩])))
     (.reg [22] [
       ⟨none, (some 31), .bin .add (.t 22) (.c (.int .i64 1)), []⟩,
       ⟨none, (some 22), .mov (.t 31), []⟩]))))
def k146 : Cd :=
  (.seq
   (.reg [4, 5] [
     ⟨none, (some 4), .zero true (zs 144 (.int .i16 0)), []⟩,
     ⟨none, (some 5), .mov (.c (.int .i64 0)), []⟩])
   (.seq
    (.block 0
     (.seq
      (.reg [9] [
        ⟨none, (some 10), .mov (.t 0), []⟩,
        ⟨none, (some 11), .call true 316 [.t 10], []⟩,
        ⟨none, (some 12), .un .not (.t 11), []⟩,
        ⟨none, (some 9), .mov (.t 12), []⟩])
      (.cond (.t 9)
       (.seq
        (.reg [4, 5] [
          ⟨none, (some 13), .agg (zs 144 (.int .i16 0)) [], []⟩,
          ⟨none, (some 4), .stV 4 none 144 (.t 13), []⟩,
          ⟨none, (some 5), .mov (.c (.int .i64 1)), []⟩])
        .ret)
       (.seq
        (.reg [14] [
          ⟨none, (some 15), .mov (.t 1), []⟩,
          ⟨none, (some 16), .call true 301 [.t 15], []⟩,
          ⟨none, (some 17), .un .not (.t 16), []⟩,
          ⟨none, (some 14), .mov (.t 17), []⟩])
        (.cond (.t 14)
         (.seq
          (.reg [4, 5] [
            ⟨none, (some 18), .agg (zs 144 (.int .i16 0)) [], []⟩,
            ⟨none, (some 4), .stV 4 none 144 (.t 18), []⟩,
            ⟨none, (some 5), .mov (.c (.int .i64 2)), []⟩])
          .ret)
         .skip)))))
    (.seq
     (.reg [6] [
       ⟨none, (some 19), .agg (zs 144 (.int .i16 0)) [], []⟩,
       ⟨none, (some 6), .zero true (zs 144 (.int .i16 0)), []⟩,
       ⟨none, (some 6), .stV 6 none 144 (.t 19), []⟩])
     (.seq
      (.seq
       (.reg [20, 21, 22] [
         ⟨none, (some 20), .mov (.t 0), []⟩,
         ⟨none, (some 21), .len (.t 20), []⟩,
         ⟨none, (some 22), .mov (.c (.int .i64 0)), []⟩])
       (.block 1
        (.loop b146_1)))
      (.seq
       (.reg [4, 5] [
         ⟨none, (some 32), .ldV 6 none 144 true, []⟩,
         ⟨none, (some 4), .stV 4 none 144 (.t 32), []⟩,
         ⟨none, (some 5), .mov (.c (.int .i64 0)), []⟩])
       .ret)))))
def c146 : Fn := { np := 2, nt := 33, kind := .pure, res := [.v 4 144 true, .t 5], body := k146 }

/- spec.A2Light -/
def k200 : Cd :=
  (.seq
   (.reg [2] [
     ⟨none, (some 2), .zero true (zs 144 (.int .i16 0)), []⟩])
   (.seq
    (.reg [2] [
      ⟨none, (some 3), .mov (.t 0), []⟩,
      ⟨none, (some 4), .call true 315 [.t 3], []⟩,
      ⟨none, (some 5), .call false 417 [.t 4], []⟩,
      ⟨none, (some 2), .stV 2 none 144 (.t 5), []⟩])
    .ret))
def c200 : Fn := { np := 1, nt := 6, kind := .pure, res := [.v 2 144 true], body := k200 }

/- spec.InvertFrame -/
def b201_1 : Cd :=
  (.seq
   (.seq
    (.reg [9] [
      ⟨none, (some 8), .mov (.t 4), []⟩,
      ⟨none, (some 9), .bin .lss (.t 8) (.c (.int .i64 12)), []⟩])
    (.cond (.t 9)
     .skip
     (.exit 0)))
   (.seq
    (.block 1
     (.reg [] [
       ⟨none, (some 12), .mov (.t 4), []⟩,
       ⟨none, (some 13), .mov (.t 4), []⟩,
       ⟨none, (some 14), .idxP 12 1 (.t 1) (.t 13), []⟩,
       ⟨none, (some 15), .ld 1 false (.t 14), []⟩,
       ⟨none, (some 16), .bin .sub (.c (.int .u16 4095)) (.t 15), []⟩,
       ⟨none, (some 17), .idxP 12 1 (.t 1) (.t 12), []⟩,
       ⟨none, none, .st 1 (.t 17) (.t 16), []⟩]))
    (.reg [4] [
      ⟨none, (some 10), .mov (.t 4), []⟩,
      ⟨none, (some 11), .bin .add (.t 10) (.c (.int .i64 1)), []⟩,
      ⟨none, (some 4), .mov (.t 11), []⟩])))
def k201 : Cd :=
  (.seq
   (.reg [1, 2, 3] [
     ⟨none, (some 1), .box 12 (.t 0), []⟩,
     ⟨none, (some 2), .zero true (zs 12 (.int .u16 0)), []⟩,
     ⟨none, (some 3), .mov (.c (.int .i64 0)), []⟩])
   (.seq
    (.seq
     (.reg [6] [
       ⟨none, (some 5), .call true 359 [.t 1], []⟩,
       ⟨none, (some 6), .un .not (.t 5), []⟩])
     (.cond (.t 6)
      (.seq
       (.reg [2, 3] [
         ⟨none, (some 7), .agg (zs 12 (.int .u16 0)) [], []⟩,
         ⟨none, (some 2), .stV 2 none 12 (.t 7), []⟩,
         ⟨none, (some 3), .mov (.c (.int .i64 1)), []⟩])
       .ret)
      .skip))
    (.seq
     (.seq
      (.reg [4] [
        ⟨none, (some 4), .mov (.c (.int .i64 0)), []⟩])
      (.block 0
       (.loop b201_1)))
     (.seq
      (.reg [2, 3] [
        ⟨none, (some 18), .ld 12 true (.t 1), []⟩,
        ⟨none, (some 2), .stV 2 none 12 (.t 18), []⟩,
        ⟨none, (some 3), .mov (.c (.int .i64 0)), []⟩])
      .ret))))
def c201 : Fn := { np := 1, nt := 19, kind := .pure, res := [.v 2 12 true, .t 3], body := k201 }

/- spec.LessFrame -/
def k202 : Cd :=
  (.seq
   (.reg [2, 3, 4, 5] [
     ⟨none, (some 2), .box 12 (.t 0), []⟩,
     ⟨none, (some 3), .box 12 (.t 1), []⟩,
     ⟨none, (some 4), .zero true (zs 12 (.int .u16 0)), []⟩,
     ⟨none, (some 5), .mov (.c (.int .i64 0)), []⟩])
   (.seq
    (.seq
     (.reg [6] [
       ⟨none, (some 7), .call true 327 [.t 2, .t 3], []⟩,
       ⟨none, (some 6), .mov (.t 7), []⟩])
     (.seq
      (.reg [9] [
        ⟨none, (some 8), .mov (.t 6), []⟩,
        ⟨none, (some 9), .bin .neq (.t 8) (.c (.int .i64 0)), []⟩])
      (.cond (.t 9)
       (.seq
        (.reg [4, 5] [
          ⟨none, (some 10), .agg (zs 12 (.int .u16 0)) [], []⟩,
          ⟨none, (some 11), .mov (.t 6), []⟩,
          ⟨none, (some 4), .stV 4 none 12 (.t 10), []⟩,
          ⟨none, (some 5), .mov (.t 11), []⟩])
        .ret)
       .skip)))
    (.seq
     (.reg [4, 5] [
       ⟨none, (some 12), .call true 349 [.t 2, .t 3], []⟩,
       ⟨none, (some 4), .stV 4 none 12 (.t 12), []⟩,
       ⟨none, (some 5), .mov (.c (.int .i64 0)), []⟩])
     .ret)))
def c202 : Fn := { np := 2, nt := 13, kind := .pure, res := [.v 4 12 true, .t 5], body := k202 }

/- impl.ValidFrame -/
def k234 : Cd :=
  (.seq
   (.reg [1, 2] [
     ⟨none, (some 1), .box 12 (.t 0), []⟩,
     ⟨none, (some 2), .mov (.c (.bool false)), []⟩])
   (.seq
    (.reg [2] [
      ⟨none, (some 3), .slcP 12 1 (.t 1), []⟩,
      ⟨none, (some 4), .call true 445 [.t 3, .f 446], []⟩,
      ⟨none, (some 5), .un .not (.t 4), []⟩,
      ⟨none, (some 2), .mov (.t 5), []⟩])
    .ret))
def c234 : Fn := { np := 1, nt := 6, kind := .pure, res := [.t 2], body := k234 }

/- spec.l07Ok -/
def b291_1 : Cd :=
  (.seq
   (.seq
    (.reg [10] [
      ⟨none, (some 9), .mov (.t 4), []⟩,
      ⟨none, (some 10), .bin .lss (.t 9) (.c (.int .i64 12)), []⟩])
    (.cond (.t 10)
     .skip
     (.exit 2)))
   (.seq
    (.block 3
     (.seq
      (.reg [22] [
        ⟨none, (some 13), .mov (.t 0), []⟩,
        ⟨none, (some 14), .mov (.t 3), []⟩,
        ⟨none, (some 15), .mov (.t 4), []⟩,
        ⟨none, (some 16), .nil (.t 13), []⟩,
        ⟨none, (some 17), .idxP 12 12 (.t 16) (.t 14), []⟩,
        ⟨none, (some 18), .idxP 12 1 (.t 17) (.t 15), []⟩,
        ⟨none, (some 19), .ld 1 false (.t 18), []⟩,
        ⟨none, (some 20), .conv .i64 (.t 19), []⟩,
        ⟨none, (some 21), .call true 304 [.t 20, .c (.int .i64 0), .c (.int .i64 1000)], []⟩,
        ⟨none, (some 22), .un .not (.t 21), []⟩])
      (.cond (.t 22)
       (.seq
        (.reg [2] [
          ⟨none, (some 2), .mov (.c (.bool false)), []⟩])
        .ret)
       .skip)))
    (.reg [4] [
      ⟨none, (some 11), .mov (.t 4), []⟩,
      ⟨none, (some 12), .bin .add (.t 11) (.c (.int .i64 1)), []⟩,
      ⟨none, (some 4), .mov (.t 12), []⟩])))
def b291_2 : Cd :=
  (.seq
   (.seq
    (.reg [6] [
      ⟨none, (some 5), .mov (.t 3), []⟩,
      ⟨none, (some 6), .bin .lss (.t 5) (.c (.int .i64 12)), []⟩])
    (.cond (.t 6)
     .skip
     (.exit 0)))
   (.seq
    (.block 1
     (.seq
      (.reg [4] [
        ⟨none, (some 4), .mov (.c (.int .i64 0)), []⟩])
      (.block 2
       (.loop b291_1))))
    (.reg [3] [
      ⟨none, (some 7), .mov (.t 3), []⟩,
      ⟨none, (some 8), .bin .add (.t 7) (.c (.int .i64 1)), []⟩,
      ⟨none, (some 3), .mov (.t 8), []⟩])))
def k291 : Cd :=
  (.seq
   (.reg [2] [
     ⟨none, (some 2), .mov (.c (.bool false)), []⟩])
   (.seq
    (.seq
     (.reg [3] [
       ⟨none, (some 3), .mov (.c (.int .i64 0)), []⟩])
     (.block 0
      (.loop b291_2)))
    (.seq
     (.reg [2] [
       ⟨none, (some 2), .mov (.c (.bool true)), []⟩])
     .ret)))
def c291 : Fn := { np := 1, nt := 23, kind := .pure, res := [.t 2], body := k291 }

/- slices.ContainsFunc[[]int16,int16] -/
def k293 : Cd :=
  (.seq
   (.reg [4] [
     ⟨none, (some 4), .mov (.c (.bool false)), []⟩])
   (.seq
    (.reg [4] [
      ⟨none, (some 5), .mov (.t 0), []⟩,
      ⟨none, (some 6), .mov (.t 1), []⟩,
      ⟨none, (some 7), .call true 487 [.t 5, .t 6], []⟩,
      ⟨none, (some 8), .bin .geq (.t 7) (.c (.int .i64 0)), []⟩,
      ⟨none, (some 4), .mov (.t 8), []⟩])
    .ret))
def c293 : Fn := { np := 2, nt := 9, kind := .pure, res := [.t 4], body := k293 }

/- impl.ValidLight$1 -/
def k294 : Cd :=
  (.seq
   (.reg [2] [
     ⟨none, (some 2), .mov (.c (.bool false)), []⟩])
   (.seq
    (.reg [2] [
      ⟨none, (some 3), .mov (.t 0), []⟩,
      ⟨none, (some 4), .conv .i64 (.t 3), []⟩,
      ⟨none, (some 5), .call true 295 [.t 4, .c (.int .i64 0), .c (.int .i64 1000)], []⟩,
      ⟨none, (some 6), .un .not (.t 5), []⟩,
      ⟨none, (some 2), .mov (.t 6), []⟩])
    .ret))
def c294 : Fn := { np := 1, nt := 7, kind := .pure, res := [.t 2], body := k294 }

/- impl.inRange -/
def k295 : Cd :=
  (.seq
   (.reg [6] [
     ⟨none, (some 6), .mov (.c (.bool false)), []⟩])
   (.seq
    (.reg [6] [
      ⟨none, (some 7), .mov (.t 1), []⟩,
      ⟨none, (some 8), .mov (.t 0), []⟩,
      ⟨none, (some 9), .bin .leq (.t 7) (.t 8), []⟩,
      ⟨none, (some 10), .mov (.t 9), []⟩,
      ⟨(some (10, true)), (some 11), .mov (.t 0), []⟩,
      ⟨(some (10, true)), (some 12), .mov (.t 2), []⟩,
      ⟨(some (10, true)), (some 13), .bin .leq (.t 11) (.t 12), []⟩,
      ⟨none, (some 14), .pick (.t 10) (.t 13) (.c (.bool false)), []⟩,
      ⟨none, (some 6), .mov (.t 14), []⟩])
    .ret))
def c295 : Fn := { np := 3, nt := 15, kind := .pure, res := [.t 6], body := k295 }

/- spec.l07Keep -/
def k299 : Cd :=
  (.seq
   (.reg [2] [
     ⟨none, (some 2), .mov (.c (.bool false)), []⟩])
   (.seq
    (.reg [2] [
      ⟨none, (some 3), .mov (.t 0), []⟩,
      ⟨none, (some 4), .call true 304 [.t 3, .c (.int .i64 0), .c (.int .i64 8)], []⟩,
      ⟨none, (some 2), .mov (.t 4), []⟩])
    .ret))
def c299 : Fn := { np := 1, nt := 5, kind := .pure, res := [.t 2], body := k299 }

/- spec.l07Fade -/
def b300_1 : Cd :=
  (.seq
   (.seq
    (.reg [12] [
      ⟨none, (some 11), .mov (.t 6), []⟩,
      ⟨none, (some 12), .bin .lss (.t 11) (.c (.int .i64 12)), []⟩])
    (.cond (.t 12)
     .skip
     (.exit 2)))
   (.seq
    (.block 3
     (.reg [2] [
       ⟨none, (some 15), .mov (.t 5), []⟩,
       ⟨none, (some 16), .mov (.t 6), []⟩,
       ⟨none, (some 17), .mov (.t 5), []⟩,
       ⟨none, (some 18), .mov (.t 6), []⟩,
       ⟨none, (some 19), .adrI 2 none 12 12 (.t 17), []⟩,
       ⟨none, (some 20), .adrI 2 (some 19) 12 1 (.t 18), []⟩,
       ⟨none, (some 21), .ldV 2 (some 20) 1 false, []⟩,
       ⟨none, (some 22), .conv .i64 (.t 21), []⟩,
       ⟨none, (some 23), .mov (.t 1), []⟩,
       ⟨none, (some 24), .bin .mul (.t 22) (.t 23), []⟩,
       ⟨none, (some 25), .bin .quo (.t 24) (.c (.int .i64 8)), []⟩,
       ⟨none, (some 26), .conv .i16 (.t 25), []⟩,
       ⟨none, (some 27), .adrI 2 none 12 12 (.t 15), []⟩,
       ⟨none, (some 28), .adrI 2 (some 27) 12 1 (.t 16), []⟩,
       ⟨none, (some 2), .stV 2 (some 28) 1 (.t 26), []⟩]))
    (.reg [6] [
      ⟨none, (some 13), .mov (.t 6), []⟩,
      ⟨none, (some 14), .bin .add (.t 13) (.c (.int .i64 1)), []⟩,
      ⟨none, (some 6), .mov (.t 14), []⟩])))
def b300_2 : Cd :=
  (.seq
   (.seq
    (.reg [8] [
      ⟨none, (some 7), .mov (.t 5), []⟩,
      ⟨none, (some 8), .bin .lss (.t 7) (.c (.int .i64 12)), []⟩])
    (.cond (.t 8)
     .skip
     (.exit 0)))
   (.seq
    (.block 1
     (.seq
      (.reg [6] [
        ⟨none, (some 6), .mov (.c (.int .i64 0)), []⟩])
      (.block 2
       (.loop b300_1))))
    (.reg [5] [
      ⟨none, (some 9), .mov (.t 5), []⟩,
      ⟨none, (some 10), .bin .add (.t 9) (.c (.int .i64 1)), []⟩,
      ⟨none, (some 5), .mov (.t 10), []⟩])))
def k300 : Cd :=
  (.seq
   (.reg [2, 4] [
     ⟨none, (some 2), .mov (.t 0), []⟩,
     ⟨none, (some 4), .zero true (zs 144 (.int .i16 0)), []⟩])
   (.seq
    (.seq
     (.reg [5] [
       ⟨none, (some 5), .mov (.c (.int .i64 0)), []⟩])
     (.block 0
      (.loop b300_2)))
    (.seq
     (.reg [4] [
       ⟨none, (some 29), .ldV 2 none 144 true, []⟩,
       ⟨none, (some 4), .stV 4 none 144 (.t 29), []⟩])
     .ret)))
def c300 : Fn := { np := 2, nt := 30, kind := .pure, res := [.v 4 144 true], body := k300 }

/- impl.isKeep -/
def k301 : Cd :=
  (.seq
   (.reg [2] [
     ⟨none, (some 2), .mov (.c (.bool false)), []⟩])
   (.seq
    (.reg [2] [
      ⟨none, (some 3), .mov (.t 0), []⟩,
      ⟨none, (some 4), .call true 295 [.t 3, .c (.int .i64 0), .c (.int .i64 8)], []⟩,
      ⟨none, (some 2), .mov (.t 4), []⟩])
    .ret))
def c301 : Fn := { np := 1, nt := 5, kind := .pure, res := [.t 2], body := k301 }

/- (impl.Light).faded -/
def b302_1 : Cd :=
  (.seq
   (.reg [15] [
     ⟨none, (some 15), .bin .lss (.t 14) (.c (.int .i64 12)), []⟩])
   (.seq
    (.cond (.t 15)
     .skip
     (.exit 2))
    (.seq
     (.block 3
      (.seq
       (.reg [6, 7] [
         ⟨none, (some 16), .mov (.t 14), []⟩,
         ⟨none, (some 17), .idx 12 1 false (.t 13) (.t 14), []⟩,
         ⟨none, (some 6), .mov (.t 16), []⟩,
         ⟨none, (some 7), .mov (.t 17), []⟩])
       (.reg [2] [
         ⟨none, (some 18), .mov (.t 5), []⟩,
         ⟨none, (some 19), .mov (.t 6), []⟩,
         ⟨none, (some 20), .mov (.t 7), []⟩,
         ⟨none, (some 21), .conv .i64 (.t 20), []⟩,
         ⟨none, (some 22), .mov (.t 1), []⟩,
         ⟨none, (some 23), .bin .mul (.t 21) (.t 22), []⟩,
         ⟨none, (some 24), .bin .quo (.t 23) (.c (.int .i64 8)), []⟩,
         ⟨none, (some 25), .conv .i16 (.t 24), []⟩,
         ⟨none, (some 26), .adrI 2 none 12 12 (.t 18), []⟩,
         ⟨none, (some 27), .adrI 2 (some 26) 12 1 (.t 19), []⟩,
         ⟨none, (some 2), .stV 2 (some 27) 1 (.t 25), []⟩])))
     (.reg [14] [
       ⟨none, (some 28), .bin .add (.t 14) (.c (.int .i64 1)), []⟩,
       ⟨none, (some 14), .mov (.t 28), []⟩]))))
def b302_2 : Cd :=
  (.seq
   (.reg [9] [
     ⟨none, (some 9), .bin .lss (.t 8) (.c (.int .i64 12)), []⟩])
   (.seq
    (.cond (.t 9)
     .skip
     (.exit 0))
    (.seq
     (.block 1
      (.seq
       (.reg [5] [
         ⟨none, (some 10), .mov (.t 8), []⟩,
         ⟨none, (some 5), .mov (.t 10), []⟩])
       (.seq
        (.reg [13, 14] [
          ⟨none, (some 11), .mov (.t 5), []⟩,
          ⟨none, (some 12), .adrI 2 none 12 12 (.t 11), []⟩,
          ⟨none, (some 13), .ldV 2 (some 12) 12 true, []⟩,
          ⟨none, (some 14), .mov (.c (.int .i64 0)), []⟩])
        (.block 2
         (.loop b302_1)))))
     (.reg [8] [
       ⟨none, (some 29), .bin .add (.t 8) (.c (.int .i64 1)), []⟩,
       ⟨none, (some 8), .mov (.t 29), []⟩]))))
def k302 : Cd :=
  (.seq
   (.reg [2, 4] [
     ⟨none, (some 2), .mov (.t 0), []⟩,
     ⟨none, (some 4), .zero true (zs 144 (.int .i16 0)), []⟩])
   (.seq
    (.seq
     (.reg [8] [
       ⟨none, (some 8), .mov (.c (.int .i64 0)), []⟩])
     (.block 0
      (.loop b302_2)))
    (.seq
     (.reg [4] [
       ⟨none, (some 30), .ldV 2 none 144 true, []⟩,
       ⟨none, (some 4), .stV 4 none 144 (.t 30), []⟩])
     .ret)))
def c302 : Fn := { np := 2, nt := 31, kind := .pure, res := [.v 4 144 true], body := k302 }

/- spec.l00In -/
def k304 : Cd :=
  (.seq
   (.reg [6] [
     ⟨none, (some 6), .mov (.c (.bool false)), []⟩])
   (.seq
    (.reg [6] [
      ⟨none, (some 7), .mov (.t 0), []⟩,
      ⟨none, (some 8), .mov (.t 1), []⟩,
      ⟨none, (some 9), .bin .geq (.t 7) (.t 8), []⟩,
      ⟨none, (some 10), .mov (.t 9), []⟩,
      ⟨(some (10, true)), (some 11), .mov (.t 0), []⟩,
      ⟨(some (10, true)), (some 12), .mov (.t 2), []⟩,
      ⟨(some (10, true)), (some 13), .bin .leq (.t 11) (.t 12), []⟩,
      ⟨none, (some 14), .pick (.t 10) (.t 13) (.c (.bool false)), []⟩,
      ⟨none, (some 6), .mov (.t 14), []⟩])
    .ret))
def c304 : Fn := { np := 3, nt := 15, kind := .pure, res := [.t 6], body := k304 }

/- spec.l01Put -/
def k305 : Cd :=
  (.seq
   (.reg [8] [
     ⟨none, (some 6), .mov (.t 1), []⟩,
     ⟨none, (some 7), .mov (.t 2), []⟩,
     ⟨none, (some 8), .call true 342 [.t 6, .t 7], []⟩])
   (.cond (.t 8)
    (.reg [] [
      ⟨none, (some 9), .mov (.t 0), []⟩,
      ⟨none, (some 10), .mov (.t 2), []⟩,
      ⟨none, (some 11), .mov (.t 0), []⟩,
      ⟨none, (some 12), .mov (.t 2), []⟩,
      ⟨none, (some 13), .nil (.t 11), []⟩,
      ⟨none, (some 14), .idxP 12 1 (.t 13) (.t 12), []⟩,
      ⟨none, (some 15), .ld 1 false (.t 14), []⟩,
      ⟨none, (some 16), .mov (.t 1), []⟩,
      ⟨none, (some 17), .conv .u64 (.t 16), []⟩,
      ⟨none, (some 18), .bin .shl (.c (.int .u16 1)) (.t 17), []⟩,
      ⟨none, (some 19), .bin .or (.t 15) (.t 18), []⟩,
      ⟨none, (some 20), .nil (.t 9), []⟩,
      ⟨none, (some 21), .idxP 12 1 (.t 20) (.t 10), []⟩,
      ⟨none, none, .st 1 (.t 21) (.t 19), []⟩])
    .skip))
def c305 : Fn := { np := 3, nt := 22, kind := .args, res := [], body := k305 }

/- impl.where -/
def b306_1 : Cd :=
  (.seq
   (.reg [11] [
     ⟨none, (some 11), .bin .lss (.t 10) (.c (.int .i64 12)), []⟩])
   (.seq
    (.cond (.t 11)
     .skip
     (.exit 2))
    (.seq
     (.block 3
      (.seq
       (.reg [5] [
         ⟨none, (some 12), .mov (.t 10), []⟩,
         ⟨none, (some 5), .mov (.t 12), []⟩])
       (.seq
        (.reg [16] [
          ⟨none, (some 13), .mov (.t 0), []⟩,
          ⟨none, (some 14), .mov (.t 5), []⟩,
          ⟨none, (some 15), .mov (.t 4), []⟩,
          ⟨none, (some 16), .callv (.t 13) [.t 14, .t 15], []⟩])
        (.cond (.t 16)
         (.reg [3] [
           ⟨none, (some 17), .ldV 3 none 12 true, []⟩,
           ⟨none, (some 18), .mov (.t 5), []⟩,
           ⟨none, (some 19), .mov (.t 4), []⟩,
           ⟨none, (some 20), .call true 346 [.t 17, .t 18, .t 19], []⟩,
           ⟨none, (some 3), .stV 3 none 12 (.t 20), []⟩])
         .skip))))
     (.reg [10] [
       ⟨none, (some 21), .bin .add (.t 10) (.c (.int .i64 1)), []⟩,
       ⟨none, (some 10), .mov (.t 21), []⟩]))))
def b306_2 : Cd :=
  (.seq
   (.reg [8] [
     ⟨none, (some 8), .bin .lss (.t 7) (.c (.int .i64 12)), []⟩])
   (.seq
    (.cond (.t 8)
     .skip
     (.exit 0))
    (.seq
     (.block 1
      (.seq
       (.reg [4] [
         ⟨none, (some 9), .mov (.t 7), []⟩,
         ⟨none, (some 4), .mov (.t 9), []⟩])
       (.seq
        (.reg [10] [
          ⟨none, (some 10), .mov (.c (.int .i64 0)), []⟩])
        (.block 2
         (.loop b306_1)))))
     (.reg [7] [
       ⟨none, (some 22), .bin .add (.t 7) (.c (.int .i64 1)), []⟩,
       ⟨none, (some 7), .mov (.t 22), []⟩]))))
def k306 : Cd :=
  (.seq
   (.reg [2] [
     ⟨none, (some 2), .zero true (zs 12 (.int .u16 0)), []⟩])
   (.seq
    (.reg [3] [
      ⟨none, (some 6), .agg (zs 12 (.int .u16 0)) [], []⟩,
      ⟨none, (some 3), .zero true (zs 12 (.int .u16 0)), []⟩,
      ⟨none, (some 3), .stV 3 none 12 (.t 6), []⟩])
    (.seq
     (.seq
      (.reg [7] [
        ⟨none, (some 7), .mov (.c (.int .i64 0)), []⟩])
      (.block 0
       (.loop b306_2)))
     (.seq
      (.reg [2] [
        ⟨none, (some 23), .ldV 3 none 12 true, []⟩,
        ⟨none, (some 2), .stV 2 none 12 (.t 23), []⟩])
      .ret))))
def c306 : Fn := { np := 1, nt := 24, kind := .pure, res := [.v 2 12 true], body := k306 }

/- impl.SeenAt$1 -/
def k307 : Cd :=
  (.seq
   (.reg [6] [
     ⟨none, (some 6), .mov (.c (.bool false)), []⟩])
   (.seq
    (.reg [6] [
      ⟨none, (some 7), .mov (.t 1), []⟩,
      ⟨none, (some 8), .mov (.t 0), []⟩,
      ⟨none, (some 9), .idxP 12 12 (.t 2) (.t 7), []⟩,
      ⟨none, (some 10), .idxP 12 1 (.t 9) (.t 8), []⟩,
      ⟨none, (some 11), .ld 1 false (.t 10), []⟩,
      ⟨none, (some 12), .conv .i64 (.t 11), []⟩,
      ⟨none, (some 13), .ld 1 false (.t 3), []⟩,
      ⟨none, (some 14), .bin .geq (.t 12) (.t 13), []⟩,
      ⟨none, (some 6), .mov (.t 14), []⟩])
    .ret))
def c307 : Fn := { np := 4, nt := 15, kind := .pure, res := [.t 6], body := k307 }

/- spec.l02Drawn -/
def b314_1 : Cd :=
  (.seq
   (.seq
    (.reg [16] [
      ⟨none, (some 15), .mov (.t 7), []⟩,
      ⟨none, (some 16), .bin .gtr (.t 15) (.c (.int .i64 0)), []⟩])
    (.cond (.t 16)
     .skip
     (.exit 0)))
   (.seq
    (.block 1
     (.seq
      (.seq
       (.reg [20] [
         ⟨none, (some 19), .mov (.t 0), []⟩,
         ⟨none, (some 20), .call false 459 [.t 19, .c (.int .i64 5)], []⟩])
       (.block 2
        (.seq
         (.reg [28] [
           ⟨none, (some 29), .bin .eql (.t 20) (.c (.int .i64 0)), []⟩,
           ⟨none, (some 28), .mov (.t 29), []⟩])
         (.cond (.t 28)
          (.reg [] [
            ⟨none, (some 30), .mov (.t 0), []⟩,
            ⟨none, (some 31), .call false 368 [.t 30], []⟩,
            ⟨none, none, .st 12 (.t 6) (.t 31), []⟩])
          (.seq
           (.reg [32] [
             ⟨none, (some 33), .bin .eql (.t 20) (.c (.int .i64 1)), []⟩,
             ⟨none, (some 32), .mov (.t 33), []⟩])
           (.cond (.t 32)
            .skip
            (.seq
             (.reg [34] [
               ⟨none, (some 35), .bin .eql (.t 20) (.c (.int .i64 2)), []⟩,
               ⟨none, (some 34), .mov (.t 35), []⟩])
             (.cond (.t 34)
              (.seq
               (.reg [38] [
                 ⟨none, (some 36), .mov (.t 5), []⟩,
                 ⟨none, (some 37), .len (.t 36), []⟩,
                 ⟨none, (some 38), .bin .gtr (.t 37) (.c (.int .i64 0)), []⟩])
               (.cond (.t 38)
                (.reg [] [
                  ⟨none, (some 39), .mov (.t 5), []⟩,
                  ⟨none, (some 40), .mov (.t 0), []⟩,
                  ⟨none, (some 41), .mov (.t 5), []⟩,
                  ⟨none, (some 42), .len (.t 41), []⟩,
                  ⟨none, (some 43), .call false 459 [.t 40, .t 42], []⟩,
                  ⟨none, (some 44), .idxA 12 (.t 39) (.t 43), []⟩,
                  ⟨none, (some 45), .ld 12 true (.t 44), []⟩,
                  ⟨none, none, .st 12 (.t 6) (.t 45), []⟩])
                .skip))
              (.reg [] [
                ⟨none, (some 21), .mov (.t 0), []⟩,
                ⟨none, (some 22), .call false 459 [.t 21, .c (.int .i64 3)], []⟩,
                ⟨none, (some 23), .bin .sub (.t 22) (.c (.int .i64 1)), []⟩,
                ⟨none, (some 24), .mov (.t 0), []⟩,
                ⟨none, (some 25), .call false 459 [.t 24, .c (.int .i64 3)], []⟩,
                ⟨none, (some 26), .bin .sub (.t 25) (.c (.int .i64 1)), []⟩,
                ⟨none, (some 27), .call true 355 [.t 6, .t 23, .t 26], []⟩,
                ⟨none, none, .st 12 (.t 6) (.t 27), []⟩])))))))))
      (.reg [5] [
        ⟨none, (some 46), .mov (.t 5), []⟩,
        ⟨none, (some 47), .ld 12 true (.t 6), []⟩,
        ⟨none, (some 48), .bldS 12 1 (zs 12 (.int .u16 0)) [(0, 12, (.t 47))], []⟩,
        ⟨none, (some 49), .app 12 24 (.t 46) (.t 48), []⟩,
        ⟨none, (some 5), .mov (.t 49), []⟩])))
    (.reg [7] [
      ⟨none, (some 17), .mov (.t 7), []⟩,
      ⟨none, (some 18), .bin .sub (.t 17) (.c (.int .i64 1)), []⟩,
      ⟨none, (some 7), .mov (.t 18), []⟩])))
def k314 : Cd :=
  (.seq
   (.reg [4] [
     ⟨none, (some 4), .mov (.c (.slice none 0 0)), []⟩])
   (.seq
    (.reg [5] [
      ⟨none, (some 8), .bldS 12 0 (zs 12 (.int .u16 0)) [], []⟩,
      ⟨none, (some 5), .mov (.t 8), []⟩])
    (.seq
     (.reg [6] [
       ⟨none, (some 9), .mov (.t 0), []⟩,
       ⟨none, (some 10), .call false 368 [.t 9], []⟩,
       ⟨none, (some 6), .new 1 (zs 12 (.int .u16 0)), []⟩,
       ⟨none, none, .st 12 (.t 6) (.t 10), []⟩])
     (.seq
      (.seq
       (.reg [7] [
         ⟨none, (some 11), .mov (.t 0), []⟩,
         ⟨none, (some 12), .mov (.t 1), []⟩,
         ⟨none, (some 13), .bin .add (.t 12) (.c (.int .i64 1)), []⟩,
         ⟨none, (some 14), .call false 459 [.t 11, .t 13], []⟩,
         ⟨none, (some 7), .mov (.t 14), []⟩])
       (.block 0
        (.loop b314_1)))
      (.seq
       (.reg [4] [
         ⟨none, (some 50), .mov (.t 5), []⟩,
         ⟨none, (some 4), .mov (.t 50), []⟩])
       .ret)))))
def c314 : Fn := { np := 2, nt := 51, kind := .args, res := [.t 4], body := k314 }

/- spec.l00From -/
def k315 : Cd :=
  (.seq
   (.reg [2] [
     ⟨none, (some 2), .mov (.c (.pointer none)), []⟩])
   (.seq
    (.reg [2] [
      ⟨none, (some 3), .mov (.t 0), []⟩,
      ⟨none, (some 4), .agg [.slice none 0 0, .int .i64 0, .int .u64 0] [(0, 1, (.t 3))], []⟩,
      ⟨none, (some 5), .box 3 (.t 4), []⟩,
      ⟨none, (some 2), .mov (.t 5), []⟩])
    .ret))
def c315 : Fn := { np := 1, nt := 6, kind := .pure, res := [.t 2], body := k315 }

/- impl.ValidBook -/
def k316 : Cd :=
  (.seq
   (.reg [2] [
     ⟨none, (some 2), .mov (.c (.bool false)), []⟩])
   (.seq
    (.reg [2] [
      ⟨none, (some 3), .mov (.t 0), []⟩,
      ⟨none, (some 4), .len (.t 3), []⟩,
      ⟨none, (some 5), .bin .leq (.t 4) (.c (.int .i64 40)), []⟩,
      ⟨none, (some 6), .mov (.t 5), []⟩,
      ⟨(some (6, true)), (some 7), .mov (.t 0), []⟩,
      ⟨(some (6, true)), (some 8), .call true 351 [.t 7], []⟩,
      ⟨none, (some 9), .pick (.t 6) (.t 8) (.c (.bool false)), []⟩,
      ⟨none, (some 2), .mov (.t 9), []⟩])
    .ret))
def c316 : Fn := { np := 1, nt := 10, kind := .pure, res := [.t 2], body := k316 }

/- spec.l02Ok -/
def b318_1 : Cd :=
  (.seq
   (.seq
    (.reg [7] [
      ⟨none, (some 4), .mov (.t 3), []⟩,
      ⟨none, (some 5), .mov (.t 0), []⟩,
      ⟨none, (some 6), .len (.t 5), []⟩,
      ⟨none, (some 7), .bin .lss (.t 4) (.t 6), []⟩])
    (.cond (.t 7)
     .skip
     (.exit 0)))
   (.seq
    (.block 1
     (.seq
      (.reg [14] [
        ⟨none, (some 10), .mov (.t 0), []⟩,
        ⟨none, (some 11), .mov (.t 3), []⟩,
        ⟨none, (some 12), .idxA 12 (.t 10) (.t 11), []⟩,
        ⟨none, (some 13), .call true 359 [.t 12], []⟩,
        ⟨none, (some 14), .un .not (.t 13), []⟩])
      (.cond (.t 14)
       (.seq
        (.reg [2] [
          ⟨none, (some 2), .mov (.c (.bool false)), []⟩])
        .ret)
       .skip)))
    (.reg [3] [
      ⟨none, (some 8), .mov (.t 3), []⟩,
      ⟨none, (some 9), .bin .add (.t 8) (.c (.int .i64 1)), []⟩,
      ⟨none, (some 3), .mov (.t 9), []⟩])))
def k318 : Cd :=
  (.seq
   (.reg [2] [
     ⟨none, (some 2), .mov (.c (.bool false)), []⟩])
   (.seq
    (.seq
     (.reg [3] [
       ⟨none, (some 3), .mov (.c (.int .i64 0)), []⟩])
     (.block 0
      (.loop b318_1)))
    (.seq
     (.reg [2] [
       ⟨none, (some 15), .mov (.t 0), []⟩,
       ⟨none, (some 16), .len (.t 15), []⟩,
       ⟨none, (some 17), .bin .leq (.t 16) (.c (.int .i64 40)), []⟩,
       ⟨none, (some 2), .mov (.t 17), []⟩])
     .ret)))
def c318 : Fn := { np := 1, nt := 18, kind := .pure, res := [.t 2], body := k318 }

/- spec.l01Both -/
def k327 : Cd :=
  (.seq
   (.reg [4] [
     ⟨none, (some 4), .mov (.c (.int .i64 0)), []⟩])
   (.seq
    (.seq
     (.reg [12] [
       ⟨none, (some 5), .mov (.t 0), []⟩,
       ⟨none, (some 6), .call true 359 [.t 5], []⟩,
       ⟨none, (some 7), .un .not (.t 6), []⟩,
       ⟨none, (some 8), .mov (.t 7), []⟩,
       ⟨(some (8, false)), (some 9), .mov (.t 1), []⟩,
       ⟨(some (8, false)), (some 10), .call true 359 [.t 9], []⟩,
       ⟨(some (8, false)), (some 11), .un .not (.t 10), []⟩,
       ⟨none, (some 12), .pick (.t 8) (.c (.bool true)) (.t 11), []⟩])
     (.cond (.t 12)
      (.seq
       (.reg [4] [
         ⟨none, (some 4), .mov (.c (.int .i64 1)), []⟩])
       .ret)
      .skip))
    (.seq
     (.reg [4] [
       ⟨none, (some 4), .mov (.c (.int .i64 0)), []⟩])
     .ret)))
def c327 : Fn := { np := 2, nt := 13, kind := .pure, res := [.t 4], body := k327 }

/- spec.l01Place -/
def k342 : Cd :=
  (.seq
   (.reg [4] [
     ⟨none, (some 4), .mov (.c (.bool false)), []⟩])
   (.seq
    (.reg [4] [
      ⟨none, (some 5), .mov (.t 0), []⟩,
      ⟨none, (some 6), .call true 304 [.t 5, .c (.int .i64 0), .c (.int .i64 11)], []⟩,
      ⟨none, (some 7), .mov (.t 6), []⟩,
      ⟨(some (7, true)), (some 8), .mov (.t 1), []⟩,
      ⟨(some (7, true)), (some 9), .call true 304 [.t 8, .c (.int .i64 0), .c (.int .i64 11)], []⟩,
      ⟨none, (some 10), .pick (.t 7) (.t 9) (.c (.bool false)), []⟩,
      ⟨none, (some 4), .mov (.t 10), []⟩])
    .ret))
def c342 : Fn := { np := 2, nt := 11, kind := .pure, res := [.t 4], body := k342 }

/- impl.isPlace -/
def k345 : Cd :=
  (.seq
   (.reg [4] [
     ⟨none, (some 4), .mov (.c (.bool false)), []⟩])
   (.seq
    (.reg [4] [
      ⟨none, (some 5), .mov (.t 0), []⟩,
      ⟨none, (some 6), .call true 295 [.t 5, .c (.int .i64 0), .c (.int .i64 11)], []⟩,
      ⟨none, (some 7), .mov (.t 6), []⟩,
      ⟨(some (7, true)), (some 8), .mov (.t 1), []⟩,
      ⟨(some (7, true)), (some 9), .call true 295 [.t 8, .c (.int .i64 0), .c (.int .i64 11)], []⟩,
      ⟨none, (some 10), .pick (.t 7) (.t 9) (.c (.bool false)), []⟩,
      ⟨none, (some 4), .mov (.t 10), []⟩])
    .ret))
def c345 : Fn := { np := 2, nt := 11, kind := .pure, res := [.t 4], body := k345 }

/- (impl.Frame).with -/
def k346 : Cd :=
  (.seq
   (.reg [3, 6] [
     ⟨none, (some 3), .mov (.t 0), []⟩,
     ⟨none, (some 6), .zero true (zs 12 (.int .u16 0)), []⟩])
   (.seq
    (.reg [3] [
      ⟨none, (some 7), .mov (.t 2), []⟩,
      ⟨none, (some 8), .adrI 3 none 12 1 (.t 7), []⟩,
      ⟨none, (some 9), .ldV 3 (some 8) 1 false, []⟩,
      ⟨none, (some 10), .mov (.t 1), []⟩,
      ⟨none, (some 11), .bin .shl (.c (.int .u16 1)) (.t 10), []⟩,
      ⟨none, (some 12), .bin .or (.t 9) (.t 11), []⟩,
      ⟨none, (some 13), .adrI 3 none 12 1 (.t 7), []⟩,
      ⟨none, (some 3), .stV 3 (some 13) 1 (.t 12), []⟩])
    (.seq
     (.reg [6] [
       ⟨none, (some 14), .ldV 3 none 12 true, []⟩,
       ⟨none, (some 6), .stV 6 none 12 (.t 14), []⟩])
     .ret)))
def c346 : Fn := { np := 3, nt := 15, kind := .pure, res := [.v 6 12 true], body := k346 }

/- spec.l01Less -/
def b349_1 : Cd :=
  (.seq
   (.seq
    (.reg [9] [
      ⟨none, (some 8), .mov (.t 6), []⟩,
      ⟨none, (some 9), .bin .lss (.t 8) (.c (.int .i64 12)), []⟩])
    (.cond (.t 9)
     .skip
     (.exit 0)))
   (.seq
    (.block 1
     (.reg [5] [
       ⟨none, (some 12), .mov (.t 6), []⟩,
       ⟨none, (some 13), .mov (.t 0), []⟩,
       ⟨none, (some 14), .mov (.t 6), []⟩,
       ⟨none, (some 15), .nil (.t 13), []⟩,
       ⟨none, (some 16), .idxP 12 1 (.t 15) (.t 14), []⟩,
       ⟨none, (some 17), .ld 1 false (.t 16), []⟩,
       ⟨none, (some 18), .mov (.t 1), []⟩,
       ⟨none, (some 19), .mov (.t 6), []⟩,
       ⟨none, (some 20), .nil (.t 18), []⟩,
       ⟨none, (some 21), .idxP 12 1 (.t 20) (.t 19), []⟩,
       ⟨none, (some 22), .ld 1 false (.t 21), []⟩,
       ⟨none, (some 23), .bin .andNot (.t 17) (.t 22), []⟩,
       ⟨none, (some 24), .adrI 5 none 12 1 (.t 12), []⟩,
       ⟨none, (some 5), .stV 5 (some 24) 1 (.t 23), []⟩]))
    (.reg [6] [
      ⟨none, (some 10), .mov (.t 6), []⟩,
      ⟨none, (some 11), .bin .add (.t 10) (.c (.int .i64 1)), []⟩,
      ⟨none, (some 6), .mov (.t 11), []⟩])))
def k349 : Cd :=
  (.seq
   (.reg [4] [
     ⟨none, (some 4), .zero true (zs 12 (.int .u16 0)), []⟩])
   (.seq
    (.reg [5] [
      ⟨none, (some 7), .agg (zs 12 (.int .u16 0)) [], []⟩,
      ⟨none, (some 5), .zero true (zs 12 (.int .u16 0)), []⟩,
      ⟨none, (some 5), .stV 5 none 12 (.t 7), []⟩])
    (.seq
     (.seq
      (.reg [6] [
        ⟨none, (some 6), .mov (.c (.int .i64 0)), []⟩])
      (.block 0
       (.loop b349_1)))
     (.seq
      (.reg [4] [
        ⟨none, (some 25), .ldV 5 none 12 true, []⟩,
        ⟨none, (some 4), .stV 4 none 12 (.t 25), []⟩])
      .ret))))
def c349 : Fn := { np := 2, nt := 26, kind := .pure, res := [.v 4 12 true], body := k349 }

/- impl.areFrames -/
def k351 : Cd :=
  (.seq
   (.reg [2] [
     ⟨none, (some 2), .mov (.c (.bool false)), []⟩])
   (.seq
    (.reg [2] [
      ⟨none, (some 3), .mov (.t 0), []⟩,
      ⟨none, (some 4), .call true 505 [.t 3, .f 506], []⟩,
      ⟨none, (some 5), .un .not (.t 4), []⟩,
      ⟨none, (some 2), .mov (.t 5), []⟩])
    .ret))
def c351 : Fn := { np := 1, nt := 6, kind := .pure, res := [.t 2], body := k351 }

/- spec.l01Moved -/
def b355_1 : Cd :=
  (.seq
   (.seq
    (.reg [16] [
      ⟨none, (some 13), .mov (.t 9), []⟩,
      ⟨none, (some 14), .mov (.t 8), []⟩,
      ⟨none, (some 15), .len (.t 14), []⟩,
      ⟨none, (some 16), .bin .lss (.t 13) (.t 15), []⟩])
    (.cond (.t 16)
     .skip
     (.exit 0)))
   (.seq
    (.block 1
     (.reg [] [
       ⟨none, (some 19), .mov (.t 8), []⟩,
       ⟨none, (some 20), .mov (.t 9), []⟩,
       ⟨none, (some 21), .idxA 2 (.t 19) (.t 20), []⟩,
       ⟨none, (some 22), .fldP 0 (.t 21), []⟩,
       ⟨none, (some 23), .ld 1 false (.t 22), []⟩,
       ⟨none, (some 24), .conv .i64 (.t 23), []⟩,
       ⟨none, (some 25), .mov (.t 1), []⟩,
       ⟨none, (some 26), .bin .add (.t 24) (.t 25), []⟩,
       ⟨none, (some 27), .mov (.t 8), []⟩,
       ⟨none, (some 28), .mov (.t 9), []⟩,
       ⟨none, (some 29), .idxA 2 (.t 27) (.t 28), []⟩,
       ⟨none, (some 30), .fldP 1 (.t 29), []⟩,
       ⟨none, (some 31), .ld 1 false (.t 30), []⟩,
       ⟨none, (some 32), .conv .i64 (.t 31), []⟩,
       ⟨none, (some 33), .mov (.t 2), []⟩,
       ⟨none, (some 34), .bin .add (.t 32) (.t 33), []⟩,
       ⟨none, (some 35), .call false 305 [.t 7, .t 26, .t 34], []⟩]))
    (.reg [9] [
      ⟨none, (some 17), .mov (.t 9), []⟩,
      ⟨none, (some 18), .bin .add (.t 17) (.c (.int .i64 1)), []⟩,
      ⟨none, (some 9), .mov (.t 18), []⟩])))
def k355 : Cd :=
  (.seq
   (.reg [6] [
     ⟨none, (some 6), .zero true (zs 12 (.int .u16 0)), []⟩])
   (.seq
    (.reg [7] [
      ⟨none, (some 10), .agg (zs 12 (.int .u16 0)) [], []⟩,
      ⟨none, (some 7), .new 1 (zs 12 (.int .u16 0)), []⟩,
      ⟨none, none, .st 12 (.t 7) (.t 10), []⟩])
    (.seq
     (.reg [8] [
       ⟨none, (some 11), .mov (.t 0), []⟩,
       ⟨none, (some 12), .call true 440 [.t 11], []⟩,
       ⟨none, (some 8), .mov (.t 12), []⟩])
     (.seq
      (.seq
       (.reg [9] [
         ⟨none, (some 9), .mov (.c (.int .i64 0)), []⟩])
       (.block 0
        (.loop b355_1)))
      (.seq
       (.reg [6] [
         ⟨none, (some 36), .ld 12 true (.t 7), []⟩,
         ⟨none, (some 6), .stV 6 none 12 (.t 36), []⟩])
       .ret)))))
def c355 : Fn := { np := 3, nt := 37, kind := .pure, res := [.v 6 12 true], body := k355 }

/- spec.l01Ok -/
def b359_1 : Cd :=
  (.seq
   (.seq
    (.reg [5] [
      ⟨none, (some 4), .mov (.t 3), []⟩,
      ⟨none, (some 5), .bin .lss (.t 4) (.c (.int .i64 12)), []⟩])
    (.cond (.t 5)
     .skip
     (.exit 0)))
   (.seq
    (.block 1
     (.seq
      (.reg [13] [
        ⟨none, (some 8), .mov (.t 0), []⟩,
        ⟨none, (some 9), .mov (.t 3), []⟩,
        ⟨none, (some 10), .nil (.t 8), []⟩,
        ⟨none, (some 11), .idxP 12 1 (.t 10) (.t 9), []⟩,
        ⟨none, (some 12), .ld 1 false (.t 11), []⟩,
        ⟨none, (some 13), .bin .gtr (.t 12) (.c (.int .u16 4095)), []⟩])
      (.cond (.t 13)
       (.seq
        (.reg [2] [
          ⟨none, (some 2), .mov (.c (.bool false)), []⟩])
        .ret)
       .skip)))
    (.reg [3] [
      ⟨none, (some 6), .mov (.t 3), []⟩,
      ⟨none, (some 7), .bin .add (.t 6) (.c (.int .i64 1)), []⟩,
      ⟨none, (some 3), .mov (.t 7), []⟩])))
def k359 : Cd :=
  (.seq
   (.reg [2] [
     ⟨none, (some 2), .mov (.c (.bool false)), []⟩])
   (.seq
    (.seq
     (.reg [3] [
       ⟨none, (some 3), .mov (.c (.int .i64 0)), []⟩])
     (.block 0
      (.loop b359_1)))
    (.seq
     (.reg [2] [
       ⟨none, (some 2), .mov (.c (.bool true)), []⟩])
     .ret)))
def c359 : Fn := { np := 1, nt := 14, kind := .pure, res := [.t 2], body := k359 }

/- spec.l07By -/
def b360_1 : Cd :=
  (.seq
   (.seq
    (.reg [17] [
      ⟨none, (some 16), .mov (.t 8), []⟩,
      ⟨none, (some 17), .bin .lss (.t 16) (.c (.int .i64 12)), []⟩])
    (.cond (.t 17)
     .skip
     (.exit 2)))
   (.seq
    (.block 3
     (.seq
      (.reg [23] [
        ⟨none, (some 20), .mov (.t 1), []⟩,
        ⟨none, (some 21), .mov (.t 8), []⟩,
        ⟨none, (some 22), .mov (.t 7), []⟩,
        ⟨none, (some 23), .call true 456 [.t 20, .t 21, .t 22], []⟩])
      (.cond (.t 23)
       (.reg [3] [
         ⟨none, (some 24), .mov (.t 7), []⟩,
         ⟨none, (some 25), .mov (.t 8), []⟩,
         ⟨none, (some 26), .mov (.t 7), []⟩,
         ⟨none, (some 27), .mov (.t 8), []⟩,
         ⟨none, (some 28), .adrI 3 none 12 12 (.t 26), []⟩,
         ⟨none, (some 29), .adrI 3 (some 28) 12 1 (.t 27), []⟩,
         ⟨none, (some 30), .ldV 3 (some 29) 1 false, []⟩,
         ⟨none, (some 31), .conv .i64 (.t 30), []⟩,
         ⟨none, (some 32), .bin .add (.t 31) (.c (.int .i64 64)), []⟩,
         ⟨none, (some 35), .adrI 3 none 12 12 (.t 24), []⟩,
         ⟨none, (some 33), .call true 511 [.c (.int .i64 1000), .t 32], []⟩,
         ⟨none, (some 34), .conv .i16 (.t 33), []⟩,
         ⟨none, (some 36), .adrI 3 (some 35) 12 1 (.t 25), []⟩,
         ⟨none, (some 3), .stV 3 (some 36) 1 (.t 34), []⟩])
       .skip)))
    (.reg [8] [
      ⟨none, (some 18), .mov (.t 8), []⟩,
      ⟨none, (some 19), .bin .add (.t 18) (.c (.int .i64 1)), []⟩,
      ⟨none, (some 8), .mov (.t 19), []⟩])))
def b360_2 : Cd :=
  (.seq
   (.seq
    (.reg [13] [
      ⟨none, (some 12), .mov (.t 7), []⟩,
      ⟨none, (some 13), .bin .lss (.t 12) (.c (.int .i64 12)), []⟩])
    (.cond (.t 13)
     .skip
     (.exit 0)))
   (.seq
    (.block 1
     (.seq
      (.reg [8] [
        ⟨none, (some 8), .mov (.c (.int .i64 0)), []⟩])
      (.block 2
       (.loop b360_1))))
    (.reg [7] [
      ⟨none, (some 14), .mov (.t 7), []⟩,
      ⟨none, (some 15), .bin .add (.t 14) (.c (.int .i64 1)), []⟩,
      ⟨none, (some 7), .mov (.t 15), []⟩])))
def k360 : Cd :=
  (.seq
   (.reg [3, 6] [
     ⟨none, (some 3), .mov (.t 0), []⟩,
     ⟨none, (some 6), .zero true (zs 144 (.int .i16 0)), []⟩])
   (.seq
    (.reg [3] [
      ⟨none, (some 9), .ldV 3 none 144 true, []⟩,
      ⟨none, (some 10), .mov (.t 2), []⟩,
      ⟨none, (some 11), .call true 300 [.t 9, .t 10], []⟩,
      ⟨none, (some 3), .stV 3 none 144 (.t 11), []⟩])
    (.seq
     (.seq
      (.reg [7] [
        ⟨none, (some 7), .mov (.c (.int .i64 0)), []⟩])
      (.block 0
       (.loop b360_2)))
     (.seq
      (.reg [6] [
        ⟨none, (some 37), .ldV 3 none 144 true, []⟩,
        ⟨none, (some 6), .stV 6 none 144 (.t 37), []⟩])
      .ret))))
def c360 : Fn := { np := 3, nt := 38, kind := .pure, res := [.v 6 144 true], body := k360 }

/- (impl.Light).lit -/
def b361_1 : Cd :=
  (.seq
   (.reg [11] [
     ⟨none, (some 11), .bin .lss (.t 10) (.t 9), []⟩])
   (.seq
    (.cond (.t 11)
     .skip
     (.exit 0))
    (.seq
     (.block 1
      (.seq
       (.reg [6] [
         ⟨none, (some 12), .idxA 2 (.t 8) (.t 10), []⟩,
         ⟨none, (some 13), .ld 2 true (.t 12), []⟩,
         ⟨none, (some 6), .zero true [.int .i8 0, .int .i8 0], []⟩,
         ⟨none, (some 6), .stV 6 none 2 (.t 13), []⟩])
       (.reg [2] [
         ⟨none, (some 14), .adrF 6 none 1, []⟩,
         ⟨none, (some 15), .ldV 6 (some 14) 1 false, []⟩,
         ⟨none, (some 16), .adrF 6 none 0, []⟩,
         ⟨none, (some 17), .ldV 6 (some 16) 1 false, []⟩,
         ⟨none, (some 18), .adrF 6 none 1, []⟩,
         ⟨none, (some 19), .ldV 6 (some 18) 1 false, []⟩,
         ⟨none, (some 20), .adrF 6 none 0, []⟩,
         ⟨none, (some 21), .ldV 6 (some 20) 1 false, []⟩,
         ⟨none, (some 22), .adrI 2 none 12 12 (.t 19), []⟩,
         ⟨none, (some 23), .adrI 2 (some 22) 12 1 (.t 21), []⟩,
         ⟨none, (some 24), .ldV 2 (some 23) 1 false, []⟩,
         ⟨none, (some 25), .bin .add (.t 24) (.c (.int .i16 64)), []⟩,
         ⟨none, (some 26), .mn (.c (.int .i16 1000)) (.t 25), []⟩,
         ⟨none, (some 27), .adrI 2 none 12 12 (.t 15), []⟩,
         ⟨none, (some 28), .adrI 2 (some 27) 12 1 (.t 17), []⟩,
         ⟨none, (some 2), .stV 2 (some 28) 1 (.t 26), []⟩])))
     (.reg [10] [
       ⟨none, (some 29), .bin .add (.t 10) (.c (.int .i64 1)), []⟩,
       ⟨none, (some 10), .mov (.t 29), []⟩]))))
def k361 : Cd :=
  (.seq
   (.reg [2, 3, 4] [
     ⟨none, (some 2), .mov (.t 0), []⟩,
     ⟨none, (some 3), .mov (.t 1), []⟩,
     ⟨none, (some 4), .zero true (zs 144 (.int .i16 0)), []⟩])
   (.seq
    (.seq
     (.reg [8, 9, 10] [
       ⟨none, (some 7), .ldV 3 none 12 true, []⟩,
       ⟨none, (some 8), .call true 449 [.t 7], []⟩,
       ⟨none, (some 9), .len (.t 8), []⟩,
       ⟨none, (some 10), .mov (.c (.int .i64 0)), []⟩])
     (.block 0
      (.loop b361_1)))
    (.seq
     (.reg [4] [
       ⟨none, (some 30), .ldV 2 none 144 true, []⟩,
       ⟨none, (some 4), .stV 4 none 144 (.t 30), []⟩])
     .ret)))
def c361 : Fn := { np := 2, nt := 31, kind := .pure, res := [.v 4 144 true], body := k361 }

/- spec.l01Drawn -/
def b368_1 : Cd :=
  (.seq
   (.seq
    (.reg [16] [
      ⟨none, (some 15), .mov (.t 6), []⟩,
      ⟨none, (some 16), .bin .gtr (.t 15) (.c (.int .i64 0)), []⟩])
    (.cond (.t 16)
     .skip
     (.exit 0)))
   (.seq
    (.block 1
     (.seq
      (.reg [] [
        ⟨none, (some 19), .mov (.t 4), []⟩,
        ⟨none, (some 20), .mov (.t 5), []⟩,
        ⟨none, (some 21), .call false 305 [.t 3, .t 19, .t 20], []⟩])
      (.seq
       (.reg [23] [
         ⟨none, (some 22), .mov (.t 0), []⟩,
         ⟨none, (some 23), .call false 459 [.t 22, .c (.int .i64 6)], []⟩])
       (.block 2
        (.seq
         (.reg [30] [
           ⟨none, (some 31), .bin .eql (.t 23) (.c (.int .i64 0)), []⟩,
           ⟨none, (some 30), .mov (.t 31), []⟩])
         (.cond (.t 30)
          (.seq
           (.reg [4] [
             ⟨none, (some 32), .mov (.t 0), []⟩,
             ⟨none, (some 33), .call false 459 [.t 32, .c (.int .i64 12)], []⟩,
             ⟨none, (some 4), .mov (.t 33), []⟩])
           (.reg [5] [
             ⟨none, (some 34), .mov (.t 0), []⟩,
             ⟨none, (some 35), .call false 459 [.t 34, .c (.int .i64 12)], []⟩,
             ⟨none, (some 5), .mov (.t 35), []⟩]))
          (.seq
           (.seq
            (.reg [36] [
              ⟨none, (some 37), .bin .eql (.t 23) (.c (.int .i64 1)), []⟩,
              ⟨none, (some 36), .mov (.t 37), []⟩])
            (.cond (.t 36)
             .skip
             (.reg [36] [
               ⟨none, (some 38), .bin .eql (.t 23) (.c (.int .i64 2)), []⟩,
               ⟨none, (some 36), .mov (.t 38), []⟩])))
           (.cond (.t 36)
            (.reg [4] [
              ⟨none, (some 39), .mov (.t 4), []⟩,
              ⟨none, (some 40), .bin .add (.t 39) (.c (.int .i64 1)), []⟩,
              ⟨none, (some 41), .bin .rem (.t 40) (.c (.int .i64 12)), []⟩,
              ⟨none, (some 4), .mov (.t 41), []⟩])
            (.reg [5] [
              ⟨none, (some 24), .mov (.t 5), []⟩,
              ⟨none, (some 25), .mov (.t 0), []⟩,
              ⟨none, (some 26), .call false 459 [.t 25, .c (.int .i64 3)], []⟩,
              ⟨none, (some 27), .bin .add (.t 24) (.t 26), []⟩,
              ⟨none, (some 28), .bin .add (.t 27) (.c (.int .i64 11)), []⟩,
              ⟨none, (some 29), .bin .rem (.t 28) (.c (.int .i64 12)), []⟩,
              ⟨none, (some 5), .mov (.t 29), []⟩])))))))))
    (.reg [6] [
      ⟨none, (some 17), .mov (.t 6), []⟩,
      ⟨none, (some 18), .bin .sub (.t 17) (.c (.int .i64 1)), []⟩,
      ⟨none, (some 6), .mov (.t 18), []⟩])))
def b368_2 : Cd :=
  (.seq
   (.seq
    (.reg [45] [
      ⟨none, (some 44), .mov (.t 7), []⟩,
      ⟨none, (some 45), .bin .lss (.t 44) (.c (.int .i64 12)), []⟩])
    (.cond (.t 45)
     .skip
     (.exit 3)))
   (.seq
    (.block 4
     (.reg [] [
       ⟨none, (some 48), .mov (.t 7), []⟩,
       ⟨none, (some 49), .mov (.t 7), []⟩,
       ⟨none, (some 50), .idxP 12 1 (.t 3) (.t 49), []⟩,
       ⟨none, (some 51), .ld 1 false (.t 50), []⟩,
       ⟨none, (some 52), .mov (.t 0), []⟩,
       ⟨none, (some 53), .call false 459 [.t 52, .c (.int .i64 4096)], [.t 50]⟩,
       ⟨none, (some 54), .conv .u16 (.t 53), []⟩,
       ⟨none, (some 55), .bin .or (.t 51) (.t 54), []⟩,
       ⟨none, (some 56), .idxP 12 1 (.t 3) (.t 48), []⟩,
       ⟨none, none, .st 1 (.t 56) (.t 55), []⟩]))
    (.reg [7] [
      ⟨none, (some 46), .mov (.t 7), []⟩,
      ⟨none, (some 47), .bin .add (.t 46) (.c (.int .i64 1)), []⟩,
      ⟨none, (some 7), .mov (.t 47), []⟩])))
def k368 : Cd :=
  (.seq
   (.reg [2] [
     ⟨none, (some 2), .zero true (zs 12 (.int .u16 0)), []⟩])
   (.seq
    (.reg [3] [
      ⟨none, (some 8), .agg (zs 12 (.int .u16 0)) [], []⟩,
      ⟨none, (some 3), .new 1 (zs 12 (.int .u16 0)), []⟩,
      ⟨none, none, .st 12 (.t 3) (.t 8), []⟩])
    (.seq
     (.reg [4] [
       ⟨none, (some 9), .mov (.t 0), []⟩,
       ⟨none, (some 10), .call false 459 [.t 9, .c (.int .i64 12)], []⟩,
       ⟨none, (some 4), .mov (.t 10), []⟩])
     (.seq
      (.reg [5] [
        ⟨none, (some 11), .mov (.t 0), []⟩,
        ⟨none, (some 12), .call false 459 [.t 11, .c (.int .i64 12)], []⟩,
        ⟨none, (some 5), .mov (.t 12), []⟩])
      (.seq
       (.seq
        (.reg [6] [
          ⟨none, (some 13), .mov (.t 0), []⟩,
          ⟨none, (some 14), .call false 459 [.t 13, .c (.int .i64 14)], []⟩,
          ⟨none, (some 6), .mov (.t 14), []⟩])
        (.block 0
         (.loop b368_1)))
       (.seq
        (.seq
         (.reg [43] [
           ⟨none, (some 42), .mov (.t 0), []⟩,
           ⟨none, (some 43), .call false 513 [.t 42, .c (.int .i64 8)], []⟩])
         (.cond (.t 43)
          (.seq
           (.reg [7] [
             ⟨none, (some 7), .mov (.c (.int .i64 0)), []⟩])
           (.block 3
            (.loop b368_2)))
          .skip))
        (.seq
         (.reg [2] [
           ⟨none, (some 57), .ld 12 true (.t 3), []⟩,
           ⟨none, (some 2), .stV 2 none 12 (.t 57), []⟩])
         .ret)))))))
def c368 : Fn := { np := 1, nt := 58, kind := .args, res := [.v 2 12 true], body := k368 }

/- (impl.Frame).has -/
def k395 : Cd :=
  (.seq
   (.reg [3, 6] [
     ⟨none, (some 3), .mov (.t 0), []⟩,
     ⟨none, (some 6), .mov (.c (.bool false)), []⟩])
   (.seq
    (.reg [6] [
      ⟨none, (some 7), .mov (.t 1), []⟩,
      ⟨none, (some 8), .mov (.t 2), []⟩,
      ⟨none, (some 9), .call true 345 [.t 7, .t 8], []⟩,
      ⟨none, (some 10), .mov (.t 9), []⟩,
      ⟨(some (10, true)), (some 11), .mov (.t 2), []⟩,
      ⟨(some (10, true)), (some 12), .adrI 3 none 12 1 (.t 11), []⟩,
      ⟨(some (10, true)), (some 13), .ldV 3 (some 12) 1 false, []⟩,
      ⟨(some (10, true)), (some 14), .mov (.t 1), []⟩,
      ⟨(some (10, true)), (some 15), .bin .shr (.t 13) (.t 14), []⟩,
      ⟨(some (10, true)), (some 16), .bin .and (.t 15) (.c (.int .u16 1)), []⟩,
      ⟨(some (10, true)), (some 17), .bin .eql (.t 16) (.c (.int .u16 1)), []⟩,
      ⟨none, (some 18), .pick (.t 10) (.t 17) (.c (.bool false)), []⟩,
      ⟨none, (some 6), .mov (.t 18), []⟩])
    .ret))
def c395 : Fn := { np := 3, nt := 19, kind := .pure, res := [.t 6], body := k395 }

/- spec.l07Drawn -/
def b417_1 : Cd :=
  (.seq
   (.seq
    (.reg [10] [
      ⟨none, (some 9), .mov (.t 4), []⟩,
      ⟨none, (some 10), .bin .gtr (.t 9) (.c (.int .i64 0)), []⟩])
    (.cond (.t 10)
     .skip
     (.exit 0)))
   (.seq
    (.block 1
     (.seq
      (.reg [5] [
        ⟨none, (some 13), .mov (.t 0), []⟩,
        ⟨none, (some 14), .call false 459 [.t 13, .c (.int .i64 12)], []⟩,
        ⟨none, (some 5), .mov (.t 14), []⟩])
      (.reg [3] [
        ⟨none, (some 15), .mov (.t 0), []⟩,
        ⟨none, (some 17), .mov (.t 5), []⟩,
        ⟨none, (some 18), .mov (.t 0), []⟩,
        ⟨none, (some 19), .bldS 1 7 [.int .i64 0] [(0, 1, (.c (.int .i64 1))), (1, 1, (.c (.int .i64 7))), (2, 1, (.c (.int .i64 8))), (3, 1, (.c (.int .i64 64))), (4, 1, (.c (.int .i64 100))), (5, 1, (.c (.int .i64 960))), (6, 1, (.c (.int .i64 1000)))], []⟩,
        ⟨none, (some 16), .call false 459 [.t 15, .c (.int .i64 12)], []⟩,
        ⟨none, (some 22), .adrI 3 none 12 12 (.t 16), []⟩,
        ⟨none, (some 20), .call false 496 [.t 18, .t 19], []⟩,
        ⟨none, (some 21), .conv .i16 (.t 20), []⟩,
        ⟨none, (some 23), .adrI 3 (some 22) 12 1 (.t 17), []⟩,
        ⟨none, (some 3), .stV 3 (some 23) 1 (.t 21), []⟩])))
    (.reg [4] [
      ⟨none, (some 11), .mov (.t 4), []⟩,
      ⟨none, (some 12), .bin .sub (.t 11) (.c (.int .i64 1)), []⟩,
      ⟨none, (some 4), .mov (.t 12), []⟩])))
def k417 : Cd :=
  (.seq
   (.reg [2] [
     ⟨none, (some 2), .zero true (zs 144 (.int .i16 0)), []⟩])
   (.seq
    (.reg [3] [
      ⟨none, (some 6), .agg (zs 144 (.int .i16 0)) [], []⟩,
      ⟨none, (some 3), .zero true (zs 144 (.int .i16 0)), []⟩,
      ⟨none, (some 3), .stV 3 none 144 (.t 6), []⟩])
    (.seq
     (.seq
      (.reg [4] [
        ⟨none, (some 7), .mov (.t 0), []⟩,
        ⟨none, (some 8), .call false 459 [.t 7, .c (.int .i64 12)], []⟩,
        ⟨none, (some 4), .mov (.t 8), []⟩])
      (.block 0
       (.loop b417_1)))
     (.seq
      (.reg [2] [
        ⟨none, (some 24), .ldV 3 none 144 true, []⟩,
        ⟨none, (some 2), .stV 2 none 144 (.t 24), []⟩])
      .ret))))
def c417 : Fn := { np := 1, nt := 25, kind := .args, res := [.v 2 144 true], body := k417 }

/- spec.l01Dots -/
def b440_1 : Cd :=
  (.seq
   (.seq
    (.reg [12] [
      ⟨none, (some 11), .mov (.t 5), []⟩,
      ⟨none, (some 12), .bin .lss (.t 11) (.c (.int .i64 12)), []⟩])
    (.cond (.t 12)
     .skip
     (.exit 2)))
   (.seq
    (.block 3
     (.seq
      (.reg [18] [
        ⟨none, (some 15), .mov (.t 0), []⟩,
        ⟨none, (some 16), .mov (.t 5), []⟩,
        ⟨none, (some 17), .mov (.t 4), []⟩,
        ⟨none, (some 18), .call true 456 [.t 15, .t 16, .t 17], []⟩])
      (.cond (.t 18)
       (.reg [3] [
         ⟨none, (some 19), .mov (.t 3), []⟩,
         ⟨none, (some 20), .mov (.t 5), []⟩,
         ⟨none, (some 21), .conv .i8 (.t 20), []⟩,
         ⟨none, (some 22), .mov (.t 4), []⟩,
         ⟨none, (some 23), .conv .i8 (.t 22), []⟩,
         ⟨none, (some 24), .agg [.int .i8 0, .int .i8 0] [(0, 1, (.t 21)), (1, 1, (.t 23))], []⟩,
         ⟨none, (some 25), .bldS 2 1 [.int .i8 0, .int .i8 0] [(0, 2, (.t 24))], []⟩,
         ⟨none, (some 26), .app 2 2 (.t 19) (.t 25), []⟩,
         ⟨none, (some 3), .mov (.t 26), []⟩])
       .skip)))
    (.reg [5] [
      ⟨none, (some 13), .mov (.t 5), []⟩,
      ⟨none, (some 14), .bin .add (.t 13) (.c (.int .i64 1)), []⟩,
      ⟨none, (some 5), .mov (.t 14), []⟩])))
def b440_2 : Cd :=
  (.seq
   (.seq
    (.reg [8] [
      ⟨none, (some 7), .mov (.t 4), []⟩,
      ⟨none, (some 8), .bin .lss (.t 7) (.c (.int .i64 12)), []⟩])
    (.cond (.t 8)
     .skip
     (.exit 0)))
   (.seq
    (.block 1
     (.seq
      (.reg [5] [
        ⟨none, (some 5), .mov (.c (.int .i64 0)), []⟩])
      (.block 2
       (.loop b440_1))))
    (.reg [4] [
      ⟨none, (some 9), .mov (.t 4), []⟩,
      ⟨none, (some 10), .bin .add (.t 9) (.c (.int .i64 1)), []⟩,
      ⟨none, (some 4), .mov (.t 10), []⟩])))
def k440 : Cd :=
  (.seq
   (.reg [2] [
     ⟨none, (some 2), .mov (.c (.slice none 0 0)), []⟩])
   (.seq
    (.reg [3] [
      ⟨none, (some 6), .bldS 2 0 [.int .i8 0, .int .i8 0] [], []⟩,
      ⟨none, (some 3), .mov (.t 6), []⟩])
    (.seq
     (.seq
      (.reg [4] [
        ⟨none, (some 4), .mov (.c (.int .i64 0)), []⟩])
      (.block 0
       (.loop b440_2)))
     (.seq
      (.reg [2] [
        ⟨none, (some 27), .mov (.t 3), []⟩,
        ⟨none, (some 2), .mov (.t 27), []⟩])
      .ret))))
def c440 : Fn := { np := 1, nt := 28, kind := .pure, res := [.t 2], body := k440 }

/- slices.ContainsFunc[[]uint16,uint16] -/
def k445 : Cd :=
  (.seq
   (.reg [4] [
     ⟨none, (some 4), .mov (.c (.bool false)), []⟩])
   (.seq
    (.reg [4] [
      ⟨none, (some 5), .mov (.t 0), []⟩,
      ⟨none, (some 6), .mov (.t 1), []⟩,
      ⟨none, (some 7), .call true 547 [.t 5, .t 6], []⟩,
      ⟨none, (some 8), .bin .geq (.t 7) (.c (.int .i64 0)), []⟩,
      ⟨none, (some 4), .mov (.t 8), []⟩])
    .ret))
def c445 : Fn := { np := 2, nt := 9, kind := .pure, res := [.t 4], body := k445 }

/- impl.ValidFrame$1 -/
def k446 : Cd :=
  (.seq
   (.reg [2] [
     ⟨none, (some 2), .mov (.c (.bool false)), []⟩])
   (.seq
    (.reg [2] [
      ⟨none, (some 3), .mov (.t 0), []⟩,
      ⟨none, (some 4), .bin .gtr (.t 3) (.c (.int .u16 4095)), []⟩,
      ⟨none, (some 2), .mov (.t 4), []⟩])
    .ret))
def c446 : Fn := { np := 1, nt := 5, kind := .pure, res := [.t 2], body := k446 }

/- (impl.Frame).dots -/
def b449_1 : Cd :=
  (.seq
   (.reg [11] [
     ⟨none, (some 11), .bin .lss (.t 10) (.c (.int .i64 12)), []⟩])
   (.seq
    (.cond (.t 11)
     .skip
     (.exit 2))
    (.seq
     (.block 3
      (.seq
       (.reg [5] [
         ⟨none, (some 12), .mov (.t 10), []⟩,
         ⟨none, (some 5), .mov (.t 12), []⟩])
       (.seq
        (.reg [16] [
          ⟨none, (some 13), .ldV 1 none 12 true, []⟩,
          ⟨none, (some 14), .mov (.t 5), []⟩,
          ⟨none, (some 15), .mov (.t 4), []⟩,
          ⟨none, (some 16), .call true 395 [.t 13, .t 14, .t 15], []⟩])
        (.cond (.t 16)
         (.reg [3] [
           ⟨none, (some 17), .mov (.t 3), []⟩,
           ⟨none, (some 18), .mov (.t 5), []⟩,
           ⟨none, (some 19), .conv .i8 (.t 18), []⟩,
           ⟨none, (some 20), .mov (.t 4), []⟩,
           ⟨none, (some 21), .conv .i8 (.t 20), []⟩,
           ⟨none, (some 22), .agg [.int .i8 0, .int .i8 0] [(0, 1, (.t 19)), (1, 1, (.t 21))], []⟩,
           ⟨none, (some 23), .bldS 2 1 [.int .i8 0, .int .i8 0] [(0, 2, (.t 22))], []⟩,
           ⟨none, (some 24), .app 2 2 (.t 17) (.t 23), []⟩,
           ⟨none, (some 3), .mov (.t 24), []⟩])
         .skip))))
     (.reg [10] [
       ⟨none, (some 25), .bin .add (.t 10) (.c (.int .i64 1)), []⟩,
       ⟨none, (some 10), .mov (.t 25), []⟩]))))
def b449_2 : Cd :=
  (.seq
   (.reg [8] [
     ⟨none, (some 8), .bin .lss (.t 7) (.c (.int .i64 12)), []⟩])
   (.seq
    (.cond (.t 8)
     .skip
     (.exit 0))
    (.seq
     (.block 1
      (.seq
       (.reg [4] [
         ⟨none, (some 9), .mov (.t 7), []⟩,
         ⟨none, (some 4), .mov (.t 9), []⟩])
       (.seq
        (.reg [10] [
          ⟨none, (some 10), .mov (.c (.int .i64 0)), []⟩])
        (.block 2
         (.loop b449_1)))))
     (.reg [7] [
       ⟨none, (some 26), .bin .add (.t 7) (.c (.int .i64 1)), []⟩,
       ⟨none, (some 7), .mov (.t 26), []⟩]))))
def k449 : Cd :=
  (.seq
   (.reg [1, 2] [
     ⟨none, (some 1), .mov (.t 0), []⟩,
     ⟨none, (some 2), .mov (.c (.slice none 0 0)), []⟩])
   (.seq
    (.reg [3] [
      ⟨none, (some 6), .bldS 2 0 [.int .i8 0, .int .i8 0] [], []⟩,
      ⟨none, (some 3), .mov (.t 6), []⟩])
    (.seq
     (.seq
      (.reg [7] [
        ⟨none, (some 7), .mov (.c (.int .i64 0)), []⟩])
      (.block 0
       (.loop b449_2)))
     (.seq
      (.reg [2] [
        ⟨none, (some 27), .mov (.t 3), []⟩,
        ⟨none, (some 2), .mov (.t 27), []⟩])
      .ret))))
def c449 : Fn := { np := 1, nt := 28, kind := .pure, res := [.t 2], body := k449 }

/- spec.l01Has -/
def k456 : Cd :=
  (.seq
   (.reg [6] [
     ⟨none, (some 6), .mov (.c (.bool false)), []⟩])
   (.seq
    (.reg [6] [
      ⟨none, (some 7), .mov (.t 1), []⟩,
      ⟨none, (some 8), .mov (.t 2), []⟩,
      ⟨none, (some 9), .call true 342 [.t 7, .t 8], []⟩,
      ⟨none, (some 10), .mov (.t 9), []⟩,
      ⟨(some (10, true)), (some 11), .mov (.t 0), []⟩,
      ⟨(some (10, true)), (some 12), .mov (.t 2), []⟩,
      ⟨(some (10, true)), (some 13), .nil (.t 11), []⟩,
      ⟨(some (10, true)), (some 14), .idxP 12 1 (.t 13) (.t 12), []⟩,
      ⟨(some (10, true)), (some 15), .ld 1 false (.t 14), []⟩,
      ⟨(some (10, true)), (some 16), .mov (.t 1), []⟩,
      ⟨(some (10, true)), (some 17), .conv .u64 (.t 16), []⟩,
      ⟨(some (10, true)), (some 18), .bin .shr (.t 15) (.t 17), []⟩,
      ⟨(some (10, true)), (some 19), .bin .rem (.t 18) (.c (.int .u16 2)), []⟩,
      ⟨(some (10, true)), (some 20), .bin .eql (.t 19) (.c (.int .u16 1)), []⟩,
      ⟨none, (some 21), .pick (.t 10) (.t 20) (.c (.bool false)), []⟩,
      ⟨none, (some 6), .mov (.t 21), []⟩])
    .ret))
def c456 : Fn := { np := 3, nt := 22, kind := .pure, res := [.t 6], body := k456 }

/- (*spec.l00Src).pick -/
def k459 : Cd :=
  (.seq
   (.reg [4] [
     ⟨none, (some 4), .mov (.c (.int .i64 0)), []⟩])
   (.seq
    (.seq
     (.reg [7] [
       ⟨none, (some 6), .mov (.t 1), []⟩,
       ⟨none, (some 7), .bin .leq (.t 6) (.c (.int .i64 1)), []⟩])
     (.cond (.t 7)
      (.seq
       (.reg [4] [
         ⟨none, (some 4), .mov (.c (.int .i64 0)), []⟩])
       .ret)
      .skip))
    (.seq
     (.reg [5] [
       ⟨none, (some 8), .mov (.t 0), []⟩,
       ⟨none, (some 9), .call false 550 [.t 8], []⟩,
       ⟨none, (some 5), .mov (.t 9), []⟩])
     (.seq
      (.seq
       (.reg [11] [
         ⟨none, (some 10), .mov (.t 1), []⟩,
         ⟨none, (some 11), .bin .gtr (.t 10) (.c (.int .i64 200)), []⟩])
       (.cond (.t 11)
        (.reg [5] [
          ⟨none, (some 12), .mov (.t 5), []⟩,
          ⟨none, (some 13), .bin .mul (.t 12) (.c (.int .i64 256)), []⟩,
          ⟨none, (some 14), .mov (.t 0), []⟩,
          ⟨none, (some 15), .call false 550 [.t 14], []⟩,
          ⟨none, (some 16), .bin .add (.t 13) (.t 15), []⟩,
          ⟨none, (some 5), .mov (.t 16), []⟩])
        .skip))
      (.seq
       (.reg [4] [
         ⟨none, (some 17), .mov (.t 5), []⟩,
         ⟨none, (some 18), .mov (.t 1), []⟩,
         ⟨none, (some 19), .bin .rem (.t 17) (.t 18), []⟩,
         ⟨none, (some 4), .mov (.t 19), []⟩])
       .ret)))))
def c459 : Fn := { np := 2, nt := 20, kind := .args, res := [.t 4], body := k459 }

/- slices.IndexFunc[[]impl.Frame,impl.Frame] -/
def b474_1 : Cd :=
  (.seq
   (.reg [9] [
     ⟨none, (some 9), .bin .lss (.t 8) (.t 7), []⟩])
   (.seq
    (.cond (.t 9)
     .skip
     (.exit 0))
    (.seq
     (.block 1
      (.seq
       (.reg [5] [
         ⟨none, (some 10), .mov (.t 8), []⟩,
         ⟨none, (some 5), .mov (.t 10), []⟩])
       (.seq
        (.reg [16] [
          ⟨none, (some 11), .mov (.t 1), []⟩,
          ⟨none, (some 12), .mov (.t 0), []⟩,
          ⟨none, (some 13), .mov (.t 5), []⟩,
          ⟨none, (some 14), .idxA 12 (.t 12) (.t 13), []⟩,
          ⟨none, (some 15), .ld 12 true (.t 14), []⟩,
          ⟨none, (some 16), .callv (.t 11) [.t 15], []⟩])
        (.cond (.t 16)
         (.seq
          (.reg [4] [
            ⟨none, (some 17), .mov (.t 5), []⟩,
            ⟨none, (some 4), .mov (.t 17), []⟩])
          .ret)
         .skip))))
     (.reg [8] [
       ⟨none, (some 18), .bin .add (.t 8) (.c (.int .i64 1)), []⟩,
       ⟨none, (some 8), .mov (.t 18), []⟩]))))
def k474 : Cd :=
  (.seq
   (.reg [4] [
     ⟨none, (some 4), .mov (.c (.int .i64 0)), []⟩])
   (.seq
    (.seq
     (.reg [7, 8] [
       ⟨none, (some 6), .mov (.t 0), []⟩,
       ⟨none, (some 7), .len (.t 6), []⟩,
       ⟨none, (some 8), .mov (.c (.int .i64 0)), []⟩])
     (.block 0
      (.loop b474_1)))
    (.seq
     (.reg [4] [
       ⟨none, (some 4), .mov (.c (.int .i64 (-1))), []⟩])
     .ret)))
def c474 : Fn := { np := 2, nt := 19, kind := .pure, res := [.t 4], body := k474 }

/- slices.IndexFunc[[]int16,int16] -/
def b487_1 : Cd :=
  (.seq
   (.reg [9] [
     ⟨none, (some 9), .bin .lss (.t 8) (.t 7), []⟩])
   (.seq
    (.cond (.t 9)
     .skip
     (.exit 0))
    (.seq
     (.block 1
      (.seq
       (.reg [5] [
         ⟨none, (some 10), .mov (.t 8), []⟩,
         ⟨none, (some 5), .mov (.t 10), []⟩])
       (.seq
        (.reg [16] [
          ⟨none, (some 11), .mov (.t 1), []⟩,
          ⟨none, (some 12), .mov (.t 0), []⟩,
          ⟨none, (some 13), .mov (.t 5), []⟩,
          ⟨none, (some 14), .idxA 1 (.t 12) (.t 13), []⟩,
          ⟨none, (some 15), .ld 1 false (.t 14), []⟩,
          ⟨none, (some 16), .callv (.t 11) [.t 15], []⟩])
        (.cond (.t 16)
         (.seq
          (.reg [4] [
            ⟨none, (some 17), .mov (.t 5), []⟩,
            ⟨none, (some 4), .mov (.t 17), []⟩])
          .ret)
         .skip))))
     (.reg [8] [
       ⟨none, (some 18), .bin .add (.t 8) (.c (.int .i64 1)), []⟩,
       ⟨none, (some 8), .mov (.t 18), []⟩]))))
def k487 : Cd :=
  (.seq
   (.reg [4] [
     ⟨none, (some 4), .mov (.c (.int .i64 0)), []⟩])
   (.seq
    (.seq
     (.reg [7, 8] [
       ⟨none, (some 6), .mov (.t 0), []⟩,
       ⟨none, (some 7), .len (.t 6), []⟩,
       ⟨none, (some 8), .mov (.c (.int .i64 0)), []⟩])
     (.block 0
      (.loop b487_1)))
    (.seq
     (.reg [4] [
       ⟨none, (some 4), .mov (.c (.int .i64 (-1))), []⟩])
     .ret)))
def c487 : Fn := { np := 2, nt := 19, kind := .pure, res := [.t 4], body := k487 }

/- (*spec.l00Src).among -/
def k496 : Cd :=
  (.seq
   (.reg [4] [
     ⟨none, (some 4), .mov (.c (.int .i64 0)), []⟩])
   (.seq
    (.reg [4] [
      ⟨none, (some 5), .mov (.t 1), []⟩,
      ⟨none, (some 6), .mov (.t 0), []⟩,
      ⟨none, (some 7), .mov (.t 1), []⟩,
      ⟨none, (some 8), .len (.t 7), []⟩,
      ⟨none, (some 9), .call false 459 [.t 6, .t 8], []⟩,
      ⟨none, (some 10), .idxA 1 (.t 5) (.t 9), []⟩,
      ⟨none, (some 11), .ld 1 false (.t 10), []⟩,
      ⟨none, (some 4), .mov (.t 11), []⟩])
    .ret))
def c496 : Fn := { np := 2, nt := 12, kind := .args, res := [.t 4], body := k496 }

/- slices.ContainsFunc[[]impl.Frame,impl.Frame] -/
def k505 : Cd :=
  (.seq
   (.reg [4] [
     ⟨none, (some 4), .mov (.c (.bool false)), []⟩])
   (.seq
    (.reg [4] [
      ⟨none, (some 5), .mov (.t 0), []⟩,
      ⟨none, (some 6), .mov (.t 1), []⟩,
      ⟨none, (some 7), .call true 474 [.t 5, .t 6], []⟩,
      ⟨none, (some 8), .bin .geq (.t 7) (.c (.int .i64 0)), []⟩,
      ⟨none, (some 4), .mov (.t 8), []⟩])
    .ret))
def c505 : Fn := { np := 2, nt := 9, kind := .pure, res := [.t 4], body := k505 }

/- impl.areFrames$1 -/
def k506 : Cd :=
  (.seq
   (.reg [1, 2] [
     ⟨none, (some 1), .mov (.t 0), []⟩,
     ⟨none, (some 2), .mov (.c (.bool false)), []⟩])
   (.seq
    (.reg [2] [
      ⟨none, (some 3), .ldV 1 none 12 true, []⟩,
      ⟨none, (some 4), .call true 234 [.t 3], []⟩,
      ⟨none, (some 5), .un .not (.t 4), []⟩,
      ⟨none, (some 2), .mov (.t 5), []⟩])
    .ret))
def c506 : Fn := { np := 1, nt := 6, kind := .pure, res := [.t 2], body := k506 }

/- spec.l00Min -/
def k511 : Cd :=
  (.seq
   (.reg [4] [
     ⟨none, (some 4), .mov (.c (.int .i64 0)), []⟩])
   (.seq
    (.seq
     (.reg [7] [
       ⟨none, (some 5), .mov (.t 0), []⟩,
       ⟨none, (some 6), .mov (.t 1), []⟩,
       ⟨none, (some 7), .bin .lss (.t 5) (.t 6), []⟩])
     (.cond (.t 7)
      (.seq
       (.reg [4] [
         ⟨none, (some 8), .mov (.t 0), []⟩,
         ⟨none, (some 4), .mov (.t 8), []⟩])
       .ret)
      .skip))
    (.seq
     (.reg [4] [
       ⟨none, (some 9), .mov (.t 1), []⟩,
       ⟨none, (some 4), .mov (.t 9), []⟩])
     .ret)))
def c511 : Fn := { np := 2, nt := 10, kind := .pure, res := [.t 4], body := k511 }

/- (*spec.l00Src).one -/
def k513 : Cd :=
  (.seq
   (.reg [4] [
     ⟨none, (some 4), .mov (.c (.bool false)), []⟩])
   (.seq
    (.reg [4] [
      ⟨none, (some 5), .mov (.t 0), []⟩,
      ⟨none, (some 6), .mov (.t 1), []⟩,
      ⟨none, (some 7), .call false 459 [.t 5, .t 6], []⟩,
      ⟨none, (some 8), .bin .eql (.t 7) (.c (.int .i64 0)), []⟩,
      ⟨none, (some 4), .mov (.t 8), []⟩])
    .ret))
def c513 : Fn := { np := 2, nt := 9, kind := .args, res := [.t 4], body := k513 }

/- slices.IndexFunc[[]uint16,uint16] -/
def b547_1 : Cd :=
  (.seq
   (.reg [9] [
     ⟨none, (some 9), .bin .lss (.t 8) (.t 7), []⟩])
   (.seq
    (.cond (.t 9)
     .skip
     (.exit 0))
    (.seq
     (.block 1
      (.seq
       (.reg [5] [
         ⟨none, (some 10), .mov (.t 8), []⟩,
         ⟨none, (some 5), .mov (.t 10), []⟩])
       (.seq
        (.reg [16] [
          ⟨none, (some 11), .mov (.t 1), []⟩,
          ⟨none, (some 12), .mov (.t 0), []⟩,
          ⟨none, (some 13), .mov (.t 5), []⟩,
          ⟨none, (some 14), .idxA 1 (.t 12) (.t 13), []⟩,
          ⟨none, (some 15), .ld 1 false (.t 14), []⟩,
          ⟨none, (some 16), .callv (.t 11) [.t 15], []⟩])
        (.cond (.t 16)
         (.seq
          (.reg [4] [
            ⟨none, (some 17), .mov (.t 5), []⟩,
            ⟨none, (some 4), .mov (.t 17), []⟩])
          .ret)
         .skip))))
     (.reg [8] [
       ⟨none, (some 18), .bin .add (.t 8) (.c (.int .i64 1)), []⟩,
       ⟨none, (some 8), .mov (.t 18), []⟩]))))
def k547 : Cd :=
  (.seq
   (.reg [4] [
     ⟨none, (some 4), .mov (.c (.int .i64 0)), []⟩])
   (.seq
    (.seq
     (.reg [7, 8] [
       ⟨none, (some 6), .mov (.t 0), []⟩,
       ⟨none, (some 7), .len (.t 6), []⟩,
       ⟨none, (some 8), .mov (.c (.int .i64 0)), []⟩])
     (.block 0
      (.loop b547_1)))
    (.seq
     (.reg [4] [
       ⟨none, (some 4), .mov (.c (.int .i64 (-1))), []⟩])
     .ret)))
def c547 : Fn := { np := 2, nt := 19, kind := .pure, res := [.t 4], body := k547 }

/- (*spec.l00Src).next -/
def k550 : Cd :=
  (.seq
   (.reg [2] [
     ⟨none, (some 2), .mov (.c (.int .i64 0)), []⟩])
   (.seq
    (.reg [3] [
      ⟨none, (some 3), .mov (.c (.int .i64 0)), []⟩])
    (.seq
     (.seq
      (.reg [13] [
        ⟨none, (some 4), .mov (.t 0), []⟩,
        ⟨none, (some 5), .nil (.t 4), []⟩,
        ⟨none, (some 6), .fldP 1 (.t 5), []⟩,
        ⟨none, (some 7), .ld 1 false (.t 6), []⟩,
        ⟨none, (some 8), .mov (.t 0), []⟩,
        ⟨none, (some 9), .nil (.t 8), []⟩,
        ⟨none, (some 10), .fldP 0 (.t 9), []⟩,
        ⟨none, (some 11), .ld 1 false (.t 10), []⟩,
        ⟨none, (some 12), .len (.t 11), []⟩,
        ⟨none, (some 13), .bin .lss (.t 7) (.t 12), []⟩])
      (.cond (.t 13)
       (.reg [3] [
         ⟨none, (some 14), .mov (.t 0), []⟩,
         ⟨none, (some 15), .nil (.t 14), []⟩,
         ⟨none, (some 16), .fldP 0 (.t 15), []⟩,
         ⟨none, (some 17), .ld 1 false (.t 16), []⟩,
         ⟨none, (some 18), .mov (.t 0), []⟩,
         ⟨none, (some 19), .nil (.t 18), []⟩,
         ⟨none, (some 20), .fldP 1 (.t 19), []⟩,
         ⟨none, (some 21), .ld 1 false (.t 20), []⟩,
         ⟨none, (some 22), .idxA 1 (.t 17) (.t 21), []⟩,
         ⟨none, (some 23), .ld 1 false (.t 22), []⟩,
         ⟨none, (some 24), .conv .i64 (.t 23), []⟩,
         ⟨none, (some 3), .mov (.t 24), []⟩])
       .skip))
     (.seq
      (.reg [] [
        ⟨none, (some 25), .mov (.t 0), []⟩,
        ⟨none, (some 26), .nil (.t 25), []⟩,
        ⟨none, (some 27), .fldP 1 (.t 26), []⟩,
        ⟨none, (some 28), .ld 1 false (.t 27), []⟩,
        ⟨none, (some 29), .bin .add (.t 28) (.c (.int .i64 1)), []⟩,
        ⟨none, (some 30), .nil (.t 25), []⟩,
        ⟨none, (some 31), .fldP 1 (.t 30), []⟩,
        ⟨none, none, .st 1 (.t 31) (.t 29), []⟩])
      (.seq
       (.reg [] [
         ⟨none, (some 32), .mov (.t 0), []⟩,
         ⟨none, (some 33), .mov (.t 0), []⟩,
         ⟨none, (some 34), .nil (.t 33), []⟩,
         ⟨none, (some 35), .fldP 2 (.t 34), []⟩,
         ⟨none, (some 36), .ld 1 false (.t 35), []⟩,
         ⟨none, (some 37), .bin .mul (.t 36) (.c (.int .u64 6364136223846793005)), []⟩,
         ⟨none, (some 38), .mov (.t 3), []⟩,
         ⟨none, (some 39), .conv .u64 (.t 38), []⟩,
         ⟨none, (some 40), .bin .add (.t 37) (.t 39), []⟩,
         ⟨none, (some 41), .bin .add (.t 40) (.c (.int .u64 1442695040888963407)), []⟩,
         ⟨none, (some 42), .nil (.t 32), []⟩,
         ⟨none, (some 43), .fldP 2 (.t 42), []⟩,
         ⟨none, none, .st 1 (.t 43) (.t 41), []⟩])
       (.seq
        (.seq
         (.reg [53] [
           ⟨none, (some 44), .mov (.t 0), []⟩,
           ⟨none, (some 45), .nil (.t 44), []⟩,
           ⟨none, (some 46), .fldP 1 (.t 45), []⟩,
           ⟨none, (some 47), .ld 1 false (.t 46), []⟩,
           ⟨none, (some 48), .mov (.t 0), []⟩,
           ⟨none, (some 49), .nil (.t 48), []⟩,
           ⟨none, (some 50), .fldP 0 (.t 49), []⟩,
           ⟨none, (some 51), .ld 1 false (.t 50), []⟩,
           ⟨none, (some 52), .len (.t 51), []⟩,
           ⟨none, (some 53), .bin .leq (.t 47) (.t 52), []⟩])
         (.cond (.t 53)
          (.seq
           (.reg [2] [
             ⟨none, (some 54), .mov (.t 3), []⟩,
             ⟨none, (some 2), .mov (.t 54), []⟩])
           .ret)
          .skip))
        (.seq
         (.reg [2] [
           ⟨none, (some 55), .mov (.t 0), []⟩,
           ⟨none, (some 56), .nil (.t 55), []⟩,
           ⟨none, (some 57), .fldP 2 (.t 56), []⟩,
           ⟨none, (some 58), .ld 1 false (.t 57), []⟩,
           ⟨none, (some 59), .bin .shr (.t 58) (.c (.int .u64 40)), []⟩,
           ⟨none, (some 60), .bin .and (.t 59) (.c (.int .u64 255)), []⟩,
           ⟨none, (some 61), .conv .i64 (.t 60), []⟩,
           ⟨none, (some 2), .mov (.t 61), []⟩])
         .ret)))))))
def c550 : Fn := { np := 1, nt := 62, kind := .args, res := [.t 2], body := k550 }


end Fb
