/- The functions of the law, in the small language. -/
import Derived.Test.YtmdnahopljfakaaGreatDen
set_option linter.unusedVariables false
set_option linter.unusedSimpArgs false
namespace Fb
open Go

/- laws.FnTop -/
def b10_1 : Cd :=
  (.seq
   (.seq
    (.reg [150] [
      ⟨none, (some 147), .mov (.t 25), []⟩,
      ⟨none, (some 148), .mov (.t 23), []⟩,
      ⟨none, (some 149), .len (.t 148), []⟩,
      ⟨none, (some 150), .bin .lss (.t 147) (.t 149), []⟩])
    (.cond (.t 150)
     .skip
     (.exit 0)))
   (.seq
    (.block 1
     (.seq
      (.reg [26, 27] [
        ⟨none, (some 154), .mov (.t 5), []⟩,
        ⟨none, (some 155), .mov (.t 25), []⟩,
        ⟨none, (some 156), .idxA 12 (.t 154) (.t 155), []⟩,
        ⟨none, (some 157), .ld 12 true (.t 156), []⟩,
        ⟨none, (some 158), .mov (.t 5), []⟩,
        ⟨none, (some 159), .mov (.t 25), []⟩,
        ⟨none, (some 160), .bin .add (.t 159) (.c (.int .i64 1)), []⟩,
        ⟨none, (some 161), .idxA 12 (.t 158) (.t 160), []⟩,
        ⟨none, (some 162), .ld 12 true (.t 161), []⟩,
        ⟨none, (some 163), .call true 95 [.t 157, .t 162], []⟩,
        ⟨none, (some 153), .mov (.t 163), []⟩,
        ⟨none, (some 164), .ext (.t 153) 0, []⟩,
        ⟨none, (some 165), .ext (.t 153) 1, []⟩,
        ⟨none, (some 26), .mov (.t 164), []⟩,
        ⟨none, (some 27), .mov (.t 165), []⟩])
      (.seq
       (.reg [180] [
         ⟨none, (some 166), .mov (.t 27), []⟩,
         ⟨none, (some 167), .bin .neq (.t 166) (.c (.int .i64 0)), []⟩,
         ⟨none, (some 168), .mov (.t 167), []⟩,
         ⟨(some (168, false)), (some 169), .mov (.t 23), []⟩,
         ⟨(some (168, false)), (some 170), .mov (.t 25), []⟩,
         ⟨(some (168, false)), (some 171), .idxA 1 (.t 169) (.t 170), []⟩,
         ⟨(some (168, false)), (some 172), .ld 1 false (.t 171), []⟩,
         ⟨(some (168, false)), (some 173), .mov (.t 26), []⟩,
         ⟨(some (168, false)), (some 174), .bin .neq (.t 172) (.t 173), []⟩,
         ⟨none, (some 175), .pick (.t 168) (.c (.bool true)) (.t 174), []⟩,
         ⟨none, (some 176), .mov (.t 175), []⟩,
         ⟨(some (176, false)), (some 177), .mov (.t 26), []⟩,
         ⟨(some (176, false)), (some 178), .mov (.t 21), []⟩,
         ⟨(some (176, false)), (some 179), .bin .lss (.t 177) (.t 178), []⟩,
         ⟨none, (some 180), .pick (.t 176) (.c (.bool true)) (.t 179), []⟩])
       (.cond (.t 180)
        (.seq
         (.reg [4] [
           ⟨none, (some 4), .mov (.c (.bool false)), []⟩])
         .ret)
        .skip))))
    (.reg [25] [
      ⟨none, (some 151), .mov (.t 25), []⟩,
      ⟨none, (some 152), .bin .add (.t 151) (.c (.int .i64 1)), []⟩,
      ⟨none, (some 25), .mov (.t 152), []⟩])))
def b10_2 : Cd :=
  (.seq
   (.seq
    (.reg [257] [
      ⟨none, (some 256), .mov (.t 42), []⟩,
      ⟨none, (some 257), .bin .lss (.t 256) (.c (.int .i64 12)), []⟩])
    (.cond (.t 257)
     .skip
     (.exit 2)))
   (.seq
    (.block 3
     (.seq
      (.reg [283] [
        ⟨none, (some 260), .mov (.t 42), []⟩,
        ⟨none, (some 261), .adrF 40 none 0, []⟩,
        ⟨none, (some 262), .adrI 40 (some 261) 12 1 (.t 260), []⟩,
        ⟨none, (some 263), .ldV 40 (some 262) 1 false, []⟩,
        ⟨none, (some 264), .mov (.t 42), []⟩,
        ⟨none, (some 265), .adrI 31 none 12 1 (.t 264), []⟩,
        ⟨none, (some 266), .ldV 31 (some 265) 1 false, []⟩,
        ⟨none, (some 267), .bin .andNot (.t 263) (.t 266), []⟩,
        ⟨none, (some 268), .bin .neq (.t 267) (.c (.int .u16 0)), []⟩,
        ⟨none, (some 269), .mov (.t 268), []⟩,
        ⟨(some (269, false)), (some 270), .mov (.t 42), []⟩,
        ⟨(some (269, false)), (some 271), .adrI 31 none 12 1 (.t 270), []⟩,
        ⟨(some (269, false)), (some 272), .ldV 31 (some 271) 1 false, []⟩,
        ⟨(some (269, false)), (some 273), .mov (.t 42), []⟩,
        ⟨(some (269, false)), (some 274), .adrF 40 none 12, []⟩,
        ⟨(some (269, false)), (some 275), .adrI 40 (some 274) 12 1 (.t 273), []⟩,
        ⟨(some (269, false)), (some 276), .ldV 40 (some 275) 1 false, []⟩,
        ⟨(some (269, false)), (some 277), .bin .and (.t 272) (.t 276), []⟩,
        ⟨(some (269, false)), (some 278), .mov (.t 42), []⟩,
        ⟨(some (269, false)), (some 279), .adrF 40 none 0, []⟩,
        ⟨(some (269, false)), (some 280), .adrI 40 (some 279) 12 1 (.t 278), []⟩,
        ⟨(some (269, false)), (some 281), .ldV 40 (some 280) 1 false, []⟩,
        ⟨(some (269, false)), (some 282), .bin .neq (.t 277) (.t 281), []⟩,
        ⟨none, (some 283), .pick (.t 269) (.c (.bool true)) (.t 282), []⟩])
      (.cond (.t 283)
       (.seq
        (.reg [4] [
          ⟨none, (some 4), .mov (.c (.bool false)), []⟩])
        .ret)
       .skip)))
    (.reg [42] [
      ⟨none, (some 258), .mov (.t 42), []⟩,
      ⟨none, (some 259), .bin .add (.t 258) (.c (.int .i64 1)), []⟩,
      ⟨none, (some 42), .mov (.t 259), []⟩])))
def k10 : Cd :=
  (.seq
   (.reg [4] [
     ⟨none, (some 4), .mov (.c (.bool false)), []⟩])
   (.seq
    (.seq
     (.reg [45] [
       ⟨none, (some 43), .mov (.t 0), []⟩,
       ⟨none, (some 44), .mov (.t 1), []⟩,
       ⟨none, (some 45), .call true 84 [.t 43, .t 44], []⟩])
     (.cond (.t 45)
      (.seq
       (.reg [4] [
         ⟨none, (some 4), .mov (.c (.bool true)), []⟩])
       .ret)
      .skip))
    (.seq
     (.reg [5] [
       ⟨none, (some 46), .mov (.t 0), []⟩,
       ⟨none, (some 47), .call true 85 [.t 46], []⟩,
       ⟨none, (some 5), .mov (.t 47), []⟩])
     (.seq
      (.reg [6, 7] [
        ⟨none, (some 49), .mov (.t 5), []⟩,
        ⟨none, (some 50), .call true 86 [.t 49], []⟩,
        ⟨none, (some 48), .mov (.t 50), []⟩,
        ⟨none, (some 51), .ext (.t 48) 0, []⟩,
        ⟨none, (some 52), .ext (.t 48) 1, []⟩,
        ⟨none, (some 6), .mov (.t 51), []⟩,
        ⟨none, (some 7), .mov (.t 52), []⟩])
      (.seq
       (.reg [8, 9] [
         ⟨none, (some 54), .mov (.t 5), []⟩,
         ⟨none, (some 55), .call true 87 [.t 54], []⟩,
         ⟨none, (some 53), .mov (.t 55), []⟩,
         ⟨none, (some 56), .ext (.t 53) 0, []⟩,
         ⟨none, (some 57), .ext (.t 53) 1, []⟩,
         ⟨none, (some 8), .mov (.t 56), []⟩,
         ⟨none, (some 9), .mov (.t 57), []⟩])
       (.seq
        (.reg [10, 12] [
          ⟨none, (some 59), .mov (.t 5), []⟩,
          ⟨none, (some 60), .call true 88 [.t 59], []⟩,
          ⟨none, (some 58), .mov (.t 60), []⟩,
          ⟨none, (some 61), .ext (.t 58) 0, []⟩,
          ⟨none, (some 62), .ext (.t 58) 1, []⟩,
          ⟨none, (some 63), .ext (.t 58) 2, []⟩,
          ⟨none, (some 10), .mov (.t 61), []⟩,
          ⟨none, (some 11), .mov (.t 62), []⟩,
          ⟨none, (some 12), .mov (.t 63), []⟩])
        (.seq
         (.reg [13, 14] [
           ⟨none, (some 65), .mov (.t 10), []⟩,
           ⟨none, (some 66), .mov (.t 8), []⟩,
           ⟨none, (some 67), .call true 89 [.t 65, .t 66], []⟩,
           ⟨none, (some 64), .mov (.t 67), []⟩,
           ⟨none, (some 68), .ext (.t 64) 0, []⟩,
           ⟨none, (some 69), .ext (.t 64) 1, []⟩,
           ⟨none, (some 13), .mov (.t 68), []⟩,
           ⟨none, (some 14), .mov (.t 69), []⟩])
         (.seq
          (.seq
           (.reg [96] [
             ⟨none, (some 70), .mov (.t 7), []⟩,
             ⟨none, (some 71), .mov (.t 9), []⟩,
             ⟨none, (some 72), .bin .neq (.t 70) (.t 71), []⟩,
             ⟨none, (some 73), .mov (.t 72), []⟩,
             ⟨(some (73, false)), (some 74), .mov (.t 7), []⟩,
             ⟨(some (73, false)), (some 75), .bin .neq (.t 74) (.c (.int .i64 0)), []⟩,
             ⟨none, (some 76), .pick (.t 73) (.c (.bool true)) (.t 75), []⟩,
             ⟨none, (some 77), .mov (.t 76), []⟩,
             ⟨(some (77, false)), (some 78), .mov (.t 6), []⟩,
             ⟨(some (77, false)), (some 79), .mov (.t 8), []⟩,
             ⟨(some (77, false)), (some 80), .call true 90 [.t 78, .t 79], []⟩,
             ⟨(some (77, false)), (some 81), .un .not (.t 80), []⟩,
             ⟨none, (some 82), .pick (.t 77) (.c (.bool true)) (.t 81), []⟩,
             ⟨none, (some 83), .mov (.t 82), []⟩,
             ⟨(some (83, false)), (some 84), .mov (.t 12), []⟩,
             ⟨(some (83, false)), (some 85), .bin .neq (.t 84) (.c (.int .i64 0)), []⟩,
             ⟨none, (some 86), .pick (.t 83) (.c (.bool true)) (.t 85), []⟩,
             ⟨none, (some 87), .mov (.t 86), []⟩,
             ⟨(some (87, false)), (some 88), .mov (.t 14), []⟩,
             ⟨(some (87, false)), (some 89), .bin .neq (.t 88) (.c (.int .i64 0)), []⟩,
             ⟨none, (some 90), .pick (.t 87) (.c (.bool true)) (.t 89), []⟩,
             ⟨none, (some 91), .mov (.t 90), []⟩,
             ⟨(some (91, false)), (some 92), .mov (.t 13), []⟩,
             ⟨(some (91, false)), (some 93), .mov (.t 5), []⟩,
             ⟨(some (91, false)), (some 94), .call true 91 [.t 92, .t 93], []⟩,
             ⟨(some (91, false)), (some 95), .un .not (.t 94), []⟩,
             ⟨none, (some 96), .pick (.t 91) (.c (.bool true)) (.t 95), []⟩])
           (.cond (.t 96)
            (.seq
             (.reg [4] [
               ⟨none, (some 4), .mov (.c (.bool false)), []⟩])
             .ret)
            .skip))
          (.seq
           (.reg [15, 16, 17, 18] [
             ⟨none, (some 98), .mov (.t 5), []⟩,
             ⟨none, (some 99), .call true 92 [.t 98, .c (.int .i64 2)], []⟩,
             ⟨none, (some 97), .mov (.t 99), []⟩,
             ⟨none, (some 100), .ext (.t 97) 0, []⟩,
             ⟨none, (some 101), .ext (.t 97) 1, []⟩,
             ⟨none, (some 102), .ext (.t 97) 2, []⟩,
             ⟨none, (some 103), .ext (.t 97) 3, []⟩,
             ⟨none, (some 15), .mov (.t 100), []⟩,
             ⟨none, (some 16), .mov (.t 101), []⟩,
             ⟨none, (some 17), .mov (.t 102), []⟩,
             ⟨none, (some 18), .mov (.t 103), []⟩])
           (.seq
            (.reg [19, 20, 21, 22] [
              ⟨none, (some 105), .mov (.t 5), []⟩,
              ⟨none, (some 106), .call true 93 [.t 105, .c (.int .i64 2)], []⟩,
              ⟨none, (some 104), .mov (.t 106), []⟩,
              ⟨none, (some 107), .ext (.t 104) 0, []⟩,
              ⟨none, (some 108), .ext (.t 104) 1, []⟩,
              ⟨none, (some 109), .ext (.t 104) 2, []⟩,
              ⟨none, (some 110), .ext (.t 104) 3, []⟩,
              ⟨none, (some 19), .mov (.t 107), []⟩,
              ⟨none, (some 20), .mov (.t 108), []⟩,
              ⟨none, (some 21), .mov (.t 109), []⟩,
              ⟨none, (some 22), .mov (.t 110), []⟩])
            (.seq
             (.reg [23, 24] [
               ⟨none, (some 112), .mov (.t 5), []⟩,
               ⟨none, (some 113), .call true 94 [.t 112], []⟩,
               ⟨none, (some 111), .mov (.t 113), []⟩,
               ⟨none, (some 114), .ext (.t 111) 0, []⟩,
               ⟨none, (some 115), .ext (.t 111) 1, []⟩,
               ⟨none, (some 23), .mov (.t 114), []⟩,
               ⟨none, (some 24), .mov (.t 115), []⟩])
             (.seq
              (.seq
               (.reg [146] [
                 ⟨none, (some 116), .mov (.t 18), []⟩,
                 ⟨none, (some 117), .mov (.t 22), []⟩,
                 ⟨none, (some 118), .bin .neq (.t 116) (.t 117), []⟩,
                 ⟨none, (some 119), .mov (.t 118), []⟩,
                 ⟨(some (119, false)), (some 120), .mov (.t 15), []⟩,
                 ⟨(some (119, false)), (some 121), .mov (.t 19), []⟩,
                 ⟨(some (119, false)), (some 122), .bin .neq (.t 120) (.t 121), []⟩,
                 ⟨none, (some 123), .pick (.t 119) (.c (.bool true)) (.t 122), []⟩,
                 ⟨none, (some 124), .mov (.t 123), []⟩,
                 ⟨(some (124, false)), (some 125), .mov (.t 16), []⟩,
                 ⟨(some (124, false)), (some 126), .mov (.t 20), []⟩,
                 ⟨(some (124, false)), (some 127), .bin .neq (.t 125) (.t 126), []⟩,
                 ⟨none, (some 128), .pick (.t 124) (.c (.bool true)) (.t 127), []⟩,
                 ⟨none, (some 129), .mov (.t 128), []⟩,
                 ⟨(some (129, false)), (some 130), .mov (.t 17), []⟩,
                 ⟨(some (129, false)), (some 131), .mov (.t 21), []⟩,
                 ⟨(some (129, false)), (some 132), .bin .neq (.t 130) (.t 131), []⟩,
                 ⟨none, (some 133), .pick (.t 129) (.c (.bool true)) (.t 132), []⟩,
                 ⟨none, (some 134), .mov (.t 133), []⟩,
                 ⟨(some (134, false)), (some 135), .mov (.t 24), []⟩,
                 ⟨(some (134, false)), (some 136), .bin .neq (.t 135) (.c (.int .i64 0)), []⟩,
                 ⟨none, (some 137), .pick (.t 134) (.c (.bool true)) (.t 136), []⟩,
                 ⟨none, (some 138), .mov (.t 137), []⟩,
                 ⟨(some (138, false)), (some 139), .mov (.t 23), []⟩,
                 ⟨(some (138, false)), (some 140), .len (.t 139), []⟩,
                 ⟨(some (138, false)), (some 141), .mov (.t 5), []⟩,
                 ⟨(some (138, false)), (some 142), .len (.t 141), []⟩,
                 ⟨(some (138, false)), (some 143), .bin .sub (.t 142) (.c (.int .i64 1)), []⟩,
                 ⟨(some (138, false)), (some 144), .mx (.c (.int .i64 0)) (.t 143), []⟩,
                 ⟨(some (138, false)), (some 145), .bin .neq (.t 140) (.t 144), []⟩,
                 ⟨none, (some 146), .pick (.t 138) (.c (.bool true)) (.t 145), []⟩])
               (.cond (.t 146)
                (.seq
                 (.reg [4] [
                   ⟨none, (some 4), .mov (.c (.bool false)), []⟩])
                 .ret)
                .skip))
              (.seq
               (.seq
                (.reg [25] [
                  ⟨none, (some 25), .mov (.c (.int .i64 0)), []⟩])
                (.block 0
                 (.loop b10_1)))
               (.seq
                (.reg [28] [
                  ⟨none, (some 181), .mov (.t 1), []⟩,
                  ⟨none, (some 182), .call true 96 [.t 181], []⟩,
                  ⟨none, (some 28), .mov (.t 182), []⟩])
                (.seq
                 (.reg [29, 30] [
                   ⟨none, (some 184), .mov (.t 28), []⟩,
                   ⟨none, (some 185), .call true 97 [.t 184, .c (.int .i64 3), .c (.int .i64 (-2))], []⟩,
                   ⟨none, (some 183), .mov (.t 185), []⟩,
                   ⟨none, (some 186), .ext (.t 183) 0, []⟩,
                   ⟨none, (some 187), .ext (.t 183) 1, []⟩,
                   ⟨none, (some 29), .zero true (zs 12 (.int .u16 0)), []⟩,
                   ⟨none, (some 29), .stV 29 none 12 (.t 186), []⟩,
                   ⟨none, (some 30), .mov (.t 187), []⟩])
                 (.seq
                  (.reg [31, 32] [
                    ⟨none, (some 189), .mov (.t 28), []⟩,
                    ⟨none, (some 190), .call true 98 [.t 189, .c (.int .i64 3), .c (.int .i64 (-2))], []⟩,
                    ⟨none, (some 188), .mov (.t 190), []⟩,
                    ⟨none, (some 191), .ext (.t 188) 0, []⟩,
                    ⟨none, (some 192), .ext (.t 188) 1, []⟩,
                    ⟨none, (some 31), .zero true (zs 12 (.int .u16 0)), []⟩,
                    ⟨none, (some 31), .stV 31 none 12 (.t 191), []⟩,
                    ⟨none, (some 32), .mov (.t 192), []⟩])
                  (.seq
                   (.reg [33, 34] [
                     ⟨none, (some 194), .mov (.t 28), []⟩,
                     ⟨none, (some 195), .call true 99 [.t 194, .c (.int .i64 3), .c (.int .i64 (-2))], []⟩,
                     ⟨none, (some 193), .mov (.t 195), []⟩,
                     ⟨none, (some 196), .ext (.t 193) 0, []⟩,
                     ⟨none, (some 197), .ext (.t 193) 1, []⟩,
                     ⟨none, (some 33), .zero true (zs 24 (.int .u16 0)), []⟩,
                     ⟨none, (some 33), .stV 33 none 24 (.t 196), []⟩,
                     ⟨none, (some 34), .mov (.t 197), []⟩])
                   (.seq
                    (.reg [35, 36] [
                      ⟨none, (some 199), .ldV 33 none 24 true, []⟩,
                      ⟨none, (some 200), .call true 100 [.t 199], []⟩,
                      ⟨none, (some 198), .mov (.t 200), []⟩,
                      ⟨none, (some 201), .ext (.t 198) 0, []⟩,
                      ⟨none, (some 202), .ext (.t 198) 1, []⟩,
                      ⟨none, (some 35), .zero true (zs 12 (.int .u16 0)), []⟩,
                      ⟨none, (some 35), .stV 35 none 12 (.t 201), []⟩,
                      ⟨none, (some 36), .mov (.t 202), []⟩])
                    (.seq
                     (.seq
                      (.reg [227] [
                        ⟨none, (some 203), .mov (.t 30), []⟩,
                        ⟨none, (some 204), .mov (.t 32), []⟩,
                        ⟨none, (some 205), .bin .neq (.t 203) (.t 204), []⟩,
                        ⟨none, (some 206), .mov (.t 205), []⟩,
                        ⟨(some (206, false)), (some 207), .mov (.t 30), []⟩,
                        ⟨(some (206, false)), (some 208), .bin .neq (.t 207) (.c (.int .i64 0)), []⟩,
                        ⟨none, (some 209), .pick (.t 206) (.c (.bool true)) (.t 208), []⟩,
                        ⟨none, (some 210), .mov (.t 209), []⟩,
                        ⟨(some (210, false)), (some 211), .ldV 29 none 12 true, []⟩,
                        ⟨(some (210, false)), (some 212), .ldV 31 none 12 true, []⟩,
                        ⟨(some (210, false)), (some 213), .eq (.a (rb 12 (some .u16))) true (.t 211) (.t 212), []⟩,
                        ⟨none, (some 214), .pick (.t 210) (.c (.bool true)) (.t 213), []⟩,
                        ⟨none, (some 215), .mov (.t 214), []⟩,
                        ⟨(some (215, false)), (some 216), .mov (.t 34), []⟩,
                        ⟨(some (215, false)), (some 217), .bin .neq (.t 216) (.c (.int .i64 0)), []⟩,
                        ⟨none, (some 218), .pick (.t 215) (.c (.bool true)) (.t 217), []⟩,
                        ⟨none, (some 219), .mov (.t 218), []⟩,
                        ⟨(some (219, false)), (some 220), .mov (.t 36), []⟩,
                        ⟨(some (219, false)), (some 221), .bin .neq (.t 220) (.c (.int .i64 0)), []⟩,
                        ⟨none, (some 222), .pick (.t 219) (.c (.bool true)) (.t 221), []⟩,
                        ⟨none, (some 223), .mov (.t 222), []⟩,
                        ⟨(some (223, false)), (some 224), .ldV 35 none 12 true, []⟩,
                        ⟨(some (223, false)), (some 225), .ldV 31 none 12 true, []⟩,
                        ⟨(some (223, false)), (some 226), .eq (.a (rb 12 (some .u16))) true (.t 224) (.t 225), []⟩,
                        ⟨none, (some 227), .pick (.t 223) (.c (.bool true)) (.t 226), []⟩])
                      (.cond (.t 227)
                       (.seq
                        (.reg [4] [
                          ⟨none, (some 4), .mov (.c (.bool false)), []⟩])
                        .ret)
                       .skip))
                     (.seq
                      (.seq
                       (.reg [230] [
                         ⟨none, (some 228), .mov (.t 28), []⟩,
                         ⟨none, (some 229), .len (.t 228), []⟩,
                         ⟨none, (some 230), .bin .eql (.t 229) (.c (.int .i64 0)), []⟩])
                       (.cond (.t 230)
                        (.seq
                         (.reg [4] [
                           ⟨none, (some 231), .ldV 31 none 12 true, []⟩,
                           ⟨none, (some 232), .agg (zs 12 (.int .u16 0)) [], []⟩,
                           ⟨none, (some 233), .eq (.a (rb 12 (some .u16))) false (.t 231) (.t 232), []⟩,
                           ⟨none, (some 4), .mov (.t 233), []⟩])
                         .ret)
                        .skip))
                      (.seq
                       (.reg [37, 38, 39] [
                         ⟨none, (some 235), .mov (.t 28), []⟩,
                         ⟨none, (some 236), .call true 101 [.t 235, .c (.int .i64 0), .c (.int .i64 3), .c (.int .i64 (-2))], []⟩,
                         ⟨none, (some 234), .mov (.t 236), []⟩,
                         ⟨none, (some 237), .ext (.t 234) 0, []⟩,
                         ⟨none, (some 238), .ext (.t 234) 1, []⟩,
                         ⟨none, (some 239), .ext (.t 234) 2, []⟩,
                         ⟨none, (some 37), .mov (.t 237), []⟩,
                         ⟨none, (some 38), .mov (.t 238), []⟩,
                         ⟨none, (some 39), .mov (.t 239), []⟩])
                       (.seq
                        (.reg [40, 41] [
                          ⟨none, (some 241), .mov (.t 28), []⟩,
                          ⟨none, (some 242), .idxA 27 (.t 241) (.c (.int .i64 0)), []⟩,
                          ⟨none, (some 243), .fldP 0 (.t 242), []⟩,
                          ⟨none, (some 244), .ld 24 true (.t 243), []⟩,
                          ⟨none, (some 245), .mov (.t 37), []⟩,
                          ⟨none, (some 246), .mov (.t 38), []⟩,
                          ⟨none, (some 247), .call true 102 [.t 244, .t 245, .t 246], []⟩,
                          ⟨none, (some 240), .mov (.t 247), []⟩,
                          ⟨none, (some 248), .ext (.t 240) 0, []⟩,
                          ⟨none, (some 249), .ext (.t 240) 1, []⟩,
                          ⟨none, (some 40), .zero true (zs 24 (.int .u16 0)), []⟩,
                          ⟨none, (some 40), .stV 40 none 24 (.t 248), []⟩,
                          ⟨none, (some 41), .mov (.t 249), []⟩])
                        (.seq
                         (.seq
                          (.reg [255] [
                            ⟨none, (some 250), .mov (.t 39), []⟩,
                            ⟨none, (some 251), .bin .neq (.t 250) (.c (.int .i64 0)), []⟩,
                            ⟨none, (some 252), .mov (.t 251), []⟩,
                            ⟨(some (252, false)), (some 253), .mov (.t 41), []⟩,
                            ⟨(some (252, false)), (some 254), .bin .neq (.t 253) (.c (.int .i64 0)), []⟩,
                            ⟨none, (some 255), .pick (.t 252) (.c (.bool true)) (.t 254), []⟩])
                          (.cond (.t 255)
                           (.seq
                            (.reg [4] [
                              ⟨none, (some 4), .mov (.c (.bool false)), []⟩])
                            .ret)
                           .skip))
                         (.seq
                          (.seq
                           (.reg [42] [
                             ⟨none, (some 42), .mov (.c (.int .i64 0)), []⟩])
                           (.block 2
                            (.loop b10_2)))
                          (.seq
                           (.reg [4] [
                             ⟨none, (some 4), .mov (.c (.bool true)), []⟩])
                           .ret)))))))))))))))))))))))))
def c10 : Fn := { np := 2, nt := 284, kind := .pure, res := [.t 4], body := k10 }

/- laws.a2Long -/
def k84 : Cd :=
  (.seq
   (.reg [4] [
     ⟨none, (some 4), .mov (.c (.bool false)), []⟩])
   (.seq
    (.reg [4] [
      ⟨none, (some 5), .mov (.t 0), []⟩,
      ⟨none, (some 6), .len (.t 5), []⟩,
      ⟨none, (some 7), .bin .gtr (.t 6) (.c (.int .i64 3000)), []⟩,
      ⟨none, (some 8), .mov (.t 7), []⟩,
      ⟨(some (8, false)), (some 9), .mov (.t 1), []⟩,
      ⟨(some (8, false)), (some 10), .len (.t 9), []⟩,
      ⟨(some (8, false)), (some 11), .bin .gtr (.t 10) (.c (.int .i64 3000)), []⟩,
      ⟨none, (some 12), .pick (.t 8) (.c (.bool true)) (.t 11), []⟩,
      ⟨none, (some 4), .mov (.t 12), []⟩])
    .ret))
def c84 : Fn := { np := 2, nt := 13, kind := .pure, res := [.t 4], body := k84 }

/- spec.A2Book -/
def k85 : Cd :=
  (.seq
   (.reg [2] [
     ⟨none, (some 2), .mov (.c (.slice none 0 0)), []⟩])
   (.seq
    (.reg [2] [
      ⟨none, (some 3), .mov (.t 0), []⟩,
      ⟨none, (some 4), .call true 315 [.t 3], []⟩,
      ⟨none, (some 5), .call false 314 [.t 4, .c (.int .i64 7)], []⟩,
      ⟨none, (some 2), .mov (.t 5), []⟩])
    .ret))
def c85 : Fn := { np := 1, nt := 6, kind := .pure, res := [.t 2], body := k85 }

/- impl.SheetOf -/
def b86_1 : Cd :=
  (.seq
   (.reg [21] [
     ⟨none, (some 21), .bin .lss (.t 20) (.t 19), []⟩])
   (.seq
    (.cond (.t 21)
     .skip
     (.exit 0))
    (.seq
     (.block 1
      (.seq
       (.reg [7, 8] [
         ⟨none, (some 22), .mov (.t 20), []⟩,
         ⟨none, (some 23), .idxA 1 (.t 18) (.t 20), []⟩,
         ⟨none, (some 24), .ld 1 false (.t 23), []⟩,
         ⟨none, (some 7), .mov (.t 22), []⟩,
         ⟨none, (some 8), .mov (.t 24), []⟩])
       (.seq
        (.seq
         (.reg [35] [
           ⟨none, (some 25), .mov (.t 7), []⟩,
           ⟨none, (some 26), .bin .eql (.t 25) (.c (.int .i64 0)), []⟩,
           ⟨none, (some 27), .mov (.t 26), []⟩,
           ⟨(some (27, false)), (some 28), .mov (.t 5), []⟩,
           ⟨(some (27, false)), (some 29), .mov (.t 7), []⟩,
           ⟨(some (27, false)), (some 30), .bin .sub (.t 29) (.c (.int .i64 1)), []⟩,
           ⟨(some (27, false)), (some 31), .idxA 1 (.t 28) (.t 30), []⟩,
           ⟨(some (27, false)), (some 32), .ld 1 false (.t 31), []⟩,
           ⟨(some (27, false)), (some 33), .mov (.t 8), []⟩,
           ⟨(some (27, false)), (some 34), .bin .neq (.t 32) (.t 33), []⟩,
           ⟨none, (some 35), .pick (.t 27) (.c (.bool true)) (.t 34), []⟩])
         (.cond (.t 35)
          (.reg [6] [
            ⟨none, (some 36), .mov (.t 6), []⟩,
            ⟨none, (some 37), .mov (.t 8), []⟩,
            ⟨none, (some 38), .conv .i8 (.t 37), []⟩,
            ⟨none, (some 39), .agg [.int .i8 0, .int .i8 0] [(0, 1, (.t 38))], []⟩,
            ⟨none, (some 40), .bldS 2 1 [.int .i8 0, .int .i8 0] [(0, 2, (.t 39))], []⟩,
            ⟨none, (some 41), .app 2 2 (.t 36) (.t 40), []⟩,
            ⟨none, (some 6), .mov (.t 41), []⟩])
          .skip))
        (.seq
         (.reg [] [
           ⟨none, (some 42), .mov (.t 6), []⟩,
           ⟨none, (some 43), .mov (.t 6), []⟩,
           ⟨none, (some 44), .len (.t 43), []⟩,
           ⟨none, (some 45), .bin .sub (.t 44) (.c (.int .i64 1)), []⟩,
           ⟨none, (some 46), .idxA 2 (.t 42) (.t 45), []⟩,
           ⟨none, (some 47), .fldP 1 (.t 46), []⟩,
           ⟨none, (some 48), .ld 1 false (.t 47), []⟩,
           ⟨none, (some 49), .bin .add (.t 48) (.c (.int .i8 1)), []⟩,
           ⟨none, (some 50), .idxA 2 (.t 42) (.t 45), []⟩,
           ⟨none, (some 51), .fldP 1 (.t 50), []⟩,
           ⟨none, none, .st 1 (.t 51) (.t 49), []⟩])
         (.seq
          (.reg [59] [
            ⟨none, (some 52), .mov (.t 6), []⟩,
            ⟨none, (some 53), .mov (.t 6), []⟩,
            ⟨none, (some 54), .len (.t 53), []⟩,
            ⟨none, (some 55), .bin .sub (.t 54) (.c (.int .i64 1)), []⟩,
            ⟨none, (some 56), .idxA 2 (.t 52) (.t 55), []⟩,
            ⟨none, (some 57), .fldP 1 (.t 56), []⟩,
            ⟨none, (some 58), .ld 1 false (.t 57), []⟩,
            ⟨none, (some 59), .bin .gtr (.t 58) (.c (.int .i8 24)), []⟩])
          (.cond (.t 59)
           (.seq
            (.reg [2, 3] [
              ⟨none, (some 2), .mov (.c (.slice none 0 0)), []⟩,
              ⟨none, (some 3), .mov (.c (.int .i64 3)), []⟩])
            .ret)
           .skip))))))
     (.reg [20] [
       ⟨none, (some 60), .bin .add (.t 20) (.c (.int .i64 1)), []⟩,
       ⟨none, (some 20), .mov (.t 60), []⟩]))))
def k86 : Cd :=
  (.seq
   (.reg [2, 3] [
     ⟨none, (some 2), .mov (.c (.slice none 0 0)), []⟩,
     ⟨none, (some 3), .mov (.c (.int .i64 0)), []⟩])
   (.seq
    (.seq
     (.reg [11] [
       ⟨none, (some 9), .mov (.t 0), []⟩,
       ⟨none, (some 10), .call true 316 [.t 9], []⟩,
       ⟨none, (some 11), .un .not (.t 10), []⟩])
     (.cond (.t 11)
      (.seq
       (.reg [2, 3] [
         ⟨none, (some 2), .mov (.c (.slice none 0 0)), []⟩,
         ⟨none, (some 3), .mov (.c (.int .i64 1)), []⟩])
       .ret)
      .skip))
    (.seq
     (.reg [5] [
       ⟨none, (some 13), .mov (.t 0), []⟩,
       ⟨none, (some 14), .call true 317 [.t 13], []⟩,
       ⟨none, (some 12), .mov (.t 14), []⟩,
       ⟨none, (some 15), .ext (.t 12) 0, []⟩,
       ⟨none, (some 16), .ext (.t 12) 1, []⟩,
       ⟨none, (some 4), .mov (.t 15), []⟩,
       ⟨none, (some 5), .mov (.t 16), []⟩])
     (.seq
      (.reg [6] [
        ⟨none, (some 17), .bldS 2 0 [.int .i8 0, .int .i8 0] [], []⟩,
        ⟨none, (some 6), .mov (.t 17), []⟩])
      (.seq
       (.seq
        (.reg [18, 19, 20] [
          ⟨none, (some 18), .mov (.t 5), []⟩,
          ⟨none, (some 19), .len (.t 18), []⟩,
          ⟨none, (some 20), .mov (.c (.int .i64 0)), []⟩])
        (.block 0
         (.loop b86_1)))
       (.seq
        (.reg [2, 3] [
          ⟨none, (some 61), .mov (.t 6), []⟩,
          ⟨none, (some 2), .mov (.t 61), []⟩,
          ⟨none, (some 3), .mov (.c (.int .i64 0)), []⟩])
        .ret))))))
def c86 : Fn := { np := 1, nt := 62, kind := .pure, res := [.t 2, .t 3], body := k86 }

/- spec.SheetOf -/
def b87_1 : Cd :=
  (.seq
   (.seq
    (.reg [21] [
      ⟨none, (some 18), .mov (.t 7), []⟩,
      ⟨none, (some 19), .mov (.t 5), []⟩,
      ⟨none, (some 20), .len (.t 19), []⟩,
      ⟨none, (some 21), .bin .lss (.t 18) (.t 20), []⟩])
    (.cond (.t 21)
     .skip
     (.exit 0)))
   (.seq
    (.block 1
     (.seq
      (.reg [37] [
        ⟨none, (some 24), .mov (.t 7), []⟩,
        ⟨none, (some 25), .bin .gtr (.t 24) (.c (.int .i64 0)), []⟩,
        ⟨none, (some 26), .mov (.t 25), []⟩,
        ⟨(some (26, true)), (some 27), .mov (.t 5), []⟩,
        ⟨(some (26, true)), (some 28), .mov (.t 7), []⟩,
        ⟨(some (26, true)), (some 29), .idxA 1 (.t 27) (.t 28), []⟩,
        ⟨(some (26, true)), (some 30), .ld 1 false (.t 29), []⟩,
        ⟨(some (26, true)), (some 31), .mov (.t 5), []⟩,
        ⟨(some (26, true)), (some 32), .mov (.t 7), []⟩,
        ⟨(some (26, true)), (some 33), .bin .sub (.t 32) (.c (.int .i64 1)), []⟩,
        ⟨(some (26, true)), (some 34), .idxA 1 (.t 31) (.t 33), []⟩,
        ⟨(some (26, true)), (some 35), .ld 1 false (.t 34), []⟩,
        ⟨(some (26, true)), (some 36), .bin .eql (.t 30) (.t 35), []⟩,
        ⟨none, (some 37), .pick (.t 26) (.t 36) (.c (.bool false)), []⟩])
      (.cond (.t 37)
       (.seq
        (.seq
         (.reg [45] [
           ⟨none, (some 38), .mov (.t 6), []⟩,
           ⟨none, (some 39), .mov (.t 6), []⟩,
           ⟨none, (some 40), .len (.t 39), []⟩,
           ⟨none, (some 41), .bin .sub (.t 40) (.c (.int .i64 1)), []⟩,
           ⟨none, (some 42), .idxA 2 (.t 38) (.t 41), []⟩,
           ⟨none, (some 43), .fldP 1 (.t 42), []⟩,
           ⟨none, (some 44), .ld 1 false (.t 43), []⟩,
           ⟨none, (some 45), .bin .eql (.t 44) (.c (.int .i8 24)), []⟩])
         (.cond (.t 45)
          (.seq
           (.reg [2, 3] [
             ⟨none, (some 46), .bldS 2 0 [.int .i8 0, .int .i8 0] [], []⟩,
             ⟨none, (some 2), .mov (.t 46), []⟩,
             ⟨none, (some 3), .mov (.c (.int .i64 3)), []⟩])
           .ret)
          .skip))
        (.reg [] [
          ⟨none, (some 47), .mov (.t 6), []⟩,
          ⟨none, (some 48), .mov (.t 6), []⟩,
          ⟨none, (some 49), .len (.t 48), []⟩,
          ⟨none, (some 50), .bin .sub (.t 49) (.c (.int .i64 1)), []⟩,
          ⟨none, (some 51), .idxA 2 (.t 47) (.t 50), []⟩,
          ⟨none, (some 52), .fldP 1 (.t 51), []⟩,
          ⟨none, (some 53), .ld 1 false (.t 52), []⟩,
          ⟨none, (some 54), .bin .add (.t 53) (.c (.int .i8 1)), []⟩,
          ⟨none, (some 55), .idxA 2 (.t 47) (.t 50), []⟩,
          ⟨none, (some 56), .fldP 1 (.t 55), []⟩,
          ⟨none, none, .st 1 (.t 56) (.t 54), []⟩]))
       (.reg [6] [
         ⟨none, (some 57), .mov (.t 6), []⟩,
         ⟨none, (some 58), .mov (.t 5), []⟩,
         ⟨none, (some 59), .mov (.t 7), []⟩,
         ⟨none, (some 60), .idxA 1 (.t 58) (.t 59), []⟩,
         ⟨none, (some 61), .ld 1 false (.t 60), []⟩,
         ⟨none, (some 62), .conv .i8 (.t 61), []⟩,
         ⟨none, (some 63), .agg [.int .i8 0, .int .i8 0] [(0, 1, (.t 62)), (1, 1, (.c (.int .i8 1)))], []⟩,
         ⟨none, (some 64), .bldS 2 1 [.int .i8 0, .int .i8 0] [(0, 2, (.t 63))], []⟩,
         ⟨none, (some 65), .app 2 2 (.t 57) (.t 64), []⟩,
         ⟨none, (some 6), .mov (.t 65), []⟩]))))
    (.reg [7] [
      ⟨none, (some 22), .mov (.t 7), []⟩,
      ⟨none, (some 23), .bin .add (.t 22) (.c (.int .i64 1)), []⟩,
      ⟨none, (some 7), .mov (.t 23), []⟩])))
def k87 : Cd :=
  (.seq
   (.reg [2, 3] [
     ⟨none, (some 2), .mov (.c (.slice none 0 0)), []⟩,
     ⟨none, (some 3), .mov (.c (.int .i64 0)), []⟩])
   (.seq
    (.seq
     (.reg [10] [
       ⟨none, (some 8), .mov (.t 0), []⟩,
       ⟨none, (some 9), .call true 318 [.t 8], []⟩,
       ⟨none, (some 10), .un .not (.t 9), []⟩])
     (.cond (.t 10)
      (.seq
       (.reg [2, 3] [
         ⟨none, (some 11), .bldS 2 0 [.int .i8 0, .int .i8 0] [], []⟩,
         ⟨none, (some 2), .mov (.t 11), []⟩,
         ⟨none, (some 3), .mov (.c (.int .i64 1)), []⟩])
       .ret)
      .skip))
    (.seq
     (.reg [5] [
       ⟨none, (some 13), .mov (.t 0), []⟩,
       ⟨none, (some 14), .call true 319 [.t 13], []⟩,
       ⟨none, (some 12), .mov (.t 14), []⟩,
       ⟨none, (some 15), .ext (.t 12) 0, []⟩,
       ⟨none, (some 16), .ext (.t 12) 1, []⟩,
       ⟨none, (some 4), .mov (.t 15), []⟩,
       ⟨none, (some 5), .mov (.t 16), []⟩])
     (.seq
      (.reg [6] [
        ⟨none, (some 17), .bldS 2 0 [.int .i8 0, .int .i8 0] [], []⟩,
        ⟨none, (some 6), .mov (.t 17), []⟩])
      (.seq
       (.seq
        (.reg [7] [
          ⟨none, (some 7), .mov (.c (.int .i64 0)), []⟩])
        (.block 0
         (.loop b87_1)))
       (.seq
        (.reg [2, 3] [
          ⟨none, (some 66), .mov (.t 6), []⟩,
          ⟨none, (some 2), .mov (.t 66), []⟩,
          ⟨none, (some 3), .mov (.c (.int .i64 0)), []⟩])
        .ret))))))
def c87 : Fn := { np := 1, nt := 67, kind := .pure, res := [.t 2, .t 3], body := k87 }

/- spec.DistinctPages -/
def k88 : Cd :=
  (.seq
   (.reg [2, 3, 4] [
     ⟨none, (some 2), .mov (.c (.slice none 0 0)), []⟩,
     ⟨none, (some 3), .mov (.c (.slice none 0 0)), []⟩,
     ⟨none, (some 4), .mov (.c (.int .i64 0)), []⟩])
   (.seq
    (.seq
     (.reg [9] [
       ⟨none, (some 7), .mov (.t 0), []⟩,
       ⟨none, (some 8), .call true 318 [.t 7], []⟩,
       ⟨none, (some 9), .un .not (.t 8), []⟩])
     (.cond (.t 9)
      (.seq
       (.reg [2, 3, 4] [
         ⟨none, (some 10), .bldS 12 0 (zs 12 (.int .u16 0)) [], []⟩,
         ⟨none, (some 11), .bldS 1 0 [.int .i64 0] [], []⟩,
         ⟨none, (some 2), .mov (.t 10), []⟩,
         ⟨none, (some 3), .mov (.t 11), []⟩,
         ⟨none, (some 4), .mov (.c (.int .i64 1)), []⟩])
       .ret)
      .skip))
    (.seq
     (.reg [5, 6] [
       ⟨none, (some 13), .mov (.t 0), []⟩,
       ⟨none, (some 14), .call true 319 [.t 13], []⟩,
       ⟨none, (some 12), .mov (.t 14), []⟩,
       ⟨none, (some 15), .ext (.t 12) 0, []⟩,
       ⟨none, (some 16), .ext (.t 12) 1, []⟩,
       ⟨none, (some 5), .mov (.t 15), []⟩,
       ⟨none, (some 6), .mov (.t 16), []⟩])
     (.seq
      (.reg [2, 3, 4] [
        ⟨none, (some 17), .mov (.t 5), []⟩,
        ⟨none, (some 18), .mov (.t 6), []⟩,
        ⟨none, (some 2), .mov (.t 17), []⟩,
        ⟨none, (some 3), .mov (.t 18), []⟩,
        ⟨none, (some 4), .mov (.c (.int .i64 0)), []⟩])
      .ret))))
def c88 : Fn := { np := 1, nt := 19, kind := .pure, res := [.t 2, .t 3, .t 4], body := k88 }

/- impl.PlaySheet -/
def b89_1 : Cd :=
  (.seq
   (.reg [18] [
     ⟨none, (some 18), .bin .lss (.t 17) (.t 16), []⟩])
   (.seq
    (.cond (.t 18)
     .skip
     (.exit 0))
    (.seq
     (.block 1
      (.seq
       (.reg [8] [
         ⟨none, (some 19), .idxA 1 (.t 15) (.t 17), []⟩,
         ⟨none, (some 20), .ld 1 false (.t 19), []⟩,
         ⟨none, (some 8), .mov (.t 20), []⟩])
       (.reg [6] [
         ⟨none, (some 21), .mov (.t 6), []⟩,
         ⟨none, (some 22), .mov (.t 0), []⟩,
         ⟨none, (some 23), .mov (.t 8), []⟩,
         ⟨none, (some 24), .idxA 12 (.t 22) (.t 23), []⟩,
         ⟨none, (some 25), .ld 12 true (.t 24), []⟩,
         ⟨none, (some 26), .bldS 12 1 (zs 12 (.int .u16 0)) [(0, 12, (.t 25))], []⟩,
         ⟨none, (some 27), .app 12 24 (.t 21) (.t 26), []⟩,
         ⟨none, (some 6), .mov (.t 27), []⟩])))
     (.reg [17] [
       ⟨none, (some 28), .bin .add (.t 17) (.c (.int .i64 1)), []⟩,
       ⟨none, (some 17), .mov (.t 28), []⟩]))))
def k89 : Cd :=
  (.seq
   (.reg [4, 5] [
     ⟨none, (some 4), .mov (.c (.slice none 0 0)), []⟩,
     ⟨none, (some 5), .mov (.c (.int .i64 0)), []⟩])
   (.seq
    (.seq
     (.reg [12] [
       ⟨none, (some 9), .mov (.t 0), []⟩,
       ⟨none, (some 10), .mov (.t 1), []⟩,
       ⟨none, (some 11), .call true 320 [.t 9, .t 10], []⟩,
       ⟨none, (some 12), .un .not (.t 11), []⟩])
     (.cond (.t 12)
      (.seq
       (.reg [4, 5] [
         ⟨none, (some 4), .mov (.c (.slice none 0 0)), []⟩,
         ⟨none, (some 5), .mov (.c (.int .i64 1)), []⟩])
       .ret)
      .skip))
    (.seq
     (.reg [6] [
       ⟨none, (some 13), .bldS 12 0 (zs 12 (.int .u16 0)) [], []⟩,
       ⟨none, (some 6), .mov (.t 13), []⟩])
     (.seq
      (.seq
       (.reg [15, 16, 17] [
         ⟨none, (some 14), .mov (.t 1), []⟩,
         ⟨none, (some 15), .call true 321 [.t 14], []⟩,
         ⟨none, (some 16), .len (.t 15), []⟩,
         ⟨none, (some 17), .mov (.c (.int .i64 0)), []⟩])
       (.block 0
        (.loop b89_1)))
      (.seq
       (.reg [4, 5] [
         ⟨none, (some 29), .mov (.t 6), []⟩,
         ⟨none, (some 30), .call true 322 [.t 29], []⟩,
         ⟨none, (some 31), .ext (.t 30) 0, []⟩,
         ⟨none, (some 32), .ext (.t 30) 1, []⟩,
         ⟨none, (some 4), .mov (.t 31), []⟩,
         ⟨none, (some 5), .mov (.t 32), []⟩])
       .ret)))))
def c89 : Fn := { np := 2, nt := 33, kind := .pure, res := [.t 4, .t 5], body := k89 }

/- spec.A2SameSheet -/
def b90_1 : Cd :=
  (.seq
   (.seq
    (.reg [14] [
      ⟨none, (some 11), .mov (.t 5), []⟩,
      ⟨none, (some 12), .mov (.t 0), []⟩,
      ⟨none, (some 13), .len (.t 12), []⟩,
      ⟨none, (some 14), .bin .lss (.t 11) (.t 13), []⟩])
    (.cond (.t 14)
     .skip
     (.exit 0)))
   (.seq
    (.block 1
     (.seq
      (.reg [25] [
        ⟨none, (some 17), .mov (.t 0), []⟩,
        ⟨none, (some 18), .mov (.t 5), []⟩,
        ⟨none, (some 19), .idxA 2 (.t 17) (.t 18), []⟩,
        ⟨none, (some 20), .ld 2 true (.t 19), []⟩,
        ⟨none, (some 21), .mov (.t 1), []⟩,
        ⟨none, (some 22), .mov (.t 5), []⟩,
        ⟨none, (some 23), .idxA 2 (.t 21) (.t 22), []⟩,
        ⟨none, (some 24), .ld 2 true (.t 23), []⟩,
        ⟨none, (some 25), .eq (.a (rb 2 (some .i8))) true (.t 20) (.t 24), []⟩])
      (.cond (.t 25)
       (.seq
        (.reg [4] [
          ⟨none, (some 4), .mov (.c (.bool false)), []⟩])
        .ret)
       .skip)))
    (.reg [5] [
      ⟨none, (some 15), .mov (.t 5), []⟩,
      ⟨none, (some 16), .bin .add (.t 15) (.c (.int .i64 1)), []⟩,
      ⟨none, (some 5), .mov (.t 16), []⟩])))
def k90 : Cd :=
  (.seq
   (.reg [4] [
     ⟨none, (some 4), .mov (.c (.bool false)), []⟩])
   (.seq
    (.seq
     (.reg [10] [
       ⟨none, (some 6), .mov (.t 0), []⟩,
       ⟨none, (some 7), .len (.t 6), []⟩,
       ⟨none, (some 8), .mov (.t 1), []⟩,
       ⟨none, (some 9), .len (.t 8), []⟩,
       ⟨none, (some 10), .bin .neq (.t 7) (.t 9), []⟩])
     (.cond (.t 10)
      (.seq
       (.reg [4] [
         ⟨none, (some 4), .mov (.c (.bool false)), []⟩])
       .ret)
      .skip))
    (.seq
     (.seq
      (.reg [5] [
        ⟨none, (some 5), .mov (.c (.int .i64 0)), []⟩])
      (.block 0
       (.loop b90_1)))
     (.seq
      (.reg [4] [
        ⟨none, (some 4), .mov (.c (.bool true)), []⟩])
      .ret))))
def c90 : Fn := { np := 2, nt := 26, kind := .pure, res := [.t 4], body := k90 }

/- spec.SameBook -/
def k91 : Cd :=
  (.seq
   (.reg [4] [
     ⟨none, (some 4), .mov (.c (.bool false)), []⟩])
   (.seq
    (.reg [4] [
      ⟨none, (some 5), .mov (.t 0), []⟩,
      ⟨none, (some 6), .mov (.t 1), []⟩,
      ⟨none, (some 7), .call true 323 [.t 5, .t 6], []⟩,
      ⟨none, (some 4), .mov (.t 7), []⟩])
    .ret))
def c91 : Fn := { np := 2, nt := 8, kind := .pure, res := [.t 4], body := k91 }

/- impl.BestLoop -/
def b92_1 : Cd :=
  (.seq
   (.seq
    (.reg [38] [
      ⟨none, (some 33), .mov (.t 12), []⟩,
      ⟨none, (some 34), .mov (.t 11), []⟩,
      ⟨none, (some 35), .bin .add (.t 33) (.t 34), []⟩,
      ⟨none, (some 36), .mov (.t 0), []⟩,
      ⟨none, (some 37), .len (.t 36), []⟩,
      ⟨none, (some 38), .bin .leq (.t 35) (.t 37), []⟩])
    (.cond (.t 38)
     .skip
     (.exit 3)))
   (.seq
    (.block 4
     (.seq
      (.reg [13] [
        ⟨none, (some 41), .mov (.t 0), []⟩,
        ⟨none, (some 42), .mov (.t 12), []⟩,
        ⟨none, (some 43), .mov (.t 11), []⟩,
        ⟨none, (some 44), .bin .add (.t 42) (.t 43), []⟩,
        ⟨none, (some 45), .bin .sub (.t 44) (.c (.int .i64 1)), []⟩,
        ⟨none, (some 46), .idxA 12 (.t 41) (.t 45), []⟩,
        ⟨none, (some 47), .ld 12 true (.t 46), []⟩,
        ⟨none, (some 48), .mov (.t 0), []⟩,
        ⟨none, (some 49), .mov (.t 12), []⟩,
        ⟨none, (some 50), .idxA 12 (.t 48) (.t 49), []⟩,
        ⟨none, (some 51), .ld 12 true (.t 50), []⟩,
        ⟨none, (some 52), .call true 324 [.t 47, .t 51], []⟩,
        ⟨none, (some 13), .mov (.t 52), []⟩])
      (.seq
       (.reg [59] [
         ⟨none, (some 53), .mov (.t 10), []⟩,
         ⟨none, (some 54), .bin .lss (.t 53) (.c (.int .i64 0)), []⟩,
         ⟨none, (some 55), .mov (.t 54), []⟩,
         ⟨(some (55, false)), (some 56), .mov (.t 13), []⟩,
         ⟨(some (55, false)), (some 57), .mov (.t 10), []⟩,
         ⟨(some (55, false)), (some 58), .bin .lss (.t 56) (.t 57), []⟩,
         ⟨none, (some 59), .pick (.t 55) (.c (.bool true)) (.t 58), []⟩])
       (.cond (.t 59)
        (.reg [8, 9, 10] [
          ⟨none, (some 60), .mov (.t 12), []⟩,
          ⟨none, (some 61), .mov (.t 11), []⟩,
          ⟨none, (some 62), .mov (.t 13), []⟩,
          ⟨none, (some 8), .mov (.t 60), []⟩,
          ⟨none, (some 9), .mov (.t 61), []⟩,
          ⟨none, (some 10), .mov (.t 62), []⟩])
        .skip))))
    (.reg [12] [
      ⟨none, (some 39), .mov (.t 12), []⟩,
      ⟨none, (some 40), .bin .add (.t 39) (.c (.int .i64 1)), []⟩,
      ⟨none, (some 12), .mov (.t 40), []⟩])))
def b92_2 : Cd :=
  (.seq
   (.seq
    (.reg [30] [
      ⟨none, (some 28), .mov (.t 11), []⟩,
      ⟨none, (some 29), .mov (.t 1), []⟩,
      ⟨none, (some 30), .bin .geq (.t 28) (.t 29), []⟩])
    (.cond (.t 30)
     .skip
     (.exit 1)))
   (.seq
    (.block 2
     (.seq
      (.reg [12] [
        ⟨none, (some 12), .mov (.c (.int .i64 0)), []⟩])
      (.block 3
       (.loop b92_1))))
    (.reg [11] [
      ⟨none, (some 31), .mov (.t 11), []⟩,
      ⟨none, (some 32), .bin .sub (.t 31) (.c (.int .i64 1)), []⟩,
      ⟨none, (some 11), .mov (.t 32), []⟩])))
def k92 : Cd :=
  (.seq
   (.reg [4, 5, 6, 7] [
     ⟨none, (some 4), .mov (.c (.int .i64 0)), []⟩,
     ⟨none, (some 5), .mov (.c (.int .i64 0)), []⟩,
     ⟨none, (some 6), .mov (.c (.int .i64 0)), []⟩,
     ⟨none, (some 7), .mov (.c (.int .i64 0)), []⟩])
   (.seq
    (.block 0
     (.seq
      (.reg [14] [
        ⟨none, (some 15), .mov (.t 0), []⟩,
        ⟨none, (some 16), .call true 316 [.t 15], []⟩,
        ⟨none, (some 17), .un .not (.t 16), []⟩,
        ⟨none, (some 14), .mov (.t 17), []⟩])
      (.cond (.t 14)
       (.seq
        (.reg [4, 5, 6, 7] [
          ⟨none, (some 4), .mov (.c (.int .i64 0)), []⟩,
          ⟨none, (some 5), .mov (.c (.int .i64 0)), []⟩,
          ⟨none, (some 6), .mov (.c (.int .i64 0)), []⟩,
          ⟨none, (some 7), .mov (.c (.int .i64 1)), []⟩])
        .ret)
       (.seq
        (.reg [18] [
          ⟨none, (some 19), .mov (.t 1), []⟩,
          ⟨none, (some 20), .bin .lss (.t 19) (.c (.int .i64 1)), []⟩,
          ⟨none, (some 18), .mov (.t 20), []⟩])
        (.cond (.t 18)
         (.seq
          (.reg [4, 5, 6, 7] [
            ⟨none, (some 4), .mov (.c (.int .i64 0)), []⟩,
            ⟨none, (some 5), .mov (.c (.int .i64 0)), []⟩,
            ⟨none, (some 6), .mov (.c (.int .i64 0)), []⟩,
            ⟨none, (some 7), .mov (.c (.int .i64 2)), []⟩])
          .ret)
         (.seq
          (.reg [21] [
            ⟨none, (some 22), .mov (.t 1), []⟩,
            ⟨none, (some 23), .mov (.t 0), []⟩,
            ⟨none, (some 24), .len (.t 23), []⟩,
            ⟨none, (some 25), .bin .gtr (.t 22) (.t 24), []⟩,
            ⟨none, (some 21), .mov (.t 25), []⟩])
          (.cond (.t 21)
           (.seq
            (.reg [4, 5, 6, 7] [
              ⟨none, (some 4), .mov (.c (.int .i64 0)), []⟩,
              ⟨none, (some 5), .mov (.c (.int .i64 0)), []⟩,
              ⟨none, (some 6), .mov (.c (.int .i64 0)), []⟩,
              ⟨none, (some 7), .mov (.c (.int .i64 6)), []⟩])
            .ret)
           .skip)))))))
    (.seq
     (.reg [8, 9, 10] [
       ⟨none, (some 8), .mov (.c (.int .i64 0)), []⟩,
       ⟨none, (some 9), .mov (.c (.int .i64 0)), []⟩,
       ⟨none, (some 10), .mov (.c (.int .i64 (-1))), []⟩])
     (.seq
      (.seq
       (.reg [11] [
         ⟨none, (some 26), .mov (.t 0), []⟩,
         ⟨none, (some 27), .len (.t 26), []⟩,
         ⟨none, (some 11), .mov (.t 27), []⟩])
       (.block 1
        (.loop b92_2)))
      (.seq
       (.reg [4, 5, 6, 7] [
         ⟨none, (some 63), .mov (.t 8), []⟩,
         ⟨none, (some 64), .mov (.t 9), []⟩,
         ⟨none, (some 65), .mov (.t 10), []⟩,
         ⟨none, (some 4), .mov (.t 63), []⟩,
         ⟨none, (some 5), .mov (.t 64), []⟩,
         ⟨none, (some 6), .mov (.t 65), []⟩,
         ⟨none, (some 7), .mov (.c (.int .i64 0)), []⟩])
       .ret)))))
def c92 : Fn := { np := 2, nt := 66, kind := .pure, res := [.t 4, .t 5, .t 6, .t 7], body := k92 }

/- spec.BestLoop -/
def b93_1 : Cd :=
  (.seq
   (.seq
    (.reg [35] [
      ⟨none, (some 30), .mov (.t 12), []⟩,
      ⟨none, (some 31), .mov (.t 11), []⟩,
      ⟨none, (some 32), .bin .add (.t 30) (.t 31), []⟩,
      ⟨none, (some 33), .mov (.t 0), []⟩,
      ⟨none, (some 34), .len (.t 33), []⟩,
      ⟨none, (some 35), .bin .leq (.t 32) (.t 34), []⟩])
    (.cond (.t 35)
     .skip
     (.exit 2)))
   (.seq
    (.block 3
     (.seq
      (.reg [13] [
        ⟨none, (some 38), .mov (.t 0), []⟩,
        ⟨none, (some 39), .mov (.t 12), []⟩,
        ⟨none, (some 40), .mov (.t 11), []⟩,
        ⟨none, (some 41), .bin .add (.t 39) (.t 40), []⟩,
        ⟨none, (some 42), .bin .sub (.t 41) (.c (.int .i64 1)), []⟩,
        ⟨none, (some 43), .idxA 12 (.t 38) (.t 42), []⟩,
        ⟨none, (some 44), .mov (.t 0), []⟩,
        ⟨none, (some 45), .mov (.t 12), []⟩,
        ⟨none, (some 46), .idxA 12 (.t 44) (.t 45), []⟩,
        ⟨none, (some 47), .call true 325 [.t 43, .t 46], []⟩,
        ⟨none, (some 13), .mov (.t 47), []⟩])
      (.seq
       (.reg [54] [
         ⟨none, (some 48), .mov (.t 8), []⟩,
         ⟨none, (some 49), .bin .lss (.t 48) (.c (.int .i64 0)), []⟩,
         ⟨none, (some 50), .mov (.t 49), []⟩,
         ⟨(some (50, false)), (some 51), .mov (.t 13), []⟩,
         ⟨(some (50, false)), (some 52), .mov (.t 10), []⟩,
         ⟨(some (50, false)), (some 53), .bin .lss (.t 51) (.t 52), []⟩,
         ⟨none, (some 54), .pick (.t 50) (.c (.bool true)) (.t 53), []⟩])
       (.cond (.t 54)
        (.seq
         (.reg [8] [
           ⟨none, (some 55), .mov (.t 12), []⟩,
           ⟨none, (some 8), .mov (.t 55), []⟩])
         (.seq
          (.reg [9] [
            ⟨none, (some 56), .mov (.t 11), []⟩,
            ⟨none, (some 9), .mov (.t 56), []⟩])
          (.reg [10] [
            ⟨none, (some 57), .mov (.t 13), []⟩,
            ⟨none, (some 10), .mov (.t 57), []⟩])))
        .skip))))
    (.reg [12] [
      ⟨none, (some 36), .mov (.t 12), []⟩,
      ⟨none, (some 37), .bin .add (.t 36) (.c (.int .i64 1)), []⟩,
      ⟨none, (some 12), .mov (.t 37), []⟩])))
def b93_2 : Cd :=
  (.seq
   (.seq
    (.reg [27] [
      ⟨none, (some 25), .mov (.t 11), []⟩,
      ⟨none, (some 26), .mov (.t 1), []⟩,
      ⟨none, (some 27), .bin .geq (.t 25) (.t 26), []⟩])
    (.cond (.t 27)
     .skip
     (.exit 0)))
   (.seq
    (.block 1
     (.seq
      (.reg [12] [
        ⟨none, (some 12), .mov (.c (.int .i64 0)), []⟩])
      (.block 2
       (.loop b93_1))))
    (.reg [11] [
      ⟨none, (some 28), .mov (.t 11), []⟩,
      ⟨none, (some 29), .bin .sub (.t 28) (.c (.int .i64 1)), []⟩,
      ⟨none, (some 11), .mov (.t 29), []⟩])))
def k93 : Cd :=
  (.seq
   (.reg [4, 5, 6, 7] [
     ⟨none, (some 4), .mov (.c (.int .i64 0)), []⟩,
     ⟨none, (some 5), .mov (.c (.int .i64 0)), []⟩,
     ⟨none, (some 6), .mov (.c (.int .i64 0)), []⟩,
     ⟨none, (some 7), .mov (.c (.int .i64 0)), []⟩])
   (.seq
    (.seq
     (.reg [16] [
       ⟨none, (some 14), .mov (.t 0), []⟩,
       ⟨none, (some 15), .call true 318 [.t 14], []⟩,
       ⟨none, (some 16), .un .not (.t 15), []⟩])
     (.cond (.t 16)
      (.seq
       (.reg [4, 5, 6, 7] [
         ⟨none, (some 4), .mov (.c (.int .i64 0)), []⟩,
         ⟨none, (some 5), .mov (.c (.int .i64 0)), []⟩,
         ⟨none, (some 6), .mov (.c (.int .i64 0)), []⟩,
         ⟨none, (some 7), .mov (.c (.int .i64 1)), []⟩])
       .ret)
      .skip))
    (.seq
     (.seq
      (.reg [18] [
        ⟨none, (some 17), .mov (.t 1), []⟩,
        ⟨none, (some 18), .bin .lss (.t 17) (.c (.int .i64 1)), []⟩])
      (.cond (.t 18)
       (.seq
        (.reg [4, 5, 6, 7] [
          ⟨none, (some 4), .mov (.c (.int .i64 0)), []⟩,
          ⟨none, (some 5), .mov (.c (.int .i64 0)), []⟩,
          ⟨none, (some 6), .mov (.c (.int .i64 0)), []⟩,
          ⟨none, (some 7), .mov (.c (.int .i64 2)), []⟩])
        .ret)
       .skip))
     (.seq
      (.seq
       (.reg [22] [
         ⟨none, (some 19), .mov (.t 1), []⟩,
         ⟨none, (some 20), .mov (.t 0), []⟩,
         ⟨none, (some 21), .len (.t 20), []⟩,
         ⟨none, (some 22), .bin .gtr (.t 19) (.t 21), []⟩])
       (.cond (.t 22)
        (.seq
         (.reg [4, 5, 6, 7] [
           ⟨none, (some 4), .mov (.c (.int .i64 0)), []⟩,
           ⟨none, (some 5), .mov (.c (.int .i64 0)), []⟩,
           ⟨none, (some 6), .mov (.c (.int .i64 0)), []⟩,
           ⟨none, (some 7), .mov (.c (.int .i64 6)), []⟩])
         .ret)
        .skip))
      (.seq
       (.reg [8] [
         ⟨none, (some 8), .mov (.c (.int .i64 (-1))), []⟩])
       (.seq
        (.reg [9] [
          ⟨none, (some 9), .mov (.c (.int .i64 0)), []⟩])
        (.seq
         (.reg [10] [
           ⟨none, (some 10), .mov (.c (.int .i64 0)), []⟩])
         (.seq
          (.seq
           (.reg [11] [
             ⟨none, (some 23), .mov (.t 0), []⟩,
             ⟨none, (some 24), .len (.t 23), []⟩,
             ⟨none, (some 11), .mov (.t 24), []⟩])
           (.block 0
            (.loop b93_2)))
          (.seq
           (.reg [4, 5, 6, 7] [
             ⟨none, (some 58), .mov (.t 8), []⟩,
             ⟨none, (some 59), .mov (.t 9), []⟩,
             ⟨none, (some 60), .mov (.t 10), []⟩,
             ⟨none, (some 4), .mov (.t 58), []⟩,
             ⟨none, (some 5), .mov (.t 59), []⟩,
             ⟨none, (some 6), .mov (.t 60), []⟩,
             ⟨none, (some 7), .mov (.c (.int .i64 0)), []⟩])
           .ret)))))))))
def c93 : Fn := { np := 2, nt := 61, kind := .pure, res := [.t 4, .t 5, .t 6, .t 7], body := k93 }

/- impl.JumpsOf -/
def k94 : Cd :=
  (.seq
   (.reg [2, 3] [
     ⟨none, (some 2), .mov (.c (.slice none 0 0)), []⟩,
     ⟨none, (some 3), .mov (.c (.int .i64 0)), []⟩])
   (.seq
    (.seq
     (.reg [6] [
       ⟨none, (some 4), .mov (.t 0), []⟩,
       ⟨none, (some 5), .call true 316 [.t 4], []⟩,
       ⟨none, (some 6), .un .not (.t 5), []⟩])
     (.cond (.t 6)
      (.seq
       (.reg [2, 3] [
         ⟨none, (some 2), .mov (.c (.slice none 0 0)), []⟩,
         ⟨none, (some 3), .mov (.c (.int .i64 1)), []⟩])
       .ret)
      .skip))
    (.seq
     (.reg [2, 3] [
       ⟨none, (some 7), .mov (.t 0), []⟩,
       ⟨none, (some 8), .call true 326 [.t 7], []⟩,
       ⟨none, (some 2), .mov (.t 8), []⟩,
       ⟨none, (some 3), .mov (.c (.int .i64 0)), []⟩])
     .ret)))
def c94 : Fn := { np := 1, nt := 9, kind := .pure, res := [.t 2, .t 3], body := k94 }

/- spec.DifferBy -/
def k95 : Cd :=
  (.seq
   (.reg [2, 3, 4, 5] [
     ⟨none, (some 2), .box 12 (.t 0), []⟩,
     ⟨none, (some 3), .box 12 (.t 1), []⟩,
     ⟨none, (some 4), .mov (.c (.int .i64 0)), []⟩,
     ⟨none, (some 5), .mov (.c (.int .i64 0)), []⟩])
   (.seq
    (.seq
     (.reg [6] [
       ⟨none, (some 7), .call true 327 [.t 2, .t 3], []⟩,
       ⟨none, (some 6), .mov (.t 7), []⟩])
     (.seq
      (.reg [9] [
        ⟨none, (some 8), .mov (.t 6), []⟩,
        ⟨none, (some 9), .bin .neq (.t 8) (.c (.int .i64 0)), []⟩])
      (.cond (.t 9)
       (.seq
        (.reg [4, 5] [
          ⟨none, (some 10), .mov (.t 6), []⟩,
          ⟨none, (some 4), .mov (.c (.int .i64 0)), []⟩,
          ⟨none, (some 5), .mov (.t 10), []⟩])
        .ret)
       .skip)))
    (.seq
     (.reg [4, 5] [
       ⟨none, (some 11), .call true 325 [.t 2, .t 3], []⟩,
       ⟨none, (some 4), .mov (.t 11), []⟩,
       ⟨none, (some 5), .mov (.c (.int .i64 0)), []⟩])
     .ret)))
def c95 : Fn := { np := 2, nt := 12, kind := .pure, res := [.t 4, .t 5], body := k95 }

/- spec.A2Scene -/
def k96 : Cd :=
  (.seq
   (.reg [2] [
     ⟨none, (some 2), .mov (.c (.slice none 0 0)), []⟩])
   (.seq
    (.reg [2] [
      ⟨none, (some 3), .mov (.t 0), []⟩,
      ⟨none, (some 4), .call true 315 [.t 3], []⟩,
      ⟨none, (some 5), .call false 328 [.t 4], []⟩,
      ⟨none, (some 2), .mov (.t 5), []⟩])
    .ret))
def c96 : Fn := { np := 1, nt := 6, kind := .pure, res := [.t 2], body := k96 }

/- impl.ShowScene -/
def k97 : Cd :=
  (.seq
   (.reg [6, 7] [
     ⟨none, (some 6), .zero true (zs 12 (.int .u16 0)), []⟩,
     ⟨none, (some 7), .mov (.c (.int .i64 0)), []⟩])
   (.seq
    (.seq
     (.reg [8] [
       ⟨none, (some 9), .mov (.t 0), []⟩,
       ⟨none, (some 10), .mov (.t 1), []⟩,
       ⟨none, (some 11), .mov (.t 2), []⟩,
       ⟨none, (some 12), .call true 329 [.t 9, .t 10, .t 11], []⟩,
       ⟨none, (some 8), .mov (.t 12), []⟩])
     (.seq
      (.reg [14] [
        ⟨none, (some 13), .mov (.t 8), []⟩,
        ⟨none, (some 14), .bin .neq (.t 13) (.c (.int .i64 0)), []⟩])
      (.cond (.t 14)
       (.seq
        (.reg [6, 7] [
          ⟨none, (some 15), .agg (zs 12 (.int .u16 0)) [], []⟩,
          ⟨none, (some 16), .mov (.t 8), []⟩,
          ⟨none, (some 6), .stV 6 none 12 (.t 15), []⟩,
          ⟨none, (some 7), .mov (.t 16), []⟩])
        .ret)
       .skip)))
    (.seq
     (.reg [6, 7] [
       ⟨none, (some 17), .mov (.t 0), []⟩,
       ⟨none, (some 18), .mov (.t 1), []⟩,
       ⟨none, (some 19), .mov (.t 2), []⟩,
       ⟨none, (some 20), .call true 330 [.t 17, .t 18, .t 19], []⟩,
       ⟨none, (some 21), .fld 0 12 true (.t 20), []⟩,
       ⟨none, (some 6), .stV 6 none 12 (.t 21), []⟩,
       ⟨none, (some 7), .mov (.c (.int .i64 0)), []⟩])
     .ret)))
def c97 : Fn := { np := 3, nt := 22, kind := .pure, res := [.v 6 12 true, .t 7], body := k97 }

/- spec.ShowScene -/
def k98 : Cd :=
  (.seq
   (.reg [6, 7] [
     ⟨none, (some 6), .zero true (zs 12 (.int .u16 0)), []⟩,
     ⟨none, (some 7), .mov (.c (.int .i64 0)), []⟩])
   (.seq
    (.seq
     (.reg [8] [
       ⟨none, (some 10), .mov (.t 0), []⟩,
       ⟨none, (some 11), .mov (.t 1), []⟩,
       ⟨none, (some 12), .mov (.t 2), []⟩,
       ⟨none, (some 13), .call true 331 [.t 10, .t 11, .t 12], []⟩,
       ⟨none, (some 8), .mov (.t 13), []⟩])
     (.seq
      (.reg [15] [
        ⟨none, (some 14), .mov (.t 8), []⟩,
        ⟨none, (some 15), .bin .neq (.t 14) (.c (.int .i64 0)), []⟩])
      (.cond (.t 15)
       (.seq
        (.reg [6, 7] [
          ⟨none, (some 16), .agg (zs 12 (.int .u16 0)) [], []⟩,
          ⟨none, (some 17), .mov (.t 8), []⟩,
          ⟨none, (some 6), .stV 6 none 12 (.t 16), []⟩,
          ⟨none, (some 7), .mov (.t 17), []⟩])
        .ret)
       .skip)))
    (.seq
     (.reg [9] [
       ⟨none, (some 18), .mov (.t 0), []⟩,
       ⟨none, (some 19), .mov (.t 1), []⟩,
       ⟨none, (some 20), .mov (.t 2), []⟩,
       ⟨none, (some 21), .call true 332 [.t 18, .t 19, .t 20], []⟩,
       ⟨none, (some 9), .zero true (zs 24 (.int .u16 0)), []⟩,
       ⟨none, (some 9), .stV 9 none 24 (.t 21), []⟩])
     (.seq
      (.reg [6, 7] [
        ⟨none, (some 22), .adrF 9 none 0, []⟩,
        ⟨none, (some 23), .ldV 9 (some 22) 12 true, []⟩,
        ⟨none, (some 6), .stV 6 none 12 (.t 23), []⟩,
        ⟨none, (some 7), .mov (.c (.int .i64 0)), []⟩])
      .ret))))
def c98 : Fn := { np := 3, nt := 24, kind := .pure, res := [.v 6 12 true, .t 7], body := k98 }

/- impl.FlattenScene -/
def k99 : Cd :=
  (.seq
   (.reg [6, 7] [
     ⟨none, (some 6), .zero true (zs 24 (.int .u16 0)), []⟩,
     ⟨none, (some 7), .mov (.c (.int .i64 0)), []⟩])
   (.seq
    (.seq
     (.reg [8] [
       ⟨none, (some 9), .mov (.t 0), []⟩,
       ⟨none, (some 10), .mov (.t 1), []⟩,
       ⟨none, (some 11), .mov (.t 2), []⟩,
       ⟨none, (some 12), .call true 329 [.t 9, .t 10, .t 11], []⟩,
       ⟨none, (some 8), .mov (.t 12), []⟩])
     (.seq
      (.reg [14] [
        ⟨none, (some 13), .mov (.t 8), []⟩,
        ⟨none, (some 14), .bin .neq (.t 13) (.c (.int .i64 0)), []⟩])
      (.cond (.t 14)
       (.seq
        (.reg [6, 7] [
          ⟨none, (some 15), .agg (zs 24 (.int .u16 0)) [], []⟩,
          ⟨none, (some 16), .mov (.t 8), []⟩,
          ⟨none, (some 6), .stV 6 none 24 (.t 15), []⟩,
          ⟨none, (some 7), .mov (.t 16), []⟩])
        .ret)
       .skip)))
    (.seq
     (.reg [6, 7] [
       ⟨none, (some 17), .mov (.t 0), []⟩,
       ⟨none, (some 18), .mov (.t 1), []⟩,
       ⟨none, (some 19), .mov (.t 2), []⟩,
       ⟨none, (some 20), .call true 330 [.t 17, .t 18, .t 19], []⟩,
       ⟨none, (some 6), .stV 6 none 24 (.t 20), []⟩,
       ⟨none, (some 7), .mov (.c (.int .i64 0)), []⟩])
     .ret)))
def c99 : Fn := { np := 3, nt := 21, kind := .pure, res := [.v 6 24 true, .t 7], body := k99 }

/- impl.ShownBy -/
def k100 : Cd :=
  (.seq
   (.reg [1, 2, 3] [
     ⟨none, (some 1), .mov (.t 0), []⟩,
     ⟨none, (some 2), .zero true (zs 12 (.int .u16 0)), []⟩,
     ⟨none, (some 3), .mov (.c (.int .i64 0)), []⟩])
   (.seq
    (.seq
     (.reg [6] [
       ⟨none, (some 4), .ldV 1 none 24 true, []⟩,
       ⟨none, (some 5), .call true 333 [.t 4], []⟩,
       ⟨none, (some 6), .un .not (.t 5), []⟩])
     (.cond (.t 6)
      (.seq
       (.reg [2, 3] [
         ⟨none, (some 7), .agg (zs 12 (.int .u16 0)) [], []⟩,
         ⟨none, (some 2), .stV 2 none 12 (.t 7), []⟩,
         ⟨none, (some 3), .mov (.c (.int .i64 1)), []⟩])
       .ret)
      .skip))
    (.seq
     (.reg [2, 3] [
       ⟨none, (some 8), .adrF 1 none 0, []⟩,
       ⟨none, (some 9), .ldV 1 (some 8) 12 true, []⟩,
       ⟨none, (some 2), .stV 2 none 12 (.t 9), []⟩,
       ⟨none, (some 3), .mov (.c (.int .i64 0)), []⟩])
     .ret)))
def c100 : Fn := { np := 1, nt := 10, kind := .pure, res := [.v 2 12 true, .t 3], body := k100 }

/- impl.OffsetAt -/
def k101 : Cd :=
  (.seq
   (.reg [8, 9, 10] [
     ⟨none, (some 8), .mov (.c (.int .i64 0)), []⟩,
     ⟨none, (some 9), .mov (.c (.int .i64 0)), []⟩,
     ⟨none, (some 10), .mov (.c (.int .i64 0)), []⟩])
   (.seq
    (.seq
     (.reg [11] [
       ⟨none, (some 14), .mov (.t 0), []⟩,
       ⟨none, (some 15), .mov (.t 2), []⟩,
       ⟨none, (some 16), .mov (.t 3), []⟩,
       ⟨none, (some 17), .call true 329 [.t 14, .t 15, .t 16], []⟩,
       ⟨none, (some 11), .mov (.t 17), []⟩])
     (.seq
      (.reg [19] [
        ⟨none, (some 18), .mov (.t 11), []⟩,
        ⟨none, (some 19), .bin .neq (.t 18) (.c (.int .i64 0)), []⟩])
      (.cond (.t 19)
       (.seq
        (.reg [8, 9, 10] [
          ⟨none, (some 20), .mov (.t 11), []⟩,
          ⟨none, (some 8), .mov (.c (.int .i64 0)), []⟩,
          ⟨none, (some 9), .mov (.c (.int .i64 0)), []⟩,
          ⟨none, (some 10), .mov (.t 20), []⟩])
        .ret)
       .skip)))
    (.seq
     (.seq
      (.reg [24] [
        ⟨none, (some 21), .mov (.t 0), []⟩,
        ⟨none, (some 22), .mov (.t 1), []⟩,
        ⟨none, (some 23), .call true 334 [.t 21, .t 22], []⟩,
        ⟨none, (some 24), .un .not (.t 23), []⟩])
      (.cond (.t 24)
       (.seq
        (.reg [8, 9, 10] [
          ⟨none, (some 8), .mov (.c (.int .i64 0)), []⟩,
          ⟨none, (some 9), .mov (.c (.int .i64 0)), []⟩,
          ⟨none, (some 10), .mov (.c (.int .i64 2)), []⟩])
        .ret)
       .skip))
     (.seq
      (.reg [12, 13] [
        ⟨none, (some 26), .mov (.t 0), []⟩,
        ⟨none, (some 27), .mov (.t 1), []⟩,
        ⟨none, (some 28), .idxA 27 (.t 26) (.t 27), []⟩,
        ⟨none, (some 29), .ld 27 true (.t 28), []⟩,
        ⟨none, (some 30), .mov (.t 2), []⟩,
        ⟨none, (some 31), .mov (.t 3), []⟩,
        ⟨none, (some 32), .call true 335 [.t 29, .t 30, .t 31], []⟩,
        ⟨none, (some 25), .mov (.t 32), []⟩,
        ⟨none, (some 33), .ext (.t 25) 0, []⟩,
        ⟨none, (some 34), .ext (.t 25) 1, []⟩,
        ⟨none, (some 12), .mov (.t 33), []⟩,
        ⟨none, (some 13), .mov (.t 34), []⟩])
      (.seq
       (.reg [8, 9, 10] [
         ⟨none, (some 35), .mov (.t 12), []⟩,
         ⟨none, (some 36), .mov (.t 13), []⟩,
         ⟨none, (some 8), .mov (.t 35), []⟩,
         ⟨none, (some 9), .mov (.t 36), []⟩,
         ⟨none, (some 10), .mov (.c (.int .i64 0)), []⟩])
       .ret)))))
def c101 : Fn := { np := 4, nt := 37, kind := .pure, res := [.t 8, .t 9, .t 10], body := k101 }

/- impl.MoveCel -/
def k102 : Cd :=
  (.seq
   (.reg [3, 6, 7] [
     ⟨none, (some 3), .mov (.t 0), []⟩,
     ⟨none, (some 6), .zero true (zs 24 (.int .u16 0)), []⟩,
     ⟨none, (some 7), .mov (.c (.int .i64 0)), []⟩])
   (.seq
    (.block 0
     (.seq
      (.reg [8] [
        ⟨none, (some 9), .ldV 3 none 24 true, []⟩,
        ⟨none, (some 10), .call true 333 [.t 9], []⟩,
        ⟨none, (some 11), .un .not (.t 10), []⟩,
        ⟨none, (some 8), .mov (.t 11), []⟩])
      (.cond (.t 8)
       (.seq
        (.reg [6, 7] [
          ⟨none, (some 12), .agg (zs 24 (.int .u16 0)) [], []⟩,
          ⟨none, (some 6), .stV 6 none 24 (.t 12), []⟩,
          ⟨none, (some 7), .mov (.c (.int .i64 1)), []⟩])
        .ret)
       (.seq
        (.reg [13] [
          ⟨none, (some 14), .mov (.t 1), []⟩,
          ⟨none, (some 15), .call true 295 [.t 14, .c (.int .i64 (-12)), .c (.int .i64 12)], []⟩,
          ⟨none, (some 16), .un .not (.t 15), []⟩,
          ⟨none, (some 17), .mov (.t 16), []⟩,
          ⟨(some (17, false)), (some 18), .mov (.t 2), []⟩,
          ⟨(some (17, false)), (some 19), .call true 295 [.t 18, .c (.int .i64 (-12)), .c (.int .i64 12)], []⟩,
          ⟨(some (17, false)), (some 20), .un .not (.t 19), []⟩,
          ⟨none, (some 21), .pick (.t 17) (.c (.bool true)) (.t 20), []⟩,
          ⟨none, (some 13), .mov (.t 21), []⟩])
        (.cond (.t 13)
         (.seq
          (.reg [6, 7] [
            ⟨none, (some 22), .agg (zs 24 (.int .u16 0)) [], []⟩,
            ⟨none, (some 6), .stV 6 none 24 (.t 22), []⟩,
            ⟨none, (some 7), .mov (.c (.int .i64 2)), []⟩])
          .ret)
         .skip)))))
    (.seq
     (.reg [6, 7] [
       ⟨none, (some 23), .ldV 3 none 24 true, []⟩,
       ⟨none, (some 24), .mov (.t 1), []⟩,
       ⟨none, (some 25), .mov (.t 2), []⟩,
       ⟨none, (some 26), .call true 336 [.t 23, .t 24, .t 25], []⟩,
       ⟨none, (some 6), .stV 6 none 24 (.t 26), []⟩,
       ⟨none, (some 7), .mov (.c (.int .i64 0)), []⟩])
     .ret)))
def c102 : Fn := { np := 3, nt := 27, kind := .pure, res := [.v 6 24 true, .t 7], body := k102 }

/- impl.ValidFrame -/
def k234 : Cd :=
  (.seq
   (.reg [1, 2] [
     ⟨none, (some 1), .box 12 (.t 0), []⟩,
     ⟨none, (some 2), .mov (.c (.bool false)), []⟩])
   (.seq
    (.reg [2] [
      ⟨none, (some 3), .slcP 12 1 (.t 1), []⟩,
      ⟨none, (some 4), .call true 445 [.t 3, .f 446], []⟩,
      ⟨none, (some 5), .un .not (.t 4), []⟩,
      ⟨none, (some 2), .mov (.t 5), []⟩])
    .ret))
def c234 : Fn := { np := 1, nt := 6, kind := .pure, res := [.t 2], body := k234 }

/- impl.ValidScene -/
def k281 : Cd :=
  (.seq
   (.reg [2] [
     ⟨none, (some 2), .mov (.c (.bool false)), []⟩])
   (.seq
    (.reg [2] [
      ⟨none, (some 3), .mov (.t 0), []⟩,
      ⟨none, (some 4), .len (.t 3), []⟩,
      ⟨none, (some 5), .bin .leq (.t 4) (.c (.int .i64 8)), []⟩,
      ⟨none, (some 6), .mov (.t 5), []⟩,
      ⟨(some (6, true)), (some 7), .mov (.t 0), []⟩,
      ⟨(some (6, true)), (some 8), .call true 471 [.t 7, .f 472], []⟩,
      ⟨(some (6, true)), (some 9), .un .not (.t 8), []⟩,
      ⟨none, (some 10), .pick (.t 6) (.t 9) (.c (.bool false)), []⟩,
      ⟨none, (some 2), .mov (.t 10), []⟩])
    .ret))
def c281 : Fn := { np := 1, nt := 11, kind := .pure, res := [.t 2], body := k281 }

/- impl.inRange -/
def k295 : Cd :=
  (.seq
   (.reg [6] [
     ⟨none, (some 6), .mov (.c (.bool false)), []⟩])
   (.seq
    (.reg [6] [
      ⟨none, (some 7), .mov (.t 1), []⟩,
      ⟨none, (some 8), .mov (.t 0), []⟩,
      ⟨none, (some 9), .bin .leq (.t 7) (.t 8), []⟩,
      ⟨none, (some 10), .mov (.t 9), []⟩,
      ⟨(some (10, true)), (some 11), .mov (.t 0), []⟩,
      ⟨(some (10, true)), (some 12), .mov (.t 2), []⟩,
      ⟨(some (10, true)), (some 13), .bin .leq (.t 11) (.t 12), []⟩,
      ⟨none, (some 14), .pick (.t 10) (.t 13) (.c (.bool false)), []⟩,
      ⟨none, (some 6), .mov (.t 14), []⟩])
    .ret))
def c295 : Fn := { np := 3, nt := 15, kind := .pure, res := [.t 6], body := k295 }

/- spec.l00In -/
def k304 : Cd :=
  (.seq
   (.reg [6] [
     ⟨none, (some 6), .mov (.c (.bool false)), []⟩])
   (.seq
    (.reg [6] [
      ⟨none, (some 7), .mov (.t 0), []⟩,
      ⟨none, (some 8), .mov (.t 1), []⟩,
      ⟨none, (some 9), .bin .geq (.t 7) (.t 8), []⟩,
      ⟨none, (some 10), .mov (.t 9), []⟩,
      ⟨(some (10, true)), (some 11), .mov (.t 0), []⟩,
      ⟨(some (10, true)), (some 12), .mov (.t 2), []⟩,
      ⟨(some (10, true)), (some 13), .bin .leq (.t 11) (.t 12), []⟩,
      ⟨none, (some 14), .pick (.t 10) (.t 13) (.c (.bool false)), []⟩,
      ⟨none, (some 6), .mov (.t 14), []⟩])
    .ret))
def c304 : Fn := { np := 3, nt := 15, kind := .pure, res := [.t 6], body := k304 }

/- spec.l01Put -/
def k305 : Cd :=
  (.seq
   (.reg [8] [
     ⟨none, (some 6), .mov (.t 1), []⟩,
     ⟨none, (some 7), .mov (.t 2), []⟩,
     ⟨none, (some 8), .call true 342 [.t 6, .t 7], []⟩])
   (.cond (.t 8)
    (.reg [] [
      ⟨none, (some 9), .mov (.t 0), []⟩,
      ⟨none, (some 10), .mov (.t 2), []⟩,
      ⟨none, (some 11), .mov (.t 0), []⟩,
      ⟨none, (some 12), .mov (.t 2), []⟩,
      ⟨none, (some 13), .nil (.t 11), []⟩,
      ⟨none, (some 14), .idxP 12 1 (.t 13) (.t 12), []⟩,
      ⟨none, (some 15), .ld 1 false (.t 14), []⟩,
      ⟨none, (some 16), .mov (.t 1), []⟩,
      ⟨none, (some 17), .conv .u64 (.t 16), []⟩,
      ⟨none, (some 18), .bin .shl (.c (.int .u16 1)) (.t 17), []⟩,
      ⟨none, (some 19), .bin .or (.t 15) (.t 18), []⟩,
      ⟨none, (some 20), .nil (.t 9), []⟩,
      ⟨none, (some 21), .idxP 12 1 (.t 20) (.t 10), []⟩,
      ⟨none, none, .st 1 (.t 21) (.t 19), []⟩])
    .skip))
def c305 : Fn := { np := 3, nt := 22, kind := .args, res := [], body := k305 }

/- spec.l02Drawn -/
def b314_1 : Cd :=
  (.seq
   (.seq
    (.reg [16] [
      ⟨none, (some 15), .mov (.t 7), []⟩,
      ⟨none, (some 16), .bin .gtr (.t 15) (.c (.int .i64 0)), []⟩])
    (.cond (.t 16)
     .skip
     (.exit 0)))
   (.seq
    (.block 1
     (.seq
      (.seq
       (.reg [20] [
         ⟨none, (some 19), .mov (.t 0), []⟩,
         ⟨none, (some 20), .call false 459 [.t 19, .c (.int .i64 5)], []⟩])
       (.block 2
        (.seq
         (.reg [28] [
           ⟨none, (some 29), .bin .eql (.t 20) (.c (.int .i64 0)), []⟩,
           ⟨none, (some 28), .mov (.t 29), []⟩])
         (.cond (.t 28)
          (.reg [] [
            ⟨none, (some 30), .mov (.t 0), []⟩,
            ⟨none, (some 31), .call false 368 [.t 30], []⟩,
            ⟨none, none, .st 12 (.t 6) (.t 31), []⟩])
          (.seq
           (.reg [32] [
             ⟨none, (some 33), .bin .eql (.t 20) (.c (.int .i64 1)), []⟩,
             ⟨none, (some 32), .mov (.t 33), []⟩])
           (.cond (.t 32)
            .skip
            (.seq
             (.reg [34] [
               ⟨none, (some 35), .bin .eql (.t 20) (.c (.int .i64 2)), []⟩,
               ⟨none, (some 34), .mov (.t 35), []⟩])
             (.cond (.t 34)
              (.seq
               (.reg [38] [
                 ⟨none, (some 36), .mov (.t 5), []⟩,
                 ⟨none, (some 37), .len (.t 36), []⟩,
                 ⟨none, (some 38), .bin .gtr (.t 37) (.c (.int .i64 0)), []⟩])
               (.cond (.t 38)
                (.reg [] [
                  ⟨none, (some 39), .mov (.t 5), []⟩,
                  ⟨none, (some 40), .mov (.t 0), []⟩,
                  ⟨none, (some 41), .mov (.t 5), []⟩,
                  ⟨none, (some 42), .len (.t 41), []⟩,
                  ⟨none, (some 43), .call false 459 [.t 40, .t 42], []⟩,
                  ⟨none, (some 44), .idxA 12 (.t 39) (.t 43), []⟩,
                  ⟨none, (some 45), .ld 12 true (.t 44), []⟩,
                  ⟨none, none, .st 12 (.t 6) (.t 45), []⟩])
                .skip))
              (.reg [] [
                ⟨none, (some 21), .mov (.t 0), []⟩,
                ⟨none, (some 22), .call false 459 [.t 21, .c (.int .i64 3)], []⟩,
                ⟨none, (some 23), .bin .sub (.t 22) (.c (.int .i64 1)), []⟩,
                ⟨none, (some 24), .mov (.t 0), []⟩,
                ⟨none, (some 25), .call false 459 [.t 24, .c (.int .i64 3)], []⟩,
                ⟨none, (some 26), .bin .sub (.t 25) (.c (.int .i64 1)), []⟩,
                ⟨none, (some 27), .call true 355 [.t 6, .t 23, .t 26], []⟩,
                ⟨none, none, .st 12 (.t 6) (.t 27), []⟩])))))))))
      (.reg [5] [
        ⟨none, (some 46), .mov (.t 5), []⟩,
        ⟨none, (some 47), .ld 12 true (.t 6), []⟩,
        ⟨none, (some 48), .bldS 12 1 (zs 12 (.int .u16 0)) [(0, 12, (.t 47))], []⟩,
        ⟨none, (some 49), .app 12 24 (.t 46) (.t 48), []⟩,
        ⟨none, (some 5), .mov (.t 49), []⟩])))
    (.reg [7] [
      ⟨none, (some 17), .mov (.t 7), []⟩,
      ⟨none, (some 18), .bin .sub (.t 17) (.c (.int .i64 1)), []⟩,
      ⟨none, (some 7), .mov (.t 18), []⟩])))
def k314 : Cd :=
  (.seq
   (.reg [4] [
     ⟨none, (some 4), .mov (.c (.slice none 0 0)), []⟩])
   (.seq
    (.reg [5] [
      ⟨none, (some 8), .bldS 12 0 (zs 12 (.int .u16 0)) [], []⟩,
      ⟨none, (some 5), .mov (.t 8), []⟩])
    (.seq
     (.reg [6] [
       ⟨none, (some 9), .mov (.t 0), []⟩,
       ⟨none, (some 10), .call false 368 [.t 9], []⟩,
       ⟨none, (some 6), .new 1 (zs 12 (.int .u16 0)), []⟩,
       ⟨none, none, .st 12 (.t 6) (.t 10), []⟩])
     (.seq
      (.seq
       (.reg [7] [
         ⟨none, (some 11), .mov (.t 0), []⟩,
         ⟨none, (some 12), .mov (.t 1), []⟩,
         ⟨none, (some 13), .bin .add (.t 12) (.c (.int .i64 1)), []⟩,
         ⟨none, (some 14), .call false 459 [.t 11, .t 13], []⟩,
         ⟨none, (some 7), .mov (.t 14), []⟩])
       (.block 0
        (.loop b314_1)))
      (.seq
       (.reg [4] [
         ⟨none, (some 50), .mov (.t 5), []⟩,
         ⟨none, (some 4), .mov (.t 50), []⟩])
       .ret)))))
def c314 : Fn := { np := 2, nt := 51, kind := .args, res := [.t 4], body := k314 }

/- spec.l00From -/
def k315 : Cd :=
  (.seq
   (.reg [2] [
     ⟨none, (some 2), .mov (.c (.pointer none)), []⟩])
   (.seq
    (.reg [2] [
      ⟨none, (some 3), .mov (.t 0), []⟩,
      ⟨none, (some 4), .agg [.slice none 0 0, .int .i64 0, .int .u64 0] [(0, 1, (.t 3))], []⟩,
      ⟨none, (some 5), .box 3 (.t 4), []⟩,
      ⟨none, (some 2), .mov (.t 5), []⟩])
    .ret))
def c315 : Fn := { np := 1, nt := 6, kind := .pure, res := [.t 2], body := k315 }

/- impl.ValidBook -/
def k316 : Cd :=
  (.seq
   (.reg [2] [
     ⟨none, (some 2), .mov (.c (.bool false)), []⟩])
   (.seq
    (.reg [2] [
      ⟨none, (some 3), .mov (.t 0), []⟩,
      ⟨none, (some 4), .len (.t 3), []⟩,
      ⟨none, (some 5), .bin .leq (.t 4) (.c (.int .i64 40)), []⟩,
      ⟨none, (some 6), .mov (.t 5), []⟩,
      ⟨(some (6, true)), (some 7), .mov (.t 0), []⟩,
      ⟨(some (6, true)), (some 8), .call true 351 [.t 7], []⟩,
      ⟨none, (some 9), .pick (.t 6) (.t 8) (.c (.bool false)), []⟩,
      ⟨none, (some 2), .mov (.t 9), []⟩])
    .ret))
def c316 : Fn := { np := 1, nt := 10, kind := .pure, res := [.t 2], body := k316 }

/- (impl.Book).distinct -/
def b317_1 : Cd :=
  (.seq
   (.reg [14] [
     ⟨none, (some 14), .bin .lss (.t 13) (.t 12), []⟩])
   (.seq
    (.cond (.t 14)
     .skip
     (.exit 0))
    (.seq
     (.block 1
      (.seq
       (.reg [7] [
         ⟨none, (some 15), .idxA 12 (.t 11) (.t 13), []⟩,
         ⟨none, (some 16), .ld 12 true (.t 15), []⟩,
         ⟨none, (some 7), .zero true (zs 12 (.int .u16 0)), []⟩,
         ⟨none, (some 7), .stV 7 none 12 (.t 16), []⟩])
       (.seq
        (.reg [8] [
          ⟨none, (some 17), .mov (.t 4), []⟩,
          ⟨none, (some 18), .ldV 7 none 12 true, []⟩,
          ⟨none, (some 19), .call true 491 [.t 17, .t 18], []⟩,
          ⟨none, (some 8), .mov (.t 19), []⟩])
        (.seq
         (.seq
          (.reg [21] [
            ⟨none, (some 20), .mov (.t 8), []⟩,
            ⟨none, (some 21), .bin .lss (.t 20) (.c (.int .i64 0)), []⟩])
          (.cond (.t 21)
           (.seq
            (.reg [8] [
              ⟨none, (some 22), .mov (.t 4), []⟩,
              ⟨none, (some 23), .len (.t 22), []⟩,
              ⟨none, (some 8), .mov (.t 23), []⟩])
            (.reg [4] [
              ⟨none, (some 24), .mov (.t 4), []⟩,
              ⟨none, (some 25), .ldV 7 none 12 true, []⟩,
              ⟨none, (some 26), .bldS 12 1 (zs 12 (.int .u16 0)) [(0, 12, (.t 25))], []⟩,
              ⟨none, (some 27), .app 12 24 (.t 24) (.t 26), []⟩,
              ⟨none, (some 4), .mov (.t 27), []⟩]))
           .skip))
         (.reg [5] [
           ⟨none, (some 28), .mov (.t 5), []⟩,
           ⟨none, (some 29), .mov (.t 8), []⟩,
           ⟨none, (some 30), .bldS 1 1 [.int .i64 0] [(0, 1, (.t 29))], []⟩,
           ⟨none, (some 31), .app 1 8 (.t 28) (.t 30), []⟩,
           ⟨none, (some 5), .mov (.t 31), []⟩])))))
     (.reg [13] [
       ⟨none, (some 32), .bin .add (.t 13) (.c (.int .i64 1)), []⟩,
       ⟨none, (some 13), .mov (.t 32), []⟩]))))
def k317 : Cd :=
  (.seq
   (.reg [2, 3] [
     ⟨none, (some 2), .mov (.c (.slice none 0 0)), []⟩,
     ⟨none, (some 3), .mov (.c (.slice none 0 0)), []⟩])
   (.seq
    (.reg [4, 5] [
      ⟨none, (some 9), .bldS 12 0 (zs 12 (.int .u16 0)) [], []⟩,
      ⟨none, (some 10), .bldS 1 0 [.int .i64 0] [], []⟩,
      ⟨none, (some 4), .mov (.t 9), []⟩,
      ⟨none, (some 5), .mov (.t 10), []⟩])
    (.seq
     (.seq
      (.reg [11, 12, 13] [
        ⟨none, (some 11), .mov (.t 0), []⟩,
        ⟨none, (some 12), .len (.t 11), []⟩,
        ⟨none, (some 13), .mov (.c (.int .i64 0)), []⟩])
      (.block 0
       (.loop b317_1)))
     (.seq
      (.reg [2, 3] [
        ⟨none, (some 33), .mov (.t 4), []⟩,
        ⟨none, (some 34), .mov (.t 5), []⟩,
        ⟨none, (some 2), .mov (.t 33), []⟩,
        ⟨none, (some 3), .mov (.t 34), []⟩])
      .ret))))
def c317 : Fn := { np := 1, nt := 35, kind := .pure, res := [.t 2, .t 3], body := k317 }

/- spec.l02Ok -/
def b318_1 : Cd :=
  (.seq
   (.seq
    (.reg [7] [
      ⟨none, (some 4), .mov (.t 3), []⟩,
      ⟨none, (some 5), .mov (.t 0), []⟩,
      ⟨none, (some 6), .len (.t 5), []⟩,
      ⟨none, (some 7), .bin .lss (.t 4) (.t 6), []⟩])
    (.cond (.t 7)
     .skip
     (.exit 0)))
   (.seq
    (.block 1
     (.seq
      (.reg [14] [
        ⟨none, (some 10), .mov (.t 0), []⟩,
        ⟨none, (some 11), .mov (.t 3), []⟩,
        ⟨none, (some 12), .idxA 12 (.t 10) (.t 11), []⟩,
        ⟨none, (some 13), .call true 359 [.t 12], []⟩,
        ⟨none, (some 14), .un .not (.t 13), []⟩])
      (.cond (.t 14)
       (.seq
        (.reg [2] [
          ⟨none, (some 2), .mov (.c (.bool false)), []⟩])
        .ret)
       .skip)))
    (.reg [3] [
      ⟨none, (some 8), .mov (.t 3), []⟩,
      ⟨none, (some 9), .bin .add (.t 8) (.c (.int .i64 1)), []⟩,
      ⟨none, (some 3), .mov (.t 9), []⟩])))
def k318 : Cd :=
  (.seq
   (.reg [2] [
     ⟨none, (some 2), .mov (.c (.bool false)), []⟩])
   (.seq
    (.seq
     (.reg [3] [
       ⟨none, (some 3), .mov (.c (.int .i64 0)), []⟩])
     (.block 0
      (.loop b318_1)))
    (.seq
     (.reg [2] [
       ⟨none, (some 15), .mov (.t 0), []⟩,
       ⟨none, (some 16), .len (.t 15), []⟩,
       ⟨none, (some 17), .bin .leq (.t 16) (.c (.int .i64 40)), []⟩,
       ⟨none, (some 2), .mov (.t 17), []⟩])
     .ret)))
def c318 : Fn := { np := 1, nt := 18, kind := .pure, res := [.t 2], body := k318 }

/- spec.l02Distinct -/
def b319_1 : Cd :=
  (.seq
   (.seq
    (.reg [15] [
      ⟨none, (some 12), .mov (.t 7), []⟩,
      ⟨none, (some 13), .mov (.t 0), []⟩,
      ⟨none, (some 14), .len (.t 13), []⟩,
      ⟨none, (some 15), .bin .lss (.t 12) (.t 14), []⟩])
    (.cond (.t 15)
     .skip
     (.exit 0)))
   (.seq
    (.block 1
     (.seq
      (.reg [23] [
        ⟨none, (some 18), .mov (.t 4), []⟩,
        ⟨none, (some 19), .mov (.t 7), []⟩,
        ⟨none, (some 20), .idxA 1 (.t 18) (.t 19), []⟩,
        ⟨none, (some 21), .ld 1 false (.t 20), []⟩,
        ⟨none, (some 22), .mov (.t 7), []⟩,
        ⟨none, (some 23), .bin .eql (.t 21) (.t 22), []⟩])
      (.cond (.t 23)
       (.seq
        (.reg [6] [
          ⟨none, (some 24), .mov (.t 6), []⟩,
          ⟨none, (some 25), .mov (.t 5), []⟩,
          ⟨none, (some 26), .len (.t 25), []⟩,
          ⟨none, (some 27), .bldS 1 1 [.int .i64 0] [(0, 1, (.t 26))], []⟩,
          ⟨none, (some 28), .app 1 8 (.t 24) (.t 27), []⟩,
          ⟨none, (some 6), .mov (.t 28), []⟩])
        (.reg [5] [
          ⟨none, (some 29), .mov (.t 5), []⟩,
          ⟨none, (some 30), .mov (.t 0), []⟩,
          ⟨none, (some 31), .mov (.t 7), []⟩,
          ⟨none, (some 32), .idxA 12 (.t 30) (.t 31), []⟩,
          ⟨none, (some 33), .ld 12 true (.t 32), []⟩,
          ⟨none, (some 34), .bldS 12 1 (zs 12 (.int .u16 0)) [(0, 12, (.t 33))], []⟩,
          ⟨none, (some 35), .app 12 24 (.t 29) (.t 34), []⟩,
          ⟨none, (some 5), .mov (.t 35), []⟩]))
       (.reg [6] [
         ⟨none, (some 36), .mov (.t 6), []⟩,
         ⟨none, (some 37), .mov (.t 6), []⟩,
         ⟨none, (some 38), .mov (.t 4), []⟩,
         ⟨none, (some 39), .mov (.t 7), []⟩,
         ⟨none, (some 40), .idxA 1 (.t 38) (.t 39), []⟩,
         ⟨none, (some 41), .ld 1 false (.t 40), []⟩,
         ⟨none, (some 42), .idxA 1 (.t 37) (.t 41), []⟩,
         ⟨none, (some 43), .ld 1 false (.t 42), []⟩,
         ⟨none, (some 44), .bldS 1 1 [.int .i64 0] [(0, 1, (.t 43))], []⟩,
         ⟨none, (some 45), .app 1 8 (.t 36) (.t 44), []⟩,
         ⟨none, (some 6), .mov (.t 45), []⟩]))))
    (.reg [7] [
      ⟨none, (some 16), .mov (.t 7), []⟩,
      ⟨none, (some 17), .bin .add (.t 16) (.c (.int .i64 1)), []⟩,
      ⟨none, (some 7), .mov (.t 17), []⟩])))
def k319 : Cd :=
  (.seq
   (.reg [2, 3] [
     ⟨none, (some 2), .mov (.c (.slice none 0 0)), []⟩,
     ⟨none, (some 3), .mov (.c (.slice none 0 0)), []⟩])
   (.seq
    (.reg [4] [
      ⟨none, (some 8), .mov (.t 0), []⟩,
      ⟨none, (some 9), .call true 492 [.t 8], []⟩,
      ⟨none, (some 4), .mov (.t 9), []⟩])
    (.seq
     (.reg [5] [
       ⟨none, (some 10), .bldS 12 0 (zs 12 (.int .u16 0)) [], []⟩,
       ⟨none, (some 5), .mov (.t 10), []⟩])
     (.seq
      (.reg [6] [
        ⟨none, (some 11), .bldS 1 0 [.int .i64 0] [], []⟩,
        ⟨none, (some 6), .mov (.t 11), []⟩])
      (.seq
       (.seq
        (.reg [7] [
          ⟨none, (some 7), .mov (.c (.int .i64 0)), []⟩])
        (.block 0
         (.loop b319_1)))
       (.seq
        (.reg [2, 3] [
          ⟨none, (some 46), .mov (.t 5), []⟩,
          ⟨none, (some 47), .mov (.t 6), []⟩,
          ⟨none, (some 2), .mov (.t 46), []⟩,
          ⟨none, (some 3), .mov (.t 47), []⟩])
        .ret))))))
def c319 : Fn := { np := 1, nt := 48, kind := .pure, res := [.t 2, .t 3], body := k319 }

/- impl.ValidSheet -/
def k320 : Cd :=
  (.seq
   (.reg [4] [
     ⟨none, (some 4), .mov (.c (.bool false)), []⟩])
   (.seq
    (.reg [4] [
      ⟨none, (some 5), .mov (.t 0), []⟩,
      ⟨none, (some 6), .call true 316 [.t 5], []⟩,
      ⟨none, (some 7), .mov (.t 6), []⟩,
      ⟨(some (7, true)), (some 8), .mov (.t 1), []⟩,
      ⟨(some (7, true)), (some 9), .mov (.t 0), []⟩,
      ⟨(some (7, true)), (some 10), .len (.t 9), []⟩,
      ⟨(some (7, true)), (some 11), .call true 493 [.t 8, .t 10], []⟩,
      ⟨none, (some 12), .pick (.t 7) (.t 11) (.c (.bool false)), []⟩,
      ⟨none, (some 4), .mov (.t 12), []⟩])
    .ret))
def c320 : Fn := { np := 2, nt := 13, kind := .pure, res := [.t 4], body := k320 }

/- impl.ticks -/
def b321_1 : Cd :=
  (.seq
   (.reg [10] [
     ⟨none, (some 10), .bin .lss (.t 9) (.t 8), []⟩])
   (.seq
    (.cond (.t 10)
     .skip
     (.exit 0))
    (.seq
     (.block 1
      (.seq
       (.reg [5] [
         ⟨none, (some 11), .idxA 2 (.t 7) (.t 9), []⟩,
         ⟨none, (some 12), .ld 2 true (.t 11), []⟩,
         ⟨none, (some 5), .zero true [.int .i8 0, .int .i8 0], []⟩,
         ⟨none, (some 5), .stV 5 none 2 (.t 12), []⟩])
       (.reg [3] [
         ⟨none, (some 13), .mov (.t 3), []⟩,
         ⟨none, (some 14), .adrF 5 none 0, []⟩,
         ⟨none, (some 15), .ldV 5 (some 14) 1 false, []⟩,
         ⟨none, (some 16), .conv .i64 (.t 15), []⟩,
         ⟨none, (some 17), .bldS 1 1 [.int .i64 0] [(0, 1, (.t 16))], []⟩,
         ⟨none, (some 18), .adrF 5 none 1, []⟩,
         ⟨none, (some 19), .ldV 5 (some 18) 1 false, []⟩,
         ⟨none, (some 20), .conv .i64 (.t 19), []⟩,
         ⟨none, (some 21), .call true 494 [.t 17, .t 20], []⟩,
         ⟨none, (some 22), .app 1 8 (.t 13) (.t 21), []⟩,
         ⟨none, (some 3), .mov (.t 22), []⟩])))
     (.reg [9] [
       ⟨none, (some 23), .bin .add (.t 9) (.c (.int .i64 1)), []⟩,
       ⟨none, (some 9), .mov (.t 23), []⟩]))))
def k321 : Cd :=
  (.seq
   (.reg [2] [
     ⟨none, (some 2), .mov (.c (.slice none 0 0)), []⟩])
   (.seq
    (.reg [3] [
      ⟨none, (some 6), .bldS 1 0 [.int .i64 0] [], []⟩,
      ⟨none, (some 3), .mov (.t 6), []⟩])
    (.seq
     (.seq
      (.reg [7, 8, 9] [
        ⟨none, (some 7), .mov (.t 0), []⟩,
        ⟨none, (some 8), .len (.t 7), []⟩,
        ⟨none, (some 9), .mov (.c (.int .i64 0)), []⟩])
      (.block 0
       (.loop b321_1)))
     (.seq
      (.reg [2] [
        ⟨none, (some 24), .mov (.t 3), []⟩,
        ⟨none, (some 2), .mov (.t 24), []⟩])
      .ret))))
def c321 : Fn := { np := 1, nt := 25, kind := .pure, res := [.t 2], body := k321 }

/- impl.limited -/
def k322 : Cd :=
  (.seq
   (.reg [2, 3] [
     ⟨none, (some 2), .mov (.c (.slice none 0 0)), []⟩,
     ⟨none, (some 3), .mov (.c (.int .i64 0)), []⟩])
   (.seq
    (.seq
     (.reg [6] [
       ⟨none, (some 4), .mov (.t 0), []⟩,
       ⟨none, (some 5), .len (.t 4), []⟩,
       ⟨none, (some 6), .bin .gtr (.t 5) (.c (.int .i64 40)), []⟩])
     (.cond (.t 6)
      (.seq
       (.reg [2, 3] [
         ⟨none, (some 2), .mov (.c (.slice none 0 0)), []⟩,
         ⟨none, (some 3), .mov (.c (.int .i64 3)), []⟩])
       .ret)
      .skip))
    (.seq
     (.reg [2, 3] [
       ⟨none, (some 7), .mov (.t 0), []⟩,
       ⟨none, (some 2), .mov (.t 7), []⟩,
       ⟨none, (some 3), .mov (.c (.int .i64 0)), []⟩])
     .ret)))
def c322 : Fn := { np := 1, nt := 8, kind := .pure, res := [.t 2, .t 3], body := k322 }

/- spec.l02Same -/
def b323_1 : Cd :=
  (.seq
   (.seq
    (.reg [14] [
      ⟨none, (some 11), .mov (.t 5), []⟩,
      ⟨none, (some 12), .mov (.t 0), []⟩,
      ⟨none, (some 13), .len (.t 12), []⟩,
      ⟨none, (some 14), .bin .lss (.t 11) (.t 13), []⟩])
    (.cond (.t 14)
     .skip
     (.exit 0)))
   (.seq
    (.block 1
     (.seq
      (.reg [25] [
        ⟨none, (some 17), .mov (.t 0), []⟩,
        ⟨none, (some 18), .mov (.t 5), []⟩,
        ⟨none, (some 19), .idxA 12 (.t 17) (.t 18), []⟩,
        ⟨none, (some 20), .ld 12 true (.t 19), []⟩,
        ⟨none, (some 21), .mov (.t 1), []⟩,
        ⟨none, (some 22), .mov (.t 5), []⟩,
        ⟨none, (some 23), .idxA 12 (.t 21) (.t 22), []⟩,
        ⟨none, (some 24), .ld 12 true (.t 23), []⟩,
        ⟨none, (some 25), .eq (.a (rb 12 (some .u16))) true (.t 20) (.t 24), []⟩])
      (.cond (.t 25)
       (.seq
        (.reg [4] [
          ⟨none, (some 4), .mov (.c (.bool false)), []⟩])
        .ret)
       .skip)))
    (.reg [5] [
      ⟨none, (some 15), .mov (.t 5), []⟩,
      ⟨none, (some 16), .bin .add (.t 15) (.c (.int .i64 1)), []⟩,
      ⟨none, (some 5), .mov (.t 16), []⟩])))
def k323 : Cd :=
  (.seq
   (.reg [4] [
     ⟨none, (some 4), .mov (.c (.bool false)), []⟩])
   (.seq
    (.seq
     (.reg [10] [
       ⟨none, (some 6), .mov (.t 0), []⟩,
       ⟨none, (some 7), .len (.t 6), []⟩,
       ⟨none, (some 8), .mov (.t 1), []⟩,
       ⟨none, (some 9), .len (.t 8), []⟩,
       ⟨none, (some 10), .bin .neq (.t 7) (.t 9), []⟩])
     (.cond (.t 10)
      (.seq
       (.reg [4] [
         ⟨none, (some 4), .mov (.c (.bool false)), []⟩])
       .ret)
      .skip))
    (.seq
     (.seq
      (.reg [5] [
        ⟨none, (some 5), .mov (.c (.int .i64 0)), []⟩])
      (.block 0
       (.loop b323_1)))
     (.seq
      (.reg [4] [
        ⟨none, (some 4), .mov (.c (.bool true)), []⟩])
      .ret))))
def c323 : Fn := { np := 2, nt := 26, kind := .pure, res := [.t 4], body := k323 }

/- impl.jump -/
def k324 : Cd :=
  (.seq
   (.reg [2, 3, 4] [
     ⟨none, (some 2), .mov (.t 0), []⟩,
     ⟨none, (some 3), .mov (.t 1), []⟩,
     ⟨none, (some 4), .mov (.c (.int .i64 0)), []⟩])
   (.seq
    (.reg [4] [
      ⟨none, (some 5), .ldV 2 none 12 true, []⟩,
      ⟨none, (some 6), .ldV 3 none 12 true, []⟩,
      ⟨none, (some 7), .call true 367 [.t 5, .t 6], []⟩,
      ⟨none, (some 8), .call true 393 [.t 7], []⟩,
      ⟨none, (some 4), .mov (.t 8), []⟩])
    .ret))
def c324 : Fn := { np := 2, nt := 9, kind := .pure, res := [.t 4], body := k324 }

/- spec.l01Differ -/
def b325_1 : Cd :=
  (.seq
   (.seq
    (.reg [9] [
      ⟨none, (some 8), .mov (.t 6), []⟩,
      ⟨none, (some 9), .bin .lss (.t 8) (.c (.int .i64 12)), []⟩])
    (.cond (.t 9)
     .skip
     (.exit 0)))
   (.seq
    (.block 1
     (.reg [] [
       ⟨none, (some 12), .mov (.t 6), []⟩,
       ⟨none, (some 13), .mov (.t 0), []⟩,
       ⟨none, (some 14), .mov (.t 6), []⟩,
       ⟨none, (some 15), .nil (.t 13), []⟩,
       ⟨none, (some 16), .idxP 12 1 (.t 15) (.t 14), []⟩,
       ⟨none, (some 17), .ld 1 false (.t 16), []⟩,
       ⟨none, (some 18), .mov (.t 1), []⟩,
       ⟨none, (some 19), .mov (.t 6), []⟩,
       ⟨none, (some 20), .nil (.t 18), []⟩,
       ⟨none, (some 21), .idxP 12 1 (.t 20) (.t 19), []⟩,
       ⟨none, (some 22), .ld 1 false (.t 21), []⟩,
       ⟨none, (some 23), .bin .xor (.t 17) (.t 22), []⟩,
       ⟨none, (some 24), .idxP 12 1 (.t 5) (.t 12), []⟩,
       ⟨none, none, .st 1 (.t 24) (.t 23), []⟩]))
    (.reg [6] [
      ⟨none, (some 10), .mov (.t 6), []⟩,
      ⟨none, (some 11), .bin .add (.t 10) (.c (.int .i64 1)), []⟩,
      ⟨none, (some 6), .mov (.t 11), []⟩])))
def k325 : Cd :=
  (.seq
   (.reg [4] [
     ⟨none, (some 4), .mov (.c (.int .i64 0)), []⟩])
   (.seq
    (.reg [5] [
      ⟨none, (some 7), .agg (zs 12 (.int .u16 0)) [], []⟩,
      ⟨none, (some 5), .new 1 (zs 12 (.int .u16 0)), []⟩,
      ⟨none, none, .st 12 (.t 5) (.t 7), []⟩])
    (.seq
     (.seq
      (.reg [6] [
        ⟨none, (some 6), .mov (.c (.int .i64 0)), []⟩])
      (.block 0
       (.loop b325_1)))
     (.seq
      (.reg [4] [
        ⟨none, (some 25), .call true 409 [.t 5], []⟩,
        ⟨none, (some 4), .mov (.t 25), []⟩])
      .ret))))
def c325 : Fn := { np := 2, nt := 26, kind := .pure, res := [.t 4], body := k325 }

/- (impl.Book).jumps -/
def b326_1 : Cd :=
  (.seq
   (.seq
    (.reg [9] [
      ⟨none, (some 6), .mov (.t 4), []⟩,
      ⟨none, (some 7), .mov (.t 0), []⟩,
      ⟨none, (some 8), .len (.t 7), []⟩,
      ⟨none, (some 9), .bin .lss (.t 6) (.t 8), []⟩])
    (.cond (.t 9)
     .skip
     (.exit 0)))
   (.seq
    (.block 1
     (.reg [3] [
       ⟨none, (some 12), .mov (.t 3), []⟩,
       ⟨none, (some 13), .mov (.t 0), []⟩,
       ⟨none, (some 14), .mov (.t 4), []⟩,
       ⟨none, (some 15), .bin .sub (.t 14) (.c (.int .i64 1)), []⟩,
       ⟨none, (some 16), .idxA 12 (.t 13) (.t 15), []⟩,
       ⟨none, (some 17), .ld 12 true (.t 16), []⟩,
       ⟨none, (some 18), .mov (.t 0), []⟩,
       ⟨none, (some 19), .mov (.t 4), []⟩,
       ⟨none, (some 20), .idxA 12 (.t 18) (.t 19), []⟩,
       ⟨none, (some 21), .ld 12 true (.t 20), []⟩,
       ⟨none, (some 22), .call true 324 [.t 17, .t 21], []⟩,
       ⟨none, (some 23), .bldS 1 1 [.int .i64 0] [(0, 1, (.t 22))], []⟩,
       ⟨none, (some 24), .app 1 8 (.t 12) (.t 23), []⟩,
       ⟨none, (some 3), .mov (.t 24), []⟩]))
    (.reg [4] [
      ⟨none, (some 10), .mov (.t 4), []⟩,
      ⟨none, (some 11), .bin .add (.t 10) (.c (.int .i64 1)), []⟩,
      ⟨none, (some 4), .mov (.t 11), []⟩])))
def k326 : Cd :=
  (.seq
   (.reg [2] [
     ⟨none, (some 2), .mov (.c (.slice none 0 0)), []⟩])
   (.seq
    (.reg [3] [
      ⟨none, (some 5), .bldS 1 0 [.int .i64 0] [], []⟩,
      ⟨none, (some 3), .mov (.t 5), []⟩])
    (.seq
     (.seq
      (.reg [4] [
        ⟨none, (some 4), .mov (.c (.int .i64 1)), []⟩])
      (.block 0
       (.loop b326_1)))
     (.seq
      (.reg [2] [
        ⟨none, (some 25), .mov (.t 3), []⟩,
        ⟨none, (some 2), .mov (.t 25), []⟩])
      .ret))))
def c326 : Fn := { np := 1, nt := 26, kind := .pure, res := [.t 2], body := k326 }

/- spec.l01Both -/
def k327 : Cd :=
  (.seq
   (.reg [4] [
     ⟨none, (some 4), .mov (.c (.int .i64 0)), []⟩])
   (.seq
    (.seq
     (.reg [12] [
       ⟨none, (some 5), .mov (.t 0), []⟩,
       ⟨none, (some 6), .call true 359 [.t 5], []⟩,
       ⟨none, (some 7), .un .not (.t 6), []⟩,
       ⟨none, (some 8), .mov (.t 7), []⟩,
       ⟨(some (8, false)), (some 9), .mov (.t 1), []⟩,
       ⟨(some (8, false)), (some 10), .call true 359 [.t 9], []⟩,
       ⟨(some (8, false)), (some 11), .un .not (.t 10), []⟩,
       ⟨none, (some 12), .pick (.t 8) (.c (.bool true)) (.t 11), []⟩])
     (.cond (.t 12)
      (.seq
       (.reg [4] [
         ⟨none, (some 4), .mov (.c (.int .i64 1)), []⟩])
       .ret)
      .skip))
    (.seq
     (.reg [4] [
       ⟨none, (some 4), .mov (.c (.int .i64 0)), []⟩])
     .ret)))
def c327 : Fn := { np := 2, nt := 13, kind := .pure, res := [.t 4], body := k327 }

/- spec.l05Drawn -/
def b328_1 : Cd :=
  (.seq
   (.seq
    (.reg [10] [
      ⟨none, (some 9), .mov (.t 4), []⟩,
      ⟨none, (some 10), .bin .gtr (.t 9) (.c (.int .i64 0)), []⟩])
    (.cond (.t 10)
     .skip
     (.exit 0)))
   (.seq
    (.block 1
     (.seq
      (.reg [5] [
        ⟨none, (some 13), .mov (.t 0), []⟩,
        ⟨none, (some 14), .call false 495 [.t 13], []⟩,
        ⟨none, (some 15), .mov (.t 0), []⟩,
        ⟨none, (some 16), .call false 459 [.t 15, .c (.int .i64 7)], []⟩,
        ⟨none, (some 17), .bin .sub (.t 16) (.c (.int .i64 3)), []⟩,
        ⟨none, (some 18), .conv .i8 (.t 17), []⟩,
        ⟨none, (some 19), .agg [.int .u16 0, .int .u16 0, .int .u16 0, .int .u16 0, .int .u16 0, .int .u16 0, .int .u16 0, .int .u16 0, .int .u16 0, .int .u16 0, .int .u16 0, .int .u16 0, .int .u16 0, .int .u16 0, .int .u16 0, .int .u16 0, .int .u16 0, .int .u16 0, .int .u16 0, .int .u16 0, .int .u16 0, .int .u16 0, .int .u16 0, .int .u16 0, .int .i8 0, .int .i8 0, .int .i8 0] [(0, 24, (.t 14)), (24, 1, (.t 18))], []⟩,
        ⟨none, (some 5), .zero true [.int .u16 0, .int .u16 0, .int .u16 0, .int .u16 0, .int .u16 0, .int .u16 0, .int .u16 0, .int .u16 0, .int .u16 0, .int .u16 0, .int .u16 0, .int .u16 0, .int .u16 0, .int .u16 0, .int .u16 0, .int .u16 0, .int .u16 0, .int .u16 0, .int .u16 0, .int .u16 0, .int .u16 0, .int .u16 0, .int .u16 0, .int .u16 0, .int .i8 0, .int .i8 0, .int .i8 0], []⟩,
        ⟨none, (some 5), .stV 5 none 27 (.t 19), []⟩])
      (.seq
       (.reg [5] [
         ⟨none, (some 20), .mov (.t 0), []⟩,
         ⟨none, (some 21), .call false 459 [.t 20, .c (.int .i64 7)], []⟩,
         ⟨none, (some 22), .bin .sub (.t 21) (.c (.int .i64 3)), []⟩,
         ⟨none, (some 23), .conv .i8 (.t 22), []⟩,
         ⟨none, (some 24), .adrF 5 none 25, []⟩,
         ⟨none, (some 5), .stV 5 (some 24) 1 (.t 23), []⟩])
       (.seq
        (.reg [5] [
          ⟨none, (some 25), .mov (.t 0), []⟩,
          ⟨none, (some 26), .bldS 1 5 [.int .i64 0] [(0, 1, (.c (.int .i64 0))), (1, 1, (.c (.int .i64 2))), (2, 1, (.c (.int .i64 3))), (3, 1, (.c (.int .i64 4))), (4, 1, (.c (.int .i64 8)))], []⟩,
          ⟨none, (some 27), .call false 496 [.t 25, .t 26], []⟩,
          ⟨none, (some 28), .conv .i8 (.t 27), []⟩,
          ⟨none, (some 29), .adrF 5 none 26, []⟩,
          ⟨none, (some 5), .stV 5 (some 29) 1 (.t 28), []⟩])
        (.reg [3] [
          ⟨none, (some 30), .mov (.t 3), []⟩,
          ⟨none, (some 31), .ldV 5 none 27 true, []⟩,
          ⟨none, (some 32), .bldS 27 1 [.int .u16 0, .int .u16 0, .int .u16 0, .int .u16 0, .int .u16 0, .int .u16 0, .int .u16 0, .int .u16 0, .int .u16 0, .int .u16 0, .int .u16 0, .int .u16 0, .int .u16 0, .int .u16 0, .int .u16 0, .int .u16 0, .int .u16 0, .int .u16 0, .int .u16 0, .int .u16 0, .int .u16 0, .int .u16 0, .int .u16 0, .int .u16 0, .int .i8 0, .int .i8 0, .int .i8 0] [(0, 27, (.t 31))], []⟩,
          ⟨none, (some 33), .app 27 52 (.t 30) (.t 32), []⟩,
          ⟨none, (some 3), .mov (.t 33), []⟩])))))
    (.reg [4] [
      ⟨none, (some 11), .mov (.t 4), []⟩,
      ⟨none, (some 12), .bin .sub (.t 11) (.c (.int .i64 1)), []⟩,
      ⟨none, (some 4), .mov (.t 12), []⟩])))
def k328 : Cd :=
  (.seq
   (.reg [2] [
     ⟨none, (some 2), .mov (.c (.slice none 0 0)), []⟩])
   (.seq
    (.reg [3] [
      ⟨none, (some 6), .bldS 27 0 [.int .u16 0, .int .u16 0, .int .u16 0, .int .u16 0, .int .u16 0, .int .u16 0, .int .u16 0, .int .u16 0, .int .u16 0, .int .u16 0, .int .u16 0, .int .u16 0, .int .u16 0, .int .u16 0, .int .u16 0, .int .u16 0, .int .u16 0, .int .u16 0, .int .u16 0, .int .u16 0, .int .u16 0, .int .u16 0, .int .u16 0, .int .u16 0, .int .i8 0, .int .i8 0, .int .i8 0] [], []⟩,
      ⟨none, (some 3), .mov (.t 6), []⟩])
    (.seq
     (.seq
      (.reg [4] [
        ⟨none, (some 7), .mov (.t 0), []⟩,
        ⟨none, (some 8), .call false 459 [.t 7, .c (.int .i64 5)], []⟩,
        ⟨none, (some 4), .mov (.t 8), []⟩])
      (.block 0
       (.loop b328_1)))
     (.seq
      (.reg [2] [
        ⟨none, (some 34), .mov (.t 3), []⟩,
        ⟨none, (some 2), .mov (.t 34), []⟩])
      .ret))))
def c328 : Fn := { np := 1, nt := 35, kind := .args, res := [.t 2], body := k328 }

/- impl.checkCamera -/
def k329 : Cd :=
  (.seq
   (.reg [6] [
     ⟨none, (some 6), .mov (.c (.int .i64 0)), []⟩])
   (.seq
    (.block 0
     (.seq
      (.reg [7] [
        ⟨none, (some 8), .mov (.t 0), []⟩,
        ⟨none, (some 9), .call true 281 [.t 8], []⟩,
        ⟨none, (some 10), .un .not (.t 9), []⟩,
        ⟨none, (some 7), .mov (.t 10), []⟩])
      (.cond (.t 7)
       (.seq
        (.reg [6] [
          ⟨none, (some 6), .mov (.c (.int .i64 1)), []⟩])
        .ret)
       (.seq
        (.reg [11] [
          ⟨none, (some 12), .mov (.t 1), []⟩,
          ⟨none, (some 13), .mov (.t 2), []⟩,
          ⟨none, (some 14), .call true 416 [.t 12, .t 13], []⟩,
          ⟨none, (some 15), .un .not (.t 14), []⟩,
          ⟨none, (some 11), .mov (.t 15), []⟩])
        (.cond (.t 11)
         (.seq
          (.reg [6] [
            ⟨none, (some 6), .mov (.c (.int .i64 2)), []⟩])
          .ret)
         .skip)))))
    (.seq
     (.reg [6] [
       ⟨none, (some 6), .mov (.c (.int .i64 0)), []⟩])
     .ret)))
def c329 : Fn := { np := 3, nt := 16, kind := .pure, res := [.t 6], body := k329 }

/- (impl.Scene).flat -/
def b330_1 : Cd :=
  (.seq
   (.reg [14] [
     ⟨none, (some 14), .bin .lss (.t 13) (.t 12), []⟩])
   (.seq
    (.cond (.t 14)
     .skip
     (.exit 0))
    (.seq
     (.block 1
      (.seq
       (.reg [9] [
         ⟨none, (some 15), .idxA 27 (.t 11) (.t 13), []⟩,
         ⟨none, (some 16), .ld 27 true (.t 15), []⟩,
         ⟨none, (some 9), .zero true [.int .u16 0, .int .u16 0, .int .u16 0, .int .u16 0, .int .u16 0, .int .u16 0, .int .u16 0, .int .u16 0, .int .u16 0, .int .u16 0, .int .u16 0, .int .u16 0, .int .u16 0, .int .u16 0, .int .u16 0, .int .u16 0, .int .u16 0, .int .u16 0, .int .u16 0, .int .u16 0, .int .u16 0, .int .u16 0, .int .u16 0, .int .u16 0, .int .i8 0, .int .i8 0, .int .i8 0], []⟩,
         ⟨none, (some 9), .stV 9 none 27 (.t 16), []⟩])
       (.reg [7] [
         ⟨none, (some 17), .ldV 7 none 24 true, []⟩,
         ⟨none, (some 18), .adrF 9 none 0, []⟩,
         ⟨none, (some 19), .ldV 9 (some 18) 24 true, []⟩,
         ⟨none, (some 20), .ldV 9 none 27 true, []⟩,
         ⟨none, (some 21), .mov (.t 1), []⟩,
         ⟨none, (some 22), .mov (.t 2), []⟩,
         ⟨none, (some 23), .call true 335 [.t 20, .t 21, .t 22], []⟩,
         ⟨none, (some 24), .ext (.t 23) 0, []⟩,
         ⟨none, (some 25), .ext (.t 23) 1, []⟩,
         ⟨none, (some 26), .call true 336 [.t 19, .t 24, .t 25], []⟩,
         ⟨none, (some 27), .call true 497 [.t 17, .t 26], []⟩,
         ⟨none, (some 7), .stV 7 none 24 (.t 27), []⟩])))
     (.reg [13] [
       ⟨none, (some 28), .bin .add (.t 13) (.c (.int .i64 1)), []⟩,
       ⟨none, (some 13), .mov (.t 28), []⟩]))))
def k330 : Cd :=
  (.seq
   (.reg [6] [
     ⟨none, (some 6), .zero true (zs 24 (.int .u16 0)), []⟩])
   (.seq
    (.reg [7] [
      ⟨none, (some 10), .agg (zs 24 (.int .u16 0)) [], []⟩,
      ⟨none, (some 7), .zero true (zs 24 (.int .u16 0)), []⟩,
      ⟨none, (some 7), .stV 7 none 24 (.t 10), []⟩])
    (.seq
     (.seq
      (.reg [11, 12, 13] [
        ⟨none, (some 11), .mov (.t 0), []⟩,
        ⟨none, (some 12), .len (.t 11), []⟩,
        ⟨none, (some 13), .mov (.c (.int .i64 0)), []⟩])
      (.block 0
       (.loop b330_1)))
     (.seq
      (.reg [6] [
        ⟨none, (some 29), .ldV 7 none 24 true, []⟩,
        ⟨none, (some 6), .stV 6 none 24 (.t 29), []⟩])
      .ret))))
def c330 : Fn := { np := 3, nt := 30, kind := .pure, res := [.v 6 24 true], body := k330 }

/- spec.l05Camera -/
def k331 : Cd :=
  (.seq
   (.reg [6] [
     ⟨none, (some 6), .mov (.c (.int .i64 0)), []⟩])
   (.seq
    (.seq
     (.reg [9] [
       ⟨none, (some 7), .mov (.t 0), []⟩,
       ⟨none, (some 8), .call true 498 [.t 7], []⟩,
       ⟨none, (some 9), .un .not (.t 8), []⟩])
     (.cond (.t 9)
      (.seq
       (.reg [6] [
         ⟨none, (some 6), .mov (.c (.int .i64 1)), []⟩])
       .ret)
      .skip))
    (.seq
     (.seq
      (.reg [17] [
        ⟨none, (some 10), .mov (.t 1), []⟩,
        ⟨none, (some 11), .call true 304 [.t 10, .c (.int .i64 (-100)), .c (.int .i64 100)], []⟩,
        ⟨none, (some 12), .un .not (.t 11), []⟩,
        ⟨none, (some 13), .mov (.t 12), []⟩,
        ⟨(some (13, false)), (some 14), .mov (.t 2), []⟩,
        ⟨(some (13, false)), (some 15), .call true 304 [.t 14, .c (.int .i64 (-100)), .c (.int .i64 100)], []⟩,
        ⟨(some (13, false)), (some 16), .un .not (.t 15), []⟩,
        ⟨none, (some 17), .pick (.t 13) (.c (.bool true)) (.t 16), []⟩])
      (.cond (.t 17)
       (.seq
        (.reg [6] [
          ⟨none, (some 6), .mov (.c (.int .i64 2)), []⟩])
        .ret)
       .skip))
     (.seq
      (.reg [6] [
        ⟨none, (some 6), .mov (.c (.int .i64 0)), []⟩])
      .ret))))
def c331 : Fn := { np := 3, nt := 18, kind := .pure, res := [.t 6], body := k331 }

/- spec.l05Flat -/
def b332_1 : Cd :=
  (.seq
   (.seq
    (.reg [16] [
      ⟨none, (some 13), .mov (.t 8), []⟩,
      ⟨none, (some 14), .mov (.t 0), []⟩,
      ⟨none, (some 15), .len (.t 14), []⟩,
      ⟨none, (some 16), .bin .lss (.t 13) (.t 15), []⟩])
    (.cond (.t 16)
     .skip
     (.exit 0)))
   (.seq
    (.block 1
     (.seq
      (.reg [9, 10] [
        ⟨none, (some 20), .mov (.t 0), []⟩,
        ⟨none, (some 21), .mov (.t 8), []⟩,
        ⟨none, (some 22), .idxA 27 (.t 20) (.t 21), []⟩,
        ⟨none, (some 23), .mov (.t 1), []⟩,
        ⟨none, (some 24), .mov (.t 2), []⟩,
        ⟨none, (some 25), .call true 499 [.t 22, .t 23, .t 24], []⟩,
        ⟨none, (some 19), .mov (.t 25), []⟩,
        ⟨none, (some 26), .ext (.t 19) 0, []⟩,
        ⟨none, (some 27), .ext (.t 19) 1, []⟩,
        ⟨none, (some 9), .mov (.t 26), []⟩,
        ⟨none, (some 10), .mov (.t 27), []⟩])
      (.seq
       (.reg [11] [
         ⟨none, (some 28), .mov (.t 0), []⟩,
         ⟨none, (some 29), .mov (.t 8), []⟩,
         ⟨none, (some 30), .idxA 27 (.t 28) (.t 29), []⟩,
         ⟨none, (some 31), .fldP 0 (.t 30), []⟩,
         ⟨none, (some 32), .mov (.t 9), []⟩,
         ⟨none, (some 33), .mov (.t 10), []⟩,
         ⟨none, (some 34), .call true 468 [.t 31, .t 32, .t 33], []⟩,
         ⟨none, (some 11), .new 1 (zs 24 (.int .u16 0)), []⟩,
         ⟨none, none, .st 24 (.t 11) (.t 34), []⟩])
       (.reg [] [
         ⟨none, (some 35), .call true 500 [.t 7, .t 11], []⟩,
         ⟨none, none, .st 24 (.t 7) (.t 35), []⟩]))))
    (.reg [8] [
      ⟨none, (some 17), .mov (.t 8), []⟩,
      ⟨none, (some 18), .bin .add (.t 17) (.c (.int .i64 1)), []⟩,
      ⟨none, (some 8), .mov (.t 18), []⟩])))
def k332 : Cd :=
  (.seq
   (.reg [6] [
     ⟨none, (some 6), .zero true (zs 24 (.int .u16 0)), []⟩])
   (.seq
    (.reg [7] [
      ⟨none, (some 12), .agg (zs 24 (.int .u16 0)) [], []⟩,
      ⟨none, (some 7), .new 1 (zs 24 (.int .u16 0)), []⟩,
      ⟨none, none, .st 24 (.t 7) (.t 12), []⟩])
    (.seq
     (.seq
      (.reg [8] [
        ⟨none, (some 8), .mov (.c (.int .i64 0)), []⟩])
      (.block 0
       (.loop b332_1)))
     (.seq
      (.reg [6] [
        ⟨none, (some 36), .ld 24 true (.t 7), []⟩,
        ⟨none, (some 6), .stV 6 none 24 (.t 36), []⟩])
      .ret))))
def c332 : Fn := { np := 3, nt := 37, kind := .pure, res := [.v 6 24 true], body := k332 }

/- impl.ValidCel -/
def k333 : Cd :=
  (.seq
   (.reg [1, 2] [
     ⟨none, (some 1), .mov (.t 0), []⟩,
     ⟨none, (some 2), .mov (.c (.bool false)), []⟩])
   (.seq
    (.reg [2] [
      ⟨none, (some 3), .adrF 1 none 0, []⟩,
      ⟨none, (some 4), .ldV 1 (some 3) 12 true, []⟩,
      ⟨none, (some 5), .adrF 1 none 12, []⟩,
      ⟨none, (some 6), .ldV 1 (some 5) 12 true, []⟩,
      ⟨none, (some 7), .bldS 12 2 (zs 12 (.int .u16 0)) [(0, 12, (.t 4)), (12, 12, (.t 6))], []⟩,
      ⟨none, (some 8), .call true 351 [.t 7], []⟩,
      ⟨none, (some 9), .mov (.t 8), []⟩,
      ⟨(some (9, true)), (some 10), .adrF 1 none 0, []⟩,
      ⟨(some (9, true)), (some 11), .ldV 1 (some 10) 12 true, []⟩,
      ⟨(some (9, true)), (some 12), .adrF 1 none 12, []⟩,
      ⟨(some (9, true)), (some 13), .ldV 1 (some 12) 12 true, []⟩,
      ⟨(some (9, true)), (some 14), .call true 350 [.t 11, .t 13], []⟩,
      ⟨(some (9, true)), (some 15), .agg (zs 12 (.int .u16 0)) [], []⟩,
      ⟨(some (9, true)), (some 16), .eq (.a (rb 12 (some .u16))) false (.t 14) (.t 15), []⟩,
      ⟨none, (some 17), .pick (.t 9) (.t 16) (.c (.bool false)), []⟩,
      ⟨none, (some 2), .mov (.t 17), []⟩])
    .ret))
def c333 : Fn := { np := 1, nt := 18, kind := .pure, res := [.t 2], body := k333 }

/- (impl.Scene).isIn -/
def k334 : Cd :=
  (.seq
   (.reg [4] [
     ⟨none, (some 4), .mov (.c (.bool false)), []⟩])
   (.seq
    (.reg [4] [
      ⟨none, (some 5), .mov (.t 1), []⟩,
      ⟨none, (some 6), .mov (.t 0), []⟩,
      ⟨none, (some 7), .len (.t 6), []⟩,
      ⟨none, (some 8), .bin .sub (.t 7) (.c (.int .i64 1)), []⟩,
      ⟨none, (some 9), .call true 295 [.t 5, .c (.int .i64 0), .t 8], []⟩,
      ⟨none, (some 4), .mov (.t 9), []⟩])
    .ret))
def c334 : Fn := { np := 2, nt := 10, kind := .pure, res := [.t 4], body := k334 }

/- (impl.Layer).offset -/
def k335 : Cd :=
  (.seq
   (.reg [3, 6, 7] [
     ⟨none, (some 3), .mov (.t 0), []⟩,
     ⟨none, (some 6), .mov (.c (.int .i64 0)), []⟩,
     ⟨none, (some 7), .mov (.c (.int .i64 0)), []⟩])
   (.seq
    (.reg [6, 7] [
      ⟨none, (some 8), .adrF 3 none 24, []⟩,
      ⟨none, (some 9), .ldV 3 (some 8) 1 false, []⟩,
      ⟨none, (some 10), .conv .i64 (.t 9), []⟩,
      ⟨none, (some 11), .mov (.t 1), []⟩,
      ⟨none, (some 12), .adrF 3 none 26, []⟩,
      ⟨none, (some 13), .ldV 3 (some 12) 1 false, []⟩,
      ⟨none, (some 14), .conv .i64 (.t 13), []⟩,
      ⟨none, (some 17), .adrF 3 none 25, []⟩,
      ⟨none, (some 18), .ldV 3 (some 17) 1 false, []⟩,
      ⟨none, (some 19), .conv .i64 (.t 18), []⟩,
      ⟨none, (some 20), .mov (.t 2), []⟩,
      ⟨none, (some 21), .adrF 3 none 26, []⟩,
      ⟨none, (some 22), .ldV 3 (some 21) 1 false, []⟩,
      ⟨none, (some 23), .conv .i64 (.t 22), []⟩,
      ⟨none, (some 15), .call true 501 [.t 11, .t 14], []⟩,
      ⟨none, (some 16), .bin .sub (.t 10) (.t 15), []⟩,
      ⟨none, (some 24), .call true 501 [.t 20, .t 23], []⟩,
      ⟨none, (some 25), .bin .sub (.t 19) (.t 24), []⟩,
      ⟨none, (some 6), .mov (.t 16), []⟩,
      ⟨none, (some 7), .mov (.t 25), []⟩])
    .ret))
def c335 : Fn := { np := 3, nt := 26, kind := .pure, res := [.t 6, .t 7], body := k335 }

/- (impl.Cel).moved -/
def k336 : Cd :=
  (.seq
   (.reg [3, 6] [
     ⟨none, (some 3), .mov (.t 0), []⟩,
     ⟨none, (some 6), .zero true (zs 24 (.int .u16 0)), []⟩])
   (.seq
    (.reg [6] [
      ⟨none, (some 7), .adrF 3 none 0, []⟩,
      ⟨none, (some 8), .ldV 3 (some 7) 12 true, []⟩,
      ⟨none, (some 9), .mov (.t 1), []⟩,
      ⟨none, (some 10), .mov (.t 2), []⟩,
      ⟨none, (some 12), .adrF 3 none 12, []⟩,
      ⟨none, (some 13), .ldV 3 (some 12) 12 true, []⟩,
      ⟨none, (some 14), .mov (.t 1), []⟩,
      ⟨none, (some 15), .mov (.t 2), []⟩,
      ⟨none, (some 11), .call true 358 [.t 8, .t 9, .t 10], []⟩,
      ⟨none, (some 16), .call true 358 [.t 13, .t 14, .t 15], []⟩,
      ⟨none, (some 17), .agg (zs 24 (.int .u16 0)) [(0, 12, (.t 11)), (12, 12, (.t 16))], []⟩,
      ⟨none, (some 6), .stV 6 none 24 (.t 17), []⟩])
    .ret))
def c336 : Fn := { np := 3, nt := 18, kind := .pure, res := [.v 6 24 true], body := k336 }

/- spec.l01Join -/
def b337_1 : Cd :=
  (.seq
   (.seq
    (.reg [9] [
      ⟨none, (some 8), .mov (.t 6), []⟩,
      ⟨none, (some 9), .bin .lss (.t 8) (.c (.int .i64 12)), []⟩])
    (.cond (.t 9)
     .skip
     (.exit 0)))
   (.seq
    (.block 1
     (.reg [5] [
       ⟨none, (some 12), .mov (.t 6), []⟩,
       ⟨none, (some 13), .mov (.t 0), []⟩,
       ⟨none, (some 14), .mov (.t 6), []⟩,
       ⟨none, (some 15), .nil (.t 13), []⟩,
       ⟨none, (some 16), .idxP 12 1 (.t 15) (.t 14), []⟩,
       ⟨none, (some 17), .ld 1 false (.t 16), []⟩,
       ⟨none, (some 18), .mov (.t 1), []⟩,
       ⟨none, (some 19), .mov (.t 6), []⟩,
       ⟨none, (some 20), .nil (.t 18), []⟩,
       ⟨none, (some 21), .idxP 12 1 (.t 20) (.t 19), []⟩,
       ⟨none, (some 22), .ld 1 false (.t 21), []⟩,
       ⟨none, (some 23), .bin .or (.t 17) (.t 22), []⟩,
       ⟨none, (some 24), .adrI 5 none 12 1 (.t 12), []⟩,
       ⟨none, (some 5), .stV 5 (some 24) 1 (.t 23), []⟩]))
    (.reg [6] [
      ⟨none, (some 10), .mov (.t 6), []⟩,
      ⟨none, (some 11), .bin .add (.t 10) (.c (.int .i64 1)), []⟩,
      ⟨none, (some 6), .mov (.t 11), []⟩])))
def k337 : Cd :=
  (.seq
   (.reg [4] [
     ⟨none, (some 4), .zero true (zs 12 (.int .u16 0)), []⟩])
   (.seq
    (.reg [5] [
      ⟨none, (some 7), .agg (zs 12 (.int .u16 0)) [], []⟩,
      ⟨none, (some 5), .zero true (zs 12 (.int .u16 0)), []⟩,
      ⟨none, (some 5), .stV 5 none 12 (.t 7), []⟩])
    (.seq
     (.seq
      (.reg [6] [
        ⟨none, (some 6), .mov (.c (.int .i64 0)), []⟩])
      (.block 0
       (.loop b337_1)))
     (.seq
      (.reg [4] [
        ⟨none, (some 25), .ldV 5 none 12 true, []⟩,
        ⟨none, (some 4), .stV 4 none 12 (.t 25), []⟩])
      .ret))))
def c337 : Fn := { np := 2, nt := 26, kind := .pure, res := [.v 4 12 true], body := k337 }

/- (impl.Frame).join -/
def k338 : Cd :=
  (.seq
   (.reg [2, 3, 4] [
     ⟨none, (some 2), .mov (.t 0), []⟩,
     ⟨none, (some 3), .mov (.t 1), []⟩,
     ⟨none, (some 4), .zero true (zs 12 (.int .u16 0)), []⟩])
   (.seq
    (.reg [4] [
      ⟨none, (some 5), .ldV 2 none 12 true, []⟩,
      ⟨none, (some 6), .ldV 3 none 12 true, []⟩,
      ⟨none, (some 7), .call true 443 [.t 5, .t 6, .f 502], []⟩,
      ⟨none, (some 4), .stV 4 none 12 (.t 7), []⟩])
    .ret))
def c338 : Fn := { np := 2, nt := 8, kind := .pure, res := [.v 4 12 true], body := k338 }

/- spec.l01Place -/
def k342 : Cd :=
  (.seq
   (.reg [4] [
     ⟨none, (some 4), .mov (.c (.bool false)), []⟩])
   (.seq
    (.reg [4] [
      ⟨none, (some 5), .mov (.t 0), []⟩,
      ⟨none, (some 6), .call true 304 [.t 5, .c (.int .i64 0), .c (.int .i64 11)], []⟩,
      ⟨none, (some 7), .mov (.t 6), []⟩,
      ⟨(some (7, true)), (some 8), .mov (.t 1), []⟩,
      ⟨(some (7, true)), (some 9), .call true 304 [.t 8, .c (.int .i64 0), .c (.int .i64 11)], []⟩,
      ⟨none, (some 10), .pick (.t 7) (.t 9) (.c (.bool false)), []⟩,
      ⟨none, (some 4), .mov (.t 10), []⟩])
    .ret))
def c342 : Fn := { np := 2, nt := 11, kind := .pure, res := [.t 4], body := k342 }

/- spec.l01Less -/
def b349_1 : Cd :=
  (.seq
   (.seq
    (.reg [9] [
      ⟨none, (some 8), .mov (.t 6), []⟩,
      ⟨none, (some 9), .bin .lss (.t 8) (.c (.int .i64 12)), []⟩])
    (.cond (.t 9)
     .skip
     (.exit 0)))
   (.seq
    (.block 1
     (.reg [5] [
       ⟨none, (some 12), .mov (.t 6), []⟩,
       ⟨none, (some 13), .mov (.t 0), []⟩,
       ⟨none, (some 14), .mov (.t 6), []⟩,
       ⟨none, (some 15), .nil (.t 13), []⟩,
       ⟨none, (some 16), .idxP 12 1 (.t 15) (.t 14), []⟩,
       ⟨none, (some 17), .ld 1 false (.t 16), []⟩,
       ⟨none, (some 18), .mov (.t 1), []⟩,
       ⟨none, (some 19), .mov (.t 6), []⟩,
       ⟨none, (some 20), .nil (.t 18), []⟩,
       ⟨none, (some 21), .idxP 12 1 (.t 20) (.t 19), []⟩,
       ⟨none, (some 22), .ld 1 false (.t 21), []⟩,
       ⟨none, (some 23), .bin .andNot (.t 17) (.t 22), []⟩,
       ⟨none, (some 24), .adrI 5 none 12 1 (.t 12), []⟩,
       ⟨none, (some 5), .stV 5 (some 24) 1 (.t 23), []⟩]))
    (.reg [6] [
      ⟨none, (some 10), .mov (.t 6), []⟩,
      ⟨none, (some 11), .bin .add (.t 10) (.c (.int .i64 1)), []⟩,
      ⟨none, (some 6), .mov (.t 11), []⟩])))
def k349 : Cd :=
  (.seq
   (.reg [4] [
     ⟨none, (some 4), .zero true (zs 12 (.int .u16 0)), []⟩])
   (.seq
    (.reg [5] [
      ⟨none, (some 7), .agg (zs 12 (.int .u16 0)) [], []⟩,
      ⟨none, (some 5), .zero true (zs 12 (.int .u16 0)), []⟩,
      ⟨none, (some 5), .stV 5 none 12 (.t 7), []⟩])
    (.seq
     (.seq
      (.reg [6] [
        ⟨none, (some 6), .mov (.c (.int .i64 0)), []⟩])
      (.block 0
       (.loop b349_1)))
     (.seq
      (.reg [4] [
        ⟨none, (some 25), .ldV 5 none 12 true, []⟩,
        ⟨none, (some 4), .stV 4 none 12 (.t 25), []⟩])
      .ret))))
def c349 : Fn := { np := 2, nt := 26, kind := .pure, res := [.v 4 12 true], body := k349 }

/- (impl.Frame).less -/
def k350 : Cd :=
  (.seq
   (.reg [2, 3, 4] [
     ⟨none, (some 2), .mov (.t 0), []⟩,
     ⟨none, (some 3), .mov (.t 1), []⟩,
     ⟨none, (some 4), .zero true (zs 12 (.int .u16 0)), []⟩])
   (.seq
    (.reg [4] [
      ⟨none, (some 5), .ldV 2 none 12 true, []⟩,
      ⟨none, (some 6), .ldV 3 none 12 true, []⟩,
      ⟨none, (some 7), .call true 443 [.t 5, .t 6, .f 504], []⟩,
      ⟨none, (some 4), .stV 4 none 12 (.t 7), []⟩])
    .ret))
def c350 : Fn := { np := 2, nt := 8, kind := .pure, res := [.v 4 12 true], body := k350 }

/- impl.areFrames -/
def k351 : Cd :=
  (.seq
   (.reg [2] [
     ⟨none, (some 2), .mov (.c (.bool false)), []⟩])
   (.seq
    (.reg [2] [
      ⟨none, (some 3), .mov (.t 0), []⟩,
      ⟨none, (some 4), .call true 505 [.t 3, .f 506], []⟩,
      ⟨none, (some 5), .un .not (.t 4), []⟩,
      ⟨none, (some 2), .mov (.t 5), []⟩])
    .ret))
def c351 : Fn := { np := 1, nt := 6, kind := .pure, res := [.t 2], body := k351 }

/- spec.l01Moved -/
def b355_1 : Cd :=
  (.seq
   (.seq
    (.reg [16] [
      ⟨none, (some 13), .mov (.t 9), []⟩,
      ⟨none, (some 14), .mov (.t 8), []⟩,
      ⟨none, (some 15), .len (.t 14), []⟩,
      ⟨none, (some 16), .bin .lss (.t 13) (.t 15), []⟩])
    (.cond (.t 16)
     .skip
     (.exit 0)))
   (.seq
    (.block 1
     (.reg [] [
       ⟨none, (some 19), .mov (.t 8), []⟩,
       ⟨none, (some 20), .mov (.t 9), []⟩,
       ⟨none, (some 21), .idxA 2 (.t 19) (.t 20), []⟩,
       ⟨none, (some 22), .fldP 0 (.t 21), []⟩,
       ⟨none, (some 23), .ld 1 false (.t 22), []⟩,
       ⟨none, (some 24), .conv .i64 (.t 23), []⟩,
       ⟨none, (some 25), .mov (.t 1), []⟩,
       ⟨none, (some 26), .bin .add (.t 24) (.t 25), []⟩,
       ⟨none, (some 27), .mov (.t 8), []⟩,
       ⟨none, (some 28), .mov (.t 9), []⟩,
       ⟨none, (some 29), .idxA 2 (.t 27) (.t 28), []⟩,
       ⟨none, (some 30), .fldP 1 (.t 29), []⟩,
       ⟨none, (some 31), .ld 1 false (.t 30), []⟩,
       ⟨none, (some 32), .conv .i64 (.t 31), []⟩,
       ⟨none, (some 33), .mov (.t 2), []⟩,
       ⟨none, (some 34), .bin .add (.t 32) (.t 33), []⟩,
       ⟨none, (some 35), .call false 305 [.t 7, .t 26, .t 34], []⟩]))
    (.reg [9] [
      ⟨none, (some 17), .mov (.t 9), []⟩,
      ⟨none, (some 18), .bin .add (.t 17) (.c (.int .i64 1)), []⟩,
      ⟨none, (some 9), .mov (.t 18), []⟩])))
def k355 : Cd :=
  (.seq
   (.reg [6] [
     ⟨none, (some 6), .zero true (zs 12 (.int .u16 0)), []⟩])
   (.seq
    (.reg [7] [
      ⟨none, (some 10), .agg (zs 12 (.int .u16 0)) [], []⟩,
      ⟨none, (some 7), .new 1 (zs 12 (.int .u16 0)), []⟩,
      ⟨none, none, .st 12 (.t 7) (.t 10), []⟩])
    (.seq
     (.reg [8] [
       ⟨none, (some 11), .mov (.t 0), []⟩,
       ⟨none, (some 12), .call true 440 [.t 11], []⟩,
       ⟨none, (some 8), .mov (.t 12), []⟩])
     (.seq
      (.seq
       (.reg [9] [
         ⟨none, (some 9), .mov (.c (.int .i64 0)), []⟩])
       (.block 0
        (.loop b355_1)))
      (.seq
       (.reg [6] [
         ⟨none, (some 36), .ld 12 true (.t 7), []⟩,
         ⟨none, (some 6), .stV 6 none 12 (.t 36), []⟩])
       .ret)))))
def c355 : Fn := { np := 3, nt := 37, kind := .pure, res := [.v 6 12 true], body := k355 }

/- (impl.Frame).moved -/
def b358_1 : Cd :=
  (.seq
   (.reg [16] [
     ⟨none, (some 16), .bin .lss (.t 15) (.c (.int .i64 12)), []⟩])
   (.seq
    (.cond (.t 16)
     .skip
     (.exit 0))
    (.seq
     (.block 1
      (.seq
       (.reg [8] [
         ⟨none, (some 17), .mov (.t 15), []⟩,
         ⟨none, (some 8), .mov (.t 17), []⟩])
       (.seq
        (.reg [9] [
          ⟨none, (some 18), .mov (.t 8), []⟩,
          ⟨none, (some 19), .mov (.t 2), []⟩,
          ⟨none, (some 20), .bin .sub (.t 18) (.t 19), []⟩,
          ⟨none, (some 9), .mov (.t 20), []⟩])
        (.seq
         (.seq
          (.reg [23] [
            ⟨none, (some 21), .mov (.t 9), []⟩,
            ⟨none, (some 22), .call true 295 [.t 21, .c (.int .i64 0), .c (.int .i64 11)], []⟩,
            ⟨none, (some 23), .un .not (.t 22), []⟩])
          (.cond (.t 23)
           (.exit 1)
           .skip))
         (.seq
          (.reg [25] [
            ⟨none, (some 24), .mov (.t 1), []⟩,
            ⟨none, (some 25), .bin .geq (.t 24) (.c (.int .i64 0)), []⟩])
          (.cond (.t 25)
           (.reg [7] [
             ⟨none, (some 26), .mov (.t 8), []⟩,
             ⟨none, (some 27), .mov (.t 9), []⟩,
             ⟨none, (some 28), .adrI 3 none 12 1 (.t 27), []⟩,
             ⟨none, (some 29), .ldV 3 (some 28) 1 false, []⟩,
             ⟨none, (some 30), .mov (.t 1), []⟩,
             ⟨none, (some 31), .bin .shl (.t 29) (.t 30), []⟩,
             ⟨none, (some 32), .bin .and (.t 31) (.c (.int .u16 4095)), []⟩,
             ⟨none, (some 33), .adrI 7 none 12 1 (.t 26), []⟩,
             ⟨none, (some 7), .stV 7 (some 33) 1 (.t 32), []⟩])
           (.reg [7] [
             ⟨none, (some 34), .mov (.t 8), []⟩,
             ⟨none, (some 35), .mov (.t 9), []⟩,
             ⟨none, (some 36), .adrI 3 none 12 1 (.t 35), []⟩,
             ⟨none, (some 37), .ldV 3 (some 36) 1 false, []⟩,
             ⟨none, (some 38), .mov (.t 1), []⟩,
             ⟨none, (some 39), .un .neg (.t 38), []⟩,
             ⟨none, (some 40), .bin .shr (.t 37) (.t 39), []⟩,
             ⟨none, (some 41), .adrI 7 none 12 1 (.t 34), []⟩,
             ⟨none, (some 7), .stV 7 (some 41) 1 (.t 40), []⟩])))))))
     (.reg [15] [
       ⟨none, (some 42), .bin .add (.t 15) (.c (.int .i64 1)), []⟩,
       ⟨none, (some 15), .mov (.t 42), []⟩]))))
def k358 : Cd :=
  (.seq
   (.reg [3, 6] [
     ⟨none, (some 3), .mov (.t 0), []⟩,
     ⟨none, (some 6), .zero true (zs 12 (.int .u16 0)), []⟩])
   (.seq
    (.reg [7] [
      ⟨none, (some 10), .agg (zs 12 (.int .u16 0)) [], []⟩,
      ⟨none, (some 7), .zero true (zs 12 (.int .u16 0)), []⟩,
      ⟨none, (some 7), .stV 7 none 12 (.t 10), []⟩])
    (.seq
     (.seq
      (.reg [13] [
        ⟨none, (some 11), .mov (.t 1), []⟩,
        ⟨none, (some 12), .call true 295 [.t 11, .c (.int .i64 (-12)), .c (.int .i64 12)], []⟩,
        ⟨none, (some 13), .un .not (.t 12), []⟩])
      (.cond (.t 13)
       (.seq
        (.reg [6] [
          ⟨none, (some 14), .ldV 7 none 12 true, []⟩,
          ⟨none, (some 6), .stV 6 none 12 (.t 14), []⟩])
        .ret)
       .skip))
     (.seq
      (.seq
       (.reg [15] [
         ⟨none, (some 15), .mov (.c (.int .i64 0)), []⟩])
       (.block 0
        (.loop b358_1)))
      (.seq
       (.reg [6] [
         ⟨none, (some 43), .ldV 7 none 12 true, []⟩,
         ⟨none, (some 6), .stV 6 none 12 (.t 43), []⟩])
       .ret)))))
def c358 : Fn := { np := 3, nt := 44, kind := .pure, res := [.v 6 12 true], body := k358 }

/- spec.l01Ok -/
def b359_1 : Cd :=
  (.seq
   (.seq
    (.reg [5] [
      ⟨none, (some 4), .mov (.t 3), []⟩,
      ⟨none, (some 5), .bin .lss (.t 4) (.c (.int .i64 12)), []⟩])
    (.cond (.t 5)
     .skip
     (.exit 0)))
   (.seq
    (.block 1
     (.seq
      (.reg [13] [
        ⟨none, (some 8), .mov (.t 0), []⟩,
        ⟨none, (some 9), .mov (.t 3), []⟩,
        ⟨none, (some 10), .nil (.t 8), []⟩,
        ⟨none, (some 11), .idxP 12 1 (.t 10) (.t 9), []⟩,
        ⟨none, (some 12), .ld 1 false (.t 11), []⟩,
        ⟨none, (some 13), .bin .gtr (.t 12) (.c (.int .u16 4095)), []⟩])
      (.cond (.t 13)
       (.seq
        (.reg [2] [
          ⟨none, (some 2), .mov (.c (.bool false)), []⟩])
        .ret)
       .skip)))
    (.reg [3] [
      ⟨none, (some 6), .mov (.t 3), []⟩,
      ⟨none, (some 7), .bin .add (.t 6) (.c (.int .i64 1)), []⟩,
      ⟨none, (some 3), .mov (.t 7), []⟩])))
def k359 : Cd :=
  (.seq
   (.reg [2] [
     ⟨none, (some 2), .mov (.c (.bool false)), []⟩])
   (.seq
    (.seq
     (.reg [3] [
       ⟨none, (some 3), .mov (.c (.int .i64 0)), []⟩])
     (.block 0
      (.loop b359_1)))
    (.seq
     (.reg [2] [
       ⟨none, (some 2), .mov (.c (.bool true)), []⟩])
     .ret)))
def c359 : Fn := { np := 1, nt := 14, kind := .pure, res := [.t 2], body := k359 }

/- (impl.Frame).differ -/
def k367 : Cd :=
  (.seq
   (.reg [2, 3, 4] [
     ⟨none, (some 2), .mov (.t 0), []⟩,
     ⟨none, (some 3), .mov (.t 1), []⟩,
     ⟨none, (some 4), .zero true (zs 12 (.int .u16 0)), []⟩])
   (.seq
    (.reg [4] [
      ⟨none, (some 5), .ldV 2 none 12 true, []⟩,
      ⟨none, (some 6), .ldV 3 none 12 true, []⟩,
      ⟨none, (some 7), .call true 443 [.t 5, .t 6, .f 512], []⟩,
      ⟨none, (some 4), .stV 4 none 12 (.t 7), []⟩])
    .ret))
def c367 : Fn := { np := 2, nt := 8, kind := .pure, res := [.v 4 12 true], body := k367 }

/- spec.l01Drawn -/
def b368_1 : Cd :=
  (.seq
   (.seq
    (.reg [16] [
      ⟨none, (some 15), .mov (.t 6), []⟩,
      ⟨none, (some 16), .bin .gtr (.t 15) (.c (.int .i64 0)), []⟩])
    (.cond (.t 16)
     .skip
     (.exit 0)))
   (.seq
    (.block 1
     (.seq
      (.reg [] [
        ⟨none, (some 19), .mov (.t 4), []⟩,
        ⟨none, (some 20), .mov (.t 5), []⟩,
        ⟨none, (some 21), .call false 305 [.t 3, .t 19, .t 20], []⟩])
      (.seq
       (.reg [23] [
         ⟨none, (some 22), .mov (.t 0), []⟩,
         ⟨none, (some 23), .call false 459 [.t 22, .c (.int .i64 6)], []⟩])
       (.block 2
        (.seq
         (.reg [30] [
           ⟨none, (some 31), .bin .eql (.t 23) (.c (.int .i64 0)), []⟩,
           ⟨none, (some 30), .mov (.t 31), []⟩])
         (.cond (.t 30)
          (.seq
           (.reg [4] [
             ⟨none, (some 32), .mov (.t 0), []⟩,
             ⟨none, (some 33), .call false 459 [.t 32, .c (.int .i64 12)], []⟩,
             ⟨none, (some 4), .mov (.t 33), []⟩])
           (.reg [5] [
             ⟨none, (some 34), .mov (.t 0), []⟩,
             ⟨none, (some 35), .call false 459 [.t 34, .c (.int .i64 12)], []⟩,
             ⟨none, (some 5), .mov (.t 35), []⟩]))
          (.seq
           (.seq
            (.reg [36] [
              ⟨none, (some 37), .bin .eql (.t 23) (.c (.int .i64 1)), []⟩,
              ⟨none, (some 36), .mov (.t 37), []⟩])
            (.cond (.t 36)
             .skip
             (.reg [36] [
               ⟨none, (some 38), .bin .eql (.t 23) (.c (.int .i64 2)), []⟩,
               ⟨none, (some 36), .mov (.t 38), []⟩])))
           (.cond (.t 36)
            (.reg [4] [
              ⟨none, (some 39), .mov (.t 4), []⟩,
              ⟨none, (some 40), .bin .add (.t 39) (.c (.int .i64 1)), []⟩,
              ⟨none, (some 41), .bin .rem (.t 40) (.c (.int .i64 12)), []⟩,
              ⟨none, (some 4), .mov (.t 41), []⟩])
            (.reg [5] [
              ⟨none, (some 24), .mov (.t 5), []⟩,
              ⟨none, (some 25), .mov (.t 0), []⟩,
              ⟨none, (some 26), .call false 459 [.t 25, .c (.int .i64 3)], []⟩,
              ⟨none, (some 27), .bin .add (.t 24) (.t 26), []⟩,
              ⟨none, (some 28), .bin .add (.t 27) (.c (.int .i64 11)), []⟩,
              ⟨none, (some 29), .bin .rem (.t 28) (.c (.int .i64 12)), []⟩,
              ⟨none, (some 5), .mov (.t 29), []⟩])))))))))
    (.reg [6] [
      ⟨none, (some 17), .mov (.t 6), []⟩,
      ⟨none, (some 18), .bin .sub (.t 17) (.c (.int .i64 1)), []⟩,
      ⟨none, (some 6), .mov (.t 18), []⟩])))
def b368_2 : Cd :=
  (.seq
   (.seq
    (.reg [45] [
      ⟨none, (some 44), .mov (.t 7), []⟩,
      ⟨none, (some 45), .bin .lss (.t 44) (.c (.int .i64 12)), []⟩])
    (.cond (.t 45)
     .skip
     (.exit 3)))
   (.seq
    (.block 4
     (.reg [] [
       ⟨none, (some 48), .mov (.t 7), []⟩,
       ⟨none, (some 49), .mov (.t 7), []⟩,
       ⟨none, (some 50), .idxP 12 1 (.t 3) (.t 49), []⟩,
       ⟨none, (some 51), .ld 1 false (.t 50), []⟩,
       ⟨none, (some 52), .mov (.t 0), []⟩,
       ⟨none, (some 53), .call false 459 [.t 52, .c (.int .i64 4096)], [.t 50]⟩,
       ⟨none, (some 54), .conv .u16 (.t 53), []⟩,
       ⟨none, (some 55), .bin .or (.t 51) (.t 54), []⟩,
       ⟨none, (some 56), .idxP 12 1 (.t 3) (.t 48), []⟩,
       ⟨none, none, .st 1 (.t 56) (.t 55), []⟩]))
    (.reg [7] [
      ⟨none, (some 46), .mov (.t 7), []⟩,
      ⟨none, (some 47), .bin .add (.t 46) (.c (.int .i64 1)), []⟩,
      ⟨none, (some 7), .mov (.t 47), []⟩])))
def k368 : Cd :=
  (.seq
   (.reg [2] [
     ⟨none, (some 2), .zero true (zs 12 (.int .u16 0)), []⟩])
   (.seq
    (.reg [3] [
      ⟨none, (some 8), .agg (zs 12 (.int .u16 0)) [], []⟩,
      ⟨none, (some 3), .new 1 (zs 12 (.int .u16 0)), []⟩,
      ⟨none, none, .st 12 (.t 3) (.t 8), []⟩])
    (.seq
     (.reg [4] [
       ⟨none, (some 9), .mov (.t 0), []⟩,
       ⟨none, (some 10), .call false 459 [.t 9, .c (.int .i64 12)], []⟩,
       ⟨none, (some 4), .mov (.t 10), []⟩])
     (.seq
      (.reg [5] [
        ⟨none, (some 11), .mov (.t 0), []⟩,
        ⟨none, (some 12), .call false 459 [.t 11, .c (.int .i64 12)], []⟩,
        ⟨none, (some 5), .mov (.t 12), []⟩])
      (.seq
       (.seq
        (.reg [6] [
          ⟨none, (some 13), .mov (.t 0), []⟩,
          ⟨none, (some 14), .call false 459 [.t 13, .c (.int .i64 14)], []⟩,
          ⟨none, (some 6), .mov (.t 14), []⟩])
        (.block 0
         (.loop b368_1)))
       (.seq
        (.seq
         (.reg [43] [
           ⟨none, (some 42), .mov (.t 0), []⟩,
           ⟨none, (some 43), .call false 513 [.t 42, .c (.int .i64 8)], []⟩])
         (.cond (.t 43)
          (.seq
           (.reg [7] [
             ⟨none, (some 7), .mov (.c (.int .i64 0)), []⟩])
           (.block 3
            (.loop b368_2)))
          .skip))
        (.seq
         (.reg [2] [
           ⟨none, (some 57), .ld 12 true (.t 3), []⟩,
           ⟨none, (some 2), .stV 2 none 12 (.t 57), []⟩])
         .ret)))))))
def c368 : Fn := { np := 1, nt := 58, kind := .args, res := [.v 2 12 true], body := k368 }

/- (impl.Frame).count -/
def b393_1 : Cd :=
  (.seq
   (.reg [8] [
     ⟨none, (some 8), .bin .lss (.t 7) (.c (.int .i64 12)), []⟩])
   (.seq
    (.cond (.t 8)
     .skip
     (.exit 0))
    (.seq
     (.block 1
      (.seq
       (.reg [5] [
         ⟨none, (some 9), .idx 12 1 false (.t 6) (.t 7), []⟩,
         ⟨none, (some 5), .mov (.t 9), []⟩])
       (.reg [3] [
         ⟨none, (some 10), .mov (.t 3), []⟩,
         ⟨none, (some 11), .mov (.t 5), []⟩,
         ⟨none, (some 12), .call true 530 [.t 11], []⟩,
         ⟨none, (some 13), .bin .add (.t 10) (.t 12), []⟩,
         ⟨none, (some 3), .mov (.t 13), []⟩])))
     (.reg [7] [
       ⟨none, (some 14), .bin .add (.t 7) (.c (.int .i64 1)), []⟩,
       ⟨none, (some 7), .mov (.t 14), []⟩]))))
def k393 : Cd :=
  (.seq
   (.reg [1, 2] [
     ⟨none, (some 1), .mov (.t 0), []⟩,
     ⟨none, (some 2), .mov (.c (.int .i64 0)), []⟩])
   (.seq
    (.reg [3] [
      ⟨none, (some 3), .mov (.c (.int .i64 0)), []⟩])
    (.seq
     (.seq
      (.reg [6, 7] [
        ⟨none, (some 6), .ldV 1 none 12 true, []⟩,
        ⟨none, (some 7), .mov (.c (.int .i64 0)), []⟩])
      (.block 0
       (.loop b393_1)))
     (.seq
      (.reg [2] [
        ⟨none, (some 15), .mov (.t 3), []⟩,
        ⟨none, (some 2), .mov (.t 15), []⟩])
      .ret))))
def c393 : Fn := { np := 1, nt := 16, kind := .pure, res := [.t 2], body := k393 }

/- spec.l01Count -/
def k409 : Cd :=
  (.seq
   (.reg [2] [
     ⟨none, (some 2), .mov (.c (.int .i64 0)), []⟩])
   (.seq
    (.reg [2] [
      ⟨none, (some 3), .mov (.t 0), []⟩,
      ⟨none, (some 4), .call true 440 [.t 3], []⟩,
      ⟨none, (some 5), .len (.t 4), []⟩,
      ⟨none, (some 2), .mov (.t 5), []⟩])
    .ret))
def c409 : Fn := { np := 1, nt := 6, kind := .pure, res := [.t 2], body := k409 }

/- impl.isCamera -/
def k416 : Cd :=
  (.seq
   (.reg [4] [
     ⟨none, (some 4), .mov (.c (.bool false)), []⟩])
   (.seq
    (.reg [4] [
      ⟨none, (some 5), .mov (.t 0), []⟩,
      ⟨none, (some 6), .call true 295 [.t 5, .c (.int .i64 (-100)), .c (.int .i64 100)], []⟩,
      ⟨none, (some 7), .mov (.t 6), []⟩,
      ⟨(some (7, true)), (some 8), .mov (.t 1), []⟩,
      ⟨(some (7, true)), (some 9), .call true 295 [.t 8, .c (.int .i64 (-100)), .c (.int .i64 100)], []⟩,
      ⟨none, (some 10), .pick (.t 7) (.t 9) (.c (.bool false)), []⟩,
      ⟨none, (some 4), .mov (.t 10), []⟩])
    .ret))
def c416 : Fn := { np := 2, nt := 11, kind := .pure, res := [.t 4], body := k416 }

/- spec.l01Dots -/
def b440_1 : Cd :=
  (.seq
   (.seq
    (.reg [12] [
      ⟨none, (some 11), .mov (.t 5), []⟩,
      ⟨none, (some 12), .bin .lss (.t 11) (.c (.int .i64 12)), []⟩])
    (.cond (.t 12)
     .skip
     (.exit 2)))
   (.seq
    (.block 3
     (.seq
      (.reg [18] [
        ⟨none, (some 15), .mov (.t 0), []⟩,
        ⟨none, (some 16), .mov (.t 5), []⟩,
        ⟨none, (some 17), .mov (.t 4), []⟩,
        ⟨none, (some 18), .call true 456 [.t 15, .t 16, .t 17], []⟩])
      (.cond (.t 18)
       (.reg [3] [
         ⟨none, (some 19), .mov (.t 3), []⟩,
         ⟨none, (some 20), .mov (.t 5), []⟩,
         ⟨none, (some 21), .conv .i8 (.t 20), []⟩,
         ⟨none, (some 22), .mov (.t 4), []⟩,
         ⟨none, (some 23), .conv .i8 (.t 22), []⟩,
         ⟨none, (some 24), .agg [.int .i8 0, .int .i8 0] [(0, 1, (.t 21)), (1, 1, (.t 23))], []⟩,
         ⟨none, (some 25), .bldS 2 1 [.int .i8 0, .int .i8 0] [(0, 2, (.t 24))], []⟩,
         ⟨none, (some 26), .app 2 2 (.t 19) (.t 25), []⟩,
         ⟨none, (some 3), .mov (.t 26), []⟩])
       .skip)))
    (.reg [5] [
      ⟨none, (some 13), .mov (.t 5), []⟩,
      ⟨none, (some 14), .bin .add (.t 13) (.c (.int .i64 1)), []⟩,
      ⟨none, (some 5), .mov (.t 14), []⟩])))
def b440_2 : Cd :=
  (.seq
   (.seq
    (.reg [8] [
      ⟨none, (some 7), .mov (.t 4), []⟩,
      ⟨none, (some 8), .bin .lss (.t 7) (.c (.int .i64 12)), []⟩])
    (.cond (.t 8)
     .skip
     (.exit 0)))
   (.seq
    (.block 1
     (.seq
      (.reg [5] [
        ⟨none, (some 5), .mov (.c (.int .i64 0)), []⟩])
      (.block 2
       (.loop b440_1))))
    (.reg [4] [
      ⟨none, (some 9), .mov (.t 4), []⟩,
      ⟨none, (some 10), .bin .add (.t 9) (.c (.int .i64 1)), []⟩,
      ⟨none, (some 4), .mov (.t 10), []⟩])))
def k440 : Cd :=
  (.seq
   (.reg [2] [
     ⟨none, (some 2), .mov (.c (.slice none 0 0)), []⟩])
   (.seq
    (.reg [3] [
      ⟨none, (some 6), .bldS 2 0 [.int .i8 0, .int .i8 0] [], []⟩,
      ⟨none, (some 3), .mov (.t 6), []⟩])
    (.seq
     (.seq
      (.reg [4] [
        ⟨none, (some 4), .mov (.c (.int .i64 0)), []⟩])
      (.block 0
       (.loop b440_2)))
     (.seq
      (.reg [2] [
        ⟨none, (some 27), .mov (.t 3), []⟩,
        ⟨none, (some 2), .mov (.t 27), []⟩])
      .ret))))
def c440 : Fn := { np := 1, nt := 28, kind := .pure, res := [.t 2], body := k440 }

/- (impl.Frame).mix -/
def b443_1 : Cd :=
  (.seq
   (.reg [11] [
     ⟨none, (some 11), .bin .lss (.t 10) (.c (.int .i64 12)), []⟩])
   (.seq
    (.cond (.t 11)
     .skip
     (.exit 0))
    (.seq
     (.block 1
      (.seq
       (.reg [7, 8] [
         ⟨none, (some 12), .mov (.t 10), []⟩,
         ⟨none, (some 13), .idx 12 1 false (.t 9) (.t 10), []⟩,
         ⟨none, (some 7), .mov (.t 12), []⟩,
         ⟨none, (some 8), .mov (.t 13), []⟩])
       (.reg [3] [
         ⟨none, (some 14), .mov (.t 7), []⟩,
         ⟨none, (some 15), .mov (.t 2), []⟩,
         ⟨none, (some 16), .mov (.t 8), []⟩,
         ⟨none, (some 17), .mov (.t 7), []⟩,
         ⟨none, (some 18), .adrI 4 none 12 1 (.t 17), []⟩,
         ⟨none, (some 19), .ldV 4 (some 18) 1 false, []⟩,
         ⟨none, (some 20), .callv (.t 15) [.t 16, .t 19], []⟩,
         ⟨none, (some 21), .adrI 3 none 12 1 (.t 14), []⟩,
         ⟨none, (some 3), .stV 3 (some 21) 1 (.t 20), []⟩])))
     (.reg [10] [
       ⟨none, (some 22), .bin .add (.t 10) (.c (.int .i64 1)), []⟩,
       ⟨none, (some 10), .mov (.t 22), []⟩]))))
def k443 : Cd :=
  (.seq
   (.reg [3, 4, 6] [
     ⟨none, (some 3), .mov (.t 0), []⟩,
     ⟨none, (some 4), .mov (.t 1), []⟩,
     ⟨none, (some 6), .zero true (zs 12 (.int .u16 0)), []⟩])
   (.seq
    (.seq
     (.reg [9, 10] [
       ⟨none, (some 9), .ldV 3 none 12 true, []⟩,
       ⟨none, (some 10), .mov (.c (.int .i64 0)), []⟩])
     (.block 0
      (.loop b443_1)))
    (.seq
     (.reg [6] [
       ⟨none, (some 23), .ldV 3 none 12 true, []⟩,
       ⟨none, (some 6), .stV 6 none 12 (.t 23), []⟩])
     .ret)))
def c443 : Fn := { np := 3, nt := 24, kind := .pure, res := [.v 6 12 true], body := k443 }

/- slices.ContainsFunc[[]uint16,uint16] -/
def k445 : Cd :=
  (.seq
   (.reg [4] [
     ⟨none, (some 4), .mov (.c (.bool false)), []⟩])
   (.seq
    (.reg [4] [
      ⟨none, (some 5), .mov (.t 0), []⟩,
      ⟨none, (some 6), .mov (.t 1), []⟩,
      ⟨none, (some 7), .call true 547 [.t 5, .t 6], []⟩,
      ⟨none, (some 8), .bin .geq (.t 7) (.c (.int .i64 0)), []⟩,
      ⟨none, (some 4), .mov (.t 8), []⟩])
    .ret))
def c445 : Fn := { np := 2, nt := 9, kind := .pure, res := [.t 4], body := k445 }

/- impl.ValidFrame$1 -/
def k446 : Cd :=
  (.seq
   (.reg [2] [
     ⟨none, (some 2), .mov (.c (.bool false)), []⟩])
   (.seq
    (.reg [2] [
      ⟨none, (some 3), .mov (.t 0), []⟩,
      ⟨none, (some 4), .bin .gtr (.t 3) (.c (.int .u16 4095)), []⟩,
      ⟨none, (some 2), .mov (.t 4), []⟩])
    .ret))
def c446 : Fn := { np := 1, nt := 5, kind := .pure, res := [.t 2], body := k446 }

/- spec.l01Grow -/
def b453_1 : Cd :=
  (.seq
   (.seq
    (.reg [16] [
      ⟨none, (some 13), .mov (.t 5), []⟩,
      ⟨none, (some 14), .mov (.t 4), []⟩,
      ⟨none, (some 15), .len (.t 14), []⟩,
      ⟨none, (some 16), .bin .lss (.t 13) (.t 15), []⟩])
    (.cond (.t 16)
     .skip
     (.exit 0)))
   (.seq
    (.block 1
     (.seq
      (.reg [6] [
        ⟨none, (some 19), .mov (.t 4), []⟩,
        ⟨none, (some 20), .mov (.t 5), []⟩,
        ⟨none, (some 21), .idxA 2 (.t 19) (.t 20), []⟩,
        ⟨none, (some 22), .fldP 0 (.t 21), []⟩,
        ⟨none, (some 23), .ld 1 false (.t 22), []⟩,
        ⟨none, (some 24), .conv .i64 (.t 23), []⟩,
        ⟨none, (some 6), .mov (.t 24), []⟩])
      (.seq
       (.reg [7] [
         ⟨none, (some 25), .mov (.t 4), []⟩,
         ⟨none, (some 26), .mov (.t 5), []⟩,
         ⟨none, (some 27), .idxA 2 (.t 25) (.t 26), []⟩,
         ⟨none, (some 28), .fldP 1 (.t 27), []⟩,
         ⟨none, (some 29), .ld 1 false (.t 28), []⟩,
         ⟨none, (some 30), .conv .i64 (.t 29), []⟩,
         ⟨none, (some 7), .mov (.t 30), []⟩])
       (.seq
        (.reg [] [
          ⟨none, (some 31), .mov (.t 6), []⟩,
          ⟨none, (some 32), .bin .sub (.t 31) (.c (.int .i64 1)), []⟩,
          ⟨none, (some 33), .mov (.t 7), []⟩,
          ⟨none, (some 34), .call false 305 [.t 3, .t 32, .t 33], []⟩])
        (.seq
         (.reg [] [
           ⟨none, (some 35), .mov (.t 6), []⟩,
           ⟨none, (some 36), .bin .add (.t 35) (.c (.int .i64 1)), []⟩,
           ⟨none, (some 37), .mov (.t 7), []⟩,
           ⟨none, (some 38), .call false 305 [.t 3, .t 36, .t 37], []⟩])
         (.seq
          (.reg [] [
            ⟨none, (some 39), .mov (.t 6), []⟩,
            ⟨none, (some 40), .mov (.t 7), []⟩,
            ⟨none, (some 41), .bin .sub (.t 40) (.c (.int .i64 1)), []⟩,
            ⟨none, (some 42), .call false 305 [.t 3, .t 39, .t 41], []⟩])
          (.reg [] [
            ⟨none, (some 43), .mov (.t 6), []⟩,
            ⟨none, (some 44), .mov (.t 7), []⟩,
            ⟨none, (some 45), .bin .add (.t 44) (.c (.int .i64 1)), []⟩,
            ⟨none, (some 46), .call false 305 [.t 3, .t 43, .t 45], []⟩])))))))
    (.reg [5] [
      ⟨none, (some 17), .mov (.t 5), []⟩,
      ⟨none, (some 18), .bin .add (.t 17) (.c (.int .i64 1)), []⟩,
      ⟨none, (some 5), .mov (.t 18), []⟩])))
def k453 : Cd :=
  (.seq
   (.reg [2] [
     ⟨none, (some 2), .zero true (zs 12 (.int .u16 0)), []⟩])
   (.seq
    (.reg [3] [
      ⟨none, (some 8), .mov (.t 0), []⟩,
      ⟨none, (some 9), .nil (.t 8), []⟩,
      ⟨none, (some 10), .ld 12 true (.t 9), []⟩,
      ⟨none, (some 3), .new 1 (zs 12 (.int .u16 0)), []⟩,
      ⟨none, none, .st 12 (.t 3) (.t 10), []⟩])
    (.seq
     (.reg [4] [
       ⟨none, (some 11), .mov (.t 0), []⟩,
       ⟨none, (some 12), .call true 440 [.t 11], []⟩,
       ⟨none, (some 4), .mov (.t 12), []⟩])
     (.seq
      (.seq
       (.reg [5] [
         ⟨none, (some 5), .mov (.c (.int .i64 0)), []⟩])
       (.block 0
        (.loop b453_1)))
      (.seq
       (.reg [2] [
         ⟨none, (some 47), .ld 12 true (.t 3), []⟩,
         ⟨none, (some 2), .stV 2 none 12 (.t 47), []⟩])
       .ret)))))
def c453 : Fn := { np := 1, nt := 48, kind := .pure, res := [.v 2 12 true], body := k453 }

/- spec.l01Has -/
def k456 : Cd :=
  (.seq
   (.reg [6] [
     ⟨none, (some 6), .mov (.c (.bool false)), []⟩])
   (.seq
    (.reg [6] [
      ⟨none, (some 7), .mov (.t 1), []⟩,
      ⟨none, (some 8), .mov (.t 2), []⟩,
      ⟨none, (some 9), .call true 342 [.t 7, .t 8], []⟩,
      ⟨none, (some 10), .mov (.t 9), []⟩,
      ⟨(some (10, true)), (some 11), .mov (.t 0), []⟩,
      ⟨(some (10, true)), (some 12), .mov (.t 2), []⟩,
      ⟨(some (10, true)), (some 13), .nil (.t 11), []⟩,
      ⟨(some (10, true)), (some 14), .idxP 12 1 (.t 13) (.t 12), []⟩,
      ⟨(some (10, true)), (some 15), .ld 1 false (.t 14), []⟩,
      ⟨(some (10, true)), (some 16), .mov (.t 1), []⟩,
      ⟨(some (10, true)), (some 17), .conv .u64 (.t 16), []⟩,
      ⟨(some (10, true)), (some 18), .bin .shr (.t 15) (.t 17), []⟩,
      ⟨(some (10, true)), (some 19), .bin .rem (.t 18) (.c (.int .u16 2)), []⟩,
      ⟨(some (10, true)), (some 20), .bin .eql (.t 19) (.c (.int .u16 1)), []⟩,
      ⟨none, (some 21), .pick (.t 10) (.t 20) (.c (.bool false)), []⟩,
      ⟨none, (some 6), .mov (.t 21), []⟩])
    .ret))
def c456 : Fn := { np := 3, nt := 22, kind := .pure, res := [.t 6], body := k456 }

/- (*spec.l00Src).pick -/
def k459 : Cd :=
  (.seq
   (.reg [4] [
     ⟨none, (some 4), .mov (.c (.int .i64 0)), []⟩])
   (.seq
    (.seq
     (.reg [7] [
       ⟨none, (some 6), .mov (.t 1), []⟩,
       ⟨none, (some 7), .bin .leq (.t 6) (.c (.int .i64 1)), []⟩])
     (.cond (.t 7)
      (.seq
       (.reg [4] [
         ⟨none, (some 4), .mov (.c (.int .i64 0)), []⟩])
       .ret)
      .skip))
    (.seq
     (.reg [5] [
       ⟨none, (some 8), .mov (.t 0), []⟩,
       ⟨none, (some 9), .call false 550 [.t 8], []⟩,
       ⟨none, (some 5), .mov (.t 9), []⟩])
     (.seq
      (.seq
       (.reg [11] [
         ⟨none, (some 10), .mov (.t 1), []⟩,
         ⟨none, (some 11), .bin .gtr (.t 10) (.c (.int .i64 200)), []⟩])
       (.cond (.t 11)
        (.reg [5] [
          ⟨none, (some 12), .mov (.t 5), []⟩,
          ⟨none, (some 13), .bin .mul (.t 12) (.c (.int .i64 256)), []⟩,
          ⟨none, (some 14), .mov (.t 0), []⟩,
          ⟨none, (some 15), .call false 550 [.t 14], []⟩,
          ⟨none, (some 16), .bin .add (.t 13) (.t 15), []⟩,
          ⟨none, (some 5), .mov (.t 16), []⟩])
        .skip))
      (.seq
       (.reg [4] [
         ⟨none, (some 17), .mov (.t 5), []⟩,
         ⟨none, (some 18), .mov (.t 1), []⟩,
         ⟨none, (some 19), .bin .rem (.t 17) (.t 18), []⟩,
         ⟨none, (some 4), .mov (.t 19), []⟩])
       .ret)))))
def c459 : Fn := { np := 2, nt := 20, kind := .args, res := [.t 4], body := k459 }

/- spec.l05Cel -/
def k467 : Cd :=
  (.seq
   (.reg [2] [
     ⟨none, (some 2), .mov (.c (.bool false)), []⟩])
   (.seq
    (.seq
     (.reg [14] [
       ⟨none, (some 3), .mov (.t 0), []⟩,
       ⟨none, (some 4), .nil (.t 3), []⟩,
       ⟨none, (some 5), .fldP 0 (.t 4), []⟩,
       ⟨none, (some 6), .call true 359 [.t 5], []⟩,
       ⟨none, (some 7), .un .not (.t 6), []⟩,
       ⟨none, (some 8), .mov (.t 7), []⟩,
       ⟨(some (8, false)), (some 9), .mov (.t 0), []⟩,
       ⟨(some (8, false)), (some 10), .nil (.t 9), []⟩,
       ⟨(some (8, false)), (some 11), .fldP 12 (.t 10), []⟩,
       ⟨(some (8, false)), (some 12), .call true 359 [.t 11], []⟩,
       ⟨(some (8, false)), (some 13), .un .not (.t 12), []⟩,
       ⟨none, (some 14), .pick (.t 8) (.c (.bool true)) (.t 13), []⟩])
     (.cond (.t 14)
      (.seq
       (.reg [2] [
         ⟨none, (some 2), .mov (.c (.bool false)), []⟩])
       .ret)
      .skip))
    (.seq
     (.reg [2] [
       ⟨none, (some 15), .mov (.t 0), []⟩,
       ⟨none, (some 16), .nil (.t 15), []⟩,
       ⟨none, (some 17), .fldP 0 (.t 16), []⟩,
       ⟨none, (some 18), .mov (.t 0), []⟩,
       ⟨none, (some 19), .nil (.t 18), []⟩,
       ⟨none, (some 20), .fldP 12 (.t 19), []⟩,
       ⟨none, (some 22), .agg (zs 12 (.int .u16 0)) [], []⟩,
       ⟨none, (some 21), .call true 349 [.t 17, .t 20], []⟩,
       ⟨none, (some 23), .eq (.a (rb 12 (some .u16))) false (.t 21) (.t 22), []⟩,
       ⟨none, (some 2), .mov (.t 23), []⟩])
     .ret)))
def c467 : Fn := { np := 1, nt := 24, kind := .pure, res := [.t 2], body := k467 }

/- spec.l05Moved -/
def k468 : Cd :=
  (.seq
   (.reg [6] [
     ⟨none, (some 6), .zero true (zs 24 (.int .u16 0)), []⟩])
   (.seq
    (.reg [6] [
      ⟨none, (some 7), .mov (.t 0), []⟩,
      ⟨none, (some 8), .nil (.t 7), []⟩,
      ⟨none, (some 9), .fldP 0 (.t 8), []⟩,
      ⟨none, (some 10), .mov (.t 1), []⟩,
      ⟨none, (some 11), .mov (.t 2), []⟩,
      ⟨none, (some 13), .mov (.t 0), []⟩,
      ⟨none, (some 14), .nil (.t 13), []⟩,
      ⟨none, (some 15), .fldP 12 (.t 14), []⟩,
      ⟨none, (some 16), .mov (.t 1), []⟩,
      ⟨none, (some 17), .mov (.t 2), []⟩,
      ⟨none, (some 12), .call true 355 [.t 9, .t 10, .t 11], []⟩,
      ⟨none, (some 18), .call true 355 [.t 15, .t 16, .t 17], []⟩,
      ⟨none, (some 19), .agg (zs 24 (.int .u16 0)) [(0, 12, (.t 12)), (12, 12, (.t 18))], []⟩,
      ⟨none, (some 6), .stV 6 none 24 (.t 19), []⟩])
    .ret))
def c468 : Fn := { np := 3, nt := 20, kind := .pure, res := [.v 6 24 true], body := k468 }

/- slices.ContainsFunc[impl.Scene,impl.Layer] -/
def k471 : Cd :=
  (.seq
   (.reg [4] [
     ⟨none, (some 4), .mov (.c (.bool false)), []⟩])
   (.seq
    (.reg [4] [
      ⟨none, (some 5), .mov (.t 0), []⟩,
      ⟨none, (some 6), .mov (.t 1), []⟩,
      ⟨none, (some 7), .call true 555 [.t 5, .t 6], []⟩,
      ⟨none, (some 8), .bin .geq (.t 7) (.c (.int .i64 0)), []⟩,
      ⟨none, (some 4), .mov (.t 8), []⟩])
    .ret))
def c471 : Fn := { np := 2, nt := 9, kind := .pure, res := [.t 4], body := k471 }

/- impl.ValidScene$1 -/
def k472 : Cd :=
  (.seq
   (.reg [1, 2] [
     ⟨none, (some 1), .mov (.t 0), []⟩,
     ⟨none, (some 2), .mov (.c (.bool false)), []⟩])
   (.seq
    (.reg [2] [
      ⟨none, (some 3), .ldV 1 none 27 true, []⟩,
      ⟨none, (some 4), .call true 473 [.t 3], []⟩,
      ⟨none, (some 5), .un .not (.t 4), []⟩,
      ⟨none, (some 2), .mov (.t 5), []⟩])
    .ret))
def c472 : Fn := { np := 1, nt := 6, kind := .pure, res := [.t 2], body := k472 }

/- impl.isLayer -/
def k473 : Cd :=
  (.seq
   (.reg [1, 2] [
     ⟨none, (some 1), .mov (.t 0), []⟩,
     ⟨none, (some 2), .mov (.c (.bool false)), []⟩])
   (.seq
    (.reg [2] [
      ⟨none, (some 3), .adrF 1 none 0, []⟩,
      ⟨none, (some 4), .ldV 1 (some 3) 24 true, []⟩,
      ⟨none, (some 5), .call true 333 [.t 4], []⟩,
      ⟨none, (some 6), .mov (.t 5), []⟩,
      ⟨(some (6, true)), (some 7), .adrF 1 none 24, []⟩,
      ⟨(some (6, true)), (some 8), .ldV 1 (some 7) 1 false, []⟩,
      ⟨(some (6, true)), (some 9), .conv .i64 (.t 8), []⟩,
      ⟨(some (6, true)), (some 10), .call true 295 [.t 9, .c (.int .i64 (-12)), .c (.int .i64 12)], []⟩,
      ⟨none, (some 11), .pick (.t 6) (.t 10) (.c (.bool false)), []⟩,
      ⟨none, (some 12), .mov (.t 11), []⟩,
      ⟨(some (12, true)), (some 13), .adrF 1 none 25, []⟩,
      ⟨(some (12, true)), (some 14), .ldV 1 (some 13) 1 false, []⟩,
      ⟨(some (12, true)), (some 15), .conv .i64 (.t 14), []⟩,
      ⟨(some (12, true)), (some 16), .call true 295 [.t 15, .c (.int .i64 (-12)), .c (.int .i64 12)], []⟩,
      ⟨none, (some 17), .pick (.t 12) (.t 16) (.c (.bool false)), []⟩,
      ⟨none, (some 18), .mov (.t 17), []⟩,
      ⟨(some (18, true)), (some 19), .adrF 1 none 26, []⟩,
      ⟨(some (18, true)), (some 20), .ldV 1 (some 19) 1 false, []⟩,
      ⟨(some (18, true)), (some 21), .conv .i64 (.t 20), []⟩,
      ⟨(some (18, true)), (some 22), .call true 295 [.t 21, .c (.int .i64 0), .c (.int .i64 8)], []⟩,
      ⟨none, (some 23), .pick (.t 18) (.t 22) (.c (.bool false)), []⟩,
      ⟨none, (some 2), .mov (.t 23), []⟩])
    .ret))
def c473 : Fn := { np := 1, nt := 24, kind := .pure, res := [.t 2], body := k473 }

/- slices.IndexFunc[[]impl.Frame,impl.Frame] -/
def b474_1 : Cd :=
  (.seq
   (.reg [9] [
     ⟨none, (some 9), .bin .lss (.t 8) (.t 7), []⟩])
   (.seq
    (.cond (.t 9)
     .skip
     (.exit 0))
    (.seq
     (.block 1
      (.seq
       (.reg [5] [
         ⟨none, (some 10), .mov (.t 8), []⟩,
         ⟨none, (some 5), .mov (.t 10), []⟩])
       (.seq
        (.reg [16] [
          ⟨none, (some 11), .mov (.t 1), []⟩,
          ⟨none, (some 12), .mov (.t 0), []⟩,
          ⟨none, (some 13), .mov (.t 5), []⟩,
          ⟨none, (some 14), .idxA 12 (.t 12) (.t 13), []⟩,
          ⟨none, (some 15), .ld 12 true (.t 14), []⟩,
          ⟨none, (some 16), .callv (.t 11) [.t 15], []⟩])
        (.cond (.t 16)
         (.seq
          (.reg [4] [
            ⟨none, (some 17), .mov (.t 5), []⟩,
            ⟨none, (some 4), .mov (.t 17), []⟩])
          .ret)
         .skip))))
     (.reg [8] [
       ⟨none, (some 18), .bin .add (.t 8) (.c (.int .i64 1)), []⟩,
       ⟨none, (some 8), .mov (.t 18), []⟩]))))
def k474 : Cd :=
  (.seq
   (.reg [4] [
     ⟨none, (some 4), .mov (.c (.int .i64 0)), []⟩])
   (.seq
    (.seq
     (.reg [7, 8] [
       ⟨none, (some 6), .mov (.t 0), []⟩,
       ⟨none, (some 7), .len (.t 6), []⟩,
       ⟨none, (some 8), .mov (.c (.int .i64 0)), []⟩])
     (.block 0
      (.loop b474_1)))
    (.seq
     (.reg [4] [
       ⟨none, (some 4), .mov (.c (.int .i64 (-1))), []⟩])
     .ret)))
def c474 : Fn := { np := 2, nt := 19, kind := .pure, res := [.t 4], body := k474 }

/- slices.Index[impl.Book,impl.Frame] -/
def b491_1 : Cd :=
  (.seq
   (.reg [9] [
     ⟨none, (some 9), .bin .lss (.t 8) (.t 7), []⟩])
   (.seq
    (.cond (.t 9)
     .skip
     (.exit 0))
    (.seq
     (.block 1
      (.seq
       (.reg [5] [
         ⟨none, (some 10), .mov (.t 8), []⟩,
         ⟨none, (some 5), .mov (.t 10), []⟩])
       (.seq
        (.reg [16] [
          ⟨none, (some 11), .ldV 3 none 12 true, []⟩,
          ⟨none, (some 12), .mov (.t 0), []⟩,
          ⟨none, (some 13), .mov (.t 5), []⟩,
          ⟨none, (some 14), .idxA 12 (.t 12) (.t 13), []⟩,
          ⟨none, (some 15), .ld 12 true (.t 14), []⟩,
          ⟨none, (some 16), .eq (.a (rb 12 (some .u16))) false (.t 11) (.t 15), []⟩])
        (.cond (.t 16)
         (.seq
          (.reg [4] [
            ⟨none, (some 17), .mov (.t 5), []⟩,
            ⟨none, (some 4), .mov (.t 17), []⟩])
          .ret)
         .skip))))
     (.reg [8] [
       ⟨none, (some 18), .bin .add (.t 8) (.c (.int .i64 1)), []⟩,
       ⟨none, (some 8), .mov (.t 18), []⟩]))))
def k491 : Cd :=
  (.seq
   (.reg [3, 4] [
     ⟨none, (some 3), .mov (.t 1), []⟩,
     ⟨none, (some 4), .mov (.c (.int .i64 0)), []⟩])
   (.seq
    (.seq
     (.reg [7, 8] [
       ⟨none, (some 6), .mov (.t 0), []⟩,
       ⟨none, (some 7), .len (.t 6), []⟩,
       ⟨none, (some 8), .mov (.c (.int .i64 0)), []⟩])
     (.block 0
      (.loop b491_1)))
    (.seq
     (.reg [4] [
       ⟨none, (some 4), .mov (.c (.int .i64 (-1))), []⟩])
     .ret)))
def c491 : Fn := { np := 2, nt := 19, kind := .pure, res := [.t 4], body := k491 }

/- spec.l02Repeats -/
def b492_1 : Cd :=
  (.seq
   (.seq
    (.reg [21] [
      ⟨none, (some 13), .mov (.t 0), []⟩,
      ⟨none, (some 14), .mov (.t 5), []⟩,
      ⟨none, (some 15), .idxA 12 (.t 13) (.t 14), []⟩,
      ⟨none, (some 16), .ld 12 true (.t 15), []⟩,
      ⟨none, (some 17), .mov (.t 0), []⟩,
      ⟨none, (some 18), .mov (.t 4), []⟩,
      ⟨none, (some 19), .idxA 12 (.t 17) (.t 18), []⟩,
      ⟨none, (some 20), .ld 12 true (.t 19), []⟩,
      ⟨none, (some 21), .eq (.a (rb 12 (some .u16))) true (.t 16) (.t 20), []⟩])
    (.cond (.t 21)
     .skip
     (.exit 2)))
   (.block 3
    (.reg [5] [
      ⟨none, (some 22), .mov (.t 5), []⟩,
      ⟨none, (some 23), .bin .add (.t 22) (.c (.int .i64 1)), []⟩,
      ⟨none, (some 5), .mov (.t 23), []⟩])))
def b492_2 : Cd :=
  (.seq
   (.seq
    (.reg [10] [
      ⟨none, (some 7), .mov (.t 4), []⟩,
      ⟨none, (some 8), .mov (.t 0), []⟩,
      ⟨none, (some 9), .len (.t 8), []⟩,
      ⟨none, (some 10), .bin .lss (.t 7) (.t 9), []⟩])
    (.cond (.t 10)
     .skip
     (.exit 0)))
   (.seq
    (.block 1
     (.seq
      (.reg [5] [
        ⟨none, (some 5), .mov (.c (.int .i64 0)), []⟩])
      (.seq
       (.block 2
        (.loop b492_1))
       (.reg [3] [
         ⟨none, (some 24), .mov (.t 3), []⟩,
         ⟨none, (some 25), .mov (.t 5), []⟩,
         ⟨none, (some 26), .bldS 1 1 [.int .i64 0] [(0, 1, (.t 25))], []⟩,
         ⟨none, (some 27), .app 1 8 (.t 24) (.t 26), []⟩,
         ⟨none, (some 3), .mov (.t 27), []⟩]))))
    (.reg [4] [
      ⟨none, (some 11), .mov (.t 4), []⟩,
      ⟨none, (some 12), .bin .add (.t 11) (.c (.int .i64 1)), []⟩,
      ⟨none, (some 4), .mov (.t 12), []⟩])))
def k492 : Cd :=
  (.seq
   (.reg [2] [
     ⟨none, (some 2), .mov (.c (.slice none 0 0)), []⟩])
   (.seq
    (.reg [3] [
      ⟨none, (some 6), .bldS 1 0 [.int .i64 0] [], []⟩,
      ⟨none, (some 3), .mov (.t 6), []⟩])
    (.seq
     (.seq
      (.reg [4] [
        ⟨none, (some 4), .mov (.c (.int .i64 0)), []⟩])
      (.block 0
       (.loop b492_2)))
     (.seq
      (.reg [2] [
        ⟨none, (some 28), .mov (.t 3), []⟩,
        ⟨none, (some 2), .mov (.t 28), []⟩])
      .ret))))
def c492 : Fn := { np := 1, nt := 29, kind := .pure, res := [.t 2], body := k492 }

/- impl.areShots -/
def k493 : Cd :=
  (.seq
   (.reg [3, 4] [
     ⟨none, (some 3), .box 1 (.t 1), []⟩,
     ⟨none, (some 4), .mov (.c (.bool false)), []⟩])
   (.seq
    (.reg [4] [
      ⟨none, (some 5), .mov (.t 0), []⟩,
      ⟨none, (some 6), .len (.t 5), []⟩,
      ⟨none, (some 7), .bin .leq (.t 6) (.c (.int .i64 80)), []⟩,
      ⟨none, (some 8), .mov (.t 7), []⟩,
      ⟨(some (8, true)), (some 9), .mov (.t 0), []⟩,
      ⟨(some (8, true)), (some 10), .mkf 561 [.t 3], []⟩,
      ⟨(some (8, true)), (some 11), .call true 560 [.t 9, .t 10], []⟩,
      ⟨(some (8, true)), (some 12), .un .not (.t 11), []⟩,
      ⟨none, (some 13), .pick (.t 8) (.t 12) (.c (.bool false)), []⟩,
      ⟨none, (some 4), .mov (.t 13), []⟩])
    .ret))
def c493 : Fn := { np := 2, nt := 14, kind := .pure, res := [.t 4], body := k493 }

/- slices.Repeat[[]int64,int64] -/
def b494_1 : Cd :=
  (.seq
   (.seq
    (.reg [37] [
      ⟨none, (some 34), .mov (.t 8), []⟩,
      ⟨none, (some 35), .mov (.t 7), []⟩,
      ⟨none, (some 36), .len (.t 35), []⟩,
      ⟨none, (some 37), .bin .lss (.t 34) (.t 36), []⟩])
    (.cond (.t 37)
     .skip
     (.exit 0)))
   (.block 1
    (.reg [8] [
      ⟨none, (some 38), .mov (.t 8), []⟩,
      ⟨none, (some 39), .mov (.t 7), []⟩,
      ⟨none, (some 40), .mov (.t 8), []⟩,
      ⟨none, (some 41), .slcA 1 (.t 39) (some (.t 40)) none none, []⟩,
      ⟨none, (some 42), .mov (.t 7), []⟩,
      ⟨none, (some 43), .mov (.t 8), []⟩,
      ⟨none, (some 44), .slcA 1 (.t 42) none (some (.t 43)) none, []⟩,
      ⟨none, (some 45), .cpy 1 (.t 41) (.t 44), []⟩,
      ⟨none, (some 46), .bin .add (.t 38) (.t 45), []⟩,
      ⟨none, (some 8), .mov (.t 46), []⟩])))
def k494 : Cd :=
  (.seq
   (.reg [4] [
     ⟨none, (some 4), .mov (.c (.slice none 0 0)), []⟩])
   (.seq
    (.seq
     (.reg [10] [
       ⟨none, (some 9), .mov (.t 1), []⟩,
       ⟨none, (some 10), .bin .lss (.t 9) (.c (.int .i64 0)), []⟩])
     (.cond (.t 10)
      (.reg [] [
        ⟨none, none, .bad, []⟩])
      .skip))
    (.seq
     (.reg [5, 6] [
       ⟨none, (some 13), .mov (.t 0), []⟩,
       ⟨none, (some 14), .len (.t 13), []⟩,
       ⟨none, (some 15), .conv .u64 (.t 14), []⟩,
       ⟨none, (some 16), .mov (.t 1), []⟩,
       ⟨none, (some 17), .conv .u64 (.t 16), []⟩,
       ⟨none, (some 18), .call true 562 [.t 15, .t 17], []⟩,
       ⟨none, (some 12), .mov (.t 18), []⟩,
       ⟨none, (some 19), .ext (.t 12) 0, []⟩,
       ⟨none, (some 20), .ext (.t 12) 1, []⟩,
       ⟨none, (some 5), .mov (.t 19), []⟩,
       ⟨none, (some 6), .mov (.t 20), []⟩])
     (.seq
      (.seq
       (.reg [26] [
         ⟨none, (some 21), .mov (.t 5), []⟩,
         ⟨none, (some 22), .bin .gtr (.t 21) (.c (.int .u64 0)), []⟩,
         ⟨none, (some 23), .mov (.t 22), []⟩,
         ⟨(some (23, false)), (some 24), .mov (.t 6), []⟩,
         ⟨(some (23, false)), (some 25), .bin .gtr (.t 24) (.c (.int .u64 9223372036854775807)), []⟩,
         ⟨none, (some 26), .pick (.t 23) (.c (.bool true)) (.t 25), []⟩])
       (.cond (.t 26)
        (.reg [] [
          ⟨none, none, .bad, []⟩])
        .skip))
      (.seq
       (.reg [7] [
         ⟨none, (some 28), .mov (.t 6), []⟩,
         ⟨none, (some 29), .conv .i64 (.t 28), []⟩,
         ⟨none, (some 30), .mkS 1 8 [.int .i64 0] (.t 29) (.t 29), []⟩,
         ⟨none, (some 7), .mov (.t 30), []⟩])
       (.seq
        (.reg [8] [
          ⟨none, (some 31), .mov (.t 7), []⟩,
          ⟨none, (some 32), .mov (.t 0), []⟩,
          ⟨none, (some 33), .cpy 1 (.t 31) (.t 32), []⟩,
          ⟨none, (some 8), .mov (.t 33), []⟩])
        (.seq
         (.block 0
          (.loop b494_1))
         (.seq
          (.reg [4] [
            ⟨none, (some 47), .mov (.t 7), []⟩,
            ⟨none, (some 4), .mov (.t 47), []⟩])
          .ret))))))))
def c494 : Fn := { np := 2, nt := 48, kind := .pure, res := [.t 4], body := k494 }

/- spec.l05CelDrawn -/
def k495 : Cd :=
  (.seq
   (.reg [2] [
     ⟨none, (some 2), .zero true (zs 24 (.int .u16 0)), []⟩])
   (.seq
    (.reg [3] [
      ⟨none, (some 5), .mov (.t 0), []⟩,
      ⟨none, (some 6), .call false 368 [.t 5], []⟩,
      ⟨none, (some 3), .new 1 (zs 12 (.int .u16 0)), []⟩,
      ⟨none, none, .st 12 (.t 3) (.t 6), []⟩])
    (.seq
     (.reg [4] [
       ⟨none, (some 7), .mov (.t 0), []⟩,
       ⟨none, (some 8), .call false 368 [.t 7], []⟩,
       ⟨none, (some 4), .new 1 (zs 12 (.int .u16 0)), []⟩,
       ⟨none, none, .st 12 (.t 4) (.t 8), []⟩])
     (.seq
      (.seq
       (.reg [10] [
         ⟨none, (some 9), .mov (.t 0), []⟩,
         ⟨none, (some 10), .call false 513 [.t 9, .c (.int .i64 3)], []⟩])
       (.cond (.t 10)
        (.reg [] [
          ⟨none, (some 11), .call true 453 [.t 3], []⟩,
          ⟨none, none, .st 12 (.t 4) (.t 11), []⟩])
        .skip))
      (.seq
       (.reg [2] [
         ⟨none, (some 12), .ld 12 true (.t 3), []⟩,
         ⟨none, (some 13), .call true 337 [.t 3, .t 4], []⟩,
         ⟨none, (some 14), .agg (zs 24 (.int .u16 0)) [(0, 12, (.t 12)), (12, 12, (.t 13))], []⟩,
         ⟨none, (some 2), .stV 2 none 24 (.t 14), []⟩])
       .ret)))))
def c495 : Fn := { np := 1, nt := 15, kind := .args, res := [.v 2 24 true], body := k495 }

/- (*spec.l00Src).among -/
def k496 : Cd :=
  (.seq
   (.reg [4] [
     ⟨none, (some 4), .mov (.c (.int .i64 0)), []⟩])
   (.seq
    (.reg [4] [
      ⟨none, (some 5), .mov (.t 1), []⟩,
      ⟨none, (some 6), .mov (.t 0), []⟩,
      ⟨none, (some 7), .mov (.t 1), []⟩,
      ⟨none, (some 8), .len (.t 7), []⟩,
      ⟨none, (some 9), .call false 459 [.t 6, .t 8], []⟩,
      ⟨none, (some 10), .idxA 1 (.t 5) (.t 9), []⟩,
      ⟨none, (some 11), .ld 1 false (.t 10), []⟩,
      ⟨none, (some 4), .mov (.t 11), []⟩])
    .ret))
def c496 : Fn := { np := 2, nt := 12, kind := .args, res := [.t 4], body := k496 }

/- (impl.Cel).over -/
def k497 : Cd :=
  (.seq
   (.reg [2, 3, 4] [
     ⟨none, (some 2), .mov (.t 0), []⟩,
     ⟨none, (some 3), .mov (.t 1), []⟩,
     ⟨none, (some 4), .zero true (zs 24 (.int .u16 0)), []⟩])
   (.seq
    (.reg [4] [
      ⟨none, (some 5), .adrF 2 none 0, []⟩,
      ⟨none, (some 6), .ldV 2 (some 5) 12 true, []⟩,
      ⟨none, (some 7), .adrF 3 none 0, []⟩,
      ⟨none, (some 8), .ldV 3 (some 7) 12 true, []⟩,
      ⟨none, (some 9), .adrF 2 none 12, []⟩,
      ⟨none, (some 10), .ldV 2 (some 9) 12 true, []⟩,
      ⟨none, (some 13), .adrF 2 none 12, []⟩,
      ⟨none, (some 14), .ldV 2 (some 13) 12 true, []⟩,
      ⟨none, (some 15), .adrF 3 none 12, []⟩,
      ⟨none, (some 16), .ldV 3 (some 15) 12 true, []⟩,
      ⟨none, (some 11), .call true 350 [.t 8, .t 10], []⟩,
      ⟨none, (some 12), .call true 338 [.t 6, .t 11], []⟩,
      ⟨none, (some 17), .call true 338 [.t 14, .t 16], []⟩,
      ⟨none, (some 18), .agg (zs 24 (.int .u16 0)) [(0, 12, (.t 12)), (12, 12, (.t 17))], []⟩,
      ⟨none, (some 4), .stV 4 none 24 (.t 18), []⟩])
    .ret))
def c497 : Fn := { np := 2, nt := 19, kind := .pure, res := [.v 4 24 true], body := k497 }

/- spec.l05Ok -/
def b498_1 : Cd :=
  (.seq
   (.seq
    (.reg [7] [
      ⟨none, (some 4), .mov (.t 3), []⟩,
      ⟨none, (some 5), .mov (.t 0), []⟩,
      ⟨none, (some 6), .len (.t 5), []⟩,
      ⟨none, (some 7), .bin .lss (.t 4) (.t 6), []⟩])
    (.cond (.t 7)
     .skip
     (.exit 0)))
   (.seq
    (.block 1
     (.seq
      (.reg [14] [
        ⟨none, (some 10), .mov (.t 0), []⟩,
        ⟨none, (some 11), .mov (.t 3), []⟩,
        ⟨none, (some 12), .idxA 27 (.t 10) (.t 11), []⟩,
        ⟨none, (some 13), .call true 563 [.t 12], []⟩,
        ⟨none, (some 14), .un .not (.t 13), []⟩])
      (.cond (.t 14)
       (.seq
        (.reg [2] [
          ⟨none, (some 2), .mov (.c (.bool false)), []⟩])
        .ret)
       .skip)))
    (.reg [3] [
      ⟨none, (some 8), .mov (.t 3), []⟩,
      ⟨none, (some 9), .bin .add (.t 8) (.c (.int .i64 1)), []⟩,
      ⟨none, (some 3), .mov (.t 9), []⟩])))
def k498 : Cd :=
  (.seq
   (.reg [2] [
     ⟨none, (some 2), .mov (.c (.bool false)), []⟩])
   (.seq
    (.seq
     (.reg [3] [
       ⟨none, (some 3), .mov (.c (.int .i64 0)), []⟩])
     (.block 0
      (.loop b498_1)))
    (.seq
     (.reg [2] [
       ⟨none, (some 15), .mov (.t 0), []⟩,
       ⟨none, (some 16), .len (.t 15), []⟩,
       ⟨none, (some 17), .bin .leq (.t 16) (.c (.int .i64 8)), []⟩,
       ⟨none, (some 2), .mov (.t 17), []⟩])
     .ret)))
def c498 : Fn := { np := 1, nt := 18, kind := .pure, res := [.t 2], body := k498 }

/- spec.l05Offset -/
def k499 : Cd :=
  (.seq
   (.reg [6, 7] [
     ⟨none, (some 6), .mov (.c (.int .i64 0)), []⟩,
     ⟨none, (some 7), .mov (.c (.int .i64 0)), []⟩])
   (.seq
    (.reg [8] [
      ⟨none, (some 9), .mov (.t 0), []⟩,
      ⟨none, (some 10), .nil (.t 9), []⟩,
      ⟨none, (some 11), .fldP 24 (.t 10), []⟩,
      ⟨none, (some 12), .ld 1 false (.t 11), []⟩,
      ⟨none, (some 13), .conv .i64 (.t 12), []⟩,
      ⟨none, (some 14), .mov (.t 1), []⟩,
      ⟨none, (some 15), .mov (.t 0), []⟩,
      ⟨none, (some 16), .nil (.t 15), []⟩,
      ⟨none, (some 17), .fldP 26 (.t 16), []⟩,
      ⟨none, (some 18), .ld 1 false (.t 17), []⟩,
      ⟨none, (some 19), .conv .i64 (.t 18), []⟩,
      ⟨none, (some 20), .call true 564 [.t 14, .t 19], []⟩,
      ⟨none, (some 21), .bin .sub (.t 13) (.t 20), []⟩,
      ⟨none, (some 8), .mov (.t 21), []⟩])
    (.seq
     (.reg [6, 7] [
       ⟨none, (some 22), .mov (.t 8), []⟩,
       ⟨none, (some 23), .mov (.t 0), []⟩,
       ⟨none, (some 24), .nil (.t 23), []⟩,
       ⟨none, (some 25), .fldP 25 (.t 24), []⟩,
       ⟨none, (some 26), .ld 1 false (.t 25), []⟩,
       ⟨none, (some 27), .conv .i64 (.t 26), []⟩,
       ⟨none, (some 28), .mov (.t 2), []⟩,
       ⟨none, (some 29), .mov (.t 0), []⟩,
       ⟨none, (some 30), .nil (.t 29), []⟩,
       ⟨none, (some 31), .fldP 26 (.t 30), []⟩,
       ⟨none, (some 32), .ld 1 false (.t 31), []⟩,
       ⟨none, (some 33), .conv .i64 (.t 32), []⟩,
       ⟨none, (some 34), .call true 564 [.t 28, .t 33], []⟩,
       ⟨none, (some 35), .bin .sub (.t 27) (.t 34), []⟩,
       ⟨none, (some 6), .mov (.t 22), []⟩,
       ⟨none, (some 7), .mov (.t 35), []⟩])
     .ret)))
def c499 : Fn := { np := 3, nt := 36, kind := .pure, res := [.t 6, .t 7], body := k499 }

/- spec.l05Over -/
def k500 : Cd :=
  (.seq
   (.reg [4] [
     ⟨none, (some 4), .zero true (zs 24 (.int .u16 0)), []⟩])
   (.seq
    (.reg [5] [
      ⟨none, (some 6), .mov (.t 1), []⟩,
      ⟨none, (some 7), .nil (.t 6), []⟩,
      ⟨none, (some 8), .fldP 0 (.t 7), []⟩,
      ⟨none, (some 9), .mov (.t 0), []⟩,
      ⟨none, (some 10), .nil (.t 9), []⟩,
      ⟨none, (some 11), .fldP 12 (.t 10), []⟩,
      ⟨none, (some 5), .new 1 (zs 12 (.int .u16 0)), []⟩,
      ⟨none, (some 12), .call true 349 [.t 8, .t 11], []⟩,
      ⟨none, none, .st 12 (.t 5) (.t 12), []⟩])
    (.seq
     (.reg [4] [
       ⟨none, (some 13), .mov (.t 0), []⟩,
       ⟨none, (some 14), .nil (.t 13), []⟩,
       ⟨none, (some 15), .fldP 0 (.t 14), []⟩,
       ⟨none, (some 17), .mov (.t 0), []⟩,
       ⟨none, (some 18), .nil (.t 17), []⟩,
       ⟨none, (some 19), .fldP 12 (.t 18), []⟩,
       ⟨none, (some 20), .mov (.t 1), []⟩,
       ⟨none, (some 21), .nil (.t 20), []⟩,
       ⟨none, (some 22), .fldP 12 (.t 21), []⟩,
       ⟨none, (some 16), .call true 337 [.t 15, .t 5], []⟩,
       ⟨none, (some 23), .call true 337 [.t 19, .t 22], []⟩,
       ⟨none, (some 24), .agg (zs 24 (.int .u16 0)) [(0, 12, (.t 16)), (12, 12, (.t 23))], []⟩,
       ⟨none, (some 4), .stV 4 none 24 (.t 24), []⟩])
     .ret)))
def c500 : Fn := { np := 2, nt := 25, kind := .pure, res := [.v 4 24 true], body := k500 }

/- impl.eighths -/
def k501 : Cd :=
  (.seq
   (.reg [4] [
     ⟨none, (some 4), .mov (.c (.int .i64 0)), []⟩])
   (.seq
    (.reg [4] [
      ⟨none, (some 5), .mov (.t 0), []⟩,
      ⟨none, (some 6), .mov (.t 1), []⟩,
      ⟨none, (some 7), .bin .mul (.t 5) (.t 6), []⟩,
      ⟨none, (some 8), .bin .shr (.t 7) (.c (.int .u64 3)), []⟩,
      ⟨none, (some 4), .mov (.t 8), []⟩])
    .ret))
def c501 : Fn := { np := 2, nt := 9, kind := .pure, res := [.t 4], body := k501 }

/- (impl.Frame).join$1 -/
def k502 : Cd :=
  (.seq
   (.reg [4] [
     ⟨none, (some 4), .mov (.c (.int .u16 0)), []⟩])
   (.seq
    (.reg [4] [
      ⟨none, (some 5), .mov (.t 0), []⟩,
      ⟨none, (some 6), .mov (.t 1), []⟩,
      ⟨none, (some 7), .bin .or (.t 5) (.t 6), []⟩,
      ⟨none, (some 4), .mov (.t 7), []⟩])
    .ret))
def c502 : Fn := { np := 2, nt := 8, kind := .pure, res := [.t 4], body := k502 }

/- (impl.Frame).less$1 -/
def k504 : Cd :=
  (.seq
   (.reg [4] [
     ⟨none, (some 4), .mov (.c (.int .u16 0)), []⟩])
   (.seq
    (.reg [4] [
      ⟨none, (some 5), .mov (.t 0), []⟩,
      ⟨none, (some 6), .mov (.t 1), []⟩,
      ⟨none, (some 7), .bin .andNot (.t 5) (.t 6), []⟩,
      ⟨none, (some 4), .mov (.t 7), []⟩])
    .ret))
def c504 : Fn := { np := 2, nt := 8, kind := .pure, res := [.t 4], body := k504 }

/- slices.ContainsFunc[[]impl.Frame,impl.Frame] -/
def k505 : Cd :=
  (.seq
   (.reg [4] [
     ⟨none, (some 4), .mov (.c (.bool false)), []⟩])
   (.seq
    (.reg [4] [
      ⟨none, (some 5), .mov (.t 0), []⟩,
      ⟨none, (some 6), .mov (.t 1), []⟩,
      ⟨none, (some 7), .call true 474 [.t 5, .t 6], []⟩,
      ⟨none, (some 8), .bin .geq (.t 7) (.c (.int .i64 0)), []⟩,
      ⟨none, (some 4), .mov (.t 8), []⟩])
    .ret))
def c505 : Fn := { np := 2, nt := 9, kind := .pure, res := [.t 4], body := k505 }

/- impl.areFrames$1 -/
def k506 : Cd :=
  (.seq
   (.reg [1, 2] [
     ⟨none, (some 1), .mov (.t 0), []⟩,
     ⟨none, (some 2), .mov (.c (.bool false)), []⟩])
   (.seq
    (.reg [2] [
      ⟨none, (some 3), .ldV 1 none 12 true, []⟩,
      ⟨none, (some 4), .call true 234 [.t 3], []⟩,
      ⟨none, (some 5), .un .not (.t 4), []⟩,
      ⟨none, (some 2), .mov (.t 5), []⟩])
    .ret))
def c506 : Fn := { np := 1, nt := 6, kind := .pure, res := [.t 2], body := k506 }

/- (impl.Frame).differ$1 -/
def k512 : Cd :=
  (.seq
   (.reg [4] [
     ⟨none, (some 4), .mov (.c (.int .u16 0)), []⟩])
   (.seq
    (.reg [4] [
      ⟨none, (some 5), .mov (.t 0), []⟩,
      ⟨none, (some 6), .mov (.t 1), []⟩,
      ⟨none, (some 7), .bin .xor (.t 5) (.t 6), []⟩,
      ⟨none, (some 4), .mov (.t 7), []⟩])
    .ret))
def c512 : Fn := { np := 2, nt := 8, kind := .pure, res := [.t 4], body := k512 }

/- (*spec.l00Src).one -/
def k513 : Cd :=
  (.seq
   (.reg [4] [
     ⟨none, (some 4), .mov (.c (.bool false)), []⟩])
   (.seq
    (.reg [4] [
      ⟨none, (some 5), .mov (.t 0), []⟩,
      ⟨none, (some 6), .mov (.t 1), []⟩,
      ⟨none, (some 7), .call false 459 [.t 5, .t 6], []⟩,
      ⟨none, (some 8), .bin .eql (.t 7) (.c (.int .i64 0)), []⟩,
      ⟨none, (some 4), .mov (.t 8), []⟩])
    .ret))
def c513 : Fn := { np := 2, nt := 9, kind := .args, res := [.t 4], body := k513 }

/- math/bits.OnesCount16 -/
def k530 : Cd :=
  (.seq
   (.reg [2] [
     ⟨none, (some 2), .mov (.c (.int .i64 0)), []⟩])
   (.seq
    (.reg [2] [
      ⟨none, (some 3), .mov (.t 0), []⟩,
      ⟨none, (some 4), .bin .shr (.t 3) (.c (.int .u64 8)), []⟩,
      ⟨none, (some 5), .idxs (.c (.string ⟨#[0, 1, 1, 2, 1, 2, 2, 3, 1, 2, 2, 3, 2, 3, 3, 4, 1, 2, 2, 3, 2, 3, 3, 4, 2, 3, 3, 4, 3, 4, 4, 5, 1, 2, 2, 3, 2, 3, 3, 4, 2, 3, 3, 4, 3, 4, 4, 5, 2, 3, 3, 4, 3, 4, 4, 5, 3, 4, 4, 5, 4, 5, 5, 6, 1, 2, 2, 3, 2, 3, 3, 4, 2, 3, 3, 4, 3, 4, 4, 5, 2, 3, 3, 4, 3, 4, 4, 5, 3, 4, 4, 5, 4, 5, 5, 6, 2, 3, 3, 4, 3, 4, 4, 5, 3, 4, 4, 5, 4, 5, 5, 6, 3, 4, 4, 5, 4, 5, 5, 6, 4, 5, 5, 6, 5, 6, 6, 7, 1, 2, 2, 3, 2, 3, 3, 4, 2, 3, 3, 4, 3, 4, 4, 5, 2, 3, 3, 4, 3, 4, 4, 5, 3, 4, 4, 5, 4, 5, 5, 6, 2, 3, 3, 4, 3, 4, 4, 5, 3, 4, 4, 5, 4, 5, 5, 6, 3, 4, 4, 5, 4, 5, 5, 6, 4, 5, 5, 6, 5, 6, 6, 7, 2, 3, 3, 4, 3, 4, 4, 5, 3, 4, 4, 5, 4, 5, 5, 6, 3, 4, 4, 5, 4, 5, 5, 6, 4, 5, 5, 6, 5, 6, 6, 7, 3, 4, 4, 5, 4, 5, 5, 6, 4, 5, 5, 6, 5, 6, 6, 7, 4, 5, 5, 6, 5, 6, 6, 7, 5, 6, 6, 7, 6, 7, 7, 8]⟩)) (.t 4), []⟩,
      ⟨none, (some 6), .mov (.t 0), []⟩,
      ⟨none, (some 7), .bin .and (.t 6) (.c (.int .u16 255)), []⟩,
      ⟨none, (some 8), .idxs (.c (.string ⟨#[0, 1, 1, 2, 1, 2, 2, 3, 1, 2, 2, 3, 2, 3, 3, 4, 1, 2, 2, 3, 2, 3, 3, 4, 2, 3, 3, 4, 3, 4, 4, 5, 1, 2, 2, 3, 2, 3, 3, 4, 2, 3, 3, 4, 3, 4, 4, 5, 2, 3, 3, 4, 3, 4, 4, 5, 3, 4, 4, 5, 4, 5, 5, 6, 1, 2, 2, 3, 2, 3, 3, 4, 2, 3, 3, 4, 3, 4, 4, 5, 2, 3, 3, 4, 3, 4, 4, 5, 3, 4, 4, 5, 4, 5, 5, 6, 2, 3, 3, 4, 3, 4, 4, 5, 3, 4, 4, 5, 4, 5, 5, 6, 3, 4, 4, 5, 4, 5, 5, 6, 4, 5, 5, 6, 5, 6, 6, 7, 1, 2, 2, 3, 2, 3, 3, 4, 2, 3, 3, 4, 3, 4, 4, 5, 2, 3, 3, 4, 3, 4, 4, 5, 3, 4, 4, 5, 4, 5, 5, 6, 2, 3, 3, 4, 3, 4, 4, 5, 3, 4, 4, 5, 4, 5, 5, 6, 3, 4, 4, 5, 4, 5, 5, 6, 4, 5, 5, 6, 5, 6, 6, 7, 2, 3, 3, 4, 3, 4, 4, 5, 3, 4, 4, 5, 4, 5, 5, 6, 3, 4, 4, 5, 4, 5, 5, 6, 4, 5, 5, 6, 5, 6, 6, 7, 3, 4, 4, 5, 4, 5, 5, 6, 4, 5, 5, 6, 5, 6, 6, 7, 4, 5, 5, 6, 5, 6, 6, 7, 5, 6, 6, 7, 6, 7, 7, 8]⟩)) (.t 7), []⟩,
      ⟨none, (some 9), .bin .add (.t 5) (.t 8), []⟩,
      ⟨none, (some 10), .conv .i64 (.t 9), []⟩,
      ⟨none, (some 2), .mov (.t 10), []⟩])
    .ret))
def c530 : Fn := { np := 1, nt := 11, kind := .pure, res := [.t 2], body := k530 }

/- slices.IndexFunc[[]uint16,uint16] -/
def b547_1 : Cd :=
  (.seq
   (.reg [9] [
     ⟨none, (some 9), .bin .lss (.t 8) (.t 7), []⟩])
   (.seq
    (.cond (.t 9)
     .skip
     (.exit 0))
    (.seq
     (.block 1
      (.seq
       (.reg [5] [
         ⟨none, (some 10), .mov (.t 8), []⟩,
         ⟨none, (some 5), .mov (.t 10), []⟩])
       (.seq
        (.reg [16] [
          ⟨none, (some 11), .mov (.t 1), []⟩,
          ⟨none, (some 12), .mov (.t 0), []⟩,
          ⟨none, (some 13), .mov (.t 5), []⟩,
          ⟨none, (some 14), .idxA 1 (.t 12) (.t 13), []⟩,
          ⟨none, (some 15), .ld 1 false (.t 14), []⟩,
          ⟨none, (some 16), .callv (.t 11) [.t 15], []⟩])
        (.cond (.t 16)
         (.seq
          (.reg [4] [
            ⟨none, (some 17), .mov (.t 5), []⟩,
            ⟨none, (some 4), .mov (.t 17), []⟩])
          .ret)
         .skip))))
     (.reg [8] [
       ⟨none, (some 18), .bin .add (.t 8) (.c (.int .i64 1)), []⟩,
       ⟨none, (some 8), .mov (.t 18), []⟩]))))
def k547 : Cd :=
  (.seq
   (.reg [4] [
     ⟨none, (some 4), .mov (.c (.int .i64 0)), []⟩])
   (.seq
    (.seq
     (.reg [7, 8] [
       ⟨none, (some 6), .mov (.t 0), []⟩,
       ⟨none, (some 7), .len (.t 6), []⟩,
       ⟨none, (some 8), .mov (.c (.int .i64 0)), []⟩])
     (.block 0
      (.loop b547_1)))
    (.seq
     (.reg [4] [
       ⟨none, (some 4), .mov (.c (.int .i64 (-1))), []⟩])
     .ret)))
def c547 : Fn := { np := 2, nt := 19, kind := .pure, res := [.t 4], body := k547 }

/- (*spec.l00Src).next -/
def k550 : Cd :=
  (.seq
   (.reg [2] [
     ⟨none, (some 2), .mov (.c (.int .i64 0)), []⟩])
   (.seq
    (.reg [3] [
      ⟨none, (some 3), .mov (.c (.int .i64 0)), []⟩])
    (.seq
     (.seq
      (.reg [13] [
        ⟨none, (some 4), .mov (.t 0), []⟩,
        ⟨none, (some 5), .nil (.t 4), []⟩,
        ⟨none, (some 6), .fldP 1 (.t 5), []⟩,
        ⟨none, (some 7), .ld 1 false (.t 6), []⟩,
        ⟨none, (some 8), .mov (.t 0), []⟩,
        ⟨none, (some 9), .nil (.t 8), []⟩,
        ⟨none, (some 10), .fldP 0 (.t 9), []⟩,
        ⟨none, (some 11), .ld 1 false (.t 10), []⟩,
        ⟨none, (some 12), .len (.t 11), []⟩,
        ⟨none, (some 13), .bin .lss (.t 7) (.t 12), []⟩])
      (.cond (.t 13)
       (.reg [3] [
         ⟨none, (some 14), .mov (.t 0), []⟩,
         ⟨none, (some 15), .nil (.t 14), []⟩,
         ⟨none, (some 16), .fldP 0 (.t 15), []⟩,
         ⟨none, (some 17), .ld 1 false (.t 16), []⟩,
         ⟨none, (some 18), .mov (.t 0), []⟩,
         ⟨none, (some 19), .nil (.t 18), []⟩,
         ⟨none, (some 20), .fldP 1 (.t 19), []⟩,
         ⟨none, (some 21), .ld 1 false (.t 20), []⟩,
         ⟨none, (some 22), .idxA 1 (.t 17) (.t 21), []⟩,
         ⟨none, (some 23), .ld 1 false (.t 22), []⟩,
         ⟨none, (some 24), .conv .i64 (.t 23), []⟩,
         ⟨none, (some 3), .mov (.t 24), []⟩])
       .skip))
     (.seq
      (.reg [] [
        ⟨none, (some 25), .mov (.t 0), []⟩,
        ⟨none, (some 26), .nil (.t 25), []⟩,
        ⟨none, (some 27), .fldP 1 (.t 26), []⟩,
        ⟨none, (some 28), .ld 1 false (.t 27), []⟩,
        ⟨none, (some 29), .bin .add (.t 28) (.c (.int .i64 1)), []⟩,
        ⟨none, (some 30), .nil (.t 25), []⟩,
        ⟨none, (some 31), .fldP 1 (.t 30), []⟩,
        ⟨none, none, .st 1 (.t 31) (.t 29), []⟩])
      (.seq
       (.reg [] [
         ⟨none, (some 32), .mov (.t 0), []⟩,
         ⟨none, (some 33), .mov (.t 0), []⟩,
         ⟨none, (some 34), .nil (.t 33), []⟩,
         ⟨none, (some 35), .fldP 2 (.t 34), []⟩,
         ⟨none, (some 36), .ld 1 false (.t 35), []⟩,
         ⟨none, (some 37), .bin .mul (.t 36) (.c (.int .u64 6364136223846793005)), []⟩,
         ⟨none, (some 38), .mov (.t 3), []⟩,
         ⟨none, (some 39), .conv .u64 (.t 38), []⟩,
         ⟨none, (some 40), .bin .add (.t 37) (.t 39), []⟩,
         ⟨none, (some 41), .bin .add (.t 40) (.c (.int .u64 1442695040888963407)), []⟩,
         ⟨none, (some 42), .nil (.t 32), []⟩,
         ⟨none, (some 43), .fldP 2 (.t 42), []⟩,
         ⟨none, none, .st 1 (.t 43) (.t 41), []⟩])
       (.seq
        (.seq
         (.reg [53] [
           ⟨none, (some 44), .mov (.t 0), []⟩,
           ⟨none, (some 45), .nil (.t 44), []⟩,
           ⟨none, (some 46), .fldP 1 (.t 45), []⟩,
           ⟨none, (some 47), .ld 1 false (.t 46), []⟩,
           ⟨none, (some 48), .mov (.t 0), []⟩,
           ⟨none, (some 49), .nil (.t 48), []⟩,
           ⟨none, (some 50), .fldP 0 (.t 49), []⟩,
           ⟨none, (some 51), .ld 1 false (.t 50), []⟩,
           ⟨none, (some 52), .len (.t 51), []⟩,
           ⟨none, (some 53), .bin .leq (.t 47) (.t 52), []⟩])
         (.cond (.t 53)
          (.seq
           (.reg [2] [
             ⟨none, (some 54), .mov (.t 3), []⟩,
             ⟨none, (some 2), .mov (.t 54), []⟩])
           .ret)
          .skip))
        (.seq
         (.reg [2] [
           ⟨none, (some 55), .mov (.t 0), []⟩,
           ⟨none, (some 56), .nil (.t 55), []⟩,
           ⟨none, (some 57), .fldP 2 (.t 56), []⟩,
           ⟨none, (some 58), .ld 1 false (.t 57), []⟩,
           ⟨none, (some 59), .bin .shr (.t 58) (.c (.int .u64 40)), []⟩,
           ⟨none, (some 60), .bin .and (.t 59) (.c (.int .u64 255)), []⟩,
           ⟨none, (some 61), .conv .i64 (.t 60), []⟩,
           ⟨none, (some 2), .mov (.t 61), []⟩])
         .ret)))))))
def c550 : Fn := { np := 1, nt := 62, kind := .args, res := [.t 2], body := k550 }

/- slices.IndexFunc[impl.Scene,impl.Layer] -/
def b555_1 : Cd :=
  (.seq
   (.reg [9] [
     ⟨none, (some 9), .bin .lss (.t 8) (.t 7), []⟩])
   (.seq
    (.cond (.t 9)
     .skip
     (.exit 0))
    (.seq
     (.block 1
      (.seq
       (.reg [5] [
         ⟨none, (some 10), .mov (.t 8), []⟩,
         ⟨none, (some 5), .mov (.t 10), []⟩])
       (.seq
        (.reg [16] [
          ⟨none, (some 11), .mov (.t 1), []⟩,
          ⟨none, (some 12), .mov (.t 0), []⟩,
          ⟨none, (some 13), .mov (.t 5), []⟩,
          ⟨none, (some 14), .idxA 27 (.t 12) (.t 13), []⟩,
          ⟨none, (some 15), .ld 27 true (.t 14), []⟩,
          ⟨none, (some 16), .callv (.t 11) [.t 15], []⟩])
        (.cond (.t 16)
         (.seq
          (.reg [4] [
            ⟨none, (some 17), .mov (.t 5), []⟩,
            ⟨none, (some 4), .mov (.t 17), []⟩])
          .ret)
         .skip))))
     (.reg [8] [
       ⟨none, (some 18), .bin .add (.t 8) (.c (.int .i64 1)), []⟩,
       ⟨none, (some 8), .mov (.t 18), []⟩]))))
def k555 : Cd :=
  (.seq
   (.reg [4] [
     ⟨none, (some 4), .mov (.c (.int .i64 0)), []⟩])
   (.seq
    (.seq
     (.reg [7, 8] [
       ⟨none, (some 6), .mov (.t 0), []⟩,
       ⟨none, (some 7), .len (.t 6), []⟩,
       ⟨none, (some 8), .mov (.c (.int .i64 0)), []⟩])
     (.block 0
      (.loop b555_1)))
    (.seq
     (.reg [4] [
       ⟨none, (some 4), .mov (.c (.int .i64 (-1))), []⟩])
     .ret)))
def c555 : Fn := { np := 2, nt := 19, kind := .pure, res := [.t 4], body := k555 }

/- slices.ContainsFunc[[]impl.Shot,impl.Shot] -/
def k560 : Cd :=
  (.seq
   (.reg [4] [
     ⟨none, (some 4), .mov (.c (.bool false)), []⟩])
   (.seq
    (.reg [4] [
      ⟨none, (some 5), .mov (.t 0), []⟩,
      ⟨none, (some 6), .mov (.t 1), []⟩,
      ⟨none, (some 7), .call true 586 [.t 5, .t 6], []⟩,
      ⟨none, (some 8), .bin .geq (.t 7) (.c (.int .i64 0)), []⟩,
      ⟨none, (some 4), .mov (.t 8), []⟩])
    .ret))
def c560 : Fn := { np := 2, nt := 9, kind := .pure, res := [.t 4], body := k560 }

/- impl.areShots$1 -/
def k561 : Cd :=
  (.seq
   (.reg [2, 3] [
     ⟨none, (some 2), .mov (.t 0), []⟩,
     ⟨none, (some 3), .mov (.c (.bool false)), []⟩])
   (.seq
    (.reg [3] [
      ⟨none, (some 4), .adrF 2 none 0, []⟩,
      ⟨none, (some 5), .ldV 2 (some 4) 1 false, []⟩,
      ⟨none, (some 6), .conv .i64 (.t 5), []⟩,
      ⟨none, (some 7), .ld 1 false (.t 1), []⟩,
      ⟨none, (some 8), .bin .sub (.t 7) (.c (.int .i64 1)), []⟩,
      ⟨none, (some 9), .call true 295 [.t 6, .c (.int .i64 0), .t 8], []⟩,
      ⟨none, (some 10), .un .not (.t 9), []⟩,
      ⟨none, (some 11), .mov (.t 10), []⟩,
      ⟨(some (11, false)), (some 12), .adrF 2 none 1, []⟩,
      ⟨(some (11, false)), (some 13), .ldV 2 (some 12) 1 false, []⟩,
      ⟨(some (11, false)), (some 14), .conv .i64 (.t 13), []⟩,
      ⟨(some (11, false)), (some 15), .call true 295 [.t 14, .c (.int .i64 1), .c (.int .i64 24)], []⟩,
      ⟨(some (11, false)), (some 16), .un .not (.t 15), []⟩,
      ⟨none, (some 17), .pick (.t 11) (.c (.bool true)) (.t 16), []⟩,
      ⟨none, (some 3), .mov (.t 17), []⟩])
    .ret))
def c561 : Fn := { np := 2, nt := 18, kind := .pure, res := [.t 3], body := k561 }

/- math/bits.Mul -/
def k562 : Cd :=
  (.seq
   (.reg [4, 5] [
     ⟨none, (some 4), .mov (.c (.int .u64 0)), []⟩,
     ⟨none, (some 5), .mov (.c (.int .u64 0)), []⟩])
   (.seq
    (.cond (.c (.bool false))
     (.seq
      (.reg [6, 7] [
        ⟨none, (some 11), .mov (.t 0), []⟩,
        ⟨none, (some 12), .conv .u32 (.t 11), []⟩,
        ⟨none, (some 13), .mov (.t 1), []⟩,
        ⟨none, (some 14), .conv .u32 (.t 13), []⟩,
        ⟨none, (some 15), .call true 587 [.t 12, .t 14], []⟩,
        ⟨none, (some 10), .mov (.t 15), []⟩,
        ⟨none, (some 16), .ext (.t 10) 0, []⟩,
        ⟨none, (some 17), .ext (.t 10) 1, []⟩,
        ⟨none, (some 6), .mov (.t 16), []⟩,
        ⟨none, (some 7), .mov (.t 17), []⟩])
      (.seq
       (.reg [4, 5] [
         ⟨none, (some 18), .mov (.t 6), []⟩,
         ⟨none, (some 19), .conv .u64 (.t 18), []⟩,
         ⟨none, (some 20), .mov (.t 7), []⟩,
         ⟨none, (some 21), .conv .u64 (.t 20), []⟩,
         ⟨none, (some 4), .mov (.t 19), []⟩,
         ⟨none, (some 5), .mov (.t 21), []⟩])
       .ret))
     .skip)
    (.seq
     (.reg [8, 9] [
       ⟨none, (some 23), .mov (.t 0), []⟩,
       ⟨none, (some 24), .mov (.t 1), []⟩,
       ⟨none, (some 25), .call true 588 [.t 23, .t 24], []⟩,
       ⟨none, (some 22), .mov (.t 25), []⟩,
       ⟨none, (some 26), .ext (.t 22) 0, []⟩,
       ⟨none, (some 27), .ext (.t 22) 1, []⟩,
       ⟨none, (some 8), .mov (.t 26), []⟩,
       ⟨none, (some 9), .mov (.t 27), []⟩])
     (.seq
      (.reg [4, 5] [
        ⟨none, (some 28), .mov (.t 8), []⟩,
        ⟨none, (some 29), .mov (.t 9), []⟩,
        ⟨none, (some 4), .mov (.t 28), []⟩,
        ⟨none, (some 5), .mov (.t 29), []⟩])
      .ret))))
def c562 : Fn := { np := 2, nt := 30, kind := .pure, res := [.t 4, .t 5], body := k562 }

/- spec.l05Layer -/
def k563 : Cd :=
  (.seq
   (.reg [2] [
     ⟨none, (some 2), .mov (.c (.bool false)), []⟩])
   (.seq
    (.reg [2] [
      ⟨none, (some 3), .mov (.t 0), []⟩,
      ⟨none, (some 4), .nil (.t 3), []⟩,
      ⟨none, (some 5), .fldP 0 (.t 4), []⟩,
      ⟨none, (some 6), .call true 467 [.t 5], []⟩,
      ⟨none, (some 7), .mov (.t 6), []⟩,
      ⟨(some (7, true)), (some 8), .mov (.t 0), []⟩,
      ⟨(some (7, true)), (some 9), .nil (.t 8), []⟩,
      ⟨(some (7, true)), (some 10), .fldP 24 (.t 9), []⟩,
      ⟨(some (7, true)), (some 11), .ld 1 false (.t 10), []⟩,
      ⟨(some (7, true)), (some 12), .conv .i64 (.t 11), []⟩,
      ⟨(some (7, true)), (some 13), .call true 304 [.t 12, .c (.int .i64 (-12)), .c (.int .i64 12)], []⟩,
      ⟨none, (some 14), .pick (.t 7) (.t 13) (.c (.bool false)), []⟩,
      ⟨none, (some 15), .mov (.t 14), []⟩,
      ⟨(some (15, true)), (some 16), .mov (.t 0), []⟩,
      ⟨(some (15, true)), (some 17), .nil (.t 16), []⟩,
      ⟨(some (15, true)), (some 18), .fldP 25 (.t 17), []⟩,
      ⟨(some (15, true)), (some 19), .ld 1 false (.t 18), []⟩,
      ⟨(some (15, true)), (some 20), .conv .i64 (.t 19), []⟩,
      ⟨(some (15, true)), (some 21), .call true 304 [.t 20, .c (.int .i64 (-12)), .c (.int .i64 12)], []⟩,
      ⟨none, (some 22), .pick (.t 15) (.t 21) (.c (.bool false)), []⟩,
      ⟨none, (some 23), .mov (.t 22), []⟩,
      ⟨(some (23, true)), (some 24), .mov (.t 0), []⟩,
      ⟨(some (23, true)), (some 25), .nil (.t 24), []⟩,
      ⟨(some (23, true)), (some 26), .fldP 26 (.t 25), []⟩,
      ⟨(some (23, true)), (some 27), .ld 1 false (.t 26), []⟩,
      ⟨(some (23, true)), (some 28), .conv .i64 (.t 27), []⟩,
      ⟨(some (23, true)), (some 29), .call true 304 [.t 28, .c (.int .i64 0), .c (.int .i64 8)], []⟩,
      ⟨none, (some 30), .pick (.t 23) (.t 29) (.c (.bool false)), []⟩,
      ⟨none, (some 2), .mov (.t 30), []⟩])
    .ret))
def c563 : Fn := { np := 1, nt := 31, kind := .pure, res := [.t 2], body := k563 }

/- spec.l05Eighths -/
def k564 : Cd :=
  (.seq
   (.reg [4] [
     ⟨none, (some 4), .mov (.c (.int .i64 0)), []⟩])
   (.seq
    (.reg [5] [
      ⟨none, (some 6), .mov (.t 0), []⟩,
      ⟨none, (some 7), .mov (.t 1), []⟩,
      ⟨none, (some 8), .bin .mul (.t 6) (.t 7), []⟩,
      ⟨none, (some 9), .bin .quo (.t 8) (.c (.int .i64 8)), []⟩,
      ⟨none, (some 5), .mov (.t 9), []⟩])
    (.seq
     (.seq
      (.reg [20] [
        ⟨none, (some 10), .mov (.t 0), []⟩,
        ⟨none, (some 11), .mov (.t 1), []⟩,
        ⟨none, (some 12), .bin .mul (.t 10) (.t 11), []⟩,
        ⟨none, (some 13), .bin .lss (.t 12) (.c (.int .i64 0)), []⟩,
        ⟨none, (some 14), .mov (.t 13), []⟩,
        ⟨(some (14, true)), (some 15), .mov (.t 0), []⟩,
        ⟨(some (14, true)), (some 16), .mov (.t 1), []⟩,
        ⟨(some (14, true)), (some 17), .bin .mul (.t 15) (.t 16), []⟩,
        ⟨(some (14, true)), (some 18), .bin .rem (.t 17) (.c (.int .i64 8)), []⟩,
        ⟨(some (14, true)), (some 19), .bin .neq (.t 18) (.c (.int .i64 0)), []⟩,
        ⟨none, (some 20), .pick (.t 14) (.t 19) (.c (.bool false)), []⟩])
      (.cond (.t 20)
       (.reg [5] [
         ⟨none, (some 21), .mov (.t 5), []⟩,
         ⟨none, (some 22), .bin .sub (.t 21) (.c (.int .i64 1)), []⟩,
         ⟨none, (some 5), .mov (.t 22), []⟩])
       .skip))
     (.seq
      (.reg [4] [
        ⟨none, (some 23), .mov (.t 5), []⟩,
        ⟨none, (some 4), .mov (.t 23), []⟩])
      .ret))))
def c564 : Fn := { np := 2, nt := 24, kind := .pure, res := [.t 4], body := k564 }

/- slices.IndexFunc[[]impl.Shot,impl.Shot] -/
def b586_1 : Cd :=
  (.seq
   (.reg [9] [
     ⟨none, (some 9), .bin .lss (.t 8) (.t 7), []⟩])
   (.seq
    (.cond (.t 9)
     .skip
     (.exit 0))
    (.seq
     (.block 1
      (.seq
       (.reg [5] [
         ⟨none, (some 10), .mov (.t 8), []⟩,
         ⟨none, (some 5), .mov (.t 10), []⟩])
       (.seq
        (.reg [16] [
          ⟨none, (some 11), .mov (.t 1), []⟩,
          ⟨none, (some 12), .mov (.t 0), []⟩,
          ⟨none, (some 13), .mov (.t 5), []⟩,
          ⟨none, (some 14), .idxA 2 (.t 12) (.t 13), []⟩,
          ⟨none, (some 15), .ld 2 true (.t 14), []⟩,
          ⟨none, (some 16), .callv (.t 11) [.t 15], []⟩])
        (.cond (.t 16)
         (.seq
          (.reg [4] [
            ⟨none, (some 17), .mov (.t 5), []⟩,
            ⟨none, (some 4), .mov (.t 17), []⟩])
          .ret)
         .skip))))
     (.reg [8] [
       ⟨none, (some 18), .bin .add (.t 8) (.c (.int .i64 1)), []⟩,
       ⟨none, (some 8), .mov (.t 18), []⟩]))))
def k586 : Cd :=
  (.seq
   (.reg [4] [
     ⟨none, (some 4), .mov (.c (.int .i64 0)), []⟩])
   (.seq
    (.seq
     (.reg [7, 8] [
       ⟨none, (some 6), .mov (.t 0), []⟩,
       ⟨none, (some 7), .len (.t 6), []⟩,
       ⟨none, (some 8), .mov (.c (.int .i64 0)), []⟩])
     (.block 0
      (.loop b586_1)))
    (.seq
     (.reg [4] [
       ⟨none, (some 4), .mov (.c (.int .i64 (-1))), []⟩])
     .ret)))
def c586 : Fn := { np := 2, nt := 19, kind := .pure, res := [.t 4], body := k586 }

/- math/bits.Mul32 -/
def k587 : Cd :=
  (.seq
   (.reg [4, 5] [
     ⟨none, (some 4), .mov (.c (.int .u32 0)), []⟩,
     ⟨none, (some 5), .mov (.c (.int .u32 0)), []⟩])
   (.seq
    (.reg [6] [
      ⟨none, (some 7), .mov (.t 0), []⟩,
      ⟨none, (some 8), .conv .u64 (.t 7), []⟩,
      ⟨none, (some 9), .mov (.t 1), []⟩,
      ⟨none, (some 10), .conv .u64 (.t 9), []⟩,
      ⟨none, (some 11), .bin .mul (.t 8) (.t 10), []⟩,
      ⟨none, (some 6), .mov (.t 11), []⟩])
    (.seq
     (.reg [4, 5] [
       ⟨none, (some 12), .mov (.t 6), []⟩,
       ⟨none, (some 13), .bin .shr (.t 12) (.c (.int .u64 32)), []⟩,
       ⟨none, (some 14), .conv .u32 (.t 13), []⟩,
       ⟨none, (some 15), .mov (.t 6), []⟩,
       ⟨none, (some 16), .conv .u32 (.t 15), []⟩,
       ⟨none, (some 4), .mov (.t 14), []⟩,
       ⟨none, (some 5), .mov (.t 16), []⟩])
     .ret)))
def c587 : Fn := { np := 2, nt := 17, kind := .pure, res := [.t 4, .t 5], body := k587 }

/- math/bits.Mul64 -/
def k588 : Cd :=
  (.seq
   (.reg [4, 5] [
     ⟨none, (some 4), .mov (.c (.int .u64 0)), []⟩,
     ⟨none, (some 5), .mov (.c (.int .u64 0)), []⟩])
   (.seq
    (.reg [6] [
      ⟨none, (some 14), .mov (.t 0), []⟩,
      ⟨none, (some 15), .bin .and (.t 14) (.c (.int .u64 4294967295)), []⟩,
      ⟨none, (some 6), .mov (.t 15), []⟩])
    (.seq
     (.reg [7] [
       ⟨none, (some 16), .mov (.t 0), []⟩,
       ⟨none, (some 17), .bin .shr (.t 16) (.c (.int .u64 32)), []⟩,
       ⟨none, (some 7), .mov (.t 17), []⟩])
     (.seq
      (.reg [8] [
        ⟨none, (some 18), .mov (.t 1), []⟩,
        ⟨none, (some 19), .bin .and (.t 18) (.c (.int .u64 4294967295)), []⟩,
        ⟨none, (some 8), .mov (.t 19), []⟩])
      (.seq
       (.reg [9] [
         ⟨none, (some 20), .mov (.t 1), []⟩,
         ⟨none, (some 21), .bin .shr (.t 20) (.c (.int .u64 32)), []⟩,
         ⟨none, (some 9), .mov (.t 21), []⟩])
       (.seq
        (.reg [10] [
          ⟨none, (some 22), .mov (.t 6), []⟩,
          ⟨none, (some 23), .mov (.t 8), []⟩,
          ⟨none, (some 24), .bin .mul (.t 22) (.t 23), []⟩,
          ⟨none, (some 10), .mov (.t 24), []⟩])
        (.seq
         (.reg [11] [
           ⟨none, (some 25), .mov (.t 7), []⟩,
           ⟨none, (some 26), .mov (.t 8), []⟩,
           ⟨none, (some 27), .bin .mul (.t 25) (.t 26), []⟩,
           ⟨none, (some 28), .mov (.t 10), []⟩,
           ⟨none, (some 29), .bin .shr (.t 28) (.c (.int .u64 32)), []⟩,
           ⟨none, (some 30), .bin .add (.t 27) (.t 29), []⟩,
           ⟨none, (some 11), .mov (.t 30), []⟩])
         (.seq
          (.reg [12] [
            ⟨none, (some 31), .mov (.t 11), []⟩,
            ⟨none, (some 32), .bin .and (.t 31) (.c (.int .u64 4294967295)), []⟩,
            ⟨none, (some 12), .mov (.t 32), []⟩])
          (.seq
           (.reg [13] [
             ⟨none, (some 33), .mov (.t 11), []⟩,
             ⟨none, (some 34), .bin .shr (.t 33) (.c (.int .u64 32)), []⟩,
             ⟨none, (some 13), .mov (.t 34), []⟩])
           (.seq
            (.reg [12] [
              ⟨none, (some 35), .mov (.t 12), []⟩,
              ⟨none, (some 36), .mov (.t 6), []⟩,
              ⟨none, (some 37), .mov (.t 9), []⟩,
              ⟨none, (some 38), .bin .mul (.t 36) (.t 37), []⟩,
              ⟨none, (some 39), .bin .add (.t 35) (.t 38), []⟩,
              ⟨none, (some 12), .mov (.t 39), []⟩])
            (.seq
             (.reg [4] [
               ⟨none, (some 40), .mov (.t 7), []⟩,
               ⟨none, (some 41), .mov (.t 9), []⟩,
               ⟨none, (some 42), .bin .mul (.t 40) (.t 41), []⟩,
               ⟨none, (some 43), .mov (.t 13), []⟩,
               ⟨none, (some 44), .bin .add (.t 42) (.t 43), []⟩,
               ⟨none, (some 45), .mov (.t 12), []⟩,
               ⟨none, (some 46), .bin .shr (.t 45) (.c (.int .u64 32)), []⟩,
               ⟨none, (some 47), .bin .add (.t 44) (.t 46), []⟩,
               ⟨none, (some 4), .mov (.t 47), []⟩])
             (.seq
              (.reg [5] [
                ⟨none, (some 48), .mov (.t 0), []⟩,
                ⟨none, (some 49), .mov (.t 1), []⟩,
                ⟨none, (some 50), .bin .mul (.t 48) (.t 49), []⟩,
                ⟨none, (some 5), .mov (.t 50), []⟩])
              .ret))))))))))))
def c588 : Fn := { np := 2, nt := 51, kind := .pure, res := [.t 4, .t 5], body := k588 }


end Fb
