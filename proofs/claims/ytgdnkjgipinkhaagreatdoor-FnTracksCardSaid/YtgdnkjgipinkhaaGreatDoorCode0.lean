/- The functions of the law, in the small language. -/
import Derived.Test.YtgdnkjgipinkhaaGreatDoorDen
set_option linter.unusedVariables false
set_option linter.unusedSimpArgs false
namespace Fb
open Go

/- laws.FnTracks -/
def b24_1 : Cd :=
  (.seq
   (.seq
    (.reg [339] [
      ⟨none, (some 336), .mov (.t 48), []⟩,
      ⟨none, (some 337), .mov (.t 35), []⟩,
      ⟨none, (some 338), .len (.t 337), []⟩,
      ⟨none, (some 339), .bin .lss (.t 336) (.t 338), []⟩])
    (.cond (.t 339)
     .skip
     (.exit 0)))
   (.seq
    (.block 1
     (.seq
      (.reg [49, 51] [
        ⟨none, (some 343), .mov (.t 7), []⟩,
        ⟨none, (some 344), .mov (.t 48), []⟩,
        ⟨none, (some 345), .idxA 12 (.t 343) (.t 344), []⟩,
        ⟨none, (some 346), .ld 12 true (.t 345), []⟩,
        ⟨none, (some 347), .mov (.t 7), []⟩,
        ⟨none, (some 348), .mov (.t 48), []⟩,
        ⟨none, (some 349), .bin .add (.t 348) (.c (.int .i64 1)), []⟩,
        ⟨none, (some 350), .idxA 12 (.t 347) (.t 349), []⟩,
        ⟨none, (some 351), .ld 12 true (.t 350), []⟩,
        ⟨none, (some 352), .mov (.t 8), []⟩,
        ⟨none, (some 49), .zero true [.int .i8 0, .int .i8 0], []⟩,
        ⟨none, (some 353), .call true 149 [.t 346, .t 351, .t 352], []⟩,
        ⟨none, (some 342), .mov (.t 353), []⟩,
        ⟨none, (some 354), .ext (.t 342) 0, []⟩,
        ⟨none, (some 355), .ext (.t 342) 1, []⟩,
        ⟨none, (some 356), .ext (.t 342) 2, []⟩,
        ⟨none, (some 49), .stV 49 none 2 (.t 354), []⟩,
        ⟨none, (some 50), .mov (.t 355), []⟩,
        ⟨none, (some 51), .mov (.t 356), []⟩])
      (.seq
       (.seq
        (.reg [366] [
          ⟨none, (some 357), .mov (.t 51), []⟩,
          ⟨none, (some 358), .bin .neq (.t 357) (.c (.int .i64 0)), []⟩,
          ⟨none, (some 359), .mov (.t 358), []⟩,
          ⟨(some (359, false)), (some 360), .ldV 49 none 2 true, []⟩,
          ⟨(some (359, false)), (some 361), .mov (.t 35), []⟩,
          ⟨(some (359, false)), (some 362), .mov (.t 48), []⟩,
          ⟨(some (359, false)), (some 363), .idxA 2 (.t 361) (.t 362), []⟩,
          ⟨(some (359, false)), (some 364), .ld 2 true (.t 363), []⟩,
          ⟨(some (359, false)), (some 365), .eq (.a (rb 2 (some .i8))) true (.t 360) (.t 364), []⟩,
          ⟨none, (some 366), .pick (.t 359) (.c (.bool true)) (.t 365), []⟩])
        (.cond (.t 366)
         (.seq
          (.reg [4] [
            ⟨none, (some 4), .mov (.c (.bool false)), []⟩])
          .ret)
         .skip))
       (.seq
        (.reg [46] [
          ⟨none, (some 367), .mov (.t 46), []⟩,
          ⟨none, (some 368), .adrF 49 none 0, []⟩,
          ⟨none, (some 369), .ldV 49 (some 368) 1 false, []⟩,
          ⟨none, (some 370), .conv .i64 (.t 369), []⟩,
          ⟨none, (some 371), .bin .add (.t 367) (.t 370), []⟩,
          ⟨none, (some 46), .mov (.t 371), []⟩])
        (.reg [47] [
          ⟨none, (some 372), .mov (.t 47), []⟩,
          ⟨none, (some 373), .adrF 49 none 1, []⟩,
          ⟨none, (some 374), .ldV 49 (some 373) 1 false, []⟩,
          ⟨none, (some 375), .conv .i64 (.t 374), []⟩,
          ⟨none, (some 376), .bin .add (.t 372) (.t 375), []⟩,
          ⟨none, (some 47), .mov (.t 376), []⟩])))))
    (.reg [48] [
      ⟨none, (some 340), .mov (.t 48), []⟩,
      ⟨none, (some 341), .bin .add (.t 340) (.c (.int .i64 1)), []⟩,
      ⟨none, (some 48), .mov (.t 341), []⟩])))
def k24 : Cd :=
  (.seq
   (.reg [4] [
     ⟨none, (some 4), .mov (.c (.bool false)), []⟩])
   (.seq
    (.seq
     (.reg [59] [
       ⟨none, (some 57), .mov (.t 0), []⟩,
       ⟨none, (some 58), .mov (.t 1), []⟩,
       ⟨none, (some 59), .call true 84 [.t 57, .t 58], []⟩])
     (.cond (.t 59)
      (.seq
       (.reg [4] [
         ⟨none, (some 4), .mov (.c (.bool true)), []⟩])
       .ret)
      .skip))
    (.seq
     (.reg [5] [
       ⟨none, (some 60), .mov (.t 0), []⟩,
       ⟨none, (some 61), .call true 147 [.t 60], []⟩,
       ⟨none, (some 5), .zero true (zs 12 (.int .u16 0)), []⟩,
       ⟨none, (some 5), .stV 5 none 12 (.t 61), []⟩])
     (.seq
      (.reg [6] [
        ⟨none, (some 62), .mov (.t 1), []⟩,
        ⟨none, (some 63), .call true 147 [.t 62], []⟩,
        ⟨none, (some 6), .zero true (zs 12 (.int .u16 0)), []⟩,
        ⟨none, (some 6), .stV 6 none 12 (.t 63), []⟩])
      (.seq
       (.reg [7] [
         ⟨none, (some 64), .mov (.t 1), []⟩,
         ⟨none, (some 65), .call true 85 [.t 64], []⟩,
         ⟨none, (some 7), .mov (.t 65), []⟩])
       (.seq
        (.seq
         (.reg [68] [
           ⟨none, (some 66), .mov (.t 7), []⟩,
           ⟨none, (some 67), .len (.t 66), []⟩,
           ⟨none, (some 68), .bin .gtr (.t 67) (.c (.int .i64 4)), []⟩])
         (.cond (.t 68)
          (.reg [7] [
            ⟨none, (some 69), .mov (.t 7), []⟩,
            ⟨none, (some 70), .slcA 12 (.t 69) none (some (.c (.int .i64 4))) none, []⟩,
            ⟨none, (some 7), .mov (.t 70), []⟩])
          .skip))
        (.seq
         (.reg [8] [
           ⟨none, (some 71), .mov (.t 1), []⟩,
           ⟨none, (some 72), .call true 124 [.t 71, .c (.int .i64 0), .c (.int .i64 4)], []⟩,
           ⟨none, (some 8), .mov (.t 72), []⟩])
         (.seq
          (.reg [9, 10, 11] [
            ⟨none, (some 74), .ldV 5 none 12 true, []⟩,
            ⟨none, (some 75), .ldV 6 none 12 true, []⟩,
            ⟨none, (some 76), .mov (.t 8), []⟩,
            ⟨none, (some 77), .call true 148 [.t 74, .t 75, .t 76], []⟩,
            ⟨none, (some 73), .mov (.t 77), []⟩,
            ⟨none, (some 78), .ext (.t 73) 0, []⟩,
            ⟨none, (some 79), .ext (.t 73) 1, []⟩,
            ⟨none, (some 80), .ext (.t 73) 2, []⟩,
            ⟨none, (some 9), .zero true [.int .i8 0, .int .i8 0], []⟩,
            ⟨none, (some 9), .stV 9 none 2 (.t 78), []⟩,
            ⟨none, (some 10), .mov (.t 79), []⟩,
            ⟨none, (some 11), .mov (.t 80), []⟩])
          (.seq
           (.reg [12, 13, 14] [
             ⟨none, (some 82), .ldV 5 none 12 true, []⟩,
             ⟨none, (some 83), .ldV 6 none 12 true, []⟩,
             ⟨none, (some 84), .mov (.t 8), []⟩,
             ⟨none, (some 85), .call true 149 [.t 82, .t 83, .t 84], []⟩,
             ⟨none, (some 81), .mov (.t 85), []⟩,
             ⟨none, (some 86), .ext (.t 81) 0, []⟩,
             ⟨none, (some 87), .ext (.t 81) 1, []⟩,
             ⟨none, (some 88), .ext (.t 81) 2, []⟩,
             ⟨none, (some 12), .zero true [.int .i8 0, .int .i8 0], []⟩,
             ⟨none, (some 12), .stV 12 none 2 (.t 86), []⟩,
             ⟨none, (some 13), .mov (.t 87), []⟩,
             ⟨none, (some 14), .mov (.t 88), []⟩])
           (.seq
            (.reg [15, 16] [
              ⟨none, (some 90), .ldV 5 none 12 true, []⟩,
              ⟨none, (some 91), .adrF 12 none 0, []⟩,
              ⟨none, (some 92), .ldV 12 (some 91) 1 false, []⟩,
              ⟨none, (some 93), .conv .i64 (.t 92), []⟩,
              ⟨none, (some 94), .adrF 12 none 1, []⟩,
              ⟨none, (some 95), .ldV 12 (some 94) 1 false, []⟩,
              ⟨none, (some 96), .conv .i64 (.t 95), []⟩,
              ⟨none, (some 97), .call true 132 [.t 90, .t 93, .t 96], []⟩,
              ⟨none, (some 89), .mov (.t 97), []⟩,
              ⟨none, (some 98), .ext (.t 89) 0, []⟩,
              ⟨none, (some 99), .ext (.t 89) 1, []⟩,
              ⟨none, (some 15), .zero true (zs 12 (.int .u16 0)), []⟩,
              ⟨none, (some 15), .stV 15 none 12 (.t 98), []⟩,
              ⟨none, (some 16), .mov (.t 99), []⟩])
            (.seq
             (.reg [17, 18] [
               ⟨none, (some 101), .ldV 15 none 12 true, []⟩,
               ⟨none, (some 102), .ldV 6 none 12 true, []⟩,
               ⟨none, (some 103), .call true 125 [.t 101, .t 102], []⟩,
               ⟨none, (some 100), .mov (.t 103), []⟩,
               ⟨none, (some 104), .ext (.t 100) 0, []⟩,
               ⟨none, (some 105), .ext (.t 100) 1, []⟩,
               ⟨none, (some 17), .mov (.t 104), []⟩,
               ⟨none, (some 18), .mov (.t 105), []⟩])
             (.seq
              (.reg [19, 20] [
                ⟨none, (some 107), .ldV 5 none 12 true, []⟩,
                ⟨none, (some 108), .ldV 6 none 12 true, []⟩,
                ⟨none, (some 109), .call true 125 [.t 107, .t 108], []⟩,
                ⟨none, (some 106), .mov (.t 109), []⟩,
                ⟨none, (some 110), .ext (.t 106) 0, []⟩,
                ⟨none, (some 111), .ext (.t 106) 1, []⟩,
                ⟨none, (some 19), .mov (.t 110), []⟩,
                ⟨none, (some 20), .mov (.t 111), []⟩])
              (.seq
               (.seq
                (.reg [172] [
                  ⟨none, (some 112), .mov (.t 11), []⟩,
                  ⟨none, (some 113), .mov (.t 14), []⟩,
                  ⟨none, (some 114), .bin .neq (.t 112) (.t 113), []⟩,
                  ⟨none, (some 115), .mov (.t 114), []⟩,
                  ⟨(some (115, false)), (some 116), .mov (.t 11), []⟩,
                  ⟨(some (115, false)), (some 117), .bin .neq (.t 116) (.c (.int .i64 0)), []⟩,
                  ⟨none, (some 118), .pick (.t 115) (.c (.bool true)) (.t 117), []⟩,
                  ⟨none, (some 119), .mov (.t 118), []⟩,
                  ⟨(some (119, false)), (some 120), .ldV 9 none 2 true, []⟩,
                  ⟨(some (119, false)), (some 121), .ldV 12 none 2 true, []⟩,
                  ⟨(some (119, false)), (some 122), .eq (.a (rb 2 (some .i8))) true (.t 120) (.t 121), []⟩,
                  ⟨none, (some 123), .pick (.t 119) (.c (.bool true)) (.t 122), []⟩,
                  ⟨none, (some 124), .mov (.t 123), []⟩,
                  ⟨(some (124, false)), (some 125), .mov (.t 10), []⟩,
                  ⟨(some (124, false)), (some 126), .mov (.t 13), []⟩,
                  ⟨(some (124, false)), (some 127), .bin .neq (.t 125) (.t 126), []⟩,
                  ⟨none, (some 128), .pick (.t 124) (.c (.bool true)) (.t 127), []⟩,
                  ⟨none, (some 129), .mov (.t 128), []⟩,
                  ⟨(some (129, false)), (some 130), .mov (.t 16), []⟩,
                  ⟨(some (129, false)), (some 131), .bin .neq (.t 130) (.c (.int .i64 0)), []⟩,
                  ⟨none, (some 132), .pick (.t 129) (.c (.bool true)) (.t 131), []⟩,
                  ⟨none, (some 133), .mov (.t 132), []⟩,
                  ⟨(some (133, false)), (some 134), .mov (.t 18), []⟩,
                  ⟨(some (133, false)), (some 135), .bin .neq (.t 134) (.c (.int .i64 0)), []⟩,
                  ⟨none, (some 136), .pick (.t 133) (.c (.bool true)) (.t 135), []⟩,
                  ⟨none, (some 137), .mov (.t 136), []⟩,
                  ⟨(some (137, false)), (some 138), .mov (.t 17), []⟩,
                  ⟨(some (137, false)), (some 139), .mov (.t 13), []⟩,
                  ⟨(some (137, false)), (some 140), .bin .neq (.t 138) (.t 139), []⟩,
                  ⟨none, (some 141), .pick (.t 137) (.c (.bool true)) (.t 140), []⟩,
                  ⟨none, (some 142), .mov (.t 141), []⟩,
                  ⟨(some (142, false)), (some 143), .mov (.t 20), []⟩,
                  ⟨(some (142, false)), (some 144), .bin .neq (.t 143) (.c (.int .i64 0)), []⟩,
                  ⟨none, (some 145), .pick (.t 142) (.c (.bool true)) (.t 144), []⟩,
                  ⟨none, (some 146), .mov (.t 145), []⟩,
                  ⟨(some (146, false)), (some 147), .mov (.t 13), []⟩,
                  ⟨(some (146, false)), (some 148), .mov (.t 19), []⟩,
                  ⟨(some (146, false)), (some 149), .bin .gtr (.t 147) (.t 148), []⟩,
                  ⟨none, (some 150), .pick (.t 146) (.c (.bool true)) (.t 149), []⟩,
                  ⟨none, (some 151), .mov (.t 150), []⟩,
                  ⟨(some (151, false)), (some 152), .adrF 12 none 0, []⟩,
                  ⟨(some (151, false)), (some 153), .ldV 12 (some 152) 1 false, []⟩,
                  ⟨(some (151, false)), (some 154), .adrF 12 none 0, []⟩,
                  ⟨(some (151, false)), (some 155), .ldV 12 (some 154) 1 false, []⟩,
                  ⟨(some (151, false)), (some 156), .un .neg (.t 155), []⟩,
                  ⟨(some (151, false)), (some 157), .mx (.t 153) (.t 156), []⟩,
                  ⟨(some (151, false)), (some 158), .mov (.t 8), []⟩,
                  ⟨(some (151, false)), (some 159), .conv .i8 (.t 158), []⟩,
                  ⟨(some (151, false)), (some 160), .bin .gtr (.t 157) (.t 159), []⟩,
                  ⟨none, (some 161), .pick (.t 151) (.c (.bool true)) (.t 160), []⟩,
                  ⟨none, (some 162), .mov (.t 161), []⟩,
                  ⟨(some (162, false)), (some 163), .adrF 12 none 1, []⟩,
                  ⟨(some (162, false)), (some 164), .ldV 12 (some 163) 1 false, []⟩,
                  ⟨(some (162, false)), (some 165), .adrF 12 none 1, []⟩,
                  ⟨(some (162, false)), (some 166), .ldV 12 (some 165) 1 false, []⟩,
                  ⟨(some (162, false)), (some 167), .un .neg (.t 166), []⟩,
                  ⟨(some (162, false)), (some 168), .mx (.t 164) (.t 167), []⟩,
                  ⟨(some (162, false)), (some 169), .mov (.t 8), []⟩,
                  ⟨(some (162, false)), (some 170), .conv .i8 (.t 169), []⟩,
                  ⟨(some (162, false)), (some 171), .bin .gtr (.t 168) (.t 170), []⟩,
                  ⟨none, (some 172), .pick (.t 162) (.c (.bool true)) (.t 171), []⟩])
                (.cond (.t 172)
                 (.seq
                  (.reg [4] [
                    ⟨none, (some 4), .mov (.c (.bool false)), []⟩])
                  .ret)
                 .skip))
               (.seq
                (.reg [21] [
                  ⟨none, (some 173), .mov (.t 0), []⟩,
                  ⟨none, (some 174), .mov (.t 8), []⟩,
                  ⟨none, (some 175), .bin .mul (.c (.int .i64 2)) (.t 174), []⟩,
                  ⟨none, (some 176), .bin .add (.t 175) (.c (.int .i64 1)), []⟩,
                  ⟨none, (some 177), .call true 124 [.t 173, .c (.int .i64 0), .t 176], []⟩,
                  ⟨none, (some 178), .mov (.t 8), []⟩,
                  ⟨none, (some 179), .bin .sub (.t 177) (.t 178), []⟩,
                  ⟨none, (some 21), .mov (.t 179), []⟩])
                (.seq
                 (.reg [22] [
                   ⟨none, (some 180), .mov (.t 0), []⟩,
                   ⟨none, (some 181), .mov (.t 8), []⟩,
                   ⟨none, (some 182), .bin .mul (.c (.int .i64 2)) (.t 181), []⟩,
                   ⟨none, (some 183), .bin .add (.t 182) (.c (.int .i64 1)), []⟩,
                   ⟨none, (some 184), .call true 124 [.t 180, .c (.int .i64 1), .t 183], []⟩,
                   ⟨none, (some 185), .mov (.t 8), []⟩,
                   ⟨none, (some 186), .bin .sub (.t 184) (.t 185), []⟩,
                   ⟨none, (some 22), .mov (.t 186), []⟩])
                 (.seq
                  (.reg [23, 24] [
                    ⟨none, (some 188), .ldV 5 none 12 true, []⟩,
                    ⟨none, (some 189), .mov (.t 21), []⟩,
                    ⟨none, (some 190), .mov (.t 22), []⟩,
                    ⟨none, (some 191), .call true 150 [.t 188, .t 189, .t 190], []⟩,
                    ⟨none, (some 187), .mov (.t 191), []⟩,
                    ⟨none, (some 192), .ext (.t 187) 0, []⟩,
                    ⟨none, (some 193), .ext (.t 187) 1, []⟩,
                    ⟨none, (some 23), .zero true (zs 12 (.int .u16 0)), []⟩,
                    ⟨none, (some 23), .stV 23 none 12 (.t 192), []⟩,
                    ⟨none, (some 24), .mov (.t 193), []⟩])
                  (.seq
                   (.reg [25, 26] [
                     ⟨none, (some 195), .ldV 23 none 12 true, []⟩,
                     ⟨none, (some 196), .mov (.t 21), []⟩,
                     ⟨none, (some 197), .un .neg (.t 196), []⟩,
                     ⟨none, (some 198), .mov (.t 22), []⟩,
                     ⟨none, (some 199), .un .neg (.t 198), []⟩,
                     ⟨none, (some 200), .call true 150 [.t 195, .t 197, .t 199], []⟩,
                     ⟨none, (some 194), .mov (.t 200), []⟩,
                     ⟨none, (some 201), .ext (.t 194) 0, []⟩,
                     ⟨none, (some 202), .ext (.t 194) 1, []⟩,
                     ⟨none, (some 25), .zero true (zs 12 (.int .u16 0)), []⟩,
                     ⟨none, (some 25), .stV 25 none 12 (.t 201), []⟩,
                     ⟨none, (some 26), .mov (.t 202), []⟩])
                   (.seq
                    (.reg [27, 28, 29] [
                      ⟨none, (some 204), .ldV 5 none 12 true, []⟩,
                      ⟨none, (some 205), .ldV 23 none 12 true, []⟩,
                      ⟨none, (some 206), .mov (.t 8), []⟩,
                      ⟨none, (some 207), .call true 148 [.t 204, .t 205, .t 206], []⟩,
                      ⟨none, (some 203), .mov (.t 207), []⟩,
                      ⟨none, (some 208), .ext (.t 203) 0, []⟩,
                      ⟨none, (some 209), .ext (.t 203) 1, []⟩,
                      ⟨none, (some 210), .ext (.t 203) 2, []⟩,
                      ⟨none, (some 27), .zero true [.int .i8 0, .int .i8 0], []⟩,
                      ⟨none, (some 27), .stV 27 none 2 (.t 208), []⟩,
                      ⟨none, (some 28), .mov (.t 209), []⟩,
                      ⟨none, (some 29), .mov (.t 210), []⟩])
                    (.seq
                     (.reg [30, 31, 32] [
                       ⟨none, (some 212), .ldV 5 none 12 true, []⟩,
                       ⟨none, (some 213), .mov (.t 1), []⟩,
                       ⟨none, (some 30), .zero true [.int .i8 0, .int .i8 0], []⟩,
                       ⟨none, (some 214), .call true 147 [.t 213], []⟩,
                       ⟨none, (some 215), .call true 148 [.t 212, .t 214, .c (.int .i64 0)], []⟩,
                       ⟨none, (some 211), .mov (.t 215), []⟩,
                       ⟨none, (some 216), .ext (.t 211) 0, []⟩,
                       ⟨none, (some 217), .ext (.t 211) 1, []⟩,
                       ⟨none, (some 218), .ext (.t 211) 2, []⟩,
                       ⟨none, (some 30), .stV 30 none 2 (.t 216), []⟩,
                       ⟨none, (some 31), .mov (.t 217), []⟩,
                       ⟨none, (some 32), .mov (.t 218), []⟩])
                     (.seq
                      (.seq
                       (.reg [241] [
                         ⟨none, (some 219), .mov (.t 24), []⟩,
                         ⟨none, (some 220), .bin .neq (.t 219) (.c (.int .i64 0)), []⟩,
                         ⟨none, (some 221), .mov (.t 220), []⟩,
                         ⟨(some (221, false)), (some 222), .mov (.t 26), []⟩,
                         ⟨(some (221, false)), (some 223), .bin .neq (.t 222) (.c (.int .i64 0)), []⟩,
                         ⟨none, (some 224), .pick (.t 221) (.c (.bool true)) (.t 223), []⟩,
                         ⟨none, (some 225), .mov (.t 224), []⟩,
                         ⟨(some (225, false)), (some 226), .mov (.t 29), []⟩,
                         ⟨(some (225, false)), (some 227), .bin .neq (.t 226) (.c (.int .i64 0)), []⟩,
                         ⟨none, (some 228), .pick (.t 225) (.c (.bool true)) (.t 227), []⟩,
                         ⟨none, (some 229), .mov (.t 228), []⟩,
                         ⟨(some (229, false)), (some 230), .mov (.t 28), []⟩,
                         ⟨(some (229, false)), (some 231), .bin .neq (.t 230) (.c (.int .i64 0)), []⟩,
                         ⟨none, (some 232), .pick (.t 229) (.c (.bool true)) (.t 231), []⟩,
                         ⟨none, (some 233), .mov (.t 232), []⟩,
                         ⟨(some (233, false)), (some 234), .mov (.t 32), []⟩,
                         ⟨(some (233, false)), (some 235), .bin .neq (.t 234) (.c (.int .i64 0)), []⟩,
                         ⟨none, (some 236), .pick (.t 233) (.c (.bool true)) (.t 235), []⟩,
                         ⟨none, (some 237), .mov (.t 236), []⟩,
                         ⟨(some (237, false)), (some 238), .mov (.t 31), []⟩,
                         ⟨(some (237, false)), (some 239), .mov (.t 19), []⟩,
                         ⟨(some (237, false)), (some 240), .bin .neq (.t 238) (.t 239), []⟩,
                         ⟨none, (some 241), .pick (.t 237) (.c (.bool true)) (.t 240), []⟩])
                       (.cond (.t 241)
                        (.seq
                         (.reg [4] [
                           ⟨none, (some 4), .mov (.c (.bool false)), []⟩])
                         .ret)
                        .skip))
                      (.seq
                       (.reg [33, 34] [
                         ⟨none, (some 243), .mov (.t 7), []⟩,
                         ⟨none, (some 244), .mov (.t 8), []⟩,
                         ⟨none, (some 245), .call true 151 [.t 243, .t 244], []⟩,
                         ⟨none, (some 242), .mov (.t 245), []⟩,
                         ⟨none, (some 246), .ext (.t 242) 0, []⟩,
                         ⟨none, (some 247), .ext (.t 242) 1, []⟩,
                         ⟨none, (some 33), .mov (.t 246), []⟩,
                         ⟨none, (some 34), .mov (.t 247), []⟩])
                       (.seq
                        (.reg [35, 36] [
                          ⟨none, (some 249), .mov (.t 7), []⟩,
                          ⟨none, (some 250), .mov (.t 8), []⟩,
                          ⟨none, (some 251), .call true 152 [.t 249, .t 250], []⟩,
                          ⟨none, (some 248), .mov (.t 251), []⟩,
                          ⟨none, (some 252), .ext (.t 248) 0, []⟩,
                          ⟨none, (some 253), .ext (.t 248) 1, []⟩,
                          ⟨none, (some 35), .mov (.t 252), []⟩,
                          ⟨none, (some 36), .mov (.t 253), []⟩])
                        (.seq
                         (.reg [37, 38] [
                           ⟨none, (some 255), .mov (.t 35), []⟩,
                           ⟨none, (some 256), .call true 154 [.t 255], []⟩,
                           ⟨none, (some 257), .call true 153 [.t 256], []⟩,
                           ⟨none, (some 254), .mov (.t 257), []⟩,
                           ⟨none, (some 258), .ext (.t 254) 0, []⟩,
                           ⟨none, (some 259), .ext (.t 254) 1, []⟩,
                           ⟨none, (some 37), .mov (.t 258), []⟩,
                           ⟨none, (some 38), .mov (.t 259), []⟩])
                         (.seq
                          (.reg [39, 40, 41] [
                            ⟨none, (some 261), .mov (.t 35), []⟩,
                            ⟨none, (some 262), .call true 71 [.t 261], []⟩,
                            ⟨none, (some 260), .mov (.t 262), []⟩,
                            ⟨none, (some 263), .ext (.t 260) 0, []⟩,
                            ⟨none, (some 264), .ext (.t 260) 1, []⟩,
                            ⟨none, (some 265), .ext (.t 260) 2, []⟩,
                            ⟨none, (some 39), .mov (.t 263), []⟩,
                            ⟨none, (some 40), .mov (.t 264), []⟩,
                            ⟨none, (some 41), .mov (.t 265), []⟩])
                          (.seq
                           (.reg [42, 43] [
                             ⟨none, (some 267), .mov (.t 7), []⟩,
                             ⟨none, (some 268), .mov (.t 8), []⟩,
                             ⟨none, (some 269), .call true 155 [.t 267, .t 268], []⟩,
                             ⟨none, (some 266), .mov (.t 269), []⟩,
                             ⟨none, (some 270), .ext (.t 266) 0, []⟩,
                             ⟨none, (some 271), .ext (.t 266) 1, []⟩,
                             ⟨none, (some 42), .mov (.t 270), []⟩,
                             ⟨none, (some 43), .mov (.t 271), []⟩])
                           (.seq
                            (.reg [44, 45] [
                              ⟨none, (some 273), .mov (.t 7), []⟩,
                              ⟨none, (some 274), .mov (.t 8), []⟩,
                              ⟨none, (some 275), .call true 156 [.t 273, .t 274], []⟩,
                              ⟨none, (some 272), .mov (.t 275), []⟩,
                              ⟨none, (some 276), .ext (.t 272) 0, []⟩,
                              ⟨none, (some 277), .ext (.t 272) 1, []⟩,
                              ⟨none, (some 44), .mov (.t 276), []⟩,
                              ⟨none, (some 45), .mov (.t 277), []⟩])
                            (.seq
                             (.seq
                              (.reg [335] [
                                ⟨none, (some 278), .mov (.t 34), []⟩,
                                ⟨none, (some 279), .mov (.t 36), []⟩,
                                ⟨none, (some 280), .bin .neq (.t 278) (.t 279), []⟩,
                                ⟨none, (some 281), .mov (.t 280), []⟩,
                                ⟨(some (281, false)), (some 282), .mov (.t 34), []⟩,
                                ⟨(some (281, false)), (some 283), .bin .neq (.t 282) (.c (.int .i64 0)), []⟩,
                                ⟨none, (some 284), .pick (.t 281) (.c (.bool true)) (.t 283), []⟩,
                                ⟨none, (some 285), .mov (.t 284), []⟩,
                                ⟨(some (285, false)), (some 286), .mov (.t 33), []⟩,
                                ⟨(some (285, false)), (some 287), .mov (.t 35), []⟩,
                                ⟨(some (285, false)), (some 288), .call true 131 [.t 286, .t 287], []⟩,
                                ⟨(some (285, false)), (some 289), .un .not (.t 288), []⟩,
                                ⟨none, (some 290), .pick (.t 285) (.c (.bool true)) (.t 289), []⟩,
                                ⟨none, (some 291), .mov (.t 290), []⟩,
                                ⟨(some (291, false)), (some 292), .mov (.t 35), []⟩,
                                ⟨(some (291, false)), (some 293), .len (.t 292), []⟩,
                                ⟨(some (291, false)), (some 294), .mov (.t 7), []⟩,
                                ⟨(some (291, false)), (some 295), .len (.t 294), []⟩,
                                ⟨(some (291, false)), (some 296), .bin .sub (.t 295) (.c (.int .i64 1)), []⟩,
                                ⟨(some (291, false)), (some 297), .mx (.c (.int .i64 0)) (.t 296), []⟩,
                                ⟨(some (291, false)), (some 298), .bin .neq (.t 293) (.t 297), []⟩,
                                ⟨none, (some 299), .pick (.t 291) (.c (.bool true)) (.t 298), []⟩,
                                ⟨none, (some 300), .mov (.t 299), []⟩,
                                ⟨(some (300, false)), (some 301), .mov (.t 38), []⟩,
                                ⟨(some (300, false)), (some 302), .bin .neq (.t 301) (.c (.int .i64 0)), []⟩,
                                ⟨none, (some 303), .pick (.t 300) (.c (.bool true)) (.t 302), []⟩,
                                ⟨none, (some 304), .mov (.t 303), []⟩,
                                ⟨(some (304, false)), (some 305), .mov (.t 37), []⟩,
                                ⟨(some (304, false)), (some 306), .mov (.t 35), []⟩,
                                ⟨(some (304, false)), (some 307), .call true 131 [.t 305, .t 306], []⟩,
                                ⟨(some (304, false)), (some 308), .un .not (.t 307), []⟩,
                                ⟨none, (some 309), .pick (.t 304) (.c (.bool true)) (.t 308), []⟩,
                                ⟨none, (some 310), .mov (.t 309), []⟩,
                                ⟨(some (310, false)), (some 311), .mov (.t 41), []⟩,
                                ⟨(some (310, false)), (some 312), .bin .neq (.t 311) (.c (.int .i64 0)), []⟩,
                                ⟨none, (some 313), .pick (.t 310) (.c (.bool true)) (.t 312), []⟩,
                                ⟨none, (some 314), .mov (.t 313), []⟩,
                                ⟨(some (314, false)), (some 315), .mov (.t 43), []⟩,
                                ⟨(some (314, false)), (some 316), .mov (.t 45), []⟩,
                                ⟨(some (314, false)), (some 317), .bin .neq (.t 315) (.t 316), []⟩,
                                ⟨none, (some 318), .pick (.t 314) (.c (.bool true)) (.t 317), []⟩,
                                ⟨none, (some 319), .mov (.t 318), []⟩,
                                ⟨(some (319, false)), (some 320), .mov (.t 43), []⟩,
                                ⟨(some (319, false)), (some 321), .bin .neq (.t 320) (.c (.int .i64 0)), []⟩,
                                ⟨none, (some 322), .pick (.t 319) (.c (.bool true)) (.t 321), []⟩,
                                ⟨none, (some 323), .mov (.t 322), []⟩,
                                ⟨(some (323, false)), (some 324), .mov (.t 42), []⟩,
                                ⟨(some (323, false)), (some 325), .mov (.t 44), []⟩,
                                ⟨(some (323, false)), (some 326), .call true 91 [.t 324, .t 325], []⟩,
                                ⟨(some (323, false)), (some 327), .un .not (.t 326), []⟩,
                                ⟨none, (some 328), .pick (.t 323) (.c (.bool true)) (.t 327), []⟩,
                                ⟨none, (some 329), .mov (.t 328), []⟩,
                                ⟨(some (329, false)), (some 330), .mov (.t 44), []⟩,
                                ⟨(some (329, false)), (some 331), .len (.t 330), []⟩,
                                ⟨(some (329, false)), (some 332), .mov (.t 7), []⟩,
                                ⟨(some (329, false)), (some 333), .len (.t 332), []⟩,
                                ⟨(some (329, false)), (some 334), .bin .neq (.t 331) (.t 333), []⟩,
                                ⟨none, (some 335), .pick (.t 329) (.c (.bool true)) (.t 334), []⟩])
                              (.cond (.t 335)
                               (.seq
                                (.reg [4] [
                                  ⟨none, (some 4), .mov (.c (.bool false)), []⟩])
                                .ret)
                               .skip))
                             (.seq
                              (.reg [46] [
                                ⟨none, (some 46), .mov (.c (.int .i64 0)), []⟩])
                              (.seq
                               (.reg [47] [
                                 ⟨none, (some 47), .mov (.c (.int .i64 0)), []⟩])
                               (.seq
                                (.seq
                                 (.reg [48] [
                                   ⟨none, (some 48), .mov (.c (.int .i64 0)), []⟩])
                                 (.block 0
                                  (.loop b24_1)))
                                (.seq
                                 (.seq
                                  (.reg [398] [
                                    ⟨none, (some 377), .mov (.t 46), []⟩,
                                    ⟨none, (some 378), .mov (.t 39), []⟩,
                                    ⟨none, (some 379), .bin .neq (.t 377) (.t 378), []⟩,
                                    ⟨none, (some 380), .mov (.t 379), []⟩,
                                    ⟨(some (380, false)), (some 381), .mov (.t 47), []⟩,
                                    ⟨(some (380, false)), (some 382), .mov (.t 40), []⟩,
                                    ⟨(some (380, false)), (some 383), .bin .neq (.t 381) (.t 382), []⟩,
                                    ⟨none, (some 384), .pick (.t 380) (.c (.bool true)) (.t 383), []⟩,
                                    ⟨none, (some 385), .mov (.t 384), []⟩,
                                    ⟨(some (385, false)), (some 386), .mov (.t 7), []⟩,
                                    ⟨(some (385, false)), (some 387), .len (.t 386), []⟩,
                                    ⟨(some (385, false)), (some 388), .bin .gtr (.t 387) (.c (.int .i64 0)), []⟩,
                                    ⟨(some (385, false)), (some 389), .mov (.t 388), []⟩,
                                    ⟨(some (389, true)), (some 390), .mov (.t 44), []⟩,
                                    ⟨(some (389, true)), (some 391), .idxA 12 (.t 390) (.c (.int .i64 0)), []⟩,
                                    ⟨(some (389, true)), (some 392), .ld 12 true (.t 391), []⟩,
                                    ⟨(some (389, true)), (some 393), .mov (.t 7), []⟩,
                                    ⟨(some (389, true)), (some 394), .idxA 12 (.t 393) (.c (.int .i64 0)), []⟩,
                                    ⟨(some (389, true)), (some 395), .ld 12 true (.t 394), []⟩,
                                    ⟨(some (389, true)), (some 396), .eq (.a (rb 12 (some .u16))) true (.t 392) (.t 395), []⟩,
                                    ⟨(some (385, false)), (some 397), .pick (.t 389) (.t 396) (.c (.bool false)), []⟩,
                                    ⟨none, (some 398), .pick (.t 385) (.c (.bool true)) (.t 397), []⟩])
                                  (.cond (.t 398)
                                   (.seq
                                    (.reg [4] [
                                      ⟨none, (some 4), .mov (.c (.bool false)), []⟩])
                                    .ret)
                                   .skip))
                                 (.seq
                                  (.reg [52, 53] [
                                    ⟨none, (some 400), .ldV 5 none 12 true, []⟩,
                                    ⟨none, (some 401), .ldV 23 none 12 true, []⟩,
                                    ⟨none, (some 402), .bldS 12 2 (zs 12 (.int .u16 0)) [(0, 12, (.t 400)), (12, 12, (.t 401))], []⟩,
                                    ⟨none, (some 403), .mov (.t 8), []⟩,
                                    ⟨none, (some 404), .call true 155 [.t 402, .t 403], []⟩,
                                    ⟨none, (some 399), .mov (.t 404), []⟩,
                                    ⟨none, (some 405), .ext (.t 399) 0, []⟩,
                                    ⟨none, (some 406), .ext (.t 399) 1, []⟩,
                                    ⟨none, (some 52), .mov (.t 405), []⟩,
                                    ⟨none, (some 53), .mov (.t 406), []⟩])
                                  (.seq
                                   (.reg [54, 56] [
                                     ⟨none, (some 408), .ldV 5 none 12 true, []⟩,
                                     ⟨none, (some 409), .ldV 23 none 12 true, []⟩,
                                     ⟨none, (some 410), .mov (.t 8), []⟩,
                                     ⟨none, (some 411), .call true 149 [.t 408, .t 409, .t 410], []⟩,
                                     ⟨none, (some 407), .mov (.t 411), []⟩,
                                     ⟨none, (some 412), .ext (.t 407) 0, []⟩,
                                     ⟨none, (some 413), .ext (.t 407) 1, []⟩,
                                     ⟨none, (some 414), .ext (.t 407) 2, []⟩,
                                     ⟨none, (some 54), .zero true [.int .i8 0, .int .i8 0], []⟩,
                                     ⟨none, (some 54), .stV 54 none 2 (.t 412), []⟩,
                                     ⟨none, (some 55), .mov (.t 413), []⟩,
                                     ⟨none, (some 56), .mov (.t 414), []⟩])
                                   (.seq
                                    (.seq
                                     (.reg [425] [
                                       ⟨none, (some 415), .mov (.t 53), []⟩,
                                       ⟨none, (some 416), .bin .neq (.t 415) (.c (.int .i64 0)), []⟩,
                                       ⟨none, (some 417), .mov (.t 416), []⟩,
                                       ⟨(some (417, false)), (some 418), .mov (.t 56), []⟩,
                                       ⟨(some (417, false)), (some 419), .bin .neq (.t 418) (.c (.int .i64 0)), []⟩,
                                       ⟨none, (some 420), .pick (.t 417) (.c (.bool true)) (.t 419), []⟩,
                                       ⟨none, (some 421), .mov (.t 420), []⟩,
                                       ⟨(some (421, false)), (some 422), .mov (.t 52), []⟩,
                                       ⟨(some (421, false)), (some 423), .len (.t 422), []⟩,
                                       ⟨(some (421, false)), (some 424), .bin .neq (.t 423) (.c (.int .i64 2)), []⟩,
                                       ⟨none, (some 425), .pick (.t 421) (.c (.bool true)) (.t 424), []⟩])
                                     (.cond (.t 425)
                                      (.seq
                                       (.reg [4] [
                                         ⟨none, (some 4), .mov (.c (.bool false)), []⟩])
                                       .ret)
                                      .skip))
                                    (.seq
                                     (.reg [4] [
                                       ⟨none, (some 426), .ldV 25 none 12 true, []⟩,
                                       ⟨none, (some 427), .ldV 5 none 12 true, []⟩,
                                       ⟨none, (some 428), .eq (.a (rb 12 (some .u16))) true (.t 426) (.t 427), []⟩,
                                       ⟨none, (some 429), .mov (.t 428), []⟩,
                                       ⟨(some (429, false)), (some 430), .adrF 54 none 0, []⟩,
                                       ⟨(some (429, false)), (some 431), .ldV 54 (some 430) 1 false, []⟩,
                                       ⟨(some (429, false)), (some 432), .conv .i64 (.t 431), []⟩,
                                       ⟨(some (429, false)), (some 433), .mov (.t 21), []⟩,
                                       ⟨(some (429, false)), (some 434), .bin .neq (.t 432) (.t 433), []⟩,
                                       ⟨none, (some 435), .pick (.t 429) (.c (.bool true)) (.t 434), []⟩,
                                       ⟨none, (some 436), .mov (.t 435), []⟩,
                                       ⟨(some (436, false)), (some 437), .adrF 54 none 1, []⟩,
                                       ⟨(some (436, false)), (some 438), .ldV 54 (some 437) 1 false, []⟩,
                                       ⟨(some (436, false)), (some 439), .conv .i64 (.t 438), []⟩,
                                       ⟨(some (436, false)), (some 440), .mov (.t 22), []⟩,
                                       ⟨(some (436, false)), (some 441), .bin .neq (.t 439) (.t 440), []⟩,
                                       ⟨none, (some 442), .pick (.t 436) (.c (.bool true)) (.t 441), []⟩,
                                       ⟨none, (some 443), .mov (.t 442), []⟩,
                                       ⟨(some (443, false)), (some 444), .mov (.t 52), []⟩,
                                       ⟨(some (443, false)), (some 445), .idxA 12 (.t 444) (.c (.int .i64 1)), []⟩,
                                       ⟨(some (443, false)), (some 446), .ld 12 true (.t 445), []⟩,
                                       ⟨(some (443, false)), (some 447), .ldV 5 none 12 true, []⟩,
                                       ⟨(some (443, false)), (some 448), .eq (.a (rb 12 (some .u16))) false (.t 446) (.t 447), []⟩,
                                       ⟨none, (some 449), .pick (.t 443) (.c (.bool true)) (.t 448), []⟩,
                                       ⟨none, (some 4), .mov (.t 449), []⟩])
                                     .ret)))))))))))))))))))))))))))))))))))
def c24 : Fn := { np := 2, nt := 450, kind := .pure, res := [.t 4], body := k24 }

/- impl.SumOfMoves -/
def b71_1 : Cd :=
  (.seq
   (.reg [12] [
     ⟨none, (some 12), .bin .lss (.t 11) (.t 10), []⟩])
   (.seq
    (.cond (.t 12)
     .skip
     (.exit 0))
    (.seq
     (.block 1
      (.seq
       (.reg [8] [
         ⟨none, (some 13), .idxA 2 (.t 9) (.t 11), []⟩,
         ⟨none, (some 14), .ld 2 true (.t 13), []⟩,
         ⟨none, (some 8), .zero true [.int .i8 0, .int .i8 0], []⟩,
         ⟨none, (some 8), .stV 8 none 2 (.t 14), []⟩])
       (.reg [5, 6] [
         ⟨none, (some 15), .mov (.t 5), []⟩,
         ⟨none, (some 16), .adrF 8 none 0, []⟩,
         ⟨none, (some 17), .ldV 8 (some 16) 1 false, []⟩,
         ⟨none, (some 18), .conv .i64 (.t 17), []⟩,
         ⟨none, (some 19), .bin .add (.t 15) (.t 18), []⟩,
         ⟨none, (some 20), .mov (.t 6), []⟩,
         ⟨none, (some 21), .adrF 8 none 1, []⟩,
         ⟨none, (some 22), .ldV 8 (some 21) 1 false, []⟩,
         ⟨none, (some 23), .conv .i64 (.t 22), []⟩,
         ⟨none, (some 24), .bin .add (.t 20) (.t 23), []⟩,
         ⟨none, (some 5), .mov (.t 19), []⟩,
         ⟨none, (some 6), .mov (.t 24), []⟩])))
     (.reg [11] [
       ⟨none, (some 25), .bin .add (.t 11) (.c (.int .i64 1)), []⟩,
       ⟨none, (some 11), .mov (.t 25), []⟩]))))
def k71 : Cd :=
  (.seq
   (.reg [2, 3, 4] [
     ⟨none, (some 2), .mov (.c (.int .i64 0)), []⟩,
     ⟨none, (some 3), .mov (.c (.int .i64 0)), []⟩,
     ⟨none, (some 4), .mov (.c (.int .i64 0)), []⟩])
   (.seq
    (.reg [5, 6] [
      ⟨none, (some 5), .mov (.c (.int .i64 0)), []⟩,
      ⟨none, (some 6), .mov (.c (.int .i64 0)), []⟩])
    (.seq
     (.seq
      (.reg [9, 10, 11] [
        ⟨none, (some 9), .mov (.t 0), []⟩,
        ⟨none, (some 10), .len (.t 9), []⟩,
        ⟨none, (some 11), .mov (.c (.int .i64 0)), []⟩])
      (.block 0
       (.loop b71_1)))
     (.seq
      (.reg [2, 3, 4] [
        ⟨none, (some 26), .mov (.t 5), []⟩,
        ⟨none, (some 27), .mov (.t 6), []⟩,
        ⟨none, (some 2), .mov (.t 26), []⟩,
        ⟨none, (some 3), .mov (.t 27), []⟩,
        ⟨none, (some 4), .mov (.c (.int .i64 0)), []⟩])
      .ret))))
def c71 : Fn := { np := 1, nt := 28, kind := .pure, res := [.t 2, .t 3, .t 4], body := k71 }

/- laws.a2Long -/
def k84 : Cd :=
  (.seq
   (.reg [4] [
     ⟨none, (some 4), .mov (.c (.bool false)), []⟩])
   (.seq
    (.reg [4] [
      ⟨none, (some 5), .mov (.t 0), []⟩,
      ⟨none, (some 6), .len (.t 5), []⟩,
      ⟨none, (some 7), .bin .gtr (.t 6) (.c (.int .i64 3000)), []⟩,
      ⟨none, (some 8), .mov (.t 7), []⟩,
      ⟨(some (8, false)), (some 9), .mov (.t 1), []⟩,
      ⟨(some (8, false)), (some 10), .len (.t 9), []⟩,
      ⟨(some (8, false)), (some 11), .bin .gtr (.t 10) (.c (.int .i64 3000)), []⟩,
      ⟨none, (some 12), .pick (.t 8) (.c (.bool true)) (.t 11), []⟩,
      ⟨none, (some 4), .mov (.t 12), []⟩])
    .ret))
def c84 : Fn := { np := 2, nt := 13, kind := .pure, res := [.t 4], body := k84 }

/- spec.A2Book -/
def k85 : Cd :=
  (.seq
   (.reg [2] [
     ⟨none, (some 2), .mov (.c (.slice none 0 0)), []⟩])
   (.seq
    (.reg [2] [
      ⟨none, (some 3), .mov (.t 0), []⟩,
      ⟨none, (some 4), .call true 315 [.t 3], []⟩,
      ⟨none, (some 5), .call false 314 [.t 4, .c (.int .i64 7)], []⟩,
      ⟨none, (some 2), .mov (.t 5), []⟩])
    .ret))
def c85 : Fn := { np := 1, nt := 6, kind := .pure, res := [.t 2], body := k85 }

/- spec.SameBook -/
def k91 : Cd :=
  (.seq
   (.reg [4] [
     ⟨none, (some 4), .mov (.c (.bool false)), []⟩])
   (.seq
    (.reg [4] [
      ⟨none, (some 5), .mov (.t 0), []⟩,
      ⟨none, (some 6), .mov (.t 1), []⟩,
      ⟨none, (some 7), .call true 323 [.t 5, .t 6], []⟩,
      ⟨none, (some 4), .mov (.t 7), []⟩])
    .ret))
def c91 : Fn := { np := 2, nt := 8, kind := .pure, res := [.t 4], body := k91 }

/- laws.a2At -/
def k124 : Cd :=
  (.seq
   (.reg [6] [
     ⟨none, (some 6), .mov (.c (.int .i64 0)), []⟩])
   (.seq
    (.seq
     (.reg [14] [
       ⟨none, (some 7), .mov (.t 1), []⟩,
       ⟨none, (some 8), .mov (.t 0), []⟩,
       ⟨none, (some 9), .len (.t 8), []⟩,
       ⟨none, (some 10), .bin .geq (.t 7) (.t 9), []⟩,
       ⟨none, (some 11), .mov (.t 10), []⟩,
       ⟨(some (11, false)), (some 12), .mov (.t 2), []⟩,
       ⟨(some (11, false)), (some 13), .bin .lss (.t 12) (.c (.int .i64 1)), []⟩,
       ⟨none, (some 14), .pick (.t 11) (.c (.bool true)) (.t 13), []⟩])
     (.cond (.t 14)
      (.seq
       (.reg [6] [
         ⟨none, (some 6), .mov (.c (.int .i64 0)), []⟩])
       .ret)
      .skip))
    (.seq
     (.reg [6] [
       ⟨none, (some 15), .mov (.t 0), []⟩,
       ⟨none, (some 16), .mov (.t 1), []⟩,
       ⟨none, (some 17), .idxA 1 (.t 15) (.t 16), []⟩,
       ⟨none, (some 18), .ld 1 false (.t 17), []⟩,
       ⟨none, (some 19), .conv .i64 (.t 18), []⟩,
       ⟨none, (some 20), .mov (.t 2), []⟩,
       ⟨none, (some 21), .bin .rem (.t 19) (.t 20), []⟩,
       ⟨none, (some 6), .mov (.t 21), []⟩])
     .ret)))
def c124 : Fn := { np := 3, nt := 22, kind := .pure, res := [.t 6], body := k124 }

/- impl.DifferBy -/
def k125 : Cd :=
  (.seq
   (.reg [2, 3, 4, 5] [
     ⟨none, (some 2), .mov (.t 0), []⟩,
     ⟨none, (some 3), .mov (.t 1), []⟩,
     ⟨none, (some 4), .mov (.c (.int .i64 0)), []⟩,
     ⟨none, (some 5), .mov (.c (.int .i64 0)), []⟩])
   (.seq
    (.seq
     (.reg [10] [
       ⟨none, (some 6), .ldV 2 none 12 true, []⟩,
       ⟨none, (some 7), .ldV 3 none 12 true, []⟩,
       ⟨none, (some 8), .bldS 12 2 (zs 12 (.int .u16 0)) [(0, 12, (.t 6)), (12, 12, (.t 7))], []⟩,
       ⟨none, (some 9), .call true 351 [.t 8], []⟩,
       ⟨none, (some 10), .un .not (.t 9), []⟩])
     (.cond (.t 10)
      (.seq
       (.reg [4, 5] [
         ⟨none, (some 4), .mov (.c (.int .i64 0)), []⟩,
         ⟨none, (some 5), .mov (.c (.int .i64 1)), []⟩])
       .ret)
      .skip))
    (.seq
     (.reg [4, 5] [
       ⟨none, (some 11), .ldV 2 none 12 true, []⟩,
       ⟨none, (some 12), .ldV 3 none 12 true, []⟩,
       ⟨none, (some 13), .call true 324 [.t 11, .t 12], []⟩,
       ⟨none, (some 4), .mov (.t 13), []⟩,
       ⟨none, (some 5), .mov (.c (.int .i64 0)), []⟩])
     .ret)))
def c125 : Fn := { np := 2, nt := 14, kind := .pure, res := [.t 4, .t 5], body := k125 }

/- spec.A2SameMoves -/
def b131_1 : Cd :=
  (.seq
   (.seq
    (.reg [14] [
      ⟨none, (some 11), .mov (.t 5), []⟩,
      ⟨none, (some 12), .mov (.t 0), []⟩,
      ⟨none, (some 13), .len (.t 12), []⟩,
      ⟨none, (some 14), .bin .lss (.t 11) (.t 13), []⟩])
    (.cond (.t 14)
     .skip
     (.exit 0)))
   (.seq
    (.block 1
     (.seq
      (.reg [25] [
        ⟨none, (some 17), .mov (.t 0), []⟩,
        ⟨none, (some 18), .mov (.t 5), []⟩,
        ⟨none, (some 19), .idxA 2 (.t 17) (.t 18), []⟩,
        ⟨none, (some 20), .ld 2 true (.t 19), []⟩,
        ⟨none, (some 21), .mov (.t 1), []⟩,
        ⟨none, (some 22), .mov (.t 5), []⟩,
        ⟨none, (some 23), .idxA 2 (.t 21) (.t 22), []⟩,
        ⟨none, (some 24), .ld 2 true (.t 23), []⟩,
        ⟨none, (some 25), .eq (.a (rb 2 (some .i8))) true (.t 20) (.t 24), []⟩])
      (.cond (.t 25)
       (.seq
        (.reg [4] [
          ⟨none, (some 4), .mov (.c (.bool false)), []⟩])
        .ret)
       .skip)))
    (.reg [5] [
      ⟨none, (some 15), .mov (.t 5), []⟩,
      ⟨none, (some 16), .bin .add (.t 15) (.c (.int .i64 1)), []⟩,
      ⟨none, (some 5), .mov (.t 16), []⟩])))
def k131 : Cd :=
  (.seq
   (.reg [4] [
     ⟨none, (some 4), .mov (.c (.bool false)), []⟩])
   (.seq
    (.seq
     (.reg [10] [
       ⟨none, (some 6), .mov (.t 0), []⟩,
       ⟨none, (some 7), .len (.t 6), []⟩,
       ⟨none, (some 8), .mov (.t 1), []⟩,
       ⟨none, (some 9), .len (.t 8), []⟩,
       ⟨none, (some 10), .bin .neq (.t 7) (.t 9), []⟩])
     (.cond (.t 10)
      (.seq
       (.reg [4] [
         ⟨none, (some 4), .mov (.c (.bool false)), []⟩])
       .ret)
      .skip))
    (.seq
     (.seq
      (.reg [5] [
        ⟨none, (some 5), .mov (.c (.int .i64 0)), []⟩])
      (.block 0
       (.loop b131_1)))
     (.seq
      (.reg [4] [
        ⟨none, (some 4), .mov (.c (.bool true)), []⟩])
      .ret))))
def c131 : Fn := { np := 2, nt := 26, kind := .pure, res := [.t 4], body := k131 }

/- impl.MoveFrame -/
def k132 : Cd :=
  (.seq
   (.reg [3, 6, 7] [
     ⟨none, (some 3), .mov (.t 0), []⟩,
     ⟨none, (some 6), .zero true (zs 12 (.int .u16 0)), []⟩,
     ⟨none, (some 7), .mov (.c (.int .i64 0)), []⟩])
   (.seq
    (.seq
     (.reg [8] [
       ⟨none, (some 9), .ldV 3 none 12 true, []⟩,
       ⟨none, (some 10), .mov (.t 1), []⟩,
       ⟨none, (some 11), .mov (.t 2), []⟩,
       ⟨none, (some 12), .call true 357 [.t 9, .t 10, .t 11], []⟩,
       ⟨none, (some 8), .mov (.t 12), []⟩])
     (.seq
      (.reg [14] [
        ⟨none, (some 13), .mov (.t 8), []⟩,
        ⟨none, (some 14), .bin .neq (.t 13) (.c (.int .i64 0)), []⟩])
      (.cond (.t 14)
       (.seq
        (.reg [6, 7] [
          ⟨none, (some 15), .agg (zs 12 (.int .u16 0)) [], []⟩,
          ⟨none, (some 16), .mov (.t 8), []⟩,
          ⟨none, (some 6), .stV 6 none 12 (.t 15), []⟩,
          ⟨none, (some 7), .mov (.t 16), []⟩])
        .ret)
       .skip)))
    (.seq
     (.reg [6, 7] [
       ⟨none, (some 17), .ldV 3 none 12 true, []⟩,
       ⟨none, (some 18), .mov (.t 1), []⟩,
       ⟨none, (some 19), .mov (.t 2), []⟩,
       ⟨none, (some 20), .call true 358 [.t 17, .t 18, .t 19], []⟩,
       ⟨none, (some 6), .stV 6 none 12 (.t 20), []⟩,
       ⟨none, (some 7), .mov (.c (.int .i64 0)), []⟩])
     .ret)))
def c132 : Fn := { np := 3, nt := 21, kind := .pure, res := [.v 6 12 true, .t 7], body := k132 }

/- spec.A2Frame -/
def k147 : Cd :=
  (.seq
   (.reg [2] [
     ⟨none, (some 2), .zero true (zs 12 (.int .u16 0)), []⟩])
   (.seq
    (.reg [2] [
      ⟨none, (some 3), .mov (.t 0), []⟩,
      ⟨none, (some 4), .call true 315 [.t 3], []⟩,
      ⟨none, (some 5), .call false 368 [.t 4], []⟩,
      ⟨none, (some 2), .stV 2 none 12 (.t 5), []⟩])
    .ret))
def c147 : Fn := { np := 1, nt := 6, kind := .pure, res := [.v 2 12 true], body := k147 }

/- impl.BestMove -/
def k148 : Cd :=
  (.seq
   (.reg [3, 4, 6, 7, 8] [
     ⟨none, (some 3), .mov (.t 0), []⟩,
     ⟨none, (some 4), .mov (.t 1), []⟩,
     ⟨none, (some 6), .zero true [.int .i8 0, .int .i8 0], []⟩,
     ⟨none, (some 7), .mov (.c (.int .i64 0)), []⟩,
     ⟨none, (some 8), .mov (.c (.int .i64 0)), []⟩])
   (.seq
    (.block 0
     (.seq
      (.reg [11] [
        ⟨none, (some 12), .ldV 3 none 12 true, []⟩,
        ⟨none, (some 13), .ldV 4 none 12 true, []⟩,
        ⟨none, (some 14), .bldS 12 2 (zs 12 (.int .u16 0)) [(0, 12, (.t 12)), (12, 12, (.t 13))], []⟩,
        ⟨none, (some 15), .call true 351 [.t 14], []⟩,
        ⟨none, (some 16), .un .not (.t 15), []⟩,
        ⟨none, (some 11), .mov (.t 16), []⟩])
      (.cond (.t 11)
       (.seq
        (.reg [6, 7, 8] [
          ⟨none, (some 17), .agg [.int .i8 0, .int .i8 0] [], []⟩,
          ⟨none, (some 6), .stV 6 none 2 (.t 17), []⟩,
          ⟨none, (some 7), .mov (.c (.int .i64 0)), []⟩,
          ⟨none, (some 8), .mov (.c (.int .i64 1)), []⟩])
        .ret)
       (.seq
        (.reg [18] [
          ⟨none, (some 19), .mov (.t 2), []⟩,
          ⟨none, (some 20), .call true 369 [.t 19], []⟩,
          ⟨none, (some 21), .un .not (.t 20), []⟩,
          ⟨none, (some 18), .mov (.t 21), []⟩])
        (.cond (.t 18)
         (.seq
          (.reg [6, 7, 8] [
            ⟨none, (some 22), .agg [.int .i8 0, .int .i8 0] [], []⟩,
            ⟨none, (some 6), .stV 6 none 2 (.t 22), []⟩,
            ⟨none, (some 7), .mov (.c (.int .i64 0)), []⟩,
            ⟨none, (some 8), .mov (.c (.int .i64 2)), []⟩])
          .ret)
         .skip)))))
    (.seq
     (.reg [9, 10] [
       ⟨none, (some 24), .ldV 3 none 12 true, []⟩,
       ⟨none, (some 25), .ldV 4 none 12 true, []⟩,
       ⟨none, (some 26), .mov (.t 2), []⟩,
       ⟨none, (some 9), .zero true [.int .i8 0, .int .i8 0], []⟩,
       ⟨none, (some 27), .call true 371 [.t 26], []⟩,
       ⟨none, (some 28), .call true 370 [.t 24, .t 25, .t 27], []⟩,
       ⟨none, (some 23), .mov (.t 28), []⟩,
       ⟨none, (some 29), .ext (.t 23) 0, []⟩,
       ⟨none, (some 30), .ext (.t 23) 1, []⟩,
       ⟨none, (some 9), .stV 9 none 2 (.t 29), []⟩,
       ⟨none, (some 10), .mov (.t 30), []⟩])
     (.seq
      (.reg [6, 7, 8] [
        ⟨none, (some 31), .ldV 9 none 2 true, []⟩,
        ⟨none, (some 32), .mov (.t 10), []⟩,
        ⟨none, (some 6), .stV 6 none 2 (.t 31), []⟩,
        ⟨none, (some 7), .mov (.t 32), []⟩,
        ⟨none, (some 8), .mov (.c (.int .i64 0)), []⟩])
      .ret))))
def c148 : Fn := { np := 3, nt := 33, kind := .pure, res := [.v 6 2 true, .t 7, .t 8], body := k148 }

/- spec.BestMove -/
def k149 : Cd :=
  (.seq
   (.reg [3, 4, 6, 7, 8] [
     ⟨none, (some 3), .box 12 (.t 0), []⟩,
     ⟨none, (some 4), .box 12 (.t 1), []⟩,
     ⟨none, (some 6), .zero true [.int .i8 0, .int .i8 0], []⟩,
     ⟨none, (some 7), .mov (.c (.int .i64 0)), []⟩,
     ⟨none, (some 8), .mov (.c (.int .i64 0)), []⟩])
   (.seq
    (.seq
     (.reg [9] [
       ⟨none, (some 12), .call true 327 [.t 3, .t 4], []⟩,
       ⟨none, (some 9), .mov (.t 12), []⟩])
     (.seq
      (.reg [14] [
        ⟨none, (some 13), .mov (.t 9), []⟩,
        ⟨none, (some 14), .bin .neq (.t 13) (.c (.int .i64 0)), []⟩])
      (.cond (.t 14)
       (.seq
        (.reg [6, 7, 8] [
          ⟨none, (some 15), .agg [.int .i8 0, .int .i8 0] [], []⟩,
          ⟨none, (some 16), .mov (.t 9), []⟩,
          ⟨none, (some 6), .stV 6 none 2 (.t 15), []⟩,
          ⟨none, (some 7), .mov (.c (.int .i64 0)), []⟩,
          ⟨none, (some 8), .mov (.t 16), []⟩])
        .ret)
       .skip)))
    (.seq
     (.seq
      (.reg [19] [
        ⟨none, (some 17), .mov (.t 2), []⟩,
        ⟨none, (some 18), .call true 353 [.t 17], []⟩,
        ⟨none, (some 19), .un .not (.t 18), []⟩])
      (.cond (.t 19)
       (.seq
        (.reg [6, 7, 8] [
          ⟨none, (some 20), .agg [.int .i8 0, .int .i8 0] [], []⟩,
          ⟨none, (some 6), .stV 6 none 2 (.t 20), []⟩,
          ⟨none, (some 7), .mov (.c (.int .i64 0)), []⟩,
          ⟨none, (some 8), .mov (.c (.int .i64 2)), []⟩])
        .ret)
       .skip))
     (.seq
      (.reg [10, 11] [
        ⟨none, (some 22), .mov (.t 2), []⟩,
        ⟨none, (some 23), .call true 372 [.t 3, .t 4, .t 22], []⟩,
        ⟨none, (some 21), .mov (.t 23), []⟩,
        ⟨none, (some 24), .ext (.t 21) 0, []⟩,
        ⟨none, (some 25), .ext (.t 21) 1, []⟩,
        ⟨none, (some 10), .zero true [.int .i8 0, .int .i8 0], []⟩,
        ⟨none, (some 10), .stV 10 none 2 (.t 24), []⟩,
        ⟨none, (some 11), .mov (.t 25), []⟩])
      (.seq
       (.reg [6, 7, 8] [
         ⟨none, (some 26), .ldV 10 none 2 true, []⟩,
         ⟨none, (some 27), .mov (.t 11), []⟩,
         ⟨none, (some 6), .stV 6 none 2 (.t 26), []⟩,
         ⟨none, (some 7), .mov (.t 27), []⟩,
         ⟨none, (some 8), .mov (.c (.int .i64 0)), []⟩])
       .ret)))))
def c149 : Fn := { np := 3, nt := 28, kind := .pure, res := [.v 6 2 true, .t 7, .t 8], body := k149 }

/- spec.MoveFrame -/
def k150 : Cd :=
  (.seq
   (.reg [3, 6, 7] [
     ⟨none, (some 3), .box 12 (.t 0), []⟩,
     ⟨none, (some 6), .zero true (zs 12 (.int .u16 0)), []⟩,
     ⟨none, (some 7), .mov (.c (.int .i64 0)), []⟩])
   (.seq
    (.seq
     (.reg [8] [
       ⟨none, (some 9), .mov (.t 1), []⟩,
       ⟨none, (some 10), .mov (.t 2), []⟩,
       ⟨none, (some 11), .call true 373 [.t 3, .t 9, .t 10], []⟩,
       ⟨none, (some 8), .mov (.t 11), []⟩])
     (.seq
      (.reg [13] [
        ⟨none, (some 12), .mov (.t 8), []⟩,
        ⟨none, (some 13), .bin .neq (.t 12) (.c (.int .i64 0)), []⟩])
      (.cond (.t 13)
       (.seq
        (.reg [6, 7] [
          ⟨none, (some 14), .agg (zs 12 (.int .u16 0)) [], []⟩,
          ⟨none, (some 15), .mov (.t 8), []⟩,
          ⟨none, (some 6), .stV 6 none 12 (.t 14), []⟩,
          ⟨none, (some 7), .mov (.t 15), []⟩])
        .ret)
       .skip)))
    (.seq
     (.reg [6, 7] [
       ⟨none, (some 16), .mov (.t 1), []⟩,
       ⟨none, (some 17), .mov (.t 2), []⟩,
       ⟨none, (some 18), .call true 355 [.t 3, .t 16, .t 17], []⟩,
       ⟨none, (some 6), .stV 6 none 12 (.t 18), []⟩,
       ⟨none, (some 7), .mov (.c (.int .i64 0)), []⟩])
     .ret)))
def c150 : Fn := { np := 3, nt := 19, kind := .pure, res := [.v 6 12 true, .t 7], body := k150 }

/- impl.TrackOf -/
def b151_1 : Cd :=
  (.seq
   (.seq
    (.reg [25] [
      ⟨none, (some 22), .mov (.t 8), []⟩,
      ⟨none, (some 23), .mov (.t 0), []⟩,
      ⟨none, (some 24), .len (.t 23), []⟩,
      ⟨none, (some 25), .bin .lss (.t 22) (.t 24), []⟩])
    (.cond (.t 25)
     .skip
     (.exit 1)))
   (.seq
    (.block 2
     (.seq
      (.reg [9] [
        ⟨none, (some 29), .mov (.t 0), []⟩,
        ⟨none, (some 30), .mov (.t 8), []⟩,
        ⟨none, (some 31), .bin .sub (.t 30) (.c (.int .i64 1)), []⟩,
        ⟨none, (some 32), .idxA 12 (.t 29) (.t 31), []⟩,
        ⟨none, (some 33), .ld 12 true (.t 32), []⟩,
        ⟨none, (some 34), .mov (.t 0), []⟩,
        ⟨none, (some 35), .mov (.t 8), []⟩,
        ⟨none, (some 36), .idxA 12 (.t 34) (.t 35), []⟩,
        ⟨none, (some 37), .ld 12 true (.t 36), []⟩,
        ⟨none, (some 38), .mov (.t 7), []⟩,
        ⟨none, (some 9), .zero true [.int .i8 0, .int .i8 0], []⟩,
        ⟨none, (some 39), .call true 370 [.t 33, .t 37, .t 38], []⟩,
        ⟨none, (some 28), .mov (.t 39), []⟩,
        ⟨none, (some 40), .ext (.t 28) 0, []⟩,
        ⟨none, (some 41), .ext (.t 28) 1, []⟩,
        ⟨none, (some 9), .stV 9 none 2 (.t 40), []⟩,
        ⟨none, (some 10), .mov (.t 41), []⟩])
      (.reg [6] [
        ⟨none, (some 42), .mov (.t 6), []⟩,
        ⟨none, (some 43), .ldV 9 none 2 true, []⟩,
        ⟨none, (some 44), .bldS 2 1 [.int .i8 0, .int .i8 0] [(0, 2, (.t 43))], []⟩,
        ⟨none, (some 45), .app 2 2 (.t 42) (.t 44), []⟩,
        ⟨none, (some 6), .mov (.t 45), []⟩])))
    (.reg [8] [
      ⟨none, (some 26), .mov (.t 8), []⟩,
      ⟨none, (some 27), .bin .add (.t 26) (.c (.int .i64 1)), []⟩,
      ⟨none, (some 8), .mov (.t 27), []⟩])))
def k151 : Cd :=
  (.seq
   (.reg [4, 5] [
     ⟨none, (some 4), .mov (.c (.slice none 0 0)), []⟩,
     ⟨none, (some 5), .mov (.c (.int .i64 0)), []⟩])
   (.seq
    (.block 0
     (.seq
      (.reg [11] [
        ⟨none, (some 12), .mov (.t 0), []⟩,
        ⟨none, (some 13), .call true 316 [.t 12], []⟩,
        ⟨none, (some 14), .un .not (.t 13), []⟩,
        ⟨none, (some 11), .mov (.t 14), []⟩])
      (.cond (.t 11)
       (.seq
        (.reg [4, 5] [
          ⟨none, (some 4), .mov (.c (.slice none 0 0)), []⟩,
          ⟨none, (some 5), .mov (.c (.int .i64 1)), []⟩])
        .ret)
       (.seq
        (.reg [15] [
          ⟨none, (some 16), .mov (.t 1), []⟩,
          ⟨none, (some 17), .call true 369 [.t 16], []⟩,
          ⟨none, (some 18), .un .not (.t 17), []⟩,
          ⟨none, (some 15), .mov (.t 18), []⟩])
        (.cond (.t 15)
         (.seq
          (.reg [4, 5] [
            ⟨none, (some 4), .mov (.c (.slice none 0 0)), []⟩,
            ⟨none, (some 5), .mov (.c (.int .i64 2)), []⟩])
          .ret)
         .skip)))))
    (.seq
     (.reg [6, 7] [
       ⟨none, (some 19), .bldS 2 0 [.int .i8 0, .int .i8 0] [], []⟩,
       ⟨none, (some 20), .mov (.t 1), []⟩,
       ⟨none, (some 21), .call true 371 [.t 20], []⟩,
       ⟨none, (some 6), .mov (.t 19), []⟩,
       ⟨none, (some 7), .mov (.t 21), []⟩])
     (.seq
      (.seq
       (.reg [8] [
         ⟨none, (some 8), .mov (.c (.int .i64 1)), []⟩])
       (.block 1
        (.loop b151_1)))
      (.seq
       (.reg [4, 5] [
         ⟨none, (some 46), .mov (.t 6), []⟩,
         ⟨none, (some 4), .mov (.t 46), []⟩,
         ⟨none, (some 5), .mov (.c (.int .i64 0)), []⟩])
       .ret)))))
def c151 : Fn := { np := 2, nt := 47, kind := .pure, res := [.t 4, .t 5], body := k151 }

/- spec.TrackOf -/
def k152 : Cd :=
  (.seq
   (.reg [4, 5] [
     ⟨none, (some 4), .mov (.c (.slice none 0 0)), []⟩,
     ⟨none, (some 5), .mov (.c (.int .i64 0)), []⟩])
   (.seq
    (.seq
     (.reg [6] [
       ⟨none, (some 7), .mov (.t 0), []⟩,
       ⟨none, (some 8), .mov (.t 1), []⟩,
       ⟨none, (some 9), .call true 374 [.t 7, .t 8], []⟩,
       ⟨none, (some 6), .mov (.t 9), []⟩])
     (.seq
      (.reg [11] [
        ⟨none, (some 10), .mov (.t 6), []⟩,
        ⟨none, (some 11), .bin .neq (.t 10) (.c (.int .i64 0)), []⟩])
      (.cond (.t 11)
       (.seq
        (.reg [4, 5] [
          ⟨none, (some 12), .bldS 2 0 [.int .i8 0, .int .i8 0] [], []⟩,
          ⟨none, (some 13), .mov (.t 6), []⟩,
          ⟨none, (some 4), .mov (.t 12), []⟩,
          ⟨none, (some 5), .mov (.t 13), []⟩])
        .ret)
       .skip)))
    (.seq
     (.reg [4, 5] [
       ⟨none, (some 14), .mov (.t 0), []⟩,
       ⟨none, (some 15), .mov (.t 1), []⟩,
       ⟨none, (some 16), .call true 375 [.t 14, .t 15], []⟩,
       ⟨none, (some 4), .mov (.t 16), []⟩,
       ⟨none, (some 5), .mov (.c (.int .i64 0)), []⟩])
     .ret)))
def c152 : Fn := { np := 2, nt := 17, kind := .pure, res := [.t 4, .t 5], body := k152 }

/- impl.ReadMoves -/
def b153_1 : Cd :=
  (.seq
   (.reg [19] [
     ⟨none, (some 19), .bin .lss (.t 18) (.t 17), []⟩])
   (.seq
    (.cond (.t 19)
     .skip
     (.exit 0))
    (.seq
     (.block 1
      (.seq
       (.reg [6] [
         ⟨none, (some 20), .idxA 1 (.t 16) (.t 18), []⟩,
         ⟨none, (some 21), .ld 1 false (.t 20), []⟩,
         ⟨none, (some 6), .mov (.t 21), []⟩])
       (.seq
        (.reg [7, 8, 9] [
          ⟨none, (some 23), .mov (.t 6), []⟩,
          ⟨none, (some 24), .call false 377 [.t 23, .c (.string ⟨#[47]⟩)], []⟩,
          ⟨none, (some 22), .mov (.t 24), []⟩,
          ⟨none, (some 25), .ext (.t 22) 0, []⟩,
          ⟨none, (some 26), .ext (.t 22) 1, []⟩,
          ⟨none, (some 27), .ext (.t 22) 2, []⟩,
          ⟨none, (some 7), .mov (.t 25), []⟩,
          ⟨none, (some 8), .mov (.t 26), []⟩,
          ⟨none, (some 9), .mov (.t 27), []⟩])
        (.seq
         (.reg [10, 11] [
           ⟨none, (some 29), .mov (.t 7), []⟩,
           ⟨none, (some 30), .call true 378 [.t 29, .c (.int .i64 (-12)), .c (.int .i64 12)], []⟩,
           ⟨none, (some 28), .mov (.t 30), []⟩,
           ⟨none, (some 31), .ext (.t 28) 0, []⟩,
           ⟨none, (some 32), .ext (.t 28) 1, []⟩,
           ⟨none, (some 10), .mov (.t 31), []⟩,
           ⟨none, (some 11), .mov (.t 32), []⟩])
         (.seq
          (.reg [12, 13] [
            ⟨none, (some 34), .mov (.t 8), []⟩,
            ⟨none, (some 35), .call true 378 [.t 34, .c (.int .i64 (-12)), .c (.int .i64 12)], []⟩,
            ⟨none, (some 33), .mov (.t 35), []⟩,
            ⟨none, (some 36), .ext (.t 33) 0, []⟩,
            ⟨none, (some 37), .ext (.t 33) 1, []⟩,
            ⟨none, (some 12), .mov (.t 36), []⟩,
            ⟨none, (some 13), .mov (.t 37), []⟩])
          (.seq
           (.seq
            (.reg [47] [
              ⟨none, (some 38), .mov (.t 9), []⟩,
              ⟨none, (some 39), .un .not (.t 38), []⟩,
              ⟨none, (some 40), .mov (.t 39), []⟩,
              ⟨(some (40, false)), (some 41), .mov (.t 11), []⟩,
              ⟨(some (40, false)), (some 42), .un .not (.t 41), []⟩,
              ⟨none, (some 43), .pick (.t 40) (.c (.bool true)) (.t 42), []⟩,
              ⟨none, (some 44), .mov (.t 43), []⟩,
              ⟨(some (44, false)), (some 45), .mov (.t 13), []⟩,
              ⟨(some (44, false)), (some 46), .un .not (.t 45), []⟩,
              ⟨none, (some 47), .pick (.t 44) (.c (.bool true)) (.t 46), []⟩])
            (.cond (.t 47)
             (.seq
              (.reg [2, 3] [
                ⟨none, (some 2), .mov (.c (.slice none 0 0)), []⟩,
                ⟨none, (some 3), .mov (.c (.int .i64 5)), []⟩])
              .ret)
             .skip))
           (.reg [4] [
             ⟨none, (some 48), .mov (.t 4), []⟩,
             ⟨none, (some 49), .mov (.t 10), []⟩,
             ⟨none, (some 50), .conv .i8 (.t 49), []⟩,
             ⟨none, (some 51), .mov (.t 12), []⟩,
             ⟨none, (some 52), .conv .i8 (.t 51), []⟩,
             ⟨none, (some 53), .agg [.int .i8 0, .int .i8 0] [(0, 1, (.t 50)), (1, 1, (.t 52))], []⟩,
             ⟨none, (some 54), .bldS 2 1 [.int .i8 0, .int .i8 0] [(0, 2, (.t 53))], []⟩,
             ⟨none, (some 55), .app 2 2 (.t 48) (.t 54), []⟩,
             ⟨none, (some 4), .mov (.t 55), []⟩])))))))
     (.reg [18] [
       ⟨none, (some 56), .bin .add (.t 18) (.c (.int .i64 1)), []⟩,
       ⟨none, (some 18), .mov (.t 56), []⟩]))))
def k153 : Cd :=
  (.seq
   (.reg [2, 3] [
     ⟨none, (some 2), .mov (.c (.slice none 0 0)), []⟩,
     ⟨none, (some 3), .mov (.c (.int .i64 0)), []⟩])
   (.seq
    (.reg [4] [
      ⟨none, (some 14), .bldS 2 0 [.int .i8 0, .int .i8 0] [], []⟩,
      ⟨none, (some 4), .mov (.t 14), []⟩])
    (.seq
     (.seq
      (.reg [16, 17, 18] [
        ⟨none, (some 15), .mov (.t 0), []⟩,
        ⟨none, (some 16), .call true 376 [.t 15], []⟩,
        ⟨none, (some 17), .len (.t 16), []⟩,
        ⟨none, (some 18), .mov (.c (.int .i64 0)), []⟩])
      (.block 0
       (.loop b153_1)))
     (.seq
      (.reg [2, 3] [
        ⟨none, (some 57), .mov (.t 4), []⟩,
        ⟨none, (some 2), .mov (.t 57), []⟩,
        ⟨none, (some 3), .mov (.c (.int .i64 0)), []⟩])
      .ret))))
def c153 : Fn := { np := 1, nt := 58, kind := .pure, res := [.t 2, .t 3], body := k153 }

/- impl.MovesText -/
def b154_1 : Cd :=
  (.seq
   (.reg [10] [
     ⟨none, (some 10), .bin .lss (.t 9) (.t 8), []⟩])
   (.seq
    (.cond (.t 10)
     .skip
     (.exit 0))
    (.seq
     (.block 1
      (.seq
       (.reg [5] [
         ⟨none, (some 11), .idxA 2 (.t 7) (.t 9), []⟩,
         ⟨none, (some 12), .ld 2 true (.t 11), []⟩,
         ⟨none, (some 5), .zero true [.int .i8 0, .int .i8 0], []⟩,
         ⟨none, (some 5), .stV 5 none 2 (.t 12), []⟩])
       (.seq
        (.seq
         (.reg [24] [
           ⟨none, (some 13), .adrF 5 none 0, []⟩,
           ⟨none, (some 14), .ldV 5 (some 13) 1 false, []⟩,
           ⟨none, (some 15), .conv .i64 (.t 14), []⟩,
           ⟨none, (some 16), .call true 295 [.t 15, .c (.int .i64 (-12)), .c (.int .i64 12)], []⟩,
           ⟨none, (some 17), .un .not (.t 16), []⟩,
           ⟨none, (some 18), .mov (.t 17), []⟩,
           ⟨(some (18, false)), (some 19), .adrF 5 none 1, []⟩,
           ⟨(some (18, false)), (some 20), .ldV 5 (some 19) 1 false, []⟩,
           ⟨(some (18, false)), (some 21), .conv .i64 (.t 20), []⟩,
           ⟨(some (18, false)), (some 22), .call true 295 [.t 21, .c (.int .i64 (-12)), .c (.int .i64 12)], []⟩,
           ⟨(some (18, false)), (some 23), .un .not (.t 22), []⟩,
           ⟨none, (some 24), .pick (.t 18) (.c (.bool true)) (.t 23), []⟩])
         (.cond (.t 24)
          (.seq
           (.reg [2] [
             ⟨none, (some 2), .mov (.c (.string ⟨#[]⟩)), []⟩])
           .ret)
          .skip))
        (.reg [3] [
          ⟨none, (some 25), .mov (.t 3), []⟩,
          ⟨none, (some 26), .adrF 5 none 0, []⟩,
          ⟨none, (some 27), .ldV 5 (some 26) 1 false, []⟩,
          ⟨none, (some 28), .conv .i64 (.t 27), []⟩,
          ⟨none, (some 31), .adrF 5 none 1, []⟩,
          ⟨none, (some 32), .ldV 5 (some 31) 1 false, []⟩,
          ⟨none, (some 33), .conv .i64 (.t 32), []⟩,
          ⟨none, (some 29), .call true 379 [.t 28], []⟩,
          ⟨none, (some 30), .bin .add (.t 29) (.c (.string ⟨#[47]⟩)), []⟩,
          ⟨none, (some 34), .call true 379 [.t 33], []⟩,
          ⟨none, (some 35), .bin .add (.t 30) (.t 34), []⟩,
          ⟨none, (some 36), .bldS 1 1 [.string ⟨#[]⟩] [(0, 1, (.t 35))], []⟩,
          ⟨none, (some 37), .app 1 16 (.t 25) (.t 36), []⟩,
          ⟨none, (some 3), .mov (.t 37), []⟩]))))
     (.reg [9] [
       ⟨none, (some 38), .bin .add (.t 9) (.c (.int .i64 1)), []⟩,
       ⟨none, (some 9), .mov (.t 38), []⟩]))))
def k154 : Cd :=
  (.seq
   (.reg [2] [
     ⟨none, (some 2), .mov (.c (.string ⟨#[]⟩)), []⟩])
   (.seq
    (.reg [3] [
      ⟨none, (some 6), .bldS 1 0 [.string ⟨#[]⟩] [], []⟩,
      ⟨none, (some 3), .mov (.t 6), []⟩])
    (.seq
     (.seq
      (.reg [7, 8, 9] [
        ⟨none, (some 7), .mov (.t 0), []⟩,
        ⟨none, (some 8), .len (.t 7), []⟩,
        ⟨none, (some 9), .mov (.c (.int .i64 0)), []⟩])
      (.block 0
       (.loop b154_1)))
     (.seq
      (.reg [2] [
        ⟨none, (some 39), .mov (.t 3), []⟩,
        ⟨none, (some 40), .call false 380 [.t 39, .c (.string ⟨#[32]⟩)], []⟩,
        ⟨none, (some 2), .mov (.t 40), []⟩])
      .ret))))
def c154 : Fn := { np := 1, nt := 41, kind := .pure, res := [.t 2], body := k154 }

/- impl.FollowBook -/
def b155_1 : Cd :=
  (.seq
   (.reg [27] [
     ⟨none, (some 27), .bin .lss (.t 26) (.t 25), []⟩])
   (.seq
    (.cond (.t 27)
     .skip
     (.exit 0))
    (.seq
     (.block 1
      (.seq
       (.reg [10, 9] [
         ⟨none, (some 28), .mov (.t 26), []⟩,
         ⟨none, (some 29), .idxA 12 (.t 24) (.t 26), []⟩,
         ⟨none, (some 30), .ld 12 true (.t 29), []⟩,
         ⟨none, (some 10), .zero true (zs 12 (.int .u16 0)), []⟩,
         ⟨none, (some 9), .mov (.t 28), []⟩,
         ⟨none, (some 10), .stV 10 none 12 (.t 30), []⟩])
       (.seq
        (.reg [11, 12] [
          ⟨none, (some 32), .mov (.t 6), []⟩,
          ⟨none, (some 33), .mov (.t 9), []⟩,
          ⟨none, (some 34), .slcA 2 (.t 32) none (some (.t 33)) none, []⟩,
          ⟨none, (some 35), .call true 71 [.t 34], []⟩,
          ⟨none, (some 31), .mov (.t 35), []⟩,
          ⟨none, (some 36), .ext (.t 31) 0, []⟩,
          ⟨none, (some 37), .ext (.t 31) 1, []⟩,
          ⟨none, (some 38), .ext (.t 31) 2, []⟩,
          ⟨none, (some 11), .mov (.t 36), []⟩,
          ⟨none, (some 12), .mov (.t 37), []⟩,
          ⟨none, (some 13), .mov (.t 38), []⟩])
        (.reg [8] [
          ⟨none, (some 39), .mov (.t 8), []⟩,
          ⟨none, (some 40), .ldV 10 none 12 true, []⟩,
          ⟨none, (some 41), .mov (.t 11), []⟩,
          ⟨none, (some 42), .un .neg (.t 41), []⟩,
          ⟨none, (some 43), .mov (.t 12), []⟩,
          ⟨none, (some 44), .un .neg (.t 43), []⟩,
          ⟨none, (some 45), .call true 358 [.t 40, .t 42, .t 44], []⟩,
          ⟨none, (some 46), .bldS 12 1 (zs 12 (.int .u16 0)) [(0, 12, (.t 45))], []⟩,
          ⟨none, (some 47), .app 12 24 (.t 39) (.t 46), []⟩,
          ⟨none, (some 8), .mov (.t 47), []⟩]))))
     (.reg [26] [
       ⟨none, (some 48), .bin .add (.t 26) (.c (.int .i64 1)), []⟩,
       ⟨none, (some 26), .mov (.t 48), []⟩]))))
def k155 : Cd :=
  (.seq
   (.reg [4, 5] [
     ⟨none, (some 4), .mov (.c (.slice none 0 0)), []⟩,
     ⟨none, (some 5), .mov (.c (.int .i64 0)), []⟩])
   (.seq
    (.reg [6, 7] [
      ⟨none, (some 15), .mov (.t 0), []⟩,
      ⟨none, (some 16), .mov (.t 1), []⟩,
      ⟨none, (some 17), .call true 151 [.t 15, .t 16], []⟩,
      ⟨none, (some 14), .mov (.t 17), []⟩,
      ⟨none, (some 18), .ext (.t 14) 0, []⟩,
      ⟨none, (some 19), .ext (.t 14) 1, []⟩,
      ⟨none, (some 6), .mov (.t 18), []⟩,
      ⟨none, (some 7), .mov (.t 19), []⟩])
    (.seq
     (.seq
      (.reg [21] [
        ⟨none, (some 20), .mov (.t 7), []⟩,
        ⟨none, (some 21), .bin .neq (.t 20) (.c (.int .i64 0)), []⟩])
      (.cond (.t 21)
       (.seq
        (.reg [4, 5] [
          ⟨none, (some 22), .mov (.t 7), []⟩,
          ⟨none, (some 4), .mov (.c (.slice none 0 0)), []⟩,
          ⟨none, (some 5), .mov (.t 22), []⟩])
        .ret)
       .skip))
     (.seq
      (.reg [8] [
        ⟨none, (some 23), .bldS 12 0 (zs 12 (.int .u16 0)) [], []⟩,
        ⟨none, (some 8), .mov (.t 23), []⟩])
      (.seq
       (.seq
        (.reg [24, 25, 26] [
          ⟨none, (some 24), .mov (.t 0), []⟩,
          ⟨none, (some 25), .len (.t 24), []⟩,
          ⟨none, (some 26), .mov (.c (.int .i64 0)), []⟩])
        (.block 0
         (.loop b155_1)))
       (.seq
        (.reg [4, 5] [
          ⟨none, (some 49), .mov (.t 8), []⟩,
          ⟨none, (some 4), .mov (.t 49), []⟩,
          ⟨none, (some 5), .mov (.c (.int .i64 0)), []⟩])
        .ret))))))
def c155 : Fn := { np := 2, nt := 50, kind := .pure, res := [.t 4, .t 5], body := k155 }

/- spec.FollowBook -/
def b156_1 : Cd :=
  (.seq
   (.seq
    (.reg [26] [
      ⟨none, (some 23), .mov (.t 11), []⟩,
      ⟨none, (some 24), .mov (.t 0), []⟩,
      ⟨none, (some 25), .len (.t 24), []⟩,
      ⟨none, (some 26), .bin .lss (.t 23) (.t 25), []⟩])
    (.cond (.t 26)
     .skip
     (.exit 0)))
   (.seq
    (.block 1
     (.seq
      (.seq
       (.reg [30] [
         ⟨none, (some 29), .mov (.t 11), []⟩,
         ⟨none, (some 30), .bin .gtr (.t 29) (.c (.int .i64 0)), []⟩])
       (.cond (.t 30)
        (.seq
         (.reg [9] [
           ⟨none, (some 31), .mov (.t 9), []⟩,
           ⟨none, (some 32), .mov (.t 7), []⟩,
           ⟨none, (some 33), .mov (.t 11), []⟩,
           ⟨none, (some 34), .bin .sub (.t 33) (.c (.int .i64 1)), []⟩,
           ⟨none, (some 35), .idxA 2 (.t 32) (.t 34), []⟩,
           ⟨none, (some 36), .fldP 0 (.t 35), []⟩,
           ⟨none, (some 37), .ld 1 false (.t 36), []⟩,
           ⟨none, (some 38), .conv .i64 (.t 37), []⟩,
           ⟨none, (some 39), .bin .add (.t 31) (.t 38), []⟩,
           ⟨none, (some 9), .mov (.t 39), []⟩])
         (.reg [10] [
           ⟨none, (some 40), .mov (.t 10), []⟩,
           ⟨none, (some 41), .mov (.t 7), []⟩,
           ⟨none, (some 42), .mov (.t 11), []⟩,
           ⟨none, (some 43), .bin .sub (.t 42) (.c (.int .i64 1)), []⟩,
           ⟨none, (some 44), .idxA 2 (.t 41) (.t 43), []⟩,
           ⟨none, (some 45), .fldP 1 (.t 44), []⟩,
           ⟨none, (some 46), .ld 1 false (.t 45), []⟩,
           ⟨none, (some 47), .conv .i64 (.t 46), []⟩,
           ⟨none, (some 48), .bin .add (.t 40) (.t 47), []⟩,
           ⟨none, (some 10), .mov (.t 48), []⟩]))
        .skip))
      (.reg [8] [
        ⟨none, (some 49), .mov (.t 8), []⟩,
        ⟨none, (some 50), .mov (.t 0), []⟩,
        ⟨none, (some 51), .mov (.t 11), []⟩,
        ⟨none, (some 52), .idxA 12 (.t 50) (.t 51), []⟩,
        ⟨none, (some 53), .mov (.t 9), []⟩,
        ⟨none, (some 54), .un .neg (.t 53), []⟩,
        ⟨none, (some 55), .mov (.t 10), []⟩,
        ⟨none, (some 56), .un .neg (.t 55), []⟩,
        ⟨none, (some 57), .call true 355 [.t 52, .t 54, .t 56], []⟩,
        ⟨none, (some 58), .bldS 12 1 (zs 12 (.int .u16 0)) [(0, 12, (.t 57))], []⟩,
        ⟨none, (some 59), .app 12 24 (.t 49) (.t 58), []⟩,
        ⟨none, (some 8), .mov (.t 59), []⟩])))
    (.reg [11] [
      ⟨none, (some 27), .mov (.t 11), []⟩,
      ⟨none, (some 28), .bin .add (.t 27) (.c (.int .i64 1)), []⟩,
      ⟨none, (some 11), .mov (.t 28), []⟩])))
def k156 : Cd :=
  (.seq
   (.reg [4, 5] [
     ⟨none, (some 4), .mov (.c (.slice none 0 0)), []⟩,
     ⟨none, (some 5), .mov (.c (.int .i64 0)), []⟩])
   (.seq
    (.seq
     (.reg [6] [
       ⟨none, (some 12), .mov (.t 0), []⟩,
       ⟨none, (some 13), .mov (.t 1), []⟩,
       ⟨none, (some 14), .call true 374 [.t 12, .t 13], []⟩,
       ⟨none, (some 6), .mov (.t 14), []⟩])
     (.seq
      (.reg [16] [
        ⟨none, (some 15), .mov (.t 6), []⟩,
        ⟨none, (some 16), .bin .neq (.t 15) (.c (.int .i64 0)), []⟩])
      (.cond (.t 16)
       (.seq
        (.reg [4, 5] [
          ⟨none, (some 17), .bldS 12 0 (zs 12 (.int .u16 0)) [], []⟩,
          ⟨none, (some 18), .mov (.t 6), []⟩,
          ⟨none, (some 4), .mov (.t 17), []⟩,
          ⟨none, (some 5), .mov (.t 18), []⟩])
        .ret)
       .skip)))
    (.seq
     (.reg [7] [
       ⟨none, (some 19), .mov (.t 0), []⟩,
       ⟨none, (some 20), .mov (.t 1), []⟩,
       ⟨none, (some 21), .call true 375 [.t 19, .t 20], []⟩,
       ⟨none, (some 7), .mov (.t 21), []⟩])
     (.seq
      (.reg [8] [
        ⟨none, (some 22), .bldS 12 0 (zs 12 (.int .u16 0)) [], []⟩,
        ⟨none, (some 8), .mov (.t 22), []⟩])
      (.seq
       (.reg [9] [
         ⟨none, (some 9), .mov (.c (.int .i64 0)), []⟩])
       (.seq
        (.reg [10] [
          ⟨none, (some 10), .mov (.c (.int .i64 0)), []⟩])
        (.seq
         (.seq
          (.reg [11] [
            ⟨none, (some 11), .mov (.c (.int .i64 0)), []⟩])
          (.block 0
           (.loop b156_1)))
         (.seq
          (.reg [4, 5] [
            ⟨none, (some 60), .mov (.t 8), []⟩,
            ⟨none, (some 4), .mov (.t 60), []⟩,
            ⟨none, (some 5), .mov (.c (.int .i64 0)), []⟩])
          .ret))))))))
def c156 : Fn := { np := 2, nt := 61, kind := .pure, res := [.t 4, .t 5], body := k156 }

/- impl.ValidFrame -/
def k234 : Cd :=
  (.seq
   (.reg [1, 2] [
     ⟨none, (some 1), .box 12 (.t 0), []⟩,
     ⟨none, (some 2), .mov (.c (.bool false)), []⟩])
   (.seq
    (.reg [2] [
      ⟨none, (some 3), .slcP 12 1 (.t 1), []⟩,
      ⟨none, (some 4), .call true 445 [.t 3, .f 446], []⟩,
      ⟨none, (some 5), .un .not (.t 4), []⟩,
      ⟨none, (some 2), .mov (.t 5), []⟩])
    .ret))
def c234 : Fn := { np := 1, nt := 6, kind := .pure, res := [.t 2], body := k234 }

/- impl.inRange -/
def k295 : Cd :=
  (.seq
   (.reg [6] [
     ⟨none, (some 6), .mov (.c (.bool false)), []⟩])
   (.seq
    (.reg [6] [
      ⟨none, (some 7), .mov (.t 1), []⟩,
      ⟨none, (some 8), .mov (.t 0), []⟩,
      ⟨none, (some 9), .bin .leq (.t 7) (.t 8), []⟩,
      ⟨none, (some 10), .mov (.t 9), []⟩,
      ⟨(some (10, true)), (some 11), .mov (.t 0), []⟩,
      ⟨(some (10, true)), (some 12), .mov (.t 2), []⟩,
      ⟨(some (10, true)), (some 13), .bin .leq (.t 11) (.t 12), []⟩,
      ⟨none, (some 14), .pick (.t 10) (.t 13) (.c (.bool false)), []⟩,
      ⟨none, (some 6), .mov (.t 14), []⟩])
    .ret))
def c295 : Fn := { np := 3, nt := 15, kind := .pure, res := [.t 6], body := k295 }

/- spec.l00In -/
def k304 : Cd :=
  (.seq
   (.reg [6] [
     ⟨none, (some 6), .mov (.c (.bool false)), []⟩])
   (.seq
    (.reg [6] [
      ⟨none, (some 7), .mov (.t 0), []⟩,
      ⟨none, (some 8), .mov (.t 1), []⟩,
      ⟨none, (some 9), .bin .geq (.t 7) (.t 8), []⟩,
      ⟨none, (some 10), .mov (.t 9), []⟩,
      ⟨(some (10, true)), (some 11), .mov (.t 0), []⟩,
      ⟨(some (10, true)), (some 12), .mov (.t 2), []⟩,
      ⟨(some (10, true)), (some 13), .bin .leq (.t 11) (.t 12), []⟩,
      ⟨none, (some 14), .pick (.t 10) (.t 13) (.c (.bool false)), []⟩,
      ⟨none, (some 6), .mov (.t 14), []⟩])
    .ret))
def c304 : Fn := { np := 3, nt := 15, kind := .pure, res := [.t 6], body := k304 }

/- spec.l01Put -/
def k305 : Cd :=
  (.seq
   (.reg [8] [
     ⟨none, (some 6), .mov (.t 1), []⟩,
     ⟨none, (some 7), .mov (.t 2), []⟩,
     ⟨none, (some 8), .call true 342 [.t 6, .t 7], []⟩])
   (.cond (.t 8)
    (.reg [] [
      ⟨none, (some 9), .mov (.t 0), []⟩,
      ⟨none, (some 10), .mov (.t 2), []⟩,
      ⟨none, (some 11), .mov (.t 0), []⟩,
      ⟨none, (some 12), .mov (.t 2), []⟩,
      ⟨none, (some 13), .nil (.t 11), []⟩,
      ⟨none, (some 14), .idxP 12 1 (.t 13) (.t 12), []⟩,
      ⟨none, (some 15), .ld 1 false (.t 14), []⟩,
      ⟨none, (some 16), .mov (.t 1), []⟩,
      ⟨none, (some 17), .conv .u64 (.t 16), []⟩,
      ⟨none, (some 18), .bin .shl (.c (.int .u16 1)) (.t 17), []⟩,
      ⟨none, (some 19), .bin .or (.t 15) (.t 18), []⟩,
      ⟨none, (some 20), .nil (.t 9), []⟩,
      ⟨none, (some 21), .idxP 12 1 (.t 20) (.t 10), []⟩,
      ⟨none, none, .st 1 (.t 21) (.t 19), []⟩])
    .skip))
def c305 : Fn := { np := 3, nt := 22, kind := .args, res := [], body := k305 }

/- spec.l02Drawn -/
def b314_1 : Cd :=
  (.seq
   (.seq
    (.reg [16] [
      ⟨none, (some 15), .mov (.t 7), []⟩,
      ⟨none, (some 16), .bin .gtr (.t 15) (.c (.int .i64 0)), []⟩])
    (.cond (.t 16)
     .skip
     (.exit 0)))
   (.seq
    (.block 1
     (.seq
      (.seq
       (.reg [20] [
         ⟨none, (some 19), .mov (.t 0), []⟩,
         ⟨none, (some 20), .call false 459 [.t 19, .c (.int .i64 5)], []⟩])
       (.block 2
        (.seq
         (.reg [28] [
           ⟨none, (some 29), .bin .eql (.t 20) (.c (.int .i64 0)), []⟩,
           ⟨none, (some 28), .mov (.t 29), []⟩])
         (.cond (.t 28)
          (.reg [] [
            ⟨none, (some 30), .mov (.t 0), []⟩,
            ⟨none, (some 31), .call false 368 [.t 30], []⟩,
            ⟨none, none, .st 12 (.t 6) (.t 31), []⟩])
          (.seq
           (.reg [32] [
             ⟨none, (some 33), .bin .eql (.t 20) (.c (.int .i64 1)), []⟩,
             ⟨none, (some 32), .mov (.t 33), []⟩])
           (.cond (.t 32)
            .skip
            (.seq
             (.reg [34] [
               ⟨none, (some 35), .bin .eql (.t 20) (.c (.int .i64 2)), []⟩,
               ⟨none, (some 34), .mov (.t 35), []⟩])
             (.cond (.t 34)
              (.seq
               (.reg [38] [
                 ⟨none, (some 36), .mov (.t 5), []⟩,
                 ⟨none, (some 37), .len (.t 36), []⟩,
                 ⟨none, (some 38), .bin .gtr (.t 37) (.c (.int .i64 0)), []⟩])
               (.cond (.t 38)
                (.reg [] [
                  ⟨none, (some 39), .mov (.t 5), []⟩,
                  ⟨none, (some 40), .mov (.t 0), []⟩,
                  ⟨none, (some 41), .mov (.t 5), []⟩,
                  ⟨none, (some 42), .len (.t 41), []⟩,
                  ⟨none, (some 43), .call false 459 [.t 40, .t 42], []⟩,
                  ⟨none, (some 44), .idxA 12 (.t 39) (.t 43), []⟩,
                  ⟨none, (some 45), .ld 12 true (.t 44), []⟩,
                  ⟨none, none, .st 12 (.t 6) (.t 45), []⟩])
                .skip))
              (.reg [] [
                ⟨none, (some 21), .mov (.t 0), []⟩,
                ⟨none, (some 22), .call false 459 [.t 21, .c (.int .i64 3)], []⟩,
                ⟨none, (some 23), .bin .sub (.t 22) (.c (.int .i64 1)), []⟩,
                ⟨none, (some 24), .mov (.t 0), []⟩,
                ⟨none, (some 25), .call false 459 [.t 24, .c (.int .i64 3)], []⟩,
                ⟨none, (some 26), .bin .sub (.t 25) (.c (.int .i64 1)), []⟩,
                ⟨none, (some 27), .call true 355 [.t 6, .t 23, .t 26], []⟩,
                ⟨none, none, .st 12 (.t 6) (.t 27), []⟩])))))))))
      (.reg [5] [
        ⟨none, (some 46), .mov (.t 5), []⟩,
        ⟨none, (some 47), .ld 12 true (.t 6), []⟩,
        ⟨none, (some 48), .bldS 12 1 (zs 12 (.int .u16 0)) [(0, 12, (.t 47))], []⟩,
        ⟨none, (some 49), .app 12 24 (.t 46) (.t 48), []⟩,
        ⟨none, (some 5), .mov (.t 49), []⟩])))
    (.reg [7] [
      ⟨none, (some 17), .mov (.t 7), []⟩,
      ⟨none, (some 18), .bin .sub (.t 17) (.c (.int .i64 1)), []⟩,
      ⟨none, (some 7), .mov (.t 18), []⟩])))
def k314 : Cd :=
  (.seq
   (.reg [4] [
     ⟨none, (some 4), .mov (.c (.slice none 0 0)), []⟩])
   (.seq
    (.reg [5] [
      ⟨none, (some 8), .bldS 12 0 (zs 12 (.int .u16 0)) [], []⟩,
      ⟨none, (some 5), .mov (.t 8), []⟩])
    (.seq
     (.reg [6] [
       ⟨none, (some 9), .mov (.t 0), []⟩,
       ⟨none, (some 10), .call false 368 [.t 9], []⟩,
       ⟨none, (some 6), .new 1 (zs 12 (.int .u16 0)), []⟩,
       ⟨none, none, .st 12 (.t 6) (.t 10), []⟩])
     (.seq
      (.seq
       (.reg [7] [
         ⟨none, (some 11), .mov (.t 0), []⟩,
         ⟨none, (some 12), .mov (.t 1), []⟩,
         ⟨none, (some 13), .bin .add (.t 12) (.c (.int .i64 1)), []⟩,
         ⟨none, (some 14), .call false 459 [.t 11, .t 13], []⟩,
         ⟨none, (some 7), .mov (.t 14), []⟩])
       (.block 0
        (.loop b314_1)))
      (.seq
       (.reg [4] [
         ⟨none, (some 50), .mov (.t 5), []⟩,
         ⟨none, (some 4), .mov (.t 50), []⟩])
       .ret)))))
def c314 : Fn := { np := 2, nt := 51, kind := .args, res := [.t 4], body := k314 }

/- spec.l00From -/
def k315 : Cd :=
  (.seq
   (.reg [2] [
     ⟨none, (some 2), .mov (.c (.pointer none)), []⟩])
   (.seq
    (.reg [2] [
      ⟨none, (some 3), .mov (.t 0), []⟩,
      ⟨none, (some 4), .agg [.slice none 0 0, .int .i64 0, .int .u64 0] [(0, 1, (.t 3))], []⟩,
      ⟨none, (some 5), .box 3 (.t 4), []⟩,
      ⟨none, (some 2), .mov (.t 5), []⟩])
    .ret))
def c315 : Fn := { np := 1, nt := 6, kind := .pure, res := [.t 2], body := k315 }

/- impl.ValidBook -/
def k316 : Cd :=
  (.seq
   (.reg [2] [
     ⟨none, (some 2), .mov (.c (.bool false)), []⟩])
   (.seq
    (.reg [2] [
      ⟨none, (some 3), .mov (.t 0), []⟩,
      ⟨none, (some 4), .len (.t 3), []⟩,
      ⟨none, (some 5), .bin .leq (.t 4) (.c (.int .i64 40)), []⟩,
      ⟨none, (some 6), .mov (.t 5), []⟩,
      ⟨(some (6, true)), (some 7), .mov (.t 0), []⟩,
      ⟨(some (6, true)), (some 8), .call true 351 [.t 7], []⟩,
      ⟨none, (some 9), .pick (.t 6) (.t 8) (.c (.bool false)), []⟩,
      ⟨none, (some 2), .mov (.t 9), []⟩])
    .ret))
def c316 : Fn := { np := 1, nt := 10, kind := .pure, res := [.t 2], body := k316 }

/- spec.l02Ok -/
def b318_1 : Cd :=
  (.seq
   (.seq
    (.reg [7] [
      ⟨none, (some 4), .mov (.t 3), []⟩,
      ⟨none, (some 5), .mov (.t 0), []⟩,
      ⟨none, (some 6), .len (.t 5), []⟩,
      ⟨none, (some 7), .bin .lss (.t 4) (.t 6), []⟩])
    (.cond (.t 7)
     .skip
     (.exit 0)))
   (.seq
    (.block 1
     (.seq
      (.reg [14] [
        ⟨none, (some 10), .mov (.t 0), []⟩,
        ⟨none, (some 11), .mov (.t 3), []⟩,
        ⟨none, (some 12), .idxA 12 (.t 10) (.t 11), []⟩,
        ⟨none, (some 13), .call true 359 [.t 12], []⟩,
        ⟨none, (some 14), .un .not (.t 13), []⟩])
      (.cond (.t 14)
       (.seq
        (.reg [2] [
          ⟨none, (some 2), .mov (.c (.bool false)), []⟩])
        .ret)
       .skip)))
    (.reg [3] [
      ⟨none, (some 8), .mov (.t 3), []⟩,
      ⟨none, (some 9), .bin .add (.t 8) (.c (.int .i64 1)), []⟩,
      ⟨none, (some 3), .mov (.t 9), []⟩])))
def k318 : Cd :=
  (.seq
   (.reg [2] [
     ⟨none, (some 2), .mov (.c (.bool false)), []⟩])
   (.seq
    (.seq
     (.reg [3] [
       ⟨none, (some 3), .mov (.c (.int .i64 0)), []⟩])
     (.block 0
      (.loop b318_1)))
    (.seq
     (.reg [2] [
       ⟨none, (some 15), .mov (.t 0), []⟩,
       ⟨none, (some 16), .len (.t 15), []⟩,
       ⟨none, (some 17), .bin .leq (.t 16) (.c (.int .i64 40)), []⟩,
       ⟨none, (some 2), .mov (.t 17), []⟩])
     .ret)))
def c318 : Fn := { np := 1, nt := 18, kind := .pure, res := [.t 2], body := k318 }

/- spec.l02Same -/
def b323_1 : Cd :=
  (.seq
   (.seq
    (.reg [14] [
      ⟨none, (some 11), .mov (.t 5), []⟩,
      ⟨none, (some 12), .mov (.t 0), []⟩,
      ⟨none, (some 13), .len (.t 12), []⟩,
      ⟨none, (some 14), .bin .lss (.t 11) (.t 13), []⟩])
    (.cond (.t 14)
     .skip
     (.exit 0)))
   (.seq
    (.block 1
     (.seq
      (.reg [25] [
        ⟨none, (some 17), .mov (.t 0), []⟩,
        ⟨none, (some 18), .mov (.t 5), []⟩,
        ⟨none, (some 19), .idxA 12 (.t 17) (.t 18), []⟩,
        ⟨none, (some 20), .ld 12 true (.t 19), []⟩,
        ⟨none, (some 21), .mov (.t 1), []⟩,
        ⟨none, (some 22), .mov (.t 5), []⟩,
        ⟨none, (some 23), .idxA 12 (.t 21) (.t 22), []⟩,
        ⟨none, (some 24), .ld 12 true (.t 23), []⟩,
        ⟨none, (some 25), .eq (.a (rb 12 (some .u16))) true (.t 20) (.t 24), []⟩])
      (.cond (.t 25)
       (.seq
        (.reg [4] [
          ⟨none, (some 4), .mov (.c (.bool false)), []⟩])
        .ret)
       .skip)))
    (.reg [5] [
      ⟨none, (some 15), .mov (.t 5), []⟩,
      ⟨none, (some 16), .bin .add (.t 15) (.c (.int .i64 1)), []⟩,
      ⟨none, (some 5), .mov (.t 16), []⟩])))
def k323 : Cd :=
  (.seq
   (.reg [4] [
     ⟨none, (some 4), .mov (.c (.bool false)), []⟩])
   (.seq
    (.seq
     (.reg [10] [
       ⟨none, (some 6), .mov (.t 0), []⟩,
       ⟨none, (some 7), .len (.t 6), []⟩,
       ⟨none, (some 8), .mov (.t 1), []⟩,
       ⟨none, (some 9), .len (.t 8), []⟩,
       ⟨none, (some 10), .bin .neq (.t 7) (.t 9), []⟩])
     (.cond (.t 10)
      (.seq
       (.reg [4] [
         ⟨none, (some 4), .mov (.c (.bool false)), []⟩])
       .ret)
      .skip))
    (.seq
     (.seq
      (.reg [5] [
        ⟨none, (some 5), .mov (.c (.int .i64 0)), []⟩])
      (.block 0
       (.loop b323_1)))
     (.seq
      (.reg [4] [
        ⟨none, (some 4), .mov (.c (.bool true)), []⟩])
      .ret))))
def c323 : Fn := { np := 2, nt := 26, kind := .pure, res := [.t 4], body := k323 }

/- impl.jump -/
def k324 : Cd :=
  (.seq
   (.reg [2, 3, 4] [
     ⟨none, (some 2), .mov (.t 0), []⟩,
     ⟨none, (some 3), .mov (.t 1), []⟩,
     ⟨none, (some 4), .mov (.c (.int .i64 0)), []⟩])
   (.seq
    (.reg [4] [
      ⟨none, (some 5), .ldV 2 none 12 true, []⟩,
      ⟨none, (some 6), .ldV 3 none 12 true, []⟩,
      ⟨none, (some 7), .call true 367 [.t 5, .t 6], []⟩,
      ⟨none, (some 8), .call true 393 [.t 7], []⟩,
      ⟨none, (some 4), .mov (.t 8), []⟩])
    .ret))
def c324 : Fn := { np := 2, nt := 9, kind := .pure, res := [.t 4], body := k324 }

/- spec.l01Differ -/
def b325_1 : Cd :=
  (.seq
   (.seq
    (.reg [9] [
      ⟨none, (some 8), .mov (.t 6), []⟩,
      ⟨none, (some 9), .bin .lss (.t 8) (.c (.int .i64 12)), []⟩])
    (.cond (.t 9)
     .skip
     (.exit 0)))
   (.seq
    (.block 1
     (.reg [] [
       ⟨none, (some 12), .mov (.t 6), []⟩,
       ⟨none, (some 13), .mov (.t 0), []⟩,
       ⟨none, (some 14), .mov (.t 6), []⟩,
       ⟨none, (some 15), .nil (.t 13), []⟩,
       ⟨none, (some 16), .idxP 12 1 (.t 15) (.t 14), []⟩,
       ⟨none, (some 17), .ld 1 false (.t 16), []⟩,
       ⟨none, (some 18), .mov (.t 1), []⟩,
       ⟨none, (some 19), .mov (.t 6), []⟩,
       ⟨none, (some 20), .nil (.t 18), []⟩,
       ⟨none, (some 21), .idxP 12 1 (.t 20) (.t 19), []⟩,
       ⟨none, (some 22), .ld 1 false (.t 21), []⟩,
       ⟨none, (some 23), .bin .xor (.t 17) (.t 22), []⟩,
       ⟨none, (some 24), .idxP 12 1 (.t 5) (.t 12), []⟩,
       ⟨none, none, .st 1 (.t 24) (.t 23), []⟩]))
    (.reg [6] [
      ⟨none, (some 10), .mov (.t 6), []⟩,
      ⟨none, (some 11), .bin .add (.t 10) (.c (.int .i64 1)), []⟩,
      ⟨none, (some 6), .mov (.t 11), []⟩])))
def k325 : Cd :=
  (.seq
   (.reg [4] [
     ⟨none, (some 4), .mov (.c (.int .i64 0)), []⟩])
   (.seq
    (.reg [5] [
      ⟨none, (some 7), .agg (zs 12 (.int .u16 0)) [], []⟩,
      ⟨none, (some 5), .new 1 (zs 12 (.int .u16 0)), []⟩,
      ⟨none, none, .st 12 (.t 5) (.t 7), []⟩])
    (.seq
     (.seq
      (.reg [6] [
        ⟨none, (some 6), .mov (.c (.int .i64 0)), []⟩])
      (.block 0
       (.loop b325_1)))
     (.seq
      (.reg [4] [
        ⟨none, (some 25), .call true 409 [.t 5], []⟩,
        ⟨none, (some 4), .mov (.t 25), []⟩])
      .ret))))
def c325 : Fn := { np := 2, nt := 26, kind := .pure, res := [.t 4], body := k325 }

/- spec.l01Both -/
def k327 : Cd :=
  (.seq
   (.reg [4] [
     ⟨none, (some 4), .mov (.c (.int .i64 0)), []⟩])
   (.seq
    (.seq
     (.reg [12] [
       ⟨none, (some 5), .mov (.t 0), []⟩,
       ⟨none, (some 6), .call true 359 [.t 5], []⟩,
       ⟨none, (some 7), .un .not (.t 6), []⟩,
       ⟨none, (some 8), .mov (.t 7), []⟩,
       ⟨(some (8, false)), (some 9), .mov (.t 1), []⟩,
       ⟨(some (8, false)), (some 10), .call true 359 [.t 9], []⟩,
       ⟨(some (8, false)), (some 11), .un .not (.t 10), []⟩,
       ⟨none, (some 12), .pick (.t 8) (.c (.bool true)) (.t 11), []⟩])
     (.cond (.t 12)
      (.seq
       (.reg [4] [
         ⟨none, (some 4), .mov (.c (.int .i64 1)), []⟩])
       .ret)
      .skip))
    (.seq
     (.reg [4] [
       ⟨none, (some 4), .mov (.c (.int .i64 0)), []⟩])
     .ret)))
def c327 : Fn := { np := 2, nt := 13, kind := .pure, res := [.t 4], body := k327 }

/- spec.l01Place -/
def k342 : Cd :=
  (.seq
   (.reg [4] [
     ⟨none, (some 4), .mov (.c (.bool false)), []⟩])
   (.seq
    (.reg [4] [
      ⟨none, (some 5), .mov (.t 0), []⟩,
      ⟨none, (some 6), .call true 304 [.t 5, .c (.int .i64 0), .c (.int .i64 11)], []⟩,
      ⟨none, (some 7), .mov (.t 6), []⟩,
      ⟨(some (7, true)), (some 8), .mov (.t 1), []⟩,
      ⟨(some (7, true)), (some 9), .call true 304 [.t 8, .c (.int .i64 0), .c (.int .i64 11)], []⟩,
      ⟨none, (some 10), .pick (.t 7) (.t 9) (.c (.bool false)), []⟩,
      ⟨none, (some 4), .mov (.t 10), []⟩])
    .ret))
def c342 : Fn := { np := 2, nt := 11, kind := .pure, res := [.t 4], body := k342 }

/- impl.areFrames -/
def k351 : Cd :=
  (.seq
   (.reg [2] [
     ⟨none, (some 2), .mov (.c (.bool false)), []⟩])
   (.seq
    (.reg [2] [
      ⟨none, (some 3), .mov (.t 0), []⟩,
      ⟨none, (some 4), .call true 505 [.t 3, .f 506], []⟩,
      ⟨none, (some 5), .un .not (.t 4), []⟩,
      ⟨none, (some 2), .mov (.t 5), []⟩])
    .ret))
def c351 : Fn := { np := 1, nt := 6, kind := .pure, res := [.t 2], body := k351 }

/- spec.l07Most -/
def k353 : Cd :=
  (.seq
   (.reg [2] [
     ⟨none, (some 2), .mov (.c (.bool false)), []⟩])
   (.seq
    (.reg [2] [
      ⟨none, (some 3), .mov (.t 0), []⟩,
      ⟨none, (some 4), .call true 304 [.t 3, .c (.int .i64 0), .c (.int .i64 4)], []⟩,
      ⟨none, (some 2), .mov (.t 4), []⟩])
    .ret))
def c353 : Fn := { np := 1, nt := 5, kind := .pure, res := [.t 2], body := k353 }

/- spec.l07Moves -/
def b354_1 : Cd :=
  (.seq
   (.seq
    (.reg [26] [
      ⟨none, (some 24), .mov (.t 6), []⟩,
      ⟨none, (some 25), .mov (.t 0), []⟩,
      ⟨none, (some 26), .bin .leq (.t 24) (.t 25), []⟩])
    (.cond (.t 26)
     .skip
     (.exit 4)))
   (.seq
    (.block 5
     (.seq
      (.reg [7] [
        ⟨none, (some 29), .mov (.t 5), []⟩,
        ⟨none, (some 30), .conv .i8 (.t 29), []⟩,
        ⟨none, (some 31), .mov (.t 6), []⟩,
        ⟨none, (some 32), .conv .i8 (.t 31), []⟩,
        ⟨none, (some 33), .agg [.int .i8 0, .int .i8 0] [(0, 1, (.t 30)), (1, 1, (.t 32))], []⟩,
        ⟨none, (some 7), .zero true [.int .i8 0, .int .i8 0], []⟩,
        ⟨none, (some 7), .stV 7 none 2 (.t 33), []⟩])
      (.seq
       (.reg [37] [
         ⟨none, (some 34), .ldV 7 none 2 true, []⟩,
         ⟨none, (some 35), .call true 510 [.t 34], []⟩,
         ⟨none, (some 36), .mov (.t 4), []⟩,
         ⟨none, (some 37), .bin .eql (.t 35) (.t 36), []⟩])
       (.cond (.t 37)
        (.reg [3] [
          ⟨none, (some 38), .mov (.t 3), []⟩,
          ⟨none, (some 39), .ldV 7 none 2 true, []⟩,
          ⟨none, (some 40), .bldS 2 1 [.int .i8 0, .int .i8 0] [(0, 2, (.t 39))], []⟩,
          ⟨none, (some 41), .app 2 2 (.t 38) (.t 40), []⟩,
          ⟨none, (some 3), .mov (.t 41), []⟩])
        .skip))))
    (.reg [6] [
      ⟨none, (some 27), .mov (.t 6), []⟩,
      ⟨none, (some 28), .bin .add (.t 27) (.c (.int .i64 1)), []⟩,
      ⟨none, (some 6), .mov (.t 28), []⟩])))
def b354_2 : Cd :=
  (.seq
   (.seq
    (.reg [19] [
      ⟨none, (some 17), .mov (.t 5), []⟩,
      ⟨none, (some 18), .mov (.t 0), []⟩,
      ⟨none, (some 19), .bin .leq (.t 17) (.t 18), []⟩])
    (.cond (.t 19)
     .skip
     (.exit 2)))
   (.seq
    (.block 3
     (.seq
      (.reg [6] [
        ⟨none, (some 22), .mov (.t 0), []⟩,
        ⟨none, (some 23), .un .neg (.t 22), []⟩,
        ⟨none, (some 6), .mov (.t 23), []⟩])
      (.block 4
       (.loop b354_1))))
    (.reg [5] [
      ⟨none, (some 20), .mov (.t 5), []⟩,
      ⟨none, (some 21), .bin .add (.t 20) (.c (.int .i64 1)), []⟩,
      ⟨none, (some 5), .mov (.t 21), []⟩])))
def b354_3 : Cd :=
  (.seq
   (.seq
    (.reg [12] [
      ⟨none, (some 9), .mov (.t 4), []⟩,
      ⟨none, (some 10), .mov (.t 0), []⟩,
      ⟨none, (some 11), .bin .mul (.c (.int .i64 2)) (.t 10), []⟩,
      ⟨none, (some 12), .bin .leq (.t 9) (.t 11), []⟩])
    (.cond (.t 12)
     .skip
     (.exit 0)))
   (.seq
    (.block 1
     (.seq
      (.reg [5] [
        ⟨none, (some 15), .mov (.t 0), []⟩,
        ⟨none, (some 16), .un .neg (.t 15), []⟩,
        ⟨none, (some 5), .mov (.t 16), []⟩])
      (.block 2
       (.loop b354_2))))
    (.reg [4] [
      ⟨none, (some 13), .mov (.t 4), []⟩,
      ⟨none, (some 14), .bin .add (.t 13) (.c (.int .i64 1)), []⟩,
      ⟨none, (some 4), .mov (.t 14), []⟩])))
def k354 : Cd :=
  (.seq
   (.reg [2] [
     ⟨none, (some 2), .mov (.c (.slice none 0 0)), []⟩])
   (.seq
    (.reg [3] [
      ⟨none, (some 8), .bldS 2 0 [.int .i8 0, .int .i8 0] [], []⟩,
      ⟨none, (some 3), .mov (.t 8), []⟩])
    (.seq
     (.seq
      (.reg [4] [
        ⟨none, (some 4), .mov (.c (.int .i64 0)), []⟩])
      (.block 0
       (.loop b354_3)))
     (.seq
      (.reg [2] [
        ⟨none, (some 42), .mov (.t 3), []⟩,
        ⟨none, (some 2), .mov (.t 42), []⟩])
      .ret))))
def c354 : Fn := { np := 1, nt := 43, kind := .pure, res := [.t 2], body := k354 }

/- spec.l01Moved -/
def b355_1 : Cd :=
  (.seq
   (.seq
    (.reg [16] [
      ⟨none, (some 13), .mov (.t 9), []⟩,
      ⟨none, (some 14), .mov (.t 8), []⟩,
      ⟨none, (some 15), .len (.t 14), []⟩,
      ⟨none, (some 16), .bin .lss (.t 13) (.t 15), []⟩])
    (.cond (.t 16)
     .skip
     (.exit 0)))
   (.seq
    (.block 1
     (.reg [] [
       ⟨none, (some 19), .mov (.t 8), []⟩,
       ⟨none, (some 20), .mov (.t 9), []⟩,
       ⟨none, (some 21), .idxA 2 (.t 19) (.t 20), []⟩,
       ⟨none, (some 22), .fldP 0 (.t 21), []⟩,
       ⟨none, (some 23), .ld 1 false (.t 22), []⟩,
       ⟨none, (some 24), .conv .i64 (.t 23), []⟩,
       ⟨none, (some 25), .mov (.t 1), []⟩,
       ⟨none, (some 26), .bin .add (.t 24) (.t 25), []⟩,
       ⟨none, (some 27), .mov (.t 8), []⟩,
       ⟨none, (some 28), .mov (.t 9), []⟩,
       ⟨none, (some 29), .idxA 2 (.t 27) (.t 28), []⟩,
       ⟨none, (some 30), .fldP 1 (.t 29), []⟩,
       ⟨none, (some 31), .ld 1 false (.t 30), []⟩,
       ⟨none, (some 32), .conv .i64 (.t 31), []⟩,
       ⟨none, (some 33), .mov (.t 2), []⟩,
       ⟨none, (some 34), .bin .add (.t 32) (.t 33), []⟩,
       ⟨none, (some 35), .call false 305 [.t 7, .t 26, .t 34], []⟩]))
    (.reg [9] [
      ⟨none, (some 17), .mov (.t 9), []⟩,
      ⟨none, (some 18), .bin .add (.t 17) (.c (.int .i64 1)), []⟩,
      ⟨none, (some 9), .mov (.t 18), []⟩])))
def k355 : Cd :=
  (.seq
   (.reg [6] [
     ⟨none, (some 6), .zero true (zs 12 (.int .u16 0)), []⟩])
   (.seq
    (.reg [7] [
      ⟨none, (some 10), .agg (zs 12 (.int .u16 0)) [], []⟩,
      ⟨none, (some 7), .new 1 (zs 12 (.int .u16 0)), []⟩,
      ⟨none, none, .st 12 (.t 7) (.t 10), []⟩])
    (.seq
     (.reg [8] [
       ⟨none, (some 11), .mov (.t 0), []⟩,
       ⟨none, (some 12), .call true 440 [.t 11], []⟩,
       ⟨none, (some 8), .mov (.t 12), []⟩])
     (.seq
      (.seq
       (.reg [9] [
         ⟨none, (some 9), .mov (.c (.int .i64 0)), []⟩])
       (.block 0
        (.loop b355_1)))
      (.seq
       (.reg [6] [
         ⟨none, (some 36), .ld 12 true (.t 7), []⟩,
         ⟨none, (some 6), .stV 6 none 12 (.t 36), []⟩])
       .ret)))))
def c355 : Fn := { np := 3, nt := 37, kind := .pure, res := [.v 6 12 true], body := k355 }

/- impl.checkMove -/
def k357 : Cd :=
  (.seq
   (.reg [3, 6] [
     ⟨none, (some 3), .mov (.t 0), []⟩,
     ⟨none, (some 6), .mov (.c (.int .i64 0)), []⟩])
   (.seq
    (.block 0
     (.seq
      (.reg [7] [
        ⟨none, (some 8), .ldV 3 none 12 true, []⟩,
        ⟨none, (some 9), .call true 234 [.t 8], []⟩,
        ⟨none, (some 10), .un .not (.t 9), []⟩,
        ⟨none, (some 7), .mov (.t 10), []⟩])
      (.cond (.t 7)
       (.seq
        (.reg [6] [
          ⟨none, (some 6), .mov (.c (.int .i64 1)), []⟩])
        .ret)
       (.seq
        (.reg [11] [
          ⟨none, (some 12), .mov (.t 1), []⟩,
          ⟨none, (some 13), .call true 295 [.t 12, .c (.int .i64 (-12)), .c (.int .i64 12)], []⟩,
          ⟨none, (some 14), .un .not (.t 13), []⟩,
          ⟨none, (some 15), .mov (.t 14), []⟩,
          ⟨(some (15, false)), (some 16), .mov (.t 2), []⟩,
          ⟨(some (15, false)), (some 17), .call true 295 [.t 16, .c (.int .i64 (-12)), .c (.int .i64 12)], []⟩,
          ⟨(some (15, false)), (some 18), .un .not (.t 17), []⟩,
          ⟨none, (some 19), .pick (.t 15) (.c (.bool true)) (.t 18), []⟩,
          ⟨none, (some 11), .mov (.t 19), []⟩])
        (.cond (.t 11)
         (.seq
          (.reg [6] [
            ⟨none, (some 6), .mov (.c (.int .i64 2)), []⟩])
          .ret)
         .skip)))))
    (.seq
     (.reg [6] [
       ⟨none, (some 6), .mov (.c (.int .i64 0)), []⟩])
     .ret)))
def c357 : Fn := { np := 3, nt := 20, kind := .pure, res := [.t 6], body := k357 }

/- (impl.Frame).moved -/
def b358_1 : Cd :=
  (.seq
   (.reg [16] [
     ⟨none, (some 16), .bin .lss (.t 15) (.c (.int .i64 12)), []⟩])
   (.seq
    (.cond (.t 16)
     .skip
     (.exit 0))
    (.seq
     (.block 1
      (.seq
       (.reg [8] [
         ⟨none, (some 17), .mov (.t 15), []⟩,
         ⟨none, (some 8), .mov (.t 17), []⟩])
       (.seq
        (.reg [9] [
          ⟨none, (some 18), .mov (.t 8), []⟩,
          ⟨none, (some 19), .mov (.t 2), []⟩,
          ⟨none, (some 20), .bin .sub (.t 18) (.t 19), []⟩,
          ⟨none, (some 9), .mov (.t 20), []⟩])
        (.seq
         (.seq
          (.reg [23] [
            ⟨none, (some 21), .mov (.t 9), []⟩,
            ⟨none, (some 22), .call true 295 [.t 21, .c (.int .i64 0), .c (.int .i64 11)], []⟩,
            ⟨none, (some 23), .un .not (.t 22), []⟩])
          (.cond (.t 23)
           (.exit 1)
           .skip))
         (.seq
          (.reg [25] [
            ⟨none, (some 24), .mov (.t 1), []⟩,
            ⟨none, (some 25), .bin .geq (.t 24) (.c (.int .i64 0)), []⟩])
          (.cond (.t 25)
           (.reg [7] [
             ⟨none, (some 26), .mov (.t 8), []⟩,
             ⟨none, (some 27), .mov (.t 9), []⟩,
             ⟨none, (some 28), .adrI 3 none 12 1 (.t 27), []⟩,
             ⟨none, (some 29), .ldV 3 (some 28) 1 false, []⟩,
             ⟨none, (some 30), .mov (.t 1), []⟩,
             ⟨none, (some 31), .bin .shl (.t 29) (.t 30), []⟩,
             ⟨none, (some 32), .bin .and (.t 31) (.c (.int .u16 4095)), []⟩,
             ⟨none, (some 33), .adrI 7 none 12 1 (.t 26), []⟩,
             ⟨none, (some 7), .stV 7 (some 33) 1 (.t 32), []⟩])
           (.reg [7] [
             ⟨none, (some 34), .mov (.t 8), []⟩,
             ⟨none, (some 35), .mov (.t 9), []⟩,
             ⟨none, (some 36), .adrI 3 none 12 1 (.t 35), []⟩,
             ⟨none, (some 37), .ldV 3 (some 36) 1 false, []⟩,
             ⟨none, (some 38), .mov (.t 1), []⟩,
             ⟨none, (some 39), .un .neg (.t 38), []⟩,
             ⟨none, (some 40), .bin .shr (.t 37) (.t 39), []⟩,
             ⟨none, (some 41), .adrI 7 none 12 1 (.t 34), []⟩,
             ⟨none, (some 7), .stV 7 (some 41) 1 (.t 40), []⟩])))))))
     (.reg [15] [
       ⟨none, (some 42), .bin .add (.t 15) (.c (.int .i64 1)), []⟩,
       ⟨none, (some 15), .mov (.t 42), []⟩]))))
def k358 : Cd :=
  (.seq
   (.reg [3, 6] [
     ⟨none, (some 3), .mov (.t 0), []⟩,
     ⟨none, (some 6), .zero true (zs 12 (.int .u16 0)), []⟩])
   (.seq
    (.reg [7] [
      ⟨none, (some 10), .agg (zs 12 (.int .u16 0)) [], []⟩,
      ⟨none, (some 7), .zero true (zs 12 (.int .u16 0)), []⟩,
      ⟨none, (some 7), .stV 7 none 12 (.t 10), []⟩])
    (.seq
     (.seq
      (.reg [13] [
        ⟨none, (some 11), .mov (.t 1), []⟩,
        ⟨none, (some 12), .call true 295 [.t 11, .c (.int .i64 (-12)), .c (.int .i64 12)], []⟩,
        ⟨none, (some 13), .un .not (.t 12), []⟩])
      (.cond (.t 13)
       (.seq
        (.reg [6] [
          ⟨none, (some 14), .ldV 7 none 12 true, []⟩,
          ⟨none, (some 6), .stV 6 none 12 (.t 14), []⟩])
        .ret)
       .skip))
     (.seq
      (.seq
       (.reg [15] [
         ⟨none, (some 15), .mov (.c (.int .i64 0)), []⟩])
       (.block 0
        (.loop b358_1)))
      (.seq
       (.reg [6] [
         ⟨none, (some 43), .ldV 7 none 12 true, []⟩,
         ⟨none, (some 6), .stV 6 none 12 (.t 43), []⟩])
       .ret)))))
def c358 : Fn := { np := 3, nt := 44, kind := .pure, res := [.v 6 12 true], body := k358 }

/- spec.l01Ok -/
def b359_1 : Cd :=
  (.seq
   (.seq
    (.reg [5] [
      ⟨none, (some 4), .mov (.t 3), []⟩,
      ⟨none, (some 5), .bin .lss (.t 4) (.c (.int .i64 12)), []⟩])
    (.cond (.t 5)
     .skip
     (.exit 0)))
   (.seq
    (.block 1
     (.seq
      (.reg [13] [
        ⟨none, (some 8), .mov (.t 0), []⟩,
        ⟨none, (some 9), .mov (.t 3), []⟩,
        ⟨none, (some 10), .nil (.t 8), []⟩,
        ⟨none, (some 11), .idxP 12 1 (.t 10) (.t 9), []⟩,
        ⟨none, (some 12), .ld 1 false (.t 11), []⟩,
        ⟨none, (some 13), .bin .gtr (.t 12) (.c (.int .u16 4095)), []⟩])
      (.cond (.t 13)
       (.seq
        (.reg [2] [
          ⟨none, (some 2), .mov (.c (.bool false)), []⟩])
        .ret)
       .skip)))
    (.reg [3] [
      ⟨none, (some 6), .mov (.t 3), []⟩,
      ⟨none, (some 7), .bin .add (.t 6) (.c (.int .i64 1)), []⟩,
      ⟨none, (some 3), .mov (.t 7), []⟩])))
def k359 : Cd :=
  (.seq
   (.reg [2] [
     ⟨none, (some 2), .mov (.c (.bool false)), []⟩])
   (.seq
    (.seq
     (.reg [3] [
       ⟨none, (some 3), .mov (.c (.int .i64 0)), []⟩])
     (.block 0
      (.loop b359_1)))
    (.seq
     (.reg [2] [
       ⟨none, (some 2), .mov (.c (.bool true)), []⟩])
     .ret)))
def c359 : Fn := { np := 1, nt := 14, kind := .pure, res := [.t 2], body := k359 }

/- (impl.Frame).differ -/
def k367 : Cd :=
  (.seq
   (.reg [2, 3, 4] [
     ⟨none, (some 2), .mov (.t 0), []⟩,
     ⟨none, (some 3), .mov (.t 1), []⟩,
     ⟨none, (some 4), .zero true (zs 12 (.int .u16 0)), []⟩])
   (.seq
    (.reg [4] [
      ⟨none, (some 5), .ldV 2 none 12 true, []⟩,
      ⟨none, (some 6), .ldV 3 none 12 true, []⟩,
      ⟨none, (some 7), .call true 443 [.t 5, .t 6, .f 512], []⟩,
      ⟨none, (some 4), .stV 4 none 12 (.t 7), []⟩])
    .ret))
def c367 : Fn := { np := 2, nt := 8, kind := .pure, res := [.v 4 12 true], body := k367 }

/- spec.l01Drawn -/
def b368_1 : Cd :=
  (.seq
   (.seq
    (.reg [16] [
      ⟨none, (some 15), .mov (.t 6), []⟩,
      ⟨none, (some 16), .bin .gtr (.t 15) (.c (.int .i64 0)), []⟩])
    (.cond (.t 16)
     .skip
     (.exit 0)))
   (.seq
    (.block 1
     (.seq
      (.reg [] [
        ⟨none, (some 19), .mov (.t 4), []⟩,
        ⟨none, (some 20), .mov (.t 5), []⟩,
        ⟨none, (some 21), .call false 305 [.t 3, .t 19, .t 20], []⟩])
      (.seq
       (.reg [23] [
         ⟨none, (some 22), .mov (.t 0), []⟩,
         ⟨none, (some 23), .call false 459 [.t 22, .c (.int .i64 6)], []⟩])
       (.block 2
        (.seq
         (.reg [30] [
           ⟨none, (some 31), .bin .eql (.t 23) (.c (.int .i64 0)), []⟩,
           ⟨none, (some 30), .mov (.t 31), []⟩])
         (.cond (.t 30)
          (.seq
           (.reg [4] [
             ⟨none, (some 32), .mov (.t 0), []⟩,
             ⟨none, (some 33), .call false 459 [.t 32, .c (.int .i64 12)], []⟩,
             ⟨none, (some 4), .mov (.t 33), []⟩])
           (.reg [5] [
             ⟨none, (some 34), .mov (.t 0), []⟩,
             ⟨none, (some 35), .call false 459 [.t 34, .c (.int .i64 12)], []⟩,
             ⟨none, (some 5), .mov (.t 35), []⟩]))
          (.seq
           (.seq
            (.reg [36] [
              ⟨none, (some 37), .bin .eql (.t 23) (.c (.int .i64 1)), []⟩,
              ⟨none, (some 36), .mov (.t 37), []⟩])
            (.cond (.t 36)
             .skip
             (.reg [36] [
               ⟨none, (some 38), .bin .eql (.t 23) (.c (.int .i64 2)), []⟩,
               ⟨none, (some 36), .mov (.t 38), []⟩])))
           (.cond (.t 36)
            (.reg [4] [
              ⟨none, (some 39), .mov (.t 4), []⟩,
              ⟨none, (some 40), .bin .add (.t 39) (.c (.int .i64 1)), []⟩,
              ⟨none, (some 41), .bin .rem (.t 40) (.c (.int .i64 12)), []⟩,
              ⟨none, (some 4), .mov (.t 41), []⟩])
            (.reg [5] [
              ⟨none, (some 24), .mov (.t 5), []⟩,
              ⟨none, (some 25), .mov (.t 0), []⟩,
              ⟨none, (some 26), .call false 459 [.t 25, .c (.int .i64 3)], []⟩,
              ⟨none, (some 27), .bin .add (.t 24) (.t 26), []⟩,
              ⟨none, (some 28), .bin .add (.t 27) (.c (.int .i64 11)), []⟩,
              ⟨none, (some 29), .bin .rem (.t 28) (.c (.int .i64 12)), []⟩,
              ⟨none, (some 5), .mov (.t 29), []⟩])))))))))
    (.reg [6] [
      ⟨none, (some 17), .mov (.t 6), []⟩,
      ⟨none, (some 18), .bin .sub (.t 17) (.c (.int .i64 1)), []⟩,
      ⟨none, (some 6), .mov (.t 18), []⟩])))
def b368_2 : Cd :=
  (.seq
   (.seq
    (.reg [45] [
      ⟨none, (some 44), .mov (.t 7), []⟩,
      ⟨none, (some 45), .bin .lss (.t 44) (.c (.int .i64 12)), []⟩])
    (.cond (.t 45)
     .skip
     (.exit 3)))
   (.seq
    (.block 4
     (.reg [] [
       ⟨none, (some 48), .mov (.t 7), []⟩,
       ⟨none, (some 49), .mov (.t 7), []⟩,
       ⟨none, (some 50), .idxP 12 1 (.t 3) (.t 49), []⟩,
       ⟨none, (some 51), .ld 1 false (.t 50), []⟩,
       ⟨none, (some 52), .mov (.t 0), []⟩,
       ⟨none, (some 53), .call false 459 [.t 52, .c (.int .i64 4096)], [.t 50]⟩,
       ⟨none, (some 54), .conv .u16 (.t 53), []⟩,
       ⟨none, (some 55), .bin .or (.t 51) (.t 54), []⟩,
       ⟨none, (some 56), .idxP 12 1 (.t 3) (.t 48), []⟩,
       ⟨none, none, .st 1 (.t 56) (.t 55), []⟩]))
    (.reg [7] [
      ⟨none, (some 46), .mov (.t 7), []⟩,
      ⟨none, (some 47), .bin .add (.t 46) (.c (.int .i64 1)), []⟩,
      ⟨none, (some 7), .mov (.t 47), []⟩])))
def k368 : Cd :=
  (.seq
   (.reg [2] [
     ⟨none, (some 2), .zero true (zs 12 (.int .u16 0)), []⟩])
   (.seq
    (.reg [3] [
      ⟨none, (some 8), .agg (zs 12 (.int .u16 0)) [], []⟩,
      ⟨none, (some 3), .new 1 (zs 12 (.int .u16 0)), []⟩,
      ⟨none, none, .st 12 (.t 3) (.t 8), []⟩])
    (.seq
     (.reg [4] [
       ⟨none, (some 9), .mov (.t 0), []⟩,
       ⟨none, (some 10), .call false 459 [.t 9, .c (.int .i64 12)], []⟩,
       ⟨none, (some 4), .mov (.t 10), []⟩])
     (.seq
      (.reg [5] [
        ⟨none, (some 11), .mov (.t 0), []⟩,
        ⟨none, (some 12), .call false 459 [.t 11, .c (.int .i64 12)], []⟩,
        ⟨none, (some 5), .mov (.t 12), []⟩])
      (.seq
       (.seq
        (.reg [6] [
          ⟨none, (some 13), .mov (.t 0), []⟩,
          ⟨none, (some 14), .call false 459 [.t 13, .c (.int .i64 14)], []⟩,
          ⟨none, (some 6), .mov (.t 14), []⟩])
        (.block 0
         (.loop b368_1)))
       (.seq
        (.seq
         (.reg [43] [
           ⟨none, (some 42), .mov (.t 0), []⟩,
           ⟨none, (some 43), .call false 513 [.t 42, .c (.int .i64 8)], []⟩])
         (.cond (.t 43)
          (.seq
           (.reg [7] [
             ⟨none, (some 7), .mov (.c (.int .i64 0)), []⟩])
           (.block 3
            (.loop b368_2)))
          .skip))
        (.seq
         (.reg [2] [
           ⟨none, (some 57), .ld 12 true (.t 3), []⟩,
           ⟨none, (some 2), .stV 2 none 12 (.t 57), []⟩])
         .ret)))))))
def c368 : Fn := { np := 1, nt := 58, kind := .args, res := [.v 2 12 true], body := k368 }

/- impl.isMost -/
def k369 : Cd :=
  (.seq
   (.reg [2] [
     ⟨none, (some 2), .mov (.c (.bool false)), []⟩])
   (.seq
    (.reg [2] [
      ⟨none, (some 3), .mov (.t 0), []⟩,
      ⟨none, (some 4), .call true 295 [.t 3, .c (.int .i64 0), .c (.int .i64 4)], []⟩,
      ⟨none, (some 2), .mov (.t 4), []⟩])
    .ret))
def c369 : Fn := { np := 1, nt := 5, kind := .pure, res := [.t 2], body := k369 }

/- impl.bestMove -/
def b370_1 : Cd :=
  (.seq
   (.reg [27] [
     ⟨none, (some 27), .bin .lss (.t 26) (.t 25), []⟩])
   (.seq
    (.cond (.t 27)
     .skip
     (.exit 0))
    (.seq
     (.block 1
      (.seq
       (.reg [11] [
         ⟨none, (some 28), .idxA 2 (.t 24) (.t 26), []⟩,
         ⟨none, (some 29), .ld 2 true (.t 28), []⟩,
         ⟨none, (some 11), .zero true [.int .i8 0, .int .i8 0], []⟩,
         ⟨none, (some 11), .stV 11 none 2 (.t 29), []⟩])
       (.seq
        (.reg [12] [
          ⟨none, (some 30), .ldV 3 none 12 true, []⟩,
          ⟨none, (some 31), .ldV 11 none 2 true, []⟩,
          ⟨none, (some 33), .ldV 4 none 12 true, []⟩,
          ⟨none, (some 32), .call true 514 [.t 30, .t 31], []⟩,
          ⟨none, (some 34), .call true 324 [.t 32, .t 33], []⟩,
          ⟨none, (some 12), .mov (.t 34), []⟩])
        (.seq
         (.reg [37] [
           ⟨none, (some 35), .mov (.t 12), []⟩,
           ⟨none, (some 36), .mov (.t 9), []⟩,
           ⟨none, (some 37), .bin .lss (.t 35) (.t 36), []⟩])
         (.cond (.t 37)
          (.reg [8, 9] [
            ⟨none, (some 38), .ldV 11 none 2 true, []⟩,
            ⟨none, (some 39), .mov (.t 12), []⟩,
            ⟨none, (some 8), .stV 8 none 2 (.t 38), []⟩,
            ⟨none, (some 9), .mov (.t 39), []⟩])
          .skip)))))
     (.reg [26] [
       ⟨none, (some 40), .bin .add (.t 26) (.c (.int .i64 1)), []⟩,
       ⟨none, (some 26), .mov (.t 40), []⟩]))))
def k370 : Cd :=
  (.seq
   (.reg [3, 4, 6, 7] [
     ⟨none, (some 3), .mov (.t 0), []⟩,
     ⟨none, (some 4), .mov (.t 1), []⟩,
     ⟨none, (some 6), .zero true [.int .i8 0, .int .i8 0], []⟩,
     ⟨none, (some 7), .mov (.c (.int .i64 0)), []⟩])
   (.seq
    (.reg [8, 9] [
      ⟨none, (some 13), .mov (.t 2), []⟩,
      ⟨none, (some 14), .idxA 2 (.t 13) (.c (.int .i64 0)), []⟩,
      ⟨none, (some 15), .ld 2 true (.t 14), []⟩,
      ⟨none, (some 16), .ldV 3 none 12 true, []⟩,
      ⟨none, (some 17), .mov (.t 2), []⟩,
      ⟨none, (some 18), .idxA 2 (.t 17) (.c (.int .i64 0)), []⟩,
      ⟨none, (some 19), .ld 2 true (.t 18), []⟩,
      ⟨none, (some 21), .ldV 4 none 12 true, []⟩,
      ⟨none, (some 8), .zero true [.int .i8 0, .int .i8 0], []⟩,
      ⟨none, (some 20), .call true 514 [.t 16, .t 19], []⟩,
      ⟨none, (some 22), .call true 324 [.t 20, .t 21], []⟩,
      ⟨none, (some 8), .stV 8 none 2 (.t 15), []⟩,
      ⟨none, (some 9), .mov (.t 22), []⟩])
    (.seq
     (.seq
      (.reg [24, 25, 26] [
        ⟨none, (some 23), .mov (.t 2), []⟩,
        ⟨none, (some 24), .slcA 2 (.t 23) (some (.c (.int .i64 1))) none none, []⟩,
        ⟨none, (some 25), .len (.t 24), []⟩,
        ⟨none, (some 26), .mov (.c (.int .i64 0)), []⟩])
      (.block 0
       (.loop b370_1)))
     (.seq
      (.reg [6, 7] [
        ⟨none, (some 41), .ldV 8 none 2 true, []⟩,
        ⟨none, (some 42), .mov (.t 9), []⟩,
        ⟨none, (some 6), .stV 6 none 2 (.t 41), []⟩,
        ⟨none, (some 7), .mov (.t 42), []⟩])
      .ret))))
def c370 : Fn := { np := 3, nt := 43, kind := .pure, res := [.v 6 2 true, .t 7], body := k370 }

/- impl.movesUpTo -/
def b371_1 : Cd :=
  (.seq
   (.seq
    (.reg [19] [
      ⟨none, (some 17), .mov (.t 5), []⟩,
      ⟨none, (some 18), .mov (.t 0), []⟩,
      ⟨none, (some 19), .bin .leq (.t 17) (.t 18), []⟩])
    (.cond (.t 19)
     .skip
     (.exit 2)))
   (.seq
    (.block 3
     (.reg [3] [
       ⟨none, (some 22), .mov (.t 3), []⟩,
       ⟨none, (some 23), .mov (.t 4), []⟩,
       ⟨none, (some 24), .conv .i8 (.t 23), []⟩,
       ⟨none, (some 25), .mov (.t 5), []⟩,
       ⟨none, (some 26), .conv .i8 (.t 25), []⟩,
       ⟨none, (some 27), .agg [.int .i8 0, .int .i8 0] [(0, 1, (.t 24)), (1, 1, (.t 26))], []⟩,
       ⟨none, (some 28), .bldS 2 1 [.int .i8 0, .int .i8 0] [(0, 2, (.t 27))], []⟩,
       ⟨none, (some 29), .app 2 2 (.t 22) (.t 28), []⟩,
       ⟨none, (some 3), .mov (.t 29), []⟩]))
    (.reg [5] [
      ⟨none, (some 20), .mov (.t 5), []⟩,
      ⟨none, (some 21), .bin .add (.t 20) (.c (.int .i64 1)), []⟩,
      ⟨none, (some 5), .mov (.t 21), []⟩])))
def b371_2 : Cd :=
  (.seq
   (.seq
    (.reg [12] [
      ⟨none, (some 10), .mov (.t 4), []⟩,
      ⟨none, (some 11), .mov (.t 0), []⟩,
      ⟨none, (some 12), .bin .leq (.t 10) (.t 11), []⟩])
    (.cond (.t 12)
     .skip
     (.exit 0)))
   (.seq
    (.block 1
     (.seq
      (.reg [5] [
        ⟨none, (some 15), .mov (.t 0), []⟩,
        ⟨none, (some 16), .un .neg (.t 15), []⟩,
        ⟨none, (some 5), .mov (.t 16), []⟩])
      (.block 2
       (.loop b371_1))))
    (.reg [4] [
      ⟨none, (some 13), .mov (.t 4), []⟩,
      ⟨none, (some 14), .bin .add (.t 13) (.c (.int .i64 1)), []⟩,
      ⟨none, (some 4), .mov (.t 14), []⟩])))
def k371 : Cd :=
  (.seq
   (.reg [2] [
     ⟨none, (some 2), .mov (.c (.slice none 0 0)), []⟩])
   (.seq
    (.reg [3] [
      ⟨none, (some 7), .bldS 2 0 [.int .i8 0, .int .i8 0] [], []⟩,
      ⟨none, (some 3), .mov (.t 7), []⟩])
    (.seq
     (.seq
      (.reg [4] [
        ⟨none, (some 8), .mov (.t 0), []⟩,
        ⟨none, (some 9), .un .neg (.t 8), []⟩,
        ⟨none, (some 4), .mov (.t 9), []⟩])
      (.block 0
       (.loop b371_2)))
     (.seq
      (.reg [6] [
        ⟨none, (some 6), .new 1 [.nilFunc], []⟩,
        ⟨none, none, .st 1 (.t 6) (.f 515), []⟩])
      (.seq
       (.reg [] [
         ⟨none, (some 30), .mov (.t 3), []⟩,
         ⟨none, (some 31), .mkf 518 [.t 6], []⟩,
         ⟨none, (some 32), .call false 517 [.t 30, .t 31], []⟩])
       (.seq
        (.reg [2] [
          ⟨none, (some 33), .mov (.t 3), []⟩,
          ⟨none, (some 2), .mov (.t 33), []⟩])
        .ret))))))
def c371 : Fn := { np := 1, nt := 34, kind := .pure, res := [.t 2], body := k371 }

/- spec.l07Best -/
def b372_1 : Cd :=
  (.seq
   (.seq
    (.reg [23] [
      ⟨none, (some 20), .mov (.t 11), []⟩,
      ⟨none, (some 21), .mov (.t 8), []⟩,
      ⟨none, (some 22), .len (.t 21), []⟩,
      ⟨none, (some 23), .bin .lss (.t 20) (.t 22), []⟩])
    (.cond (.t 23)
     .skip
     (.exit 0)))
   (.seq
    (.block 1
     (.seq
      (.reg [12] [
        ⟨none, (some 26), .mov (.t 0), []⟩,
        ⟨none, (some 27), .mov (.t 8), []⟩,
        ⟨none, (some 28), .mov (.t 11), []⟩,
        ⟨none, (some 29), .idxA 2 (.t 27) (.t 28), []⟩,
        ⟨none, (some 30), .fldP 0 (.t 29), []⟩,
        ⟨none, (some 31), .ld 1 false (.t 30), []⟩,
        ⟨none, (some 32), .conv .i64 (.t 31), []⟩,
        ⟨none, (some 33), .mov (.t 8), []⟩,
        ⟨none, (some 34), .mov (.t 11), []⟩,
        ⟨none, (some 35), .idxA 2 (.t 33) (.t 34), []⟩,
        ⟨none, (some 36), .fldP 1 (.t 35), []⟩,
        ⟨none, (some 37), .ld 1 false (.t 36), []⟩,
        ⟨none, (some 38), .conv .i64 (.t 37), []⟩,
        ⟨none, (some 12), .new 1 (zs 12 (.int .u16 0)), []⟩,
        ⟨none, (some 39), .call true 355 [.t 26, .t 32, .t 38], []⟩,
        ⟨none, none, .st 12 (.t 12) (.t 39), []⟩])
      (.seq
       (.reg [13] [
         ⟨none, (some 40), .mov (.t 1), []⟩,
         ⟨none, (some 41), .call true 325 [.t 12, .t 40], []⟩,
         ⟨none, (some 13), .mov (.t 41), []⟩])
       (.seq
        (.reg [44] [
          ⟨none, (some 42), .mov (.t 13), []⟩,
          ⟨none, (some 43), .mov (.t 10), []⟩,
          ⟨none, (some 44), .bin .lss (.t 42) (.t 43), []⟩])
        (.cond (.t 44)
         (.seq
          (.reg [9] [
            ⟨none, (some 45), .mov (.t 8), []⟩,
            ⟨none, (some 46), .mov (.t 11), []⟩,
            ⟨none, (some 47), .idxA 2 (.t 45) (.t 46), []⟩,
            ⟨none, (some 48), .ld 2 true (.t 47), []⟩,
            ⟨none, (some 9), .stV 9 none 2 (.t 48), []⟩])
          (.reg [10] [
            ⟨none, (some 49), .mov (.t 13), []⟩,
            ⟨none, (some 10), .mov (.t 49), []⟩]))
         .skip)))))
    (.reg [11] [
      ⟨none, (some 24), .mov (.t 11), []⟩,
      ⟨none, (some 25), .bin .add (.t 24) (.c (.int .i64 1)), []⟩,
      ⟨none, (some 11), .mov (.t 25), []⟩])))
def k372 : Cd :=
  (.seq
   (.reg [6, 7] [
     ⟨none, (some 6), .zero true [.int .i8 0, .int .i8 0], []⟩,
     ⟨none, (some 7), .mov (.c (.int .i64 0)), []⟩])
   (.seq
    (.reg [8] [
      ⟨none, (some 14), .mov (.t 2), []⟩,
      ⟨none, (some 15), .call true 354 [.t 14], []⟩,
      ⟨none, (some 8), .mov (.t 15), []⟩])
    (.seq
     (.reg [9] [
       ⟨none, (some 16), .agg [.int .i8 0, .int .i8 0] [], []⟩,
       ⟨none, (some 9), .zero true [.int .i8 0, .int .i8 0], []⟩,
       ⟨none, (some 9), .stV 9 none 2 (.t 16), []⟩])
     (.seq
      (.reg [10] [
        ⟨none, (some 17), .mov (.t 0), []⟩,
        ⟨none, (some 18), .mov (.t 1), []⟩,
        ⟨none, (some 19), .call true 325 [.t 17, .t 18], []⟩,
        ⟨none, (some 10), .mov (.t 19), []⟩])
      (.seq
       (.seq
        (.reg [11] [
          ⟨none, (some 11), .mov (.c (.int .i64 1)), []⟩])
        (.block 0
         (.loop b372_1)))
       (.seq
        (.reg [6, 7] [
          ⟨none, (some 50), .ldV 9 none 2 true, []⟩,
          ⟨none, (some 51), .mov (.t 10), []⟩,
          ⟨none, (some 6), .stV 6 none 2 (.t 50), []⟩,
          ⟨none, (some 7), .mov (.t 51), []⟩])
        .ret))))))
def c372 : Fn := { np := 3, nt := 52, kind := .pure, res := [.v 6 2 true, .t 7], body := k372 }

/- spec.l01Way -/
def k373 : Cd :=
  (.seq
   (.reg [6] [
     ⟨none, (some 6), .mov (.c (.int .i64 0)), []⟩])
   (.seq
    (.seq
     (.reg [9] [
       ⟨none, (some 7), .mov (.t 0), []⟩,
       ⟨none, (some 8), .call true 359 [.t 7], []⟩,
       ⟨none, (some 9), .un .not (.t 8), []⟩])
     (.cond (.t 9)
      (.seq
       (.reg [6] [
         ⟨none, (some 6), .mov (.c (.int .i64 1)), []⟩])
       .ret)
      .skip))
    (.seq
     (.seq
      (.reg [17] [
        ⟨none, (some 10), .mov (.t 1), []⟩,
        ⟨none, (some 11), .call true 304 [.t 10, .c (.int .i64 (-12)), .c (.int .i64 12)], []⟩,
        ⟨none, (some 12), .un .not (.t 11), []⟩,
        ⟨none, (some 13), .mov (.t 12), []⟩,
        ⟨(some (13, false)), (some 14), .mov (.t 2), []⟩,
        ⟨(some (13, false)), (some 15), .call true 304 [.t 14, .c (.int .i64 (-12)), .c (.int .i64 12)], []⟩,
        ⟨(some (13, false)), (some 16), .un .not (.t 15), []⟩,
        ⟨none, (some 17), .pick (.t 13) (.c (.bool true)) (.t 16), []⟩])
      (.cond (.t 17)
       (.seq
        (.reg [6] [
          ⟨none, (some 6), .mov (.c (.int .i64 2)), []⟩])
        .ret)
       .skip))
     (.seq
      (.reg [6] [
        ⟨none, (some 6), .mov (.c (.int .i64 0)), []⟩])
      .ret))))
def c373 : Fn := { np := 3, nt := 18, kind := .pure, res := [.t 6], body := k373 }

/- spec.l07Book -/
def k374 : Cd :=
  (.seq
   (.reg [4] [
     ⟨none, (some 4), .mov (.c (.int .i64 0)), []⟩])
   (.seq
    (.seq
     (.reg [7] [
       ⟨none, (some 5), .mov (.t 0), []⟩,
       ⟨none, (some 6), .call true 318 [.t 5], []⟩,
       ⟨none, (some 7), .un .not (.t 6), []⟩])
     (.cond (.t 7)
      (.seq
       (.reg [4] [
         ⟨none, (some 4), .mov (.c (.int .i64 1)), []⟩])
       .ret)
      .skip))
    (.seq
     (.seq
      (.reg [10] [
        ⟨none, (some 8), .mov (.t 1), []⟩,
        ⟨none, (some 9), .call true 353 [.t 8], []⟩,
        ⟨none, (some 10), .un .not (.t 9), []⟩])
      (.cond (.t 10)
       (.seq
        (.reg [4] [
          ⟨none, (some 4), .mov (.c (.int .i64 2)), []⟩])
        .ret)
       .skip))
     (.seq
      (.reg [4] [
        ⟨none, (some 4), .mov (.c (.int .i64 0)), []⟩])
      .ret))))
def c374 : Fn := { np := 2, nt := 11, kind := .pure, res := [.t 4], body := k374 }

/- spec.l07Track -/
def b375_1 : Cd :=
  (.seq
   (.seq
    (.reg [13] [
      ⟨none, (some 10), .mov (.t 6), []⟩,
      ⟨none, (some 11), .mov (.t 0), []⟩,
      ⟨none, (some 12), .len (.t 11), []⟩,
      ⟨none, (some 13), .bin .lss (.t 10) (.t 12), []⟩])
    (.cond (.t 13)
     .skip
     (.exit 0)))
   (.seq
    (.block 1
     (.seq
      (.reg [7] [
        ⟨none, (some 17), .mov (.t 0), []⟩,
        ⟨none, (some 18), .mov (.t 6), []⟩,
        ⟨none, (some 19), .bin .sub (.t 18) (.c (.int .i64 1)), []⟩,
        ⟨none, (some 20), .idxA 12 (.t 17) (.t 19), []⟩,
        ⟨none, (some 21), .mov (.t 0), []⟩,
        ⟨none, (some 22), .mov (.t 6), []⟩,
        ⟨none, (some 23), .idxA 12 (.t 21) (.t 22), []⟩,
        ⟨none, (some 24), .mov (.t 1), []⟩,
        ⟨none, (some 7), .zero true [.int .i8 0, .int .i8 0], []⟩,
        ⟨none, (some 25), .call true 372 [.t 20, .t 23, .t 24], []⟩,
        ⟨none, (some 16), .mov (.t 25), []⟩,
        ⟨none, (some 26), .ext (.t 16) 0, []⟩,
        ⟨none, (some 27), .ext (.t 16) 1, []⟩,
        ⟨none, (some 7), .stV 7 none 2 (.t 26), []⟩,
        ⟨none, (some 8), .mov (.t 27), []⟩])
      (.reg [5] [
        ⟨none, (some 28), .mov (.t 5), []⟩,
        ⟨none, (some 29), .ldV 7 none 2 true, []⟩,
        ⟨none, (some 30), .bldS 2 1 [.int .i8 0, .int .i8 0] [(0, 2, (.t 29))], []⟩,
        ⟨none, (some 31), .app 2 2 (.t 28) (.t 30), []⟩,
        ⟨none, (some 5), .mov (.t 31), []⟩])))
    (.reg [6] [
      ⟨none, (some 14), .mov (.t 6), []⟩,
      ⟨none, (some 15), .bin .add (.t 14) (.c (.int .i64 1)), []⟩,
      ⟨none, (some 6), .mov (.t 15), []⟩])))
def k375 : Cd :=
  (.seq
   (.reg [4] [
     ⟨none, (some 4), .mov (.c (.slice none 0 0)), []⟩])
   (.seq
    (.reg [5] [
      ⟨none, (some 9), .bldS 2 0 [.int .i8 0, .int .i8 0] [], []⟩,
      ⟨none, (some 5), .mov (.t 9), []⟩])
    (.seq
     (.seq
      (.reg [6] [
        ⟨none, (some 6), .mov (.c (.int .i64 1)), []⟩])
      (.block 0
       (.loop b375_1)))
     (.seq
      (.reg [4] [
        ⟨none, (some 32), .mov (.t 5), []⟩,
        ⟨none, (some 4), .mov (.t 32), []⟩])
      .ret))))
def c375 : Fn := { np := 2, nt := 33, kind := .pure, res := [.t 4], body := k375 }

/- impl.wordsOf -/
def k376 : Cd :=
  (.seq
   (.reg [2] [
     ⟨none, (some 2), .mov (.c (.slice none 0 0)), []⟩])
   (.seq
    (.seq
     (.reg [4] [
       ⟨none, (some 3), .mov (.t 0), []⟩,
       ⟨none, (some 4), .eq .s false (.t 3) (.c (.string ⟨#[]⟩)), []⟩])
     (.cond (.t 4)
      (.seq
       (.reg [2] [
         ⟨none, (some 2), .mov (.c (.slice none 0 0)), []⟩])
       .ret)
      .skip))
    (.seq
     (.reg [2] [
       ⟨none, (some 5), .mov (.t 0), []⟩,
       ⟨none, (some 6), .call false 485 [.t 5, .c (.string ⟨#[32]⟩)], []⟩,
       ⟨none, (some 2), .mov (.t 6), []⟩])
     .ret)))
def c376 : Fn := { np := 1, nt := 7, kind := .pure, res := [.t 2], body := k376 }

/- impl.readDecimal -/
def k378 : Cd :=
  (.seq
   (.reg [6, 7] [
     ⟨none, (some 6), .mov (.c (.int .i64 0)), []⟩,
     ⟨none, (some 7), .mov (.c (.bool false)), []⟩])
   (.seq
    (.reg [8, 9] [
      ⟨none, (some 11), .mov (.t 0), []⟩,
      ⟨none, (some 12), .call false 521 [.t 11, .c (.int .i64 10), .c (.int .i64 64)], []⟩,
      ⟨none, (some 10), .mov (.t 12), []⟩,
      ⟨none, (some 13), .ext (.t 10) 0, []⟩,
      ⟨none, (some 14), .ext (.t 10) 1, []⟩,
      ⟨none, (some 8), .mov (.t 13), []⟩,
      ⟨none, (some 9), .mov (.t 14), []⟩])
    (.seq
     (.reg [6, 7] [
       ⟨none, (some 15), .mov (.t 8), []⟩,
       ⟨none, (some 16), .mov (.t 9), []⟩,
       ⟨none, (some 17), .eq .i false (.t 16) (.c (.nilIface)), []⟩,
       ⟨none, (some 18), .mov (.t 17), []⟩,
       ⟨(some (18, true)), (some 19), .mov (.t 8), []⟩,
       ⟨(some (18, true)), (some 20), .mov (.t 1), []⟩,
       ⟨(some (18, true)), (some 21), .mov (.t 2), []⟩,
       ⟨(some (18, true)), (some 22), .call true 295 [.t 19, .t 20, .t 21], []⟩,
       ⟨none, (some 23), .pick (.t 18) (.t 22) (.c (.bool false)), []⟩,
       ⟨none, (some 24), .mov (.t 23), []⟩,
       ⟨(some (24, true)), (some 25), .mov (.t 8), []⟩,
       ⟨(some (24, true)), (some 26), .call true 379 [.t 25], []⟩,
       ⟨(some (24, true)), (some 27), .mov (.t 0), []⟩,
       ⟨(some (24, true)), (some 28), .eq .s false (.t 26) (.t 27), []⟩,
       ⟨none, (some 29), .pick (.t 24) (.t 28) (.c (.bool false)), []⟩,
       ⟨none, (some 6), .mov (.t 15), []⟩,
       ⟨none, (some 7), .mov (.t 29), []⟩])
     .ret)))
def c378 : Fn := { np := 3, nt := 30, kind := .pure, res := [.t 6, .t 7], body := k378 }

/- impl.decimal -/
def k379 : Cd :=
  (.seq
   (.reg [2] [
     ⟨none, (some 2), .mov (.c (.string ⟨#[]⟩)), []⟩])
   (.seq
    (.reg [2] [
      ⟨none, (some 3), .mov (.t 0), []⟩,
      ⟨none, (some 4), .call false 522 [.t 3, .c (.int .i64 10)], []⟩,
      ⟨none, (some 2), .mov (.t 4), []⟩])
    .ret))
def c379 : Fn := { np := 1, nt := 5, kind := .pure, res := [.t 2], body := k379 }

/- (impl.Frame).count -/
def b393_1 : Cd :=
  (.seq
   (.reg [8] [
     ⟨none, (some 8), .bin .lss (.t 7) (.c (.int .i64 12)), []⟩])
   (.seq
    (.cond (.t 8)
     .skip
     (.exit 0))
    (.seq
     (.block 1
      (.seq
       (.reg [5] [
         ⟨none, (some 9), .idx 12 1 false (.t 6) (.t 7), []⟩,
         ⟨none, (some 5), .mov (.t 9), []⟩])
       (.reg [3] [
         ⟨none, (some 10), .mov (.t 3), []⟩,
         ⟨none, (some 11), .mov (.t 5), []⟩,
         ⟨none, (some 12), .call true 530 [.t 11], []⟩,
         ⟨none, (some 13), .bin .add (.t 10) (.t 12), []⟩,
         ⟨none, (some 3), .mov (.t 13), []⟩])))
     (.reg [7] [
       ⟨none, (some 14), .bin .add (.t 7) (.c (.int .i64 1)), []⟩,
       ⟨none, (some 7), .mov (.t 14), []⟩]))))
def k393 : Cd :=
  (.seq
   (.reg [1, 2] [
     ⟨none, (some 1), .mov (.t 0), []⟩,
     ⟨none, (some 2), .mov (.c (.int .i64 0)), []⟩])
   (.seq
    (.reg [3] [
      ⟨none, (some 3), .mov (.c (.int .i64 0)), []⟩])
    (.seq
     (.seq
      (.reg [6, 7] [
        ⟨none, (some 6), .ldV 1 none 12 true, []⟩,
        ⟨none, (some 7), .mov (.c (.int .i64 0)), []⟩])
      (.block 0
       (.loop b393_1)))
     (.seq
      (.reg [2] [
        ⟨none, (some 15), .mov (.t 3), []⟩,
        ⟨none, (some 2), .mov (.t 15), []⟩])
      .ret))))
def c393 : Fn := { np := 1, nt := 16, kind := .pure, res := [.t 2], body := k393 }

/- spec.l01Count -/
def k409 : Cd :=
  (.seq
   (.reg [2] [
     ⟨none, (some 2), .mov (.c (.int .i64 0)), []⟩])
   (.seq
    (.reg [2] [
      ⟨none, (some 3), .mov (.t 0), []⟩,
      ⟨none, (some 4), .call true 440 [.t 3], []⟩,
      ⟨none, (some 5), .len (.t 4), []⟩,
      ⟨none, (some 2), .mov (.t 5), []⟩])
    .ret))
def c409 : Fn := { np := 1, nt := 6, kind := .pure, res := [.t 2], body := k409 }

/- spec.l01Dots -/
def b440_1 : Cd :=
  (.seq
   (.seq
    (.reg [12] [
      ⟨none, (some 11), .mov (.t 5), []⟩,
      ⟨none, (some 12), .bin .lss (.t 11) (.c (.int .i64 12)), []⟩])
    (.cond (.t 12)
     .skip
     (.exit 2)))
   (.seq
    (.block 3
     (.seq
      (.reg [18] [
        ⟨none, (some 15), .mov (.t 0), []⟩,
        ⟨none, (some 16), .mov (.t 5), []⟩,
        ⟨none, (some 17), .mov (.t 4), []⟩,
        ⟨none, (some 18), .call true 456 [.t 15, .t 16, .t 17], []⟩])
      (.cond (.t 18)
       (.reg [3] [
         ⟨none, (some 19), .mov (.t 3), []⟩,
         ⟨none, (some 20), .mov (.t 5), []⟩,
         ⟨none, (some 21), .conv .i8 (.t 20), []⟩,
         ⟨none, (some 22), .mov (.t 4), []⟩,
         ⟨none, (some 23), .conv .i8 (.t 22), []⟩,
         ⟨none, (some 24), .agg [.int .i8 0, .int .i8 0] [(0, 1, (.t 21)), (1, 1, (.t 23))], []⟩,
         ⟨none, (some 25), .bldS 2 1 [.int .i8 0, .int .i8 0] [(0, 2, (.t 24))], []⟩,
         ⟨none, (some 26), .app 2 2 (.t 19) (.t 25), []⟩,
         ⟨none, (some 3), .mov (.t 26), []⟩])
       .skip)))
    (.reg [5] [
      ⟨none, (some 13), .mov (.t 5), []⟩,
      ⟨none, (some 14), .bin .add (.t 13) (.c (.int .i64 1)), []⟩,
      ⟨none, (some 5), .mov (.t 14), []⟩])))
def b440_2 : Cd :=
  (.seq
   (.seq
    (.reg [8] [
      ⟨none, (some 7), .mov (.t 4), []⟩,
      ⟨none, (some 8), .bin .lss (.t 7) (.c (.int .i64 12)), []⟩])
    (.cond (.t 8)
     .skip
     (.exit 0)))
   (.seq
    (.block 1
     (.seq
      (.reg [5] [
        ⟨none, (some 5), .mov (.c (.int .i64 0)), []⟩])
      (.block 2
       (.loop b440_1))))
    (.reg [4] [
      ⟨none, (some 9), .mov (.t 4), []⟩,
      ⟨none, (some 10), .bin .add (.t 9) (.c (.int .i64 1)), []⟩,
      ⟨none, (some 4), .mov (.t 10), []⟩])))
def k440 : Cd :=
  (.seq
   (.reg [2] [
     ⟨none, (some 2), .mov (.c (.slice none 0 0)), []⟩])
   (.seq
    (.reg [3] [
      ⟨none, (some 6), .bldS 2 0 [.int .i8 0, .int .i8 0] [], []⟩,
      ⟨none, (some 3), .mov (.t 6), []⟩])
    (.seq
     (.seq
      (.reg [4] [
        ⟨none, (some 4), .mov (.c (.int .i64 0)), []⟩])
      (.block 0
       (.loop b440_2)))
     (.seq
      (.reg [2] [
        ⟨none, (some 27), .mov (.t 3), []⟩,
        ⟨none, (some 2), .mov (.t 27), []⟩])
      .ret))))
def c440 : Fn := { np := 1, nt := 28, kind := .pure, res := [.t 2], body := k440 }

/- (impl.Frame).mix -/
def b443_1 : Cd :=
  (.seq
   (.reg [11] [
     ⟨none, (some 11), .bin .lss (.t 10) (.c (.int .i64 12)), []⟩])
   (.seq
    (.cond (.t 11)
     .skip
     (.exit 0))
    (.seq
     (.block 1
      (.seq
       (.reg [7, 8] [
         ⟨none, (some 12), .mov (.t 10), []⟩,
         ⟨none, (some 13), .idx 12 1 false (.t 9) (.t 10), []⟩,
         ⟨none, (some 7), .mov (.t 12), []⟩,
         ⟨none, (some 8), .mov (.t 13), []⟩])
       (.reg [3] [
         ⟨none, (some 14), .mov (.t 7), []⟩,
         ⟨none, (some 15), .mov (.t 2), []⟩,
         ⟨none, (some 16), .mov (.t 8), []⟩,
         ⟨none, (some 17), .mov (.t 7), []⟩,
         ⟨none, (some 18), .adrI 4 none 12 1 (.t 17), []⟩,
         ⟨none, (some 19), .ldV 4 (some 18) 1 false, []⟩,
         ⟨none, (some 20), .callv (.t 15) [.t 16, .t 19], []⟩,
         ⟨none, (some 21), .adrI 3 none 12 1 (.t 14), []⟩,
         ⟨none, (some 3), .stV 3 (some 21) 1 (.t 20), []⟩])))
     (.reg [10] [
       ⟨none, (some 22), .bin .add (.t 10) (.c (.int .i64 1)), []⟩,
       ⟨none, (some 10), .mov (.t 22), []⟩]))))
def k443 : Cd :=
  (.seq
   (.reg [3, 4, 6] [
     ⟨none, (some 3), .mov (.t 0), []⟩,
     ⟨none, (some 4), .mov (.t 1), []⟩,
     ⟨none, (some 6), .zero true (zs 12 (.int .u16 0)), []⟩])
   (.seq
    (.seq
     (.reg [9, 10] [
       ⟨none, (some 9), .ldV 3 none 12 true, []⟩,
       ⟨none, (some 10), .mov (.c (.int .i64 0)), []⟩])
     (.block 0
      (.loop b443_1)))
    (.seq
     (.reg [6] [
       ⟨none, (some 23), .ldV 3 none 12 true, []⟩,
       ⟨none, (some 6), .stV 6 none 12 (.t 23), []⟩])
     .ret)))
def c443 : Fn := { np := 3, nt := 24, kind := .pure, res := [.v 6 12 true], body := k443 }

/- slices.ContainsFunc[[]uint16,uint16] -/
def k445 : Cd :=
  (.seq
   (.reg [4] [
     ⟨none, (some 4), .mov (.c (.bool false)), []⟩])
   (.seq
    (.reg [4] [
      ⟨none, (some 5), .mov (.t 0), []⟩,
      ⟨none, (some 6), .mov (.t 1), []⟩,
      ⟨none, (some 7), .call true 547 [.t 5, .t 6], []⟩,
      ⟨none, (some 8), .bin .geq (.t 7) (.c (.int .i64 0)), []⟩,
      ⟨none, (some 4), .mov (.t 8), []⟩])
    .ret))
def c445 : Fn := { np := 2, nt := 9, kind := .pure, res := [.t 4], body := k445 }

/- impl.ValidFrame$1 -/
def k446 : Cd :=
  (.seq
   (.reg [2] [
     ⟨none, (some 2), .mov (.c (.bool false)), []⟩])
   (.seq
    (.reg [2] [
      ⟨none, (some 3), .mov (.t 0), []⟩,
      ⟨none, (some 4), .bin .gtr (.t 3) (.c (.int .u16 4095)), []⟩,
      ⟨none, (some 2), .mov (.t 4), []⟩])
    .ret))
def c446 : Fn := { np := 1, nt := 5, kind := .pure, res := [.t 2], body := k446 }

/- spec.l01Has -/
def k456 : Cd :=
  (.seq
   (.reg [6] [
     ⟨none, (some 6), .mov (.c (.bool false)), []⟩])
   (.seq
    (.reg [6] [
      ⟨none, (some 7), .mov (.t 1), []⟩,
      ⟨none, (some 8), .mov (.t 2), []⟩,
      ⟨none, (some 9), .call true 342 [.t 7, .t 8], []⟩,
      ⟨none, (some 10), .mov (.t 9), []⟩,
      ⟨(some (10, true)), (some 11), .mov (.t 0), []⟩,
      ⟨(some (10, true)), (some 12), .mov (.t 2), []⟩,
      ⟨(some (10, true)), (some 13), .nil (.t 11), []⟩,
      ⟨(some (10, true)), (some 14), .idxP 12 1 (.t 13) (.t 12), []⟩,
      ⟨(some (10, true)), (some 15), .ld 1 false (.t 14), []⟩,
      ⟨(some (10, true)), (some 16), .mov (.t 1), []⟩,
      ⟨(some (10, true)), (some 17), .conv .u64 (.t 16), []⟩,
      ⟨(some (10, true)), (some 18), .bin .shr (.t 15) (.t 17), []⟩,
      ⟨(some (10, true)), (some 19), .bin .rem (.t 18) (.c (.int .u16 2)), []⟩,
      ⟨(some (10, true)), (some 20), .bin .eql (.t 19) (.c (.int .u16 1)), []⟩,
      ⟨none, (some 21), .pick (.t 10) (.t 20) (.c (.bool false)), []⟩,
      ⟨none, (some 6), .mov (.t 21), []⟩])
    .ret))
def c456 : Fn := { np := 3, nt := 22, kind := .pure, res := [.t 6], body := k456 }

/- (*spec.l00Src).pick -/
def k459 : Cd :=
  (.seq
   (.reg [4] [
     ⟨none, (some 4), .mov (.c (.int .i64 0)), []⟩])
   (.seq
    (.seq
     (.reg [7] [
       ⟨none, (some 6), .mov (.t 1), []⟩,
       ⟨none, (some 7), .bin .leq (.t 6) (.c (.int .i64 1)), []⟩])
     (.cond (.t 7)
      (.seq
       (.reg [4] [
         ⟨none, (some 4), .mov (.c (.int .i64 0)), []⟩])
       .ret)
      .skip))
    (.seq
     (.reg [5] [
       ⟨none, (some 8), .mov (.t 0), []⟩,
       ⟨none, (some 9), .call false 550 [.t 8], []⟩,
       ⟨none, (some 5), .mov (.t 9), []⟩])
     (.seq
      (.seq
       (.reg [11] [
         ⟨none, (some 10), .mov (.t 1), []⟩,
         ⟨none, (some 11), .bin .gtr (.t 10) (.c (.int .i64 200)), []⟩])
       (.cond (.t 11)
        (.reg [5] [
          ⟨none, (some 12), .mov (.t 5), []⟩,
          ⟨none, (some 13), .bin .mul (.t 12) (.c (.int .i64 256)), []⟩,
          ⟨none, (some 14), .mov (.t 0), []⟩,
          ⟨none, (some 15), .call false 550 [.t 14], []⟩,
          ⟨none, (some 16), .bin .add (.t 13) (.t 15), []⟩,
          ⟨none, (some 5), .mov (.t 16), []⟩])
        .skip))
      (.seq
       (.reg [4] [
         ⟨none, (some 17), .mov (.t 5), []⟩,
         ⟨none, (some 18), .mov (.t 1), []⟩,
         ⟨none, (some 19), .bin .rem (.t 17) (.t 18), []⟩,
         ⟨none, (some 4), .mov (.t 19), []⟩])
       .ret)))))
def c459 : Fn := { np := 2, nt := 20, kind := .args, res := [.t 4], body := k459 }

/- slices.IndexFunc[[]impl.Frame,impl.Frame] -/
def b474_1 : Cd :=
  (.seq
   (.reg [9] [
     ⟨none, (some 9), .bin .lss (.t 8) (.t 7), []⟩])
   (.seq
    (.cond (.t 9)
     .skip
     (.exit 0))
    (.seq
     (.block 1
      (.seq
       (.reg [5] [
         ⟨none, (some 10), .mov (.t 8), []⟩,
         ⟨none, (some 5), .mov (.t 10), []⟩])
       (.seq
        (.reg [16] [
          ⟨none, (some 11), .mov (.t 1), []⟩,
          ⟨none, (some 12), .mov (.t 0), []⟩,
          ⟨none, (some 13), .mov (.t 5), []⟩,
          ⟨none, (some 14), .idxA 12 (.t 12) (.t 13), []⟩,
          ⟨none, (some 15), .ld 12 true (.t 14), []⟩,
          ⟨none, (some 16), .callv (.t 11) [.t 15], []⟩])
        (.cond (.t 16)
         (.seq
          (.reg [4] [
            ⟨none, (some 17), .mov (.t 5), []⟩,
            ⟨none, (some 4), .mov (.t 17), []⟩])
          .ret)
         .skip))))
     (.reg [8] [
       ⟨none, (some 18), .bin .add (.t 8) (.c (.int .i64 1)), []⟩,
       ⟨none, (some 8), .mov (.t 18), []⟩]))))
def k474 : Cd :=
  (.seq
   (.reg [4] [
     ⟨none, (some 4), .mov (.c (.int .i64 0)), []⟩])
   (.seq
    (.seq
     (.reg [7, 8] [
       ⟨none, (some 6), .mov (.t 0), []⟩,
       ⟨none, (some 7), .len (.t 6), []⟩,
       ⟨none, (some 8), .mov (.c (.int .i64 0)), []⟩])
     (.block 0
      (.loop b474_1)))
    (.seq
     (.reg [4] [
       ⟨none, (some 4), .mov (.c (.int .i64 (-1))), []⟩])
     .ret)))
def c474 : Fn := { np := 2, nt := 19, kind := .pure, res := [.t 4], body := k474 }

/- slices.ContainsFunc[[]impl.Frame,impl.Frame] -/
def k505 : Cd :=
  (.seq
   (.reg [4] [
     ⟨none, (some 4), .mov (.c (.bool false)), []⟩])
   (.seq
    (.reg [4] [
      ⟨none, (some 5), .mov (.t 0), []⟩,
      ⟨none, (some 6), .mov (.t 1), []⟩,
      ⟨none, (some 7), .call true 474 [.t 5, .t 6], []⟩,
      ⟨none, (some 8), .bin .geq (.t 7) (.c (.int .i64 0)), []⟩,
      ⟨none, (some 4), .mov (.t 8), []⟩])
    .ret))
def c505 : Fn := { np := 2, nt := 9, kind := .pure, res := [.t 4], body := k505 }

/- impl.areFrames$1 -/
def k506 : Cd :=
  (.seq
   (.reg [1, 2] [
     ⟨none, (some 1), .mov (.t 0), []⟩,
     ⟨none, (some 2), .mov (.c (.bool false)), []⟩])
   (.seq
    (.reg [2] [
      ⟨none, (some 3), .ldV 1 none 12 true, []⟩,
      ⟨none, (some 4), .call true 234 [.t 3], []⟩,
      ⟨none, (some 5), .un .not (.t 4), []⟩,
      ⟨none, (some 2), .mov (.t 5), []⟩])
    .ret))
def c506 : Fn := { np := 1, nt := 6, kind := .pure, res := [.t 2], body := k506 }

/- spec.l07Far -/
def k510 : Cd :=
  (.seq
   (.reg [1, 2] [
     ⟨none, (some 1), .mov (.t 0), []⟩,
     ⟨none, (some 2), .mov (.c (.int .i64 0)), []⟩])
   (.seq
    (.reg [3] [
      ⟨none, (some 5), .adrF 1 none 0, []⟩,
      ⟨none, (some 6), .ldV 1 (some 5) 1 false, []⟩,
      ⟨none, (some 7), .conv .i64 (.t 6), []⟩,
      ⟨none, (some 3), .mov (.t 7), []⟩])
    (.seq
     (.reg [4] [
       ⟨none, (some 8), .adrF 1 none 1, []⟩,
       ⟨none, (some 9), .ldV 1 (some 8) 1 false, []⟩,
       ⟨none, (some 10), .conv .i64 (.t 9), []⟩,
       ⟨none, (some 4), .mov (.t 10), []⟩])
     (.seq
      (.reg [2] [
        ⟨none, (some 11), .mov (.t 3), []⟩,
        ⟨none, (some 12), .mov (.t 3), []⟩,
        ⟨none, (some 13), .un .neg (.t 12), []⟩,
        ⟨none, (some 14), .call true 549 [.t 11, .t 13], []⟩,
        ⟨none, (some 15), .mov (.t 4), []⟩,
        ⟨none, (some 16), .mov (.t 4), []⟩,
        ⟨none, (some 17), .un .neg (.t 16), []⟩,
        ⟨none, (some 18), .call true 549 [.t 15, .t 17], []⟩,
        ⟨none, (some 19), .bin .add (.t 14) (.t 18), []⟩,
        ⟨none, (some 2), .mov (.t 19), []⟩])
      .ret))))
def c510 : Fn := { np := 1, nt := 20, kind := .pure, res := [.t 2], body := k510 }

/- (impl.Frame).differ$1 -/
def k512 : Cd :=
  (.seq
   (.reg [4] [
     ⟨none, (some 4), .mov (.c (.int .u16 0)), []⟩])
   (.seq
    (.reg [4] [
      ⟨none, (some 5), .mov (.t 0), []⟩,
      ⟨none, (some 6), .mov (.t 1), []⟩,
      ⟨none, (some 7), .bin .xor (.t 5) (.t 6), []⟩,
      ⟨none, (some 4), .mov (.t 7), []⟩])
    .ret))
def c512 : Fn := { np := 2, nt := 8, kind := .pure, res := [.t 4], body := k512 }

/- (*spec.l00Src).one -/
def k513 : Cd :=
  (.seq
   (.reg [4] [
     ⟨none, (some 4), .mov (.c (.bool false)), []⟩])
   (.seq
    (.reg [4] [
      ⟨none, (some 5), .mov (.t 0), []⟩,
      ⟨none, (some 6), .mov (.t 1), []⟩,
      ⟨none, (some 7), .call false 459 [.t 5, .t 6], []⟩,
      ⟨none, (some 8), .bin .eql (.t 7) (.c (.int .i64 0)), []⟩,
      ⟨none, (some 4), .mov (.t 8), []⟩])
    .ret))
def c513 : Fn := { np := 2, nt := 9, kind := .args, res := [.t 4], body := k513 }

/- (impl.Frame).by -/
def k514 : Cd :=
  (.seq
   (.reg [2, 3, 4] [
     ⟨none, (some 2), .mov (.t 0), []⟩,
     ⟨none, (some 3), .mov (.t 1), []⟩,
     ⟨none, (some 4), .zero true (zs 12 (.int .u16 0)), []⟩])
   (.seq
    (.reg [4] [
      ⟨none, (some 5), .ldV 2 none 12 true, []⟩,
      ⟨none, (some 6), .adrF 3 none 0, []⟩,
      ⟨none, (some 7), .ldV 3 (some 6) 1 false, []⟩,
      ⟨none, (some 8), .conv .i64 (.t 7), []⟩,
      ⟨none, (some 9), .adrF 3 none 1, []⟩,
      ⟨none, (some 10), .ldV 3 (some 9) 1 false, []⟩,
      ⟨none, (some 11), .conv .i64 (.t 10), []⟩,
      ⟨none, (some 12), .call true 358 [.t 5, .t 8, .t 11], []⟩,
      ⟨none, (some 4), .stV 4 none 12 (.t 12), []⟩])
    .ret))
def c514 : Fn := { np := 2, nt := 13, kind := .pure, res := [.v 4 12 true], body := k514 }

/- impl.movesUpTo$1 -/
def k515 : Cd :=
  (.seq
   (.reg [1, 2] [
     ⟨none, (some 1), .mov (.t 0), []⟩,
     ⟨none, (some 2), .mov (.c (.int .i64 0)), []⟩])
   (.seq
    (.reg [2] [
      ⟨none, (some 3), .adrF 1 none 0, []⟩,
      ⟨none, (some 4), .ldV 1 (some 3) 1 false, []⟩,
      ⟨none, (some 5), .conv .i64 (.t 4), []⟩,
      ⟨none, (some 7), .adrF 1 none 1, []⟩,
      ⟨none, (some 8), .ldV 1 (some 7) 1 false, []⟩,
      ⟨none, (some 9), .conv .i64 (.t 8), []⟩,
      ⟨none, (some 6), .call true 516 [.t 5], []⟩,
      ⟨none, (some 10), .call true 516 [.t 9], []⟩,
      ⟨none, (some 11), .bin .add (.t 6) (.t 10), []⟩,
      ⟨none, (some 2), .mov (.t 11), []⟩])
    .ret))
def c515 : Fn := { np := 1, nt := 12, kind := .pure, res := [.t 2], body := k515 }

/- impl.size -/
def k516 : Cd :=
  (.seq
   (.reg [2] [
     ⟨none, (some 2), .mov (.c (.int .i64 0)), []⟩])
   (.seq
    (.reg [2] [
      ⟨none, (some 3), .mov (.t 0), []⟩,
      ⟨none, (some 4), .mov (.t 0), []⟩,
      ⟨none, (some 5), .un .neg (.t 4), []⟩,
      ⟨none, (some 6), .mx (.t 3) (.t 5), []⟩,
      ⟨none, (some 2), .mov (.t 6), []⟩])
    .ret))
def c516 : Fn := { np := 1, nt := 7, kind := .pure, res := [.t 2], body := k516 }

/- slices.SortStableFunc[[]impl.Move,impl.Move] -/
def k517 : Cd :=
  (.reg [] [
    ⟨none, (some 4), .mov (.t 0), []⟩,
    ⟨none, (some 5), .mov (.t 0), []⟩,
    ⟨none, (some 6), .len (.t 5), []⟩,
    ⟨none, (some 7), .mov (.t 1), []⟩,
    ⟨none, (some 8), .call false 565 [.t 4, .t 6, .t 7], []⟩])
def c517 : Fn := { np := 2, nt := 9, kind := .args, res := [], body := k517 }

/- impl.movesUpTo$2 -/
def k518 : Cd :=
  (.seq
   (.reg [3, 4, 5] [
     ⟨none, (some 3), .mov (.t 0), []⟩,
     ⟨none, (some 4), .mov (.t 1), []⟩,
     ⟨none, (some 5), .mov (.c (.int .i64 0)), []⟩])
   (.seq
    (.reg [5] [
      ⟨none, (some 6), .ld 1 false (.t 2), []⟩,
      ⟨none, (some 7), .ldV 3 none 2 true, []⟩,
      ⟨none, (some 9), .ld 1 false (.t 2), []⟩,
      ⟨none, (some 10), .ldV 4 none 2 true, []⟩,
      ⟨none, (some 8), .callv (.t 6) [.t 7], []⟩,
      ⟨none, (some 11), .callv (.t 9) [.t 10], []⟩,
      ⟨none, (some 12), .call true 519 [.t 8, .t 11], []⟩,
      ⟨none, (some 5), .mov (.t 12), []⟩])
    .ret))
def c518 : Fn := { np := 3, nt := 13, kind := .pure, res := [.t 5], body := k518 }

/- cmp.Compare[int64] -/
def k519 : Cd :=
  (.seq
   (.reg [4] [
     ⟨none, (some 4), .mov (.c (.int .i64 0)), []⟩])
   (.seq
    (.reg [5] [
      ⟨none, (some 7), .mov (.t 0), []⟩,
      ⟨none, (some 8), .call true 566 [.t 7], []⟩,
      ⟨none, (some 5), .mov (.t 8), []⟩])
    (.seq
     (.reg [6] [
       ⟨none, (some 9), .mov (.t 1), []⟩,
       ⟨none, (some 10), .call true 566 [.t 9], []⟩,
       ⟨none, (some 6), .mov (.t 10), []⟩])
     (.seq
      (.seq
       (.reg [11] [
         ⟨none, (some 11), .mov (.t 5), []⟩])
       (.cond (.t 11)
        (.seq
         (.seq
          (.reg [12] [
            ⟨none, (some 12), .mov (.t 6), []⟩])
          (.cond (.t 12)
           (.seq
            (.reg [4] [
              ⟨none, (some 4), .mov (.c (.int .i64 0)), []⟩])
            .ret)
           .skip))
         (.seq
          (.reg [4] [
            ⟨none, (some 4), .mov (.c (.int .i64 (-1))), []⟩])
          .ret))
        .skip))
      (.seq
       (.seq
        (.reg [13] [
          ⟨none, (some 13), .mov (.t 6), []⟩])
        (.cond (.t 13)
         (.seq
          (.reg [4] [
            ⟨none, (some 4), .mov (.c (.int .i64 1)), []⟩])
          .ret)
         .skip))
       (.seq
        (.seq
         (.reg [16] [
           ⟨none, (some 14), .mov (.t 0), []⟩,
           ⟨none, (some 15), .mov (.t 1), []⟩,
           ⟨none, (some 16), .bin .lss (.t 14) (.t 15), []⟩])
         (.cond (.t 16)
          (.seq
           (.reg [4] [
             ⟨none, (some 4), .mov (.c (.int .i64 (-1))), []⟩])
           .ret)
          .skip))
        (.seq
         (.seq
          (.reg [19] [
            ⟨none, (some 17), .mov (.t 0), []⟩,
            ⟨none, (some 18), .mov (.t 1), []⟩,
            ⟨none, (some 19), .bin .gtr (.t 17) (.t 18), []⟩])
          (.cond (.t 19)
           (.seq
            (.reg [4] [
              ⟨none, (some 4), .mov (.c (.int .i64 1)), []⟩])
            .ret)
           .skip))
         (.seq
          (.reg [4] [
            ⟨none, (some 4), .mov (.c (.int .i64 0)), []⟩])
          .ret))))))))
def c519 : Fn := { np := 2, nt := 20, kind := .pure, res := [.t 4], body := k519 }

/- math/bits.OnesCount16 -/
def k530 : Cd :=
  (.seq
   (.reg [2] [
     ⟨none, (some 2), .mov (.c (.int .i64 0)), []⟩])
   (.seq
    (.reg [2] [
      ⟨none, (some 3), .mov (.t 0), []⟩,
      ⟨none, (some 4), .bin .shr (.t 3) (.c (.int .u64 8)), []⟩,
      ⟨none, (some 5), .idxs (.c (.string ⟨#[0, 1, 1, 2, 1, 2, 2, 3, 1, 2, 2, 3, 2, 3, 3, 4, 1, 2, 2, 3, 2, 3, 3, 4, 2, 3, 3, 4, 3, 4, 4, 5, 1, 2, 2, 3, 2, 3, 3, 4, 2, 3, 3, 4, 3, 4, 4, 5, 2, 3, 3, 4, 3, 4, 4, 5, 3, 4, 4, 5, 4, 5, 5, 6, 1, 2, 2, 3, 2, 3, 3, 4, 2, 3, 3, 4, 3, 4, 4, 5, 2, 3, 3, 4, 3, 4, 4, 5, 3, 4, 4, 5, 4, 5, 5, 6, 2, 3, 3, 4, 3, 4, 4, 5, 3, 4, 4, 5, 4, 5, 5, 6, 3, 4, 4, 5, 4, 5, 5, 6, 4, 5, 5, 6, 5, 6, 6, 7, 1, 2, 2, 3, 2, 3, 3, 4, 2, 3, 3, 4, 3, 4, 4, 5, 2, 3, 3, 4, 3, 4, 4, 5, 3, 4, 4, 5, 4, 5, 5, 6, 2, 3, 3, 4, 3, 4, 4, 5, 3, 4, 4, 5, 4, 5, 5, 6, 3, 4, 4, 5, 4, 5, 5, 6, 4, 5, 5, 6, 5, 6, 6, 7, 2, 3, 3, 4, 3, 4, 4, 5, 3, 4, 4, 5, 4, 5, 5, 6, 3, 4, 4, 5, 4, 5, 5, 6, 4, 5, 5, 6, 5, 6, 6, 7, 3, 4, 4, 5, 4, 5, 5, 6, 4, 5, 5, 6, 5, 6, 6, 7, 4, 5, 5, 6, 5, 6, 6, 7, 5, 6, 6, 7, 6, 7, 7, 8]⟩)) (.t 4), []⟩,
      ⟨none, (some 6), .mov (.t 0), []⟩,
      ⟨none, (some 7), .bin .and (.t 6) (.c (.int .u16 255)), []⟩,
      ⟨none, (some 8), .idxs (.c (.string ⟨#[0, 1, 1, 2, 1, 2, 2, 3, 1, 2, 2, 3, 2, 3, 3, 4, 1, 2, 2, 3, 2, 3, 3, 4, 2, 3, 3, 4, 3, 4, 4, 5, 1, 2, 2, 3, 2, 3, 3, 4, 2, 3, 3, 4, 3, 4, 4, 5, 2, 3, 3, 4, 3, 4, 4, 5, 3, 4, 4, 5, 4, 5, 5, 6, 1, 2, 2, 3, 2, 3, 3, 4, 2, 3, 3, 4, 3, 4, 4, 5, 2, 3, 3, 4, 3, 4, 4, 5, 3, 4, 4, 5, 4, 5, 5, 6, 2, 3, 3, 4, 3, 4, 4, 5, 3, 4, 4, 5, 4, 5, 5, 6, 3, 4, 4, 5, 4, 5, 5, 6, 4, 5, 5, 6, 5, 6, 6, 7, 1, 2, 2, 3, 2, 3, 3, 4, 2, 3, 3, 4, 3, 4, 4, 5, 2, 3, 3, 4, 3, 4, 4, 5, 3, 4, 4, 5, 4, 5, 5, 6, 2, 3, 3, 4, 3, 4, 4, 5, 3, 4, 4, 5, 4, 5, 5, 6, 3, 4, 4, 5, 4, 5, 5, 6, 4, 5, 5, 6, 5, 6, 6, 7, 2, 3, 3, 4, 3, 4, 4, 5, 3, 4, 4, 5, 4, 5, 5, 6, 3, 4, 4, 5, 4, 5, 5, 6, 4, 5, 5, 6, 5, 6, 6, 7, 3, 4, 4, 5, 4, 5, 5, 6, 4, 5, 5, 6, 5, 6, 6, 7, 4, 5, 5, 6, 5, 6, 6, 7, 5, 6, 6, 7, 6, 7, 7, 8]⟩)) (.t 7), []⟩,
      ⟨none, (some 9), .bin .add (.t 5) (.t 8), []⟩,
      ⟨none, (some 10), .conv .i64 (.t 9), []⟩,
      ⟨none, (some 2), .mov (.t 10), []⟩])
    .ret))
def c530 : Fn := { np := 1, nt := 11, kind := .pure, res := [.t 2], body := k530 }

/- slices.IndexFunc[[]uint16,uint16] -/
def b547_1 : Cd :=
  (.seq
   (.reg [9] [
     ⟨none, (some 9), .bin .lss (.t 8) (.t 7), []⟩])
   (.seq
    (.cond (.t 9)
     .skip
     (.exit 0))
    (.seq
     (.block 1
      (.seq
       (.reg [5] [
         ⟨none, (some 10), .mov (.t 8), []⟩,
         ⟨none, (some 5), .mov (.t 10), []⟩])
       (.seq
        (.reg [16] [
          ⟨none, (some 11), .mov (.t 1), []⟩,
          ⟨none, (some 12), .mov (.t 0), []⟩,
          ⟨none, (some 13), .mov (.t 5), []⟩,
          ⟨none, (some 14), .idxA 1 (.t 12) (.t 13), []⟩,
          ⟨none, (some 15), .ld 1 false (.t 14), []⟩,
          ⟨none, (some 16), .callv (.t 11) [.t 15], []⟩])
        (.cond (.t 16)
         (.seq
          (.reg [4] [
            ⟨none, (some 17), .mov (.t 5), []⟩,
            ⟨none, (some 4), .mov (.t 17), []⟩])
          .ret)
         .skip))))
     (.reg [8] [
       ⟨none, (some 18), .bin .add (.t 8) (.c (.int .i64 1)), []⟩,
       ⟨none, (some 8), .mov (.t 18), []⟩]))))
def k547 : Cd :=
  (.seq
   (.reg [4] [
     ⟨none, (some 4), .mov (.c (.int .i64 0)), []⟩])
   (.seq
    (.seq
     (.reg [7, 8] [
       ⟨none, (some 6), .mov (.t 0), []⟩,
       ⟨none, (some 7), .len (.t 6), []⟩,
       ⟨none, (some 8), .mov (.c (.int .i64 0)), []⟩])
     (.block 0
      (.loop b547_1)))
    (.seq
     (.reg [4] [
       ⟨none, (some 4), .mov (.c (.int .i64 (-1))), []⟩])
     .ret)))
def c547 : Fn := { np := 2, nt := 19, kind := .pure, res := [.t 4], body := k547 }

/- spec.l00Max -/
def k549 : Cd :=
  (.seq
   (.reg [4] [
     ⟨none, (some 4), .mov (.c (.int .i64 0)), []⟩])
   (.seq
    (.seq
     (.reg [7] [
       ⟨none, (some 5), .mov (.t 0), []⟩,
       ⟨none, (some 6), .mov (.t 1), []⟩,
       ⟨none, (some 7), .bin .gtr (.t 5) (.t 6), []⟩])
     (.cond (.t 7)
      (.seq
       (.reg [4] [
         ⟨none, (some 8), .mov (.t 0), []⟩,
         ⟨none, (some 4), .mov (.t 8), []⟩])
       .ret)
      .skip))
    (.seq
     (.reg [4] [
       ⟨none, (some 9), .mov (.t 1), []⟩,
       ⟨none, (some 4), .mov (.t 9), []⟩])
     .ret)))
def c549 : Fn := { np := 2, nt := 10, kind := .pure, res := [.t 4], body := k549 }

/- (*spec.l00Src).next -/
def k550 : Cd :=
  (.seq
   (.reg [2] [
     ⟨none, (some 2), .mov (.c (.int .i64 0)), []⟩])
   (.seq
    (.reg [3] [
      ⟨none, (some 3), .mov (.c (.int .i64 0)), []⟩])
    (.seq
     (.seq
      (.reg [13] [
        ⟨none, (some 4), .mov (.t 0), []⟩,
        ⟨none, (some 5), .nil (.t 4), []⟩,
        ⟨none, (some 6), .fldP 1 (.t 5), []⟩,
        ⟨none, (some 7), .ld 1 false (.t 6), []⟩,
        ⟨none, (some 8), .mov (.t 0), []⟩,
        ⟨none, (some 9), .nil (.t 8), []⟩,
        ⟨none, (some 10), .fldP 0 (.t 9), []⟩,
        ⟨none, (some 11), .ld 1 false (.t 10), []⟩,
        ⟨none, (some 12), .len (.t 11), []⟩,
        ⟨none, (some 13), .bin .lss (.t 7) (.t 12), []⟩])
      (.cond (.t 13)
       (.reg [3] [
         ⟨none, (some 14), .mov (.t 0), []⟩,
         ⟨none, (some 15), .nil (.t 14), []⟩,
         ⟨none, (some 16), .fldP 0 (.t 15), []⟩,
         ⟨none, (some 17), .ld 1 false (.t 16), []⟩,
         ⟨none, (some 18), .mov (.t 0), []⟩,
         ⟨none, (some 19), .nil (.t 18), []⟩,
         ⟨none, (some 20), .fldP 1 (.t 19), []⟩,
         ⟨none, (some 21), .ld 1 false (.t 20), []⟩,
         ⟨none, (some 22), .idxA 1 (.t 17) (.t 21), []⟩,
         ⟨none, (some 23), .ld 1 false (.t 22), []⟩,
         ⟨none, (some 24), .conv .i64 (.t 23), []⟩,
         ⟨none, (some 3), .mov (.t 24), []⟩])
       .skip))
     (.seq
      (.reg [] [
        ⟨none, (some 25), .mov (.t 0), []⟩,
        ⟨none, (some 26), .nil (.t 25), []⟩,
        ⟨none, (some 27), .fldP 1 (.t 26), []⟩,
        ⟨none, (some 28), .ld 1 false (.t 27), []⟩,
        ⟨none, (some 29), .bin .add (.t 28) (.c (.int .i64 1)), []⟩,
        ⟨none, (some 30), .nil (.t 25), []⟩,
        ⟨none, (some 31), .fldP 1 (.t 30), []⟩,
        ⟨none, none, .st 1 (.t 31) (.t 29), []⟩])
      (.seq
       (.reg [] [
         ⟨none, (some 32), .mov (.t 0), []⟩,
         ⟨none, (some 33), .mov (.t 0), []⟩,
         ⟨none, (some 34), .nil (.t 33), []⟩,
         ⟨none, (some 35), .fldP 2 (.t 34), []⟩,
         ⟨none, (some 36), .ld 1 false (.t 35), []⟩,
         ⟨none, (some 37), .bin .mul (.t 36) (.c (.int .u64 6364136223846793005)), []⟩,
         ⟨none, (some 38), .mov (.t 3), []⟩,
         ⟨none, (some 39), .conv .u64 (.t 38), []⟩,
         ⟨none, (some 40), .bin .add (.t 37) (.t 39), []⟩,
         ⟨none, (some 41), .bin .add (.t 40) (.c (.int .u64 1442695040888963407)), []⟩,
         ⟨none, (some 42), .nil (.t 32), []⟩,
         ⟨none, (some 43), .fldP 2 (.t 42), []⟩,
         ⟨none, none, .st 1 (.t 43) (.t 41), []⟩])
       (.seq
        (.seq
         (.reg [53] [
           ⟨none, (some 44), .mov (.t 0), []⟩,
           ⟨none, (some 45), .nil (.t 44), []⟩,
           ⟨none, (some 46), .fldP 1 (.t 45), []⟩,
           ⟨none, (some 47), .ld 1 false (.t 46), []⟩,
           ⟨none, (some 48), .mov (.t 0), []⟩,
           ⟨none, (some 49), .nil (.t 48), []⟩,
           ⟨none, (some 50), .fldP 0 (.t 49), []⟩,
           ⟨none, (some 51), .ld 1 false (.t 50), []⟩,
           ⟨none, (some 52), .len (.t 51), []⟩,
           ⟨none, (some 53), .bin .leq (.t 47) (.t 52), []⟩])
         (.cond (.t 53)
          (.seq
           (.reg [2] [
             ⟨none, (some 54), .mov (.t 3), []⟩,
             ⟨none, (some 2), .mov (.t 54), []⟩])
           .ret)
          .skip))
        (.seq
         (.reg [2] [
           ⟨none, (some 55), .mov (.t 0), []⟩,
           ⟨none, (some 56), .nil (.t 55), []⟩,
           ⟨none, (some 57), .fldP 2 (.t 56), []⟩,
           ⟨none, (some 58), .ld 1 false (.t 57), []⟩,
           ⟨none, (some 59), .bin .shr (.t 58) (.c (.int .u64 40)), []⟩,
           ⟨none, (some 60), .bin .and (.t 59) (.c (.int .u64 255)), []⟩,
           ⟨none, (some 61), .conv .i64 (.t 60), []⟩,
           ⟨none, (some 2), .mov (.t 61), []⟩])
         .ret)))))))
def c550 : Fn := { np := 1, nt := 62, kind := .args, res := [.t 2], body := k550 }

/- slices.stableCmpFunc[impl.Move] -/
def b565_1 : Cd :=
  (.seq
   (.seq
    (.reg [13] [
      ⟨none, (some 11), .mov (.t 8), []⟩,
      ⟨none, (some 12), .mov (.t 1), []⟩,
      ⟨none, (some 13), .bin .leq (.t 11) (.t 12), []⟩])
    (.cond (.t 13)
     .skip
     (.exit 0)))
   (.block 1
    (.seq
     (.reg [] [
       ⟨none, (some 14), .mov (.t 0), []⟩,
       ⟨none, (some 15), .mov (.t 7), []⟩,
       ⟨none, (some 16), .mov (.t 8), []⟩,
       ⟨none, (some 17), .mov (.t 2), []⟩,
       ⟨none, (some 18), .call false 589 [.t 14, .t 15, .t 16, .t 17], []⟩])
     (.seq
      (.reg [7] [
        ⟨none, (some 19), .mov (.t 8), []⟩,
        ⟨none, (some 7), .mov (.t 19), []⟩])
      (.reg [8] [
        ⟨none, (some 20), .mov (.t 8), []⟩,
        ⟨none, (some 21), .mov (.t 6), []⟩,
        ⟨none, (some 22), .bin .add (.t 20) (.t 21), []⟩,
        ⟨none, (some 8), .mov (.t 22), []⟩])))))
def b565_2 : Cd :=
  (.seq
   (.seq
    (.reg [35] [
      ⟨none, (some 33), .mov (.t 8), []⟩,
      ⟨none, (some 34), .mov (.t 1), []⟩,
      ⟨none, (some 35), .bin .leq (.t 33) (.t 34), []⟩])
    (.cond (.t 35)
     .skip
     (.exit 4)))
   (.block 5
    (.seq
     (.reg [] [
       ⟨none, (some 36), .mov (.t 0), []⟩,
       ⟨none, (some 37), .mov (.t 7), []⟩,
       ⟨none, (some 38), .mov (.t 7), []⟩,
       ⟨none, (some 39), .mov (.t 6), []⟩,
       ⟨none, (some 40), .bin .add (.t 38) (.t 39), []⟩,
       ⟨none, (some 41), .mov (.t 8), []⟩,
       ⟨none, (some 42), .mov (.t 2), []⟩,
       ⟨none, (some 43), .call false 590 [.t 36, .t 37, .t 40, .t 41, .t 42], []⟩])
     (.seq
      (.reg [7] [
        ⟨none, (some 44), .mov (.t 8), []⟩,
        ⟨none, (some 7), .mov (.t 44), []⟩])
      (.reg [8] [
        ⟨none, (some 45), .mov (.t 8), []⟩,
        ⟨none, (some 46), .mov (.t 6), []⟩,
        ⟨none, (some 47), .bin .mul (.c (.int .i64 2)) (.t 46), []⟩,
        ⟨none, (some 48), .bin .add (.t 45) (.t 47), []⟩,
        ⟨none, (some 8), .mov (.t 48), []⟩])))))
def b565_3 : Cd :=
  (.seq
   (.seq
    (.reg [30] [
      ⟨none, (some 28), .mov (.t 6), []⟩,
      ⟨none, (some 29), .mov (.t 1), []⟩,
      ⟨none, (some 30), .bin .lss (.t 28) (.t 29), []⟩])
    (.cond (.t 30)
     .skip
     (.exit 2)))
   (.block 3
    (.seq
     (.reg [7, 8] [
       ⟨none, (some 31), .mov (.t 6), []⟩,
       ⟨none, (some 32), .bin .mul (.c (.int .i64 2)) (.t 31), []⟩,
       ⟨none, (some 7), .mov (.c (.int .i64 0)), []⟩,
       ⟨none, (some 8), .mov (.t 32), []⟩])
     (.seq
      (.block 4
       (.loop b565_2))
      (.seq
       (.seq
        (.reg [9] [
          ⟨none, (some 49), .mov (.t 7), []⟩,
          ⟨none, (some 50), .mov (.t 6), []⟩,
          ⟨none, (some 51), .bin .add (.t 49) (.t 50), []⟩,
          ⟨none, (some 9), .mov (.t 51), []⟩])
        (.seq
         (.reg [54] [
           ⟨none, (some 52), .mov (.t 9), []⟩,
           ⟨none, (some 53), .mov (.t 1), []⟩,
           ⟨none, (some 54), .bin .lss (.t 52) (.t 53), []⟩])
         (.cond (.t 54)
          (.reg [] [
            ⟨none, (some 55), .mov (.t 0), []⟩,
            ⟨none, (some 56), .mov (.t 7), []⟩,
            ⟨none, (some 57), .mov (.t 9), []⟩,
            ⟨none, (some 58), .mov (.t 1), []⟩,
            ⟨none, (some 59), .mov (.t 2), []⟩,
            ⟨none, (some 60), .call false 590 [.t 55, .t 56, .t 57, .t 58, .t 59], []⟩])
          .skip)))
       (.reg [6] [
         ⟨none, (some 61), .mov (.t 6), []⟩,
         ⟨none, (some 62), .bin .mul (.t 61) (.c (.int .i64 2)), []⟩,
         ⟨none, (some 6), .mov (.t 62), []⟩]))))))
def k565 : Cd :=
  (.seq
   (.reg [6] [
     ⟨none, (some 6), .mov (.c (.int .i64 20)), []⟩])
   (.seq
    (.reg [7, 8] [
      ⟨none, (some 10), .mov (.t 6), []⟩,
      ⟨none, (some 7), .mov (.c (.int .i64 0)), []⟩,
      ⟨none, (some 8), .mov (.t 10), []⟩])
    (.seq
     (.block 0
      (.loop b565_1))
     (.seq
      (.reg [] [
        ⟨none, (some 23), .mov (.t 0), []⟩,
        ⟨none, (some 24), .mov (.t 7), []⟩,
        ⟨none, (some 25), .mov (.t 1), []⟩,
        ⟨none, (some 26), .mov (.t 2), []⟩,
        ⟨none, (some 27), .call false 589 [.t 23, .t 24, .t 25, .t 26], []⟩])
      (.block 2
       (.loop b565_3))))))
def c565 : Fn := { np := 3, nt := 63, kind := .args, res := [], body := k565 }

/- cmp.isNaN[int64] -/
def k566 : Cd :=
  (.seq
   (.reg [2] [
     ⟨none, (some 2), .mov (.c (.bool false)), []⟩])
   (.seq
    (.reg [2] [
      ⟨none, (some 3), .mov (.t 0), []⟩,
      ⟨none, (some 4), .mov (.t 0), []⟩,
      ⟨none, (some 5), .bin .neq (.t 3) (.t 4), []⟩,
      ⟨none, (some 2), .mov (.t 5), []⟩])
    .ret))
def c566 : Fn := { np := 1, nt := 6, kind := .pure, res := [.t 2], body := k566 }

/- slices.insertionSortCmpFunc[impl.Move] -/
def b589_1 : Cd :=
  (.seq
   (.seq
    (.reg [34] [
      ⟨none, (some 18), .mov (.t 9), []⟩,
      ⟨none, (some 19), .mov (.t 1), []⟩,
      ⟨none, (some 20), .bin .gtr (.t 18) (.t 19), []⟩,
      ⟨none, (some 21), .mov (.t 20), []⟩,
      ⟨(some (21, true)), (some 22), .mov (.t 3), []⟩,
      ⟨(some (21, true)), (some 23), .mov (.t 0), []⟩,
      ⟨(some (21, true)), (some 24), .mov (.t 9), []⟩,
      ⟨(some (21, true)), (some 25), .idxA 2 (.t 23) (.t 24), []⟩,
      ⟨(some (21, true)), (some 26), .ld 2 true (.t 25), []⟩,
      ⟨(some (21, true)), (some 27), .mov (.t 0), []⟩,
      ⟨(some (21, true)), (some 28), .mov (.t 9), []⟩,
      ⟨(some (21, true)), (some 29), .bin .sub (.t 28) (.c (.int .i64 1)), []⟩,
      ⟨(some (21, true)), (some 30), .idxA 2 (.t 27) (.t 29), []⟩,
      ⟨(some (21, true)), (some 31), .ld 2 true (.t 30), []⟩,
      ⟨(some (21, true)), (some 32), .callv (.t 22) [.t 26, .t 31], []⟩,
      ⟨(some (21, true)), (some 33), .bin .lss (.t 32) (.c (.int .i64 0)), []⟩,
      ⟨none, (some 34), .pick (.t 21) (.t 33) (.c (.bool false)), []⟩])
    (.cond (.t 34)
     .skip
     (.exit 2)))
   (.seq
    (.block 3
     (.reg [] [
       ⟨none, (some 37), .mov (.t 0), []⟩,
       ⟨none, (some 38), .mov (.t 9), []⟩,
       ⟨none, (some 39), .mov (.t 0), []⟩,
       ⟨none, (some 40), .mov (.t 9), []⟩,
       ⟨none, (some 41), .bin .sub (.t 40) (.c (.int .i64 1)), []⟩,
       ⟨none, (some 42), .mov (.t 0), []⟩,
       ⟨none, (some 43), .mov (.t 9), []⟩,
       ⟨none, (some 44), .bin .sub (.t 43) (.c (.int .i64 1)), []⟩,
       ⟨none, (some 45), .idxA 2 (.t 42) (.t 44), []⟩,
       ⟨none, (some 46), .ld 2 true (.t 45), []⟩,
       ⟨none, (some 47), .mov (.t 0), []⟩,
       ⟨none, (some 48), .mov (.t 9), []⟩,
       ⟨none, (some 49), .idxA 2 (.t 47) (.t 48), []⟩,
       ⟨none, (some 50), .ld 2 true (.t 49), []⟩,
       ⟨none, (some 51), .idxA 2 (.t 37) (.t 38), []⟩,
       ⟨none, none, .st 2 (.t 51) (.t 46), []⟩,
       ⟨none, (some 52), .idxA 2 (.t 39) (.t 41), []⟩,
       ⟨none, none, .st 2 (.t 52) (.t 50), []⟩]))
    (.reg [9] [
      ⟨none, (some 35), .mov (.t 9), []⟩,
      ⟨none, (some 36), .bin .sub (.t 35) (.c (.int .i64 1)), []⟩,
      ⟨none, (some 9), .mov (.t 36), []⟩])))
def b589_2 : Cd :=
  (.seq
   (.seq
    (.reg [14] [
      ⟨none, (some 12), .mov (.t 8), []⟩,
      ⟨none, (some 13), .mov (.t 2), []⟩,
      ⟨none, (some 14), .bin .lss (.t 12) (.t 13), []⟩])
    (.cond (.t 14)
     .skip
     (.exit 0)))
   (.seq
    (.block 1
     (.seq
      (.reg [9] [
        ⟨none, (some 17), .mov (.t 8), []⟩,
        ⟨none, (some 9), .mov (.t 17), []⟩])
      (.block 2
       (.loop b589_1))))
    (.reg [8] [
      ⟨none, (some 15), .mov (.t 8), []⟩,
      ⟨none, (some 16), .bin .add (.t 15) (.c (.int .i64 1)), []⟩,
      ⟨none, (some 8), .mov (.t 16), []⟩])))
def k589 : Cd :=
  (.seq
   (.reg [8] [
     ⟨none, (some 10), .mov (.t 1), []⟩,
     ⟨none, (some 11), .bin .add (.t 10) (.c (.int .i64 1)), []⟩,
     ⟨none, (some 8), .mov (.t 11), []⟩])
   (.block 0
    (.loop b589_2)))
def c589 : Fn := { np := 4, nt := 53, kind := .args, res := [], body := k589 }

/- slices.symMergeCmpFunc[impl.Move] -/
def b590_1 : Cd :=
  (.seq
   (.seq
    (.reg [33] [
      ⟨none, (some 31), .mov (.t 10), []⟩,
      ⟨none, (some 32), .mov (.t 11), []⟩,
      ⟨none, (some 33), .bin .lss (.t 31) (.t 32), []⟩])
    (.cond (.t 33)
     .skip
     (.exit 0)))
   (.block 1
    (.seq
     (.reg [12] [
       ⟨none, (some 34), .mov (.t 10), []⟩,
       ⟨none, (some 35), .mov (.t 11), []⟩,
       ⟨none, (some 36), .bin .add (.t 34) (.t 35), []⟩,
       ⟨none, (some 37), .conv .u64 (.t 36), []⟩,
       ⟨none, (some 38), .bin .shr (.t 37) (.c (.int .u64 1)), []⟩,
       ⟨none, (some 39), .conv .i64 (.t 38), []⟩,
       ⟨none, (some 12), .mov (.t 39), []⟩])
     (.seq
      (.reg [50] [
        ⟨none, (some 40), .mov (.t 4), []⟩,
        ⟨none, (some 41), .mov (.t 0), []⟩,
        ⟨none, (some 42), .mov (.t 12), []⟩,
        ⟨none, (some 43), .idxA 2 (.t 41) (.t 42), []⟩,
        ⟨none, (some 44), .ld 2 true (.t 43), []⟩,
        ⟨none, (some 45), .mov (.t 0), []⟩,
        ⟨none, (some 46), .mov (.t 1), []⟩,
        ⟨none, (some 47), .idxA 2 (.t 45) (.t 46), []⟩,
        ⟨none, (some 48), .ld 2 true (.t 47), []⟩,
        ⟨none, (some 49), .callv (.t 40) [.t 44, .t 48], []⟩,
        ⟨none, (some 50), .bin .lss (.t 49) (.c (.int .i64 0)), []⟩])
      (.cond (.t 50)
       (.reg [10] [
         ⟨none, (some 51), .mov (.t 12), []⟩,
         ⟨none, (some 52), .bin .add (.t 51) (.c (.int .i64 1)), []⟩,
         ⟨none, (some 10), .mov (.t 52), []⟩])
       (.reg [11] [
         ⟨none, (some 53), .mov (.t 12), []⟩,
         ⟨none, (some 11), .mov (.t 53), []⟩]))))))
def b590_2 : Cd :=
  (.seq
   (.seq
    (.reg [58] [
      ⟨none, (some 55), .mov (.t 13), []⟩,
      ⟨none, (some 56), .mov (.t 10), []⟩,
      ⟨none, (some 57), .bin .sub (.t 56) (.c (.int .i64 1)), []⟩,
      ⟨none, (some 58), .bin .lss (.t 55) (.t 57), []⟩])
    (.cond (.t 58)
     .skip
     (.exit 2)))
   (.seq
    (.block 3
     (.reg [] [
       ⟨none, (some 61), .mov (.t 0), []⟩,
       ⟨none, (some 62), .mov (.t 13), []⟩,
       ⟨none, (some 63), .mov (.t 0), []⟩,
       ⟨none, (some 64), .mov (.t 13), []⟩,
       ⟨none, (some 65), .bin .add (.t 64) (.c (.int .i64 1)), []⟩,
       ⟨none, (some 66), .mov (.t 0), []⟩,
       ⟨none, (some 67), .mov (.t 13), []⟩,
       ⟨none, (some 68), .bin .add (.t 67) (.c (.int .i64 1)), []⟩,
       ⟨none, (some 69), .idxA 2 (.t 66) (.t 68), []⟩,
       ⟨none, (some 70), .ld 2 true (.t 69), []⟩,
       ⟨none, (some 71), .mov (.t 0), []⟩,
       ⟨none, (some 72), .mov (.t 13), []⟩,
       ⟨none, (some 73), .idxA 2 (.t 71) (.t 72), []⟩,
       ⟨none, (some 74), .ld 2 true (.t 73), []⟩,
       ⟨none, (some 75), .idxA 2 (.t 61) (.t 62), []⟩,
       ⟨none, none, .st 2 (.t 75) (.t 70), []⟩,
       ⟨none, (some 76), .idxA 2 (.t 63) (.t 65), []⟩,
       ⟨none, none, .st 2 (.t 76) (.t 74), []⟩]))
    (.reg [13] [
      ⟨none, (some 59), .mov (.t 13), []⟩,
      ⟨none, (some 60), .bin .add (.t 59) (.c (.int .i64 1)), []⟩,
      ⟨none, (some 13), .mov (.t 60), []⟩])))
def b590_3 : Cd :=
  (.seq
   (.seq
    (.reg [85] [
      ⟨none, (some 83), .mov (.t 14), []⟩,
      ⟨none, (some 84), .mov (.t 15), []⟩,
      ⟨none, (some 85), .bin .lss (.t 83) (.t 84), []⟩])
    (.cond (.t 85)
     .skip
     (.exit 4)))
   (.block 5
    (.seq
     (.reg [16] [
       ⟨none, (some 86), .mov (.t 14), []⟩,
       ⟨none, (some 87), .mov (.t 15), []⟩,
       ⟨none, (some 88), .bin .add (.t 86) (.t 87), []⟩,
       ⟨none, (some 89), .conv .u64 (.t 88), []⟩,
       ⟨none, (some 90), .bin .shr (.t 89) (.c (.int .u64 1)), []⟩,
       ⟨none, (some 91), .conv .i64 (.t 90), []⟩,
       ⟨none, (some 16), .mov (.t 91), []⟩])
     (.seq
      (.reg [103] [
        ⟨none, (some 92), .mov (.t 4), []⟩,
        ⟨none, (some 93), .mov (.t 0), []⟩,
        ⟨none, (some 94), .mov (.t 2), []⟩,
        ⟨none, (some 95), .idxA 2 (.t 93) (.t 94), []⟩,
        ⟨none, (some 96), .ld 2 true (.t 95), []⟩,
        ⟨none, (some 97), .mov (.t 0), []⟩,
        ⟨none, (some 98), .mov (.t 16), []⟩,
        ⟨none, (some 99), .idxA 2 (.t 97) (.t 98), []⟩,
        ⟨none, (some 100), .ld 2 true (.t 99), []⟩,
        ⟨none, (some 101), .callv (.t 92) [.t 96, .t 100], []⟩,
        ⟨none, (some 102), .bin .lss (.t 101) (.c (.int .i64 0)), []⟩,
        ⟨none, (some 103), .un .not (.t 102), []⟩])
      (.cond (.t 103)
       (.reg [14] [
         ⟨none, (some 104), .mov (.t 16), []⟩,
         ⟨none, (some 105), .bin .add (.t 104) (.c (.int .i64 1)), []⟩,
         ⟨none, (some 14), .mov (.t 105), []⟩])
       (.reg [15] [
         ⟨none, (some 106), .mov (.t 16), []⟩,
         ⟨none, (some 15), .mov (.t 106), []⟩]))))))
def b590_4 : Cd :=
  (.seq
   (.seq
    (.reg [110] [
      ⟨none, (some 108), .mov (.t 17), []⟩,
      ⟨none, (some 109), .mov (.t 14), []⟩,
      ⟨none, (some 110), .bin .gtr (.t 108) (.t 109), []⟩])
    (.cond (.t 110)
     .skip
     (.exit 6)))
   (.seq
    (.block 7
     (.reg [] [
       ⟨none, (some 113), .mov (.t 0), []⟩,
       ⟨none, (some 114), .mov (.t 17), []⟩,
       ⟨none, (some 115), .mov (.t 0), []⟩,
       ⟨none, (some 116), .mov (.t 17), []⟩,
       ⟨none, (some 117), .bin .sub (.t 116) (.c (.int .i64 1)), []⟩,
       ⟨none, (some 118), .mov (.t 0), []⟩,
       ⟨none, (some 119), .mov (.t 17), []⟩,
       ⟨none, (some 120), .bin .sub (.t 119) (.c (.int .i64 1)), []⟩,
       ⟨none, (some 121), .idxA 2 (.t 118) (.t 120), []⟩,
       ⟨none, (some 122), .ld 2 true (.t 121), []⟩,
       ⟨none, (some 123), .mov (.t 0), []⟩,
       ⟨none, (some 124), .mov (.t 17), []⟩,
       ⟨none, (some 125), .idxA 2 (.t 123) (.t 124), []⟩,
       ⟨none, (some 126), .ld 2 true (.t 125), []⟩,
       ⟨none, (some 127), .idxA 2 (.t 113) (.t 114), []⟩,
       ⟨none, none, .st 2 (.t 127) (.t 122), []⟩,
       ⟨none, (some 128), .idxA 2 (.t 115) (.t 117), []⟩,
       ⟨none, none, .st 2 (.t 128) (.t 126), []⟩]))
    (.reg [17] [
      ⟨none, (some 111), .mov (.t 17), []⟩,
      ⟨none, (some 112), .bin .sub (.t 111) (.c (.int .i64 1)), []⟩,
      ⟨none, (some 17), .mov (.t 112), []⟩])))
def b590_5 : Cd :=
  (.seq
   (.seq
    (.reg [151] [
      ⟨none, (some 149), .mov (.t 20), []⟩,
      ⟨none, (some 150), .mov (.t 21), []⟩,
      ⟨none, (some 151), .bin .lss (.t 149) (.t 150), []⟩])
    (.cond (.t 151)
     .skip
     (.exit 8)))
   (.block 9
    (.seq
     (.reg [23] [
       ⟨none, (some 152), .mov (.t 20), []⟩,
       ⟨none, (some 153), .mov (.t 21), []⟩,
       ⟨none, (some 154), .bin .add (.t 152) (.t 153), []⟩,
       ⟨none, (some 155), .conv .u64 (.t 154), []⟩,
       ⟨none, (some 156), .bin .shr (.t 155) (.c (.int .u64 1)), []⟩,
       ⟨none, (some 157), .conv .i64 (.t 156), []⟩,
       ⟨none, (some 23), .mov (.t 157), []⟩])
     (.seq
      (.reg [171] [
        ⟨none, (some 158), .mov (.t 4), []⟩,
        ⟨none, (some 159), .mov (.t 0), []⟩,
        ⟨none, (some 160), .mov (.t 22), []⟩,
        ⟨none, (some 161), .mov (.t 23), []⟩,
        ⟨none, (some 162), .bin .sub (.t 160) (.t 161), []⟩,
        ⟨none, (some 163), .idxA 2 (.t 159) (.t 162), []⟩,
        ⟨none, (some 164), .ld 2 true (.t 163), []⟩,
        ⟨none, (some 165), .mov (.t 0), []⟩,
        ⟨none, (some 166), .mov (.t 23), []⟩,
        ⟨none, (some 167), .idxA 2 (.t 165) (.t 166), []⟩,
        ⟨none, (some 168), .ld 2 true (.t 167), []⟩,
        ⟨none, (some 169), .callv (.t 158) [.t 164, .t 168], []⟩,
        ⟨none, (some 170), .bin .lss (.t 169) (.c (.int .i64 0)), []⟩,
        ⟨none, (some 171), .un .not (.t 170), []⟩])
      (.cond (.t 171)
       (.reg [20] [
         ⟨none, (some 172), .mov (.t 23), []⟩,
         ⟨none, (some 173), .bin .add (.t 172) (.c (.int .i64 1)), []⟩,
         ⟨none, (some 20), .mov (.t 173), []⟩])
       (.reg [21] [
         ⟨none, (some 174), .mov (.t 23), []⟩,
         ⟨none, (some 21), .mov (.t 174), []⟩]))))))
def k590 : Cd :=
  (.seq
   (.seq
    (.reg [28] [
      ⟨none, (some 25), .mov (.t 2), []⟩,
      ⟨none, (some 26), .mov (.t 1), []⟩,
      ⟨none, (some 27), .bin .sub (.t 25) (.t 26), []⟩,
      ⟨none, (some 28), .bin .eql (.t 27) (.c (.int .i64 1)), []⟩])
    (.cond (.t 28)
     (.seq
      (.reg [10] [
        ⟨none, (some 29), .mov (.t 2), []⟩,
        ⟨none, (some 10), .mov (.t 29), []⟩])
      (.seq
       (.reg [11] [
         ⟨none, (some 30), .mov (.t 3), []⟩,
         ⟨none, (some 11), .mov (.t 30), []⟩])
       (.seq
        (.block 0
         (.loop b590_1))
        (.seq
         (.seq
          (.reg [13] [
            ⟨none, (some 54), .mov (.t 1), []⟩,
            ⟨none, (some 13), .mov (.t 54), []⟩])
          (.block 2
           (.loop b590_2)))
         .ret))))
     .skip))
   (.seq
    (.seq
     (.reg [80] [
       ⟨none, (some 77), .mov (.t 3), []⟩,
       ⟨none, (some 78), .mov (.t 2), []⟩,
       ⟨none, (some 79), .bin .sub (.t 77) (.t 78), []⟩,
       ⟨none, (some 80), .bin .eql (.t 79) (.c (.int .i64 1)), []⟩])
     (.cond (.t 80)
      (.seq
       (.reg [14] [
         ⟨none, (some 81), .mov (.t 1), []⟩,
         ⟨none, (some 14), .mov (.t 81), []⟩])
       (.seq
        (.reg [15] [
          ⟨none, (some 82), .mov (.t 2), []⟩,
          ⟨none, (some 15), .mov (.t 82), []⟩])
        (.seq
         (.block 4
          (.loop b590_3))
         (.seq
          (.seq
           (.reg [17] [
             ⟨none, (some 107), .mov (.t 2), []⟩,
             ⟨none, (some 17), .mov (.t 107), []⟩])
           (.block 6
            (.loop b590_4)))
          .ret))))
      .skip))
    (.seq
     (.reg [18] [
       ⟨none, (some 129), .mov (.t 1), []⟩,
       ⟨none, (some 130), .mov (.t 3), []⟩,
       ⟨none, (some 131), .bin .add (.t 129) (.t 130), []⟩,
       ⟨none, (some 132), .conv .u64 (.t 131), []⟩,
       ⟨none, (some 133), .bin .shr (.t 132) (.c (.int .u64 1)), []⟩,
       ⟨none, (some 134), .conv .i64 (.t 133), []⟩,
       ⟨none, (some 18), .mov (.t 134), []⟩])
     (.seq
      (.reg [19] [
        ⟨none, (some 135), .mov (.t 18), []⟩,
        ⟨none, (some 136), .mov (.t 2), []⟩,
        ⟨none, (some 137), .bin .add (.t 135) (.t 136), []⟩,
        ⟨none, (some 19), .mov (.t 137), []⟩])
      (.seq
       (.reg [20, 21] [
         ⟨none, (some 20), .mov (.c (.int .i64 0)), []⟩,
         ⟨none, (some 21), .mov (.c (.int .i64 0)), []⟩])
       (.seq
        (.seq
         (.reg [140] [
           ⟨none, (some 138), .mov (.t 2), []⟩,
           ⟨none, (some 139), .mov (.t 18), []⟩,
           ⟨none, (some 140), .bin .gtr (.t 138) (.t 139), []⟩])
         (.cond (.t 140)
          (.seq
           (.reg [20] [
             ⟨none, (some 141), .mov (.t 19), []⟩,
             ⟨none, (some 142), .mov (.t 3), []⟩,
             ⟨none, (some 143), .bin .sub (.t 141) (.t 142), []⟩,
             ⟨none, (some 20), .mov (.t 143), []⟩])
           (.reg [21] [
             ⟨none, (some 144), .mov (.t 18), []⟩,
             ⟨none, (some 21), .mov (.t 144), []⟩]))
          (.seq
           (.reg [20] [
             ⟨none, (some 145), .mov (.t 1), []⟩,
             ⟨none, (some 20), .mov (.t 145), []⟩])
           (.reg [21] [
             ⟨none, (some 146), .mov (.t 2), []⟩,
             ⟨none, (some 21), .mov (.t 146), []⟩]))))
        (.seq
         (.reg [22] [
           ⟨none, (some 147), .mov (.t 19), []⟩,
           ⟨none, (some 148), .bin .sub (.t 147) (.c (.int .i64 1)), []⟩,
           ⟨none, (some 22), .mov (.t 148), []⟩])
         (.seq
          (.block 8
           (.loop b590_5))
          (.seq
           (.reg [24] [
             ⟨none, (some 175), .mov (.t 19), []⟩,
             ⟨none, (some 176), .mov (.t 20), []⟩,
             ⟨none, (some 177), .bin .sub (.t 175) (.t 176), []⟩,
             ⟨none, (some 24), .mov (.t 177), []⟩])
           (.seq
            (.seq
             (.reg [185] [
               ⟨none, (some 178), .mov (.t 20), []⟩,
               ⟨none, (some 179), .mov (.t 2), []⟩,
               ⟨none, (some 180), .bin .lss (.t 178) (.t 179), []⟩,
               ⟨none, (some 181), .mov (.t 180), []⟩,
               ⟨(some (181, true)), (some 182), .mov (.t 2), []⟩,
               ⟨(some (181, true)), (some 183), .mov (.t 24), []⟩,
               ⟨(some (181, true)), (some 184), .bin .lss (.t 182) (.t 183), []⟩,
               ⟨none, (some 185), .pick (.t 181) (.t 184) (.c (.bool false)), []⟩])
             (.cond (.t 185)
              (.reg [] [
                ⟨none, (some 186), .mov (.t 0), []⟩,
                ⟨none, (some 187), .mov (.t 20), []⟩,
                ⟨none, (some 188), .mov (.t 2), []⟩,
                ⟨none, (some 189), .mov (.t 24), []⟩,
                ⟨none, (some 190), .mov (.t 4), []⟩,
                ⟨none, (some 191), .call false 610 [.t 186, .t 187, .t 188, .t 189, .t 190], []⟩])
              .skip))
            (.seq
             (.seq
              (.reg [199] [
                ⟨none, (some 192), .mov (.t 1), []⟩,
                ⟨none, (some 193), .mov (.t 20), []⟩,
                ⟨none, (some 194), .bin .lss (.t 192) (.t 193), []⟩,
                ⟨none, (some 195), .mov (.t 194), []⟩,
                ⟨(some (195, true)), (some 196), .mov (.t 20), []⟩,
                ⟨(some (195, true)), (some 197), .mov (.t 18), []⟩,
                ⟨(some (195, true)), (some 198), .bin .lss (.t 196) (.t 197), []⟩,
                ⟨none, (some 199), .pick (.t 195) (.t 198) (.c (.bool false)), []⟩])
              (.cond (.t 199)
               (.reg [] [
                 ⟨none, (some 200), .mov (.t 0), []⟩,
                 ⟨none, (some 201), .mov (.t 1), []⟩,
                 ⟨none, (some 202), .mov (.t 20), []⟩,
                 ⟨none, (some 203), .mov (.t 18), []⟩,
                 ⟨none, (some 204), .mov (.t 4), []⟩,
                 ⟨none, (some 205), .call false 590 [.t 200, .t 201, .t 202, .t 203, .t 204], []⟩])
               .skip))
             (.seq
              (.reg [213] [
                ⟨none, (some 206), .mov (.t 18), []⟩,
                ⟨none, (some 207), .mov (.t 24), []⟩,
                ⟨none, (some 208), .bin .lss (.t 206) (.t 207), []⟩,
                ⟨none, (some 209), .mov (.t 208), []⟩,
                ⟨(some (209, true)), (some 210), .mov (.t 24), []⟩,
                ⟨(some (209, true)), (some 211), .mov (.t 3), []⟩,
                ⟨(some (209, true)), (some 212), .bin .lss (.t 210) (.t 211), []⟩,
                ⟨none, (some 213), .pick (.t 209) (.t 212) (.c (.bool false)), []⟩])
              (.cond (.t 213)
               (.reg [] [
                 ⟨none, (some 214), .mov (.t 0), []⟩,
                 ⟨none, (some 215), .mov (.t 18), []⟩,
                 ⟨none, (some 216), .mov (.t 24), []⟩,
                 ⟨none, (some 217), .mov (.t 3), []⟩,
                 ⟨none, (some 218), .mov (.t 4), []⟩,
                 ⟨none, (some 219), .call false 590 [.t 214, .t 215, .t 216, .t 217, .t 218], []⟩])
               .skip)))))))))))))
def c590 : Fn := { np := 5, nt := 220, kind := .args, res := [], body := k590 }

/- slices.rotateCmpFunc[impl.Move] -/
def b610_1 : Cd :=
  (.seq
   (.seq
    (.reg [20] [
      ⟨none, (some 18), .mov (.t 10), []⟩,
      ⟨none, (some 19), .mov (.t 11), []⟩,
      ⟨none, (some 20), .bin .neq (.t 18) (.t 19), []⟩])
    (.cond (.t 20)
     .skip
     (.exit 0)))
   (.block 1
    (.seq
     (.reg [23] [
       ⟨none, (some 21), .mov (.t 10), []⟩,
       ⟨none, (some 22), .mov (.t 11), []⟩,
       ⟨none, (some 23), .bin .gtr (.t 21) (.t 22), []⟩])
     (.cond (.t 23)
      (.seq
       (.reg [] [
         ⟨none, (some 24), .mov (.t 0), []⟩,
         ⟨none, (some 25), .mov (.t 2), []⟩,
         ⟨none, (some 26), .mov (.t 10), []⟩,
         ⟨none, (some 27), .bin .sub (.t 25) (.t 26), []⟩,
         ⟨none, (some 28), .mov (.t 2), []⟩,
         ⟨none, (some 29), .mov (.t 11), []⟩,
         ⟨none, (some 30), .mov (.t 4), []⟩,
         ⟨none, (some 31), .call false 624 [.t 24, .t 27, .t 28, .t 29, .t 30], []⟩])
       (.reg [10] [
         ⟨none, (some 32), .mov (.t 10), []⟩,
         ⟨none, (some 33), .mov (.t 11), []⟩,
         ⟨none, (some 34), .bin .sub (.t 32) (.t 33), []⟩,
         ⟨none, (some 10), .mov (.t 34), []⟩]))
      (.seq
       (.reg [] [
         ⟨none, (some 35), .mov (.t 0), []⟩,
         ⟨none, (some 36), .mov (.t 2), []⟩,
         ⟨none, (some 37), .mov (.t 10), []⟩,
         ⟨none, (some 38), .bin .sub (.t 36) (.t 37), []⟩,
         ⟨none, (some 39), .mov (.t 2), []⟩,
         ⟨none, (some 40), .mov (.t 11), []⟩,
         ⟨none, (some 41), .bin .add (.t 39) (.t 40), []⟩,
         ⟨none, (some 42), .mov (.t 10), []⟩,
         ⟨none, (some 43), .bin .sub (.t 41) (.t 42), []⟩,
         ⟨none, (some 44), .mov (.t 10), []⟩,
         ⟨none, (some 45), .mov (.t 4), []⟩,
         ⟨none, (some 46), .call false 624 [.t 35, .t 38, .t 43, .t 44, .t 45], []⟩])
       (.reg [11] [
         ⟨none, (some 47), .mov (.t 11), []⟩,
         ⟨none, (some 48), .mov (.t 10), []⟩,
         ⟨none, (some 49), .bin .sub (.t 47) (.t 48), []⟩,
         ⟨none, (some 11), .mov (.t 49), []⟩]))))))
def k610 : Cd :=
  (.seq
   (.reg [10] [
     ⟨none, (some 12), .mov (.t 2), []⟩,
     ⟨none, (some 13), .mov (.t 1), []⟩,
     ⟨none, (some 14), .bin .sub (.t 12) (.t 13), []⟩,
     ⟨none, (some 10), .mov (.t 14), []⟩])
   (.seq
    (.reg [11] [
      ⟨none, (some 15), .mov (.t 3), []⟩,
      ⟨none, (some 16), .mov (.t 2), []⟩,
      ⟨none, (some 17), .bin .sub (.t 15) (.t 16), []⟩,
      ⟨none, (some 11), .mov (.t 17), []⟩])
    (.seq
     (.block 0
      (.loop b610_1))
     (.reg [] [
       ⟨none, (some 50), .mov (.t 0), []⟩,
       ⟨none, (some 51), .mov (.t 2), []⟩,
       ⟨none, (some 52), .mov (.t 10), []⟩,
       ⟨none, (some 53), .bin .sub (.t 51) (.t 52), []⟩,
       ⟨none, (some 54), .mov (.t 2), []⟩,
       ⟨none, (some 55), .mov (.t 10), []⟩,
       ⟨none, (some 56), .mov (.t 4), []⟩,
       ⟨none, (some 57), .call false 624 [.t 50, .t 53, .t 54, .t 55, .t 56], []⟩]))))
def c610 : Fn := { np := 5, nt := 58, kind := .args, res := [], body := k610 }

/- slices.swapRangeCmpFunc[impl.Move] -/
def b624_1 : Cd :=
  (.seq
   (.seq
    (.reg [13] [
      ⟨none, (some 11), .mov (.t 10), []⟩,
      ⟨none, (some 12), .mov (.t 3), []⟩,
      ⟨none, (some 13), .bin .lss (.t 11) (.t 12), []⟩])
    (.cond (.t 13)
     .skip
     (.exit 0)))
   (.seq
    (.block 1
     (.reg [] [
       ⟨none, (some 16), .mov (.t 0), []⟩,
       ⟨none, (some 17), .mov (.t 1), []⟩,
       ⟨none, (some 18), .mov (.t 10), []⟩,
       ⟨none, (some 19), .bin .add (.t 17) (.t 18), []⟩,
       ⟨none, (some 20), .mov (.t 0), []⟩,
       ⟨none, (some 21), .mov (.t 2), []⟩,
       ⟨none, (some 22), .mov (.t 10), []⟩,
       ⟨none, (some 23), .bin .add (.t 21) (.t 22), []⟩,
       ⟨none, (some 24), .mov (.t 0), []⟩,
       ⟨none, (some 25), .mov (.t 2), []⟩,
       ⟨none, (some 26), .mov (.t 10), []⟩,
       ⟨none, (some 27), .bin .add (.t 25) (.t 26), []⟩,
       ⟨none, (some 28), .idxA 2 (.t 24) (.t 27), []⟩,
       ⟨none, (some 29), .ld 2 true (.t 28), []⟩,
       ⟨none, (some 30), .mov (.t 0), []⟩,
       ⟨none, (some 31), .mov (.t 1), []⟩,
       ⟨none, (some 32), .mov (.t 10), []⟩,
       ⟨none, (some 33), .bin .add (.t 31) (.t 32), []⟩,
       ⟨none, (some 34), .idxA 2 (.t 30) (.t 33), []⟩,
       ⟨none, (some 35), .ld 2 true (.t 34), []⟩,
       ⟨none, (some 36), .idxA 2 (.t 16) (.t 19), []⟩,
       ⟨none, none, .st 2 (.t 36) (.t 29), []⟩,
       ⟨none, (some 37), .idxA 2 (.t 20) (.t 23), []⟩,
       ⟨none, none, .st 2 (.t 37) (.t 35), []⟩]))
    (.reg [10] [
      ⟨none, (some 14), .mov (.t 10), []⟩,
      ⟨none, (some 15), .bin .add (.t 14) (.c (.int .i64 1)), []⟩,
      ⟨none, (some 10), .mov (.t 15), []⟩])))
def k624 : Cd :=
  (.seq
   (.reg [10] [
     ⟨none, (some 10), .mov (.c (.int .i64 0)), []⟩])
   (.block 0
    (.loop b624_1)))
def c624 : Fn := { np := 5, nt := 38, kind := .args, res := [], body := k624 }


end Fb
