/- The functions of the law, in the small language. -/
import Derived.Test.YtmdnahopljfakaaDen
set_option linter.unusedVariables false
set_option linter.unusedSimpArgs false
namespace Fb
open Go

/- laws.FnBlobs -/
def b48_1 : Cd :=
  (.seq
   (.seq
    (.reg [153] [
      ⟨none, (some 150), .mov (.t 21), []⟩,
      ⟨none, (some 151), .mov (.t 8), []⟩,
      ⟨none, (some 152), .len (.t 151), []⟩,
      ⟨none, (some 153), .bin .lss (.t 150) (.t 152), []⟩])
    (.cond (.t 153)
     .skip
     (.exit 0)))
   (.seq
    (.block 1
     (.seq
      (.seq
       (.reg [172] [
         ⟨none, (some 156), .mov (.t 6), []⟩,
         ⟨none, (some 157), .mov (.t 21), []⟩,
         ⟨none, (some 158), .idxA 12 (.t 156) (.t 157), []⟩,
         ⟨none, (some 159), .ld 12 true (.t 158), []⟩,
         ⟨none, (some 160), .mov (.t 8), []⟩,
         ⟨none, (some 161), .mov (.t 21), []⟩,
         ⟨none, (some 162), .idxA 12 (.t 160) (.t 161), []⟩,
         ⟨none, (some 163), .ld 12 true (.t 162), []⟩,
         ⟨none, (some 164), .eq (.a (rb 12 (some .u16))) true (.t 159) (.t 163), []⟩,
         ⟨none, (some 165), .mov (.t 164), []⟩,
         ⟨(some (165, false)), (some 166), .mov (.t 8), []⟩,
         ⟨(some (165, false)), (some 167), .mov (.t 21), []⟩,
         ⟨(some (165, false)), (some 168), .idxA 12 (.t 166) (.t 167), []⟩,
         ⟨(some (165, false)), (some 169), .ld 12 true (.t 168), []⟩,
         ⟨(some (165, false)), (some 170), .agg (zs 12 (.int .u16 0)) [], []⟩,
         ⟨(some (165, false)), (some 171), .eq (.a (rb 12 (some .u16))) false (.t 169) (.t 170), []⟩,
         ⟨none, (some 172), .pick (.t 165) (.c (.bool true)) (.t 171), []⟩])
       (.cond (.t 172)
        (.seq
         (.reg [4] [
           ⟨none, (some 4), .mov (.c (.bool false)), []⟩])
         .ret)
        .skip))
      (.seq
       (.reg [22, 23] [
         ⟨none, (some 174), .ldV 20 none 12 true, []⟩,
         ⟨none, (some 175), .mov (.t 8), []⟩,
         ⟨none, (some 176), .mov (.t 21), []⟩,
         ⟨none, (some 177), .idxA 12 (.t 175) (.t 176), []⟩,
         ⟨none, (some 178), .ld 12 true (.t 177), []⟩,
         ⟨none, (some 22), .zero true (zs 12 (.int .u16 0)), []⟩,
         ⟨none, (some 179), .call true 251 [.t 174, .t 178], []⟩,
         ⟨none, (some 173), .mov (.t 179), []⟩,
         ⟨none, (some 180), .ext (.t 173) 0, []⟩,
         ⟨none, (some 181), .ext (.t 173) 1, []⟩,
         ⟨none, (some 22), .stV 22 none 12 (.t 180), []⟩,
         ⟨none, (some 23), .mov (.t 181), []⟩])
       (.seq
        (.reg [24, 25] [
          ⟨none, (some 183), .mov (.t 8), []⟩,
          ⟨none, (some 184), .mov (.t 21), []⟩,
          ⟨none, (some 185), .idxA 12 (.t 183) (.t 184), []⟩,
          ⟨none, (some 186), .ld 12 true (.t 185), []⟩,
          ⟨none, (some 187), .call true 247 [.t 186], []⟩,
          ⟨none, (some 182), .mov (.t 187), []⟩,
          ⟨none, (some 188), .ext (.t 182) 0, []⟩,
          ⟨none, (some 189), .ext (.t 182) 1, []⟩,
          ⟨none, (some 24), .zero true (zs 12 (.int .u16 0)), []⟩,
          ⟨none, (some 24), .stV 24 none 12 (.t 188), []⟩,
          ⟨none, (some 25), .mov (.t 189), []⟩])
        (.seq
         (.reg [26, 27] [
           ⟨none, (some 191), .ldV 24 none 12 true, []⟩,
           ⟨none, (some 192), .ldV 5 none 12 true, []⟩,
           ⟨none, (some 193), .call true 251 [.t 191, .t 192], []⟩,
           ⟨none, (some 190), .mov (.t 193), []⟩,
           ⟨none, (some 194), .ext (.t 190) 0, []⟩,
           ⟨none, (some 195), .ext (.t 190) 1, []⟩,
           ⟨none, (some 26), .zero true (zs 12 (.int .u16 0)), []⟩,
           ⟨none, (some 26), .stV 26 none 12 (.t 194), []⟩,
           ⟨none, (some 27), .mov (.t 195), []⟩])
         (.seq
          (.seq
           (.reg [218] [
             ⟨none, (some 196), .mov (.t 23), []⟩,
             ⟨none, (some 197), .bin .neq (.t 196) (.c (.int .i64 0)), []⟩,
             ⟨none, (some 198), .mov (.t 197), []⟩,
             ⟨(some (198, false)), (some 199), .ldV 22 none 12 true, []⟩,
             ⟨(some (198, false)), (some 200), .agg (zs 12 (.int .u16 0)) [], []⟩,
             ⟨(some (198, false)), (some 201), .eq (.a (rb 12 (some .u16))) true (.t 199) (.t 200), []⟩,
             ⟨none, (some 202), .pick (.t 198) (.c (.bool true)) (.t 201), []⟩,
             ⟨none, (some 203), .mov (.t 202), []⟩,
             ⟨(some (203, false)), (some 204), .mov (.t 25), []⟩,
             ⟨(some (203, false)), (some 205), .bin .neq (.t 204) (.c (.int .i64 0)), []⟩,
             ⟨none, (some 206), .pick (.t 203) (.c (.bool true)) (.t 205), []⟩,
             ⟨none, (some 207), .mov (.t 206), []⟩,
             ⟨(some (207, false)), (some 208), .mov (.t 27), []⟩,
             ⟨(some (207, false)), (some 209), .bin .neq (.t 208) (.c (.int .i64 0)), []⟩,
             ⟨none, (some 210), .pick (.t 207) (.c (.bool true)) (.t 209), []⟩,
             ⟨none, (some 211), .mov (.t 210), []⟩,
             ⟨(some (211, false)), (some 212), .ldV 26 none 12 true, []⟩,
             ⟨(some (211, false)), (some 213), .mov (.t 8), []⟩,
             ⟨(some (211, false)), (some 214), .mov (.t 21), []⟩,
             ⟨(some (211, false)), (some 215), .idxA 12 (.t 213) (.t 214), []⟩,
             ⟨(some (211, false)), (some 216), .ld 12 true (.t 215), []⟩,
             ⟨(some (211, false)), (some 217), .eq (.a (rb 12 (some .u16))) true (.t 212) (.t 216), []⟩,
             ⟨none, (some 218), .pick (.t 211) (.c (.bool true)) (.t 217), []⟩])
           (.cond (.t 218)
            (.seq
             (.reg [4] [
               ⟨none, (some 4), .mov (.c (.bool false)), []⟩])
             .ret)
            .skip))
          (.seq
           (.reg [28, 29] [
             ⟨none, (some 220), .mov (.t 8), []⟩,
             ⟨none, (some 221), .mov (.t 21), []⟩,
             ⟨none, (some 222), .idxA 12 (.t 220) (.t 221), []⟩,
             ⟨none, (some 223), .ld 12 true (.t 222), []⟩,
             ⟨none, (some 224), .call true 242 [.t 223], []⟩,
             ⟨none, (some 219), .mov (.t 224), []⟩,
             ⟨none, (some 225), .ext (.t 219) 0, []⟩,
             ⟨none, (some 226), .ext (.t 219) 1, []⟩,
             ⟨none, (some 28), .mov (.t 225), []⟩,
             ⟨none, (some 29), .mov (.t 226), []⟩])
           (.seq
            (.seq
             (.reg [233] [
               ⟨none, (some 227), .mov (.t 29), []⟩,
               ⟨none, (some 228), .bin .neq (.t 227) (.c (.int .i64 0)), []⟩,
               ⟨none, (some 229), .mov (.t 228), []⟩,
               ⟨(some (229, false)), (some 230), .mov (.t 28), []⟩,
               ⟨(some (229, false)), (some 231), .len (.t 230), []⟩,
               ⟨(some (229, false)), (some 232), .bin .eql (.t 231) (.c (.int .i64 0)), []⟩,
               ⟨none, (some 233), .pick (.t 229) (.c (.bool true)) (.t 232), []⟩])
             (.cond (.t 233)
              (.seq
               (.reg [4] [
                 ⟨none, (some 4), .mov (.c (.bool false)), []⟩])
               .ret)
              .skip))
            (.seq
             (.reg [30] [
               ⟨none, (some 234), .mov (.t 28), []⟩,
               ⟨none, (some 235), .mov (.t 1), []⟩,
               ⟨none, (some 236), .mov (.t 21), []⟩,
               ⟨none, (some 237), .mov (.t 28), []⟩,
               ⟨none, (some 238), .len (.t 237), []⟩,
               ⟨none, (some 239), .call true 124 [.t 235, .t 236, .t 238], []⟩,
               ⟨none, (some 240), .idxA 2 (.t 234) (.t 239), []⟩,
               ⟨none, (some 241), .ld 2 true (.t 240), []⟩,
               ⟨none, (some 30), .zero true [.int .i8 0, .int .i8 0], []⟩,
               ⟨none, (some 30), .stV 30 none 2 (.t 241), []⟩])
             (.seq
              (.reg [31, 32] [
                ⟨none, (some 243), .ldV 5 none 12 true, []⟩,
                ⟨none, (some 244), .adrF 30 none 0, []⟩,
                ⟨none, (some 245), .ldV 30 (some 244) 1 false, []⟩,
                ⟨none, (some 246), .conv .i64 (.t 245), []⟩,
                ⟨none, (some 247), .adrF 30 none 1, []⟩,
                ⟨none, (some 248), .ldV 30 (some 247) 1 false, []⟩,
                ⟨none, (some 249), .conv .i64 (.t 248), []⟩,
                ⟨none, (some 250), .call true 252 [.t 243, .t 246, .t 249], []⟩,
                ⟨none, (some 242), .mov (.t 250), []⟩,
                ⟨none, (some 251), .ext (.t 242) 0, []⟩,
                ⟨none, (some 252), .ext (.t 242) 1, []⟩,
                ⟨none, (some 31), .zero true (zs 12 (.int .u16 0)), []⟩,
                ⟨none, (some 31), .stV 31 none 12 (.t 251), []⟩,
                ⟨none, (some 32), .mov (.t 252), []⟩])
              (.seq
               (.seq
                (.reg [262] [
                  ⟨none, (some 253), .mov (.t 32), []⟩,
                  ⟨none, (some 254), .bin .neq (.t 253) (.c (.int .i64 0)), []⟩,
                  ⟨none, (some 255), .mov (.t 254), []⟩,
                  ⟨(some (255, false)), (some 256), .ldV 31 none 12 true, []⟩,
                  ⟨(some (255, false)), (some 257), .mov (.t 8), []⟩,
                  ⟨(some (255, false)), (some 258), .mov (.t 21), []⟩,
                  ⟨(some (255, false)), (some 259), .idxA 12 (.t 257) (.t 258), []⟩,
                  ⟨(some (255, false)), (some 260), .ld 12 true (.t 259), []⟩,
                  ⟨(some (255, false)), (some 261), .eq (.a (rb 12 (some .u16))) true (.t 256) (.t 260), []⟩,
                  ⟨none, (some 262), .pick (.t 255) (.c (.bool true)) (.t 261), []⟩])
                (.cond (.t 262)
                 (.seq
                  (.reg [4] [
                    ⟨none, (some 4), .mov (.c (.bool false)), []⟩])
                  .ret)
                 .skip))
               (.seq
                (.reg [33, 34] [
                  ⟨none, (some 264), .ldV 20 none 12 true, []⟩,
                  ⟨none, (some 265), .mov (.t 8), []⟩,
                  ⟨none, (some 266), .mov (.t 21), []⟩,
                  ⟨none, (some 267), .idxA 12 (.t 265) (.t 266), []⟩,
                  ⟨none, (some 268), .ld 12 true (.t 267), []⟩,
                  ⟨none, (some 33), .zero true (zs 12 (.int .u16 0)), []⟩,
                  ⟨none, (some 269), .call true 253 [.t 264, .t 268], []⟩,
                  ⟨none, (some 263), .mov (.t 269), []⟩,
                  ⟨none, (some 270), .ext (.t 263) 0, []⟩,
                  ⟨none, (some 271), .ext (.t 263) 1, []⟩,
                  ⟨none, (some 33), .stV 33 none 12 (.t 270), []⟩,
                  ⟨none, (some 34), .mov (.t 271), []⟩])
                (.seq
                 (.seq
                  (.reg [273] [
                    ⟨none, (some 272), .mov (.t 34), []⟩,
                    ⟨none, (some 273), .bin .neq (.t 272) (.c (.int .i64 0)), []⟩])
                  (.cond (.t 273)
                   (.seq
                    (.reg [4] [
                      ⟨none, (some 4), .mov (.c (.bool false)), []⟩])
                    .ret)
                   .skip))
                 (.reg [20] [
                   ⟨none, (some 274), .ldV 33 none 12 true, []⟩,
                   ⟨none, (some 20), .stV 20 none 12 (.t 274), []⟩]))))))))))))))
    (.reg [21] [
      ⟨none, (some 154), .mov (.t 21), []⟩,
      ⟨none, (some 155), .bin .add (.t 154) (.c (.int .i64 1)), []⟩,
      ⟨none, (some 21), .mov (.t 155), []⟩])))
def k48 : Cd :=
  (.seq
   (.reg [4] [
     ⟨none, (some 4), .mov (.c (.bool false)), []⟩])
   (.seq
    (.seq
     (.reg [59] [
       ⟨none, (some 57), .mov (.t 0), []⟩,
       ⟨none, (some 58), .mov (.t 1), []⟩,
       ⟨none, (some 59), .call true 84 [.t 57, .t 58], []⟩])
     (.cond (.t 59)
      (.seq
       (.reg [4] [
         ⟨none, (some 4), .mov (.c (.bool true)), []⟩])
       .ret)
      .skip))
    (.seq
     (.reg [5] [
       ⟨none, (some 60), .mov (.t 0), []⟩,
       ⟨none, (some 61), .call true 147 [.t 60], []⟩,
       ⟨none, (some 5), .zero true (zs 12 (.int .u16 0)), []⟩,
       ⟨none, (some 5), .stV 5 none 12 (.t 61), []⟩])
     (.seq
      (.reg [6, 7] [
        ⟨none, (some 63), .ldV 5 none 12 true, []⟩,
        ⟨none, (some 64), .call true 245 [.t 63], []⟩,
        ⟨none, (some 62), .mov (.t 64), []⟩,
        ⟨none, (some 65), .ext (.t 62) 0, []⟩,
        ⟨none, (some 66), .ext (.t 62) 1, []⟩,
        ⟨none, (some 6), .mov (.t 65), []⟩,
        ⟨none, (some 7), .mov (.t 66), []⟩])
      (.seq
       (.reg [8, 9] [
         ⟨none, (some 68), .ldV 5 none 12 true, []⟩,
         ⟨none, (some 69), .call true 246 [.t 68], []⟩,
         ⟨none, (some 67), .mov (.t 69), []⟩,
         ⟨none, (some 70), .ext (.t 67) 0, []⟩,
         ⟨none, (some 71), .ext (.t 67) 1, []⟩,
         ⟨none, (some 8), .mov (.t 70), []⟩,
         ⟨none, (some 9), .mov (.t 71), []⟩])
       (.seq
        (.reg [10, 11] [
          ⟨none, (some 73), .ldV 5 none 12 true, []⟩,
          ⟨none, (some 74), .call true 247 [.t 73], []⟩,
          ⟨none, (some 72), .mov (.t 74), []⟩,
          ⟨none, (some 75), .ext (.t 72) 0, []⟩,
          ⟨none, (some 76), .ext (.t 72) 1, []⟩,
          ⟨none, (some 10), .zero true (zs 12 (.int .u16 0)), []⟩,
          ⟨none, (some 10), .stV 10 none 12 (.t 75), []⟩,
          ⟨none, (some 11), .mov (.t 76), []⟩])
        (.seq
         (.reg [12, 13] [
           ⟨none, (some 78), .ldV 5 none 12 true, []⟩,
           ⟨none, (some 79), .call true 248 [.t 78], []⟩,
           ⟨none, (some 77), .mov (.t 79), []⟩,
           ⟨none, (some 80), .ext (.t 77) 0, []⟩,
           ⟨none, (some 81), .ext (.t 77) 1, []⟩,
           ⟨none, (some 12), .zero true (zs 12 (.int .u16 0)), []⟩,
           ⟨none, (some 12), .stV 12 none 12 (.t 80), []⟩,
           ⟨none, (some 13), .mov (.t 81), []⟩])
         (.seq
          (.reg [14, 15] [
            ⟨none, (some 83), .ldV 12 none 12 true, []⟩,
            ⟨none, (some 84), .call true 249 [.t 83], []⟩,
            ⟨none, (some 82), .mov (.t 84), []⟩,
            ⟨none, (some 85), .ext (.t 82) 0, []⟩,
            ⟨none, (some 86), .ext (.t 82) 1, []⟩,
            ⟨none, (some 14), .zero true (zs 12 (.int .u16 0)), []⟩,
            ⟨none, (some 14), .stV 14 none 12 (.t 85), []⟩,
            ⟨none, (some 15), .mov (.t 86), []⟩])
          (.seq
           (.reg [16, 17] [
             ⟨none, (some 88), .ldV 12 none 12 true, []⟩,
             ⟨none, (some 89), .call true 250 [.t 88], []⟩,
             ⟨none, (some 87), .mov (.t 89), []⟩,
             ⟨none, (some 90), .ext (.t 87) 0, []⟩,
             ⟨none, (some 91), .ext (.t 87) 1, []⟩,
             ⟨none, (some 16), .zero true (zs 12 (.int .u16 0)), []⟩,
             ⟨none, (some 16), .stV 16 none 12 (.t 90), []⟩,
             ⟨none, (some 17), .mov (.t 91), []⟩])
           (.seq
            (.reg [18, 19] [
              ⟨none, (some 93), .ldV 5 none 12 true, []⟩,
              ⟨none, (some 94), .ldV 16 none 12 true, []⟩,
              ⟨none, (some 95), .call true 237 [.t 93, .t 94], []⟩,
              ⟨none, (some 92), .mov (.t 95), []⟩,
              ⟨none, (some 96), .ext (.t 92) 0, []⟩,
              ⟨none, (some 97), .ext (.t 92) 1, []⟩,
              ⟨none, (some 18), .zero true (zs 12 (.int .u16 0)), []⟩,
              ⟨none, (some 18), .stV 18 none 12 (.t 96), []⟩,
              ⟨none, (some 19), .mov (.t 97), []⟩])
            (.seq
             (.seq
              (.reg [148] [
                ⟨none, (some 98), .mov (.t 7), []⟩,
                ⟨none, (some 99), .mov (.t 9), []⟩,
                ⟨none, (some 100), .bin .neq (.t 98) (.t 99), []⟩,
                ⟨none, (some 101), .mov (.t 100), []⟩,
                ⟨(some (101, false)), (some 102), .mov (.t 7), []⟩,
                ⟨(some (101, false)), (some 103), .bin .neq (.t 102) (.c (.int .i64 0)), []⟩,
                ⟨none, (some 104), .pick (.t 101) (.c (.bool true)) (.t 103), []⟩,
                ⟨none, (some 105), .mov (.t 104), []⟩,
                ⟨(some (105, false)), (some 106), .mov (.t 6), []⟩,
                ⟨(some (105, false)), (some 107), .len (.t 106), []⟩,
                ⟨(some (105, false)), (some 108), .mov (.t 8), []⟩,
                ⟨(some (105, false)), (some 109), .len (.t 108), []⟩,
                ⟨(some (105, false)), (some 110), .bin .neq (.t 107) (.t 109), []⟩,
                ⟨none, (some 111), .pick (.t 105) (.c (.bool true)) (.t 110), []⟩,
                ⟨none, (some 112), .mov (.t 111), []⟩,
                ⟨(some (112, false)), (some 113), .mov (.t 11), []⟩,
                ⟨(some (112, false)), (some 114), .mov (.t 13), []⟩,
                ⟨(some (112, false)), (some 115), .bin .neq (.t 113) (.t 114), []⟩,
                ⟨none, (some 116), .pick (.t 112) (.c (.bool true)) (.t 115), []⟩,
                ⟨none, (some 117), .mov (.t 116), []⟩,
                ⟨(some (117, false)), (some 118), .mov (.t 11), []⟩,
                ⟨(some (117, false)), (some 119), .bin .neq (.t 118) (.c (.int .i64 0)), []⟩,
                ⟨none, (some 120), .pick (.t 117) (.c (.bool true)) (.t 119), []⟩,
                ⟨none, (some 121), .mov (.t 120), []⟩,
                ⟨(some (121, false)), (some 122), .ldV 10 none 12 true, []⟩,
                ⟨(some (121, false)), (some 123), .ldV 12 none 12 true, []⟩,
                ⟨(some (121, false)), (some 124), .eq (.a (rb 12 (some .u16))) true (.t 122) (.t 123), []⟩,
                ⟨none, (some 125), .pick (.t 121) (.c (.bool true)) (.t 124), []⟩,
                ⟨none, (some 126), .mov (.t 125), []⟩,
                ⟨(some (126, false)), (some 127), .mov (.t 15), []⟩,
                ⟨(some (126, false)), (some 128), .mov (.t 17), []⟩,
                ⟨(some (126, false)), (some 129), .bin .neq (.t 127) (.t 128), []⟩,
                ⟨none, (some 130), .pick (.t 126) (.c (.bool true)) (.t 129), []⟩,
                ⟨none, (some 131), .mov (.t 130), []⟩,
                ⟨(some (131, false)), (some 132), .mov (.t 15), []⟩,
                ⟨(some (131, false)), (some 133), .bin .neq (.t 132) (.c (.int .i64 0)), []⟩,
                ⟨none, (some 134), .pick (.t 131) (.c (.bool true)) (.t 133), []⟩,
                ⟨none, (some 135), .mov (.t 134), []⟩,
                ⟨(some (135, false)), (some 136), .ldV 14 none 12 true, []⟩,
                ⟨(some (135, false)), (some 137), .ldV 16 none 12 true, []⟩,
                ⟨(some (135, false)), (some 138), .eq (.a (rb 12 (some .u16))) true (.t 136) (.t 137), []⟩,
                ⟨none, (some 139), .pick (.t 135) (.c (.bool true)) (.t 138), []⟩,
                ⟨none, (some 140), .mov (.t 139), []⟩,
                ⟨(some (140, false)), (some 141), .mov (.t 19), []⟩,
                ⟨(some (140, false)), (some 142), .bin .neq (.t 141) (.c (.int .i64 0)), []⟩,
                ⟨none, (some 143), .pick (.t 140) (.c (.bool true)) (.t 142), []⟩,
                ⟨none, (some 144), .mov (.t 143), []⟩,
                ⟨(some (144, false)), (some 145), .ldV 18 none 12 true, []⟩,
                ⟨(some (144, false)), (some 146), .agg (zs 12 (.int .u16 0)) [], []⟩,
                ⟨(some (144, false)), (some 147), .eq (.a (rb 12 (some .u16))) true (.t 145) (.t 146), []⟩,
                ⟨none, (some 148), .pick (.t 144) (.c (.bool true)) (.t 147), []⟩])
              (.cond (.t 148)
               (.seq
                (.reg [4] [
                  ⟨none, (some 4), .mov (.c (.bool false)), []⟩])
                .ret)
               .skip))
             (.seq
              (.reg [20] [
                ⟨none, (some 149), .agg (zs 12 (.int .u16 0)) [], []⟩,
                ⟨none, (some 20), .zero true (zs 12 (.int .u16 0)), []⟩,
                ⟨none, (some 20), .stV 20 none 12 (.t 149), []⟩])
              (.seq
               (.seq
                (.reg [21] [
                  ⟨none, (some 21), .mov (.c (.int .i64 0)), []⟩])
                (.block 0
                 (.loop b48_1)))
               (.seq
                (.reg [35, 36] [
                  ⟨none, (some 276), .ldV 5 none 12 true, []⟩,
                  ⟨none, (some 277), .call true 254 [.t 276], []⟩,
                  ⟨none, (some 275), .mov (.t 277), []⟩,
                  ⟨none, (some 278), .ext (.t 275) 0, []⟩,
                  ⟨none, (some 279), .ext (.t 275) 1, []⟩,
                  ⟨none, (some 35), .zero true (zs 4 (.int .i8 0)), []⟩,
                  ⟨none, (some 35), .stV 35 none 4 (.t 278), []⟩,
                  ⟨none, (some 36), .mov (.t 279), []⟩])
                (.seq
                 (.reg [37, 38] [
                   ⟨none, (some 281), .ldV 5 none 12 true, []⟩,
                   ⟨none, (some 282), .call true 255 [.t 281], []⟩,
                   ⟨none, (some 280), .mov (.t 282), []⟩,
                   ⟨none, (some 283), .ext (.t 280) 0, []⟩,
                   ⟨none, (some 284), .ext (.t 280) 1, []⟩,
                   ⟨none, (some 37), .zero true (zs 4 (.int .i8 0)), []⟩,
                   ⟨none, (some 37), .stV 37 none 4 (.t 283), []⟩,
                   ⟨none, (some 38), .mov (.t 284), []⟩])
                 (.seq
                  (.seq
                   (.reg [305] [
                     ⟨none, (some 285), .ldV 20 none 12 true, []⟩,
                     ⟨none, (some 286), .ldV 5 none 12 true, []⟩,
                     ⟨none, (some 287), .eq (.a (rb 12 (some .u16))) true (.t 285) (.t 286), []⟩,
                     ⟨none, (some 288), .mov (.t 287), []⟩,
                     ⟨(some (288, false)), (some 289), .mov (.t 36), []⟩,
                     ⟨(some (288, false)), (some 290), .mov (.t 38), []⟩,
                     ⟨(some (288, false)), (some 291), .bin .neq (.t 289) (.t 290), []⟩,
                     ⟨none, (some 292), .pick (.t 288) (.c (.bool true)) (.t 291), []⟩,
                     ⟨none, (some 293), .mov (.t 292), []⟩,
                     ⟨(some (293, false)), (some 294), .ldV 35 none 4 true, []⟩,
                     ⟨(some (293, false)), (some 295), .ldV 37 none 4 true, []⟩,
                     ⟨(some (293, false)), (some 296), .eq (.a (rb 4 (some .i8))) true (.t 294) (.t 295), []⟩,
                     ⟨none, (some 297), .pick (.t 293) (.c (.bool true)) (.t 296), []⟩,
                     ⟨none, (some 298), .mov (.t 297), []⟩,
                     ⟨(some (298, false)), (some 299), .mov (.t 36), []⟩,
                     ⟨(some (298, false)), (some 300), .bin .eql (.t 299) (.c (.int .i64 0)), []⟩,
                     ⟨(some (298, false)), (some 301), .mov (.t 8), []⟩,
                     ⟨(some (298, false)), (some 302), .len (.t 301), []⟩,
                     ⟨(some (298, false)), (some 303), .bin .gtr (.t 302) (.c (.int .i64 0)), []⟩,
                     ⟨(some (298, false)), (some 304), .eq .b true (.t 300) (.t 303), []⟩,
                     ⟨none, (some 305), .pick (.t 298) (.c (.bool true)) (.t 304), []⟩])
                   (.cond (.t 305)
                    (.seq
                     (.reg [4] [
                       ⟨none, (some 4), .mov (.c (.bool false)), []⟩])
                     .ret)
                    .skip))
                  (.seq
                   (.reg [39] [
                     ⟨none, (some 306), .mov (.t 1), []⟩,
                     ⟨none, (some 307), .call true 124 [.t 306, .c (.int .i64 0), .c (.int .i64 12)], []⟩,
                     ⟨none, (some 39), .mov (.t 307), []⟩])
                   (.seq
                    (.reg [40] [
                      ⟨none, (some 308), .mov (.t 1), []⟩,
                      ⟨none, (some 309), .call true 124 [.t 308, .c (.int .i64 1), .c (.int .i64 12)], []⟩,
                      ⟨none, (some 40), .mov (.t 309), []⟩])
                    (.seq
                     (.reg [41, 42] [
                       ⟨none, (some 311), .ldV 5 none 12 true, []⟩,
                       ⟨none, (some 312), .mov (.t 39), []⟩,
                       ⟨none, (some 313), .mov (.t 40), []⟩,
                       ⟨none, (some 314), .call true 256 [.t 311, .t 312, .t 313, .c (.bool true)], []⟩,
                       ⟨none, (some 310), .mov (.t 314), []⟩,
                       ⟨none, (some 315), .ext (.t 310) 0, []⟩,
                       ⟨none, (some 316), .ext (.t 310) 1, []⟩,
                       ⟨none, (some 41), .zero true (zs 12 (.int .u16 0)), []⟩,
                       ⟨none, (some 41), .stV 41 none 12 (.t 315), []⟩,
                       ⟨none, (some 42), .mov (.t 316), []⟩])
                     (.seq
                      (.reg [43, 44] [
                        ⟨none, (some 318), .ldV 41 none 12 true, []⟩,
                        ⟨none, (some 319), .mov (.t 39), []⟩,
                        ⟨none, (some 320), .mov (.t 40), []⟩,
                        ⟨none, (some 321), .call true 256 [.t 318, .t 319, .t 320, .c (.bool false)], []⟩,
                        ⟨none, (some 317), .mov (.t 321), []⟩,
                        ⟨none, (some 322), .ext (.t 317) 0, []⟩,
                        ⟨none, (some 323), .ext (.t 317) 1, []⟩,
                        ⟨none, (some 43), .zero true (zs 12 (.int .u16 0)), []⟩,
                        ⟨none, (some 43), .stV 43 none 12 (.t 322), []⟩,
                        ⟨none, (some 44), .mov (.t 323), []⟩])
                      (.seq
                       (.reg [45, 46] [
                         ⟨none, (some 325), .ldV 41 none 12 true, []⟩,
                         ⟨none, (some 326), .mov (.t 39), []⟩,
                         ⟨none, (some 327), .mov (.t 40), []⟩,
                         ⟨none, (some 328), .call true 240 [.t 325, .t 326, .t 327], []⟩,
                         ⟨none, (some 324), .mov (.t 328), []⟩,
                         ⟨none, (some 329), .ext (.t 324) 0, []⟩,
                         ⟨none, (some 330), .ext (.t 324) 1, []⟩,
                         ⟨none, (some 45), .mov (.t 329), []⟩,
                         ⟨none, (some 46), .mov (.t 330), []⟩])
                       (.seq
                        (.reg [47, 48] [
                          ⟨none, (some 332), .ldV 43 none 12 true, []⟩,
                          ⟨none, (some 333), .mov (.t 39), []⟩,
                          ⟨none, (some 334), .mov (.t 40), []⟩,
                          ⟨none, (some 335), .call true 240 [.t 332, .t 333, .t 334], []⟩,
                          ⟨none, (some 331), .mov (.t 335), []⟩,
                          ⟨none, (some 336), .ext (.t 331) 0, []⟩,
                          ⟨none, (some 337), .ext (.t 331) 1, []⟩,
                          ⟨none, (some 47), .mov (.t 336), []⟩,
                          ⟨none, (some 48), .mov (.t 337), []⟩])
                        (.seq
                         (.reg [49, 50] [
                           ⟨none, (some 339), .ldV 43 none 12 true, []⟩,
                           ⟨none, (some 340), .mov (.t 39), []⟩,
                           ⟨none, (some 341), .mov (.t 40), []⟩,
                           ⟨none, (some 342), .call true 252 [.t 339, .t 340, .t 341], []⟩,
                           ⟨none, (some 338), .mov (.t 342), []⟩,
                           ⟨none, (some 343), .ext (.t 338) 0, []⟩,
                           ⟨none, (some 344), .ext (.t 338) 1, []⟩,
                           ⟨none, (some 49), .zero true (zs 12 (.int .u16 0)), []⟩,
                           ⟨none, (some 49), .stV 49 none 12 (.t 343), []⟩,
                           ⟨none, (some 50), .mov (.t 344), []⟩])
                         (.seq
                          (.reg [51, 52] [
                            ⟨none, (some 346), .ldV 5 none 12 true, []⟩,
                            ⟨none, (some 347), .ldV 41 none 12 true, []⟩,
                            ⟨none, (some 348), .call true 125 [.t 346, .t 347], []⟩,
                            ⟨none, (some 345), .mov (.t 348), []⟩,
                            ⟨none, (some 349), .ext (.t 345) 0, []⟩,
                            ⟨none, (some 350), .ext (.t 345) 1, []⟩,
                            ⟨none, (some 51), .mov (.t 349), []⟩,
                            ⟨none, (some 52), .mov (.t 350), []⟩])
                          (.seq
                           (.seq
                            (.reg [365] [
                              ⟨none, (some 351), .mov (.t 52), []⟩,
                              ⟨none, (some 352), .bin .neq (.t 351) (.c (.int .i64 0)), []⟩,
                              ⟨none, (some 353), .mov (.t 352), []⟩,
                              ⟨(some (353, false)), (some 354), .mov (.t 51), []⟩,
                              ⟨(some (353, false)), (some 355), .mov (.t 40), []⟩,
                              ⟨(some (353, false)), (some 356), .adrI 5 none 12 1 (.t 355), []⟩,
                              ⟨(some (353, false)), (some 357), .ldV 5 (some 356) 1 false, []⟩,
                              ⟨(some (353, false)), (some 358), .mov (.t 39), []⟩,
                              ⟨(some (353, false)), (some 359), .conv .u64 (.t 358), []⟩,
                              ⟨(some (353, false)), (some 360), .bin .shr (.t 357) (.t 359), []⟩,
                              ⟨(some (353, false)), (some 361), .bin .and (.t 360) (.c (.int .u16 1)), []⟩,
                              ⟨(some (353, false)), (some 362), .conv .i64 (.t 361), []⟩,
                              ⟨(some (353, false)), (some 363), .bin .sub (.c (.int .i64 1)) (.t 362), []⟩,
                              ⟨(some (353, false)), (some 364), .bin .neq (.t 354) (.t 363), []⟩,
                              ⟨none, (some 365), .pick (.t 353) (.c (.bool true)) (.t 364), []⟩])
                            (.cond (.t 365)
                             (.seq
                              (.reg [4] [
                                ⟨none, (some 4), .mov (.c (.bool false)), []⟩])
                              .ret)
                             .skip))
                           (.seq
                            (.seq
                             (.reg [390] [
                               ⟨none, (some 366), .mov (.t 42), []⟩,
                               ⟨none, (some 367), .bin .neq (.t 366) (.c (.int .i64 0)), []⟩,
                               ⟨none, (some 368), .mov (.t 367), []⟩,
                               ⟨(some (368, false)), (some 369), .mov (.t 44), []⟩,
                               ⟨(some (368, false)), (some 370), .bin .neq (.t 369) (.c (.int .i64 0)), []⟩,
                               ⟨none, (some 371), .pick (.t 368) (.c (.bool true)) (.t 370), []⟩,
                               ⟨none, (some 372), .mov (.t 371), []⟩,
                               ⟨(some (372, false)), (some 373), .mov (.t 46), []⟩,
                               ⟨(some (372, false)), (some 374), .bin .neq (.t 373) (.c (.int .i64 0)), []⟩,
                               ⟨none, (some 375), .pick (.t 372) (.c (.bool true)) (.t 374), []⟩,
                               ⟨none, (some 376), .mov (.t 375), []⟩,
                               ⟨(some (376, false)), (some 377), .mov (.t 45), []⟩,
                               ⟨(some (376, false)), (some 378), .un .not (.t 377), []⟩,
                               ⟨none, (some 379), .pick (.t 376) (.c (.bool true)) (.t 378), []⟩,
                               ⟨none, (some 380), .mov (.t 379), []⟩,
                               ⟨(some (380, false)), (some 381), .mov (.t 48), []⟩,
                               ⟨(some (380, false)), (some 382), .bin .neq (.t 381) (.c (.int .i64 0)), []⟩,
                               ⟨none, (some 383), .pick (.t 380) (.c (.bool true)) (.t 382), []⟩,
                               ⟨none, (some 384), .mov (.t 383), []⟩,
                               ⟨(some (384, false)), (some 385), .mov (.t 47), []⟩,
                               ⟨none, (some 386), .pick (.t 384) (.c (.bool true)) (.t 385), []⟩,
                               ⟨none, (some 387), .mov (.t 386), []⟩,
                               ⟨(some (387, false)), (some 388), .mov (.t 50), []⟩,
                               ⟨(some (387, false)), (some 389), .bin .neq (.t 388) (.c (.int .i64 6)), []⟩,
                               ⟨none, (some 390), .pick (.t 387) (.c (.bool true)) (.t 389), []⟩])
                             (.cond (.t 390)
                              (.seq
                               (.reg [4] [
                                 ⟨none, (some 4), .mov (.c (.bool false)), []⟩])
                               .ret)
                              .skip))
                            (.seq
                             (.seq
                              (.reg [392] [
                                ⟨none, (some 391), .mov (.t 36), []⟩,
                                ⟨none, (some 392), .bin .neq (.t 391) (.c (.int .i64 0)), []⟩])
                              (.cond (.t 392)
                               (.seq
                                (.reg [4] [
                                  ⟨none, (some 393), .mov (.t 36), []⟩,
                                  ⟨none, (some 394), .bin .eql (.t 393) (.c (.int .i64 6)), []⟩,
                                  ⟨none, (some 4), .mov (.t 394), []⟩])
                                .ret)
                               .skip))
                             (.seq
                              (.reg [53, 54] [
                                ⟨none, (some 396), .ldV 5 none 12 true, []⟩,
                                ⟨none, (some 397), .ldV 37 none 4 true, []⟩,
                                ⟨none, (some 398), .call true 257 [.t 396, .t 397], []⟩,
                                ⟨none, (some 395), .mov (.t 398), []⟩,
                                ⟨none, (some 399), .ext (.t 395) 0, []⟩,
                                ⟨none, (some 400), .ext (.t 395) 1, []⟩,
                                ⟨none, (some 53), .zero true (zs 12 (.int .u16 0)), []⟩,
                                ⟨none, (some 53), .stV 53 none 12 (.t 399), []⟩,
                                ⟨none, (some 54), .mov (.t 400), []⟩])
                              (.seq
                               (.seq
                                (.reg [407] [
                                  ⟨none, (some 401), .mov (.t 54), []⟩,
                                  ⟨none, (some 402), .bin .neq (.t 401) (.c (.int .i64 0)), []⟩,
                                  ⟨none, (some 403), .mov (.t 402), []⟩,
                                  ⟨(some (403, false)), (some 404), .ldV 53 none 12 true, []⟩,
                                  ⟨(some (403, false)), (some 405), .ldV 5 none 12 true, []⟩,
                                  ⟨(some (403, false)), (some 406), .eq (.a (rb 12 (some .u16))) true (.t 404) (.t 405), []⟩,
                                  ⟨none, (some 407), .pick (.t 403) (.c (.bool true)) (.t 406), []⟩])
                                (.cond (.t 407)
                                 (.seq
                                  (.reg [4] [
                                    ⟨none, (some 4), .mov (.c (.bool false)), []⟩])
                                  .ret)
                                 .skip))
                               (.seq
                                (.seq
                                 (.reg [410] [
                                   ⟨none, (some 408), .adrF 37 none 2, []⟩,
                                   ⟨none, (some 409), .ldV 37 (some 408) 1 false, []⟩,
                                   ⟨none, (some 410), .bin .gtr (.t 409) (.c (.int .i8 1)), []⟩])
                                 (.cond (.t 410)
                                  (.seq
                                   (.reg [55, 56] [
                                     ⟨none, (some 412), .ldV 5 none 12 true, []⟩,
                                     ⟨none, (some 413), .adrF 37 none 0, []⟩,
                                     ⟨none, (some 414), .ldV 37 (some 413) 1 false, []⟩,
                                     ⟨none, (some 415), .adrF 37 none 1, []⟩,
                                     ⟨none, (some 416), .ldV 37 (some 415) 1 false, []⟩,
                                     ⟨none, (some 417), .adrF 37 none 2, []⟩,
                                     ⟨none, (some 418), .ldV 37 (some 417) 1 false, []⟩,
                                     ⟨none, (some 419), .bin .sub (.t 418) (.c (.int .i8 1)), []⟩,
                                     ⟨none, (some 420), .adrF 37 none 3, []⟩,
                                     ⟨none, (some 421), .ldV 37 (some 420) 1 false, []⟩,
                                     ⟨none, (some 422), .agg (zs 4 (.int .i8 0)) [(0, 1, (.t 414)), (1, 1, (.t 416)), (2, 1, (.t 419)), (3, 1, (.t 421))], []⟩,
                                     ⟨none, (some 423), .call true 257 [.t 412, .t 422], []⟩,
                                     ⟨none, (some 411), .mov (.t 423), []⟩,
                                     ⟨none, (some 424), .ext (.t 411) 0, []⟩,
                                     ⟨none, (some 425), .ext (.t 411) 1, []⟩,
                                     ⟨none, (some 55), .zero true (zs 12 (.int .u16 0)), []⟩,
                                     ⟨none, (some 55), .stV 55 none 12 (.t 424), []⟩,
                                     ⟨none, (some 56), .mov (.t 425), []⟩])
                                   (.seq
                                    (.reg [432] [
                                      ⟨none, (some 426), .mov (.t 56), []⟩,
                                      ⟨none, (some 427), .bin .neq (.t 426) (.c (.int .i64 0)), []⟩,
                                      ⟨none, (some 428), .mov (.t 427), []⟩,
                                      ⟨(some (428, false)), (some 429), .ldV 55 none 12 true, []⟩,
                                      ⟨(some (428, false)), (some 430), .ldV 5 none 12 true, []⟩,
                                      ⟨(some (428, false)), (some 431), .eq (.a (rb 12 (some .u16))) false (.t 429) (.t 430), []⟩,
                                      ⟨none, (some 432), .pick (.t 428) (.c (.bool true)) (.t 431), []⟩])
                                    (.cond (.t 432)
                                     (.seq
                                      (.reg [4] [
                                        ⟨none, (some 4), .mov (.c (.bool false)), []⟩])
                                      .ret)
                                     .skip)))
                                  .skip))
                                (.seq
                                 (.reg [4] [
                                   ⟨none, (some 4), .mov (.c (.bool true)), []⟩])
                                 .ret)))))))))))))))))))))))))))))))
def c48 : Fn := { np := 2, nt := 433, kind := .pure, res := [.t 4], body := k48 }

/- laws.a2Long -/
def k84 : Cd :=
  (.seq
   (.reg [4] [
     ⟨none, (some 4), .mov (.c (.bool false)), []⟩])
   (.seq
    (.reg [4] [
      ⟨none, (some 5), .mov (.t 0), []⟩,
      ⟨none, (some 6), .len (.t 5), []⟩,
      ⟨none, (some 7), .bin .gtr (.t 6) (.c (.int .i64 3000)), []⟩,
      ⟨none, (some 8), .mov (.t 7), []⟩,
      ⟨(some (8, false)), (some 9), .mov (.t 1), []⟩,
      ⟨(some (8, false)), (some 10), .len (.t 9), []⟩,
      ⟨(some (8, false)), (some 11), .bin .gtr (.t 10) (.c (.int .i64 3000)), []⟩,
      ⟨none, (some 12), .pick (.t 8) (.c (.bool true)) (.t 11), []⟩,
      ⟨none, (some 4), .mov (.t 12), []⟩])
    .ret))
def c84 : Fn := { np := 2, nt := 13, kind := .pure, res := [.t 4], body := k84 }

/- laws.a2At -/
def k124 : Cd :=
  (.seq
   (.reg [6] [
     ⟨none, (some 6), .mov (.c (.int .i64 0)), []⟩])
   (.seq
    (.seq
     (.reg [14] [
       ⟨none, (some 7), .mov (.t 1), []⟩,
       ⟨none, (some 8), .mov (.t 0), []⟩,
       ⟨none, (some 9), .len (.t 8), []⟩,
       ⟨none, (some 10), .bin .geq (.t 7) (.t 9), []⟩,
       ⟨none, (some 11), .mov (.t 10), []⟩,
       ⟨(some (11, false)), (some 12), .mov (.t 2), []⟩,
       ⟨(some (11, false)), (some 13), .bin .lss (.t 12) (.c (.int .i64 1)), []⟩,
       ⟨none, (some 14), .pick (.t 11) (.c (.bool true)) (.t 13), []⟩])
     (.cond (.t 14)
      (.seq
       (.reg [6] [
         ⟨none, (some 6), .mov (.c (.int .i64 0)), []⟩])
       .ret)
      .skip))
    (.seq
     (.reg [6] [
       ⟨none, (some 15), .mov (.t 0), []⟩,
       ⟨none, (some 16), .mov (.t 1), []⟩,
       ⟨none, (some 17), .idxA 1 (.t 15) (.t 16), []⟩,
       ⟨none, (some 18), .ld 1 false (.t 17), []⟩,
       ⟨none, (some 19), .conv .i64 (.t 18), []⟩,
       ⟨none, (some 20), .mov (.t 2), []⟩,
       ⟨none, (some 21), .bin .rem (.t 19) (.t 20), []⟩,
       ⟨none, (some 6), .mov (.t 21), []⟩])
     .ret)))
def c124 : Fn := { np := 3, nt := 22, kind := .pure, res := [.t 6], body := k124 }

/- impl.DifferBy -/
def k125 : Cd :=
  (.seq
   (.reg [2, 3, 4, 5] [
     ⟨none, (some 2), .mov (.t 0), []⟩,
     ⟨none, (some 3), .mov (.t 1), []⟩,
     ⟨none, (some 4), .mov (.c (.int .i64 0)), []⟩,
     ⟨none, (some 5), .mov (.c (.int .i64 0)), []⟩])
   (.seq
    (.seq
     (.reg [10] [
       ⟨none, (some 6), .ldV 2 none 12 true, []⟩,
       ⟨none, (some 7), .ldV 3 none 12 true, []⟩,
       ⟨none, (some 8), .bldS 12 2 (zs 12 (.int .u16 0)) [(0, 12, (.t 6)), (12, 12, (.t 7))], []⟩,
       ⟨none, (some 9), .call true 351 [.t 8], []⟩,
       ⟨none, (some 10), .un .not (.t 9), []⟩])
     (.cond (.t 10)
      (.seq
       (.reg [4, 5] [
         ⟨none, (some 4), .mov (.c (.int .i64 0)), []⟩,
         ⟨none, (some 5), .mov (.c (.int .i64 1)), []⟩])
       .ret)
      .skip))
    (.seq
     (.reg [4, 5] [
       ⟨none, (some 11), .ldV 2 none 12 true, []⟩,
       ⟨none, (some 12), .ldV 3 none 12 true, []⟩,
       ⟨none, (some 13), .call true 324 [.t 11, .t 12], []⟩,
       ⟨none, (some 4), .mov (.t 13), []⟩,
       ⟨none, (some 5), .mov (.c (.int .i64 0)), []⟩])
     .ret)))
def c125 : Fn := { np := 2, nt := 14, kind := .pure, res := [.t 4, .t 5], body := k125 }

/- spec.A2Frame -/
def k147 : Cd :=
  (.seq
   (.reg [2] [
     ⟨none, (some 2), .zero true (zs 12 (.int .u16 0)), []⟩])
   (.seq
    (.reg [2] [
      ⟨none, (some 3), .mov (.t 0), []⟩,
      ⟨none, (some 4), .call true 315 [.t 3], []⟩,
      ⟨none, (some 5), .call false 368 [.t 4], []⟩,
      ⟨none, (some 2), .stV 2 none 12 (.t 5), []⟩])
    .ret))
def c147 : Fn := { np := 1, nt := 6, kind := .pure, res := [.v 2 12 true], body := k147 }

/- impl.ValidFrame -/
def k234 : Cd :=
  (.seq
   (.reg [1, 2] [
     ⟨none, (some 1), .box 12 (.t 0), []⟩,
     ⟨none, (some 2), .mov (.c (.bool false)), []⟩])
   (.seq
    (.reg [2] [
      ⟨none, (some 3), .slcP 12 1 (.t 1), []⟩,
      ⟨none, (some 4), .call true 445 [.t 3, .f 446], []⟩,
      ⟨none, (some 5), .un .not (.t 4), []⟩,
      ⟨none, (some 2), .mov (.t 5), []⟩])
    .ret))
def c234 : Fn := { np := 1, nt := 6, kind := .pure, res := [.t 2], body := k234 }

/- impl.LessFrame -/
def k237 : Cd :=
  (.seq
   (.reg [2, 3, 4, 5] [
     ⟨none, (some 2), .mov (.t 0), []⟩,
     ⟨none, (some 3), .mov (.t 1), []⟩,
     ⟨none, (some 4), .zero true (zs 12 (.int .u16 0)), []⟩,
     ⟨none, (some 5), .mov (.c (.int .i64 0)), []⟩])
   (.seq
    (.seq
     (.reg [10] [
       ⟨none, (some 6), .ldV 2 none 12 true, []⟩,
       ⟨none, (some 7), .ldV 3 none 12 true, []⟩,
       ⟨none, (some 8), .bldS 12 2 (zs 12 (.int .u16 0)) [(0, 12, (.t 6)), (12, 12, (.t 7))], []⟩,
       ⟨none, (some 9), .call true 351 [.t 8], []⟩,
       ⟨none, (some 10), .un .not (.t 9), []⟩])
     (.cond (.t 10)
      (.seq
       (.reg [4, 5] [
         ⟨none, (some 11), .agg (zs 12 (.int .u16 0)) [], []⟩,
         ⟨none, (some 4), .stV 4 none 12 (.t 11), []⟩,
         ⟨none, (some 5), .mov (.c (.int .i64 1)), []⟩])
       .ret)
      .skip))
    (.seq
     (.reg [4, 5] [
       ⟨none, (some 12), .ldV 2 none 12 true, []⟩,
       ⟨none, (some 13), .ldV 3 none 12 true, []⟩,
       ⟨none, (some 14), .call true 350 [.t 12, .t 13], []⟩,
       ⟨none, (some 4), .stV 4 none 12 (.t 14), []⟩,
       ⟨none, (some 5), .mov (.c (.int .i64 0)), []⟩])
     .ret)))
def c237 : Fn := { np := 2, nt := 15, kind := .pure, res := [.v 4 12 true, .t 5], body := k237 }

/- impl.HasDot -/
def k240 : Cd :=
  (.seq
   (.reg [3, 6, 7] [
     ⟨none, (some 3), .mov (.t 0), []⟩,
     ⟨none, (some 6), .mov (.c (.bool false)), []⟩,
     ⟨none, (some 7), .mov (.c (.int .i64 0)), []⟩])
   (.seq
    (.seq
     (.reg [8] [
       ⟨none, (some 9), .ldV 3 none 12 true, []⟩,
       ⟨none, (some 10), .mov (.t 1), []⟩,
       ⟨none, (some 11), .mov (.t 2), []⟩,
       ⟨none, (some 12), .call true 448 [.t 9, .t 10, .t 11], []⟩,
       ⟨none, (some 8), .mov (.t 12), []⟩])
     (.seq
      (.reg [14] [
        ⟨none, (some 13), .mov (.t 8), []⟩,
        ⟨none, (some 14), .bin .neq (.t 13) (.c (.int .i64 0)), []⟩])
      (.cond (.t 14)
       (.seq
        (.reg [6, 7] [
          ⟨none, (some 15), .mov (.t 8), []⟩,
          ⟨none, (some 6), .mov (.c (.bool false)), []⟩,
          ⟨none, (some 7), .mov (.t 15), []⟩])
        .ret)
       .skip)))
    (.seq
     (.reg [6, 7] [
       ⟨none, (some 16), .ldV 3 none 12 true, []⟩,
       ⟨none, (some 17), .mov (.t 1), []⟩,
       ⟨none, (some 18), .mov (.t 2), []⟩,
       ⟨none, (some 19), .call true 395 [.t 16, .t 17, .t 18], []⟩,
       ⟨none, (some 6), .mov (.t 19), []⟩,
       ⟨none, (some 7), .mov (.c (.int .i64 0)), []⟩])
     .ret)))
def c240 : Fn := { np := 3, nt := 20, kind := .pure, res := [.t 6, .t 7], body := k240 }

/- spec.DotsOf -/
def k242 : Cd :=
  (.seq
   (.reg [1, 2, 3] [
     ⟨none, (some 1), .box 12 (.t 0), []⟩,
     ⟨none, (some 2), .mov (.c (.slice none 0 0)), []⟩,
     ⟨none, (some 3), .mov (.c (.int .i64 0)), []⟩])
   (.seq
    (.seq
     (.reg [5] [
       ⟨none, (some 4), .call true 359 [.t 1], []⟩,
       ⟨none, (some 5), .un .not (.t 4), []⟩])
     (.cond (.t 5)
      (.seq
       (.reg [2, 3] [
         ⟨none, (some 6), .bldS 2 0 [.int .i8 0, .int .i8 0] [], []⟩,
         ⟨none, (some 2), .mov (.t 6), []⟩,
         ⟨none, (some 3), .mov (.c (.int .i64 1)), []⟩])
       .ret)
      .skip))
    (.seq
     (.reg [2, 3] [
       ⟨none, (some 7), .call true 440 [.t 1], []⟩,
       ⟨none, (some 2), .mov (.t 7), []⟩,
       ⟨none, (some 3), .mov (.c (.int .i64 0)), []⟩])
     .ret)))
def c242 : Fn := { np := 1, nt := 8, kind := .pure, res := [.t 2, .t 3], body := k242 }

/- impl.BlobsOf -/
def b245_1 : Cd :=
  (.seq
   (.seq
    (.reg [13] [
      ⟨none, (some 11), .ldV 1 none 12 true, []⟩,
      ⟨none, (some 12), .call true 393 [.t 11], []⟩,
      ⟨none, (some 13), .bin .gtr (.t 12) (.c (.int .i64 0)), []⟩])
    (.cond (.t 13)
     .skip
     (.exit 0)))
   (.block 1
    (.seq
     (.reg [5] [
       ⟨none, (some 14), .ldV 1 none 12 true, []⟩,
       ⟨none, (some 15), .call true 449 [.t 14], []⟩,
       ⟨none, (some 16), .idxA 2 (.t 15) (.c (.int .i64 0)), []⟩,
       ⟨none, (some 17), .ld 2 true (.t 16), []⟩,
       ⟨none, (some 5), .zero true [.int .i8 0, .int .i8 0], []⟩,
       ⟨none, (some 5), .stV 5 none 2 (.t 17), []⟩])
     (.seq
      (.reg [6] [
        ⟨none, (some 18), .ldV 1 none 12 true, []⟩,
        ⟨none, (some 19), .adrF 5 none 0, []⟩,
        ⟨none, (some 20), .ldV 5 (some 19) 1 false, []⟩,
        ⟨none, (some 21), .conv .i64 (.t 20), []⟩,
        ⟨none, (some 22), .adrF 5 none 1, []⟩,
        ⟨none, (some 23), .ldV 5 (some 22) 1 false, []⟩,
        ⟨none, (some 24), .conv .i64 (.t 23), []⟩,
        ⟨none, (some 25), .call true 450 [.t 18, .t 21, .t 24], []⟩,
        ⟨none, (some 6), .zero true (zs 12 (.int .u16 0)), []⟩,
        ⟨none, (some 6), .stV 6 none 12 (.t 25), []⟩])
      (.seq
       (.reg [4] [
         ⟨none, (some 26), .mov (.t 4), []⟩,
         ⟨none, (some 27), .ldV 6 none 12 true, []⟩,
         ⟨none, (some 28), .bldS 12 1 (zs 12 (.int .u16 0)) [(0, 12, (.t 27))], []⟩,
         ⟨none, (some 29), .app 12 24 (.t 26) (.t 28), []⟩,
         ⟨none, (some 4), .mov (.t 29), []⟩])
       (.reg [1] [
         ⟨none, (some 30), .ldV 1 none 12 true, []⟩,
         ⟨none, (some 31), .ldV 6 none 12 true, []⟩,
         ⟨none, (some 32), .call true 350 [.t 30, .t 31], []⟩,
         ⟨none, (some 1), .stV 1 none 12 (.t 32), []⟩]))))))
def k245 : Cd :=
  (.seq
   (.reg [1, 2, 3] [
     ⟨none, (some 1), .mov (.t 0), []⟩,
     ⟨none, (some 2), .mov (.c (.slice none 0 0)), []⟩,
     ⟨none, (some 3), .mov (.c (.int .i64 0)), []⟩])
   (.seq
    (.seq
     (.reg [9] [
       ⟨none, (some 7), .ldV 1 none 12 true, []⟩,
       ⟨none, (some 8), .call true 234 [.t 7], []⟩,
       ⟨none, (some 9), .un .not (.t 8), []⟩])
     (.cond (.t 9)
      (.seq
       (.reg [2, 3] [
         ⟨none, (some 2), .mov (.c (.slice none 0 0)), []⟩,
         ⟨none, (some 3), .mov (.c (.int .i64 1)), []⟩])
       .ret)
      .skip))
    (.seq
     (.reg [4] [
       ⟨none, (some 10), .bldS 12 0 (zs 12 (.int .u16 0)) [], []⟩,
       ⟨none, (some 4), .mov (.t 10), []⟩])
     (.seq
      (.block 0
       (.loop b245_1))
      (.seq
       (.reg [2, 3] [
         ⟨none, (some 33), .mov (.t 4), []⟩,
         ⟨none, (some 2), .mov (.t 33), []⟩,
         ⟨none, (some 3), .mov (.c (.int .i64 0)), []⟩])
       .ret)))))
def c245 : Fn := { np := 1, nt := 34, kind := .pure, res := [.t 2, .t 3], body := k245 }

/- spec.BlobsOf -/
def k246 : Cd :=
  (.seq
   (.reg [1, 2, 3] [
     ⟨none, (some 1), .box 12 (.t 0), []⟩,
     ⟨none, (some 2), .mov (.c (.slice none 0 0)), []⟩,
     ⟨none, (some 3), .mov (.c (.int .i64 0)), []⟩])
   (.seq
    (.seq
     (.reg [5] [
       ⟨none, (some 4), .call true 359 [.t 1], []⟩,
       ⟨none, (some 5), .un .not (.t 4), []⟩])
     (.cond (.t 5)
      (.seq
       (.reg [2, 3] [
         ⟨none, (some 6), .bldS 12 0 (zs 12 (.int .u16 0)) [], []⟩,
         ⟨none, (some 2), .mov (.t 6), []⟩,
         ⟨none, (some 3), .mov (.c (.int .i64 1)), []⟩])
       .ret)
      .skip))
    (.seq
     (.reg [2, 3] [
       ⟨none, (some 7), .call true 451 [.t 1], []⟩,
       ⟨none, (some 2), .mov (.t 7), []⟩,
       ⟨none, (some 3), .mov (.c (.int .i64 0)), []⟩])
     .ret)))
def c246 : Fn := { np := 1, nt := 8, kind := .pure, res := [.t 2, .t 3], body := k246 }

/- impl.GrowFrame -/
def k247 : Cd :=
  (.seq
   (.reg [1, 2, 3] [
     ⟨none, (some 1), .mov (.t 0), []⟩,
     ⟨none, (some 2), .zero true (zs 12 (.int .u16 0)), []⟩,
     ⟨none, (some 3), .mov (.c (.int .i64 0)), []⟩])
   (.seq
    (.seq
     (.reg [6] [
       ⟨none, (some 4), .ldV 1 none 12 true, []⟩,
       ⟨none, (some 5), .call true 234 [.t 4], []⟩,
       ⟨none, (some 6), .un .not (.t 5), []⟩])
     (.cond (.t 6)
      (.seq
       (.reg [2, 3] [
         ⟨none, (some 7), .agg (zs 12 (.int .u16 0)) [], []⟩,
         ⟨none, (some 2), .stV 2 none 12 (.t 7), []⟩,
         ⟨none, (some 3), .mov (.c (.int .i64 1)), []⟩])
       .ret)
      .skip))
    (.seq
     (.reg [2, 3] [
       ⟨none, (some 8), .ldV 1 none 12 true, []⟩,
       ⟨none, (some 9), .call true 452 [.t 8], []⟩,
       ⟨none, (some 2), .stV 2 none 12 (.t 9), []⟩,
       ⟨none, (some 3), .mov (.c (.int .i64 0)), []⟩])
     .ret)))
def c247 : Fn := { np := 1, nt := 10, kind := .pure, res := [.v 2 12 true, .t 3], body := k247 }

/- spec.GrowFrame -/
def k248 : Cd :=
  (.seq
   (.reg [1, 2, 3] [
     ⟨none, (some 1), .box 12 (.t 0), []⟩,
     ⟨none, (some 2), .zero true (zs 12 (.int .u16 0)), []⟩,
     ⟨none, (some 3), .mov (.c (.int .i64 0)), []⟩])
   (.seq
    (.seq
     (.reg [5] [
       ⟨none, (some 4), .call true 359 [.t 1], []⟩,
       ⟨none, (some 5), .un .not (.t 4), []⟩])
     (.cond (.t 5)
      (.seq
       (.reg [2, 3] [
         ⟨none, (some 6), .agg (zs 12 (.int .u16 0)) [], []⟩,
         ⟨none, (some 2), .stV 2 none 12 (.t 6), []⟩,
         ⟨none, (some 3), .mov (.c (.int .i64 1)), []⟩])
       .ret)
      .skip))
    (.seq
     (.reg [2, 3] [
       ⟨none, (some 7), .call true 453 [.t 1], []⟩,
       ⟨none, (some 2), .stV 2 none 12 (.t 7), []⟩,
       ⟨none, (some 3), .mov (.c (.int .i64 0)), []⟩])
     .ret)))
def c248 : Fn := { np := 1, nt := 8, kind := .pure, res := [.v 2 12 true, .t 3], body := k248 }

/- impl.ShrinkFrame -/
def k249 : Cd :=
  (.seq
   (.reg [1, 2, 3] [
     ⟨none, (some 1), .box 12 (.t 0), []⟩,
     ⟨none, (some 2), .zero true (zs 12 (.int .u16 0)), []⟩,
     ⟨none, (some 3), .mov (.c (.int .i64 0)), []⟩])
   (.seq
    (.seq
     (.reg [7] [
       ⟨none, (some 5), .ld 12 true (.t 1), []⟩,
       ⟨none, (some 6), .call true 234 [.t 5], []⟩,
       ⟨none, (some 7), .un .not (.t 6), []⟩])
     (.cond (.t 7)
      (.seq
       (.reg [2, 3] [
         ⟨none, (some 8), .agg (zs 12 (.int .u16 0)) [], []⟩,
         ⟨none, (some 2), .stV 2 none 12 (.t 8), []⟩,
         ⟨none, (some 3), .mov (.c (.int .i64 1)), []⟩])
       .ret)
      .skip))
    (.seq
     (.reg [4] [
       ⟨none, (some 9), .mkf 454 [.t 1], []⟩,
       ⟨none, (some 4), .new 1 [.nilFunc], []⟩,
       ⟨none, none, .st 1 (.t 4) (.t 9), []⟩])
     (.seq
      (.reg [2, 3] [
        ⟨none, (some 10), .mkf 455 [.t 1, .t 4], []⟩,
        ⟨none, (some 11), .call true 306 [.t 10], []⟩,
        ⟨none, (some 2), .stV 2 none 12 (.t 11), []⟩,
        ⟨none, (some 3), .mov (.c (.int .i64 0)), []⟩])
      .ret))))
def c249 : Fn := { np := 1, nt := 12, kind := .pure, res := [.v 2 12 true, .t 3], body := k249 }

/- spec.ShrinkFrame -/
def b250_1 : Cd :=
  (.seq
   (.seq
    (.reg [53] [
      ⟨none, (some 52), .mov (.t 11), []⟩,
      ⟨none, (some 53), .bin .lss (.t 52) (.c (.int .i64 4)), []⟩])
    (.cond (.t 53)
     .skip
     (.exit 2)))
   (.seq
    (.block 3
     (.seq
      (.reg [76] [
        ⟨none, (some 56), .mov (.t 11), []⟩,
        ⟨none, (some 57), .adrI 10 none 4 2 (.t 56), []⟩,
        ⟨none, (some 58), .adrI 10 (some 57) 2 1 (.c (.int .i64 0)), []⟩,
        ⟨none, (some 59), .ldV 10 (some 58) 1 false, []⟩,
        ⟨none, (some 60), .mov (.t 11), []⟩,
        ⟨none, (some 61), .adrI 10 none 4 2 (.t 60), []⟩,
        ⟨none, (some 62), .adrI 10 (some 61) 2 1 (.c (.int .i64 1)), []⟩,
        ⟨none, (some 63), .ldV 10 (some 62) 1 false, []⟩,
        ⟨none, (some 64), .call true 342 [.t 59, .t 63], []⟩,
        ⟨none, (some 65), .mov (.t 64), []⟩,
        ⟨(some (65, true)), (some 66), .mov (.t 11), []⟩,
        ⟨(some (65, true)), (some 67), .adrI 10 none 4 2 (.t 66), []⟩,
        ⟨(some (65, true)), (some 68), .adrI 10 (some 67) 2 1 (.c (.int .i64 0)), []⟩,
        ⟨(some (65, true)), (some 69), .ldV 10 (some 68) 1 false, []⟩,
        ⟨(some (65, true)), (some 70), .mov (.t 11), []⟩,
        ⟨(some (65, true)), (some 71), .adrI 10 none 4 2 (.t 70), []⟩,
        ⟨(some (65, true)), (some 72), .adrI 10 (some 71) 2 1 (.c (.int .i64 1)), []⟩,
        ⟨(some (65, true)), (some 73), .ldV 10 (some 72) 1 false, []⟩,
        ⟨(some (65, true)), (some 74), .call true 456 [.t 1, .t 69, .t 73], []⟩,
        ⟨(some (65, true)), (some 75), .un .not (.t 74), []⟩,
        ⟨none, (some 76), .pick (.t 65) (.t 75) (.c (.bool false)), []⟩])
      (.cond (.t 76)
       (.reg [9] [
         ⟨none, (some 9), .mov (.c (.bool false)), []⟩])
       .skip)))
    (.reg [11] [
      ⟨none, (some 54), .mov (.t 11), []⟩,
      ⟨none, (some 55), .bin .add (.t 54) (.c (.int .i64 1)), []⟩,
      ⟨none, (some 11), .mov (.t 55), []⟩])))
def b250_2 : Cd :=
  (.seq
   (.seq
    (.reg [20] [
      ⟨none, (some 17), .mov (.t 6), []⟩,
      ⟨none, (some 18), .mov (.t 5), []⟩,
      ⟨none, (some 19), .len (.t 18), []⟩,
      ⟨none, (some 20), .bin .lss (.t 17) (.t 19), []⟩])
    (.cond (.t 20)
     .skip
     (.exit 0)))
   (.seq
    (.block 1
     (.seq
      (.reg [7] [
        ⟨none, (some 23), .mov (.t 5), []⟩,
        ⟨none, (some 24), .mov (.t 6), []⟩,
        ⟨none, (some 25), .idxA 2 (.t 23) (.t 24), []⟩,
        ⟨none, (some 26), .fldP 0 (.t 25), []⟩,
        ⟨none, (some 27), .ld 1 false (.t 26), []⟩,
        ⟨none, (some 28), .conv .i64 (.t 27), []⟩,
        ⟨none, (some 7), .mov (.t 28), []⟩])
      (.seq
       (.reg [8] [
         ⟨none, (some 29), .mov (.t 5), []⟩,
         ⟨none, (some 30), .mov (.t 6), []⟩,
         ⟨none, (some 31), .idxA 2 (.t 29) (.t 30), []⟩,
         ⟨none, (some 32), .fldP 1 (.t 31), []⟩,
         ⟨none, (some 33), .ld 1 false (.t 32), []⟩,
         ⟨none, (some 34), .conv .i64 (.t 33), []⟩,
         ⟨none, (some 8), .mov (.t 34), []⟩])
       (.seq
        (.reg [9] [
          ⟨none, (some 9), .mov (.c (.bool true)), []⟩])
        (.seq
         (.reg [10] [
           ⟨none, (some 35), .mov (.t 7), []⟩,
           ⟨none, (some 36), .bin .sub (.t 35) (.c (.int .i64 1)), []⟩,
           ⟨none, (some 37), .mov (.t 8), []⟩,
           ⟨none, (some 38), .agg [.int .i64 0, .int .i64 0] [(0, 1, (.t 36)), (1, 1, (.t 37))], []⟩,
           ⟨none, (some 39), .mov (.t 7), []⟩,
           ⟨none, (some 40), .bin .add (.t 39) (.c (.int .i64 1)), []⟩,
           ⟨none, (some 41), .mov (.t 8), []⟩,
           ⟨none, (some 42), .agg [.int .i64 0, .int .i64 0] [(0, 1, (.t 40)), (1, 1, (.t 41))], []⟩,
           ⟨none, (some 43), .mov (.t 7), []⟩,
           ⟨none, (some 44), .mov (.t 8), []⟩,
           ⟨none, (some 45), .bin .sub (.t 44) (.c (.int .i64 1)), []⟩,
           ⟨none, (some 46), .agg [.int .i64 0, .int .i64 0] [(0, 1, (.t 43)), (1, 1, (.t 45))], []⟩,
           ⟨none, (some 47), .mov (.t 7), []⟩,
           ⟨none, (some 48), .mov (.t 8), []⟩,
           ⟨none, (some 49), .bin .add (.t 48) (.c (.int .i64 1)), []⟩,
           ⟨none, (some 50), .agg [.int .i64 0, .int .i64 0] [(0, 1, (.t 47)), (1, 1, (.t 49))], []⟩,
           ⟨none, (some 51), .agg (zs 8 (.int .i64 0)) [(0, 2, (.t 38)), (2, 2, (.t 42)), (4, 2, (.t 46)), (6, 2, (.t 50))], []⟩,
           ⟨none, (some 10), .zero true (zs 8 (.int .i64 0)), []⟩,
           ⟨none, (some 10), .stV 10 none 8 (.t 51), []⟩])
         (.seq
          (.seq
           (.reg [11] [
             ⟨none, (some 11), .mov (.c (.int .i64 0)), []⟩])
           (.block 2
            (.loop b250_1)))
          (.seq
           (.reg [77] [
             ⟨none, (some 77), .mov (.t 9), []⟩])
           (.cond (.t 77)
            (.reg [] [
              ⟨none, (some 78), .mov (.t 7), []⟩,
              ⟨none, (some 79), .mov (.t 8), []⟩,
              ⟨none, (some 80), .call false 305 [.t 4, .t 78, .t 79], []⟩])
            .skip))))))))
    (.reg [6] [
      ⟨none, (some 21), .mov (.t 6), []⟩,
      ⟨none, (some 22), .bin .add (.t 21) (.c (.int .i64 1)), []⟩,
      ⟨none, (some 6), .mov (.t 22), []⟩])))
def k250 : Cd :=
  (.seq
   (.reg [1, 2, 3] [
     ⟨none, (some 1), .box 12 (.t 0), []⟩,
     ⟨none, (some 2), .zero true (zs 12 (.int .u16 0)), []⟩,
     ⟨none, (some 3), .mov (.c (.int .i64 0)), []⟩])
   (.seq
    (.seq
     (.reg [13] [
       ⟨none, (some 12), .call true 359 [.t 1], []⟩,
       ⟨none, (some 13), .un .not (.t 12), []⟩])
     (.cond (.t 13)
      (.seq
       (.reg [2, 3] [
         ⟨none, (some 14), .agg (zs 12 (.int .u16 0)) [], []⟩,
         ⟨none, (some 2), .stV 2 none 12 (.t 14), []⟩,
         ⟨none, (some 3), .mov (.c (.int .i64 1)), []⟩])
       .ret)
      .skip))
    (.seq
     (.reg [4] [
       ⟨none, (some 15), .agg (zs 12 (.int .u16 0)) [], []⟩,
       ⟨none, (some 4), .new 1 (zs 12 (.int .u16 0)), []⟩,
       ⟨none, none, .st 12 (.t 4) (.t 15), []⟩])
     (.seq
      (.reg [5] [
        ⟨none, (some 16), .call true 440 [.t 1], []⟩,
        ⟨none, (some 5), .mov (.t 16), []⟩])
      (.seq
       (.seq
        (.reg [6] [
          ⟨none, (some 6), .mov (.c (.int .i64 0)), []⟩])
        (.block 0
         (.loop b250_2)))
       (.seq
        (.reg [2, 3] [
          ⟨none, (some 81), .ld 12 true (.t 4), []⟩,
          ⟨none, (some 2), .stV 2 none 12 (.t 81), []⟩,
          ⟨none, (some 3), .mov (.c (.int .i64 0)), []⟩])
        .ret))))))
def c250 : Fn := { np := 1, nt := 82, kind := .pure, res := [.v 2 12 true, .t 3], body := k250 }

/- spec.MeetFrames -/
def b251_1 : Cd :=
  (.seq
   (.seq
    (.reg [14] [
      ⟨none, (some 13), .mov (.t 7), []⟩,
      ⟨none, (some 14), .bin .lss (.t 13) (.c (.int .i64 12)), []⟩])
    (.cond (.t 14)
     .skip
     (.exit 0)))
   (.seq
    (.block 1
     (.reg [] [
       ⟨none, (some 17), .mov (.t 7), []⟩,
       ⟨none, (some 18), .mov (.t 7), []⟩,
       ⟨none, (some 19), .idxP 12 1 (.t 2) (.t 18), []⟩,
       ⟨none, (some 20), .ld 1 false (.t 19), []⟩,
       ⟨none, (some 21), .mov (.t 7), []⟩,
       ⟨none, (some 22), .idxP 12 1 (.t 3) (.t 21), []⟩,
       ⟨none, (some 23), .ld 1 false (.t 22), []⟩,
       ⟨none, (some 24), .bin .and (.t 20) (.t 23), []⟩,
       ⟨none, (some 25), .idxP 12 1 (.t 2) (.t 17), []⟩,
       ⟨none, none, .st 1 (.t 25) (.t 24), []⟩]))
    (.reg [7] [
      ⟨none, (some 15), .mov (.t 7), []⟩,
      ⟨none, (some 16), .bin .add (.t 15) (.c (.int .i64 1)), []⟩,
      ⟨none, (some 7), .mov (.t 16), []⟩])))
def k251 : Cd :=
  (.seq
   (.reg [2, 3, 4, 5] [
     ⟨none, (some 2), .box 12 (.t 0), []⟩,
     ⟨none, (some 3), .box 12 (.t 1), []⟩,
     ⟨none, (some 4), .zero true (zs 12 (.int .u16 0)), []⟩,
     ⟨none, (some 5), .mov (.c (.int .i64 0)), []⟩])
   (.seq
    (.seq
     (.reg [6] [
       ⟨none, (some 8), .call true 327 [.t 2, .t 3], []⟩,
       ⟨none, (some 6), .mov (.t 8), []⟩])
     (.seq
      (.reg [10] [
        ⟨none, (some 9), .mov (.t 6), []⟩,
        ⟨none, (some 10), .bin .neq (.t 9) (.c (.int .i64 0)), []⟩])
      (.cond (.t 10)
       (.seq
        (.reg [4, 5] [
          ⟨none, (some 11), .agg (zs 12 (.int .u16 0)) [], []⟩,
          ⟨none, (some 12), .mov (.t 6), []⟩,
          ⟨none, (some 4), .stV 4 none 12 (.t 11), []⟩,
          ⟨none, (some 5), .mov (.t 12), []⟩])
        .ret)
       .skip)))
    (.seq
     (.seq
      (.reg [7] [
        ⟨none, (some 7), .mov (.c (.int .i64 0)), []⟩])
      (.block 0
       (.loop b251_1)))
     (.seq
      (.reg [4, 5] [
        ⟨none, (some 26), .ld 12 true (.t 2), []⟩,
        ⟨none, (some 4), .stV 4 none 12 (.t 26), []⟩,
        ⟨none, (some 5), .mov (.c (.int .i64 0)), []⟩])
      .ret))))
def c251 : Fn := { np := 2, nt := 27, kind := .pure, res := [.v 4 12 true, .t 5], body := k251 }

/- impl.BlobAt -/
def k252 : Cd :=
  (.seq
   (.reg [3, 6, 7] [
     ⟨none, (some 3), .mov (.t 0), []⟩,
     ⟨none, (some 6), .zero true (zs 12 (.int .u16 0)), []⟩,
     ⟨none, (some 7), .mov (.c (.int .i64 0)), []⟩])
   (.seq
    (.seq
     (.reg [8] [
       ⟨none, (some 9), .ldV 3 none 12 true, []⟩,
       ⟨none, (some 10), .mov (.t 1), []⟩,
       ⟨none, (some 11), .mov (.t 2), []⟩,
       ⟨none, (some 12), .call true 448 [.t 9, .t 10, .t 11], []⟩,
       ⟨none, (some 8), .mov (.t 12), []⟩])
     (.seq
      (.reg [14] [
        ⟨none, (some 13), .mov (.t 8), []⟩,
        ⟨none, (some 14), .bin .neq (.t 13) (.c (.int .i64 0)), []⟩])
      (.cond (.t 14)
       (.seq
        (.reg [6, 7] [
          ⟨none, (some 15), .agg (zs 12 (.int .u16 0)) [], []⟩,
          ⟨none, (some 16), .mov (.t 8), []⟩,
          ⟨none, (some 6), .stV 6 none 12 (.t 15), []⟩,
          ⟨none, (some 7), .mov (.t 16), []⟩])
        .ret)
       .skip)))
    (.seq
     (.seq
      (.reg [21] [
        ⟨none, (some 17), .ldV 3 none 12 true, []⟩,
        ⟨none, (some 18), .mov (.t 1), []⟩,
        ⟨none, (some 19), .mov (.t 2), []⟩,
        ⟨none, (some 20), .call true 395 [.t 17, .t 18, .t 19], []⟩,
        ⟨none, (some 21), .un .not (.t 20), []⟩])
      (.cond (.t 21)
       (.seq
        (.reg [6, 7] [
          ⟨none, (some 22), .agg (zs 12 (.int .u16 0)) [], []⟩,
          ⟨none, (some 6), .stV 6 none 12 (.t 22), []⟩,
          ⟨none, (some 7), .mov (.c (.int .i64 6)), []⟩])
        .ret)
       .skip))
     (.seq
      (.reg [6, 7] [
        ⟨none, (some 23), .ldV 3 none 12 true, []⟩,
        ⟨none, (some 24), .mov (.t 1), []⟩,
        ⟨none, (some 25), .mov (.t 2), []⟩,
        ⟨none, (some 26), .call true 450 [.t 23, .t 24, .t 25], []⟩,
        ⟨none, (some 6), .stV 6 none 12 (.t 26), []⟩,
        ⟨none, (some 7), .mov (.c (.int .i64 0)), []⟩])
      .ret))))
def c252 : Fn := { np := 3, nt := 27, kind := .pure, res := [.v 6 12 true, .t 7], body := k252 }

/- spec.JoinFrames -/
def k253 : Cd :=
  (.seq
   (.reg [2, 3, 4, 5] [
     ⟨none, (some 2), .box 12 (.t 0), []⟩,
     ⟨none, (some 3), .box 12 (.t 1), []⟩,
     ⟨none, (some 4), .zero true (zs 12 (.int .u16 0)), []⟩,
     ⟨none, (some 5), .mov (.c (.int .i64 0)), []⟩])
   (.seq
    (.seq
     (.reg [6] [
       ⟨none, (some 7), .call true 327 [.t 2, .t 3], []⟩,
       ⟨none, (some 6), .mov (.t 7), []⟩])
     (.seq
      (.reg [9] [
        ⟨none, (some 8), .mov (.t 6), []⟩,
        ⟨none, (some 9), .bin .neq (.t 8) (.c (.int .i64 0)), []⟩])
      (.cond (.t 9)
       (.seq
        (.reg [4, 5] [
          ⟨none, (some 10), .agg (zs 12 (.int .u16 0)) [], []⟩,
          ⟨none, (some 11), .mov (.t 6), []⟩,
          ⟨none, (some 4), .stV 4 none 12 (.t 10), []⟩,
          ⟨none, (some 5), .mov (.t 11), []⟩])
        .ret)
       .skip)))
    (.seq
     (.reg [4, 5] [
       ⟨none, (some 12), .call true 337 [.t 2, .t 3], []⟩,
       ⟨none, (some 4), .stV 4 none 12 (.t 12), []⟩,
       ⟨none, (some 5), .mov (.c (.int .i64 0)), []⟩])
     .ret)))
def c253 : Fn := { np := 2, nt := 13, kind := .pure, res := [.v 4 12 true, .t 5], body := k253 }

/- impl.BoxOf -/
def b254_1 : Cd :=
  (.seq
   (.reg [32] [
     ⟨none, (some 32), .bin .lss (.t 31) (.t 30), []⟩])
   (.seq
    (.cond (.t 32)
     .skip
     (.exit 0))
    (.seq
     (.block 1
      (.seq
       (.reg [8] [
         ⟨none, (some 33), .idxA 2 (.t 29) (.t 31), []⟩,
         ⟨none, (some 34), .ld 2 true (.t 33), []⟩,
         ⟨none, (some 8), .zero true [.int .i8 0, .int .i8 0], []⟩,
         ⟨none, (some 8), .stV 8 none 2 (.t 34), []⟩])
       (.reg [5, 6] [
         ⟨none, (some 35), .mov (.t 5), []⟩,
         ⟨none, (some 36), .adrF 8 none 0, []⟩,
         ⟨none, (some 37), .ldV 8 (some 36) 1 false, []⟩,
         ⟨none, (some 38), .mn (.t 35) (.t 37), []⟩,
         ⟨none, (some 39), .mov (.t 6), []⟩,
         ⟨none, (some 40), .adrF 8 none 0, []⟩,
         ⟨none, (some 41), .ldV 8 (some 40) 1 false, []⟩,
         ⟨none, (some 42), .mx (.t 39) (.t 41), []⟩,
         ⟨none, (some 5), .mov (.t 38), []⟩,
         ⟨none, (some 6), .mov (.t 42), []⟩])))
     (.reg [31] [
       ⟨none, (some 43), .bin .add (.t 31) (.c (.int .i64 1)), []⟩,
       ⟨none, (some 31), .mov (.t 43), []⟩]))))
def k254 : Cd :=
  (.seq
   (.reg [1, 2, 3] [
     ⟨none, (some 1), .mov (.t 0), []⟩,
     ⟨none, (some 2), .zero true (zs 4 (.int .i8 0)), []⟩,
     ⟨none, (some 3), .mov (.c (.int .i64 0)), []⟩])
   (.seq
    (.seq
     (.reg [13] [
       ⟨none, (some 11), .ldV 1 none 12 true, []⟩,
       ⟨none, (some 12), .call true 234 [.t 11], []⟩,
       ⟨none, (some 13), .un .not (.t 12), []⟩])
     (.cond (.t 13)
      (.seq
       (.reg [2, 3] [
         ⟨none, (some 14), .agg (zs 4 (.int .i8 0)) [], []⟩,
         ⟨none, (some 2), .stV 2 none 4 (.t 14), []⟩,
         ⟨none, (some 3), .mov (.c (.int .i64 1)), []⟩])
       .ret)
      .skip))
    (.seq
     (.reg [4] [
       ⟨none, (some 15), .ldV 1 none 12 true, []⟩,
       ⟨none, (some 16), .call true 449 [.t 15], []⟩,
       ⟨none, (some 4), .mov (.t 16), []⟩])
     (.seq
      (.seq
       (.reg [19] [
         ⟨none, (some 17), .mov (.t 4), []⟩,
         ⟨none, (some 18), .len (.t 17), []⟩,
         ⟨none, (some 19), .bin .eql (.t 18) (.c (.int .i64 0)), []⟩])
       (.cond (.t 19)
        (.seq
         (.reg [2, 3] [
           ⟨none, (some 20), .agg (zs 4 (.int .i8 0)) [], []⟩,
           ⟨none, (some 2), .stV 2 none 4 (.t 20), []⟩,
           ⟨none, (some 3), .mov (.c (.int .i64 6)), []⟩])
         .ret)
        .skip))
      (.seq
       (.reg [5, 6] [
         ⟨none, (some 21), .mov (.t 4), []⟩,
         ⟨none, (some 22), .idxA 2 (.t 21) (.c (.int .i64 0)), []⟩,
         ⟨none, (some 23), .fldP 0 (.t 22), []⟩,
         ⟨none, (some 24), .ld 1 false (.t 23), []⟩,
         ⟨none, (some 25), .mov (.t 4), []⟩,
         ⟨none, (some 26), .idxA 2 (.t 25) (.c (.int .i64 0)), []⟩,
         ⟨none, (some 27), .fldP 0 (.t 26), []⟩,
         ⟨none, (some 28), .ld 1 false (.t 27), []⟩,
         ⟨none, (some 5), .mov (.t 24), []⟩,
         ⟨none, (some 6), .mov (.t 28), []⟩])
       (.seq
        (.seq
         (.reg [29, 30, 31] [
           ⟨none, (some 29), .mov (.t 4), []⟩,
           ⟨none, (some 30), .len (.t 29), []⟩,
           ⟨none, (some 31), .mov (.c (.int .i64 0)), []⟩])
         (.block 0
          (.loop b254_1)))
        (.seq
         (.reg [9, 10] [
           ⟨none, (some 44), .mov (.t 4), []⟩,
           ⟨none, (some 45), .idxA 2 (.t 44) (.c (.int .i64 0)), []⟩,
           ⟨none, (some 46), .fldP 1 (.t 45), []⟩,
           ⟨none, (some 47), .ld 1 false (.t 46), []⟩,
           ⟨none, (some 48), .mov (.t 4), []⟩,
           ⟨none, (some 49), .mov (.t 4), []⟩,
           ⟨none, (some 50), .len (.t 49), []⟩,
           ⟨none, (some 51), .bin .sub (.t 50) (.c (.int .i64 1)), []⟩,
           ⟨none, (some 52), .idxA 2 (.t 48) (.t 51), []⟩,
           ⟨none, (some 53), .fldP 1 (.t 52), []⟩,
           ⟨none, (some 54), .ld 1 false (.t 53), []⟩,
           ⟨none, (some 9), .mov (.t 47), []⟩,
           ⟨none, (some 10), .mov (.t 54), []⟩])
         (.seq
          (.reg [2, 3] [
            ⟨none, (some 55), .mov (.t 5), []⟩,
            ⟨none, (some 56), .mov (.t 9), []⟩,
            ⟨none, (some 57), .mov (.t 6), []⟩,
            ⟨none, (some 58), .mov (.t 5), []⟩,
            ⟨none, (some 59), .bin .sub (.t 57) (.t 58), []⟩,
            ⟨none, (some 60), .bin .add (.t 59) (.c (.int .i8 1)), []⟩,
            ⟨none, (some 61), .mov (.t 10), []⟩,
            ⟨none, (some 62), .mov (.t 9), []⟩,
            ⟨none, (some 63), .bin .sub (.t 61) (.t 62), []⟩,
            ⟨none, (some 64), .bin .add (.t 63) (.c (.int .i8 1)), []⟩,
            ⟨none, (some 65), .agg (zs 4 (.int .i8 0)) [(0, 1, (.t 55)), (1, 1, (.t 56)), (2, 1, (.t 60)), (3, 1, (.t 64))], []⟩,
            ⟨none, (some 2), .stV 2 none 4 (.t 65), []⟩,
            ⟨none, (some 3), .mov (.c (.int .i64 0)), []⟩])
          .ret))))))))
def c254 : Fn := { np := 1, nt := 66, kind := .pure, res := [.v 2 4 true, .t 3], body := k254 }

/- spec.BoxOf -/
def k255 : Cd :=
  (.seq
   (.reg [1, 2, 3] [
     ⟨none, (some 1), .box 12 (.t 0), []⟩,
     ⟨none, (some 2), .zero true (zs 4 (.int .i8 0)), []⟩,
     ⟨none, (some 3), .mov (.c (.int .i64 0)), []⟩])
   (.seq
    (.seq
     (.reg [7] [
       ⟨none, (some 6), .call true 359 [.t 1], []⟩,
       ⟨none, (some 7), .un .not (.t 6), []⟩])
     (.cond (.t 7)
      (.seq
       (.reg [2, 3] [
         ⟨none, (some 8), .agg (zs 4 (.int .i8 0)) [], []⟩,
         ⟨none, (some 2), .stV 2 none 4 (.t 8), []⟩,
         ⟨none, (some 3), .mov (.c (.int .i64 1)), []⟩])
       .ret)
      .skip))
    (.seq
     (.reg [4, 5] [
       ⟨none, (some 10), .call true 457 [.t 1], []⟩,
       ⟨none, (some 9), .mov (.t 10), []⟩,
       ⟨none, (some 11), .ext (.t 9) 0, []⟩,
       ⟨none, (some 12), .ext (.t 9) 1, []⟩,
       ⟨none, (some 4), .zero true (zs 4 (.int .i8 0)), []⟩,
       ⟨none, (some 4), .stV 4 none 4 (.t 11), []⟩,
       ⟨none, (some 5), .mov (.t 12), []⟩])
     (.seq
      (.seq
       (.reg [14] [
         ⟨none, (some 13), .mov (.t 5), []⟩,
         ⟨none, (some 14), .un .not (.t 13), []⟩])
       (.cond (.t 14)
        (.seq
         (.reg [2, 3] [
           ⟨none, (some 15), .agg (zs 4 (.int .i8 0)) [], []⟩,
           ⟨none, (some 2), .stV 2 none 4 (.t 15), []⟩,
           ⟨none, (some 3), .mov (.c (.int .i64 6)), []⟩])
         .ret)
        .skip))
      (.seq
       (.reg [2, 3] [
         ⟨none, (some 16), .ldV 4 none 4 true, []⟩,
         ⟨none, (some 2), .stV 2 none 4 (.t 16), []⟩,
         ⟨none, (some 3), .mov (.c (.int .i64 0)), []⟩])
       .ret)))))
def c255 : Fn := { np := 1, nt := 17, kind := .pure, res := [.v 2 4 true, .t 3], body := k255 }

/- impl.WithDot -/
def k256 : Cd :=
  (.seq
   (.reg [4, 8, 9] [
     ⟨none, (some 4), .mov (.t 0), []⟩,
     ⟨none, (some 8), .zero true (zs 12 (.int .u16 0)), []⟩,
     ⟨none, (some 9), .mov (.c (.int .i64 0)), []⟩])
   (.seq
    (.seq
     (.reg [10] [
       ⟨none, (some 11), .ldV 4 none 12 true, []⟩,
       ⟨none, (some 12), .mov (.t 1), []⟩,
       ⟨none, (some 13), .mov (.t 2), []⟩,
       ⟨none, (some 14), .call true 448 [.t 11, .t 12, .t 13], []⟩,
       ⟨none, (some 10), .mov (.t 14), []⟩])
     (.seq
      (.reg [16] [
        ⟨none, (some 15), .mov (.t 10), []⟩,
        ⟨none, (some 16), .bin .neq (.t 15) (.c (.int .i64 0)), []⟩])
      (.cond (.t 16)
       (.seq
        (.reg [8, 9] [
          ⟨none, (some 17), .agg (zs 12 (.int .u16 0)) [], []⟩,
          ⟨none, (some 18), .mov (.t 10), []⟩,
          ⟨none, (some 8), .stV 8 none 12 (.t 17), []⟩,
          ⟨none, (some 9), .mov (.t 18), []⟩])
        .ret)
       .skip)))
    (.seq
     (.reg [4] [
       ⟨none, (some 19), .mov (.t 2), []⟩,
       ⟨none, (some 20), .adrI 4 none 12 1 (.t 19), []⟩,
       ⟨none, (some 21), .ldV 4 (some 20) 1 false, []⟩,
       ⟨none, (some 22), .mov (.t 1), []⟩,
       ⟨none, (some 23), .bin .shl (.c (.int .u16 1)) (.t 22), []⟩,
       ⟨none, (some 24), .bin .andNot (.t 21) (.t 23), []⟩,
       ⟨none, (some 25), .adrI 4 none 12 1 (.t 19), []⟩,
       ⟨none, (some 4), .stV 4 (some 25) 1 (.t 24), []⟩])
     (.seq
      (.seq
       (.reg [26] [
         ⟨none, (some 26), .mov (.t 3), []⟩])
       (.cond (.t 26)
        (.reg [4] [
          ⟨none, (some 27), .ldV 4 none 12 true, []⟩,
          ⟨none, (some 28), .mov (.t 1), []⟩,
          ⟨none, (some 29), .mov (.t 2), []⟩,
          ⟨none, (some 30), .call true 346 [.t 27, .t 28, .t 29], []⟩,
          ⟨none, (some 4), .stV 4 none 12 (.t 30), []⟩])
        .skip))
      (.seq
       (.reg [8, 9] [
         ⟨none, (some 31), .ldV 4 none 12 true, []⟩,
         ⟨none, (some 8), .stV 8 none 12 (.t 31), []⟩,
         ⟨none, (some 9), .mov (.c (.int .i64 0)), []⟩])
       .ret)))))
def c256 : Fn := { np := 4, nt := 32, kind := .pure, res := [.v 8 12 true, .t 9], body := k256 }

/- impl.CutBox -/
def k257 : Cd :=
  (.seq
   (.reg [2, 3, 4, 5] [
     ⟨none, (some 2), .box 12 (.t 0), []⟩,
     ⟨none, (some 3), .mov (.t 1), []⟩,
     ⟨none, (some 4), .zero true (zs 12 (.int .u16 0)), []⟩,
     ⟨none, (some 5), .mov (.c (.int .i64 0)), []⟩])
   (.seq
    (.reg [6, 7] [
      ⟨none, (some 10), .adrF 3 none 0, []⟩,
      ⟨none, (some 11), .ldV 3 (some 10) 1 false, []⟩,
      ⟨none, (some 12), .conv .i64 (.t 11), []⟩,
      ⟨none, (some 13), .adrF 3 none 1, []⟩,
      ⟨none, (some 14), .ldV 3 (some 13) 1 false, []⟩,
      ⟨none, (some 15), .conv .i64 (.t 14), []⟩,
      ⟨none, (some 6), .new 1 [.int .i64 0], []⟩,
      ⟨none, (some 7), .new 1 [.int .i64 0], []⟩,
      ⟨none, none, .st 1 (.t 6) (.t 12), []⟩,
      ⟨none, none, .st 1 (.t 7) (.t 15), []⟩])
    (.seq
     (.reg [8, 9] [
       ⟨none, (some 16), .ld 1 false (.t 6), []⟩,
       ⟨none, (some 17), .adrF 3 none 2, []⟩,
       ⟨none, (some 18), .ldV 3 (some 17) 1 false, []⟩,
       ⟨none, (some 19), .conv .i64 (.t 18), []⟩,
       ⟨none, (some 20), .bin .add (.t 16) (.t 19), []⟩,
       ⟨none, (some 21), .bin .sub (.t 20) (.c (.int .i64 1)), []⟩,
       ⟨none, (some 22), .ld 1 false (.t 7), []⟩,
       ⟨none, (some 23), .adrF 3 none 3, []⟩,
       ⟨none, (some 24), .ldV 3 (some 23) 1 false, []⟩,
       ⟨none, (some 25), .conv .i64 (.t 24), []⟩,
       ⟨none, (some 26), .bin .add (.t 22) (.t 25), []⟩,
       ⟨none, (some 27), .bin .sub (.t 26) (.c (.int .i64 1)), []⟩,
       ⟨none, (some 8), .new 1 [.int .i64 0], []⟩,
       ⟨none, (some 9), .new 1 [.int .i64 0], []⟩,
       ⟨none, none, .st 1 (.t 8) (.t 21), [.t 7]⟩,
       ⟨none, none, .st 1 (.t 9) (.t 27), []⟩])
     (.seq
      (.block 0
       (.seq
        (.reg [28] [
          ⟨none, (some 29), .ld 12 true (.t 2), []⟩,
          ⟨none, (some 30), .call true 234 [.t 29], []⟩,
          ⟨none, (some 31), .un .not (.t 30), []⟩,
          ⟨none, (some 28), .mov (.t 31), []⟩])
        (.cond (.t 28)
         (.seq
          (.reg [4, 5] [
            ⟨none, (some 32), .agg (zs 12 (.int .u16 0)) [], []⟩,
            ⟨none, (some 4), .stV 4 none 12 (.t 32), []⟩,
            ⟨none, (some 5), .mov (.c (.int .i64 1)), []⟩])
          .ret)
         (.seq
          (.reg [33] [
            ⟨none, (some 34), .adrF 3 none 2, []⟩,
            ⟨none, (some 35), .ldV 3 (some 34) 1 false, []⟩,
            ⟨none, (some 36), .bin .lss (.t 35) (.c (.int .i8 1)), []⟩,
            ⟨none, (some 37), .mov (.t 36), []⟩,
            ⟨(some (37, false)), (some 38), .adrF 3 none 3, []⟩,
            ⟨(some (37, false)), (some 39), .ldV 3 (some 38) 1 false, []⟩,
            ⟨(some (37, false)), (some 40), .bin .lss (.t 39) (.c (.int .i8 1)), []⟩,
            ⟨none, (some 41), .pick (.t 37) (.c (.bool true)) (.t 40), []⟩,
            ⟨none, (some 42), .mov (.t 41), []⟩,
            ⟨(some (42, false)), (some 43), .ld 1 false (.t 6), []⟩,
            ⟨(some (42, false)), (some 44), .ld 1 false (.t 7), []⟩,
            ⟨(some (42, false)), (some 45), .call true 345 [.t 43, .t 44], []⟩,
            ⟨(some (42, false)), (some 46), .un .not (.t 45), []⟩,
            ⟨none, (some 47), .pick (.t 42) (.c (.bool true)) (.t 46), []⟩,
            ⟨none, (some 48), .mov (.t 47), []⟩,
            ⟨(some (48, false)), (some 49), .ld 1 false (.t 8), []⟩,
            ⟨(some (48, false)), (some 50), .ld 1 false (.t 9), []⟩,
            ⟨(some (48, false)), (some 51), .call true 345 [.t 49, .t 50], []⟩,
            ⟨(some (48, false)), (some 52), .un .not (.t 51), []⟩,
            ⟨none, (some 53), .pick (.t 48) (.c (.bool true)) (.t 52), []⟩,
            ⟨none, (some 33), .mov (.t 53), []⟩])
          (.cond (.t 33)
           (.seq
            (.reg [4, 5] [
              ⟨none, (some 54), .agg (zs 12 (.int .u16 0)) [], []⟩,
              ⟨none, (some 4), .stV 4 none 12 (.t 54), []⟩,
              ⟨none, (some 5), .mov (.c (.int .i64 2)), []⟩])
            .ret)
           .skip)))))
      (.seq
       (.reg [4, 5] [
         ⟨none, (some 55), .mkf 458 [.t 2, .t 6, .t 8, .t 7, .t 9], []⟩,
         ⟨none, (some 56), .call true 306 [.t 55], []⟩,
         ⟨none, (some 4), .stV 4 none 12 (.t 56), []⟩,
         ⟨none, (some 5), .mov (.c (.int .i64 0)), []⟩])
       .ret)))))
def c257 : Fn := { np := 2, nt := 57, kind := .pure, res := [.v 4 12 true, .t 5], body := k257 }

/- impl.inRange -/
def k295 : Cd :=
  (.seq
   (.reg [6] [
     ⟨none, (some 6), .mov (.c (.bool false)), []⟩])
   (.seq
    (.reg [6] [
      ⟨none, (some 7), .mov (.t 1), []⟩,
      ⟨none, (some 8), .mov (.t 0), []⟩,
      ⟨none, (some 9), .bin .leq (.t 7) (.t 8), []⟩,
      ⟨none, (some 10), .mov (.t 9), []⟩,
      ⟨(some (10, true)), (some 11), .mov (.t 0), []⟩,
      ⟨(some (10, true)), (some 12), .mov (.t 2), []⟩,
      ⟨(some (10, true)), (some 13), .bin .leq (.t 11) (.t 12), []⟩,
      ⟨none, (some 14), .pick (.t 10) (.t 13) (.c (.bool false)), []⟩,
      ⟨none, (some 6), .mov (.t 14), []⟩])
    .ret))
def c295 : Fn := { np := 3, nt := 15, kind := .pure, res := [.t 6], body := k295 }

/- spec.l00In -/
def k304 : Cd :=
  (.seq
   (.reg [6] [
     ⟨none, (some 6), .mov (.c (.bool false)), []⟩])
   (.seq
    (.reg [6] [
      ⟨none, (some 7), .mov (.t 0), []⟩,
      ⟨none, (some 8), .mov (.t 1), []⟩,
      ⟨none, (some 9), .bin .geq (.t 7) (.t 8), []⟩,
      ⟨none, (some 10), .mov (.t 9), []⟩,
      ⟨(some (10, true)), (some 11), .mov (.t 0), []⟩,
      ⟨(some (10, true)), (some 12), .mov (.t 2), []⟩,
      ⟨(some (10, true)), (some 13), .bin .leq (.t 11) (.t 12), []⟩,
      ⟨none, (some 14), .pick (.t 10) (.t 13) (.c (.bool false)), []⟩,
      ⟨none, (some 6), .mov (.t 14), []⟩])
    .ret))
def c304 : Fn := { np := 3, nt := 15, kind := .pure, res := [.t 6], body := k304 }

/- spec.l01Put -/
def k305 : Cd :=
  (.seq
   (.reg [8] [
     ⟨none, (some 6), .mov (.t 1), []⟩,
     ⟨none, (some 7), .mov (.t 2), []⟩,
     ⟨none, (some 8), .call true 342 [.t 6, .t 7], []⟩])
   (.cond (.t 8)
    (.reg [] [
      ⟨none, (some 9), .mov (.t 0), []⟩,
      ⟨none, (some 10), .mov (.t 2), []⟩,
      ⟨none, (some 11), .mov (.t 0), []⟩,
      ⟨none, (some 12), .mov (.t 2), []⟩,
      ⟨none, (some 13), .nil (.t 11), []⟩,
      ⟨none, (some 14), .idxP 12 1 (.t 13) (.t 12), []⟩,
      ⟨none, (some 15), .ld 1 false (.t 14), []⟩,
      ⟨none, (some 16), .mov (.t 1), []⟩,
      ⟨none, (some 17), .conv .u64 (.t 16), []⟩,
      ⟨none, (some 18), .bin .shl (.c (.int .u16 1)) (.t 17), []⟩,
      ⟨none, (some 19), .bin .or (.t 15) (.t 18), []⟩,
      ⟨none, (some 20), .nil (.t 9), []⟩,
      ⟨none, (some 21), .idxP 12 1 (.t 20) (.t 10), []⟩,
      ⟨none, none, .st 1 (.t 21) (.t 19), []⟩])
    .skip))
def c305 : Fn := { np := 3, nt := 22, kind := .args, res := [], body := k305 }

/- impl.where -/
def b306_1 : Cd :=
  (.seq
   (.reg [11] [
     ⟨none, (some 11), .bin .lss (.t 10) (.c (.int .i64 12)), []⟩])
   (.seq
    (.cond (.t 11)
     .skip
     (.exit 2))
    (.seq
     (.block 3
      (.seq
       (.reg [5] [
         ⟨none, (some 12), .mov (.t 10), []⟩,
         ⟨none, (some 5), .mov (.t 12), []⟩])
       (.seq
        (.reg [16] [
          ⟨none, (some 13), .mov (.t 0), []⟩,
          ⟨none, (some 14), .mov (.t 5), []⟩,
          ⟨none, (some 15), .mov (.t 4), []⟩,
          ⟨none, (some 16), .callv (.t 13) [.t 14, .t 15], []⟩])
        (.cond (.t 16)
         (.reg [3] [
           ⟨none, (some 17), .ldV 3 none 12 true, []⟩,
           ⟨none, (some 18), .mov (.t 5), []⟩,
           ⟨none, (some 19), .mov (.t 4), []⟩,
           ⟨none, (some 20), .call true 346 [.t 17, .t 18, .t 19], []⟩,
           ⟨none, (some 3), .stV 3 none 12 (.t 20), []⟩])
         .skip))))
     (.reg [10] [
       ⟨none, (some 21), .bin .add (.t 10) (.c (.int .i64 1)), []⟩,
       ⟨none, (some 10), .mov (.t 21), []⟩]))))
def b306_2 : Cd :=
  (.seq
   (.reg [8] [
     ⟨none, (some 8), .bin .lss (.t 7) (.c (.int .i64 12)), []⟩])
   (.seq
    (.cond (.t 8)
     .skip
     (.exit 0))
    (.seq
     (.block 1
      (.seq
       (.reg [4] [
         ⟨none, (some 9), .mov (.t 7), []⟩,
         ⟨none, (some 4), .mov (.t 9), []⟩])
       (.seq
        (.reg [10] [
          ⟨none, (some 10), .mov (.c (.int .i64 0)), []⟩])
        (.block 2
         (.loop b306_1)))))
     (.reg [7] [
       ⟨none, (some 22), .bin .add (.t 7) (.c (.int .i64 1)), []⟩,
       ⟨none, (some 7), .mov (.t 22), []⟩]))))
def k306 : Cd :=
  (.seq
   (.reg [2] [
     ⟨none, (some 2), .zero true (zs 12 (.int .u16 0)), []⟩])
   (.seq
    (.reg [3] [
      ⟨none, (some 6), .agg (zs 12 (.int .u16 0)) [], []⟩,
      ⟨none, (some 3), .zero true (zs 12 (.int .u16 0)), []⟩,
      ⟨none, (some 3), .stV 3 none 12 (.t 6), []⟩])
    (.seq
     (.seq
      (.reg [7] [
        ⟨none, (some 7), .mov (.c (.int .i64 0)), []⟩])
      (.block 0
       (.loop b306_2)))
     (.seq
      (.reg [2] [
        ⟨none, (some 23), .ldV 3 none 12 true, []⟩,
        ⟨none, (some 2), .stV 2 none 12 (.t 23), []⟩])
      .ret))))
def c306 : Fn := { np := 1, nt := 24, kind := .pure, res := [.v 2 12 true], body := k306 }

/- spec.l00From -/
def k315 : Cd :=
  (.seq
   (.reg [2] [
     ⟨none, (some 2), .mov (.c (.pointer none)), []⟩])
   (.seq
    (.reg [2] [
      ⟨none, (some 3), .mov (.t 0), []⟩,
      ⟨none, (some 4), .agg [.slice none 0 0, .int .i64 0, .int .u64 0] [(0, 1, (.t 3))], []⟩,
      ⟨none, (some 5), .box 3 (.t 4), []⟩,
      ⟨none, (some 2), .mov (.t 5), []⟩])
    .ret))
def c315 : Fn := { np := 1, nt := 6, kind := .pure, res := [.t 2], body := k315 }

/- impl.jump -/
def k324 : Cd :=
  (.seq
   (.reg [2, 3, 4] [
     ⟨none, (some 2), .mov (.t 0), []⟩,
     ⟨none, (some 3), .mov (.t 1), []⟩,
     ⟨none, (some 4), .mov (.c (.int .i64 0)), []⟩])
   (.seq
    (.reg [4] [
      ⟨none, (some 5), .ldV 2 none 12 true, []⟩,
      ⟨none, (some 6), .ldV 3 none 12 true, []⟩,
      ⟨none, (some 7), .call true 367 [.t 5, .t 6], []⟩,
      ⟨none, (some 8), .call true 393 [.t 7], []⟩,
      ⟨none, (some 4), .mov (.t 8), []⟩])
    .ret))
def c324 : Fn := { np := 2, nt := 9, kind := .pure, res := [.t 4], body := k324 }

/- spec.l01Both -/
def k327 : Cd :=
  (.seq
   (.reg [4] [
     ⟨none, (some 4), .mov (.c (.int .i64 0)), []⟩])
   (.seq
    (.seq
     (.reg [12] [
       ⟨none, (some 5), .mov (.t 0), []⟩,
       ⟨none, (some 6), .call true 359 [.t 5], []⟩,
       ⟨none, (some 7), .un .not (.t 6), []⟩,
       ⟨none, (some 8), .mov (.t 7), []⟩,
       ⟨(some (8, false)), (some 9), .mov (.t 1), []⟩,
       ⟨(some (8, false)), (some 10), .call true 359 [.t 9], []⟩,
       ⟨(some (8, false)), (some 11), .un .not (.t 10), []⟩,
       ⟨none, (some 12), .pick (.t 8) (.c (.bool true)) (.t 11), []⟩])
     (.cond (.t 12)
      (.seq
       (.reg [4] [
         ⟨none, (some 4), .mov (.c (.int .i64 1)), []⟩])
       .ret)
      .skip))
    (.seq
     (.reg [4] [
       ⟨none, (some 4), .mov (.c (.int .i64 0)), []⟩])
     .ret)))
def c327 : Fn := { np := 2, nt := 13, kind := .pure, res := [.t 4], body := k327 }

/- spec.l01Join -/
def b337_1 : Cd :=
  (.seq
   (.seq
    (.reg [9] [
      ⟨none, (some 8), .mov (.t 6), []⟩,
      ⟨none, (some 9), .bin .lss (.t 8) (.c (.int .i64 12)), []⟩])
    (.cond (.t 9)
     .skip
     (.exit 0)))
   (.seq
    (.block 1
     (.reg [5] [
       ⟨none, (some 12), .mov (.t 6), []⟩,
       ⟨none, (some 13), .mov (.t 0), []⟩,
       ⟨none, (some 14), .mov (.t 6), []⟩,
       ⟨none, (some 15), .nil (.t 13), []⟩,
       ⟨none, (some 16), .idxP 12 1 (.t 15) (.t 14), []⟩,
       ⟨none, (some 17), .ld 1 false (.t 16), []⟩,
       ⟨none, (some 18), .mov (.t 1), []⟩,
       ⟨none, (some 19), .mov (.t 6), []⟩,
       ⟨none, (some 20), .nil (.t 18), []⟩,
       ⟨none, (some 21), .idxP 12 1 (.t 20) (.t 19), []⟩,
       ⟨none, (some 22), .ld 1 false (.t 21), []⟩,
       ⟨none, (some 23), .bin .or (.t 17) (.t 22), []⟩,
       ⟨none, (some 24), .adrI 5 none 12 1 (.t 12), []⟩,
       ⟨none, (some 5), .stV 5 (some 24) 1 (.t 23), []⟩]))
    (.reg [6] [
      ⟨none, (some 10), .mov (.t 6), []⟩,
      ⟨none, (some 11), .bin .add (.t 10) (.c (.int .i64 1)), []⟩,
      ⟨none, (some 6), .mov (.t 11), []⟩])))
def k337 : Cd :=
  (.seq
   (.reg [4] [
     ⟨none, (some 4), .zero true (zs 12 (.int .u16 0)), []⟩])
   (.seq
    (.reg [5] [
      ⟨none, (some 7), .agg (zs 12 (.int .u16 0)) [], []⟩,
      ⟨none, (some 5), .zero true (zs 12 (.int .u16 0)), []⟩,
      ⟨none, (some 5), .stV 5 none 12 (.t 7), []⟩])
    (.seq
     (.seq
      (.reg [6] [
        ⟨none, (some 6), .mov (.c (.int .i64 0)), []⟩])
      (.block 0
       (.loop b337_1)))
     (.seq
      (.reg [4] [
        ⟨none, (some 25), .ldV 5 none 12 true, []⟩,
        ⟨none, (some 4), .stV 4 none 12 (.t 25), []⟩])
      .ret))))
def c337 : Fn := { np := 2, nt := 26, kind := .pure, res := [.v 4 12 true], body := k337 }

/- (impl.Frame).join -/
def k338 : Cd :=
  (.seq
   (.reg [2, 3, 4] [
     ⟨none, (some 2), .mov (.t 0), []⟩,
     ⟨none, (some 3), .mov (.t 1), []⟩,
     ⟨none, (some 4), .zero true (zs 12 (.int .u16 0)), []⟩])
   (.seq
    (.reg [4] [
      ⟨none, (some 5), .ldV 2 none 12 true, []⟩,
      ⟨none, (some 6), .ldV 3 none 12 true, []⟩,
      ⟨none, (some 7), .call true 443 [.t 5, .t 6, .f 502], []⟩,
      ⟨none, (some 4), .stV 4 none 12 (.t 7), []⟩])
    .ret))
def c338 : Fn := { np := 2, nt := 8, kind := .pure, res := [.v 4 12 true], body := k338 }

/- spec.l01Place -/
def k342 : Cd :=
  (.seq
   (.reg [4] [
     ⟨none, (some 4), .mov (.c (.bool false)), []⟩])
   (.seq
    (.reg [4] [
      ⟨none, (some 5), .mov (.t 0), []⟩,
      ⟨none, (some 6), .call true 304 [.t 5, .c (.int .i64 0), .c (.int .i64 11)], []⟩,
      ⟨none, (some 7), .mov (.t 6), []⟩,
      ⟨(some (7, true)), (some 8), .mov (.t 1), []⟩,
      ⟨(some (7, true)), (some 9), .call true 304 [.t 8, .c (.int .i64 0), .c (.int .i64 11)], []⟩,
      ⟨none, (some 10), .pick (.t 7) (.t 9) (.c (.bool false)), []⟩,
      ⟨none, (some 4), .mov (.t 10), []⟩])
    .ret))
def c342 : Fn := { np := 2, nt := 11, kind := .pure, res := [.t 4], body := k342 }

/- impl.isPlace -/
def k345 : Cd :=
  (.seq
   (.reg [4] [
     ⟨none, (some 4), .mov (.c (.bool false)), []⟩])
   (.seq
    (.reg [4] [
      ⟨none, (some 5), .mov (.t 0), []⟩,
      ⟨none, (some 6), .call true 295 [.t 5, .c (.int .i64 0), .c (.int .i64 11)], []⟩,
      ⟨none, (some 7), .mov (.t 6), []⟩,
      ⟨(some (7, true)), (some 8), .mov (.t 1), []⟩,
      ⟨(some (7, true)), (some 9), .call true 295 [.t 8, .c (.int .i64 0), .c (.int .i64 11)], []⟩,
      ⟨none, (some 10), .pick (.t 7) (.t 9) (.c (.bool false)), []⟩,
      ⟨none, (some 4), .mov (.t 10), []⟩])
    .ret))
def c345 : Fn := { np := 2, nt := 11, kind := .pure, res := [.t 4], body := k345 }

/- (impl.Frame).with -/
def k346 : Cd :=
  (.seq
   (.reg [3, 6] [
     ⟨none, (some 3), .mov (.t 0), []⟩,
     ⟨none, (some 6), .zero true (zs 12 (.int .u16 0)), []⟩])
   (.seq
    (.reg [3] [
      ⟨none, (some 7), .mov (.t 2), []⟩,
      ⟨none, (some 8), .adrI 3 none 12 1 (.t 7), []⟩,
      ⟨none, (some 9), .ldV 3 (some 8) 1 false, []⟩,
      ⟨none, (some 10), .mov (.t 1), []⟩,
      ⟨none, (some 11), .bin .shl (.c (.int .u16 1)) (.t 10), []⟩,
      ⟨none, (some 12), .bin .or (.t 9) (.t 11), []⟩,
      ⟨none, (some 13), .adrI 3 none 12 1 (.t 7), []⟩,
      ⟨none, (some 3), .stV 3 (some 13) 1 (.t 12), []⟩])
    (.seq
     (.reg [6] [
       ⟨none, (some 14), .ldV 3 none 12 true, []⟩,
       ⟨none, (some 6), .stV 6 none 12 (.t 14), []⟩])
     .ret)))
def c346 : Fn := { np := 3, nt := 15, kind := .pure, res := [.v 6 12 true], body := k346 }

/- (impl.Frame).meet -/
def k348 : Cd :=
  (.seq
   (.reg [2, 3, 4] [
     ⟨none, (some 2), .mov (.t 0), []⟩,
     ⟨none, (some 3), .mov (.t 1), []⟩,
     ⟨none, (some 4), .zero true (zs 12 (.int .u16 0)), []⟩])
   (.seq
    (.reg [4] [
      ⟨none, (some 5), .ldV 2 none 12 true, []⟩,
      ⟨none, (some 6), .ldV 3 none 12 true, []⟩,
      ⟨none, (some 7), .call true 443 [.t 5, .t 6, .f 503], []⟩,
      ⟨none, (some 4), .stV 4 none 12 (.t 7), []⟩])
    .ret))
def c348 : Fn := { np := 2, nt := 8, kind := .pure, res := [.v 4 12 true], body := k348 }

/- spec.l01Less -/
def b349_1 : Cd :=
  (.seq
   (.seq
    (.reg [9] [
      ⟨none, (some 8), .mov (.t 6), []⟩,
      ⟨none, (some 9), .bin .lss (.t 8) (.c (.int .i64 12)), []⟩])
    (.cond (.t 9)
     .skip
     (.exit 0)))
   (.seq
    (.block 1
     (.reg [5] [
       ⟨none, (some 12), .mov (.t 6), []⟩,
       ⟨none, (some 13), .mov (.t 0), []⟩,
       ⟨none, (some 14), .mov (.t 6), []⟩,
       ⟨none, (some 15), .nil (.t 13), []⟩,
       ⟨none, (some 16), .idxP 12 1 (.t 15) (.t 14), []⟩,
       ⟨none, (some 17), .ld 1 false (.t 16), []⟩,
       ⟨none, (some 18), .mov (.t 1), []⟩,
       ⟨none, (some 19), .mov (.t 6), []⟩,
       ⟨none, (some 20), .nil (.t 18), []⟩,
       ⟨none, (some 21), .idxP 12 1 (.t 20) (.t 19), []⟩,
       ⟨none, (some 22), .ld 1 false (.t 21), []⟩,
       ⟨none, (some 23), .bin .andNot (.t 17) (.t 22), []⟩,
       ⟨none, (some 24), .adrI 5 none 12 1 (.t 12), []⟩,
       ⟨none, (some 5), .stV 5 (some 24) 1 (.t 23), []⟩]))
    (.reg [6] [
      ⟨none, (some 10), .mov (.t 6), []⟩,
      ⟨none, (some 11), .bin .add (.t 10) (.c (.int .i64 1)), []⟩,
      ⟨none, (some 6), .mov (.t 11), []⟩])))
def k349 : Cd :=
  (.seq
   (.reg [4] [
     ⟨none, (some 4), .zero true (zs 12 (.int .u16 0)), []⟩])
   (.seq
    (.reg [5] [
      ⟨none, (some 7), .agg (zs 12 (.int .u16 0)) [], []⟩,
      ⟨none, (some 5), .zero true (zs 12 (.int .u16 0)), []⟩,
      ⟨none, (some 5), .stV 5 none 12 (.t 7), []⟩])
    (.seq
     (.seq
      (.reg [6] [
        ⟨none, (some 6), .mov (.c (.int .i64 0)), []⟩])
      (.block 0
       (.loop b349_1)))
     (.seq
      (.reg [4] [
        ⟨none, (some 25), .ldV 5 none 12 true, []⟩,
        ⟨none, (some 4), .stV 4 none 12 (.t 25), []⟩])
      .ret))))
def c349 : Fn := { np := 2, nt := 26, kind := .pure, res := [.v 4 12 true], body := k349 }

/- (impl.Frame).less -/
def k350 : Cd :=
  (.seq
   (.reg [2, 3, 4] [
     ⟨none, (some 2), .mov (.t 0), []⟩,
     ⟨none, (some 3), .mov (.t 1), []⟩,
     ⟨none, (some 4), .zero true (zs 12 (.int .u16 0)), []⟩])
   (.seq
    (.reg [4] [
      ⟨none, (some 5), .ldV 2 none 12 true, []⟩,
      ⟨none, (some 6), .ldV 3 none 12 true, []⟩,
      ⟨none, (some 7), .call true 443 [.t 5, .t 6, .f 504], []⟩,
      ⟨none, (some 4), .stV 4 none 12 (.t 7), []⟩])
    .ret))
def c350 : Fn := { np := 2, nt := 8, kind := .pure, res := [.v 4 12 true], body := k350 }

/- impl.areFrames -/
def k351 : Cd :=
  (.seq
   (.reg [2] [
     ⟨none, (some 2), .mov (.c (.bool false)), []⟩])
   (.seq
    (.reg [2] [
      ⟨none, (some 3), .mov (.t 0), []⟩,
      ⟨none, (some 4), .call true 505 [.t 3, .f 506], []⟩,
      ⟨none, (some 5), .un .not (.t 4), []⟩,
      ⟨none, (some 2), .mov (.t 5), []⟩])
    .ret))
def c351 : Fn := { np := 1, nt := 6, kind := .pure, res := [.t 2], body := k351 }

/- (impl.Frame).moved -/
def b358_1 : Cd :=
  (.seq
   (.reg [16] [
     ⟨none, (some 16), .bin .lss (.t 15) (.c (.int .i64 12)), []⟩])
   (.seq
    (.cond (.t 16)
     .skip
     (.exit 0))
    (.seq
     (.block 1
      (.seq
       (.reg [8] [
         ⟨none, (some 17), .mov (.t 15), []⟩,
         ⟨none, (some 8), .mov (.t 17), []⟩])
       (.seq
        (.reg [9] [
          ⟨none, (some 18), .mov (.t 8), []⟩,
          ⟨none, (some 19), .mov (.t 2), []⟩,
          ⟨none, (some 20), .bin .sub (.t 18) (.t 19), []⟩,
          ⟨none, (some 9), .mov (.t 20), []⟩])
        (.seq
         (.seq
          (.reg [23] [
            ⟨none, (some 21), .mov (.t 9), []⟩,
            ⟨none, (some 22), .call true 295 [.t 21, .c (.int .i64 0), .c (.int .i64 11)], []⟩,
            ⟨none, (some 23), .un .not (.t 22), []⟩])
          (.cond (.t 23)
           (.exit 1)
           .skip))
         (.seq
          (.reg [25] [
            ⟨none, (some 24), .mov (.t 1), []⟩,
            ⟨none, (some 25), .bin .geq (.t 24) (.c (.int .i64 0)), []⟩])
          (.cond (.t 25)
           (.reg [7] [
             ⟨none, (some 26), .mov (.t 8), []⟩,
             ⟨none, (some 27), .mov (.t 9), []⟩,
             ⟨none, (some 28), .adrI 3 none 12 1 (.t 27), []⟩,
             ⟨none, (some 29), .ldV 3 (some 28) 1 false, []⟩,
             ⟨none, (some 30), .mov (.t 1), []⟩,
             ⟨none, (some 31), .bin .shl (.t 29) (.t 30), []⟩,
             ⟨none, (some 32), .bin .and (.t 31) (.c (.int .u16 4095)), []⟩,
             ⟨none, (some 33), .adrI 7 none 12 1 (.t 26), []⟩,
             ⟨none, (some 7), .stV 7 (some 33) 1 (.t 32), []⟩])
           (.reg [7] [
             ⟨none, (some 34), .mov (.t 8), []⟩,
             ⟨none, (some 35), .mov (.t 9), []⟩,
             ⟨none, (some 36), .adrI 3 none 12 1 (.t 35), []⟩,
             ⟨none, (some 37), .ldV 3 (some 36) 1 false, []⟩,
             ⟨none, (some 38), .mov (.t 1), []⟩,
             ⟨none, (some 39), .un .neg (.t 38), []⟩,
             ⟨none, (some 40), .bin .shr (.t 37) (.t 39), []⟩,
             ⟨none, (some 41), .adrI 7 none 12 1 (.t 34), []⟩,
             ⟨none, (some 7), .stV 7 (some 41) 1 (.t 40), []⟩])))))))
     (.reg [15] [
       ⟨none, (some 42), .bin .add (.t 15) (.c (.int .i64 1)), []⟩,
       ⟨none, (some 15), .mov (.t 42), []⟩]))))
def k358 : Cd :=
  (.seq
   (.reg [3, 6] [
     ⟨none, (some 3), .mov (.t 0), []⟩,
     ⟨none, (some 6), .zero true (zs 12 (.int .u16 0)), []⟩])
   (.seq
    (.reg [7] [
      ⟨none, (some 10), .agg (zs 12 (.int .u16 0)) [], []⟩,
      ⟨none, (some 7), .zero true (zs 12 (.int .u16 0)), []⟩,
      ⟨none, (some 7), .stV 7 none 12 (.t 10), []⟩])
    (.seq
     (.seq
      (.reg [13] [
        ⟨none, (some 11), .mov (.t 1), []⟩,
        ⟨none, (some 12), .call true 295 [.t 11, .c (.int .i64 (-12)), .c (.int .i64 12)], []⟩,
        ⟨none, (some 13), .un .not (.t 12), []⟩])
      (.cond (.t 13)
       (.seq
        (.reg [6] [
          ⟨none, (some 14), .ldV 7 none 12 true, []⟩,
          ⟨none, (some 6), .stV 6 none 12 (.t 14), []⟩])
        .ret)
       .skip))
     (.seq
      (.seq
       (.reg [15] [
         ⟨none, (some 15), .mov (.c (.int .i64 0)), []⟩])
       (.block 0
        (.loop b358_1)))
      (.seq
       (.reg [6] [
         ⟨none, (some 43), .ldV 7 none 12 true, []⟩,
         ⟨none, (some 6), .stV 6 none 12 (.t 43), []⟩])
       .ret)))))
def c358 : Fn := { np := 3, nt := 44, kind := .pure, res := [.v 6 12 true], body := k358 }

/- spec.l01Ok -/
def b359_1 : Cd :=
  (.seq
   (.seq
    (.reg [5] [
      ⟨none, (some 4), .mov (.t 3), []⟩,
      ⟨none, (some 5), .bin .lss (.t 4) (.c (.int .i64 12)), []⟩])
    (.cond (.t 5)
     .skip
     (.exit 0)))
   (.seq
    (.block 1
     (.seq
      (.reg [13] [
        ⟨none, (some 8), .mov (.t 0), []⟩,
        ⟨none, (some 9), .mov (.t 3), []⟩,
        ⟨none, (some 10), .nil (.t 8), []⟩,
        ⟨none, (some 11), .idxP 12 1 (.t 10) (.t 9), []⟩,
        ⟨none, (some 12), .ld 1 false (.t 11), []⟩,
        ⟨none, (some 13), .bin .gtr (.t 12) (.c (.int .u16 4095)), []⟩])
      (.cond (.t 13)
       (.seq
        (.reg [2] [
          ⟨none, (some 2), .mov (.c (.bool false)), []⟩])
        .ret)
       .skip)))
    (.reg [3] [
      ⟨none, (some 6), .mov (.t 3), []⟩,
      ⟨none, (some 7), .bin .add (.t 6) (.c (.int .i64 1)), []⟩,
      ⟨none, (some 3), .mov (.t 7), []⟩])))
def k359 : Cd :=
  (.seq
   (.reg [2] [
     ⟨none, (some 2), .mov (.c (.bool false)), []⟩])
   (.seq
    (.seq
     (.reg [3] [
       ⟨none, (some 3), .mov (.c (.int .i64 0)), []⟩])
     (.block 0
      (.loop b359_1)))
    (.seq
     (.reg [2] [
       ⟨none, (some 2), .mov (.c (.bool true)), []⟩])
     .ret)))
def c359 : Fn := { np := 1, nt := 14, kind := .pure, res := [.t 2], body := k359 }

/- (impl.Frame).differ -/
def k367 : Cd :=
  (.seq
   (.reg [2, 3, 4] [
     ⟨none, (some 2), .mov (.t 0), []⟩,
     ⟨none, (some 3), .mov (.t 1), []⟩,
     ⟨none, (some 4), .zero true (zs 12 (.int .u16 0)), []⟩])
   (.seq
    (.reg [4] [
      ⟨none, (some 5), .ldV 2 none 12 true, []⟩,
      ⟨none, (some 6), .ldV 3 none 12 true, []⟩,
      ⟨none, (some 7), .call true 443 [.t 5, .t 6, .f 512], []⟩,
      ⟨none, (some 4), .stV 4 none 12 (.t 7), []⟩])
    .ret))
def c367 : Fn := { np := 2, nt := 8, kind := .pure, res := [.v 4 12 true], body := k367 }

/- spec.l01Drawn -/
def b368_1 : Cd :=
  (.seq
   (.seq
    (.reg [16] [
      ⟨none, (some 15), .mov (.t 6), []⟩,
      ⟨none, (some 16), .bin .gtr (.t 15) (.c (.int .i64 0)), []⟩])
    (.cond (.t 16)
     .skip
     (.exit 0)))
   (.seq
    (.block 1
     (.seq
      (.reg [] [
        ⟨none, (some 19), .mov (.t 4), []⟩,
        ⟨none, (some 20), .mov (.t 5), []⟩,
        ⟨none, (some 21), .call false 305 [.t 3, .t 19, .t 20], []⟩])
      (.seq
       (.reg [23] [
         ⟨none, (some 22), .mov (.t 0), []⟩,
         ⟨none, (some 23), .call false 459 [.t 22, .c (.int .i64 6)], []⟩])
       (.block 2
        (.seq
         (.reg [30] [
           ⟨none, (some 31), .bin .eql (.t 23) (.c (.int .i64 0)), []⟩,
           ⟨none, (some 30), .mov (.t 31), []⟩])
         (.cond (.t 30)
          (.seq
           (.reg [4] [
             ⟨none, (some 32), .mov (.t 0), []⟩,
             ⟨none, (some 33), .call false 459 [.t 32, .c (.int .i64 12)], []⟩,
             ⟨none, (some 4), .mov (.t 33), []⟩])
           (.reg [5] [
             ⟨none, (some 34), .mov (.t 0), []⟩,
             ⟨none, (some 35), .call false 459 [.t 34, .c (.int .i64 12)], []⟩,
             ⟨none, (some 5), .mov (.t 35), []⟩]))
          (.seq
           (.seq
            (.reg [36] [
              ⟨none, (some 37), .bin .eql (.t 23) (.c (.int .i64 1)), []⟩,
              ⟨none, (some 36), .mov (.t 37), []⟩])
            (.cond (.t 36)
             .skip
             (.reg [36] [
               ⟨none, (some 38), .bin .eql (.t 23) (.c (.int .i64 2)), []⟩,
               ⟨none, (some 36), .mov (.t 38), []⟩])))
           (.cond (.t 36)
            (.reg [4] [
              ⟨none, (some 39), .mov (.t 4), []⟩,
              ⟨none, (some 40), .bin .add (.t 39) (.c (.int .i64 1)), []⟩,
              ⟨none, (some 41), .bin .rem (.t 40) (.c (.int .i64 12)), []⟩,
              ⟨none, (some 4), .mov (.t 41), []⟩])
            (.reg [5] [
              ⟨none, (some 24), .mov (.t 5), []⟩,
              ⟨none, (some 25), .mov (.t 0), []⟩,
              ⟨none, (some 26), .call false 459 [.t 25, .c (.int .i64 3)], []⟩,
              ⟨none, (some 27), .bin .add (.t 24) (.t 26), []⟩,
              ⟨none, (some 28), .bin .add (.t 27) (.c (.int .i64 11)), []⟩,
              ⟨none, (some 29), .bin .rem (.t 28) (.c (.int .i64 12)), []⟩,
              ⟨none, (some 5), .mov (.t 29), []⟩])))))))))
    (.reg [6] [
      ⟨none, (some 17), .mov (.t 6), []⟩,
      ⟨none, (some 18), .bin .sub (.t 17) (.c (.int .i64 1)), []⟩,
      ⟨none, (some 6), .mov (.t 18), []⟩])))
def b368_2 : Cd :=
  (.seq
   (.seq
    (.reg [45] [
      ⟨none, (some 44), .mov (.t 7), []⟩,
      ⟨none, (some 45), .bin .lss (.t 44) (.c (.int .i64 12)), []⟩])
    (.cond (.t 45)
     .skip
     (.exit 3)))
   (.seq
    (.block 4
     (.reg [] [
       ⟨none, (some 48), .mov (.t 7), []⟩,
       ⟨none, (some 49), .mov (.t 7), []⟩,
       ⟨none, (some 50), .idxP 12 1 (.t 3) (.t 49), []⟩,
       ⟨none, (some 51), .ld 1 false (.t 50), []⟩,
       ⟨none, (some 52), .mov (.t 0), []⟩,
       ⟨none, (some 53), .call false 459 [.t 52, .c (.int .i64 4096)], [.t 50]⟩,
       ⟨none, (some 54), .conv .u16 (.t 53), []⟩,
       ⟨none, (some 55), .bin .or (.t 51) (.t 54), []⟩,
       ⟨none, (some 56), .idxP 12 1 (.t 3) (.t 48), []⟩,
       ⟨none, none, .st 1 (.t 56) (.t 55), []⟩]))
    (.reg [7] [
      ⟨none, (some 46), .mov (.t 7), []⟩,
      ⟨none, (some 47), .bin .add (.t 46) (.c (.int .i64 1)), []⟩,
      ⟨none, (some 7), .mov (.t 47), []⟩])))
def k368 : Cd :=
  (.seq
   (.reg [2] [
     ⟨none, (some 2), .zero true (zs 12 (.int .u16 0)), []⟩])
   (.seq
    (.reg [3] [
      ⟨none, (some 8), .agg (zs 12 (.int .u16 0)) [], []⟩,
      ⟨none, (some 3), .new 1 (zs 12 (.int .u16 0)), []⟩,
      ⟨none, none, .st 12 (.t 3) (.t 8), []⟩])
    (.seq
     (.reg [4] [
       ⟨none, (some 9), .mov (.t 0), []⟩,
       ⟨none, (some 10), .call false 459 [.t 9, .c (.int .i64 12)], []⟩,
       ⟨none, (some 4), .mov (.t 10), []⟩])
     (.seq
      (.reg [5] [
        ⟨none, (some 11), .mov (.t 0), []⟩,
        ⟨none, (some 12), .call false 459 [.t 11, .c (.int .i64 12)], []⟩,
        ⟨none, (some 5), .mov (.t 12), []⟩])
      (.seq
       (.seq
        (.reg [6] [
          ⟨none, (some 13), .mov (.t 0), []⟩,
          ⟨none, (some 14), .call false 459 [.t 13, .c (.int .i64 14)], []⟩,
          ⟨none, (some 6), .mov (.t 14), []⟩])
        (.block 0
         (.loop b368_1)))
       (.seq
        (.seq
         (.reg [43] [
           ⟨none, (some 42), .mov (.t 0), []⟩,
           ⟨none, (some 43), .call false 513 [.t 42, .c (.int .i64 8)], []⟩])
         (.cond (.t 43)
          (.seq
           (.reg [7] [
             ⟨none, (some 7), .mov (.c (.int .i64 0)), []⟩])
           (.block 3
            (.loop b368_2)))
          .skip))
        (.seq
         (.reg [2] [
           ⟨none, (some 57), .ld 12 true (.t 3), []⟩,
           ⟨none, (some 2), .stV 2 none 12 (.t 57), []⟩])
         .ret)))))))
def c368 : Fn := { np := 1, nt := 58, kind := .args, res := [.v 2 12 true], body := k368 }

/- (impl.Frame).count -/
def b393_1 : Cd :=
  (.seq
   (.reg [8] [
     ⟨none, (some 8), .bin .lss (.t 7) (.c (.int .i64 12)), []⟩])
   (.seq
    (.cond (.t 8)
     .skip
     (.exit 0))
    (.seq
     (.block 1
      (.seq
       (.reg [5] [
         ⟨none, (some 9), .idx 12 1 false (.t 6) (.t 7), []⟩,
         ⟨none, (some 5), .mov (.t 9), []⟩])
       (.reg [3] [
         ⟨none, (some 10), .mov (.t 3), []⟩,
         ⟨none, (some 11), .mov (.t 5), []⟩,
         ⟨none, (some 12), .call true 530 [.t 11], []⟩,
         ⟨none, (some 13), .bin .add (.t 10) (.t 12), []⟩,
         ⟨none, (some 3), .mov (.t 13), []⟩])))
     (.reg [7] [
       ⟨none, (some 14), .bin .add (.t 7) (.c (.int .i64 1)), []⟩,
       ⟨none, (some 7), .mov (.t 14), []⟩]))))
def k393 : Cd :=
  (.seq
   (.reg [1, 2] [
     ⟨none, (some 1), .mov (.t 0), []⟩,
     ⟨none, (some 2), .mov (.c (.int .i64 0)), []⟩])
   (.seq
    (.reg [3] [
      ⟨none, (some 3), .mov (.c (.int .i64 0)), []⟩])
    (.seq
     (.seq
      (.reg [6, 7] [
        ⟨none, (some 6), .ldV 1 none 12 true, []⟩,
        ⟨none, (some 7), .mov (.c (.int .i64 0)), []⟩])
      (.block 0
       (.loop b393_1)))
     (.seq
      (.reg [2] [
        ⟨none, (some 15), .mov (.t 3), []⟩,
        ⟨none, (some 2), .mov (.t 15), []⟩])
      .ret))))
def c393 : Fn := { np := 1, nt := 16, kind := .pure, res := [.t 2], body := k393 }

/- (impl.Frame).has -/
def k395 : Cd :=
  (.seq
   (.reg [3, 6] [
     ⟨none, (some 3), .mov (.t 0), []⟩,
     ⟨none, (some 6), .mov (.c (.bool false)), []⟩])
   (.seq
    (.reg [6] [
      ⟨none, (some 7), .mov (.t 1), []⟩,
      ⟨none, (some 8), .mov (.t 2), []⟩,
      ⟨none, (some 9), .call true 345 [.t 7, .t 8], []⟩,
      ⟨none, (some 10), .mov (.t 9), []⟩,
      ⟨(some (10, true)), (some 11), .mov (.t 2), []⟩,
      ⟨(some (10, true)), (some 12), .adrI 3 none 12 1 (.t 11), []⟩,
      ⟨(some (10, true)), (some 13), .ldV 3 (some 12) 1 false, []⟩,
      ⟨(some (10, true)), (some 14), .mov (.t 1), []⟩,
      ⟨(some (10, true)), (some 15), .bin .shr (.t 13) (.t 14), []⟩,
      ⟨(some (10, true)), (some 16), .bin .and (.t 15) (.c (.int .u16 1)), []⟩,
      ⟨(some (10, true)), (some 17), .bin .eql (.t 16) (.c (.int .u16 1)), []⟩,
      ⟨none, (some 18), .pick (.t 10) (.t 17) (.c (.bool false)), []⟩,
      ⟨none, (some 6), .mov (.t 18), []⟩])
    .ret))
def c395 : Fn := { np := 3, nt := 19, kind := .pure, res := [.t 6], body := k395 }

/- spec.l01Dots -/
def b440_1 : Cd :=
  (.seq
   (.seq
    (.reg [12] [
      ⟨none, (some 11), .mov (.t 5), []⟩,
      ⟨none, (some 12), .bin .lss (.t 11) (.c (.int .i64 12)), []⟩])
    (.cond (.t 12)
     .skip
     (.exit 2)))
   (.seq
    (.block 3
     (.seq
      (.reg [18] [
        ⟨none, (some 15), .mov (.t 0), []⟩,
        ⟨none, (some 16), .mov (.t 5), []⟩,
        ⟨none, (some 17), .mov (.t 4), []⟩,
        ⟨none, (some 18), .call true 456 [.t 15, .t 16, .t 17], []⟩])
      (.cond (.t 18)
       (.reg [3] [
         ⟨none, (some 19), .mov (.t 3), []⟩,
         ⟨none, (some 20), .mov (.t 5), []⟩,
         ⟨none, (some 21), .conv .i8 (.t 20), []⟩,
         ⟨none, (some 22), .mov (.t 4), []⟩,
         ⟨none, (some 23), .conv .i8 (.t 22), []⟩,
         ⟨none, (some 24), .agg [.int .i8 0, .int .i8 0] [(0, 1, (.t 21)), (1, 1, (.t 23))], []⟩,
         ⟨none, (some 25), .bldS 2 1 [.int .i8 0, .int .i8 0] [(0, 2, (.t 24))], []⟩,
         ⟨none, (some 26), .app 2 2 (.t 19) (.t 25), []⟩,
         ⟨none, (some 3), .mov (.t 26), []⟩])
       .skip)))
    (.reg [5] [
      ⟨none, (some 13), .mov (.t 5), []⟩,
      ⟨none, (some 14), .bin .add (.t 13) (.c (.int .i64 1)), []⟩,
      ⟨none, (some 5), .mov (.t 14), []⟩])))
def b440_2 : Cd :=
  (.seq
   (.seq
    (.reg [8] [
      ⟨none, (some 7), .mov (.t 4), []⟩,
      ⟨none, (some 8), .bin .lss (.t 7) (.c (.int .i64 12)), []⟩])
    (.cond (.t 8)
     .skip
     (.exit 0)))
   (.seq
    (.block 1
     (.seq
      (.reg [5] [
        ⟨none, (some 5), .mov (.c (.int .i64 0)), []⟩])
      (.block 2
       (.loop b440_1))))
    (.reg [4] [
      ⟨none, (some 9), .mov (.t 4), []⟩,
      ⟨none, (some 10), .bin .add (.t 9) (.c (.int .i64 1)), []⟩,
      ⟨none, (some 4), .mov (.t 10), []⟩])))
def k440 : Cd :=
  (.seq
   (.reg [2] [
     ⟨none, (some 2), .mov (.c (.slice none 0 0)), []⟩])
   (.seq
    (.reg [3] [
      ⟨none, (some 6), .bldS 2 0 [.int .i8 0, .int .i8 0] [], []⟩,
      ⟨none, (some 3), .mov (.t 6), []⟩])
    (.seq
     (.seq
      (.reg [4] [
        ⟨none, (some 4), .mov (.c (.int .i64 0)), []⟩])
      (.block 0
       (.loop b440_2)))
     (.seq
      (.reg [2] [
        ⟨none, (some 27), .mov (.t 3), []⟩,
        ⟨none, (some 2), .mov (.t 27), []⟩])
      .ret))))
def c440 : Fn := { np := 1, nt := 28, kind := .pure, res := [.t 2], body := k440 }

/- (impl.Frame).mix -/
def b443_1 : Cd :=
  (.seq
   (.reg [11] [
     ⟨none, (some 11), .bin .lss (.t 10) (.c (.int .i64 12)), []⟩])
   (.seq
    (.cond (.t 11)
     .skip
     (.exit 0))
    (.seq
     (.block 1
      (.seq
       (.reg [7, 8] [
         ⟨none, (some 12), .mov (.t 10), []⟩,
         ⟨none, (some 13), .idx 12 1 false (.t 9) (.t 10), []⟩,
         ⟨none, (some 7), .mov (.t 12), []⟩,
         ⟨none, (some 8), .mov (.t 13), []⟩])
       (.reg [3] [
         ⟨none, (some 14), .mov (.t 7), []⟩,
         ⟨none, (some 15), .mov (.t 2), []⟩,
         ⟨none, (some 16), .mov (.t 8), []⟩,
         ⟨none, (some 17), .mov (.t 7), []⟩,
         ⟨none, (some 18), .adrI 4 none 12 1 (.t 17), []⟩,
         ⟨none, (some 19), .ldV 4 (some 18) 1 false, []⟩,
         ⟨none, (some 20), .callv (.t 15) [.t 16, .t 19], []⟩,
         ⟨none, (some 21), .adrI 3 none 12 1 (.t 14), []⟩,
         ⟨none, (some 3), .stV 3 (some 21) 1 (.t 20), []⟩])))
     (.reg [10] [
       ⟨none, (some 22), .bin .add (.t 10) (.c (.int .i64 1)), []⟩,
       ⟨none, (some 10), .mov (.t 22), []⟩]))))
def k443 : Cd :=
  (.seq
   (.reg [3, 4, 6] [
     ⟨none, (some 3), .mov (.t 0), []⟩,
     ⟨none, (some 4), .mov (.t 1), []⟩,
     ⟨none, (some 6), .zero true (zs 12 (.int .u16 0)), []⟩])
   (.seq
    (.seq
     (.reg [9, 10] [
       ⟨none, (some 9), .ldV 3 none 12 true, []⟩,
       ⟨none, (some 10), .mov (.c (.int .i64 0)), []⟩])
     (.block 0
      (.loop b443_1)))
    (.seq
     (.reg [6] [
       ⟨none, (some 23), .ldV 3 none 12 true, []⟩,
       ⟨none, (some 6), .stV 6 none 12 (.t 23), []⟩])
     .ret)))
def c443 : Fn := { np := 3, nt := 24, kind := .pure, res := [.v 6 12 true], body := k443 }

/- slices.ContainsFunc[[]uint16,uint16] -/
def k445 : Cd :=
  (.seq
   (.reg [4] [
     ⟨none, (some 4), .mov (.c (.bool false)), []⟩])
   (.seq
    (.reg [4] [
      ⟨none, (some 5), .mov (.t 0), []⟩,
      ⟨none, (some 6), .mov (.t 1), []⟩,
      ⟨none, (some 7), .call true 547 [.t 5, .t 6], []⟩,
      ⟨none, (some 8), .bin .geq (.t 7) (.c (.int .i64 0)), []⟩,
      ⟨none, (some 4), .mov (.t 8), []⟩])
    .ret))
def c445 : Fn := { np := 2, nt := 9, kind := .pure, res := [.t 4], body := k445 }

/- impl.ValidFrame$1 -/
def k446 : Cd :=
  (.seq
   (.reg [2] [
     ⟨none, (some 2), .mov (.c (.bool false)), []⟩])
   (.seq
    (.reg [2] [
      ⟨none, (some 3), .mov (.t 0), []⟩,
      ⟨none, (some 4), .bin .gtr (.t 3) (.c (.int .u16 4095)), []⟩,
      ⟨none, (some 2), .mov (.t 4), []⟩])
    .ret))
def c446 : Fn := { np := 1, nt := 5, kind := .pure, res := [.t 2], body := k446 }

/- impl.checkPlace -/
def k448 : Cd :=
  (.seq
   (.reg [3, 6] [
     ⟨none, (some 3), .mov (.t 0), []⟩,
     ⟨none, (some 6), .mov (.c (.int .i64 0)), []⟩])
   (.seq
    (.block 0
     (.seq
      (.reg [7] [
        ⟨none, (some 8), .ldV 3 none 12 true, []⟩,
        ⟨none, (some 9), .call true 234 [.t 8], []⟩,
        ⟨none, (some 10), .un .not (.t 9), []⟩,
        ⟨none, (some 7), .mov (.t 10), []⟩])
      (.cond (.t 7)
       (.seq
        (.reg [6] [
          ⟨none, (some 6), .mov (.c (.int .i64 1)), []⟩])
        .ret)
       (.seq
        (.reg [11] [
          ⟨none, (some 12), .mov (.t 1), []⟩,
          ⟨none, (some 13), .mov (.t 2), []⟩,
          ⟨none, (some 14), .call true 345 [.t 12, .t 13], []⟩,
          ⟨none, (some 15), .un .not (.t 14), []⟩,
          ⟨none, (some 11), .mov (.t 15), []⟩])
        (.cond (.t 11)
         (.seq
          (.reg [6] [
            ⟨none, (some 6), .mov (.c (.int .i64 2)), []⟩])
          .ret)
         .skip)))))
    (.seq
     (.reg [6] [
       ⟨none, (some 6), .mov (.c (.int .i64 0)), []⟩])
     .ret)))
def c448 : Fn := { np := 3, nt := 16, kind := .pure, res := [.t 6], body := k448 }

/- (impl.Frame).dots -/
def b449_1 : Cd :=
  (.seq
   (.reg [11] [
     ⟨none, (some 11), .bin .lss (.t 10) (.c (.int .i64 12)), []⟩])
   (.seq
    (.cond (.t 11)
     .skip
     (.exit 2))
    (.seq
     (.block 3
      (.seq
       (.reg [5] [
         ⟨none, (some 12), .mov (.t 10), []⟩,
         ⟨none, (some 5), .mov (.t 12), []⟩])
       (.seq
        (.reg [16] [
          ⟨none, (some 13), .ldV 1 none 12 true, []⟩,
          ⟨none, (some 14), .mov (.t 5), []⟩,
          ⟨none, (some 15), .mov (.t 4), []⟩,
          ⟨none, (some 16), .call true 395 [.t 13, .t 14, .t 15], []⟩])
        (.cond (.t 16)
         (.reg [3] [
           ⟨none, (some 17), .mov (.t 3), []⟩,
           ⟨none, (some 18), .mov (.t 5), []⟩,
           ⟨none, (some 19), .conv .i8 (.t 18), []⟩,
           ⟨none, (some 20), .mov (.t 4), []⟩,
           ⟨none, (some 21), .conv .i8 (.t 20), []⟩,
           ⟨none, (some 22), .agg [.int .i8 0, .int .i8 0] [(0, 1, (.t 19)), (1, 1, (.t 21))], []⟩,
           ⟨none, (some 23), .bldS 2 1 [.int .i8 0, .int .i8 0] [(0, 2, (.t 22))], []⟩,
           ⟨none, (some 24), .app 2 2 (.t 17) (.t 23), []⟩,
           ⟨none, (some 3), .mov (.t 24), []⟩])
         .skip))))
     (.reg [10] [
       ⟨none, (some 25), .bin .add (.t 10) (.c (.int .i64 1)), []⟩,
       ⟨none, (some 10), .mov (.t 25), []⟩]))))
def b449_2 : Cd :=
  (.seq
   (.reg [8] [
     ⟨none, (some 8), .bin .lss (.t 7) (.c (.int .i64 12)), []⟩])
   (.seq
    (.cond (.t 8)
     .skip
     (.exit 0))
    (.seq
     (.block 1
      (.seq
       (.reg [4] [
         ⟨none, (some 9), .mov (.t 7), []⟩,
         ⟨none, (some 4), .mov (.t 9), []⟩])
       (.seq
        (.reg [10] [
          ⟨none, (some 10), .mov (.c (.int .i64 0)), []⟩])
        (.block 2
         (.loop b449_1)))))
     (.reg [7] [
       ⟨none, (some 26), .bin .add (.t 7) (.c (.int .i64 1)), []⟩,
       ⟨none, (some 7), .mov (.t 26), []⟩]))))
def k449 : Cd :=
  (.seq
   (.reg [1, 2] [
     ⟨none, (some 1), .mov (.t 0), []⟩,
     ⟨none, (some 2), .mov (.c (.slice none 0 0)), []⟩])
   (.seq
    (.reg [3] [
      ⟨none, (some 6), .bldS 2 0 [.int .i8 0, .int .i8 0] [], []⟩,
      ⟨none, (some 3), .mov (.t 6), []⟩])
    (.seq
     (.seq
      (.reg [7] [
        ⟨none, (some 7), .mov (.c (.int .i64 0)), []⟩])
      (.block 0
       (.loop b449_2)))
     (.seq
      (.reg [2] [
        ⟨none, (some 27), .mov (.t 3), []⟩,
        ⟨none, (some 2), .mov (.t 27), []⟩])
      .ret))))
def c449 : Fn := { np := 1, nt := 28, kind := .pure, res := [.t 2], body := k449 }

/- (impl.Frame).blob -/
def b450_1 : Cd :=
  (.block 1
   (.seq
    (.reg [8] [
      ⟨none, (some 13), .ldV 7 none 12 true, []⟩,
      ⟨none, (some 15), .ldV 3 none 12 true, []⟩,
      ⟨none, (some 8), .zero true (zs 12 (.int .u16 0)), []⟩,
      ⟨none, (some 14), .call true 452 [.t 13], []⟩,
      ⟨none, (some 16), .call true 348 [.t 14, .t 15], []⟩,
      ⟨none, (some 8), .stV 8 none 12 (.t 16), []⟩])
    (.seq
     (.seq
      (.reg [19] [
        ⟨none, (some 17), .ldV 8 none 12 true, []⟩,
        ⟨none, (some 18), .ldV 7 none 12 true, []⟩,
        ⟨none, (some 19), .eq (.a (rb 12 (some .u16))) false (.t 17) (.t 18), []⟩])
      (.cond (.t 19)
       (.seq
        (.reg [6] [
          ⟨none, (some 20), .ldV 7 none 12 true, []⟩,
          ⟨none, (some 6), .stV 6 none 12 (.t 20), []⟩])
        .ret)
       .skip))
     (.reg [7] [
       ⟨none, (some 21), .ldV 8 none 12 true, []⟩,
       ⟨none, (some 7), .stV 7 none 12 (.t 21), []⟩]))))
def k450 : Cd :=
  (.seq
   (.reg [3, 6] [
     ⟨none, (some 3), .mov (.t 0), []⟩,
     ⟨none, (some 6), .zero true (zs 12 (.int .u16 0)), []⟩])
   (.seq
    (.reg [7] [
      ⟨none, (some 9), .agg (zs 12 (.int .u16 0)) [], []⟩,
      ⟨none, (some 10), .mov (.t 1), []⟩,
      ⟨none, (some 11), .mov (.t 2), []⟩,
      ⟨none, (some 12), .call true 346 [.t 9, .t 10, .t 11], []⟩,
      ⟨none, (some 7), .zero true (zs 12 (.int .u16 0)), []⟩,
      ⟨none, (some 7), .stV 7 none 12 (.t 12), []⟩])
    (.block 0
     (.loop b450_1))))
def c450 : Fn := { np := 3, nt := 22, kind := .pure, res := [.v 6 12 true], body := k450 }

/- spec.l01Blobs -/
def b451_1 : Cd :=
  (.block 1
   (.seq
    (.reg [5] [
      ⟨none, (some 11), .call true 440 [.t 4], []⟩,
      ⟨none, (some 5), .mov (.t 11), []⟩])
    (.seq
     (.seq
      (.reg [14] [
        ⟨none, (some 12), .mov (.t 5), []⟩,
        ⟨none, (some 13), .len (.t 12), []⟩,
        ⟨none, (some 14), .bin .eql (.t 13) (.c (.int .i64 0)), []⟩])
      (.cond (.t 14)
       (.seq
        (.reg [2] [
          ⟨none, (some 15), .mov (.t 3), []⟩,
          ⟨none, (some 2), .mov (.t 15), []⟩])
        .ret)
       .skip))
     (.seq
      (.reg [6] [
        ⟨none, (some 16), .mov (.t 0), []⟩,
        ⟨none, (some 17), .mov (.t 5), []⟩,
        ⟨none, (some 18), .idxA 2 (.t 17) (.c (.int .i64 0)), []⟩,
        ⟨none, (some 19), .fldP 0 (.t 18), []⟩,
        ⟨none, (some 20), .ld 1 false (.t 19), []⟩,
        ⟨none, (some 21), .conv .i64 (.t 20), []⟩,
        ⟨none, (some 22), .mov (.t 5), []⟩,
        ⟨none, (some 23), .idxA 2 (.t 22) (.c (.int .i64 0)), []⟩,
        ⟨none, (some 24), .fldP 1 (.t 23), []⟩,
        ⟨none, (some 25), .ld 1 false (.t 24), []⟩,
        ⟨none, (some 26), .conv .i64 (.t 25), []⟩,
        ⟨none, (some 6), .new 1 (zs 12 (.int .u16 0)), []⟩,
        ⟨none, (some 27), .call true 548 [.t 16, .t 21, .t 26], []⟩,
        ⟨none, none, .st 12 (.t 6) (.t 27), []⟩])
      (.seq
       (.reg [] [
         ⟨none, (some 28), .call true 349 [.t 4, .t 6], []⟩,
         ⟨none, none, .st 12 (.t 4) (.t 28), []⟩])
       (.reg [3] [
         ⟨none, (some 29), .mov (.t 3), []⟩,
         ⟨none, (some 30), .ld 12 true (.t 6), []⟩,
         ⟨none, (some 31), .bldS 12 1 (zs 12 (.int .u16 0)) [(0, 12, (.t 30))], []⟩,
         ⟨none, (some 32), .app 12 24 (.t 29) (.t 31), []⟩,
         ⟨none, (some 3), .mov (.t 32), []⟩]))))))
def k451 : Cd :=
  (.seq
   (.reg [2] [
     ⟨none, (some 2), .mov (.c (.slice none 0 0)), []⟩])
   (.seq
    (.reg [3] [
      ⟨none, (some 7), .bldS 12 0 (zs 12 (.int .u16 0)) [], []⟩,
      ⟨none, (some 3), .mov (.t 7), []⟩])
    (.seq
     (.reg [4] [
       ⟨none, (some 8), .mov (.t 0), []⟩,
       ⟨none, (some 9), .nil (.t 8), []⟩,
       ⟨none, (some 10), .ld 12 true (.t 9), []⟩,
       ⟨none, (some 4), .new 1 (zs 12 (.int .u16 0)), []⟩,
       ⟨none, none, .st 12 (.t 4) (.t 10), []⟩])
     (.block 0
      (.loop b451_1)))))
def c451 : Fn := { np := 1, nt := 33, kind := .pure, res := [.t 2], body := k451 }

/- (impl.Frame).grown -/
def k452 : Cd :=
  (.seq
   (.reg [1, 2] [
     ⟨none, (some 1), .mov (.t 0), []⟩,
     ⟨none, (some 2), .zero true (zs 12 (.int .u16 0)), []⟩])
   (.seq
    (.reg [2] [
      ⟨none, (some 3), .ldV 1 none 12 true, []⟩,
      ⟨none, (some 4), .ldV 1 none 12 true, []⟩,
      ⟨none, (some 7), .ldV 1 none 12 true, []⟩,
      ⟨none, (some 10), .ldV 1 none 12 true, []⟩,
      ⟨none, (some 13), .ldV 1 none 12 true, []⟩,
      ⟨none, (some 5), .call true 358 [.t 4, .c (.int .i64 1), .c (.int .i64 0)], []⟩,
      ⟨none, (some 6), .call true 338 [.t 3, .t 5], []⟩,
      ⟨none, (some 8), .call true 358 [.t 7, .c (.int .i64 (-1)), .c (.int .i64 0)], []⟩,
      ⟨none, (some 9), .call true 338 [.t 6, .t 8], []⟩,
      ⟨none, (some 11), .call true 358 [.t 10, .c (.int .i64 0), .c (.int .i64 1)], []⟩,
      ⟨none, (some 12), .call true 338 [.t 9, .t 11], []⟩,
      ⟨none, (some 14), .call true 358 [.t 13, .c (.int .i64 0), .c (.int .i64 (-1))], []⟩,
      ⟨none, (some 15), .call true 338 [.t 12, .t 14], []⟩,
      ⟨none, (some 2), .stV 2 none 12 (.t 15), []⟩])
    .ret))
def c452 : Fn := { np := 1, nt := 16, kind := .pure, res := [.v 2 12 true], body := k452 }

/- spec.l01Grow -/
def b453_1 : Cd :=
  (.seq
   (.seq
    (.reg [16] [
      ⟨none, (some 13), .mov (.t 5), []⟩,
      ⟨none, (some 14), .mov (.t 4), []⟩,
      ⟨none, (some 15), .len (.t 14), []⟩,
      ⟨none, (some 16), .bin .lss (.t 13) (.t 15), []⟩])
    (.cond (.t 16)
     .skip
     (.exit 0)))
   (.seq
    (.block 1
     (.seq
      (.reg [6] [
        ⟨none, (some 19), .mov (.t 4), []⟩,
        ⟨none, (some 20), .mov (.t 5), []⟩,
        ⟨none, (some 21), .idxA 2 (.t 19) (.t 20), []⟩,
        ⟨none, (some 22), .fldP 0 (.t 21), []⟩,
        ⟨none, (some 23), .ld 1 false (.t 22), []⟩,
        ⟨none, (some 24), .conv .i64 (.t 23), []⟩,
        ⟨none, (some 6), .mov (.t 24), []⟩])
      (.seq
       (.reg [7] [
         ⟨none, (some 25), .mov (.t 4), []⟩,
         ⟨none, (some 26), .mov (.t 5), []⟩,
         ⟨none, (some 27), .idxA 2 (.t 25) (.t 26), []⟩,
         ⟨none, (some 28), .fldP 1 (.t 27), []⟩,
         ⟨none, (some 29), .ld 1 false (.t 28), []⟩,
         ⟨none, (some 30), .conv .i64 (.t 29), []⟩,
         ⟨none, (some 7), .mov (.t 30), []⟩])
       (.seq
        (.reg [] [
          ⟨none, (some 31), .mov (.t 6), []⟩,
          ⟨none, (some 32), .bin .sub (.t 31) (.c (.int .i64 1)), []⟩,
          ⟨none, (some 33), .mov (.t 7), []⟩,
          ⟨none, (some 34), .call false 305 [.t 3, .t 32, .t 33], []⟩])
        (.seq
         (.reg [] [
           ⟨none, (some 35), .mov (.t 6), []⟩,
           ⟨none, (some 36), .bin .add (.t 35) (.c (.int .i64 1)), []⟩,
           ⟨none, (some 37), .mov (.t 7), []⟩,
           ⟨none, (some 38), .call false 305 [.t 3, .t 36, .t 37], []⟩])
         (.seq
          (.reg [] [
            ⟨none, (some 39), .mov (.t 6), []⟩,
            ⟨none, (some 40), .mov (.t 7), []⟩,
            ⟨none, (some 41), .bin .sub (.t 40) (.c (.int .i64 1)), []⟩,
            ⟨none, (some 42), .call false 305 [.t 3, .t 39, .t 41], []⟩])
          (.reg [] [
            ⟨none, (some 43), .mov (.t 6), []⟩,
            ⟨none, (some 44), .mov (.t 7), []⟩,
            ⟨none, (some 45), .bin .add (.t 44) (.c (.int .i64 1)), []⟩,
            ⟨none, (some 46), .call false 305 [.t 3, .t 43, .t 45], []⟩])))))))
    (.reg [5] [
      ⟨none, (some 17), .mov (.t 5), []⟩,
      ⟨none, (some 18), .bin .add (.t 17) (.c (.int .i64 1)), []⟩,
      ⟨none, (some 5), .mov (.t 18), []⟩])))
def k453 : Cd :=
  (.seq
   (.reg [2] [
     ⟨none, (some 2), .zero true (zs 12 (.int .u16 0)), []⟩])
   (.seq
    (.reg [3] [
      ⟨none, (some 8), .mov (.t 0), []⟩,
      ⟨none, (some 9), .nil (.t 8), []⟩,
      ⟨none, (some 10), .ld 12 true (.t 9), []⟩,
      ⟨none, (some 3), .new 1 (zs 12 (.int .u16 0)), []⟩,
      ⟨none, none, .st 12 (.t 3) (.t 10), []⟩])
    (.seq
     (.reg [4] [
       ⟨none, (some 11), .mov (.t 0), []⟩,
       ⟨none, (some 12), .call true 440 [.t 11], []⟩,
       ⟨none, (some 4), .mov (.t 12), []⟩])
     (.seq
      (.seq
       (.reg [5] [
         ⟨none, (some 5), .mov (.c (.int .i64 0)), []⟩])
       (.block 0
        (.loop b453_1)))
      (.seq
       (.reg [2] [
         ⟨none, (some 47), .ld 12 true (.t 3), []⟩,
         ⟨none, (some 2), .stV 2 none 12 (.t 47), []⟩])
       .ret)))))
def c453 : Fn := { np := 1, nt := 48, kind := .pure, res := [.v 2 12 true], body := k453 }

/- impl.ShrinkFrame$1 -/
def k454 : Cd :=
  (.seq
   (.reg [5] [
     ⟨none, (some 5), .mov (.c (.bool false)), []⟩])
   (.seq
    (.reg [5] [
      ⟨none, (some 6), .mov (.t 0), []⟩,
      ⟨none, (some 7), .mov (.t 1), []⟩,
      ⟨none, (some 8), .call true 345 [.t 6, .t 7], []⟩,
      ⟨none, (some 9), .un .not (.t 8), []⟩,
      ⟨none, (some 10), .mov (.t 9), []⟩,
      ⟨(some (10, false)), (some 11), .ld 12 true (.t 2), []⟩,
      ⟨(some (10, false)), (some 12), .mov (.t 0), []⟩,
      ⟨(some (10, false)), (some 13), .mov (.t 1), []⟩,
      ⟨(some (10, false)), (some 14), .call true 395 [.t 11, .t 12, .t 13], []⟩,
      ⟨none, (some 15), .pick (.t 10) (.c (.bool true)) (.t 14), []⟩,
      ⟨none, (some 5), .mov (.t 15), []⟩])
    .ret))
def c454 : Fn := { np := 3, nt := 16, kind := .pure, res := [.t 5], body := k454 }

/- impl.ShrinkFrame$2 -/
def k455 : Cd :=
  (.seq
   (.reg [6] [
     ⟨none, (some 6), .mov (.c (.bool false)), []⟩])
   (.seq
    (.reg [6] [
      ⟨none, (some 7), .ld 12 true (.t 2), []⟩,
      ⟨none, (some 8), .mov (.t 0), []⟩,
      ⟨none, (some 9), .mov (.t 1), []⟩,
      ⟨none, (some 10), .call true 395 [.t 7, .t 8, .t 9], []⟩,
      ⟨none, (some 11), .mov (.t 10), []⟩,
      ⟨(some (11, true)), (some 12), .ld 1 false (.t 3), []⟩,
      ⟨(some (11, true)), (some 13), .mov (.t 0), []⟩,
      ⟨(some (11, true)), (some 14), .bin .add (.t 13) (.c (.int .i64 1)), []⟩,
      ⟨(some (11, true)), (some 15), .mov (.t 1), []⟩,
      ⟨(some (11, true)), (some 16), .callv (.t 12) [.t 14, .t 15], []⟩,
      ⟨none, (some 17), .pick (.t 11) (.t 16) (.c (.bool false)), []⟩,
      ⟨none, (some 18), .mov (.t 17), []⟩,
      ⟨(some (18, true)), (some 19), .ld 1 false (.t 3), []⟩,
      ⟨(some (18, true)), (some 20), .mov (.t 0), []⟩,
      ⟨(some (18, true)), (some 21), .bin .sub (.t 20) (.c (.int .i64 1)), []⟩,
      ⟨(some (18, true)), (some 22), .mov (.t 1), []⟩,
      ⟨(some (18, true)), (some 23), .callv (.t 19) [.t 21, .t 22], []⟩,
      ⟨none, (some 24), .pick (.t 18) (.t 23) (.c (.bool false)), []⟩,
      ⟨none, (some 25), .mov (.t 24), []⟩,
      ⟨(some (25, true)), (some 26), .ld 1 false (.t 3), []⟩,
      ⟨(some (25, true)), (some 27), .mov (.t 0), []⟩,
      ⟨(some (25, true)), (some 28), .mov (.t 1), []⟩,
      ⟨(some (25, true)), (some 29), .bin .add (.t 28) (.c (.int .i64 1)), []⟩,
      ⟨(some (25, true)), (some 30), .callv (.t 26) [.t 27, .t 29], []⟩,
      ⟨none, (some 31), .pick (.t 25) (.t 30) (.c (.bool false)), []⟩,
      ⟨none, (some 32), .mov (.t 31), []⟩,
      ⟨(some (32, true)), (some 33), .ld 1 false (.t 3), []⟩,
      ⟨(some (32, true)), (some 34), .mov (.t 0), []⟩,
      ⟨(some (32, true)), (some 35), .mov (.t 1), []⟩,
      ⟨(some (32, true)), (some 36), .bin .sub (.t 35) (.c (.int .i64 1)), []⟩,
      ⟨(some (32, true)), (some 37), .callv (.t 33) [.t 34, .t 36], []⟩,
      ⟨none, (some 38), .pick (.t 32) (.t 37) (.c (.bool false)), []⟩,
      ⟨none, (some 6), .mov (.t 38), []⟩])
    .ret))
def c455 : Fn := { np := 4, nt := 39, kind := .pure, res := [.t 6], body := k455 }

/- spec.l01Has -/
def k456 : Cd :=
  (.seq
   (.reg [6] [
     ⟨none, (some 6), .mov (.c (.bool false)), []⟩])
   (.seq
    (.reg [6] [
      ⟨none, (some 7), .mov (.t 1), []⟩,
      ⟨none, (some 8), .mov (.t 2), []⟩,
      ⟨none, (some 9), .call true 342 [.t 7, .t 8], []⟩,
      ⟨none, (some 10), .mov (.t 9), []⟩,
      ⟨(some (10, true)), (some 11), .mov (.t 0), []⟩,
      ⟨(some (10, true)), (some 12), .mov (.t 2), []⟩,
      ⟨(some (10, true)), (some 13), .nil (.t 11), []⟩,
      ⟨(some (10, true)), (some 14), .idxP 12 1 (.t 13) (.t 12), []⟩,
      ⟨(some (10, true)), (some 15), .ld 1 false (.t 14), []⟩,
      ⟨(some (10, true)), (some 16), .mov (.t 1), []⟩,
      ⟨(some (10, true)), (some 17), .conv .u64 (.t 16), []⟩,
      ⟨(some (10, true)), (some 18), .bin .shr (.t 15) (.t 17), []⟩,
      ⟨(some (10, true)), (some 19), .bin .rem (.t 18) (.c (.int .u16 2)), []⟩,
      ⟨(some (10, true)), (some 20), .bin .eql (.t 19) (.c (.int .u16 1)), []⟩,
      ⟨none, (some 21), .pick (.t 10) (.t 20) (.c (.bool false)), []⟩,
      ⟨none, (some 6), .mov (.t 21), []⟩])
    .ret))
def c456 : Fn := { np := 3, nt := 22, kind := .pure, res := [.t 6], body := k456 }

/- spec.l01Box -/
def b457_1 : Cd :=
  (.seq
   (.seq
    (.reg [19] [
      ⟨none, (some 16), .mov (.t 7), []⟩,
      ⟨none, (some 17), .mov (.t 4), []⟩,
      ⟨none, (some 18), .len (.t 17), []⟩,
      ⟨none, (some 19), .bin .lss (.t 16) (.t 18), []⟩])
    (.cond (.t 19)
     .skip
     (.exit 0)))
   (.seq
    (.block 1
     (.seq
      (.reg [5] [
        ⟨none, (some 22), .mov (.t 5), []⟩,
        ⟨none, (some 23), .mov (.t 4), []⟩,
        ⟨none, (some 24), .mov (.t 7), []⟩,
        ⟨none, (some 25), .idxA 2 (.t 23) (.t 24), []⟩,
        ⟨none, (some 26), .fldP 0 (.t 25), []⟩,
        ⟨none, (some 27), .ld 1 false (.t 26), []⟩,
        ⟨none, (some 28), .conv .i64 (.t 27), []⟩,
        ⟨none, (some 29), .call true 511 [.t 22, .t 28], []⟩,
        ⟨none, (some 5), .mov (.t 29), []⟩])
      (.reg [6] [
        ⟨none, (some 30), .mov (.t 6), []⟩,
        ⟨none, (some 31), .mov (.t 4), []⟩,
        ⟨none, (some 32), .mov (.t 7), []⟩,
        ⟨none, (some 33), .idxA 2 (.t 31) (.t 32), []⟩,
        ⟨none, (some 34), .fldP 0 (.t 33), []⟩,
        ⟨none, (some 35), .ld 1 false (.t 34), []⟩,
        ⟨none, (some 36), .conv .i64 (.t 35), []⟩,
        ⟨none, (some 37), .call true 549 [.t 30, .t 36], []⟩,
        ⟨none, (some 6), .mov (.t 37), []⟩])))
    (.reg [7] [
      ⟨none, (some 20), .mov (.t 7), []⟩,
      ⟨none, (some 21), .bin .add (.t 20) (.c (.int .i64 1)), []⟩,
      ⟨none, (some 7), .mov (.t 21), []⟩])))
def k457 : Cd :=
  (.seq
   (.reg [2, 3] [
     ⟨none, (some 2), .zero true (zs 4 (.int .i8 0)), []⟩,
     ⟨none, (some 3), .mov (.c (.bool false)), []⟩])
   (.seq
    (.reg [4] [
      ⟨none, (some 10), .mov (.t 0), []⟩,
      ⟨none, (some 11), .call true 440 [.t 10], []⟩,
      ⟨none, (some 4), .mov (.t 11), []⟩])
    (.seq
     (.seq
      (.reg [14] [
        ⟨none, (some 12), .mov (.t 4), []⟩,
        ⟨none, (some 13), .len (.t 12), []⟩,
        ⟨none, (some 14), .bin .eql (.t 13) (.c (.int .i64 0)), []⟩])
      (.cond (.t 14)
       (.seq
        (.reg [2, 3] [
          ⟨none, (some 15), .agg (zs 4 (.int .i8 0)) [], []⟩,
          ⟨none, (some 2), .stV 2 none 4 (.t 15), []⟩,
          ⟨none, (some 3), .mov (.c (.bool false)), []⟩])
        .ret)
       .skip))
     (.seq
      (.reg [5] [
        ⟨none, (some 5), .mov (.c (.int .i64 12)), []⟩])
      (.seq
       (.reg [6] [
         ⟨none, (some 6), .mov (.c (.int .i64 0)), []⟩])
       (.seq
        (.seq
         (.reg [7] [
           ⟨none, (some 7), .mov (.c (.int .i64 0)), []⟩])
         (.block 0
          (.loop b457_1)))
        (.seq
         (.reg [8] [
           ⟨none, (some 38), .mov (.t 4), []⟩,
           ⟨none, (some 39), .idxA 2 (.t 38) (.c (.int .i64 0)), []⟩,
           ⟨none, (some 40), .fldP 1 (.t 39), []⟩,
           ⟨none, (some 41), .ld 1 false (.t 40), []⟩,
           ⟨none, (some 42), .conv .i64 (.t 41), []⟩,
           ⟨none, (some 8), .mov (.t 42), []⟩])
         (.seq
          (.reg [9] [
            ⟨none, (some 43), .mov (.t 4), []⟩,
            ⟨none, (some 44), .mov (.t 4), []⟩,
            ⟨none, (some 45), .len (.t 44), []⟩,
            ⟨none, (some 46), .bin .sub (.t 45) (.c (.int .i64 1)), []⟩,
            ⟨none, (some 47), .idxA 2 (.t 43) (.t 46), []⟩,
            ⟨none, (some 48), .fldP 1 (.t 47), []⟩,
            ⟨none, (some 49), .ld 1 false (.t 48), []⟩,
            ⟨none, (some 50), .conv .i64 (.t 49), []⟩,
            ⟨none, (some 9), .mov (.t 50), []⟩])
          (.seq
           (.reg [2, 3] [
             ⟨none, (some 51), .mov (.t 5), []⟩,
             ⟨none, (some 52), .conv .i8 (.t 51), []⟩,
             ⟨none, (some 53), .mov (.t 8), []⟩,
             ⟨none, (some 54), .conv .i8 (.t 53), []⟩,
             ⟨none, (some 55), .mov (.t 6), []⟩,
             ⟨none, (some 56), .mov (.t 5), []⟩,
             ⟨none, (some 57), .bin .sub (.t 55) (.t 56), []⟩,
             ⟨none, (some 58), .bin .add (.t 57) (.c (.int .i64 1)), []⟩,
             ⟨none, (some 59), .conv .i8 (.t 58), []⟩,
             ⟨none, (some 60), .mov (.t 9), []⟩,
             ⟨none, (some 61), .mov (.t 8), []⟩,
             ⟨none, (some 62), .bin .sub (.t 60) (.t 61), []⟩,
             ⟨none, (some 63), .bin .add (.t 62) (.c (.int .i64 1)), []⟩,
             ⟨none, (some 64), .conv .i8 (.t 63), []⟩,
             ⟨none, (some 65), .agg (zs 4 (.int .i8 0)) [(0, 1, (.t 52)), (1, 1, (.t 54)), (2, 1, (.t 59)), (3, 1, (.t 64))], []⟩,
             ⟨none, (some 2), .stV 2 none 4 (.t 65), []⟩,
             ⟨none, (some 3), .mov (.c (.bool true)), []⟩])
           .ret)))))))))
def c457 : Fn := { np := 1, nt := 66, kind := .pure, res := [.v 2 4 true, .t 3], body := k457 }

/- impl.CutBox$1 -/
def k458 : Cd :=
  (.seq
   (.reg [9] [
     ⟨none, (some 9), .mov (.c (.bool false)), []⟩])
   (.seq
    (.reg [9] [
      ⟨none, (some 10), .ld 12 true (.t 2), []⟩,
      ⟨none, (some 11), .mov (.t 0), []⟩,
      ⟨none, (some 12), .mov (.t 1), []⟩,
      ⟨none, (some 13), .call true 395 [.t 10, .t 11, .t 12], []⟩,
      ⟨none, (some 14), .mov (.t 13), []⟩,
      ⟨(some (14, true)), (some 15), .mov (.t 0), []⟩,
      ⟨(some (14, true)), (some 16), .ld 1 false (.t 3), []⟩,
      ⟨(some (14, true)), (some 17), .ld 1 false (.t 4), []⟩,
      ⟨(some (14, true)), (some 18), .call true 295 [.t 15, .t 16, .t 17], []⟩,
      ⟨none, (some 19), .pick (.t 14) (.t 18) (.c (.bool false)), []⟩,
      ⟨none, (some 20), .mov (.t 19), []⟩,
      ⟨(some (20, true)), (some 21), .mov (.t 1), []⟩,
      ⟨(some (20, true)), (some 22), .ld 1 false (.t 5), []⟩,
      ⟨(some (20, true)), (some 23), .ld 1 false (.t 6), []⟩,
      ⟨(some (20, true)), (some 24), .call true 295 [.t 21, .t 22, .t 23], []⟩,
      ⟨none, (some 25), .pick (.t 20) (.t 24) (.c (.bool false)), []⟩,
      ⟨none, (some 9), .mov (.t 25), []⟩])
    .ret))
def c458 : Fn := { np := 7, nt := 26, kind := .pure, res := [.t 9], body := k458 }

/- (*spec.l00Src).pick -/
def k459 : Cd :=
  (.seq
   (.reg [4] [
     ⟨none, (some 4), .mov (.c (.int .i64 0)), []⟩])
   (.seq
    (.seq
     (.reg [7] [
       ⟨none, (some 6), .mov (.t 1), []⟩,
       ⟨none, (some 7), .bin .leq (.t 6) (.c (.int .i64 1)), []⟩])
     (.cond (.t 7)
      (.seq
       (.reg [4] [
         ⟨none, (some 4), .mov (.c (.int .i64 0)), []⟩])
       .ret)
      .skip))
    (.seq
     (.reg [5] [
       ⟨none, (some 8), .mov (.t 0), []⟩,
       ⟨none, (some 9), .call false 550 [.t 8], []⟩,
       ⟨none, (some 5), .mov (.t 9), []⟩])
     (.seq
      (.seq
       (.reg [11] [
         ⟨none, (some 10), .mov (.t 1), []⟩,
         ⟨none, (some 11), .bin .gtr (.t 10) (.c (.int .i64 200)), []⟩])
       (.cond (.t 11)
        (.reg [5] [
          ⟨none, (some 12), .mov (.t 5), []⟩,
          ⟨none, (some 13), .bin .mul (.t 12) (.c (.int .i64 256)), []⟩,
          ⟨none, (some 14), .mov (.t 0), []⟩,
          ⟨none, (some 15), .call false 550 [.t 14], []⟩,
          ⟨none, (some 16), .bin .add (.t 13) (.t 15), []⟩,
          ⟨none, (some 5), .mov (.t 16), []⟩])
        .skip))
      (.seq
       (.reg [4] [
         ⟨none, (some 17), .mov (.t 5), []⟩,
         ⟨none, (some 18), .mov (.t 1), []⟩,
         ⟨none, (some 19), .bin .rem (.t 17) (.t 18), []⟩,
         ⟨none, (some 4), .mov (.t 19), []⟩])
       .ret)))))
def c459 : Fn := { np := 2, nt := 20, kind := .args, res := [.t 4], body := k459 }

/- slices.IndexFunc[[]impl.Frame,impl.Frame] -/
def b474_1 : Cd :=
  (.seq
   (.reg [9] [
     ⟨none, (some 9), .bin .lss (.t 8) (.t 7), []⟩])
   (.seq
    (.cond (.t 9)
     .skip
     (.exit 0))
    (.seq
     (.block 1
      (.seq
       (.reg [5] [
         ⟨none, (some 10), .mov (.t 8), []⟩,
         ⟨none, (some 5), .mov (.t 10), []⟩])
       (.seq
        (.reg [16] [
          ⟨none, (some 11), .mov (.t 1), []⟩,
          ⟨none, (some 12), .mov (.t 0), []⟩,
          ⟨none, (some 13), .mov (.t 5), []⟩,
          ⟨none, (some 14), .idxA 12 (.t 12) (.t 13), []⟩,
          ⟨none, (some 15), .ld 12 true (.t 14), []⟩,
          ⟨none, (some 16), .callv (.t 11) [.t 15], []⟩])
        (.cond (.t 16)
         (.seq
          (.reg [4] [
            ⟨none, (some 17), .mov (.t 5), []⟩,
            ⟨none, (some 4), .mov (.t 17), []⟩])
          .ret)
         .skip))))
     (.reg [8] [
       ⟨none, (some 18), .bin .add (.t 8) (.c (.int .i64 1)), []⟩,
       ⟨none, (some 8), .mov (.t 18), []⟩]))))
def k474 : Cd :=
  (.seq
   (.reg [4] [
     ⟨none, (some 4), .mov (.c (.int .i64 0)), []⟩])
   (.seq
    (.seq
     (.reg [7, 8] [
       ⟨none, (some 6), .mov (.t 0), []⟩,
       ⟨none, (some 7), .len (.t 6), []⟩,
       ⟨none, (some 8), .mov (.c (.int .i64 0)), []⟩])
     (.block 0
      (.loop b474_1)))
    (.seq
     (.reg [4] [
       ⟨none, (some 4), .mov (.c (.int .i64 (-1))), []⟩])
     .ret)))
def c474 : Fn := { np := 2, nt := 19, kind := .pure, res := [.t 4], body := k474 }

/- (impl.Frame).join$1 -/
def k502 : Cd :=
  (.seq
   (.reg [4] [
     ⟨none, (some 4), .mov (.c (.int .u16 0)), []⟩])
   (.seq
    (.reg [4] [
      ⟨none, (some 5), .mov (.t 0), []⟩,
      ⟨none, (some 6), .mov (.t 1), []⟩,
      ⟨none, (some 7), .bin .or (.t 5) (.t 6), []⟩,
      ⟨none, (some 4), .mov (.t 7), []⟩])
    .ret))
def c502 : Fn := { np := 2, nt := 8, kind := .pure, res := [.t 4], body := k502 }

/- (impl.Frame).meet$1 -/
def k503 : Cd :=
  (.seq
   (.reg [4] [
     ⟨none, (some 4), .mov (.c (.int .u16 0)), []⟩])
   (.seq
    (.reg [4] [
      ⟨none, (some 5), .mov (.t 0), []⟩,
      ⟨none, (some 6), .mov (.t 1), []⟩,
      ⟨none, (some 7), .bin .and (.t 5) (.t 6), []⟩,
      ⟨none, (some 4), .mov (.t 7), []⟩])
    .ret))
def c503 : Fn := { np := 2, nt := 8, kind := .pure, res := [.t 4], body := k503 }

/- (impl.Frame).less$1 -/
def k504 : Cd :=
  (.seq
   (.reg [4] [
     ⟨none, (some 4), .mov (.c (.int .u16 0)), []⟩])
   (.seq
    (.reg [4] [
      ⟨none, (some 5), .mov (.t 0), []⟩,
      ⟨none, (some 6), .mov (.t 1), []⟩,
      ⟨none, (some 7), .bin .andNot (.t 5) (.t 6), []⟩,
      ⟨none, (some 4), .mov (.t 7), []⟩])
    .ret))
def c504 : Fn := { np := 2, nt := 8, kind := .pure, res := [.t 4], body := k504 }

/- slices.ContainsFunc[[]impl.Frame,impl.Frame] -/
def k505 : Cd :=
  (.seq
   (.reg [4] [
     ⟨none, (some 4), .mov (.c (.bool false)), []⟩])
   (.seq
    (.reg [4] [
      ⟨none, (some 5), .mov (.t 0), []⟩,
      ⟨none, (some 6), .mov (.t 1), []⟩,
      ⟨none, (some 7), .call true 474 [.t 5, .t 6], []⟩,
      ⟨none, (some 8), .bin .geq (.t 7) (.c (.int .i64 0)), []⟩,
      ⟨none, (some 4), .mov (.t 8), []⟩])
    .ret))
def c505 : Fn := { np := 2, nt := 9, kind := .pure, res := [.t 4], body := k505 }

/- impl.areFrames$1 -/
def k506 : Cd :=
  (.seq
   (.reg [1, 2] [
     ⟨none, (some 1), .mov (.t 0), []⟩,
     ⟨none, (some 2), .mov (.c (.bool false)), []⟩])
   (.seq
    (.reg [2] [
      ⟨none, (some 3), .ldV 1 none 12 true, []⟩,
      ⟨none, (some 4), .call true 234 [.t 3], []⟩,
      ⟨none, (some 5), .un .not (.t 4), []⟩,
      ⟨none, (some 2), .mov (.t 5), []⟩])
    .ret))
def c506 : Fn := { np := 1, nt := 6, kind := .pure, res := [.t 2], body := k506 }

/- spec.l00Min -/
def k511 : Cd :=
  (.seq
   (.reg [4] [
     ⟨none, (some 4), .mov (.c (.int .i64 0)), []⟩])
   (.seq
    (.seq
     (.reg [7] [
       ⟨none, (some 5), .mov (.t 0), []⟩,
       ⟨none, (some 6), .mov (.t 1), []⟩,
       ⟨none, (some 7), .bin .lss (.t 5) (.t 6), []⟩])
     (.cond (.t 7)
      (.seq
       (.reg [4] [
         ⟨none, (some 8), .mov (.t 0), []⟩,
         ⟨none, (some 4), .mov (.t 8), []⟩])
       .ret)
      .skip))
    (.seq
     (.reg [4] [
       ⟨none, (some 9), .mov (.t 1), []⟩,
       ⟨none, (some 4), .mov (.t 9), []⟩])
     .ret)))
def c511 : Fn := { np := 2, nt := 10, kind := .pure, res := [.t 4], body := k511 }

/- (impl.Frame).differ$1 -/
def k512 : Cd :=
  (.seq
   (.reg [4] [
     ⟨none, (some 4), .mov (.c (.int .u16 0)), []⟩])
   (.seq
    (.reg [4] [
      ⟨none, (some 5), .mov (.t 0), []⟩,
      ⟨none, (some 6), .mov (.t 1), []⟩,
      ⟨none, (some 7), .bin .xor (.t 5) (.t 6), []⟩,
      ⟨none, (some 4), .mov (.t 7), []⟩])
    .ret))
def c512 : Fn := { np := 2, nt := 8, kind := .pure, res := [.t 4], body := k512 }

/- (*spec.l00Src).one -/
def k513 : Cd :=
  (.seq
   (.reg [4] [
     ⟨none, (some 4), .mov (.c (.bool false)), []⟩])
   (.seq
    (.reg [4] [
      ⟨none, (some 5), .mov (.t 0), []⟩,
      ⟨none, (some 6), .mov (.t 1), []⟩,
      ⟨none, (some 7), .call false 459 [.t 5, .t 6], []⟩,
      ⟨none, (some 8), .bin .eql (.t 7) (.c (.int .i64 0)), []⟩,
      ⟨none, (some 4), .mov (.t 8), []⟩])
    .ret))
def c513 : Fn := { np := 2, nt := 9, kind := .args, res := [.t 4], body := k513 }

/- math/bits.OnesCount16 -/
def k530 : Cd :=
  (.seq
   (.reg [2] [
     ⟨none, (some 2), .mov (.c (.int .i64 0)), []⟩])
   (.seq
    (.reg [2] [
      ⟨none, (some 3), .mov (.t 0), []⟩,
      ⟨none, (some 4), .bin .shr (.t 3) (.c (.int .u64 8)), []⟩,
      ⟨none, (some 5), .idxs (.c (.string ⟨#[0, 1, 1, 2, 1, 2, 2, 3, 1, 2, 2, 3, 2, 3, 3, 4, 1, 2, 2, 3, 2, 3, 3, 4, 2, 3, 3, 4, 3, 4, 4, 5, 1, 2, 2, 3, 2, 3, 3, 4, 2, 3, 3, 4, 3, 4, 4, 5, 2, 3, 3, 4, 3, 4, 4, 5, 3, 4, 4, 5, 4, 5, 5, 6, 1, 2, 2, 3, 2, 3, 3, 4, 2, 3, 3, 4, 3, 4, 4, 5, 2, 3, 3, 4, 3, 4, 4, 5, 3, 4, 4, 5, 4, 5, 5, 6, 2, 3, 3, 4, 3, 4, 4, 5, 3, 4, 4, 5, 4, 5, 5, 6, 3, 4, 4, 5, 4, 5, 5, 6, 4, 5, 5, 6, 5, 6, 6, 7, 1, 2, 2, 3, 2, 3, 3, 4, 2, 3, 3, 4, 3, 4, 4, 5, 2, 3, 3, 4, 3, 4, 4, 5, 3, 4, 4, 5, 4, 5, 5, 6, 2, 3, 3, 4, 3, 4, 4, 5, 3, 4, 4, 5, 4, 5, 5, 6, 3, 4, 4, 5, 4, 5, 5, 6, 4, 5, 5, 6, 5, 6, 6, 7, 2, 3, 3, 4, 3, 4, 4, 5, 3, 4, 4, 5, 4, 5, 5, 6, 3, 4, 4, 5, 4, 5, 5, 6, 4, 5, 5, 6, 5, 6, 6, 7, 3, 4, 4, 5, 4, 5, 5, 6, 4, 5, 5, 6, 5, 6, 6, 7, 4, 5, 5, 6, 5, 6, 6, 7, 5, 6, 6, 7, 6, 7, 7, 8]⟩)) (.t 4), []⟩,
      ⟨none, (some 6), .mov (.t 0), []⟩,
      ⟨none, (some 7), .bin .and (.t 6) (.c (.int .u16 255)), []⟩,
      ⟨none, (some 8), .idxs (.c (.string ⟨#[0, 1, 1, 2, 1, 2, 2, 3, 1, 2, 2, 3, 2, 3, 3, 4, 1, 2, 2, 3, 2, 3, 3, 4, 2, 3, 3, 4, 3, 4, 4, 5, 1, 2, 2, 3, 2, 3, 3, 4, 2, 3, 3, 4, 3, 4, 4, 5, 2, 3, 3, 4, 3, 4, 4, 5, 3, 4, 4, 5, 4, 5, 5, 6, 1, 2, 2, 3, 2, 3, 3, 4, 2, 3, 3, 4, 3, 4, 4, 5, 2, 3, 3, 4, 3, 4, 4, 5, 3, 4, 4, 5, 4, 5, 5, 6, 2, 3, 3, 4, 3, 4, 4, 5, 3, 4, 4, 5, 4, 5, 5, 6, 3, 4, 4, 5, 4, 5, 5, 6, 4, 5, 5, 6, 5, 6, 6, 7, 1, 2, 2, 3, 2, 3, 3, 4, 2, 3, 3, 4, 3, 4, 4, 5, 2, 3, 3, 4, 3, 4, 4, 5, 3, 4, 4, 5, 4, 5, 5, 6, 2, 3, 3, 4, 3, 4, 4, 5, 3, 4, 4, 5, 4, 5, 5, 6, 3, 4, 4, 5, 4, 5, 5, 6, 4, 5, 5, 6, 5, 6, 6, 7, 2, 3, 3, 4, 3, 4, 4, 5, 3, 4, 4, 5, 4, 5, 5, 6, 3, 4, 4, 5, 4, 5, 5, 6, 4, 5, 5, 6, 5, 6, 6, 7, 3, 4, 4, 5, 4, 5, 5, 6, 4, 5, 5, 6, 5, 6, 6, 7, 4, 5, 5, 6, 5, 6, 6, 7, 5, 6, 6, 7, 6, 7, 7, 8]⟩)) (.t 7), []⟩,
      ⟨none, (some 9), .bin .add (.t 5) (.t 8), []⟩,
      ⟨none, (some 10), .conv .i64 (.t 9), []⟩,
      ⟨none, (some 2), .mov (.t 10), []⟩])
    .ret))
def c530 : Fn := { np := 1, nt := 11, kind := .pure, res := [.t 2], body := k530 }

/- slices.IndexFunc[[]uint16,uint16] -/
def b547_1 : Cd :=
  (.seq
   (.reg [9] [
     ⟨none, (some 9), .bin .lss (.t 8) (.t 7), []⟩])
   (.seq
    (.cond (.t 9)
     .skip
     (.exit 0))
    (.seq
     (.block 1
      (.seq
       (.reg [5] [
         ⟨none, (some 10), .mov (.t 8), []⟩,
         ⟨none, (some 5), .mov (.t 10), []⟩])
       (.seq
        (.reg [16] [
          ⟨none, (some 11), .mov (.t 1), []⟩,
          ⟨none, (some 12), .mov (.t 0), []⟩,
          ⟨none, (some 13), .mov (.t 5), []⟩,
          ⟨none, (some 14), .idxA 1 (.t 12) (.t 13), []⟩,
          ⟨none, (some 15), .ld 1 false (.t 14), []⟩,
          ⟨none, (some 16), .callv (.t 11) [.t 15], []⟩])
        (.cond (.t 16)
         (.seq
          (.reg [4] [
            ⟨none, (some 17), .mov (.t 5), []⟩,
            ⟨none, (some 4), .mov (.t 17), []⟩])
          .ret)
         .skip))))
     (.reg [8] [
       ⟨none, (some 18), .bin .add (.t 8) (.c (.int .i64 1)), []⟩,
       ⟨none, (some 8), .mov (.t 18), []⟩]))))
def k547 : Cd :=
  (.seq
   (.reg [4] [
     ⟨none, (some 4), .mov (.c (.int .i64 0)), []⟩])
   (.seq
    (.seq
     (.reg [7, 8] [
       ⟨none, (some 6), .mov (.t 0), []⟩,
       ⟨none, (some 7), .len (.t 6), []⟩,
       ⟨none, (some 8), .mov (.c (.int .i64 0)), []⟩])
     (.block 0
      (.loop b547_1)))
    (.seq
     (.reg [4] [
       ⟨none, (some 4), .mov (.c (.int .i64 (-1))), []⟩])
     .ret)))
def c547 : Fn := { np := 2, nt := 19, kind := .pure, res := [.t 4], body := k547 }

/- spec.l01Blob -/
def b548_1 : Cd :=
  (.seq
   (.seq
    (.reg [16] [
      ⟨none, (some 15), .mov (.t 9), []⟩,
      ⟨none, (some 16), .bin .lss (.t 15) (.c (.int .i64 12)), []⟩])
    (.cond (.t 16)
     .skip
     (.exit 2)))
   (.seq
    (.block 3
     (.reg [8] [
       ⟨none, (some 19), .mov (.t 9), []⟩,
       ⟨none, (some 20), .mov (.t 9), []⟩,
       ⟨none, (some 21), .adrI 8 none 12 1 (.t 20), []⟩,
       ⟨none, (some 22), .ldV 8 (some 21) 1 false, []⟩,
       ⟨none, (some 23), .mov (.t 0), []⟩,
       ⟨none, (some 24), .mov (.t 9), []⟩,
       ⟨none, (some 25), .nil (.t 23), []⟩,
       ⟨none, (some 26), .idxP 12 1 (.t 25) (.t 24), []⟩,
       ⟨none, (some 27), .ld 1 false (.t 26), []⟩,
       ⟨none, (some 28), .bin .and (.t 22) (.t 27), []⟩,
       ⟨none, (some 29), .adrI 8 none 12 1 (.t 19), []⟩,
       ⟨none, (some 8), .stV 8 (some 29) 1 (.t 28), []⟩]))
    (.reg [9] [
      ⟨none, (some 17), .mov (.t 9), []⟩,
      ⟨none, (some 18), .bin .add (.t 17) (.c (.int .i64 1)), []⟩,
      ⟨none, (some 9), .mov (.t 18), []⟩])))
def b548_2 : Cd :=
  (.block 1
   (.seq
    (.reg [8] [
      ⟨none, (some 14), .call true 453 [.t 7], []⟩,
      ⟨none, (some 8), .zero true (zs 12 (.int .u16 0)), []⟩,
      ⟨none, (some 8), .stV 8 none 12 (.t 14), []⟩])
    (.seq
     (.seq
      (.reg [9] [
        ⟨none, (some 9), .mov (.c (.int .i64 0)), []⟩])
      (.block 2
       (.loop b548_1)))
     (.seq
      (.seq
       (.reg [32] [
         ⟨none, (some 30), .ldV 8 none 12 true, []⟩,
         ⟨none, (some 31), .ld 12 true (.t 7), []⟩,
         ⟨none, (some 32), .eq (.a (rb 12 (some .u16))) false (.t 30) (.t 31), []⟩])
       (.cond (.t 32)
        (.seq
         (.reg [6] [
           ⟨none, (some 33), .ld 12 true (.t 7), []⟩,
           ⟨none, (some 6), .stV 6 none 12 (.t 33), []⟩])
         .ret)
        .skip))
      (.reg [] [
        ⟨none, (some 34), .ldV 8 none 12 true, []⟩,
        ⟨none, none, .st 12 (.t 7) (.t 34), []⟩])))))
def k548 : Cd :=
  (.seq
   (.reg [6] [
     ⟨none, (some 6), .zero true (zs 12 (.int .u16 0)), []⟩])
   (.seq
    (.reg [7] [
      ⟨none, (some 10), .agg (zs 12 (.int .u16 0)) [], []⟩,
      ⟨none, (some 7), .new 1 (zs 12 (.int .u16 0)), []⟩,
      ⟨none, none, .st 12 (.t 7) (.t 10), []⟩])
    (.seq
     (.reg [] [
       ⟨none, (some 11), .mov (.t 1), []⟩,
       ⟨none, (some 12), .mov (.t 2), []⟩,
       ⟨none, (some 13), .call false 305 [.t 7, .t 11, .t 12], []⟩])
     (.block 0
      (.loop b548_2)))))
def c548 : Fn := { np := 3, nt := 35, kind := .pure, res := [.v 6 12 true], body := k548 }

/- spec.l00Max -/
def k549 : Cd :=
  (.seq
   (.reg [4] [
     ⟨none, (some 4), .mov (.c (.int .i64 0)), []⟩])
   (.seq
    (.seq
     (.reg [7] [
       ⟨none, (some 5), .mov (.t 0), []⟩,
       ⟨none, (some 6), .mov (.t 1), []⟩,
       ⟨none, (some 7), .bin .gtr (.t 5) (.t 6), []⟩])
     (.cond (.t 7)
      (.seq
       (.reg [4] [
         ⟨none, (some 8), .mov (.t 0), []⟩,
         ⟨none, (some 4), .mov (.t 8), []⟩])
       .ret)
      .skip))
    (.seq
     (.reg [4] [
       ⟨none, (some 9), .mov (.t 1), []⟩,
       ⟨none, (some 4), .mov (.t 9), []⟩])
     .ret)))
def c549 : Fn := { np := 2, nt := 10, kind := .pure, res := [.t 4], body := k549 }

/- (*spec.l00Src).next -/
def k550 : Cd :=
  (.seq
   (.reg [2] [
     ⟨none, (some 2), .mov (.c (.int .i64 0)), []⟩])
   (.seq
    (.reg [3] [
      ⟨none, (some 3), .mov (.c (.int .i64 0)), []⟩])
    (.seq
     (.seq
      (.reg [13] [
        ⟨none, (some 4), .mov (.t 0), []⟩,
        ⟨none, (some 5), .nil (.t 4), []⟩,
        ⟨none, (some 6), .fldP 1 (.t 5), []⟩,
        ⟨none, (some 7), .ld 1 false (.t 6), []⟩,
        ⟨none, (some 8), .mov (.t 0), []⟩,
        ⟨none, (some 9), .nil (.t 8), []⟩,
        ⟨none, (some 10), .fldP 0 (.t 9), []⟩,
        ⟨none, (some 11), .ld 1 false (.t 10), []⟩,
        ⟨none, (some 12), .len (.t 11), []⟩,
        ⟨none, (some 13), .bin .lss (.t 7) (.t 12), []⟩])
      (.cond (.t 13)
       (.reg [3] [
         ⟨none, (some 14), .mov (.t 0), []⟩,
         ⟨none, (some 15), .nil (.t 14), []⟩,
         ⟨none, (some 16), .fldP 0 (.t 15), []⟩,
         ⟨none, (some 17), .ld 1 false (.t 16), []⟩,
         ⟨none, (some 18), .mov (.t 0), []⟩,
         ⟨none, (some 19), .nil (.t 18), []⟩,
         ⟨none, (some 20), .fldP 1 (.t 19), []⟩,
         ⟨none, (some 21), .ld 1 false (.t 20), []⟩,
         ⟨none, (some 22), .idxA 1 (.t 17) (.t 21), []⟩,
         ⟨none, (some 23), .ld 1 false (.t 22), []⟩,
         ⟨none, (some 24), .conv .i64 (.t 23), []⟩,
         ⟨none, (some 3), .mov (.t 24), []⟩])
       .skip))
     (.seq
      (.reg [] [
        ⟨none, (some 25), .mov (.t 0), []⟩,
        ⟨none, (some 26), .nil (.t 25), []⟩,
        ⟨none, (some 27), .fldP 1 (.t 26), []⟩,
        ⟨none, (some 28), .ld 1 false (.t 27), []⟩,
        ⟨none, (some 29), .bin .add (.t 28) (.c (.int .i64 1)), []⟩,
        ⟨none, (some 30), .nil (.t 25), []⟩,
        ⟨none, (some 31), .fldP 1 (.t 30), []⟩,
        ⟨none, none, .st 1 (.t 31) (.t 29), []⟩])
      (.seq
       (.reg [] [
         ⟨none, (some 32), .mov (.t 0), []⟩,
         ⟨none, (some 33), .mov (.t 0), []⟩,
         ⟨none, (some 34), .nil (.t 33), []⟩,
         ⟨none, (some 35), .fldP 2 (.t 34), []⟩,
         ⟨none, (some 36), .ld 1 false (.t 35), []⟩,
         ⟨none, (some 37), .bin .mul (.t 36) (.c (.int .u64 6364136223846793005)), []⟩,
         ⟨none, (some 38), .mov (.t 3), []⟩,
         ⟨none, (some 39), .conv .u64 (.t 38), []⟩,
         ⟨none, (some 40), .bin .add (.t 37) (.t 39), []⟩,
         ⟨none, (some 41), .bin .add (.t 40) (.c (.int .u64 1442695040888963407)), []⟩,
         ⟨none, (some 42), .nil (.t 32), []⟩,
         ⟨none, (some 43), .fldP 2 (.t 42), []⟩,
         ⟨none, none, .st 1 (.t 43) (.t 41), []⟩])
       (.seq
        (.seq
         (.reg [53] [
           ⟨none, (some 44), .mov (.t 0), []⟩,
           ⟨none, (some 45), .nil (.t 44), []⟩,
           ⟨none, (some 46), .fldP 1 (.t 45), []⟩,
           ⟨none, (some 47), .ld 1 false (.t 46), []⟩,
           ⟨none, (some 48), .mov (.t 0), []⟩,
           ⟨none, (some 49), .nil (.t 48), []⟩,
           ⟨none, (some 50), .fldP 0 (.t 49), []⟩,
           ⟨none, (some 51), .ld 1 false (.t 50), []⟩,
           ⟨none, (some 52), .len (.t 51), []⟩,
           ⟨none, (some 53), .bin .leq (.t 47) (.t 52), []⟩])
         (.cond (.t 53)
          (.seq
           (.reg [2] [
             ⟨none, (some 54), .mov (.t 3), []⟩,
             ⟨none, (some 2), .mov (.t 54), []⟩])
           .ret)
          .skip))
        (.seq
         (.reg [2] [
           ⟨none, (some 55), .mov (.t 0), []⟩,
           ⟨none, (some 56), .nil (.t 55), []⟩,
           ⟨none, (some 57), .fldP 2 (.t 56), []⟩,
           ⟨none, (some 58), .ld 1 false (.t 57), []⟩,
           ⟨none, (some 59), .bin .shr (.t 58) (.c (.int .u64 40)), []⟩,
           ⟨none, (some 60), .bin .and (.t 59) (.c (.int .u64 255)), []⟩,
           ⟨none, (some 61), .conv .i64 (.t 60), []⟩,
           ⟨none, (some 2), .mov (.t 61), []⟩])
         .ret)))))))
def c550 : Fn := { np := 1, nt := 62, kind := .args, res := [.t 2], body := k550 }


end Fb
