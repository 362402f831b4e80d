/- The functions of the law, in the small language. -/
import Derived.Test.YtimijcjjmeemeaaGreatDoorDen
set_option linter.unusedVariables false
set_option linter.unusedSimpArgs false
namespace Fb
open Go

/- laws.FnSteps -/
def b60_1 : Cd :=
  (.seq
   (.seq
    (.reg [146] [
      ⟨none, (some 143), .mov (.t 22), []⟩,
      ⟨none, (some 144), .mov (.t 5), []⟩,
      ⟨none, (some 145), .len (.t 144), []⟩,
      ⟨none, (some 146), .bin .lss (.t 143) (.t 145), []⟩])
    (.cond (.t 146)
     .skip
     (.exit 0)))
   (.seq
    (.block 1
     (.seq
      (.reg [23, 24] [
        ⟨none, (some 150), .mov (.t 5), []⟩,
        ⟨none, (some 151), .mov (.t 22), []⟩,
        ⟨none, (some 152), .call true 185 [.t 150, .t 151], []⟩,
        ⟨none, (some 149), .mov (.t 152), []⟩,
        ⟨none, (some 153), .ext (.t 149) 0, []⟩,
        ⟨none, (some 154), .ext (.t 149) 1, []⟩,
        ⟨none, (some 23), .mov (.t 153), []⟩,
        ⟨none, (some 24), .mov (.t 154), []⟩])
      (.seq
       (.reg [25, 26] [
         ⟨none, (some 156), .mov (.t 5), []⟩,
         ⟨none, (some 157), .mov (.t 22), []⟩,
         ⟨none, (some 158), .call true 184 [.t 156, .t 157], []⟩,
         ⟨none, (some 155), .mov (.t 158), []⟩,
         ⟨none, (some 159), .ext (.t 155) 0, []⟩,
         ⟨none, (some 160), .ext (.t 155) 1, []⟩,
         ⟨none, (some 25), .mov (.t 159), []⟩,
         ⟨none, (some 26), .mov (.t 160), []⟩])
       (.seq
        (.reg [27, 28] [
          ⟨none, (some 162), .mov (.t 5), []⟩,
          ⟨none, (some 163), .mov (.t 22), []⟩,
          ⟨none, (some 164), .idxA 5 (.t 162) (.t 163), []⟩,
          ⟨none, (some 165), .ld 5 true (.t 164), []⟩,
          ⟨none, (some 166), .call true 82 [.t 165], []⟩,
          ⟨none, (some 161), .mov (.t 166), []⟩,
          ⟨none, (some 167), .ext (.t 161) 0, []⟩,
          ⟨none, (some 168), .ext (.t 161) 1, []⟩,
          ⟨none, (some 27), .mov (.t 167), []⟩,
          ⟨none, (some 28), .mov (.t 168), []⟩])
        (.seq
         (.seq
          (.reg [197] [
            ⟨none, (some 169), .mov (.t 24), []⟩,
            ⟨none, (some 170), .mov (.t 26), []⟩,
            ⟨none, (some 171), .bin .neq (.t 169) (.t 170), []⟩,
            ⟨none, (some 172), .mov (.t 171), []⟩,
            ⟨(some (172, false)), (some 173), .mov (.t 24), []⟩,
            ⟨(some (172, false)), (some 174), .bin .neq (.t 173) (.c (.int .i64 0)), []⟩,
            ⟨none, (some 175), .pick (.t 172) (.c (.bool true)) (.t 174), []⟩,
            ⟨none, (some 176), .mov (.t 175), []⟩,
            ⟨(some (176, false)), (some 177), .mov (.t 23), []⟩,
            ⟨(some (176, false)), (some 178), .mov (.t 25), []⟩,
            ⟨(some (176, false)), (some 179), .call true 262 [.t 177, .t 178], []⟩,
            ⟨(some (176, false)), (some 180), .un .not (.t 179), []⟩,
            ⟨none, (some 181), .pick (.t 176) (.c (.bool true)) (.t 180), []⟩,
            ⟨none, (some 182), .mov (.t 181), []⟩,
            ⟨(some (182, false)), (some 183), .mov (.t 28), []⟩,
            ⟨(some (182, false)), (some 184), .bin .neq (.t 183) (.c (.int .i64 0)), []⟩,
            ⟨none, (some 185), .pick (.t 182) (.c (.bool true)) (.t 184), []⟩,
            ⟨none, (some 186), .mov (.t 185), []⟩,
            ⟨(some (186, false)), (some 187), .mov (.t 25), []⟩,
            ⟨(some (186, false)), (some 188), .len (.t 187), []⟩,
            ⟨(some (186, false)), (some 189), .bin .eql (.t 188) (.c (.int .i64 0)), []⟩,
            ⟨none, (some 190), .pick (.t 186) (.c (.bool true)) (.t 189), []⟩,
            ⟨none, (some 191), .mov (.t 190), []⟩,
            ⟨(some (191, false)), (some 192), .mov (.t 25), []⟩,
            ⟨(some (191, false)), (some 193), .idxA 1 (.t 192) (.c (.int .i64 0)), []⟩,
            ⟨(some (191, false)), (some 194), .ld 1 false (.t 193), []⟩,
            ⟨(some (191, false)), (some 195), .mov (.t 22), []⟩,
            ⟨(some (191, false)), (some 196), .bin .neq (.t 194) (.t 195), []⟩,
            ⟨none, (some 197), .pick (.t 191) (.c (.bool true)) (.t 196), []⟩])
          (.cond (.t 197)
           (.seq
            (.reg [4] [
              ⟨none, (some 4), .mov (.c (.bool false)), []⟩])
            .ret)
           .skip))
         (.seq
          (.reg [200] [
            ⟨none, (some 198), .mov (.t 25), []⟩,
            ⟨none, (some 199), .mov (.t 16), []⟩,
            ⟨none, (some 200), .call true 265 [.t 198, .t 199], []⟩])
          (.cond (.t 200)
           (.reg [21] [
             ⟨none, (some 201), .mov (.t 21), []⟩,
             ⟨none, (some 202), .mov (.t 27), []⟩,
             ⟨none, (some 203), .bin .add (.t 201) (.t 202), []⟩,
             ⟨none, (some 21), .mov (.t 203), []⟩])
           .skip)))))))
    (.reg [22] [
      ⟨none, (some 147), .mov (.t 22), []⟩,
      ⟨none, (some 148), .bin .add (.t 147) (.c (.int .i64 1)), []⟩,
      ⟨none, (some 22), .mov (.t 148), []⟩])))
def k60 : Cd :=
  (.seq
   (.reg [4] [
     ⟨none, (some 4), .mov (.c (.bool false)), []⟩])
   (.seq
    (.seq
     (.reg [41] [
       ⟨none, (some 36), .mov (.t 0), []⟩,
       ⟨none, (some 37), .call true 169 [.t 36], []⟩,
       ⟨none, (some 38), .mov (.t 37), []⟩,
       ⟨(some (38, false)), (some 39), .mov (.t 1), []⟩,
       ⟨(some (38, false)), (some 40), .call true 169 [.t 39], []⟩,
       ⟨none, (some 41), .pick (.t 38) (.c (.bool true)) (.t 40), []⟩])
     (.cond (.t 41)
      (.seq
       (.reg [4] [
         ⟨none, (some 4), .mov (.c (.bool true)), []⟩])
       .ret)
      .skip))
    (.seq
     (.reg [5] [
       ⟨none, (some 42), .mov (.t 0), []⟩,
       ⟨none, (some 43), .call true 274 [.t 42], []⟩,
       ⟨none, (some 5), .mov (.t 43), []⟩])
     (.seq
      (.reg [6, 7] [
        ⟨none, (some 45), .mov (.t 5), []⟩,
        ⟨none, (some 46), .call true 271 [.t 45], []⟩,
        ⟨none, (some 47), .call true 290 [.t 46], []⟩,
        ⟨none, (some 44), .mov (.t 47), []⟩,
        ⟨none, (some 48), .ext (.t 44) 0, []⟩,
        ⟨none, (some 49), .ext (.t 44) 1, []⟩,
        ⟨none, (some 6), .mov (.t 48), []⟩,
        ⟨none, (some 7), .mov (.t 49), []⟩])
      (.seq
       (.reg [8, 9] [
         ⟨none, (some 51), .mov (.t 5), []⟩,
         ⟨none, (some 52), .call true 203 [.t 51], []⟩,
         ⟨none, (some 50), .mov (.t 52), []⟩,
         ⟨none, (some 53), .ext (.t 50) 0, []⟩,
         ⟨none, (some 54), .ext (.t 50) 1, []⟩,
         ⟨none, (some 8), .mov (.t 53), []⟩,
         ⟨none, (some 9), .mov (.t 54), []⟩])
       (.seq
        (.reg [11] [
          ⟨none, (some 56), .mov (.t 8), []⟩,
          ⟨none, (some 57), .mov (.t 5), []⟩,
          ⟨none, (some 58), .call true 218 [.t 56, .t 57], []⟩,
          ⟨none, (some 55), .mov (.t 58), []⟩,
          ⟨none, (some 59), .ext (.t 55) 0, []⟩,
          ⟨none, (some 60), .ext (.t 55) 1, []⟩,
          ⟨none, (some 10), .mov (.t 59), []⟩,
          ⟨none, (some 11), .mov (.t 60), []⟩])
        (.seq
         (.reg [12, 13] [
           ⟨none, (some 62), .mov (.t 8), []⟩,
           ⟨none, (some 63), .call true 109 [.t 62], []⟩,
           ⟨none, (some 61), .mov (.t 63), []⟩,
           ⟨none, (some 64), .ext (.t 61) 0, []⟩,
           ⟨none, (some 65), .ext (.t 61) 1, []⟩,
           ⟨none, (some 12), .zero true (zs 12 (.int .u16 0)), []⟩,
           ⟨none, (some 12), .stV 12 none 12 (.t 64), []⟩,
           ⟨none, (some 13), .mov (.t 65), []⟩])
         (.seq
          (.reg [14, 15] [
            ⟨none, (some 67), .mov (.t 8), []⟩,
            ⟨none, (some 68), .call true 108 [.t 67], []⟩,
            ⟨none, (some 66), .mov (.t 68), []⟩,
            ⟨none, (some 69), .ext (.t 66) 0, []⟩,
            ⟨none, (some 70), .ext (.t 66) 1, []⟩,
            ⟨none, (some 14), .zero true (zs 12 (.int .u16 0)), []⟩,
            ⟨none, (some 14), .stV 14 none 12 (.t 69), []⟩,
            ⟨none, (some 15), .mov (.t 70), []⟩])
          (.seq
           (.seq
            (.reg [111] [
              ⟨none, (some 71), .mov (.t 7), []⟩,
              ⟨none, (some 72), .bin .neq (.t 71) (.c (.int .i64 0)), []⟩,
              ⟨none, (some 73), .mov (.t 72), []⟩,
              ⟨(some (73, false)), (some 74), .mov (.t 6), []⟩,
              ⟨(some (73, false)), (some 75), .mov (.t 5), []⟩,
              ⟨(some (73, false)), (some 76), .call true 158 [.t 74, .t 75], []⟩,
              ⟨(some (73, false)), (some 77), .un .not (.t 76), []⟩,
              ⟨none, (some 78), .pick (.t 73) (.c (.bool true)) (.t 77), []⟩,
              ⟨none, (some 79), .mov (.t 78), []⟩,
              ⟨(some (79, false)), (some 80), .mov (.t 6), []⟩,
              ⟨(some (79, false)), (some 81), .mov (.t 5), []⟩,
              ⟨(some (79, false)), (some 82), .call true 160 [.t 80, .t 81], []⟩,
              ⟨(some (79, false)), (some 83), .un .not (.t 82), []⟩,
              ⟨none, (some 84), .pick (.t 79) (.c (.bool true)) (.t 83), []⟩,
              ⟨none, (some 85), .mov (.t 84), []⟩,
              ⟨(some (85, false)), (some 86), .mov (.t 5), []⟩,
              ⟨(some (85, false)), (some 87), .call true 163 [.t 86], []⟩,
              ⟨(some (85, false)), (some 88), .un .not (.t 87), []⟩,
              ⟨none, (some 89), .pick (.t 85) (.c (.bool true)) (.t 88), []⟩,
              ⟨none, (some 90), .mov (.t 89), []⟩,
              ⟨(some (90, false)), (some 91), .mov (.t 9), []⟩,
              ⟨(some (90, false)), (some 92), .bin .neq (.t 91) (.c (.int .i64 0)), []⟩,
              ⟨none, (some 93), .pick (.t 90) (.c (.bool true)) (.t 92), []⟩,
              ⟨none, (some 94), .mov (.t 93), []⟩,
              ⟨(some (94, false)), (some 95), .mov (.t 11), []⟩,
              ⟨(some (94, false)), (some 96), .bin .neq (.t 95) (.c (.int .i64 6)), []⟩,
              ⟨none, (some 97), .pick (.t 94) (.c (.bool true)) (.t 96), []⟩,
              ⟨none, (some 98), .mov (.t 97), []⟩,
              ⟨(some (98, false)), (some 99), .mov (.t 13), []⟩,
              ⟨(some (98, false)), (some 100), .mov (.t 15), []⟩,
              ⟨(some (98, false)), (some 101), .bin .neq (.t 99) (.t 100), []⟩,
              ⟨none, (some 102), .pick (.t 98) (.c (.bool true)) (.t 101), []⟩,
              ⟨none, (some 103), .mov (.t 102), []⟩,
              ⟨(some (103, false)), (some 104), .mov (.t 13), []⟩,
              ⟨(some (103, false)), (some 105), .bin .neq (.t 104) (.c (.int .i64 0)), []⟩,
              ⟨none, (some 106), .pick (.t 103) (.c (.bool true)) (.t 105), []⟩,
              ⟨none, (some 107), .mov (.t 106), []⟩,
              ⟨(some (107, false)), (some 108), .ldV 12 none 12 true, []⟩,
              ⟨(some (107, false)), (some 109), .ldV 14 none 12 true, []⟩,
              ⟨(some (107, false)), (some 110), .eq (.a (rb 12 (some .u16))) true (.t 108) (.t 109), []⟩,
              ⟨none, (some 111), .pick (.t 107) (.c (.bool true)) (.t 110), []⟩])
            (.cond (.t 111)
             (.seq
              (.reg [4] [
                ⟨none, (some 4), .mov (.c (.bool false)), []⟩])
              .ret)
             .skip))
           (.seq
            (.seq
             (.reg [114] [
               ⟨none, (some 112), .mov (.t 5), []⟩,
               ⟨none, (some 113), .len (.t 112), []⟩,
               ⟨none, (some 114), .bin .eql (.t 113) (.c (.int .i64 0)), []⟩])
             (.cond (.t 114)
              (.seq
               (.reg [4] [
                 ⟨none, (some 4), .mov (.c (.bool true)), []⟩])
               .ret)
              .skip))
            (.seq
             (.reg [16] [
               ⟨none, (some 115), .mov (.t 1), []⟩,
               ⟨none, (some 116), .mov (.t 5), []⟩,
               ⟨none, (some 117), .len (.t 116), []⟩,
               ⟨none, (some 118), .call true 259 [.t 115, .t 117], []⟩,
               ⟨none, (some 16), .mov (.t 118), []⟩])
             (.seq
              (.reg [17, 18] [
                ⟨none, (some 120), .mov (.t 5), []⟩,
                ⟨none, (some 121), .mov (.t 16), []⟩,
                ⟨none, (some 122), .call true 177 [.t 120, .t 121], []⟩,
                ⟨none, (some 119), .mov (.t 122), []⟩,
                ⟨none, (some 123), .ext (.t 119) 0, []⟩,
                ⟨none, (some 124), .ext (.t 119) 1, []⟩,
                ⟨none, (some 17), .mov (.t 123), []⟩,
                ⟨none, (some 18), .mov (.t 124), []⟩])
              (.seq
               (.reg [19, 20] [
                 ⟨none, (some 126), .mov (.t 5), []⟩,
                 ⟨none, (some 127), .mov (.t 16), []⟩,
                 ⟨none, (some 128), .call true 176 [.t 126, .t 127], []⟩,
                 ⟨none, (some 125), .mov (.t 128), []⟩,
                 ⟨none, (some 129), .ext (.t 125) 0, []⟩,
                 ⟨none, (some 130), .ext (.t 125) 1, []⟩,
                 ⟨none, (some 19), .mov (.t 129), []⟩,
                 ⟨none, (some 20), .mov (.t 130), []⟩])
               (.seq
                (.seq
                 (.reg [142] [
                   ⟨none, (some 131), .mov (.t 18), []⟩,
                   ⟨none, (some 132), .mov (.t 20), []⟩,
                   ⟨none, (some 133), .bin .neq (.t 131) (.t 132), []⟩,
                   ⟨none, (some 134), .mov (.t 133), []⟩,
                   ⟨(some (134, false)), (some 135), .mov (.t 18), []⟩,
                   ⟨(some (134, false)), (some 136), .bin .neq (.t 135) (.c (.int .i64 0)), []⟩,
                   ⟨none, (some 137), .pick (.t 134) (.c (.bool true)) (.t 136), []⟩,
                   ⟨none, (some 138), .mov (.t 137), []⟩,
                   ⟨(some (138, false)), (some 139), .mov (.t 17), []⟩,
                   ⟨(some (138, false)), (some 140), .mov (.t 19), []⟩,
                   ⟨(some (138, false)), (some 141), .bin .neq (.t 139) (.t 140), []⟩,
                   ⟨none, (some 142), .pick (.t 138) (.c (.bool true)) (.t 141), []⟩])
                 (.cond (.t 142)
                  (.seq
                   (.reg [4] [
                     ⟨none, (some 4), .mov (.c (.bool false)), []⟩])
                   .ret)
                  .skip))
                (.seq
                 (.reg [21] [
                   ⟨none, (some 21), .mov (.c (.int .i64 0)), []⟩])
                 (.seq
                  (.seq
                   (.reg [22] [
                     ⟨none, (some 22), .mov (.c (.int .i64 0)), []⟩])
                   (.block 0
                    (.loop b60_1)))
                  (.seq
                   (.seq
                    (.reg [206] [
                      ⟨none, (some 204), .mov (.t 21), []⟩,
                      ⟨none, (some 205), .mov (.t 19), []⟩,
                      ⟨none, (some 206), .bin .neq (.t 204) (.t 205), []⟩])
                    (.cond (.t 206)
                     (.seq
                      (.reg [4] [
                        ⟨none, (some 4), .mov (.c (.bool false)), []⟩])
                      .ret)
                     .skip))
                   (.seq
                    (.reg [29] [
                      ⟨none, (some 207), .bldS 12 0 (zs 12 (.int .u16 0)) [], []⟩,
                      ⟨none, (some 208), .mov (.t 8), []⟩,
                      ⟨none, (some 209), .app 12 24 (.t 207) (.t 208), []⟩,
                      ⟨none, (some 29), .mov (.t 209), []⟩])
                    (.seq
                     (.reg [] [
                       ⟨none, (some 210), .mov (.t 29), []⟩,
                       ⟨none, (some 211), .mov (.t 16), []⟩,
                       ⟨none, (some 212), .mov (.t 1), []⟩,
                       ⟨none, (some 213), .call true 170 [.t 212], []⟩,
                       ⟨none, (some 214), .idxA 12 (.t 210) (.t 211), []⟩,
                       ⟨none, none, .st 12 (.t 214) (.t 213), []⟩])
                     (.seq
                      (.reg [30, 31] [
                        ⟨none, (some 216), .mov (.t 29), []⟩,
                        ⟨none, (some 217), .ldV 14 none 12 true, []⟩,
                        ⟨none, (some 218), .mov (.t 16), []⟩,
                        ⟨none, (some 219), .call true 144 [.t 216, .t 217, .t 218], []⟩,
                        ⟨none, (some 215), .mov (.t 219), []⟩,
                        ⟨none, (some 220), .ext (.t 215) 0, []⟩,
                        ⟨none, (some 221), .ext (.t 215) 1, []⟩,
                        ⟨none, (some 30), .mov (.t 220), []⟩,
                        ⟨none, (some 31), .mov (.t 221), []⟩])
                      (.seq
                       (.reg [32, 33] [
                         ⟨none, (some 223), .mov (.t 29), []⟩,
                         ⟨none, (some 224), .mov (.t 5), []⟩,
                         ⟨none, (some 225), .call true 218 [.t 223, .t 224], []⟩,
                         ⟨none, (some 222), .mov (.t 225), []⟩,
                         ⟨none, (some 226), .ext (.t 222) 0, []⟩,
                         ⟨none, (some 227), .ext (.t 222) 1, []⟩,
                         ⟨none, (some 32), .mov (.t 226), []⟩,
                         ⟨none, (some 33), .mov (.t 227), []⟩])
                       (.seq
                        (.reg [34, 35] [
                          ⟨none, (some 229), .mov (.t 29), []⟩,
                          ⟨none, (some 230), .mov (.t 5), []⟩,
                          ⟨none, (some 231), .call true 225 [.t 229, .t 230], []⟩,
                          ⟨none, (some 228), .mov (.t 231), []⟩,
                          ⟨none, (some 232), .ext (.t 228) 0, []⟩,
                          ⟨none, (some 233), .ext (.t 228) 1, []⟩,
                          ⟨none, (some 34), .mov (.t 232), []⟩,
                          ⟨none, (some 35), .mov (.t 233), []⟩])
                        (.seq
                         (.reg [4] [
                           ⟨none, (some 234), .mov (.t 31), []⟩,
                           ⟨none, (some 235), .bin .eql (.t 234) (.c (.int .i64 0)), []⟩,
                           ⟨none, (some 236), .mov (.t 235), []⟩,
                           ⟨(some (236, true)), (some 237), .mov (.t 30), []⟩,
                           ⟨(some (236, true)), (some 238), .mov (.t 8), []⟩,
                           ⟨(some (236, true)), (some 239), .call true 91 [.t 237, .t 238], []⟩,
                           ⟨none, (some 240), .pick (.t 236) (.t 239) (.c (.bool false)), []⟩,
                           ⟨none, (some 241), .mov (.t 240), []⟩,
                           ⟨(some (241, true)), (some 242), .mov (.t 35), []⟩,
                           ⟨(some (241, true)), (some 243), .bin .eql (.t 242) (.c (.int .i64 0)), []⟩,
                           ⟨none, (some 244), .pick (.t 241) (.t 243) (.c (.bool false)), []⟩,
                           ⟨none, (some 245), .mov (.t 244), []⟩,
                           ⟨(some (245, true)), (some 246), .mov (.t 34), []⟩,
                           ⟨(some (245, true)), (some 247), .mov (.t 29), []⟩,
                           ⟨(some (245, true)), (some 248), .mov (.t 16), []⟩,
                           ⟨(some (245, true)), (some 249), .idxA 12 (.t 247) (.t 248), []⟩,
                           ⟨(some (245, true)), (some 250), .ld 12 true (.t 249), []⟩,
                           ⟨(some (245, true)), (some 251), .mov (.t 8), []⟩,
                           ⟨(some (245, true)), (some 252), .mov (.t 16), []⟩,
                           ⟨(some (245, true)), (some 253), .idxA 12 (.t 251) (.t 252), []⟩,
                           ⟨(some (245, true)), (some 254), .ld 12 true (.t 253), []⟩,
                           ⟨(some (245, true)), (some 255), .eq (.a (rb 12 (some .u16))) false (.t 250) (.t 254), []⟩,
                           ⟨(some (245, true)), (some 256), .eq .b false (.t 246) (.t 255), []⟩,
                           ⟨none, (some 257), .pick (.t 245) (.t 256) (.c (.bool false)), []⟩,
                           ⟨none, (some 258), .mov (.t 257), []⟩,
                           ⟨(some (258, true)), (some 259), .mov (.t 33), []⟩,
                           ⟨(some (258, true)), (some 260), .bin .eql (.t 259) (.c (.int .i64 0)), []⟩,
                           ⟨(some (258, true)), (some 261), .mov (.t 260), []⟩,
                           ⟨(some (261, true)), (some 262), .mov (.t 32), []⟩,
                           ⟨(some (261, true)), (some 263), .mov (.t 16), []⟩,
                           ⟨(some (261, true)), (some 264), .bin .eql (.t 262) (.t 263), []⟩,
                           ⟨(some (258, true)), (some 265), .pick (.t 261) (.t 264) (.c (.bool false)), []⟩,
                           ⟨(some (258, true)), (some 266), .mov (.t 265), []⟩,
                           ⟨(some (266, true)), (some 267), .mov (.t 34), []⟩,
                           ⟨(some (266, true)), (some 268), .un .not (.t 267), []⟩,
                           ⟨(some (258, true)), (some 269), .pick (.t 266) (.t 268) (.c (.bool false)), []⟩,
                           ⟨(some (258, true)), (some 270), .mov (.t 269), []⟩,
                           ⟨(some (270, false)), (some 271), .mov (.t 33), []⟩,
                           ⟨(some (270, false)), (some 272), .bin .eql (.t 271) (.c (.int .i64 6)), []⟩,
                           ⟨(some (270, false)), (some 273), .mov (.t 272), []⟩,
                           ⟨(some (273, true)), (some 274), .mov (.t 34), []⟩,
                           ⟨(some (270, false)), (some 275), .pick (.t 273) (.t 274) (.c (.bool false)), []⟩,
                           ⟨(some (258, true)), (some 276), .pick (.t 270) (.c (.bool true)) (.t 275), []⟩,
                           ⟨none, (some 277), .pick (.t 258) (.t 276) (.c (.bool false)), []⟩,
                           ⟨none, (some 4), .mov (.t 277), []⟩])
                         .ret)))))))))))))))))))))))
def c60 : Fn := { np := 2, nt := 278, kind := .pure, res := [.t 4], body := k60 }

/- impl.CostOf -/
def k82 : Cd :=
  (.seq
   (.reg [1, 2, 3] [
     ⟨none, (some 1), .mov (.t 0), []⟩,
     ⟨none, (some 2), .mov (.c (.int .i64 0)), []⟩,
     ⟨none, (some 3), .mov (.c (.int .i64 0)), []⟩])
   (.seq
    (.seq
     (.reg [14] [
       ⟨none, (some 4), .adrF 1 none 0, []⟩,
       ⟨none, (some 5), .ldV 1 (some 4) 1 false, []⟩,
       ⟨none, (some 6), .conv .i64 (.t 5), []⟩,
       ⟨none, (some 7), .call true 295 [.t 6, .c (.int .i64 0), .c (.int .i64 2)], []⟩,
       ⟨none, (some 8), .un .not (.t 7), []⟩,
       ⟨none, (some 9), .mov (.t 8), []⟩,
       ⟨(some (9, false)), (some 10), .adrF 1 none 4, []⟩,
       ⟨(some (9, false)), (some 11), .ldV 1 (some 10) 1 false, []⟩,
       ⟨(some (9, false)), (some 12), .len (.t 11), []⟩,
       ⟨(some (9, false)), (some 13), .bin .gtr (.t 12) (.c (.int .i64 12)), []⟩,
       ⟨none, (some 14), .pick (.t 9) (.c (.bool true)) (.t 13), []⟩])
     (.cond (.t 14)
      (.seq
       (.reg [2, 3] [
         ⟨none, (some 2), .mov (.c (.int .i64 0)), []⟩,
         ⟨none, (some 3), .mov (.c (.int .i64 2)), []⟩])
       .ret)
      .skip))
    (.seq
     (.reg [2, 3] [
       ⟨none, (some 15), .ldV 1 none 5 true, []⟩,
       ⟨none, (some 16), .call true 312 [.t 15], []⟩,
       ⟨none, (some 2), .mov (.t 16), []⟩,
       ⟨none, (some 3), .mov (.c (.int .i64 0)), []⟩])
     .ret)))
def c82 : Fn := { np := 1, nt := 17, kind := .pure, res := [.t 2, .t 3], body := k82 }

/- spec.SameBook -/
def k91 : Cd :=
  (.seq
   (.reg [4] [
     ⟨none, (some 4), .mov (.c (.bool false)), []⟩])
   (.seq
    (.reg [4] [
      ⟨none, (some 5), .mov (.t 0), []⟩,
      ⟨none, (some 6), .mov (.t 1), []⟩,
      ⟨none, (some 7), .call true 323 [.t 5, .t 6], []⟩,
      ⟨none, (some 4), .mov (.t 7), []⟩])
    .ret))
def c91 : Fn := { np := 2, nt := 8, kind := .pure, res := [.t 4], body := k91 }

/- spec.ParityOf -/
def k108 : Cd :=
  (.seq
   (.reg [2, 3] [
     ⟨none, (some 2), .zero true (zs 12 (.int .u16 0)), []⟩,
     ⟨none, (some 3), .mov (.c (.int .i64 0)), []⟩])
   (.seq
    (.seq
     (.reg [6] [
       ⟨none, (some 4), .mov (.t 0), []⟩,
       ⟨none, (some 5), .call true 318 [.t 4], []⟩,
       ⟨none, (some 6), .un .not (.t 5), []⟩])
     (.cond (.t 6)
      (.seq
       (.reg [2, 3] [
         ⟨none, (some 7), .agg (zs 12 (.int .u16 0)) [], []⟩,
         ⟨none, (some 2), .stV 2 none 12 (.t 7), []⟩,
         ⟨none, (some 3), .mov (.c (.int .i64 1)), []⟩])
       .ret)
      .skip))
    (.seq
     (.reg [2, 3] [
       ⟨none, (some 8), .mov (.t 0), []⟩,
       ⟨none, (some 9), .call true 339 [.t 8], []⟩,
       ⟨none, (some 2), .stV 2 none 12 (.t 9), []⟩,
       ⟨none, (some 3), .mov (.c (.int .i64 0)), []⟩])
     .ret)))
def c108 : Fn := { np := 1, nt := 10, kind := .pure, res := [.v 2 12 true, .t 3], body := k108 }

/- impl.ParityOf -/
def k109 : Cd :=
  (.seq
   (.reg [2, 3] [
     ⟨none, (some 2), .zero true (zs 12 (.int .u16 0)), []⟩,
     ⟨none, (some 3), .mov (.c (.int .i64 0)), []⟩])
   (.seq
    (.seq
     (.reg [6] [
       ⟨none, (some 4), .mov (.t 0), []⟩,
       ⟨none, (some 5), .call true 316 [.t 4], []⟩,
       ⟨none, (some 6), .un .not (.t 5), []⟩])
     (.cond (.t 6)
      (.seq
       (.reg [2, 3] [
         ⟨none, (some 7), .agg (zs 12 (.int .u16 0)) [], []⟩,
         ⟨none, (some 2), .stV 2 none 12 (.t 7), []⟩,
         ⟨none, (some 3), .mov (.c (.int .i64 1)), []⟩])
       .ret)
      .skip))
    (.seq
     (.reg [2, 3] [
       ⟨none, (some 8), .mov (.t 0), []⟩,
       ⟨none, (some 9), .call true 340 [.t 8], []⟩,
       ⟨none, (some 2), .stV 2 none 12 (.t 9), []⟩,
       ⟨none, (some 3), .mov (.c (.int .i64 0)), []⟩])
     .ret)))
def c109 : Fn := { np := 1, nt := 10, kind := .pure, res := [.v 2 12 true, .t 3], body := k109 }

/- impl.RestorePage -/
def k144 : Cd :=
  (.seq
   (.reg [4, 6, 7] [
     ⟨none, (some 4), .mov (.t 1), []⟩,
     ⟨none, (some 6), .mov (.c (.slice none 0 0)), []⟩,
     ⟨none, (some 7), .mov (.c (.int .i64 0)), []⟩])
   (.seq
    (.block 0
     (.seq
      (.reg [9] [
        ⟨none, (some 10), .mov (.t 0), []⟩,
        ⟨none, (some 11), .call true 316 [.t 10], []⟩,
        ⟨none, (some 12), .un .not (.t 11), []⟩,
        ⟨none, (some 13), .mov (.t 12), []⟩,
        ⟨(some (13, false)), (some 14), .ldV 4 none 12 true, []⟩,
        ⟨(some (13, false)), (some 15), .call true 234 [.t 14], []⟩,
        ⟨(some (13, false)), (some 16), .un .not (.t 15), []⟩,
        ⟨none, (some 17), .pick (.t 13) (.c (.bool true)) (.t 16), []⟩,
        ⟨none, (some 9), .mov (.t 17), []⟩])
      (.cond (.t 9)
       (.seq
        (.reg [6, 7] [
          ⟨none, (some 6), .mov (.c (.slice none 0 0)), []⟩,
          ⟨none, (some 7), .mov (.c (.int .i64 1)), []⟩])
        .ret)
       (.seq
        (.reg [18] [
          ⟨none, (some 19), .mov (.t 0), []⟩,
          ⟨none, (some 20), .mov (.t 2), []⟩,
          ⟨none, (some 21), .call true 365 [.t 19, .t 20], []⟩,
          ⟨none, (some 22), .un .not (.t 21), []⟩,
          ⟨none, (some 18), .mov (.t 22), []⟩])
        (.cond (.t 18)
         (.seq
          (.reg [6, 7] [
            ⟨none, (some 6), .mov (.c (.slice none 0 0)), []⟩,
            ⟨none, (some 7), .mov (.c (.int .i64 2)), []⟩])
          .ret)
         .skip)))))
    (.seq
     (.reg [8] [
       ⟨none, (some 23), .mov (.t 0), []⟩,
       ⟨none, (some 24), .call true 366 [.t 23], []⟩,
       ⟨none, (some 8), .mov (.t 24), []⟩])
     (.seq
      (.reg [] [
        ⟨none, (some 25), .mov (.t 8), []⟩,
        ⟨none, (some 26), .mov (.t 2), []⟩,
        ⟨none, (some 27), .mov (.t 0), []⟩,
        ⟨none, (some 29), .mov (.t 0), []⟩,
        ⟨none, (some 30), .mov (.t 2), []⟩,
        ⟨none, (some 31), .idxA 12 (.t 29) (.t 30), []⟩,
        ⟨none, (some 32), .ld 12 true (.t 31), []⟩,
        ⟨none, (some 34), .ldV 4 none 12 true, []⟩,
        ⟨none, (some 28), .call true 340 [.t 27], []⟩,
        ⟨none, (some 33), .call true 367 [.t 28, .t 32], []⟩,
        ⟨none, (some 35), .call true 367 [.t 33, .t 34], []⟩,
        ⟨none, (some 36), .idxA 12 (.t 25) (.t 26), []⟩,
        ⟨none, none, .st 12 (.t 36) (.t 35), []⟩])
      (.seq
       (.reg [6, 7] [
         ⟨none, (some 37), .mov (.t 8), []⟩,
         ⟨none, (some 6), .mov (.t 37), []⟩,
         ⟨none, (some 7), .mov (.c (.int .i64 0)), []⟩])
       .ret)))))
def c144 : Fn := { np := 3, nt := 38, kind := .pure, res := [.t 6, .t 7], body := k144 }

/- spec.SameSteps -/
def b158_1 : Cd :=
  (.seq
   (.seq
    (.reg [14] [
      ⟨none, (some 11), .mov (.t 5), []⟩,
      ⟨none, (some 12), .mov (.t 0), []⟩,
      ⟨none, (some 13), .len (.t 12), []⟩,
      ⟨none, (some 14), .bin .lss (.t 11) (.t 13), []⟩])
    (.cond (.t 14)
     .skip
     (.exit 0)))
   (.seq
    (.block 1
     (.seq
      (.reg [24] [
        ⟨none, (some 17), .mov (.t 0), []⟩,
        ⟨none, (some 18), .mov (.t 5), []⟩,
        ⟨none, (some 19), .idxA 5 (.t 17) (.t 18), []⟩,
        ⟨none, (some 20), .mov (.t 1), []⟩,
        ⟨none, (some 21), .mov (.t 5), []⟩,
        ⟨none, (some 22), .idxA 5 (.t 20) (.t 21), []⟩,
        ⟨none, (some 23), .call true 381 [.t 19, .t 22], []⟩,
        ⟨none, (some 24), .un .not (.t 23), []⟩])
      (.cond (.t 24)
       (.seq
        (.reg [4] [
          ⟨none, (some 4), .mov (.c (.bool false)), []⟩])
        .ret)
       .skip)))
    (.reg [5] [
      ⟨none, (some 15), .mov (.t 5), []⟩,
      ⟨none, (some 16), .bin .add (.t 15) (.c (.int .i64 1)), []⟩,
      ⟨none, (some 5), .mov (.t 16), []⟩])))
def k158 : Cd :=
  (.seq
   (.reg [4] [
     ⟨none, (some 4), .mov (.c (.bool false)), []⟩])
   (.seq
    (.seq
     (.reg [10] [
       ⟨none, (some 6), .mov (.t 0), []⟩,
       ⟨none, (some 7), .len (.t 6), []⟩,
       ⟨none, (some 8), .mov (.t 1), []⟩,
       ⟨none, (some 9), .len (.t 8), []⟩,
       ⟨none, (some 10), .bin .neq (.t 7) (.t 9), []⟩])
     (.cond (.t 10)
      (.seq
       (.reg [4] [
         ⟨none, (some 4), .mov (.c (.bool false)), []⟩])
       .ret)
      .skip))
    (.seq
     (.seq
      (.reg [5] [
        ⟨none, (some 5), .mov (.c (.int .i64 0)), []⟩])
      (.block 0
       (.loop b158_1)))
     (.seq
      (.reg [4] [
        ⟨none, (some 4), .mov (.c (.bool true)), []⟩])
      .ret))))
def c158 : Fn := { np := 2, nt := 25, kind := .pure, res := [.t 4], body := k158 }

/- impl.SameSteps -/
def k160 : Cd :=
  (.seq
   (.reg [4] [
     ⟨none, (some 4), .mov (.c (.bool false)), []⟩])
   (.seq
    (.reg [4] [
      ⟨none, (some 5), .mov (.t 0), []⟩,
      ⟨none, (some 6), .mov (.t 1), []⟩,
      ⟨none, (some 7), .call true 383 [.t 5, .t 6, .f 384], []⟩,
      ⟨none, (some 4), .mov (.t 7), []⟩])
    .ret))
def c160 : Fn := { np := 2, nt := 8, kind := .pure, res := [.t 4], body := k160 }

/- impl.ValidSteps -/
def b163_1 : Cd :=
  (.seq
   (.reg [8] [
     ⟨none, (some 8), .bin .lss (.t 7) (.t 6), []⟩])
   (.seq
    (.cond (.t 8)
     .skip
     (.exit 0))
    (.seq
     (.block 1
      (.seq
       (.reg [4, 3] [
         ⟨none, (some 9), .mov (.t 7), []⟩,
         ⟨none, (some 10), .idxA 5 (.t 5) (.t 7), []⟩,
         ⟨none, (some 11), .ld 5 true (.t 10), []⟩,
         ⟨none, (some 4), .zero true [.int .i8 0, .int .i8 0, .int .i8 0, .int .i8 0, .slice none 0 0], []⟩,
         ⟨none, (some 3), .mov (.t 9), []⟩,
         ⟨none, (some 4), .stV 4 none 5 (.t 11), []⟩])
       (.seq
        (.reg [15] [
          ⟨none, (some 12), .ldV 4 none 5 true, []⟩,
          ⟨none, (some 13), .mov (.t 3), []⟩,
          ⟨none, (some 14), .call true 387 [.t 12, .t 13], []⟩,
          ⟨none, (some 15), .un .not (.t 14), []⟩])
        (.cond (.t 15)
         (.seq
          (.reg [2] [
            ⟨none, (some 2), .mov (.c (.bool false)), []⟩])
          .ret)
         .skip))))
     (.reg [7] [
       ⟨none, (some 16), .bin .add (.t 7) (.c (.int .i64 1)), []⟩,
       ⟨none, (some 7), .mov (.t 16), []⟩]))))
def k163 : Cd :=
  (.seq
   (.reg [2] [
     ⟨none, (some 2), .mov (.c (.bool false)), []⟩])
   (.seq
    (.seq
     (.reg [5, 6, 7] [
       ⟨none, (some 5), .mov (.t 0), []⟩,
       ⟨none, (some 6), .len (.t 5), []⟩,
       ⟨none, (some 7), .mov (.c (.int .i64 0)), []⟩])
     (.block 0
      (.loop b163_1)))
    (.seq
     (.reg [2] [
       ⟨none, (some 17), .mov (.t 0), []⟩,
       ⟨none, (some 18), .len (.t 17), []⟩,
       ⟨none, (some 19), .bin .leq (.t 18) (.c (.int .i64 40)), []⟩,
       ⟨none, (some 2), .mov (.t 19), []⟩])
     .ret)))
def c163 : Fn := { np := 1, nt := 20, kind := .pure, res := [.t 2], body := k163 }

/- laws.f6big -/
def k169 : Cd :=
  (.seq
   (.reg [2] [
     ⟨none, (some 2), .mov (.c (.bool false)), []⟩])
   (.seq
    (.reg [2] [
      ⟨none, (some 3), .mov (.t 0), []⟩,
      ⟨none, (some 4), .len (.t 3), []⟩,
      ⟨none, (some 5), .bin .gtr (.t 4) (.c (.int .i64 4096)), []⟩,
      ⟨none, (some 2), .mov (.t 5), []⟩])
    .ret))
def c169 : Fn := { np := 1, nt := 6, kind := .pure, res := [.t 2], body := k169 }

/- spec.P6Frame -/
def k170 : Cd :=
  (.seq
   (.reg [2] [
     ⟨none, (some 2), .zero true (zs 12 (.int .u16 0)), []⟩])
   (.seq
    (.reg [2] [
      ⟨none, (some 3), .mov (.t 0), []⟩,
      ⟨none, (some 4), .call true 315 [.t 3], []⟩,
      ⟨none, (some 5), .call false 368 [.t 4], []⟩,
      ⟨none, (some 2), .stV 2 none 12 (.t 5), []⟩])
    .ret))
def c170 : Fn := { np := 1, nt := 6, kind := .pure, res := [.v 2 12 true], body := k170 }

/- spec.SeekCost -/
def b176_1 : Cd :=
  (.seq
   (.seq
    (.reg [23] [
      ⟨none, (some 18), .mov (.t 0), []⟩,
      ⟨none, (some 19), .mov (.t 1), []⟩,
      ⟨none, (some 20), .idxA 5 (.t 18) (.t 19), []⟩,
      ⟨none, (some 21), .fldP 0 (.t 20), []⟩,
      ⟨none, (some 22), .ld 1 false (.t 21), []⟩,
      ⟨none, (some 23), .bin .neq (.t 22) (.c (.int .i8 0)), []⟩])
    (.cond (.t 23)
     .skip
     (.exit 0)))
   (.block 1
    (.seq
     (.reg [1] [
       ⟨none, (some 24), .mov (.t 0), []⟩,
       ⟨none, (some 25), .mov (.t 1), []⟩,
       ⟨none, (some 26), .idxA 5 (.t 24) (.t 25), []⟩,
       ⟨none, (some 27), .fldP 1 (.t 26), []⟩,
       ⟨none, (some 28), .ld 1 false (.t 27), []⟩,
       ⟨none, (some 29), .conv .i64 (.t 28), []⟩,
       ⟨none, (some 1), .mov (.t 29), []⟩])
     (.reg [7] [
       ⟨none, (some 30), .mov (.t 7), []⟩,
       ⟨none, (some 31), .mov (.t 0), []⟩,
       ⟨none, (some 32), .mov (.t 1), []⟩,
       ⟨none, (some 33), .idxA 5 (.t 31) (.t 32), []⟩,
       ⟨none, (some 34), .call true 310 [.t 33], []⟩,
       ⟨none, (some 35), .bin .add (.t 30) (.t 34), []⟩,
       ⟨none, (some 7), .mov (.t 35), []⟩]))))
def k176 : Cd :=
  (.seq
   (.reg [4, 5] [
     ⟨none, (some 4), .mov (.c (.int .i64 0)), []⟩,
     ⟨none, (some 5), .mov (.c (.int .i64 0)), []⟩])
   (.seq
    (.seq
     (.reg [6] [
       ⟨none, (some 8), .mov (.t 0), []⟩,
       ⟨none, (some 9), .mov (.t 1), []⟩,
       ⟨none, (some 10), .call true 398 [.t 8, .t 9], []⟩,
       ⟨none, (some 6), .mov (.t 10), []⟩])
     (.seq
      (.reg [12] [
        ⟨none, (some 11), .mov (.t 6), []⟩,
        ⟨none, (some 12), .bin .neq (.t 11) (.c (.int .i64 0)), []⟩])
      (.cond (.t 12)
       (.seq
        (.reg [4, 5] [
          ⟨none, (some 13), .mov (.t 6), []⟩,
          ⟨none, (some 4), .mov (.c (.int .i64 0)), []⟩,
          ⟨none, (some 5), .mov (.t 13), []⟩])
        .ret)
       .skip)))
    (.seq
     (.reg [7] [
       ⟨none, (some 14), .mov (.t 0), []⟩,
       ⟨none, (some 15), .mov (.t 1), []⟩,
       ⟨none, (some 16), .idxA 5 (.t 14) (.t 15), []⟩,
       ⟨none, (some 17), .call true 310 [.t 16], []⟩,
       ⟨none, (some 7), .mov (.t 17), []⟩])
     (.seq
      (.block 0
       (.loop b176_1))
      (.seq
       (.reg [4, 5] [
         ⟨none, (some 36), .mov (.t 7), []⟩,
         ⟨none, (some 4), .mov (.t 36), []⟩,
         ⟨none, (some 5), .mov (.c (.int .i64 0)), []⟩])
       .ret)))))
def c176 : Fn := { np := 2, nt := 37, kind := .pure, res := [.t 4, .t 5], body := k176 }

/- impl.SeekCost -/
def b177_1 : Cd :=
  (.seq
   (.seq
    (.reg [21] [
      ⟨none, (some 19), .adrF 8 none 0, []⟩,
      ⟨none, (some 20), .ldV 8 (some 19) 1 false, []⟩,
      ⟨none, (some 21), .bin .neq (.t 20) (.c (.int .i8 0)), []⟩])
    (.cond (.t 21)
     .skip
     (.exit 0)))
   (.seq
    (.block 1
     (.reg [7] [
       ⟨none, (some 27), .mov (.t 7), []⟩,
       ⟨none, (some 28), .ldV 8 none 5 true, []⟩,
       ⟨none, (some 29), .call true 312 [.t 28], []⟩,
       ⟨none, (some 30), .bin .add (.t 27) (.t 29), []⟩,
       ⟨none, (some 7), .mov (.t 30), []⟩]))
    (.reg [8] [
      ⟨none, (some 22), .mov (.t 0), []⟩,
      ⟨none, (some 23), .adrF 8 none 1, []⟩,
      ⟨none, (some 24), .ldV 8 (some 23) 1 false, []⟩,
      ⟨none, (some 25), .idxA 5 (.t 22) (.t 24), []⟩,
      ⟨none, (some 26), .ld 5 true (.t 25), []⟩,
      ⟨none, (some 8), .stV 8 none 5 (.t 26), []⟩])))
def k177 : Cd :=
  (.seq
   (.reg [4, 5] [
     ⟨none, (some 4), .mov (.c (.int .i64 0)), []⟩,
     ⟨none, (some 5), .mov (.c (.int .i64 0)), []⟩])
   (.seq
    (.seq
     (.reg [6] [
       ⟨none, (some 9), .mov (.t 0), []⟩,
       ⟨none, (some 10), .mov (.t 1), []⟩,
       ⟨none, (some 11), .call true 399 [.t 9, .t 10], []⟩,
       ⟨none, (some 6), .mov (.t 11), []⟩])
     (.seq
      (.reg [13] [
        ⟨none, (some 12), .mov (.t 6), []⟩,
        ⟨none, (some 13), .bin .neq (.t 12) (.c (.int .i64 0)), []⟩])
      (.cond (.t 13)
       (.seq
        (.reg [4, 5] [
          ⟨none, (some 14), .mov (.t 6), []⟩,
          ⟨none, (some 4), .mov (.c (.int .i64 0)), []⟩,
          ⟨none, (some 5), .mov (.t 14), []⟩])
        .ret)
       .skip)))
    (.seq
     (.reg [8, 7] [
       ⟨none, (some 15), .mov (.t 0), []⟩,
       ⟨none, (some 16), .mov (.t 1), []⟩,
       ⟨none, (some 17), .idxA 5 (.t 15) (.t 16), []⟩,
       ⟨none, (some 18), .ld 5 true (.t 17), []⟩,
       ⟨none, (some 8), .zero true [.int .i8 0, .int .i8 0, .int .i8 0, .int .i8 0, .slice none 0 0], []⟩,
       ⟨none, (some 7), .mov (.c (.int .i64 0)), []⟩,
       ⟨none, (some 8), .stV 8 none 5 (.t 18), []⟩])
     (.seq
      (.block 0
       (.loop b177_1))
      (.seq
       (.reg [4, 5] [
         ⟨none, (some 31), .mov (.t 7), []⟩,
         ⟨none, (some 32), .ldV 8 none 5 true, []⟩,
         ⟨none, (some 33), .call true 312 [.t 32], []⟩,
         ⟨none, (some 34), .bin .add (.t 31) (.t 33), []⟩,
         ⟨none, (some 4), .mov (.t 34), []⟩,
         ⟨none, (some 5), .mov (.c (.int .i64 0)), []⟩])
       .ret)))))
def c177 : Fn := { np := 2, nt := 35, kind := .pure, res := [.t 4, .t 5], body := k177 }

/- spec.PagesLost -/
def b184_1 : Cd :=
  (.seq
   (.seq
    (.reg [23] [
      ⟨none, (some 20), .mov (.t 8), []⟩,
      ⟨none, (some 21), .mov (.t 0), []⟩,
      ⟨none, (some 22), .len (.t 21), []⟩,
      ⟨none, (some 23), .bin .lss (.t 20) (.t 22), []⟩])
    (.cond (.t 23)
     .skip
     (.exit 0)))
   (.seq
    (.block 1
     (.seq
      (.reg [41] [
        ⟨none, (some 26), .mov (.t 0), []⟩,
        ⟨none, (some 27), .mov (.t 8), []⟩,
        ⟨none, (some 28), .idxA 5 (.t 26) (.t 27), []⟩,
        ⟨none, (some 29), .fldP 0 (.t 28), []⟩,
        ⟨none, (some 30), .ld 1 false (.t 29), []⟩,
        ⟨none, (some 31), .bin .neq (.t 30) (.c (.int .i8 0)), []⟩,
        ⟨none, (some 32), .mov (.t 31), []⟩,
        ⟨(some (32, true)), (some 33), .mov (.t 7), []⟩,
        ⟨(some (32, true)), (some 34), .mov (.t 0), []⟩,
        ⟨(some (32, true)), (some 35), .mov (.t 8), []⟩,
        ⟨(some (32, true)), (some 36), .idxA 5 (.t 34) (.t 35), []⟩,
        ⟨(some (32, true)), (some 37), .fldP 1 (.t 36), []⟩,
        ⟨(some (32, true)), (some 38), .ld 1 false (.t 37), []⟩,
        ⟨(some (32, true)), (some 39), .conv .i64 (.t 38), []⟩,
        ⟨(some (32, true)), (some 40), .call true 401 [.t 33, .t 39], []⟩,
        ⟨none, (some 41), .pick (.t 32) (.t 40) (.c (.bool false)), []⟩])
      (.cond (.t 41)
       (.reg [7] [
         ⟨none, (some 42), .mov (.t 7), []⟩,
         ⟨none, (some 43), .mov (.t 8), []⟩,
         ⟨none, (some 44), .bldS 1 1 [.int .i64 0] [(0, 1, (.t 43))], []⟩,
         ⟨none, (some 45), .app 1 8 (.t 42) (.t 44), []⟩,
         ⟨none, (some 7), .mov (.t 45), []⟩])
       .skip)))
    (.reg [8] [
      ⟨none, (some 24), .mov (.t 8), []⟩,
      ⟨none, (some 25), .bin .add (.t 24) (.c (.int .i64 1)), []⟩,
      ⟨none, (some 8), .mov (.t 25), []⟩])))
def k184 : Cd :=
  (.seq
   (.reg [4, 5] [
     ⟨none, (some 4), .mov (.c (.slice none 0 0)), []⟩,
     ⟨none, (some 5), .mov (.c (.int .i64 0)), []⟩])
   (.seq
    (.seq
     (.reg [6] [
       ⟨none, (some 9), .mov (.t 0), []⟩,
       ⟨none, (some 10), .mov (.t 1), []⟩,
       ⟨none, (some 11), .call true 398 [.t 9, .t 10], []⟩,
       ⟨none, (some 6), .mov (.t 11), []⟩])
     (.seq
      (.reg [13] [
        ⟨none, (some 12), .mov (.t 6), []⟩,
        ⟨none, (some 13), .bin .neq (.t 12) (.c (.int .i64 0)), []⟩])
      (.cond (.t 13)
       (.seq
        (.reg [4, 5] [
          ⟨none, (some 14), .bldS 1 0 [.int .i64 0] [], []⟩,
          ⟨none, (some 15), .mov (.t 6), []⟩,
          ⟨none, (some 4), .mov (.t 14), []⟩,
          ⟨none, (some 5), .mov (.t 15), []⟩])
        .ret)
       .skip)))
    (.seq
     (.reg [7] [
       ⟨none, (some 16), .mov (.t 1), []⟩,
       ⟨none, (some 17), .bldS 1 1 [.int .i64 0] [(0, 1, (.t 16))], []⟩,
       ⟨none, (some 7), .mov (.t 17), []⟩])
     (.seq
      (.seq
       (.reg [8] [
         ⟨none, (some 18), .mov (.t 1), []⟩,
         ⟨none, (some 19), .bin .add (.t 18) (.c (.int .i64 1)), []⟩,
         ⟨none, (some 8), .mov (.t 19), []⟩])
       (.block 0
        (.loop b184_1)))
      (.seq
       (.reg [4, 5] [
         ⟨none, (some 46), .mov (.t 7), []⟩,
         ⟨none, (some 4), .mov (.t 46), []⟩,
         ⟨none, (some 5), .mov (.c (.int .i64 0)), []⟩])
       .ret)))))
def c184 : Fn := { np := 2, nt := 47, kind := .pure, res := [.t 4, .t 5], body := k184 }

/- impl.PagesLost -/
def b185_1 : Cd :=
  (.seq
   (.reg [21] [
     ⟨none, (some 21), .bin .lss (.t 20) (.t 19), []⟩])
   (.seq
    (.cond (.t 21)
     .skip
     (.exit 0))
    (.seq
     (.block 1
      (.seq
       (.reg [9, 8] [
         ⟨none, (some 22), .mov (.t 20), []⟩,
         ⟨none, (some 23), .idxA 5 (.t 18) (.t 20), []⟩,
         ⟨none, (some 24), .ld 5 true (.t 23), []⟩,
         ⟨none, (some 9), .zero true [.int .i8 0, .int .i8 0, .int .i8 0, .int .i8 0, .slice none 0 0], []⟩,
         ⟨none, (some 8), .mov (.t 22), []⟩,
         ⟨none, (some 9), .stV 9 none 5 (.t 24), []⟩])
       (.seq
        (.reg [39] [
          ⟨none, (some 25), .adrF 9 none 0, []⟩,
          ⟨none, (some 26), .ldV 9 (some 25) 1 false, []⟩,
          ⟨none, (some 27), .bin .neq (.t 26) (.c (.int .i8 0)), []⟩,
          ⟨none, (some 28), .mov (.t 27), []⟩,
          ⟨(some (28, true)), (some 29), .mov (.t 7), []⟩,
          ⟨(some (28, true)), (some 30), .adrF 9 none 1, []⟩,
          ⟨(some (28, true)), (some 31), .ldV 9 (some 30) 1 false, []⟩,
          ⟨(some (28, true)), (some 32), .conv .i64 (.t 31), []⟩,
          ⟨(some (28, true)), (some 33), .call true 402 [.t 29, .t 32], []⟩,
          ⟨none, (some 34), .pick (.t 28) (.t 33) (.c (.bool false)), []⟩,
          ⟨none, (some 35), .mov (.t 34), []⟩,
          ⟨(some (35, true)), (some 36), .mov (.t 8), []⟩,
          ⟨(some (35, true)), (some 37), .mov (.t 1), []⟩,
          ⟨(some (35, true)), (some 38), .bin .gtr (.t 36) (.t 37), []⟩,
          ⟨none, (some 39), .pick (.t 35) (.t 38) (.c (.bool false)), []⟩])
        (.cond (.t 39)
         (.reg [7] [
           ⟨none, (some 40), .mov (.t 7), []⟩,
           ⟨none, (some 41), .mov (.t 8), []⟩,
           ⟨none, (some 42), .bldS 1 1 [.int .i64 0] [(0, 1, (.t 41))], []⟩,
           ⟨none, (some 43), .app 1 8 (.t 40) (.t 42), []⟩,
           ⟨none, (some 7), .mov (.t 43), []⟩])
         .skip))))
     (.reg [20] [
       ⟨none, (some 44), .bin .add (.t 20) (.c (.int .i64 1)), []⟩,
       ⟨none, (some 20), .mov (.t 44), []⟩]))))
def k185 : Cd :=
  (.seq
   (.reg [4, 5] [
     ⟨none, (some 4), .mov (.c (.slice none 0 0)), []⟩,
     ⟨none, (some 5), .mov (.c (.int .i64 0)), []⟩])
   (.seq
    (.seq
     (.reg [6] [
       ⟨none, (some 10), .mov (.t 0), []⟩,
       ⟨none, (some 11), .mov (.t 1), []⟩,
       ⟨none, (some 12), .call true 399 [.t 10, .t 11], []⟩,
       ⟨none, (some 6), .mov (.t 12), []⟩])
     (.seq
      (.reg [14] [
        ⟨none, (some 13), .mov (.t 6), []⟩,
        ⟨none, (some 14), .bin .neq (.t 13) (.c (.int .i64 0)), []⟩])
      (.cond (.t 14)
       (.seq
        (.reg [4, 5] [
          ⟨none, (some 15), .mov (.t 6), []⟩,
          ⟨none, (some 4), .mov (.c (.slice none 0 0)), []⟩,
          ⟨none, (some 5), .mov (.t 15), []⟩])
        .ret)
       .skip)))
    (.seq
     (.reg [7] [
       ⟨none, (some 16), .mov (.t 1), []⟩,
       ⟨none, (some 17), .bldS 1 1 [.int .i64 0] [(0, 1, (.t 16))], []⟩,
       ⟨none, (some 7), .mov (.t 17), []⟩])
     (.seq
      (.seq
       (.reg [18, 19, 20] [
         ⟨none, (some 18), .mov (.t 0), []⟩,
         ⟨none, (some 19), .len (.t 18), []⟩,
         ⟨none, (some 20), .mov (.c (.int .i64 0)), []⟩])
       (.block 0
        (.loop b185_1)))
      (.seq
       (.reg [4, 5] [
         ⟨none, (some 45), .mov (.t 7), []⟩,
         ⟨none, (some 4), .mov (.t 45), []⟩,
         ⟨none, (some 5), .mov (.c (.int .i64 0)), []⟩])
       .ret)))))
def c185 : Fn := { np := 2, nt := 46, kind := .pure, res := [.t 4, .t 5], body := k185 }

/- spec.DecodeSteps -/
def k203 : Cd :=
  (.seq
   (.reg [2, 3] [
     ⟨none, (some 2), .mov (.c (.slice none 0 0)), []⟩,
     ⟨none, (some 3), .mov (.c (.int .i64 0)), []⟩])
   (.seq
    (.seq
     (.reg [6] [
       ⟨none, (some 4), .mov (.t 0), []⟩,
       ⟨none, (some 5), .call true 386 [.t 4], []⟩,
       ⟨none, (some 6), .un .not (.t 5), []⟩])
     (.cond (.t 6)
      (.seq
       (.reg [2, 3] [
         ⟨none, (some 7), .bldS 12 0 (zs 12 (.int .u16 0)) [], []⟩,
         ⟨none, (some 2), .mov (.t 7), []⟩,
         ⟨none, (some 3), .mov (.c (.int .i64 1)), []⟩])
       .ret)
      .skip))
    (.seq
     (.reg [2, 3] [
       ⟨none, (some 8), .mov (.t 0), []⟩,
       ⟨none, (some 9), .call true 418 [.t 8], []⟩,
       ⟨none, (some 2), .mov (.t 9), []⟩,
       ⟨none, (some 3), .mov (.c (.int .i64 0)), []⟩])
     .ret)))
def c203 : Fn := { np := 1, nt := 10, kind := .pure, res := [.t 2, .t 3], body := k203 }

/- impl.FirstUnlike -/
def b218_1 : Cd :=
  (.seq
   (.reg [24] [
     ⟨none, (some 24), .bin .lss (.t 23) (.t 22), []⟩])
   (.seq
    (.cond (.t 24)
     .skip
     (.exit 0))
    (.seq
     (.block 1
      (.seq
       (.reg [7] [
         ⟨none, (some 25), .mov (.t 23), []⟩,
         ⟨none, (some 7), .mov (.t 25), []⟩])
       (.seq
        (.reg [46] [
          ⟨none, (some 26), .mov (.t 7), []⟩,
          ⟨none, (some 27), .mov (.t 0), []⟩,
          ⟨none, (some 28), .len (.t 27), []⟩,
          ⟨none, (some 29), .bin .geq (.t 26) (.t 28), []⟩,
          ⟨none, (some 30), .mov (.t 29), []⟩,
          ⟨(some (30, false)), (some 31), .mov (.t 7), []⟩,
          ⟨(some (30, false)), (some 32), .mov (.t 6), []⟩,
          ⟨(some (30, false)), (some 33), .len (.t 32), []⟩,
          ⟨(some (30, false)), (some 34), .bin .geq (.t 31) (.t 33), []⟩,
          ⟨none, (some 35), .pick (.t 30) (.c (.bool true)) (.t 34), []⟩,
          ⟨none, (some 36), .mov (.t 35), []⟩,
          ⟨(some (36, false)), (some 37), .mov (.t 0), []⟩,
          ⟨(some (36, false)), (some 38), .mov (.t 7), []⟩,
          ⟨(some (36, false)), (some 39), .idxA 12 (.t 37) (.t 38), []⟩,
          ⟨(some (36, false)), (some 40), .ld 12 true (.t 39), []⟩,
          ⟨(some (36, false)), (some 41), .mov (.t 6), []⟩,
          ⟨(some (36, false)), (some 42), .mov (.t 7), []⟩,
          ⟨(some (36, false)), (some 43), .idxA 12 (.t 41) (.t 42), []⟩,
          ⟨(some (36, false)), (some 44), .ld 12 true (.t 43), []⟩,
          ⟨(some (36, false)), (some 45), .eq (.a (rb 12 (some .u16))) true (.t 40) (.t 44), []⟩,
          ⟨none, (some 46), .pick (.t 36) (.c (.bool true)) (.t 45), []⟩])
        (.cond (.t 46)
         (.seq
          (.reg [4, 5] [
            ⟨none, (some 47), .mov (.t 7), []⟩,
            ⟨none, (some 4), .mov (.t 47), []⟩,
            ⟨none, (some 5), .mov (.c (.int .i64 0)), []⟩])
          .ret)
         .skip))))
     (.reg [23] [
       ⟨none, (some 48), .bin .add (.t 23) (.c (.int .i64 1)), []⟩,
       ⟨none, (some 23), .mov (.t 48), []⟩]))))
def k218 : Cd :=
  (.seq
   (.reg [4, 5] [
     ⟨none, (some 4), .mov (.c (.int .i64 0)), []⟩,
     ⟨none, (some 5), .mov (.c (.int .i64 0)), []⟩])
   (.seq
    (.seq
     (.reg [15] [
       ⟨none, (some 8), .mov (.t 0), []⟩,
       ⟨none, (some 9), .call true 316 [.t 8], []⟩,
       ⟨none, (some 10), .un .not (.t 9), []⟩,
       ⟨none, (some 11), .mov (.t 10), []⟩,
       ⟨(some (11, false)), (some 12), .mov (.t 1), []⟩,
       ⟨(some (11, false)), (some 13), .call true 163 [.t 12], []⟩,
       ⟨(some (11, false)), (some 14), .un .not (.t 13), []⟩,
       ⟨none, (some 15), .pick (.t 11) (.c (.bool true)) (.t 14), []⟩])
     (.cond (.t 15)
      (.seq
       (.reg [4, 5] [
         ⟨none, (some 4), .mov (.c (.int .i64 0)), []⟩,
         ⟨none, (some 5), .mov (.c (.int .i64 1)), []⟩])
       .ret)
      .skip))
    (.seq
     (.reg [6] [
       ⟨none, (some 16), .mov (.t 1), []⟩,
       ⟨none, (some 17), .call true 419 [.t 16], []⟩,
       ⟨none, (some 6), .mov (.t 17), []⟩])
     (.seq
      (.seq
       (.reg [22, 23] [
         ⟨none, (some 18), .mov (.t 0), []⟩,
         ⟨none, (some 19), .len (.t 18), []⟩,
         ⟨none, (some 20), .mov (.t 6), []⟩,
         ⟨none, (some 21), .len (.t 20), []⟩,
         ⟨none, (some 22), .mx (.t 19) (.t 21), []⟩,
         ⟨none, (some 23), .mov (.c (.int .i64 0)), []⟩])
       (.block 0
        (.loop b218_1)))
      (.seq
       (.reg [4, 5] [
         ⟨none, (some 4), .mov (.c (.int .i64 0)), []⟩,
         ⟨none, (some 5), .mov (.c (.int .i64 6)), []⟩])
       .ret)))))
def c218 : Fn := { np := 2, nt := 49, kind := .pure, res := [.t 4, .t 5], body := k218 }

/- impl.CheckSteps -/
def k225 : Cd :=
  (.seq
   (.reg [4, 5] [
     ⟨none, (some 4), .mov (.c (.bool false)), []⟩,
     ⟨none, (some 5), .mov (.c (.int .i64 0)), []⟩])
   (.seq
    (.seq
     (.reg [13] [
       ⟨none, (some 6), .mov (.t 0), []⟩,
       ⟨none, (some 7), .call true 316 [.t 6], []⟩,
       ⟨none, (some 8), .un .not (.t 7), []⟩,
       ⟨none, (some 9), .mov (.t 8), []⟩,
       ⟨(some (9, false)), (some 10), .mov (.t 1), []⟩,
       ⟨(some (9, false)), (some 11), .call true 163 [.t 10], []⟩,
       ⟨(some (9, false)), (some 12), .un .not (.t 11), []⟩,
       ⟨none, (some 13), .pick (.t 9) (.c (.bool true)) (.t 12), []⟩])
     (.cond (.t 13)
      (.seq
       (.reg [4, 5] [
         ⟨none, (some 4), .mov (.c (.bool false)), []⟩,
         ⟨none, (some 5), .mov (.c (.int .i64 1)), []⟩])
       .ret)
      .skip))
    (.seq
     (.reg [4, 5] [
       ⟨none, (some 14), .mov (.t 1), []⟩,
       ⟨none, (some 15), .call true 419 [.t 14], []⟩,
       ⟨none, (some 16), .mov (.t 0), []⟩,
       ⟨none, (some 17), .call true 341 [.t 15, .t 16], []⟩,
       ⟨none, (some 4), .mov (.t 17), []⟩,
       ⟨none, (some 5), .mov (.c (.int .i64 0)), []⟩])
     .ret)))
def c225 : Fn := { np := 2, nt := 18, kind := .pure, res := [.t 4, .t 5], body := k225 }

/- impl.ValidFrame -/
def k234 : Cd :=
  (.seq
   (.reg [1, 2] [
     ⟨none, (some 1), .box 12 (.t 0), []⟩,
     ⟨none, (some 2), .mov (.c (.bool false)), []⟩])
   (.seq
    (.reg [2] [
      ⟨none, (some 3), .slcP 12 1 (.t 1), []⟩,
      ⟨none, (some 4), .call true 445 [.t 3, .f 446], []⟩,
      ⟨none, (some 5), .un .not (.t 4), []⟩,
      ⟨none, (some 2), .mov (.t 5), []⟩])
    .ret))
def c234 : Fn := { np := 1, nt := 6, kind := .pure, res := [.t 2], body := k234 }

/- spec.P6Pick -/
def k259 : Cd :=
  (.seq
   (.reg [4] [
     ⟨none, (some 4), .mov (.c (.int .i64 0)), []⟩])
   (.seq
    (.reg [4] [
      ⟨none, (some 5), .mov (.t 0), []⟩,
      ⟨none, (some 6), .call true 315 [.t 5], []⟩,
      ⟨none, (some 7), .mov (.t 1), []⟩,
      ⟨none, (some 8), .call false 459 [.t 6, .t 7], []⟩,
      ⟨none, (some 4), .mov (.t 8), []⟩])
    .ret))
def c259 : Fn := { np := 2, nt := 9, kind := .pure, res := [.t 4], body := k259 }

/- spec.SameNumbers -/
def k262 : Cd :=
  (.seq
   (.reg [4] [
     ⟨none, (some 4), .mov (.c (.bool false)), []⟩])
   (.seq
    (.reg [4] [
      ⟨none, (some 5), .mov (.t 0), []⟩,
      ⟨none, (some 6), .mov (.t 1), []⟩,
      ⟨none, (some 7), .call true 356 [.t 5, .t 6], []⟩,
      ⟨none, (some 4), .mov (.t 7), []⟩])
    .ret))
def c262 : Fn := { np := 2, nt := 8, kind := .pure, res := [.t 4], body := k262 }

/- spec.HasNumber -/
def k265 : Cd :=
  (.seq
   (.reg [4] [
     ⟨none, (some 4), .mov (.c (.bool false)), []⟩])
   (.seq
    (.reg [4] [
      ⟨none, (some 5), .mov (.t 0), []⟩,
      ⟨none, (some 6), .mov (.t 1), []⟩,
      ⟨none, (some 7), .call true 401 [.t 5, .t 6], []⟩,
      ⟨none, (some 4), .mov (.t 7), []⟩])
    .ret))
def c265 : Fn := { np := 2, nt := 8, kind := .pure, res := [.t 4], body := k265 }

/- spec.P6Steps -/
def k274 : Cd :=
  (.seq
   (.reg [2] [
     ⟨none, (some 2), .mov (.c (.slice none 0 0)), []⟩])
   (.seq
    (.reg [2] [
      ⟨none, (some 3), .mov (.t 0), []⟩,
      ⟨none, (some 4), .call true 315 [.t 3], []⟩,
      ⟨none, (some 5), .call false 469 [.t 4], []⟩,
      ⟨none, (some 2), .mov (.t 5), []⟩])
    .ret))
def c274 : Fn := { np := 1, nt := 6, kind := .pure, res := [.t 2], body := k274 }

/- impl.ReadSteps -/
def b290_1 : Cd :=
  (.seq
   (.reg [20] [
     ⟨none, (some 20), .bin .lss (.t 19) (.t 18), []⟩])
   (.seq
    (.cond (.t 20)
     .skip
     (.exit 0))
    (.seq
     (.block 1
      (.seq
       (.reg [7] [
         ⟨none, (some 21), .idxA 1 (.t 17) (.t 19), []⟩,
         ⟨none, (some 22), .ld 1 false (.t 21), []⟩,
         ⟨none, (some 7), .mov (.t 22), []⟩])
       (.seq
        (.reg [8, 9] [
          ⟨none, (some 24), .mov (.t 7), []⟩,
          ⟨none, (some 25), .call true 486 [.t 24], []⟩,
          ⟨none, (some 23), .mov (.t 25), []⟩,
          ⟨none, (some 26), .ext (.t 23) 0, []⟩,
          ⟨none, (some 27), .ext (.t 23) 1, []⟩,
          ⟨none, (some 8), .zero true [.int .i8 0, .int .i8 0, .int .i8 0, .int .i8 0, .slice none 0 0], []⟩,
          ⟨none, (some 8), .stV 8 none 5 (.t 26), []⟩,
          ⟨none, (some 9), .mov (.t 27), []⟩])
        (.seq
         (.seq
          (.reg [29] [
            ⟨none, (some 28), .mov (.t 9), []⟩,
            ⟨none, (some 29), .un .not (.t 28), []⟩])
          (.cond (.t 29)
           (.seq
            (.reg [2, 3] [
              ⟨none, (some 2), .mov (.c (.slice none 0 0)), []⟩,
              ⟨none, (some 3), .mov (.c (.int .i64 5)), []⟩])
            .ret)
           .skip))
         (.reg [4] [
           ⟨none, (some 30), .mov (.t 4), []⟩,
           ⟨none, (some 31), .ldV 8 none 5 true, []⟩,
           ⟨none, (some 32), .bldS 5 1 [.int .i8 0, .int .i8 0, .int .i8 0, .int .i8 0, .slice none 0 0] [(0, 5, (.t 31))], []⟩,
           ⟨none, (some 33), .app 5 32 (.t 30) (.t 32), []⟩,
           ⟨none, (some 4), .mov (.t 33), []⟩])))))
     (.reg [19] [
       ⟨none, (some 34), .bin .add (.t 19) (.c (.int .i64 1)), []⟩,
       ⟨none, (some 19), .mov (.t 34), []⟩]))))
def k290 : Cd :=
  (.seq
   (.reg [2, 3] [
     ⟨none, (some 2), .mov (.c (.slice none 0 0)), []⟩,
     ⟨none, (some 3), .mov (.c (.int .i64 0)), []⟩])
   (.seq
    (.reg [4, 5] [
      ⟨none, (some 10), .bldS 5 0 [.int .i8 0, .int .i8 0, .int .i8 0, .int .i8 0, .slice none 0 0] [], []⟩,
      ⟨none, (some 11), .mov (.t 0), []⟩,
      ⟨none, (some 12), .call false 485 [.t 11, .c (.string ⟨#[10]⟩)], []⟩,
      ⟨none, (some 4), .mov (.t 10), []⟩,
      ⟨none, (some 5), .mov (.t 12), []⟩])
    (.seq
     (.seq
      (.reg [17, 18, 19] [
        ⟨none, (some 13), .mov (.t 5), []⟩,
        ⟨none, (some 14), .mov (.t 5), []⟩,
        ⟨none, (some 15), .len (.t 14), []⟩,
        ⟨none, (some 16), .bin .sub (.t 15) (.c (.int .i64 1)), []⟩,
        ⟨none, (some 17), .slcA 1 (.t 13) none (some (.t 16)) none, []⟩,
        ⟨none, (some 18), .len (.t 17), []⟩,
        ⟨none, (some 19), .mov (.c (.int .i64 0)), []⟩])
      (.block 0
       (.loop b290_1)))
     (.seq
      (.seq
       (.reg [43] [
         ⟨none, (some 35), .mov (.t 4), []⟩,
         ⟨none, (some 36), .call true 163 [.t 35], []⟩,
         ⟨none, (some 37), .un .not (.t 36), []⟩,
         ⟨none, (some 38), .mov (.t 37), []⟩,
         ⟨(some (38, false)), (some 39), .mov (.t 4), []⟩,
         ⟨(some (38, false)), (some 40), .call true 271 [.t 39], []⟩,
         ⟨(some (38, false)), (some 41), .mov (.t 0), []⟩,
         ⟨(some (38, false)), (some 42), .eq .s true (.t 40) (.t 41), []⟩,
         ⟨none, (some 43), .pick (.t 38) (.c (.bool true)) (.t 42), []⟩])
       (.cond (.t 43)
        (.seq
         (.reg [2, 3] [
           ⟨none, (some 2), .mov (.c (.slice none 0 0)), []⟩,
           ⟨none, (some 3), .mov (.c (.int .i64 5)), []⟩])
         .ret)
        .skip))
      (.seq
       (.reg [2, 3] [
         ⟨none, (some 44), .mov (.t 4), []⟩,
         ⟨none, (some 2), .mov (.t 44), []⟩,
         ⟨none, (some 3), .mov (.c (.int .i64 0)), []⟩])
       .ret)))))
def c290 : Fn := { np := 1, nt := 45, kind := .pure, res := [.t 2, .t 3], body := k290 }

/- impl.inRange -/
def k295 : Cd :=
  (.seq
   (.reg [6] [
     ⟨none, (some 6), .mov (.c (.bool false)), []⟩])
   (.seq
    (.reg [6] [
      ⟨none, (some 7), .mov (.t 1), []⟩,
      ⟨none, (some 8), .mov (.t 0), []⟩,
      ⟨none, (some 9), .bin .leq (.t 7) (.t 8), []⟩,
      ⟨none, (some 10), .mov (.t 9), []⟩,
      ⟨(some (10, true)), (some 11), .mov (.t 0), []⟩,
      ⟨(some (10, true)), (some 12), .mov (.t 2), []⟩,
      ⟨(some (10, true)), (some 13), .bin .leq (.t 11) (.t 12), []⟩,
      ⟨none, (some 14), .pick (.t 10) (.t 13) (.c (.bool false)), []⟩,
      ⟨none, (some 6), .mov (.t 14), []⟩])
    .ret))
def c295 : Fn := { np := 3, nt := 15, kind := .pure, res := [.t 6], body := k295 }

/- spec.l00In -/
def k304 : Cd :=
  (.seq
   (.reg [6] [
     ⟨none, (some 6), .mov (.c (.bool false)), []⟩])
   (.seq
    (.reg [6] [
      ⟨none, (some 7), .mov (.t 0), []⟩,
      ⟨none, (some 8), .mov (.t 1), []⟩,
      ⟨none, (some 9), .bin .geq (.t 7) (.t 8), []⟩,
      ⟨none, (some 10), .mov (.t 9), []⟩,
      ⟨(some (10, true)), (some 11), .mov (.t 0), []⟩,
      ⟨(some (10, true)), (some 12), .mov (.t 2), []⟩,
      ⟨(some (10, true)), (some 13), .bin .leq (.t 11) (.t 12), []⟩,
      ⟨none, (some 14), .pick (.t 10) (.t 13) (.c (.bool false)), []⟩,
      ⟨none, (some 6), .mov (.t 14), []⟩])
    .ret))
def c304 : Fn := { np := 3, nt := 15, kind := .pure, res := [.t 6], body := k304 }

/- spec.l01Put -/
def k305 : Cd :=
  (.seq
   (.reg [8] [
     ⟨none, (some 6), .mov (.t 1), []⟩,
     ⟨none, (some 7), .mov (.t 2), []⟩,
     ⟨none, (some 8), .call true 342 [.t 6, .t 7], []⟩])
   (.cond (.t 8)
    (.reg [] [
      ⟨none, (some 9), .mov (.t 0), []⟩,
      ⟨none, (some 10), .mov (.t 2), []⟩,
      ⟨none, (some 11), .mov (.t 0), []⟩,
      ⟨none, (some 12), .mov (.t 2), []⟩,
      ⟨none, (some 13), .nil (.t 11), []⟩,
      ⟨none, (some 14), .idxP 12 1 (.t 13) (.t 12), []⟩,
      ⟨none, (some 15), .ld 1 false (.t 14), []⟩,
      ⟨none, (some 16), .mov (.t 1), []⟩,
      ⟨none, (some 17), .conv .u64 (.t 16), []⟩,
      ⟨none, (some 18), .bin .shl (.c (.int .u16 1)) (.t 17), []⟩,
      ⟨none, (some 19), .bin .or (.t 15) (.t 18), []⟩,
      ⟨none, (some 20), .nil (.t 9), []⟩,
      ⟨none, (some 21), .idxP 12 1 (.t 20) (.t 10), []⟩,
      ⟨none, none, .st 1 (.t 21) (.t 19), []⟩])
    .skip))
def c305 : Fn := { np := 3, nt := 22, kind := .args, res := [], body := k305 }

/- spec.l06How -/
def k309 : Cd :=
  (.seq
   (.reg [2] [
     ⟨none, (some 2), .mov (.c (.bool false)), []⟩])
   (.seq
    (.reg [2] [
      ⟨none, (some 3), .mov (.t 0), []⟩,
      ⟨none, (some 4), .call true 304 [.t 3, .c (.int .i64 0), .c (.int .i64 2)], []⟩,
      ⟨none, (some 2), .mov (.t 4), []⟩])
    .ret))
def c309 : Fn := { np := 1, nt := 5, kind := .pure, res := [.t 2], body := k309 }

/- spec.l06Cost -/
def k310 : Cd :=
  (.seq
   (.reg [2] [
     ⟨none, (some 2), .mov (.c (.int .i64 0)), []⟩])
   (.seq
    (.reg [3] [
      ⟨none, (some 4), .agg [.int .i64 0, .int .i64 0, .int .i64 0] [(0, 1, (.c (.int .i64 1))), (1, 1, (.c (.int .i64 2))), (2, 1, (.c (.int .i64 4)))], []⟩,
      ⟨none, (some 3), .zero true [.int .i64 0, .int .i64 0, .int .i64 0], []⟩,
      ⟨none, (some 3), .stV 3 none 3 (.t 4), []⟩])
    (.seq
     (.reg [2] [
       ⟨none, (some 5), .mov (.t 0), []⟩,
       ⟨none, (some 6), .nil (.t 5), []⟩,
       ⟨none, (some 7), .fldP 0 (.t 6), []⟩,
       ⟨none, (some 8), .ld 1 false (.t 7), []⟩,
       ⟨none, (some 9), .adrI 3 none 3 1 (.t 8), []⟩,
       ⟨none, (some 10), .ldV 3 (some 9) 1 false, []⟩,
       ⟨none, (some 11), .mov (.t 0), []⟩,
       ⟨none, (some 12), .nil (.t 11), []⟩,
       ⟨none, (some 13), .fldP 4 (.t 12), []⟩,
       ⟨none, (some 14), .ld 1 false (.t 13), []⟩,
       ⟨none, (some 15), .len (.t 14), []⟩,
       ⟨none, (some 16), .bin .mul (.c (.int .i64 3)) (.t 15), []⟩,
       ⟨none, (some 17), .bin .add (.t 10) (.t 16), []⟩,
       ⟨none, (some 2), .mov (.t 17), []⟩])
     .ret)))
def c310 : Fn := { np := 1, nt := 18, kind := .pure, res := [.t 2], body := k310 }

/- (impl.Step).cost -/
def k312 : Cd :=
  (.seq
   (.reg [1, 2] [
     ⟨none, (some 1), .mov (.t 0), []⟩,
     ⟨none, (some 2), .mov (.c (.int .i64 0)), []⟩])
   (.seq
    (.reg [3] [
      ⟨none, (some 4), .agg [.int .i64 0, .int .i64 0, .int .i64 0] [(0, 1, (.c (.int .i64 1))), (1, 1, (.c (.int .i64 2))), (2, 1, (.c (.int .i64 4)))], []⟩,
      ⟨none, (some 3), .zero true [.int .i64 0, .int .i64 0, .int .i64 0], []⟩,
      ⟨none, (some 3), .stV 3 none 3 (.t 4), []⟩])
    (.seq
     (.reg [2] [
       ⟨none, (some 5), .adrF 1 none 4, []⟩,
       ⟨none, (some 6), .ldV 1 (some 5) 1 false, []⟩,
       ⟨none, (some 9), .adrF 1 none 0, []⟩,
       ⟨none, (some 10), .ldV 1 (some 9) 1 false, []⟩,
       ⟨none, (some 11), .adrI 3 none 3 1 (.t 10), []⟩,
       ⟨none, (some 12), .ldV 3 (some 11) 1 false, []⟩,
       ⟨none, (some 7), .call true 490 [.t 6], []⟩,
       ⟨none, (some 8), .bin .mul (.c (.int .i64 3)) (.t 7), []⟩,
       ⟨none, (some 13), .bin .add (.t 8) (.t 12), []⟩,
       ⟨none, (some 2), .mov (.t 13), []⟩])
     .ret)))
def c312 : Fn := { np := 1, nt := 14, kind := .pure, res := [.t 2], body := k312 }

/- spec.l00From -/
def k315 : Cd :=
  (.seq
   (.reg [2] [
     ⟨none, (some 2), .mov (.c (.pointer none)), []⟩])
   (.seq
    (.reg [2] [
      ⟨none, (some 3), .mov (.t 0), []⟩,
      ⟨none, (some 4), .agg [.slice none 0 0, .int .i64 0, .int .u64 0] [(0, 1, (.t 3))], []⟩,
      ⟨none, (some 5), .box 3 (.t 4), []⟩,
      ⟨none, (some 2), .mov (.t 5), []⟩])
    .ret))
def c315 : Fn := { np := 1, nt := 6, kind := .pure, res := [.t 2], body := k315 }

/- impl.ValidBook -/
def k316 : Cd :=
  (.seq
   (.reg [2] [
     ⟨none, (some 2), .mov (.c (.bool false)), []⟩])
   (.seq
    (.reg [2] [
      ⟨none, (some 3), .mov (.t 0), []⟩,
      ⟨none, (some 4), .len (.t 3), []⟩,
      ⟨none, (some 5), .bin .leq (.t 4) (.c (.int .i64 40)), []⟩,
      ⟨none, (some 6), .mov (.t 5), []⟩,
      ⟨(some (6, true)), (some 7), .mov (.t 0), []⟩,
      ⟨(some (6, true)), (some 8), .call true 351 [.t 7], []⟩,
      ⟨none, (some 9), .pick (.t 6) (.t 8) (.c (.bool false)), []⟩,
      ⟨none, (some 2), .mov (.t 9), []⟩])
    .ret))
def c316 : Fn := { np := 1, nt := 10, kind := .pure, res := [.t 2], body := k316 }

/- spec.l02Ok -/
def b318_1 : Cd :=
  (.seq
   (.seq
    (.reg [7] [
      ⟨none, (some 4), .mov (.t 3), []⟩,
      ⟨none, (some 5), .mov (.t 0), []⟩,
      ⟨none, (some 6), .len (.t 5), []⟩,
      ⟨none, (some 7), .bin .lss (.t 4) (.t 6), []⟩])
    (.cond (.t 7)
     .skip
     (.exit 0)))
   (.seq
    (.block 1
     (.seq
      (.reg [14] [
        ⟨none, (some 10), .mov (.t 0), []⟩,
        ⟨none, (some 11), .mov (.t 3), []⟩,
        ⟨none, (some 12), .idxA 12 (.t 10) (.t 11), []⟩,
        ⟨none, (some 13), .call true 359 [.t 12], []⟩,
        ⟨none, (some 14), .un .not (.t 13), []⟩])
      (.cond (.t 14)
       (.seq
        (.reg [2] [
          ⟨none, (some 2), .mov (.c (.bool false)), []⟩])
        .ret)
       .skip)))
    (.reg [3] [
      ⟨none, (some 8), .mov (.t 3), []⟩,
      ⟨none, (some 9), .bin .add (.t 8) (.c (.int .i64 1)), []⟩,
      ⟨none, (some 3), .mov (.t 9), []⟩])))
def k318 : Cd :=
  (.seq
   (.reg [2] [
     ⟨none, (some 2), .mov (.c (.bool false)), []⟩])
   (.seq
    (.seq
     (.reg [3] [
       ⟨none, (some 3), .mov (.c (.int .i64 0)), []⟩])
     (.block 0
      (.loop b318_1)))
    (.seq
     (.reg [2] [
       ⟨none, (some 15), .mov (.t 0), []⟩,
       ⟨none, (some 16), .len (.t 15), []⟩,
       ⟨none, (some 17), .bin .leq (.t 16) (.c (.int .i64 40)), []⟩,
       ⟨none, (some 2), .mov (.t 17), []⟩])
     .ret)))
def c318 : Fn := { np := 1, nt := 18, kind := .pure, res := [.t 2], body := k318 }

/- spec.l02Same -/
def b323_1 : Cd :=
  (.seq
   (.seq
    (.reg [14] [
      ⟨none, (some 11), .mov (.t 5), []⟩,
      ⟨none, (some 12), .mov (.t 0), []⟩,
      ⟨none, (some 13), .len (.t 12), []⟩,
      ⟨none, (some 14), .bin .lss (.t 11) (.t 13), []⟩])
    (.cond (.t 14)
     .skip
     (.exit 0)))
   (.seq
    (.block 1
     (.seq
      (.reg [25] [
        ⟨none, (some 17), .mov (.t 0), []⟩,
        ⟨none, (some 18), .mov (.t 5), []⟩,
        ⟨none, (some 19), .idxA 12 (.t 17) (.t 18), []⟩,
        ⟨none, (some 20), .ld 12 true (.t 19), []⟩,
        ⟨none, (some 21), .mov (.t 1), []⟩,
        ⟨none, (some 22), .mov (.t 5), []⟩,
        ⟨none, (some 23), .idxA 12 (.t 21) (.t 22), []⟩,
        ⟨none, (some 24), .ld 12 true (.t 23), []⟩,
        ⟨none, (some 25), .eq (.a (rb 12 (some .u16))) true (.t 20) (.t 24), []⟩])
      (.cond (.t 25)
       (.seq
        (.reg [4] [
          ⟨none, (some 4), .mov (.c (.bool false)), []⟩])
        .ret)
       .skip)))
    (.reg [5] [
      ⟨none, (some 15), .mov (.t 5), []⟩,
      ⟨none, (some 16), .bin .add (.t 15) (.c (.int .i64 1)), []⟩,
      ⟨none, (some 5), .mov (.t 16), []⟩])))
def k323 : Cd :=
  (.seq
   (.reg [4] [
     ⟨none, (some 4), .mov (.c (.bool false)), []⟩])
   (.seq
    (.seq
     (.reg [10] [
       ⟨none, (some 6), .mov (.t 0), []⟩,
       ⟨none, (some 7), .len (.t 6), []⟩,
       ⟨none, (some 8), .mov (.t 1), []⟩,
       ⟨none, (some 9), .len (.t 8), []⟩,
       ⟨none, (some 10), .bin .neq (.t 7) (.t 9), []⟩])
     (.cond (.t 10)
      (.seq
       (.reg [4] [
         ⟨none, (some 4), .mov (.c (.bool false)), []⟩])
       .ret)
      .skip))
    (.seq
     (.seq
      (.reg [5] [
        ⟨none, (some 5), .mov (.c (.int .i64 0)), []⟩])
      (.block 0
       (.loop b323_1)))
     (.seq
      (.reg [4] [
        ⟨none, (some 4), .mov (.c (.bool true)), []⟩])
      .ret))))
def c323 : Fn := { np := 2, nt := 26, kind := .pure, res := [.t 4], body := k323 }

/- spec.l06Parity -/
def b339_1 : Cd :=
  (.seq
   (.seq
    (.reg [14] [
      ⟨none, (some 13), .mov (.t 5), []⟩,
      ⟨none, (some 14), .bin .lss (.t 13) (.c (.int .i64 12)), []⟩])
    (.cond (.t 14)
     .skip
     (.exit 2)))
   (.seq
    (.block 3
     (.reg [3] [
       ⟨none, (some 17), .mov (.t 5), []⟩,
       ⟨none, (some 18), .adrI 3 none 12 1 (.t 17), []⟩,
       ⟨none, (some 19), .ldV 3 (some 18) 1 false, []⟩,
       ⟨none, (some 20), .mov (.t 0), []⟩,
       ⟨none, (some 21), .mov (.t 4), []⟩,
       ⟨none, (some 22), .mov (.t 5), []⟩,
       ⟨none, (some 23), .idxA 12 (.t 20) (.t 21), []⟩,
       ⟨none, (some 24), .idxP 12 1 (.t 23) (.t 22), []⟩,
       ⟨none, (some 25), .ld 1 false (.t 24), []⟩,
       ⟨none, (some 26), .bin .xor (.t 19) (.t 25), []⟩,
       ⟨none, (some 27), .adrI 3 none 12 1 (.t 17), []⟩,
       ⟨none, (some 3), .stV 3 (some 27) 1 (.t 26), []⟩]))
    (.reg [5] [
      ⟨none, (some 15), .mov (.t 5), []⟩,
      ⟨none, (some 16), .bin .add (.t 15) (.c (.int .i64 1)), []⟩,
      ⟨none, (some 5), .mov (.t 16), []⟩])))
def b339_2 : Cd :=
  (.seq
   (.seq
    (.reg [10] [
      ⟨none, (some 7), .mov (.t 4), []⟩,
      ⟨none, (some 8), .mov (.t 0), []⟩,
      ⟨none, (some 9), .len (.t 8), []⟩,
      ⟨none, (some 10), .bin .lss (.t 7) (.t 9), []⟩])
    (.cond (.t 10)
     .skip
     (.exit 0)))
   (.seq
    (.block 1
     (.seq
      (.reg [5] [
        ⟨none, (some 5), .mov (.c (.int .i64 0)), []⟩])
      (.block 2
       (.loop b339_1))))
    (.reg [4] [
      ⟨none, (some 11), .mov (.t 4), []⟩,
      ⟨none, (some 12), .bin .add (.t 11) (.c (.int .i64 1)), []⟩,
      ⟨none, (some 4), .mov (.t 12), []⟩])))
def k339 : Cd :=
  (.seq
   (.reg [2] [
     ⟨none, (some 2), .zero true (zs 12 (.int .u16 0)), []⟩])
   (.seq
    (.reg [3] [
      ⟨none, (some 6), .agg (zs 12 (.int .u16 0)) [], []⟩,
      ⟨none, (some 3), .zero true (zs 12 (.int .u16 0)), []⟩,
      ⟨none, (some 3), .stV 3 none 12 (.t 6), []⟩])
    (.seq
     (.seq
      (.reg [4] [
        ⟨none, (some 4), .mov (.c (.int .i64 0)), []⟩])
      (.block 0
       (.loop b339_2)))
     (.seq
      (.reg [2] [
        ⟨none, (some 28), .ldV 3 none 12 true, []⟩,
        ⟨none, (some 2), .stV 2 none 12 (.t 28), []⟩])
      .ret))))
def c339 : Fn := { np := 1, nt := 29, kind := .pure, res := [.v 2 12 true], body := k339 }

/- (impl.Book).parity -/
def b340_1 : Cd :=
  (.seq
   (.reg [10] [
     ⟨none, (some 10), .bin .lss (.t 9) (.t 8), []⟩])
   (.seq
    (.cond (.t 10)
     .skip
     (.exit 0))
    (.seq
     (.block 1
      (.seq
       (.reg [5] [
         ⟨none, (some 11), .idxA 12 (.t 7) (.t 9), []⟩,
         ⟨none, (some 12), .ld 12 true (.t 11), []⟩,
         ⟨none, (some 5), .zero true (zs 12 (.int .u16 0)), []⟩,
         ⟨none, (some 5), .stV 5 none 12 (.t 12), []⟩])
       (.reg [3] [
         ⟨none, (some 13), .ldV 3 none 12 true, []⟩,
         ⟨none, (some 14), .ldV 5 none 12 true, []⟩,
         ⟨none, (some 15), .call true 367 [.t 13, .t 14], []⟩,
         ⟨none, (some 3), .stV 3 none 12 (.t 15), []⟩])))
     (.reg [9] [
       ⟨none, (some 16), .bin .add (.t 9) (.c (.int .i64 1)), []⟩,
       ⟨none, (some 9), .mov (.t 16), []⟩]))))
def k340 : Cd :=
  (.seq
   (.reg [2] [
     ⟨none, (some 2), .zero true (zs 12 (.int .u16 0)), []⟩])
   (.seq
    (.reg [3] [
      ⟨none, (some 6), .agg (zs 12 (.int .u16 0)) [], []⟩,
      ⟨none, (some 3), .zero true (zs 12 (.int .u16 0)), []⟩,
      ⟨none, (some 3), .stV 3 none 12 (.t 6), []⟩])
    (.seq
     (.seq
      (.reg [7, 8, 9] [
        ⟨none, (some 7), .mov (.t 0), []⟩,
        ⟨none, (some 8), .len (.t 7), []⟩,
        ⟨none, (some 9), .mov (.c (.int .i64 0)), []⟩])
      (.block 0
       (.loop b340_1)))
     (.seq
      (.reg [2] [
        ⟨none, (some 17), .ldV 3 none 12 true, []⟩,
        ⟨none, (some 2), .stV 2 none 12 (.t 17), []⟩])
      .ret))))
def c340 : Fn := { np := 1, nt := 18, kind := .pure, res := [.v 2 12 true], body := k340 }

/- slices.Equal[impl.Book,impl.Frame] -/
def b341_1 : Cd :=
  (.seq
   (.reg [14] [
     ⟨none, (some 14), .bin .lss (.t 13) (.t 12), []⟩])
   (.seq
    (.cond (.t 14)
     .skip
     (.exit 0))
    (.seq
     (.block 1
      (.seq
       (.reg [5] [
         ⟨none, (some 15), .mov (.t 13), []⟩,
         ⟨none, (some 5), .mov (.t 15), []⟩])
       (.seq
        (.reg [24] [
          ⟨none, (some 16), .mov (.t 0), []⟩,
          ⟨none, (some 17), .mov (.t 5), []⟩,
          ⟨none, (some 18), .idxA 12 (.t 16) (.t 17), []⟩,
          ⟨none, (some 19), .ld 12 true (.t 18), []⟩,
          ⟨none, (some 20), .mov (.t 1), []⟩,
          ⟨none, (some 21), .mov (.t 5), []⟩,
          ⟨none, (some 22), .idxA 12 (.t 20) (.t 21), []⟩,
          ⟨none, (some 23), .ld 12 true (.t 22), []⟩,
          ⟨none, (some 24), .eq (.a (rb 12 (some .u16))) true (.t 19) (.t 23), []⟩])
        (.cond (.t 24)
         (.seq
          (.reg [4] [
            ⟨none, (some 4), .mov (.c (.bool false)), []⟩])
          .ret)
         .skip))))
     (.reg [13] [
       ⟨none, (some 25), .bin .add (.t 13) (.c (.int .i64 1)), []⟩,
       ⟨none, (some 13), .mov (.t 25), []⟩]))))
def k341 : Cd :=
  (.seq
   (.reg [4] [
     ⟨none, (some 4), .mov (.c (.bool false)), []⟩])
   (.seq
    (.seq
     (.reg [10] [
       ⟨none, (some 6), .mov (.t 0), []⟩,
       ⟨none, (some 7), .len (.t 6), []⟩,
       ⟨none, (some 8), .mov (.t 1), []⟩,
       ⟨none, (some 9), .len (.t 8), []⟩,
       ⟨none, (some 10), .bin .neq (.t 7) (.t 9), []⟩])
     (.cond (.t 10)
      (.seq
       (.reg [4] [
         ⟨none, (some 4), .mov (.c (.bool false)), []⟩])
       .ret)
      .skip))
    (.seq
     (.seq
      (.reg [12, 13] [
        ⟨none, (some 11), .mov (.t 0), []⟩,
        ⟨none, (some 12), .len (.t 11), []⟩,
        ⟨none, (some 13), .mov (.c (.int .i64 0)), []⟩])
      (.block 0
       (.loop b341_1)))
     (.seq
      (.reg [4] [
        ⟨none, (some 4), .mov (.c (.bool true)), []⟩])
      .ret))))
def c341 : Fn := { np := 2, nt := 26, kind := .pure, res := [.t 4], body := k341 }

/- spec.l01Place -/
def k342 : Cd :=
  (.seq
   (.reg [4] [
     ⟨none, (some 4), .mov (.c (.bool false)), []⟩])
   (.seq
    (.reg [4] [
      ⟨none, (some 5), .mov (.t 0), []⟩,
      ⟨none, (some 6), .call true 304 [.t 5, .c (.int .i64 0), .c (.int .i64 11)], []⟩,
      ⟨none, (some 7), .mov (.t 6), []⟩,
      ⟨(some (7, true)), (some 8), .mov (.t 1), []⟩,
      ⟨(some (7, true)), (some 9), .call true 304 [.t 8, .c (.int .i64 0), .c (.int .i64 11)], []⟩,
      ⟨none, (some 10), .pick (.t 7) (.t 9) (.c (.bool false)), []⟩,
      ⟨none, (some 4), .mov (.t 10), []⟩])
    .ret))
def c342 : Fn := { np := 2, nt := 11, kind := .pure, res := [.t 4], body := k342 }

/- impl.areFrames -/
def k351 : Cd :=
  (.seq
   (.reg [2] [
     ⟨none, (some 2), .mov (.c (.bool false)), []⟩])
   (.seq
    (.reg [2] [
      ⟨none, (some 3), .mov (.t 0), []⟩,
      ⟨none, (some 4), .call true 505 [.t 3, .f 506], []⟩,
      ⟨none, (some 5), .un .not (.t 4), []⟩,
      ⟨none, (some 2), .mov (.t 5), []⟩])
    .ret))
def c351 : Fn := { np := 1, nt := 6, kind := .pure, res := [.t 2], body := k351 }

/- spec.l01Moved -/
def b355_1 : Cd :=
  (.seq
   (.seq
    (.reg [16] [
      ⟨none, (some 13), .mov (.t 9), []⟩,
      ⟨none, (some 14), .mov (.t 8), []⟩,
      ⟨none, (some 15), .len (.t 14), []⟩,
      ⟨none, (some 16), .bin .lss (.t 13) (.t 15), []⟩])
    (.cond (.t 16)
     .skip
     (.exit 0)))
   (.seq
    (.block 1
     (.reg [] [
       ⟨none, (some 19), .mov (.t 8), []⟩,
       ⟨none, (some 20), .mov (.t 9), []⟩,
       ⟨none, (some 21), .idxA 2 (.t 19) (.t 20), []⟩,
       ⟨none, (some 22), .fldP 0 (.t 21), []⟩,
       ⟨none, (some 23), .ld 1 false (.t 22), []⟩,
       ⟨none, (some 24), .conv .i64 (.t 23), []⟩,
       ⟨none, (some 25), .mov (.t 1), []⟩,
       ⟨none, (some 26), .bin .add (.t 24) (.t 25), []⟩,
       ⟨none, (some 27), .mov (.t 8), []⟩,
       ⟨none, (some 28), .mov (.t 9), []⟩,
       ⟨none, (some 29), .idxA 2 (.t 27) (.t 28), []⟩,
       ⟨none, (some 30), .fldP 1 (.t 29), []⟩,
       ⟨none, (some 31), .ld 1 false (.t 30), []⟩,
       ⟨none, (some 32), .conv .i64 (.t 31), []⟩,
       ⟨none, (some 33), .mov (.t 2), []⟩,
       ⟨none, (some 34), .bin .add (.t 32) (.t 33), []⟩,
       ⟨none, (some 35), .call false 305 [.t 7, .t 26, .t 34], []⟩]))
    (.reg [9] [
      ⟨none, (some 17), .mov (.t 9), []⟩,
      ⟨none, (some 18), .bin .add (.t 17) (.c (.int .i64 1)), []⟩,
      ⟨none, (some 9), .mov (.t 18), []⟩])))
def k355 : Cd :=
  (.seq
   (.reg [6] [
     ⟨none, (some 6), .zero true (zs 12 (.int .u16 0)), []⟩])
   (.seq
    (.reg [7] [
      ⟨none, (some 10), .agg (zs 12 (.int .u16 0)) [], []⟩,
      ⟨none, (some 7), .new 1 (zs 12 (.int .u16 0)), []⟩,
      ⟨none, none, .st 12 (.t 7) (.t 10), []⟩])
    (.seq
     (.reg [8] [
       ⟨none, (some 11), .mov (.t 0), []⟩,
       ⟨none, (some 12), .call true 440 [.t 11], []⟩,
       ⟨none, (some 8), .mov (.t 12), []⟩])
     (.seq
      (.seq
       (.reg [9] [
         ⟨none, (some 9), .mov (.c (.int .i64 0)), []⟩])
       (.block 0
        (.loop b355_1)))
      (.seq
       (.reg [6] [
         ⟨none, (some 36), .ld 12 true (.t 7), []⟩,
         ⟨none, (some 6), .stV 6 none 12 (.t 36), []⟩])
       .ret)))))
def c355 : Fn := { np := 3, nt := 37, kind := .pure, res := [.v 6 12 true], body := k355 }

/- spec.l00Same -/
def b356_1 : Cd :=
  (.seq
   (.seq
    (.reg [14] [
      ⟨none, (some 11), .mov (.t 5), []⟩,
      ⟨none, (some 12), .mov (.t 0), []⟩,
      ⟨none, (some 13), .len (.t 12), []⟩,
      ⟨none, (some 14), .bin .lss (.t 11) (.t 13), []⟩])
    (.cond (.t 14)
     .skip
     (.exit 0)))
   (.seq
    (.block 1
     (.seq
      (.reg [25] [
        ⟨none, (some 17), .mov (.t 0), []⟩,
        ⟨none, (some 18), .mov (.t 5), []⟩,
        ⟨none, (some 19), .idxA 1 (.t 17) (.t 18), []⟩,
        ⟨none, (some 20), .ld 1 false (.t 19), []⟩,
        ⟨none, (some 21), .mov (.t 1), []⟩,
        ⟨none, (some 22), .mov (.t 5), []⟩,
        ⟨none, (some 23), .idxA 1 (.t 21) (.t 22), []⟩,
        ⟨none, (some 24), .ld 1 false (.t 23), []⟩,
        ⟨none, (some 25), .bin .neq (.t 20) (.t 24), []⟩])
      (.cond (.t 25)
       (.seq
        (.reg [4] [
          ⟨none, (some 4), .mov (.c (.bool false)), []⟩])
        .ret)
       .skip)))
    (.reg [5] [
      ⟨none, (some 15), .mov (.t 5), []⟩,
      ⟨none, (some 16), .bin .add (.t 15) (.c (.int .i64 1)), []⟩,
      ⟨none, (some 5), .mov (.t 16), []⟩])))
def k356 : Cd :=
  (.seq
   (.reg [4] [
     ⟨none, (some 4), .mov (.c (.bool false)), []⟩])
   (.seq
    (.seq
     (.reg [10] [
       ⟨none, (some 6), .mov (.t 0), []⟩,
       ⟨none, (some 7), .len (.t 6), []⟩,
       ⟨none, (some 8), .mov (.t 1), []⟩,
       ⟨none, (some 9), .len (.t 8), []⟩,
       ⟨none, (some 10), .bin .neq (.t 7) (.t 9), []⟩])
     (.cond (.t 10)
      (.seq
       (.reg [4] [
         ⟨none, (some 4), .mov (.c (.bool false)), []⟩])
       .ret)
      .skip))
    (.seq
     (.seq
      (.reg [5] [
        ⟨none, (some 5), .mov (.c (.int .i64 0)), []⟩])
      (.block 0
       (.loop b356_1)))
     (.seq
      (.reg [4] [
        ⟨none, (some 4), .mov (.c (.bool true)), []⟩])
      .ret))))
def c356 : Fn := { np := 2, nt := 26, kind := .pure, res := [.t 4], body := k356 }

/- (impl.Frame).moved -/
def b358_1 : Cd :=
  (.seq
   (.reg [16] [
     ⟨none, (some 16), .bin .lss (.t 15) (.c (.int .i64 12)), []⟩])
   (.seq
    (.cond (.t 16)
     .skip
     (.exit 0))
    (.seq
     (.block 1
      (.seq
       (.reg [8] [
         ⟨none, (some 17), .mov (.t 15), []⟩,
         ⟨none, (some 8), .mov (.t 17), []⟩])
       (.seq
        (.reg [9] [
          ⟨none, (some 18), .mov (.t 8), []⟩,
          ⟨none, (some 19), .mov (.t 2), []⟩,
          ⟨none, (some 20), .bin .sub (.t 18) (.t 19), []⟩,
          ⟨none, (some 9), .mov (.t 20), []⟩])
        (.seq
         (.seq
          (.reg [23] [
            ⟨none, (some 21), .mov (.t 9), []⟩,
            ⟨none, (some 22), .call true 295 [.t 21, .c (.int .i64 0), .c (.int .i64 11)], []⟩,
            ⟨none, (some 23), .un .not (.t 22), []⟩])
          (.cond (.t 23)
           (.exit 1)
           .skip))
         (.seq
          (.reg [25] [
            ⟨none, (some 24), .mov (.t 1), []⟩,
            ⟨none, (some 25), .bin .geq (.t 24) (.c (.int .i64 0)), []⟩])
          (.cond (.t 25)
           (.reg [7] [
             ⟨none, (some 26), .mov (.t 8), []⟩,
             ⟨none, (some 27), .mov (.t 9), []⟩,
             ⟨none, (some 28), .adrI 3 none 12 1 (.t 27), []⟩,
             ⟨none, (some 29), .ldV 3 (some 28) 1 false, []⟩,
             ⟨none, (some 30), .mov (.t 1), []⟩,
             ⟨none, (some 31), .bin .shl (.t 29) (.t 30), []⟩,
             ⟨none, (some 32), .bin .and (.t 31) (.c (.int .u16 4095)), []⟩,
             ⟨none, (some 33), .adrI 7 none 12 1 (.t 26), []⟩,
             ⟨none, (some 7), .stV 7 (some 33) 1 (.t 32), []⟩])
           (.reg [7] [
             ⟨none, (some 34), .mov (.t 8), []⟩,
             ⟨none, (some 35), .mov (.t 9), []⟩,
             ⟨none, (some 36), .adrI 3 none 12 1 (.t 35), []⟩,
             ⟨none, (some 37), .ldV 3 (some 36) 1 false, []⟩,
             ⟨none, (some 38), .mov (.t 1), []⟩,
             ⟨none, (some 39), .un .neg (.t 38), []⟩,
             ⟨none, (some 40), .bin .shr (.t 37) (.t 39), []⟩,
             ⟨none, (some 41), .adrI 7 none 12 1 (.t 34), []⟩,
             ⟨none, (some 7), .stV 7 (some 41) 1 (.t 40), []⟩])))))))
     (.reg [15] [
       ⟨none, (some 42), .bin .add (.t 15) (.c (.int .i64 1)), []⟩,
       ⟨none, (some 15), .mov (.t 42), []⟩]))))
def k358 : Cd :=
  (.seq
   (.reg [3, 6] [
     ⟨none, (some 3), .mov (.t 0), []⟩,
     ⟨none, (some 6), .zero true (zs 12 (.int .u16 0)), []⟩])
   (.seq
    (.reg [7] [
      ⟨none, (some 10), .agg (zs 12 (.int .u16 0)) [], []⟩,
      ⟨none, (some 7), .zero true (zs 12 (.int .u16 0)), []⟩,
      ⟨none, (some 7), .stV 7 none 12 (.t 10), []⟩])
    (.seq
     (.seq
      (.reg [13] [
        ⟨none, (some 11), .mov (.t 1), []⟩,
        ⟨none, (some 12), .call true 295 [.t 11, .c (.int .i64 (-12)), .c (.int .i64 12)], []⟩,
        ⟨none, (some 13), .un .not (.t 12), []⟩])
      (.cond (.t 13)
       (.seq
        (.reg [6] [
          ⟨none, (some 14), .ldV 7 none 12 true, []⟩,
          ⟨none, (some 6), .stV 6 none 12 (.t 14), []⟩])
        .ret)
       .skip))
     (.seq
      (.seq
       (.reg [15] [
         ⟨none, (some 15), .mov (.c (.int .i64 0)), []⟩])
       (.block 0
        (.loop b358_1)))
      (.seq
       (.reg [6] [
         ⟨none, (some 43), .ldV 7 none 12 true, []⟩,
         ⟨none, (some 6), .stV 6 none 12 (.t 43), []⟩])
       .ret)))))
def c358 : Fn := { np := 3, nt := 44, kind := .pure, res := [.v 6 12 true], body := k358 }

/- spec.l01Ok -/
def b359_1 : Cd :=
  (.seq
   (.seq
    (.reg [5] [
      ⟨none, (some 4), .mov (.t 3), []⟩,
      ⟨none, (some 5), .bin .lss (.t 4) (.c (.int .i64 12)), []⟩])
    (.cond (.t 5)
     .skip
     (.exit 0)))
   (.seq
    (.block 1
     (.seq
      (.reg [13] [
        ⟨none, (some 8), .mov (.t 0), []⟩,
        ⟨none, (some 9), .mov (.t 3), []⟩,
        ⟨none, (some 10), .nil (.t 8), []⟩,
        ⟨none, (some 11), .idxP 12 1 (.t 10) (.t 9), []⟩,
        ⟨none, (some 12), .ld 1 false (.t 11), []⟩,
        ⟨none, (some 13), .bin .gtr (.t 12) (.c (.int .u16 4095)), []⟩])
      (.cond (.t 13)
       (.seq
        (.reg [2] [
          ⟨none, (some 2), .mov (.c (.bool false)), []⟩])
        .ret)
       .skip)))
    (.reg [3] [
      ⟨none, (some 6), .mov (.t 3), []⟩,
      ⟨none, (some 7), .bin .add (.t 6) (.c (.int .i64 1)), []⟩,
      ⟨none, (some 3), .mov (.t 7), []⟩])))
def k359 : Cd :=
  (.seq
   (.reg [2] [
     ⟨none, (some 2), .mov (.c (.bool false)), []⟩])
   (.seq
    (.seq
     (.reg [3] [
       ⟨none, (some 3), .mov (.c (.int .i64 0)), []⟩])
     (.block 0
      (.loop b359_1)))
    (.seq
     (.reg [2] [
       ⟨none, (some 2), .mov (.c (.bool true)), []⟩])
     .ret)))
def c359 : Fn := { np := 1, nt := 14, kind := .pure, res := [.t 2], body := k359 }

/- (impl.Book).isPage -/
def k365 : Cd :=
  (.seq
   (.reg [4] [
     ⟨none, (some 4), .mov (.c (.bool false)), []⟩])
   (.seq
    (.reg [4] [
      ⟨none, (some 5), .mov (.t 1), []⟩,
      ⟨none, (some 6), .mov (.t 0), []⟩,
      ⟨none, (some 7), .len (.t 6), []⟩,
      ⟨none, (some 8), .bin .sub (.t 7) (.c (.int .i64 1)), []⟩,
      ⟨none, (some 9), .call true 295 [.t 5, .c (.int .i64 0), .t 8], []⟩,
      ⟨none, (some 4), .mov (.t 9), []⟩])
    .ret))
def c365 : Fn := { np := 2, nt := 10, kind := .pure, res := [.t 4], body := k365 }

/- slices.Clone[impl.Book,impl.Frame] -/
def k366 : Cd :=
  (.seq
   (.reg [2] [
     ⟨none, (some 2), .mov (.c (.slice none 0 0)), []⟩])
   (.seq
    (.seq
     (.reg [4] [
       ⟨none, (some 3), .mov (.t 0), []⟩,
       ⟨none, (some 4), .eq .n false (.t 3) (.c (.slice none 0 0)), []⟩])
     (.cond (.t 4)
      (.seq
       (.reg [2] [
         ⟨none, (some 2), .mov (.c (.slice none 0 0)), []⟩])
       .ret)
      .skip))
    (.seq
     (.reg [2] [
       ⟨none, (some 5), .bldS 12 0 (zs 12 (.int .u16 0)) [], []⟩,
       ⟨none, (some 6), .mov (.t 0), []⟩,
       ⟨none, (some 7), .app 12 24 (.t 5) (.t 6), []⟩,
       ⟨none, (some 2), .mov (.t 7), []⟩])
     .ret)))
def c366 : Fn := { np := 1, nt := 8, kind := .pure, res := [.t 2], body := k366 }

/- (impl.Frame).differ -/
def k367 : Cd :=
  (.seq
   (.reg [2, 3, 4] [
     ⟨none, (some 2), .mov (.t 0), []⟩,
     ⟨none, (some 3), .mov (.t 1), []⟩,
     ⟨none, (some 4), .zero true (zs 12 (.int .u16 0)), []⟩])
   (.seq
    (.reg [4] [
      ⟨none, (some 5), .ldV 2 none 12 true, []⟩,
      ⟨none, (some 6), .ldV 3 none 12 true, []⟩,
      ⟨none, (some 7), .call true 443 [.t 5, .t 6, .f 512], []⟩,
      ⟨none, (some 4), .stV 4 none 12 (.t 7), []⟩])
    .ret))
def c367 : Fn := { np := 2, nt := 8, kind := .pure, res := [.v 4 12 true], body := k367 }

/- spec.l01Drawn -/
def b368_1 : Cd :=
  (.seq
   (.seq
    (.reg [16] [
      ⟨none, (some 15), .mov (.t 6), []⟩,
      ⟨none, (some 16), .bin .gtr (.t 15) (.c (.int .i64 0)), []⟩])
    (.cond (.t 16)
     .skip
     (.exit 0)))
   (.seq
    (.block 1
     (.seq
      (.reg [] [
        ⟨none, (some 19), .mov (.t 4), []⟩,
        ⟨none, (some 20), .mov (.t 5), []⟩,
        ⟨none, (some 21), .call false 305 [.t 3, .t 19, .t 20], []⟩])
      (.seq
       (.reg [23] [
         ⟨none, (some 22), .mov (.t 0), []⟩,
         ⟨none, (some 23), .call false 459 [.t 22, .c (.int .i64 6)], []⟩])
       (.block 2
        (.seq
         (.reg [30] [
           ⟨none, (some 31), .bin .eql (.t 23) (.c (.int .i64 0)), []⟩,
           ⟨none, (some 30), .mov (.t 31), []⟩])
         (.cond (.t 30)
          (.seq
           (.reg [4] [
             ⟨none, (some 32), .mov (.t 0), []⟩,
             ⟨none, (some 33), .call false 459 [.t 32, .c (.int .i64 12)], []⟩,
             ⟨none, (some 4), .mov (.t 33), []⟩])
           (.reg [5] [
             ⟨none, (some 34), .mov (.t 0), []⟩,
             ⟨none, (some 35), .call false 459 [.t 34, .c (.int .i64 12)], []⟩,
             ⟨none, (some 5), .mov (.t 35), []⟩]))
          (.seq
           (.seq
            (.reg [36] [
              ⟨none, (some 37), .bin .eql (.t 23) (.c (.int .i64 1)), []⟩,
              ⟨none, (some 36), .mov (.t 37), []⟩])
            (.cond (.t 36)
             .skip
             (.reg [36] [
               ⟨none, (some 38), .bin .eql (.t 23) (.c (.int .i64 2)), []⟩,
               ⟨none, (some 36), .mov (.t 38), []⟩])))
           (.cond (.t 36)
            (.reg [4] [
              ⟨none, (some 39), .mov (.t 4), []⟩,
              ⟨none, (some 40), .bin .add (.t 39) (.c (.int .i64 1)), []⟩,
              ⟨none, (some 41), .bin .rem (.t 40) (.c (.int .i64 12)), []⟩,
              ⟨none, (some 4), .mov (.t 41), []⟩])
            (.reg [5] [
              ⟨none, (some 24), .mov (.t 5), []⟩,
              ⟨none, (some 25), .mov (.t 0), []⟩,
              ⟨none, (some 26), .call false 459 [.t 25, .c (.int .i64 3)], []⟩,
              ⟨none, (some 27), .bin .add (.t 24) (.t 26), []⟩,
              ⟨none, (some 28), .bin .add (.t 27) (.c (.int .i64 11)), []⟩,
              ⟨none, (some 29), .bin .rem (.t 28) (.c (.int .i64 12)), []⟩,
              ⟨none, (some 5), .mov (.t 29), []⟩])))))))))
    (.reg [6] [
      ⟨none, (some 17), .mov (.t 6), []⟩,
      ⟨none, (some 18), .bin .sub (.t 17) (.c (.int .i64 1)), []⟩,
      ⟨none, (some 6), .mov (.t 18), []⟩])))
def b368_2 : Cd :=
  (.seq
   (.seq
    (.reg [45] [
      ⟨none, (some 44), .mov (.t 7), []⟩,
      ⟨none, (some 45), .bin .lss (.t 44) (.c (.int .i64 12)), []⟩])
    (.cond (.t 45)
     .skip
     (.exit 3)))
   (.seq
    (.block 4
     (.reg [] [
       ⟨none, (some 48), .mov (.t 7), []⟩,
       ⟨none, (some 49), .mov (.t 7), []⟩,
       ⟨none, (some 50), .idxP 12 1 (.t 3) (.t 49), []⟩,
       ⟨none, (some 51), .ld 1 false (.t 50), []⟩,
       ⟨none, (some 52), .mov (.t 0), []⟩,
       ⟨none, (some 53), .call false 459 [.t 52, .c (.int .i64 4096)], [.t 50]⟩,
       ⟨none, (some 54), .conv .u16 (.t 53), []⟩,
       ⟨none, (some 55), .bin .or (.t 51) (.t 54), []⟩,
       ⟨none, (some 56), .idxP 12 1 (.t 3) (.t 48), []⟩,
       ⟨none, none, .st 1 (.t 56) (.t 55), []⟩]))
    (.reg [7] [
      ⟨none, (some 46), .mov (.t 7), []⟩,
      ⟨none, (some 47), .bin .add (.t 46) (.c (.int .i64 1)), []⟩,
      ⟨none, (some 7), .mov (.t 47), []⟩])))
def k368 : Cd :=
  (.seq
   (.reg [2] [
     ⟨none, (some 2), .zero true (zs 12 (.int .u16 0)), []⟩])
   (.seq
    (.reg [3] [
      ⟨none, (some 8), .agg (zs 12 (.int .u16 0)) [], []⟩,
      ⟨none, (some 3), .new 1 (zs 12 (.int .u16 0)), []⟩,
      ⟨none, none, .st 12 (.t 3) (.t 8), []⟩])
    (.seq
     (.reg [4] [
       ⟨none, (some 9), .mov (.t 0), []⟩,
       ⟨none, (some 10), .call false 459 [.t 9, .c (.int .i64 12)], []⟩,
       ⟨none, (some 4), .mov (.t 10), []⟩])
     (.seq
      (.reg [5] [
        ⟨none, (some 11), .mov (.t 0), []⟩,
        ⟨none, (some 12), .call false 459 [.t 11, .c (.int .i64 12)], []⟩,
        ⟨none, (some 5), .mov (.t 12), []⟩])
      (.seq
       (.seq
        (.reg [6] [
          ⟨none, (some 13), .mov (.t 0), []⟩,
          ⟨none, (some 14), .call false 459 [.t 13, .c (.int .i64 14)], []⟩,
          ⟨none, (some 6), .mov (.t 14), []⟩])
        (.block 0
         (.loop b368_1)))
       (.seq
        (.seq
         (.reg [43] [
           ⟨none, (some 42), .mov (.t 0), []⟩,
           ⟨none, (some 43), .call false 513 [.t 42, .c (.int .i64 8)], []⟩])
         (.cond (.t 43)
          (.seq
           (.reg [7] [
             ⟨none, (some 7), .mov (.c (.int .i64 0)), []⟩])
           (.block 3
            (.loop b368_2)))
          .skip))
        (.seq
         (.reg [2] [
           ⟨none, (some 57), .ld 12 true (.t 3), []⟩,
           ⟨none, (some 2), .stV 2 none 12 (.t 57), []⟩])
         .ret)))))))
def c368 : Fn := { np := 1, nt := 58, kind := .args, res := [.v 2 12 true], body := k368 }

/- impl.readDecimal -/
def k378 : Cd :=
  (.seq
   (.reg [6, 7] [
     ⟨none, (some 6), .mov (.c (.int .i64 0)), []⟩,
     ⟨none, (some 7), .mov (.c (.bool false)), []⟩])
   (.seq
    (.reg [8, 9] [
      ⟨none, (some 11), .mov (.t 0), []⟩,
      ⟨none, (some 12), .call false 521 [.t 11, .c (.int .i64 10), .c (.int .i64 64)], []⟩,
      ⟨none, (some 10), .mov (.t 12), []⟩,
      ⟨none, (some 13), .ext (.t 10) 0, []⟩,
      ⟨none, (some 14), .ext (.t 10) 1, []⟩,
      ⟨none, (some 8), .mov (.t 13), []⟩,
      ⟨none, (some 9), .mov (.t 14), []⟩])
    (.seq
     (.reg [6, 7] [
       ⟨none, (some 15), .mov (.t 8), []⟩,
       ⟨none, (some 16), .mov (.t 9), []⟩,
       ⟨none, (some 17), .eq .i false (.t 16) (.c (.nilIface)), []⟩,
       ⟨none, (some 18), .mov (.t 17), []⟩,
       ⟨(some (18, true)), (some 19), .mov (.t 8), []⟩,
       ⟨(some (18, true)), (some 20), .mov (.t 1), []⟩,
       ⟨(some (18, true)), (some 21), .mov (.t 2), []⟩,
       ⟨(some (18, true)), (some 22), .call true 295 [.t 19, .t 20, .t 21], []⟩,
       ⟨none, (some 23), .pick (.t 18) (.t 22) (.c (.bool false)), []⟩,
       ⟨none, (some 24), .mov (.t 23), []⟩,
       ⟨(some (24, true)), (some 25), .mov (.t 8), []⟩,
       ⟨(some (24, true)), (some 26), .call true 379 [.t 25], []⟩,
       ⟨(some (24, true)), (some 27), .mov (.t 0), []⟩,
       ⟨(some (24, true)), (some 28), .eq .s false (.t 26) (.t 27), []⟩,
       ⟨none, (some 29), .pick (.t 24) (.t 28) (.c (.bool false)), []⟩,
       ⟨none, (some 6), .mov (.t 15), []⟩,
       ⟨none, (some 7), .mov (.t 29), []⟩])
     .ret)))
def c378 : Fn := { np := 3, nt := 30, kind := .pure, res := [.t 6, .t 7], body := k378 }

/- impl.decimal -/
def k379 : Cd :=
  (.seq
   (.reg [2] [
     ⟨none, (some 2), .mov (.c (.string ⟨#[]⟩)), []⟩])
   (.seq
    (.reg [2] [
      ⟨none, (some 3), .mov (.t 0), []⟩,
      ⟨none, (some 4), .call false 522 [.t 3, .c (.int .i64 10)], []⟩,
      ⟨none, (some 2), .mov (.t 4), []⟩])
    .ret))
def c379 : Fn := { np := 1, nt := 5, kind := .pure, res := [.t 2], body := k379 }

/- spec.l06SameStep -/
def b381_1 : Cd :=
  (.seq
   (.seq
    (.reg [67] [
      ⟨none, (some 61), .mov (.t 5), []⟩,
      ⟨none, (some 62), .mov (.t 0), []⟩,
      ⟨none, (some 63), .nil (.t 62), []⟩,
      ⟨none, (some 64), .fldP 4 (.t 63), []⟩,
      ⟨none, (some 65), .ld 1 false (.t 64), []⟩,
      ⟨none, (some 66), .len (.t 65), []⟩,
      ⟨none, (some 67), .bin .lss (.t 61) (.t 66), []⟩])
    (.cond (.t 67)
     .skip
     (.exit 0)))
   (.seq
    (.block 1
     (.seq
      (.reg [84] [
        ⟨none, (some 70), .mov (.t 0), []⟩,
        ⟨none, (some 71), .nil (.t 70), []⟩,
        ⟨none, (some 72), .fldP 4 (.t 71), []⟩,
        ⟨none, (some 73), .ld 1 false (.t 72), []⟩,
        ⟨none, (some 74), .mov (.t 5), []⟩,
        ⟨none, (some 75), .idxA 2 (.t 73) (.t 74), []⟩,
        ⟨none, (some 76), .ld 2 true (.t 75), []⟩,
        ⟨none, (some 77), .mov (.t 1), []⟩,
        ⟨none, (some 78), .nil (.t 77), []⟩,
        ⟨none, (some 79), .fldP 4 (.t 78), []⟩,
        ⟨none, (some 80), .ld 1 false (.t 79), []⟩,
        ⟨none, (some 81), .mov (.t 5), []⟩,
        ⟨none, (some 82), .idxA 2 (.t 80) (.t 81), []⟩,
        ⟨none, (some 83), .ld 2 true (.t 82), []⟩,
        ⟨none, (some 84), .eq (.a (rb 1 (some .i8) ++ rb 1 (some .u16))) true (.t 76) (.t 83), []⟩])
      (.cond (.t 84)
       (.seq
        (.reg [4] [
          ⟨none, (some 4), .mov (.c (.bool false)), []⟩])
        .ret)
       .skip)))
    (.reg [5] [
      ⟨none, (some 68), .mov (.t 5), []⟩,
      ⟨none, (some 69), .bin .add (.t 68) (.c (.int .i64 1)), []⟩,
      ⟨none, (some 5), .mov (.t 69), []⟩])))
def k381 : Cd :=
  (.seq
   (.reg [4] [
     ⟨none, (some 4), .mov (.c (.bool false)), []⟩])
   (.seq
    (.seq
     (.reg [60] [
       ⟨none, (some 6), .mov (.t 0), []⟩,
       ⟨none, (some 7), .nil (.t 6), []⟩,
       ⟨none, (some 8), .fldP 0 (.t 7), []⟩,
       ⟨none, (some 9), .ld 1 false (.t 8), []⟩,
       ⟨none, (some 10), .mov (.t 1), []⟩,
       ⟨none, (some 11), .nil (.t 10), []⟩,
       ⟨none, (some 12), .fldP 0 (.t 11), []⟩,
       ⟨none, (some 13), .ld 1 false (.t 12), []⟩,
       ⟨none, (some 14), .bin .neq (.t 9) (.t 13), []⟩,
       ⟨none, (some 15), .mov (.t 14), []⟩,
       ⟨(some (15, false)), (some 16), .mov (.t 0), []⟩,
       ⟨(some (15, false)), (some 17), .nil (.t 16), []⟩,
       ⟨(some (15, false)), (some 18), .fldP 1 (.t 17), []⟩,
       ⟨(some (15, false)), (some 19), .ld 1 false (.t 18), []⟩,
       ⟨(some (15, false)), (some 20), .mov (.t 1), []⟩,
       ⟨(some (15, false)), (some 21), .nil (.t 20), []⟩,
       ⟨(some (15, false)), (some 22), .fldP 1 (.t 21), []⟩,
       ⟨(some (15, false)), (some 23), .ld 1 false (.t 22), []⟩,
       ⟨(some (15, false)), (some 24), .bin .neq (.t 19) (.t 23), []⟩,
       ⟨none, (some 25), .pick (.t 15) (.c (.bool true)) (.t 24), []⟩,
       ⟨none, (some 26), .mov (.t 25), []⟩,
       ⟨(some (26, false)), (some 27), .mov (.t 0), []⟩,
       ⟨(some (26, false)), (some 28), .nil (.t 27), []⟩,
       ⟨(some (26, false)), (some 29), .fldP 2 (.t 28), []⟩,
       ⟨(some (26, false)), (some 30), .ld 1 false (.t 29), []⟩,
       ⟨(some (26, false)), (some 31), .mov (.t 1), []⟩,
       ⟨(some (26, false)), (some 32), .nil (.t 31), []⟩,
       ⟨(some (26, false)), (some 33), .fldP 2 (.t 32), []⟩,
       ⟨(some (26, false)), (some 34), .ld 1 false (.t 33), []⟩,
       ⟨(some (26, false)), (some 35), .bin .neq (.t 30) (.t 34), []⟩,
       ⟨none, (some 36), .pick (.t 26) (.c (.bool true)) (.t 35), []⟩,
       ⟨none, (some 37), .mov (.t 36), []⟩,
       ⟨(some (37, false)), (some 38), .mov (.t 0), []⟩,
       ⟨(some (37, false)), (some 39), .nil (.t 38), []⟩,
       ⟨(some (37, false)), (some 40), .fldP 3 (.t 39), []⟩,
       ⟨(some (37, false)), (some 41), .ld 1 false (.t 40), []⟩,
       ⟨(some (37, false)), (some 42), .mov (.t 1), []⟩,
       ⟨(some (37, false)), (some 43), .nil (.t 42), []⟩,
       ⟨(some (37, false)), (some 44), .fldP 3 (.t 43), []⟩,
       ⟨(some (37, false)), (some 45), .ld 1 false (.t 44), []⟩,
       ⟨(some (37, false)), (some 46), .bin .neq (.t 41) (.t 45), []⟩,
       ⟨none, (some 47), .pick (.t 37) (.c (.bool true)) (.t 46), []⟩,
       ⟨none, (some 48), .mov (.t 47), []⟩,
       ⟨(some (48, false)), (some 49), .mov (.t 0), []⟩,
       ⟨(some (48, false)), (some 50), .nil (.t 49), []⟩,
       ⟨(some (48, false)), (some 51), .fldP 4 (.t 50), []⟩,
       ⟨(some (48, false)), (some 52), .ld 1 false (.t 51), []⟩,
       ⟨(some (48, false)), (some 53), .len (.t 52), []⟩,
       ⟨(some (48, false)), (some 54), .mov (.t 1), []⟩,
       ⟨(some (48, false)), (some 55), .nil (.t 54), []⟩,
       ⟨(some (48, false)), (some 56), .fldP 4 (.t 55), []⟩,
       ⟨(some (48, false)), (some 57), .ld 1 false (.t 56), []⟩,
       ⟨(some (48, false)), (some 58), .len (.t 57), []⟩,
       ⟨(some (48, false)), (some 59), .bin .neq (.t 53) (.t 58), []⟩,
       ⟨none, (some 60), .pick (.t 48) (.c (.bool true)) (.t 59), []⟩])
     (.cond (.t 60)
      (.seq
       (.reg [4] [
         ⟨none, (some 4), .mov (.c (.bool false)), []⟩])
       .ret)
      .skip))
    (.seq
     (.seq
      (.reg [5] [
        ⟨none, (some 5), .mov (.c (.int .i64 0)), []⟩])
      (.block 0
       (.loop b381_1)))
     (.seq
      (.reg [4] [
        ⟨none, (some 4), .mov (.c (.bool true)), []⟩])
      .ret))))
def c381 : Fn := { np := 2, nt := 85, kind := .pure, res := [.t 4], body := k381 }

/- slices.EqualFunc[[]impl.Step,[]impl.Step,impl.Step,impl.Step] -/
def b383_1 : Cd :=
  (.seq
   (.reg [18] [
     ⟨none, (some 18), .bin .lss (.t 17) (.t 16), []⟩])
   (.seq
    (.cond (.t 18)
     .skip
     (.exit 0))
    (.seq
     (.block 1
      (.seq
       (.reg [8, 7] [
         ⟨none, (some 19), .mov (.t 17), []⟩,
         ⟨none, (some 20), .idxA 5 (.t 15) (.t 17), []⟩,
         ⟨none, (some 21), .ld 5 true (.t 20), []⟩,
         ⟨none, (some 8), .zero true [.int .i8 0, .int .i8 0, .int .i8 0, .int .i8 0, .slice none 0 0], []⟩,
         ⟨none, (some 7), .mov (.t 19), []⟩,
         ⟨none, (some 8), .stV 8 none 5 (.t 21), []⟩])
       (.seq
        (.reg [9] [
          ⟨none, (some 22), .mov (.t 1), []⟩,
          ⟨none, (some 23), .mov (.t 7), []⟩,
          ⟨none, (some 24), .idxA 5 (.t 22) (.t 23), []⟩,
          ⟨none, (some 25), .ld 5 true (.t 24), []⟩,
          ⟨none, (some 9), .zero true [.int .i8 0, .int .i8 0, .int .i8 0, .int .i8 0, .slice none 0 0], []⟩,
          ⟨none, (some 9), .stV 9 none 5 (.t 25), []⟩])
        (.seq
         (.reg [30] [
           ⟨none, (some 26), .mov (.t 2), []⟩,
           ⟨none, (some 27), .ldV 8 none 5 true, []⟩,
           ⟨none, (some 28), .ldV 9 none 5 true, []⟩,
           ⟨none, (some 29), .callv (.t 26) [.t 27, .t 28], []⟩,
           ⟨none, (some 30), .un .not (.t 29), []⟩])
         (.cond (.t 30)
          (.seq
           (.reg [6] [
             ⟨none, (some 6), .mov (.c (.bool false)), []⟩])
           .ret)
          .skip)))))
     (.reg [17] [
       ⟨none, (some 31), .bin .add (.t 17) (.c (.int .i64 1)), []⟩,
       ⟨none, (some 17), .mov (.t 31), []⟩]))))
def k383 : Cd :=
  (.seq
   (.reg [6] [
     ⟨none, (some 6), .mov (.c (.bool false)), []⟩])
   (.seq
    (.seq
     (.reg [14] [
       ⟨none, (some 10), .mov (.t 0), []⟩,
       ⟨none, (some 11), .len (.t 10), []⟩,
       ⟨none, (some 12), .mov (.t 1), []⟩,
       ⟨none, (some 13), .len (.t 12), []⟩,
       ⟨none, (some 14), .bin .neq (.t 11) (.t 13), []⟩])
     (.cond (.t 14)
      (.seq
       (.reg [6] [
         ⟨none, (some 6), .mov (.c (.bool false)), []⟩])
       .ret)
      .skip))
    (.seq
     (.seq
      (.reg [15, 16, 17] [
        ⟨none, (some 15), .mov (.t 0), []⟩,
        ⟨none, (some 16), .len (.t 15), []⟩,
        ⟨none, (some 17), .mov (.c (.int .i64 0)), []⟩])
      (.block 0
       (.loop b383_1)))
     (.seq
      (.reg [6] [
        ⟨none, (some 6), .mov (.c (.bool true)), []⟩])
      .ret))))
def c383 : Fn := { np := 3, nt := 32, kind := .pure, res := [.t 6], body := k383 }

/- impl.SameSteps$1 -/
def k384 : Cd :=
  (.seq
   (.reg [2, 3, 4] [
     ⟨none, (some 2), .mov (.t 0), []⟩,
     ⟨none, (some 3), .mov (.t 1), []⟩,
     ⟨none, (some 4), .mov (.c (.bool false)), []⟩])
   (.seq
    (.reg [4] [
      ⟨none, (some 5), .adrF 2 none 0, []⟩,
      ⟨none, (some 6), .ldV 2 (some 5) 1 false, []⟩,
      ⟨none, (some 7), .adrF 3 none 0, []⟩,
      ⟨none, (some 8), .ldV 3 (some 7) 1 false, []⟩,
      ⟨none, (some 9), .bin .eql (.t 6) (.t 8), []⟩,
      ⟨none, (some 10), .mov (.t 9), []⟩,
      ⟨(some (10, true)), (some 11), .adrF 2 none 1, []⟩,
      ⟨(some (10, true)), (some 12), .ldV 2 (some 11) 1 false, []⟩,
      ⟨(some (10, true)), (some 13), .adrF 3 none 1, []⟩,
      ⟨(some (10, true)), (some 14), .ldV 3 (some 13) 1 false, []⟩,
      ⟨(some (10, true)), (some 15), .bin .eql (.t 12) (.t 14), []⟩,
      ⟨none, (some 16), .pick (.t 10) (.t 15) (.c (.bool false)), []⟩,
      ⟨none, (some 17), .mov (.t 16), []⟩,
      ⟨(some (17, true)), (some 18), .adrF 2 none 2, []⟩,
      ⟨(some (17, true)), (some 19), .ldV 2 (some 18) 1 false, []⟩,
      ⟨(some (17, true)), (some 20), .adrF 3 none 2, []⟩,
      ⟨(some (17, true)), (some 21), .ldV 3 (some 20) 1 false, []⟩,
      ⟨(some (17, true)), (some 22), .bin .eql (.t 19) (.t 21), []⟩,
      ⟨none, (some 23), .pick (.t 17) (.t 22) (.c (.bool false)), []⟩,
      ⟨none, (some 24), .mov (.t 23), []⟩,
      ⟨(some (24, true)), (some 25), .adrF 2 none 3, []⟩,
      ⟨(some (24, true)), (some 26), .ldV 2 (some 25) 1 false, []⟩,
      ⟨(some (24, true)), (some 27), .adrF 3 none 3, []⟩,
      ⟨(some (24, true)), (some 28), .ldV 3 (some 27) 1 false, []⟩,
      ⟨(some (24, true)), (some 29), .bin .eql (.t 26) (.t 28), []⟩,
      ⟨none, (some 30), .pick (.t 24) (.t 29) (.c (.bool false)), []⟩,
      ⟨none, (some 31), .mov (.t 30), []⟩,
      ⟨(some (31, true)), (some 32), .adrF 2 none 4, []⟩,
      ⟨(some (31, true)), (some 33), .ldV 2 (some 32) 1 false, []⟩,
      ⟨(some (31, true)), (some 34), .adrF 3 none 4, []⟩,
      ⟨(some (31, true)), (some 35), .ldV 3 (some 34) 1 false, []⟩,
      ⟨(some (31, true)), (some 36), .call true 385 [.t 33, .t 35], []⟩,
      ⟨none, (some 37), .pick (.t 31) (.t 36) (.c (.bool false)), []⟩,
      ⟨none, (some 4), .mov (.t 37), []⟩])
    .ret))
def c384 : Fn := { np := 2, nt := 38, kind := .pure, res := [.t 4], body := k384 }

/- slices.Equal[[]impl.Change,impl.Change] -/
def b385_1 : Cd :=
  (.seq
   (.reg [14] [
     ⟨none, (some 14), .bin .lss (.t 13) (.t 12), []⟩])
   (.seq
    (.cond (.t 14)
     .skip
     (.exit 0))
    (.seq
     (.block 1
      (.seq
       (.reg [5] [
         ⟨none, (some 15), .mov (.t 13), []⟩,
         ⟨none, (some 5), .mov (.t 15), []⟩])
       (.seq
        (.reg [24] [
          ⟨none, (some 16), .mov (.t 0), []⟩,
          ⟨none, (some 17), .mov (.t 5), []⟩,
          ⟨none, (some 18), .idxA 2 (.t 16) (.t 17), []⟩,
          ⟨none, (some 19), .ld 2 true (.t 18), []⟩,
          ⟨none, (some 20), .mov (.t 1), []⟩,
          ⟨none, (some 21), .mov (.t 5), []⟩,
          ⟨none, (some 22), .idxA 2 (.t 20) (.t 21), []⟩,
          ⟨none, (some 23), .ld 2 true (.t 22), []⟩,
          ⟨none, (some 24), .eq (.a (rb 1 (some .i8) ++ rb 1 (some .u16))) true (.t 19) (.t 23), []⟩])
        (.cond (.t 24)
         (.seq
          (.reg [4] [
            ⟨none, (some 4), .mov (.c (.bool false)), []⟩])
          .ret)
         .skip))))
     (.reg [13] [
       ⟨none, (some 25), .bin .add (.t 13) (.c (.int .i64 1)), []⟩,
       ⟨none, (some 13), .mov (.t 25), []⟩]))))
def k385 : Cd :=
  (.seq
   (.reg [4] [
     ⟨none, (some 4), .mov (.c (.bool false)), []⟩])
   (.seq
    (.seq
     (.reg [10] [
       ⟨none, (some 6), .mov (.t 0), []⟩,
       ⟨none, (some 7), .len (.t 6), []⟩,
       ⟨none, (some 8), .mov (.t 1), []⟩,
       ⟨none, (some 9), .len (.t 8), []⟩,
       ⟨none, (some 10), .bin .neq (.t 7) (.t 9), []⟩])
     (.cond (.t 10)
      (.seq
       (.reg [4] [
         ⟨none, (some 4), .mov (.c (.bool false)), []⟩])
       .ret)
      .skip))
    (.seq
     (.seq
      (.reg [12, 13] [
        ⟨none, (some 11), .mov (.t 0), []⟩,
        ⟨none, (some 12), .len (.t 11), []⟩,
        ⟨none, (some 13), .mov (.c (.int .i64 0)), []⟩])
      (.block 0
       (.loop b385_1)))
     (.seq
      (.reg [4] [
        ⟨none, (some 4), .mov (.c (.bool true)), []⟩])
      .ret))))
def c385 : Fn := { np := 2, nt := 26, kind := .pure, res := [.t 4], body := k385 }

/- spec.l06Ok -/
def b386_1 : Cd :=
  (.seq
   (.seq
    (.reg [7] [
      ⟨none, (some 4), .mov (.t 3), []⟩,
      ⟨none, (some 5), .mov (.t 0), []⟩,
      ⟨none, (some 6), .len (.t 5), []⟩,
      ⟨none, (some 7), .bin .lss (.t 4) (.t 6), []⟩])
    (.cond (.t 7)
     .skip
     (.exit 0)))
   (.seq
    (.block 1
     (.seq
      (.reg [15] [
        ⟨none, (some 10), .mov (.t 0), []⟩,
        ⟨none, (some 11), .mov (.t 3), []⟩,
        ⟨none, (some 12), .idxA 5 (.t 10) (.t 11), []⟩,
        ⟨none, (some 13), .mov (.t 3), []⟩,
        ⟨none, (some 14), .call true 524 [.t 12, .t 13], []⟩,
        ⟨none, (some 15), .un .not (.t 14), []⟩])
      (.cond (.t 15)
       (.seq
        (.reg [2] [
          ⟨none, (some 2), .mov (.c (.bool false)), []⟩])
        .ret)
       .skip)))
    (.reg [3] [
      ⟨none, (some 8), .mov (.t 3), []⟩,
      ⟨none, (some 9), .bin .add (.t 8) (.c (.int .i64 1)), []⟩,
      ⟨none, (some 3), .mov (.t 9), []⟩])))
def k386 : Cd :=
  (.seq
   (.reg [2] [
     ⟨none, (some 2), .mov (.c (.bool false)), []⟩])
   (.seq
    (.seq
     (.reg [3] [
       ⟨none, (some 3), .mov (.c (.int .i64 0)), []⟩])
     (.block 0
      (.loop b386_1)))
    (.seq
     (.reg [2] [
       ⟨none, (some 16), .mov (.t 0), []⟩,
       ⟨none, (some 17), .len (.t 16), []⟩,
       ⟨none, (some 18), .bin .leq (.t 17) (.c (.int .i64 40)), []⟩,
       ⟨none, (some 2), .mov (.t 18), []⟩])
     .ret)))
def c386 : Fn := { np := 1, nt := 19, kind := .pure, res := [.t 2], body := k386 }

/- impl.isStep -/
def b387_1 : Cd :=
  (.seq
   (.reg [13] [
     ⟨none, (some 13), .bin .lss (.t 12) (.t 11), []⟩])
   (.seq
    (.cond (.t 13)
     .skip
     (.exit 0))
    (.seq
     (.block 1
      (.seq
       (.reg [6, 5] [
         ⟨none, (some 14), .mov (.t 12), []⟩,
         ⟨none, (some 15), .idxA 2 (.t 10) (.t 12), []⟩,
         ⟨none, (some 16), .ld 2 true (.t 15), []⟩,
         ⟨none, (some 6), .zero true [.int .i8 0, .int .u16 0], []⟩,
         ⟨none, (some 5), .mov (.t 14), []⟩,
         ⟨none, (some 6), .stV 6 none 2 (.t 16), []⟩])
       (.seq
        (.reg [44] [
          ⟨none, (some 17), .adrF 6 none 0, []⟩,
          ⟨none, (some 18), .ldV 6 (some 17) 1 false, []⟩,
          ⟨none, (some 19), .conv .i64 (.t 18), []⟩,
          ⟨none, (some 20), .call true 295 [.t 19, .c (.int .i64 0), .c (.int .i64 11)], []⟩,
          ⟨none, (some 21), .un .not (.t 20), []⟩,
          ⟨none, (some 22), .mov (.t 21), []⟩,
          ⟨(some (22, false)), (some 23), .adrF 6 none 1, []⟩,
          ⟨(some (22, false)), (some 24), .ldV 6 (some 23) 1 false, []⟩,
          ⟨(some (22, false)), (some 25), .conv .i64 (.t 24), []⟩,
          ⟨(some (22, false)), (some 26), .call true 295 [.t 25, .c (.int .i64 1), .c (.int .i64 4095)], []⟩,
          ⟨(some (22, false)), (some 27), .un .not (.t 26), []⟩,
          ⟨none, (some 28), .pick (.t 22) (.c (.bool true)) (.t 27), []⟩,
          ⟨none, (some 29), .mov (.t 28), []⟩,
          ⟨(some (29, false)), (some 30), .mov (.t 5), []⟩,
          ⟨(some (29, false)), (some 31), .bin .gtr (.t 30) (.c (.int .i64 0)), []⟩,
          ⟨(some (29, false)), (some 32), .mov (.t 31), []⟩,
          ⟨(some (32, true)), (some 33), .adrF 2 none 4, []⟩,
          ⟨(some (32, true)), (some 34), .ldV 2 (some 33) 1 false, []⟩,
          ⟨(some (32, true)), (some 35), .mov (.t 5), []⟩,
          ⟨(some (32, true)), (some 36), .bin .sub (.t 35) (.c (.int .i64 1)), []⟩,
          ⟨(some (32, true)), (some 37), .idxA 2 (.t 34) (.t 36), []⟩,
          ⟨(some (32, true)), (some 38), .fldP 0 (.t 37), []⟩,
          ⟨(some (32, true)), (some 39), .ld 1 false (.t 38), []⟩,
          ⟨(some (32, true)), (some 40), .adrF 6 none 0, []⟩,
          ⟨(some (32, true)), (some 41), .ldV 6 (some 40) 1 false, []⟩,
          ⟨(some (32, true)), (some 42), .bin .geq (.t 39) (.t 41), []⟩,
          ⟨(some (29, false)), (some 43), .pick (.t 32) (.t 42) (.c (.bool false)), []⟩,
          ⟨none, (some 44), .pick (.t 29) (.c (.bool true)) (.t 43), []⟩])
        (.cond (.t 44)
         (.seq
          (.reg [4] [
            ⟨none, (some 4), .mov (.c (.bool false)), []⟩])
          .ret)
         .skip))))
     (.reg [12] [
       ⟨none, (some 45), .bin .add (.t 12) (.c (.int .i64 1)), []⟩,
       ⟨none, (some 12), .mov (.t 45), []⟩]))))
def k387 : Cd :=
  (.seq
   (.reg [2, 4] [
     ⟨none, (some 2), .mov (.t 0), []⟩,
     ⟨none, (some 4), .mov (.c (.bool false)), []⟩])
   (.seq
    (.seq
     (.reg [10, 11, 12] [
       ⟨none, (some 9), .adrF 2 none 4, []⟩,
       ⟨none, (some 10), .ldV 2 (some 9) 1 false, []⟩,
       ⟨none, (some 11), .len (.t 10), []⟩,
       ⟨none, (some 12), .mov (.c (.int .i64 0)), []⟩])
     (.block 0
      (.loop b387_1)))
    (.seq
     (.reg [7] [
       ⟨none, (some 46), .adrF 2 none 2, []⟩,
       ⟨none, (some 47), .ldV 2 (some 46) 1 false, []⟩,
       ⟨none, (some 48), .bin .eql (.t 47) (.c (.int .i8 0)), []⟩,
       ⟨none, (some 49), .mov (.t 48), []⟩,
       ⟨(some (49, true)), (some 50), .adrF 2 none 3, []⟩,
       ⟨(some (49, true)), (some 51), .ldV 2 (some 50) 1 false, []⟩,
       ⟨(some (49, true)), (some 52), .bin .eql (.t 51) (.c (.int .i8 0)), []⟩,
       ⟨none, (some 53), .pick (.t 49) (.t 52) (.c (.bool false)), []⟩,
       ⟨none, (some 7), .mov (.t 53), []⟩])
     (.seq
      (.reg [8] [
        ⟨none, (some 54), .adrF 2 none 1, []⟩,
        ⟨none, (some 55), .ldV 2 (some 54) 1 false, []⟩,
        ⟨none, (some 56), .conv .i64 (.t 55), []⟩,
        ⟨none, (some 57), .mov (.t 1), []⟩,
        ⟨none, (some 58), .bin .sub (.t 57) (.c (.int .i64 1)), []⟩,
        ⟨none, (some 59), .call true 295 [.t 56, .c (.int .i64 0), .t 58], []⟩,
        ⟨none, (some 8), .mov (.t 59), []⟩])
      (.seq
       (.seq
        (.reg [61] [
          ⟨none, (some 60), .adrF 2 none 0, []⟩,
          ⟨none, (some 61), .ldV 2 (some 60) 1 false, []⟩])
        (.block 2
         (.seq
          (.reg [62] [
            ⟨none, (some 63), .bin .eql (.t 61) (.c (.int .i8 0)), []⟩,
            ⟨none, (some 62), .mov (.t 63), []⟩])
          (.cond (.t 62)
           (.seq
            (.reg [4] [
              ⟨none, (some 64), .mov (.t 7), []⟩,
              ⟨none, (some 65), .mov (.t 64), []⟩,
              ⟨(some (65, true)), (some 66), .adrF 2 none 1, []⟩,
              ⟨(some (65, true)), (some 67), .ldV 2 (some 66) 1 false, []⟩,
              ⟨(some (65, true)), (some 68), .bin .eql (.t 67) (.c (.int .i8 0)), []⟩,
              ⟨none, (some 69), .pick (.t 65) (.t 68) (.c (.bool false)), []⟩,
              ⟨none, (some 4), .mov (.t 69), []⟩])
            .ret)
           (.seq
            (.reg [70] [
              ⟨none, (some 71), .bin .eql (.t 61) (.c (.int .i8 1)), []⟩,
              ⟨none, (some 70), .mov (.t 71), []⟩])
            (.cond (.t 70)
             (.seq
              (.reg [4] [
                ⟨none, (some 72), .mov (.t 7), []⟩,
                ⟨none, (some 73), .mov (.t 72), []⟩,
                ⟨(some (73, true)), (some 74), .mov (.t 8), []⟩,
                ⟨none, (some 75), .pick (.t 73) (.t 74) (.c (.bool false)), []⟩,
                ⟨none, (some 4), .mov (.t 75), []⟩])
              .ret)
             (.seq
              (.reg [76] [
                ⟨none, (some 77), .bin .eql (.t 61) (.c (.int .i8 2)), []⟩,
                ⟨none, (some 76), .mov (.t 77), []⟩])
              (.cond (.t 76)
               (.seq
                (.reg [4] [
                  ⟨none, (some 78), .mov (.t 7), []⟩,
                  ⟨none, (some 79), .un .not (.t 78), []⟩,
                  ⟨none, (some 80), .mov (.t 79), []⟩,
                  ⟨(some (80, true)), (some 81), .mov (.t 8), []⟩,
                  ⟨none, (some 82), .pick (.t 80) (.t 81) (.c (.bool false)), []⟩,
                  ⟨none, (some 83), .mov (.t 82), []⟩,
                  ⟨(some (83, true)), (some 84), .adrF 2 none 2, []⟩,
                  ⟨(some (83, true)), (some 85), .ldV 2 (some 84) 1 false, []⟩,
                  ⟨(some (83, true)), (some 86), .conv .i64 (.t 85), []⟩,
                  ⟨(some (83, true)), (some 87), .call true 295 [.t 86, .c (.int .i64 (-12)), .c (.int .i64 12)], []⟩,
                  ⟨none, (some 88), .pick (.t 83) (.t 87) (.c (.bool false)), []⟩,
                  ⟨none, (some 89), .mov (.t 88), []⟩,
                  ⟨(some (89, true)), (some 90), .adrF 2 none 3, []⟩,
                  ⟨(some (89, true)), (some 91), .ldV 2 (some 90) 1 false, []⟩,
                  ⟨(some (89, true)), (some 92), .conv .i64 (.t 91), []⟩,
                  ⟨(some (89, true)), (some 93), .call true 295 [.t 92, .c (.int .i64 (-12)), .c (.int .i64 12)], []⟩,
                  ⟨none, (some 94), .pick (.t 89) (.t 93) (.c (.bool false)), []⟩,
                  ⟨none, (some 4), .mov (.t 94), []⟩])
                .ret)
               .skip))))))))
       (.seq
        (.reg [4] [
          ⟨none, (some 4), .mov (.c (.bool false)), []⟩])
        .ret))))))
def c387 : Fn := { np := 2, nt := 95, kind := .pure, res := [.t 4], body := k387 }

/- spec.l06Asked -/
def k398 : Cd :=
  (.seq
   (.reg [4] [
     ⟨none, (some 4), .mov (.c (.int .i64 0)), []⟩])
   (.seq
    (.seq
     (.reg [7] [
       ⟨none, (some 5), .mov (.t 0), []⟩,
       ⟨none, (some 6), .call true 386 [.t 5], []⟩,
       ⟨none, (some 7), .un .not (.t 6), []⟩])
     (.cond (.t 7)
      (.seq
       (.reg [4] [
         ⟨none, (some 4), .mov (.c (.int .i64 1)), []⟩])
       .ret)
      .skip))
    (.seq
     (.seq
      (.reg [13] [
        ⟨none, (some 8), .mov (.t 1), []⟩,
        ⟨none, (some 9), .mov (.t 0), []⟩,
        ⟨none, (some 10), .len (.t 9), []⟩,
        ⟨none, (some 11), .bin .sub (.t 10) (.c (.int .i64 1)), []⟩,
        ⟨none, (some 12), .call true 304 [.t 8, .c (.int .i64 0), .t 11], []⟩,
        ⟨none, (some 13), .un .not (.t 12), []⟩])
      (.cond (.t 13)
       (.seq
        (.reg [4] [
          ⟨none, (some 4), .mov (.c (.int .i64 2)), []⟩])
        .ret)
       .skip))
     (.seq
      (.reg [4] [
        ⟨none, (some 4), .mov (.c (.int .i64 0)), []⟩])
      .ret))))
def c398 : Fn := { np := 2, nt := 14, kind := .pure, res := [.t 4], body := k398 }

/- impl.checkStep -/
def k399 : Cd :=
  (.seq
   (.reg [4] [
     ⟨none, (some 4), .mov (.c (.int .i64 0)), []⟩])
   (.seq
    (.block 0
     (.seq
      (.reg [5] [
        ⟨none, (some 6), .mov (.t 0), []⟩,
        ⟨none, (some 7), .call true 163 [.t 6], []⟩,
        ⟨none, (some 8), .un .not (.t 7), []⟩,
        ⟨none, (some 5), .mov (.t 8), []⟩])
      (.cond (.t 5)
       (.seq
        (.reg [4] [
          ⟨none, (some 4), .mov (.c (.int .i64 1)), []⟩])
        .ret)
       (.seq
        (.reg [9] [
          ⟨none, (some 10), .mov (.t 1), []⟩,
          ⟨none, (some 11), .mov (.t 0), []⟩,
          ⟨none, (some 12), .call true 531 [.t 11], []⟩,
          ⟨none, (some 13), .bin .sub (.t 12) (.c (.int .i64 1)), []⟩,
          ⟨none, (some 14), .call true 295 [.t 10, .c (.int .i64 0), .t 13], []⟩,
          ⟨none, (some 15), .un .not (.t 14), []⟩,
          ⟨none, (some 9), .mov (.t 15), []⟩])
        (.cond (.t 9)
         (.seq
          (.reg [4] [
            ⟨none, (some 4), .mov (.c (.int .i64 2)), []⟩])
          .ret)
         .skip)))))
    (.seq
     (.reg [4] [
       ⟨none, (some 4), .mov (.c (.int .i64 0)), []⟩])
     .ret)))
def c399 : Fn := { np := 2, nt := 16, kind := .pure, res := [.t 4], body := k399 }

/- spec.l00Has -/
def b401_1 : Cd :=
  (.seq
   (.seq
    (.reg [9] [
      ⟨none, (some 6), .mov (.t 5), []⟩,
      ⟨none, (some 7), .mov (.t 0), []⟩,
      ⟨none, (some 8), .len (.t 7), []⟩,
      ⟨none, (some 9), .bin .lss (.t 6) (.t 8), []⟩])
    (.cond (.t 9)
     .skip
     (.exit 0)))
   (.seq
    (.block 1
     (.seq
      (.reg [17] [
        ⟨none, (some 12), .mov (.t 0), []⟩,
        ⟨none, (some 13), .mov (.t 5), []⟩,
        ⟨none, (some 14), .idxA 1 (.t 12) (.t 13), []⟩,
        ⟨none, (some 15), .ld 1 false (.t 14), []⟩,
        ⟨none, (some 16), .mov (.t 1), []⟩,
        ⟨none, (some 17), .bin .eql (.t 15) (.t 16), []⟩])
      (.cond (.t 17)
       (.seq
        (.reg [4] [
          ⟨none, (some 4), .mov (.c (.bool true)), []⟩])
        .ret)
       .skip)))
    (.reg [5] [
      ⟨none, (some 10), .mov (.t 5), []⟩,
      ⟨none, (some 11), .bin .add (.t 10) (.c (.int .i64 1)), []⟩,
      ⟨none, (some 5), .mov (.t 11), []⟩])))
def k401 : Cd :=
  (.seq
   (.reg [4] [
     ⟨none, (some 4), .mov (.c (.bool false)), []⟩])
   (.seq
    (.seq
     (.reg [5] [
       ⟨none, (some 5), .mov (.c (.int .i64 0)), []⟩])
     (.block 0
      (.loop b401_1)))
    (.seq
     (.reg [4] [
       ⟨none, (some 4), .mov (.c (.bool false)), []⟩])
     .ret)))
def c401 : Fn := { np := 2, nt := 18, kind := .pure, res := [.t 4], body := k401 }

/- slices.Contains[[]int64,int64] -/
def k402 : Cd :=
  (.seq
   (.reg [4] [
     ⟨none, (some 4), .mov (.c (.bool false)), []⟩])
   (.seq
    (.reg [4] [
      ⟨none, (some 5), .mov (.t 0), []⟩,
      ⟨none, (some 6), .mov (.t 1), []⟩,
      ⟨none, (some 7), .call true 532 [.t 5, .t 6], []⟩,
      ⟨none, (some 8), .bin .geq (.t 7) (.c (.int .i64 0)), []⟩,
      ⟨none, (some 4), .mov (.t 8), []⟩])
    .ret))
def c402 : Fn := { np := 2, nt := 9, kind := .pure, res := [.t 4], body := k402 }

/- spec.l06Book -/
def b418_1 : Cd :=
  (.seq
   (.seq
    (.reg [46] [
      ⟨none, (some 42), .mov (.t 7), []⟩,
      ⟨none, (some 43), .adrF 5 none 4, []⟩,
      ⟨none, (some 44), .ldV 5 (some 43) 1 false, []⟩,
      ⟨none, (some 45), .len (.t 44), []⟩,
      ⟨none, (some 46), .bin .lss (.t 42) (.t 45), []⟩])
    (.cond (.t 46)
     .skip
     (.exit 3)))
   (.seq
    (.block 4
     (.reg [6] [
       ⟨none, (some 49), .adrF 5 none 4, []⟩,
       ⟨none, (some 50), .ldV 5 (some 49) 1 false, []⟩,
       ⟨none, (some 51), .mov (.t 7), []⟩,
       ⟨none, (some 52), .idxA 2 (.t 50) (.t 51), []⟩,
       ⟨none, (some 53), .fldP 0 (.t 52), []⟩,
       ⟨none, (some 54), .ld 1 false (.t 53), []⟩,
       ⟨none, (some 55), .adrI 6 none 12 1 (.t 54), []⟩,
       ⟨none, (some 56), .ldV 6 (some 55) 1 false, []⟩,
       ⟨none, (some 57), .adrF 5 none 4, []⟩,
       ⟨none, (some 58), .ldV 5 (some 57) 1 false, []⟩,
       ⟨none, (some 59), .mov (.t 7), []⟩,
       ⟨none, (some 60), .idxA 2 (.t 58) (.t 59), []⟩,
       ⟨none, (some 61), .fldP 1 (.t 60), []⟩,
       ⟨none, (some 62), .ld 1 false (.t 61), []⟩,
       ⟨none, (some 63), .bin .xor (.t 56) (.t 62), []⟩,
       ⟨none, (some 64), .adrI 6 none 12 1 (.t 54), []⟩,
       ⟨none, (some 6), .stV 6 (some 64) 1 (.t 63), []⟩]))
    (.reg [7] [
      ⟨none, (some 47), .mov (.t 7), []⟩,
      ⟨none, (some 48), .bin .add (.t 47) (.c (.int .i64 1)), []⟩,
      ⟨none, (some 7), .mov (.t 48), []⟩])))
def b418_2 : Cd :=
  (.seq
   (.seq
    (.reg [12] [
      ⟨none, (some 9), .mov (.t 4), []⟩,
      ⟨none, (some 10), .mov (.t 0), []⟩,
      ⟨none, (some 11), .len (.t 10), []⟩,
      ⟨none, (some 12), .bin .lss (.t 9) (.t 11), []⟩])
    (.cond (.t 12)
     .skip
     (.exit 0)))
   (.seq
    (.block 1
     (.seq
      (.reg [5] [
        ⟨none, (some 15), .mov (.t 0), []⟩,
        ⟨none, (some 16), .mov (.t 4), []⟩,
        ⟨none, (some 17), .idxA 5 (.t 15) (.t 16), []⟩,
        ⟨none, (some 18), .ld 5 true (.t 17), []⟩,
        ⟨none, (some 5), .zero true [.int .i8 0, .int .i8 0, .int .i8 0, .int .i8 0, .slice none 0 0], []⟩,
        ⟨none, (some 5), .stV 5 none 5 (.t 18), []⟩])
      (.seq
       (.reg [6] [
         ⟨none, (some 19), .agg (zs 12 (.int .u16 0)) [], []⟩,
         ⟨none, (some 6), .zero true (zs 12 (.int .u16 0)), []⟩,
         ⟨none, (some 6), .stV 6 none 12 (.t 19), []⟩])
       (.seq
        (.seq
         (.reg [21] [
           ⟨none, (some 20), .adrF 5 none 0, []⟩,
           ⟨none, (some 21), .ldV 5 (some 20) 1 false, []⟩])
         (.block 2
          (.seq
           (.reg [22] [
             ⟨none, (some 23), .bin .eql (.t 21) (.c (.int .i8 1)), []⟩,
             ⟨none, (some 22), .mov (.t 23), []⟩])
           (.cond (.t 22)
            (.reg [6] [
              ⟨none, (some 24), .mov (.t 3), []⟩,
              ⟨none, (some 25), .adrF 5 none 1, []⟩,
              ⟨none, (some 26), .ldV 5 (some 25) 1 false, []⟩,
              ⟨none, (some 27), .idxA 12 (.t 24) (.t 26), []⟩,
              ⟨none, (some 28), .ld 12 true (.t 27), []⟩,
              ⟨none, (some 6), .stV 6 none 12 (.t 28), []⟩])
            (.seq
             (.reg [29] [
               ⟨none, (some 30), .bin .eql (.t 21) (.c (.int .i8 2)), []⟩,
               ⟨none, (some 29), .mov (.t 30), []⟩])
             (.cond (.t 29)
              (.reg [6] [
                ⟨none, (some 31), .mov (.t 3), []⟩,
                ⟨none, (some 32), .adrF 5 none 1, []⟩,
                ⟨none, (some 33), .ldV 5 (some 32) 1 false, []⟩,
                ⟨none, (some 34), .idxA 12 (.t 31) (.t 33), []⟩,
                ⟨none, (some 35), .adrF 5 none 2, []⟩,
                ⟨none, (some 36), .ldV 5 (some 35) 1 false, []⟩,
                ⟨none, (some 37), .conv .i64 (.t 36), []⟩,
                ⟨none, (some 38), .adrF 5 none 3, []⟩,
                ⟨none, (some 39), .ldV 5 (some 38) 1 false, []⟩,
                ⟨none, (some 40), .conv .i64 (.t 39), []⟩,
                ⟨none, (some 41), .call true 355 [.t 34, .t 37, .t 40], []⟩,
                ⟨none, (some 6), .stV 6 none 12 (.t 41), []⟩])
              .skip))))))
        (.seq
         (.seq
          (.reg [7] [
            ⟨none, (some 7), .mov (.c (.int .i64 0)), []⟩])
          (.block 3
           (.loop b418_1)))
         (.reg [3] [
           ⟨none, (some 65), .mov (.t 3), []⟩,
           ⟨none, (some 66), .ldV 6 none 12 true, []⟩,
           ⟨none, (some 67), .bldS 12 1 (zs 12 (.int .u16 0)) [(0, 12, (.t 66))], []⟩,
           ⟨none, (some 68), .app 12 24 (.t 65) (.t 67), []⟩,
           ⟨none, (some 3), .mov (.t 68), []⟩]))))))
    (.reg [4] [
      ⟨none, (some 13), .mov (.t 4), []⟩,
      ⟨none, (some 14), .bin .add (.t 13) (.c (.int .i64 1)), []⟩,
      ⟨none, (some 4), .mov (.t 14), []⟩])))
def k418 : Cd :=
  (.seq
   (.reg [2] [
     ⟨none, (some 2), .mov (.c (.slice none 0 0)), []⟩])
   (.seq
    (.reg [3] [
      ⟨none, (some 8), .bldS 12 0 (zs 12 (.int .u16 0)) [], []⟩,
      ⟨none, (some 3), .mov (.t 8), []⟩])
    (.seq
     (.seq
      (.reg [4] [
        ⟨none, (some 4), .mov (.c (.int .i64 0)), []⟩])
      (.block 0
       (.loop b418_2)))
     (.seq
      (.reg [2] [
        ⟨none, (some 69), .mov (.t 3), []⟩,
        ⟨none, (some 2), .mov (.t 69), []⟩])
      .ret))))
def c418 : Fn := { np := 1, nt := 70, kind := .pure, res := [.t 2], body := k418 }

/- impl.decode -/
def b419_1 : Cd :=
  (.seq
   (.reg [36] [
     ⟨none, (some 36), .bin .lss (.t 35) (.t 34), []⟩])
   (.seq
    (.cond (.t 36)
     .skip
     (.exit 2))
    (.seq
     (.block 3
      (.seq
       (.reg [8] [
         ⟨none, (some 37), .idxA 2 (.t 33) (.t 35), []⟩,
         ⟨none, (some 38), .ld 2 true (.t 37), []⟩,
         ⟨none, (some 8), .zero true [.int .i8 0, .int .u16 0], []⟩,
         ⟨none, (some 8), .stV 8 none 2 (.t 38), []⟩])
       (.reg [6] [
         ⟨none, (some 39), .adrF 8 none 0, []⟩,
         ⟨none, (some 40), .ldV 8 (some 39) 1 false, []⟩,
         ⟨none, (some 41), .adrI 6 none 12 1 (.t 40), []⟩,
         ⟨none, (some 42), .ldV 6 (some 41) 1 false, []⟩,
         ⟨none, (some 43), .adrF 8 none 1, []⟩,
         ⟨none, (some 44), .ldV 8 (some 43) 1 false, []⟩,
         ⟨none, (some 45), .bin .xor (.t 42) (.t 44), []⟩,
         ⟨none, (some 46), .adrI 6 none 12 1 (.t 40), []⟩,
         ⟨none, (some 6), .stV 6 (some 46) 1 (.t 45), []⟩])))
     (.reg [35] [
       ⟨none, (some 47), .bin .add (.t 35) (.c (.int .i64 1)), []⟩,
       ⟨none, (some 35), .mov (.t 47), []⟩]))))
def b419_2 : Cd :=
  (.seq
   (.reg [13] [
     ⟨none, (some 13), .bin .lss (.t 12) (.t 11), []⟩])
   (.seq
    (.cond (.t 13)
     .skip
     (.exit 0))
    (.seq
     (.block 1
      (.seq
       (.reg [5] [
         ⟨none, (some 14), .idxA 5 (.t 10) (.t 12), []⟩,
         ⟨none, (some 15), .ld 5 true (.t 14), []⟩,
         ⟨none, (some 5), .zero true [.int .i8 0, .int .i8 0, .int .i8 0, .int .i8 0, .slice none 0 0], []⟩,
         ⟨none, (some 5), .stV 5 none 5 (.t 15), []⟩])
       (.seq
        (.reg [6] [
          ⟨none, (some 16), .agg (zs 12 (.int .u16 0)) [], []⟩,
          ⟨none, (some 6), .zero true (zs 12 (.int .u16 0)), []⟩,
          ⟨none, (some 6), .stV 6 none 12 (.t 16), []⟩])
        (.seq
         (.seq
          (.reg [19] [
            ⟨none, (some 17), .adrF 5 none 0, []⟩,
            ⟨none, (some 18), .ldV 5 (some 17) 1 false, []⟩,
            ⟨none, (some 19), .bin .neq (.t 18) (.c (.int .i8 0)), []⟩])
          (.cond (.t 19)
           (.reg [6] [
             ⟨none, (some 20), .mov (.t 3), []⟩,
             ⟨none, (some 21), .adrF 5 none 1, []⟩,
             ⟨none, (some 22), .ldV 5 (some 21) 1 false, []⟩,
             ⟨none, (some 23), .idxA 12 (.t 20) (.t 22), []⟩,
             ⟨none, (some 24), .ld 12 true (.t 23), []⟩,
             ⟨none, (some 25), .adrF 5 none 2, []⟩,
             ⟨none, (some 26), .ldV 5 (some 25) 1 false, []⟩,
             ⟨none, (some 27), .conv .i64 (.t 26), []⟩,
             ⟨none, (some 28), .adrF 5 none 3, []⟩,
             ⟨none, (some 29), .ldV 5 (some 28) 1 false, []⟩,
             ⟨none, (some 30), .conv .i64 (.t 29), []⟩,
             ⟨none, (some 31), .call true 358 [.t 24, .t 27, .t 30], []⟩,
             ⟨none, (some 6), .stV 6 none 12 (.t 31), []⟩])
           .skip))
         (.seq
          (.seq
           (.reg [33, 34, 35] [
             ⟨none, (some 32), .adrF 5 none 4, []⟩,
             ⟨none, (some 33), .ldV 5 (some 32) 1 false, []⟩,
             ⟨none, (some 34), .len (.t 33), []⟩,
             ⟨none, (some 35), .mov (.c (.int .i64 0)), []⟩])
           (.block 2
            (.loop b419_1)))
          (.reg [3] [
            ⟨none, (some 48), .mov (.t 3), []⟩,
            ⟨none, (some 49), .ldV 6 none 12 true, []⟩,
            ⟨none, (some 50), .bldS 12 1 (zs 12 (.int .u16 0)) [(0, 12, (.t 49))], []⟩,
            ⟨none, (some 51), .app 12 24 (.t 48) (.t 50), []⟩,
            ⟨none, (some 3), .mov (.t 51), []⟩]))))))
     (.reg [12] [
       ⟨none, (some 52), .bin .add (.t 12) (.c (.int .i64 1)), []⟩,
       ⟨none, (some 12), .mov (.t 52), []⟩]))))
def k419 : Cd :=
  (.seq
   (.reg [2] [
     ⟨none, (some 2), .mov (.c (.slice none 0 0)), []⟩])
   (.seq
    (.reg [3] [
      ⟨none, (some 9), .bldS 12 0 (zs 12 (.int .u16 0)) [], []⟩,
      ⟨none, (some 3), .mov (.t 9), []⟩])
    (.seq
     (.seq
      (.reg [10, 11, 12] [
        ⟨none, (some 10), .mov (.t 0), []⟩,
        ⟨none, (some 11), .len (.t 10), []⟩,
        ⟨none, (some 12), .mov (.c (.int .i64 0)), []⟩])
      (.block 0
       (.loop b419_2)))
     (.seq
      (.reg [2] [
        ⟨none, (some 53), .mov (.t 3), []⟩,
        ⟨none, (some 2), .mov (.t 53), []⟩])
      .ret))))
def c419 : Fn := { np := 1, nt := 54, kind := .pure, res := [.t 2], body := k419 }

/- spec.l01Dots -/
def b440_1 : Cd :=
  (.seq
   (.seq
    (.reg [12] [
      ⟨none, (some 11), .mov (.t 5), []⟩,
      ⟨none, (some 12), .bin .lss (.t 11) (.c (.int .i64 12)), []⟩])
    (.cond (.t 12)
     .skip
     (.exit 2)))
   (.seq
    (.block 3
     (.seq
      (.reg [18] [
        ⟨none, (some 15), .mov (.t 0), []⟩,
        ⟨none, (some 16), .mov (.t 5), []⟩,
        ⟨none, (some 17), .mov (.t 4), []⟩,
        ⟨none, (some 18), .call true 456 [.t 15, .t 16, .t 17], []⟩])
      (.cond (.t 18)
       (.reg [3] [
         ⟨none, (some 19), .mov (.t 3), []⟩,
         ⟨none, (some 20), .mov (.t 5), []⟩,
         ⟨none, (some 21), .conv .i8 (.t 20), []⟩,
         ⟨none, (some 22), .mov (.t 4), []⟩,
         ⟨none, (some 23), .conv .i8 (.t 22), []⟩,
         ⟨none, (some 24), .agg [.int .i8 0, .int .i8 0] [(0, 1, (.t 21)), (1, 1, (.t 23))], []⟩,
         ⟨none, (some 25), .bldS 2 1 [.int .i8 0, .int .i8 0] [(0, 2, (.t 24))], []⟩,
         ⟨none, (some 26), .app 2 2 (.t 19) (.t 25), []⟩,
         ⟨none, (some 3), .mov (.t 26), []⟩])
       .skip)))
    (.reg [5] [
      ⟨none, (some 13), .mov (.t 5), []⟩,
      ⟨none, (some 14), .bin .add (.t 13) (.c (.int .i64 1)), []⟩,
      ⟨none, (some 5), .mov (.t 14), []⟩])))
def b440_2 : Cd :=
  (.seq
   (.seq
    (.reg [8] [
      ⟨none, (some 7), .mov (.t 4), []⟩,
      ⟨none, (some 8), .bin .lss (.t 7) (.c (.int .i64 12)), []⟩])
    (.cond (.t 8)
     .skip
     (.exit 0)))
   (.seq
    (.block 1
     (.seq
      (.reg [5] [
        ⟨none, (some 5), .mov (.c (.int .i64 0)), []⟩])
      (.block 2
       (.loop b440_1))))
    (.reg [4] [
      ⟨none, (some 9), .mov (.t 4), []⟩,
      ⟨none, (some 10), .bin .add (.t 9) (.c (.int .i64 1)), []⟩,
      ⟨none, (some 4), .mov (.t 10), []⟩])))
def k440 : Cd :=
  (.seq
   (.reg [2] [
     ⟨none, (some 2), .mov (.c (.slice none 0 0)), []⟩])
   (.seq
    (.reg [3] [
      ⟨none, (some 6), .bldS 2 0 [.int .i8 0, .int .i8 0] [], []⟩,
      ⟨none, (some 3), .mov (.t 6), []⟩])
    (.seq
     (.seq
      (.reg [4] [
        ⟨none, (some 4), .mov (.c (.int .i64 0)), []⟩])
      (.block 0
       (.loop b440_2)))
     (.seq
      (.reg [2] [
        ⟨none, (some 27), .mov (.t 3), []⟩,
        ⟨none, (some 2), .mov (.t 27), []⟩])
      .ret))))
def c440 : Fn := { np := 1, nt := 28, kind := .pure, res := [.t 2], body := k440 }

/- (impl.Frame).mix -/
def b443_1 : Cd :=
  (.seq
   (.reg [11] [
     ⟨none, (some 11), .bin .lss (.t 10) (.c (.int .i64 12)), []⟩])
   (.seq
    (.cond (.t 11)
     .skip
     (.exit 0))
    (.seq
     (.block 1
      (.seq
       (.reg [7, 8] [
         ⟨none, (some 12), .mov (.t 10), []⟩,
         ⟨none, (some 13), .idx 12 1 false (.t 9) (.t 10), []⟩,
         ⟨none, (some 7), .mov (.t 12), []⟩,
         ⟨none, (some 8), .mov (.t 13), []⟩])
       (.reg [3] [
         ⟨none, (some 14), .mov (.t 7), []⟩,
         ⟨none, (some 15), .mov (.t 2), []⟩,
         ⟨none, (some 16), .mov (.t 8), []⟩,
         ⟨none, (some 17), .mov (.t 7), []⟩,
         ⟨none, (some 18), .adrI 4 none 12 1 (.t 17), []⟩,
         ⟨none, (some 19), .ldV 4 (some 18) 1 false, []⟩,
         ⟨none, (some 20), .callv (.t 15) [.t 16, .t 19], []⟩,
         ⟨none, (some 21), .adrI 3 none 12 1 (.t 14), []⟩,
         ⟨none, (some 3), .stV 3 (some 21) 1 (.t 20), []⟩])))
     (.reg [10] [
       ⟨none, (some 22), .bin .add (.t 10) (.c (.int .i64 1)), []⟩,
       ⟨none, (some 10), .mov (.t 22), []⟩]))))
def k443 : Cd :=
  (.seq
   (.reg [3, 4, 6] [
     ⟨none, (some 3), .mov (.t 0), []⟩,
     ⟨none, (some 4), .mov (.t 1), []⟩,
     ⟨none, (some 6), .zero true (zs 12 (.int .u16 0)), []⟩])
   (.seq
    (.seq
     (.reg [9, 10] [
       ⟨none, (some 9), .ldV 3 none 12 true, []⟩,
       ⟨none, (some 10), .mov (.c (.int .i64 0)), []⟩])
     (.block 0
      (.loop b443_1)))
    (.seq
     (.reg [6] [
       ⟨none, (some 23), .ldV 3 none 12 true, []⟩,
       ⟨none, (some 6), .stV 6 none 12 (.t 23), []⟩])
     .ret)))
def c443 : Fn := { np := 3, nt := 24, kind := .pure, res := [.v 6 12 true], body := k443 }

/- slices.ContainsFunc[[]uint16,uint16] -/
def k445 : Cd :=
  (.seq
   (.reg [4] [
     ⟨none, (some 4), .mov (.c (.bool false)), []⟩])
   (.seq
    (.reg [4] [
      ⟨none, (some 5), .mov (.t 0), []⟩,
      ⟨none, (some 6), .mov (.t 1), []⟩,
      ⟨none, (some 7), .call true 547 [.t 5, .t 6], []⟩,
      ⟨none, (some 8), .bin .geq (.t 7) (.c (.int .i64 0)), []⟩,
      ⟨none, (some 4), .mov (.t 8), []⟩])
    .ret))
def c445 : Fn := { np := 2, nt := 9, kind := .pure, res := [.t 4], body := k445 }

/- impl.ValidFrame$1 -/
def k446 : Cd :=
  (.seq
   (.reg [2] [
     ⟨none, (some 2), .mov (.c (.bool false)), []⟩])
   (.seq
    (.reg [2] [
      ⟨none, (some 3), .mov (.t 0), []⟩,
      ⟨none, (some 4), .bin .gtr (.t 3) (.c (.int .u16 4095)), []⟩,
      ⟨none, (some 2), .mov (.t 4), []⟩])
    .ret))
def c446 : Fn := { np := 1, nt := 5, kind := .pure, res := [.t 2], body := k446 }

/- spec.l01Has -/
def k456 : Cd :=
  (.seq
   (.reg [6] [
     ⟨none, (some 6), .mov (.c (.bool false)), []⟩])
   (.seq
    (.reg [6] [
      ⟨none, (some 7), .mov (.t 1), []⟩,
      ⟨none, (some 8), .mov (.t 2), []⟩,
      ⟨none, (some 9), .call true 342 [.t 7, .t 8], []⟩,
      ⟨none, (some 10), .mov (.t 9), []⟩,
      ⟨(some (10, true)), (some 11), .mov (.t 0), []⟩,
      ⟨(some (10, true)), (some 12), .mov (.t 2), []⟩,
      ⟨(some (10, true)), (some 13), .nil (.t 11), []⟩,
      ⟨(some (10, true)), (some 14), .idxP 12 1 (.t 13) (.t 12), []⟩,
      ⟨(some (10, true)), (some 15), .ld 1 false (.t 14), []⟩,
      ⟨(some (10, true)), (some 16), .mov (.t 1), []⟩,
      ⟨(some (10, true)), (some 17), .conv .u64 (.t 16), []⟩,
      ⟨(some (10, true)), (some 18), .bin .shr (.t 15) (.t 17), []⟩,
      ⟨(some (10, true)), (some 19), .bin .rem (.t 18) (.c (.int .u16 2)), []⟩,
      ⟨(some (10, true)), (some 20), .bin .eql (.t 19) (.c (.int .u16 1)), []⟩,
      ⟨none, (some 21), .pick (.t 10) (.t 20) (.c (.bool false)), []⟩,
      ⟨none, (some 6), .mov (.t 21), []⟩])
    .ret))
def c456 : Fn := { np := 3, nt := 22, kind := .pure, res := [.t 6], body := k456 }

/- (*spec.l00Src).pick -/
def k459 : Cd :=
  (.seq
   (.reg [4] [
     ⟨none, (some 4), .mov (.c (.int .i64 0)), []⟩])
   (.seq
    (.seq
     (.reg [7] [
       ⟨none, (some 6), .mov (.t 1), []⟩,
       ⟨none, (some 7), .bin .leq (.t 6) (.c (.int .i64 1)), []⟩])
     (.cond (.t 7)
      (.seq
       (.reg [4] [
         ⟨none, (some 4), .mov (.c (.int .i64 0)), []⟩])
       .ret)
      .skip))
    (.seq
     (.reg [5] [
       ⟨none, (some 8), .mov (.t 0), []⟩,
       ⟨none, (some 9), .call false 550 [.t 8], []⟩,
       ⟨none, (some 5), .mov (.t 9), []⟩])
     (.seq
      (.seq
       (.reg [11] [
         ⟨none, (some 10), .mov (.t 1), []⟩,
         ⟨none, (some 11), .bin .gtr (.t 10) (.c (.int .i64 200)), []⟩])
       (.cond (.t 11)
        (.reg [5] [
          ⟨none, (some 12), .mov (.t 5), []⟩,
          ⟨none, (some 13), .bin .mul (.t 12) (.c (.int .i64 256)), []⟩,
          ⟨none, (some 14), .mov (.t 0), []⟩,
          ⟨none, (some 15), .call false 550 [.t 14], []⟩,
          ⟨none, (some 16), .bin .add (.t 13) (.t 15), []⟩,
          ⟨none, (some 5), .mov (.t 16), []⟩])
        .skip))
      (.seq
       (.reg [4] [
         ⟨none, (some 17), .mov (.t 5), []⟩,
         ⟨none, (some 18), .mov (.t 1), []⟩,
         ⟨none, (some 19), .bin .rem (.t 17) (.t 18), []⟩,
         ⟨none, (some 4), .mov (.t 19), []⟩])
       .ret)))))
def c459 : Fn := { np := 2, nt := 20, kind := .args, res := [.t 4], body := k459 }

/- impl.stepText -/
def b465_1 : Cd :=
  (.seq
   (.reg [40] [
     ⟨none, (some 40), .bin .lss (.t 39) (.t 38), []⟩])
   (.seq
    (.cond (.t 40)
     .skip
     (.exit 0))
    (.seq
     (.block 1
      (.seq
       (.reg [5] [
         ⟨none, (some 41), .idxA 2 (.t 37) (.t 39), []⟩,
         ⟨none, (some 42), .ld 2 true (.t 41), []⟩,
         ⟨none, (some 5), .zero true [.int .i8 0, .int .u16 0], []⟩,
         ⟨none, (some 5), .stV 5 none 2 (.t 42), []⟩])
       (.reg [3] [
         ⟨none, (some 43), .mov (.t 3), []⟩,
         ⟨none, (some 44), .adrF 5 none 0, []⟩,
         ⟨none, (some 45), .ldV 5 (some 44) 1 false, []⟩,
         ⟨none, (some 46), .conv .i64 (.t 45), []⟩,
         ⟨none, (some 50), .adrF 5 none 1, []⟩,
         ⟨none, (some 51), .ldV 5 (some 50) 1 false, []⟩,
         ⟨none, (some 52), .conv .i64 (.t 51), []⟩,
         ⟨none, (some 47), .call true 379 [.t 46], []⟩,
         ⟨none, (some 48), .bin .add (.c (.string ⟨#[32]⟩)) (.t 47), []⟩,
         ⟨none, (some 49), .bin .add (.t 48) (.c (.string ⟨#[58]⟩)), []⟩,
         ⟨none, (some 53), .call true 379 [.t 52], []⟩,
         ⟨none, (some 54), .bin .add (.t 49) (.t 53), []⟩,
         ⟨none, (some 55), .bin .add (.t 43) (.t 54), []⟩,
         ⟨none, (some 3), .mov (.t 55), []⟩])))
     (.reg [39] [
       ⟨none, (some 56), .bin .add (.t 39) (.c (.int .i64 1)), []⟩,
       ⟨none, (some 39), .mov (.t 56), []⟩]))))
def k465 : Cd :=
  (.seq
   (.reg [1, 2] [
     ⟨none, (some 1), .mov (.t 0), []⟩,
     ⟨none, (some 2), .mov (.c (.string ⟨#[]⟩)), []⟩])
   (.seq
    (.reg [3] [
      ⟨none, (some 6), .adrF 1 none 0, []⟩,
      ⟨none, (some 7), .ldV 1 (some 6) 1 false, []⟩,
      ⟨none, (some 8), .idxP 3 1 (.c (.pointer (some ⟨0, 0, some 0⟩))) (.t 7), []⟩,
      ⟨none, (some 9), .ld 1 false (.t 8), []⟩,
      ⟨none, (some 3), .mov (.t 9), []⟩])
    (.seq
     (.seq
      (.reg [12] [
        ⟨none, (some 10), .adrF 1 none 0, []⟩,
        ⟨none, (some 11), .ldV 1 (some 10) 1 false, []⟩,
        ⟨none, (some 12), .bin .neq (.t 11) (.c (.int .i8 0)), []⟩])
      (.cond (.t 12)
       (.reg [3] [
         ⟨none, (some 13), .mov (.t 3), []⟩,
         ⟨none, (some 14), .adrF 1 none 1, []⟩,
         ⟨none, (some 15), .ldV 1 (some 14) 1 false, []⟩,
         ⟨none, (some 16), .conv .i64 (.t 15), []⟩,
         ⟨none, (some 17), .call true 379 [.t 16], []⟩,
         ⟨none, (some 18), .bin .add (.c (.string ⟨#[32]⟩)) (.t 17), []⟩,
         ⟨none, (some 19), .bin .add (.t 13) (.t 18), []⟩,
         ⟨none, (some 3), .mov (.t 19), []⟩])
       .skip))
     (.seq
      (.seq
       (.reg [22] [
         ⟨none, (some 20), .adrF 1 none 0, []⟩,
         ⟨none, (some 21), .ldV 1 (some 20) 1 false, []⟩,
         ⟨none, (some 22), .bin .eql (.t 21) (.c (.int .i8 2)), []⟩])
       (.cond (.t 22)
        (.reg [3] [
          ⟨none, (some 23), .mov (.t 3), []⟩,
          ⟨none, (some 24), .adrF 1 none 2, []⟩,
          ⟨none, (some 25), .ldV 1 (some 24) 1 false, []⟩,
          ⟨none, (some 26), .conv .i64 (.t 25), []⟩,
          ⟨none, (some 30), .adrF 1 none 3, []⟩,
          ⟨none, (some 31), .ldV 1 (some 30) 1 false, []⟩,
          ⟨none, (some 32), .conv .i64 (.t 31), []⟩,
          ⟨none, (some 27), .call true 379 [.t 26], []⟩,
          ⟨none, (some 28), .bin .add (.c (.string ⟨#[32]⟩)) (.t 27), []⟩,
          ⟨none, (some 29), .bin .add (.t 28) (.c (.string ⟨#[32]⟩)), []⟩,
          ⟨none, (some 33), .call true 379 [.t 32], []⟩,
          ⟨none, (some 34), .bin .add (.t 29) (.t 33), []⟩,
          ⟨none, (some 35), .bin .add (.t 23) (.t 34), []⟩,
          ⟨none, (some 3), .mov (.t 35), []⟩])
        .skip))
      (.seq
       (.seq
        (.reg [37, 38, 39] [
          ⟨none, (some 36), .adrF 1 none 4, []⟩,
          ⟨none, (some 37), .ldV 1 (some 36) 1 false, []⟩,
          ⟨none, (some 38), .len (.t 37), []⟩,
          ⟨none, (some 39), .mov (.c (.int .i64 0)), []⟩])
        (.block 0
         (.loop b465_1)))
       (.seq
        (.reg [2] [
          ⟨none, (some 57), .mov (.t 3), []⟩,
          ⟨none, (some 2), .mov (.t 57), []⟩])
        .ret))))))
def c465 : Fn := { np := 1, nt := 58, kind := .pure, res := [.t 2], body := k465 }

/- spec.l06Drawn -/
def b469_1 : Cd :=
  (.seq
   (.seq
    (.reg [45] [
      ⟨none, (some 44), .mov (.t 6), []⟩,
      ⟨none, (some 45), .bin .lss (.t 44) (.c (.int .i8 4)), []⟩])
    (.cond (.t 45)
     .skip
     (.exit 2)))
   (.seq
    (.block 3
     (.seq
      (.reg [49] [
        ⟨none, (some 48), .mov (.t 0), []⟩,
        ⟨none, (some 49), .call false 513 [.t 48, .c (.int .i64 3)], []⟩])
      (.cond (.t 49)
       (.reg [5] [
         ⟨none, (some 50), .adrF 5 none 4, []⟩,
         ⟨none, (some 51), .ldV 5 (some 50) 1 false, []⟩,
         ⟨none, (some 52), .mov (.t 6), []⟩,
         ⟨none, (some 53), .mov (.t 0), []⟩,
         ⟨none, (some 54), .call false 459 [.t 53, .c (.int .i64 63)], []⟩,
         ⟨none, (some 55), .bin .add (.c (.int .i64 1)) (.t 54), []⟩,
         ⟨none, (some 56), .conv .u16 (.t 55), []⟩,
         ⟨none, (some 57), .agg [.int .i8 0, .int .u16 0] [(0, 1, (.t 52)), (1, 1, (.t 56))], []⟩,
         ⟨none, (some 58), .bldS 2 1 [.int .i8 0, .int .u16 0] [(0, 2, (.t 57))], []⟩,
         ⟨none, (some 59), .app 2 4 (.t 51) (.t 58), []⟩,
         ⟨none, (some 60), .adrF 5 none 4, []⟩,
         ⟨none, (some 5), .stV 5 (some 60) 1 (.t 59), []⟩])
       .skip)))
    (.reg [6] [
      ⟨none, (some 46), .mov (.t 6), []⟩,
      ⟨none, (some 47), .bin .add (.t 46) (.c (.int .i8 1)), []⟩,
      ⟨none, (some 6), .mov (.t 47), []⟩])))
def b469_2 : Cd :=
  (.seq
   (.seq
    (.reg [11] [
      ⟨none, (some 10), .mov (.t 4), []⟩,
      ⟨none, (some 11), .bin .gtr (.t 10) (.c (.int .i64 0)), []⟩])
    (.cond (.t 11)
     .skip
     (.exit 0)))
   (.seq
    (.block 1
     (.seq
      (.reg [5] [
        ⟨none, (some 14), .mov (.t 0), []⟩,
        ⟨none, (some 15), .call false 459 [.t 14, .c (.int .i64 3)], []⟩,
        ⟨none, (some 16), .conv .i8 (.t 15), []⟩,
        ⟨none, (some 17), .agg [.int .i8 0, .int .i8 0, .int .i8 0, .int .i8 0, .slice none 0 0] [(0, 1, (.t 16))], []⟩,
        ⟨none, (some 5), .zero true [.int .i8 0, .int .i8 0, .int .i8 0, .int .i8 0, .slice none 0 0], []⟩,
        ⟨none, (some 5), .stV 5 none 5 (.t 17), []⟩])
      (.seq
       (.seq
        (.reg [20] [
          ⟨none, (some 18), .mov (.t 3), []⟩,
          ⟨none, (some 19), .len (.t 18), []⟩,
          ⟨none, (some 20), .bin .eql (.t 19) (.c (.int .i64 0)), []⟩])
        (.cond (.t 20)
         (.reg [5] [
           ⟨none, (some 21), .adrF 5 none 0, []⟩,
           ⟨none, (some 5), .stV 5 (some 21) 1 (.c (.int .i8 0)), []⟩])
         .skip))
       (.seq
        (.seq
         (.reg [24] [
           ⟨none, (some 22), .adrF 5 none 0, []⟩,
           ⟨none, (some 23), .ldV 5 (some 22) 1 false, []⟩,
           ⟨none, (some 24), .bin .neq (.t 23) (.c (.int .i8 0)), []⟩])
         (.cond (.t 24)
          (.reg [5] [
            ⟨none, (some 25), .mov (.t 0), []⟩,
            ⟨none, (some 26), .mov (.t 3), []⟩,
            ⟨none, (some 27), .len (.t 26), []⟩,
            ⟨none, (some 28), .call false 459 [.t 25, .t 27], []⟩,
            ⟨none, (some 29), .conv .i8 (.t 28), []⟩,
            ⟨none, (some 30), .adrF 5 none 1, []⟩,
            ⟨none, (some 5), .stV 5 (some 30) 1 (.t 29), []⟩])
          .skip))
        (.seq
         (.seq
          (.reg [33] [
            ⟨none, (some 31), .adrF 5 none 0, []⟩,
            ⟨none, (some 32), .ldV 5 (some 31) 1 false, []⟩,
            ⟨none, (some 33), .bin .eql (.t 32) (.c (.int .i8 2)), []⟩])
          (.cond (.t 33)
           (.seq
            (.reg [5] [
              ⟨none, (some 34), .mov (.t 0), []⟩,
              ⟨none, (some 35), .call false 459 [.t 34, .c (.int .i64 7)], []⟩,
              ⟨none, (some 36), .bin .sub (.t 35) (.c (.int .i64 3)), []⟩,
              ⟨none, (some 37), .conv .i8 (.t 36), []⟩,
              ⟨none, (some 38), .adrF 5 none 2, []⟩,
              ⟨none, (some 5), .stV 5 (some 38) 1 (.t 37), []⟩])
            (.reg [5] [
              ⟨none, (some 39), .mov (.t 0), []⟩,
              ⟨none, (some 40), .call false 459 [.t 39, .c (.int .i64 3)], []⟩,
              ⟨none, (some 41), .bin .add (.c (.int .i64 1)) (.t 40), []⟩,
              ⟨none, (some 42), .conv .i8 (.t 41), []⟩,
              ⟨none, (some 43), .adrF 5 none 3, []⟩,
              ⟨none, (some 5), .stV 5 (some 43) 1 (.t 42), []⟩]))
           .skip))
         (.seq
          (.seq
           (.reg [6] [
             ⟨none, (some 6), .mov (.c (.int .i8 0)), []⟩])
           (.block 2
            (.loop b469_1)))
          (.reg [3] [
            ⟨none, (some 61), .mov (.t 3), []⟩,
            ⟨none, (some 62), .ldV 5 none 5 true, []⟩,
            ⟨none, (some 63), .bldS 5 1 [.int .i8 0, .int .i8 0, .int .i8 0, .int .i8 0, .slice none 0 0] [(0, 5, (.t 62))], []⟩,
            ⟨none, (some 64), .app 5 32 (.t 61) (.t 63), []⟩,
            ⟨none, (some 3), .mov (.t 64), []⟩])))))))
    (.reg [4] [
      ⟨none, (some 12), .mov (.t 4), []⟩,
      ⟨none, (some 13), .bin .sub (.t 12) (.c (.int .i64 1)), []⟩,
      ⟨none, (some 4), .mov (.t 13), []⟩])))
def k469 : Cd :=
  (.seq
   (.reg [2] [
     ⟨none, (some 2), .mov (.c (.slice none 0 0)), []⟩])
   (.seq
    (.reg [3] [
      ⟨none, (some 7), .bldS 5 0 [.int .i8 0, .int .i8 0, .int .i8 0, .int .i8 0, .slice none 0 0] [], []⟩,
      ⟨none, (some 3), .mov (.t 7), []⟩])
    (.seq
     (.seq
      (.reg [4] [
        ⟨none, (some 8), .mov (.t 0), []⟩,
        ⟨none, (some 9), .call false 459 [.t 8, .c (.int .i64 6)], []⟩,
        ⟨none, (some 4), .mov (.t 9), []⟩])
      (.block 0
       (.loop b469_2)))
     (.seq
      (.reg [2] [
        ⟨none, (some 65), .mov (.t 3), []⟩,
        ⟨none, (some 2), .mov (.t 65), []⟩])
      .ret))))
def c469 : Fn := { np := 1, nt := 66, kind := .args, res := [.t 2], body := k469 }

/- slices.IndexFunc[[]impl.Frame,impl.Frame] -/
def b474_1 : Cd :=
  (.seq
   (.reg [9] [
     ⟨none, (some 9), .bin .lss (.t 8) (.t 7), []⟩])
   (.seq
    (.cond (.t 9)
     .skip
     (.exit 0))
    (.seq
     (.block 1
      (.seq
       (.reg [5] [
         ⟨none, (some 10), .mov (.t 8), []⟩,
         ⟨none, (some 5), .mov (.t 10), []⟩])
       (.seq
        (.reg [16] [
          ⟨none, (some 11), .mov (.t 1), []⟩,
          ⟨none, (some 12), .mov (.t 0), []⟩,
          ⟨none, (some 13), .mov (.t 5), []⟩,
          ⟨none, (some 14), .idxA 12 (.t 12) (.t 13), []⟩,
          ⟨none, (some 15), .ld 12 true (.t 14), []⟩,
          ⟨none, (some 16), .callv (.t 11) [.t 15], []⟩])
        (.cond (.t 16)
         (.seq
          (.reg [4] [
            ⟨none, (some 17), .mov (.t 5), []⟩,
            ⟨none, (some 4), .mov (.t 17), []⟩])
          .ret)
         .skip))))
     (.reg [8] [
       ⟨none, (some 18), .bin .add (.t 8) (.c (.int .i64 1)), []⟩,
       ⟨none, (some 8), .mov (.t 18), []⟩]))))
def k474 : Cd :=
  (.seq
   (.reg [4] [
     ⟨none, (some 4), .mov (.c (.int .i64 0)), []⟩])
   (.seq
    (.seq
     (.reg [7, 8] [
       ⟨none, (some 6), .mov (.t 0), []⟩,
       ⟨none, (some 7), .len (.t 6), []⟩,
       ⟨none, (some 8), .mov (.c (.int .i64 0)), []⟩])
     (.block 0
      (.loop b474_1)))
    (.seq
     (.reg [4] [
       ⟨none, (some 4), .mov (.c (.int .i64 (-1))), []⟩])
     .ret)))
def c474 : Fn := { np := 2, nt := 19, kind := .pure, res := [.t 4], body := k474 }

/- impl.readStep -/
def b486_1 : Cd :=
  (.seq
   (.reg [52] [
     ⟨none, (some 52), .bin .lss (.t 51) (.t 50), []⟩])
   (.seq
    (.cond (.t 52)
     .skip
     (.exit 0))
    (.seq
     (.block 1
      (.seq
       (.reg [8, 9] [
         ⟨none, (some 53), .mov (.t 51), []⟩,
         ⟨none, (some 54), .idxA 1 (.t 49) (.t 51), []⟩,
         ⟨none, (some 55), .ld 1 false (.t 54), []⟩,
         ⟨none, (some 8), .mov (.t 53), []⟩,
         ⟨none, (some 9), .mov (.t 55), []⟩])
       (.seq
        (.reg [10, 11] [
          ⟨none, (some 57), .mov (.t 4), []⟩,
          ⟨none, (some 58), .mov (.t 8), []⟩,
          ⟨none, (some 59), .bin .add (.t 58) (.c (.int .i64 1)), []⟩,
          ⟨none, (some 60), .idxA 1 (.t 57) (.t 59), []⟩,
          ⟨none, (some 61), .ld 1 false (.t 60), []⟩,
          ⟨none, (some 62), .call true 378 [.t 61, .c (.int .i64 (-12)), .c (.int .i64 40)], []⟩,
          ⟨none, (some 56), .mov (.t 62), []⟩,
          ⟨none, (some 63), .ext (.t 56) 0, []⟩,
          ⟨none, (some 64), .ext (.t 56) 1, []⟩,
          ⟨none, (some 10), .mov (.t 63), []⟩,
          ⟨none, (some 11), .mov (.t 64), []⟩])
        (.seq
         (.seq
          (.reg [66] [
            ⟨none, (some 65), .mov (.t 11), []⟩,
            ⟨none, (some 66), .un .not (.t 65), []⟩])
          (.cond (.t 66)
           (.seq
            (.reg [2, 3] [
              ⟨none, (some 67), .agg [.int .i8 0, .int .i8 0, .int .i8 0, .int .i8 0, .slice none 0 0] [], []⟩,
              ⟨none, (some 2), .stV 2 none 5 (.t 67), []⟩,
              ⟨none, (some 3), .mov (.c (.bool false)), []⟩])
            .ret)
           .skip))
         (.reg [] [
           ⟨none, (some 68), .mov (.t 9), []⟩,
           ⟨none, (some 69), .mov (.t 10), []⟩,
           ⟨none, (some 70), .conv .i8 (.t 69), []⟩,
           ⟨none, (some 71), .nil (.t 68), []⟩,
           ⟨none, none, .st 1 (.t 71) (.t 70), []⟩])))))
     (.reg [51] [
       ⟨none, (some 72), .bin .add (.t 51) (.c (.int .i64 1)), []⟩,
       ⟨none, (some 51), .mov (.t 72), []⟩]))))
def b486_2 : Cd :=
  (.seq
   (.reg [80] [
     ⟨none, (some 80), .bin .lss (.t 79) (.t 78), []⟩])
   (.seq
    (.cond (.t 80)
     .skip
     (.exit 2))
    (.seq
     (.block 3
      (.seq
       (.reg [13] [
         ⟨none, (some 81), .idxA 1 (.t 77) (.t 79), []⟩,
         ⟨none, (some 82), .ld 1 false (.t 81), []⟩,
         ⟨none, (some 13), .mov (.t 82), []⟩])
       (.seq
        (.reg [14, 15, 16] [
          ⟨none, (some 84), .mov (.t 13), []⟩,
          ⟨none, (some 85), .call false 377 [.t 84, .c (.string ⟨#[58]⟩)], []⟩,
          ⟨none, (some 83), .mov (.t 85), []⟩,
          ⟨none, (some 86), .ext (.t 83) 0, []⟩,
          ⟨none, (some 87), .ext (.t 83) 1, []⟩,
          ⟨none, (some 88), .ext (.t 83) 2, []⟩,
          ⟨none, (some 14), .mov (.t 86), []⟩,
          ⟨none, (some 15), .mov (.t 87), []⟩,
          ⟨none, (some 16), .mov (.t 88), []⟩])
        (.seq
         (.reg [17, 18] [
           ⟨none, (some 90), .mov (.t 14), []⟩,
           ⟨none, (some 91), .call true 378 [.t 90, .c (.int .i64 0), .c (.int .i64 11)], []⟩,
           ⟨none, (some 89), .mov (.t 91), []⟩,
           ⟨none, (some 92), .ext (.t 89) 0, []⟩,
           ⟨none, (some 93), .ext (.t 89) 1, []⟩,
           ⟨none, (some 17), .mov (.t 92), []⟩,
           ⟨none, (some 18), .mov (.t 93), []⟩])
         (.seq
          (.reg [19, 20] [
            ⟨none, (some 95), .mov (.t 15), []⟩,
            ⟨none, (some 96), .call true 378 [.t 95, .c (.int .i64 1), .c (.int .i64 4095)], []⟩,
            ⟨none, (some 94), .mov (.t 96), []⟩,
            ⟨none, (some 97), .ext (.t 94) 0, []⟩,
            ⟨none, (some 98), .ext (.t 94) 1, []⟩,
            ⟨none, (some 19), .mov (.t 97), []⟩,
            ⟨none, (some 20), .mov (.t 98), []⟩])
          (.seq
           (.seq
            (.reg [108] [
              ⟨none, (some 99), .mov (.t 16), []⟩,
              ⟨none, (some 100), .un .not (.t 99), []⟩,
              ⟨none, (some 101), .mov (.t 100), []⟩,
              ⟨(some (101, false)), (some 102), .mov (.t 18), []⟩,
              ⟨(some (101, false)), (some 103), .un .not (.t 102), []⟩,
              ⟨none, (some 104), .pick (.t 101) (.c (.bool true)) (.t 103), []⟩,
              ⟨none, (some 105), .mov (.t 104), []⟩,
              ⟨(some (105, false)), (some 106), .mov (.t 20), []⟩,
              ⟨(some (105, false)), (some 107), .un .not (.t 106), []⟩,
              ⟨none, (some 108), .pick (.t 105) (.c (.bool true)) (.t 107), []⟩])
            (.cond (.t 108)
             (.seq
              (.reg [2, 3] [
                ⟨none, (some 109), .agg [.int .i8 0, .int .i8 0, .int .i8 0, .int .i8 0, .slice none 0 0] [], []⟩,
                ⟨none, (some 2), .stV 2 none 5 (.t 109), []⟩,
                ⟨none, (some 3), .mov (.c (.bool false)), []⟩])
              .ret)
             .skip))
           (.reg [] [
             ⟨none, (some 110), .fldP 4 (.t 6), []⟩,
             ⟨none, (some 111), .ld 1 false (.t 110), []⟩,
             ⟨none, (some 112), .mov (.t 17), []⟩,
             ⟨none, (some 113), .conv .i8 (.t 112), []⟩,
             ⟨none, (some 114), .mov (.t 19), []⟩,
             ⟨none, (some 115), .conv .u16 (.t 114), []⟩,
             ⟨none, (some 116), .agg [.int .i8 0, .int .u16 0] [(0, 1, (.t 113)), (1, 1, (.t 115))], []⟩,
             ⟨none, (some 117), .bldS 2 1 [.int .i8 0, .int .u16 0] [(0, 2, (.t 116))], []⟩,
             ⟨none, (some 118), .app 2 4 (.t 111) (.t 117), []⟩,
             ⟨none, (some 119), .fldP 4 (.t 6), []⟩,
             ⟨none, none, .st 1 (.t 119) (.t 118), []⟩])))))))
     (.reg [79] [
       ⟨none, (some 120), .bin .add (.t 79) (.c (.int .i64 1)), []⟩,
       ⟨none, (some 79), .mov (.t 120), []⟩]))))
def k486 : Cd :=
  (.seq
   (.reg [2, 3] [
     ⟨none, (some 2), .zero true [.int .i8 0, .int .i8 0, .int .i8 0, .int .i8 0, .slice none 0 0], []⟩,
     ⟨none, (some 3), .mov (.c (.bool false)), []⟩])
   (.seq
    (.reg [4] [
      ⟨none, (some 21), .mov (.t 0), []⟩,
      ⟨none, (some 22), .call false 485 [.t 21, .c (.string ⟨#[32]⟩)], []⟩,
      ⟨none, (some 4), .mov (.t 22), []⟩])
    (.seq
     (.reg [5] [
       ⟨none, (some 23), .slcP 3 1 (.c (.pointer (some ⟨0, 0, some 0⟩))), []⟩,
       ⟨none, (some 24), .mov (.t 4), []⟩,
       ⟨none, (some 25), .idxA 1 (.t 24) (.c (.int .i64 0)), []⟩,
       ⟨none, (some 26), .ld 1 false (.t 25), []⟩,
       ⟨none, (some 27), .call true 559 [.t 23, .t 26], []⟩,
       ⟨none, (some 5), .mov (.t 27), []⟩])
     (.seq
      (.seq
       (.reg [29] [
         ⟨none, (some 28), .mov (.t 5), []⟩,
         ⟨none, (some 29), .bin .lss (.t 28) (.c (.int .i64 0)), []⟩])
       (.cond (.t 29)
        (.seq
         (.reg [2, 3] [
           ⟨none, (some 30), .agg [.int .i8 0, .int .i8 0, .int .i8 0, .int .i8 0, .slice none 0 0] [], []⟩,
           ⟨none, (some 2), .stV 2 none 5 (.t 30), []⟩,
           ⟨none, (some 3), .mov (.c (.bool false)), []⟩])
         .ret)
        .skip))
      (.seq
       (.reg [6] [
         ⟨none, (some 31), .mov (.t 5), []⟩,
         ⟨none, (some 32), .conv .i8 (.t 31), []⟩,
         ⟨none, (some 33), .agg [.int .i8 0, .int .i8 0, .int .i8 0, .int .i8 0, .slice none 0 0] [(0, 1, (.t 32))], []⟩,
         ⟨none, (some 6), .new 1 [.int .i8 0, .int .i8 0, .int .i8 0, .int .i8 0, .slice none 0 0], []⟩,
         ⟨none, none, .st 5 (.t 6) (.t 33), []⟩])
       (.seq
        (.reg [7] [
          ⟨none, (some 34), .fldP 1 (.t 6), []⟩,
          ⟨none, (some 35), .fldP 2 (.t 6), []⟩,
          ⟨none, (some 36), .fldP 3 (.t 6), []⟩,
          ⟨none, (some 37), .bldS 1 3 [.pointer none] [(0, 1, (.t 34)), (1, 1, (.t 35)), (2, 1, (.t 36))], []⟩,
          ⟨none, (some 38), .agg [.int .i64 0, .int .i64 0, .int .i64 0] [(0, 1, (.c (.int .i64 0))), (1, 1, (.c (.int .i64 1))), (2, 1, (.c (.int .i64 3)))], []⟩,
          ⟨none, (some 39), .mov (.t 5), []⟩,
          ⟨none, (some 40), .idx 3 1 false (.t 38) (.t 39), []⟩,
          ⟨none, (some 41), .slcA 1 (.t 37) none (some (.t 40)) none, []⟩,
          ⟨none, (some 7), .mov (.t 41), []⟩])
        (.seq
         (.seq
          (.reg [47] [
            ⟨none, (some 42), .mov (.t 4), []⟩,
            ⟨none, (some 43), .len (.t 42), []⟩,
            ⟨none, (some 44), .mov (.t 7), []⟩,
            ⟨none, (some 45), .len (.t 44), []⟩,
            ⟨none, (some 46), .bin .add (.t 45) (.c (.int .i64 1)), []⟩,
            ⟨none, (some 47), .bin .lss (.t 43) (.t 46), []⟩])
          (.cond (.t 47)
           (.seq
            (.reg [2, 3] [
              ⟨none, (some 48), .agg [.int .i8 0, .int .i8 0, .int .i8 0, .int .i8 0, .slice none 0 0] [], []⟩,
              ⟨none, (some 2), .stV 2 none 5 (.t 48), []⟩,
              ⟨none, (some 3), .mov (.c (.bool false)), []⟩])
            .ret)
           .skip))
         (.seq
          (.seq
           (.reg [49, 50, 51] [
             ⟨none, (some 49), .mov (.t 7), []⟩,
             ⟨none, (some 50), .len (.t 49), []⟩,
             ⟨none, (some 51), .mov (.c (.int .i64 0)), []⟩])
           (.block 0
            (.loop b486_1)))
          (.seq
           (.seq
            (.reg [77, 78, 79] [
              ⟨none, (some 73), .mov (.t 4), []⟩,
              ⟨none, (some 74), .mov (.t 7), []⟩,
              ⟨none, (some 75), .len (.t 74), []⟩,
              ⟨none, (some 76), .bin .add (.t 75) (.c (.int .i64 1)), []⟩,
              ⟨none, (some 77), .slcA 1 (.t 73) (some (.t 76)) none none, []⟩,
              ⟨none, (some 78), .len (.t 77), []⟩,
              ⟨none, (some 79), .mov (.c (.int .i64 0)), []⟩])
            (.block 2
             (.loop b486_2)))
           (.seq
            (.reg [2, 3] [
              ⟨none, (some 121), .ld 5 true (.t 6), []⟩,
              ⟨none, (some 2), .stV 2 none 5 (.t 121), []⟩,
              ⟨none, (some 3), .mov (.c (.bool true)), []⟩])
            .ret))))))))))
def c486 : Fn := { np := 1, nt := 122, kind := .pure, res := [.v 2 5 true, .t 3], body := k486 }

/- impl.length[impl.Change] -/
def k490 : Cd :=
  (.seq
   (.reg [2] [
     ⟨none, (some 2), .mov (.c (.int .i64 0)), []⟩])
   (.seq
    (.reg [2] [
      ⟨none, (some 3), .mov (.t 0), []⟩,
      ⟨none, (some 4), .len (.t 3), []⟩,
      ⟨none, (some 2), .mov (.t 4), []⟩])
    .ret))
def c490 : Fn := { np := 1, nt := 5, kind := .pure, res := [.t 2], body := k490 }

/- slices.ContainsFunc[[]impl.Frame,impl.Frame] -/
def k505 : Cd :=
  (.seq
   (.reg [4] [
     ⟨none, (some 4), .mov (.c (.bool false)), []⟩])
   (.seq
    (.reg [4] [
      ⟨none, (some 5), .mov (.t 0), []⟩,
      ⟨none, (some 6), .mov (.t 1), []⟩,
      ⟨none, (some 7), .call true 474 [.t 5, .t 6], []⟩,
      ⟨none, (some 8), .bin .geq (.t 7) (.c (.int .i64 0)), []⟩,
      ⟨none, (some 4), .mov (.t 8), []⟩])
    .ret))
def c505 : Fn := { np := 2, nt := 9, kind := .pure, res := [.t 4], body := k505 }

/- impl.areFrames$1 -/
def k506 : Cd :=
  (.seq
   (.reg [1, 2] [
     ⟨none, (some 1), .mov (.t 0), []⟩,
     ⟨none, (some 2), .mov (.c (.bool false)), []⟩])
   (.seq
    (.reg [2] [
      ⟨none, (some 3), .ldV 1 none 12 true, []⟩,
      ⟨none, (some 4), .call true 234 [.t 3], []⟩,
      ⟨none, (some 5), .un .not (.t 4), []⟩,
      ⟨none, (some 2), .mov (.t 5), []⟩])
    .ret))
def c506 : Fn := { np := 1, nt := 6, kind := .pure, res := [.t 2], body := k506 }

/- (impl.Frame).differ$1 -/
def k512 : Cd :=
  (.seq
   (.reg [4] [
     ⟨none, (some 4), .mov (.c (.int .u16 0)), []⟩])
   (.seq
    (.reg [4] [
      ⟨none, (some 5), .mov (.t 0), []⟩,
      ⟨none, (some 6), .mov (.t 1), []⟩,
      ⟨none, (some 7), .bin .xor (.t 5) (.t 6), []⟩,
      ⟨none, (some 4), .mov (.t 7), []⟩])
    .ret))
def c512 : Fn := { np := 2, nt := 8, kind := .pure, res := [.t 4], body := k512 }

/- (*spec.l00Src).one -/
def k513 : Cd :=
  (.seq
   (.reg [4] [
     ⟨none, (some 4), .mov (.c (.bool false)), []⟩])
   (.seq
    (.reg [4] [
      ⟨none, (some 5), .mov (.t 0), []⟩,
      ⟨none, (some 6), .mov (.t 1), []⟩,
      ⟨none, (some 7), .call false 459 [.t 5, .t 6], []⟩,
      ⟨none, (some 8), .bin .eql (.t 7) (.c (.int .i64 0)), []⟩,
      ⟨none, (some 4), .mov (.t 8), []⟩])
    .ret))
def c513 : Fn := { np := 2, nt := 9, kind := .args, res := [.t 4], body := k513 }

/- spec.l06Step -/
def k524 : Cd :=
  (.seq
   (.reg [4] [
     ⟨none, (some 4), .mov (.c (.bool false)), []⟩])
   (.seq
    (.seq
     (.reg [38] [
       ⟨none, (some 6), .mov (.t 0), []⟩,
       ⟨none, (some 7), .nil (.t 6), []⟩,
       ⟨none, (some 8), .fldP 0 (.t 7), []⟩,
       ⟨none, (some 9), .ld 1 false (.t 8), []⟩,
       ⟨none, (some 10), .conv .i64 (.t 9), []⟩,
       ⟨none, (some 11), .call true 309 [.t 10], []⟩,
       ⟨none, (some 12), .un .not (.t 11), []⟩,
       ⟨none, (some 13), .mov (.t 12), []⟩,
       ⟨(some (13, false)), (some 14), .mov (.t 0), []⟩,
       ⟨(some (13, false)), (some 15), .nil (.t 14), []⟩,
       ⟨(some (13, false)), (some 16), .fldP 2 (.t 15), []⟩,
       ⟨(some (13, false)), (some 17), .ld 1 false (.t 16), []⟩,
       ⟨(some (13, false)), (some 18), .conv .i64 (.t 17), []⟩,
       ⟨(some (13, false)), (some 19), .call true 572 [.t 18], []⟩,
       ⟨(some (13, false)), (some 20), .un .not (.t 19), []⟩,
       ⟨none, (some 21), .pick (.t 13) (.c (.bool true)) (.t 20), []⟩,
       ⟨none, (some 22), .mov (.t 21), []⟩,
       ⟨(some (22, false)), (some 23), .mov (.t 0), []⟩,
       ⟨(some (22, false)), (some 24), .nil (.t 23), []⟩,
       ⟨(some (22, false)), (some 25), .fldP 3 (.t 24), []⟩,
       ⟨(some (22, false)), (some 26), .ld 1 false (.t 25), []⟩,
       ⟨(some (22, false)), (some 27), .conv .i64 (.t 26), []⟩,
       ⟨(some (22, false)), (some 28), .call true 572 [.t 27], []⟩,
       ⟨(some (22, false)), (some 29), .un .not (.t 28), []⟩,
       ⟨none, (some 30), .pick (.t 22) (.c (.bool true)) (.t 29), []⟩,
       ⟨none, (some 31), .mov (.t 30), []⟩,
       ⟨(some (31, false)), (some 32), .mov (.t 0), []⟩,
       ⟨(some (31, false)), (some 33), .nil (.t 32), []⟩,
       ⟨(some (31, false)), (some 34), .fldP 4 (.t 33), []⟩,
       ⟨(some (31, false)), (some 35), .ld 1 false (.t 34), []⟩,
       ⟨(some (31, false)), (some 36), .call true 573 [.t 35], []⟩,
       ⟨(some (31, false)), (some 37), .un .not (.t 36), []⟩,
       ⟨none, (some 38), .pick (.t 31) (.c (.bool true)) (.t 37), []⟩])
     (.cond (.t 38)
      (.seq
       (.reg [4] [
         ⟨none, (some 4), .mov (.c (.bool false)), []⟩])
       .ret)
      .skip))
    (.seq
     (.reg [5] [
       ⟨none, (some 39), .mov (.t 0), []⟩,
       ⟨none, (some 40), .nil (.t 39), []⟩,
       ⟨none, (some 41), .fldP 2 (.t 40), []⟩,
       ⟨none, (some 42), .ld 1 false (.t 41), []⟩,
       ⟨none, (some 43), .bin .eql (.t 42) (.c (.int .i8 0)), []⟩,
       ⟨none, (some 44), .mov (.t 43), []⟩,
       ⟨(some (44, true)), (some 45), .mov (.t 0), []⟩,
       ⟨(some (44, true)), (some 46), .nil (.t 45), []⟩,
       ⟨(some (44, true)), (some 47), .fldP 3 (.t 46), []⟩,
       ⟨(some (44, true)), (some 48), .ld 1 false (.t 47), []⟩,
       ⟨(some (44, true)), (some 49), .bin .eql (.t 48) (.c (.int .i8 0)), []⟩,
       ⟨none, (some 50), .pick (.t 44) (.t 49) (.c (.bool false)), []⟩,
       ⟨none, (some 5), .mov (.t 50), []⟩])
     (.seq
      (.seq
       (.reg [54] [
         ⟨none, (some 51), .mov (.t 0), []⟩,
         ⟨none, (some 52), .nil (.t 51), []⟩,
         ⟨none, (some 53), .fldP 0 (.t 52), []⟩,
         ⟨none, (some 54), .ld 1 false (.t 53), []⟩])
       (.block 0
        (.seq
         (.reg [55] [
           ⟨none, (some 56), .bin .eql (.t 54) (.c (.int .i8 0)), []⟩,
           ⟨none, (some 55), .mov (.t 56), []⟩])
         (.cond (.t 55)
          (.seq
           (.reg [4] [
             ⟨none, (some 57), .mov (.t 0), []⟩,
             ⟨none, (some 58), .nil (.t 57), []⟩,
             ⟨none, (some 59), .fldP 1 (.t 58), []⟩,
             ⟨none, (some 60), .ld 1 false (.t 59), []⟩,
             ⟨none, (some 61), .bin .eql (.t 60) (.c (.int .i8 0)), []⟩,
             ⟨none, (some 62), .mov (.t 61), []⟩,
             ⟨(some (62, true)), (some 63), .mov (.t 5), []⟩,
             ⟨none, (some 64), .pick (.t 62) (.t 63) (.c (.bool false)), []⟩,
             ⟨none, (some 4), .mov (.t 64), []⟩])
           .ret)
          (.seq
           (.reg [65] [
             ⟨none, (some 66), .bin .eql (.t 54) (.c (.int .i8 1)), []⟩,
             ⟨none, (some 65), .mov (.t 66), []⟩])
           (.cond (.t 65)
            (.seq
             (.reg [4] [
               ⟨none, (some 67), .mov (.t 0), []⟩,
               ⟨none, (some 68), .nil (.t 67), []⟩,
               ⟨none, (some 69), .fldP 1 (.t 68), []⟩,
               ⟨none, (some 70), .ld 1 false (.t 69), []⟩,
               ⟨none, (some 71), .conv .i64 (.t 70), []⟩,
               ⟨none, (some 72), .mov (.t 1), []⟩,
               ⟨none, (some 73), .bin .sub (.t 72) (.c (.int .i64 1)), []⟩,
               ⟨none, (some 74), .call true 304 [.t 71, .c (.int .i64 0), .t 73], []⟩,
               ⟨none, (some 75), .mov (.t 74), []⟩,
               ⟨(some (75, true)), (some 76), .mov (.t 5), []⟩,
               ⟨none, (some 77), .pick (.t 75) (.t 76) (.c (.bool false)), []⟩,
               ⟨none, (some 4), .mov (.t 77), []⟩])
             .ret)
            .skip))))))
      (.seq
       (.reg [4] [
         ⟨none, (some 78), .mov (.t 0), []⟩,
         ⟨none, (some 79), .nil (.t 78), []⟩,
         ⟨none, (some 80), .fldP 1 (.t 79), []⟩,
         ⟨none, (some 81), .ld 1 false (.t 80), []⟩,
         ⟨none, (some 82), .conv .i64 (.t 81), []⟩,
         ⟨none, (some 83), .mov (.t 1), []⟩,
         ⟨none, (some 84), .bin .sub (.t 83) (.c (.int .i64 1)), []⟩,
         ⟨none, (some 85), .call true 304 [.t 82, .c (.int .i64 0), .t 84], []⟩,
         ⟨none, (some 86), .mov (.t 85), []⟩,
         ⟨(some (86, true)), (some 87), .mov (.t 5), []⟩,
         ⟨(some (86, true)), (some 88), .un .not (.t 87), []⟩,
         ⟨none, (some 89), .pick (.t 86) (.t 88) (.c (.bool false)), []⟩,
         ⟨none, (some 4), .mov (.t 89), []⟩])
       .ret)))))
def c524 : Fn := { np := 2, nt := 90, kind := .pure, res := [.t 4], body := k524 }

/- impl.length[impl.Step] -/
def k531 : Cd :=
  (.seq
   (.reg [2] [
     ⟨none, (some 2), .mov (.c (.int .i64 0)), []⟩])
   (.seq
    (.reg [2] [
      ⟨none, (some 3), .mov (.t 0), []⟩,
      ⟨none, (some 4), .len (.t 3), []⟩,
      ⟨none, (some 2), .mov (.t 4), []⟩])
    .ret))
def c531 : Fn := { np := 1, nt := 5, kind := .pure, res := [.t 2], body := k531 }

/- slices.Index[[]int64,int64] -/
def b532_1 : Cd :=
  (.seq
   (.reg [9] [
     ⟨none, (some 9), .bin .lss (.t 8) (.t 7), []⟩])
   (.seq
    (.cond (.t 9)
     .skip
     (.exit 0))
    (.seq
     (.block 1
      (.seq
       (.reg [5] [
         ⟨none, (some 10), .mov (.t 8), []⟩,
         ⟨none, (some 5), .mov (.t 10), []⟩])
       (.seq
        (.reg [16] [
          ⟨none, (some 11), .mov (.t 1), []⟩,
          ⟨none, (some 12), .mov (.t 0), []⟩,
          ⟨none, (some 13), .mov (.t 5), []⟩,
          ⟨none, (some 14), .idxA 1 (.t 12) (.t 13), []⟩,
          ⟨none, (some 15), .ld 1 false (.t 14), []⟩,
          ⟨none, (some 16), .bin .eql (.t 11) (.t 15), []⟩])
        (.cond (.t 16)
         (.seq
          (.reg [4] [
            ⟨none, (some 17), .mov (.t 5), []⟩,
            ⟨none, (some 4), .mov (.t 17), []⟩])
          .ret)
         .skip))))
     (.reg [8] [
       ⟨none, (some 18), .bin .add (.t 8) (.c (.int .i64 1)), []⟩,
       ⟨none, (some 8), .mov (.t 18), []⟩]))))
def k532 : Cd :=
  (.seq
   (.reg [4] [
     ⟨none, (some 4), .mov (.c (.int .i64 0)), []⟩])
   (.seq
    (.seq
     (.reg [7, 8] [
       ⟨none, (some 6), .mov (.t 0), []⟩,
       ⟨none, (some 7), .len (.t 6), []⟩,
       ⟨none, (some 8), .mov (.c (.int .i64 0)), []⟩])
     (.block 0
      (.loop b532_1)))
    (.seq
     (.reg [4] [
       ⟨none, (some 4), .mov (.c (.int .i64 (-1))), []⟩])
     .ret)))
def c532 : Fn := { np := 2, nt := 19, kind := .pure, res := [.t 4], body := k532 }

/- slices.IndexFunc[[]uint16,uint16] -/
def b547_1 : Cd :=
  (.seq
   (.reg [9] [
     ⟨none, (some 9), .bin .lss (.t 8) (.t 7), []⟩])
   (.seq
    (.cond (.t 9)
     .skip
     (.exit 0))
    (.seq
     (.block 1
      (.seq
       (.reg [5] [
         ⟨none, (some 10), .mov (.t 8), []⟩,
         ⟨none, (some 5), .mov (.t 10), []⟩])
       (.seq
        (.reg [16] [
          ⟨none, (some 11), .mov (.t 1), []⟩,
          ⟨none, (some 12), .mov (.t 0), []⟩,
          ⟨none, (some 13), .mov (.t 5), []⟩,
          ⟨none, (some 14), .idxA 1 (.t 12) (.t 13), []⟩,
          ⟨none, (some 15), .ld 1 false (.t 14), []⟩,
          ⟨none, (some 16), .callv (.t 11) [.t 15], []⟩])
        (.cond (.t 16)
         (.seq
          (.reg [4] [
            ⟨none, (some 17), .mov (.t 5), []⟩,
            ⟨none, (some 4), .mov (.t 17), []⟩])
          .ret)
         .skip))))
     (.reg [8] [
       ⟨none, (some 18), .bin .add (.t 8) (.c (.int .i64 1)), []⟩,
       ⟨none, (some 8), .mov (.t 18), []⟩]))))
def k547 : Cd :=
  (.seq
   (.reg [4] [
     ⟨none, (some 4), .mov (.c (.int .i64 0)), []⟩])
   (.seq
    (.seq
     (.reg [7, 8] [
       ⟨none, (some 6), .mov (.t 0), []⟩,
       ⟨none, (some 7), .len (.t 6), []⟩,
       ⟨none, (some 8), .mov (.c (.int .i64 0)), []⟩])
     (.block 0
      (.loop b547_1)))
    (.seq
     (.reg [4] [
       ⟨none, (some 4), .mov (.c (.int .i64 (-1))), []⟩])
     .ret)))
def c547 : Fn := { np := 2, nt := 19, kind := .pure, res := [.t 4], body := k547 }

/- (*spec.l00Src).next -/
def k550 : Cd :=
  (.seq
   (.reg [2] [
     ⟨none, (some 2), .mov (.c (.int .i64 0)), []⟩])
   (.seq
    (.reg [3] [
      ⟨none, (some 3), .mov (.c (.int .i64 0)), []⟩])
    (.seq
     (.seq
      (.reg [13] [
        ⟨none, (some 4), .mov (.t 0), []⟩,
        ⟨none, (some 5), .nil (.t 4), []⟩,
        ⟨none, (some 6), .fldP 1 (.t 5), []⟩,
        ⟨none, (some 7), .ld 1 false (.t 6), []⟩,
        ⟨none, (some 8), .mov (.t 0), []⟩,
        ⟨none, (some 9), .nil (.t 8), []⟩,
        ⟨none, (some 10), .fldP 0 (.t 9), []⟩,
        ⟨none, (some 11), .ld 1 false (.t 10), []⟩,
        ⟨none, (some 12), .len (.t 11), []⟩,
        ⟨none, (some 13), .bin .lss (.t 7) (.t 12), []⟩])
      (.cond (.t 13)
       (.reg [3] [
         ⟨none, (some 14), .mov (.t 0), []⟩,
         ⟨none, (some 15), .nil (.t 14), []⟩,
         ⟨none, (some 16), .fldP 0 (.t 15), []⟩,
         ⟨none, (some 17), .ld 1 false (.t 16), []⟩,
         ⟨none, (some 18), .mov (.t 0), []⟩,
         ⟨none, (some 19), .nil (.t 18), []⟩,
         ⟨none, (some 20), .fldP 1 (.t 19), []⟩,
         ⟨none, (some 21), .ld 1 false (.t 20), []⟩,
         ⟨none, (some 22), .idxA 1 (.t 17) (.t 21), []⟩,
         ⟨none, (some 23), .ld 1 false (.t 22), []⟩,
         ⟨none, (some 24), .conv .i64 (.t 23), []⟩,
         ⟨none, (some 3), .mov (.t 24), []⟩])
       .skip))
     (.seq
      (.reg [] [
        ⟨none, (some 25), .mov (.t 0), []⟩,
        ⟨none, (some 26), .nil (.t 25), []⟩,
        ⟨none, (some 27), .fldP 1 (.t 26), []⟩,
        ⟨none, (some 28), .ld 1 false (.t 27), []⟩,
        ⟨none, (some 29), .bin .add (.t 28) (.c (.int .i64 1)), []⟩,
        ⟨none, (some 30), .nil (.t 25), []⟩,
        ⟨none, (some 31), .fldP 1 (.t 30), []⟩,
        ⟨none, none, .st 1 (.t 31) (.t 29), []⟩])
      (.seq
       (.reg [] [
         ⟨none, (some 32), .mov (.t 0), []⟩,
         ⟨none, (some 33), .mov (.t 0), []⟩,
         ⟨none, (some 34), .nil (.t 33), []⟩,
         ⟨none, (some 35), .fldP 2 (.t 34), []⟩,
         ⟨none, (some 36), .ld 1 false (.t 35), []⟩,
         ⟨none, (some 37), .bin .mul (.t 36) (.c (.int .u64 6364136223846793005)), []⟩,
         ⟨none, (some 38), .mov (.t 3), []⟩,
         ⟨none, (some 39), .conv .u64 (.t 38), []⟩,
         ⟨none, (some 40), .bin .add (.t 37) (.t 39), []⟩,
         ⟨none, (some 41), .bin .add (.t 40) (.c (.int .u64 1442695040888963407)), []⟩,
         ⟨none, (some 42), .nil (.t 32), []⟩,
         ⟨none, (some 43), .fldP 2 (.t 42), []⟩,
         ⟨none, none, .st 1 (.t 43) (.t 41), []⟩])
       (.seq
        (.seq
         (.reg [53] [
           ⟨none, (some 44), .mov (.t 0), []⟩,
           ⟨none, (some 45), .nil (.t 44), []⟩,
           ⟨none, (some 46), .fldP 1 (.t 45), []⟩,
           ⟨none, (some 47), .ld 1 false (.t 46), []⟩,
           ⟨none, (some 48), .mov (.t 0), []⟩,
           ⟨none, (some 49), .nil (.t 48), []⟩,
           ⟨none, (some 50), .fldP 0 (.t 49), []⟩,
           ⟨none, (some 51), .ld 1 false (.t 50), []⟩,
           ⟨none, (some 52), .len (.t 51), []⟩,
           ⟨none, (some 53), .bin .leq (.t 47) (.t 52), []⟩])
         (.cond (.t 53)
          (.seq
           (.reg [2] [
             ⟨none, (some 54), .mov (.t 3), []⟩,
             ⟨none, (some 2), .mov (.t 54), []⟩])
           .ret)
          .skip))
        (.seq
         (.reg [2] [
           ⟨none, (some 55), .mov (.t 0), []⟩,
           ⟨none, (some 56), .nil (.t 55), []⟩,
           ⟨none, (some 57), .fldP 2 (.t 56), []⟩,
           ⟨none, (some 58), .ld 1 false (.t 57), []⟩,
           ⟨none, (some 59), .bin .shr (.t 58) (.c (.int .u64 40)), []⟩,
           ⟨none, (some 60), .bin .and (.t 59) (.c (.int .u64 255)), []⟩,
           ⟨none, (some 61), .conv .i64 (.t 60), []⟩,
           ⟨none, (some 2), .mov (.t 61), []⟩])
         .ret)))))))
def c550 : Fn := { np := 1, nt := 62, kind := .args, res := [.t 2], body := k550 }

/- slices.Index[[]string,string] -/
def b559_1 : Cd :=
  (.seq
   (.reg [9] [
     ⟨none, (some 9), .bin .lss (.t 8) (.t 7), []⟩])
   (.seq
    (.cond (.t 9)
     .skip
     (.exit 0))
    (.seq
     (.block 1
      (.seq
       (.reg [5] [
         ⟨none, (some 10), .mov (.t 8), []⟩,
         ⟨none, (some 5), .mov (.t 10), []⟩])
       (.seq
        (.reg [16] [
          ⟨none, (some 11), .mov (.t 1), []⟩,
          ⟨none, (some 12), .mov (.t 0), []⟩,
          ⟨none, (some 13), .mov (.t 5), []⟩,
          ⟨none, (some 14), .idxA 1 (.t 12) (.t 13), []⟩,
          ⟨none, (some 15), .ld 1 false (.t 14), []⟩,
          ⟨none, (some 16), .eq .s false (.t 11) (.t 15), []⟩])
        (.cond (.t 16)
         (.seq
          (.reg [4] [
            ⟨none, (some 17), .mov (.t 5), []⟩,
            ⟨none, (some 4), .mov (.t 17), []⟩])
          .ret)
         .skip))))
     (.reg [8] [
       ⟨none, (some 18), .bin .add (.t 8) (.c (.int .i64 1)), []⟩,
       ⟨none, (some 8), .mov (.t 18), []⟩]))))
def k559 : Cd :=
  (.seq
   (.reg [4] [
     ⟨none, (some 4), .mov (.c (.int .i64 0)), []⟩])
   (.seq
    (.seq
     (.reg [7, 8] [
       ⟨none, (some 6), .mov (.t 0), []⟩,
       ⟨none, (some 7), .len (.t 6), []⟩,
       ⟨none, (some 8), .mov (.c (.int .i64 0)), []⟩])
     (.block 0
      (.loop b559_1)))
    (.seq
     (.reg [4] [
       ⟨none, (some 4), .mov (.c (.int .i64 (-1))), []⟩])
     .ret)))
def c559 : Fn := { np := 2, nt := 19, kind := .pure, res := [.t 4], body := k559 }

/- spec.l06Far -/
def k572 : Cd :=
  (.seq
   (.reg [2] [
     ⟨none, (some 2), .mov (.c (.bool false)), []⟩])
   (.seq
    (.reg [2] [
      ⟨none, (some 3), .mov (.t 0), []⟩,
      ⟨none, (some 4), .call true 304 [.t 3, .c (.int .i64 (-12)), .c (.int .i64 12)], []⟩,
      ⟨none, (some 2), .mov (.t 4), []⟩])
    .ret))
def c572 : Fn := { np := 1, nt := 5, kind := .pure, res := [.t 2], body := k572 }

/- spec.l06Rows -/
def b573_1 : Cd :=
  (.seq
   (.seq
    (.reg [7] [
      ⟨none, (some 4), .mov (.t 3), []⟩,
      ⟨none, (some 5), .mov (.t 0), []⟩,
      ⟨none, (some 6), .len (.t 5), []⟩,
      ⟨none, (some 7), .bin .lss (.t 4) (.t 6), []⟩])
    (.cond (.t 7)
     .skip
     (.exit 0)))
   (.seq
    (.block 1
     (.seq
      (.seq
       (.reg [27] [
         ⟨none, (some 10), .mov (.t 0), []⟩,
         ⟨none, (some 11), .mov (.t 3), []⟩,
         ⟨none, (some 12), .idxA 2 (.t 10) (.t 11), []⟩,
         ⟨none, (some 13), .fldP 0 (.t 12), []⟩,
         ⟨none, (some 14), .ld 1 false (.t 13), []⟩,
         ⟨none, (some 15), .conv .i64 (.t 14), []⟩,
         ⟨none, (some 16), .call true 304 [.t 15, .c (.int .i64 0), .c (.int .i64 11)], []⟩,
         ⟨none, (some 17), .un .not (.t 16), []⟩,
         ⟨none, (some 18), .mov (.t 17), []⟩,
         ⟨(some (18, false)), (some 19), .mov (.t 0), []⟩,
         ⟨(some (18, false)), (some 20), .mov (.t 3), []⟩,
         ⟨(some (18, false)), (some 21), .idxA 2 (.t 19) (.t 20), []⟩,
         ⟨(some (18, false)), (some 22), .fldP 1 (.t 21), []⟩,
         ⟨(some (18, false)), (some 23), .ld 1 false (.t 22), []⟩,
         ⟨(some (18, false)), (some 24), .conv .i64 (.t 23), []⟩,
         ⟨(some (18, false)), (some 25), .call true 304 [.t 24, .c (.int .i64 1), .c (.int .i64 4095)], []⟩,
         ⟨(some (18, false)), (some 26), .un .not (.t 25), []⟩,
         ⟨none, (some 27), .pick (.t 18) (.c (.bool true)) (.t 26), []⟩])
       (.cond (.t 27)
        (.seq
         (.reg [2] [
           ⟨none, (some 2), .mov (.c (.bool false)), []⟩])
         .ret)
        .skip))
      (.seq
       (.reg [43] [
         ⟨none, (some 28), .mov (.t 3), []⟩,
         ⟨none, (some 29), .bin .gtr (.t 28) (.c (.int .i64 0)), []⟩,
         ⟨none, (some 30), .mov (.t 29), []⟩,
         ⟨(some (30, true)), (some 31), .mov (.t 0), []⟩,
         ⟨(some (30, true)), (some 32), .mov (.t 3), []⟩,
         ⟨(some (30, true)), (some 33), .idxA 2 (.t 31) (.t 32), []⟩,
         ⟨(some (30, true)), (some 34), .fldP 0 (.t 33), []⟩,
         ⟨(some (30, true)), (some 35), .ld 1 false (.t 34), []⟩,
         ⟨(some (30, true)), (some 36), .mov (.t 0), []⟩,
         ⟨(some (30, true)), (some 37), .mov (.t 3), []⟩,
         ⟨(some (30, true)), (some 38), .bin .sub (.t 37) (.c (.int .i64 1)), []⟩,
         ⟨(some (30, true)), (some 39), .idxA 2 (.t 36) (.t 38), []⟩,
         ⟨(some (30, true)), (some 40), .fldP 0 (.t 39), []⟩,
         ⟨(some (30, true)), (some 41), .ld 1 false (.t 40), []⟩,
         ⟨(some (30, true)), (some 42), .bin .leq (.t 35) (.t 41), []⟩,
         ⟨none, (some 43), .pick (.t 30) (.t 42) (.c (.bool false)), []⟩])
       (.cond (.t 43)
        (.seq
         (.reg [2] [
           ⟨none, (some 2), .mov (.c (.bool false)), []⟩])
         .ret)
        .skip))))
    (.reg [3] [
      ⟨none, (some 8), .mov (.t 3), []⟩,
      ⟨none, (some 9), .bin .add (.t 8) (.c (.int .i64 1)), []⟩,
      ⟨none, (some 3), .mov (.t 9), []⟩])))
def k573 : Cd :=
  (.seq
   (.reg [2] [
     ⟨none, (some 2), .mov (.c (.bool false)), []⟩])
   (.seq
    (.seq
     (.reg [3] [
       ⟨none, (some 3), .mov (.c (.int .i64 0)), []⟩])
     (.block 0
      (.loop b573_1)))
    (.seq
     (.reg [2] [
       ⟨none, (some 2), .mov (.c (.bool true)), []⟩])
     .ret)))
def c573 : Fn := { np := 1, nt := 44, kind := .pure, res := [.t 2], body := k573 }


end Fb
