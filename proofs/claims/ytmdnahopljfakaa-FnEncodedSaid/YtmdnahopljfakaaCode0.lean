/- The functions of the law, in the small language. -/
import Derived.Test.YtmdnahopljfakaaDen
set_option linter.unusedVariables false
set_option linter.unusedSimpArgs false
namespace Fb
open Go

/- laws.FnEncoded -/
def b56_1 : Cd :=
  (.seq
   (.seq
    (.reg [96] [
      ⟨none, (some 93), .mov (.t 21), []⟩,
      ⟨none, (some 94), .mov (.t 5), []⟩,
      ⟨none, (some 95), .len (.t 94), []⟩,
      ⟨none, (some 96), .bin .lss (.t 93) (.t 95), []⟩])
    (.cond (.t 96)
     .skip
     (.exit 0)))
   (.seq
    (.block 1
     (.seq
      (.reg [22, 23] [
        ⟨none, (some 100), .mov (.t 5), []⟩,
        ⟨none, (some 101), .mov (.t 21), []⟩,
        ⟨none, (some 102), .idxA 5 (.t 100) (.t 101), []⟩,
        ⟨none, (some 103), .ld 5 true (.t 102), []⟩,
        ⟨none, (some 104), .call true 82 [.t 103], []⟩,
        ⟨none, (some 99), .mov (.t 104), []⟩,
        ⟨none, (some 105), .ext (.t 99) 0, []⟩,
        ⟨none, (some 106), .ext (.t 99) 1, []⟩,
        ⟨none, (some 22), .mov (.t 105), []⟩,
        ⟨none, (some 23), .mov (.t 106), []⟩])
      (.seq
       (.seq
        (.reg [108] [
          ⟨none, (some 107), .mov (.t 23), []⟩,
          ⟨none, (some 108), .bin .neq (.t 107) (.c (.int .i64 0)), []⟩])
        (.cond (.t 108)
         (.seq
          (.reg [4] [
            ⟨none, (some 4), .mov (.c (.bool false)), []⟩])
          .ret)
         .skip))
       (.reg [20] [
         ⟨none, (some 109), .mov (.t 20), []⟩,
         ⟨none, (some 110), .mov (.t 22), []⟩,
         ⟨none, (some 111), .bin .add (.t 109) (.t 110), []⟩,
         ⟨none, (some 20), .mov (.t 111), []⟩]))))
    (.reg [21] [
      ⟨none, (some 97), .mov (.t 21), []⟩,
      ⟨none, (some 98), .bin .add (.t 97) (.c (.int .i64 1)), []⟩,
      ⟨none, (some 21), .mov (.t 98), []⟩])))
def b56_2 : Cd :=
  (.seq
   (.seq
    (.reg [261] [
      ⟨none, (some 258), .mov (.t 38), []⟩,
      ⟨none, (some 259), .mov (.t 33), []⟩,
      ⟨none, (some 260), .len (.t 259), []⟩,
      ⟨none, (some 261), .bin .lss (.t 258) (.t 260), []⟩])
    (.cond (.t 261)
     .skip
     (.exit 2)))
   (.seq
    (.block 3
     (.seq
      (.reg [39, 40] [
        ⟨none, (some 265), .mov (.t 28), []⟩,
        ⟨none, (some 266), .mov (.t 38), []⟩,
        ⟨none, (some 267), .idxA 5 (.t 265) (.t 266), []⟩,
        ⟨none, (some 268), .ld 5 true (.t 267), []⟩,
        ⟨none, (some 269), .call true 82 [.t 268], []⟩,
        ⟨none, (some 264), .mov (.t 269), []⟩,
        ⟨none, (some 270), .ext (.t 264) 0, []⟩,
        ⟨none, (some 271), .ext (.t 264) 1, []⟩,
        ⟨none, (some 39), .mov (.t 270), []⟩,
        ⟨none, (some 40), .mov (.t 271), []⟩])
      (.seq
       (.reg [41, 42] [
         ⟨none, (some 273), .mov (.t 8), []⟩,
         ⟨none, (some 274), .mov (.t 38), []⟩,
         ⟨none, (some 275), .call true 187 [.t 273, .t 274], []⟩,
         ⟨none, (some 272), .mov (.t 275), []⟩,
         ⟨none, (some 276), .ext (.t 272) 0, []⟩,
         ⟨none, (some 277), .ext (.t 272) 1, []⟩,
         ⟨none, (some 41), .zero true [.int .i8 0, .int .i8 0, .int .i8 0, .int .i8 0, .slice none 0 0], []⟩,
         ⟨none, (some 41), .stV 41 none 5 (.t 276), []⟩,
         ⟨none, (some 42), .mov (.t 277), []⟩])
       (.seq
        (.reg [43, 44] [
          ⟨none, (some 279), .mov (.t 15), []⟩,
          ⟨none, (some 280), .mov (.t 38), []⟩,
          ⟨none, (some 281), .idxA 5 (.t 279) (.t 280), []⟩,
          ⟨none, (some 282), .ld 5 true (.t 281), []⟩,
          ⟨none, (some 283), .call true 82 [.t 282], []⟩,
          ⟨none, (some 278), .mov (.t 283), []⟩,
          ⟨none, (some 284), .ext (.t 278) 0, []⟩,
          ⟨none, (some 285), .ext (.t 278) 1, []⟩,
          ⟨none, (some 43), .mov (.t 284), []⟩,
          ⟨none, (some 44), .mov (.t 285), []⟩])
        (.seq
         (.seq
          (.reg [324] [
            ⟨none, (some 286), .mov (.t 33), []⟩,
            ⟨none, (some 287), .mov (.t 38), []⟩,
            ⟨none, (some 288), .idxA 1 (.t 286) (.t 287), []⟩,
            ⟨none, (some 289), .ld 1 false (.t 288), []⟩,
            ⟨none, (some 290), .bin .lss (.t 289) (.c (.int .i64 0)), []⟩,
            ⟨none, (some 291), .mov (.t 290), []⟩,
            ⟨(some (291, false)), (some 292), .mov (.t 33), []⟩,
            ⟨(some (291, false)), (some 293), .mov (.t 38), []⟩,
            ⟨(some (291, false)), (some 294), .idxA 1 (.t 292) (.t 293), []⟩,
            ⟨(some (291, false)), (some 295), .ld 1 false (.t 294), []⟩,
            ⟨(some (291, false)), (some 296), .mov (.t 24), []⟩,
            ⟨(some (291, false)), (some 297), .bin .gtr (.t 295) (.t 296), []⟩,
            ⟨none, (some 298), .pick (.t 291) (.c (.bool true)) (.t 297), []⟩,
            ⟨none, (some 299), .mov (.t 298), []⟩,
            ⟨(some (299, false)), (some 300), .mov (.t 40), []⟩,
            ⟨(some (299, false)), (some 301), .bin .neq (.t 300) (.c (.int .i64 0)), []⟩,
            ⟨none, (some 302), .pick (.t 299) (.c (.bool true)) (.t 301), []⟩,
            ⟨none, (some 303), .mov (.t 302), []⟩,
            ⟨(some (303, false)), (some 304), .mov (.t 42), []⟩,
            ⟨(some (303, false)), (some 305), .bin .neq (.t 304) (.c (.int .i64 0)), []⟩,
            ⟨none, (some 306), .pick (.t 303) (.c (.bool true)) (.t 305), []⟩,
            ⟨none, (some 307), .mov (.t 306), []⟩,
            ⟨(some (307, false)), (some 308), .ldV 41 none 5 true, []⟩,
            ⟨(some (307, false)), (some 309), .mov (.t 15), []⟩,
            ⟨(some (307, false)), (some 310), .mov (.t 38), []⟩,
            ⟨(some (307, false)), (some 311), .idxA 5 (.t 309) (.t 310), []⟩,
            ⟨(some (307, false)), (some 312), .ld 5 true (.t 311), []⟩,
            ⟨(some (307, false)), (some 313), .call true 275 [.t 308, .t 312], []⟩,
            ⟨(some (307, false)), (some 314), .un .not (.t 313), []⟩,
            ⟨none, (some 315), .pick (.t 307) (.c (.bool true)) (.t 314), []⟩,
            ⟨none, (some 316), .mov (.t 315), []⟩,
            ⟨(some (316, false)), (some 317), .mov (.t 44), []⟩,
            ⟨(some (316, false)), (some 318), .bin .neq (.t 317) (.c (.int .i64 0)), []⟩,
            ⟨none, (some 319), .pick (.t 316) (.c (.bool true)) (.t 318), []⟩,
            ⟨none, (some 320), .mov (.t 319), []⟩,
            ⟨(some (320, false)), (some 321), .mov (.t 43), []⟩,
            ⟨(some (320, false)), (some 322), .mov (.t 39), []⟩,
            ⟨(some (320, false)), (some 323), .bin .gtr (.t 321) (.t 322), []⟩,
            ⟨none, (some 324), .pick (.t 320) (.c (.bool true)) (.t 323), []⟩])
          (.cond (.t 324)
           (.seq
            (.reg [4] [
              ⟨none, (some 4), .mov (.c (.bool false)), []⟩])
            .ret)
           .skip))
         (.reg [37] [
           ⟨none, (some 325), .mov (.t 37), []⟩,
           ⟨none, (some 326), .mov (.t 39), []⟩,
           ⟨none, (some 327), .bin .add (.t 325) (.t 326), []⟩,
           ⟨none, (some 37), .mov (.t 327), []⟩]))))))
    (.reg [38] [
      ⟨none, (some 262), .mov (.t 38), []⟩,
      ⟨none, (some 263), .bin .add (.t 262) (.c (.int .i64 1)), []⟩,
      ⟨none, (some 38), .mov (.t 263), []⟩])))
def k56 : Cd :=
  (.seq
   (.reg [4] [
     ⟨none, (some 4), .mov (.c (.bool false)), []⟩])
   (.seq
    (.seq
     (.reg [57] [
       ⟨none, (some 52), .mov (.t 0), []⟩,
       ⟨none, (some 53), .call true 169 [.t 52], []⟩,
       ⟨none, (some 54), .mov (.t 53), []⟩,
       ⟨(some (54, false)), (some 55), .mov (.t 1), []⟩,
       ⟨(some (54, false)), (some 56), .call true 169 [.t 55], []⟩,
       ⟨none, (some 57), .pick (.t 54) (.c (.bool true)) (.t 56), []⟩])
     (.cond (.t 57)
      (.seq
       (.reg [4] [
         ⟨none, (some 4), .mov (.c (.bool true)), []⟩])
       .ret)
      .skip))
    (.seq
     (.reg [5] [
       ⟨none, (some 58), .mov (.t 0), []⟩,
       ⟨none, (some 59), .call true 274 [.t 58], []⟩,
       ⟨none, (some 5), .mov (.t 59), []⟩])
     (.seq
      (.reg [6, 7] [
        ⟨none, (some 61), .mov (.t 5), []⟩,
        ⟨none, (some 62), .call true 204 [.t 61], []⟩,
        ⟨none, (some 60), .mov (.t 62), []⟩,
        ⟨none, (some 63), .ext (.t 60) 0, []⟩,
        ⟨none, (some 64), .ext (.t 60) 1, []⟩,
        ⟨none, (some 6), .mov (.t 63), []⟩,
        ⟨none, (some 7), .mov (.t 64), []⟩])
      (.seq
       (.reg [8, 9] [
         ⟨none, (some 66), .mov (.t 5), []⟩,
         ⟨none, (some 67), .call true 203 [.t 66], []⟩,
         ⟨none, (some 65), .mov (.t 67), []⟩,
         ⟨none, (some 68), .ext (.t 65) 0, []⟩,
         ⟨none, (some 69), .ext (.t 65) 1, []⟩,
         ⟨none, (some 8), .mov (.t 68), []⟩,
         ⟨none, (some 9), .mov (.t 69), []⟩])
       (.seq
        (.reg [10, 11] [
          ⟨none, (some 71), .mov (.t 5), []⟩,
          ⟨none, (some 72), .call true 175 [.t 71], []⟩,
          ⟨none, (some 70), .mov (.t 72), []⟩,
          ⟨none, (some 73), .ext (.t 70) 0, []⟩,
          ⟨none, (some 74), .ext (.t 70) 1, []⟩,
          ⟨none, (some 10), .mov (.t 73), []⟩,
          ⟨none, (some 11), .mov (.t 74), []⟩])
        (.seq
         (.reg [12, 13, 14] [
           ⟨none, (some 76), .mov (.t 8), []⟩,
           ⟨none, (some 77), .call true 212 [.t 76], []⟩,
           ⟨none, (some 75), .mov (.t 77), []⟩,
           ⟨none, (some 78), .ext (.t 75) 0, []⟩,
           ⟨none, (some 79), .ext (.t 75) 1, []⟩,
           ⟨none, (some 80), .ext (.t 75) 2, []⟩,
           ⟨none, (some 12), .mov (.t 78), []⟩,
           ⟨none, (some 13), .mov (.t 79), []⟩,
           ⟨none, (some 14), .mov (.t 80), []⟩])
         (.seq
          (.reg [15, 16, 17] [
            ⟨none, (some 82), .mov (.t 8), []⟩,
            ⟨none, (some 83), .call true 211 [.t 82], []⟩,
            ⟨none, (some 81), .mov (.t 83), []⟩,
            ⟨none, (some 84), .ext (.t 81) 0, []⟩,
            ⟨none, (some 85), .ext (.t 81) 1, []⟩,
            ⟨none, (some 86), .ext (.t 81) 2, []⟩,
            ⟨none, (some 15), .mov (.t 84), []⟩,
            ⟨none, (some 16), .mov (.t 85), []⟩,
            ⟨none, (some 17), .mov (.t 86), []⟩])
          (.seq
           (.reg [18, 19] [
             ⟨none, (some 88), .mov (.t 8), []⟩,
             ⟨none, (some 89), .mov (.t 15), []⟩,
             ⟨none, (some 90), .call true 225 [.t 88, .t 89], []⟩,
             ⟨none, (some 87), .mov (.t 90), []⟩,
             ⟨none, (some 91), .ext (.t 87) 0, []⟩,
             ⟨none, (some 92), .ext (.t 87) 1, []⟩,
             ⟨none, (some 18), .mov (.t 91), []⟩,
             ⟨none, (some 19), .mov (.t 92), []⟩])
           (.seq
            (.reg [20] [
              ⟨none, (some 20), .mov (.c (.int .i64 0)), []⟩])
            (.seq
             (.seq
              (.reg [21] [
                ⟨none, (some 21), .mov (.c (.int .i64 0)), []⟩])
              (.block 0
               (.loop b56_1)))
             (.seq
              (.seq
               (.reg [178] [
                 ⟨none, (some 112), .mov (.t 7), []⟩,
                 ⟨none, (some 113), .mov (.t 9), []⟩,
                 ⟨none, (some 114), .bin .neq (.t 112) (.t 113), []⟩,
                 ⟨none, (some 115), .mov (.t 114), []⟩,
                 ⟨(some (115, false)), (some 116), .mov (.t 7), []⟩,
                 ⟨(some (115, false)), (some 117), .bin .neq (.t 116) (.c (.int .i64 0)), []⟩,
                 ⟨none, (some 118), .pick (.t 115) (.c (.bool true)) (.t 117), []⟩,
                 ⟨none, (some 119), .mov (.t 118), []⟩,
                 ⟨(some (119, false)), (some 120), .mov (.t 6), []⟩,
                 ⟨(some (119, false)), (some 121), .mov (.t 8), []⟩,
                 ⟨(some (119, false)), (some 122), .call true 91 [.t 120, .t 121], []⟩,
                 ⟨(some (119, false)), (some 123), .un .not (.t 122), []⟩,
                 ⟨none, (some 124), .pick (.t 119) (.c (.bool true)) (.t 123), []⟩,
                 ⟨none, (some 125), .mov (.t 124), []⟩,
                 ⟨(some (125, false)), (some 126), .mov (.t 11), []⟩,
                 ⟨(some (125, false)), (some 127), .bin .neq (.t 126) (.c (.int .i64 0)), []⟩,
                 ⟨none, (some 128), .pick (.t 125) (.c (.bool true)) (.t 127), []⟩,
                 ⟨none, (some 129), .mov (.t 128), []⟩,
                 ⟨(some (129, false)), (some 130), .mov (.t 10), []⟩,
                 ⟨(some (129, false)), (some 131), .mov (.t 20), []⟩,
                 ⟨(some (129, false)), (some 132), .bin .neq (.t 130) (.t 131), []⟩,
                 ⟨none, (some 133), .pick (.t 129) (.c (.bool true)) (.t 132), []⟩,
                 ⟨none, (some 134), .mov (.t 133), []⟩,
                 ⟨(some (134, false)), (some 135), .mov (.t 14), []⟩,
                 ⟨(some (134, false)), (some 136), .mov (.t 17), []⟩,
                 ⟨(some (134, false)), (some 137), .bin .neq (.t 135) (.t 136), []⟩,
                 ⟨none, (some 138), .pick (.t 134) (.c (.bool true)) (.t 137), []⟩,
                 ⟨none, (some 139), .mov (.t 138), []⟩,
                 ⟨(some (139, false)), (some 140), .mov (.t 14), []⟩,
                 ⟨(some (139, false)), (some 141), .bin .neq (.t 140) (.c (.int .i64 0)), []⟩,
                 ⟨none, (some 142), .pick (.t 139) (.c (.bool true)) (.t 141), []⟩,
                 ⟨none, (some 143), .mov (.t 142), []⟩,
                 ⟨(some (143, false)), (some 144), .mov (.t 12), []⟩,
                 ⟨(some (143, false)), (some 145), .mov (.t 15), []⟩,
                 ⟨(some (143, false)), (some 146), .call true 158 [.t 144, .t 145], []⟩,
                 ⟨(some (143, false)), (some 147), .un .not (.t 146), []⟩,
                 ⟨none, (some 148), .pick (.t 143) (.c (.bool true)) (.t 147), []⟩,
                 ⟨none, (some 149), .mov (.t 148), []⟩,
                 ⟨(some (149, false)), (some 150), .mov (.t 13), []⟩,
                 ⟨(some (149, false)), (some 151), .mov (.t 16), []⟩,
                 ⟨(some (149, false)), (some 152), .bin .neq (.t 150) (.t 151), []⟩,
                 ⟨none, (some 153), .pick (.t 149) (.c (.bool true)) (.t 152), []⟩,
                 ⟨none, (some 154), .mov (.t 153), []⟩,
                 ⟨(some (154, false)), (some 155), .mov (.t 16), []⟩,
                 ⟨(some (154, false)), (some 156), .mov (.t 10), []⟩,
                 ⟨(some (154, false)), (some 157), .bin .gtr (.t 155) (.t 156), []⟩,
                 ⟨none, (some 158), .pick (.t 154) (.c (.bool true)) (.t 157), []⟩,
                 ⟨none, (some 159), .mov (.t 158), []⟩,
                 ⟨(some (159, false)), (some 160), .mov (.t 19), []⟩,
                 ⟨(some (159, false)), (some 161), .bin .neq (.t 160) (.c (.int .i64 0)), []⟩,
                 ⟨none, (some 162), .pick (.t 159) (.c (.bool true)) (.t 161), []⟩,
                 ⟨none, (some 163), .mov (.t 162), []⟩,
                 ⟨(some (163, false)), (some 164), .mov (.t 18), []⟩,
                 ⟨(some (163, false)), (some 165), .un .not (.t 164), []⟩,
                 ⟨none, (some 166), .pick (.t 163) (.c (.bool true)) (.t 165), []⟩,
                 ⟨none, (some 167), .mov (.t 166), []⟩,
                 ⟨(some (167, false)), (some 168), .mov (.t 15), []⟩,
                 ⟨(some (167, false)), (some 169), .len (.t 168), []⟩,
                 ⟨(some (167, false)), (some 170), .mov (.t 8), []⟩,
                 ⟨(some (167, false)), (some 171), .len (.t 170), []⟩,
                 ⟨(some (167, false)), (some 172), .bin .neq (.t 169) (.t 171), []⟩,
                 ⟨none, (some 173), .pick (.t 167) (.c (.bool true)) (.t 172), []⟩,
                 ⟨none, (some 174), .mov (.t 173), []⟩,
                 ⟨(some (174, false)), (some 175), .mov (.t 15), []⟩,
                 ⟨(some (174, false)), (some 176), .call true 163 [.t 175], []⟩,
                 ⟨(some (174, false)), (some 177), .un .not (.t 176), []⟩,
                 ⟨none, (some 178), .pick (.t 174) (.c (.bool true)) (.t 177), []⟩])
               (.cond (.t 178)
                (.seq
                 (.reg [4] [
                   ⟨none, (some 4), .mov (.c (.bool false)), []⟩])
                 .ret)
                .skip))
              (.seq
               (.reg [24] [
                 ⟨none, (some 179), .mov (.t 1), []⟩,
                 ⟨none, (some 180), .call true 259 [.t 179, .c (.int .i64 4)], []⟩,
                 ⟨none, (some 24), .mov (.t 180), []⟩])
               (.seq
                (.reg [25, 26, 27] [
                  ⟨none, (some 182), .mov (.t 8), []⟩,
                  ⟨none, (some 183), .mov (.t 24), []⟩,
                  ⟨none, (some 184), .call true 216 [.t 182, .t 183], []⟩,
                  ⟨none, (some 181), .mov (.t 184), []⟩,
                  ⟨none, (some 185), .ext (.t 181) 0, []⟩,
                  ⟨none, (some 186), .ext (.t 181) 1, []⟩,
                  ⟨none, (some 187), .ext (.t 181) 2, []⟩,
                  ⟨none, (some 25), .mov (.t 185), []⟩,
                  ⟨none, (some 26), .mov (.t 186), []⟩,
                  ⟨none, (some 27), .mov (.t 187), []⟩])
                (.seq
                 (.reg [28, 29, 30] [
                   ⟨none, (some 189), .mov (.t 8), []⟩,
                   ⟨none, (some 190), .mov (.t 24), []⟩,
                   ⟨none, (some 191), .call true 215 [.t 189, .t 190], []⟩,
                   ⟨none, (some 188), .mov (.t 191), []⟩,
                   ⟨none, (some 192), .ext (.t 188) 0, []⟩,
                   ⟨none, (some 193), .ext (.t 188) 1, []⟩,
                   ⟨none, (some 194), .ext (.t 188) 2, []⟩,
                   ⟨none, (some 28), .mov (.t 192), []⟩,
                   ⟨none, (some 29), .mov (.t 193), []⟩,
                   ⟨none, (some 30), .mov (.t 194), []⟩])
                 (.seq
                  (.reg [31, 32] [
                    ⟨none, (some 196), .mov (.t 28), []⟩,
                    ⟨none, (some 197), .call true 179 [.t 196], []⟩,
                    ⟨none, (some 195), .mov (.t 197), []⟩,
                    ⟨none, (some 198), .ext (.t 195) 0, []⟩,
                    ⟨none, (some 199), .ext (.t 195) 1, []⟩,
                    ⟨none, (some 31), .mov (.t 198), []⟩,
                    ⟨none, (some 32), .mov (.t 199), []⟩])
                  (.seq
                   (.reg [33, 34] [
                     ⟨none, (some 201), .mov (.t 28), []⟩,
                     ⟨none, (some 202), .call true 178 [.t 201], []⟩,
                     ⟨none, (some 200), .mov (.t 202), []⟩,
                     ⟨none, (some 203), .ext (.t 200) 0, []⟩,
                     ⟨none, (some 204), .ext (.t 200) 1, []⟩,
                     ⟨none, (some 33), .mov (.t 203), []⟩,
                     ⟨none, (some 34), .mov (.t 204), []⟩])
                   (.seq
                    (.reg [35, 36] [
                      ⟨none, (some 206), .mov (.t 28), []⟩,
                      ⟨none, (some 207), .call true 204 [.t 206], []⟩,
                      ⟨none, (some 205), .mov (.t 207), []⟩,
                      ⟨none, (some 208), .ext (.t 205) 0, []⟩,
                      ⟨none, (some 209), .ext (.t 205) 1, []⟩,
                      ⟨none, (some 35), .mov (.t 208), []⟩,
                      ⟨none, (some 36), .mov (.t 209), []⟩])
                    (.seq
                     (.seq
                      (.reg [257] [
                        ⟨none, (some 210), .mov (.t 27), []⟩,
                        ⟨none, (some 211), .mov (.t 30), []⟩,
                        ⟨none, (some 212), .bin .neq (.t 210) (.t 211), []⟩,
                        ⟨none, (some 213), .mov (.t 212), []⟩,
                        ⟨(some (213, false)), (some 214), .mov (.t 27), []⟩,
                        ⟨(some (213, false)), (some 215), .bin .neq (.t 214) (.c (.int .i64 0)), []⟩,
                        ⟨none, (some 216), .pick (.t 213) (.c (.bool true)) (.t 215), []⟩,
                        ⟨none, (some 217), .mov (.t 216), []⟩,
                        ⟨(some (217, false)), (some 218), .mov (.t 25), []⟩,
                        ⟨(some (217, false)), (some 219), .mov (.t 28), []⟩,
                        ⟨(some (217, false)), (some 220), .call true 158 [.t 218, .t 219], []⟩,
                        ⟨(some (217, false)), (some 221), .un .not (.t 220), []⟩,
                        ⟨none, (some 222), .pick (.t 217) (.c (.bool true)) (.t 221), []⟩,
                        ⟨none, (some 223), .mov (.t 222), []⟩,
                        ⟨(some (223, false)), (some 224), .mov (.t 26), []⟩,
                        ⟨(some (223, false)), (some 225), .mov (.t 29), []⟩,
                        ⟨(some (223, false)), (some 226), .bin .neq (.t 224) (.t 225), []⟩,
                        ⟨none, (some 227), .pick (.t 223) (.c (.bool true)) (.t 226), []⟩,
                        ⟨none, (some 228), .mov (.t 227), []⟩,
                        ⟨(some (228, false)), (some 229), .mov (.t 29), []⟩,
                        ⟨(some (228, false)), (some 230), .mov (.t 16), []⟩,
                        ⟨(some (228, false)), (some 231), .bin .lss (.t 229) (.t 230), []⟩,
                        ⟨none, (some 232), .pick (.t 228) (.c (.bool true)) (.t 231), []⟩,
                        ⟨none, (some 233), .mov (.t 232), []⟩,
                        ⟨(some (233, false)), (some 234), .mov (.t 32), []⟩,
                        ⟨(some (233, false)), (some 235), .mov (.t 34), []⟩,
                        ⟨(some (233, false)), (some 236), .bin .neq (.t 234) (.t 235), []⟩,
                        ⟨none, (some 237), .pick (.t 233) (.c (.bool true)) (.t 236), []⟩,
                        ⟨none, (some 238), .mov (.t 237), []⟩,
                        ⟨(some (238, false)), (some 239), .mov (.t 32), []⟩,
                        ⟨(some (238, false)), (some 240), .bin .neq (.t 239) (.c (.int .i64 0)), []⟩,
                        ⟨none, (some 241), .pick (.t 238) (.c (.bool true)) (.t 240), []⟩,
                        ⟨none, (some 242), .mov (.t 241), []⟩,
                        ⟨(some (242, false)), (some 243), .mov (.t 31), []⟩,
                        ⟨(some (242, false)), (some 244), .mov (.t 33), []⟩,
                        ⟨(some (242, false)), (some 245), .call true 262 [.t 243, .t 244], []⟩,
                        ⟨(some (242, false)), (some 246), .un .not (.t 245), []⟩,
                        ⟨none, (some 247), .pick (.t 242) (.c (.bool true)) (.t 246), []⟩,
                        ⟨none, (some 248), .mov (.t 247), []⟩,
                        ⟨(some (248, false)), (some 249), .mov (.t 36), []⟩,
                        ⟨(some (248, false)), (some 250), .bin .neq (.t 249) (.c (.int .i64 0)), []⟩,
                        ⟨none, (some 251), .pick (.t 248) (.c (.bool true)) (.t 250), []⟩,
                        ⟨none, (some 252), .mov (.t 251), []⟩,
                        ⟨(some (252, false)), (some 253), .mov (.t 35), []⟩,
                        ⟨(some (252, false)), (some 254), .mov (.t 8), []⟩,
                        ⟨(some (252, false)), (some 255), .call true 91 [.t 253, .t 254], []⟩,
                        ⟨(some (252, false)), (some 256), .un .not (.t 255), []⟩,
                        ⟨none, (some 257), .pick (.t 252) (.c (.bool true)) (.t 256), []⟩])
                      (.cond (.t 257)
                       (.seq
                        (.reg [4] [
                          ⟨none, (some 4), .mov (.c (.bool false)), []⟩])
                        .ret)
                       .skip))
                     (.seq
                      (.reg [37] [
                        ⟨none, (some 37), .mov (.c (.int .i64 0)), []⟩])
                      (.seq
                       (.seq
                        (.reg [38] [
                          ⟨none, (some 38), .mov (.c (.int .i64 0)), []⟩])
                        (.block 2
                         (.loop b56_2)))
                       (.seq
                        (.seq
                         (.reg [330] [
                           ⟨none, (some 328), .mov (.t 37), []⟩,
                           ⟨none, (some 329), .mov (.t 29), []⟩,
                           ⟨none, (some 330), .bin .neq (.t 328) (.t 329), []⟩])
                         (.cond (.t 330)
                          (.seq
                           (.reg [4] [
                             ⟨none, (some 4), .mov (.c (.bool false)), []⟩])
                           .ret)
                          .skip))
                        (.seq
                         (.seq
                          (.reg [333] [
                            ⟨none, (some 331), .mov (.t 8), []⟩,
                            ⟨none, (some 332), .len (.t 331), []⟩,
                            ⟨none, (some 333), .bin .lss (.t 332) (.c (.int .i64 2)), []⟩])
                          (.cond (.t 333)
                           (.seq
                            (.reg [4] [
                              ⟨none, (some 4), .mov (.c (.bool true)), []⟩])
                            .ret)
                           .skip))
                         (.seq
                          (.reg [45] [
                            ⟨none, (some 334), .mov (.t 1), []⟩,
                            ⟨none, (some 335), .mov (.t 8), []⟩,
                            ⟨none, (some 336), .len (.t 335), []⟩,
                            ⟨none, (some 337), .call true 259 [.t 334, .t 336], []⟩,
                            ⟨none, (some 45), .mov (.t 337), []⟩])
                          (.seq
                           (.reg [46, 47] [
                             ⟨none, (some 339), .mov (.t 8), []⟩,
                             ⟨none, (some 340), .idxA 12 (.t 339) (.c (.int .i64 0)), []⟩,
                             ⟨none, (some 341), .ld 12 true (.t 340), []⟩,
                             ⟨none, (some 342), .mov (.t 8), []⟩,
                             ⟨none, (some 343), .mov (.t 45), []⟩,
                             ⟨none, (some 344), .idxA 12 (.t 342) (.t 343), []⟩,
                             ⟨none, (some 345), .ld 12 true (.t 344), []⟩,
                             ⟨none, (some 46), .zero true [.int .i8 0, .int .i8 0, .int .i8 0, .int .i8 0, .slice none 0 0], []⟩,
                             ⟨none, (some 346), .call true 165 [.t 341, .t 345, .c (.int .i64 0)], []⟩,
                             ⟨none, (some 338), .mov (.t 346), []⟩,
                             ⟨none, (some 347), .ext (.t 338) 0, []⟩,
                             ⟨none, (some 348), .ext (.t 338) 1, []⟩,
                             ⟨none, (some 46), .stV 46 none 5 (.t 347), []⟩,
                             ⟨none, (some 47), .mov (.t 348), []⟩])
                           (.seq
                            (.reg [48, 49] [
                              ⟨none, (some 350), .mov (.t 8), []⟩,
                              ⟨none, (some 351), .idxA 12 (.t 350) (.c (.int .i64 0)), []⟩,
                              ⟨none, (some 352), .ld 12 true (.t 351), []⟩,
                              ⟨none, (some 353), .mov (.t 8), []⟩,
                              ⟨none, (some 354), .mov (.t 45), []⟩,
                              ⟨none, (some 355), .idxA 12 (.t 353) (.t 354), []⟩,
                              ⟨none, (some 356), .ld 12 true (.t 355), []⟩,
                              ⟨none, (some 48), .zero true [.int .i8 0, .int .i8 0, .int .i8 0, .int .i8 0, .slice none 0 0], []⟩,
                              ⟨none, (some 357), .call true 164 [.t 352, .t 356, .c (.int .i64 0)], []⟩,
                              ⟨none, (some 349), .mov (.t 357), []⟩,
                              ⟨none, (some 358), .ext (.t 349) 0, []⟩,
                              ⟨none, (some 359), .ext (.t 349) 1, []⟩,
                              ⟨none, (some 48), .stV 48 none 5 (.t 358), []⟩,
                              ⟨none, (some 49), .mov (.t 359), []⟩])
                            (.seq
                             (.reg [50, 51] [
                               ⟨none, (some 361), .mov (.t 28), []⟩,
                               ⟨none, (some 362), .idxA 5 (.t 361) (.c (.int .i64 0)), []⟩,
                               ⟨none, (some 363), .ld 5 true (.t 362), []⟩,
                               ⟨none, (some 364), .ldV 48 none 5 true, []⟩,
                               ⟨none, (some 365), .bldS 5 2 [.int .i8 0, .int .i8 0, .int .i8 0, .int .i8 0, .slice none 0 0] [(0, 5, (.t 363)), (5, 5, (.t 364))], []⟩,
                               ⟨none, (some 366), .call true 204 [.t 365], []⟩,
                               ⟨none, (some 360), .mov (.t 366), []⟩,
                               ⟨none, (some 367), .ext (.t 360) 0, []⟩,
                               ⟨none, (some 368), .ext (.t 360) 1, []⟩,
                               ⟨none, (some 50), .mov (.t 367), []⟩,
                               ⟨none, (some 51), .mov (.t 368), []⟩])
                             (.seq
                              (.reg [4] [
                                ⟨none, (some 369), .mov (.t 47), []⟩,
                                ⟨none, (some 370), .mov (.t 49), []⟩,
                                ⟨none, (some 371), .bin .eql (.t 369) (.t 370), []⟩,
                                ⟨none, (some 372), .mov (.t 371), []⟩,
                                ⟨(some (372, true)), (some 373), .mov (.t 47), []⟩,
                                ⟨(some (372, true)), (some 374), .bin .eql (.t 373) (.c (.int .i64 0)), []⟩,
                                ⟨none, (some 375), .pick (.t 372) (.t 374) (.c (.bool false)), []⟩,
                                ⟨none, (some 376), .mov (.t 375), []⟩,
                                ⟨(some (376, true)), (some 377), .ldV 46 none 5 true, []⟩,
                                ⟨(some (376, true)), (some 378), .ldV 48 none 5 true, []⟩,
                                ⟨(some (376, true)), (some 379), .call true 275 [.t 377, .t 378], []⟩,
                                ⟨none, (some 380), .pick (.t 376) (.t 379) (.c (.bool false)), []⟩,
                                ⟨none, (some 381), .mov (.t 380), []⟩,
                                ⟨(some (381, true)), (some 382), .mov (.t 51), []⟩,
                                ⟨(some (381, true)), (some 383), .bin .eql (.t 382) (.c (.int .i64 0)), []⟩,
                                ⟨none, (some 384), .pick (.t 381) (.t 383) (.c (.bool false)), []⟩,
                                ⟨none, (some 385), .mov (.t 384), []⟩,
                                ⟨(some (385, true)), (some 386), .mov (.t 50), []⟩,
                                ⟨(some (385, true)), (some 387), .len (.t 386), []⟩,
                                ⟨(some (385, true)), (some 388), .bin .eql (.t 387) (.c (.int .i64 2)), []⟩,
                                ⟨none, (some 389), .pick (.t 385) (.t 388) (.c (.bool false)), []⟩,
                                ⟨none, (some 390), .mov (.t 389), []⟩,
                                ⟨(some (390, true)), (some 391), .mov (.t 50), []⟩,
                                ⟨(some (390, true)), (some 392), .idxA 12 (.t 391) (.c (.int .i64 1)), []⟩,
                                ⟨(some (390, true)), (some 393), .ld 12 true (.t 392), []⟩,
                                ⟨(some (390, true)), (some 394), .mov (.t 8), []⟩,
                                ⟨(some (390, true)), (some 395), .mov (.t 45), []⟩,
                                ⟨(some (390, true)), (some 396), .idxA 12 (.t 394) (.t 395), []⟩,
                                ⟨(some (390, true)), (some 397), .ld 12 true (.t 396), []⟩,
                                ⟨(some (390, true)), (some 398), .eq (.a (rb 12 (some .u16))) false (.t 393) (.t 397), []⟩,
                                ⟨none, (some 399), .pick (.t 390) (.t 398) (.c (.bool false)), []⟩,
                                ⟨none, (some 4), .mov (.t 399), []⟩])
                              .ret))))))))))))))))))))))))))))
def c56 : Fn := { np := 2, nt := 400, kind := .pure, res := [.t 4], body := k56 }

/- impl.CostOf -/
def k82 : Cd :=
  (.seq
   (.reg [1, 2, 3] [
     ⟨none, (some 1), .mov (.t 0), []⟩,
     ⟨none, (some 2), .mov (.c (.int .i64 0)), []⟩,
     ⟨none, (some 3), .mov (.c (.int .i64 0)), []⟩])
   (.seq
    (.seq
     (.reg [14] [
       ⟨none, (some 4), .adrF 1 none 0, []⟩,
       ⟨none, (some 5), .ldV 1 (some 4) 1 false, []⟩,
       ⟨none, (some 6), .conv .i64 (.t 5), []⟩,
       ⟨none, (some 7), .call true 295 [.t 6, .c (.int .i64 0), .c (.int .i64 2)], []⟩,
       ⟨none, (some 8), .un .not (.t 7), []⟩,
       ⟨none, (some 9), .mov (.t 8), []⟩,
       ⟨(some (9, false)), (some 10), .adrF 1 none 4, []⟩,
       ⟨(some (9, false)), (some 11), .ldV 1 (some 10) 1 false, []⟩,
       ⟨(some (9, false)), (some 12), .len (.t 11), []⟩,
       ⟨(some (9, false)), (some 13), .bin .gtr (.t 12) (.c (.int .i64 12)), []⟩,
       ⟨none, (some 14), .pick (.t 9) (.c (.bool true)) (.t 13), []⟩])
     (.cond (.t 14)
      (.seq
       (.reg [2, 3] [
         ⟨none, (some 2), .mov (.c (.int .i64 0)), []⟩,
         ⟨none, (some 3), .mov (.c (.int .i64 2)), []⟩])
       .ret)
      .skip))
    (.seq
     (.reg [2, 3] [
       ⟨none, (some 15), .ldV 1 none 5 true, []⟩,
       ⟨none, (some 16), .call true 312 [.t 15], []⟩,
       ⟨none, (some 2), .mov (.t 16), []⟩,
       ⟨none, (some 3), .mov (.c (.int .i64 0)), []⟩])
     .ret)))
def c82 : Fn := { np := 1, nt := 17, kind := .pure, res := [.t 2, .t 3], body := k82 }

/- spec.SameBook -/
def k91 : Cd :=
  (.seq
   (.reg [4] [
     ⟨none, (some 4), .mov (.c (.bool false)), []⟩])
   (.seq
    (.reg [4] [
      ⟨none, (some 5), .mov (.t 0), []⟩,
      ⟨none, (some 6), .mov (.t 1), []⟩,
      ⟨none, (some 7), .call true 323 [.t 5, .t 6], []⟩,
      ⟨none, (some 4), .mov (.t 7), []⟩])
    .ret))
def c91 : Fn := { np := 2, nt := 8, kind := .pure, res := [.t 4], body := k91 }

/- spec.SameSteps -/
def b158_1 : Cd :=
  (.seq
   (.seq
    (.reg [14] [
      ⟨none, (some 11), .mov (.t 5), []⟩,
      ⟨none, (some 12), .mov (.t 0), []⟩,
      ⟨none, (some 13), .len (.t 12), []⟩,
      ⟨none, (some 14), .bin .lss (.t 11) (.t 13), []⟩])
    (.cond (.t 14)
     .skip
     (.exit 0)))
   (.seq
    (.block 1
     (.seq
      (.reg [24] [
        ⟨none, (some 17), .mov (.t 0), []⟩,
        ⟨none, (some 18), .mov (.t 5), []⟩,
        ⟨none, (some 19), .idxA 5 (.t 17) (.t 18), []⟩,
        ⟨none, (some 20), .mov (.t 1), []⟩,
        ⟨none, (some 21), .mov (.t 5), []⟩,
        ⟨none, (some 22), .idxA 5 (.t 20) (.t 21), []⟩,
        ⟨none, (some 23), .call true 381 [.t 19, .t 22], []⟩,
        ⟨none, (some 24), .un .not (.t 23), []⟩])
      (.cond (.t 24)
       (.seq
        (.reg [4] [
          ⟨none, (some 4), .mov (.c (.bool false)), []⟩])
        .ret)
       .skip)))
    (.reg [5] [
      ⟨none, (some 15), .mov (.t 5), []⟩,
      ⟨none, (some 16), .bin .add (.t 15) (.c (.int .i64 1)), []⟩,
      ⟨none, (some 5), .mov (.t 16), []⟩])))
def k158 : Cd :=
  (.seq
   (.reg [4] [
     ⟨none, (some 4), .mov (.c (.bool false)), []⟩])
   (.seq
    (.seq
     (.reg [10] [
       ⟨none, (some 6), .mov (.t 0), []⟩,
       ⟨none, (some 7), .len (.t 6), []⟩,
       ⟨none, (some 8), .mov (.t 1), []⟩,
       ⟨none, (some 9), .len (.t 8), []⟩,
       ⟨none, (some 10), .bin .neq (.t 7) (.t 9), []⟩])
     (.cond (.t 10)
      (.seq
       (.reg [4] [
         ⟨none, (some 4), .mov (.c (.bool false)), []⟩])
       .ret)
      .skip))
    (.seq
     (.seq
      (.reg [5] [
        ⟨none, (some 5), .mov (.c (.int .i64 0)), []⟩])
      (.block 0
       (.loop b158_1)))
     (.seq
      (.reg [4] [
        ⟨none, (some 4), .mov (.c (.bool true)), []⟩])
      .ret))))
def c158 : Fn := { np := 2, nt := 25, kind := .pure, res := [.t 4], body := k158 }

/- impl.ValidSteps -/
def b163_1 : Cd :=
  (.seq
   (.reg [8] [
     ⟨none, (some 8), .bin .lss (.t 7) (.t 6), []⟩])
   (.seq
    (.cond (.t 8)
     .skip
     (.exit 0))
    (.seq
     (.block 1
      (.seq
       (.reg [4, 3] [
         ⟨none, (some 9), .mov (.t 7), []⟩,
         ⟨none, (some 10), .idxA 5 (.t 5) (.t 7), []⟩,
         ⟨none, (some 11), .ld 5 true (.t 10), []⟩,
         ⟨none, (some 4), .zero true [.int .i8 0, .int .i8 0, .int .i8 0, .int .i8 0, .slice none 0 0], []⟩,
         ⟨none, (some 3), .mov (.t 9), []⟩,
         ⟨none, (some 4), .stV 4 none 5 (.t 11), []⟩])
       (.seq
        (.reg [15] [
          ⟨none, (some 12), .ldV 4 none 5 true, []⟩,
          ⟨none, (some 13), .mov (.t 3), []⟩,
          ⟨none, (some 14), .call true 387 [.t 12, .t 13], []⟩,
          ⟨none, (some 15), .un .not (.t 14), []⟩])
        (.cond (.t 15)
         (.seq
          (.reg [2] [
            ⟨none, (some 2), .mov (.c (.bool false)), []⟩])
          .ret)
         .skip))))
     (.reg [7] [
       ⟨none, (some 16), .bin .add (.t 7) (.c (.int .i64 1)), []⟩,
       ⟨none, (some 7), .mov (.t 16), []⟩]))))
def k163 : Cd :=
  (.seq
   (.reg [2] [
     ⟨none, (some 2), .mov (.c (.bool false)), []⟩])
   (.seq
    (.seq
     (.reg [5, 6, 7] [
       ⟨none, (some 5), .mov (.t 0), []⟩,
       ⟨none, (some 6), .len (.t 5), []⟩,
       ⟨none, (some 7), .mov (.c (.int .i64 0)), []⟩])
     (.block 0
      (.loop b163_1)))
    (.seq
     (.reg [2] [
       ⟨none, (some 17), .mov (.t 0), []⟩,
       ⟨none, (some 18), .len (.t 17), []⟩,
       ⟨none, (some 19), .bin .leq (.t 18) (.c (.int .i64 40)), []⟩,
       ⟨none, (some 2), .mov (.t 19), []⟩])
     .ret)))
def c163 : Fn := { np := 1, nt := 20, kind := .pure, res := [.t 2], body := k163 }

/- spec.StepBetween -/
def k164 : Cd :=
  (.seq
   (.reg [3, 4, 6, 7] [
     ⟨none, (some 3), .box 12 (.t 0), []⟩,
     ⟨none, (some 4), .box 12 (.t 1), []⟩,
     ⟨none, (some 6), .zero true [.int .i8 0, .int .i8 0, .int .i8 0, .int .i8 0, .slice none 0 0], []⟩,
     ⟨none, (some 7), .mov (.c (.int .i64 0)), []⟩])
   (.seq
    (.seq
     (.reg [13] [
       ⟨none, (some 8), .call true 359 [.t 3], []⟩,
       ⟨none, (some 9), .un .not (.t 8), []⟩,
       ⟨none, (some 10), .mov (.t 9), []⟩,
       ⟨(some (10, false)), (some 11), .call true 359 [.t 4], []⟩,
       ⟨(some (10, false)), (some 12), .un .not (.t 11), []⟩,
       ⟨none, (some 13), .pick (.t 10) (.c (.bool true)) (.t 12), []⟩])
     (.cond (.t 13)
      (.seq
       (.reg [6, 7] [
         ⟨none, (some 14), .agg [.int .i8 0, .int .i8 0, .int .i8 0, .int .i8 0, .slice none 0 0] [], []⟩,
         ⟨none, (some 6), .stV 6 none 5 (.t 14), []⟩,
         ⟨none, (some 7), .mov (.c (.int .i64 1)), []⟩])
       .ret)
      .skip))
    (.seq
     (.seq
      (.reg [17] [
        ⟨none, (some 15), .mov (.t 2), []⟩,
        ⟨none, (some 16), .call true 304 [.t 15, .c (.int .i64 0), .c (.int .i64 39)], []⟩,
        ⟨none, (some 17), .un .not (.t 16), []⟩])
      (.cond (.t 17)
       (.seq
        (.reg [6, 7] [
          ⟨none, (some 18), .agg [.int .i8 0, .int .i8 0, .int .i8 0, .int .i8 0, .slice none 0 0] [], []⟩,
          ⟨none, (some 6), .stV 6 none 5 (.t 18), []⟩,
          ⟨none, (some 7), .mov (.c (.int .i64 2)), []⟩])
        .ret)
       .skip))
     (.seq
      (.reg [6, 7] [
        ⟨none, (some 19), .mov (.t 2), []⟩,
        ⟨none, (some 20), .call true 388 [.t 3, .t 4, .t 19], []⟩,
        ⟨none, (some 6), .stV 6 none 5 (.t 20), []⟩,
        ⟨none, (some 7), .mov (.c (.int .i64 0)), []⟩])
      .ret))))
def c164 : Fn := { np := 3, nt := 21, kind := .pure, res := [.v 6 5 true, .t 7], body := k164 }

/- impl.StepBetween -/
def k165 : Cd :=
  (.seq
   (.reg [3, 4, 6, 7] [
     ⟨none, (some 3), .mov (.t 0), []⟩,
     ⟨none, (some 4), .mov (.t 1), []⟩,
     ⟨none, (some 6), .zero true [.int .i8 0, .int .i8 0, .int .i8 0, .int .i8 0, .slice none 0 0], []⟩,
     ⟨none, (some 7), .mov (.c (.int .i64 0)), []⟩])
   (.seq
    (.block 0
     (.seq
      (.reg [8] [
        ⟨none, (some 9), .ldV 3 none 12 true, []⟩,
        ⟨none, (some 10), .ldV 4 none 12 true, []⟩,
        ⟨none, (some 11), .bldS 12 2 (zs 12 (.int .u16 0)) [(0, 12, (.t 9)), (12, 12, (.t 10))], []⟩,
        ⟨none, (some 12), .call true 351 [.t 11], []⟩,
        ⟨none, (some 13), .un .not (.t 12), []⟩,
        ⟨none, (some 8), .mov (.t 13), []⟩])
      (.cond (.t 8)
       (.seq
        (.reg [6, 7] [
          ⟨none, (some 14), .agg [.int .i8 0, .int .i8 0, .int .i8 0, .int .i8 0, .slice none 0 0] [], []⟩,
          ⟨none, (some 6), .stV 6 none 5 (.t 14), []⟩,
          ⟨none, (some 7), .mov (.c (.int .i64 1)), []⟩])
        .ret)
       (.seq
        (.reg [15] [
          ⟨none, (some 16), .mov (.t 2), []⟩,
          ⟨none, (some 17), .call true 295 [.t 16, .c (.int .i64 0), .c (.int .i64 39)], []⟩,
          ⟨none, (some 18), .un .not (.t 17), []⟩,
          ⟨none, (some 15), .mov (.t 18), []⟩])
        (.cond (.t 15)
         (.seq
          (.reg [6, 7] [
            ⟨none, (some 19), .agg [.int .i8 0, .int .i8 0, .int .i8 0, .int .i8 0, .slice none 0 0] [], []⟩,
            ⟨none, (some 6), .stV 6 none 5 (.t 19), []⟩,
            ⟨none, (some 7), .mov (.c (.int .i64 2)), []⟩])
          .ret)
         .skip)))))
    (.seq
     (.reg [6, 7] [
       ⟨none, (some 20), .ldV 3 none 12 true, []⟩,
       ⟨none, (some 21), .ldV 4 none 12 true, []⟩,
       ⟨none, (some 22), .mov (.t 2), []⟩,
       ⟨none, (some 23), .call true 389 [.t 20, .t 21, .t 22], []⟩,
       ⟨none, (some 6), .stV 6 none 5 (.t 23), []⟩,
       ⟨none, (some 7), .mov (.c (.int .i64 0)), []⟩])
     .ret)))
def c165 : Fn := { np := 3, nt := 24, kind := .pure, res := [.v 6 5 true, .t 7], body := k165 }

/- laws.f6big -/
def k169 : Cd :=
  (.seq
   (.reg [2] [
     ⟨none, (some 2), .mov (.c (.bool false)), []⟩])
   (.seq
    (.reg [2] [
      ⟨none, (some 3), .mov (.t 0), []⟩,
      ⟨none, (some 4), .len (.t 3), []⟩,
      ⟨none, (some 5), .bin .gtr (.t 4) (.c (.int .i64 4096)), []⟩,
      ⟨none, (some 2), .mov (.t 5), []⟩])
    .ret))
def c169 : Fn := { np := 1, nt := 6, kind := .pure, res := [.t 2], body := k169 }

/- impl.StepsCost -/
def k175 : Cd :=
  (.seq
   (.reg [2, 3] [
     ⟨none, (some 2), .mov (.c (.int .i64 0)), []⟩,
     ⟨none, (some 3), .mov (.c (.int .i64 0)), []⟩])
   (.seq
    (.seq
     (.reg [6] [
       ⟨none, (some 4), .mov (.t 0), []⟩,
       ⟨none, (some 5), .call true 163 [.t 4], []⟩,
       ⟨none, (some 6), .un .not (.t 5), []⟩])
     (.cond (.t 6)
      (.seq
       (.reg [2, 3] [
         ⟨none, (some 2), .mov (.c (.int .i64 0)), []⟩,
         ⟨none, (some 3), .mov (.c (.int .i64 1)), []⟩])
       .ret)
      .skip))
    (.seq
     (.reg [2, 3] [
       ⟨none, (some 7), .mov (.t 0), []⟩,
       ⟨none, (some 8), .call true 397 [.t 7], []⟩,
       ⟨none, (some 2), .mov (.t 8), []⟩,
       ⟨none, (some 3), .mov (.c (.int .i64 0)), []⟩])
     .ret)))
def c175 : Fn := { np := 1, nt := 9, kind := .pure, res := [.t 2, .t 3], body := k175 }

/- spec.DepthsOf -/
def b178_1 : Cd :=
  (.seq
   (.seq
    (.reg [15] [
      ⟨none, (some 12), .mov (.t 5), []⟩,
      ⟨none, (some 13), .mov (.t 0), []⟩,
      ⟨none, (some 14), .len (.t 13), []⟩,
      ⟨none, (some 15), .bin .lss (.t 12) (.t 14), []⟩])
    (.cond (.t 15)
     .skip
     (.exit 0)))
   (.seq
    (.block 1
     (.seq
      (.reg [6] [
        ⟨none, (some 6), .mov (.c (.int .i64 0)), []⟩])
      (.seq
       (.seq
        (.reg [23] [
          ⟨none, (some 18), .mov (.t 0), []⟩,
          ⟨none, (some 19), .mov (.t 5), []⟩,
          ⟨none, (some 20), .idxA 5 (.t 18) (.t 19), []⟩,
          ⟨none, (some 21), .fldP 0 (.t 20), []⟩,
          ⟨none, (some 22), .ld 1 false (.t 21), []⟩,
          ⟨none, (some 23), .bin .neq (.t 22) (.c (.int .i8 0)), []⟩])
        (.cond (.t 23)
         (.reg [6] [
           ⟨none, (some 24), .mov (.t 4), []⟩,
           ⟨none, (some 25), .mov (.t 0), []⟩,
           ⟨none, (some 26), .mov (.t 5), []⟩,
           ⟨none, (some 27), .idxA 5 (.t 25) (.t 26), []⟩,
           ⟨none, (some 28), .fldP 1 (.t 27), []⟩,
           ⟨none, (some 29), .ld 1 false (.t 28), []⟩,
           ⟨none, (some 30), .idxA 1 (.t 24) (.t 29), []⟩,
           ⟨none, (some 31), .ld 1 false (.t 30), []⟩,
           ⟨none, (some 32), .bin .add (.t 31) (.c (.int .i64 1)), []⟩,
           ⟨none, (some 6), .mov (.t 32), []⟩])
         .skip))
       (.reg [4] [
         ⟨none, (some 33), .mov (.t 4), []⟩,
         ⟨none, (some 34), .mov (.t 6), []⟩,
         ⟨none, (some 35), .bldS 1 1 [.int .i64 0] [(0, 1, (.t 34))], []⟩,
         ⟨none, (some 36), .app 1 8 (.t 33) (.t 35), []⟩,
         ⟨none, (some 4), .mov (.t 36), []⟩]))))
    (.reg [5] [
      ⟨none, (some 16), .mov (.t 5), []⟩,
      ⟨none, (some 17), .bin .add (.t 16) (.c (.int .i64 1)), []⟩,
      ⟨none, (some 5), .mov (.t 17), []⟩])))
def k178 : Cd :=
  (.seq
   (.reg [2, 3] [
     ⟨none, (some 2), .mov (.c (.slice none 0 0)), []⟩,
     ⟨none, (some 3), .mov (.c (.int .i64 0)), []⟩])
   (.seq
    (.seq
     (.reg [9] [
       ⟨none, (some 7), .mov (.t 0), []⟩,
       ⟨none, (some 8), .call true 386 [.t 7], []⟩,
       ⟨none, (some 9), .un .not (.t 8), []⟩])
     (.cond (.t 9)
      (.seq
       (.reg [2, 3] [
         ⟨none, (some 10), .bldS 1 0 [.int .i64 0] [], []⟩,
         ⟨none, (some 2), .mov (.t 10), []⟩,
         ⟨none, (some 3), .mov (.c (.int .i64 1)), []⟩])
       .ret)
      .skip))
    (.seq
     (.reg [4] [
       ⟨none, (some 11), .bldS 1 0 [.int .i64 0] [], []⟩,
       ⟨none, (some 4), .mov (.t 11), []⟩])
     (.seq
      (.seq
       (.reg [5] [
         ⟨none, (some 5), .mov (.c (.int .i64 0)), []⟩])
       (.block 0
        (.loop b178_1)))
      (.seq
       (.reg [2, 3] [
         ⟨none, (some 37), .mov (.t 4), []⟩,
         ⟨none, (some 2), .mov (.t 37), []⟩,
         ⟨none, (some 3), .mov (.c (.int .i64 0)), []⟩])
       .ret)))))
def c178 : Fn := { np := 1, nt := 38, kind := .pure, res := [.t 2, .t 3], body := k178 }

/- impl.DepthsOf -/
def b179_1 : Cd :=
  (.seq
   (.reg [14] [
     ⟨none, (some 14), .bin .lss (.t 13) (.t 12), []⟩])
   (.seq
    (.cond (.t 14)
     .skip
     (.exit 0))
    (.seq
     (.block 1
      (.seq
       (.reg [6] [
         ⟨none, (some 15), .idxA 5 (.t 11) (.t 13), []⟩,
         ⟨none, (some 16), .ld 5 true (.t 15), []⟩,
         ⟨none, (some 6), .zero true [.int .i8 0, .int .i8 0, .int .i8 0, .int .i8 0, .slice none 0 0], []⟩,
         ⟨none, (some 6), .stV 6 none 5 (.t 16), []⟩])
       (.reg [4] [
         ⟨none, (some 17), .mov (.t 4), []⟩,
         ⟨none, (some 18), .ldV 6 none 5 true, []⟩,
         ⟨none, (some 19), .mov (.t 4), []⟩,
         ⟨none, (some 20), .call true 400 [.t 18, .t 19], []⟩,
         ⟨none, (some 21), .bldS 1 1 [.int .i64 0] [(0, 1, (.t 20))], []⟩,
         ⟨none, (some 22), .app 1 8 (.t 17) (.t 21), []⟩,
         ⟨none, (some 4), .mov (.t 22), []⟩])))
     (.reg [13] [
       ⟨none, (some 23), .bin .add (.t 13) (.c (.int .i64 1)), []⟩,
       ⟨none, (some 13), .mov (.t 23), []⟩]))))
def k179 : Cd :=
  (.seq
   (.reg [2, 3] [
     ⟨none, (some 2), .mov (.c (.slice none 0 0)), []⟩,
     ⟨none, (some 3), .mov (.c (.int .i64 0)), []⟩])
   (.seq
    (.seq
     (.reg [9] [
       ⟨none, (some 7), .mov (.t 0), []⟩,
       ⟨none, (some 8), .call true 163 [.t 7], []⟩,
       ⟨none, (some 9), .un .not (.t 8), []⟩])
     (.cond (.t 9)
      (.seq
       (.reg [2, 3] [
         ⟨none, (some 2), .mov (.c (.slice none 0 0)), []⟩,
         ⟨none, (some 3), .mov (.c (.int .i64 1)), []⟩])
       .ret)
      .skip))
    (.seq
     (.reg [4] [
       ⟨none, (some 10), .bldS 1 0 [.int .i64 0] [], []⟩,
       ⟨none, (some 4), .mov (.t 10), []⟩])
     (.seq
      (.seq
       (.reg [11, 12, 13] [
         ⟨none, (some 11), .mov (.t 0), []⟩,
         ⟨none, (some 12), .len (.t 11), []⟩,
         ⟨none, (some 13), .mov (.c (.int .i64 0)), []⟩])
       (.block 0
        (.loop b179_1)))
      (.seq
       (.reg [2, 3] [
         ⟨none, (some 24), .mov (.t 4), []⟩,
         ⟨none, (some 2), .mov (.t 24), []⟩,
         ⟨none, (some 3), .mov (.c (.int .i64 0)), []⟩])
       .ret)))))
def c179 : Fn := { np := 1, nt := 25, kind := .pure, res := [.t 2, .t 3], body := k179 }

/- impl.BestStep -/
def k187 : Cd :=
  (.seq
   (.reg [4, 5] [
     ⟨none, (some 4), .zero true [.int .i8 0, .int .i8 0, .int .i8 0, .int .i8 0, .slice none 0 0], []⟩,
     ⟨none, (some 5), .mov (.c (.int .i64 0)), []⟩])
   (.seq
    (.seq
     (.reg [6] [
       ⟨none, (some 7), .mov (.t 0), []⟩,
       ⟨none, (some 8), .mov (.t 1), []⟩,
       ⟨none, (some 9), .call true 405 [.t 7, .t 8], []⟩,
       ⟨none, (some 6), .mov (.t 9), []⟩])
     (.seq
      (.reg [11] [
        ⟨none, (some 10), .mov (.t 6), []⟩,
        ⟨none, (some 11), .bin .neq (.t 10) (.c (.int .i64 0)), []⟩])
      (.cond (.t 11)
       (.seq
        (.reg [4, 5] [
          ⟨none, (some 12), .agg [.int .i8 0, .int .i8 0, .int .i8 0, .int .i8 0, .slice none 0 0] [], []⟩,
          ⟨none, (some 13), .mov (.t 6), []⟩,
          ⟨none, (some 4), .stV 4 none 5 (.t 12), []⟩,
          ⟨none, (some 5), .mov (.t 13), []⟩])
        .ret)
       .skip)))
    (.seq
     (.reg [4, 5] [
       ⟨none, (some 14), .mov (.t 0), []⟩,
       ⟨none, (some 15), .mov (.t 1), []⟩,
       ⟨none, (some 16), .call true 406 [.t 14, .t 15, .f 407], []⟩,
       ⟨none, (some 4), .stV 4 none 5 (.t 16), []⟩,
       ⟨none, (some 5), .mov (.c (.int .i64 0)), []⟩])
     .ret)))
def c187 : Fn := { np := 2, nt := 17, kind := .pure, res := [.v 4 5 true, .t 5], body := k187 }

/- spec.DecodeSteps -/
def k203 : Cd :=
  (.seq
   (.reg [2, 3] [
     ⟨none, (some 2), .mov (.c (.slice none 0 0)), []⟩,
     ⟨none, (some 3), .mov (.c (.int .i64 0)), []⟩])
   (.seq
    (.seq
     (.reg [6] [
       ⟨none, (some 4), .mov (.t 0), []⟩,
       ⟨none, (some 5), .call true 386 [.t 4], []⟩,
       ⟨none, (some 6), .un .not (.t 5), []⟩])
     (.cond (.t 6)
      (.seq
       (.reg [2, 3] [
         ⟨none, (some 7), .bldS 12 0 (zs 12 (.int .u16 0)) [], []⟩,
         ⟨none, (some 2), .mov (.t 7), []⟩,
         ⟨none, (some 3), .mov (.c (.int .i64 1)), []⟩])
       .ret)
      .skip))
    (.seq
     (.reg [2, 3] [
       ⟨none, (some 8), .mov (.t 0), []⟩,
       ⟨none, (some 9), .call true 418 [.t 8], []⟩,
       ⟨none, (some 2), .mov (.t 9), []⟩,
       ⟨none, (some 3), .mov (.c (.int .i64 0)), []⟩])
     .ret)))
def c203 : Fn := { np := 1, nt := 10, kind := .pure, res := [.t 2, .t 3], body := k203 }

/- impl.DecodeSteps -/
def k204 : Cd :=
  (.seq
   (.reg [2, 3] [
     ⟨none, (some 2), .mov (.c (.slice none 0 0)), []⟩,
     ⟨none, (some 3), .mov (.c (.int .i64 0)), []⟩])
   (.seq
    (.seq
     (.reg [6] [
       ⟨none, (some 4), .mov (.t 0), []⟩,
       ⟨none, (some 5), .call true 163 [.t 4], []⟩,
       ⟨none, (some 6), .un .not (.t 5), []⟩])
     (.cond (.t 6)
      (.seq
       (.reg [2, 3] [
         ⟨none, (some 2), .mov (.c (.slice none 0 0)), []⟩,
         ⟨none, (some 3), .mov (.c (.int .i64 1)), []⟩])
       .ret)
      .skip))
    (.seq
     (.reg [2, 3] [
       ⟨none, (some 7), .mov (.t 0), []⟩,
       ⟨none, (some 8), .call true 419 [.t 7], []⟩,
       ⟨none, (some 2), .mov (.t 8), []⟩,
       ⟨none, (some 3), .mov (.c (.int .i64 0)), []⟩])
     .ret)))
def c204 : Fn := { np := 1, nt := 9, kind := .pure, res := [.t 2, .t 3], body := k204 }

/- spec.EncodeBook -/
def k211 : Cd :=
  (.seq
   (.reg [2, 3, 4] [
     ⟨none, (some 2), .mov (.c (.slice none 0 0)), []⟩,
     ⟨none, (some 3), .mov (.c (.int .i64 0)), []⟩,
     ⟨none, (some 4), .mov (.c (.int .i64 0)), []⟩])
   (.seq
    (.seq
     (.reg [8] [
       ⟨none, (some 6), .mov (.t 0), []⟩,
       ⟨none, (some 7), .call true 318 [.t 6], []⟩,
       ⟨none, (some 8), .un .not (.t 7), []⟩])
     (.cond (.t 8)
      (.seq
       (.reg [2, 3, 4] [
         ⟨none, (some 9), .bldS 5 0 [.int .i8 0, .int .i8 0, .int .i8 0, .int .i8 0, .slice none 0 0] [], []⟩,
         ⟨none, (some 2), .mov (.t 9), []⟩,
         ⟨none, (some 3), .mov (.c (.int .i64 0)), []⟩,
         ⟨none, (some 4), .mov (.c (.int .i64 1)), []⟩])
       .ret)
      .skip))
    (.seq
     (.reg [5] [
       ⟨none, (some 10), .mov (.t 0), []⟩,
       ⟨none, (some 11), .call true 430 [.t 10, .c (.int .i64 40)], []⟩,
       ⟨none, (some 5), .mov (.t 11), []⟩])
     (.seq
      (.reg [2, 3, 4] [
        ⟨none, (some 12), .mov (.t 5), []⟩,
        ⟨none, (some 13), .mov (.t 5), []⟩,
        ⟨none, (some 14), .call true 396 [.t 13], []⟩,
        ⟨none, (some 2), .mov (.t 12), []⟩,
        ⟨none, (some 3), .mov (.t 14), []⟩,
        ⟨none, (some 4), .mov (.c (.int .i64 0)), []⟩])
      .ret))))
def c211 : Fn := { np := 1, nt := 15, kind := .pure, res := [.t 2, .t 3, .t 4], body := k211 }

/- impl.EncodeBook -/
def k212 : Cd :=
  (.seq
   (.reg [2, 3, 4] [
     ⟨none, (some 2), .mov (.c (.slice none 0 0)), []⟩,
     ⟨none, (some 3), .mov (.c (.int .i64 0)), []⟩,
     ⟨none, (some 4), .mov (.c (.int .i64 0)), []⟩])
   (.seq
    (.reg [2, 3, 4] [
      ⟨none, (some 5), .mov (.t 0), []⟩,
      ⟨none, (some 6), .call true 216 [.t 5, .c (.int .i64 40)], []⟩,
      ⟨none, (some 7), .ext (.t 6) 0, []⟩,
      ⟨none, (some 8), .ext (.t 6) 1, []⟩,
      ⟨none, (some 9), .ext (.t 6) 2, []⟩,
      ⟨none, (some 2), .mov (.t 7), []⟩,
      ⟨none, (some 3), .mov (.t 8), []⟩,
      ⟨none, (some 4), .mov (.t 9), []⟩])
    .ret))
def c212 : Fn := { np := 1, nt := 10, kind := .pure, res := [.t 2, .t 3, .t 4], body := k212 }

/- spec.EncodeWithin -/
def k215 : Cd :=
  (.seq
   (.reg [4, 5, 6] [
     ⟨none, (some 4), .mov (.c (.slice none 0 0)), []⟩,
     ⟨none, (some 5), .mov (.c (.int .i64 0)), []⟩,
     ⟨none, (some 6), .mov (.c (.int .i64 0)), []⟩])
   (.seq
    (.seq
     (.reg [10] [
       ⟨none, (some 8), .mov (.t 0), []⟩,
       ⟨none, (some 9), .call true 318 [.t 8], []⟩,
       ⟨none, (some 10), .un .not (.t 9), []⟩])
     (.cond (.t 10)
      (.seq
       (.reg [4, 5, 6] [
         ⟨none, (some 11), .bldS 5 0 [.int .i8 0, .int .i8 0, .int .i8 0, .int .i8 0, .slice none 0 0] [], []⟩,
         ⟨none, (some 4), .mov (.t 11), []⟩,
         ⟨none, (some 5), .mov (.c (.int .i64 0)), []⟩,
         ⟨none, (some 6), .mov (.c (.int .i64 1)), []⟩])
       .ret)
      .skip))
    (.seq
     (.seq
      (.reg [14] [
        ⟨none, (some 12), .mov (.t 1), []⟩,
        ⟨none, (some 13), .call true 304 [.t 12, .c (.int .i64 0), .c (.int .i64 40)], []⟩,
        ⟨none, (some 14), .un .not (.t 13), []⟩])
      (.cond (.t 14)
       (.seq
        (.reg [4, 5, 6] [
          ⟨none, (some 15), .bldS 5 0 [.int .i8 0, .int .i8 0, .int .i8 0, .int .i8 0, .slice none 0 0] [], []⟩,
          ⟨none, (some 4), .mov (.t 15), []⟩,
          ⟨none, (some 5), .mov (.c (.int .i64 0)), []⟩,
          ⟨none, (some 6), .mov (.c (.int .i64 2)), []⟩])
        .ret)
       .skip))
     (.seq
      (.reg [7] [
        ⟨none, (some 16), .mov (.t 0), []⟩,
        ⟨none, (some 17), .mov (.t 1), []⟩,
        ⟨none, (some 18), .call true 430 [.t 16, .t 17], []⟩,
        ⟨none, (some 7), .mov (.t 18), []⟩])
      (.seq
       (.reg [4, 5, 6] [
         ⟨none, (some 19), .mov (.t 7), []⟩,
         ⟨none, (some 20), .mov (.t 7), []⟩,
         ⟨none, (some 21), .call true 396 [.t 20], []⟩,
         ⟨none, (some 4), .mov (.t 19), []⟩,
         ⟨none, (some 5), .mov (.t 21), []⟩,
         ⟨none, (some 6), .mov (.c (.int .i64 0)), []⟩])
       .ret)))))
def c215 : Fn := { np := 2, nt := 22, kind := .pure, res := [.t 4, .t 5, .t 6], body := k215 }

/- impl.EncodeWithin -/
def b216_1 : Cd :=
  (.seq
   (.reg [24] [
     ⟨none, (some 24), .bin .lss (.t 23) (.t 22), []⟩])
   (.seq
    (.cond (.t 24)
     .skip
     (.exit 1))
    (.seq
     (.block 2
      (.seq
       (.reg [9] [
         ⟨none, (some 25), .mov (.t 23), []⟩,
         ⟨none, (some 9), .mov (.t 25), []⟩])
       (.seq
        (.reg [10] [
          ⟨none, (some 26), .mov (.t 0), []⟩,
          ⟨none, (some 27), .mov (.t 9), []⟩,
          ⟨none, (some 28), .mkf 431 [.t 8, .t 3], []⟩,
          ⟨none, (some 29), .call true 406 [.t 26, .t 27, .t 28], []⟩,
          ⟨none, (some 10), .zero true [.int .i8 0, .int .i8 0, .int .i8 0, .int .i8 0, .slice none 0 0], []⟩,
          ⟨none, (some 10), .stV 10 none 5 (.t 29), []⟩])
        (.reg [7] [
          ⟨none, (some 30), .mov (.t 7), []⟩,
          ⟨none, (some 31), .ldV 10 none 5 true, []⟩,
          ⟨none, (some 32), .bldS 5 1 [.int .i8 0, .int .i8 0, .int .i8 0, .int .i8 0, .slice none 0 0] [(0, 5, (.t 31))], []⟩,
          ⟨none, (some 34), .ld 1 false (.t 8), []⟩,
          ⟨none, (some 35), .ldV 10 none 5 true, []⟩,
          ⟨none, (some 36), .ld 1 false (.t 8), []⟩,
          ⟨none, (some 33), .app 5 32 (.t 30) (.t 32), [.t 8, .t 8]⟩,
          ⟨none, (some 37), .call true 400 [.t 35, .t 36], []⟩,
          ⟨none, (some 38), .bldS 1 1 [.int .i64 0] [(0, 1, (.t 37))], []⟩,
          ⟨none, (some 39), .app 1 8 (.t 34) (.t 38), []⟩,
          ⟨none, (some 7), .mov (.t 33), []⟩,
          ⟨none, none, .st 1 (.t 8) (.t 39), []⟩]))))
     (.reg [23] [
       ⟨none, (some 40), .bin .add (.t 23) (.c (.int .i64 1)), []⟩,
       ⟨none, (some 23), .mov (.t 40), []⟩]))))
def k216 : Cd :=
  (.seq
   (.reg [3, 4, 5, 6] [
     ⟨none, (some 3), .box 1 (.t 1), []⟩,
     ⟨none, (some 4), .mov (.c (.slice none 0 0)), []⟩,
     ⟨none, (some 5), .mov (.c (.int .i64 0)), []⟩,
     ⟨none, (some 6), .mov (.c (.int .i64 0)), []⟩])
   (.seq
    (.block 0
     (.seq
      (.reg [11] [
        ⟨none, (some 12), .mov (.t 0), []⟩,
        ⟨none, (some 13), .call true 316 [.t 12], []⟩,
        ⟨none, (some 14), .un .not (.t 13), []⟩,
        ⟨none, (some 11), .mov (.t 14), []⟩])
      (.cond (.t 11)
       (.seq
        (.reg [4, 5, 6] [
          ⟨none, (some 4), .mov (.c (.slice none 0 0)), []⟩,
          ⟨none, (some 5), .mov (.c (.int .i64 0)), []⟩,
          ⟨none, (some 6), .mov (.c (.int .i64 1)), []⟩])
        .ret)
       (.seq
        (.reg [15] [
          ⟨none, (some 16), .ld 1 false (.t 3), []⟩,
          ⟨none, (some 17), .call true 295 [.t 16, .c (.int .i64 0), .c (.int .i64 40)], []⟩,
          ⟨none, (some 18), .un .not (.t 17), []⟩,
          ⟨none, (some 15), .mov (.t 18), []⟩])
        (.cond (.t 15)
         (.seq
          (.reg [4, 5, 6] [
            ⟨none, (some 4), .mov (.c (.slice none 0 0)), []⟩,
            ⟨none, (some 5), .mov (.c (.int .i64 0)), []⟩,
            ⟨none, (some 6), .mov (.c (.int .i64 2)), []⟩])
          .ret)
         .skip)))))
    (.seq
     (.reg [8, 7] [
       ⟨none, (some 19), .bldS 5 0 [.int .i8 0, .int .i8 0, .int .i8 0, .int .i8 0, .slice none 0 0] [], []⟩,
       ⟨none, (some 20), .bldS 1 0 [.int .i64 0] [], []⟩,
       ⟨none, (some 8), .new 1 [.slice none 0 0], []⟩,
       ⟨none, (some 7), .mov (.t 19), []⟩,
       ⟨none, none, .st 1 (.t 8) (.t 20), []⟩])
     (.seq
      (.seq
       (.reg [22, 23] [
         ⟨none, (some 21), .mov (.t 0), []⟩,
         ⟨none, (some 22), .len (.t 21), []⟩,
         ⟨none, (some 23), .mov (.c (.int .i64 0)), []⟩])
       (.block 1
        (.loop b216_1)))
      (.seq
       (.reg [4, 5, 6] [
         ⟨none, (some 41), .mov (.t 7), []⟩,
         ⟨none, (some 42), .mov (.t 7), []⟩,
         ⟨none, (some 43), .call true 397 [.t 42], []⟩,
         ⟨none, (some 4), .mov (.t 41), []⟩,
         ⟨none, (some 5), .mov (.t 43), []⟩,
         ⟨none, (some 6), .mov (.c (.int .i64 0)), []⟩])
       .ret)))))
def c216 : Fn := { np := 2, nt := 44, kind := .pure, res := [.t 4, .t 5, .t 6], body := k216 }

/- impl.CheckSteps -/
def k225 : Cd :=
  (.seq
   (.reg [4, 5] [
     ⟨none, (some 4), .mov (.c (.bool false)), []⟩,
     ⟨none, (some 5), .mov (.c (.int .i64 0)), []⟩])
   (.seq
    (.seq
     (.reg [13] [
       ⟨none, (some 6), .mov (.t 0), []⟩,
       ⟨none, (some 7), .call true 316 [.t 6], []⟩,
       ⟨none, (some 8), .un .not (.t 7), []⟩,
       ⟨none, (some 9), .mov (.t 8), []⟩,
       ⟨(some (9, false)), (some 10), .mov (.t 1), []⟩,
       ⟨(some (9, false)), (some 11), .call true 163 [.t 10], []⟩,
       ⟨(some (9, false)), (some 12), .un .not (.t 11), []⟩,
       ⟨none, (some 13), .pick (.t 9) (.c (.bool true)) (.t 12), []⟩])
     (.cond (.t 13)
      (.seq
       (.reg [4, 5] [
         ⟨none, (some 4), .mov (.c (.bool false)), []⟩,
         ⟨none, (some 5), .mov (.c (.int .i64 1)), []⟩])
       .ret)
      .skip))
    (.seq
     (.reg [4, 5] [
       ⟨none, (some 14), .mov (.t 1), []⟩,
       ⟨none, (some 15), .call true 419 [.t 14], []⟩,
       ⟨none, (some 16), .mov (.t 0), []⟩,
       ⟨none, (some 17), .call true 341 [.t 15, .t 16], []⟩,
       ⟨none, (some 4), .mov (.t 17), []⟩,
       ⟨none, (some 5), .mov (.c (.int .i64 0)), []⟩])
     .ret)))
def c225 : Fn := { np := 2, nt := 18, kind := .pure, res := [.t 4, .t 5], body := k225 }

/- impl.ValidFrame -/
def k234 : Cd :=
  (.seq
   (.reg [1, 2] [
     ⟨none, (some 1), .box 12 (.t 0), []⟩,
     ⟨none, (some 2), .mov (.c (.bool false)), []⟩])
   (.seq
    (.reg [2] [
      ⟨none, (some 3), .slcP 12 1 (.t 1), []⟩,
      ⟨none, (some 4), .call true 445 [.t 3, .f 446], []⟩,
      ⟨none, (some 5), .un .not (.t 4), []⟩,
      ⟨none, (some 2), .mov (.t 5), []⟩])
    .ret))
def c234 : Fn := { np := 1, nt := 6, kind := .pure, res := [.t 2], body := k234 }

/- spec.P6Pick -/
def k259 : Cd :=
  (.seq
   (.reg [4] [
     ⟨none, (some 4), .mov (.c (.int .i64 0)), []⟩])
   (.seq
    (.reg [4] [
      ⟨none, (some 5), .mov (.t 0), []⟩,
      ⟨none, (some 6), .call true 315 [.t 5], []⟩,
      ⟨none, (some 7), .mov (.t 1), []⟩,
      ⟨none, (some 8), .call false 459 [.t 6, .t 7], []⟩,
      ⟨none, (some 4), .mov (.t 8), []⟩])
    .ret))
def c259 : Fn := { np := 2, nt := 9, kind := .pure, res := [.t 4], body := k259 }

/- spec.SameNumbers -/
def k262 : Cd :=
  (.seq
   (.reg [4] [
     ⟨none, (some 4), .mov (.c (.bool false)), []⟩])
   (.seq
    (.reg [4] [
      ⟨none, (some 5), .mov (.t 0), []⟩,
      ⟨none, (some 6), .mov (.t 1), []⟩,
      ⟨none, (some 7), .call true 356 [.t 5, .t 6], []⟩,
      ⟨none, (some 4), .mov (.t 7), []⟩])
    .ret))
def c262 : Fn := { np := 2, nt := 8, kind := .pure, res := [.t 4], body := k262 }

/- spec.P6Steps -/
def k274 : Cd :=
  (.seq
   (.reg [2] [
     ⟨none, (some 2), .mov (.c (.slice none 0 0)), []⟩])
   (.seq
    (.reg [2] [
      ⟨none, (some 3), .mov (.t 0), []⟩,
      ⟨none, (some 4), .call true 315 [.t 3], []⟩,
      ⟨none, (some 5), .call false 469 [.t 4], []⟩,
      ⟨none, (some 2), .mov (.t 5), []⟩])
    .ret))
def c274 : Fn := { np := 1, nt := 6, kind := .pure, res := [.t 2], body := k274 }

/- spec.SameStep -/
def k275 : Cd :=
  (.seq
   (.reg [2, 3, 4] [
     ⟨none, (some 2), .box 5 (.t 0), []⟩,
     ⟨none, (some 3), .box 5 (.t 1), []⟩,
     ⟨none, (some 4), .mov (.c (.bool false)), []⟩])
   (.seq
    (.reg [4] [
      ⟨none, (some 5), .call true 381 [.t 2, .t 3], []⟩,
      ⟨none, (some 4), .mov (.t 5), []⟩])
    .ret))
def c275 : Fn := { np := 2, nt := 6, kind := .pure, res := [.t 4], body := k275 }

/- impl.inRange -/
def k295 : Cd :=
  (.seq
   (.reg [6] [
     ⟨none, (some 6), .mov (.c (.bool false)), []⟩])
   (.seq
    (.reg [6] [
      ⟨none, (some 7), .mov (.t 1), []⟩,
      ⟨none, (some 8), .mov (.t 0), []⟩,
      ⟨none, (some 9), .bin .leq (.t 7) (.t 8), []⟩,
      ⟨none, (some 10), .mov (.t 9), []⟩,
      ⟨(some (10, true)), (some 11), .mov (.t 0), []⟩,
      ⟨(some (10, true)), (some 12), .mov (.t 2), []⟩,
      ⟨(some (10, true)), (some 13), .bin .leq (.t 11) (.t 12), []⟩,
      ⟨none, (some 14), .pick (.t 10) (.t 13) (.c (.bool false)), []⟩,
      ⟨none, (some 6), .mov (.t 14), []⟩])
    .ret))
def c295 : Fn := { np := 3, nt := 15, kind := .pure, res := [.t 6], body := k295 }

/- spec.l00In -/
def k304 : Cd :=
  (.seq
   (.reg [6] [
     ⟨none, (some 6), .mov (.c (.bool false)), []⟩])
   (.seq
    (.reg [6] [
      ⟨none, (some 7), .mov (.t 0), []⟩,
      ⟨none, (some 8), .mov (.t 1), []⟩,
      ⟨none, (some 9), .bin .geq (.t 7) (.t 8), []⟩,
      ⟨none, (some 10), .mov (.t 9), []⟩,
      ⟨(some (10, true)), (some 11), .mov (.t 0), []⟩,
      ⟨(some (10, true)), (some 12), .mov (.t 2), []⟩,
      ⟨(some (10, true)), (some 13), .bin .leq (.t 11) (.t 12), []⟩,
      ⟨none, (some 14), .pick (.t 10) (.t 13) (.c (.bool false)), []⟩,
      ⟨none, (some 6), .mov (.t 14), []⟩])
    .ret))
def c304 : Fn := { np := 3, nt := 15, kind := .pure, res := [.t 6], body := k304 }

/- spec.l01Put -/
def k305 : Cd :=
  (.seq
   (.reg [8] [
     ⟨none, (some 6), .mov (.t 1), []⟩,
     ⟨none, (some 7), .mov (.t 2), []⟩,
     ⟨none, (some 8), .call true 342 [.t 6, .t 7], []⟩])
   (.cond (.t 8)
    (.reg [] [
      ⟨none, (some 9), .mov (.t 0), []⟩,
      ⟨none, (some 10), .mov (.t 2), []⟩,
      ⟨none, (some 11), .mov (.t 0), []⟩,
      ⟨none, (some 12), .mov (.t 2), []⟩,
      ⟨none, (some 13), .nil (.t 11), []⟩,
      ⟨none, (some 14), .idxP 12 1 (.t 13) (.t 12), []⟩,
      ⟨none, (some 15), .ld 1 false (.t 14), []⟩,
      ⟨none, (some 16), .mov (.t 1), []⟩,
      ⟨none, (some 17), .conv .u64 (.t 16), []⟩,
      ⟨none, (some 18), .bin .shl (.c (.int .u16 1)) (.t 17), []⟩,
      ⟨none, (some 19), .bin .or (.t 15) (.t 18), []⟩,
      ⟨none, (some 20), .nil (.t 9), []⟩,
      ⟨none, (some 21), .idxP 12 1 (.t 20) (.t 10), []⟩,
      ⟨none, none, .st 1 (.t 21) (.t 19), []⟩])
    .skip))
def c305 : Fn := { np := 3, nt := 22, kind := .args, res := [], body := k305 }

/- spec.l06How -/
def k309 : Cd :=
  (.seq
   (.reg [2] [
     ⟨none, (some 2), .mov (.c (.bool false)), []⟩])
   (.seq
    (.reg [2] [
      ⟨none, (some 3), .mov (.t 0), []⟩,
      ⟨none, (some 4), .call true 304 [.t 3, .c (.int .i64 0), .c (.int .i64 2)], []⟩,
      ⟨none, (some 2), .mov (.t 4), []⟩])
    .ret))
def c309 : Fn := { np := 1, nt := 5, kind := .pure, res := [.t 2], body := k309 }

/- spec.l06Cost -/
def k310 : Cd :=
  (.seq
   (.reg [2] [
     ⟨none, (some 2), .mov (.c (.int .i64 0)), []⟩])
   (.seq
    (.reg [3] [
      ⟨none, (some 4), .agg [.int .i64 0, .int .i64 0, .int .i64 0] [(0, 1, (.c (.int .i64 1))), (1, 1, (.c (.int .i64 2))), (2, 1, (.c (.int .i64 4)))], []⟩,
      ⟨none, (some 3), .zero true [.int .i64 0, .int .i64 0, .int .i64 0], []⟩,
      ⟨none, (some 3), .stV 3 none 3 (.t 4), []⟩])
    (.seq
     (.reg [2] [
       ⟨none, (some 5), .mov (.t 0), []⟩,
       ⟨none, (some 6), .nil (.t 5), []⟩,
       ⟨none, (some 7), .fldP 0 (.t 6), []⟩,
       ⟨none, (some 8), .ld 1 false (.t 7), []⟩,
       ⟨none, (some 9), .adrI 3 none 3 1 (.t 8), []⟩,
       ⟨none, (some 10), .ldV 3 (some 9) 1 false, []⟩,
       ⟨none, (some 11), .mov (.t 0), []⟩,
       ⟨none, (some 12), .nil (.t 11), []⟩,
       ⟨none, (some 13), .fldP 4 (.t 12), []⟩,
       ⟨none, (some 14), .ld 1 false (.t 13), []⟩,
       ⟨none, (some 15), .len (.t 14), []⟩,
       ⟨none, (some 16), .bin .mul (.c (.int .i64 3)) (.t 15), []⟩,
       ⟨none, (some 17), .bin .add (.t 10) (.t 16), []⟩,
       ⟨none, (some 2), .mov (.t 17), []⟩])
     .ret)))
def c310 : Fn := { np := 1, nt := 18, kind := .pure, res := [.t 2], body := k310 }

/- (impl.Step).cost -/
def k312 : Cd :=
  (.seq
   (.reg [1, 2] [
     ⟨none, (some 1), .mov (.t 0), []⟩,
     ⟨none, (some 2), .mov (.c (.int .i64 0)), []⟩])
   (.seq
    (.reg [3] [
      ⟨none, (some 4), .agg [.int .i64 0, .int .i64 0, .int .i64 0] [(0, 1, (.c (.int .i64 1))), (1, 1, (.c (.int .i64 2))), (2, 1, (.c (.int .i64 4)))], []⟩,
      ⟨none, (some 3), .zero true [.int .i64 0, .int .i64 0, .int .i64 0], []⟩,
      ⟨none, (some 3), .stV 3 none 3 (.t 4), []⟩])
    (.seq
     (.reg [2] [
       ⟨none, (some 5), .adrF 1 none 4, []⟩,
       ⟨none, (some 6), .ldV 1 (some 5) 1 false, []⟩,
       ⟨none, (some 9), .adrF 1 none 0, []⟩,
       ⟨none, (some 10), .ldV 1 (some 9) 1 false, []⟩,
       ⟨none, (some 11), .adrI 3 none 3 1 (.t 10), []⟩,
       ⟨none, (some 12), .ldV 3 (some 11) 1 false, []⟩,
       ⟨none, (some 7), .call true 490 [.t 6], []⟩,
       ⟨none, (some 8), .bin .mul (.c (.int .i64 3)) (.t 7), []⟩,
       ⟨none, (some 13), .bin .add (.t 8) (.t 12), []⟩,
       ⟨none, (some 2), .mov (.t 13), []⟩])
     .ret)))
def c312 : Fn := { np := 1, nt := 14, kind := .pure, res := [.t 2], body := k312 }

/- spec.l00From -/
def k315 : Cd :=
  (.seq
   (.reg [2] [
     ⟨none, (some 2), .mov (.c (.pointer none)), []⟩])
   (.seq
    (.reg [2] [
      ⟨none, (some 3), .mov (.t 0), []⟩,
      ⟨none, (some 4), .agg [.slice none 0 0, .int .i64 0, .int .u64 0] [(0, 1, (.t 3))], []⟩,
      ⟨none, (some 5), .box 3 (.t 4), []⟩,
      ⟨none, (some 2), .mov (.t 5), []⟩])
    .ret))
def c315 : Fn := { np := 1, nt := 6, kind := .pure, res := [.t 2], body := k315 }

/- impl.ValidBook -/
def k316 : Cd :=
  (.seq
   (.reg [2] [
     ⟨none, (some 2), .mov (.c (.bool false)), []⟩])
   (.seq
    (.reg [2] [
      ⟨none, (some 3), .mov (.t 0), []⟩,
      ⟨none, (some 4), .len (.t 3), []⟩,
      ⟨none, (some 5), .bin .leq (.t 4) (.c (.int .i64 40)), []⟩,
      ⟨none, (some 6), .mov (.t 5), []⟩,
      ⟨(some (6, true)), (some 7), .mov (.t 0), []⟩,
      ⟨(some (6, true)), (some 8), .call true 351 [.t 7], []⟩,
      ⟨none, (some 9), .pick (.t 6) (.t 8) (.c (.bool false)), []⟩,
      ⟨none, (some 2), .mov (.t 9), []⟩])
    .ret))
def c316 : Fn := { np := 1, nt := 10, kind := .pure, res := [.t 2], body := k316 }

/- spec.l02Ok -/
def b318_1 : Cd :=
  (.seq
   (.seq
    (.reg [7] [
      ⟨none, (some 4), .mov (.t 3), []⟩,
      ⟨none, (some 5), .mov (.t 0), []⟩,
      ⟨none, (some 6), .len (.t 5), []⟩,
      ⟨none, (some 7), .bin .lss (.t 4) (.t 6), []⟩])
    (.cond (.t 7)
     .skip
     (.exit 0)))
   (.seq
    (.block 1
     (.seq
      (.reg [14] [
        ⟨none, (some 10), .mov (.t 0), []⟩,
        ⟨none, (some 11), .mov (.t 3), []⟩,
        ⟨none, (some 12), .idxA 12 (.t 10) (.t 11), []⟩,
        ⟨none, (some 13), .call true 359 [.t 12], []⟩,
        ⟨none, (some 14), .un .not (.t 13), []⟩])
      (.cond (.t 14)
       (.seq
        (.reg [2] [
          ⟨none, (some 2), .mov (.c (.bool false)), []⟩])
        .ret)
       .skip)))
    (.reg [3] [
      ⟨none, (some 8), .mov (.t 3), []⟩,
      ⟨none, (some 9), .bin .add (.t 8) (.c (.int .i64 1)), []⟩,
      ⟨none, (some 3), .mov (.t 9), []⟩])))
def k318 : Cd :=
  (.seq
   (.reg [2] [
     ⟨none, (some 2), .mov (.c (.bool false)), []⟩])
   (.seq
    (.seq
     (.reg [3] [
       ⟨none, (some 3), .mov (.c (.int .i64 0)), []⟩])
     (.block 0
      (.loop b318_1)))
    (.seq
     (.reg [2] [
       ⟨none, (some 15), .mov (.t 0), []⟩,
       ⟨none, (some 16), .len (.t 15), []⟩,
       ⟨none, (some 17), .bin .leq (.t 16) (.c (.int .i64 40)), []⟩,
       ⟨none, (some 2), .mov (.t 17), []⟩])
     .ret)))
def c318 : Fn := { np := 1, nt := 18, kind := .pure, res := [.t 2], body := k318 }

/- spec.l02Same -/
def b323_1 : Cd :=
  (.seq
   (.seq
    (.reg [14] [
      ⟨none, (some 11), .mov (.t 5), []⟩,
      ⟨none, (some 12), .mov (.t 0), []⟩,
      ⟨none, (some 13), .len (.t 12), []⟩,
      ⟨none, (some 14), .bin .lss (.t 11) (.t 13), []⟩])
    (.cond (.t 14)
     .skip
     (.exit 0)))
   (.seq
    (.block 1
     (.seq
      (.reg [25] [
        ⟨none, (some 17), .mov (.t 0), []⟩,
        ⟨none, (some 18), .mov (.t 5), []⟩,
        ⟨none, (some 19), .idxA 12 (.t 17) (.t 18), []⟩,
        ⟨none, (some 20), .ld 12 true (.t 19), []⟩,
        ⟨none, (some 21), .mov (.t 1), []⟩,
        ⟨none, (some 22), .mov (.t 5), []⟩,
        ⟨none, (some 23), .idxA 12 (.t 21) (.t 22), []⟩,
        ⟨none, (some 24), .ld 12 true (.t 23), []⟩,
        ⟨none, (some 25), .eq (.a (rb 12 (some .u16))) true (.t 20) (.t 24), []⟩])
      (.cond (.t 25)
       (.seq
        (.reg [4] [
          ⟨none, (some 4), .mov (.c (.bool false)), []⟩])
        .ret)
       .skip)))
    (.reg [5] [
      ⟨none, (some 15), .mov (.t 5), []⟩,
      ⟨none, (some 16), .bin .add (.t 15) (.c (.int .i64 1)), []⟩,
      ⟨none, (some 5), .mov (.t 16), []⟩])))
def k323 : Cd :=
  (.seq
   (.reg [4] [
     ⟨none, (some 4), .mov (.c (.bool false)), []⟩])
   (.seq
    (.seq
     (.reg [10] [
       ⟨none, (some 6), .mov (.t 0), []⟩,
       ⟨none, (some 7), .len (.t 6), []⟩,
       ⟨none, (some 8), .mov (.t 1), []⟩,
       ⟨none, (some 9), .len (.t 8), []⟩,
       ⟨none, (some 10), .bin .neq (.t 7) (.t 9), []⟩])
     (.cond (.t 10)
      (.seq
       (.reg [4] [
         ⟨none, (some 4), .mov (.c (.bool false)), []⟩])
       .ret)
      .skip))
    (.seq
     (.seq
      (.reg [5] [
        ⟨none, (some 5), .mov (.c (.int .i64 0)), []⟩])
      (.block 0
       (.loop b323_1)))
     (.seq
      (.reg [4] [
        ⟨none, (some 4), .mov (.c (.bool true)), []⟩])
      .ret))))
def c323 : Fn := { np := 2, nt := 26, kind := .pure, res := [.t 4], body := k323 }

/- slices.Equal[impl.Book,impl.Frame] -/
def b341_1 : Cd :=
  (.seq
   (.reg [14] [
     ⟨none, (some 14), .bin .lss (.t 13) (.t 12), []⟩])
   (.seq
    (.cond (.t 14)
     .skip
     (.exit 0))
    (.seq
     (.block 1
      (.seq
       (.reg [5] [
         ⟨none, (some 15), .mov (.t 13), []⟩,
         ⟨none, (some 5), .mov (.t 15), []⟩])
       (.seq
        (.reg [24] [
          ⟨none, (some 16), .mov (.t 0), []⟩,
          ⟨none, (some 17), .mov (.t 5), []⟩,
          ⟨none, (some 18), .idxA 12 (.t 16) (.t 17), []⟩,
          ⟨none, (some 19), .ld 12 true (.t 18), []⟩,
          ⟨none, (some 20), .mov (.t 1), []⟩,
          ⟨none, (some 21), .mov (.t 5), []⟩,
          ⟨none, (some 22), .idxA 12 (.t 20) (.t 21), []⟩,
          ⟨none, (some 23), .ld 12 true (.t 22), []⟩,
          ⟨none, (some 24), .eq (.a (rb 12 (some .u16))) true (.t 19) (.t 23), []⟩])
        (.cond (.t 24)
         (.seq
          (.reg [4] [
            ⟨none, (some 4), .mov (.c (.bool false)), []⟩])
          .ret)
         .skip))))
     (.reg [13] [
       ⟨none, (some 25), .bin .add (.t 13) (.c (.int .i64 1)), []⟩,
       ⟨none, (some 13), .mov (.t 25), []⟩]))))
def k341 : Cd :=
  (.seq
   (.reg [4] [
     ⟨none, (some 4), .mov (.c (.bool false)), []⟩])
   (.seq
    (.seq
     (.reg [10] [
       ⟨none, (some 6), .mov (.t 0), []⟩,
       ⟨none, (some 7), .len (.t 6), []⟩,
       ⟨none, (some 8), .mov (.t 1), []⟩,
       ⟨none, (some 9), .len (.t 8), []⟩,
       ⟨none, (some 10), .bin .neq (.t 7) (.t 9), []⟩])
     (.cond (.t 10)
      (.seq
       (.reg [4] [
         ⟨none, (some 4), .mov (.c (.bool false)), []⟩])
       .ret)
      .skip))
    (.seq
     (.seq
      (.reg [12, 13] [
        ⟨none, (some 11), .mov (.t 0), []⟩,
        ⟨none, (some 12), .len (.t 11), []⟩,
        ⟨none, (some 13), .mov (.c (.int .i64 0)), []⟩])
      (.block 0
       (.loop b341_1)))
     (.seq
      (.reg [4] [
        ⟨none, (some 4), .mov (.c (.bool true)), []⟩])
      .ret))))
def c341 : Fn := { np := 2, nt := 26, kind := .pure, res := [.t 4], body := k341 }

/- spec.l01Place -/
def k342 : Cd :=
  (.seq
   (.reg [4] [
     ⟨none, (some 4), .mov (.c (.bool false)), []⟩])
   (.seq
    (.reg [4] [
      ⟨none, (some 5), .mov (.t 0), []⟩,
      ⟨none, (some 6), .call true 304 [.t 5, .c (.int .i64 0), .c (.int .i64 11)], []⟩,
      ⟨none, (some 7), .mov (.t 6), []⟩,
      ⟨(some (7, true)), (some 8), .mov (.t 1), []⟩,
      ⟨(some (7, true)), (some 9), .call true 304 [.t 8, .c (.int .i64 0), .c (.int .i64 11)], []⟩,
      ⟨none, (some 10), .pick (.t 7) (.t 9) (.c (.bool false)), []⟩,
      ⟨none, (some 4), .mov (.t 10), []⟩])
    .ret))
def c342 : Fn := { np := 2, nt := 11, kind := .pure, res := [.t 4], body := k342 }

/- impl.areFrames -/
def k351 : Cd :=
  (.seq
   (.reg [2] [
     ⟨none, (some 2), .mov (.c (.bool false)), []⟩])
   (.seq
    (.reg [2] [
      ⟨none, (some 3), .mov (.t 0), []⟩,
      ⟨none, (some 4), .call true 505 [.t 3, .f 506], []⟩,
      ⟨none, (some 5), .un .not (.t 4), []⟩,
      ⟨none, (some 2), .mov (.t 5), []⟩])
    .ret))
def c351 : Fn := { np := 1, nt := 6, kind := .pure, res := [.t 2], body := k351 }

/- spec.l01Moved -/
def b355_1 : Cd :=
  (.seq
   (.seq
    (.reg [16] [
      ⟨none, (some 13), .mov (.t 9), []⟩,
      ⟨none, (some 14), .mov (.t 8), []⟩,
      ⟨none, (some 15), .len (.t 14), []⟩,
      ⟨none, (some 16), .bin .lss (.t 13) (.t 15), []⟩])
    (.cond (.t 16)
     .skip
     (.exit 0)))
   (.seq
    (.block 1
     (.reg [] [
       ⟨none, (some 19), .mov (.t 8), []⟩,
       ⟨none, (some 20), .mov (.t 9), []⟩,
       ⟨none, (some 21), .idxA 2 (.t 19) (.t 20), []⟩,
       ⟨none, (some 22), .fldP 0 (.t 21), []⟩,
       ⟨none, (some 23), .ld 1 false (.t 22), []⟩,
       ⟨none, (some 24), .conv .i64 (.t 23), []⟩,
       ⟨none, (some 25), .mov (.t 1), []⟩,
       ⟨none, (some 26), .bin .add (.t 24) (.t 25), []⟩,
       ⟨none, (some 27), .mov (.t 8), []⟩,
       ⟨none, (some 28), .mov (.t 9), []⟩,
       ⟨none, (some 29), .idxA 2 (.t 27) (.t 28), []⟩,
       ⟨none, (some 30), .fldP 1 (.t 29), []⟩,
       ⟨none, (some 31), .ld 1 false (.t 30), []⟩,
       ⟨none, (some 32), .conv .i64 (.t 31), []⟩,
       ⟨none, (some 33), .mov (.t 2), []⟩,
       ⟨none, (some 34), .bin .add (.t 32) (.t 33), []⟩,
       ⟨none, (some 35), .call false 305 [.t 7, .t 26, .t 34], []⟩]))
    (.reg [9] [
      ⟨none, (some 17), .mov (.t 9), []⟩,
      ⟨none, (some 18), .bin .add (.t 17) (.c (.int .i64 1)), []⟩,
      ⟨none, (some 9), .mov (.t 18), []⟩])))
def k355 : Cd :=
  (.seq
   (.reg [6] [
     ⟨none, (some 6), .zero true (zs 12 (.int .u16 0)), []⟩])
   (.seq
    (.reg [7] [
      ⟨none, (some 10), .agg (zs 12 (.int .u16 0)) [], []⟩,
      ⟨none, (some 7), .new 1 (zs 12 (.int .u16 0)), []⟩,
      ⟨none, none, .st 12 (.t 7) (.t 10), []⟩])
    (.seq
     (.reg [8] [
       ⟨none, (some 11), .mov (.t 0), []⟩,
       ⟨none, (some 12), .call true 440 [.t 11], []⟩,
       ⟨none, (some 8), .mov (.t 12), []⟩])
     (.seq
      (.seq
       (.reg [9] [
         ⟨none, (some 9), .mov (.c (.int .i64 0)), []⟩])
       (.block 0
        (.loop b355_1)))
      (.seq
       (.reg [6] [
         ⟨none, (some 36), .ld 12 true (.t 7), []⟩,
         ⟨none, (some 6), .stV 6 none 12 (.t 36), []⟩])
       .ret)))))
def c355 : Fn := { np := 3, nt := 37, kind := .pure, res := [.v 6 12 true], body := k355 }

/- spec.l00Same -/
def b356_1 : Cd :=
  (.seq
   (.seq
    (.reg [14] [
      ⟨none, (some 11), .mov (.t 5), []⟩,
      ⟨none, (some 12), .mov (.t 0), []⟩,
      ⟨none, (some 13), .len (.t 12), []⟩,
      ⟨none, (some 14), .bin .lss (.t 11) (.t 13), []⟩])
    (.cond (.t 14)
     .skip
     (.exit 0)))
   (.seq
    (.block 1
     (.seq
      (.reg [25] [
        ⟨none, (some 17), .mov (.t 0), []⟩,
        ⟨none, (some 18), .mov (.t 5), []⟩,
        ⟨none, (some 19), .idxA 1 (.t 17) (.t 18), []⟩,
        ⟨none, (some 20), .ld 1 false (.t 19), []⟩,
        ⟨none, (some 21), .mov (.t 1), []⟩,
        ⟨none, (some 22), .mov (.t 5), []⟩,
        ⟨none, (some 23), .idxA 1 (.t 21) (.t 22), []⟩,
        ⟨none, (some 24), .ld 1 false (.t 23), []⟩,
        ⟨none, (some 25), .bin .neq (.t 20) (.t 24), []⟩])
      (.cond (.t 25)
       (.seq
        (.reg [4] [
          ⟨none, (some 4), .mov (.c (.bool false)), []⟩])
        .ret)
       .skip)))
    (.reg [5] [
      ⟨none, (some 15), .mov (.t 5), []⟩,
      ⟨none, (some 16), .bin .add (.t 15) (.c (.int .i64 1)), []⟩,
      ⟨none, (some 5), .mov (.t 16), []⟩])))
def k356 : Cd :=
  (.seq
   (.reg [4] [
     ⟨none, (some 4), .mov (.c (.bool false)), []⟩])
   (.seq
    (.seq
     (.reg [10] [
       ⟨none, (some 6), .mov (.t 0), []⟩,
       ⟨none, (some 7), .len (.t 6), []⟩,
       ⟨none, (some 8), .mov (.t 1), []⟩,
       ⟨none, (some 9), .len (.t 8), []⟩,
       ⟨none, (some 10), .bin .neq (.t 7) (.t 9), []⟩])
     (.cond (.t 10)
      (.seq
       (.reg [4] [
         ⟨none, (some 4), .mov (.c (.bool false)), []⟩])
       .ret)
      .skip))
    (.seq
     (.seq
      (.reg [5] [
        ⟨none, (some 5), .mov (.c (.int .i64 0)), []⟩])
      (.block 0
       (.loop b356_1)))
     (.seq
      (.reg [4] [
        ⟨none, (some 4), .mov (.c (.bool true)), []⟩])
      .ret))))
def c356 : Fn := { np := 2, nt := 26, kind := .pure, res := [.t 4], body := k356 }

/- (impl.Frame).moved -/
def b358_1 : Cd :=
  (.seq
   (.reg [16] [
     ⟨none, (some 16), .bin .lss (.t 15) (.c (.int .i64 12)), []⟩])
   (.seq
    (.cond (.t 16)
     .skip
     (.exit 0))
    (.seq
     (.block 1
      (.seq
       (.reg [8] [
         ⟨none, (some 17), .mov (.t 15), []⟩,
         ⟨none, (some 8), .mov (.t 17), []⟩])
       (.seq
        (.reg [9] [
          ⟨none, (some 18), .mov (.t 8), []⟩,
          ⟨none, (some 19), .mov (.t 2), []⟩,
          ⟨none, (some 20), .bin .sub (.t 18) (.t 19), []⟩,
          ⟨none, (some 9), .mov (.t 20), []⟩])
        (.seq
         (.seq
          (.reg [23] [
            ⟨none, (some 21), .mov (.t 9), []⟩,
            ⟨none, (some 22), .call true 295 [.t 21, .c (.int .i64 0), .c (.int .i64 11)], []⟩,
            ⟨none, (some 23), .un .not (.t 22), []⟩])
          (.cond (.t 23)
           (.exit 1)
           .skip))
         (.seq
          (.reg [25] [
            ⟨none, (some 24), .mov (.t 1), []⟩,
            ⟨none, (some 25), .bin .geq (.t 24) (.c (.int .i64 0)), []⟩])
          (.cond (.t 25)
           (.reg [7] [
             ⟨none, (some 26), .mov (.t 8), []⟩,
             ⟨none, (some 27), .mov (.t 9), []⟩,
             ⟨none, (some 28), .adrI 3 none 12 1 (.t 27), []⟩,
             ⟨none, (some 29), .ldV 3 (some 28) 1 false, []⟩,
             ⟨none, (some 30), .mov (.t 1), []⟩,
             ⟨none, (some 31), .bin .shl (.t 29) (.t 30), []⟩,
             ⟨none, (some 32), .bin .and (.t 31) (.c (.int .u16 4095)), []⟩,
             ⟨none, (some 33), .adrI 7 none 12 1 (.t 26), []⟩,
             ⟨none, (some 7), .stV 7 (some 33) 1 (.t 32), []⟩])
           (.reg [7] [
             ⟨none, (some 34), .mov (.t 8), []⟩,
             ⟨none, (some 35), .mov (.t 9), []⟩,
             ⟨none, (some 36), .adrI 3 none 12 1 (.t 35), []⟩,
             ⟨none, (some 37), .ldV 3 (some 36) 1 false, []⟩,
             ⟨none, (some 38), .mov (.t 1), []⟩,
             ⟨none, (some 39), .un .neg (.t 38), []⟩,
             ⟨none, (some 40), .bin .shr (.t 37) (.t 39), []⟩,
             ⟨none, (some 41), .adrI 7 none 12 1 (.t 34), []⟩,
             ⟨none, (some 7), .stV 7 (some 41) 1 (.t 40), []⟩])))))))
     (.reg [15] [
       ⟨none, (some 42), .bin .add (.t 15) (.c (.int .i64 1)), []⟩,
       ⟨none, (some 15), .mov (.t 42), []⟩]))))
def k358 : Cd :=
  (.seq
   (.reg [3, 6] [
     ⟨none, (some 3), .mov (.t 0), []⟩,
     ⟨none, (some 6), .zero true (zs 12 (.int .u16 0)), []⟩])
   (.seq
    (.reg [7] [
      ⟨none, (some 10), .agg (zs 12 (.int .u16 0)) [], []⟩,
      ⟨none, (some 7), .zero true (zs 12 (.int .u16 0)), []⟩,
      ⟨none, (some 7), .stV 7 none 12 (.t 10), []⟩])
    (.seq
     (.seq
      (.reg [13] [
        ⟨none, (some 11), .mov (.t 1), []⟩,
        ⟨none, (some 12), .call true 295 [.t 11, .c (.int .i64 (-12)), .c (.int .i64 12)], []⟩,
        ⟨none, (some 13), .un .not (.t 12), []⟩])
      (.cond (.t 13)
       (.seq
        (.reg [6] [
          ⟨none, (some 14), .ldV 7 none 12 true, []⟩,
          ⟨none, (some 6), .stV 6 none 12 (.t 14), []⟩])
        .ret)
       .skip))
     (.seq
      (.seq
       (.reg [15] [
         ⟨none, (some 15), .mov (.c (.int .i64 0)), []⟩])
       (.block 0
        (.loop b358_1)))
      (.seq
       (.reg [6] [
         ⟨none, (some 43), .ldV 7 none 12 true, []⟩,
         ⟨none, (some 6), .stV 6 none 12 (.t 43), []⟩])
       .ret)))))
def c358 : Fn := { np := 3, nt := 44, kind := .pure, res := [.v 6 12 true], body := k358 }

/- spec.l01Ok -/
def b359_1 : Cd :=
  (.seq
   (.seq
    (.reg [5] [
      ⟨none, (some 4), .mov (.t 3), []⟩,
      ⟨none, (some 5), .bin .lss (.t 4) (.c (.int .i64 12)), []⟩])
    (.cond (.t 5)
     .skip
     (.exit 0)))
   (.seq
    (.block 1
     (.seq
      (.reg [13] [
        ⟨none, (some 8), .mov (.t 0), []⟩,
        ⟨none, (some 9), .mov (.t 3), []⟩,
        ⟨none, (some 10), .nil (.t 8), []⟩,
        ⟨none, (some 11), .idxP 12 1 (.t 10) (.t 9), []⟩,
        ⟨none, (some 12), .ld 1 false (.t 11), []⟩,
        ⟨none, (some 13), .bin .gtr (.t 12) (.c (.int .u16 4095)), []⟩])
      (.cond (.t 13)
       (.seq
        (.reg [2] [
          ⟨none, (some 2), .mov (.c (.bool false)), []⟩])
        .ret)
       .skip)))
    (.reg [3] [
      ⟨none, (some 6), .mov (.t 3), []⟩,
      ⟨none, (some 7), .bin .add (.t 6) (.c (.int .i64 1)), []⟩,
      ⟨none, (some 3), .mov (.t 7), []⟩])))
def k359 : Cd :=
  (.seq
   (.reg [2] [
     ⟨none, (some 2), .mov (.c (.bool false)), []⟩])
   (.seq
    (.seq
     (.reg [3] [
       ⟨none, (some 3), .mov (.c (.int .i64 0)), []⟩])
     (.block 0
      (.loop b359_1)))
    (.seq
     (.reg [2] [
       ⟨none, (some 2), .mov (.c (.bool true)), []⟩])
     .ret)))
def c359 : Fn := { np := 1, nt := 14, kind := .pure, res := [.t 2], body := k359 }

/- (impl.Book).isPage -/
def k365 : Cd :=
  (.seq
   (.reg [4] [
     ⟨none, (some 4), .mov (.c (.bool false)), []⟩])
   (.seq
    (.reg [4] [
      ⟨none, (some 5), .mov (.t 1), []⟩,
      ⟨none, (some 6), .mov (.t 0), []⟩,
      ⟨none, (some 7), .len (.t 6), []⟩,
      ⟨none, (some 8), .bin .sub (.t 7) (.c (.int .i64 1)), []⟩,
      ⟨none, (some 9), .call true 295 [.t 5, .c (.int .i64 0), .t 8], []⟩,
      ⟨none, (some 4), .mov (.t 9), []⟩])
    .ret))
def c365 : Fn := { np := 2, nt := 10, kind := .pure, res := [.t 4], body := k365 }

/- (impl.Frame).differ -/
def k367 : Cd :=
  (.seq
   (.reg [2, 3, 4] [
     ⟨none, (some 2), .mov (.t 0), []⟩,
     ⟨none, (some 3), .mov (.t 1), []⟩,
     ⟨none, (some 4), .zero true (zs 12 (.int .u16 0)), []⟩])
   (.seq
    (.reg [4] [
      ⟨none, (some 5), .ldV 2 none 12 true, []⟩,
      ⟨none, (some 6), .ldV 3 none 12 true, []⟩,
      ⟨none, (some 7), .call true 443 [.t 5, .t 6, .f 512], []⟩,
      ⟨none, (some 4), .stV 4 none 12 (.t 7), []⟩])
    .ret))
def c367 : Fn := { np := 2, nt := 8, kind := .pure, res := [.v 4 12 true], body := k367 }

/- spec.l06SameStep -/
def b381_1 : Cd :=
  (.seq
   (.seq
    (.reg [67] [
      ⟨none, (some 61), .mov (.t 5), []⟩,
      ⟨none, (some 62), .mov (.t 0), []⟩,
      ⟨none, (some 63), .nil (.t 62), []⟩,
      ⟨none, (some 64), .fldP 4 (.t 63), []⟩,
      ⟨none, (some 65), .ld 1 false (.t 64), []⟩,
      ⟨none, (some 66), .len (.t 65), []⟩,
      ⟨none, (some 67), .bin .lss (.t 61) (.t 66), []⟩])
    (.cond (.t 67)
     .skip
     (.exit 0)))
   (.seq
    (.block 1
     (.seq
      (.reg [84] [
        ⟨none, (some 70), .mov (.t 0), []⟩,
        ⟨none, (some 71), .nil (.t 70), []⟩,
        ⟨none, (some 72), .fldP 4 (.t 71), []⟩,
        ⟨none, (some 73), .ld 1 false (.t 72), []⟩,
        ⟨none, (some 74), .mov (.t 5), []⟩,
        ⟨none, (some 75), .idxA 2 (.t 73) (.t 74), []⟩,
        ⟨none, (some 76), .ld 2 true (.t 75), []⟩,
        ⟨none, (some 77), .mov (.t 1), []⟩,
        ⟨none, (some 78), .nil (.t 77), []⟩,
        ⟨none, (some 79), .fldP 4 (.t 78), []⟩,
        ⟨none, (some 80), .ld 1 false (.t 79), []⟩,
        ⟨none, (some 81), .mov (.t 5), []⟩,
        ⟨none, (some 82), .idxA 2 (.t 80) (.t 81), []⟩,
        ⟨none, (some 83), .ld 2 true (.t 82), []⟩,
        ⟨none, (some 84), .eq (.a (rb 1 (some .i8) ++ rb 1 (some .u16))) true (.t 76) (.t 83), []⟩])
      (.cond (.t 84)
       (.seq
        (.reg [4] [
          ⟨none, (some 4), .mov (.c (.bool false)), []⟩])
        .ret)
       .skip)))
    (.reg [5] [
      ⟨none, (some 68), .mov (.t 5), []⟩,
      ⟨none, (some 69), .bin .add (.t 68) (.c (.int .i64 1)), []⟩,
      ⟨none, (some 5), .mov (.t 69), []⟩])))
def k381 : Cd :=
  (.seq
   (.reg [4] [
     ⟨none, (some 4), .mov (.c (.bool false)), []⟩])
   (.seq
    (.seq
     (.reg [60] [
       ⟨none, (some 6), .mov (.t 0), []⟩,
       ⟨none, (some 7), .nil (.t 6), []⟩,
       ⟨none, (some 8), .fldP 0 (.t 7), []⟩,
       ⟨none, (some 9), .ld 1 false (.t 8), []⟩,
       ⟨none, (some 10), .mov (.t 1), []⟩,
       ⟨none, (some 11), .nil (.t 10), []⟩,
       ⟨none, (some 12), .fldP 0 (.t 11), []⟩,
       ⟨none, (some 13), .ld 1 false (.t 12), []⟩,
       ⟨none, (some 14), .bin .neq (.t 9) (.t 13), []⟩,
       ⟨none, (some 15), .mov (.t 14), []⟩,
       ⟨(some (15, false)), (some 16), .mov (.t 0), []⟩,
       ⟨(some (15, false)), (some 17), .nil (.t 16), []⟩,
       ⟨(some (15, false)), (some 18), .fldP 1 (.t 17), []⟩,
       ⟨(some (15, false)), (some 19), .ld 1 false (.t 18), []⟩,
       ⟨(some (15, false)), (some 20), .mov (.t 1), []⟩,
       ⟨(some (15, false)), (some 21), .nil (.t 20), []⟩,
       ⟨(some (15, false)), (some 22), .fldP 1 (.t 21), []⟩,
       ⟨(some (15, false)), (some 23), .ld 1 false (.t 22), []⟩,
       ⟨(some (15, false)), (some 24), .bin .neq (.t 19) (.t 23), []⟩,
       ⟨none, (some 25), .pick (.t 15) (.c (.bool true)) (.t 24), []⟩,
       ⟨none, (some 26), .mov (.t 25), []⟩,
       ⟨(some (26, false)), (some 27), .mov (.t 0), []⟩,
       ⟨(some (26, false)), (some 28), .nil (.t 27), []⟩,
       ⟨(some (26, false)), (some 29), .fldP 2 (.t 28), []⟩,
       ⟨(some (26, false)), (some 30), .ld 1 false (.t 29), []⟩,
       ⟨(some (26, false)), (some 31), .mov (.t 1), []⟩,
       ⟨(some (26, false)), (some 32), .nil (.t 31), []⟩,
       ⟨(some (26, false)), (some 33), .fldP 2 (.t 32), []⟩,
       ⟨(some (26, false)), (some 34), .ld 1 false (.t 33), []⟩,
       ⟨(some (26, false)), (some 35), .bin .neq (.t 30) (.t 34), []⟩,
       ⟨none, (some 36), .pick (.t 26) (.c (.bool true)) (.t 35), []⟩,
       ⟨none, (some 37), .mov (.t 36), []⟩,
       ⟨(some (37, false)), (some 38), .mov (.t 0), []⟩,
       ⟨(some (37, false)), (some 39), .nil (.t 38), []⟩,
       ⟨(some (37, false)), (some 40), .fldP 3 (.t 39), []⟩,
       ⟨(some (37, false)), (some 41), .ld 1 false (.t 40), []⟩,
       ⟨(some (37, false)), (some 42), .mov (.t 1), []⟩,
       ⟨(some (37, false)), (some 43), .nil (.t 42), []⟩,
       ⟨(some (37, false)), (some 44), .fldP 3 (.t 43), []⟩,
       ⟨(some (37, false)), (some 45), .ld 1 false (.t 44), []⟩,
       ⟨(some (37, false)), (some 46), .bin .neq (.t 41) (.t 45), []⟩,
       ⟨none, (some 47), .pick (.t 37) (.c (.bool true)) (.t 46), []⟩,
       ⟨none, (some 48), .mov (.t 47), []⟩,
       ⟨(some (48, false)), (some 49), .mov (.t 0), []⟩,
       ⟨(some (48, false)), (some 50), .nil (.t 49), []⟩,
       ⟨(some (48, false)), (some 51), .fldP 4 (.t 50), []⟩,
       ⟨(some (48, false)), (some 52), .ld 1 false (.t 51), []⟩,
       ⟨(some (48, false)), (some 53), .len (.t 52), []⟩,
       ⟨(some (48, false)), (some 54), .mov (.t 1), []⟩,
       ⟨(some (48, false)), (some 55), .nil (.t 54), []⟩,
       ⟨(some (48, false)), (some 56), .fldP 4 (.t 55), []⟩,
       ⟨(some (48, false)), (some 57), .ld 1 false (.t 56), []⟩,
       ⟨(some (48, false)), (some 58), .len (.t 57), []⟩,
       ⟨(some (48, false)), (some 59), .bin .neq (.t 53) (.t 58), []⟩,
       ⟨none, (some 60), .pick (.t 48) (.c (.bool true)) (.t 59), []⟩])
     (.cond (.t 60)
      (.seq
       (.reg [4] [
         ⟨none, (some 4), .mov (.c (.bool false)), []⟩])
       .ret)
      .skip))
    (.seq
     (.seq
      (.reg [5] [
        ⟨none, (some 5), .mov (.c (.int .i64 0)), []⟩])
      (.block 0
       (.loop b381_1)))
     (.seq
      (.reg [4] [
        ⟨none, (some 4), .mov (.c (.bool true)), []⟩])
      .ret))))
def c381 : Fn := { np := 2, nt := 85, kind := .pure, res := [.t 4], body := k381 }

/- spec.l06Ok -/
def b386_1 : Cd :=
  (.seq
   (.seq
    (.reg [7] [
      ⟨none, (some 4), .mov (.t 3), []⟩,
      ⟨none, (some 5), .mov (.t 0), []⟩,
      ⟨none, (some 6), .len (.t 5), []⟩,
      ⟨none, (some 7), .bin .lss (.t 4) (.t 6), []⟩])
    (.cond (.t 7)
     .skip
     (.exit 0)))
   (.seq
    (.block 1
     (.seq
      (.reg [15] [
        ⟨none, (some 10), .mov (.t 0), []⟩,
        ⟨none, (some 11), .mov (.t 3), []⟩,
        ⟨none, (some 12), .idxA 5 (.t 10) (.t 11), []⟩,
        ⟨none, (some 13), .mov (.t 3), []⟩,
        ⟨none, (some 14), .call true 524 [.t 12, .t 13], []⟩,
        ⟨none, (some 15), .un .not (.t 14), []⟩])
      (.cond (.t 15)
       (.seq
        (.reg [2] [
          ⟨none, (some 2), .mov (.c (.bool false)), []⟩])
        .ret)
       .skip)))
    (.reg [3] [
      ⟨none, (some 8), .mov (.t 3), []⟩,
      ⟨none, (some 9), .bin .add (.t 8) (.c (.int .i64 1)), []⟩,
      ⟨none, (some 3), .mov (.t 9), []⟩])))
def k386 : Cd :=
  (.seq
   (.reg [2] [
     ⟨none, (some 2), .mov (.c (.bool false)), []⟩])
   (.seq
    (.seq
     (.reg [3] [
       ⟨none, (some 3), .mov (.c (.int .i64 0)), []⟩])
     (.block 0
      (.loop b386_1)))
    (.seq
     (.reg [2] [
       ⟨none, (some 16), .mov (.t 0), []⟩,
       ⟨none, (some 17), .len (.t 16), []⟩,
       ⟨none, (some 18), .bin .leq (.t 17) (.c (.int .i64 40)), []⟩,
       ⟨none, (some 2), .mov (.t 18), []⟩])
     .ret)))
def c386 : Fn := { np := 1, nt := 19, kind := .pure, res := [.t 2], body := k386 }

/- impl.isStep -/
def b387_1 : Cd :=
  (.seq
   (.reg [13] [
     ⟨none, (some 13), .bin .lss (.t 12) (.t 11), []⟩])
   (.seq
    (.cond (.t 13)
     .skip
     (.exit 0))
    (.seq
     (.block 1
      (.seq
       (.reg [6, 5] [
         ⟨none, (some 14), .mov (.t 12), []⟩,
         ⟨none, (some 15), .idxA 2 (.t 10) (.t 12), []⟩,
         ⟨none, (some 16), .ld 2 true (.t 15), []⟩,
         ⟨none, (some 6), .zero true [.int .i8 0, .int .u16 0], []⟩,
         ⟨none, (some 5), .mov (.t 14), []⟩,
         ⟨none, (some 6), .stV 6 none 2 (.t 16), []⟩])
       (.seq
        (.reg [44] [
          ⟨none, (some 17), .adrF 6 none 0, []⟩,
          ⟨none, (some 18), .ldV 6 (some 17) 1 false, []⟩,
          ⟨none, (some 19), .conv .i64 (.t 18), []⟩,
          ⟨none, (some 20), .call true 295 [.t 19, .c (.int .i64 0), .c (.int .i64 11)], []⟩,
          ⟨none, (some 21), .un .not (.t 20), []⟩,
          ⟨none, (some 22), .mov (.t 21), []⟩,
          ⟨(some (22, false)), (some 23), .adrF 6 none 1, []⟩,
          ⟨(some (22, false)), (some 24), .ldV 6 (some 23) 1 false, []⟩,
          ⟨(some (22, false)), (some 25), .conv .i64 (.t 24), []⟩,
          ⟨(some (22, false)), (some 26), .call true 295 [.t 25, .c (.int .i64 1), .c (.int .i64 4095)], []⟩,
          ⟨(some (22, false)), (some 27), .un .not (.t 26), []⟩,
          ⟨none, (some 28), .pick (.t 22) (.c (.bool true)) (.t 27), []⟩,
          ⟨none, (some 29), .mov (.t 28), []⟩,
          ⟨(some (29, false)), (some 30), .mov (.t 5), []⟩,
          ⟨(some (29, false)), (some 31), .bin .gtr (.t 30) (.c (.int .i64 0)), []⟩,
          ⟨(some (29, false)), (some 32), .mov (.t 31), []⟩,
          ⟨(some (32, true)), (some 33), .adrF 2 none 4, []⟩,
          ⟨(some (32, true)), (some 34), .ldV 2 (some 33) 1 false, []⟩,
          ⟨(some (32, true)), (some 35), .mov (.t 5), []⟩,
          ⟨(some (32, true)), (some 36), .bin .sub (.t 35) (.c (.int .i64 1)), []⟩,
          ⟨(some (32, true)), (some 37), .idxA 2 (.t 34) (.t 36), []⟩,
          ⟨(some (32, true)), (some 38), .fldP 0 (.t 37), []⟩,
          ⟨(some (32, true)), (some 39), .ld 1 false (.t 38), []⟩,
          ⟨(some (32, true)), (some 40), .adrF 6 none 0, []⟩,
          ⟨(some (32, true)), (some 41), .ldV 6 (some 40) 1 false, []⟩,
          ⟨(some (32, true)), (some 42), .bin .geq (.t 39) (.t 41), []⟩,
          ⟨(some (29, false)), (some 43), .pick (.t 32) (.t 42) (.c (.bool false)), []⟩,
          ⟨none, (some 44), .pick (.t 29) (.c (.bool true)) (.t 43), []⟩])
        (.cond (.t 44)
         (.seq
          (.reg [4] [
            ⟨none, (some 4), .mov (.c (.bool false)), []⟩])
          .ret)
         .skip))))
     (.reg [12] [
       ⟨none, (some 45), .bin .add (.t 12) (.c (.int .i64 1)), []⟩,
       ⟨none, (some 12), .mov (.t 45), []⟩]))))
def k387 : Cd :=
  (.seq
   (.reg [2, 4] [
     ⟨none, (some 2), .mov (.t 0), []⟩,
     ⟨none, (some 4), .mov (.c (.bool false)), []⟩])
   (.seq
    (.seq
     (.reg [10, 11, 12] [
       ⟨none, (some 9), .adrF 2 none 4, []⟩,
       ⟨none, (some 10), .ldV 2 (some 9) 1 false, []⟩,
       ⟨none, (some 11), .len (.t 10), []⟩,
       ⟨none, (some 12), .mov (.c (.int .i64 0)), []⟩])
     (.block 0
      (.loop b387_1)))
    (.seq
     (.reg [7] [
       ⟨none, (some 46), .adrF 2 none 2, []⟩,
       ⟨none, (some 47), .ldV 2 (some 46) 1 false, []⟩,
       ⟨none, (some 48), .bin .eql (.t 47) (.c (.int .i8 0)), []⟩,
       ⟨none, (some 49), .mov (.t 48), []⟩,
       ⟨(some (49, true)), (some 50), .adrF 2 none 3, []⟩,
       ⟨(some (49, true)), (some 51), .ldV 2 (some 50) 1 false, []⟩,
       ⟨(some (49, true)), (some 52), .bin .eql (.t 51) (.c (.int .i8 0)), []⟩,
       ⟨none, (some 53), .pick (.t 49) (.t 52) (.c (.bool false)), []⟩,
       ⟨none, (some 7), .mov (.t 53), []⟩])
     (.seq
      (.reg [8] [
        ⟨none, (some 54), .adrF 2 none 1, []⟩,
        ⟨none, (some 55), .ldV 2 (some 54) 1 false, []⟩,
        ⟨none, (some 56), .conv .i64 (.t 55), []⟩,
        ⟨none, (some 57), .mov (.t 1), []⟩,
        ⟨none, (some 58), .bin .sub (.t 57) (.c (.int .i64 1)), []⟩,
        ⟨none, (some 59), .call true 295 [.t 56, .c (.int .i64 0), .t 58], []⟩,
        ⟨none, (some 8), .mov (.t 59), []⟩])
      (.seq
       (.seq
        (.reg [61] [
          ⟨none, (some 60), .adrF 2 none 0, []⟩,
          ⟨none, (some 61), .ldV 2 (some 60) 1 false, []⟩])
        (.block 2
         (.seq
          (.reg [62] [
            ⟨none, (some 63), .bin .eql (.t 61) (.c (.int .i8 0)), []⟩,
            ⟨none, (some 62), .mov (.t 63), []⟩])
          (.cond (.t 62)
           (.seq
            (.reg [4] [
              ⟨none, (some 64), .mov (.t 7), []⟩,
              ⟨none, (some 65), .mov (.t 64), []⟩,
              ⟨(some (65, true)), (some 66), .adrF 2 none 1, []⟩,
              ⟨(some (65, true)), (some 67), .ldV 2 (some 66) 1 false, []⟩,
              ⟨(some (65, true)), (some 68), .bin .eql (.t 67) (.c (.int .i8 0)), []⟩,
              ⟨none, (some 69), .pick (.t 65) (.t 68) (.c (.bool false)), []⟩,
              ⟨none, (some 4), .mov (.t 69), []⟩])
            .ret)
           (.seq
            (.reg [70] [
              ⟨none, (some 71), .bin .eql (.t 61) (.c (.int .i8 1)), []⟩,
              ⟨none, (some 70), .mov (.t 71), []⟩])
            (.cond (.t 70)
             (.seq
              (.reg [4] [
                ⟨none, (some 72), .mov (.t 7), []⟩,
                ⟨none, (some 73), .mov (.t 72), []⟩,
                ⟨(some (73, true)), (some 74), .mov (.t 8), []⟩,
                ⟨none, (some 75), .pick (.t 73) (.t 74) (.c (.bool false)), []⟩,
                ⟨none, (some 4), .mov (.t 75), []⟩])
              .ret)
             (.seq
              (.reg [76] [
                ⟨none, (some 77), .bin .eql (.t 61) (.c (.int .i8 2)), []⟩,
                ⟨none, (some 76), .mov (.t 77), []⟩])
              (.cond (.t 76)
               (.seq
                (.reg [4] [
                  ⟨none, (some 78), .mov (.t 7), []⟩,
                  ⟨none, (some 79), .un .not (.t 78), []⟩,
                  ⟨none, (some 80), .mov (.t 79), []⟩,
                  ⟨(some (80, true)), (some 81), .mov (.t 8), []⟩,
                  ⟨none, (some 82), .pick (.t 80) (.t 81) (.c (.bool false)), []⟩,
                  ⟨none, (some 83), .mov (.t 82), []⟩,
                  ⟨(some (83, true)), (some 84), .adrF 2 none 2, []⟩,
                  ⟨(some (83, true)), (some 85), .ldV 2 (some 84) 1 false, []⟩,
                  ⟨(some (83, true)), (some 86), .conv .i64 (.t 85), []⟩,
                  ⟨(some (83, true)), (some 87), .call true 295 [.t 86, .c (.int .i64 (-12)), .c (.int .i64 12)], []⟩,
                  ⟨none, (some 88), .pick (.t 83) (.t 87) (.c (.bool false)), []⟩,
                  ⟨none, (some 89), .mov (.t 88), []⟩,
                  ⟨(some (89, true)), (some 90), .adrF 2 none 3, []⟩,
                  ⟨(some (89, true)), (some 91), .ldV 2 (some 90) 1 false, []⟩,
                  ⟨(some (89, true)), (some 92), .conv .i64 (.t 91), []⟩,
                  ⟨(some (89, true)), (some 93), .call true 295 [.t 92, .c (.int .i64 (-12)), .c (.int .i64 12)], []⟩,
                  ⟨none, (some 94), .pick (.t 89) (.t 93) (.c (.bool false)), []⟩,
                  ⟨none, (some 4), .mov (.t 94), []⟩])
                .ret)
               .skip))))))))
       (.seq
        (.reg [4] [
          ⟨none, (some 4), .mov (.c (.bool false)), []⟩])
        .ret))))))
def c387 : Fn := { np := 2, nt := 95, kind := .pure, res := [.t 4], body := k387 }

/- spec.l06Between -/
def b388_1 : Cd :=
  (.seq
   (.seq
    (.reg [27] [
      ⟨none, (some 26), .mov (.t 9), []⟩,
      ⟨none, (some 27), .bin .leq (.t 26) (.c (.int .i64 12)), []⟩])
    (.cond (.t 27)
     .skip
     (.exit 2)))
   (.seq
    (.block 3
     (.seq
      (.seq
       (.reg [35] [
         ⟨none, (some 30), .mov (.t 8), []⟩,
         ⟨none, (some 31), .bin .eql (.t 30) (.c (.int .i64 0)), []⟩,
         ⟨none, (some 32), .mov (.t 31), []⟩,
         ⟨(some (32, true)), (some 33), .mov (.t 9), []⟩,
         ⟨(some (32, true)), (some 34), .bin .eql (.t 33) (.c (.int .i64 0)), []⟩,
         ⟨none, (some 35), .pick (.t 32) (.t 34) (.c (.bool false)), []⟩])
       (.cond (.t 35)
        (.exit 3)
        .skip))
      (.seq
       (.reg [10] [
         ⟨none, (some 36), .mov (.t 0), []⟩,
         ⟨none, (some 37), .mov (.t 8), []⟩,
         ⟨none, (some 38), .mov (.t 9), []⟩,
         ⟨none, (some 39), .call true 526 [.t 36, .t 37, .t 38], []⟩,
         ⟨none, (some 10), .new 1 (zs 12 (.int .u16 0)), []⟩,
         ⟨none, none, .st 12 (.t 10) (.t 39), []⟩])
       (.seq
        (.reg [11] [
          ⟨none, (some 40), .mov (.t 1), []⟩,
          ⟨none, (some 41), .call true 525 [.t 10, .t 40], []⟩,
          ⟨none, (some 11), .mov (.t 41), []⟩])
        (.seq
         (.reg [47] [
           ⟨none, (some 42), .mov (.t 11), []⟩,
           ⟨none, (some 43), .len (.t 42), []⟩,
           ⟨none, (some 44), .bin .mul (.c (.int .i64 3)) (.t 43), []⟩,
           ⟨none, (some 45), .bin .add (.c (.int .i64 4)) (.t 44), []⟩,
           ⟨none, (some 46), .call true 310 [.t 7], []⟩,
           ⟨none, (some 47), .bin .lss (.t 45) (.t 46), []⟩])
         (.cond (.t 47)
          (.reg [] [
            ⟨none, (some 48), .mov (.t 2), []⟩,
            ⟨none, (some 49), .conv .i8 (.t 48), []⟩,
            ⟨none, (some 50), .mov (.t 8), []⟩,
            ⟨none, (some 51), .conv .i8 (.t 50), []⟩,
            ⟨none, (some 52), .mov (.t 9), []⟩,
            ⟨none, (some 53), .conv .i8 (.t 52), []⟩,
            ⟨none, (some 54), .mov (.t 11), []⟩,
            ⟨none, (some 55), .agg [.int .i8 0, .int .i8 0, .int .i8 0, .int .i8 0, .slice none 0 0] [(0, 1, (.c (.int .i8 2))), (1, 1, (.t 49)), (2, 1, (.t 51)), (3, 1, (.t 53)), (4, 1, (.t 54))], []⟩,
            ⟨none, none, .st 5 (.t 7) (.t 55), []⟩])
          .skip))))))
    (.reg [9] [
      ⟨none, (some 28), .mov (.t 9), []⟩,
      ⟨none, (some 29), .bin .add (.t 28) (.c (.int .i64 1)), []⟩,
      ⟨none, (some 9), .mov (.t 29), []⟩])))
def b388_2 : Cd :=
  (.seq
   (.seq
    (.reg [23] [
      ⟨none, (some 18), .mov (.t 8), []⟩,
      ⟨none, (some 19), .bin .leq (.t 18) (.c (.int .i64 12)), []⟩,
      ⟨none, (some 20), .mov (.t 19), []⟩,
      ⟨(some (20, true)), (some 21), .call true 310 [.t 7], []⟩,
      ⟨(some (20, true)), (some 22), .bin .gtr (.t 21) (.c (.int .i64 4)), []⟩,
      ⟨none, (some 23), .pick (.t 20) (.t 22) (.c (.bool false)), []⟩])
    (.cond (.t 23)
     .skip
     (.exit 0)))
   (.seq
    (.block 1
     (.seq
      (.reg [9] [
        ⟨none, (some 9), .mov (.c (.int .i64 (-12))), []⟩])
      (.block 2
       (.loop b388_1))))
    (.reg [8] [
      ⟨none, (some 24), .mov (.t 8), []⟩,
      ⟨none, (some 25), .bin .add (.t 24) (.c (.int .i64 1)), []⟩,
      ⟨none, (some 8), .mov (.t 25), []⟩])))
def k388 : Cd :=
  (.seq
   (.reg [6] [
     ⟨none, (some 6), .zero true [.int .i8 0, .int .i8 0, .int .i8 0, .int .i8 0, .slice none 0 0], []⟩])
   (.seq
    (.reg [7] [
      ⟨none, (some 12), .mov (.t 2), []⟩,
      ⟨none, (some 13), .conv .i8 (.t 12), []⟩,
      ⟨none, (some 14), .mov (.t 0), []⟩,
      ⟨none, (some 15), .mov (.t 1), []⟩,
      ⟨none, (some 16), .call true 525 [.t 14, .t 15], []⟩,
      ⟨none, (some 17), .agg [.int .i8 0, .int .i8 0, .int .i8 0, .int .i8 0, .slice none 0 0] [(0, 1, (.c (.int .i8 1))), (1, 1, (.t 13)), (4, 1, (.t 16))], []⟩,
      ⟨none, (some 7), .new 1 [.int .i8 0, .int .i8 0, .int .i8 0, .int .i8 0, .slice none 0 0], []⟩,
      ⟨none, none, .st 5 (.t 7) (.t 17), []⟩])
    (.seq
     (.seq
      (.reg [8] [
        ⟨none, (some 8), .mov (.c (.int .i64 (-12))), []⟩])
      (.block 0
       (.loop b388_2)))
     (.seq
      (.reg [6] [
        ⟨none, (some 56), .ld 5 true (.t 7), []⟩,
        ⟨none, (some 6), .stV 6 none 5 (.t 56), []⟩])
      .ret))))
def c388 : Fn := { np := 3, nt := 57, kind := .pure, res := [.v 6 5 true], body := k388 }

/- impl.stepBetween -/
def b389_1 : Cd :=
  (.seq
   (.seq
    (.reg [22] [
      ⟨none, (some 21), .mov (.t 9), []⟩,
      ⟨none, (some 22), .bin .leq (.t 21) (.c (.int .i64 12)), []⟩])
    (.cond (.t 22)
     .skip
     (.exit 2)))
   (.seq
    (.block 3
     (.seq
      (.seq
       (.reg [30] [
         ⟨none, (some 25), .mov (.t 8), []⟩,
         ⟨none, (some 26), .bin .eql (.t 25) (.c (.int .i64 0)), []⟩,
         ⟨none, (some 27), .mov (.t 26), []⟩,
         ⟨(some (27, true)), (some 28), .mov (.t 9), []⟩,
         ⟨(some (27, true)), (some 29), .bin .eql (.t 28) (.c (.int .i64 0)), []⟩,
         ⟨none, (some 30), .pick (.t 27) (.t 29) (.c (.bool false)), []⟩])
       (.cond (.t 30)
        (.exit 3)
        .skip))
      (.seq
       (.reg [10] [
         ⟨none, (some 31), .ldV 3 none 12 true, []⟩,
         ⟨none, (some 32), .mov (.t 8), []⟩,
         ⟨none, (some 33), .mov (.t 9), []⟩,
         ⟨none, (some 34), .call true 358 [.t 31, .t 32, .t 33], []⟩,
         ⟨none, (some 10), .zero true (zs 12 (.int .u16 0)), []⟩,
         ⟨none, (some 10), .stV 10 none 12 (.t 34), []⟩])
       (.seq
        (.reg [42] [
          ⟨none, (some 35), .ldV 10 none 12 true, []⟩,
          ⟨none, (some 36), .ldV 4 none 12 true, []⟩,
          ⟨none, (some 40), .ldV 7 none 5 true, []⟩,
          ⟨none, (some 37), .call true 528 [.t 35, .t 36], []⟩,
          ⟨none, (some 38), .bin .mul (.c (.int .i64 3)) (.t 37), []⟩,
          ⟨none, (some 39), .bin .add (.t 38) (.c (.int .i64 4)), []⟩,
          ⟨none, (some 41), .call true 312 [.t 40], []⟩,
          ⟨none, (some 42), .bin .lss (.t 39) (.t 41), []⟩])
        (.cond (.t 42)
         (.reg [7] [
           ⟨none, (some 43), .mov (.t 2), []⟩,
           ⟨none, (some 44), .conv .i8 (.t 43), []⟩,
           ⟨none, (some 45), .mov (.t 8), []⟩,
           ⟨none, (some 46), .conv .i8 (.t 45), []⟩,
           ⟨none, (some 47), .mov (.t 9), []⟩,
           ⟨none, (some 48), .conv .i8 (.t 47), []⟩,
           ⟨none, (some 49), .agg [.int .i8 0, .int .i8 0, .int .i8 0, .int .i8 0, .slice none 0 0] [(0, 1, (.c (.int .i8 2))), (1, 1, (.t 44)), (2, 1, (.t 46)), (3, 1, (.t 48))], []⟩,
           ⟨none, (some 50), .ldV 10 none 12 true, []⟩,
           ⟨none, (some 51), .ldV 4 none 12 true, []⟩,
           ⟨none, (some 52), .call true 527 [.t 49, .t 50, .t 51], []⟩,
           ⟨none, (some 7), .stV 7 none 5 (.t 52), []⟩])
         .skip)))))
    (.reg [9] [
      ⟨none, (some 23), .mov (.t 9), []⟩,
      ⟨none, (some 24), .bin .add (.t 23) (.c (.int .i64 1)), []⟩,
      ⟨none, (some 9), .mov (.t 24), []⟩])))
def b389_2 : Cd :=
  (.seq
   (.seq
    (.reg [18] [
      ⟨none, (some 17), .mov (.t 8), []⟩,
      ⟨none, (some 18), .bin .leq (.t 17) (.c (.int .i64 12)), []⟩])
    (.cond (.t 18)
     .skip
     (.exit 0)))
   (.seq
    (.block 1
     (.seq
      (.reg [9] [
        ⟨none, (some 9), .mov (.c (.int .i64 (-12))), []⟩])
      (.block 2
       (.loop b389_1))))
    (.reg [8] [
      ⟨none, (some 19), .mov (.t 8), []⟩,
      ⟨none, (some 20), .bin .add (.t 19) (.c (.int .i64 1)), []⟩,
      ⟨none, (some 8), .mov (.t 20), []⟩])))
def k389 : Cd :=
  (.seq
   (.reg [3, 4, 6] [
     ⟨none, (some 3), .mov (.t 0), []⟩,
     ⟨none, (some 4), .mov (.t 1), []⟩,
     ⟨none, (some 6), .zero true [.int .i8 0, .int .i8 0, .int .i8 0, .int .i8 0, .slice none 0 0], []⟩])
   (.seq
    (.reg [7] [
      ⟨none, (some 11), .mov (.t 2), []⟩,
      ⟨none, (some 12), .conv .i8 (.t 11), []⟩,
      ⟨none, (some 13), .agg [.int .i8 0, .int .i8 0, .int .i8 0, .int .i8 0, .slice none 0 0] [(0, 1, (.c (.int .i8 1))), (1, 1, (.t 12))], []⟩,
      ⟨none, (some 14), .ldV 3 none 12 true, []⟩,
      ⟨none, (some 15), .ldV 4 none 12 true, []⟩,
      ⟨none, (some 16), .call true 527 [.t 13, .t 14, .t 15], []⟩,
      ⟨none, (some 7), .zero true [.int .i8 0, .int .i8 0, .int .i8 0, .int .i8 0, .slice none 0 0], []⟩,
      ⟨none, (some 7), .stV 7 none 5 (.t 16), []⟩])
    (.seq
     (.seq
      (.reg [8] [
        ⟨none, (some 8), .mov (.c (.int .i64 (-12))), []⟩])
      (.block 0
       (.loop b389_2)))
     (.seq
      (.reg [6] [
        ⟨none, (some 53), .ldV 7 none 5 true, []⟩,
        ⟨none, (some 6), .stV 6 none 5 (.t 53), []⟩])
      .ret))))
def c389 : Fn := { np := 3, nt := 54, kind := .pure, res := [.v 6 5 true], body := k389 }

/- spec.l06Sum -/
def b396_1 : Cd :=
  (.seq
   (.seq
    (.reg [8] [
      ⟨none, (some 5), .mov (.t 4), []⟩,
      ⟨none, (some 6), .mov (.t 0), []⟩,
      ⟨none, (some 7), .len (.t 6), []⟩,
      ⟨none, (some 8), .bin .lss (.t 5) (.t 7), []⟩])
    (.cond (.t 8)
     .skip
     (.exit 0)))
   (.seq
    (.block 1
     (.reg [3] [
       ⟨none, (some 11), .mov (.t 3), []⟩,
       ⟨none, (some 12), .mov (.t 0), []⟩,
       ⟨none, (some 13), .mov (.t 4), []⟩,
       ⟨none, (some 14), .idxA 5 (.t 12) (.t 13), []⟩,
       ⟨none, (some 15), .call true 310 [.t 14], []⟩,
       ⟨none, (some 16), .bin .add (.t 11) (.t 15), []⟩,
       ⟨none, (some 3), .mov (.t 16), []⟩]))
    (.reg [4] [
      ⟨none, (some 9), .mov (.t 4), []⟩,
      ⟨none, (some 10), .bin .add (.t 9) (.c (.int .i64 1)), []⟩,
      ⟨none, (some 4), .mov (.t 10), []⟩])))
def k396 : Cd :=
  (.seq
   (.reg [2] [
     ⟨none, (some 2), .mov (.c (.int .i64 0)), []⟩])
   (.seq
    (.reg [3] [
      ⟨none, (some 3), .mov (.c (.int .i64 0)), []⟩])
    (.seq
     (.seq
      (.reg [4] [
        ⟨none, (some 4), .mov (.c (.int .i64 0)), []⟩])
      (.block 0
       (.loop b396_1)))
     (.seq
      (.reg [2] [
        ⟨none, (some 17), .mov (.t 3), []⟩,
        ⟨none, (some 2), .mov (.t 17), []⟩])
      .ret))))
def c396 : Fn := { np := 1, nt := 18, kind := .pure, res := [.t 2], body := k396 }

/- impl.stepsCost -/
def b397_1 : Cd :=
  (.seq
   (.reg [9] [
     ⟨none, (some 9), .bin .lss (.t 8) (.t 7), []⟩])
   (.seq
    (.cond (.t 9)
     .skip
     (.exit 0))
    (.seq
     (.block 1
      (.seq
       (.reg [5] [
         ⟨none, (some 10), .idxA 5 (.t 6) (.t 8), []⟩,
         ⟨none, (some 11), .ld 5 true (.t 10), []⟩,
         ⟨none, (some 5), .zero true [.int .i8 0, .int .i8 0, .int .i8 0, .int .i8 0, .slice none 0 0], []⟩,
         ⟨none, (some 5), .stV 5 none 5 (.t 11), []⟩])
       (.reg [3] [
         ⟨none, (some 12), .mov (.t 3), []⟩,
         ⟨none, (some 13), .ldV 5 none 5 true, []⟩,
         ⟨none, (some 14), .call true 312 [.t 13], []⟩,
         ⟨none, (some 15), .bin .add (.t 12) (.t 14), []⟩,
         ⟨none, (some 3), .mov (.t 15), []⟩])))
     (.reg [8] [
       ⟨none, (some 16), .bin .add (.t 8) (.c (.int .i64 1)), []⟩,
       ⟨none, (some 8), .mov (.t 16), []⟩]))))
def k397 : Cd :=
  (.seq
   (.reg [2] [
     ⟨none, (some 2), .mov (.c (.int .i64 0)), []⟩])
   (.seq
    (.reg [3] [
      ⟨none, (some 3), .mov (.c (.int .i64 0)), []⟩])
    (.seq
     (.seq
      (.reg [6, 7, 8] [
        ⟨none, (some 6), .mov (.t 0), []⟩,
        ⟨none, (some 7), .len (.t 6), []⟩,
        ⟨none, (some 8), .mov (.c (.int .i64 0)), []⟩])
      (.block 0
       (.loop b397_1)))
     (.seq
      (.reg [2] [
        ⟨none, (some 17), .mov (.t 3), []⟩,
        ⟨none, (some 2), .mov (.t 17), []⟩])
      .ret))))
def c397 : Fn := { np := 1, nt := 18, kind := .pure, res := [.t 2], body := k397 }

/- (impl.Step).depth -/
def k400 : Cd :=
  (.seq
   (.reg [2, 4] [
     ⟨none, (some 2), .mov (.t 0), []⟩,
     ⟨none, (some 4), .mov (.c (.int .i64 0)), []⟩])
   (.seq
    (.seq
     (.reg [7] [
       ⟨none, (some 5), .adrF 2 none 0, []⟩,
       ⟨none, (some 6), .ldV 2 (some 5) 1 false, []⟩,
       ⟨none, (some 7), .bin .eql (.t 6) (.c (.int .i8 0)), []⟩])
     (.cond (.t 7)
      (.seq
       (.reg [4] [
         ⟨none, (some 4), .mov (.c (.int .i64 0)), []⟩])
       .ret)
      .skip))
    (.seq
     (.reg [4] [
       ⟨none, (some 8), .mov (.t 1), []⟩,
       ⟨none, (some 9), .adrF 2 none 1, []⟩,
       ⟨none, (some 10), .ldV 2 (some 9) 1 false, []⟩,
       ⟨none, (some 11), .idxA 1 (.t 8) (.t 10), []⟩,
       ⟨none, (some 12), .ld 1 false (.t 11), []⟩,
       ⟨none, (some 13), .bin .add (.t 12) (.c (.int .i64 1)), []⟩,
       ⟨none, (some 4), .mov (.t 13), []⟩])
     .ret)))
def c400 : Fn := { np := 2, nt := 14, kind := .pure, res := [.t 4], body := k400 }

/- spec.l06Best -/
def b404_1 : Cd :=
  (.seq
   (.seq
    (.reg [21] [
      ⟨none, (some 19), .mov (.t 11), []⟩,
      ⟨none, (some 20), .mov (.t 1), []⟩,
      ⟨none, (some 21), .bin .lss (.t 19) (.t 20), []⟩])
    (.cond (.t 21)
     .skip
     (.exit 0)))
   (.seq
    (.block 1
     (.seq
      (.seq
       (.reg [29] [
         ⟨none, (some 24), .mov (.t 2), []⟩,
         ⟨none, (some 25), .mov (.t 11), []⟩,
         ⟨none, (some 26), .idxA 1 (.t 24) (.t 25), []⟩,
         ⟨none, (some 27), .ld 1 false (.t 26), []⟩,
         ⟨none, (some 28), .mov (.t 3), []⟩,
         ⟨none, (some 29), .bin .geq (.t 27) (.t 28), []⟩])
       (.cond (.t 29)
        (.exit 1)
        .skip))
      (.seq
       (.reg [12] [
         ⟨none, (some 30), .mov (.t 0), []⟩,
         ⟨none, (some 31), .mov (.t 11), []⟩,
         ⟨none, (some 32), .idxA 12 (.t 30) (.t 31), []⟩,
         ⟨none, (some 33), .mov (.t 0), []⟩,
         ⟨none, (some 34), .mov (.t 1), []⟩,
         ⟨none, (some 35), .idxA 12 (.t 33) (.t 34), []⟩,
         ⟨none, (some 36), .mov (.t 11), []⟩,
         ⟨none, (some 12), .new 1 [.int .i8 0, .int .i8 0, .int .i8 0, .int .i8 0, .slice none 0 0], []⟩,
         ⟨none, (some 37), .call true 388 [.t 32, .t 35, .t 36], []⟩,
         ⟨none, none, .st 5 (.t 12) (.t 37), []⟩])
       (.seq
        (.reg [40] [
          ⟨none, (some 38), .call true 310 [.t 12], []⟩,
          ⟨none, (some 39), .call true 310 [.t 10], []⟩,
          ⟨none, (some 40), .bin .lss (.t 38) (.t 39), []⟩])
        (.cond (.t 40)
         (.reg [] [
           ⟨none, (some 41), .ld 5 true (.t 12), []⟩,
           ⟨none, none, .st 5 (.t 10) (.t 41), []⟩])
         .skip)))))
    (.reg [11] [
      ⟨none, (some 22), .mov (.t 11), []⟩,
      ⟨none, (some 23), .bin .add (.t 22) (.c (.int .i64 1)), []⟩,
      ⟨none, (some 11), .mov (.t 23), []⟩])))
def k404 : Cd :=
  (.seq
   (.reg [8] [
     ⟨none, (some 8), .zero true [.int .i8 0, .int .i8 0, .int .i8 0, .int .i8 0, .slice none 0 0], []⟩])
   (.seq
    (.reg [9] [
      ⟨none, (some 13), .agg (zs 12 (.int .u16 0)) [], []⟩,
      ⟨none, (some 9), .new 1 (zs 12 (.int .u16 0)), []⟩,
      ⟨none, none, .st 12 (.t 9) (.t 13), []⟩])
    (.seq
     (.reg [10] [
       ⟨none, (some 14), .mov (.t 0), []⟩,
       ⟨none, (some 15), .mov (.t 1), []⟩,
       ⟨none, (some 16), .idxA 12 (.t 14) (.t 15), []⟩,
       ⟨none, (some 17), .call true 525 [.t 9, .t 16], []⟩,
       ⟨none, (some 18), .agg [.int .i8 0, .int .i8 0, .int .i8 0, .int .i8 0, .slice none 0 0] [(0, 1, (.c (.int .i8 0))), (4, 1, (.t 17))], []⟩,
       ⟨none, (some 10), .new 1 [.int .i8 0, .int .i8 0, .int .i8 0, .int .i8 0, .slice none 0 0], []⟩,
       ⟨none, none, .st 5 (.t 10) (.t 18), []⟩])
     (.seq
      (.seq
       (.reg [11] [
         ⟨none, (some 11), .mov (.c (.int .i64 0)), []⟩])
       (.block 0
        (.loop b404_1)))
      (.seq
       (.reg [8] [
         ⟨none, (some 42), .ld 5 true (.t 10), []⟩,
         ⟨none, (some 8), .stV 8 none 5 (.t 42), []⟩])
       .ret)))))
def c404 : Fn := { np := 4, nt := 43, kind := .pure, res := [.v 8 5 true], body := k404 }

/- impl.checkPage -/
def k405 : Cd :=
  (.seq
   (.reg [4] [
     ⟨none, (some 4), .mov (.c (.int .i64 0)), []⟩])
   (.seq
    (.block 0
     (.seq
      (.reg [5] [
        ⟨none, (some 6), .mov (.t 0), []⟩,
        ⟨none, (some 7), .call true 316 [.t 6], []⟩,
        ⟨none, (some 8), .un .not (.t 7), []⟩,
        ⟨none, (some 5), .mov (.t 8), []⟩])
      (.cond (.t 5)
       (.seq
        (.reg [4] [
          ⟨none, (some 4), .mov (.c (.int .i64 1)), []⟩])
        .ret)
       (.seq
        (.reg [9] [
          ⟨none, (some 10), .mov (.t 0), []⟩,
          ⟨none, (some 11), .mov (.t 1), []⟩,
          ⟨none, (some 12), .call true 365 [.t 10, .t 11], []⟩,
          ⟨none, (some 13), .un .not (.t 12), []⟩,
          ⟨none, (some 9), .mov (.t 13), []⟩])
        (.cond (.t 9)
         (.seq
          (.reg [4] [
            ⟨none, (some 4), .mov (.c (.int .i64 2)), []⟩])
          .ret)
         .skip)))))
    (.seq
     (.reg [4] [
       ⟨none, (some 4), .mov (.c (.int .i64 0)), []⟩])
     .ret)))
def c405 : Fn := { np := 2, nt := 14, kind := .pure, res := [.t 4], body := k405 }

/- (impl.Book).bestStep -/
def b406_1 : Cd :=
  (.seq
   (.reg [19] [
     ⟨none, (some 19), .bin .lss (.t 18) (.t 17), []⟩])
   (.seq
    (.cond (.t 19)
     .skip
     (.exit 0))
    (.seq
     (.block 1
      (.seq
       (.reg [8] [
         ⟨none, (some 20), .mov (.t 18), []⟩,
         ⟨none, (some 8), .mov (.t 20), []⟩])
       (.seq
        (.seq
         (.reg [24] [
           ⟨none, (some 21), .mov (.t 2), []⟩,
           ⟨none, (some 22), .mov (.t 8), []⟩,
           ⟨none, (some 23), .callv (.t 21) [.t 22], []⟩,
           ⟨none, (some 24), .un .not (.t 23), []⟩])
         (.cond (.t 24)
          (.exit 1)
          .skip))
        (.seq
         (.reg [9] [
           ⟨none, (some 25), .mov (.t 0), []⟩,
           ⟨none, (some 26), .mov (.t 8), []⟩,
           ⟨none, (some 27), .idxA 12 (.t 25) (.t 26), []⟩,
           ⟨none, (some 28), .ld 12 true (.t 27), []⟩,
           ⟨none, (some 29), .mov (.t 0), []⟩,
           ⟨none, (some 30), .mov (.t 1), []⟩,
           ⟨none, (some 31), .idxA 12 (.t 29) (.t 30), []⟩,
           ⟨none, (some 32), .ld 12 true (.t 31), []⟩,
           ⟨none, (some 33), .mov (.t 8), []⟩,
           ⟨none, (some 9), .zero true [.int .i8 0, .int .i8 0, .int .i8 0, .int .i8 0, .slice none 0 0], []⟩,
           ⟨none, (some 34), .call true 389 [.t 28, .t 32, .t 33], []⟩,
           ⟨none, (some 9), .stV 9 none 5 (.t 34), []⟩])
         (.seq
          (.reg [39] [
            ⟨none, (some 35), .ldV 9 none 5 true, []⟩,
            ⟨none, (some 37), .ldV 7 none 5 true, []⟩,
            ⟨none, (some 36), .call true 312 [.t 35], []⟩,
            ⟨none, (some 38), .call true 312 [.t 37], []⟩,
            ⟨none, (some 39), .bin .lss (.t 36) (.t 38), []⟩])
          (.cond (.t 39)
           (.reg [7] [
             ⟨none, (some 40), .ldV 9 none 5 true, []⟩,
             ⟨none, (some 7), .stV 7 none 5 (.t 40), []⟩])
           .skip))))))
     (.reg [18] [
       ⟨none, (some 41), .bin .add (.t 18) (.c (.int .i64 1)), []⟩,
       ⟨none, (some 18), .mov (.t 41), []⟩]))))
def k406 : Cd :=
  (.seq
   (.reg [6] [
     ⟨none, (some 6), .zero true [.int .i8 0, .int .i8 0, .int .i8 0, .int .i8 0, .slice none 0 0], []⟩])
   (.seq
    (.reg [7] [
      ⟨none, (some 10), .agg [.int .i8 0, .int .i8 0, .int .i8 0, .int .i8 0, .slice none 0 0] [(0, 1, (.c (.int .i8 0)))], []⟩,
      ⟨none, (some 11), .agg (zs 12 (.int .u16 0)) [], []⟩,
      ⟨none, (some 12), .mov (.t 0), []⟩,
      ⟨none, (some 13), .mov (.t 1), []⟩,
      ⟨none, (some 14), .idxA 12 (.t 12) (.t 13), []⟩,
      ⟨none, (some 15), .ld 12 true (.t 14), []⟩,
      ⟨none, (some 16), .call true 527 [.t 10, .t 11, .t 15], []⟩,
      ⟨none, (some 7), .zero true [.int .i8 0, .int .i8 0, .int .i8 0, .int .i8 0, .slice none 0 0], []⟩,
      ⟨none, (some 7), .stV 7 none 5 (.t 16), []⟩])
    (.seq
     (.seq
      (.reg [17, 18] [
        ⟨none, (some 17), .mov (.t 1), []⟩,
        ⟨none, (some 18), .mov (.c (.int .i64 0)), []⟩])
      (.block 0
       (.loop b406_1)))
     (.seq
      (.reg [6] [
        ⟨none, (some 42), .ldV 7 none 5 true, []⟩,
        ⟨none, (some 6), .stV 6 none 5 (.t 42), []⟩])
      .ret))))
def c406 : Fn := { np := 3, nt := 43, kind := .pure, res := [.v 6 5 true], body := k406 }

/- impl.anyPage -/
def k407 : Cd :=
  (.seq
   (.reg [2] [
     ⟨none, (some 2), .mov (.c (.bool false)), []⟩])
   (.seq
    (.reg [2] [
      ⟨none, (some 2), .mov (.c (.bool true)), []⟩])
    .ret))
def c407 : Fn := { np := 1, nt := 3, kind := .pure, res := [.t 2], body := k407 }

/- spec.l06Book -/
def b418_1 : Cd :=
  (.seq
   (.seq
    (.reg [46] [
      ⟨none, (some 42), .mov (.t 7), []⟩,
      ⟨none, (some 43), .adrF 5 none 4, []⟩,
      ⟨none, (some 44), .ldV 5 (some 43) 1 false, []⟩,
      ⟨none, (some 45), .len (.t 44), []⟩,
      ⟨none, (some 46), .bin .lss (.t 42) (.t 45), []⟩])
    (.cond (.t 46)
     .skip
     (.exit 3)))
   (.seq
    (.block 4
     (.reg [6] [
       ⟨none, (some 49), .adrF 5 none 4, []⟩,
       ⟨none, (some 50), .ldV 5 (some 49) 1 false, []⟩,
       ⟨none, (some 51), .mov (.t 7), []⟩,
       ⟨none, (some 52), .idxA 2 (.t 50) (.t 51), []⟩,
       ⟨none, (some 53), .fldP 0 (.t 52), []⟩,
       ⟨none, (some 54), .ld 1 false (.t 53), []⟩,
       ⟨none, (some 55), .adrI 6 none 12 1 (.t 54), []⟩,
       ⟨none, (some 56), .ldV 6 (some 55) 1 false, []⟩,
       ⟨none, (some 57), .adrF 5 none 4, []⟩,
       ⟨none, (some 58), .ldV 5 (some 57) 1 false, []⟩,
       ⟨none, (some 59), .mov (.t 7), []⟩,
       ⟨none, (some 60), .idxA 2 (.t 58) (.t 59), []⟩,
       ⟨none, (some 61), .fldP 1 (.t 60), []⟩,
       ⟨none, (some 62), .ld 1 false (.t 61), []⟩,
       ⟨none, (some 63), .bin .xor (.t 56) (.t 62), []⟩,
       ⟨none, (some 64), .adrI 6 none 12 1 (.t 54), []⟩,
       ⟨none, (some 6), .stV 6 (some 64) 1 (.t 63), []⟩]))
    (.reg [7] [
      ⟨none, (some 47), .mov (.t 7), []⟩,
      ⟨none, (some 48), .bin .add (.t 47) (.c (.int .i64 1)), []⟩,
      ⟨none, (some 7), .mov (.t 48), []⟩])))
def b418_2 : Cd :=
  (.seq
   (.seq
    (.reg [12] [
      ⟨none, (some 9), .mov (.t 4), []⟩,
      ⟨none, (some 10), .mov (.t 0), []⟩,
      ⟨none, (some 11), .len (.t 10), []⟩,
      ⟨none, (some 12), .bin .lss (.t 9) (.t 11), []⟩])
    (.cond (.t 12)
     .skip
     (.exit 0)))
   (.seq
    (.block 1
     (.seq
      (.reg [5] [
        ⟨none, (some 15), .mov (.t 0), []⟩,
        ⟨none, (some 16), .mov (.t 4), []⟩,
        ⟨none, (some 17), .idxA 5 (.t 15) (.t 16), []⟩,
        ⟨none, (some 18), .ld 5 true (.t 17), []⟩,
        ⟨none, (some 5), .zero true [.int .i8 0, .int .i8 0, .int .i8 0, .int .i8 0, .slice none 0 0], []⟩,
        ⟨none, (some 5), .stV 5 none 5 (.t 18), []⟩])
      (.seq
       (.reg [6] [
         ⟨none, (some 19), .agg (zs 12 (.int .u16 0)) [], []⟩,
         ⟨none, (some 6), .zero true (zs 12 (.int .u16 0)), []⟩,
         ⟨none, (some 6), .stV 6 none 12 (.t 19), []⟩])
       (.seq
        (.seq
         (.reg [21] [
           ⟨none, (some 20), .adrF 5 none 0, []⟩,
           ⟨none, (some 21), .ldV 5 (some 20) 1 false, []⟩])
         (.block 2
          (.seq
           (.reg [22] [
             ⟨none, (some 23), .bin .eql (.t 21) (.c (.int .i8 1)), []⟩,
             ⟨none, (some 22), .mov (.t 23), []⟩])
           (.cond (.t 22)
            (.reg [6] [
              ⟨none, (some 24), .mov (.t 3), []⟩,
              ⟨none, (some 25), .adrF 5 none 1, []⟩,
              ⟨none, (some 26), .ldV 5 (some 25) 1 false, []⟩,
              ⟨none, (some 27), .idxA 12 (.t 24) (.t 26), []⟩,
              ⟨none, (some 28), .ld 12 true (.t 27), []⟩,
              ⟨none, (some 6), .stV 6 none 12 (.t 28), []⟩])
            (.seq
             (.reg [29] [
               ⟨none, (some 30), .bin .eql (.t 21) (.c (.int .i8 2)), []⟩,
               ⟨none, (some 29), .mov (.t 30), []⟩])
             (.cond (.t 29)
              (.reg [6] [
                ⟨none, (some 31), .mov (.t 3), []⟩,
                ⟨none, (some 32), .adrF 5 none 1, []⟩,
                ⟨none, (some 33), .ldV 5 (some 32) 1 false, []⟩,
                ⟨none, (some 34), .idxA 12 (.t 31) (.t 33), []⟩,
                ⟨none, (some 35), .adrF 5 none 2, []⟩,
                ⟨none, (some 36), .ldV 5 (some 35) 1 false, []⟩,
                ⟨none, (some 37), .conv .i64 (.t 36), []⟩,
                ⟨none, (some 38), .adrF 5 none 3, []⟩,
                ⟨none, (some 39), .ldV 5 (some 38) 1 false, []⟩,
                ⟨none, (some 40), .conv .i64 (.t 39), []⟩,
                ⟨none, (some 41), .call true 355 [.t 34, .t 37, .t 40], []⟩,
                ⟨none, (some 6), .stV 6 none 12 (.t 41), []⟩])
              .skip))))))
        (.seq
         (.seq
          (.reg [7] [
            ⟨none, (some 7), .mov (.c (.int .i64 0)), []⟩])
          (.block 3
           (.loop b418_1)))
         (.reg [3] [
           ⟨none, (some 65), .mov (.t 3), []⟩,
           ⟨none, (some 66), .ldV 6 none 12 true, []⟩,
           ⟨none, (some 67), .bldS 12 1 (zs 12 (.int .u16 0)) [(0, 12, (.t 66))], []⟩,
           ⟨none, (some 68), .app 12 24 (.t 65) (.t 67), []⟩,
           ⟨none, (some 3), .mov (.t 68), []⟩]))))))
    (.reg [4] [
      ⟨none, (some 13), .mov (.t 4), []⟩,
      ⟨none, (some 14), .bin .add (.t 13) (.c (.int .i64 1)), []⟩,
      ⟨none, (some 4), .mov (.t 14), []⟩])))
def k418 : Cd :=
  (.seq
   (.reg [2] [
     ⟨none, (some 2), .mov (.c (.slice none 0 0)), []⟩])
   (.seq
    (.reg [3] [
      ⟨none, (some 8), .bldS 12 0 (zs 12 (.int .u16 0)) [], []⟩,
      ⟨none, (some 3), .mov (.t 8), []⟩])
    (.seq
     (.seq
      (.reg [4] [
        ⟨none, (some 4), .mov (.c (.int .i64 0)), []⟩])
      (.block 0
       (.loop b418_2)))
     (.seq
      (.reg [2] [
        ⟨none, (some 69), .mov (.t 3), []⟩,
        ⟨none, (some 2), .mov (.t 69), []⟩])
      .ret))))
def c418 : Fn := { np := 1, nt := 70, kind := .pure, res := [.t 2], body := k418 }

/- impl.decode -/
def b419_1 : Cd :=
  (.seq
   (.reg [36] [
     ⟨none, (some 36), .bin .lss (.t 35) (.t 34), []⟩])
   (.seq
    (.cond (.t 36)
     .skip
     (.exit 2))
    (.seq
     (.block 3
      (.seq
       (.reg [8] [
         ⟨none, (some 37), .idxA 2 (.t 33) (.t 35), []⟩,
         ⟨none, (some 38), .ld 2 true (.t 37), []⟩,
         ⟨none, (some 8), .zero true [.int .i8 0, .int .u16 0], []⟩,
         ⟨none, (some 8), .stV 8 none 2 (.t 38), []⟩])
       (.reg [6] [
         ⟨none, (some 39), .adrF 8 none 0, []⟩,
         ⟨none, (some 40), .ldV 8 (some 39) 1 false, []⟩,
         ⟨none, (some 41), .adrI 6 none 12 1 (.t 40), []⟩,
         ⟨none, (some 42), .ldV 6 (some 41) 1 false, []⟩,
         ⟨none, (some 43), .adrF 8 none 1, []⟩,
         ⟨none, (some 44), .ldV 8 (some 43) 1 false, []⟩,
         ⟨none, (some 45), .bin .xor (.t 42) (.t 44), []⟩,
         ⟨none, (some 46), .adrI 6 none 12 1 (.t 40), []⟩,
         ⟨none, (some 6), .stV 6 (some 46) 1 (.t 45), []⟩])))
     (.reg [35] [
       ⟨none, (some 47), .bin .add (.t 35) (.c (.int .i64 1)), []⟩,
       ⟨none, (some 35), .mov (.t 47), []⟩]))))
def b419_2 : Cd :=
  (.seq
   (.reg [13] [
     ⟨none, (some 13), .bin .lss (.t 12) (.t 11), []⟩])
   (.seq
    (.cond (.t 13)
     .skip
     (.exit 0))
    (.seq
     (.block 1
      (.seq
       (.reg [5] [
         ⟨none, (some 14), .idxA 5 (.t 10) (.t 12), []⟩,
         ⟨none, (some 15), .ld 5 true (.t 14), []⟩,
         ⟨none, (some 5), .zero true [.int .i8 0, .int .i8 0, .int .i8 0, .int .i8 0, .slice none 0 0], []⟩,
         ⟨none, (some 5), .stV 5 none 5 (.t 15), []⟩])
       (.seq
        (.reg [6] [
          ⟨none, (some 16), .agg (zs 12 (.int .u16 0)) [], []⟩,
          ⟨none, (some 6), .zero true (zs 12 (.int .u16 0)), []⟩,
          ⟨none, (some 6), .stV 6 none 12 (.t 16), []⟩])
        (.seq
         (.seq
          (.reg [19] [
            ⟨none, (some 17), .adrF 5 none 0, []⟩,
            ⟨none, (some 18), .ldV 5 (some 17) 1 false, []⟩,
            ⟨none, (some 19), .bin .neq (.t 18) (.c (.int .i8 0)), []⟩])
          (.cond (.t 19)
           (.reg [6] [
             ⟨none, (some 20), .mov (.t 3), []⟩,
             ⟨none, (some 21), .adrF 5 none 1, []⟩,
             ⟨none, (some 22), .ldV 5 (some 21) 1 false, []⟩,
             ⟨none, (some 23), .idxA 12 (.t 20) (.t 22), []⟩,
             ⟨none, (some 24), .ld 12 true (.t 23), []⟩,
             ⟨none, (some 25), .adrF 5 none 2, []⟩,
             ⟨none, (some 26), .ldV 5 (some 25) 1 false, []⟩,
             ⟨none, (some 27), .conv .i64 (.t 26), []⟩,
             ⟨none, (some 28), .adrF 5 none 3, []⟩,
             ⟨none, (some 29), .ldV 5 (some 28) 1 false, []⟩,
             ⟨none, (some 30), .conv .i64 (.t 29), []⟩,
             ⟨none, (some 31), .call true 358 [.t 24, .t 27, .t 30], []⟩,
             ⟨none, (some 6), .stV 6 none 12 (.t 31), []⟩])
           .skip))
         (.seq
          (.seq
           (.reg [33, 34, 35] [
             ⟨none, (some 32), .adrF 5 none 4, []⟩,
             ⟨none, (some 33), .ldV 5 (some 32) 1 false, []⟩,
             ⟨none, (some 34), .len (.t 33), []⟩,
             ⟨none, (some 35), .mov (.c (.int .i64 0)), []⟩])
           (.block 2
            (.loop b419_1)))
          (.reg [3] [
            ⟨none, (some 48), .mov (.t 3), []⟩,
            ⟨none, (some 49), .ldV 6 none 12 true, []⟩,
            ⟨none, (some 50), .bldS 12 1 (zs 12 (.int .u16 0)) [(0, 12, (.t 49))], []⟩,
            ⟨none, (some 51), .app 12 24 (.t 48) (.t 50), []⟩,
            ⟨none, (some 3), .mov (.t 51), []⟩]))))))
     (.reg [12] [
       ⟨none, (some 52), .bin .add (.t 12) (.c (.int .i64 1)), []⟩,
       ⟨none, (some 12), .mov (.t 52), []⟩]))))
def k419 : Cd :=
  (.seq
   (.reg [2] [
     ⟨none, (some 2), .mov (.c (.slice none 0 0)), []⟩])
   (.seq
    (.reg [3] [
      ⟨none, (some 9), .bldS 12 0 (zs 12 (.int .u16 0)) [], []⟩,
      ⟨none, (some 3), .mov (.t 9), []⟩])
    (.seq
     (.seq
      (.reg [10, 11, 12] [
        ⟨none, (some 10), .mov (.t 0), []⟩,
        ⟨none, (some 11), .len (.t 10), []⟩,
        ⟨none, (some 12), .mov (.c (.int .i64 0)), []⟩])
      (.block 0
       (.loop b419_2)))
     (.seq
      (.reg [2] [
        ⟨none, (some 53), .mov (.t 3), []⟩,
        ⟨none, (some 2), .mov (.t 53), []⟩])
      .ret))))
def c419 : Fn := { np := 1, nt := 54, kind := .pure, res := [.t 2], body := k419 }

/- spec.l06Encoded -/
def b430_1 : Cd :=
  (.seq
   (.seq
    (.reg [15] [
      ⟨none, (some 12), .mov (.t 7), []⟩,
      ⟨none, (some 13), .mov (.t 0), []⟩,
      ⟨none, (some 14), .len (.t 13), []⟩,
      ⟨none, (some 15), .bin .lss (.t 12) (.t 14), []⟩])
    (.cond (.t 15)
     .skip
     (.exit 0)))
   (.seq
    (.block 1
     (.seq
      (.reg [8] [
        ⟨none, (some 18), .mov (.t 0), []⟩,
        ⟨none, (some 19), .mov (.t 7), []⟩,
        ⟨none, (some 20), .mov (.t 6), []⟩,
        ⟨none, (some 21), .mov (.t 1), []⟩,
        ⟨none, (some 22), .call true 404 [.t 18, .t 19, .t 20, .t 21], []⟩,
        ⟨none, (some 8), .zero true [.int .i8 0, .int .i8 0, .int .i8 0, .int .i8 0, .slice none 0 0], []⟩,
        ⟨none, (some 8), .stV 8 none 5 (.t 22), []⟩])
      (.seq
       (.reg [9] [
         ⟨none, (some 9), .mov (.c (.int .i64 0)), []⟩])
       (.seq
        (.seq
         (.reg [25] [
           ⟨none, (some 23), .adrF 8 none 0, []⟩,
           ⟨none, (some 24), .ldV 8 (some 23) 1 false, []⟩,
           ⟨none, (some 25), .bin .neq (.t 24) (.c (.int .i8 0)), []⟩])
         (.cond (.t 25)
          (.reg [9] [
            ⟨none, (some 26), .mov (.t 6), []⟩,
            ⟨none, (some 27), .adrF 8 none 1, []⟩,
            ⟨none, (some 28), .ldV 8 (some 27) 1 false, []⟩,
            ⟨none, (some 29), .idxA 1 (.t 26) (.t 28), []⟩,
            ⟨none, (some 30), .ld 1 false (.t 29), []⟩,
            ⟨none, (some 31), .bin .add (.t 30) (.c (.int .i64 1)), []⟩,
            ⟨none, (some 9), .mov (.t 31), []⟩])
          .skip))
        (.seq
         (.reg [5] [
           ⟨none, (some 32), .mov (.t 5), []⟩,
           ⟨none, (some 33), .ldV 8 none 5 true, []⟩,
           ⟨none, (some 34), .bldS 5 1 [.int .i8 0, .int .i8 0, .int .i8 0, .int .i8 0, .slice none 0 0] [(0, 5, (.t 33))], []⟩,
           ⟨none, (some 35), .app 5 32 (.t 32) (.t 34), []⟩,
           ⟨none, (some 5), .mov (.t 35), []⟩])
         (.reg [6] [
           ⟨none, (some 36), .mov (.t 6), []⟩,
           ⟨none, (some 37), .mov (.t 9), []⟩,
           ⟨none, (some 38), .bldS 1 1 [.int .i64 0] [(0, 1, (.t 37))], []⟩,
           ⟨none, (some 39), .app 1 8 (.t 36) (.t 38), []⟩,
           ⟨none, (some 6), .mov (.t 39), []⟩]))))))
    (.reg [7] [
      ⟨none, (some 16), .mov (.t 7), []⟩,
      ⟨none, (some 17), .bin .add (.t 16) (.c (.int .i64 1)), []⟩,
      ⟨none, (some 7), .mov (.t 17), []⟩])))
def k430 : Cd :=
  (.seq
   (.reg [4] [
     ⟨none, (some 4), .mov (.c (.slice none 0 0)), []⟩])
   (.seq
    (.reg [5] [
      ⟨none, (some 10), .bldS 5 0 [.int .i8 0, .int .i8 0, .int .i8 0, .int .i8 0, .slice none 0 0] [], []⟩,
      ⟨none, (some 5), .mov (.t 10), []⟩])
    (.seq
     (.reg [6] [
       ⟨none, (some 11), .bldS 1 0 [.int .i64 0] [], []⟩,
       ⟨none, (some 6), .mov (.t 11), []⟩])
     (.seq
      (.seq
       (.reg [7] [
         ⟨none, (some 7), .mov (.c (.int .i64 0)), []⟩])
       (.block 0
        (.loop b430_1)))
      (.seq
       (.reg [4] [
         ⟨none, (some 40), .mov (.t 5), []⟩,
         ⟨none, (some 4), .mov (.t 40), []⟩])
       .ret)))))
def c430 : Fn := { np := 2, nt := 41, kind := .pure, res := [.t 4], body := k430 }

/- impl.EncodeWithin$1 -/
def k431 : Cd :=
  (.seq
   (.reg [4] [
     ⟨none, (some 4), .mov (.c (.bool false)), []⟩])
   (.seq
    (.reg [4] [
      ⟨none, (some 5), .ld 1 false (.t 1), []⟩,
      ⟨none, (some 6), .mov (.t 0), []⟩,
      ⟨none, (some 7), .idxA 1 (.t 5) (.t 6), []⟩,
      ⟨none, (some 8), .ld 1 false (.t 7), []⟩,
      ⟨none, (some 9), .ld 1 false (.t 2), []⟩,
      ⟨none, (some 10), .bin .lss (.t 8) (.t 9), []⟩,
      ⟨none, (some 4), .mov (.t 10), []⟩])
    .ret))
def c431 : Fn := { np := 3, nt := 11, kind := .pure, res := [.t 4], body := k431 }

/- spec.l01Dots -/
def b440_1 : Cd :=
  (.seq
   (.seq
    (.reg [12] [
      ⟨none, (some 11), .mov (.t 5), []⟩,
      ⟨none, (some 12), .bin .lss (.t 11) (.c (.int .i64 12)), []⟩])
    (.cond (.t 12)
     .skip
     (.exit 2)))
   (.seq
    (.block 3
     (.seq
      (.reg [18] [
        ⟨none, (some 15), .mov (.t 0), []⟩,
        ⟨none, (some 16), .mov (.t 5), []⟩,
        ⟨none, (some 17), .mov (.t 4), []⟩,
        ⟨none, (some 18), .call true 456 [.t 15, .t 16, .t 17], []⟩])
      (.cond (.t 18)
       (.reg [3] [
         ⟨none, (some 19), .mov (.t 3), []⟩,
         ⟨none, (some 20), .mov (.t 5), []⟩,
         ⟨none, (some 21), .conv .i8 (.t 20), []⟩,
         ⟨none, (some 22), .mov (.t 4), []⟩,
         ⟨none, (some 23), .conv .i8 (.t 22), []⟩,
         ⟨none, (some 24), .agg [.int .i8 0, .int .i8 0] [(0, 1, (.t 21)), (1, 1, (.t 23))], []⟩,
         ⟨none, (some 25), .bldS 2 1 [.int .i8 0, .int .i8 0] [(0, 2, (.t 24))], []⟩,
         ⟨none, (some 26), .app 2 2 (.t 19) (.t 25), []⟩,
         ⟨none, (some 3), .mov (.t 26), []⟩])
       .skip)))
    (.reg [5] [
      ⟨none, (some 13), .mov (.t 5), []⟩,
      ⟨none, (some 14), .bin .add (.t 13) (.c (.int .i64 1)), []⟩,
      ⟨none, (some 5), .mov (.t 14), []⟩])))
def b440_2 : Cd :=
  (.seq
   (.seq
    (.reg [8] [
      ⟨none, (some 7), .mov (.t 4), []⟩,
      ⟨none, (some 8), .bin .lss (.t 7) (.c (.int .i64 12)), []⟩])
    (.cond (.t 8)
     .skip
     (.exit 0)))
   (.seq
    (.block 1
     (.seq
      (.reg [5] [
        ⟨none, (some 5), .mov (.c (.int .i64 0)), []⟩])
      (.block 2
       (.loop b440_1))))
    (.reg [4] [
      ⟨none, (some 9), .mov (.t 4), []⟩,
      ⟨none, (some 10), .bin .add (.t 9) (.c (.int .i64 1)), []⟩,
      ⟨none, (some 4), .mov (.t 10), []⟩])))
def k440 : Cd :=
  (.seq
   (.reg [2] [
     ⟨none, (some 2), .mov (.c (.slice none 0 0)), []⟩])
   (.seq
    (.reg [3] [
      ⟨none, (some 6), .bldS 2 0 [.int .i8 0, .int .i8 0] [], []⟩,
      ⟨none, (some 3), .mov (.t 6), []⟩])
    (.seq
     (.seq
      (.reg [4] [
        ⟨none, (some 4), .mov (.c (.int .i64 0)), []⟩])
      (.block 0
       (.loop b440_2)))
     (.seq
      (.reg [2] [
        ⟨none, (some 27), .mov (.t 3), []⟩,
        ⟨none, (some 2), .mov (.t 27), []⟩])
      .ret))))
def c440 : Fn := { np := 1, nt := 28, kind := .pure, res := [.t 2], body := k440 }

/- (impl.Frame).mix -/
def b443_1 : Cd :=
  (.seq
   (.reg [11] [
     ⟨none, (some 11), .bin .lss (.t 10) (.c (.int .i64 12)), []⟩])
   (.seq
    (.cond (.t 11)
     .skip
     (.exit 0))
    (.seq
     (.block 1
      (.seq
       (.reg [7, 8] [
         ⟨none, (some 12), .mov (.t 10), []⟩,
         ⟨none, (some 13), .idx 12 1 false (.t 9) (.t 10), []⟩,
         ⟨none, (some 7), .mov (.t 12), []⟩,
         ⟨none, (some 8), .mov (.t 13), []⟩])
       (.reg [3] [
         ⟨none, (some 14), .mov (.t 7), []⟩,
         ⟨none, (some 15), .mov (.t 2), []⟩,
         ⟨none, (some 16), .mov (.t 8), []⟩,
         ⟨none, (some 17), .mov (.t 7), []⟩,
         ⟨none, (some 18), .adrI 4 none 12 1 (.t 17), []⟩,
         ⟨none, (some 19), .ldV 4 (some 18) 1 false, []⟩,
         ⟨none, (some 20), .callv (.t 15) [.t 16, .t 19], []⟩,
         ⟨none, (some 21), .adrI 3 none 12 1 (.t 14), []⟩,
         ⟨none, (some 3), .stV 3 (some 21) 1 (.t 20), []⟩])))
     (.reg [10] [
       ⟨none, (some 22), .bin .add (.t 10) (.c (.int .i64 1)), []⟩,
       ⟨none, (some 10), .mov (.t 22), []⟩]))))
def k443 : Cd :=
  (.seq
   (.reg [3, 4, 6] [
     ⟨none, (some 3), .mov (.t 0), []⟩,
     ⟨none, (some 4), .mov (.t 1), []⟩,
     ⟨none, (some 6), .zero true (zs 12 (.int .u16 0)), []⟩])
   (.seq
    (.seq
     (.reg [9, 10] [
       ⟨none, (some 9), .ldV 3 none 12 true, []⟩,
       ⟨none, (some 10), .mov (.c (.int .i64 0)), []⟩])
     (.block 0
      (.loop b443_1)))
    (.seq
     (.reg [6] [
       ⟨none, (some 23), .ldV 3 none 12 true, []⟩,
       ⟨none, (some 6), .stV 6 none 12 (.t 23), []⟩])
     .ret)))
def c443 : Fn := { np := 3, nt := 24, kind := .pure, res := [.v 6 12 true], body := k443 }

/- slices.ContainsFunc[[]uint16,uint16] -/
def k445 : Cd :=
  (.seq
   (.reg [4] [
     ⟨none, (some 4), .mov (.c (.bool false)), []⟩])
   (.seq
    (.reg [4] [
      ⟨none, (some 5), .mov (.t 0), []⟩,
      ⟨none, (some 6), .mov (.t 1), []⟩,
      ⟨none, (some 7), .call true 547 [.t 5, .t 6], []⟩,
      ⟨none, (some 8), .bin .geq (.t 7) (.c (.int .i64 0)), []⟩,
      ⟨none, (some 4), .mov (.t 8), []⟩])
    .ret))
def c445 : Fn := { np := 2, nt := 9, kind := .pure, res := [.t 4], body := k445 }

/- impl.ValidFrame$1 -/
def k446 : Cd :=
  (.seq
   (.reg [2] [
     ⟨none, (some 2), .mov (.c (.bool false)), []⟩])
   (.seq
    (.reg [2] [
      ⟨none, (some 3), .mov (.t 0), []⟩,
      ⟨none, (some 4), .bin .gtr (.t 3) (.c (.int .u16 4095)), []⟩,
      ⟨none, (some 2), .mov (.t 4), []⟩])
    .ret))
def c446 : Fn := { np := 1, nt := 5, kind := .pure, res := [.t 2], body := k446 }

/- spec.l01Has -/
def k456 : Cd :=
  (.seq
   (.reg [6] [
     ⟨none, (some 6), .mov (.c (.bool false)), []⟩])
   (.seq
    (.reg [6] [
      ⟨none, (some 7), .mov (.t 1), []⟩,
      ⟨none, (some 8), .mov (.t 2), []⟩,
      ⟨none, (some 9), .call true 342 [.t 7, .t 8], []⟩,
      ⟨none, (some 10), .mov (.t 9), []⟩,
      ⟨(some (10, true)), (some 11), .mov (.t 0), []⟩,
      ⟨(some (10, true)), (some 12), .mov (.t 2), []⟩,
      ⟨(some (10, true)), (some 13), .nil (.t 11), []⟩,
      ⟨(some (10, true)), (some 14), .idxP 12 1 (.t 13) (.t 12), []⟩,
      ⟨(some (10, true)), (some 15), .ld 1 false (.t 14), []⟩,
      ⟨(some (10, true)), (some 16), .mov (.t 1), []⟩,
      ⟨(some (10, true)), (some 17), .conv .u64 (.t 16), []⟩,
      ⟨(some (10, true)), (some 18), .bin .shr (.t 15) (.t 17), []⟩,
      ⟨(some (10, true)), (some 19), .bin .rem (.t 18) (.c (.int .u16 2)), []⟩,
      ⟨(some (10, true)), (some 20), .bin .eql (.t 19) (.c (.int .u16 1)), []⟩,
      ⟨none, (some 21), .pick (.t 10) (.t 20) (.c (.bool false)), []⟩,
      ⟨none, (some 6), .mov (.t 21), []⟩])
    .ret))
def c456 : Fn := { np := 3, nt := 22, kind := .pure, res := [.t 6], body := k456 }

/- (*spec.l00Src).pick -/
def k459 : Cd :=
  (.seq
   (.reg [4] [
     ⟨none, (some 4), .mov (.c (.int .i64 0)), []⟩])
   (.seq
    (.seq
     (.reg [7] [
       ⟨none, (some 6), .mov (.t 1), []⟩,
       ⟨none, (some 7), .bin .leq (.t 6) (.c (.int .i64 1)), []⟩])
     (.cond (.t 7)
      (.seq
       (.reg [4] [
         ⟨none, (some 4), .mov (.c (.int .i64 0)), []⟩])
       .ret)
      .skip))
    (.seq
     (.reg [5] [
       ⟨none, (some 8), .mov (.t 0), []⟩,
       ⟨none, (some 9), .call false 550 [.t 8], []⟩,
       ⟨none, (some 5), .mov (.t 9), []⟩])
     (.seq
      (.seq
       (.reg [11] [
         ⟨none, (some 10), .mov (.t 1), []⟩,
         ⟨none, (some 11), .bin .gtr (.t 10) (.c (.int .i64 200)), []⟩])
       (.cond (.t 11)
        (.reg [5] [
          ⟨none, (some 12), .mov (.t 5), []⟩,
          ⟨none, (some 13), .bin .mul (.t 12) (.c (.int .i64 256)), []⟩,
          ⟨none, (some 14), .mov (.t 0), []⟩,
          ⟨none, (some 15), .call false 550 [.t 14], []⟩,
          ⟨none, (some 16), .bin .add (.t 13) (.t 15), []⟩,
          ⟨none, (some 5), .mov (.t 16), []⟩])
        .skip))
      (.seq
       (.reg [4] [
         ⟨none, (some 17), .mov (.t 5), []⟩,
         ⟨none, (some 18), .mov (.t 1), []⟩,
         ⟨none, (some 19), .bin .rem (.t 17) (.t 18), []⟩,
         ⟨none, (some 4), .mov (.t 19), []⟩])
       .ret)))))
def c459 : Fn := { np := 2, nt := 20, kind := .args, res := [.t 4], body := k459 }

/- spec.l06Drawn -/
def b469_1 : Cd :=
  (.seq
   (.seq
    (.reg [45] [
      ⟨none, (some 44), .mov (.t 6), []⟩,
      ⟨none, (some 45), .bin .lss (.t 44) (.c (.int .i8 4)), []⟩])
    (.cond (.t 45)
     .skip
     (.exit 2)))
   (.seq
    (.block 3
     (.seq
      (.reg [49] [
        ⟨none, (some 48), .mov (.t 0), []⟩,
        ⟨none, (some 49), .call false 513 [.t 48, .c (.int .i64 3)], []⟩])
      (.cond (.t 49)
       (.reg [5] [
         ⟨none, (some 50), .adrF 5 none 4, []⟩,
         ⟨none, (some 51), .ldV 5 (some 50) 1 false, []⟩,
         ⟨none, (some 52), .mov (.t 6), []⟩,
         ⟨none, (some 53), .mov (.t 0), []⟩,
         ⟨none, (some 54), .call false 459 [.t 53, .c (.int .i64 63)], []⟩,
         ⟨none, (some 55), .bin .add (.c (.int .i64 1)) (.t 54), []⟩,
         ⟨none, (some 56), .conv .u16 (.t 55), []⟩,
         ⟨none, (some 57), .agg [.int .i8 0, .int .u16 0] [(0, 1, (.t 52)), (1, 1, (.t 56))], []⟩,
         ⟨none, (some 58), .bldS 2 1 [.int .i8 0, .int .u16 0] [(0, 2, (.t 57))], []⟩,
         ⟨none, (some 59), .app 2 4 (.t 51) (.t 58), []⟩,
         ⟨none, (some 60), .adrF 5 none 4, []⟩,
         ⟨none, (some 5), .stV 5 (some 60) 1 (.t 59), []⟩])
       .skip)))
    (.reg [6] [
      ⟨none, (some 46), .mov (.t 6), []⟩,
      ⟨none, (some 47), .bin .add (.t 46) (.c (.int .i8 1)), []⟩,
      ⟨none, (some 6), .mov (.t 47), []⟩])))
def b469_2 : Cd :=
  (.seq
   (.seq
    (.reg [11] [
      ⟨none, (some 10), .mov (.t 4), []⟩,
      ⟨none, (some 11), .bin .gtr (.t 10) (.c (.int .i64 0)), []⟩])
    (.cond (.t 11)
     .skip
     (.exit 0)))
   (.seq
    (.block 1
     (.seq
      (.reg [5] [
        ⟨none, (some 14), .mov (.t 0), []⟩,
        ⟨none, (some 15), .call false 459 [.t 14, .c (.int .i64 3)], []⟩,
        ⟨none, (some 16), .conv .i8 (.t 15), []⟩,
        ⟨none, (some 17), .agg [.int .i8 0, .int .i8 0, .int .i8 0, .int .i8 0, .slice none 0 0] [(0, 1, (.t 16))], []⟩,
        ⟨none, (some 5), .zero true [.int .i8 0, .int .i8 0, .int .i8 0, .int .i8 0, .slice none 0 0], []⟩,
        ⟨none, (some 5), .stV 5 none 5 (.t 17), []⟩])
      (.seq
       (.seq
        (.reg [20] [
          ⟨none, (some 18), .mov (.t 3), []⟩,
          ⟨none, (some 19), .len (.t 18), []⟩,
          ⟨none, (some 20), .bin .eql (.t 19) (.c (.int .i64 0)), []⟩])
        (.cond (.t 20)
         (.reg [5] [
           ⟨none, (some 21), .adrF 5 none 0, []⟩,
           ⟨none, (some 5), .stV 5 (some 21) 1 (.c (.int .i8 0)), []⟩])
         .skip))
       (.seq
        (.seq
         (.reg [24] [
           ⟨none, (some 22), .adrF 5 none 0, []⟩,
           ⟨none, (some 23), .ldV 5 (some 22) 1 false, []⟩,
           ⟨none, (some 24), .bin .neq (.t 23) (.c (.int .i8 0)), []⟩])
         (.cond (.t 24)
          (.reg [5] [
            ⟨none, (some 25), .mov (.t 0), []⟩,
            ⟨none, (some 26), .mov (.t 3), []⟩,
            ⟨none, (some 27), .len (.t 26), []⟩,
            ⟨none, (some 28), .call false 459 [.t 25, .t 27], []⟩,
            ⟨none, (some 29), .conv .i8 (.t 28), []⟩,
            ⟨none, (some 30), .adrF 5 none 1, []⟩,
            ⟨none, (some 5), .stV 5 (some 30) 1 (.t 29), []⟩])
          .skip))
        (.seq
         (.seq
          (.reg [33] [
            ⟨none, (some 31), .adrF 5 none 0, []⟩,
            ⟨none, (some 32), .ldV 5 (some 31) 1 false, []⟩,
            ⟨none, (some 33), .bin .eql (.t 32) (.c (.int .i8 2)), []⟩])
          (.cond (.t 33)
           (.seq
            (.reg [5] [
              ⟨none, (some 34), .mov (.t 0), []⟩,
              ⟨none, (some 35), .call false 459 [.t 34, .c (.int .i64 7)], []⟩,
              ⟨none, (some 36), .bin .sub (.t 35) (.c (.int .i64 3)), []⟩,
              ⟨none, (some 37), .conv .i8 (.t 36), []⟩,
              ⟨none, (some 38), .adrF 5 none 2, []⟩,
              ⟨none, (some 5), .stV 5 (some 38) 1 (.t 37), []⟩])
            (.reg [5] [
              ⟨none, (some 39), .mov (.t 0), []⟩,
              ⟨none, (some 40), .call false 459 [.t 39, .c (.int .i64 3)], []⟩,
              ⟨none, (some 41), .bin .add (.c (.int .i64 1)) (.t 40), []⟩,
              ⟨none, (some 42), .conv .i8 (.t 41), []⟩,
              ⟨none, (some 43), .adrF 5 none 3, []⟩,
              ⟨none, (some 5), .stV 5 (some 43) 1 (.t 42), []⟩]))
           .skip))
         (.seq
          (.seq
           (.reg [6] [
             ⟨none, (some 6), .mov (.c (.int .i8 0)), []⟩])
           (.block 2
            (.loop b469_1)))
          (.reg [3] [
            ⟨none, (some 61), .mov (.t 3), []⟩,
            ⟨none, (some 62), .ldV 5 none 5 true, []⟩,
            ⟨none, (some 63), .bldS 5 1 [.int .i8 0, .int .i8 0, .int .i8 0, .int .i8 0, .slice none 0 0] [(0, 5, (.t 62))], []⟩,
            ⟨none, (some 64), .app 5 32 (.t 61) (.t 63), []⟩,
            ⟨none, (some 3), .mov (.t 64), []⟩])))))))
    (.reg [4] [
      ⟨none, (some 12), .mov (.t 4), []⟩,
      ⟨none, (some 13), .bin .sub (.t 12) (.c (.int .i64 1)), []⟩,
      ⟨none, (some 4), .mov (.t 13), []⟩])))
def k469 : Cd :=
  (.seq
   (.reg [2] [
     ⟨none, (some 2), .mov (.c (.slice none 0 0)), []⟩])
   (.seq
    (.reg [3] [
      ⟨none, (some 7), .bldS 5 0 [.int .i8 0, .int .i8 0, .int .i8 0, .int .i8 0, .slice none 0 0] [], []⟩,
      ⟨none, (some 3), .mov (.t 7), []⟩])
    (.seq
     (.seq
      (.reg [4] [
        ⟨none, (some 8), .mov (.t 0), []⟩,
        ⟨none, (some 9), .call false 459 [.t 8, .c (.int .i64 6)], []⟩,
        ⟨none, (some 4), .mov (.t 9), []⟩])
      (.block 0
       (.loop b469_2)))
     (.seq
      (.reg [2] [
        ⟨none, (some 65), .mov (.t 3), []⟩,
        ⟨none, (some 2), .mov (.t 65), []⟩])
      .ret))))
def c469 : Fn := { np := 1, nt := 66, kind := .args, res := [.t 2], body := k469 }

/- slices.IndexFunc[[]impl.Frame,impl.Frame] -/
def b474_1 : Cd :=
  (.seq
   (.reg [9] [
     ⟨none, (some 9), .bin .lss (.t 8) (.t 7), []⟩])
   (.seq
    (.cond (.t 9)
     .skip
     (.exit 0))
    (.seq
     (.block 1
      (.seq
       (.reg [5] [
         ⟨none, (some 10), .mov (.t 8), []⟩,
         ⟨none, (some 5), .mov (.t 10), []⟩])
       (.seq
        (.reg [16] [
          ⟨none, (some 11), .mov (.t 1), []⟩,
          ⟨none, (some 12), .mov (.t 0), []⟩,
          ⟨none, (some 13), .mov (.t 5), []⟩,
          ⟨none, (some 14), .idxA 12 (.t 12) (.t 13), []⟩,
          ⟨none, (some 15), .ld 12 true (.t 14), []⟩,
          ⟨none, (some 16), .callv (.t 11) [.t 15], []⟩])
        (.cond (.t 16)
         (.seq
          (.reg [4] [
            ⟨none, (some 17), .mov (.t 5), []⟩,
            ⟨none, (some 4), .mov (.t 17), []⟩])
          .ret)
         .skip))))
     (.reg [8] [
       ⟨none, (some 18), .bin .add (.t 8) (.c (.int .i64 1)), []⟩,
       ⟨none, (some 8), .mov (.t 18), []⟩]))))
def k474 : Cd :=
  (.seq
   (.reg [4] [
     ⟨none, (some 4), .mov (.c (.int .i64 0)), []⟩])
   (.seq
    (.seq
     (.reg [7, 8] [
       ⟨none, (some 6), .mov (.t 0), []⟩,
       ⟨none, (some 7), .len (.t 6), []⟩,
       ⟨none, (some 8), .mov (.c (.int .i64 0)), []⟩])
     (.block 0
      (.loop b474_1)))
    (.seq
     (.reg [4] [
       ⟨none, (some 4), .mov (.c (.int .i64 (-1))), []⟩])
     .ret)))
def c474 : Fn := { np := 2, nt := 19, kind := .pure, res := [.t 4], body := k474 }

/- impl.length[impl.Change] -/
def k490 : Cd :=
  (.seq
   (.reg [2] [
     ⟨none, (some 2), .mov (.c (.int .i64 0)), []⟩])
   (.seq
    (.reg [2] [
      ⟨none, (some 3), .mov (.t 0), []⟩,
      ⟨none, (some 4), .len (.t 3), []⟩,
      ⟨none, (some 2), .mov (.t 4), []⟩])
    .ret))
def c490 : Fn := { np := 1, nt := 5, kind := .pure, res := [.t 2], body := k490 }

/- slices.ContainsFunc[[]impl.Frame,impl.Frame] -/
def k505 : Cd :=
  (.seq
   (.reg [4] [
     ⟨none, (some 4), .mov (.c (.bool false)), []⟩])
   (.seq
    (.reg [4] [
      ⟨none, (some 5), .mov (.t 0), []⟩,
      ⟨none, (some 6), .mov (.t 1), []⟩,
      ⟨none, (some 7), .call true 474 [.t 5, .t 6], []⟩,
      ⟨none, (some 8), .bin .geq (.t 7) (.c (.int .i64 0)), []⟩,
      ⟨none, (some 4), .mov (.t 8), []⟩])
    .ret))
def c505 : Fn := { np := 2, nt := 9, kind := .pure, res := [.t 4], body := k505 }

/- impl.areFrames$1 -/
def k506 : Cd :=
  (.seq
   (.reg [1, 2] [
     ⟨none, (some 1), .mov (.t 0), []⟩,
     ⟨none, (some 2), .mov (.c (.bool false)), []⟩])
   (.seq
    (.reg [2] [
      ⟨none, (some 3), .ldV 1 none 12 true, []⟩,
      ⟨none, (some 4), .call true 234 [.t 3], []⟩,
      ⟨none, (some 5), .un .not (.t 4), []⟩,
      ⟨none, (some 2), .mov (.t 5), []⟩])
    .ret))
def c506 : Fn := { np := 1, nt := 6, kind := .pure, res := [.t 2], body := k506 }

/- (impl.Frame).differ$1 -/
def k512 : Cd :=
  (.seq
   (.reg [4] [
     ⟨none, (some 4), .mov (.c (.int .u16 0)), []⟩])
   (.seq
    (.reg [4] [
      ⟨none, (some 5), .mov (.t 0), []⟩,
      ⟨none, (some 6), .mov (.t 1), []⟩,
      ⟨none, (some 7), .bin .xor (.t 5) (.t 6), []⟩,
      ⟨none, (some 4), .mov (.t 7), []⟩])
    .ret))
def c512 : Fn := { np := 2, nt := 8, kind := .pure, res := [.t 4], body := k512 }

/- (*spec.l00Src).one -/
def k513 : Cd :=
  (.seq
   (.reg [4] [
     ⟨none, (some 4), .mov (.c (.bool false)), []⟩])
   (.seq
    (.reg [4] [
      ⟨none, (some 5), .mov (.t 0), []⟩,
      ⟨none, (some 6), .mov (.t 1), []⟩,
      ⟨none, (some 7), .call false 459 [.t 5, .t 6], []⟩,
      ⟨none, (some 8), .bin .eql (.t 7) (.c (.int .i64 0)), []⟩,
      ⟨none, (some 4), .mov (.t 8), []⟩])
    .ret))
def c513 : Fn := { np := 2, nt := 9, kind := .args, res := [.t 4], body := k513 }

/- spec.l06Step -/
def k524 : Cd :=
  (.seq
   (.reg [4] [
     ⟨none, (some 4), .mov (.c (.bool false)), []⟩])
   (.seq
    (.seq
     (.reg [38] [
       ⟨none, (some 6), .mov (.t 0), []⟩,
       ⟨none, (some 7), .nil (.t 6), []⟩,
       ⟨none, (some 8), .fldP 0 (.t 7), []⟩,
       ⟨none, (some 9), .ld 1 false (.t 8), []⟩,
       ⟨none, (some 10), .conv .i64 (.t 9), []⟩,
       ⟨none, (some 11), .call true 309 [.t 10], []⟩,
       ⟨none, (some 12), .un .not (.t 11), []⟩,
       ⟨none, (some 13), .mov (.t 12), []⟩,
       ⟨(some (13, false)), (some 14), .mov (.t 0), []⟩,
       ⟨(some (13, false)), (some 15), .nil (.t 14), []⟩,
       ⟨(some (13, false)), (some 16), .fldP 2 (.t 15), []⟩,
       ⟨(some (13, false)), (some 17), .ld 1 false (.t 16), []⟩,
       ⟨(some (13, false)), (some 18), .conv .i64 (.t 17), []⟩,
       ⟨(some (13, false)), (some 19), .call true 572 [.t 18], []⟩,
       ⟨(some (13, false)), (some 20), .un .not (.t 19), []⟩,
       ⟨none, (some 21), .pick (.t 13) (.c (.bool true)) (.t 20), []⟩,
       ⟨none, (some 22), .mov (.t 21), []⟩,
       ⟨(some (22, false)), (some 23), .mov (.t 0), []⟩,
       ⟨(some (22, false)), (some 24), .nil (.t 23), []⟩,
       ⟨(some (22, false)), (some 25), .fldP 3 (.t 24), []⟩,
       ⟨(some (22, false)), (some 26), .ld 1 false (.t 25), []⟩,
       ⟨(some (22, false)), (some 27), .conv .i64 (.t 26), []⟩,
       ⟨(some (22, false)), (some 28), .call true 572 [.t 27], []⟩,
       ⟨(some (22, false)), (some 29), .un .not (.t 28), []⟩,
       ⟨none, (some 30), .pick (.t 22) (.c (.bool true)) (.t 29), []⟩,
       ⟨none, (some 31), .mov (.t 30), []⟩,
       ⟨(some (31, false)), (some 32), .mov (.t 0), []⟩,
       ⟨(some (31, false)), (some 33), .nil (.t 32), []⟩,
       ⟨(some (31, false)), (some 34), .fldP 4 (.t 33), []⟩,
       ⟨(some (31, false)), (some 35), .ld 1 false (.t 34), []⟩,
       ⟨(some (31, false)), (some 36), .call true 573 [.t 35], []⟩,
       ⟨(some (31, false)), (some 37), .un .not (.t 36), []⟩,
       ⟨none, (some 38), .pick (.t 31) (.c (.bool true)) (.t 37), []⟩])
     (.cond (.t 38)
      (.seq
       (.reg [4] [
         ⟨none, (some 4), .mov (.c (.bool false)), []⟩])
       .ret)
      .skip))
    (.seq
     (.reg [5] [
       ⟨none, (some 39), .mov (.t 0), []⟩,
       ⟨none, (some 40), .nil (.t 39), []⟩,
       ⟨none, (some 41), .fldP 2 (.t 40), []⟩,
       ⟨none, (some 42), .ld 1 false (.t 41), []⟩,
       ⟨none, (some 43), .bin .eql (.t 42) (.c (.int .i8 0)), []⟩,
       ⟨none, (some 44), .mov (.t 43), []⟩,
       ⟨(some (44, true)), (some 45), .mov (.t 0), []⟩,
       ⟨(some (44, true)), (some 46), .nil (.t 45), []⟩,
       ⟨(some (44, true)), (some 47), .fldP 3 (.t 46), []⟩,
       ⟨(some (44, true)), (some 48), .ld 1 false (.t 47), []⟩,
       ⟨(some (44, true)), (some 49), .bin .eql (.t 48) (.c (.int .i8 0)), []⟩,
       ⟨none, (some 50), .pick (.t 44) (.t 49) (.c (.bool false)), []⟩,
       ⟨none, (some 5), .mov (.t 50), []⟩])
     (.seq
      (.seq
       (.reg [54] [
         ⟨none, (some 51), .mov (.t 0), []⟩,
         ⟨none, (some 52), .nil (.t 51), []⟩,
         ⟨none, (some 53), .fldP 0 (.t 52), []⟩,
         ⟨none, (some 54), .ld 1 false (.t 53), []⟩])
       (.block 0
        (.seq
         (.reg [55] [
           ⟨none, (some 56), .bin .eql (.t 54) (.c (.int .i8 0)), []⟩,
           ⟨none, (some 55), .mov (.t 56), []⟩])
         (.cond (.t 55)
          (.seq
           (.reg [4] [
             ⟨none, (some 57), .mov (.t 0), []⟩,
             ⟨none, (some 58), .nil (.t 57), []⟩,
             ⟨none, (some 59), .fldP 1 (.t 58), []⟩,
             ⟨none, (some 60), .ld 1 false (.t 59), []⟩,
             ⟨none, (some 61), .bin .eql (.t 60) (.c (.int .i8 0)), []⟩,
             ⟨none, (some 62), .mov (.t 61), []⟩,
             ⟨(some (62, true)), (some 63), .mov (.t 5), []⟩,
             ⟨none, (some 64), .pick (.t 62) (.t 63) (.c (.bool false)), []⟩,
             ⟨none, (some 4), .mov (.t 64), []⟩])
           .ret)
          (.seq
           (.reg [65] [
             ⟨none, (some 66), .bin .eql (.t 54) (.c (.int .i8 1)), []⟩,
             ⟨none, (some 65), .mov (.t 66), []⟩])
           (.cond (.t 65)
            (.seq
             (.reg [4] [
               ⟨none, (some 67), .mov (.t 0), []⟩,
               ⟨none, (some 68), .nil (.t 67), []⟩,
               ⟨none, (some 69), .fldP 1 (.t 68), []⟩,
               ⟨none, (some 70), .ld 1 false (.t 69), []⟩,
               ⟨none, (some 71), .conv .i64 (.t 70), []⟩,
               ⟨none, (some 72), .mov (.t 1), []⟩,
               ⟨none, (some 73), .bin .sub (.t 72) (.c (.int .i64 1)), []⟩,
               ⟨none, (some 74), .call true 304 [.t 71, .c (.int .i64 0), .t 73], []⟩,
               ⟨none, (some 75), .mov (.t 74), []⟩,
               ⟨(some (75, true)), (some 76), .mov (.t 5), []⟩,
               ⟨none, (some 77), .pick (.t 75) (.t 76) (.c (.bool false)), []⟩,
               ⟨none, (some 4), .mov (.t 77), []⟩])
             .ret)
            .skip))))))
      (.seq
       (.reg [4] [
         ⟨none, (some 78), .mov (.t 0), []⟩,
         ⟨none, (some 79), .nil (.t 78), []⟩,
         ⟨none, (some 80), .fldP 1 (.t 79), []⟩,
         ⟨none, (some 81), .ld 1 false (.t 80), []⟩,
         ⟨none, (some 82), .conv .i64 (.t 81), []⟩,
         ⟨none, (some 83), .mov (.t 1), []⟩,
         ⟨none, (some 84), .bin .sub (.t 83) (.c (.int .i64 1)), []⟩,
         ⟨none, (some 85), .call true 304 [.t 82, .c (.int .i64 0), .t 84], []⟩,
         ⟨none, (some 86), .mov (.t 85), []⟩,
         ⟨(some (86, true)), (some 87), .mov (.t 5), []⟩,
         ⟨(some (86, true)), (some 88), .un .not (.t 87), []⟩,
         ⟨none, (some 89), .pick (.t 86) (.t 88) (.c (.bool false)), []⟩,
         ⟨none, (some 4), .mov (.t 89), []⟩])
       .ret)))))
def c524 : Fn := { np := 2, nt := 90, kind := .pure, res := [.t 4], body := k524 }

/- spec.l06Changes -/
def b525_1 : Cd :=
  (.seq
   (.seq
    (.reg [9] [
      ⟨none, (some 8), .mov (.t 6), []⟩,
      ⟨none, (some 9), .bin .lss (.t 8) (.c (.int .i64 12)), []⟩])
    (.cond (.t 9)
     .skip
     (.exit 0)))
   (.seq
    (.block 1
     (.seq
      (.reg [22] [
        ⟨none, (some 12), .mov (.t 0), []⟩,
        ⟨none, (some 13), .mov (.t 6), []⟩,
        ⟨none, (some 14), .nil (.t 12), []⟩,
        ⟨none, (some 15), .idxP 12 1 (.t 14) (.t 13), []⟩,
        ⟨none, (some 16), .ld 1 false (.t 15), []⟩,
        ⟨none, (some 17), .mov (.t 1), []⟩,
        ⟨none, (some 18), .mov (.t 6), []⟩,
        ⟨none, (some 19), .nil (.t 17), []⟩,
        ⟨none, (some 20), .idxP 12 1 (.t 19) (.t 18), []⟩,
        ⟨none, (some 21), .ld 1 false (.t 20), []⟩,
        ⟨none, (some 22), .bin .neq (.t 16) (.t 21), []⟩])
      (.cond (.t 22)
       (.reg [5] [
         ⟨none, (some 23), .mov (.t 5), []⟩,
         ⟨none, (some 24), .mov (.t 6), []⟩,
         ⟨none, (some 25), .conv .i8 (.t 24), []⟩,
         ⟨none, (some 26), .mov (.t 0), []⟩,
         ⟨none, (some 27), .mov (.t 6), []⟩,
         ⟨none, (some 28), .nil (.t 26), []⟩,
         ⟨none, (some 29), .idxP 12 1 (.t 28) (.t 27), []⟩,
         ⟨none, (some 30), .ld 1 false (.t 29), []⟩,
         ⟨none, (some 31), .mov (.t 1), []⟩,
         ⟨none, (some 32), .mov (.t 6), []⟩,
         ⟨none, (some 33), .nil (.t 31), []⟩,
         ⟨none, (some 34), .idxP 12 1 (.t 33) (.t 32), []⟩,
         ⟨none, (some 35), .ld 1 false (.t 34), []⟩,
         ⟨none, (some 36), .bin .xor (.t 30) (.t 35), []⟩,
         ⟨none, (some 37), .agg [.int .i8 0, .int .u16 0] [(0, 1, (.t 25)), (1, 1, (.t 36))], []⟩,
         ⟨none, (some 38), .bldS 2 1 [.int .i8 0, .int .u16 0] [(0, 2, (.t 37))], []⟩,
         ⟨none, (some 39), .app 2 4 (.t 23) (.t 38), []⟩,
         ⟨none, (some 5), .mov (.t 39), []⟩])
       .skip)))
    (.reg [6] [
      ⟨none, (some 10), .mov (.t 6), []⟩,
      ⟨none, (some 11), .bin .add (.t 10) (.c (.int .i64 1)), []⟩,
      ⟨none, (some 6), .mov (.t 11), []⟩])))
def k525 : Cd :=
  (.seq
   (.reg [4] [
     ⟨none, (some 4), .mov (.c (.slice none 0 0)), []⟩])
   (.seq
    (.reg [5] [
      ⟨none, (some 7), .bldS 2 0 [.int .i8 0, .int .u16 0] [], []⟩,
      ⟨none, (some 5), .mov (.t 7), []⟩])
    (.seq
     (.seq
      (.reg [6] [
        ⟨none, (some 6), .mov (.c (.int .i64 0)), []⟩])
      (.block 0
       (.loop b525_1)))
     (.seq
      (.reg [4] [
        ⟨none, (some 40), .mov (.t 5), []⟩,
        ⟨none, (some 4), .mov (.t 40), []⟩])
      .ret))))
def c525 : Fn := { np := 2, nt := 41, kind := .pure, res := [.t 4], body := k525 }

/- spec.l06Slid -/
def b526_1 : Cd :=
  (.seq
   (.seq
    (.reg [12] [
      ⟨none, (some 11), .mov (.t 8), []⟩,
      ⟨none, (some 12), .bin .lss (.t 11) (.c (.int .i64 12)), []⟩])
    (.cond (.t 12)
     .skip
     (.exit 0)))
   (.seq
    (.block 1
     (.seq
      (.reg [9] [
        ⟨none, (some 15), .mov (.t 8), []⟩,
        ⟨none, (some 16), .mov (.t 2), []⟩,
        ⟨none, (some 17), .bin .sub (.t 15) (.t 16), []⟩,
        ⟨none, (some 9), .mov (.t 17), []⟩])
      (.seq
       (.seq
        (.reg [20] [
          ⟨none, (some 18), .mov (.t 9), []⟩,
          ⟨none, (some 19), .call true 304 [.t 18, .c (.int .i64 0), .c (.int .i64 11)], []⟩,
          ⟨none, (some 20), .un .not (.t 19), []⟩])
        (.cond (.t 20)
         (.exit 1)
         .skip))
       (.seq
        (.reg [22] [
          ⟨none, (some 21), .mov (.t 1), []⟩,
          ⟨none, (some 22), .bin .geq (.t 21) (.c (.int .i64 0)), []⟩])
        (.cond (.t 22)
         (.reg [7] [
           ⟨none, (some 23), .mov (.t 8), []⟩,
           ⟨none, (some 24), .mov (.t 0), []⟩,
           ⟨none, (some 25), .mov (.t 9), []⟩,
           ⟨none, (some 26), .nil (.t 24), []⟩,
           ⟨none, (some 27), .idxP 12 1 (.t 26) (.t 25), []⟩,
           ⟨none, (some 28), .ld 1 false (.t 27), []⟩,
           ⟨none, (some 29), .mov (.t 1), []⟩,
           ⟨none, (some 30), .conv .u64 (.t 29), []⟩,
           ⟨none, (some 31), .bin .shl (.t 28) (.t 30), []⟩,
           ⟨none, (some 32), .bin .and (.t 31) (.c (.int .u16 4095)), []⟩,
           ⟨none, (some 33), .adrI 7 none 12 1 (.t 23), []⟩,
           ⟨none, (some 7), .stV 7 (some 33) 1 (.t 32), []⟩])
         (.reg [7] [
           ⟨none, (some 34), .mov (.t 8), []⟩,
           ⟨none, (some 35), .mov (.t 0), []⟩,
           ⟨none, (some 36), .mov (.t 9), []⟩,
           ⟨none, (some 37), .nil (.t 35), []⟩,
           ⟨none, (some 38), .idxP 12 1 (.t 37) (.t 36), []⟩,
           ⟨none, (some 39), .ld 1 false (.t 38), []⟩,
           ⟨none, (some 40), .mov (.t 1), []⟩,
           ⟨none, (some 41), .un .neg (.t 40), []⟩,
           ⟨none, (some 42), .conv .u64 (.t 41), []⟩,
           ⟨none, (some 43), .bin .shr (.t 39) (.t 42), []⟩,
           ⟨none, (some 44), .adrI 7 none 12 1 (.t 34), []⟩,
           ⟨none, (some 7), .stV 7 (some 44) 1 (.t 43), []⟩]))))))
    (.reg [8] [
      ⟨none, (some 13), .mov (.t 8), []⟩,
      ⟨none, (some 14), .bin .add (.t 13) (.c (.int .i64 1)), []⟩,
      ⟨none, (some 8), .mov (.t 14), []⟩])))
def k526 : Cd :=
  (.seq
   (.reg [6] [
     ⟨none, (some 6), .zero true (zs 12 (.int .u16 0)), []⟩])
   (.seq
    (.reg [7] [
      ⟨none, (some 10), .agg (zs 12 (.int .u16 0)) [], []⟩,
      ⟨none, (some 7), .zero true (zs 12 (.int .u16 0)), []⟩,
      ⟨none, (some 7), .stV 7 none 12 (.t 10), []⟩])
    (.seq
     (.seq
      (.reg [8] [
        ⟨none, (some 8), .mov (.c (.int .i64 0)), []⟩])
      (.block 0
       (.loop b526_1)))
     (.seq
      (.reg [6] [
        ⟨none, (some 45), .ldV 7 none 12 true, []⟩,
        ⟨none, (some 6), .stV 6 none 12 (.t 45), []⟩])
      .ret))))
def c526 : Fn := { np := 3, nt := 46, kind := .pure, res := [.v 6 12 true], body := k526 }

/- (impl.Step).withRows -/
def b527_1 : Cd :=
  (.seq
   (.reg [14] [
     ⟨none, (some 14), .bin .lss (.t 13) (.c (.int .i64 12)), []⟩])
   (.seq
    (.cond (.t 14)
     .skip
     (.exit 0))
    (.seq
     (.block 1
      (.seq
       (.reg [7, 8] [
         ⟨none, (some 15), .mov (.t 13), []⟩,
         ⟨none, (some 16), .idx 12 1 false (.t 12) (.t 13), []⟩,
         ⟨none, (some 7), .mov (.t 15), []⟩,
         ⟨none, (some 8), .mov (.t 16), []⟩])
       (.seq
        (.reg [18] [
          ⟨none, (some 17), .mov (.t 8), []⟩,
          ⟨none, (some 18), .bin .neq (.t 17) (.c (.int .u16 0)), []⟩])
        (.cond (.t 18)
         (.reg [3] [
           ⟨none, (some 19), .adrF 3 none 4, []⟩,
           ⟨none, (some 20), .ldV 3 (some 19) 1 false, []⟩,
           ⟨none, (some 21), .mov (.t 7), []⟩,
           ⟨none, (some 22), .conv .i8 (.t 21), []⟩,
           ⟨none, (some 23), .mov (.t 8), []⟩,
           ⟨none, (some 24), .agg [.int .i8 0, .int .u16 0] [(0, 1, (.t 22)), (1, 1, (.t 23))], []⟩,
           ⟨none, (some 25), .bldS 2 1 [.int .i8 0, .int .u16 0] [(0, 2, (.t 24))], []⟩,
           ⟨none, (some 26), .app 2 4 (.t 20) (.t 25), []⟩,
           ⟨none, (some 27), .adrF 3 none 4, []⟩,
           ⟨none, (some 3), .stV 3 (some 27) 1 (.t 26), []⟩])
         .skip))))
     (.reg [13] [
       ⟨none, (some 28), .bin .add (.t 13) (.c (.int .i64 1)), []⟩,
       ⟨none, (some 13), .mov (.t 28), []⟩]))))
def k527 : Cd :=
  (.seq
   (.reg [3, 4, 5, 6] [
     ⟨none, (some 3), .mov (.t 0), []⟩,
     ⟨none, (some 4), .mov (.t 1), []⟩,
     ⟨none, (some 5), .mov (.t 2), []⟩,
     ⟨none, (some 6), .zero true [.int .i8 0, .int .i8 0, .int .i8 0, .int .i8 0, .slice none 0 0], []⟩])
   (.seq
    (.reg [3] [
      ⟨none, (some 9), .adrF 3 none 4, []⟩,
      ⟨none, (some 3), .stV 3 (some 9) 1 (.c (.slice none 0 0)), []⟩])
    (.seq
     (.seq
      (.reg [12, 13] [
        ⟨none, (some 10), .ldV 4 none 12 true, []⟩,
        ⟨none, (some 11), .ldV 5 none 12 true, []⟩,
        ⟨none, (some 12), .call true 367 [.t 10, .t 11], []⟩,
        ⟨none, (some 13), .mov (.c (.int .i64 0)), []⟩])
      (.block 0
       (.loop b527_1)))
     (.seq
      (.reg [6] [
        ⟨none, (some 29), .ldV 3 none 5 true, []⟩,
        ⟨none, (some 6), .stV 6 none 5 (.t 29), []⟩])
      .ret))))
def c527 : Fn := { np := 3, nt := 30, kind := .pure, res := [.v 6 5 true], body := k527 }

/- impl.rowsApart -/
def b528_1 : Cd :=
  (.seq
   (.reg [10] [
     ⟨none, (some 10), .bin .lss (.t 9) (.c (.int .i64 12)), []⟩])
   (.seq
    (.cond (.t 10)
     .skip
     (.exit 0))
    (.seq
     (.block 1
      (.seq
       (.reg [6, 7] [
         ⟨none, (some 11), .mov (.t 9), []⟩,
         ⟨none, (some 12), .idx 12 1 false (.t 8) (.t 9), []⟩,
         ⟨none, (some 6), .mov (.t 11), []⟩,
         ⟨none, (some 7), .mov (.t 12), []⟩])
       (.seq
        (.reg [17] [
          ⟨none, (some 13), .mov (.t 7), []⟩,
          ⟨none, (some 14), .mov (.t 6), []⟩,
          ⟨none, (some 15), .adrI 3 none 12 1 (.t 14), []⟩,
          ⟨none, (some 16), .ldV 3 (some 15) 1 false, []⟩,
          ⟨none, (some 17), .bin .neq (.t 13) (.t 16), []⟩])
        (.cond (.t 17)
         (.reg [5] [
           ⟨none, (some 18), .mov (.t 5), []⟩,
           ⟨none, (some 19), .bin .add (.t 18) (.c (.int .i64 1)), []⟩,
           ⟨none, (some 5), .mov (.t 19), []⟩])
         .skip))))
     (.reg [9] [
       ⟨none, (some 20), .bin .add (.t 9) (.c (.int .i64 1)), []⟩,
       ⟨none, (some 9), .mov (.t 20), []⟩]))))
def k528 : Cd :=
  (.seq
   (.reg [2, 3, 4] [
     ⟨none, (some 2), .mov (.t 0), []⟩,
     ⟨none, (some 3), .mov (.t 1), []⟩,
     ⟨none, (some 4), .mov (.c (.int .i64 0)), []⟩])
   (.seq
    (.reg [5] [
      ⟨none, (some 5), .mov (.c (.int .i64 0)), []⟩])
    (.seq
     (.seq
      (.reg [8, 9] [
        ⟨none, (some 8), .ldV 2 none 12 true, []⟩,
        ⟨none, (some 9), .mov (.c (.int .i64 0)), []⟩])
      (.block 0
       (.loop b528_1)))
     (.seq
      (.reg [4] [
        ⟨none, (some 21), .mov (.t 5), []⟩,
        ⟨none, (some 4), .mov (.t 21), []⟩])
      .ret))))
def c528 : Fn := { np := 2, nt := 22, kind := .pure, res := [.t 4], body := k528 }

/- slices.IndexFunc[[]uint16,uint16] -/
def b547_1 : Cd :=
  (.seq
   (.reg [9] [
     ⟨none, (some 9), .bin .lss (.t 8) (.t 7), []⟩])
   (.seq
    (.cond (.t 9)
     .skip
     (.exit 0))
    (.seq
     (.block 1
      (.seq
       (.reg [5] [
         ⟨none, (some 10), .mov (.t 8), []⟩,
         ⟨none, (some 5), .mov (.t 10), []⟩])
       (.seq
        (.reg [16] [
          ⟨none, (some 11), .mov (.t 1), []⟩,
          ⟨none, (some 12), .mov (.t 0), []⟩,
          ⟨none, (some 13), .mov (.t 5), []⟩,
          ⟨none, (some 14), .idxA 1 (.t 12) (.t 13), []⟩,
          ⟨none, (some 15), .ld 1 false (.t 14), []⟩,
          ⟨none, (some 16), .callv (.t 11) [.t 15], []⟩])
        (.cond (.t 16)
         (.seq
          (.reg [4] [
            ⟨none, (some 17), .mov (.t 5), []⟩,
            ⟨none, (some 4), .mov (.t 17), []⟩])
          .ret)
         .skip))))
     (.reg [8] [
       ⟨none, (some 18), .bin .add (.t 8) (.c (.int .i64 1)), []⟩,
       ⟨none, (some 8), .mov (.t 18), []⟩]))))
def k547 : Cd :=
  (.seq
   (.reg [4] [
     ⟨none, (some 4), .mov (.c (.int .i64 0)), []⟩])
   (.seq
    (.seq
     (.reg [7, 8] [
       ⟨none, (some 6), .mov (.t 0), []⟩,
       ⟨none, (some 7), .len (.t 6), []⟩,
       ⟨none, (some 8), .mov (.c (.int .i64 0)), []⟩])
     (.block 0
      (.loop b547_1)))
    (.seq
     (.reg [4] [
       ⟨none, (some 4), .mov (.c (.int .i64 (-1))), []⟩])
     .ret)))
def c547 : Fn := { np := 2, nt := 19, kind := .pure, res := [.t 4], body := k547 }

/- (*spec.l00Src).next -/
def k550 : Cd :=
  (.seq
   (.reg [2] [
     ⟨none, (some 2), .mov (.c (.int .i64 0)), []⟩])
   (.seq
    (.reg [3] [
      ⟨none, (some 3), .mov (.c (.int .i64 0)), []⟩])
    (.seq
     (.seq
      (.reg [13] [
        ⟨none, (some 4), .mov (.t 0), []⟩,
        ⟨none, (some 5), .nil (.t 4), []⟩,
        ⟨none, (some 6), .fldP 1 (.t 5), []⟩,
        ⟨none, (some 7), .ld 1 false (.t 6), []⟩,
        ⟨none, (some 8), .mov (.t 0), []⟩,
        ⟨none, (some 9), .nil (.t 8), []⟩,
        ⟨none, (some 10), .fldP 0 (.t 9), []⟩,
        ⟨none, (some 11), .ld 1 false (.t 10), []⟩,
        ⟨none, (some 12), .len (.t 11), []⟩,
        ⟨none, (some 13), .bin .lss (.t 7) (.t 12), []⟩])
      (.cond (.t 13)
       (.reg [3] [
         ⟨none, (some 14), .mov (.t 0), []⟩,
         ⟨none, (some 15), .nil (.t 14), []⟩,
         ⟨none, (some 16), .fldP 0 (.t 15), []⟩,
         ⟨none, (some 17), .ld 1 false (.t 16), []⟩,
         ⟨none, (some 18), .mov (.t 0), []⟩,
         ⟨none, (some 19), .nil (.t 18), []⟩,
         ⟨none, (some 20), .fldP 1 (.t 19), []⟩,
         ⟨none, (some 21), .ld 1 false (.t 20), []⟩,
         ⟨none, (some 22), .idxA 1 (.t 17) (.t 21), []⟩,
         ⟨none, (some 23), .ld 1 false (.t 22), []⟩,
         ⟨none, (some 24), .conv .i64 (.t 23), []⟩,
         ⟨none, (some 3), .mov (.t 24), []⟩])
       .skip))
     (.seq
      (.reg [] [
        ⟨none, (some 25), .mov (.t 0), []⟩,
        ⟨none, (some 26), .nil (.t 25), []⟩,
        ⟨none, (some 27), .fldP 1 (.t 26), []⟩,
        ⟨none, (some 28), .ld 1 false (.t 27), []⟩,
        ⟨none, (some 29), .bin .add (.t 28) (.c (.int .i64 1)), []⟩,
        ⟨none, (some 30), .nil (.t 25), []⟩,
        ⟨none, (some 31), .fldP 1 (.t 30), []⟩,
        ⟨none, none, .st 1 (.t 31) (.t 29), []⟩])
      (.seq
       (.reg [] [
         ⟨none, (some 32), .mov (.t 0), []⟩,
         ⟨none, (some 33), .mov (.t 0), []⟩,
         ⟨none, (some 34), .nil (.t 33), []⟩,
         ⟨none, (some 35), .fldP 2 (.t 34), []⟩,
         ⟨none, (some 36), .ld 1 false (.t 35), []⟩,
         ⟨none, (some 37), .bin .mul (.t 36) (.c (.int .u64 6364136223846793005)), []⟩,
         ⟨none, (some 38), .mov (.t 3), []⟩,
         ⟨none, (some 39), .conv .u64 (.t 38), []⟩,
         ⟨none, (some 40), .bin .add (.t 37) (.t 39), []⟩,
         ⟨none, (some 41), .bin .add (.t 40) (.c (.int .u64 1442695040888963407)), []⟩,
         ⟨none, (some 42), .nil (.t 32), []⟩,
         ⟨none, (some 43), .fldP 2 (.t 42), []⟩,
         ⟨none, none, .st 1 (.t 43) (.t 41), []⟩])
       (.seq
        (.seq
         (.reg [53] [
           ⟨none, (some 44), .mov (.t 0), []⟩,
           ⟨none, (some 45), .nil (.t 44), []⟩,
           ⟨none, (some 46), .fldP 1 (.t 45), []⟩,
           ⟨none, (some 47), .ld 1 false (.t 46), []⟩,
           ⟨none, (some 48), .mov (.t 0), []⟩,
           ⟨none, (some 49), .nil (.t 48), []⟩,
           ⟨none, (some 50), .fldP 0 (.t 49), []⟩,
           ⟨none, (some 51), .ld 1 false (.t 50), []⟩,
           ⟨none, (some 52), .len (.t 51), []⟩,
           ⟨none, (some 53), .bin .leq (.t 47) (.t 52), []⟩])
         (.cond (.t 53)
          (.seq
           (.reg [2] [
             ⟨none, (some 54), .mov (.t 3), []⟩,
             ⟨none, (some 2), .mov (.t 54), []⟩])
           .ret)
          .skip))
        (.seq
         (.reg [2] [
           ⟨none, (some 55), .mov (.t 0), []⟩,
           ⟨none, (some 56), .nil (.t 55), []⟩,
           ⟨none, (some 57), .fldP 2 (.t 56), []⟩,
           ⟨none, (some 58), .ld 1 false (.t 57), []⟩,
           ⟨none, (some 59), .bin .shr (.t 58) (.c (.int .u64 40)), []⟩,
           ⟨none, (some 60), .bin .and (.t 59) (.c (.int .u64 255)), []⟩,
           ⟨none, (some 61), .conv .i64 (.t 60), []⟩,
           ⟨none, (some 2), .mov (.t 61), []⟩])
         .ret)))))))
def c550 : Fn := { np := 1, nt := 62, kind := .args, res := [.t 2], body := k550 }

/- spec.l06Far -/
def k572 : Cd :=
  (.seq
   (.reg [2] [
     ⟨none, (some 2), .mov (.c (.bool false)), []⟩])
   (.seq
    (.reg [2] [
      ⟨none, (some 3), .mov (.t 0), []⟩,
      ⟨none, (some 4), .call true 304 [.t 3, .c (.int .i64 (-12)), .c (.int .i64 12)], []⟩,
      ⟨none, (some 2), .mov (.t 4), []⟩])
    .ret))
def c572 : Fn := { np := 1, nt := 5, kind := .pure, res := [.t 2], body := k572 }

/- spec.l06Rows -/
def b573_1 : Cd :=
  (.seq
   (.seq
    (.reg [7] [
      ⟨none, (some 4), .mov (.t 3), []⟩,
      ⟨none, (some 5), .mov (.t 0), []⟩,
      ⟨none, (some 6), .len (.t 5), []⟩,
      ⟨none, (some 7), .bin .lss (.t 4) (.t 6), []⟩])
    (.cond (.t 7)
     .skip
     (.exit 0)))
   (.seq
    (.block 1
     (.seq
      (.seq
       (.reg [27] [
         ⟨none, (some 10), .mov (.t 0), []⟩,
         ⟨none, (some 11), .mov (.t 3), []⟩,
         ⟨none, (some 12), .idxA 2 (.t 10) (.t 11), []⟩,
         ⟨none, (some 13), .fldP 0 (.t 12), []⟩,
         ⟨none, (some 14), .ld 1 false (.t 13), []⟩,
         ⟨none, (some 15), .conv .i64 (.t 14), []⟩,
         ⟨none, (some 16), .call true 304 [.t 15, .c (.int .i64 0), .c (.int .i64 11)], []⟩,
         ⟨none, (some 17), .un .not (.t 16), []⟩,
         ⟨none, (some 18), .mov (.t 17), []⟩,
         ⟨(some (18, false)), (some 19), .mov (.t 0), []⟩,
         ⟨(some (18, false)), (some 20), .mov (.t 3), []⟩,
         ⟨(some (18, false)), (some 21), .idxA 2 (.t 19) (.t 20), []⟩,
         ⟨(some (18, false)), (some 22), .fldP 1 (.t 21), []⟩,
         ⟨(some (18, false)), (some 23), .ld 1 false (.t 22), []⟩,
         ⟨(some (18, false)), (some 24), .conv .i64 (.t 23), []⟩,
         ⟨(some (18, false)), (some 25), .call true 304 [.t 24, .c (.int .i64 1), .c (.int .i64 4095)], []⟩,
         ⟨(some (18, false)), (some 26), .un .not (.t 25), []⟩,
         ⟨none, (some 27), .pick (.t 18) (.c (.bool true)) (.t 26), []⟩])
       (.cond (.t 27)
        (.seq
         (.reg [2] [
           ⟨none, (some 2), .mov (.c (.bool false)), []⟩])
         .ret)
        .skip))
      (.seq
       (.reg [43] [
         ⟨none, (some 28), .mov (.t 3), []⟩,
         ⟨none, (some 29), .bin .gtr (.t 28) (.c (.int .i64 0)), []⟩,
         ⟨none, (some 30), .mov (.t 29), []⟩,
         ⟨(some (30, true)), (some 31), .mov (.t 0), []⟩,
         ⟨(some (30, true)), (some 32), .mov (.t 3), []⟩,
         ⟨(some (30, true)), (some 33), .idxA 2 (.t 31) (.t 32), []⟩,
         ⟨(some (30, true)), (some 34), .fldP 0 (.t 33), []⟩,
         ⟨(some (30, true)), (some 35), .ld 1 false (.t 34), []⟩,
         ⟨(some (30, true)), (some 36), .mov (.t 0), []⟩,
         ⟨(some (30, true)), (some 37), .mov (.t 3), []⟩,
         ⟨(some (30, true)), (some 38), .bin .sub (.t 37) (.c (.int .i64 1)), []⟩,
         ⟨(some (30, true)), (some 39), .idxA 2 (.t 36) (.t 38), []⟩,
         ⟨(some (30, true)), (some 40), .fldP 0 (.t 39), []⟩,
         ⟨(some (30, true)), (some 41), .ld 1 false (.t 40), []⟩,
         ⟨(some (30, true)), (some 42), .bin .leq (.t 35) (.t 41), []⟩,
         ⟨none, (some 43), .pick (.t 30) (.t 42) (.c (.bool false)), []⟩])
       (.cond (.t 43)
        (.seq
         (.reg [2] [
           ⟨none, (some 2), .mov (.c (.bool false)), []⟩])
         .ret)
        .skip))))
    (.reg [3] [
      ⟨none, (some 8), .mov (.t 3), []⟩,
      ⟨none, (some 9), .bin .add (.t 8) (.c (.int .i64 1)), []⟩,
      ⟨none, (some 3), .mov (.t 9), []⟩])))
def k573 : Cd :=
  (.seq
   (.reg [2] [
     ⟨none, (some 2), .mov (.c (.bool false)), []⟩])
   (.seq
    (.seq
     (.reg [3] [
       ⟨none, (some 3), .mov (.c (.int .i64 0)), []⟩])
     (.block 0
      (.loop b573_1)))
    (.seq
     (.reg [2] [
       ⟨none, (some 2), .mov (.c (.bool true)), []⟩])
     .ret)))
def c573 : Fn := { np := 1, nt := 44, kind := .pure, res := [.t 2], body := k573 }


end Fb
