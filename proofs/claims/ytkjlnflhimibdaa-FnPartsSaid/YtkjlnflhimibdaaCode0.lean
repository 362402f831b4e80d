/- The functions of the law, in the small language. -/
import Derived.Test.YtkjlnflhimibdaaDen
set_option linter.unusedVariables false
set_option linter.unusedSimpArgs false
namespace Fb
open Go

/- laws.FnParts -/
def b49_1 : Cd :=
  (.seq
   (.seq
    (.reg [134] [
      ⟨none, (some 132), .mov (.t 17), []⟩,
      ⟨none, (some 133), .mov (.t 8), []⟩,
      ⟨none, (some 134), .bin .leq (.t 132) (.t 133), []⟩])
    (.cond (.t 134)
     .skip
     (.exit 0)))
   (.seq
    (.block 1
     (.seq
      (.reg [18, 19] [
        ⟨none, (some 138), .ldV 5 none 14 true, []⟩,
        ⟨none, (some 139), .ldV 6 none 14 true, []⟩,
        ⟨none, (some 140), .bldS 14 2 [.int .u16 0, .int .u16 0, .int .u16 0, .int .u16 0, .int .u16 0, .int .u16 0, .int .u16 0, .int .u16 0, .int .u16 0, .int .u16 0, .int .u16 0, .int .u16 0, .int .i8 0, .slice none 0 0] [(0, 14, (.t 138)), (14, 14, (.t 139))], []⟩,
        ⟨none, (some 141), .mov (.t 17), []⟩,
        ⟨none, (some 142), .call true 222 [.t 140, .t 141], []⟩,
        ⟨none, (some 137), .mov (.t 142), []⟩,
        ⟨none, (some 143), .ext (.t 137) 0, []⟩,
        ⟨none, (some 144), .ext (.t 137) 1, []⟩,
        ⟨none, (some 18), .zero true (zs 12 (.int .u16 0)), []⟩,
        ⟨none, (some 18), .stV 18 none 12 (.t 143), []⟩,
        ⟨none, (some 19), .mov (.t 144), []⟩])
      (.seq
       (.reg [20, 21] [
         ⟨none, (some 146), .ldV 5 none 14 true, []⟩,
         ⟨none, (some 147), .bldS 14 1 [.int .u16 0, .int .u16 0, .int .u16 0, .int .u16 0, .int .u16 0, .int .u16 0, .int .u16 0, .int .u16 0, .int .u16 0, .int .u16 0, .int .u16 0, .int .u16 0, .int .i8 0, .slice none 0 0] [(0, 14, (.t 146))], []⟩,
         ⟨none, (some 148), .mov (.t 17), []⟩,
         ⟨none, (some 149), .call true 222 [.t 147, .t 148], []⟩,
         ⟨none, (some 145), .mov (.t 149), []⟩,
         ⟨none, (some 150), .ext (.t 145) 0, []⟩,
         ⟨none, (some 151), .ext (.t 145) 1, []⟩,
         ⟨none, (some 20), .zero true (zs 12 (.int .u16 0)), []⟩,
         ⟨none, (some 20), .stV 20 none 12 (.t 150), []⟩,
         ⟨none, (some 21), .mov (.t 151), []⟩])
       (.seq
        (.reg [22, 23] [
          ⟨none, (some 153), .ldV 6 none 14 true, []⟩,
          ⟨none, (some 154), .bldS 14 1 [.int .u16 0, .int .u16 0, .int .u16 0, .int .u16 0, .int .u16 0, .int .u16 0, .int .u16 0, .int .u16 0, .int .u16 0, .int .u16 0, .int .u16 0, .int .u16 0, .int .i8 0, .slice none 0 0] [(0, 14, (.t 153))], []⟩,
          ⟨none, (some 155), .mov (.t 17), []⟩,
          ⟨none, (some 156), .call true 220 [.t 154, .t 155], []⟩,
          ⟨none, (some 152), .mov (.t 156), []⟩,
          ⟨none, (some 157), .ext (.t 152) 0, []⟩,
          ⟨none, (some 158), .ext (.t 152) 1, []⟩,
          ⟨none, (some 22), .zero true (zs 12 (.int .u16 0)), []⟩,
          ⟨none, (some 22), .stV 22 none 12 (.t 157), []⟩,
          ⟨none, (some 23), .mov (.t 158), []⟩])
        (.seq
         (.reg [24, 25] [
           ⟨none, (some 160), .ldV 20 none 12 true, []⟩,
           ⟨none, (some 161), .ldV 22 none 12 true, []⟩,
           ⟨none, (some 162), .call true 253 [.t 160, .t 161], []⟩,
           ⟨none, (some 159), .mov (.t 162), []⟩,
           ⟨none, (some 163), .ext (.t 159) 0, []⟩,
           ⟨none, (some 164), .ext (.t 159) 1, []⟩,
           ⟨none, (some 24), .zero true (zs 12 (.int .u16 0)), []⟩,
           ⟨none, (some 24), .stV 24 none 12 (.t 163), []⟩,
           ⟨none, (some 25), .mov (.t 164), []⟩])
         (.seq
          (.reg [26, 27] [
            ⟨none, (some 166), .ldV 20 none 12 true, []⟩,
            ⟨none, (some 167), .ldV 22 none 12 true, []⟩,
            ⟨none, (some 168), .call true 251 [.t 166, .t 167], []⟩,
            ⟨none, (some 165), .mov (.t 168), []⟩,
            ⟨none, (some 169), .ext (.t 165) 0, []⟩,
            ⟨none, (some 170), .ext (.t 165) 1, []⟩,
            ⟨none, (some 26), .zero true (zs 12 (.int .u16 0)), []⟩,
            ⟨none, (some 26), .stV 26 none 12 (.t 169), []⟩,
            ⟨none, (some 27), .mov (.t 170), []⟩])
          (.seq
           (.reg [28, 29] [
             ⟨none, (some 172), .ldV 26 none 12 true, []⟩,
             ⟨none, (some 173), .call true 264 [.t 172], []⟩,
             ⟨none, (some 171), .mov (.t 173), []⟩,
             ⟨none, (some 174), .ext (.t 171) 0, []⟩,
             ⟨none, (some 175), .ext (.t 171) 1, []⟩,
             ⟨none, (some 28), .mov (.t 174), []⟩,
             ⟨none, (some 29), .mov (.t 175), []⟩])
           (.seq
            (.reg [30, 31] [
              ⟨none, (some 177), .adrF 5 none 0, []⟩,
              ⟨none, (some 178), .ldV 5 (some 177) 12 true, []⟩,
              ⟨none, (some 179), .call true 264 [.t 178], []⟩,
              ⟨none, (some 176), .mov (.t 179), []⟩,
              ⟨none, (some 180), .ext (.t 176) 0, []⟩,
              ⟨none, (some 181), .ext (.t 176) 1, []⟩,
              ⟨none, (some 30), .mov (.t 180), []⟩,
              ⟨none, (some 31), .mov (.t 181), []⟩])
            (.seq
             (.reg [32, 33] [
               ⟨none, (some 183), .ldV 20 none 12 true, []⟩,
               ⟨none, (some 184), .call true 171 [.t 183], []⟩,
               ⟨none, (some 182), .mov (.t 184), []⟩,
               ⟨none, (some 185), .ext (.t 182) 0, []⟩,
               ⟨none, (some 186), .ext (.t 182) 1, []⟩,
               ⟨none, (some 32), .mov (.t 185), []⟩,
               ⟨none, (some 33), .mov (.t 186), []⟩])
             (.seq
              (.reg [244] [
                ⟨none, (some 187), .mov (.t 19), []⟩,
                ⟨none, (some 188), .bin .neq (.t 187) (.c (.int .i64 0)), []⟩,
                ⟨none, (some 189), .mov (.t 188), []⟩,
                ⟨(some (189, false)), (some 190), .ldV 18 none 12 true, []⟩,
                ⟨(some (189, false)), (some 191), .mov (.t 11), []⟩,
                ⟨(some (189, false)), (some 192), .mov (.t 17), []⟩,
                ⟨(some (189, false)), (some 193), .mov (.t 7), []⟩,
                ⟨(some (189, false)), (some 194), .bin .sub (.t 192) (.t 193), []⟩,
                ⟨(some (189, false)), (some 195), .idxA 12 (.t 191) (.t 194), []⟩,
                ⟨(some (189, false)), (some 196), .ld 12 true (.t 195), []⟩,
                ⟨(some (189, false)), (some 197), .eq (.a (rb 12 (some .u16))) true (.t 190) (.t 196), []⟩,
                ⟨none, (some 198), .pick (.t 189) (.c (.bool true)) (.t 197), []⟩,
                ⟨none, (some 199), .mov (.t 198), []⟩,
                ⟨(some (199, false)), (some 200), .mov (.t 21), []⟩,
                ⟨(some (199, false)), (some 201), .bin .neq (.t 200) (.c (.int .i64 0)), []⟩,
                ⟨none, (some 202), .pick (.t 199) (.c (.bool true)) (.t 201), []⟩,
                ⟨none, (some 203), .mov (.t 202), []⟩,
                ⟨(some (203, false)), (some 204), .mov (.t 23), []⟩,
                ⟨(some (203, false)), (some 205), .bin .neq (.t 204) (.c (.int .i64 0)), []⟩,
                ⟨none, (some 206), .pick (.t 203) (.c (.bool true)) (.t 205), []⟩,
                ⟨none, (some 207), .mov (.t 206), []⟩,
                ⟨(some (207, false)), (some 208), .mov (.t 25), []⟩,
                ⟨(some (207, false)), (some 209), .bin .neq (.t 208) (.c (.int .i64 0)), []⟩,
                ⟨none, (some 210), .pick (.t 207) (.c (.bool true)) (.t 209), []⟩,
                ⟨none, (some 211), .mov (.t 210), []⟩,
                ⟨(some (211, false)), (some 212), .ldV 18 none 12 true, []⟩,
                ⟨(some (211, false)), (some 213), .ldV 24 none 12 true, []⟩,
                ⟨(some (211, false)), (some 214), .eq (.a (rb 12 (some .u16))) true (.t 212) (.t 213), []⟩,
                ⟨none, (some 215), .pick (.t 211) (.c (.bool true)) (.t 214), []⟩,
                ⟨none, (some 216), .mov (.t 215), []⟩,
                ⟨(some (216, false)), (some 217), .mov (.t 27), []⟩,
                ⟨(some (216, false)), (some 218), .bin .neq (.t 217) (.c (.int .i64 0)), []⟩,
                ⟨none, (some 219), .pick (.t 216) (.c (.bool true)) (.t 218), []⟩,
                ⟨none, (some 220), .mov (.t 219), []⟩,
                ⟨(some (220, false)), (some 221), .mov (.t 29), []⟩,
                ⟨(some (220, false)), (some 222), .bin .neq (.t 221) (.c (.int .i64 0)), []⟩,
                ⟨none, (some 223), .pick (.t 220) (.c (.bool true)) (.t 222), []⟩,
                ⟨none, (some 224), .mov (.t 223), []⟩,
                ⟨(some (224, false)), (some 225), .mov (.t 28), []⟩,
                ⟨(some (224, false)), (some 226), .bin .gtr (.t 225) (.c (.int .i64 0)), []⟩,
                ⟨(some (224, false)), (some 227), .mov (.t 15), []⟩,
                ⟨(some (224, false)), (some 228), .mov (.t 17), []⟩,
                ⟨(some (224, false)), (some 229), .call true 265 [.t 227, .t 228], []⟩,
                ⟨(some (224, false)), (some 230), .eq .b true (.t 226) (.t 229), []⟩,
                ⟨none, (some 231), .pick (.t 224) (.c (.bool true)) (.t 230), []⟩,
                ⟨none, (some 232), .mov (.t 231), []⟩,
                ⟨(some (232, false)), (some 233), .mov (.t 31), []⟩,
                ⟨(some (232, false)), (some 234), .bin .neq (.t 233) (.c (.int .i64 0)), []⟩,
                ⟨none, (some 235), .pick (.t 232) (.c (.bool true)) (.t 234), []⟩,
                ⟨none, (some 236), .mov (.t 235), []⟩,
                ⟨(some (236, false)), (some 237), .mov (.t 33), []⟩,
                ⟨(some (236, false)), (some 238), .bin .neq (.t 237) (.c (.int .i64 0)), []⟩,
                ⟨none, (some 239), .pick (.t 236) (.c (.bool true)) (.t 238), []⟩,
                ⟨none, (some 240), .mov (.t 239), []⟩,
                ⟨(some (240, false)), (some 241), .mov (.t 32), []⟩,
                ⟨(some (240, false)), (some 242), .mov (.t 30), []⟩,
                ⟨(some (240, false)), (some 243), .bin .gtr (.t 241) (.t 242), []⟩,
                ⟨none, (some 244), .pick (.t 240) (.c (.bool true)) (.t 243), []⟩])
              (.cond (.t 244)
               (.seq
                (.reg [4] [
                  ⟨none, (some 4), .mov (.c (.bool false)), []⟩])
                .ret)
               .skip)))))))))))
    (.reg [17] [
      ⟨none, (some 135), .mov (.t 17), []⟩,
      ⟨none, (some 136), .bin .add (.t 135) (.c (.int .i64 1)), []⟩,
      ⟨none, (some 17), .mov (.t 136), []⟩])))
def k49 : Cd :=
  (.seq
   (.reg [4] [
     ⟨none, (some 4), .mov (.c (.bool false)), []⟩])
   (.seq
    (.seq
     (.reg [39] [
       ⟨none, (some 34), .mov (.t 0), []⟩,
       ⟨none, (some 35), .call true 169 [.t 34], []⟩,
       ⟨none, (some 36), .mov (.t 35), []⟩,
       ⟨(some (36, false)), (some 37), .mov (.t 1), []⟩,
       ⟨(some (36, false)), (some 38), .call true 169 [.t 37], []⟩,
       ⟨none, (some 39), .pick (.t 36) (.c (.bool true)) (.t 38), []⟩])
     (.cond (.t 39)
      (.seq
       (.reg [4] [
         ⟨none, (some 4), .mov (.c (.bool true)), []⟩])
       .ret)
      .skip))
    (.seq
     (.reg [5] [
       ⟨none, (some 40), .mov (.t 0), []⟩,
       ⟨none, (some 41), .call true 258 [.t 40], []⟩,
       ⟨none, (some 5), .zero true [.int .u16 0, .int .u16 0, .int .u16 0, .int .u16 0, .int .u16 0, .int .u16 0, .int .u16 0, .int .u16 0, .int .u16 0, .int .u16 0, .int .u16 0, .int .u16 0, .int .i8 0, .slice none 0 0], []⟩,
       ⟨none, (some 5), .stV 5 none 14 (.t 41), []⟩])
     (.seq
      (.reg [6] [
        ⟨none, (some 42), .mov (.t 1), []⟩,
        ⟨none, (some 43), .call true 258 [.t 42], []⟩,
        ⟨none, (some 6), .zero true [.int .u16 0, .int .u16 0, .int .u16 0, .int .u16 0, .int .u16 0, .int .u16 0, .int .u16 0, .int .u16 0, .int .u16 0, .int .u16 0, .int .u16 0, .int .u16 0, .int .i8 0, .slice none 0 0], []⟩,
        ⟨none, (some 6), .stV 6 none 14 (.t 43), []⟩])
      (.seq
       (.reg [7] [
         ⟨none, (some 44), .mov (.t 1), []⟩,
         ⟨none, (some 45), .call true 259 [.t 44, .c (.int .i64 10)], []⟩,
         ⟨none, (some 7), .mov (.t 45), []⟩])
       (.seq
        (.reg [8] [
          ⟨none, (some 46), .mov (.t 7), []⟩,
          ⟨none, (some 47), .mov (.t 0), []⟩,
          ⟨none, (some 48), .call true 259 [.t 47, .c (.int .i64 12)], []⟩,
          ⟨none, (some 49), .bin .add (.t 46) (.t 48), []⟩,
          ⟨none, (some 8), .mov (.t 49), []⟩])
        (.seq
         (.reg [9, 10] [
           ⟨none, (some 51), .ldV 5 none 14 true, []⟩,
           ⟨none, (some 52), .ldV 6 none 14 true, []⟩,
           ⟨none, (some 53), .bldS 14 2 [.int .u16 0, .int .u16 0, .int .u16 0, .int .u16 0, .int .u16 0, .int .u16 0, .int .u16 0, .int .u16 0, .int .u16 0, .int .u16 0, .int .u16 0, .int .u16 0, .int .i8 0, .slice none 0 0] [(0, 14, (.t 51)), (14, 14, (.t 52))], []⟩,
           ⟨none, (some 54), .mov (.t 7), []⟩,
           ⟨none, (some 55), .mov (.t 8), []⟩,
           ⟨none, (some 56), .call true 260 [.t 53, .t 54, .t 55], []⟩,
           ⟨none, (some 50), .mov (.t 56), []⟩,
           ⟨none, (some 57), .ext (.t 50) 0, []⟩,
           ⟨none, (some 58), .ext (.t 50) 1, []⟩,
           ⟨none, (some 9), .mov (.t 57), []⟩,
           ⟨none, (some 10), .mov (.t 58), []⟩])
         (.seq
          (.reg [11, 12] [
            ⟨none, (some 60), .ldV 5 none 14 true, []⟩,
            ⟨none, (some 61), .ldV 6 none 14 true, []⟩,
            ⟨none, (some 62), .bldS 14 2 [.int .u16 0, .int .u16 0, .int .u16 0, .int .u16 0, .int .u16 0, .int .u16 0, .int .u16 0, .int .u16 0, .int .u16 0, .int .u16 0, .int .u16 0, .int .u16 0, .int .i8 0, .slice none 0 0] [(0, 14, (.t 60)), (14, 14, (.t 61))], []⟩,
            ⟨none, (some 63), .mov (.t 7), []⟩,
            ⟨none, (some 64), .mov (.t 8), []⟩,
            ⟨none, (some 65), .call true 261 [.t 62, .t 63, .t 64], []⟩,
            ⟨none, (some 59), .mov (.t 65), []⟩,
            ⟨none, (some 66), .ext (.t 59) 0, []⟩,
            ⟨none, (some 67), .ext (.t 59) 1, []⟩,
            ⟨none, (some 11), .mov (.t 66), []⟩,
            ⟨none, (some 12), .mov (.t 67), []⟩])
          (.seq
           (.reg [13, 14] [
             ⟨none, (some 69), .ldV 5 none 14 true, []⟩,
             ⟨none, (some 70), .ldV 6 none 14 true, []⟩,
             ⟨none, (some 71), .mov (.t 7), []⟩,
             ⟨none, (some 72), .mov (.t 8), []⟩,
             ⟨none, (some 73), .call true 208 [.t 69, .t 70, .t 71, .t 72], []⟩,
             ⟨none, (some 68), .mov (.t 73), []⟩,
             ⟨none, (some 74), .ext (.t 68) 0, []⟩,
             ⟨none, (some 75), .ext (.t 68) 1, []⟩,
             ⟨none, (some 13), .mov (.t 74), []⟩,
             ⟨none, (some 14), .mov (.t 75), []⟩])
           (.seq
            (.reg [15, 16] [
              ⟨none, (some 77), .ldV 5 none 14 true, []⟩,
              ⟨none, (some 78), .ldV 6 none 14 true, []⟩,
              ⟨none, (some 79), .mov (.t 7), []⟩,
              ⟨none, (some 80), .mov (.t 8), []⟩,
              ⟨none, (some 81), .call true 206 [.t 77, .t 78, .t 79, .t 80], []⟩,
              ⟨none, (some 76), .mov (.t 81), []⟩,
              ⟨none, (some 82), .ext (.t 76) 0, []⟩,
              ⟨none, (some 83), .ext (.t 76) 1, []⟩,
              ⟨none, (some 15), .mov (.t 82), []⟩,
              ⟨none, (some 16), .mov (.t 83), []⟩])
            (.seq
             (.seq
              (.reg [130] [
                ⟨none, (some 84), .mov (.t 10), []⟩,
                ⟨none, (some 85), .mov (.t 12), []⟩,
                ⟨none, (some 86), .bin .neq (.t 84) (.t 85), []⟩,
                ⟨none, (some 87), .mov (.t 86), []⟩,
                ⟨(some (87, false)), (some 88), .mov (.t 10), []⟩,
                ⟨(some (87, false)), (some 89), .bin .neq (.t 88) (.c (.int .i64 0)), []⟩,
                ⟨none, (some 90), .pick (.t 87) (.c (.bool true)) (.t 89), []⟩,
                ⟨none, (some 91), .mov (.t 90), []⟩,
                ⟨(some (91, false)), (some 92), .mov (.t 9), []⟩,
                ⟨(some (91, false)), (some 93), .mov (.t 11), []⟩,
                ⟨(some (91, false)), (some 94), .call true 91 [.t 92, .t 93], []⟩,
                ⟨(some (91, false)), (some 95), .un .not (.t 94), []⟩,
                ⟨none, (some 96), .pick (.t 91) (.c (.bool true)) (.t 95), []⟩,
                ⟨none, (some 97), .mov (.t 96), []⟩,
                ⟨(some (97, false)), (some 98), .mov (.t 11), []⟩,
                ⟨(some (97, false)), (some 99), .len (.t 98), []⟩,
                ⟨(some (97, false)), (some 100), .mov (.t 8), []⟩,
                ⟨(some (97, false)), (some 101), .mov (.t 7), []⟩,
                ⟨(some (97, false)), (some 102), .bin .sub (.t 100) (.t 101), []⟩,
                ⟨(some (97, false)), (some 103), .bin .add (.t 102) (.c (.int .i64 1)), []⟩,
                ⟨(some (97, false)), (some 104), .bin .neq (.t 99) (.t 103), []⟩,
                ⟨none, (some 105), .pick (.t 97) (.c (.bool true)) (.t 104), []⟩,
                ⟨none, (some 106), .mov (.t 105), []⟩,
                ⟨(some (106, false)), (some 107), .mov (.t 14), []⟩,
                ⟨(some (106, false)), (some 108), .mov (.t 16), []⟩,
                ⟨(some (106, false)), (some 109), .bin .neq (.t 107) (.t 108), []⟩,
                ⟨none, (some 110), .pick (.t 106) (.c (.bool true)) (.t 109), []⟩,
                ⟨none, (some 111), .mov (.t 110), []⟩,
                ⟨(some (111, false)), (some 112), .mov (.t 14), []⟩,
                ⟨(some (111, false)), (some 113), .bin .neq (.t 112) (.c (.int .i64 0)), []⟩,
                ⟨none, (some 114), .pick (.t 111) (.c (.bool true)) (.t 113), []⟩,
                ⟨none, (some 115), .mov (.t 114), []⟩,
                ⟨(some (115, false)), (some 116), .mov (.t 13), []⟩,
                ⟨(some (115, false)), (some 117), .mov (.t 15), []⟩,
                ⟨(some (115, false)), (some 118), .call true 262 [.t 116, .t 117], []⟩,
                ⟨(some (115, false)), (some 119), .un .not (.t 118), []⟩,
                ⟨none, (some 120), .pick (.t 115) (.c (.bool true)) (.t 119), []⟩,
                ⟨none, (some 121), .mov (.t 120), []⟩,
                ⟨(some (121, false)), (some 122), .ldV 5 none 14 true, []⟩,
                ⟨(some (121, false)), (some 123), .call true 263 [.t 122], []⟩,
                ⟨(some (121, false)), (some 124), .un .not (.t 123), []⟩,
                ⟨none, (some 125), .pick (.t 121) (.c (.bool true)) (.t 124), []⟩,
                ⟨none, (some 126), .mov (.t 125), []⟩,
                ⟨(some (126, false)), (some 127), .ldV 6 none 14 true, []⟩,
                ⟨(some (126, false)), (some 128), .call true 263 [.t 127], []⟩,
                ⟨(some (126, false)), (some 129), .un .not (.t 128), []⟩,
                ⟨none, (some 130), .pick (.t 126) (.c (.bool true)) (.t 129), []⟩])
              (.cond (.t 130)
               (.seq
                (.reg [4] [
                  ⟨none, (some 4), .mov (.c (.bool false)), []⟩])
                .ret)
               .skip))
             (.seq
              (.seq
               (.reg [17] [
                 ⟨none, (some 131), .mov (.t 7), []⟩,
                 ⟨none, (some 17), .mov (.t 131), []⟩])
               (.block 0
                (.loop b49_1)))
              (.seq
               (.reg [4] [
                 ⟨none, (some 4), .mov (.c (.bool true)), []⟩])
               .ret)))))))))))))
def c49 : Fn := { np := 2, nt := 245, kind := .pure, res := [.t 4], body := k49 }

/- spec.SameBook -/
def k91 : Cd :=
  (.seq
   (.reg [4] [
     ⟨none, (some 4), .mov (.c (.bool false)), []⟩])
   (.seq
    (.reg [4] [
      ⟨none, (some 5), .mov (.t 0), []⟩,
      ⟨none, (some 6), .mov (.t 1), []⟩,
      ⟨none, (some 7), .call true 323 [.t 5, .t 6], []⟩,
      ⟨none, (some 4), .mov (.t 7), []⟩])
    .ret))
def c91 : Fn := { np := 2, nt := 8, kind := .pure, res := [.t 4], body := k91 }

/- laws.f6big -/
def k169 : Cd :=
  (.seq
   (.reg [2] [
     ⟨none, (some 2), .mov (.c (.bool false)), []⟩])
   (.seq
    (.reg [2] [
      ⟨none, (some 3), .mov (.t 0), []⟩,
      ⟨none, (some 4), .len (.t 3), []⟩,
      ⟨none, (some 5), .bin .gtr (.t 4) (.c (.int .i64 4096)), []⟩,
      ⟨none, (some 2), .mov (.t 5), []⟩])
    .ret))
def c169 : Fn := { np := 1, nt := 6, kind := .pure, res := [.t 2], body := k169 }

/- impl.CountDots -/
def k171 : Cd :=
  (.seq
   (.reg [1, 2, 3] [
     ⟨none, (some 1), .mov (.t 0), []⟩,
     ⟨none, (some 2), .mov (.c (.int .i64 0)), []⟩,
     ⟨none, (some 3), .mov (.c (.int .i64 0)), []⟩])
   (.seq
    (.seq
     (.reg [6] [
       ⟨none, (some 4), .ldV 1 none 12 true, []⟩,
       ⟨none, (some 5), .call true 234 [.t 4], []⟩,
       ⟨none, (some 6), .un .not (.t 5), []⟩])
     (.cond (.t 6)
      (.seq
       (.reg [2, 3] [
         ⟨none, (some 2), .mov (.c (.int .i64 0)), []⟩,
         ⟨none, (some 3), .mov (.c (.int .i64 1)), []⟩])
       .ret)
      .skip))
    (.seq
     (.reg [2, 3] [
       ⟨none, (some 7), .ldV 1 none 12 true, []⟩,
       ⟨none, (some 8), .call true 393 [.t 7], []⟩,
       ⟨none, (some 2), .mov (.t 8), []⟩,
       ⟨none, (some 3), .mov (.c (.int .i64 0)), []⟩])
     .ret)))
def c171 : Fn := { np := 1, nt := 9, kind := .pure, res := [.t 2, .t 3], body := k171 }

/- spec.MeetTicks -/
def b206_1 : Cd :=
  (.seq
   (.seq
    (.reg [39] [
      ⟨none, (some 38), .mov (.t 15), []⟩,
      ⟨none, (some 39), .bin .lss (.t 38) (.c (.int .i64 12)), []⟩])
    (.cond (.t 39)
     .skip
     (.exit 2)))
   (.seq
    (.block 3
     (.seq
      (.reg [49] [
        ⟨none, (some 42), .mov (.t 15), []⟩,
        ⟨none, (some 43), .adrI 13 none 12 1 (.t 42), []⟩,
        ⟨none, (some 44), .ldV 13 (some 43) 1 false, []⟩,
        ⟨none, (some 45), .mov (.t 15), []⟩,
        ⟨none, (some 46), .adrI 14 none 12 1 (.t 45), []⟩,
        ⟨none, (some 47), .ldV 14 (some 46) 1 false, []⟩,
        ⟨none, (some 48), .bin .and (.t 44) (.t 47), []⟩,
        ⟨none, (some 49), .bin .neq (.t 48) (.c (.int .u16 0)), []⟩])
      (.cond (.t 49)
       (.seq
        (.reg [11] [
          ⟨none, (some 50), .mov (.t 11), []⟩,
          ⟨none, (some 51), .mov (.t 12), []⟩,
          ⟨none, (some 52), .bldS 1 1 [.int .i64 0] [(0, 1, (.t 51))], []⟩,
          ⟨none, (some 53), .app 1 8 (.t 50) (.t 52), []⟩,
          ⟨none, (some 11), .mov (.t 53), []⟩])
        (.exit 2))
       .skip)))
    (.reg [15] [
      ⟨none, (some 40), .mov (.t 15), []⟩,
      ⟨none, (some 41), .bin .add (.t 40) (.c (.int .i64 1)), []⟩,
      ⟨none, (some 15), .mov (.t 41), []⟩])))
def b206_2 : Cd :=
  (.seq
   (.seq
    (.reg [31] [
      ⟨none, (some 29), .mov (.t 12), []⟩,
      ⟨none, (some 30), .mov (.t 3), []⟩,
      ⟨none, (some 31), .bin .leq (.t 29) (.t 30), []⟩])
    (.cond (.t 31)
     .skip
     (.exit 0)))
   (.seq
    (.block 1
     (.seq
      (.reg [13] [
        ⟨none, (some 34), .mov (.t 12), []⟩,
        ⟨none, (some 35), .call true 423 [.t 4, .t 34], []⟩,
        ⟨none, (some 13), .zero true (zs 12 (.int .u16 0)), []⟩,
        ⟨none, (some 13), .stV 13 none 12 (.t 35), []⟩])
      (.seq
       (.reg [14] [
         ⟨none, (some 36), .mov (.t 12), []⟩,
         ⟨none, (some 37), .call true 423 [.t 5, .t 36], []⟩,
         ⟨none, (some 14), .zero true (zs 12 (.int .u16 0)), []⟩,
         ⟨none, (some 14), .stV 14 none 12 (.t 37), []⟩])
       (.seq
        (.reg [15] [
          ⟨none, (some 15), .mov (.c (.int .i64 0)), []⟩])
        (.block 2
         (.loop b206_1))))))
    (.reg [12] [
      ⟨none, (some 32), .mov (.t 12), []⟩,
      ⟨none, (some 33), .bin .add (.t 32) (.c (.int .i64 1)), []⟩,
      ⟨none, (some 12), .mov (.t 33), []⟩])))
def k206 : Cd :=
  (.seq
   (.reg [4, 5, 8, 9] [
     ⟨none, (some 4), .box 14 (.t 0), []⟩,
     ⟨none, (some 5), .box 14 (.t 1), []⟩,
     ⟨none, (some 8), .mov (.c (.slice none 0 0)), []⟩,
     ⟨none, (some 9), .mov (.c (.int .i64 0)), []⟩])
   (.seq
    (.seq
     (.reg [10] [
       ⟨none, (some 16), .ld 14 true (.t 4), []⟩,
       ⟨none, (some 17), .ld 14 true (.t 5), []⟩,
       ⟨none, (some 18), .bldS 14 2 [.int .u16 0, .int .u16 0, .int .u16 0, .int .u16 0, .int .u16 0, .int .u16 0, .int .u16 0, .int .u16 0, .int .u16 0, .int .u16 0, .int .u16 0, .int .u16 0, .int .i8 0, .slice none 0 0] [(0, 14, (.t 16)), (14, 14, (.t 17))], []⟩,
       ⟨none, (some 19), .mov (.t 2), []⟩,
       ⟨none, (some 20), .mov (.t 3), []⟩,
       ⟨none, (some 21), .call true 422 [.t 19, .t 20], []⟩,
       ⟨none, (some 22), .call true 421 [.t 18, .t 21], []⟩,
       ⟨none, (some 10), .mov (.t 22), []⟩])
     (.seq
      (.reg [24] [
        ⟨none, (some 23), .mov (.t 10), []⟩,
        ⟨none, (some 24), .bin .neq (.t 23) (.c (.int .i64 0)), []⟩])
      (.cond (.t 24)
       (.seq
        (.reg [8, 9] [
          ⟨none, (some 25), .bldS 1 0 [.int .i64 0] [], []⟩,
          ⟨none, (some 26), .mov (.t 10), []⟩,
          ⟨none, (some 8), .mov (.t 25), []⟩,
          ⟨none, (some 9), .mov (.t 26), []⟩])
        .ret)
       .skip)))
    (.seq
     (.reg [11] [
       ⟨none, (some 27), .bldS 1 0 [.int .i64 0] [], []⟩,
       ⟨none, (some 11), .mov (.t 27), []⟩])
     (.seq
      (.seq
       (.reg [12] [
         ⟨none, (some 28), .mov (.t 2), []⟩,
         ⟨none, (some 12), .mov (.t 28), []⟩])
       (.block 0
        (.loop b206_2)))
      (.seq
       (.reg [8, 9] [
         ⟨none, (some 54), .mov (.t 11), []⟩,
         ⟨none, (some 8), .mov (.t 54), []⟩,
         ⟨none, (some 9), .mov (.c (.int .i64 0)), []⟩])
       .ret)))))
def c206 : Fn := { np := 4, nt := 55, kind := .pure, res := [.t 8, .t 9], body := k206 }

/- impl.MeetTicks -/
def b208_1 : Cd :=
  (.seq
   (.seq
    (.reg [27] [
      ⟨none, (some 25), .mov (.t 11), []⟩,
      ⟨none, (some 26), .mov (.t 3), []⟩,
      ⟨none, (some 27), .bin .leq (.t 25) (.t 26), []⟩])
    (.cond (.t 27)
     .skip
     (.exit 1)))
   (.seq
    (.block 2
     (.seq
      (.reg [38] [
        ⟨none, (some 30), .ldV 4 none 14 true, []⟩,
        ⟨none, (some 31), .mov (.t 11), []⟩,
        ⟨none, (some 33), .ldV 5 none 14 true, []⟩,
        ⟨none, (some 34), .mov (.t 11), []⟩,
        ⟨none, (some 32), .call true 427 [.t 30, .t 31], []⟩,
        ⟨none, (some 35), .call true 427 [.t 33, .t 34], []⟩,
        ⟨none, (some 36), .call true 348 [.t 32, .t 35], []⟩,
        ⟨none, (some 37), .call true 393 [.t 36], []⟩,
        ⟨none, (some 38), .bin .gtr (.t 37) (.c (.int .i64 0)), []⟩])
      (.cond (.t 38)
       (.reg [10] [
         ⟨none, (some 39), .mov (.t 10), []⟩,
         ⟨none, (some 40), .mov (.t 11), []⟩,
         ⟨none, (some 41), .bldS 1 1 [.int .i64 0] [(0, 1, (.t 40))], []⟩,
         ⟨none, (some 42), .app 1 8 (.t 39) (.t 41), []⟩,
         ⟨none, (some 10), .mov (.t 42), []⟩])
       .skip)))
    (.reg [11] [
      ⟨none, (some 28), .mov (.t 11), []⟩,
      ⟨none, (some 29), .bin .add (.t 28) (.c (.int .i64 1)), []⟩,
      ⟨none, (some 11), .mov (.t 29), []⟩])))
def k208 : Cd :=
  (.seq
   (.reg [4, 5, 8, 9] [
     ⟨none, (some 4), .mov (.t 0), []⟩,
     ⟨none, (some 5), .mov (.t 1), []⟩,
     ⟨none, (some 8), .mov (.c (.slice none 0 0)), []⟩,
     ⟨none, (some 9), .mov (.c (.int .i64 0)), []⟩])
   (.seq
    (.block 0
     (.seq
      (.reg [12] [
        ⟨none, (some 13), .ldV 4 none 14 true, []⟩,
        ⟨none, (some 14), .ldV 5 none 14 true, []⟩,
        ⟨none, (some 15), .bldS 14 2 [.int .u16 0, .int .u16 0, .int .u16 0, .int .u16 0, .int .u16 0, .int .u16 0, .int .u16 0, .int .u16 0, .int .u16 0, .int .u16 0, .int .u16 0, .int .u16 0, .int .i8 0, .slice none 0 0] [(0, 14, (.t 13)), (14, 14, (.t 14))], []⟩,
        ⟨none, (some 16), .call true 425 [.t 15], []⟩,
        ⟨none, (some 17), .un .not (.t 16), []⟩,
        ⟨none, (some 12), .mov (.t 17), []⟩])
      (.cond (.t 12)
       (.seq
        (.reg [8, 9] [
          ⟨none, (some 8), .mov (.c (.slice none 0 0)), []⟩,
          ⟨none, (some 9), .mov (.c (.int .i64 1)), []⟩])
        .ret)
       (.seq
        (.reg [18] [
          ⟨none, (some 19), .mov (.t 2), []⟩,
          ⟨none, (some 20), .mov (.t 3), []⟩,
          ⟨none, (some 21), .call true 426 [.t 19, .t 20], []⟩,
          ⟨none, (some 22), .un .not (.t 21), []⟩,
          ⟨none, (some 18), .mov (.t 22), []⟩])
        (.cond (.t 18)
         (.seq
          (.reg [8, 9] [
            ⟨none, (some 8), .mov (.c (.slice none 0 0)), []⟩,
            ⟨none, (some 9), .mov (.c (.int .i64 2)), []⟩])
          .ret)
         .skip)))))
    (.seq
     (.reg [10] [
       ⟨none, (some 23), .bldS 1 0 [.int .i64 0] [], []⟩,
       ⟨none, (some 10), .mov (.t 23), []⟩])
     (.seq
      (.seq
       (.reg [11] [
         ⟨none, (some 24), .mov (.t 2), []⟩,
         ⟨none, (some 11), .mov (.t 24), []⟩])
       (.block 1
        (.loop b208_1)))
      (.seq
       (.reg [8, 9] [
         ⟨none, (some 43), .mov (.t 10), []⟩,
         ⟨none, (some 8), .mov (.t 43), []⟩,
         ⟨none, (some 9), .mov (.c (.int .i64 0)), []⟩])
       .ret)))))
def c208 : Fn := { np := 4, nt := 44, kind := .pure, res := [.t 8, .t 9], body := k208 }

/- spec.FrameAt -/
def k220 : Cd :=
  (.seq
   (.reg [4, 5] [
     ⟨none, (some 4), .zero true (zs 12 (.int .u16 0)), []⟩,
     ⟨none, (some 5), .mov (.c (.int .i64 0)), []⟩])
   (.seq
    (.seq
     (.reg [6] [
       ⟨none, (some 7), .mov (.t 0), []⟩,
       ⟨none, (some 8), .mov (.t 1), []⟩,
       ⟨none, (some 9), .call true 432 [.t 8], []⟩,
       ⟨none, (some 10), .call true 421 [.t 7, .t 9], []⟩,
       ⟨none, (some 6), .mov (.t 10), []⟩])
     (.seq
      (.reg [12] [
        ⟨none, (some 11), .mov (.t 6), []⟩,
        ⟨none, (some 12), .bin .neq (.t 11) (.c (.int .i64 0)), []⟩])
      (.cond (.t 12)
       (.seq
        (.reg [4, 5] [
          ⟨none, (some 13), .agg (zs 12 (.int .u16 0)) [], []⟩,
          ⟨none, (some 14), .mov (.t 6), []⟩,
          ⟨none, (some 4), .stV 4 none 12 (.t 13), []⟩,
          ⟨none, (some 5), .mov (.t 14), []⟩])
        .ret)
       .skip)))
    (.seq
     (.reg [4, 5] [
       ⟨none, (some 15), .mov (.t 0), []⟩,
       ⟨none, (some 16), .mov (.t 1), []⟩,
       ⟨none, (some 17), .call true 433 [.t 15, .t 16], []⟩,
       ⟨none, (some 4), .stV 4 none 12 (.t 17), []⟩,
       ⟨none, (some 5), .mov (.c (.int .i64 0)), []⟩])
     .ret)))
def c220 : Fn := { np := 2, nt := 18, kind := .pure, res := [.v 4 12 true, .t 5], body := k220 }

/- impl.FrameAt -/
def k222 : Cd :=
  (.seq
   (.reg [4, 5] [
     ⟨none, (some 4), .zero true (zs 12 (.int .u16 0)), []⟩,
     ⟨none, (some 5), .mov (.c (.int .i64 0)), []⟩])
   (.seq
    (.block 0
     (.seq
      (.reg [6] [
        ⟨none, (some 7), .mov (.t 0), []⟩,
        ⟨none, (some 8), .call true 425 [.t 7], []⟩,
        ⟨none, (some 9), .un .not (.t 8), []⟩,
        ⟨none, (some 6), .mov (.t 9), []⟩])
      (.cond (.t 6)
       (.seq
        (.reg [4, 5] [
          ⟨none, (some 10), .agg (zs 12 (.int .u16 0)) [], []⟩,
          ⟨none, (some 4), .stV 4 none 12 (.t 10), []⟩,
          ⟨none, (some 5), .mov (.c (.int .i64 1)), []⟩])
        .ret)
       (.seq
        (.reg [11] [
          ⟨none, (some 12), .mov (.t 1), []⟩,
          ⟨none, (some 13), .call true 435 [.t 12], []⟩,
          ⟨none, (some 14), .un .not (.t 13), []⟩,
          ⟨none, (some 11), .mov (.t 14), []⟩])
        (.cond (.t 11)
         (.seq
          (.reg [4, 5] [
            ⟨none, (some 15), .agg (zs 12 (.int .u16 0)) [], []⟩,
            ⟨none, (some 4), .stV 4 none 12 (.t 15), []⟩,
            ⟨none, (some 5), .mov (.c (.int .i64 2)), []⟩])
          .ret)
         (.seq
          (.reg [16] [
            ⟨none, (some 17), .mov (.t 0), []⟩,
            ⟨none, (some 18), .len (.t 17), []⟩,
            ⟨none, (some 19), .bin .gtr (.t 18) (.c (.int .i64 6)), []⟩,
            ⟨none, (some 16), .mov (.t 19), []⟩])
          (.cond (.t 16)
           (.seq
            (.reg [4, 5] [
              ⟨none, (some 20), .agg (zs 12 (.int .u16 0)) [], []⟩,
              ⟨none, (some 4), .stV 4 none 12 (.t 20), []⟩,
              ⟨none, (some 5), .mov (.c (.int .i64 3)), []⟩])
            .ret)
           .skip)))))))
    (.seq
     (.reg [4, 5] [
       ⟨none, (some 21), .mov (.t 0), []⟩,
       ⟨none, (some 22), .mov (.t 1), []⟩,
       ⟨none, (some 23), .call true 436 [.t 21, .t 22], []⟩,
       ⟨none, (some 4), .stV 4 none 12 (.t 23), []⟩,
       ⟨none, (some 5), .mov (.c (.int .i64 0)), []⟩])
     .ret)))
def c222 : Fn := { np := 2, nt := 24, kind := .pure, res := [.v 4 12 true, .t 5], body := k222 }

/- impl.ValidFrame -/
def k234 : Cd :=
  (.seq
   (.reg [1, 2] [
     ⟨none, (some 1), .box 12 (.t 0), []⟩,
     ⟨none, (some 2), .mov (.c (.bool false)), []⟩])
   (.seq
    (.reg [2] [
      ⟨none, (some 3), .slcP 12 1 (.t 1), []⟩,
      ⟨none, (some 4), .call true 445 [.t 3, .f 446], []⟩,
      ⟨none, (some 5), .un .not (.t 4), []⟩,
      ⟨none, (some 2), .mov (.t 5), []⟩])
    .ret))
def c234 : Fn := { np := 1, nt := 6, kind := .pure, res := [.t 2], body := k234 }

/- spec.MeetFrames -/
def b251_1 : Cd :=
  (.seq
   (.seq
    (.reg [14] [
      ⟨none, (some 13), .mov (.t 7), []⟩,
      ⟨none, (some 14), .bin .lss (.t 13) (.c (.int .i64 12)), []⟩])
    (.cond (.t 14)
     .skip
     (.exit 0)))
   (.seq
    (.block 1
     (.reg [] [
       ⟨none, (some 17), .mov (.t 7), []⟩,
       ⟨none, (some 18), .mov (.t 7), []⟩,
       ⟨none, (some 19), .idxP 12 1 (.t 2) (.t 18), []⟩,
       ⟨none, (some 20), .ld 1 false (.t 19), []⟩,
       ⟨none, (some 21), .mov (.t 7), []⟩,
       ⟨none, (some 22), .idxP 12 1 (.t 3) (.t 21), []⟩,
       ⟨none, (some 23), .ld 1 false (.t 22), []⟩,
       ⟨none, (some 24), .bin .and (.t 20) (.t 23), []⟩,
       ⟨none, (some 25), .idxP 12 1 (.t 2) (.t 17), []⟩,
       ⟨none, none, .st 1 (.t 25) (.t 24), []⟩]))
    (.reg [7] [
      ⟨none, (some 15), .mov (.t 7), []⟩,
      ⟨none, (some 16), .bin .add (.t 15) (.c (.int .i64 1)), []⟩,
      ⟨none, (some 7), .mov (.t 16), []⟩])))
def k251 : Cd :=
  (.seq
   (.reg [2, 3, 4, 5] [
     ⟨none, (some 2), .box 12 (.t 0), []⟩,
     ⟨none, (some 3), .box 12 (.t 1), []⟩,
     ⟨none, (some 4), .zero true (zs 12 (.int .u16 0)), []⟩,
     ⟨none, (some 5), .mov (.c (.int .i64 0)), []⟩])
   (.seq
    (.seq
     (.reg [6] [
       ⟨none, (some 8), .call true 327 [.t 2, .t 3], []⟩,
       ⟨none, (some 6), .mov (.t 8), []⟩])
     (.seq
      (.reg [10] [
        ⟨none, (some 9), .mov (.t 6), []⟩,
        ⟨none, (some 10), .bin .neq (.t 9) (.c (.int .i64 0)), []⟩])
      (.cond (.t 10)
       (.seq
        (.reg [4, 5] [
          ⟨none, (some 11), .agg (zs 12 (.int .u16 0)) [], []⟩,
          ⟨none, (some 12), .mov (.t 6), []⟩,
          ⟨none, (some 4), .stV 4 none 12 (.t 11), []⟩,
          ⟨none, (some 5), .mov (.t 12), []⟩])
        .ret)
       .skip)))
    (.seq
     (.seq
      (.reg [7] [
        ⟨none, (some 7), .mov (.c (.int .i64 0)), []⟩])
      (.block 0
       (.loop b251_1)))
     (.seq
      (.reg [4, 5] [
        ⟨none, (some 26), .ld 12 true (.t 2), []⟩,
        ⟨none, (some 4), .stV 4 none 12 (.t 26), []⟩,
        ⟨none, (some 5), .mov (.c (.int .i64 0)), []⟩])
      .ret))))
def c251 : Fn := { np := 2, nt := 27, kind := .pure, res := [.v 4 12 true, .t 5], body := k251 }

/- spec.JoinFrames -/
def k253 : Cd :=
  (.seq
   (.reg [2, 3, 4, 5] [
     ⟨none, (some 2), .box 12 (.t 0), []⟩,
     ⟨none, (some 3), .box 12 (.t 1), []⟩,
     ⟨none, (some 4), .zero true (zs 12 (.int .u16 0)), []⟩,
     ⟨none, (some 5), .mov (.c (.int .i64 0)), []⟩])
   (.seq
    (.seq
     (.reg [6] [
       ⟨none, (some 7), .call true 327 [.t 2, .t 3], []⟩,
       ⟨none, (some 6), .mov (.t 7), []⟩])
     (.seq
      (.reg [9] [
        ⟨none, (some 8), .mov (.t 6), []⟩,
        ⟨none, (some 9), .bin .neq (.t 8) (.c (.int .i64 0)), []⟩])
      (.cond (.t 9)
       (.seq
        (.reg [4, 5] [
          ⟨none, (some 10), .agg (zs 12 (.int .u16 0)) [], []⟩,
          ⟨none, (some 11), .mov (.t 6), []⟩,
          ⟨none, (some 4), .stV 4 none 12 (.t 10), []⟩,
          ⟨none, (some 5), .mov (.t 11), []⟩])
        .ret)
       .skip)))
    (.seq
     (.reg [4, 5] [
       ⟨none, (some 12), .call true 337 [.t 2, .t 3], []⟩,
       ⟨none, (some 4), .stV 4 none 12 (.t 12), []⟩,
       ⟨none, (some 5), .mov (.c (.int .i64 0)), []⟩])
     .ret)))
def c253 : Fn := { np := 2, nt := 13, kind := .pure, res := [.v 4 12 true, .t 5], body := k253 }

/- spec.P6Part -/
def k258 : Cd :=
  (.seq
   (.reg [2] [
     ⟨none, (some 2), .zero true [.int .u16 0, .int .u16 0, .int .u16 0, .int .u16 0, .int .u16 0, .int .u16 0, .int .u16 0, .int .u16 0, .int .u16 0, .int .u16 0, .int .u16 0, .int .u16 0, .int .i8 0, .slice none 0 0], []⟩])
   (.seq
    (.reg [3] [
      ⟨none, (some 5), .mov (.t 0), []⟩,
      ⟨none, (some 6), .call true 315 [.t 5], []⟩,
      ⟨none, (some 3), .mov (.t 6), []⟩])
    (.seq
     (.reg [4] [
       ⟨none, (some 7), .mov (.t 3), []⟩,
       ⟨none, (some 8), .call false 368 [.t 7], []⟩,
       ⟨none, (some 9), .agg [.int .u16 0, .int .u16 0, .int .u16 0, .int .u16 0, .int .u16 0, .int .u16 0, .int .u16 0, .int .u16 0, .int .u16 0, .int .u16 0, .int .u16 0, .int .u16 0, .int .i8 0, .slice none 0 0] [(0, 12, (.t 8))], []⟩,
       ⟨none, (some 4), .zero true [.int .u16 0, .int .u16 0, .int .u16 0, .int .u16 0, .int .u16 0, .int .u16 0, .int .u16 0, .int .u16 0, .int .u16 0, .int .u16 0, .int .u16 0, .int .u16 0, .int .i8 0, .slice none 0 0], []⟩,
       ⟨none, (some 4), .stV 4 none 14 (.t 9), []⟩])
     (.seq
      (.reg [4] [
        ⟨none, (some 10), .mov (.t 3), []⟩,
        ⟨none, (some 11), .call false 459 [.t 10, .c (.int .i64 4)], []⟩,
        ⟨none, (some 12), .conv .i8 (.t 11), []⟩,
        ⟨none, (some 13), .adrF 4 none 12, []⟩,
        ⟨none, (some 4), .stV 4 (some 13) 1 (.t 12), []⟩])
      (.seq
       (.reg [4] [
         ⟨none, (some 14), .mov (.t 3), []⟩,
         ⟨none, (some 15), .call false 460 [.t 14], []⟩,
         ⟨none, (some 16), .adrF 4 none 13, []⟩,
         ⟨none, (some 4), .stV 4 (some 16) 1 (.t 15), []⟩])
       (.seq
        (.reg [2] [
          ⟨none, (some 17), .ldV 4 none 14 true, []⟩,
          ⟨none, (some 2), .stV 2 none 14 (.t 17), []⟩])
        .ret))))))
def c258 : Fn := { np := 1, nt := 18, kind := .pure, res := [.v 2 14 true], body := k258 }

/- spec.P6Pick -/
def k259 : Cd :=
  (.seq
   (.reg [4] [
     ⟨none, (some 4), .mov (.c (.int .i64 0)), []⟩])
   (.seq
    (.reg [4] [
      ⟨none, (some 5), .mov (.t 0), []⟩,
      ⟨none, (some 6), .call true 315 [.t 5], []⟩,
      ⟨none, (some 7), .mov (.t 1), []⟩,
      ⟨none, (some 8), .call false 459 [.t 6, .t 7], []⟩,
      ⟨none, (some 4), .mov (.t 8), []⟩])
    .ret))
def c259 : Fn := { np := 2, nt := 9, kind := .pure, res := [.t 4], body := k259 }

/- impl.PlayParts -/
def b260_1 : Cd :=
  (.seq
   (.seq
    (.reg [34] [
      ⟨none, (some 32), .mov (.t 9), []⟩,
      ⟨none, (some 33), .mov (.t 2), []⟩,
      ⟨none, (some 34), .bin .leq (.t 32) (.t 33), []⟩])
    (.cond (.t 34)
     .skip
     (.exit 1)))
   (.seq
    (.block 2
     (.reg [8] [
       ⟨none, (some 37), .mov (.t 8), []⟩,
       ⟨none, (some 38), .mov (.t 0), []⟩,
       ⟨none, (some 39), .mov (.t 9), []⟩,
       ⟨none, (some 40), .call true 436 [.t 38, .t 39], []⟩,
       ⟨none, (some 41), .bldS 12 1 (zs 12 (.int .u16 0)) [(0, 12, (.t 40))], []⟩,
       ⟨none, (some 42), .app 12 24 (.t 37) (.t 41), []⟩,
       ⟨none, (some 8), .mov (.t 42), []⟩]))
    (.reg [9] [
      ⟨none, (some 35), .mov (.t 9), []⟩,
      ⟨none, (some 36), .bin .add (.t 35) (.c (.int .i64 1)), []⟩,
      ⟨none, (some 9), .mov (.t 36), []⟩])))
def k260 : Cd :=
  (.seq
   (.reg [6, 7] [
     ⟨none, (some 6), .mov (.c (.slice none 0 0)), []⟩,
     ⟨none, (some 7), .mov (.c (.int .i64 0)), []⟩])
   (.seq
    (.block 0
     (.seq
      (.reg [10] [
        ⟨none, (some 11), .mov (.t 0), []⟩,
        ⟨none, (some 12), .call true 425 [.t 11], []⟩,
        ⟨none, (some 13), .un .not (.t 12), []⟩,
        ⟨none, (some 10), .mov (.t 13), []⟩])
      (.cond (.t 10)
       (.seq
        (.reg [6, 7] [
          ⟨none, (some 6), .mov (.c (.slice none 0 0)), []⟩,
          ⟨none, (some 7), .mov (.c (.int .i64 1)), []⟩])
        .ret)
       (.seq
        (.reg [14] [
          ⟨none, (some 15), .mov (.t 1), []⟩,
          ⟨none, (some 16), .mov (.t 2), []⟩,
          ⟨none, (some 17), .call true 426 [.t 15, .t 16], []⟩,
          ⟨none, (some 18), .un .not (.t 17), []⟩,
          ⟨none, (some 14), .mov (.t 18), []⟩])
        (.cond (.t 14)
         (.seq
          (.reg [6, 7] [
            ⟨none, (some 6), .mov (.c (.slice none 0 0)), []⟩,
            ⟨none, (some 7), .mov (.c (.int .i64 2)), []⟩])
          .ret)
         (.seq
          (.reg [19] [
            ⟨none, (some 20), .mov (.t 0), []⟩,
            ⟨none, (some 21), .len (.t 20), []⟩,
            ⟨none, (some 22), .bin .gtr (.t 21) (.c (.int .i64 6)), []⟩,
            ⟨none, (some 23), .mov (.t 22), []⟩,
            ⟨(some (23, false)), (some 24), .mov (.t 2), []⟩,
            ⟨(some (23, false)), (some 25), .mov (.t 1), []⟩,
            ⟨(some (23, false)), (some 26), .bin .sub (.t 24) (.t 25), []⟩,
            ⟨(some (23, false)), (some 27), .bin .add (.t 26) (.c (.int .i64 1)), []⟩,
            ⟨(some (23, false)), (some 28), .bin .gtr (.t 27) (.c (.int .i64 40)), []⟩,
            ⟨none, (some 29), .pick (.t 23) (.c (.bool true)) (.t 28), []⟩,
            ⟨none, (some 19), .mov (.t 29), []⟩])
          (.cond (.t 19)
           (.seq
            (.reg [6, 7] [
              ⟨none, (some 6), .mov (.c (.slice none 0 0)), []⟩,
              ⟨none, (some 7), .mov (.c (.int .i64 3)), []⟩])
            .ret)
           .skip)))))))
    (.seq
     (.reg [8] [
       ⟨none, (some 30), .bldS 12 0 (zs 12 (.int .u16 0)) [], []⟩,
       ⟨none, (some 8), .mov (.t 30), []⟩])
     (.seq
      (.seq
       (.reg [9] [
         ⟨none, (some 31), .mov (.t 1), []⟩,
         ⟨none, (some 9), .mov (.t 31), []⟩])
       (.block 1
        (.loop b260_1)))
      (.seq
       (.reg [6, 7] [
         ⟨none, (some 43), .mov (.t 8), []⟩,
         ⟨none, (some 6), .mov (.t 43), []⟩,
         ⟨none, (some 7), .mov (.c (.int .i64 0)), []⟩])
       .ret)))))
def c260 : Fn := { np := 3, nt := 44, kind := .pure, res := [.t 6, .t 7], body := k260 }

/- spec.PlayParts -/
def b261_1 : Cd :=
  (.seq
   (.seq
    (.reg [33] [
      ⟨none, (some 31), .mov (.t 10), []⟩,
      ⟨none, (some 32), .mov (.t 2), []⟩,
      ⟨none, (some 33), .bin .leq (.t 31) (.t 32), []⟩])
    (.cond (.t 33)
     .skip
     (.exit 0)))
   (.seq
    (.block 1
     (.reg [9] [
       ⟨none, (some 36), .mov (.t 9), []⟩,
       ⟨none, (some 37), .mov (.t 0), []⟩,
       ⟨none, (some 38), .mov (.t 10), []⟩,
       ⟨none, (some 39), .call true 433 [.t 37, .t 38], []⟩,
       ⟨none, (some 40), .bldS 12 1 (zs 12 (.int .u16 0)) [(0, 12, (.t 39))], []⟩,
       ⟨none, (some 41), .app 12 24 (.t 36) (.t 40), []⟩,
       ⟨none, (some 9), .mov (.t 41), []⟩]))
    (.reg [10] [
      ⟨none, (some 34), .mov (.t 10), []⟩,
      ⟨none, (some 35), .bin .add (.t 34) (.c (.int .i64 1)), []⟩,
      ⟨none, (some 10), .mov (.t 35), []⟩])))
def k261 : Cd :=
  (.seq
   (.reg [6, 7] [
     ⟨none, (some 6), .mov (.c (.slice none 0 0)), []⟩,
     ⟨none, (some 7), .mov (.c (.int .i64 0)), []⟩])
   (.seq
    (.reg [8] [
      ⟨none, (some 11), .mov (.t 0), []⟩,
      ⟨none, (some 12), .mov (.t 1), []⟩,
      ⟨none, (some 13), .mov (.t 2), []⟩,
      ⟨none, (some 14), .call true 422 [.t 12, .t 13], []⟩,
      ⟨none, (some 15), .call true 421 [.t 11, .t 14], []⟩,
      ⟨none, (some 8), .mov (.t 15), []⟩])
    (.seq
     (.seq
      (.reg [24] [
        ⟨none, (some 16), .mov (.t 8), []⟩,
        ⟨none, (some 17), .bin .eql (.t 16) (.c (.int .i64 0)), []⟩,
        ⟨none, (some 18), .mov (.t 17), []⟩,
        ⟨(some (18, true)), (some 19), .mov (.t 2), []⟩,
        ⟨(some (18, true)), (some 20), .mov (.t 1), []⟩,
        ⟨(some (18, true)), (some 21), .bin .sub (.t 19) (.t 20), []⟩,
        ⟨(some (18, true)), (some 22), .bin .add (.t 21) (.c (.int .i64 1)), []⟩,
        ⟨(some (18, true)), (some 23), .bin .gtr (.t 22) (.c (.int .i64 40)), []⟩,
        ⟨none, (some 24), .pick (.t 18) (.t 23) (.c (.bool false)), []⟩])
      (.cond (.t 24)
       (.reg [8] [
         ⟨none, (some 8), .mov (.c (.int .i64 3)), []⟩])
       .skip))
     (.seq
      (.seq
       (.reg [26] [
         ⟨none, (some 25), .mov (.t 8), []⟩,
         ⟨none, (some 26), .bin .neq (.t 25) (.c (.int .i64 0)), []⟩])
       (.cond (.t 26)
        (.seq
         (.reg [6, 7] [
           ⟨none, (some 27), .bldS 12 0 (zs 12 (.int .u16 0)) [], []⟩,
           ⟨none, (some 28), .mov (.t 8), []⟩,
           ⟨none, (some 6), .mov (.t 27), []⟩,
           ⟨none, (some 7), .mov (.t 28), []⟩])
         .ret)
        .skip))
      (.seq
       (.reg [9] [
         ⟨none, (some 29), .bldS 12 0 (zs 12 (.int .u16 0)) [], []⟩,
         ⟨none, (some 9), .mov (.t 29), []⟩])
       (.seq
        (.seq
         (.reg [10] [
           ⟨none, (some 30), .mov (.t 1), []⟩,
           ⟨none, (some 10), .mov (.t 30), []⟩])
         (.block 0
          (.loop b261_1)))
        (.seq
         (.reg [6, 7] [
           ⟨none, (some 42), .mov (.t 9), []⟩,
           ⟨none, (some 6), .mov (.t 42), []⟩,
           ⟨none, (some 7), .mov (.c (.int .i64 0)), []⟩])
         .ret)))))))
def c261 : Fn := { np := 3, nt := 43, kind := .pure, res := [.t 6, .t 7], body := k261 }

/- spec.SameNumbers -/
def k262 : Cd :=
  (.seq
   (.reg [4] [
     ⟨none, (some 4), .mov (.c (.bool false)), []⟩])
   (.seq
    (.reg [4] [
      ⟨none, (some 5), .mov (.t 0), []⟩,
      ⟨none, (some 6), .mov (.t 1), []⟩,
      ⟨none, (some 7), .call true 356 [.t 5, .t 6], []⟩,
      ⟨none, (some 4), .mov (.t 7), []⟩])
    .ret))
def c262 : Fn := { np := 2, nt := 8, kind := .pure, res := [.t 4], body := k262 }

/- impl.ValidPart -/
def k263 : Cd :=
  (.seq
   (.reg [1, 2] [
     ⟨none, (some 1), .mov (.t 0), []⟩,
     ⟨none, (some 2), .mov (.c (.bool false)), []⟩])
   (.seq
    (.reg [2] [
      ⟨none, (some 3), .adrF 1 none 0, []⟩,
      ⟨none, (some 4), .ldV 1 (some 3) 12 true, []⟩,
      ⟨none, (some 5), .call true 234 [.t 4], []⟩,
      ⟨none, (some 6), .mov (.t 5), []⟩,
      ⟨(some (6, true)), (some 7), .adrF 1 none 13, []⟩,
      ⟨(some (6, true)), (some 8), .ldV 1 (some 7) 1 false, []⟩,
      ⟨(some (6, true)), (some 9), .call true 461 [.t 8], []⟩,
      ⟨none, (some 10), .pick (.t 6) (.t 9) (.c (.bool false)), []⟩,
      ⟨none, (some 11), .mov (.t 10), []⟩,
      ⟨(some (11, true)), (some 12), .adrF 1 none 12, []⟩,
      ⟨(some (11, true)), (some 13), .ldV 1 (some 12) 1 false, []⟩,
      ⟨(some (11, true)), (some 14), .conv .i64 (.t 13), []⟩,
      ⟨(some (11, true)), (some 15), .call true 462 [.t 14], []⟩,
      ⟨none, (some 16), .pick (.t 11) (.t 15) (.c (.bool false)), []⟩,
      ⟨none, (some 2), .mov (.t 16), []⟩])
    .ret))
def c263 : Fn := { np := 1, nt := 17, kind := .pure, res := [.t 2], body := k263 }

/- spec.CountDots -/
def k264 : Cd :=
  (.seq
   (.reg [1, 2, 3] [
     ⟨none, (some 1), .box 12 (.t 0), []⟩,
     ⟨none, (some 2), .mov (.c (.int .i64 0)), []⟩,
     ⟨none, (some 3), .mov (.c (.int .i64 0)), []⟩])
   (.seq
    (.seq
     (.reg [5] [
       ⟨none, (some 4), .call true 359 [.t 1], []⟩,
       ⟨none, (some 5), .un .not (.t 4), []⟩])
     (.cond (.t 5)
      (.seq
       (.reg [2, 3] [
         ⟨none, (some 2), .mov (.c (.int .i64 0)), []⟩,
         ⟨none, (some 3), .mov (.c (.int .i64 1)), []⟩])
       .ret)
      .skip))
    (.seq
     (.reg [2, 3] [
       ⟨none, (some 6), .call true 409 [.t 1], []⟩,
       ⟨none, (some 2), .mov (.t 6), []⟩,
       ⟨none, (some 3), .mov (.c (.int .i64 0)), []⟩])
     .ret)))
def c264 : Fn := { np := 1, nt := 7, kind := .pure, res := [.t 2, .t 3], body := k264 }

/- spec.HasNumber -/
def k265 : Cd :=
  (.seq
   (.reg [4] [
     ⟨none, (some 4), .mov (.c (.bool false)), []⟩])
   (.seq
    (.reg [4] [
      ⟨none, (some 5), .mov (.t 0), []⟩,
      ⟨none, (some 6), .mov (.t 1), []⟩,
      ⟨none, (some 7), .call true 401 [.t 5, .t 6], []⟩,
      ⟨none, (some 4), .mov (.t 7), []⟩])
    .ret))
def c265 : Fn := { np := 2, nt := 8, kind := .pure, res := [.t 4], body := k265 }

/- impl.inRange -/
def k295 : Cd :=
  (.seq
   (.reg [6] [
     ⟨none, (some 6), .mov (.c (.bool false)), []⟩])
   (.seq
    (.reg [6] [
      ⟨none, (some 7), .mov (.t 1), []⟩,
      ⟨none, (some 8), .mov (.t 0), []⟩,
      ⟨none, (some 9), .bin .leq (.t 7) (.t 8), []⟩,
      ⟨none, (some 10), .mov (.t 9), []⟩,
      ⟨(some (10, true)), (some 11), .mov (.t 0), []⟩,
      ⟨(some (10, true)), (some 12), .mov (.t 2), []⟩,
      ⟨(some (10, true)), (some 13), .bin .leq (.t 11) (.t 12), []⟩,
      ⟨none, (some 14), .pick (.t 10) (.t 13) (.c (.bool false)), []⟩,
      ⟨none, (some 6), .mov (.t 14), []⟩])
    .ret))
def c295 : Fn := { np := 3, nt := 15, kind := .pure, res := [.t 6], body := k295 }

/- spec.l00In -/
def k304 : Cd :=
  (.seq
   (.reg [6] [
     ⟨none, (some 6), .mov (.c (.bool false)), []⟩])
   (.seq
    (.reg [6] [
      ⟨none, (some 7), .mov (.t 0), []⟩,
      ⟨none, (some 8), .mov (.t 1), []⟩,
      ⟨none, (some 9), .bin .geq (.t 7) (.t 8), []⟩,
      ⟨none, (some 10), .mov (.t 9), []⟩,
      ⟨(some (10, true)), (some 11), .mov (.t 0), []⟩,
      ⟨(some (10, true)), (some 12), .mov (.t 2), []⟩,
      ⟨(some (10, true)), (some 13), .bin .leq (.t 11) (.t 12), []⟩,
      ⟨none, (some 14), .pick (.t 10) (.t 13) (.c (.bool false)), []⟩,
      ⟨none, (some 6), .mov (.t 14), []⟩])
    .ret))
def c304 : Fn := { np := 3, nt := 15, kind := .pure, res := [.t 6], body := k304 }

/- spec.l01Put -/
def k305 : Cd :=
  (.seq
   (.reg [8] [
     ⟨none, (some 6), .mov (.t 1), []⟩,
     ⟨none, (some 7), .mov (.t 2), []⟩,
     ⟨none, (some 8), .call true 342 [.t 6, .t 7], []⟩])
   (.cond (.t 8)
    (.reg [] [
      ⟨none, (some 9), .mov (.t 0), []⟩,
      ⟨none, (some 10), .mov (.t 2), []⟩,
      ⟨none, (some 11), .mov (.t 0), []⟩,
      ⟨none, (some 12), .mov (.t 2), []⟩,
      ⟨none, (some 13), .nil (.t 11), []⟩,
      ⟨none, (some 14), .idxP 12 1 (.t 13) (.t 12), []⟩,
      ⟨none, (some 15), .ld 1 false (.t 14), []⟩,
      ⟨none, (some 16), .mov (.t 1), []⟩,
      ⟨none, (some 17), .conv .u64 (.t 16), []⟩,
      ⟨none, (some 18), .bin .shl (.c (.int .u16 1)) (.t 17), []⟩,
      ⟨none, (some 19), .bin .or (.t 15) (.t 18), []⟩,
      ⟨none, (some 20), .nil (.t 9), []⟩,
      ⟨none, (some 21), .idxP 12 1 (.t 20) (.t 10), []⟩,
      ⟨none, none, .st 1 (.t 21) (.t 19), []⟩])
    .skip))
def c305 : Fn := { np := 3, nt := 22, kind := .args, res := [], body := k305 }

/- spec.l00From -/
def k315 : Cd :=
  (.seq
   (.reg [2] [
     ⟨none, (some 2), .mov (.c (.pointer none)), []⟩])
   (.seq
    (.reg [2] [
      ⟨none, (some 3), .mov (.t 0), []⟩,
      ⟨none, (some 4), .agg [.slice none 0 0, .int .i64 0, .int .u64 0] [(0, 1, (.t 3))], []⟩,
      ⟨none, (some 5), .box 3 (.t 4), []⟩,
      ⟨none, (some 2), .mov (.t 5), []⟩])
    .ret))
def c315 : Fn := { np := 1, nt := 6, kind := .pure, res := [.t 2], body := k315 }

/- spec.l02Same -/
def b323_1 : Cd :=
  (.seq
   (.seq
    (.reg [14] [
      ⟨none, (some 11), .mov (.t 5), []⟩,
      ⟨none, (some 12), .mov (.t 0), []⟩,
      ⟨none, (some 13), .len (.t 12), []⟩,
      ⟨none, (some 14), .bin .lss (.t 11) (.t 13), []⟩])
    (.cond (.t 14)
     .skip
     (.exit 0)))
   (.seq
    (.block 1
     (.seq
      (.reg [25] [
        ⟨none, (some 17), .mov (.t 0), []⟩,
        ⟨none, (some 18), .mov (.t 5), []⟩,
        ⟨none, (some 19), .idxA 12 (.t 17) (.t 18), []⟩,
        ⟨none, (some 20), .ld 12 true (.t 19), []⟩,
        ⟨none, (some 21), .mov (.t 1), []⟩,
        ⟨none, (some 22), .mov (.t 5), []⟩,
        ⟨none, (some 23), .idxA 12 (.t 21) (.t 22), []⟩,
        ⟨none, (some 24), .ld 12 true (.t 23), []⟩,
        ⟨none, (some 25), .eq (.a (rb 12 (some .u16))) true (.t 20) (.t 24), []⟩])
      (.cond (.t 25)
       (.seq
        (.reg [4] [
          ⟨none, (some 4), .mov (.c (.bool false)), []⟩])
        .ret)
       .skip)))
    (.reg [5] [
      ⟨none, (some 15), .mov (.t 5), []⟩,
      ⟨none, (some 16), .bin .add (.t 15) (.c (.int .i64 1)), []⟩,
      ⟨none, (some 5), .mov (.t 16), []⟩])))
def k323 : Cd :=
  (.seq
   (.reg [4] [
     ⟨none, (some 4), .mov (.c (.bool false)), []⟩])
   (.seq
    (.seq
     (.reg [10] [
       ⟨none, (some 6), .mov (.t 0), []⟩,
       ⟨none, (some 7), .len (.t 6), []⟩,
       ⟨none, (some 8), .mov (.t 1), []⟩,
       ⟨none, (some 9), .len (.t 8), []⟩,
       ⟨none, (some 10), .bin .neq (.t 7) (.t 9), []⟩])
     (.cond (.t 10)
      (.seq
       (.reg [4] [
         ⟨none, (some 4), .mov (.c (.bool false)), []⟩])
       .ret)
      .skip))
    (.seq
     (.seq
      (.reg [5] [
        ⟨none, (some 5), .mov (.c (.int .i64 0)), []⟩])
      (.block 0
       (.loop b323_1)))
     (.seq
      (.reg [4] [
        ⟨none, (some 4), .mov (.c (.bool true)), []⟩])
      .ret))))
def c323 : Fn := { np := 2, nt := 26, kind := .pure, res := [.t 4], body := k323 }

/- spec.l01Both -/
def k327 : Cd :=
  (.seq
   (.reg [4] [
     ⟨none, (some 4), .mov (.c (.int .i64 0)), []⟩])
   (.seq
    (.seq
     (.reg [12] [
       ⟨none, (some 5), .mov (.t 0), []⟩,
       ⟨none, (some 6), .call true 359 [.t 5], []⟩,
       ⟨none, (some 7), .un .not (.t 6), []⟩,
       ⟨none, (some 8), .mov (.t 7), []⟩,
       ⟨(some (8, false)), (some 9), .mov (.t 1), []⟩,
       ⟨(some (8, false)), (some 10), .call true 359 [.t 9], []⟩,
       ⟨(some (8, false)), (some 11), .un .not (.t 10), []⟩,
       ⟨none, (some 12), .pick (.t 8) (.c (.bool true)) (.t 11), []⟩])
     (.cond (.t 12)
      (.seq
       (.reg [4] [
         ⟨none, (some 4), .mov (.c (.int .i64 1)), []⟩])
       .ret)
      .skip))
    (.seq
     (.reg [4] [
       ⟨none, (some 4), .mov (.c (.int .i64 0)), []⟩])
     .ret)))
def c327 : Fn := { np := 2, nt := 13, kind := .pure, res := [.t 4], body := k327 }

/- spec.l01Join -/
def b337_1 : Cd :=
  (.seq
   (.seq
    (.reg [9] [
      ⟨none, (some 8), .mov (.t 6), []⟩,
      ⟨none, (some 9), .bin .lss (.t 8) (.c (.int .i64 12)), []⟩])
    (.cond (.t 9)
     .skip
     (.exit 0)))
   (.seq
    (.block 1
     (.reg [5] [
       ⟨none, (some 12), .mov (.t 6), []⟩,
       ⟨none, (some 13), .mov (.t 0), []⟩,
       ⟨none, (some 14), .mov (.t 6), []⟩,
       ⟨none, (some 15), .nil (.t 13), []⟩,
       ⟨none, (some 16), .idxP 12 1 (.t 15) (.t 14), []⟩,
       ⟨none, (some 17), .ld 1 false (.t 16), []⟩,
       ⟨none, (some 18), .mov (.t 1), []⟩,
       ⟨none, (some 19), .mov (.t 6), []⟩,
       ⟨none, (some 20), .nil (.t 18), []⟩,
       ⟨none, (some 21), .idxP 12 1 (.t 20) (.t 19), []⟩,
       ⟨none, (some 22), .ld 1 false (.t 21), []⟩,
       ⟨none, (some 23), .bin .or (.t 17) (.t 22), []⟩,
       ⟨none, (some 24), .adrI 5 none 12 1 (.t 12), []⟩,
       ⟨none, (some 5), .stV 5 (some 24) 1 (.t 23), []⟩]))
    (.reg [6] [
      ⟨none, (some 10), .mov (.t 6), []⟩,
      ⟨none, (some 11), .bin .add (.t 10) (.c (.int .i64 1)), []⟩,
      ⟨none, (some 6), .mov (.t 11), []⟩])))
def k337 : Cd :=
  (.seq
   (.reg [4] [
     ⟨none, (some 4), .zero true (zs 12 (.int .u16 0)), []⟩])
   (.seq
    (.reg [5] [
      ⟨none, (some 7), .agg (zs 12 (.int .u16 0)) [], []⟩,
      ⟨none, (some 5), .zero true (zs 12 (.int .u16 0)), []⟩,
      ⟨none, (some 5), .stV 5 none 12 (.t 7), []⟩])
    (.seq
     (.seq
      (.reg [6] [
        ⟨none, (some 6), .mov (.c (.int .i64 0)), []⟩])
      (.block 0
       (.loop b337_1)))
     (.seq
      (.reg [4] [
        ⟨none, (some 25), .ldV 5 none 12 true, []⟩,
        ⟨none, (some 4), .stV 4 none 12 (.t 25), []⟩])
      .ret))))
def c337 : Fn := { np := 2, nt := 26, kind := .pure, res := [.v 4 12 true], body := k337 }

/- (impl.Frame).join -/
def k338 : Cd :=
  (.seq
   (.reg [2, 3, 4] [
     ⟨none, (some 2), .mov (.t 0), []⟩,
     ⟨none, (some 3), .mov (.t 1), []⟩,
     ⟨none, (some 4), .zero true (zs 12 (.int .u16 0)), []⟩])
   (.seq
    (.reg [4] [
      ⟨none, (some 5), .ldV 2 none 12 true, []⟩,
      ⟨none, (some 6), .ldV 3 none 12 true, []⟩,
      ⟨none, (some 7), .call true 443 [.t 5, .t 6, .f 502], []⟩,
      ⟨none, (some 4), .stV 4 none 12 (.t 7), []⟩])
    .ret))
def c338 : Fn := { np := 2, nt := 8, kind := .pure, res := [.v 4 12 true], body := k338 }

/- spec.l01Place -/
def k342 : Cd :=
  (.seq
   (.reg [4] [
     ⟨none, (some 4), .mov (.c (.bool false)), []⟩])
   (.seq
    (.reg [4] [
      ⟨none, (some 5), .mov (.t 0), []⟩,
      ⟨none, (some 6), .call true 304 [.t 5, .c (.int .i64 0), .c (.int .i64 11)], []⟩,
      ⟨none, (some 7), .mov (.t 6), []⟩,
      ⟨(some (7, true)), (some 8), .mov (.t 1), []⟩,
      ⟨(some (7, true)), (some 9), .call true 304 [.t 8, .c (.int .i64 0), .c (.int .i64 11)], []⟩,
      ⟨none, (some 10), .pick (.t 7) (.t 9) (.c (.bool false)), []⟩,
      ⟨none, (some 4), .mov (.t 10), []⟩])
    .ret))
def c342 : Fn := { np := 2, nt := 11, kind := .pure, res := [.t 4], body := k342 }

/- (impl.Frame).meet -/
def k348 : Cd :=
  (.seq
   (.reg [2, 3, 4] [
     ⟨none, (some 2), .mov (.t 0), []⟩,
     ⟨none, (some 3), .mov (.t 1), []⟩,
     ⟨none, (some 4), .zero true (zs 12 (.int .u16 0)), []⟩])
   (.seq
    (.reg [4] [
      ⟨none, (some 5), .ldV 2 none 12 true, []⟩,
      ⟨none, (some 6), .ldV 3 none 12 true, []⟩,
      ⟨none, (some 7), .call true 443 [.t 5, .t 6, .f 503], []⟩,
      ⟨none, (some 4), .stV 4 none 12 (.t 7), []⟩])
    .ret))
def c348 : Fn := { np := 2, nt := 8, kind := .pure, res := [.v 4 12 true], body := k348 }

/- spec.l01Moved -/
def b355_1 : Cd :=
  (.seq
   (.seq
    (.reg [16] [
      ⟨none, (some 13), .mov (.t 9), []⟩,
      ⟨none, (some 14), .mov (.t 8), []⟩,
      ⟨none, (some 15), .len (.t 14), []⟩,
      ⟨none, (some 16), .bin .lss (.t 13) (.t 15), []⟩])
    (.cond (.t 16)
     .skip
     (.exit 0)))
   (.seq
    (.block 1
     (.reg [] [
       ⟨none, (some 19), .mov (.t 8), []⟩,
       ⟨none, (some 20), .mov (.t 9), []⟩,
       ⟨none, (some 21), .idxA 2 (.t 19) (.t 20), []⟩,
       ⟨none, (some 22), .fldP 0 (.t 21), []⟩,
       ⟨none, (some 23), .ld 1 false (.t 22), []⟩,
       ⟨none, (some 24), .conv .i64 (.t 23), []⟩,
       ⟨none, (some 25), .mov (.t 1), []⟩,
       ⟨none, (some 26), .bin .add (.t 24) (.t 25), []⟩,
       ⟨none, (some 27), .mov (.t 8), []⟩,
       ⟨none, (some 28), .mov (.t 9), []⟩,
       ⟨none, (some 29), .idxA 2 (.t 27) (.t 28), []⟩,
       ⟨none, (some 30), .fldP 1 (.t 29), []⟩,
       ⟨none, (some 31), .ld 1 false (.t 30), []⟩,
       ⟨none, (some 32), .conv .i64 (.t 31), []⟩,
       ⟨none, (some 33), .mov (.t 2), []⟩,
       ⟨none, (some 34), .bin .add (.t 32) (.t 33), []⟩,
       ⟨none, (some 35), .call false 305 [.t 7, .t 26, .t 34], []⟩]))
    (.reg [9] [
      ⟨none, (some 17), .mov (.t 9), []⟩,
      ⟨none, (some 18), .bin .add (.t 17) (.c (.int .i64 1)), []⟩,
      ⟨none, (some 9), .mov (.t 18), []⟩])))
def k355 : Cd :=
  (.seq
   (.reg [6] [
     ⟨none, (some 6), .zero true (zs 12 (.int .u16 0)), []⟩])
   (.seq
    (.reg [7] [
      ⟨none, (some 10), .agg (zs 12 (.int .u16 0)) [], []⟩,
      ⟨none, (some 7), .new 1 (zs 12 (.int .u16 0)), []⟩,
      ⟨none, none, .st 12 (.t 7) (.t 10), []⟩])
    (.seq
     (.reg [8] [
       ⟨none, (some 11), .mov (.t 0), []⟩,
       ⟨none, (some 12), .call true 440 [.t 11], []⟩,
       ⟨none, (some 8), .mov (.t 12), []⟩])
     (.seq
      (.seq
       (.reg [9] [
         ⟨none, (some 9), .mov (.c (.int .i64 0)), []⟩])
       (.block 0
        (.loop b355_1)))
      (.seq
       (.reg [6] [
         ⟨none, (some 36), .ld 12 true (.t 7), []⟩,
         ⟨none, (some 6), .stV 6 none 12 (.t 36), []⟩])
       .ret)))))
def c355 : Fn := { np := 3, nt := 37, kind := .pure, res := [.v 6 12 true], body := k355 }

/- spec.l00Same -/
def b356_1 : Cd :=
  (.seq
   (.seq
    (.reg [14] [
      ⟨none, (some 11), .mov (.t 5), []⟩,
      ⟨none, (some 12), .mov (.t 0), []⟩,
      ⟨none, (some 13), .len (.t 12), []⟩,
      ⟨none, (some 14), .bin .lss (.t 11) (.t 13), []⟩])
    (.cond (.t 14)
     .skip
     (.exit 0)))
   (.seq
    (.block 1
     (.seq
      (.reg [25] [
        ⟨none, (some 17), .mov (.t 0), []⟩,
        ⟨none, (some 18), .mov (.t 5), []⟩,
        ⟨none, (some 19), .idxA 1 (.t 17) (.t 18), []⟩,
        ⟨none, (some 20), .ld 1 false (.t 19), []⟩,
        ⟨none, (some 21), .mov (.t 1), []⟩,
        ⟨none, (some 22), .mov (.t 5), []⟩,
        ⟨none, (some 23), .idxA 1 (.t 21) (.t 22), []⟩,
        ⟨none, (some 24), .ld 1 false (.t 23), []⟩,
        ⟨none, (some 25), .bin .neq (.t 20) (.t 24), []⟩])
      (.cond (.t 25)
       (.seq
        (.reg [4] [
          ⟨none, (some 4), .mov (.c (.bool false)), []⟩])
        .ret)
       .skip)))
    (.reg [5] [
      ⟨none, (some 15), .mov (.t 5), []⟩,
      ⟨none, (some 16), .bin .add (.t 15) (.c (.int .i64 1)), []⟩,
      ⟨none, (some 5), .mov (.t 16), []⟩])))
def k356 : Cd :=
  (.seq
   (.reg [4] [
     ⟨none, (some 4), .mov (.c (.bool false)), []⟩])
   (.seq
    (.seq
     (.reg [10] [
       ⟨none, (some 6), .mov (.t 0), []⟩,
       ⟨none, (some 7), .len (.t 6), []⟩,
       ⟨none, (some 8), .mov (.t 1), []⟩,
       ⟨none, (some 9), .len (.t 8), []⟩,
       ⟨none, (some 10), .bin .neq (.t 7) (.t 9), []⟩])
     (.cond (.t 10)
      (.seq
       (.reg [4] [
         ⟨none, (some 4), .mov (.c (.bool false)), []⟩])
       .ret)
      .skip))
    (.seq
     (.seq
      (.reg [5] [
        ⟨none, (some 5), .mov (.c (.int .i64 0)), []⟩])
      (.block 0
       (.loop b356_1)))
     (.seq
      (.reg [4] [
        ⟨none, (some 4), .mov (.c (.bool true)), []⟩])
      .ret))))
def c356 : Fn := { np := 2, nt := 26, kind := .pure, res := [.t 4], body := k356 }

/- (impl.Frame).moved -/
def b358_1 : Cd :=
  (.seq
   (.reg [16] [
     ⟨none, (some 16), .bin .lss (.t 15) (.c (.int .i64 12)), []⟩])
   (.seq
    (.cond (.t 16)
     .skip
     (.exit 0))
    (.seq
     (.block 1
      (.seq
       (.reg [8] [
         ⟨none, (some 17), .mov (.t 15), []⟩,
         ⟨none, (some 8), .mov (.t 17), []⟩])
       (.seq
        (.reg [9] [
          ⟨none, (some 18), .mov (.t 8), []⟩,
          ⟨none, (some 19), .mov (.t 2), []⟩,
          ⟨none, (some 20), .bin .sub (.t 18) (.t 19), []⟩,
          ⟨none, (some 9), .mov (.t 20), []⟩])
        (.seq
         (.seq
          (.reg [23] [
            ⟨none, (some 21), .mov (.t 9), []⟩,
            ⟨none, (some 22), .call true 295 [.t 21, .c (.int .i64 0), .c (.int .i64 11)], []⟩,
            ⟨none, (some 23), .un .not (.t 22), []⟩])
          (.cond (.t 23)
           (.exit 1)
           .skip))
         (.seq
          (.reg [25] [
            ⟨none, (some 24), .mov (.t 1), []⟩,
            ⟨none, (some 25), .bin .geq (.t 24) (.c (.int .i64 0)), []⟩])
          (.cond (.t 25)
           (.reg [7] [
             ⟨none, (some 26), .mov (.t 8), []⟩,
             ⟨none, (some 27), .mov (.t 9), []⟩,
             ⟨none, (some 28), .adrI 3 none 12 1 (.t 27), []⟩,
             ⟨none, (some 29), .ldV 3 (some 28) 1 false, []⟩,
             ⟨none, (some 30), .mov (.t 1), []⟩,
             ⟨none, (some 31), .bin .shl (.t 29) (.t 30), []⟩,
             ⟨none, (some 32), .bin .and (.t 31) (.c (.int .u16 4095)), []⟩,
             ⟨none, (some 33), .adrI 7 none 12 1 (.t 26), []⟩,
             ⟨none, (some 7), .stV 7 (some 33) 1 (.t 32), []⟩])
           (.reg [7] [
             ⟨none, (some 34), .mov (.t 8), []⟩,
             ⟨none, (some 35), .mov (.t 9), []⟩,
             ⟨none, (some 36), .adrI 3 none 12 1 (.t 35), []⟩,
             ⟨none, (some 37), .ldV 3 (some 36) 1 false, []⟩,
             ⟨none, (some 38), .mov (.t 1), []⟩,
             ⟨none, (some 39), .un .neg (.t 38), []⟩,
             ⟨none, (some 40), .bin .shr (.t 37) (.t 39), []⟩,
             ⟨none, (some 41), .adrI 7 none 12 1 (.t 34), []⟩,
             ⟨none, (some 7), .stV 7 (some 41) 1 (.t 40), []⟩])))))))
     (.reg [15] [
       ⟨none, (some 42), .bin .add (.t 15) (.c (.int .i64 1)), []⟩,
       ⟨none, (some 15), .mov (.t 42), []⟩]))))
def k358 : Cd :=
  (.seq
   (.reg [3, 6] [
     ⟨none, (some 3), .mov (.t 0), []⟩,
     ⟨none, (some 6), .zero true (zs 12 (.int .u16 0)), []⟩])
   (.seq
    (.reg [7] [
      ⟨none, (some 10), .agg (zs 12 (.int .u16 0)) [], []⟩,
      ⟨none, (some 7), .zero true (zs 12 (.int .u16 0)), []⟩,
      ⟨none, (some 7), .stV 7 none 12 (.t 10), []⟩])
    (.seq
     (.seq
      (.reg [13] [
        ⟨none, (some 11), .mov (.t 1), []⟩,
        ⟨none, (some 12), .call true 295 [.t 11, .c (.int .i64 (-12)), .c (.int .i64 12)], []⟩,
        ⟨none, (some 13), .un .not (.t 12), []⟩])
      (.cond (.t 13)
       (.seq
        (.reg [6] [
          ⟨none, (some 14), .ldV 7 none 12 true, []⟩,
          ⟨none, (some 6), .stV 6 none 12 (.t 14), []⟩])
        .ret)
       .skip))
     (.seq
      (.seq
       (.reg [15] [
         ⟨none, (some 15), .mov (.c (.int .i64 0)), []⟩])
       (.block 0
        (.loop b358_1)))
      (.seq
       (.reg [6] [
         ⟨none, (some 43), .ldV 7 none 12 true, []⟩,
         ⟨none, (some 6), .stV 6 none 12 (.t 43), []⟩])
       .ret)))))
def c358 : Fn := { np := 3, nt := 44, kind := .pure, res := [.v 6 12 true], body := k358 }

/- spec.l01Ok -/
def b359_1 : Cd :=
  (.seq
   (.seq
    (.reg [5] [
      ⟨none, (some 4), .mov (.t 3), []⟩,
      ⟨none, (some 5), .bin .lss (.t 4) (.c (.int .i64 12)), []⟩])
    (.cond (.t 5)
     .skip
     (.exit 0)))
   (.seq
    (.block 1
     (.seq
      (.reg [13] [
        ⟨none, (some 8), .mov (.t 0), []⟩,
        ⟨none, (some 9), .mov (.t 3), []⟩,
        ⟨none, (some 10), .nil (.t 8), []⟩,
        ⟨none, (some 11), .idxP 12 1 (.t 10) (.t 9), []⟩,
        ⟨none, (some 12), .ld 1 false (.t 11), []⟩,
        ⟨none, (some 13), .bin .gtr (.t 12) (.c (.int .u16 4095)), []⟩])
      (.cond (.t 13)
       (.seq
        (.reg [2] [
          ⟨none, (some 2), .mov (.c (.bool false)), []⟩])
        .ret)
       .skip)))
    (.reg [3] [
      ⟨none, (some 6), .mov (.t 3), []⟩,
      ⟨none, (some 7), .bin .add (.t 6) (.c (.int .i64 1)), []⟩,
      ⟨none, (some 3), .mov (.t 7), []⟩])))
def k359 : Cd :=
  (.seq
   (.reg [2] [
     ⟨none, (some 2), .mov (.c (.bool false)), []⟩])
   (.seq
    (.seq
     (.reg [3] [
       ⟨none, (some 3), .mov (.c (.int .i64 0)), []⟩])
     (.block 0
      (.loop b359_1)))
    (.seq
     (.reg [2] [
       ⟨none, (some 2), .mov (.c (.bool true)), []⟩])
     .ret)))
def c359 : Fn := { np := 1, nt := 14, kind := .pure, res := [.t 2], body := k359 }

/- spec.l01Drawn -/
def b368_1 : Cd :=
  (.seq
   (.seq
    (.reg [16] [
      ⟨none, (some 15), .mov (.t 6), []⟩,
      ⟨none, (some 16), .bin .gtr (.t 15) (.c (.int .i64 0)), []⟩])
    (.cond (.t 16)
     .skip
     (.exit 0)))
   (.seq
    (.block 1
     (.seq
      (.reg [] [
        ⟨none, (some 19), .mov (.t 4), []⟩,
        ⟨none, (some 20), .mov (.t 5), []⟩,
        ⟨none, (some 21), .call false 305 [.t 3, .t 19, .t 20], []⟩])
      (.seq
       (.reg [23] [
         ⟨none, (some 22), .mov (.t 0), []⟩,
         ⟨none, (some 23), .call false 459 [.t 22, .c (.int .i64 6)], []⟩])
       (.block 2
        (.seq
         (.reg [30] [
           ⟨none, (some 31), .bin .eql (.t 23) (.c (.int .i64 0)), []⟩,
           ⟨none, (some 30), .mov (.t 31), []⟩])
         (.cond (.t 30)
          (.seq
           (.reg [4] [
             ⟨none, (some 32), .mov (.t 0), []⟩,
             ⟨none, (some 33), .call false 459 [.t 32, .c (.int .i64 12)], []⟩,
             ⟨none, (some 4), .mov (.t 33), []⟩])
           (.reg [5] [
             ⟨none, (some 34), .mov (.t 0), []⟩,
             ⟨none, (some 35), .call false 459 [.t 34, .c (.int .i64 12)], []⟩,
             ⟨none, (some 5), .mov (.t 35), []⟩]))
          (.seq
           (.seq
            (.reg [36] [
              ⟨none, (some 37), .bin .eql (.t 23) (.c (.int .i64 1)), []⟩,
              ⟨none, (some 36), .mov (.t 37), []⟩])
            (.cond (.t 36)
             .skip
             (.reg [36] [
               ⟨none, (some 38), .bin .eql (.t 23) (.c (.int .i64 2)), []⟩,
               ⟨none, (some 36), .mov (.t 38), []⟩])))
           (.cond (.t 36)
            (.reg [4] [
              ⟨none, (some 39), .mov (.t 4), []⟩,
              ⟨none, (some 40), .bin .add (.t 39) (.c (.int .i64 1)), []⟩,
              ⟨none, (some 41), .bin .rem (.t 40) (.c (.int .i64 12)), []⟩,
              ⟨none, (some 4), .mov (.t 41), []⟩])
            (.reg [5] [
              ⟨none, (some 24), .mov (.t 5), []⟩,
              ⟨none, (some 25), .mov (.t 0), []⟩,
              ⟨none, (some 26), .call false 459 [.t 25, .c (.int .i64 3)], []⟩,
              ⟨none, (some 27), .bin .add (.t 24) (.t 26), []⟩,
              ⟨none, (some 28), .bin .add (.t 27) (.c (.int .i64 11)), []⟩,
              ⟨none, (some 29), .bin .rem (.t 28) (.c (.int .i64 12)), []⟩,
              ⟨none, (some 5), .mov (.t 29), []⟩])))))))))
    (.reg [6] [
      ⟨none, (some 17), .mov (.t 6), []⟩,
      ⟨none, (some 18), .bin .sub (.t 17) (.c (.int .i64 1)), []⟩,
      ⟨none, (some 6), .mov (.t 18), []⟩])))
def b368_2 : Cd :=
  (.seq
   (.seq
    (.reg [45] [
      ⟨none, (some 44), .mov (.t 7), []⟩,
      ⟨none, (some 45), .bin .lss (.t 44) (.c (.int .i64 12)), []⟩])
    (.cond (.t 45)
     .skip
     (.exit 3)))
   (.seq
    (.block 4
     (.reg [] [
       ⟨none, (some 48), .mov (.t 7), []⟩,
       ⟨none, (some 49), .mov (.t 7), []⟩,
       ⟨none, (some 50), .idxP 12 1 (.t 3) (.t 49), []⟩,
       ⟨none, (some 51), .ld 1 false (.t 50), []⟩,
       ⟨none, (some 52), .mov (.t 0), []⟩,
       ⟨none, (some 53), .call false 459 [.t 52, .c (.int .i64 4096)], [.t 50]⟩,
       ⟨none, (some 54), .conv .u16 (.t 53), []⟩,
       ⟨none, (some 55), .bin .or (.t 51) (.t 54), []⟩,
       ⟨none, (some 56), .idxP 12 1 (.t 3) (.t 48), []⟩,
       ⟨none, none, .st 1 (.t 56) (.t 55), []⟩]))
    (.reg [7] [
      ⟨none, (some 46), .mov (.t 7), []⟩,
      ⟨none, (some 47), .bin .add (.t 46) (.c (.int .i64 1)), []⟩,
      ⟨none, (some 7), .mov (.t 47), []⟩])))
def k368 : Cd :=
  (.seq
   (.reg [2] [
     ⟨none, (some 2), .zero true (zs 12 (.int .u16 0)), []⟩])
   (.seq
    (.reg [3] [
      ⟨none, (some 8), .agg (zs 12 (.int .u16 0)) [], []⟩,
      ⟨none, (some 3), .new 1 (zs 12 (.int .u16 0)), []⟩,
      ⟨none, none, .st 12 (.t 3) (.t 8), []⟩])
    (.seq
     (.reg [4] [
       ⟨none, (some 9), .mov (.t 0), []⟩,
       ⟨none, (some 10), .call false 459 [.t 9, .c (.int .i64 12)], []⟩,
       ⟨none, (some 4), .mov (.t 10), []⟩])
     (.seq
      (.reg [5] [
        ⟨none, (some 11), .mov (.t 0), []⟩,
        ⟨none, (some 12), .call false 459 [.t 11, .c (.int .i64 12)], []⟩,
        ⟨none, (some 5), .mov (.t 12), []⟩])
      (.seq
       (.seq
        (.reg [6] [
          ⟨none, (some 13), .mov (.t 0), []⟩,
          ⟨none, (some 14), .call false 459 [.t 13, .c (.int .i64 14)], []⟩,
          ⟨none, (some 6), .mov (.t 14), []⟩])
        (.block 0
         (.loop b368_1)))
       (.seq
        (.seq
         (.reg [43] [
           ⟨none, (some 42), .mov (.t 0), []⟩,
           ⟨none, (some 43), .call false 513 [.t 42, .c (.int .i64 8)], []⟩])
         (.cond (.t 43)
          (.seq
           (.reg [7] [
             ⟨none, (some 7), .mov (.c (.int .i64 0)), []⟩])
           (.block 3
            (.loop b368_2)))
          .skip))
        (.seq
         (.reg [2] [
           ⟨none, (some 57), .ld 12 true (.t 3), []⟩,
           ⟨none, (some 2), .stV 2 none 12 (.t 57), []⟩])
         .ret)))))))
def c368 : Fn := { np := 1, nt := 58, kind := .args, res := [.v 2 12 true], body := k368 }

/- (impl.Frame).count -/
def b393_1 : Cd :=
  (.seq
   (.reg [8] [
     ⟨none, (some 8), .bin .lss (.t 7) (.c (.int .i64 12)), []⟩])
   (.seq
    (.cond (.t 8)
     .skip
     (.exit 0))
    (.seq
     (.block 1
      (.seq
       (.reg [5] [
         ⟨none, (some 9), .idx 12 1 false (.t 6) (.t 7), []⟩,
         ⟨none, (some 5), .mov (.t 9), []⟩])
       (.reg [3] [
         ⟨none, (some 10), .mov (.t 3), []⟩,
         ⟨none, (some 11), .mov (.t 5), []⟩,
         ⟨none, (some 12), .call true 530 [.t 11], []⟩,
         ⟨none, (some 13), .bin .add (.t 10) (.t 12), []⟩,
         ⟨none, (some 3), .mov (.t 13), []⟩])))
     (.reg [7] [
       ⟨none, (some 14), .bin .add (.t 7) (.c (.int .i64 1)), []⟩,
       ⟨none, (some 7), .mov (.t 14), []⟩]))))
def k393 : Cd :=
  (.seq
   (.reg [1, 2] [
     ⟨none, (some 1), .mov (.t 0), []⟩,
     ⟨none, (some 2), .mov (.c (.int .i64 0)), []⟩])
   (.seq
    (.reg [3] [
      ⟨none, (some 3), .mov (.c (.int .i64 0)), []⟩])
    (.seq
     (.seq
      (.reg [6, 7] [
        ⟨none, (some 6), .ldV 1 none 12 true, []⟩,
        ⟨none, (some 7), .mov (.c (.int .i64 0)), []⟩])
      (.block 0
       (.loop b393_1)))
     (.seq
      (.reg [2] [
        ⟨none, (some 15), .mov (.t 3), []⟩,
        ⟨none, (some 2), .mov (.t 15), []⟩])
      .ret))))
def c393 : Fn := { np := 1, nt := 16, kind := .pure, res := [.t 2], body := k393 }

/- spec.l00Has -/
def b401_1 : Cd :=
  (.seq
   (.seq
    (.reg [9] [
      ⟨none, (some 6), .mov (.t 5), []⟩,
      ⟨none, (some 7), .mov (.t 0), []⟩,
      ⟨none, (some 8), .len (.t 7), []⟩,
      ⟨none, (some 9), .bin .lss (.t 6) (.t 8), []⟩])
    (.cond (.t 9)
     .skip
     (.exit 0)))
   (.seq
    (.block 1
     (.seq
      (.reg [17] [
        ⟨none, (some 12), .mov (.t 0), []⟩,
        ⟨none, (some 13), .mov (.t 5), []⟩,
        ⟨none, (some 14), .idxA 1 (.t 12) (.t 13), []⟩,
        ⟨none, (some 15), .ld 1 false (.t 14), []⟩,
        ⟨none, (some 16), .mov (.t 1), []⟩,
        ⟨none, (some 17), .bin .eql (.t 15) (.t 16), []⟩])
      (.cond (.t 17)
       (.seq
        (.reg [4] [
          ⟨none, (some 4), .mov (.c (.bool true)), []⟩])
        .ret)
       .skip)))
    (.reg [5] [
      ⟨none, (some 10), .mov (.t 5), []⟩,
      ⟨none, (some 11), .bin .add (.t 10) (.c (.int .i64 1)), []⟩,
      ⟨none, (some 5), .mov (.t 11), []⟩])))
def k401 : Cd :=
  (.seq
   (.reg [4] [
     ⟨none, (some 4), .mov (.c (.bool false)), []⟩])
   (.seq
    (.seq
     (.reg [5] [
       ⟨none, (some 5), .mov (.c (.int .i64 0)), []⟩])
     (.block 0
      (.loop b401_1)))
    (.seq
     (.reg [4] [
       ⟨none, (some 4), .mov (.c (.bool false)), []⟩])
     .ret)))
def c401 : Fn := { np := 2, nt := 18, kind := .pure, res := [.t 4], body := k401 }

/- spec.l01Count -/
def k409 : Cd :=
  (.seq
   (.reg [2] [
     ⟨none, (some 2), .mov (.c (.int .i64 0)), []⟩])
   (.seq
    (.reg [2] [
      ⟨none, (some 3), .mov (.t 0), []⟩,
      ⟨none, (some 4), .call true 440 [.t 3], []⟩,
      ⟨none, (some 5), .len (.t 4), []⟩,
      ⟨none, (some 2), .mov (.t 5), []⟩])
    .ret))
def c409 : Fn := { np := 1, nt := 6, kind := .pure, res := [.t 2], body := k409 }

/- spec.l03Parts -/
def b421_1 : Cd :=
  (.seq
   (.seq
    (.reg [9] [
      ⟨none, (some 6), .mov (.t 5), []⟩,
      ⟨none, (some 7), .mov (.t 0), []⟩,
      ⟨none, (some 8), .len (.t 7), []⟩,
      ⟨none, (some 9), .bin .lss (.t 6) (.t 8), []⟩])
    (.cond (.t 9)
     .skip
     (.exit 0)))
   (.seq
    (.block 1
     (.seq
      (.reg [16] [
        ⟨none, (some 12), .mov (.t 0), []⟩,
        ⟨none, (some 13), .mov (.t 5), []⟩,
        ⟨none, (some 14), .idxA 14 (.t 12) (.t 13), []⟩,
        ⟨none, (some 15), .call true 537 [.t 14], []⟩,
        ⟨none, (some 16), .un .not (.t 15), []⟩])
      (.cond (.t 16)
       (.seq
        (.reg [4] [
          ⟨none, (some 4), .mov (.c (.int .i64 1)), []⟩])
        .ret)
       .skip)))
    (.reg [5] [
      ⟨none, (some 10), .mov (.t 5), []⟩,
      ⟨none, (some 11), .bin .add (.t 10) (.c (.int .i64 1)), []⟩,
      ⟨none, (some 5), .mov (.t 11), []⟩])))
def k421 : Cd :=
  (.seq
   (.reg [4] [
     ⟨none, (some 4), .mov (.c (.int .i64 0)), []⟩])
   (.seq
    (.seq
     (.reg [5] [
       ⟨none, (some 5), .mov (.c (.int .i64 0)), []⟩])
     (.block 0
      (.loop b421_1)))
    (.seq
     (.seq
      (.reg [18] [
        ⟨none, (some 17), .mov (.t 1), []⟩,
        ⟨none, (some 18), .un .not (.t 17), []⟩])
      (.cond (.t 18)
       (.seq
        (.reg [4] [
          ⟨none, (some 4), .mov (.c (.int .i64 2)), []⟩])
        .ret)
       .skip))
     (.seq
      (.seq
       (.reg [21] [
         ⟨none, (some 19), .mov (.t 0), []⟩,
         ⟨none, (some 20), .len (.t 19), []⟩,
         ⟨none, (some 21), .bin .gtr (.t 20) (.c (.int .i64 6)), []⟩])
       (.cond (.t 21)
        (.seq
         (.reg [4] [
           ⟨none, (some 4), .mov (.c (.int .i64 3)), []⟩])
         .ret)
        .skip))
      (.seq
       (.reg [4] [
         ⟨none, (some 4), .mov (.c (.int .i64 0)), []⟩])
       .ret)))))
def c421 : Fn := { np := 2, nt := 22, kind := .pure, res := [.t 4], body := k421 }

/- spec.l03Span -/
def k422 : Cd :=
  (.seq
   (.reg [4] [
     ⟨none, (some 4), .mov (.c (.bool false)), []⟩])
   (.seq
    (.reg [4] [
      ⟨none, (some 5), .mov (.t 0), []⟩,
      ⟨none, (some 6), .call true 432 [.t 5], []⟩,
      ⟨none, (some 7), .mov (.t 6), []⟩,
      ⟨(some (7, true)), (some 8), .mov (.t 1), []⟩,
      ⟨(some (7, true)), (some 9), .call true 432 [.t 8], []⟩,
      ⟨none, (some 10), .pick (.t 7) (.t 9) (.c (.bool false)), []⟩,
      ⟨none, (some 11), .mov (.t 10), []⟩,
      ⟨(some (11, true)), (some 12), .mov (.t 0), []⟩,
      ⟨(some (11, true)), (some 13), .mov (.t 1), []⟩,
      ⟨(some (11, true)), (some 14), .bin .leq (.t 12) (.t 13), []⟩,
      ⟨none, (some 15), .pick (.t 11) (.t 14) (.c (.bool false)), []⟩,
      ⟨none, (some 4), .mov (.t 15), []⟩])
    .ret))
def c422 : Fn := { np := 2, nt := 16, kind := .pure, res := [.t 4], body := k422 }

/- spec.l03Frame -/
def k423 : Cd :=
  (.seq
   (.reg [4] [
     ⟨none, (some 4), .zero true (zs 12 (.int .u16 0)), []⟩])
   (.seq
    (.reg [5, 6] [
      ⟨none, (some 8), .mov (.t 0), []⟩,
      ⟨none, (some 9), .nil (.t 8), []⟩,
      ⟨none, (some 10), .fldP 13 (.t 9), []⟩,
      ⟨none, (some 11), .ld 1 false (.t 10), []⟩,
      ⟨none, (some 12), .mov (.t 0), []⟩,
      ⟨none, (some 13), .nil (.t 12), []⟩,
      ⟨none, (some 14), .fldP 12 (.t 13), []⟩,
      ⟨none, (some 15), .ld 1 false (.t 14), []⟩,
      ⟨none, (some 16), .conv .i64 (.t 15), []⟩,
      ⟨none, (some 17), .mov (.t 1), []⟩,
      ⟨none, (some 18), .call true 538 [.t 11, .t 16, .t 17], []⟩,
      ⟨none, (some 7), .mov (.t 18), []⟩,
      ⟨none, (some 19), .ext (.t 7) 0, []⟩,
      ⟨none, (some 20), .ext (.t 7) 1, []⟩,
      ⟨none, (some 5), .mov (.t 19), []⟩,
      ⟨none, (some 6), .mov (.t 20), []⟩])
    (.seq
     (.reg [4] [
       ⟨none, (some 21), .mov (.t 0), []⟩,
       ⟨none, (some 22), .nil (.t 21), []⟩,
       ⟨none, (some 23), .fldP 0 (.t 22), []⟩,
       ⟨none, (some 24), .mov (.t 5), []⟩,
       ⟨none, (some 25), .mov (.t 6), []⟩,
       ⟨none, (some 26), .call true 355 [.t 23, .t 24, .t 25], []⟩,
       ⟨none, (some 4), .stV 4 none 12 (.t 26), []⟩])
     .ret)))
def c423 : Fn := { np := 2, nt := 27, kind := .pure, res := [.v 4 12 true], body := k423 }

/- impl.areParts -/
def k425 : Cd :=
  (.seq
   (.reg [2] [
     ⟨none, (some 2), .mov (.c (.bool false)), []⟩])
   (.seq
    (.reg [2] [
      ⟨none, (some 3), .mov (.t 0), []⟩,
      ⟨none, (some 4), .call true 541 [.t 3, .f 542], []⟩,
      ⟨none, (some 5), .un .not (.t 4), []⟩,
      ⟨none, (some 2), .mov (.t 5), []⟩])
    .ret))
def c425 : Fn := { np := 1, nt := 6, kind := .pure, res := [.t 2], body := k425 }

/- impl.isSpan -/
def k426 : Cd :=
  (.seq
   (.reg [4] [
     ⟨none, (some 4), .mov (.c (.bool false)), []⟩])
   (.seq
    (.reg [4] [
      ⟨none, (some 5), .mov (.t 0), []⟩,
      ⟨none, (some 6), .call true 435 [.t 5], []⟩,
      ⟨none, (some 7), .mov (.t 6), []⟩,
      ⟨(some (7, true)), (some 8), .mov (.t 1), []⟩,
      ⟨(some (7, true)), (some 9), .call true 435 [.t 8], []⟩,
      ⟨none, (some 10), .pick (.t 7) (.t 9) (.c (.bool false)), []⟩,
      ⟨none, (some 11), .mov (.t 10), []⟩,
      ⟨(some (11, true)), (some 12), .mov (.t 0), []⟩,
      ⟨(some (11, true)), (some 13), .mov (.t 1), []⟩,
      ⟨(some (11, true)), (some 14), .bin .leq (.t 12) (.t 13), []⟩,
      ⟨none, (some 15), .pick (.t 11) (.t 14) (.c (.bool false)), []⟩,
      ⟨none, (some 4), .mov (.t 15), []⟩])
    .ret))
def c426 : Fn := { np := 2, nt := 16, kind := .pure, res := [.t 4], body := k426 }

/- (impl.Part).at -/
def k427 : Cd :=
  (.seq
   (.reg [2, 4] [
     ⟨none, (some 2), .mov (.t 0), []⟩,
     ⟨none, (some 4), .zero true (zs 12 (.int .u16 0)), []⟩])
   (.seq
    (.reg [4] [
      ⟨none, (some 5), .adrF 2 none 0, []⟩,
      ⟨none, (some 6), .ldV 2 (some 5) 12 true, []⟩,
      ⟨none, (some 7), .adrF 2 none 13, []⟩,
      ⟨none, (some 8), .ldV 2 (some 7) 1 false, []⟩,
      ⟨none, (some 9), .adrF 2 none 12, []⟩,
      ⟨none, (some 10), .ldV 2 (some 9) 1 false, []⟩,
      ⟨none, (some 11), .conv .i64 (.t 10), []⟩,
      ⟨none, (some 12), .mov (.t 1), []⟩,
      ⟨none, (some 13), .call true 543 [.t 8, .t 11, .t 12], []⟩,
      ⟨none, (some 14), .ext (.t 13) 0, []⟩,
      ⟨none, (some 15), .ext (.t 13) 1, []⟩,
      ⟨none, (some 16), .call true 358 [.t 6, .t 14, .t 15], []⟩,
      ⟨none, (some 4), .stV 4 none 12 (.t 16), []⟩])
    .ret))
def c427 : Fn := { np := 2, nt := 17, kind := .pure, res := [.v 4 12 true], body := k427 }

/- spec.l03Tick -/
def k432 : Cd :=
  (.seq
   (.reg [2] [
     ⟨none, (some 2), .mov (.c (.bool false)), []⟩])
   (.seq
    (.reg [2] [
      ⟨none, (some 3), .mov (.t 0), []⟩,
      ⟨none, (some 4), .call true 304 [.t 3, .c (.int .i64 0), .c (.int .i64 200)], []⟩,
      ⟨none, (some 2), .mov (.t 4), []⟩])
    .ret))
def c432 : Fn := { np := 1, nt := 5, kind := .pure, res := [.t 2], body := k432 }

/- spec.l03Frames -/
def b433_1 : Cd :=
  (.seq
   (.seq
    (.reg [12] [
      ⟨none, (some 9), .mov (.t 6), []⟩,
      ⟨none, (some 10), .mov (.t 0), []⟩,
      ⟨none, (some 11), .len (.t 10), []⟩,
      ⟨none, (some 12), .bin .lss (.t 9) (.t 11), []⟩])
    (.cond (.t 12)
     .skip
     (.exit 0)))
   (.seq
    (.block 1
     (.seq
      (.reg [7] [
        ⟨none, (some 15), .mov (.t 0), []⟩,
        ⟨none, (some 16), .mov (.t 6), []⟩,
        ⟨none, (some 17), .idxA 14 (.t 15) (.t 16), []⟩,
        ⟨none, (some 18), .mov (.t 1), []⟩,
        ⟨none, (some 19), .call true 423 [.t 17, .t 18], []⟩,
        ⟨none, (some 7), .new 1 (zs 12 (.int .u16 0)), []⟩,
        ⟨none, none, .st 12 (.t 7) (.t 19), []⟩])
      (.reg [] [
        ⟨none, (some 20), .call true 337 [.t 5, .t 7], []⟩,
        ⟨none, none, .st 12 (.t 5) (.t 20), []⟩])))
    (.reg [6] [
      ⟨none, (some 13), .mov (.t 6), []⟩,
      ⟨none, (some 14), .bin .add (.t 13) (.c (.int .i64 1)), []⟩,
      ⟨none, (some 6), .mov (.t 14), []⟩])))
def k433 : Cd :=
  (.seq
   (.reg [4] [
     ⟨none, (some 4), .zero true (zs 12 (.int .u16 0)), []⟩])
   (.seq
    (.reg [5] [
      ⟨none, (some 8), .agg (zs 12 (.int .u16 0)) [], []⟩,
      ⟨none, (some 5), .new 1 (zs 12 (.int .u16 0)), []⟩,
      ⟨none, none, .st 12 (.t 5) (.t 8), []⟩])
    (.seq
     (.seq
      (.reg [6] [
        ⟨none, (some 6), .mov (.c (.int .i64 0)), []⟩])
      (.block 0
       (.loop b433_1)))
     (.seq
      (.reg [4] [
        ⟨none, (some 21), .ld 12 true (.t 5), []⟩,
        ⟨none, (some 4), .stV 4 none 12 (.t 21), []⟩])
      .ret))))
def c433 : Fn := { np := 2, nt := 22, kind := .pure, res := [.v 4 12 true], body := k433 }

/- impl.isTick -/
def k435 : Cd :=
  (.seq
   (.reg [2] [
     ⟨none, (some 2), .mov (.c (.bool false)), []⟩])
   (.seq
    (.reg [2] [
      ⟨none, (some 3), .mov (.t 0), []⟩,
      ⟨none, (some 4), .call true 295 [.t 3, .c (.int .i64 0), .c (.int .i64 200)], []⟩,
      ⟨none, (some 2), .mov (.t 4), []⟩])
    .ret))
def c435 : Fn := { np := 1, nt := 5, kind := .pure, res := [.t 2], body := k435 }

/- impl.partsAt -/
def b436_1 : Cd :=
  (.seq
   (.reg [12] [
     ⟨none, (some 12), .bin .lss (.t 11) (.t 10), []⟩])
   (.seq
    (.cond (.t 12)
     .skip
     (.exit 0))
    (.seq
     (.block 1
      (.seq
       (.reg [7] [
         ⟨none, (some 13), .idxA 14 (.t 9) (.t 11), []⟩,
         ⟨none, (some 14), .ld 14 true (.t 13), []⟩,
         ⟨none, (some 7), .zero true [.int .u16 0, .int .u16 0, .int .u16 0, .int .u16 0, .int .u16 0, .int .u16 0, .int .u16 0, .int .u16 0, .int .u16 0, .int .u16 0, .int .u16 0, .int .u16 0, .int .i8 0, .slice none 0 0], []⟩,
         ⟨none, (some 7), .stV 7 none 14 (.t 14), []⟩])
       (.reg [5] [
         ⟨none, (some 15), .ldV 5 none 12 true, []⟩,
         ⟨none, (some 16), .ldV 7 none 14 true, []⟩,
         ⟨none, (some 17), .mov (.t 1), []⟩,
         ⟨none, (some 18), .call true 427 [.t 16, .t 17], []⟩,
         ⟨none, (some 19), .call true 338 [.t 15, .t 18], []⟩,
         ⟨none, (some 5), .stV 5 none 12 (.t 19), []⟩])))
     (.reg [11] [
       ⟨none, (some 20), .bin .add (.t 11) (.c (.int .i64 1)), []⟩,
       ⟨none, (some 11), .mov (.t 20), []⟩]))))
def k436 : Cd :=
  (.seq
   (.reg [4] [
     ⟨none, (some 4), .zero true (zs 12 (.int .u16 0)), []⟩])
   (.seq
    (.reg [5] [
      ⟨none, (some 8), .agg (zs 12 (.int .u16 0)) [], []⟩,
      ⟨none, (some 5), .zero true (zs 12 (.int .u16 0)), []⟩,
      ⟨none, (some 5), .stV 5 none 12 (.t 8), []⟩])
    (.seq
     (.seq
      (.reg [9, 10, 11] [
        ⟨none, (some 9), .mov (.t 0), []⟩,
        ⟨none, (some 10), .len (.t 9), []⟩,
        ⟨none, (some 11), .mov (.c (.int .i64 0)), []⟩])
      (.block 0
       (.loop b436_1)))
     (.seq
      (.reg [4] [
        ⟨none, (some 21), .ldV 5 none 12 true, []⟩,
        ⟨none, (some 4), .stV 4 none 12 (.t 21), []⟩])
      .ret))))
def c436 : Fn := { np := 2, nt := 22, kind := .pure, res := [.v 4 12 true], body := k436 }

/- spec.l01Dots -/
def b440_1 : Cd :=
  (.seq
   (.seq
    (.reg [12] [
      ⟨none, (some 11), .mov (.t 5), []⟩,
      ⟨none, (some 12), .bin .lss (.t 11) (.c (.int .i64 12)), []⟩])
    (.cond (.t 12)
     .skip
     (.exit 2)))
   (.seq
    (.block 3
     (.seq
      (.reg [18] [
        ⟨none, (some 15), .mov (.t 0), []⟩,
        ⟨none, (some 16), .mov (.t 5), []⟩,
        ⟨none, (some 17), .mov (.t 4), []⟩,
        ⟨none, (some 18), .call true 456 [.t 15, .t 16, .t 17], []⟩])
      (.cond (.t 18)
       (.reg [3] [
         ⟨none, (some 19), .mov (.t 3), []⟩,
         ⟨none, (some 20), .mov (.t 5), []⟩,
         ⟨none, (some 21), .conv .i8 (.t 20), []⟩,
         ⟨none, (some 22), .mov (.t 4), []⟩,
         ⟨none, (some 23), .conv .i8 (.t 22), []⟩,
         ⟨none, (some 24), .agg [.int .i8 0, .int .i8 0] [(0, 1, (.t 21)), (1, 1, (.t 23))], []⟩,
         ⟨none, (some 25), .bldS 2 1 [.int .i8 0, .int .i8 0] [(0, 2, (.t 24))], []⟩,
         ⟨none, (some 26), .app 2 2 (.t 19) (.t 25), []⟩,
         ⟨none, (some 3), .mov (.t 26), []⟩])
       .skip)))
    (.reg [5] [
      ⟨none, (some 13), .mov (.t 5), []⟩,
      ⟨none, (some 14), .bin .add (.t 13) (.c (.int .i64 1)), []⟩,
      ⟨none, (some 5), .mov (.t 14), []⟩])))
def b440_2 : Cd :=
  (.seq
   (.seq
    (.reg [8] [
      ⟨none, (some 7), .mov (.t 4), []⟩,
      ⟨none, (some 8), .bin .lss (.t 7) (.c (.int .i64 12)), []⟩])
    (.cond (.t 8)
     .skip
     (.exit 0)))
   (.seq
    (.block 1
     (.seq
      (.reg [5] [
        ⟨none, (some 5), .mov (.c (.int .i64 0)), []⟩])
      (.block 2
       (.loop b440_1))))
    (.reg [4] [
      ⟨none, (some 9), .mov (.t 4), []⟩,
      ⟨none, (some 10), .bin .add (.t 9) (.c (.int .i64 1)), []⟩,
      ⟨none, (some 4), .mov (.t 10), []⟩])))
def k440 : Cd :=
  (.seq
   (.reg [2] [
     ⟨none, (some 2), .mov (.c (.slice none 0 0)), []⟩])
   (.seq
    (.reg [3] [
      ⟨none, (some 6), .bldS 2 0 [.int .i8 0, .int .i8 0] [], []⟩,
      ⟨none, (some 3), .mov (.t 6), []⟩])
    (.seq
     (.seq
      (.reg [4] [
        ⟨none, (some 4), .mov (.c (.int .i64 0)), []⟩])
      (.block 0
       (.loop b440_2)))
     (.seq
      (.reg [2] [
        ⟨none, (some 27), .mov (.t 3), []⟩,
        ⟨none, (some 2), .mov (.t 27), []⟩])
      .ret))))
def c440 : Fn := { np := 1, nt := 28, kind := .pure, res := [.t 2], body := k440 }

/- (impl.Frame).mix -/
def b443_1 : Cd :=
  (.seq
   (.reg [11] [
     ⟨none, (some 11), .bin .lss (.t 10) (.c (.int .i64 12)), []⟩])
   (.seq
    (.cond (.t 11)
     .skip
     (.exit 0))
    (.seq
     (.block 1
      (.seq
       (.reg [7, 8] [
         ⟨none, (some 12), .mov (.t 10), []⟩,
         ⟨none, (some 13), .idx 12 1 false (.t 9) (.t 10), []⟩,
         ⟨none, (some 7), .mov (.t 12), []⟩,
         ⟨none, (some 8), .mov (.t 13), []⟩])
       (.reg [3] [
         ⟨none, (some 14), .mov (.t 7), []⟩,
         ⟨none, (some 15), .mov (.t 2), []⟩,
         ⟨none, (some 16), .mov (.t 8), []⟩,
         ⟨none, (some 17), .mov (.t 7), []⟩,
         ⟨none, (some 18), .adrI 4 none 12 1 (.t 17), []⟩,
         ⟨none, (some 19), .ldV 4 (some 18) 1 false, []⟩,
         ⟨none, (some 20), .callv (.t 15) [.t 16, .t 19], []⟩,
         ⟨none, (some 21), .adrI 3 none 12 1 (.t 14), []⟩,
         ⟨none, (some 3), .stV 3 (some 21) 1 (.t 20), []⟩])))
     (.reg [10] [
       ⟨none, (some 22), .bin .add (.t 10) (.c (.int .i64 1)), []⟩,
       ⟨none, (some 10), .mov (.t 22), []⟩]))))
def k443 : Cd :=
  (.seq
   (.reg [3, 4, 6] [
     ⟨none, (some 3), .mov (.t 0), []⟩,
     ⟨none, (some 4), .mov (.t 1), []⟩,
     ⟨none, (some 6), .zero true (zs 12 (.int .u16 0)), []⟩])
   (.seq
    (.seq
     (.reg [9, 10] [
       ⟨none, (some 9), .ldV 3 none 12 true, []⟩,
       ⟨none, (some 10), .mov (.c (.int .i64 0)), []⟩])
     (.block 0
      (.loop b443_1)))
    (.seq
     (.reg [6] [
       ⟨none, (some 23), .ldV 3 none 12 true, []⟩,
       ⟨none, (some 6), .stV 6 none 12 (.t 23), []⟩])
     .ret)))
def c443 : Fn := { np := 3, nt := 24, kind := .pure, res := [.v 6 12 true], body := k443 }

/- slices.ContainsFunc[[]uint16,uint16] -/
def k445 : Cd :=
  (.seq
   (.reg [4] [
     ⟨none, (some 4), .mov (.c (.bool false)), []⟩])
   (.seq
    (.reg [4] [
      ⟨none, (some 5), .mov (.t 0), []⟩,
      ⟨none, (some 6), .mov (.t 1), []⟩,
      ⟨none, (some 7), .call true 547 [.t 5, .t 6], []⟩,
      ⟨none, (some 8), .bin .geq (.t 7) (.c (.int .i64 0)), []⟩,
      ⟨none, (some 4), .mov (.t 8), []⟩])
    .ret))
def c445 : Fn := { np := 2, nt := 9, kind := .pure, res := [.t 4], body := k445 }

/- impl.ValidFrame$1 -/
def k446 : Cd :=
  (.seq
   (.reg [2] [
     ⟨none, (some 2), .mov (.c (.bool false)), []⟩])
   (.seq
    (.reg [2] [
      ⟨none, (some 3), .mov (.t 0), []⟩,
      ⟨none, (some 4), .bin .gtr (.t 3) (.c (.int .u16 4095)), []⟩,
      ⟨none, (some 2), .mov (.t 4), []⟩])
    .ret))
def c446 : Fn := { np := 1, nt := 5, kind := .pure, res := [.t 2], body := k446 }

/- spec.l01Has -/
def k456 : Cd :=
  (.seq
   (.reg [6] [
     ⟨none, (some 6), .mov (.c (.bool false)), []⟩])
   (.seq
    (.reg [6] [
      ⟨none, (some 7), .mov (.t 1), []⟩,
      ⟨none, (some 8), .mov (.t 2), []⟩,
      ⟨none, (some 9), .call true 342 [.t 7, .t 8], []⟩,
      ⟨none, (some 10), .mov (.t 9), []⟩,
      ⟨(some (10, true)), (some 11), .mov (.t 0), []⟩,
      ⟨(some (10, true)), (some 12), .mov (.t 2), []⟩,
      ⟨(some (10, true)), (some 13), .nil (.t 11), []⟩,
      ⟨(some (10, true)), (some 14), .idxP 12 1 (.t 13) (.t 12), []⟩,
      ⟨(some (10, true)), (some 15), .ld 1 false (.t 14), []⟩,
      ⟨(some (10, true)), (some 16), .mov (.t 1), []⟩,
      ⟨(some (10, true)), (some 17), .conv .u64 (.t 16), []⟩,
      ⟨(some (10, true)), (some 18), .bin .shr (.t 15) (.t 17), []⟩,
      ⟨(some (10, true)), (some 19), .bin .rem (.t 18) (.c (.int .u16 2)), []⟩,
      ⟨(some (10, true)), (some 20), .bin .eql (.t 19) (.c (.int .u16 1)), []⟩,
      ⟨none, (some 21), .pick (.t 10) (.t 20) (.c (.bool false)), []⟩,
      ⟨none, (some 6), .mov (.t 21), []⟩])
    .ret))
def c456 : Fn := { np := 3, nt := 22, kind := .pure, res := [.t 6], body := k456 }

/- (*spec.l00Src).pick -/
def k459 : Cd :=
  (.seq
   (.reg [4] [
     ⟨none, (some 4), .mov (.c (.int .i64 0)), []⟩])
   (.seq
    (.seq
     (.reg [7] [
       ⟨none, (some 6), .mov (.t 1), []⟩,
       ⟨none, (some 7), .bin .leq (.t 6) (.c (.int .i64 1)), []⟩])
     (.cond (.t 7)
      (.seq
       (.reg [4] [
         ⟨none, (some 4), .mov (.c (.int .i64 0)), []⟩])
       .ret)
      .skip))
    (.seq
     (.reg [5] [
       ⟨none, (some 8), .mov (.t 0), []⟩,
       ⟨none, (some 9), .call false 550 [.t 8], []⟩,
       ⟨none, (some 5), .mov (.t 9), []⟩])
     (.seq
      (.seq
       (.reg [11] [
         ⟨none, (some 10), .mov (.t 1), []⟩,
         ⟨none, (some 11), .bin .gtr (.t 10) (.c (.int .i64 200)), []⟩])
       (.cond (.t 11)
        (.reg [5] [
          ⟨none, (some 12), .mov (.t 5), []⟩,
          ⟨none, (some 13), .bin .mul (.t 12) (.c (.int .i64 256)), []⟩,
          ⟨none, (some 14), .mov (.t 0), []⟩,
          ⟨none, (some 15), .call false 550 [.t 14], []⟩,
          ⟨none, (some 16), .bin .add (.t 13) (.t 15), []⟩,
          ⟨none, (some 5), .mov (.t 16), []⟩])
        .skip))
      (.seq
       (.reg [4] [
         ⟨none, (some 17), .mov (.t 5), []⟩,
         ⟨none, (some 18), .mov (.t 1), []⟩,
         ⟨none, (some 19), .bin .rem (.t 17) (.t 18), []⟩,
         ⟨none, (some 4), .mov (.t 19), []⟩])
       .ret)))))
def c459 : Fn := { np := 2, nt := 20, kind := .args, res := [.t 4], body := k459 }

/- spec.l03Drawn -/
def b460_1 : Cd :=
  (.seq
   (.seq
    (.reg [15] [
      ⟨none, (some 14), .mov (.t 5), []⟩,
      ⟨none, (some 15), .bin .gtr (.t 14) (.c (.int .i64 0)), []⟩])
    (.cond (.t 15)
     .skip
     (.exit 0)))
   (.seq
    (.block 1
     (.seq
      (.reg [6] [
        ⟨none, (some 18), .mov (.t 0), []⟩,
        ⟨none, (some 19), .call false 459 [.t 18, .c (.int .i64 13)], []⟩,
        ⟨none, (some 20), .bin .sub (.t 19) (.c (.int .i64 6)), []⟩,
        ⟨none, (some 6), .mov (.t 20), []⟩])
      (.seq
       (.reg [3] [
         ⟨none, (some 21), .mov (.t 3), []⟩,
         ⟨none, (some 22), .mov (.t 4), []⟩,
         ⟨none, (some 23), .conv .i16 (.t 22), []⟩,
         ⟨none, (some 24), .mov (.t 6), []⟩,
         ⟨none, (some 25), .conv .i8 (.t 24), []⟩,
         ⟨none, (some 26), .mov (.t 0), []⟩,
         ⟨none, (some 27), .call false 459 [.t 26, .c (.int .i64 13)], []⟩,
         ⟨none, (some 28), .bin .sub (.t 27) (.c (.int .i64 6)), []⟩,
         ⟨none, (some 29), .conv .i8 (.t 28), []⟩,
         ⟨none, (some 30), .agg [.int .i16 0, .int .i8 0, .int .i8 0] [(0, 1, (.t 23)), (1, 1, (.t 25)), (2, 1, (.t 29))], []⟩,
         ⟨none, (some 31), .bldS 3 1 [.int .i16 0, .int .i8 0, .int .i8 0] [(0, 3, (.t 30))], []⟩,
         ⟨none, (some 32), .app 3 4 (.t 21) (.t 31), []⟩,
         ⟨none, (some 3), .mov (.t 32), []⟩])
       (.reg [4] [
         ⟨none, (some 33), .mov (.t 4), []⟩,
         ⟨none, (some 34), .mov (.t 0), []⟩,
         ⟨none, (some 35), .call false 459 [.t 34, .c (.int .i64 6)], []⟩,
         ⟨none, (some 36), .bin .add (.c (.int .i64 1)) (.t 35), []⟩,
         ⟨none, (some 37), .bin .add (.t 33) (.t 36), []⟩,
         ⟨none, (some 4), .mov (.t 37), []⟩]))))
    (.reg [5] [
      ⟨none, (some 16), .mov (.t 5), []⟩,
      ⟨none, (some 17), .bin .sub (.t 16) (.c (.int .i64 1)), []⟩,
      ⟨none, (some 5), .mov (.t 17), []⟩])))
def b460_2 : Cd :=
  (.seq
   (.seq
    (.reg [48] [
      ⟨none, (some 45), .mov (.t 7), []⟩,
      ⟨none, (some 46), .mov (.t 3), []⟩,
      ⟨none, (some 47), .len (.t 46), []⟩,
      ⟨none, (some 48), .bin .lss (.t 45) (.t 47), []⟩])
    (.cond (.t 48)
     .skip
     (.exit 2)))
   (.seq
    (.block 3
     (.seq
      (.reg [] [
        ⟨none, (some 51), .mov (.t 3), []⟩,
        ⟨none, (some 52), .mov (.t 7), []⟩,
        ⟨none, (some 53), .mov (.t 3), []⟩,
        ⟨none, (some 54), .idxA 3 (.t 53) (.c (.int .i64 0)), []⟩,
        ⟨none, (some 55), .fldP 1 (.t 54), []⟩,
        ⟨none, (some 56), .ld 1 false (.t 55), []⟩,
        ⟨none, (some 57), .mov (.t 3), []⟩,
        ⟨none, (some 58), .mov (.t 7), []⟩,
        ⟨none, (some 59), .idxA 3 (.t 57) (.t 58), []⟩,
        ⟨none, (some 60), .fldP 0 (.t 59), []⟩,
        ⟨none, (some 61), .ld 1 false (.t 60), []⟩,
        ⟨none, (some 62), .mov (.t 3), []⟩,
        ⟨none, (some 63), .idxA 3 (.t 62) (.c (.int .i64 0)), []⟩,
        ⟨none, (some 64), .fldP 0 (.t 63), []⟩,
        ⟨none, (some 65), .ld 1 false (.t 64), []⟩,
        ⟨none, (some 66), .bin .sub (.t 61) (.t 65), []⟩,
        ⟨none, (some 67), .conv .i8 (.t 66), []⟩,
        ⟨none, (some 68), .bin .quo (.t 67) (.c (.int .i8 2)), []⟩,
        ⟨none, (some 69), .bin .add (.t 56) (.t 68), []⟩,
        ⟨none, (some 70), .idxA 3 (.t 51) (.t 52), []⟩,
        ⟨none, (some 71), .fldP 1 (.t 70), []⟩,
        ⟨none, none, .st 1 (.t 71) (.t 69), []⟩])
      (.reg [] [
        ⟨none, (some 72), .mov (.t 3), []⟩,
        ⟨none, (some 73), .mov (.t 7), []⟩,
        ⟨none, (some 74), .mov (.t 3), []⟩,
        ⟨none, (some 75), .idxA 3 (.t 74) (.c (.int .i64 0)), []⟩,
        ⟨none, (some 76), .fldP 2 (.t 75), []⟩,
        ⟨none, (some 77), .ld 1 false (.t 76), []⟩,
        ⟨none, (some 78), .idxA 3 (.t 72) (.t 73), []⟩,
        ⟨none, (some 79), .fldP 2 (.t 78), []⟩,
        ⟨none, none, .st 1 (.t 79) (.t 77), []⟩])))
    (.reg [7] [
      ⟨none, (some 49), .mov (.t 7), []⟩,
      ⟨none, (some 50), .bin .add (.t 49) (.c (.int .i64 1)), []⟩,
      ⟨none, (some 7), .mov (.t 50), []⟩])))
def k460 : Cd :=
  (.seq
   (.reg [2] [
     ⟨none, (some 2), .mov (.c (.slice none 0 0)), []⟩])
   (.seq
    (.reg [3] [
      ⟨none, (some 8), .bldS 3 0 [.int .i16 0, .int .i8 0, .int .i8 0] [], []⟩,
      ⟨none, (some 3), .mov (.t 8), []⟩])
    (.seq
     (.reg [4] [
       ⟨none, (some 9), .mov (.t 0), []⟩,
       ⟨none, (some 10), .call false 459 [.t 9, .c (.int .i64 4)], []⟩,
       ⟨none, (some 4), .mov (.t 10), []⟩])
     (.seq
      (.seq
       (.reg [5] [
         ⟨none, (some 11), .mov (.t 0), []⟩,
         ⟨none, (some 12), .call false 459 [.t 11, .c (.int .i64 5)], []⟩,
         ⟨none, (some 13), .bin .add (.c (.int .i64 1)) (.t 12), []⟩,
         ⟨none, (some 5), .mov (.t 13), []⟩])
       (.block 0
        (.loop b460_1)))
      (.seq
       (.seq
        (.reg [44] [
          ⟨none, (some 38), .mov (.t 3), []⟩,
          ⟨none, (some 39), .len (.t 38), []⟩,
          ⟨none, (some 40), .bin .gtr (.t 39) (.c (.int .i64 2)), []⟩,
          ⟨none, (some 41), .mov (.t 40), []⟩,
          ⟨(some (41, true)), (some 42), .mov (.t 0), []⟩,
          ⟨(some (41, true)), (some 43), .call false 513 [.t 42, .c (.int .i64 3)], []⟩,
          ⟨none, (some 44), .pick (.t 41) (.t 43) (.c (.bool false)), []⟩])
        (.cond (.t 44)
         (.seq
          (.reg [7] [
            ⟨none, (some 7), .mov (.c (.int .i64 1)), []⟩])
          (.block 2
           (.loop b460_2)))
         .skip))
       (.seq
        (.reg [2] [
          ⟨none, (some 80), .mov (.t 3), []⟩,
          ⟨none, (some 2), .mov (.t 80), []⟩])
        .ret))))))
def c460 : Fn := { np := 1, nt := 81, kind := .args, res := [.t 2], body := k460 }

/- impl.ValidTrack -/
def b461_1 : Cd :=
  (.seq
   (.reg [8] [
     ⟨none, (some 8), .bin .lss (.t 7) (.t 6), []⟩])
   (.seq
    (.cond (.t 8)
     .skip
     (.exit 0))
    (.seq
     (.block 1
      (.seq
       (.reg [4, 3] [
         ⟨none, (some 9), .mov (.t 7), []⟩,
         ⟨none, (some 10), .idxA 3 (.t 5) (.t 7), []⟩,
         ⟨none, (some 11), .ld 3 true (.t 10), []⟩,
         ⟨none, (some 4), .zero true [.int .i16 0, .int .i8 0, .int .i8 0], []⟩,
         ⟨none, (some 3), .mov (.t 9), []⟩,
         ⟨none, (some 4), .stV 4 none 3 (.t 11), []⟩])
       (.seq
        (.reg [45] [
          ⟨none, (some 12), .adrF 4 none 0, []⟩,
          ⟨none, (some 13), .ldV 4 (some 12) 1 false, []⟩,
          ⟨none, (some 14), .conv .i64 (.t 13), []⟩,
          ⟨none, (some 15), .call true 435 [.t 14], []⟩,
          ⟨none, (some 16), .un .not (.t 15), []⟩,
          ⟨none, (some 17), .mov (.t 16), []⟩,
          ⟨(some (17, false)), (some 18), .adrF 4 none 1, []⟩,
          ⟨(some (17, false)), (some 19), .ldV 4 (some 18) 1 false, []⟩,
          ⟨(some (17, false)), (some 20), .conv .i64 (.t 19), []⟩,
          ⟨(some (17, false)), (some 21), .call true 551 [.t 20], []⟩,
          ⟨(some (17, false)), (some 22), .un .not (.t 21), []⟩,
          ⟨none, (some 23), .pick (.t 17) (.c (.bool true)) (.t 22), []⟩,
          ⟨none, (some 24), .mov (.t 23), []⟩,
          ⟨(some (24, false)), (some 25), .adrF 4 none 2, []⟩,
          ⟨(some (24, false)), (some 26), .ldV 4 (some 25) 1 false, []⟩,
          ⟨(some (24, false)), (some 27), .conv .i64 (.t 26), []⟩,
          ⟨(some (24, false)), (some 28), .call true 551 [.t 27], []⟩,
          ⟨(some (24, false)), (some 29), .un .not (.t 28), []⟩,
          ⟨none, (some 30), .pick (.t 24) (.c (.bool true)) (.t 29), []⟩,
          ⟨none, (some 31), .mov (.t 30), []⟩,
          ⟨(some (31, false)), (some 32), .mov (.t 3), []⟩,
          ⟨(some (31, false)), (some 33), .bin .gtr (.t 32) (.c (.int .i64 0)), []⟩,
          ⟨(some (31, false)), (some 34), .mov (.t 33), []⟩,
          ⟨(some (34, true)), (some 35), .mov (.t 0), []⟩,
          ⟨(some (34, true)), (some 36), .mov (.t 3), []⟩,
          ⟨(some (34, true)), (some 37), .bin .sub (.t 36) (.c (.int .i64 1)), []⟩,
          ⟨(some (34, true)), (some 38), .idxA 3 (.t 35) (.t 37), []⟩,
          ⟨(some (34, true)), (some 39), .fldP 0 (.t 38), []⟩,
          ⟨(some (34, true)), (some 40), .ld 1 false (.t 39), []⟩,
          ⟨(some (34, true)), (some 41), .adrF 4 none 0, []⟩,
          ⟨(some (34, true)), (some 42), .ldV 4 (some 41) 1 false, []⟩,
          ⟨(some (34, true)), (some 43), .bin .geq (.t 40) (.t 42), []⟩,
          ⟨(some (31, false)), (some 44), .pick (.t 34) (.t 43) (.c (.bool false)), []⟩,
          ⟨none, (some 45), .pick (.t 31) (.c (.bool true)) (.t 44), []⟩])
        (.cond (.t 45)
         (.seq
          (.reg [2] [
            ⟨none, (some 2), .mov (.c (.bool false)), []⟩])
          .ret)
         .skip))))
     (.reg [7] [
       ⟨none, (some 46), .bin .add (.t 7) (.c (.int .i64 1)), []⟩,
       ⟨none, (some 7), .mov (.t 46), []⟩]))))
def k461 : Cd :=
  (.seq
   (.reg [2] [
     ⟨none, (some 2), .mov (.c (.bool false)), []⟩])
   (.seq
    (.seq
     (.reg [5, 6, 7] [
       ⟨none, (some 5), .mov (.t 0), []⟩,
       ⟨none, (some 6), .len (.t 5), []⟩,
       ⟨none, (some 7), .mov (.c (.int .i64 0)), []⟩])
     (.block 0
      (.loop b461_1)))
    (.seq
     (.reg [2] [
       ⟨none, (some 47), .mov (.t 0), []⟩,
       ⟨none, (some 48), .len (.t 47), []⟩,
       ⟨none, (some 49), .call true 295 [.t 48, .c (.int .i64 1), .c (.int .i64 20)], []⟩,
       ⟨none, (some 2), .mov (.t 49), []⟩])
     .ret)))
def c461 : Fn := { np := 1, nt := 50, kind := .pure, res := [.t 2], body := k461 }

/- impl.isEase -/
def k462 : Cd :=
  (.seq
   (.reg [2] [
     ⟨none, (some 2), .mov (.c (.bool false)), []⟩])
   (.seq
    (.reg [2] [
      ⟨none, (some 3), .mov (.t 0), []⟩,
      ⟨none, (some 4), .call true 295 [.t 3, .c (.int .i64 0), .c (.int .i64 3)], []⟩,
      ⟨none, (some 2), .mov (.t 4), []⟩])
    .ret))
def c462 : Fn := { np := 1, nt := 5, kind := .pure, res := [.t 2], body := k462 }

/- (impl.Frame).join$1 -/
def k502 : Cd :=
  (.seq
   (.reg [4] [
     ⟨none, (some 4), .mov (.c (.int .u16 0)), []⟩])
   (.seq
    (.reg [4] [
      ⟨none, (some 5), .mov (.t 0), []⟩,
      ⟨none, (some 6), .mov (.t 1), []⟩,
      ⟨none, (some 7), .bin .or (.t 5) (.t 6), []⟩,
      ⟨none, (some 4), .mov (.t 7), []⟩])
    .ret))
def c502 : Fn := { np := 2, nt := 8, kind := .pure, res := [.t 4], body := k502 }

/- (impl.Frame).meet$1 -/
def k503 : Cd :=
  (.seq
   (.reg [4] [
     ⟨none, (some 4), .mov (.c (.int .u16 0)), []⟩])
   (.seq
    (.reg [4] [
      ⟨none, (some 5), .mov (.t 0), []⟩,
      ⟨none, (some 6), .mov (.t 1), []⟩,
      ⟨none, (some 7), .bin .and (.t 5) (.t 6), []⟩,
      ⟨none, (some 4), .mov (.t 7), []⟩])
    .ret))
def c503 : Fn := { np := 2, nt := 8, kind := .pure, res := [.t 4], body := k503 }

/- (*spec.l00Src).one -/
def k513 : Cd :=
  (.seq
   (.reg [4] [
     ⟨none, (some 4), .mov (.c (.bool false)), []⟩])
   (.seq
    (.reg [4] [
      ⟨none, (some 5), .mov (.t 0), []⟩,
      ⟨none, (some 6), .mov (.t 1), []⟩,
      ⟨none, (some 7), .call false 459 [.t 5, .t 6], []⟩,
      ⟨none, (some 8), .bin .eql (.t 7) (.c (.int .i64 0)), []⟩,
      ⟨none, (some 4), .mov (.t 8), []⟩])
    .ret))
def c513 : Fn := { np := 2, nt := 9, kind := .args, res := [.t 4], body := k513 }

/- math/bits.OnesCount16 -/
def k530 : Cd :=
  (.seq
   (.reg [2] [
     ⟨none, (some 2), .mov (.c (.int .i64 0)), []⟩])
   (.seq
    (.reg [2] [
      ⟨none, (some 3), .mov (.t 0), []⟩,
      ⟨none, (some 4), .bin .shr (.t 3) (.c (.int .u64 8)), []⟩,
      ⟨none, (some 5), .idxs (.c (.string ⟨#[0, 1, 1, 2, 1, 2, 2, 3, 1, 2, 2, 3, 2, 3, 3, 4, 1, 2, 2, 3, 2, 3, 3, 4, 2, 3, 3, 4, 3, 4, 4, 5, 1, 2, 2, 3, 2, 3, 3, 4, 2, 3, 3, 4, 3, 4, 4, 5, 2, 3, 3, 4, 3, 4, 4, 5, 3, 4, 4, 5, 4, 5, 5, 6, 1, 2, 2, 3, 2, 3, 3, 4, 2, 3, 3, 4, 3, 4, 4, 5, 2, 3, 3, 4, 3, 4, 4, 5, 3, 4, 4, 5, 4, 5, 5, 6, 2, 3, 3, 4, 3, 4, 4, 5, 3, 4, 4, 5, 4, 5, 5, 6, 3, 4, 4, 5, 4, 5, 5, 6, 4, 5, 5, 6, 5, 6, 6, 7, 1, 2, 2, 3, 2, 3, 3, 4, 2, 3, 3, 4, 3, 4, 4, 5, 2, 3, 3, 4, 3, 4, 4, 5, 3, 4, 4, 5, 4, 5, 5, 6, 2, 3, 3, 4, 3, 4, 4, 5, 3, 4, 4, 5, 4, 5, 5, 6, 3, 4, 4, 5, 4, 5, 5, 6, 4, 5, 5, 6, 5, 6, 6, 7, 2, 3, 3, 4, 3, 4, 4, 5, 3, 4, 4, 5, 4, 5, 5, 6, 3, 4, 4, 5, 4, 5, 5, 6, 4, 5, 5, 6, 5, 6, 6, 7, 3, 4, 4, 5, 4, 5, 5, 6, 4, 5, 5, 6, 5, 6, 6, 7, 4, 5, 5, 6, 5, 6, 6, 7, 5, 6, 6, 7, 6, 7, 7, 8]⟩)) (.t 4), []⟩,
      ⟨none, (some 6), .mov (.t 0), []⟩,
      ⟨none, (some 7), .bin .and (.t 6) (.c (.int .u16 255)), []⟩,
      ⟨none, (some 8), .idxs (.c (.string ⟨#[0, 1, 1, 2, 1, 2, 2, 3, 1, 2, 2, 3, 2, 3, 3, 4, 1, 2, 2, 3, 2, 3, 3, 4, 2, 3, 3, 4, 3, 4, 4, 5, 1, 2, 2, 3, 2, 3, 3, 4, 2, 3, 3, 4, 3, 4, 4, 5, 2, 3, 3, 4, 3, 4, 4, 5, 3, 4, 4, 5, 4, 5, 5, 6, 1, 2, 2, 3, 2, 3, 3, 4, 2, 3, 3, 4, 3, 4, 4, 5, 2, 3, 3, 4, 3, 4, 4, 5, 3, 4, 4, 5, 4, 5, 5, 6, 2, 3, 3, 4, 3, 4, 4, 5, 3, 4, 4, 5, 4, 5, 5, 6, 3, 4, 4, 5, 4, 5, 5, 6, 4, 5, 5, 6, 5, 6, 6, 7, 1, 2, 2, 3, 2, 3, 3, 4, 2, 3, 3, 4, 3, 4, 4, 5, 2, 3, 3, 4, 3, 4, 4, 5, 3, 4, 4, 5, 4, 5, 5, 6, 2, 3, 3, 4, 3, 4, 4, 5, 3, 4, 4, 5, 4, 5, 5, 6, 3, 4, 4, 5, 4, 5, 5, 6, 4, 5, 5, 6, 5, 6, 6, 7, 2, 3, 3, 4, 3, 4, 4, 5, 3, 4, 4, 5, 4, 5, 5, 6, 3, 4, 4, 5, 4, 5, 5, 6, 4, 5, 5, 6, 5, 6, 6, 7, 3, 4, 4, 5, 4, 5, 5, 6, 4, 5, 5, 6, 5, 6, 6, 7, 4, 5, 5, 6, 5, 6, 6, 7, 5, 6, 6, 7, 6, 7, 7, 8]⟩)) (.t 7), []⟩,
      ⟨none, (some 9), .bin .add (.t 5) (.t 8), []⟩,
      ⟨none, (some 10), .conv .i64 (.t 9), []⟩,
      ⟨none, (some 2), .mov (.t 10), []⟩])
    .ret))
def c530 : Fn := { np := 1, nt := 11, kind := .pure, res := [.t 2], body := k530 }

/- spec.l03Part -/
def k537 : Cd :=
  (.seq
   (.reg [2] [
     ⟨none, (some 2), .mov (.c (.bool false)), []⟩])
   (.seq
    (.reg [2] [
      ⟨none, (some 3), .mov (.t 0), []⟩,
      ⟨none, (some 4), .nil (.t 3), []⟩,
      ⟨none, (some 5), .fldP 0 (.t 4), []⟩,
      ⟨none, (some 6), .call true 359 [.t 5], []⟩,
      ⟨none, (some 7), .mov (.t 6), []⟩,
      ⟨(some (7, true)), (some 8), .mov (.t 0), []⟩,
      ⟨(some (7, true)), (some 9), .nil (.t 8), []⟩,
      ⟨(some (7, true)), (some 10), .fldP 12 (.t 9), []⟩,
      ⟨(some (7, true)), (some 11), .ld 1 false (.t 10), []⟩,
      ⟨(some (7, true)), (some 12), .conv .i64 (.t 11), []⟩,
      ⟨(some (7, true)), (some 13), .call true 574 [.t 12], []⟩,
      ⟨none, (some 14), .pick (.t 7) (.t 13) (.c (.bool false)), []⟩,
      ⟨none, (some 15), .mov (.t 14), []⟩,
      ⟨(some (15, true)), (some 16), .mov (.t 0), []⟩,
      ⟨(some (15, true)), (some 17), .nil (.t 16), []⟩,
      ⟨(some (15, true)), (some 18), .fldP 13 (.t 17), []⟩,
      ⟨(some (15, true)), (some 19), .ld 1 false (.t 18), []⟩,
      ⟨(some (15, true)), (some 20), .call true 575 [.t 19], []⟩,
      ⟨none, (some 21), .pick (.t 15) (.t 20) (.c (.bool false)), []⟩,
      ⟨none, (some 2), .mov (.t 21), []⟩])
    .ret))
def c537 : Fn := { np := 1, nt := 22, kind := .pure, res := [.t 2], body := k537 }

/- spec.l03Place -/
def b538_1 : Cd :=
  (.seq
   (.seq
    (.reg [27] [
      ⟨none, (some 12), .mov (.t 8), []⟩,
      ⟨none, (some 13), .bin .add (.t 12) (.c (.int .i64 1)), []⟩,
      ⟨none, (some 14), .mov (.t 0), []⟩,
      ⟨none, (some 15), .len (.t 14), []⟩,
      ⟨none, (some 16), .bin .lss (.t 13) (.t 15), []⟩,
      ⟨none, (some 17), .mov (.t 16), []⟩,
      ⟨(some (17, true)), (some 18), .mov (.t 0), []⟩,
      ⟨(some (17, true)), (some 19), .mov (.t 8), []⟩,
      ⟨(some (17, true)), (some 20), .bin .add (.t 19) (.c (.int .i64 1)), []⟩,
      ⟨(some (17, true)), (some 21), .idxA 3 (.t 18) (.t 20), []⟩,
      ⟨(some (17, true)), (some 22), .fldP 0 (.t 21), []⟩,
      ⟨(some (17, true)), (some 23), .ld 1 false (.t 22), []⟩,
      ⟨(some (17, true)), (some 24), .conv .i64 (.t 23), []⟩,
      ⟨(some (17, true)), (some 25), .mov (.t 2), []⟩,
      ⟨(some (17, true)), (some 26), .bin .leq (.t 24) (.t 25), []⟩,
      ⟨none, (some 27), .pick (.t 17) (.t 26) (.c (.bool false)), []⟩])
    (.cond (.t 27)
     .skip
     (.exit 0)))
   (.block 1
    (.reg [8] [
      ⟨none, (some 28), .mov (.t 8), []⟩,
      ⟨none, (some 29), .bin .add (.t 28) (.c (.int .i64 1)), []⟩,
      ⟨none, (some 8), .mov (.t 29), []⟩])))
def k538 : Cd :=
  (.seq
   (.reg [6, 7] [
     ⟨none, (some 6), .mov (.c (.int .i64 0)), []⟩,
     ⟨none, (some 7), .mov (.c (.int .i64 0)), []⟩])
   (.seq
    (.reg [8] [
      ⟨none, (some 8), .mov (.c (.int .i64 0)), []⟩])
    (.seq
     (.block 0
      (.loop b538_1))
     (.seq
      (.reg [9] [
        ⟨none, (some 30), .mov (.t 0), []⟩,
        ⟨none, (some 31), .mov (.t 8), []⟩,
        ⟨none, (some 32), .idxA 3 (.t 30) (.t 31), []⟩,
        ⟨none, (some 33), .fldP 1 (.t 32), []⟩,
        ⟨none, (some 34), .ld 1 false (.t 33), []⟩,
        ⟨none, (some 35), .conv .i64 (.t 34), []⟩,
        ⟨none, (some 9), .mov (.t 35), []⟩])
      (.seq
       (.reg [10] [
         ⟨none, (some 36), .mov (.t 0), []⟩,
         ⟨none, (some 37), .mov (.t 8), []⟩,
         ⟨none, (some 38), .idxA 3 (.t 36) (.t 37), []⟩,
         ⟨none, (some 39), .fldP 2 (.t 38), []⟩,
         ⟨none, (some 40), .ld 1 false (.t 39), []⟩,
         ⟨none, (some 41), .conv .i64 (.t 40), []⟩,
         ⟨none, (some 10), .mov (.t 41), []⟩])
       (.seq
        (.seq
         (.reg [56] [
           ⟨none, (some 42), .mov (.t 8), []⟩,
           ⟨none, (some 43), .bin .add (.t 42) (.c (.int .i64 1)), []⟩,
           ⟨none, (some 44), .mov (.t 0), []⟩,
           ⟨none, (some 45), .len (.t 44), []⟩,
           ⟨none, (some 46), .bin .eql (.t 43) (.t 45), []⟩,
           ⟨none, (some 47), .mov (.t 46), []⟩,
           ⟨(some (47, false)), (some 48), .mov (.t 2), []⟩,
           ⟨(some (47, false)), (some 49), .mov (.t 0), []⟩,
           ⟨(some (47, false)), (some 50), .mov (.t 8), []⟩,
           ⟨(some (47, false)), (some 51), .idxA 3 (.t 49) (.t 50), []⟩,
           ⟨(some (47, false)), (some 52), .fldP 0 (.t 51), []⟩,
           ⟨(some (47, false)), (some 53), .ld 1 false (.t 52), []⟩,
           ⟨(some (47, false)), (some 54), .conv .i64 (.t 53), []⟩,
           ⟨(some (47, false)), (some 55), .bin .leq (.t 48) (.t 54), []⟩,
           ⟨none, (some 56), .pick (.t 47) (.c (.bool true)) (.t 55), []⟩])
         (.cond (.t 56)
          (.seq
           (.reg [6, 7] [
             ⟨none, (some 57), .mov (.t 9), []⟩,
             ⟨none, (some 58), .mov (.t 10), []⟩,
             ⟨none, (some 6), .mov (.t 57), []⟩,
             ⟨none, (some 7), .mov (.t 58), []⟩])
           .ret)
          .skip))
        (.seq
         (.reg [11] [
           ⟨none, (some 59), .mov (.t 1), []⟩,
           ⟨none, (some 60), .mov (.t 2), []⟩,
           ⟨none, (some 61), .mov (.t 0), []⟩,
           ⟨none, (some 62), .mov (.t 8), []⟩,
           ⟨none, (some 63), .idxA 3 (.t 61) (.t 62), []⟩,
           ⟨none, (some 64), .fldP 0 (.t 63), []⟩,
           ⟨none, (some 65), .ld 1 false (.t 64), []⟩,
           ⟨none, (some 66), .conv .i64 (.t 65), []⟩,
           ⟨none, (some 67), .bin .sub (.t 60) (.t 66), []⟩,
           ⟨none, (some 68), .mov (.t 0), []⟩,
           ⟨none, (some 69), .mov (.t 8), []⟩,
           ⟨none, (some 70), .bin .add (.t 69) (.c (.int .i64 1)), []⟩,
           ⟨none, (some 71), .idxA 3 (.t 68) (.t 70), []⟩,
           ⟨none, (some 72), .fldP 0 (.t 71), []⟩,
           ⟨none, (some 73), .ld 1 false (.t 72), []⟩,
           ⟨none, (some 74), .conv .i64 (.t 73), []⟩,
           ⟨none, (some 75), .mov (.t 0), []⟩,
           ⟨none, (some 76), .mov (.t 8), []⟩,
           ⟨none, (some 77), .idxA 3 (.t 75) (.t 76), []⟩,
           ⟨none, (some 78), .fldP 0 (.t 77), []⟩,
           ⟨none, (some 79), .ld 1 false (.t 78), []⟩,
           ⟨none, (some 80), .conv .i64 (.t 79), []⟩,
           ⟨none, (some 81), .bin .sub (.t 74) (.t 80), []⟩,
           ⟨none, (some 82), .call true 576 [.t 59, .t 67, .t 81], []⟩,
           ⟨none, (some 11), .mov (.t 82), []⟩])
         (.seq
          (.reg [6, 7] [
            ⟨none, (some 83), .mov (.t 9), []⟩,
            ⟨none, (some 84), .mov (.t 0), []⟩,
            ⟨none, (some 85), .mov (.t 8), []⟩,
            ⟨none, (some 86), .bin .add (.t 85) (.c (.int .i64 1)), []⟩,
            ⟨none, (some 87), .idxA 3 (.t 84) (.t 86), []⟩,
            ⟨none, (some 88), .fldP 1 (.t 87), []⟩,
            ⟨none, (some 89), .ld 1 false (.t 88), []⟩,
            ⟨none, (some 90), .conv .i64 (.t 89), []⟩,
            ⟨none, (some 91), .mov (.t 11), []⟩,
            ⟨none, (some 93), .mov (.t 10), []⟩,
            ⟨none, (some 94), .mov (.t 0), []⟩,
            ⟨none, (some 95), .mov (.t 8), []⟩,
            ⟨none, (some 96), .bin .add (.t 95) (.c (.int .i64 1)), []⟩,
            ⟨none, (some 97), .idxA 3 (.t 94) (.t 96), []⟩,
            ⟨none, (some 98), .fldP 2 (.t 97), []⟩,
            ⟨none, (some 99), .ld 1 false (.t 98), []⟩,
            ⟨none, (some 100), .conv .i64 (.t 99), []⟩,
            ⟨none, (some 101), .mov (.t 11), []⟩,
            ⟨none, (some 92), .call true 577 [.t 83, .t 90, .t 91], []⟩,
            ⟨none, (some 102), .call true 577 [.t 93, .t 100, .t 101], []⟩,
            ⟨none, (some 6), .mov (.t 92), []⟩,
            ⟨none, (some 7), .mov (.t 102), []⟩])
          .ret))))))))
def c538 : Fn := { np := 3, nt := 103, kind := .pure, res := [.t 6, .t 7], body := k538 }

/- slices.ContainsFunc[[]impl.Part,impl.Part] -/
def k541 : Cd :=
  (.seq
   (.reg [4] [
     ⟨none, (some 4), .mov (.c (.bool false)), []⟩])
   (.seq
    (.reg [4] [
      ⟨none, (some 5), .mov (.t 0), []⟩,
      ⟨none, (some 6), .mov (.t 1), []⟩,
      ⟨none, (some 7), .call true 578 [.t 5, .t 6], []⟩,
      ⟨none, (some 8), .bin .geq (.t 7) (.c (.int .i64 0)), []⟩,
      ⟨none, (some 4), .mov (.t 8), []⟩])
    .ret))
def c541 : Fn := { np := 2, nt := 9, kind := .pure, res := [.t 4], body := k541 }

/- impl.areParts$1 -/
def k542 : Cd :=
  (.seq
   (.reg [1, 2] [
     ⟨none, (some 1), .mov (.t 0), []⟩,
     ⟨none, (some 2), .mov (.c (.bool false)), []⟩])
   (.seq
    (.reg [2] [
      ⟨none, (some 3), .ldV 1 none 14 true, []⟩,
      ⟨none, (some 4), .call true 263 [.t 3], []⟩,
      ⟨none, (some 5), .un .not (.t 4), []⟩,
      ⟨none, (some 2), .mov (.t 5), []⟩])
    .ret))
def c542 : Fn := { np := 1, nt := 6, kind := .pure, res := [.t 2], body := k542 }

/- (impl.Track).at -/
def b543_1 : Cd :=
  (.seq
   (.seq
    (.reg [26] [
      ⟨none, (some 13), .mov (.t 8), []⟩,
      ⟨none, (some 14), .mov (.t 0), []⟩,
      ⟨none, (some 15), .len (.t 14), []⟩,
      ⟨none, (some 16), .bin .lss (.t 13) (.t 15), []⟩,
      ⟨none, (some 17), .mov (.t 16), []⟩,
      ⟨(some (17, true)), (some 18), .mov (.t 0), []⟩,
      ⟨(some (17, true)), (some 19), .mov (.t 8), []⟩,
      ⟨(some (17, true)), (some 20), .idxA 3 (.t 18) (.t 19), []⟩,
      ⟨(some (17, true)), (some 21), .fldP 0 (.t 20), []⟩,
      ⟨(some (17, true)), (some 22), .ld 1 false (.t 21), []⟩,
      ⟨(some (17, true)), (some 23), .conv .i64 (.t 22), []⟩,
      ⟨(some (17, true)), (some 24), .mov (.t 2), []⟩,
      ⟨(some (17, true)), (some 25), .bin .leq (.t 23) (.t 24), []⟩,
      ⟨none, (some 26), .pick (.t 17) (.t 25) (.c (.bool false)), []⟩])
    (.cond (.t 26)
     .skip
     (.exit 0)))
   (.block 1
    (.reg [8] [
      ⟨none, (some 27), .mov (.t 8), []⟩,
      ⟨none, (some 28), .bin .add (.t 27) (.c (.int .i64 1)), []⟩,
      ⟨none, (some 8), .mov (.t 28), []⟩])))
def k543 : Cd :=
  (.seq
   (.reg [6, 7] [
     ⟨none, (some 6), .mov (.c (.int .i64 0)), []⟩,
     ⟨none, (some 7), .mov (.c (.int .i64 0)), []⟩])
   (.seq
    (.reg [8] [
      ⟨none, (some 8), .mov (.c (.int .i64 0)), []⟩])
    (.seq
     (.block 0
      (.loop b543_1))
     (.seq
      (.seq
       (.reg [36] [
         ⟨none, (some 29), .mov (.t 8), []⟩,
         ⟨none, (some 30), .bin .eql (.t 29) (.c (.int .i64 0)), []⟩,
         ⟨none, (some 31), .mov (.t 30), []⟩,
         ⟨(some (31, false)), (some 32), .mov (.t 8), []⟩,
         ⟨(some (31, false)), (some 33), .mov (.t 0), []⟩,
         ⟨(some (31, false)), (some 34), .len (.t 33), []⟩,
         ⟨(some (31, false)), (some 35), .bin .eql (.t 32) (.t 34), []⟩,
         ⟨none, (some 36), .pick (.t 31) (.c (.bool true)) (.t 35), []⟩])
       (.cond (.t 36)
        (.seq
         (.reg [9] [
           ⟨none, (some 37), .mov (.t 0), []⟩,
           ⟨none, (some 38), .mov (.t 8), []⟩,
           ⟨none, (some 39), .bin .sub (.t 38) (.c (.int .i64 1)), []⟩,
           ⟨none, (some 40), .mx (.c (.int .i64 0)) (.t 39), []⟩,
           ⟨none, (some 41), .idxA 3 (.t 37) (.t 40), []⟩,
           ⟨none, (some 42), .ld 3 true (.t 41), []⟩,
           ⟨none, (some 9), .zero true [.int .i16 0, .int .i8 0, .int .i8 0], []⟩,
           ⟨none, (some 9), .stV 9 none 3 (.t 42), []⟩])
         (.seq
          (.reg [6, 7] [
            ⟨none, (some 43), .adrF 9 none 1, []⟩,
            ⟨none, (some 44), .ldV 9 (some 43) 1 false, []⟩,
            ⟨none, (some 45), .conv .i64 (.t 44), []⟩,
            ⟨none, (some 46), .adrF 9 none 2, []⟩,
            ⟨none, (some 47), .ldV 9 (some 46) 1 false, []⟩,
            ⟨none, (some 48), .conv .i64 (.t 47), []⟩,
            ⟨none, (some 6), .mov (.t 45), []⟩,
            ⟨none, (some 7), .mov (.t 48), []⟩])
          .ret))
        .skip))
      (.seq
       (.reg [10, 11] [
         ⟨none, (some 49), .mov (.t 0), []⟩,
         ⟨none, (some 50), .mov (.t 8), []⟩,
         ⟨none, (some 51), .bin .sub (.t 50) (.c (.int .i64 1)), []⟩,
         ⟨none, (some 52), .idxA 3 (.t 49) (.t 51), []⟩,
         ⟨none, (some 53), .ld 3 true (.t 52), []⟩,
         ⟨none, (some 54), .mov (.t 0), []⟩,
         ⟨none, (some 55), .mov (.t 8), []⟩,
         ⟨none, (some 56), .idxA 3 (.t 54) (.t 55), []⟩,
         ⟨none, (some 57), .ld 3 true (.t 56), []⟩,
         ⟨none, (some 10), .zero true [.int .i16 0, .int .i8 0, .int .i8 0], []⟩,
         ⟨none, (some 11), .zero true [.int .i16 0, .int .i8 0, .int .i8 0], []⟩,
         ⟨none, (some 10), .stV 10 none 3 (.t 53), []⟩,
         ⟨none, (some 11), .stV 11 none 3 (.t 57), []⟩])
       (.seq
        (.reg [12] [
          ⟨none, (some 58), .mov (.t 1), []⟩,
          ⟨none, (some 59), .mov (.t 2), []⟩,
          ⟨none, (some 60), .adrF 10 none 0, []⟩,
          ⟨none, (some 61), .ldV 10 (some 60) 1 false, []⟩,
          ⟨none, (some 62), .conv .i64 (.t 61), []⟩,
          ⟨none, (some 63), .bin .sub (.t 59) (.t 62), []⟩,
          ⟨none, (some 64), .adrF 11 none 0, []⟩,
          ⟨none, (some 65), .ldV 11 (some 64) 1 false, []⟩,
          ⟨none, (some 66), .adrF 10 none 0, []⟩,
          ⟨none, (some 67), .ldV 10 (some 66) 1 false, []⟩,
          ⟨none, (some 68), .bin .sub (.t 65) (.t 67), []⟩,
          ⟨none, (some 69), .conv .i64 (.t 68), []⟩,
          ⟨none, (some 70), .call true 579 [.t 58, .t 63, .t 69], []⟩,
          ⟨none, (some 12), .mov (.t 70), []⟩])
        (.seq
         (.reg [6, 7] [
           ⟨none, (some 71), .adrF 10 none 1, []⟩,
           ⟨none, (some 72), .ldV 10 (some 71) 1 false, []⟩,
           ⟨none, (some 73), .conv .i64 (.t 72), []⟩,
           ⟨none, (some 74), .adrF 11 none 1, []⟩,
           ⟨none, (some 75), .ldV 11 (some 74) 1 false, []⟩,
           ⟨none, (some 76), .conv .i64 (.t 75), []⟩,
           ⟨none, (some 77), .mov (.t 12), []⟩,
           ⟨none, (some 79), .adrF 10 none 2, []⟩,
           ⟨none, (some 80), .ldV 10 (some 79) 1 false, []⟩,
           ⟨none, (some 81), .conv .i64 (.t 80), []⟩,
           ⟨none, (some 82), .adrF 11 none 2, []⟩,
           ⟨none, (some 83), .ldV 11 (some 82) 1 false, []⟩,
           ⟨none, (some 84), .conv .i64 (.t 83), []⟩,
           ⟨none, (some 85), .mov (.t 12), []⟩,
           ⟨none, (some 78), .call true 580 [.t 73, .t 76, .t 77], []⟩,
           ⟨none, (some 86), .call true 580 [.t 81, .t 84, .t 85], []⟩,
           ⟨none, (some 6), .mov (.t 78), []⟩,
           ⟨none, (some 7), .mov (.t 86), []⟩])
         .ret)))))))
def c543 : Fn := { np := 3, nt := 87, kind := .pure, res := [.t 6, .t 7], body := k543 }

/- slices.IndexFunc[[]uint16,uint16] -/
def b547_1 : Cd :=
  (.seq
   (.reg [9] [
     ⟨none, (some 9), .bin .lss (.t 8) (.t 7), []⟩])
   (.seq
    (.cond (.t 9)
     .skip
     (.exit 0))
    (.seq
     (.block 1
      (.seq
       (.reg [5] [
         ⟨none, (some 10), .mov (.t 8), []⟩,
         ⟨none, (some 5), .mov (.t 10), []⟩])
       (.seq
        (.reg [16] [
          ⟨none, (some 11), .mov (.t 1), []⟩,
          ⟨none, (some 12), .mov (.t 0), []⟩,
          ⟨none, (some 13), .mov (.t 5), []⟩,
          ⟨none, (some 14), .idxA 1 (.t 12) (.t 13), []⟩,
          ⟨none, (some 15), .ld 1 false (.t 14), []⟩,
          ⟨none, (some 16), .callv (.t 11) [.t 15], []⟩])
        (.cond (.t 16)
         (.seq
          (.reg [4] [
            ⟨none, (some 17), .mov (.t 5), []⟩,
            ⟨none, (some 4), .mov (.t 17), []⟩])
          .ret)
         .skip))))
     (.reg [8] [
       ⟨none, (some 18), .bin .add (.t 8) (.c (.int .i64 1)), []⟩,
       ⟨none, (some 8), .mov (.t 18), []⟩]))))
def k547 : Cd :=
  (.seq
   (.reg [4] [
     ⟨none, (some 4), .mov (.c (.int .i64 0)), []⟩])
   (.seq
    (.seq
     (.reg [7, 8] [
       ⟨none, (some 6), .mov (.t 0), []⟩,
       ⟨none, (some 7), .len (.t 6), []⟩,
       ⟨none, (some 8), .mov (.c (.int .i64 0)), []⟩])
     (.block 0
      (.loop b547_1)))
    (.seq
     (.reg [4] [
       ⟨none, (some 4), .mov (.c (.int .i64 (-1))), []⟩])
     .ret)))
def c547 : Fn := { np := 2, nt := 19, kind := .pure, res := [.t 4], body := k547 }

/- spec.l00Max -/
def k549 : Cd :=
  (.seq
   (.reg [4] [
     ⟨none, (some 4), .mov (.c (.int .i64 0)), []⟩])
   (.seq
    (.seq
     (.reg [7] [
       ⟨none, (some 5), .mov (.t 0), []⟩,
       ⟨none, (some 6), .mov (.t 1), []⟩,
       ⟨none, (some 7), .bin .gtr (.t 5) (.t 6), []⟩])
     (.cond (.t 7)
      (.seq
       (.reg [4] [
         ⟨none, (some 8), .mov (.t 0), []⟩,
         ⟨none, (some 4), .mov (.t 8), []⟩])
       .ret)
      .skip))
    (.seq
     (.reg [4] [
       ⟨none, (some 9), .mov (.t 1), []⟩,
       ⟨none, (some 4), .mov (.t 9), []⟩])
     .ret)))
def c549 : Fn := { np := 2, nt := 10, kind := .pure, res := [.t 4], body := k549 }

/- (*spec.l00Src).next -/
def k550 : Cd :=
  (.seq
   (.reg [2] [
     ⟨none, (some 2), .mov (.c (.int .i64 0)), []⟩])
   (.seq
    (.reg [3] [
      ⟨none, (some 3), .mov (.c (.int .i64 0)), []⟩])
    (.seq
     (.seq
      (.reg [13] [
        ⟨none, (some 4), .mov (.t 0), []⟩,
        ⟨none, (some 5), .nil (.t 4), []⟩,
        ⟨none, (some 6), .fldP 1 (.t 5), []⟩,
        ⟨none, (some 7), .ld 1 false (.t 6), []⟩,
        ⟨none, (some 8), .mov (.t 0), []⟩,
        ⟨none, (some 9), .nil (.t 8), []⟩,
        ⟨none, (some 10), .fldP 0 (.t 9), []⟩,
        ⟨none, (some 11), .ld 1 false (.t 10), []⟩,
        ⟨none, (some 12), .len (.t 11), []⟩,
        ⟨none, (some 13), .bin .lss (.t 7) (.t 12), []⟩])
      (.cond (.t 13)
       (.reg [3] [
         ⟨none, (some 14), .mov (.t 0), []⟩,
         ⟨none, (some 15), .nil (.t 14), []⟩,
         ⟨none, (some 16), .fldP 0 (.t 15), []⟩,
         ⟨none, (some 17), .ld 1 false (.t 16), []⟩,
         ⟨none, (some 18), .mov (.t 0), []⟩,
         ⟨none, (some 19), .nil (.t 18), []⟩,
         ⟨none, (some 20), .fldP 1 (.t 19), []⟩,
         ⟨none, (some 21), .ld 1 false (.t 20), []⟩,
         ⟨none, (some 22), .idxA 1 (.t 17) (.t 21), []⟩,
         ⟨none, (some 23), .ld 1 false (.t 22), []⟩,
         ⟨none, (some 24), .conv .i64 (.t 23), []⟩,
         ⟨none, (some 3), .mov (.t 24), []⟩])
       .skip))
     (.seq
      (.reg [] [
        ⟨none, (some 25), .mov (.t 0), []⟩,
        ⟨none, (some 26), .nil (.t 25), []⟩,
        ⟨none, (some 27), .fldP 1 (.t 26), []⟩,
        ⟨none, (some 28), .ld 1 false (.t 27), []⟩,
        ⟨none, (some 29), .bin .add (.t 28) (.c (.int .i64 1)), []⟩,
        ⟨none, (some 30), .nil (.t 25), []⟩,
        ⟨none, (some 31), .fldP 1 (.t 30), []⟩,
        ⟨none, none, .st 1 (.t 31) (.t 29), []⟩])
      (.seq
       (.reg [] [
         ⟨none, (some 32), .mov (.t 0), []⟩,
         ⟨none, (some 33), .mov (.t 0), []⟩,
         ⟨none, (some 34), .nil (.t 33), []⟩,
         ⟨none, (some 35), .fldP 2 (.t 34), []⟩,
         ⟨none, (some 36), .ld 1 false (.t 35), []⟩,
         ⟨none, (some 37), .bin .mul (.t 36) (.c (.int .u64 6364136223846793005)), []⟩,
         ⟨none, (some 38), .mov (.t 3), []⟩,
         ⟨none, (some 39), .conv .u64 (.t 38), []⟩,
         ⟨none, (some 40), .bin .add (.t 37) (.t 39), []⟩,
         ⟨none, (some 41), .bin .add (.t 40) (.c (.int .u64 1442695040888963407)), []⟩,
         ⟨none, (some 42), .nil (.t 32), []⟩,
         ⟨none, (some 43), .fldP 2 (.t 42), []⟩,
         ⟨none, none, .st 1 (.t 43) (.t 41), []⟩])
       (.seq
        (.seq
         (.reg [53] [
           ⟨none, (some 44), .mov (.t 0), []⟩,
           ⟨none, (some 45), .nil (.t 44), []⟩,
           ⟨none, (some 46), .fldP 1 (.t 45), []⟩,
           ⟨none, (some 47), .ld 1 false (.t 46), []⟩,
           ⟨none, (some 48), .mov (.t 0), []⟩,
           ⟨none, (some 49), .nil (.t 48), []⟩,
           ⟨none, (some 50), .fldP 0 (.t 49), []⟩,
           ⟨none, (some 51), .ld 1 false (.t 50), []⟩,
           ⟨none, (some 52), .len (.t 51), []⟩,
           ⟨none, (some 53), .bin .leq (.t 47) (.t 52), []⟩])
         (.cond (.t 53)
          (.seq
           (.reg [2] [
             ⟨none, (some 54), .mov (.t 3), []⟩,
             ⟨none, (some 2), .mov (.t 54), []⟩])
           .ret)
          .skip))
        (.seq
         (.reg [2] [
           ⟨none, (some 55), .mov (.t 0), []⟩,
           ⟨none, (some 56), .nil (.t 55), []⟩,
           ⟨none, (some 57), .fldP 2 (.t 56), []⟩,
           ⟨none, (some 58), .ld 1 false (.t 57), []⟩,
           ⟨none, (some 59), .bin .shr (.t 58) (.c (.int .u64 40)), []⟩,
           ⟨none, (some 60), .bin .and (.t 59) (.c (.int .u64 255)), []⟩,
           ⟨none, (some 61), .conv .i64 (.t 60), []⟩,
           ⟨none, (some 2), .mov (.t 61), []⟩])
         .ret)))))))
def c550 : Fn := { np := 1, nt := 62, kind := .args, res := [.t 2], body := k550 }

/- impl.isReach -/
def k551 : Cd :=
  (.seq
   (.reg [2] [
     ⟨none, (some 2), .mov (.c (.bool false)), []⟩])
   (.seq
    (.reg [2] [
      ⟨none, (some 3), .mov (.t 0), []⟩,
      ⟨none, (some 4), .call true 295 [.t 3, .c (.int .i64 (-24)), .c (.int .i64 24)], []⟩,
      ⟨none, (some 2), .mov (.t 4), []⟩])
    .ret))
def c551 : Fn := { np := 1, nt := 5, kind := .pure, res := [.t 2], body := k551 }

/- spec.l03Ease -/
def k574 : Cd :=
  (.seq
   (.reg [2] [
     ⟨none, (some 2), .mov (.c (.bool false)), []⟩])
   (.seq
    (.reg [2] [
      ⟨none, (some 3), .mov (.t 0), []⟩,
      ⟨none, (some 4), .call true 304 [.t 3, .c (.int .i64 0), .c (.int .i64 3)], []⟩,
      ⟨none, (some 2), .mov (.t 4), []⟩])
    .ret))
def c574 : Fn := { np := 1, nt := 5, kind := .pure, res := [.t 2], body := k574 }

/- spec.l03Ok -/
def b575_1 : Cd :=
  (.seq
   (.seq
    (.reg [7] [
      ⟨none, (some 4), .mov (.t 3), []⟩,
      ⟨none, (some 5), .mov (.t 0), []⟩,
      ⟨none, (some 6), .len (.t 5), []⟩,
      ⟨none, (some 7), .bin .lss (.t 4) (.t 6), []⟩])
    (.cond (.t 7)
     .skip
     (.exit 0)))
   (.seq
    (.block 1
     (.seq
      (.seq
       (.reg [37] [
         ⟨none, (some 10), .mov (.t 0), []⟩,
         ⟨none, (some 11), .mov (.t 3), []⟩,
         ⟨none, (some 12), .idxA 3 (.t 10) (.t 11), []⟩,
         ⟨none, (some 13), .fldP 0 (.t 12), []⟩,
         ⟨none, (some 14), .ld 1 false (.t 13), []⟩,
         ⟨none, (some 15), .conv .i64 (.t 14), []⟩,
         ⟨none, (some 16), .call true 432 [.t 15], []⟩,
         ⟨none, (some 17), .un .not (.t 16), []⟩,
         ⟨none, (some 18), .mov (.t 17), []⟩,
         ⟨(some (18, false)), (some 19), .mov (.t 0), []⟩,
         ⟨(some (18, false)), (some 20), .mov (.t 3), []⟩,
         ⟨(some (18, false)), (some 21), .idxA 3 (.t 19) (.t 20), []⟩,
         ⟨(some (18, false)), (some 22), .fldP 1 (.t 21), []⟩,
         ⟨(some (18, false)), (some 23), .ld 1 false (.t 22), []⟩,
         ⟨(some (18, false)), (some 24), .conv .i64 (.t 23), []⟩,
         ⟨(some (18, false)), (some 25), .call true 605 [.t 24], []⟩,
         ⟨(some (18, false)), (some 26), .un .not (.t 25), []⟩,
         ⟨none, (some 27), .pick (.t 18) (.c (.bool true)) (.t 26), []⟩,
         ⟨none, (some 28), .mov (.t 27), []⟩,
         ⟨(some (28, false)), (some 29), .mov (.t 0), []⟩,
         ⟨(some (28, false)), (some 30), .mov (.t 3), []⟩,
         ⟨(some (28, false)), (some 31), .idxA 3 (.t 29) (.t 30), []⟩,
         ⟨(some (28, false)), (some 32), .fldP 2 (.t 31), []⟩,
         ⟨(some (28, false)), (some 33), .ld 1 false (.t 32), []⟩,
         ⟨(some (28, false)), (some 34), .conv .i64 (.t 33), []⟩,
         ⟨(some (28, false)), (some 35), .call true 605 [.t 34], []⟩,
         ⟨(some (28, false)), (some 36), .un .not (.t 35), []⟩,
         ⟨none, (some 37), .pick (.t 28) (.c (.bool true)) (.t 36), []⟩])
       (.cond (.t 37)
        (.seq
         (.reg [2] [
           ⟨none, (some 2), .mov (.c (.bool false)), []⟩])
         .ret)
        .skip))
      (.seq
       (.reg [53] [
         ⟨none, (some 38), .mov (.t 3), []⟩,
         ⟨none, (some 39), .bin .gtr (.t 38) (.c (.int .i64 0)), []⟩,
         ⟨none, (some 40), .mov (.t 39), []⟩,
         ⟨(some (40, true)), (some 41), .mov (.t 0), []⟩,
         ⟨(some (40, true)), (some 42), .mov (.t 3), []⟩,
         ⟨(some (40, true)), (some 43), .idxA 3 (.t 41) (.t 42), []⟩,
         ⟨(some (40, true)), (some 44), .fldP 0 (.t 43), []⟩,
         ⟨(some (40, true)), (some 45), .ld 1 false (.t 44), []⟩,
         ⟨(some (40, true)), (some 46), .mov (.t 0), []⟩,
         ⟨(some (40, true)), (some 47), .mov (.t 3), []⟩,
         ⟨(some (40, true)), (some 48), .bin .sub (.t 47) (.c (.int .i64 1)), []⟩,
         ⟨(some (40, true)), (some 49), .idxA 3 (.t 46) (.t 48), []⟩,
         ⟨(some (40, true)), (some 50), .fldP 0 (.t 49), []⟩,
         ⟨(some (40, true)), (some 51), .ld 1 false (.t 50), []⟩,
         ⟨(some (40, true)), (some 52), .bin .leq (.t 45) (.t 51), []⟩,
         ⟨none, (some 53), .pick (.t 40) (.t 52) (.c (.bool false)), []⟩])
       (.cond (.t 53)
        (.seq
         (.reg [2] [
           ⟨none, (some 2), .mov (.c (.bool false)), []⟩])
         .ret)
        .skip))))
    (.reg [3] [
      ⟨none, (some 8), .mov (.t 3), []⟩,
      ⟨none, (some 9), .bin .add (.t 8) (.c (.int .i64 1)), []⟩,
      ⟨none, (some 3), .mov (.t 9), []⟩])))
def k575 : Cd :=
  (.seq
   (.reg [2] [
     ⟨none, (some 2), .mov (.c (.bool false)), []⟩])
   (.seq
    (.seq
     (.reg [3] [
       ⟨none, (some 3), .mov (.c (.int .i64 0)), []⟩])
     (.block 0
      (.loop b575_1)))
    (.seq
     (.reg [2] [
       ⟨none, (some 54), .mov (.t 0), []⟩,
       ⟨none, (some 55), .len (.t 54), []⟩,
       ⟨none, (some 56), .call true 304 [.t 55, .c (.int .i64 1), .c (.int .i64 20)], []⟩,
       ⟨none, (some 2), .mov (.t 56), []⟩])
     .ret)))
def c575 : Fn := { np := 1, nt := 57, kind := .pure, res := [.t 2], body := k575 }

/- spec.l03Share -/
def k576 : Cd :=
  (.seq
   (.reg [6] [
     ⟨none, (some 6), .mov (.c (.int .i64 0)), []⟩])
   (.seq
    (.reg [7] [
      ⟨none, (some 9), .mov (.t 2), []⟩,
      ⟨none, (some 10), .mov (.t 1), []⟩,
      ⟨none, (some 11), .bin .sub (.t 9) (.t 10), []⟩,
      ⟨none, (some 7), .mov (.t 11), []⟩])
    (.seq
     (.reg [8] [
       ⟨none, (some 12), .mov (.t 2), []⟩,
       ⟨none, (some 13), .mov (.t 2), []⟩,
       ⟨none, (some 14), .bin .mul (.t 12) (.t 13), []⟩,
       ⟨none, (some 8), .mov (.t 14), []⟩])
     (.seq
      (.seq
       (.reg [15] [
         ⟨none, (some 15), .mov (.t 0), []⟩])
       (.block 0
        (.seq
         (.reg [16] [
           ⟨none, (some 17), .bin .eql (.t 15) (.c (.int .i64 0)), []⟩,
           ⟨none, (some 16), .mov (.t 17), []⟩])
         (.cond (.t 16)
          (.seq
           (.reg [6] [
             ⟨none, (some 18), .mov (.t 1), []⟩,
             ⟨none, (some 19), .bin .mul (.t 18) (.c (.int .i64 1000)), []⟩,
             ⟨none, (some 20), .mov (.t 2), []⟩,
             ⟨none, (some 21), .bin .quo (.t 19) (.t 20), []⟩,
             ⟨none, (some 6), .mov (.t 21), []⟩])
           .ret)
          (.seq
           (.reg [22] [
             ⟨none, (some 23), .bin .eql (.t 15) (.c (.int .i64 1)), []⟩,
             ⟨none, (some 22), .mov (.t 23), []⟩])
           (.cond (.t 22)
            (.seq
             (.reg [6] [
               ⟨none, (some 24), .mov (.t 1), []⟩,
               ⟨none, (some 25), .mov (.t 1), []⟩,
               ⟨none, (some 26), .bin .mul (.t 24) (.t 25), []⟩,
               ⟨none, (some 27), .bin .mul (.t 26) (.c (.int .i64 1000)), []⟩,
               ⟨none, (some 28), .mov (.t 8), []⟩,
               ⟨none, (some 29), .bin .quo (.t 27) (.t 28), []⟩,
               ⟨none, (some 6), .mov (.t 29), []⟩])
             .ret)
            (.seq
             (.reg [30] [
               ⟨none, (some 31), .bin .eql (.t 15) (.c (.int .i64 2)), []⟩,
               ⟨none, (some 30), .mov (.t 31), []⟩])
             (.cond (.t 30)
              (.seq
               (.reg [6] [
                 ⟨none, (some 32), .mov (.t 7), []⟩,
                 ⟨none, (some 33), .mov (.t 7), []⟩,
                 ⟨none, (some 34), .bin .mul (.t 32) (.t 33), []⟩,
                 ⟨none, (some 35), .bin .mul (.t 34) (.c (.int .i64 1000)), []⟩,
                 ⟨none, (some 36), .mov (.t 8), []⟩,
                 ⟨none, (some 37), .bin .quo (.t 35) (.t 36), []⟩,
                 ⟨none, (some 38), .bin .sub (.c (.int .i64 1000)) (.t 37), []⟩,
                 ⟨none, (some 6), .mov (.t 38), []⟩])
               .ret)
              .skip))))))))
      (.seq
       (.seq
        (.reg [42] [
          ⟨none, (some 39), .mov (.t 1), []⟩,
          ⟨none, (some 40), .bin .mul (.c (.int .i64 2)) (.t 39), []⟩,
          ⟨none, (some 41), .mov (.t 2), []⟩,
          ⟨none, (some 42), .bin .lss (.t 40) (.t 41), []⟩])
        (.cond (.t 42)
         (.seq
          (.reg [6] [
            ⟨none, (some 43), .mov (.t 1), []⟩,
            ⟨none, (some 44), .bin .mul (.c (.int .i64 2)) (.t 43), []⟩,
            ⟨none, (some 45), .mov (.t 1), []⟩,
            ⟨none, (some 46), .bin .mul (.t 44) (.t 45), []⟩,
            ⟨none, (some 47), .bin .mul (.t 46) (.c (.int .i64 1000)), []⟩,
            ⟨none, (some 48), .mov (.t 8), []⟩,
            ⟨none, (some 49), .bin .quo (.t 47) (.t 48), []⟩,
            ⟨none, (some 6), .mov (.t 49), []⟩])
          .ret)
         .skip))
       (.seq
        (.reg [6] [
          ⟨none, (some 50), .mov (.t 7), []⟩,
          ⟨none, (some 51), .bin .mul (.c (.int .i64 2)) (.t 50), []⟩,
          ⟨none, (some 52), .mov (.t 7), []⟩,
          ⟨none, (some 53), .bin .mul (.t 51) (.t 52), []⟩,
          ⟨none, (some 54), .bin .mul (.t 53) (.c (.int .i64 1000)), []⟩,
          ⟨none, (some 55), .mov (.t 8), []⟩,
          ⟨none, (some 56), .bin .quo (.t 54) (.t 55), []⟩,
          ⟨none, (some 57), .bin .sub (.c (.int .i64 1000)) (.t 56), []⟩,
          ⟨none, (some 6), .mov (.t 57), []⟩])
        .ret))))))
def c576 : Fn := { np := 3, nt := 58, kind := .pure, res := [.t 6], body := k576 }

/- spec.l03Between -/
def k577 : Cd :=
  (.seq
   (.reg [6] [
     ⟨none, (some 6), .mov (.c (.int .i64 0)), []⟩])
   (.seq
    (.reg [7] [
      ⟨none, (some 8), .mov (.t 1), []⟩,
      ⟨none, (some 9), .mov (.t 0), []⟩,
      ⟨none, (some 10), .bin .sub (.t 8) (.t 9), []⟩,
      ⟨none, (some 11), .call true 606 [.t 10], []⟩,
      ⟨none, (some 12), .mov (.t 2), []⟩,
      ⟨none, (some 13), .bin .mul (.t 11) (.t 12), []⟩,
      ⟨none, (some 14), .bin .add (.t 13) (.c (.int .i64 500)), []⟩,
      ⟨none, (some 15), .bin .quo (.t 14) (.c (.int .i64 1000)), []⟩,
      ⟨none, (some 7), .mov (.t 15), []⟩])
    (.seq
     (.seq
      (.reg [18] [
        ⟨none, (some 16), .mov (.t 1), []⟩,
        ⟨none, (some 17), .mov (.t 0), []⟩,
        ⟨none, (some 18), .bin .lss (.t 16) (.t 17), []⟩])
      (.cond (.t 18)
       (.seq
        (.reg [6] [
          ⟨none, (some 19), .mov (.t 0), []⟩,
          ⟨none, (some 20), .mov (.t 7), []⟩,
          ⟨none, (some 21), .bin .sub (.t 19) (.t 20), []⟩,
          ⟨none, (some 6), .mov (.t 21), []⟩])
        .ret)
       .skip))
     (.seq
      (.reg [6] [
        ⟨none, (some 22), .mov (.t 0), []⟩,
        ⟨none, (some 23), .mov (.t 7), []⟩,
        ⟨none, (some 24), .bin .add (.t 22) (.t 23), []⟩,
        ⟨none, (some 6), .mov (.t 24), []⟩])
      .ret))))
def c577 : Fn := { np := 3, nt := 25, kind := .pure, res := [.t 6], body := k577 }

/- slices.IndexFunc[[]impl.Part,impl.Part] -/
def b578_1 : Cd :=
  (.seq
   (.reg [9] [
     ⟨none, (some 9), .bin .lss (.t 8) (.t 7), []⟩])
   (.seq
    (.cond (.t 9)
     .skip
     (.exit 0))
    (.seq
     (.block 1
      (.seq
       (.reg [5] [
         ⟨none, (some 10), .mov (.t 8), []⟩,
         ⟨none, (some 5), .mov (.t 10), []⟩])
       (.seq
        (.reg [16] [
          ⟨none, (some 11), .mov (.t 1), []⟩,
          ⟨none, (some 12), .mov (.t 0), []⟩,
          ⟨none, (some 13), .mov (.t 5), []⟩,
          ⟨none, (some 14), .idxA 14 (.t 12) (.t 13), []⟩,
          ⟨none, (some 15), .ld 14 true (.t 14), []⟩,
          ⟨none, (some 16), .callv (.t 11) [.t 15], []⟩])
        (.cond (.t 16)
         (.seq
          (.reg [4] [
            ⟨none, (some 17), .mov (.t 5), []⟩,
            ⟨none, (some 4), .mov (.t 17), []⟩])
          .ret)
         .skip))))
     (.reg [8] [
       ⟨none, (some 18), .bin .add (.t 8) (.c (.int .i64 1)), []⟩,
       ⟨none, (some 8), .mov (.t 18), []⟩]))))
def k578 : Cd :=
  (.seq
   (.reg [4] [
     ⟨none, (some 4), .mov (.c (.int .i64 0)), []⟩])
   (.seq
    (.seq
     (.reg [7, 8] [
       ⟨none, (some 6), .mov (.t 0), []⟩,
       ⟨none, (some 7), .len (.t 6), []⟩,
       ⟨none, (some 8), .mov (.c (.int .i64 0)), []⟩])
     (.block 0
      (.loop b578_1)))
    (.seq
     (.reg [4] [
       ⟨none, (some 4), .mov (.c (.int .i64 (-1))), []⟩])
     .ret)))
def c578 : Fn := { np := 2, nt := 19, kind := .pure, res := [.t 4], body := k578 }

/- impl.easeOf -/
def k579 : Cd :=
  (.seq
   (.reg [6] [
     ⟨none, (some 6), .mov (.c (.int .i64 0)), []⟩])
   (.seq
    (.reg [7, 8] [
      ⟨none, (some 9), .mov (.t 2), []⟩,
      ⟨none, (some 10), .mov (.t 1), []⟩,
      ⟨none, (some 11), .bin .sub (.t 9) (.t 10), []⟩,
      ⟨none, (some 12), .mov (.t 2), []⟩,
      ⟨none, (some 13), .mov (.t 2), []⟩,
      ⟨none, (some 14), .bin .mul (.t 12) (.t 13), []⟩,
      ⟨none, (some 7), .mov (.t 11), []⟩,
      ⟨none, (some 8), .mov (.t 14), []⟩])
    (.seq
     (.block 0
      (.seq
       (.reg [15] [
         ⟨none, (some 16), .mov (.t 0), []⟩,
         ⟨none, (some 17), .bin .eql (.t 16) (.c (.int .i64 0)), []⟩,
         ⟨none, (some 15), .mov (.t 17), []⟩])
       (.cond (.t 15)
        (.seq
         (.reg [6] [
           ⟨none, (some 18), .mov (.t 1), []⟩,
           ⟨none, (some 19), .bin .mul (.t 18) (.c (.int .i64 1000)), []⟩,
           ⟨none, (some 20), .mov (.t 2), []⟩,
           ⟨none, (some 21), .bin .quo (.t 19) (.t 20), []⟩,
           ⟨none, (some 6), .mov (.t 21), []⟩])
         .ret)
        (.seq
         (.reg [22] [
           ⟨none, (some 23), .mov (.t 0), []⟩,
           ⟨none, (some 24), .bin .eql (.t 23) (.c (.int .i64 1)), []⟩,
           ⟨none, (some 22), .mov (.t 24), []⟩])
         (.cond (.t 22)
          (.seq
           (.reg [6] [
             ⟨none, (some 25), .mov (.t 1), []⟩,
             ⟨none, (some 26), .mov (.t 1), []⟩,
             ⟨none, (some 27), .bin .mul (.t 25) (.t 26), []⟩,
             ⟨none, (some 28), .bin .mul (.t 27) (.c (.int .i64 1000)), []⟩,
             ⟨none, (some 29), .mov (.t 8), []⟩,
             ⟨none, (some 30), .bin .quo (.t 28) (.t 29), []⟩,
             ⟨none, (some 6), .mov (.t 30), []⟩])
           .ret)
          (.seq
           (.reg [31] [
             ⟨none, (some 32), .mov (.t 0), []⟩,
             ⟨none, (some 33), .bin .eql (.t 32) (.c (.int .i64 2)), []⟩,
             ⟨none, (some 31), .mov (.t 33), []⟩])
           (.cond (.t 31)
            (.seq
             (.reg [6] [
               ⟨none, (some 34), .mov (.t 7), []⟩,
               ⟨none, (some 35), .mov (.t 7), []⟩,
               ⟨none, (some 36), .bin .mul (.t 34) (.t 35), []⟩,
               ⟨none, (some 37), .bin .mul (.t 36) (.c (.int .i64 1000)), []⟩,
               ⟨none, (some 38), .mov (.t 8), []⟩,
               ⟨none, (some 39), .bin .quo (.t 37) (.t 38), []⟩,
               ⟨none, (some 40), .bin .sub (.c (.int .i64 1000)) (.t 39), []⟩,
               ⟨none, (some 6), .mov (.t 40), []⟩])
             .ret)
            (.seq
             (.reg [41] [
               ⟨none, (some 42), .mov (.t 1), []⟩,
               ⟨none, (some 43), .bin .mul (.c (.int .i64 2)) (.t 42), []⟩,
               ⟨none, (some 44), .mov (.t 2), []⟩,
               ⟨none, (some 45), .bin .lss (.t 43) (.t 44), []⟩,
               ⟨none, (some 41), .mov (.t 45), []⟩])
             (.cond (.t 41)
              (.seq
               (.reg [6] [
                 ⟨none, (some 46), .mov (.t 1), []⟩,
                 ⟨none, (some 47), .bin .mul (.c (.int .i64 2)) (.t 46), []⟩,
                 ⟨none, (some 48), .mov (.t 1), []⟩,
                 ⟨none, (some 49), .bin .mul (.t 47) (.t 48), []⟩,
                 ⟨none, (some 50), .bin .mul (.t 49) (.c (.int .i64 1000)), []⟩,
                 ⟨none, (some 51), .mov (.t 8), []⟩,
                 ⟨none, (some 52), .bin .quo (.t 50) (.t 51), []⟩,
                 ⟨none, (some 6), .mov (.t 52), []⟩])
               .ret)
              .skip)))))))))
     (.seq
      (.reg [6] [
        ⟨none, (some 53), .mov (.t 7), []⟩,
        ⟨none, (some 54), .bin .mul (.c (.int .i64 2)) (.t 53), []⟩,
        ⟨none, (some 55), .mov (.t 7), []⟩,
        ⟨none, (some 56), .bin .mul (.t 54) (.t 55), []⟩,
        ⟨none, (some 57), .bin .mul (.t 56) (.c (.int .i64 1000)), []⟩,
        ⟨none, (some 58), .mov (.t 8), []⟩,
        ⟨none, (some 59), .bin .quo (.t 57) (.t 58), []⟩,
        ⟨none, (some 60), .bin .sub (.c (.int .i64 1000)) (.t 59), []⟩,
        ⟨none, (some 6), .mov (.t 60), []⟩])
      .ret))))
def c579 : Fn := { np := 3, nt := 61, kind := .pure, res := [.t 6], body := k579 }

/- impl.between -/
def k580 : Cd :=
  (.seq
   (.reg [6] [
     ⟨none, (some 6), .mov (.c (.int .i64 0)), []⟩])
   (.seq
    (.seq
     (.reg [9] [
       ⟨none, (some 7), .mov (.t 1), []⟩,
       ⟨none, (some 8), .mov (.t 0), []⟩,
       ⟨none, (some 9), .bin .lss (.t 7) (.t 8), []⟩])
     (.cond (.t 9)
      (.seq
       (.reg [6] [
         ⟨none, (some 10), .mov (.t 0), []⟩,
         ⟨none, (some 11), .mov (.t 0), []⟩,
         ⟨none, (some 12), .mov (.t 1), []⟩,
         ⟨none, (some 13), .bin .sub (.t 11) (.t 12), []⟩,
         ⟨none, (some 14), .mov (.t 2), []⟩,
         ⟨none, (some 15), .bin .mul (.t 13) (.t 14), []⟩,
         ⟨none, (some 16), .bin .add (.t 15) (.c (.int .i64 500)), []⟩,
         ⟨none, (some 17), .bin .quo (.t 16) (.c (.int .i64 1000)), []⟩,
         ⟨none, (some 18), .bin .sub (.t 10) (.t 17), []⟩,
         ⟨none, (some 6), .mov (.t 18), []⟩])
       .ret)
      .skip))
    (.seq
     (.reg [6] [
       ⟨none, (some 19), .mov (.t 0), []⟩,
       ⟨none, (some 20), .mov (.t 1), []⟩,
       ⟨none, (some 21), .mov (.t 0), []⟩,
       ⟨none, (some 22), .bin .sub (.t 20) (.t 21), []⟩,
       ⟨none, (some 23), .mov (.t 2), []⟩,
       ⟨none, (some 24), .bin .mul (.t 22) (.t 23), []⟩,
       ⟨none, (some 25), .bin .add (.t 24) (.c (.int .i64 500)), []⟩,
       ⟨none, (some 26), .bin .quo (.t 25) (.c (.int .i64 1000)), []⟩,
       ⟨none, (some 27), .bin .add (.t 19) (.t 26), []⟩,
       ⟨none, (some 6), .mov (.t 27), []⟩])
     .ret)))
def c580 : Fn := { np := 3, nt := 28, kind := .pure, res := [.t 6], body := k580 }

/- spec.l03Reach -/
def k605 : Cd :=
  (.seq
   (.reg [2] [
     ⟨none, (some 2), .mov (.c (.bool false)), []⟩])
   (.seq
    (.reg [2] [
      ⟨none, (some 3), .mov (.t 0), []⟩,
      ⟨none, (some 4), .call true 304 [.t 3, .c (.int .i64 (-24)), .c (.int .i64 24)], []⟩,
      ⟨none, (some 2), .mov (.t 4), []⟩])
    .ret))
def c605 : Fn := { np := 1, nt := 5, kind := .pure, res := [.t 2], body := k605 }

/- spec.l03Size -/
def k606 : Cd :=
  (.seq
   (.reg [2] [
     ⟨none, (some 2), .mov (.c (.int .i64 0)), []⟩])
   (.seq
    (.reg [2] [
      ⟨none, (some 3), .mov (.t 0), []⟩,
      ⟨none, (some 4), .mov (.t 0), []⟩,
      ⟨none, (some 5), .un .neg (.t 4), []⟩,
      ⟨none, (some 6), .call true 549 [.t 3, .t 5], []⟩,
      ⟨none, (some 2), .mov (.t 6), []⟩])
    .ret))
def c606 : Fn := { np := 1, nt := 7, kind := .pure, res := [.t 2], body := k606 }


end Fb
