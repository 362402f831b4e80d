/- The functions of the law, in the small language. -/
import Derived.Test.YtkjlnflhimibdaaDen
set_option linter.unusedVariables false
set_option linter.unusedSimpArgs false
namespace Fb
open Go

/- laws.FnStrokes -/
def b28_1 : Cd :=
  (.seq
   (.seq
    (.reg [128] [
      ⟨none, (some 125), .mov (.t 20), []⟩,
      ⟨none, (some 126), .mov (.t 15), []⟩,
      ⟨none, (some 127), .len (.t 126), []⟩,
      ⟨none, (some 128), .bin .lss (.t 125) (.t 127), []⟩])
    (.cond (.t 128)
     .skip
     (.exit 2)))
   (.seq
    (.block 3
     (.seq
      (.reg [19] [
        ⟨none, (some 131), .mov (.t 19), []⟩,
        ⟨none, (some 132), .mov (.t 15), []⟩,
        ⟨none, (some 133), .mov (.t 20), []⟩,
        ⟨none, (some 134), .idxA 4 (.t 132) (.t 133), []⟩,
        ⟨none, (some 135), .fldP 2 (.t 134), []⟩,
        ⟨none, (some 136), .ld 1 false (.t 135), []⟩,
        ⟨none, (some 137), .conv .i64 (.t 136), []⟩,
        ⟨none, (some 138), .bin .add (.t 131) (.t 137), []⟩,
        ⟨none, (some 19), .mov (.t 138), []⟩])
      (.seq
       (.seq
        (.reg [154] [
          ⟨none, (some 139), .mov (.t 15), []⟩,
          ⟨none, (some 140), .mov (.t 20), []⟩,
          ⟨none, (some 141), .idxA 4 (.t 139) (.t 140), []⟩,
          ⟨none, (some 142), .fldP 3 (.t 141), []⟩,
          ⟨none, (some 143), .ld 1 false (.t 142), []⟩,
          ⟨none, (some 144), .mov (.t 12), []⟩,
          ⟨none, (some 145), .bin .eql (.t 144) (.c (.int .i64 1)), []⟩,
          ⟨none, (some 146), .eq .b true (.t 143) (.t 145), []⟩,
          ⟨none, (some 147), .mov (.t 146), []⟩,
          ⟨(some (147, false)), (some 148), .mov (.t 15), []⟩,
          ⟨(some (147, false)), (some 149), .mov (.t 20), []⟩,
          ⟨(some (147, false)), (some 150), .idxA 4 (.t 148) (.t 149), []⟩,
          ⟨(some (147, false)), (some 151), .fldP 2 (.t 150), []⟩,
          ⟨(some (147, false)), (some 152), .ld 1 false (.t 151), []⟩,
          ⟨(some (147, false)), (some 153), .bin .lss (.t 152) (.c (.int .i8 1)), []⟩,
          ⟨none, (some 154), .pick (.t 147) (.c (.bool true)) (.t 153), []⟩])
        (.cond (.t 154)
         (.seq
          (.reg [4] [
            ⟨none, (some 4), .mov (.c (.bool false)), []⟩])
          .ret)
         .skip))
       (.seq
        (.reg [21, 22] [
          ⟨none, (some 155), .mov (.t 15), []⟩,
          ⟨none, (some 156), .mov (.t 20), []⟩,
          ⟨none, (some 157), .idxA 4 (.t 155) (.t 156), []⟩,
          ⟨none, (some 158), .fldP 0 (.t 157), []⟩,
          ⟨none, (some 159), .ld 1 false (.t 158), []⟩,
          ⟨none, (some 160), .conv .i64 (.t 159), []⟩,
          ⟨none, (some 161), .mov (.t 15), []⟩,
          ⟨none, (some 162), .mov (.t 20), []⟩,
          ⟨none, (some 163), .idxA 4 (.t 161) (.t 162), []⟩,
          ⟨none, (some 164), .fldP 1 (.t 163), []⟩,
          ⟨none, (some 165), .ld 1 false (.t 164), []⟩,
          ⟨none, (some 166), .conv .i64 (.t 165), []⟩,
          ⟨none, (some 21), .mov (.t 160), []⟩,
          ⟨none, (some 22), .mov (.t 166), []⟩])
        (.seq
         (.reg [23, 24] [
           ⟨none, (some 167), .mov (.t 21), []⟩,
           ⟨none, (some 168), .mov (.t 15), []⟩,
           ⟨none, (some 169), .mov (.t 20), []⟩,
           ⟨none, (some 170), .idxA 4 (.t 168) (.t 169), []⟩,
           ⟨none, (some 171), .fldP 2 (.t 170), []⟩,
           ⟨none, (some 172), .ld 1 false (.t 171), []⟩,
           ⟨none, (some 173), .conv .i64 (.t 172), []⟩,
           ⟨none, (some 174), .bin .add (.t 167) (.t 173), []⟩,
           ⟨none, (some 175), .mov (.t 22), []⟩,
           ⟨none, (some 23), .mov (.t 174), []⟩,
           ⟨none, (some 24), .mov (.t 175), []⟩])
         (.seq
          (.reg [25, 26] [
            ⟨none, (some 176), .mov (.t 21), []⟩,
            ⟨none, (some 177), .bin .sub (.t 176) (.c (.int .i64 1)), []⟩,
            ⟨none, (some 178), .mov (.t 22), []⟩,
            ⟨none, (some 25), .mov (.t 177), []⟩,
            ⟨none, (some 26), .mov (.t 178), []⟩])
          (.seq
           (.seq
            (.reg [180] [
              ⟨none, (some 179), .mov (.t 12), []⟩,
              ⟨none, (some 180), .bin .eql (.t 179) (.c (.int .i64 1)), []⟩])
            (.cond (.t 180)
             (.reg [23, 24, 25, 26] [
               ⟨none, (some 181), .mov (.t 21), []⟩,
               ⟨none, (some 182), .mov (.t 22), []⟩,
               ⟨none, (some 183), .mov (.t 15), []⟩,
               ⟨none, (some 184), .mov (.t 20), []⟩,
               ⟨none, (some 185), .idxA 4 (.t 183) (.t 184), []⟩,
               ⟨none, (some 186), .fldP 2 (.t 185), []⟩,
               ⟨none, (some 187), .ld 1 false (.t 186), []⟩,
               ⟨none, (some 188), .conv .i64 (.t 187), []⟩,
               ⟨none, (some 189), .bin .add (.t 182) (.t 188), []⟩,
               ⟨none, (some 190), .mov (.t 21), []⟩,
               ⟨none, (some 191), .mov (.t 22), []⟩,
               ⟨none, (some 192), .bin .sub (.t 191) (.c (.int .i64 1)), []⟩,
               ⟨none, (some 23), .mov (.t 181), []⟩,
               ⟨none, (some 24), .mov (.t 189), []⟩,
               ⟨none, (some 25), .mov (.t 190), []⟩,
               ⟨none, (some 26), .mov (.t 192), []⟩])
             .skip))
           (.seq
            (.reg [226] [
              ⟨none, (some 193), .mov (.t 23), []⟩,
              ⟨none, (some 194), .bin .lss (.t 193) (.c (.int .i64 12)), []⟩,
              ⟨none, (some 195), .mov (.t 194), []⟩,
              ⟨(some (195, true)), (some 196), .mov (.t 24), []⟩,
              ⟨(some (195, true)), (some 197), .bin .lss (.t 196) (.c (.int .i64 12)), []⟩,
              ⟨none, (some 198), .pick (.t 195) (.t 197) (.c (.bool false)), []⟩,
              ⟨none, (some 199), .mov (.t 198), []⟩,
              ⟨(some (199, true)), (some 200), .mov (.t 24), []⟩,
              ⟨(some (199, true)), (some 201), .adrI 5 none 12 1 (.t 200), []⟩,
              ⟨(some (199, true)), (some 202), .ldV 5 (some 201) 1 false, []⟩,
              ⟨(some (199, true)), (some 203), .mov (.t 23), []⟩,
              ⟨(some (199, true)), (some 204), .conv .u64 (.t 203), []⟩,
              ⟨(some (199, true)), (some 205), .bin .shr (.t 202) (.t 204), []⟩,
              ⟨(some (199, true)), (some 206), .bin .and (.t 205) (.c (.int .u16 1)), []⟩,
              ⟨(some (199, true)), (some 207), .bin .eql (.t 206) (.c (.int .u16 1)), []⟩,
              ⟨none, (some 208), .pick (.t 199) (.t 207) (.c (.bool false)), []⟩,
              ⟨none, (some 209), .mov (.t 208), []⟩,
              ⟨(some (209, false)), (some 210), .mov (.t 25), []⟩,
              ⟨(some (209, false)), (some 211), .bin .geq (.t 210) (.c (.int .i64 0)), []⟩,
              ⟨(some (209, false)), (some 212), .mov (.t 211), []⟩,
              ⟨(some (212, true)), (some 213), .mov (.t 26), []⟩,
              ⟨(some (212, true)), (some 214), .bin .geq (.t 213) (.c (.int .i64 0)), []⟩,
              ⟨(some (209, false)), (some 215), .pick (.t 212) (.t 214) (.c (.bool false)), []⟩,
              ⟨(some (209, false)), (some 216), .mov (.t 215), []⟩,
              ⟨(some (216, true)), (some 217), .mov (.t 26), []⟩,
              ⟨(some (216, true)), (some 218), .adrI 5 none 12 1 (.t 217), []⟩,
              ⟨(some (216, true)), (some 219), .ldV 5 (some 218) 1 false, []⟩,
              ⟨(some (216, true)), (some 220), .mov (.t 25), []⟩,
              ⟨(some (216, true)), (some 221), .conv .u64 (.t 220), []⟩,
              ⟨(some (216, true)), (some 222), .bin .shr (.t 219) (.t 221), []⟩,
              ⟨(some (216, true)), (some 223), .bin .and (.t 222) (.c (.int .u16 1)), []⟩,
              ⟨(some (216, true)), (some 224), .bin .eql (.t 223) (.c (.int .u16 1)), []⟩,
              ⟨(some (209, false)), (some 225), .pick (.t 216) (.t 224) (.c (.bool false)), []⟩,
              ⟨none, (some 226), .pick (.t 209) (.c (.bool true)) (.t 225), []⟩])
            (.cond (.t 226)
             (.seq
              (.reg [4] [
                ⟨none, (some 4), .mov (.c (.bool false)), []⟩])
              .ret)
             .skip)))))))))
    (.reg [20] [
      ⟨none, (some 129), .mov (.t 20), []⟩,
      ⟨none, (some 130), .bin .add (.t 129) (.c (.int .i64 1)), []⟩,
      ⟨none, (some 20), .mov (.t 130), []⟩])))
def b28_2 : Cd :=
  (.seq
   (.seq
    (.reg [74] [
      ⟨none, (some 73), .mov (.t 12), []⟩,
      ⟨none, (some 74), .bin .lss (.t 73) (.c (.int .i64 2)), []⟩])
    (.cond (.t 74)
     .skip
     (.exit 0)))
   (.seq
    (.block 1
     (.seq
      (.reg [13, 14] [
        ⟨none, (some 78), .ldV 5 none 12 true, []⟩,
        ⟨none, (some 79), .mov (.t 12), []⟩,
        ⟨none, (some 80), .bin .eql (.t 79) (.c (.int .i64 1)), []⟩,
        ⟨none, (some 81), .call true 137 [.t 78, .t 80], []⟩,
        ⟨none, (some 77), .mov (.t 81), []⟩,
        ⟨none, (some 82), .ext (.t 77) 0, []⟩,
        ⟨none, (some 83), .ext (.t 77) 1, []⟩,
        ⟨none, (some 13), .mov (.t 82), []⟩,
        ⟨none, (some 14), .mov (.t 83), []⟩])
      (.seq
       (.reg [15, 16] [
         ⟨none, (some 85), .ldV 5 none 12 true, []⟩,
         ⟨none, (some 86), .mov (.t 12), []⟩,
         ⟨none, (some 87), .bin .eql (.t 86) (.c (.int .i64 1)), []⟩,
         ⟨none, (some 88), .call true 136 [.t 85, .t 87], []⟩,
         ⟨none, (some 84), .mov (.t 88), []⟩,
         ⟨none, (some 89), .ext (.t 84) 0, []⟩,
         ⟨none, (some 90), .ext (.t 84) 1, []⟩,
         ⟨none, (some 15), .mov (.t 89), []⟩,
         ⟨none, (some 16), .mov (.t 90), []⟩])
       (.seq
        (.reg [17, 18] [
          ⟨none, (some 92), .mov (.t 15), []⟩,
          ⟨none, (some 93), .call true 115 [.t 92], []⟩,
          ⟨none, (some 91), .mov (.t 93), []⟩,
          ⟨none, (some 94), .ext (.t 91) 0, []⟩,
          ⟨none, (some 95), .ext (.t 91) 1, []⟩,
          ⟨none, (some 17), .zero true (zs 12 (.int .u16 0)), []⟩,
          ⟨none, (some 17), .stV 17 none 12 (.t 94), []⟩,
          ⟨none, (some 18), .mov (.t 95), []⟩])
        (.seq
         (.seq
          (.reg [124] [
            ⟨none, (some 96), .mov (.t 14), []⟩,
            ⟨none, (some 97), .mov (.t 16), []⟩,
            ⟨none, (some 98), .bin .neq (.t 96) (.t 97), []⟩,
            ⟨none, (some 99), .mov (.t 98), []⟩,
            ⟨(some (99, false)), (some 100), .mov (.t 14), []⟩,
            ⟨(some (99, false)), (some 101), .bin .neq (.t 100) (.c (.int .i64 0)), []⟩,
            ⟨none, (some 102), .pick (.t 99) (.c (.bool true)) (.t 101), []⟩,
            ⟨none, (some 103), .mov (.t 102), []⟩,
            ⟨(some (103, false)), (some 104), .mov (.t 13), []⟩,
            ⟨(some (103, false)), (some 105), .mov (.t 15), []⟩,
            ⟨(some (103, false)), (some 106), .call true 172 [.t 104, .t 105], []⟩,
            ⟨(some (103, false)), (some 107), .un .not (.t 106), []⟩,
            ⟨none, (some 108), .pick (.t 103) (.c (.bool true)) (.t 107), []⟩,
            ⟨none, (some 109), .mov (.t 108), []⟩,
            ⟨(some (109, false)), (some 110), .mov (.t 18), []⟩,
            ⟨(some (109, false)), (some 111), .bin .neq (.t 110) (.c (.int .i64 0)), []⟩,
            ⟨none, (some 112), .pick (.t 109) (.c (.bool true)) (.t 111), []⟩,
            ⟨none, (some 113), .mov (.t 112), []⟩,
            ⟨(some (113, false)), (some 114), .ldV 17 none 12 true, []⟩,
            ⟨(some (113, false)), (some 115), .ldV 5 none 12 true, []⟩,
            ⟨(some (113, false)), (some 116), .eq (.a (rb 12 (some .u16))) true (.t 114) (.t 115), []⟩,
            ⟨none, (some 117), .pick (.t 113) (.c (.bool true)) (.t 116), []⟩,
            ⟨none, (some 118), .mov (.t 117), []⟩,
            ⟨(some (118, false)), (some 119), .mov (.t 8), []⟩,
            ⟨(some (118, false)), (some 120), .len (.t 119), []⟩,
            ⟨(some (118, false)), (some 121), .mov (.t 15), []⟩,
            ⟨(some (118, false)), (some 122), .len (.t 121), []⟩,
            ⟨(some (118, false)), (some 123), .bin .gtr (.t 120) (.t 122), []⟩,
            ⟨none, (some 124), .pick (.t 118) (.c (.bool true)) (.t 123), []⟩])
          (.cond (.t 124)
           (.seq
            (.reg [4] [
              ⟨none, (some 4), .mov (.c (.bool false)), []⟩])
            .ret)
           .skip))
         (.seq
          (.reg [19] [
            ⟨none, (some 19), .mov (.c (.int .i64 0)), []⟩])
          (.seq
           (.seq
            (.reg [20] [
              ⟨none, (some 20), .mov (.c (.int .i64 0)), []⟩])
            (.block 2
             (.loop b28_1)))
           (.seq
            (.reg [229] [
              ⟨none, (some 227), .mov (.t 19), []⟩,
              ⟨none, (some 228), .mov (.t 10), []⟩,
              ⟨none, (some 229), .bin .neq (.t 227) (.t 228), []⟩])
            (.cond (.t 229)
             (.seq
              (.reg [4] [
                ⟨none, (some 4), .mov (.c (.bool false)), []⟩])
              .ret)
             .skip)))))))))
    (.reg [12] [
      ⟨none, (some 75), .mov (.t 12), []⟩,
      ⟨none, (some 76), .bin .add (.t 75) (.c (.int .i64 1)), []⟩,
      ⟨none, (some 12), .mov (.t 76), []⟩])))
def k28 : Cd :=
  (.seq
   (.reg [4] [
     ⟨none, (some 4), .mov (.c (.bool false)), []⟩])
   (.seq
    (.seq
     (.reg [38] [
       ⟨none, (some 33), .mov (.t 0), []⟩,
       ⟨none, (some 34), .call true 169 [.t 33], []⟩,
       ⟨none, (some 35), .mov (.t 34), []⟩,
       ⟨(some (35, false)), (some 36), .mov (.t 1), []⟩,
       ⟨(some (35, false)), (some 37), .call true 169 [.t 36], []⟩,
       ⟨none, (some 38), .pick (.t 35) (.c (.bool true)) (.t 37), []⟩])
     (.cond (.t 38)
      (.seq
       (.reg [4] [
         ⟨none, (some 4), .mov (.c (.bool true)), []⟩])
       .ret)
      .skip))
    (.seq
     (.reg [5] [
       ⟨none, (some 39), .mov (.t 0), []⟩,
       ⟨none, (some 40), .call true 170 [.t 39], []⟩,
       ⟨none, (some 5), .zero true (zs 12 (.int .u16 0)), []⟩,
       ⟨none, (some 5), .stV 5 none 12 (.t 40), []⟩])
     (.seq
      (.reg [6, 7] [
        ⟨none, (some 42), .ldV 5 none 12 true, []⟩,
        ⟨none, (some 43), .call true 142 [.t 42], []⟩,
        ⟨none, (some 41), .mov (.t 43), []⟩,
        ⟨none, (some 44), .ext (.t 41) 0, []⟩,
        ⟨none, (some 45), .ext (.t 41) 1, []⟩,
        ⟨none, (some 6), .mov (.t 44), []⟩,
        ⟨none, (some 7), .mov (.t 45), []⟩])
      (.seq
       (.reg [8, 9] [
         ⟨none, (some 47), .ldV 5 none 12 true, []⟩,
         ⟨none, (some 48), .call true 141 [.t 47], []⟩,
         ⟨none, (some 46), .mov (.t 48), []⟩,
         ⟨none, (some 49), .ext (.t 46) 0, []⟩,
         ⟨none, (some 50), .ext (.t 46) 1, []⟩,
         ⟨none, (some 8), .mov (.t 49), []⟩,
         ⟨none, (some 9), .mov (.t 50), []⟩])
       (.seq
        (.reg [10, 11] [
          ⟨none, (some 52), .ldV 5 none 12 true, []⟩,
          ⟨none, (some 53), .call true 171 [.t 52], []⟩,
          ⟨none, (some 51), .mov (.t 53), []⟩,
          ⟨none, (some 54), .ext (.t 51) 0, []⟩,
          ⟨none, (some 55), .ext (.t 51) 1, []⟩,
          ⟨none, (some 10), .mov (.t 54), []⟩,
          ⟨none, (some 11), .mov (.t 55), []⟩])
        (.seq
         (.seq
          (.reg [72] [
            ⟨none, (some 56), .mov (.t 7), []⟩,
            ⟨none, (some 57), .mov (.t 9), []⟩,
            ⟨none, (some 58), .bin .neq (.t 56) (.t 57), []⟩,
            ⟨none, (some 59), .mov (.t 58), []⟩,
            ⟨(some (59, false)), (some 60), .mov (.t 7), []⟩,
            ⟨(some (59, false)), (some 61), .bin .neq (.t 60) (.c (.int .i64 0)), []⟩,
            ⟨none, (some 62), .pick (.t 59) (.c (.bool true)) (.t 61), []⟩,
            ⟨none, (some 63), .mov (.t 62), []⟩,
            ⟨(some (63, false)), (some 64), .mov (.t 6), []⟩,
            ⟨(some (63, false)), (some 65), .mov (.t 8), []⟩,
            ⟨(some (63, false)), (some 66), .call true 172 [.t 64, .t 65], []⟩,
            ⟨(some (63, false)), (some 67), .un .not (.t 66), []⟩,
            ⟨none, (some 68), .pick (.t 63) (.c (.bool true)) (.t 67), []⟩,
            ⟨none, (some 69), .mov (.t 68), []⟩,
            ⟨(some (69, false)), (some 70), .mov (.t 11), []⟩,
            ⟨(some (69, false)), (some 71), .bin .neq (.t 70) (.c (.int .i64 0)), []⟩,
            ⟨none, (some 72), .pick (.t 69) (.c (.bool true)) (.t 71), []⟩])
          (.cond (.t 72)
           (.seq
            (.reg [4] [
              ⟨none, (some 4), .mov (.c (.bool false)), []⟩])
            .ret)
           .skip))
         (.seq
          (.seq
           (.reg [12] [
             ⟨none, (some 12), .mov (.c (.int .i64 0)), []⟩])
           (.block 0
            (.loop b28_2)))
          (.seq
           (.reg [27, 28] [
             ⟨none, (some 231), .ldV 5 none 12 true, []⟩,
             ⟨none, (some 232), .call true 173 [.t 231], []⟩,
             ⟨none, (some 230), .mov (.t 232), []⟩,
             ⟨none, (some 233), .ext (.t 230) 0, []⟩,
             ⟨none, (some 234), .ext (.t 230) 1, []⟩,
             ⟨none, (some 27), .zero true (zs 12 (.int .u16 0)), []⟩,
             ⟨none, (some 27), .stV 27 none 12 (.t 233), []⟩,
             ⟨none, (some 28), .mov (.t 234), []⟩])
           (.seq
            (.reg [29, 30] [
              ⟨none, (some 236), .ldV 5 none 12 true, []⟩,
              ⟨none, (some 237), .call true 137 [.t 236, .c (.bool false)], []⟩,
              ⟨none, (some 235), .mov (.t 237), []⟩,
              ⟨none, (some 238), .ext (.t 235) 0, []⟩,
              ⟨none, (some 239), .ext (.t 235) 1, []⟩,
              ⟨none, (some 29), .mov (.t 238), []⟩,
              ⟨none, (some 30), .mov (.t 239), []⟩])
            (.seq
             (.reg [31, 32] [
               ⟨none, (some 241), .ldV 27 none 12 true, []⟩,
               ⟨none, (some 242), .call true 137 [.t 241, .c (.bool true)], []⟩,
               ⟨none, (some 240), .mov (.t 242), []⟩,
               ⟨none, (some 243), .ext (.t 240) 0, []⟩,
               ⟨none, (some 244), .ext (.t 240) 1, []⟩,
               ⟨none, (some 31), .mov (.t 243), []⟩,
               ⟨none, (some 32), .mov (.t 244), []⟩])
             (.seq
              (.reg [4] [
                ⟨none, (some 245), .mov (.t 28), []⟩,
                ⟨none, (some 246), .bin .eql (.t 245) (.c (.int .i64 0)), []⟩,
                ⟨none, (some 247), .mov (.t 246), []⟩,
                ⟨(some (247, true)), (some 248), .mov (.t 30), []⟩,
                ⟨(some (247, true)), (some 249), .bin .eql (.t 248) (.c (.int .i64 0)), []⟩,
                ⟨none, (some 250), .pick (.t 247) (.t 249) (.c (.bool false)), []⟩,
                ⟨none, (some 251), .mov (.t 250), []⟩,
                ⟨(some (251, true)), (some 252), .mov (.t 32), []⟩,
                ⟨(some (251, true)), (some 253), .bin .eql (.t 252) (.c (.int .i64 0)), []⟩,
                ⟨none, (some 254), .pick (.t 251) (.t 253) (.c (.bool false)), []⟩,
                ⟨none, (some 255), .mov (.t 254), []⟩,
                ⟨(some (255, true)), (some 256), .mov (.t 29), []⟩,
                ⟨(some (255, true)), (some 257), .len (.t 256), []⟩,
                ⟨(some (255, true)), (some 258), .mov (.t 31), []⟩,
                ⟨(some (255, true)), (some 259), .len (.t 258), []⟩,
                ⟨(some (255, true)), (some 260), .bin .eql (.t 257) (.t 259), []⟩,
                ⟨none, (some 261), .pick (.t 255) (.t 260) (.c (.bool false)), []⟩,
                ⟨none, (some 4), .mov (.t 261), []⟩])
              .ret))))))))))))
def c28 : Fn := { np := 2, nt := 262, kind := .pure, res := [.t 4], body := k28 }

/- impl.InkStrokes -/
def b115_1 : Cd :=
  (.seq
   (.reg [29] [
     ⟨none, (some 29), .bin .lss (.t 28) (.t 27), []⟩])
   (.seq
    (.cond (.t 29)
     .skip
     (.exit 2))
    (.seq
     (.block 3
      (.seq
       (.reg [7] [
         ⟨none, (some 30), .mov (.t 28), []⟩,
         ⟨none, (some 7), .mov (.t 30), []⟩])
       (.seq
        (.reg [8, 9] [
          ⟨none, (some 31), .adrF 6 none 0, []⟩,
          ⟨none, (some 32), .ldV 6 (some 31) 1 false, []⟩,
          ⟨none, (some 33), .conv .i64 (.t 32), []⟩,
          ⟨none, (some 34), .mov (.t 7), []⟩,
          ⟨none, (some 35), .bin .add (.t 33) (.t 34), []⟩,
          ⟨none, (some 36), .adrF 6 none 1, []⟩,
          ⟨none, (some 37), .ldV 6 (some 36) 1 false, []⟩,
          ⟨none, (some 38), .conv .i64 (.t 37), []⟩,
          ⟨none, (some 8), .mov (.t 35), []⟩,
          ⟨none, (some 9), .mov (.t 38), []⟩])
        (.seq
         (.seq
          (.reg [40] [
            ⟨none, (some 39), .adrF 6 none 3, []⟩,
            ⟨none, (some 40), .ldV 6 (some 39) 1 false, []⟩])
          (.cond (.t 40)
           (.reg [8, 9] [
             ⟨none, (some 41), .adrF 6 none 0, []⟩,
             ⟨none, (some 42), .ldV 6 (some 41) 1 false, []⟩,
             ⟨none, (some 43), .conv .i64 (.t 42), []⟩,
             ⟨none, (some 44), .adrF 6 none 1, []⟩,
             ⟨none, (some 45), .ldV 6 (some 44) 1 false, []⟩,
             ⟨none, (some 46), .conv .i64 (.t 45), []⟩,
             ⟨none, (some 47), .mov (.t 7), []⟩,
             ⟨none, (some 48), .bin .add (.t 46) (.t 47), []⟩,
             ⟨none, (some 8), .mov (.t 43), []⟩,
             ⟨none, (some 9), .mov (.t 48), []⟩])
           .skip))
         (.seq
          (.seq
           (.reg [52] [
             ⟨none, (some 49), .mov (.t 8), []⟩,
             ⟨none, (some 50), .mov (.t 9), []⟩,
             ⟨none, (some 51), .call true 345 [.t 49, .t 50], []⟩,
             ⟨none, (some 52), .un .not (.t 51), []⟩])
           (.cond (.t 52)
            (.seq
             (.reg [2, 3] [
               ⟨none, (some 53), .agg (zs 12 (.int .u16 0)) [], []⟩,
               ⟨none, (some 2), .stV 2 none 12 (.t 53), []⟩,
               ⟨none, (some 3), .mov (.c (.int .i64 2)), []⟩])
             .ret)
            .skip))
          (.reg [4] [
            ⟨none, (some 54), .ldV 4 none 12 true, []⟩,
            ⟨none, (some 55), .mov (.t 8), []⟩,
            ⟨none, (some 56), .mov (.t 9), []⟩,
            ⟨none, (some 57), .call true 346 [.t 54, .t 55, .t 56], []⟩,
            ⟨none, (some 4), .stV 4 none 12 (.t 57), []⟩]))))))
     (.reg [28] [
       ⟨none, (some 58), .bin .add (.t 28) (.c (.int .i64 1)), []⟩,
       ⟨none, (some 28), .mov (.t 58), []⟩]))))
def b115_2 : Cd :=
  (.seq
   (.reg [18] [
     ⟨none, (some 18), .bin .lss (.t 17) (.t 16), []⟩])
   (.seq
    (.cond (.t 18)
     .skip
     (.exit 0))
    (.seq
     (.block 1
      (.seq
       (.reg [6] [
         ⟨none, (some 19), .idxA 4 (.t 15) (.t 17), []⟩,
         ⟨none, (some 20), .ld 4 true (.t 19), []⟩,
         ⟨none, (some 6), .zero true [.int .i8 0, .int .i8 0, .int .i8 0, .bool false], []⟩,
         ⟨none, (some 6), .stV 6 none 4 (.t 20), []⟩])
       (.seq
        (.seq
         (.reg [23] [
           ⟨none, (some 21), .adrF 6 none 2, []⟩,
           ⟨none, (some 22), .ldV 6 (some 21) 1 false, []⟩,
           ⟨none, (some 23), .bin .lss (.t 22) (.c (.int .i8 1)), []⟩])
         (.cond (.t 23)
          (.seq
           (.reg [2, 3] [
             ⟨none, (some 24), .agg (zs 12 (.int .u16 0)) [], []⟩,
             ⟨none, (some 2), .stV 2 none 12 (.t 24), []⟩,
             ⟨none, (some 3), .mov (.c (.int .i64 2)), []⟩])
           .ret)
          .skip))
        (.seq
         (.reg [27, 28] [
           ⟨none, (some 25), .adrF 6 none 2, []⟩,
           ⟨none, (some 26), .ldV 6 (some 25) 1 false, []⟩,
           ⟨none, (some 27), .conv .i64 (.t 26), []⟩,
           ⟨none, (some 28), .mov (.c (.int .i64 0)), []⟩])
         (.block 2
          (.loop b115_1))))))
     (.reg [17] [
       ⟨none, (some 59), .bin .add (.t 17) (.c (.int .i64 1)), []⟩,
       ⟨none, (some 17), .mov (.t 59), []⟩]))))
def k115 : Cd :=
  (.seq
   (.reg [2, 3] [
     ⟨none, (some 2), .zero true (zs 12 (.int .u16 0)), []⟩,
     ⟨none, (some 3), .mov (.c (.int .i64 0)), []⟩])
   (.seq
    (.seq
     (.reg [12] [
       ⟨none, (some 10), .mov (.t 0), []⟩,
       ⟨none, (some 11), .len (.t 10), []⟩,
       ⟨none, (some 12), .bin .gtr (.t 11) (.c (.int .i64 80)), []⟩])
     (.cond (.t 12)
      (.seq
       (.reg [2, 3] [
         ⟨none, (some 13), .agg (zs 12 (.int .u16 0)) [], []⟩,
         ⟨none, (some 2), .stV 2 none 12 (.t 13), []⟩,
         ⟨none, (some 3), .mov (.c (.int .i64 2)), []⟩])
       .ret)
      .skip))
    (.seq
     (.reg [4] [
       ⟨none, (some 14), .agg (zs 12 (.int .u16 0)) [], []⟩,
       ⟨none, (some 4), .zero true (zs 12 (.int .u16 0)), []⟩,
       ⟨none, (some 4), .stV 4 none 12 (.t 14), []⟩])
     (.seq
      (.seq
       (.reg [15, 16, 17] [
         ⟨none, (some 15), .mov (.t 0), []⟩,
         ⟨none, (some 16), .len (.t 15), []⟩,
         ⟨none, (some 17), .mov (.c (.int .i64 0)), []⟩])
       (.block 0
        (.loop b115_2)))
      (.seq
       (.reg [2, 3] [
         ⟨none, (some 60), .ldV 4 none 12 true, []⟩,
         ⟨none, (some 2), .stV 2 none 12 (.t 60), []⟩,
         ⟨none, (some 3), .mov (.c (.int .i64 0)), []⟩])
       .ret)))))
def c115 : Fn := { np := 1, nt := 61, kind := .pure, res := [.v 2 12 true, .t 3], body := k115 }

/- spec.StrokesOf -/
def k136 : Cd :=
  (.seq
   (.reg [2, 4, 5] [
     ⟨none, (some 2), .box 12 (.t 0), []⟩,
     ⟨none, (some 4), .mov (.c (.slice none 0 0)), []⟩,
     ⟨none, (some 5), .mov (.c (.int .i64 0)), []⟩])
   (.seq
    (.seq
     (.reg [7] [
       ⟨none, (some 6), .call true 359 [.t 2], []⟩,
       ⟨none, (some 7), .un .not (.t 6), []⟩])
     (.cond (.t 7)
      (.seq
       (.reg [4, 5] [
         ⟨none, (some 8), .bldS 4 0 [.int .i8 0, .int .i8 0, .int .i8 0, .bool false] [], []⟩,
         ⟨none, (some 4), .mov (.t 8), []⟩,
         ⟨none, (some 5), .mov (.c (.int .i64 1)), []⟩])
       .ret)
      .skip))
    (.seq
     (.reg [4, 5] [
       ⟨none, (some 9), .mov (.t 1), []⟩,
       ⟨none, (some 10), .call true 362 [.t 2, .t 9], []⟩,
       ⟨none, (some 4), .mov (.t 10), []⟩,
       ⟨none, (some 5), .mov (.c (.int .i64 0)), []⟩])
     .ret)))
def c136 : Fn := { np := 2, nt := 11, kind := .pure, res := [.t 4, .t 5], body := k136 }

/- impl.StrokesOf -/
def k137 : Cd :=
  (.seq
   (.reg [2, 4, 5] [
     ⟨none, (some 2), .mov (.t 0), []⟩,
     ⟨none, (some 4), .mov (.c (.slice none 0 0)), []⟩,
     ⟨none, (some 5), .mov (.c (.int .i64 0)), []⟩])
   (.seq
    (.seq
     (.reg [8] [
       ⟨none, (some 6), .ldV 2 none 12 true, []⟩,
       ⟨none, (some 7), .call true 234 [.t 6], []⟩,
       ⟨none, (some 8), .un .not (.t 7), []⟩])
     (.cond (.t 8)
      (.seq
       (.reg [4, 5] [
         ⟨none, (some 4), .mov (.c (.slice none 0 0)), []⟩,
         ⟨none, (some 5), .mov (.c (.int .i64 1)), []⟩])
       .ret)
      .skip))
    (.seq
     (.reg [4, 5] [
       ⟨none, (some 9), .ldV 2 none 12 true, []⟩,
       ⟨none, (some 10), .mov (.t 1), []⟩,
       ⟨none, (some 11), .call true 363 [.t 9, .t 10], []⟩,
       ⟨none, (some 4), .mov (.t 11), []⟩,
       ⟨none, (some 5), .mov (.c (.int .i64 0)), []⟩])
     .ret)))
def c137 : Fn := { np := 2, nt := 12, kind := .pure, res := [.t 4, .t 5], body := k137 }

/- spec.FewestStrokes -/
def k141 : Cd :=
  (.seq
   (.reg [1, 2, 3] [
     ⟨none, (some 1), .box 12 (.t 0), []⟩,
     ⟨none, (some 2), .mov (.c (.slice none 0 0)), []⟩,
     ⟨none, (some 3), .mov (.c (.int .i64 0)), []⟩])
   (.seq
    (.seq
     (.reg [7] [
       ⟨none, (some 6), .call true 359 [.t 1], []⟩,
       ⟨none, (some 7), .un .not (.t 6), []⟩])
     (.cond (.t 7)
      (.seq
       (.reg [2, 3] [
         ⟨none, (some 8), .bldS 4 0 [.int .i8 0, .int .i8 0, .int .i8 0, .bool false] [], []⟩,
         ⟨none, (some 2), .mov (.t 8), []⟩,
         ⟨none, (some 3), .mov (.c (.int .i64 1)), []⟩])
       .ret)
      .skip))
    (.seq
     (.reg [4] [
       ⟨none, (some 9), .call true 362 [.t 1, .c (.bool false)], []⟩,
       ⟨none, (some 4), .mov (.t 9), []⟩])
     (.seq
      (.reg [5] [
        ⟨none, (some 10), .call true 362 [.t 1, .c (.bool true)], []⟩,
        ⟨none, (some 5), .mov (.t 10), []⟩])
      (.seq
       (.seq
        (.reg [15] [
          ⟨none, (some 11), .mov (.t 5), []⟩,
          ⟨none, (some 12), .len (.t 11), []⟩,
          ⟨none, (some 13), .mov (.t 4), []⟩,
          ⟨none, (some 14), .len (.t 13), []⟩,
          ⟨none, (some 15), .bin .lss (.t 12) (.t 14), []⟩])
        (.cond (.t 15)
         (.seq
          (.reg [2, 3] [
            ⟨none, (some 16), .mov (.t 5), []⟩,
            ⟨none, (some 2), .mov (.t 16), []⟩,
            ⟨none, (some 3), .mov (.c (.int .i64 0)), []⟩])
          .ret)
         .skip))
       (.seq
        (.reg [2, 3] [
          ⟨none, (some 17), .mov (.t 4), []⟩,
          ⟨none, (some 2), .mov (.t 17), []⟩,
          ⟨none, (some 3), .mov (.c (.int .i64 0)), []⟩])
        .ret))))))
def c141 : Fn := { np := 1, nt := 18, kind := .pure, res := [.t 2, .t 3], body := k141 }

/- impl.FewestStrokes -/
def k142 : Cd :=
  (.seq
   (.reg [1, 2, 3] [
     ⟨none, (some 1), .mov (.t 0), []⟩,
     ⟨none, (some 2), .mov (.c (.slice none 0 0)), []⟩,
     ⟨none, (some 3), .mov (.c (.int .i64 0)), []⟩])
   (.seq
    (.seq
     (.reg [8] [
       ⟨none, (some 6), .ldV 1 none 12 true, []⟩,
       ⟨none, (some 7), .call true 234 [.t 6], []⟩,
       ⟨none, (some 8), .un .not (.t 7), []⟩])
     (.cond (.t 8)
      (.seq
       (.reg [2, 3] [
         ⟨none, (some 2), .mov (.c (.slice none 0 0)), []⟩,
         ⟨none, (some 3), .mov (.c (.int .i64 1)), []⟩])
       .ret)
      .skip))
    (.seq
     (.reg [4, 5] [
       ⟨none, (some 9), .ldV 1 none 12 true, []⟩,
       ⟨none, (some 11), .ldV 1 none 12 true, []⟩,
       ⟨none, (some 10), .call true 363 [.t 9, .c (.bool false)], []⟩,
       ⟨none, (some 12), .call true 363 [.t 11, .c (.bool true)], []⟩,
       ⟨none, (some 4), .mov (.t 10), []⟩,
       ⟨none, (some 5), .mov (.t 12), []⟩])
     (.seq
      (.seq
       (.reg [17] [
         ⟨none, (some 13), .mov (.t 5), []⟩,
         ⟨none, (some 14), .len (.t 13), []⟩,
         ⟨none, (some 15), .mov (.t 4), []⟩,
         ⟨none, (some 16), .len (.t 15), []⟩,
         ⟨none, (some 17), .bin .lss (.t 14) (.t 16), []⟩])
       (.cond (.t 17)
        (.seq
         (.reg [2, 3] [
           ⟨none, (some 18), .mov (.t 5), []⟩,
           ⟨none, (some 2), .mov (.t 18), []⟩,
           ⟨none, (some 3), .mov (.c (.int .i64 0)), []⟩])
         .ret)
        .skip))
      (.seq
       (.reg [2, 3] [
         ⟨none, (some 19), .mov (.t 4), []⟩,
         ⟨none, (some 2), .mov (.t 19), []⟩,
         ⟨none, (some 3), .mov (.c (.int .i64 0)), []⟩])
       .ret)))))
def c142 : Fn := { np := 1, nt := 20, kind := .pure, res := [.t 2, .t 3], body := k142 }

/- laws.f6big -/
def k169 : Cd :=
  (.seq
   (.reg [2] [
     ⟨none, (some 2), .mov (.c (.bool false)), []⟩])
   (.seq
    (.reg [2] [
      ⟨none, (some 3), .mov (.t 0), []⟩,
      ⟨none, (some 4), .len (.t 3), []⟩,
      ⟨none, (some 5), .bin .gtr (.t 4) (.c (.int .i64 4096)), []⟩,
      ⟨none, (some 2), .mov (.t 5), []⟩])
    .ret))
def c169 : Fn := { np := 1, nt := 6, kind := .pure, res := [.t 2], body := k169 }

/- spec.P6Frame -/
def k170 : Cd :=
  (.seq
   (.reg [2] [
     ⟨none, (some 2), .zero true (zs 12 (.int .u16 0)), []⟩])
   (.seq
    (.reg [2] [
      ⟨none, (some 3), .mov (.t 0), []⟩,
      ⟨none, (some 4), .call true 315 [.t 3], []⟩,
      ⟨none, (some 5), .call false 368 [.t 4], []⟩,
      ⟨none, (some 2), .stV 2 none 12 (.t 5), []⟩])
    .ret))
def c170 : Fn := { np := 1, nt := 6, kind := .pure, res := [.v 2 12 true], body := k170 }

/- impl.CountDots -/
def k171 : Cd :=
  (.seq
   (.reg [1, 2, 3] [
     ⟨none, (some 1), .mov (.t 0), []⟩,
     ⟨none, (some 2), .mov (.c (.int .i64 0)), []⟩,
     ⟨none, (some 3), .mov (.c (.int .i64 0)), []⟩])
   (.seq
    (.seq
     (.reg [6] [
       ⟨none, (some 4), .ldV 1 none 12 true, []⟩,
       ⟨none, (some 5), .call true 234 [.t 4], []⟩,
       ⟨none, (some 6), .un .not (.t 5), []⟩])
     (.cond (.t 6)
      (.seq
       (.reg [2, 3] [
         ⟨none, (some 2), .mov (.c (.int .i64 0)), []⟩,
         ⟨none, (some 3), .mov (.c (.int .i64 1)), []⟩])
       .ret)
      .skip))
    (.seq
     (.reg [2, 3] [
       ⟨none, (some 7), .ldV 1 none 12 true, []⟩,
       ⟨none, (some 8), .call true 393 [.t 7], []⟩,
       ⟨none, (some 2), .mov (.t 8), []⟩,
       ⟨none, (some 3), .mov (.c (.int .i64 0)), []⟩])
     .ret)))
def c171 : Fn := { np := 1, nt := 9, kind := .pure, res := [.t 2, .t 3], body := k171 }

/- spec.SameStrokes -/
def b172_1 : Cd :=
  (.seq
   (.seq
    (.reg [14] [
      ⟨none, (some 11), .mov (.t 5), []⟩,
      ⟨none, (some 12), .mov (.t 0), []⟩,
      ⟨none, (some 13), .len (.t 12), []⟩,
      ⟨none, (some 14), .bin .lss (.t 11) (.t 13), []⟩])
    (.cond (.t 14)
     .skip
     (.exit 0)))
   (.seq
    (.block 1
     (.seq
      (.reg [25] [
        ⟨none, (some 17), .mov (.t 0), []⟩,
        ⟨none, (some 18), .mov (.t 5), []⟩,
        ⟨none, (some 19), .idxA 4 (.t 17) (.t 18), []⟩,
        ⟨none, (some 20), .ld 4 true (.t 19), []⟩,
        ⟨none, (some 21), .mov (.t 1), []⟩,
        ⟨none, (some 22), .mov (.t 5), []⟩,
        ⟨none, (some 23), .idxA 4 (.t 21) (.t 22), []⟩,
        ⟨none, (some 24), .ld 4 true (.t 23), []⟩,
        ⟨none, (some 25), .eq (.a (rb 3 (some .i8) ++ rb 1 (none))) true (.t 20) (.t 24), []⟩])
      (.cond (.t 25)
       (.seq
        (.reg [4] [
          ⟨none, (some 4), .mov (.c (.bool false)), []⟩])
        .ret)
       .skip)))
    (.reg [5] [
      ⟨none, (some 15), .mov (.t 5), []⟩,
      ⟨none, (some 16), .bin .add (.t 15) (.c (.int .i64 1)), []⟩,
      ⟨none, (some 5), .mov (.t 16), []⟩])))
def k172 : Cd :=
  (.seq
   (.reg [4] [
     ⟨none, (some 4), .mov (.c (.bool false)), []⟩])
   (.seq
    (.seq
     (.reg [10] [
       ⟨none, (some 6), .mov (.t 0), []⟩,
       ⟨none, (some 7), .len (.t 6), []⟩,
       ⟨none, (some 8), .mov (.t 1), []⟩,
       ⟨none, (some 9), .len (.t 8), []⟩,
       ⟨none, (some 10), .bin .neq (.t 7) (.t 9), []⟩])
     (.cond (.t 10)
      (.seq
       (.reg [4] [
         ⟨none, (some 4), .mov (.c (.bool false)), []⟩])
       .ret)
      .skip))
    (.seq
     (.seq
      (.reg [5] [
        ⟨none, (some 5), .mov (.c (.int .i64 0)), []⟩])
      (.block 0
       (.loop b172_1)))
     (.seq
      (.reg [4] [
        ⟨none, (some 4), .mov (.c (.bool true)), []⟩])
      .ret))))
def c172 : Fn := { np := 2, nt := 26, kind := .pure, res := [.t 4], body := k172 }

/- impl.TurnFrame -/
def k173 : Cd :=
  (.seq
   (.reg [1, 2, 3] [
     ⟨none, (some 1), .box 12 (.t 0), []⟩,
     ⟨none, (some 2), .zero true (zs 12 (.int .u16 0)), []⟩,
     ⟨none, (some 3), .mov (.c (.int .i64 0)), []⟩])
   (.seq
    (.seq
     (.reg [6] [
       ⟨none, (some 4), .ld 12 true (.t 1), []⟩,
       ⟨none, (some 5), .call true 234 [.t 4], []⟩,
       ⟨none, (some 6), .un .not (.t 5), []⟩])
     (.cond (.t 6)
      (.seq
       (.reg [2, 3] [
         ⟨none, (some 7), .agg (zs 12 (.int .u16 0)) [], []⟩,
         ⟨none, (some 2), .stV 2 none 12 (.t 7), []⟩,
         ⟨none, (some 3), .mov (.c (.int .i64 1)), []⟩])
       .ret)
      .skip))
    (.seq
     (.reg [2, 3] [
       ⟨none, (some 8), .mkf 394 [.t 1], []⟩,
       ⟨none, (some 9), .call true 306 [.t 8], []⟩,
       ⟨none, (some 2), .stV 2 none 12 (.t 9), []⟩,
       ⟨none, (some 3), .mov (.c (.int .i64 0)), []⟩])
     .ret)))
def c173 : Fn := { np := 1, nt := 10, kind := .pure, res := [.v 2 12 true, .t 3], body := k173 }

/- impl.ValidFrame -/
def k234 : Cd :=
  (.seq
   (.reg [1, 2] [
     ⟨none, (some 1), .box 12 (.t 0), []⟩,
     ⟨none, (some 2), .mov (.c (.bool false)), []⟩])
   (.seq
    (.reg [2] [
      ⟨none, (some 3), .slcP 12 1 (.t 1), []⟩,
      ⟨none, (some 4), .call true 445 [.t 3, .f 446], []⟩,
      ⟨none, (some 5), .un .not (.t 4), []⟩,
      ⟨none, (some 2), .mov (.t 5), []⟩])
    .ret))
def c234 : Fn := { np := 1, nt := 6, kind := .pure, res := [.t 2], body := k234 }

/- impl.inRange -/
def k295 : Cd :=
  (.seq
   (.reg [6] [
     ⟨none, (some 6), .mov (.c (.bool false)), []⟩])
   (.seq
    (.reg [6] [
      ⟨none, (some 7), .mov (.t 1), []⟩,
      ⟨none, (some 8), .mov (.t 0), []⟩,
      ⟨none, (some 9), .bin .leq (.t 7) (.t 8), []⟩,
      ⟨none, (some 10), .mov (.t 9), []⟩,
      ⟨(some (10, true)), (some 11), .mov (.t 0), []⟩,
      ⟨(some (10, true)), (some 12), .mov (.t 2), []⟩,
      ⟨(some (10, true)), (some 13), .bin .leq (.t 11) (.t 12), []⟩,
      ⟨none, (some 14), .pick (.t 10) (.t 13) (.c (.bool false)), []⟩,
      ⟨none, (some 6), .mov (.t 14), []⟩])
    .ret))
def c295 : Fn := { np := 3, nt := 15, kind := .pure, res := [.t 6], body := k295 }

/- spec.l00In -/
def k304 : Cd :=
  (.seq
   (.reg [6] [
     ⟨none, (some 6), .mov (.c (.bool false)), []⟩])
   (.seq
    (.reg [6] [
      ⟨none, (some 7), .mov (.t 0), []⟩,
      ⟨none, (some 8), .mov (.t 1), []⟩,
      ⟨none, (some 9), .bin .geq (.t 7) (.t 8), []⟩,
      ⟨none, (some 10), .mov (.t 9), []⟩,
      ⟨(some (10, true)), (some 11), .mov (.t 0), []⟩,
      ⟨(some (10, true)), (some 12), .mov (.t 2), []⟩,
      ⟨(some (10, true)), (some 13), .bin .leq (.t 11) (.t 12), []⟩,
      ⟨none, (some 14), .pick (.t 10) (.t 13) (.c (.bool false)), []⟩,
      ⟨none, (some 6), .mov (.t 14), []⟩])
    .ret))
def c304 : Fn := { np := 3, nt := 15, kind := .pure, res := [.t 6], body := k304 }

/- spec.l01Put -/
def k305 : Cd :=
  (.seq
   (.reg [8] [
     ⟨none, (some 6), .mov (.t 1), []⟩,
     ⟨none, (some 7), .mov (.t 2), []⟩,
     ⟨none, (some 8), .call true 342 [.t 6, .t 7], []⟩])
   (.cond (.t 8)
    (.reg [] [
      ⟨none, (some 9), .mov (.t 0), []⟩,
      ⟨none, (some 10), .mov (.t 2), []⟩,
      ⟨none, (some 11), .mov (.t 0), []⟩,
      ⟨none, (some 12), .mov (.t 2), []⟩,
      ⟨none, (some 13), .nil (.t 11), []⟩,
      ⟨none, (some 14), .idxP 12 1 (.t 13) (.t 12), []⟩,
      ⟨none, (some 15), .ld 1 false (.t 14), []⟩,
      ⟨none, (some 16), .mov (.t 1), []⟩,
      ⟨none, (some 17), .conv .u64 (.t 16), []⟩,
      ⟨none, (some 18), .bin .shl (.c (.int .u16 1)) (.t 17), []⟩,
      ⟨none, (some 19), .bin .or (.t 15) (.t 18), []⟩,
      ⟨none, (some 20), .nil (.t 9), []⟩,
      ⟨none, (some 21), .idxP 12 1 (.t 20) (.t 10), []⟩,
      ⟨none, none, .st 1 (.t 21) (.t 19), []⟩])
    .skip))
def c305 : Fn := { np := 3, nt := 22, kind := .args, res := [], body := k305 }

/- impl.where -/
def b306_1 : Cd :=
  (.seq
   (.reg [11] [
     ⟨none, (some 11), .bin .lss (.t 10) (.c (.int .i64 12)), []⟩])
   (.seq
    (.cond (.t 11)
     .skip
     (.exit 2))
    (.seq
     (.block 3
      (.seq
       (.reg [5] [
         ⟨none, (some 12), .mov (.t 10), []⟩,
         ⟨none, (some 5), .mov (.t 12), []⟩])
       (.seq
        (.reg [16] [
          ⟨none, (some 13), .mov (.t 0), []⟩,
          ⟨none, (some 14), .mov (.t 5), []⟩,
          ⟨none, (some 15), .mov (.t 4), []⟩,
          ⟨none, (some 16), .callv (.t 13) [.t 14, .t 15], []⟩])
        (.cond (.t 16)
         (.reg [3] [
           ⟨none, (some 17), .ldV 3 none 12 true, []⟩,
           ⟨none, (some 18), .mov (.t 5), []⟩,
           ⟨none, (some 19), .mov (.t 4), []⟩,
           ⟨none, (some 20), .call true 346 [.t 17, .t 18, .t 19], []⟩,
           ⟨none, (some 3), .stV 3 none 12 (.t 20), []⟩])
         .skip))))
     (.reg [10] [
       ⟨none, (some 21), .bin .add (.t 10) (.c (.int .i64 1)), []⟩,
       ⟨none, (some 10), .mov (.t 21), []⟩]))))
def b306_2 : Cd :=
  (.seq
   (.reg [8] [
     ⟨none, (some 8), .bin .lss (.t 7) (.c (.int .i64 12)), []⟩])
   (.seq
    (.cond (.t 8)
     .skip
     (.exit 0))
    (.seq
     (.block 1
      (.seq
       (.reg [4] [
         ⟨none, (some 9), .mov (.t 7), []⟩,
         ⟨none, (some 4), .mov (.t 9), []⟩])
       (.seq
        (.reg [10] [
          ⟨none, (some 10), .mov (.c (.int .i64 0)), []⟩])
        (.block 2
         (.loop b306_1)))))
     (.reg [7] [
       ⟨none, (some 22), .bin .add (.t 7) (.c (.int .i64 1)), []⟩,
       ⟨none, (some 7), .mov (.t 22), []⟩]))))
def k306 : Cd :=
  (.seq
   (.reg [2] [
     ⟨none, (some 2), .zero true (zs 12 (.int .u16 0)), []⟩])
   (.seq
    (.reg [3] [
      ⟨none, (some 6), .agg (zs 12 (.int .u16 0)) [], []⟩,
      ⟨none, (some 3), .zero true (zs 12 (.int .u16 0)), []⟩,
      ⟨none, (some 3), .stV 3 none 12 (.t 6), []⟩])
    (.seq
     (.seq
      (.reg [7] [
        ⟨none, (some 7), .mov (.c (.int .i64 0)), []⟩])
      (.block 0
       (.loop b306_2)))
     (.seq
      (.reg [2] [
        ⟨none, (some 23), .ldV 3 none 12 true, []⟩,
        ⟨none, (some 2), .stV 2 none 12 (.t 23), []⟩])
      .ret))))
def c306 : Fn := { np := 1, nt := 24, kind := .pure, res := [.v 2 12 true], body := k306 }

/- spec.l00From -/
def k315 : Cd :=
  (.seq
   (.reg [2] [
     ⟨none, (some 2), .mov (.c (.pointer none)), []⟩])
   (.seq
    (.reg [2] [
      ⟨none, (some 3), .mov (.t 0), []⟩,
      ⟨none, (some 4), .agg [.slice none 0 0, .int .i64 0, .int .u64 0] [(0, 1, (.t 3))], []⟩,
      ⟨none, (some 5), .box 3 (.t 4), []⟩,
      ⟨none, (some 2), .mov (.t 5), []⟩])
    .ret))
def c315 : Fn := { np := 1, nt := 6, kind := .pure, res := [.t 2], body := k315 }

/- spec.l01Place -/
def k342 : Cd :=
  (.seq
   (.reg [4] [
     ⟨none, (some 4), .mov (.c (.bool false)), []⟩])
   (.seq
    (.reg [4] [
      ⟨none, (some 5), .mov (.t 0), []⟩,
      ⟨none, (some 6), .call true 304 [.t 5, .c (.int .i64 0), .c (.int .i64 11)], []⟩,
      ⟨none, (some 7), .mov (.t 6), []⟩,
      ⟨(some (7, true)), (some 8), .mov (.t 1), []⟩,
      ⟨(some (7, true)), (some 9), .call true 304 [.t 8, .c (.int .i64 0), .c (.int .i64 11)], []⟩,
      ⟨none, (some 10), .pick (.t 7) (.t 9) (.c (.bool false)), []⟩,
      ⟨none, (some 4), .mov (.t 10), []⟩])
    .ret))
def c342 : Fn := { np := 2, nt := 11, kind := .pure, res := [.t 4], body := k342 }

/- impl.isPlace -/
def k345 : Cd :=
  (.seq
   (.reg [4] [
     ⟨none, (some 4), .mov (.c (.bool false)), []⟩])
   (.seq
    (.reg [4] [
      ⟨none, (some 5), .mov (.t 0), []⟩,
      ⟨none, (some 6), .call true 295 [.t 5, .c (.int .i64 0), .c (.int .i64 11)], []⟩,
      ⟨none, (some 7), .mov (.t 6), []⟩,
      ⟨(some (7, true)), (some 8), .mov (.t 1), []⟩,
      ⟨(some (7, true)), (some 9), .call true 295 [.t 8, .c (.int .i64 0), .c (.int .i64 11)], []⟩,
      ⟨none, (some 10), .pick (.t 7) (.t 9) (.c (.bool false)), []⟩,
      ⟨none, (some 4), .mov (.t 10), []⟩])
    .ret))
def c345 : Fn := { np := 2, nt := 11, kind := .pure, res := [.t 4], body := k345 }

/- (impl.Frame).with -/
def k346 : Cd :=
  (.seq
   (.reg [3, 6] [
     ⟨none, (some 3), .mov (.t 0), []⟩,
     ⟨none, (some 6), .zero true (zs 12 (.int .u16 0)), []⟩])
   (.seq
    (.reg [3] [
      ⟨none, (some 7), .mov (.t 2), []⟩,
      ⟨none, (some 8), .adrI 3 none 12 1 (.t 7), []⟩,
      ⟨none, (some 9), .ldV 3 (some 8) 1 false, []⟩,
      ⟨none, (some 10), .mov (.t 1), []⟩,
      ⟨none, (some 11), .bin .shl (.c (.int .u16 1)) (.t 10), []⟩,
      ⟨none, (some 12), .bin .or (.t 9) (.t 11), []⟩,
      ⟨none, (some 13), .adrI 3 none 12 1 (.t 7), []⟩,
      ⟨none, (some 3), .stV 3 (some 13) 1 (.t 12), []⟩])
    (.seq
     (.reg [6] [
       ⟨none, (some 14), .ldV 3 none 12 true, []⟩,
       ⟨none, (some 6), .stV 6 none 12 (.t 14), []⟩])
     .ret)))
def c346 : Fn := { np := 3, nt := 15, kind := .pure, res := [.v 6 12 true], body := k346 }

/- spec.l01Ok -/
def b359_1 : Cd :=
  (.seq
   (.seq
    (.reg [5] [
      ⟨none, (some 4), .mov (.t 3), []⟩,
      ⟨none, (some 5), .bin .lss (.t 4) (.c (.int .i64 12)), []⟩])
    (.cond (.t 5)
     .skip
     (.exit 0)))
   (.seq
    (.block 1
     (.seq
      (.reg [13] [
        ⟨none, (some 8), .mov (.t 0), []⟩,
        ⟨none, (some 9), .mov (.t 3), []⟩,
        ⟨none, (some 10), .nil (.t 8), []⟩,
        ⟨none, (some 11), .idxP 12 1 (.t 10) (.t 9), []⟩,
        ⟨none, (some 12), .ld 1 false (.t 11), []⟩,
        ⟨none, (some 13), .bin .gtr (.t 12) (.c (.int .u16 4095)), []⟩])
      (.cond (.t 13)
       (.seq
        (.reg [2] [
          ⟨none, (some 2), .mov (.c (.bool false)), []⟩])
        .ret)
       .skip)))
    (.reg [3] [
      ⟨none, (some 6), .mov (.t 3), []⟩,
      ⟨none, (some 7), .bin .add (.t 6) (.c (.int .i64 1)), []⟩,
      ⟨none, (some 3), .mov (.t 7), []⟩])))
def k359 : Cd :=
  (.seq
   (.reg [2] [
     ⟨none, (some 2), .mov (.c (.bool false)), []⟩])
   (.seq
    (.seq
     (.reg [3] [
       ⟨none, (some 3), .mov (.c (.int .i64 0)), []⟩])
     (.block 0
      (.loop b359_1)))
    (.seq
     (.reg [2] [
       ⟨none, (some 2), .mov (.c (.bool true)), []⟩])
     .ret)))
def c359 : Fn := { np := 1, nt := 14, kind := .pure, res := [.t 2], body := k359 }

/- spec.l06Strokes -/
def b362_1 : Cd :=
  (.seq
   (.seq
    (.reg [47] [
      ⟨none, (some 36), .mov (.t 0), []⟩,
      ⟨none, (some 37), .mov (.t 9), []⟩,
      ⟨none, (some 38), .mov (.t 10), []⟩,
      ⟨none, (some 39), .mov (.t 5), []⟩,
      ⟨none, (some 40), .bin .mul (.t 38) (.t 39), []⟩,
      ⟨none, (some 41), .bin .add (.t 37) (.t 40), []⟩,
      ⟨none, (some 42), .mov (.t 8), []⟩,
      ⟨none, (some 43), .mov (.t 10), []⟩,
      ⟨none, (some 44), .mov (.t 6), []⟩,
      ⟨none, (some 45), .bin .mul (.t 43) (.t 44), []⟩,
      ⟨none, (some 46), .bin .add (.t 42) (.t 45), []⟩,
      ⟨none, (some 47), .call true 456 [.t 36, .t 41, .t 46], []⟩])
    (.cond (.t 47)
     .skip
     (.exit 4)))
   (.block 5
    (.reg [10] [
      ⟨none, (some 48), .mov (.t 10), []⟩,
      ⟨none, (some 49), .bin .add (.t 48) (.c (.int .i64 1)), []⟩,
      ⟨none, (some 10), .mov (.t 49), []⟩])))
def b362_2 : Cd :=
  (.seq
   (.seq
    (.reg [18] [
      ⟨none, (some 17), .mov (.t 9), []⟩,
      ⟨none, (some 18), .bin .lss (.t 17) (.c (.int .i64 12)), []⟩])
    (.cond (.t 18)
     .skip
     (.exit 2)))
   (.seq
    (.block 3
     (.seq
      (.seq
       (.reg [35] [
         ⟨none, (some 21), .mov (.t 0), []⟩,
         ⟨none, (some 22), .mov (.t 9), []⟩,
         ⟨none, (some 23), .mov (.t 8), []⟩,
         ⟨none, (some 24), .call true 456 [.t 21, .t 22, .t 23], []⟩,
         ⟨none, (some 25), .un .not (.t 24), []⟩,
         ⟨none, (some 26), .mov (.t 25), []⟩,
         ⟨(some (26, false)), (some 27), .mov (.t 0), []⟩,
         ⟨(some (26, false)), (some 28), .mov (.t 9), []⟩,
         ⟨(some (26, false)), (some 29), .mov (.t 5), []⟩,
         ⟨(some (26, false)), (some 30), .bin .sub (.t 28) (.t 29), []⟩,
         ⟨(some (26, false)), (some 31), .mov (.t 8), []⟩,
         ⟨(some (26, false)), (some 32), .mov (.t 6), []⟩,
         ⟨(some (26, false)), (some 33), .bin .sub (.t 31) (.t 32), []⟩,
         ⟨(some (26, false)), (some 34), .call true 456 [.t 27, .t 30, .t 33], []⟩,
         ⟨none, (some 35), .pick (.t 26) (.c (.bool true)) (.t 34), []⟩])
       (.cond (.t 35)
        (.exit 3)
        .skip))
      (.seq
       (.reg [10] [
         ⟨none, (some 10), .mov (.c (.int .i64 1)), []⟩])
       (.seq
        (.block 4
         (.loop b362_1))
        (.reg [7] [
          ⟨none, (some 50), .mov (.t 7), []⟩,
          ⟨none, (some 51), .mov (.t 9), []⟩,
          ⟨none, (some 52), .conv .i8 (.t 51), []⟩,
          ⟨none, (some 53), .mov (.t 8), []⟩,
          ⟨none, (some 54), .conv .i8 (.t 53), []⟩,
          ⟨none, (some 55), .mov (.t 10), []⟩,
          ⟨none, (some 56), .conv .i8 (.t 55), []⟩,
          ⟨none, (some 57), .mov (.t 1), []⟩,
          ⟨none, (some 58), .agg [.int .i8 0, .int .i8 0, .int .i8 0, .bool false] [(0, 1, (.t 52)), (1, 1, (.t 54)), (2, 1, (.t 56)), (3, 1, (.t 57))], []⟩,
          ⟨none, (some 59), .bldS 4 1 [.int .i8 0, .int .i8 0, .int .i8 0, .bool false] [(0, 4, (.t 58))], []⟩,
          ⟨none, (some 60), .app 4 4 (.t 50) (.t 59), []⟩,
          ⟨none, (some 7), .mov (.t 60), []⟩])))))
    (.reg [9] [
      ⟨none, (some 19), .mov (.t 9), []⟩,
      ⟨none, (some 20), .bin .add (.t 19) (.c (.int .i64 1)), []⟩,
      ⟨none, (some 9), .mov (.t 20), []⟩])))
def b362_3 : Cd :=
  (.seq
   (.seq
    (.reg [14] [
      ⟨none, (some 13), .mov (.t 8), []⟩,
      ⟨none, (some 14), .bin .lss (.t 13) (.c (.int .i64 12)), []⟩])
    (.cond (.t 14)
     .skip
     (.exit 0)))
   (.seq
    (.block 1
     (.seq
      (.reg [9] [
        ⟨none, (some 9), .mov (.c (.int .i64 0)), []⟩])
      (.block 2
       (.loop b362_2))))
    (.reg [8] [
      ⟨none, (some 15), .mov (.t 8), []⟩,
      ⟨none, (some 16), .bin .add (.t 15) (.c (.int .i64 1)), []⟩,
      ⟨none, (some 8), .mov (.t 16), []⟩])))
def k362 : Cd :=
  (.seq
   (.reg [4] [
     ⟨none, (some 4), .mov (.c (.slice none 0 0)), []⟩])
   (.seq
    (.reg [5] [
      ⟨none, (some 5), .mov (.c (.int .i64 1)), []⟩])
    (.seq
     (.reg [6] [
       ⟨none, (some 6), .mov (.c (.int .i64 0)), []⟩])
     (.seq
      (.seq
       (.reg [11] [
         ⟨none, (some 11), .mov (.t 1), []⟩])
       (.cond (.t 11)
        (.seq
         (.reg [5] [
           ⟨none, (some 5), .mov (.c (.int .i64 0)), []⟩])
         (.reg [6] [
           ⟨none, (some 6), .mov (.c (.int .i64 1)), []⟩]))
        .skip))
      (.seq
       (.reg [7] [
         ⟨none, (some 12), .bldS 4 0 [.int .i8 0, .int .i8 0, .int .i8 0, .bool false] [], []⟩,
         ⟨none, (some 7), .mov (.t 12), []⟩])
       (.seq
        (.seq
         (.reg [8] [
           ⟨none, (some 8), .mov (.c (.int .i64 0)), []⟩])
         (.block 0
          (.loop b362_3)))
        (.seq
         (.reg [4] [
           ⟨none, (some 61), .mov (.t 7), []⟩,
           ⟨none, (some 4), .mov (.t 61), []⟩])
         .ret)))))))
def c362 : Fn := { np := 2, nt := 62, kind := .pure, res := [.t 4], body := k362 }

/- (impl.Frame).strokes -/
def b363_1 : Cd :=
  (.seq
   (.seq
    (.reg [47] [
      ⟨none, (some 36), .ldV 2 none 12 true, []⟩,
      ⟨none, (some 37), .mov (.t 10), []⟩,
      ⟨none, (some 38), .mov (.t 12), []⟩,
      ⟨none, (some 39), .mov (.t 5), []⟩,
      ⟨none, (some 40), .bin .mul (.t 38) (.t 39), []⟩,
      ⟨none, (some 41), .bin .add (.t 37) (.t 40), []⟩,
      ⟨none, (some 42), .mov (.t 11), []⟩,
      ⟨none, (some 43), .mov (.t 12), []⟩,
      ⟨none, (some 44), .mov (.t 6), []⟩,
      ⟨none, (some 45), .bin .mul (.t 43) (.t 44), []⟩,
      ⟨none, (some 46), .bin .add (.t 42) (.t 45), []⟩,
      ⟨none, (some 47), .call true 395 [.t 36, .t 41, .t 46], []⟩])
    (.cond (.t 47)
     .skip
     (.exit 2)))
   (.block 3
    (.reg [12] [
      ⟨none, (some 48), .mov (.t 12), []⟩,
      ⟨none, (some 49), .bin .add (.t 48) (.c (.int .i64 1)), []⟩,
      ⟨none, (some 12), .mov (.t 49), []⟩])))
def b363_2 : Cd :=
  (.seq
   (.reg [19] [
     ⟨none, (some 19), .bin .lss (.t 18) (.t 17), []⟩])
   (.seq
    (.cond (.t 19)
     .skip
     (.exit 0))
    (.seq
     (.block 1
      (.seq
       (.reg [9] [
         ⟨none, (some 20), .idxA 2 (.t 16) (.t 18), []⟩,
         ⟨none, (some 21), .ld 2 true (.t 20), []⟩,
         ⟨none, (some 9), .zero true [.int .i8 0, .int .i8 0], []⟩,
         ⟨none, (some 9), .stV 9 none 2 (.t 21), []⟩])
       (.seq
        (.reg [10, 11] [
          ⟨none, (some 22), .adrF 9 none 0, []⟩,
          ⟨none, (some 23), .ldV 9 (some 22) 1 false, []⟩,
          ⟨none, (some 24), .conv .i64 (.t 23), []⟩,
          ⟨none, (some 25), .adrF 9 none 1, []⟩,
          ⟨none, (some 26), .ldV 9 (some 25) 1 false, []⟩,
          ⟨none, (some 27), .conv .i64 (.t 26), []⟩,
          ⟨none, (some 10), .mov (.t 24), []⟩,
          ⟨none, (some 11), .mov (.t 27), []⟩])
        (.seq
         (.seq
          (.reg [35] [
            ⟨none, (some 28), .ldV 2 none 12 true, []⟩,
            ⟨none, (some 29), .mov (.t 10), []⟩,
            ⟨none, (some 30), .mov (.t 5), []⟩,
            ⟨none, (some 31), .bin .sub (.t 29) (.t 30), []⟩,
            ⟨none, (some 32), .mov (.t 11), []⟩,
            ⟨none, (some 33), .mov (.t 6), []⟩,
            ⟨none, (some 34), .bin .sub (.t 32) (.t 33), []⟩,
            ⟨none, (some 35), .call true 395 [.t 28, .t 31, .t 34], []⟩])
          (.cond (.t 35)
           (.exit 1)
           .skip))
         (.seq
          (.reg [12] [
            ⟨none, (some 12), .mov (.c (.int .i64 1)), []⟩])
          (.seq
           (.block 2
            (.loop b363_1))
           (.reg [7] [
             ⟨none, (some 50), .mov (.t 7), []⟩,
             ⟨none, (some 51), .adrF 9 none 0, []⟩,
             ⟨none, (some 52), .ldV 9 (some 51) 1 false, []⟩,
             ⟨none, (some 53), .adrF 9 none 1, []⟩,
             ⟨none, (some 54), .ldV 9 (some 53) 1 false, []⟩,
             ⟨none, (some 55), .mov (.t 12), []⟩,
             ⟨none, (some 56), .conv .i8 (.t 55), []⟩,
             ⟨none, (some 57), .mov (.t 1), []⟩,
             ⟨none, (some 58), .agg [.int .i8 0, .int .i8 0, .int .i8 0, .bool false] [(0, 1, (.t 52)), (1, 1, (.t 54)), (2, 1, (.t 56)), (3, 1, (.t 57))], []⟩,
             ⟨none, (some 59), .bldS 4 1 [.int .i8 0, .int .i8 0, .int .i8 0, .bool false] [(0, 4, (.t 58))], []⟩,
             ⟨none, (some 60), .app 4 4 (.t 50) (.t 59), []⟩,
             ⟨none, (some 7), .mov (.t 60), []⟩])))))))
     (.reg [18] [
       ⟨none, (some 61), .bin .add (.t 18) (.c (.int .i64 1)), []⟩,
       ⟨none, (some 18), .mov (.t 61), []⟩]))))
def k363 : Cd :=
  (.seq
   (.reg [2, 4] [
     ⟨none, (some 2), .mov (.t 0), []⟩,
     ⟨none, (some 4), .mov (.c (.slice none 0 0)), []⟩])
   (.seq
    (.reg [5, 6] [
      ⟨none, (some 5), .mov (.c (.int .i64 1)), []⟩,
      ⟨none, (some 6), .mov (.c (.int .i64 0)), []⟩])
    (.seq
     (.seq
      (.reg [13] [
        ⟨none, (some 13), .mov (.t 1), []⟩])
      (.cond (.t 13)
       (.reg [5, 6] [
         ⟨none, (some 5), .mov (.c (.int .i64 0)), []⟩,
         ⟨none, (some 6), .mov (.c (.int .i64 1)), []⟩])
       .skip))
     (.seq
      (.reg [7] [
        ⟨none, (some 14), .bldS 4 0 [.int .i8 0, .int .i8 0, .int .i8 0, .bool false] [], []⟩,
        ⟨none, (some 7), .mov (.t 14), []⟩])
      (.seq
       (.seq
        (.reg [16, 17, 18] [
          ⟨none, (some 15), .ldV 2 none 12 true, []⟩,
          ⟨none, (some 16), .call true 449 [.t 15], []⟩,
          ⟨none, (some 17), .len (.t 16), []⟩,
          ⟨none, (some 18), .mov (.c (.int .i64 0)), []⟩])
        (.block 0
         (.loop b363_2)))
       (.seq
        (.reg [4] [
          ⟨none, (some 62), .mov (.t 7), []⟩,
          ⟨none, (some 4), .mov (.t 62), []⟩])
        .ret))))))
def c363 : Fn := { np := 2, nt := 63, kind := .pure, res := [.t 4], body := k363 }

/- spec.l01Drawn -/
def b368_1 : Cd :=
  (.seq
   (.seq
    (.reg [16] [
      ⟨none, (some 15), .mov (.t 6), []⟩,
      ⟨none, (some 16), .bin .gtr (.t 15) (.c (.int .i64 0)), []⟩])
    (.cond (.t 16)
     .skip
     (.exit 0)))
   (.seq
    (.block 1
     (.seq
      (.reg [] [
        ⟨none, (some 19), .mov (.t 4), []⟩,
        ⟨none, (some 20), .mov (.t 5), []⟩,
        ⟨none, (some 21), .call false 305 [.t 3, .t 19, .t 20], []⟩])
      (.seq
       (.reg [23] [
         ⟨none, (some 22), .mov (.t 0), []⟩,
         ⟨none, (some 23), .call false 459 [.t 22, .c (.int .i64 6)], []⟩])
       (.block 2
        (.seq
         (.reg [30] [
           ⟨none, (some 31), .bin .eql (.t 23) (.c (.int .i64 0)), []⟩,
           ⟨none, (some 30), .mov (.t 31), []⟩])
         (.cond (.t 30)
          (.seq
           (.reg [4] [
             ⟨none, (some 32), .mov (.t 0), []⟩,
             ⟨none, (some 33), .call false 459 [.t 32, .c (.int .i64 12)], []⟩,
             ⟨none, (some 4), .mov (.t 33), []⟩])
           (.reg [5] [
             ⟨none, (some 34), .mov (.t 0), []⟩,
             ⟨none, (some 35), .call false 459 [.t 34, .c (.int .i64 12)], []⟩,
             ⟨none, (some 5), .mov (.t 35), []⟩]))
          (.seq
           (.seq
            (.reg [36] [
              ⟨none, (some 37), .bin .eql (.t 23) (.c (.int .i64 1)), []⟩,
              ⟨none, (some 36), .mov (.t 37), []⟩])
            (.cond (.t 36)
             .skip
             (.reg [36] [
               ⟨none, (some 38), .bin .eql (.t 23) (.c (.int .i64 2)), []⟩,
               ⟨none, (some 36), .mov (.t 38), []⟩])))
           (.cond (.t 36)
            (.reg [4] [
              ⟨none, (some 39), .mov (.t 4), []⟩,
              ⟨none, (some 40), .bin .add (.t 39) (.c (.int .i64 1)), []⟩,
              ⟨none, (some 41), .bin .rem (.t 40) (.c (.int .i64 12)), []⟩,
              ⟨none, (some 4), .mov (.t 41), []⟩])
            (.reg [5] [
              ⟨none, (some 24), .mov (.t 5), []⟩,
              ⟨none, (some 25), .mov (.t 0), []⟩,
              ⟨none, (some 26), .call false 459 [.t 25, .c (.int .i64 3)], []⟩,
              ⟨none, (some 27), .bin .add (.t 24) (.t 26), []⟩,
              ⟨none, (some 28), .bin .add (.t 27) (.c (.int .i64 11)), []⟩,
              ⟨none, (some 29), .bin .rem (.t 28) (.c (.int .i64 12)), []⟩,
              ⟨none, (some 5), .mov (.t 29), []⟩])))))))))
    (.reg [6] [
      ⟨none, (some 17), .mov (.t 6), []⟩,
      ⟨none, (some 18), .bin .sub (.t 17) (.c (.int .i64 1)), []⟩,
      ⟨none, (some 6), .mov (.t 18), []⟩])))
def b368_2 : Cd :=
  (.seq
   (.seq
    (.reg [45] [
      ⟨none, (some 44), .mov (.t 7), []⟩,
      ⟨none, (some 45), .bin .lss (.t 44) (.c (.int .i64 12)), []⟩])
    (.cond (.t 45)
     .skip
     (.exit 3)))
   (.seq
    (.block 4
     (.reg [] [
       ⟨none, (some 48), .mov (.t 7), []⟩,
       ⟨none, (some 49), .mov (.t 7), []⟩,
       ⟨none, (some 50), .idxP 12 1 (.t 3) (.t 49), []⟩,
       ⟨none, (some 51), .ld 1 false (.t 50), []⟩,
       ⟨none, (some 52), .mov (.t 0), []⟩,
       ⟨none, (some 53), .call false 459 [.t 52, .c (.int .i64 4096)], [.t 50]⟩,
       ⟨none, (some 54), .conv .u16 (.t 53), []⟩,
       ⟨none, (some 55), .bin .or (.t 51) (.t 54), []⟩,
       ⟨none, (some 56), .idxP 12 1 (.t 3) (.t 48), []⟩,
       ⟨none, none, .st 1 (.t 56) (.t 55), []⟩]))
    (.reg [7] [
      ⟨none, (some 46), .mov (.t 7), []⟩,
      ⟨none, (some 47), .bin .add (.t 46) (.c (.int .i64 1)), []⟩,
      ⟨none, (some 7), .mov (.t 47), []⟩])))
def k368 : Cd :=
  (.seq
   (.reg [2] [
     ⟨none, (some 2), .zero true (zs 12 (.int .u16 0)), []⟩])
   (.seq
    (.reg [3] [
      ⟨none, (some 8), .agg (zs 12 (.int .u16 0)) [], []⟩,
      ⟨none, (some 3), .new 1 (zs 12 (.int .u16 0)), []⟩,
      ⟨none, none, .st 12 (.t 3) (.t 8), []⟩])
    (.seq
     (.reg [4] [
       ⟨none, (some 9), .mov (.t 0), []⟩,
       ⟨none, (some 10), .call false 459 [.t 9, .c (.int .i64 12)], []⟩,
       ⟨none, (some 4), .mov (.t 10), []⟩])
     (.seq
      (.reg [5] [
        ⟨none, (some 11), .mov (.t 0), []⟩,
        ⟨none, (some 12), .call false 459 [.t 11, .c (.int .i64 12)], []⟩,
        ⟨none, (some 5), .mov (.t 12), []⟩])
      (.seq
       (.seq
        (.reg [6] [
          ⟨none, (some 13), .mov (.t 0), []⟩,
          ⟨none, (some 14), .call false 459 [.t 13, .c (.int .i64 14)], []⟩,
          ⟨none, (some 6), .mov (.t 14), []⟩])
        (.block 0
         (.loop b368_1)))
       (.seq
        (.seq
         (.reg [43] [
           ⟨none, (some 42), .mov (.t 0), []⟩,
           ⟨none, (some 43), .call false 513 [.t 42, .c (.int .i64 8)], []⟩])
         (.cond (.t 43)
          (.seq
           (.reg [7] [
             ⟨none, (some 7), .mov (.c (.int .i64 0)), []⟩])
           (.block 3
            (.loop b368_2)))
          .skip))
        (.seq
         (.reg [2] [
           ⟨none, (some 57), .ld 12 true (.t 3), []⟩,
           ⟨none, (some 2), .stV 2 none 12 (.t 57), []⟩])
         .ret)))))))
def c368 : Fn := { np := 1, nt := 58, kind := .args, res := [.v 2 12 true], body := k368 }

/- (impl.Frame).count -/
def b393_1 : Cd :=
  (.seq
   (.reg [8] [
     ⟨none, (some 8), .bin .lss (.t 7) (.c (.int .i64 12)), []⟩])
   (.seq
    (.cond (.t 8)
     .skip
     (.exit 0))
    (.seq
     (.block 1
      (.seq
       (.reg [5] [
         ⟨none, (some 9), .idx 12 1 false (.t 6) (.t 7), []⟩,
         ⟨none, (some 5), .mov (.t 9), []⟩])
       (.reg [3] [
         ⟨none, (some 10), .mov (.t 3), []⟩,
         ⟨none, (some 11), .mov (.t 5), []⟩,
         ⟨none, (some 12), .call true 530 [.t 11], []⟩,
         ⟨none, (some 13), .bin .add (.t 10) (.t 12), []⟩,
         ⟨none, (some 3), .mov (.t 13), []⟩])))
     (.reg [7] [
       ⟨none, (some 14), .bin .add (.t 7) (.c (.int .i64 1)), []⟩,
       ⟨none, (some 7), .mov (.t 14), []⟩]))))
def k393 : Cd :=
  (.seq
   (.reg [1, 2] [
     ⟨none, (some 1), .mov (.t 0), []⟩,
     ⟨none, (some 2), .mov (.c (.int .i64 0)), []⟩])
   (.seq
    (.reg [3] [
      ⟨none, (some 3), .mov (.c (.int .i64 0)), []⟩])
    (.seq
     (.seq
      (.reg [6, 7] [
        ⟨none, (some 6), .ldV 1 none 12 true, []⟩,
        ⟨none, (some 7), .mov (.c (.int .i64 0)), []⟩])
      (.block 0
       (.loop b393_1)))
     (.seq
      (.reg [2] [
        ⟨none, (some 15), .mov (.t 3), []⟩,
        ⟨none, (some 2), .mov (.t 15), []⟩])
      .ret))))
def c393 : Fn := { np := 1, nt := 16, kind := .pure, res := [.t 2], body := k393 }

/- impl.TurnFrame$1 -/
def k394 : Cd :=
  (.seq
   (.reg [5] [
     ⟨none, (some 5), .mov (.c (.bool false)), []⟩])
   (.seq
    (.reg [5] [
      ⟨none, (some 6), .ld 12 true (.t 2), []⟩,
      ⟨none, (some 7), .mov (.t 1), []⟩,
      ⟨none, (some 8), .mov (.t 0), []⟩,
      ⟨none, (some 9), .bin .sub (.c (.int .i64 11)) (.t 8), []⟩,
      ⟨none, (some 10), .call true 395 [.t 6, .t 7, .t 9], []⟩,
      ⟨none, (some 5), .mov (.t 10), []⟩])
    .ret))
def c394 : Fn := { np := 3, nt := 11, kind := .pure, res := [.t 5], body := k394 }

/- (impl.Frame).has -/
def k395 : Cd :=
  (.seq
   (.reg [3, 6] [
     ⟨none, (some 3), .mov (.t 0), []⟩,
     ⟨none, (some 6), .mov (.c (.bool false)), []⟩])
   (.seq
    (.reg [6] [
      ⟨none, (some 7), .mov (.t 1), []⟩,
      ⟨none, (some 8), .mov (.t 2), []⟩,
      ⟨none, (some 9), .call true 345 [.t 7, .t 8], []⟩,
      ⟨none, (some 10), .mov (.t 9), []⟩,
      ⟨(some (10, true)), (some 11), .mov (.t 2), []⟩,
      ⟨(some (10, true)), (some 12), .adrI 3 none 12 1 (.t 11), []⟩,
      ⟨(some (10, true)), (some 13), .ldV 3 (some 12) 1 false, []⟩,
      ⟨(some (10, true)), (some 14), .mov (.t 1), []⟩,
      ⟨(some (10, true)), (some 15), .bin .shr (.t 13) (.t 14), []⟩,
      ⟨(some (10, true)), (some 16), .bin .and (.t 15) (.c (.int .u16 1)), []⟩,
      ⟨(some (10, true)), (some 17), .bin .eql (.t 16) (.c (.int .u16 1)), []⟩,
      ⟨none, (some 18), .pick (.t 10) (.t 17) (.c (.bool false)), []⟩,
      ⟨none, (some 6), .mov (.t 18), []⟩])
    .ret))
def c395 : Fn := { np := 3, nt := 19, kind := .pure, res := [.t 6], body := k395 }

/- slices.ContainsFunc[[]uint16,uint16] -/
def k445 : Cd :=
  (.seq
   (.reg [4] [
     ⟨none, (some 4), .mov (.c (.bool false)), []⟩])
   (.seq
    (.reg [4] [
      ⟨none, (some 5), .mov (.t 0), []⟩,
      ⟨none, (some 6), .mov (.t 1), []⟩,
      ⟨none, (some 7), .call true 547 [.t 5, .t 6], []⟩,
      ⟨none, (some 8), .bin .geq (.t 7) (.c (.int .i64 0)), []⟩,
      ⟨none, (some 4), .mov (.t 8), []⟩])
    .ret))
def c445 : Fn := { np := 2, nt := 9, kind := .pure, res := [.t 4], body := k445 }

/- impl.ValidFrame$1 -/
def k446 : Cd :=
  (.seq
   (.reg [2] [
     ⟨none, (some 2), .mov (.c (.bool false)), []⟩])
   (.seq
    (.reg [2] [
      ⟨none, (some 3), .mov (.t 0), []⟩,
      ⟨none, (some 4), .bin .gtr (.t 3) (.c (.int .u16 4095)), []⟩,
      ⟨none, (some 2), .mov (.t 4), []⟩])
    .ret))
def c446 : Fn := { np := 1, nt := 5, kind := .pure, res := [.t 2], body := k446 }

/- (impl.Frame).dots -/
def b449_1 : Cd :=
  (.seq
   (.reg [11] [
     ⟨none, (some 11), .bin .lss (.t 10) (.c (.int .i64 12)), []⟩])
   (.seq
    (.cond (.t 11)
     .skip
     (.exit 2))
    (.seq
     (.block 3
      (.seq
       (.reg [5] [
         ⟨none, (some 12), .mov (.t 10), []⟩,
         ⟨none, (some 5), .mov (.t 12), []⟩])
       (.seq
        (.reg [16] [
          ⟨none, (some 13), .ldV 1 none 12 true, []⟩,
          ⟨none, (some 14), .mov (.t 5), []⟩,
          ⟨none, (some 15), .mov (.t 4), []⟩,
          ⟨none, (some 16), .call true 395 [.t 13, .t 14, .t 15], []⟩])
        (.cond (.t 16)
         (.reg [3] [
           ⟨none, (some 17), .mov (.t 3), []⟩,
           ⟨none, (some 18), .mov (.t 5), []⟩,
           ⟨none, (some 19), .conv .i8 (.t 18), []⟩,
           ⟨none, (some 20), .mov (.t 4), []⟩,
           ⟨none, (some 21), .conv .i8 (.t 20), []⟩,
           ⟨none, (some 22), .agg [.int .i8 0, .int .i8 0] [(0, 1, (.t 19)), (1, 1, (.t 21))], []⟩,
           ⟨none, (some 23), .bldS 2 1 [.int .i8 0, .int .i8 0] [(0, 2, (.t 22))], []⟩,
           ⟨none, (some 24), .app 2 2 (.t 17) (.t 23), []⟩,
           ⟨none, (some 3), .mov (.t 24), []⟩])
         .skip))))
     (.reg [10] [
       ⟨none, (some 25), .bin .add (.t 10) (.c (.int .i64 1)), []⟩,
       ⟨none, (some 10), .mov (.t 25), []⟩]))))
def b449_2 : Cd :=
  (.seq
   (.reg [8] [
     ⟨none, (some 8), .bin .lss (.t 7) (.c (.int .i64 12)), []⟩])
   (.seq
    (.cond (.t 8)
     .skip
     (.exit 0))
    (.seq
     (.block 1
      (.seq
       (.reg [4] [
         ⟨none, (some 9), .mov (.t 7), []⟩,
         ⟨none, (some 4), .mov (.t 9), []⟩])
       (.seq
        (.reg [10] [
          ⟨none, (some 10), .mov (.c (.int .i64 0)), []⟩])
        (.block 2
         (.loop b449_1)))))
     (.reg [7] [
       ⟨none, (some 26), .bin .add (.t 7) (.c (.int .i64 1)), []⟩,
       ⟨none, (some 7), .mov (.t 26), []⟩]))))
def k449 : Cd :=
  (.seq
   (.reg [1, 2] [
     ⟨none, (some 1), .mov (.t 0), []⟩,
     ⟨none, (some 2), .mov (.c (.slice none 0 0)), []⟩])
   (.seq
    (.reg [3] [
      ⟨none, (some 6), .bldS 2 0 [.int .i8 0, .int .i8 0] [], []⟩,
      ⟨none, (some 3), .mov (.t 6), []⟩])
    (.seq
     (.seq
      (.reg [7] [
        ⟨none, (some 7), .mov (.c (.int .i64 0)), []⟩])
      (.block 0
       (.loop b449_2)))
     (.seq
      (.reg [2] [
        ⟨none, (some 27), .mov (.t 3), []⟩,
        ⟨none, (some 2), .mov (.t 27), []⟩])
      .ret))))
def c449 : Fn := { np := 1, nt := 28, kind := .pure, res := [.t 2], body := k449 }

/- spec.l01Has -/
def k456 : Cd :=
  (.seq
   (.reg [6] [
     ⟨none, (some 6), .mov (.c (.bool false)), []⟩])
   (.seq
    (.reg [6] [
      ⟨none, (some 7), .mov (.t 1), []⟩,
      ⟨none, (some 8), .mov (.t 2), []⟩,
      ⟨none, (some 9), .call true 342 [.t 7, .t 8], []⟩,
      ⟨none, (some 10), .mov (.t 9), []⟩,
      ⟨(some (10, true)), (some 11), .mov (.t 0), []⟩,
      ⟨(some (10, true)), (some 12), .mov (.t 2), []⟩,
      ⟨(some (10, true)), (some 13), .nil (.t 11), []⟩,
      ⟨(some (10, true)), (some 14), .idxP 12 1 (.t 13) (.t 12), []⟩,
      ⟨(some (10, true)), (some 15), .ld 1 false (.t 14), []⟩,
      ⟨(some (10, true)), (some 16), .mov (.t 1), []⟩,
      ⟨(some (10, true)), (some 17), .conv .u64 (.t 16), []⟩,
      ⟨(some (10, true)), (some 18), .bin .shr (.t 15) (.t 17), []⟩,
      ⟨(some (10, true)), (some 19), .bin .rem (.t 18) (.c (.int .u16 2)), []⟩,
      ⟨(some (10, true)), (some 20), .bin .eql (.t 19) (.c (.int .u16 1)), []⟩,
      ⟨none, (some 21), .pick (.t 10) (.t 20) (.c (.bool false)), []⟩,
      ⟨none, (some 6), .mov (.t 21), []⟩])
    .ret))
def c456 : Fn := { np := 3, nt := 22, kind := .pure, res := [.t 6], body := k456 }

/- (*spec.l00Src).pick -/
def k459 : Cd :=
  (.seq
   (.reg [4] [
     ⟨none, (some 4), .mov (.c (.int .i64 0)), []⟩])
   (.seq
    (.seq
     (.reg [7] [
       ⟨none, (some 6), .mov (.t 1), []⟩,
       ⟨none, (some 7), .bin .leq (.t 6) (.c (.int .i64 1)), []⟩])
     (.cond (.t 7)
      (.seq
       (.reg [4] [
         ⟨none, (some 4), .mov (.c (.int .i64 0)), []⟩])
       .ret)
      .skip))
    (.seq
     (.reg [5] [
       ⟨none, (some 8), .mov (.t 0), []⟩,
       ⟨none, (some 9), .call false 550 [.t 8], []⟩,
       ⟨none, (some 5), .mov (.t 9), []⟩])
     (.seq
      (.seq
       (.reg [11] [
         ⟨none, (some 10), .mov (.t 1), []⟩,
         ⟨none, (some 11), .bin .gtr (.t 10) (.c (.int .i64 200)), []⟩])
       (.cond (.t 11)
        (.reg [5] [
          ⟨none, (some 12), .mov (.t 5), []⟩,
          ⟨none, (some 13), .bin .mul (.t 12) (.c (.int .i64 256)), []⟩,
          ⟨none, (some 14), .mov (.t 0), []⟩,
          ⟨none, (some 15), .call false 550 [.t 14], []⟩,
          ⟨none, (some 16), .bin .add (.t 13) (.t 15), []⟩,
          ⟨none, (some 5), .mov (.t 16), []⟩])
        .skip))
      (.seq
       (.reg [4] [
         ⟨none, (some 17), .mov (.t 5), []⟩,
         ⟨none, (some 18), .mov (.t 1), []⟩,
         ⟨none, (some 19), .bin .rem (.t 17) (.t 18), []⟩,
         ⟨none, (some 4), .mov (.t 19), []⟩])
       .ret)))))
def c459 : Fn := { np := 2, nt := 20, kind := .args, res := [.t 4], body := k459 }

/- (*spec.l00Src).one -/
def k513 : Cd :=
  (.seq
   (.reg [4] [
     ⟨none, (some 4), .mov (.c (.bool false)), []⟩])
   (.seq
    (.reg [4] [
      ⟨none, (some 5), .mov (.t 0), []⟩,
      ⟨none, (some 6), .mov (.t 1), []⟩,
      ⟨none, (some 7), .call false 459 [.t 5, .t 6], []⟩,
      ⟨none, (some 8), .bin .eql (.t 7) (.c (.int .i64 0)), []⟩,
      ⟨none, (some 4), .mov (.t 8), []⟩])
    .ret))
def c513 : Fn := { np := 2, nt := 9, kind := .args, res := [.t 4], body := k513 }

/- math/bits.OnesCount16 -/
def k530 : Cd :=
  (.seq
   (.reg [2] [
     ⟨none, (some 2), .mov (.c (.int .i64 0)), []⟩])
   (.seq
    (.reg [2] [
      ⟨none, (some 3), .mov (.t 0), []⟩,
      ⟨none, (some 4), .bin .shr (.t 3) (.c (.int .u64 8)), []⟩,
      ⟨none, (some 5), .idxs (.c (.string ⟨#[0, 1, 1, 2, 1, 2, 2, 3, 1, 2, 2, 3, 2, 3, 3, 4, 1, 2, 2, 3, 2, 3, 3, 4, 2, 3, 3, 4, 3, 4, 4, 5, 1, 2, 2, 3, 2, 3, 3, 4, 2, 3, 3, 4, 3, 4, 4, 5, 2, 3, 3, 4, 3, 4, 4, 5, 3, 4, 4, 5, 4, 5, 5, 6, 1, 2, 2, 3, 2, 3, 3, 4, 2, 3, 3, 4, 3, 4, 4, 5, 2, 3, 3, 4, 3, 4, 4, 5, 3, 4, 4, 5, 4, 5, 5, 6, 2, 3, 3, 4, 3, 4, 4, 5, 3, 4, 4, 5, 4, 5, 5, 6, 3, 4, 4, 5, 4, 5, 5, 6, 4, 5, 5, 6, 5, 6, 6, 7, 1, 2, 2, 3, 2, 3, 3, 4, 2, 3, 3, 4, 3, 4, 4, 5, 2, 3, 3, 4, 3, 4, 4, 5, 3, 4, 4, 5, 4, 5, 5, 6, 2, 3, 3, 4, 3, 4, 4, 5, 3, 4, 4, 5, 4, 5, 5, 6, 3, 4, 4, 5, 4, 5, 5, 6, 4, 5, 5, 6, 5, 6, 6, 7, 2, 3, 3, 4, 3, 4, 4, 5, 3, 4, 4, 5, 4, 5, 5, 6, 3, 4, 4, 5, 4, 5, 5, 6, 4, 5, 5, 6, 5, 6, 6, 7, 3, 4, 4, 5, 4, 5, 5, 6, 4, 5, 5, 6, 5, 6, 6, 7, 4, 5, 5, 6, 5, 6, 6, 7, 5, 6, 6, 7, 6, 7, 7, 8]⟩)) (.t 4), []⟩,
      ⟨none, (some 6), .mov (.t 0), []⟩,
      ⟨none, (some 7), .bin .and (.t 6) (.c (.int .u16 255)), []⟩,
      ⟨none, (some 8), .idxs (.c (.string ⟨#[0, 1, 1, 2, 1, 2, 2, 3, 1, 2, 2, 3, 2, 3, 3, 4, 1, 2, 2, 3, 2, 3, 3, 4, 2, 3, 3, 4, 3, 4, 4, 5, 1, 2, 2, 3, 2, 3, 3, 4, 2, 3, 3, 4, 3, 4, 4, 5, 2, 3, 3, 4, 3, 4, 4, 5, 3, 4, 4, 5, 4, 5, 5, 6, 1, 2, 2, 3, 2, 3, 3, 4, 2, 3, 3, 4, 3, 4, 4, 5, 2, 3, 3, 4, 3, 4, 4, 5, 3, 4, 4, 5, 4, 5, 5, 6, 2, 3, 3, 4, 3, 4, 4, 5, 3, 4, 4, 5, 4, 5, 5, 6, 3, 4, 4, 5, 4, 5, 5, 6, 4, 5, 5, 6, 5, 6, 6, 7, 1, 2, 2, 3, 2, 3, 3, 4, 2, 3, 3, 4, 3, 4, 4, 5, 2, 3, 3, 4, 3, 4, 4, 5, 3, 4, 4, 5, 4, 5, 5, 6, 2, 3, 3, 4, 3, 4, 4, 5, 3, 4, 4, 5, 4, 5, 5, 6, 3, 4, 4, 5, 4, 5, 5, 6, 4, 5, 5, 6, 5, 6, 6, 7, 2, 3, 3, 4, 3, 4, 4, 5, 3, 4, 4, 5, 4, 5, 5, 6, 3, 4, 4, 5, 4, 5, 5, 6, 4, 5, 5, 6, 5, 6, 6, 7, 3, 4, 4, 5, 4, 5, 5, 6, 4, 5, 5, 6, 5, 6, 6, 7, 4, 5, 5, 6, 5, 6, 6, 7, 5, 6, 6, 7, 6, 7, 7, 8]⟩)) (.t 7), []⟩,
      ⟨none, (some 9), .bin .add (.t 5) (.t 8), []⟩,
      ⟨none, (some 10), .conv .i64 (.t 9), []⟩,
      ⟨none, (some 2), .mov (.t 10), []⟩])
    .ret))
def c530 : Fn := { np := 1, nt := 11, kind := .pure, res := [.t 2], body := k530 }

/- slices.IndexFunc[[]uint16,uint16] -/
def b547_1 : Cd :=
  (.seq
   (.reg [9] [
     ⟨none, (some 9), .bin .lss (.t 8) (.t 7), []⟩])
   (.seq
    (.cond (.t 9)
     .skip
     (.exit 0))
    (.seq
     (.block 1
      (.seq
       (.reg [5] [
         ⟨none, (some 10), .mov (.t 8), []⟩,
         ⟨none, (some 5), .mov (.t 10), []⟩])
       (.seq
        (.reg [16] [
          ⟨none, (some 11), .mov (.t 1), []⟩,
          ⟨none, (some 12), .mov (.t 0), []⟩,
          ⟨none, (some 13), .mov (.t 5), []⟩,
          ⟨none, (some 14), .idxA 1 (.t 12) (.t 13), []⟩,
          ⟨none, (some 15), .ld 1 false (.t 14), []⟩,
          ⟨none, (some 16), .callv (.t 11) [.t 15], []⟩])
        (.cond (.t 16)
         (.seq
          (.reg [4] [
            ⟨none, (some 17), .mov (.t 5), []⟩,
            ⟨none, (some 4), .mov (.t 17), []⟩])
          .ret)
         .skip))))
     (.reg [8] [
       ⟨none, (some 18), .bin .add (.t 8) (.c (.int .i64 1)), []⟩,
       ⟨none, (some 8), .mov (.t 18), []⟩]))))
def k547 : Cd :=
  (.seq
   (.reg [4] [
     ⟨none, (some 4), .mov (.c (.int .i64 0)), []⟩])
   (.seq
    (.seq
     (.reg [7, 8] [
       ⟨none, (some 6), .mov (.t 0), []⟩,
       ⟨none, (some 7), .len (.t 6), []⟩,
       ⟨none, (some 8), .mov (.c (.int .i64 0)), []⟩])
     (.block 0
      (.loop b547_1)))
    (.seq
     (.reg [4] [
       ⟨none, (some 4), .mov (.c (.int .i64 (-1))), []⟩])
     .ret)))
def c547 : Fn := { np := 2, nt := 19, kind := .pure, res := [.t 4], body := k547 }

/- (*spec.l00Src).next -/
def k550 : Cd :=
  (.seq
   (.reg [2] [
     ⟨none, (some 2), .mov (.c (.int .i64 0)), []⟩])
   (.seq
    (.reg [3] [
      ⟨none, (some 3), .mov (.c (.int .i64 0)), []⟩])
    (.seq
     (.seq
      (.reg [13] [
        ⟨none, (some 4), .mov (.t 0), []⟩,
        ⟨none, (some 5), .nil (.t 4), []⟩,
        ⟨none, (some 6), .fldP 1 (.t 5), []⟩,
        ⟨none, (some 7), .ld 1 false (.t 6), []⟩,
        ⟨none, (some 8), .mov (.t 0), []⟩,
        ⟨none, (some 9), .nil (.t 8), []⟩,
        ⟨none, (some 10), .fldP 0 (.t 9), []⟩,
        ⟨none, (some 11), .ld 1 false (.t 10), []⟩,
        ⟨none, (some 12), .len (.t 11), []⟩,
        ⟨none, (some 13), .bin .lss (.t 7) (.t 12), []⟩])
      (.cond (.t 13)
       (.reg [3] [
         ⟨none, (some 14), .mov (.t 0), []⟩,
         ⟨none, (some 15), .nil (.t 14), []⟩,
         ⟨none, (some 16), .fldP 0 (.t 15), []⟩,
         ⟨none, (some 17), .ld 1 false (.t 16), []⟩,
         ⟨none, (some 18), .mov (.t 0), []⟩,
         ⟨none, (some 19), .nil (.t 18), []⟩,
         ⟨none, (some 20), .fldP 1 (.t 19), []⟩,
         ⟨none, (some 21), .ld 1 false (.t 20), []⟩,
         ⟨none, (some 22), .idxA 1 (.t 17) (.t 21), []⟩,
         ⟨none, (some 23), .ld 1 false (.t 22), []⟩,
         ⟨none, (some 24), .conv .i64 (.t 23), []⟩,
         ⟨none, (some 3), .mov (.t 24), []⟩])
       .skip))
     (.seq
      (.reg [] [
        ⟨none, (some 25), .mov (.t 0), []⟩,
        ⟨none, (some 26), .nil (.t 25), []⟩,
        ⟨none, (some 27), .fldP 1 (.t 26), []⟩,
        ⟨none, (some 28), .ld 1 false (.t 27), []⟩,
        ⟨none, (some 29), .bin .add (.t 28) (.c (.int .i64 1)), []⟩,
        ⟨none, (some 30), .nil (.t 25), []⟩,
        ⟨none, (some 31), .fldP 1 (.t 30), []⟩,
        ⟨none, none, .st 1 (.t 31) (.t 29), []⟩])
      (.seq
       (.reg [] [
         ⟨none, (some 32), .mov (.t 0), []⟩,
         ⟨none, (some 33), .mov (.t 0), []⟩,
         ⟨none, (some 34), .nil (.t 33), []⟩,
         ⟨none, (some 35), .fldP 2 (.t 34), []⟩,
         ⟨none, (some 36), .ld 1 false (.t 35), []⟩,
         ⟨none, (some 37), .bin .mul (.t 36) (.c (.int .u64 6364136223846793005)), []⟩,
         ⟨none, (some 38), .mov (.t 3), []⟩,
         ⟨none, (some 39), .conv .u64 (.t 38), []⟩,
         ⟨none, (some 40), .bin .add (.t 37) (.t 39), []⟩,
         ⟨none, (some 41), .bin .add (.t 40) (.c (.int .u64 1442695040888963407)), []⟩,
         ⟨none, (some 42), .nil (.t 32), []⟩,
         ⟨none, (some 43), .fldP 2 (.t 42), []⟩,
         ⟨none, none, .st 1 (.t 43) (.t 41), []⟩])
       (.seq
        (.seq
         (.reg [53] [
           ⟨none, (some 44), .mov (.t 0), []⟩,
           ⟨none, (some 45), .nil (.t 44), []⟩,
           ⟨none, (some 46), .fldP 1 (.t 45), []⟩,
           ⟨none, (some 47), .ld 1 false (.t 46), []⟩,
           ⟨none, (some 48), .mov (.t 0), []⟩,
           ⟨none, (some 49), .nil (.t 48), []⟩,
           ⟨none, (some 50), .fldP 0 (.t 49), []⟩,
           ⟨none, (some 51), .ld 1 false (.t 50), []⟩,
           ⟨none, (some 52), .len (.t 51), []⟩,
           ⟨none, (some 53), .bin .leq (.t 47) (.t 52), []⟩])
         (.cond (.t 53)
          (.seq
           (.reg [2] [
             ⟨none, (some 54), .mov (.t 3), []⟩,
             ⟨none, (some 2), .mov (.t 54), []⟩])
           .ret)
          .skip))
        (.seq
         (.reg [2] [
           ⟨none, (some 55), .mov (.t 0), []⟩,
           ⟨none, (some 56), .nil (.t 55), []⟩,
           ⟨none, (some 57), .fldP 2 (.t 56), []⟩,
           ⟨none, (some 58), .ld 1 false (.t 57), []⟩,
           ⟨none, (some 59), .bin .shr (.t 58) (.c (.int .u64 40)), []⟩,
           ⟨none, (some 60), .bin .and (.t 59) (.c (.int .u64 255)), []⟩,
           ⟨none, (some 61), .conv .i64 (.t 60), []⟩,
           ⟨none, (some 2), .mov (.t 61), []⟩])
         .ret)))))))
def c550 : Fn := { np := 1, nt := 62, kind := .args, res := [.t 2], body := k550 }


end Fb
