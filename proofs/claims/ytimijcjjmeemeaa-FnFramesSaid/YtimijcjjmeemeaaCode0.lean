/- The functions of the law, in the small language. -/
import Derived.Test.YtimijcjjmeemeaaDen
set_option linter.unusedVariables false
set_option linter.unusedSimpArgs false
namespace Fb
open Go

/- laws.FnFrames -/
def b47_1 : Cd :=
  (.seq
   (.seq
    (.reg [93] [
      ⟨none, (some 92), .mov (.t 10), []⟩,
      ⟨none, (some 93), .bin .lss (.t 92) (.c (.int .i64 4)), []⟩])
    (.cond (.t 93)
     .skip
     (.exit 0)))
   (.seq
    (.block 1
     (.seq
      (.reg [11, 12] [
        ⟨none, (some 97), .ldV 9 none 12 true, []⟩,
        ⟨none, (some 98), .call true 173 [.t 97], []⟩,
        ⟨none, (some 96), .mov (.t 98), []⟩,
        ⟨none, (some 99), .ext (.t 96) 0, []⟩,
        ⟨none, (some 100), .ext (.t 96) 1, []⟩,
        ⟨none, (some 11), .zero true (zs 12 (.int .u16 0)), []⟩,
        ⟨none, (some 11), .stV 11 none 12 (.t 99), []⟩,
        ⟨none, (some 12), .mov (.t 100), []⟩])
      (.seq
       (.reg [13, 14] [
         ⟨none, (some 102), .ldV 9 none 12 true, []⟩,
         ⟨none, (some 103), .call true 228 [.t 102], []⟩,
         ⟨none, (some 101), .mov (.t 103), []⟩,
         ⟨none, (some 104), .ext (.t 101) 0, []⟩,
         ⟨none, (some 105), .ext (.t 101) 1, []⟩,
         ⟨none, (some 13), .zero true (zs 12 (.int .u16 0)), []⟩,
         ⟨none, (some 13), .stV 13 none 12 (.t 104), []⟩,
         ⟨none, (some 14), .mov (.t 105), []⟩])
       (.seq
        (.seq
         (.reg [117] [
           ⟨none, (some 106), .mov (.t 12), []⟩,
           ⟨none, (some 107), .mov (.t 14), []⟩,
           ⟨none, (some 108), .bin .neq (.t 106) (.t 107), []⟩,
           ⟨none, (some 109), .mov (.t 108), []⟩,
           ⟨(some (109, false)), (some 110), .mov (.t 12), []⟩,
           ⟨(some (109, false)), (some 111), .bin .neq (.t 110) (.c (.int .i64 0)), []⟩,
           ⟨none, (some 112), .pick (.t 109) (.c (.bool true)) (.t 111), []⟩,
           ⟨none, (some 113), .mov (.t 112), []⟩,
           ⟨(some (113, false)), (some 114), .ldV 11 none 12 true, []⟩,
           ⟨(some (113, false)), (some 115), .ldV 13 none 12 true, []⟩,
           ⟨(some (113, false)), (some 116), .eq (.a (rb 12 (some .u16))) true (.t 114) (.t 115), []⟩,
           ⟨none, (some 117), .pick (.t 113) (.c (.bool true)) (.t 116), []⟩])
         (.cond (.t 117)
          (.seq
           (.reg [4] [
             ⟨none, (some 4), .mov (.c (.bool false)), []⟩])
           .ret)
          .skip))
        (.reg [9] [
          ⟨none, (some 118), .ldV 13 none 12 true, []⟩,
          ⟨none, (some 9), .stV 9 none 12 (.t 118), []⟩])))))
    (.reg [10] [
      ⟨none, (some 94), .mov (.t 10), []⟩,
      ⟨none, (some 95), .bin .add (.t 94) (.c (.int .i64 1)), []⟩,
      ⟨none, (some 10), .mov (.t 95), []⟩])))
def b47_2 : Cd :=
  (.seq
   (.seq
    (.reg [506] [
      ⟨none, (some 505), .mov (.t 67), []⟩,
      ⟨none, (some 506), .bin .lss (.t 505) (.c (.int .i64 12)), []⟩])
    (.cond (.t 506)
     .skip
     (.exit 4)))
   (.seq
    (.block 5
     (.seq
      (.reg [68, 69] [
        ⟨none, (some 510), .ldV 5 none 12 true, []⟩,
        ⟨none, (some 511), .mov (.t 67), []⟩,
        ⟨none, (some 512), .mov (.t 66), []⟩,
        ⟨none, (some 513), .call true 240 [.t 510, .t 511, .t 512], []⟩,
        ⟨none, (some 509), .mov (.t 513), []⟩,
        ⟨none, (some 514), .ext (.t 509) 0, []⟩,
        ⟨none, (some 515), .ext (.t 509) 1, []⟩,
        ⟨none, (some 68), .mov (.t 514), []⟩,
        ⟨none, (some 69), .mov (.t 515), []⟩])
      (.seq
       (.reg [70, 71] [
         ⟨none, (some 517), .ldV 6 none 12 true, []⟩,
         ⟨none, (some 518), .mov (.t 67), []⟩,
         ⟨none, (some 519), .mov (.t 66), []⟩,
         ⟨none, (some 520), .call true 240 [.t 517, .t 518, .t 519], []⟩,
         ⟨none, (some 516), .mov (.t 520), []⟩,
         ⟨none, (some 521), .ext (.t 516) 0, []⟩,
         ⟨none, (some 522), .ext (.t 516) 1, []⟩,
         ⟨none, (some 70), .mov (.t 521), []⟩,
         ⟨none, (some 71), .mov (.t 522), []⟩])
       (.seq
        (.seq
         (.reg [540] [
           ⟨none, (some 523), .mov (.t 69), []⟩,
           ⟨none, (some 524), .bin .neq (.t 523) (.c (.int .i64 0)), []⟩,
           ⟨none, (some 525), .mov (.t 524), []⟩,
           ⟨(some (525, false)), (some 526), .mov (.t 71), []⟩,
           ⟨(some (525, false)), (some 527), .bin .neq (.t 526) (.c (.int .i64 0)), []⟩,
           ⟨none, (some 528), .pick (.t 525) (.c (.bool true)) (.t 527), []⟩,
           ⟨none, (some 529), .mov (.t 528), []⟩,
           ⟨(some (529, false)), (some 530), .mov (.t 68), []⟩,
           ⟨(some (529, false)), (some 531), .mov (.t 66), []⟩,
           ⟨(some (529, false)), (some 532), .adrI 5 none 12 1 (.t 531), []⟩,
           ⟨(some (529, false)), (some 533), .ldV 5 (some 532) 1 false, []⟩,
           ⟨(some (529, false)), (some 534), .mov (.t 67), []⟩,
           ⟨(some (529, false)), (some 535), .conv .u64 (.t 534), []⟩,
           ⟨(some (529, false)), (some 536), .bin .shr (.t 533) (.t 535), []⟩,
           ⟨(some (529, false)), (some 537), .bin .and (.t 536) (.c (.int .u16 1)), []⟩,
           ⟨(some (529, false)), (some 538), .bin .eql (.t 537) (.c (.int .u16 1)), []⟩,
           ⟨(some (529, false)), (some 539), .eq .b true (.t 530) (.t 538), []⟩,
           ⟨none, (some 540), .pick (.t 529) (.c (.bool true)) (.t 539), []⟩])
         (.cond (.t 540)
          (.seq
           (.reg [4] [
             ⟨none, (some 4), .mov (.c (.bool false)), []⟩])
           .ret)
          .skip))
        (.seq
         (.reg [543] [
           ⟨none, (some 541), .mov (.t 68), []⟩,
           ⟨none, (some 542), .mov (.t 70), []⟩,
           ⟨none, (some 543), .eq .b true (.t 541) (.t 542), []⟩])
         (.cond (.t 543)
          (.reg [65] [
            ⟨none, (some 544), .mov (.t 65), []⟩,
            ⟨none, (some 545), .bin .add (.t 544) (.c (.int .i64 1)), []⟩,
            ⟨none, (some 65), .mov (.t 545), []⟩])
          .skip))))))
    (.reg [67] [
      ⟨none, (some 507), .mov (.t 67), []⟩,
      ⟨none, (some 508), .bin .add (.t 507) (.c (.int .i64 1)), []⟩,
      ⟨none, (some 67), .mov (.t 508), []⟩])))
def b47_3 : Cd :=
  (.seq
   (.seq
    (.reg [452] [
      ⟨none, (some 451), .mov (.t 66), []⟩,
      ⟨none, (some 452), .bin .lss (.t 451) (.c (.int .i64 12)), []⟩])
    (.cond (.t 452)
     .skip
     (.exit 2)))
   (.seq
    (.block 3
     (.seq
      (.seq
       (.reg [504] [
         ⟨none, (some 455), .mov (.t 66), []⟩,
         ⟨none, (some 456), .adrI 53 none 12 1 (.t 455), []⟩,
         ⟨none, (some 457), .ldV 53 (some 456) 1 false, []⟩,
         ⟨none, (some 458), .mov (.t 66), []⟩,
         ⟨none, (some 459), .adrI 5 none 12 1 (.t 458), []⟩,
         ⟨none, (some 460), .ldV 5 (some 459) 1 false, []⟩,
         ⟨none, (some 461), .mov (.t 66), []⟩,
         ⟨none, (some 462), .adrI 6 none 12 1 (.t 461), []⟩,
         ⟨none, (some 463), .ldV 6 (some 462) 1 false, []⟩,
         ⟨none, (some 464), .bin .or (.t 460) (.t 463), []⟩,
         ⟨none, (some 465), .bin .neq (.t 457) (.t 464), []⟩,
         ⟨none, (some 466), .mov (.t 465), []⟩,
         ⟨(some (466, false)), (some 467), .mov (.t 66), []⟩,
         ⟨(some (466, false)), (some 468), .adrI 55 none 12 1 (.t 467), []⟩,
         ⟨(some (466, false)), (some 469), .ldV 55 (some 468) 1 false, []⟩,
         ⟨(some (466, false)), (some 470), .mov (.t 66), []⟩,
         ⟨(some (466, false)), (some 471), .adrI 5 none 12 1 (.t 470), []⟩,
         ⟨(some (466, false)), (some 472), .ldV 5 (some 471) 1 false, []⟩,
         ⟨(some (466, false)), (some 473), .mov (.t 66), []⟩,
         ⟨(some (466, false)), (some 474), .adrI 6 none 12 1 (.t 473), []⟩,
         ⟨(some (466, false)), (some 475), .ldV 6 (some 474) 1 false, []⟩,
         ⟨(some (466, false)), (some 476), .bin .and (.t 472) (.t 475), []⟩,
         ⟨(some (466, false)), (some 477), .bin .neq (.t 469) (.t 476), []⟩,
         ⟨none, (some 478), .pick (.t 466) (.c (.bool true)) (.t 477), []⟩,
         ⟨none, (some 479), .mov (.t 478), []⟩,
         ⟨(some (479, false)), (some 480), .mov (.t 66), []⟩,
         ⟨(some (479, false)), (some 481), .adrI 57 none 12 1 (.t 480), []⟩,
         ⟨(some (479, false)), (some 482), .ldV 57 (some 481) 1 false, []⟩,
         ⟨(some (479, false)), (some 483), .mov (.t 66), []⟩,
         ⟨(some (479, false)), (some 484), .adrI 5 none 12 1 (.t 483), []⟩,
         ⟨(some (479, false)), (some 485), .ldV 5 (some 484) 1 false, []⟩,
         ⟨(some (479, false)), (some 486), .mov (.t 66), []⟩,
         ⟨(some (479, false)), (some 487), .adrI 6 none 12 1 (.t 486), []⟩,
         ⟨(some (479, false)), (some 488), .ldV 6 (some 487) 1 false, []⟩,
         ⟨(some (479, false)), (some 489), .bin .andNot (.t 485) (.t 488), []⟩,
         ⟨(some (479, false)), (some 490), .bin .neq (.t 482) (.t 489), []⟩,
         ⟨none, (some 491), .pick (.t 479) (.c (.bool true)) (.t 490), []⟩,
         ⟨none, (some 492), .mov (.t 491), []⟩,
         ⟨(some (492, false)), (some 493), .mov (.t 66), []⟩,
         ⟨(some (492, false)), (some 494), .adrI 59 none 12 1 (.t 493), []⟩,
         ⟨(some (492, false)), (some 495), .ldV 59 (some 494) 1 false, []⟩,
         ⟨(some (492, false)), (some 496), .mov (.t 66), []⟩,
         ⟨(some (492, false)), (some 497), .adrI 6 none 12 1 (.t 496), []⟩,
         ⟨(some (492, false)), (some 498), .ldV 6 (some 497) 1 false, []⟩,
         ⟨(some (492, false)), (some 499), .mov (.t 66), []⟩,
         ⟨(some (492, false)), (some 500), .adrI 5 none 12 1 (.t 499), []⟩,
         ⟨(some (492, false)), (some 501), .ldV 5 (some 500) 1 false, []⟩,
         ⟨(some (492, false)), (some 502), .bin .andNot (.t 498) (.t 501), []⟩,
         ⟨(some (492, false)), (some 503), .bin .neq (.t 495) (.t 502), []⟩,
         ⟨none, (some 504), .pick (.t 492) (.c (.bool true)) (.t 503), []⟩])
       (.cond (.t 504)
        (.seq
         (.reg [4] [
           ⟨none, (some 4), .mov (.c (.bool false)), []⟩])
         .ret)
        .skip))
      (.seq
       (.reg [67] [
         ⟨none, (some 67), .mov (.c (.int .i64 0)), []⟩])
       (.block 4
        (.loop b47_2)))))
    (.reg [66] [
      ⟨none, (some 453), .mov (.t 66), []⟩,
      ⟨none, (some 454), .bin .add (.t 453) (.c (.int .i64 1)), []⟩,
      ⟨none, (some 66), .mov (.t 454), []⟩])))
def k47 : Cd :=
  (.seq
   (.reg [4] [
     ⟨none, (some 4), .mov (.c (.bool false)), []⟩])
   (.seq
    (.seq
     (.reg [80] [
       ⟨none, (some 78), .mov (.t 0), []⟩,
       ⟨none, (some 79), .mov (.t 1), []⟩,
       ⟨none, (some 80), .call true 84 [.t 78, .t 79], []⟩])
     (.cond (.t 80)
      (.seq
       (.reg [4] [
         ⟨none, (some 4), .mov (.c (.bool true)), []⟩])
       .ret)
      .skip))
    (.seq
     (.reg [5] [
       ⟨none, (some 81), .mov (.t 0), []⟩,
       ⟨none, (some 82), .call true 147 [.t 81], []⟩,
       ⟨none, (some 5), .zero true (zs 12 (.int .u16 0)), []⟩,
       ⟨none, (some 5), .stV 5 none 12 (.t 82), []⟩])
     (.seq
      (.reg [6] [
        ⟨none, (some 83), .mov (.t 1), []⟩,
        ⟨none, (some 84), .call true 147 [.t 83], []⟩,
        ⟨none, (some 6), .zero true (zs 12 (.int .u16 0)), []⟩,
        ⟨none, (some 6), .stV 6 none 12 (.t 84), []⟩])
      (.seq
       (.reg [7, 8] [
         ⟨none, (some 86), .ldV 5 none 12 true, []⟩,
         ⟨none, (some 87), .call true 227 [.t 86], []⟩,
         ⟨none, (some 88), .call true 226 [.t 87], []⟩,
         ⟨none, (some 85), .mov (.t 88), []⟩,
         ⟨none, (some 89), .ext (.t 85) 0, []⟩,
         ⟨none, (some 90), .ext (.t 85) 1, []⟩,
         ⟨none, (some 7), .zero true (zs 12 (.int .u16 0)), []⟩,
         ⟨none, (some 7), .stV 7 none 12 (.t 89), []⟩,
         ⟨none, (some 8), .mov (.t 90), []⟩])
       (.seq
        (.reg [9] [
          ⟨none, (some 91), .ldV 5 none 12 true, []⟩,
          ⟨none, (some 9), .zero true (zs 12 (.int .u16 0)), []⟩,
          ⟨none, (some 9), .stV 9 none 12 (.t 91), []⟩])
        (.seq
         (.seq
          (.reg [10] [
            ⟨none, (some 10), .mov (.c (.int .i64 0)), []⟩])
          (.block 0
           (.loop b47_1)))
         (.seq
          (.reg [15, 16] [
            ⟨none, (some 120), .ldV 5 none 12 true, []⟩,
            ⟨none, (some 121), .call true 229 [.t 120], []⟩,
            ⟨none, (some 119), .mov (.t 121), []⟩,
            ⟨none, (some 122), .ext (.t 119) 0, []⟩,
            ⟨none, (some 123), .ext (.t 119) 1, []⟩,
            ⟨none, (some 15), .zero true (zs 12 (.int .u16 0)), []⟩,
            ⟨none, (some 15), .stV 15 none 12 (.t 122), []⟩,
            ⟨none, (some 16), .mov (.t 123), []⟩])
          (.seq
           (.reg [17, 18] [
             ⟨none, (some 125), .ldV 5 none 12 true, []⟩,
             ⟨none, (some 126), .call true 230 [.t 125], []⟩,
             ⟨none, (some 124), .mov (.t 126), []⟩,
             ⟨none, (some 127), .ext (.t 124) 0, []⟩,
             ⟨none, (some 128), .ext (.t 124) 1, []⟩,
             ⟨none, (some 17), .zero true (zs 12 (.int .u16 0)), []⟩,
             ⟨none, (some 17), .stV 17 none 12 (.t 127), []⟩,
             ⟨none, (some 18), .mov (.t 128), []⟩])
           (.seq
            (.reg [19, 20] [
              ⟨none, (some 130), .ldV 17 none 12 true, []⟩,
              ⟨none, (some 131), .call true 229 [.t 130], []⟩,
              ⟨none, (some 129), .mov (.t 131), []⟩,
              ⟨none, (some 132), .ext (.t 129) 0, []⟩,
              ⟨none, (some 133), .ext (.t 129) 1, []⟩,
              ⟨none, (some 19), .zero true (zs 12 (.int .u16 0)), []⟩,
              ⟨none, (some 19), .stV 19 none 12 (.t 132), []⟩,
              ⟨none, (some 20), .mov (.t 133), []⟩])
            (.seq
             (.reg [21, 22] [
               ⟨none, (some 135), .ldV 5 none 12 true, []⟩,
               ⟨none, (some 136), .call true 231 [.t 135], []⟩,
               ⟨none, (some 134), .mov (.t 136), []⟩,
               ⟨none, (some 137), .ext (.t 134) 0, []⟩,
               ⟨none, (some 138), .ext (.t 134) 1, []⟩,
               ⟨none, (some 21), .zero true (zs 12 (.int .u16 0)), []⟩,
               ⟨none, (some 21), .stV 21 none 12 (.t 137), []⟩,
               ⟨none, (some 22), .mov (.t 138), []⟩])
             (.seq
              (.reg [23, 24] [
                ⟨none, (some 140), .ldV 5 none 12 true, []⟩,
                ⟨none, (some 141), .call true 232 [.t 140], []⟩,
                ⟨none, (some 139), .mov (.t 141), []⟩,
                ⟨none, (some 142), .ext (.t 139) 0, []⟩,
                ⟨none, (some 143), .ext (.t 139) 1, []⟩,
                ⟨none, (some 23), .zero true (zs 12 (.int .u16 0)), []⟩,
                ⟨none, (some 23), .stV 23 none 12 (.t 142), []⟩,
                ⟨none, (some 24), .mov (.t 143), []⟩])
              (.seq
               (.reg [25, 26] [
                 ⟨none, (some 145), .ldV 23 none 12 true, []⟩,
                 ⟨none, (some 146), .call true 231 [.t 145], []⟩,
                 ⟨none, (some 144), .mov (.t 146), []⟩,
                 ⟨none, (some 147), .ext (.t 144) 0, []⟩,
                 ⟨none, (some 148), .ext (.t 144) 1, []⟩,
                 ⟨none, (some 25), .zero true (zs 12 (.int .u16 0)), []⟩,
                 ⟨none, (some 25), .stV 25 none 12 (.t 147), []⟩,
                 ⟨none, (some 26), .mov (.t 148), []⟩])
               (.seq
                (.reg [27, 28] [
                  ⟨none, (some 150), .ldV 5 none 12 true, []⟩,
                  ⟨none, (some 151), .call true 233 [.t 150], []⟩,
                  ⟨none, (some 149), .mov (.t 151), []⟩,
                  ⟨none, (some 152), .ext (.t 149) 0, []⟩,
                  ⟨none, (some 153), .ext (.t 149) 1, []⟩,
                  ⟨none, (some 27), .zero true (zs 12 (.int .u16 0)), []⟩,
                  ⟨none, (some 27), .stV 27 none 12 (.t 152), []⟩,
                  ⟨none, (some 28), .mov (.t 153), []⟩])
                (.seq
                 (.reg [29, 30] [
                   ⟨none, (some 155), .ldV 5 none 12 true, []⟩,
                   ⟨none, (some 156), .call true 201 [.t 155], []⟩,
                   ⟨none, (some 154), .mov (.t 156), []⟩,
                   ⟨none, (some 157), .ext (.t 154) 0, []⟩,
                   ⟨none, (some 158), .ext (.t 154) 1, []⟩,
                   ⟨none, (some 29), .zero true (zs 12 (.int .u16 0)), []⟩,
                   ⟨none, (some 29), .stV 29 none 12 (.t 157), []⟩,
                   ⟨none, (some 30), .mov (.t 158), []⟩])
                 (.seq
                  (.reg [31, 32] [
                    ⟨none, (some 160), .ldV 29 none 12 true, []⟩,
                    ⟨none, (some 161), .call true 233 [.t 160], []⟩,
                    ⟨none, (some 159), .mov (.t 161), []⟩,
                    ⟨none, (some 162), .ext (.t 159) 0, []⟩,
                    ⟨none, (some 163), .ext (.t 159) 1, []⟩,
                    ⟨none, (some 31), .zero true (zs 12 (.int .u16 0)), []⟩,
                    ⟨none, (some 31), .stV 31 none 12 (.t 162), []⟩,
                    ⟨none, (some 32), .mov (.t 163), []⟩])
                  (.seq
                   (.seq
                    (.reg [249] [
                      ⟨none, (some 164), .mov (.t 8), []⟩,
                      ⟨none, (some 165), .bin .neq (.t 164) (.c (.int .i64 0)), []⟩,
                      ⟨none, (some 166), .mov (.t 165), []⟩,
                      ⟨(some (166, false)), (some 167), .ldV 7 none 12 true, []⟩,
                      ⟨(some (166, false)), (some 168), .ldV 5 none 12 true, []⟩,
                      ⟨(some (166, false)), (some 169), .eq (.a (rb 12 (some .u16))) true (.t 167) (.t 168), []⟩,
                      ⟨none, (some 170), .pick (.t 166) (.c (.bool true)) (.t 169), []⟩,
                      ⟨none, (some 171), .mov (.t 170), []⟩,
                      ⟨(some (171, false)), (some 172), .ldV 5 none 12 true, []⟩,
                      ⟨(some (171, false)), (some 173), .call true 234 [.t 172], []⟩,
                      ⟨(some (171, false)), (some 174), .un .not (.t 173), []⟩,
                      ⟨none, (some 175), .pick (.t 171) (.c (.bool true)) (.t 174), []⟩,
                      ⟨none, (some 176), .mov (.t 175), []⟩,
                      ⟨(some (176, false)), (some 177), .ldV 9 none 12 true, []⟩,
                      ⟨(some (176, false)), (some 178), .ldV 5 none 12 true, []⟩,
                      ⟨(some (176, false)), (some 179), .eq (.a (rb 12 (some .u16))) true (.t 177) (.t 178), []⟩,
                      ⟨none, (some 180), .pick (.t 176) (.c (.bool true)) (.t 179), []⟩,
                      ⟨none, (some 181), .mov (.t 180), []⟩,
                      ⟨(some (181, false)), (some 182), .mov (.t 16), []⟩,
                      ⟨(some (181, false)), (some 183), .mov (.t 18), []⟩,
                      ⟨(some (181, false)), (some 184), .bin .neq (.t 182) (.t 183), []⟩,
                      ⟨none, (some 185), .pick (.t 181) (.c (.bool true)) (.t 184), []⟩,
                      ⟨none, (some 186), .mov (.t 185), []⟩,
                      ⟨(some (186, false)), (some 187), .mov (.t 16), []⟩,
                      ⟨(some (186, false)), (some 188), .bin .neq (.t 187) (.c (.int .i64 0)), []⟩,
                      ⟨none, (some 189), .pick (.t 186) (.c (.bool true)) (.t 188), []⟩,
                      ⟨none, (some 190), .mov (.t 189), []⟩,
                      ⟨(some (190, false)), (some 191), .ldV 15 none 12 true, []⟩,
                      ⟨(some (190, false)), (some 192), .ldV 17 none 12 true, []⟩,
                      ⟨(some (190, false)), (some 193), .eq (.a (rb 12 (some .u16))) true (.t 191) (.t 192), []⟩,
                      ⟨none, (some 194), .pick (.t 190) (.c (.bool true)) (.t 193), []⟩,
                      ⟨none, (some 195), .mov (.t 194), []⟩,
                      ⟨(some (195, false)), (some 196), .mov (.t 20), []⟩,
                      ⟨(some (195, false)), (some 197), .bin .neq (.t 196) (.c (.int .i64 0)), []⟩,
                      ⟨none, (some 198), .pick (.t 195) (.c (.bool true)) (.t 197), []⟩,
                      ⟨none, (some 199), .mov (.t 198), []⟩,
                      ⟨(some (199, false)), (some 200), .ldV 19 none 12 true, []⟩,
                      ⟨(some (199, false)), (some 201), .ldV 5 none 12 true, []⟩,
                      ⟨(some (199, false)), (some 202), .eq (.a (rb 12 (some .u16))) true (.t 200) (.t 201), []⟩,
                      ⟨none, (some 203), .pick (.t 199) (.c (.bool true)) (.t 202), []⟩,
                      ⟨none, (some 204), .mov (.t 203), []⟩,
                      ⟨(some (204, false)), (some 205), .mov (.t 22), []⟩,
                      ⟨(some (204, false)), (some 206), .mov (.t 24), []⟩,
                      ⟨(some (204, false)), (some 207), .bin .neq (.t 205) (.t 206), []⟩,
                      ⟨none, (some 208), .pick (.t 204) (.c (.bool true)) (.t 207), []⟩,
                      ⟨none, (some 209), .mov (.t 208), []⟩,
                      ⟨(some (209, false)), (some 210), .mov (.t 22), []⟩,
                      ⟨(some (209, false)), (some 211), .bin .neq (.t 210) (.c (.int .i64 0)), []⟩,
                      ⟨none, (some 212), .pick (.t 209) (.c (.bool true)) (.t 211), []⟩,
                      ⟨none, (some 213), .mov (.t 212), []⟩,
                      ⟨(some (213, false)), (some 214), .ldV 21 none 12 true, []⟩,
                      ⟨(some (213, false)), (some 215), .ldV 23 none 12 true, []⟩,
                      ⟨(some (213, false)), (some 216), .eq (.a (rb 12 (some .u16))) true (.t 214) (.t 215), []⟩,
                      ⟨none, (some 217), .pick (.t 213) (.c (.bool true)) (.t 216), []⟩,
                      ⟨none, (some 218), .mov (.t 217), []⟩,
                      ⟨(some (218, false)), (some 219), .mov (.t 26), []⟩,
                      ⟨(some (218, false)), (some 220), .bin .neq (.t 219) (.c (.int .i64 0)), []⟩,
                      ⟨none, (some 221), .pick (.t 218) (.c (.bool true)) (.t 220), []⟩,
                      ⟨none, (some 222), .mov (.t 221), []⟩,
                      ⟨(some (222, false)), (some 223), .ldV 25 none 12 true, []⟩,
                      ⟨(some (222, false)), (some 224), .ldV 5 none 12 true, []⟩,
                      ⟨(some (222, false)), (some 225), .eq (.a (rb 12 (some .u16))) true (.t 223) (.t 224), []⟩,
                      ⟨none, (some 226), .pick (.t 222) (.c (.bool true)) (.t 225), []⟩,
                      ⟨none, (some 227), .mov (.t 226), []⟩,
                      ⟨(some (227, false)), (some 228), .mov (.t 28), []⟩,
                      ⟨(some (227, false)), (some 229), .mov (.t 30), []⟩,
                      ⟨(some (227, false)), (some 230), .bin .neq (.t 228) (.t 229), []⟩,
                      ⟨none, (some 231), .pick (.t 227) (.c (.bool true)) (.t 230), []⟩,
                      ⟨none, (some 232), .mov (.t 231), []⟩,
                      ⟨(some (232, false)), (some 233), .mov (.t 28), []⟩,
                      ⟨(some (232, false)), (some 234), .bin .neq (.t 233) (.c (.int .i64 0)), []⟩,
                      ⟨none, (some 235), .pick (.t 232) (.c (.bool true)) (.t 234), []⟩,
                      ⟨none, (some 236), .mov (.t 235), []⟩,
                      ⟨(some (236, false)), (some 237), .ldV 27 none 12 true, []⟩,
                      ⟨(some (236, false)), (some 238), .ldV 29 none 12 true, []⟩,
                      ⟨(some (236, false)), (some 239), .eq (.a (rb 12 (some .u16))) true (.t 237) (.t 238), []⟩,
                      ⟨none, (some 240), .pick (.t 236) (.c (.bool true)) (.t 239), []⟩,
                      ⟨none, (some 241), .mov (.t 240), []⟩,
                      ⟨(some (241, false)), (some 242), .mov (.t 32), []⟩,
                      ⟨(some (241, false)), (some 243), .bin .neq (.t 242) (.c (.int .i64 0)), []⟩,
                      ⟨none, (some 244), .pick (.t 241) (.c (.bool true)) (.t 243), []⟩,
                      ⟨none, (some 245), .mov (.t 244), []⟩,
                      ⟨(some (245, false)), (some 246), .ldV 31 none 12 true, []⟩,
                      ⟨(some (245, false)), (some 247), .ldV 5 none 12 true, []⟩,
                      ⟨(some (245, false)), (some 248), .eq (.a (rb 12 (some .u16))) true (.t 246) (.t 247), []⟩,
                      ⟨none, (some 249), .pick (.t 245) (.c (.bool true)) (.t 248), []⟩])
                    (.cond (.t 249)
                     (.seq
                      (.reg [4] [
                        ⟨none, (some 4), .mov (.c (.bool false)), []⟩])
                      .ret)
                     .skip))
                   (.seq
                    (.reg [33] [
                      ⟨none, (some 250), .mov (.t 1), []⟩,
                      ⟨none, (some 251), .call true 124 [.t 250, .c (.int .i64 0), .c (.int .i64 25)], []⟩,
                      ⟨none, (some 252), .bin .sub (.t 251) (.c (.int .i64 12)), []⟩,
                      ⟨none, (some 33), .mov (.t 252), []⟩])
                    (.seq
                     (.reg [34] [
                       ⟨none, (some 253), .mov (.t 1), []⟩,
                       ⟨none, (some 254), .call true 124 [.t 253, .c (.int .i64 1), .c (.int .i64 25)], []⟩,
                       ⟨none, (some 255), .bin .sub (.t 254) (.c (.int .i64 12)), []⟩,
                       ⟨none, (some 34), .mov (.t 255), []⟩])
                     (.seq
                      (.reg [35, 36] [
                        ⟨none, (some 257), .ldV 5 none 12 true, []⟩,
                        ⟨none, (some 258), .mov (.t 33), []⟩,
                        ⟨none, (some 259), .mov (.t 34), []⟩,
                        ⟨none, (some 260), .call true 235 [.t 257, .t 258, .t 259], []⟩,
                        ⟨none, (some 256), .mov (.t 260), []⟩,
                        ⟨none, (some 261), .ext (.t 256) 0, []⟩,
                        ⟨none, (some 262), .ext (.t 256) 1, []⟩,
                        ⟨none, (some 35), .zero true (zs 12 (.int .u16 0)), []⟩,
                        ⟨none, (some 35), .stV 35 none 12 (.t 261), []⟩,
                        ⟨none, (some 36), .mov (.t 262), []⟩])
                      (.seq
                       (.reg [37, 38] [
                         ⟨none, (some 264), .ldV 5 none 12 true, []⟩,
                         ⟨none, (some 265), .mov (.t 33), []⟩,
                         ⟨none, (some 266), .mov (.t 34), []⟩,
                         ⟨none, (some 267), .call true 236 [.t 264, .t 265, .t 266], []⟩,
                         ⟨none, (some 263), .mov (.t 267), []⟩,
                         ⟨none, (some 268), .ext (.t 263) 0, []⟩,
                         ⟨none, (some 269), .ext (.t 263) 1, []⟩,
                         ⟨none, (some 37), .zero true (zs 12 (.int .u16 0)), []⟩,
                         ⟨none, (some 37), .stV 37 none 12 (.t 268), []⟩,
                         ⟨none, (some 38), .mov (.t 269), []⟩])
                       (.seq
                        (.reg [39, 40] [
                          ⟨none, (some 271), .ldV 37 none 12 true, []⟩,
                          ⟨none, (some 272), .mov (.t 33), []⟩,
                          ⟨none, (some 273), .un .neg (.t 272), []⟩,
                          ⟨none, (some 274), .mov (.t 34), []⟩,
                          ⟨none, (some 275), .un .neg (.t 274), []⟩,
                          ⟨none, (some 276), .call true 235 [.t 271, .t 273, .t 275], []⟩,
                          ⟨none, (some 270), .mov (.t 276), []⟩,
                          ⟨none, (some 277), .ext (.t 270) 0, []⟩,
                          ⟨none, (some 278), .ext (.t 270) 1, []⟩,
                          ⟨none, (some 39), .zero true (zs 12 (.int .u16 0)), []⟩,
                          ⟨none, (some 39), .stV 39 none 12 (.t 277), []⟩,
                          ⟨none, (some 40), .mov (.t 278), []⟩])
                        (.seq
                         (.reg [41, 42] [
                           ⟨none, (some 280), .ldV 5 none 12 true, []⟩,
                           ⟨none, (some 281), .mov (.t 33), []⟩,
                           ⟨none, (some 282), .mov (.t 34), []⟩,
                           ⟨none, (some 283), .call true 132 [.t 280, .t 281, .t 282], []⟩,
                           ⟨none, (some 279), .mov (.t 283), []⟩,
                           ⟨none, (some 284), .ext (.t 279) 0, []⟩,
                           ⟨none, (some 285), .ext (.t 279) 1, []⟩,
                           ⟨none, (some 41), .zero true (zs 12 (.int .u16 0)), []⟩,
                           ⟨none, (some 41), .stV 41 none 12 (.t 284), []⟩,
                           ⟨none, (some 42), .mov (.t 285), []⟩])
                         (.seq
                          (.reg [43, 44] [
                            ⟨none, (some 287), .ldV 5 none 12 true, []⟩,
                            ⟨none, (some 288), .mov (.t 33), []⟩,
                            ⟨none, (some 289), .mov (.t 34), []⟩,
                            ⟨none, (some 290), .call true 150 [.t 287, .t 288, .t 289], []⟩,
                            ⟨none, (some 286), .mov (.t 290), []⟩,
                            ⟨none, (some 291), .ext (.t 286) 0, []⟩,
                            ⟨none, (some 292), .ext (.t 286) 1, []⟩,
                            ⟨none, (some 43), .zero true (zs 12 (.int .u16 0)), []⟩,
                            ⟨none, (some 43), .stV 43 none 12 (.t 291), []⟩,
                            ⟨none, (some 44), .mov (.t 292), []⟩])
                          (.seq
                           (.reg [45, 46] [
                             ⟨none, (some 294), .ldV 5 none 12 true, []⟩,
                             ⟨none, (some 295), .call true 171 [.t 294], []⟩,
                             ⟨none, (some 293), .mov (.t 295), []⟩,
                             ⟨none, (some 296), .ext (.t 293) 0, []⟩,
                             ⟨none, (some 297), .ext (.t 293) 1, []⟩,
                             ⟨none, (some 45), .mov (.t 296), []⟩,
                             ⟨none, (some 46), .mov (.t 297), []⟩])
                           (.seq
                            (.reg [47, 48] [
                              ⟨none, (some 299), .ldV 37 none 12 true, []⟩,
                              ⟨none, (some 300), .call true 171 [.t 299], []⟩,
                              ⟨none, (some 298), .mov (.t 300), []⟩,
                              ⟨none, (some 301), .ext (.t 298) 0, []⟩,
                              ⟨none, (some 302), .ext (.t 298) 1, []⟩,
                              ⟨none, (some 47), .mov (.t 301), []⟩,
                              ⟨none, (some 48), .mov (.t 302), []⟩])
                            (.seq
                             (.reg [49, 50] [
                               ⟨none, (some 304), .ldV 43 none 12 true, []⟩,
                               ⟨none, (some 305), .call true 171 [.t 304], []⟩,
                               ⟨none, (some 303), .mov (.t 305), []⟩,
                               ⟨none, (some 306), .ext (.t 303) 0, []⟩,
                               ⟨none, (some 307), .ext (.t 303) 1, []⟩,
                               ⟨none, (some 49), .mov (.t 306), []⟩,
                               ⟨none, (some 50), .mov (.t 307), []⟩])
                             (.seq
                              (.reg [51, 52] [
                                ⟨none, (some 309), .ldV 43 none 12 true, []⟩,
                                ⟨none, (some 310), .ldV 37 none 12 true, []⟩,
                                ⟨none, (some 311), .call true 237 [.t 309, .t 310], []⟩,
                                ⟨none, (some 308), .mov (.t 311), []⟩,
                                ⟨none, (some 312), .ext (.t 308) 0, []⟩,
                                ⟨none, (some 313), .ext (.t 308) 1, []⟩,
                                ⟨none, (some 51), .zero true (zs 12 (.int .u16 0)), []⟩,
                                ⟨none, (some 51), .stV 51 none 12 (.t 312), []⟩,
                                ⟨none, (some 52), .mov (.t 313), []⟩])
                              (.seq
                               (.seq
                                (.reg [379] [
                                  ⟨none, (some 314), .mov (.t 36), []⟩,
                                  ⟨none, (some 315), .mov (.t 38), []⟩,
                                  ⟨none, (some 316), .bin .neq (.t 314) (.t 315), []⟩,
                                  ⟨none, (some 317), .mov (.t 316), []⟩,
                                  ⟨(some (317, false)), (some 318), .mov (.t 36), []⟩,
                                  ⟨(some (317, false)), (some 319), .bin .neq (.t 318) (.c (.int .i64 0)), []⟩,
                                  ⟨none, (some 320), .pick (.t 317) (.c (.bool true)) (.t 319), []⟩,
                                  ⟨none, (some 321), .mov (.t 320), []⟩,
                                  ⟨(some (321, false)), (some 322), .ldV 35 none 12 true, []⟩,
                                  ⟨(some (321, false)), (some 323), .ldV 37 none 12 true, []⟩,
                                  ⟨(some (321, false)), (some 324), .eq (.a (rb 12 (some .u16))) true (.t 322) (.t 323), []⟩,
                                  ⟨none, (some 325), .pick (.t 321) (.c (.bool true)) (.t 324), []⟩,
                                  ⟨none, (some 326), .mov (.t 325), []⟩,
                                  ⟨(some (326, false)), (some 327), .mov (.t 40), []⟩,
                                  ⟨(some (326, false)), (some 328), .bin .neq (.t 327) (.c (.int .i64 0)), []⟩,
                                  ⟨none, (some 329), .pick (.t 326) (.c (.bool true)) (.t 328), []⟩,
                                  ⟨none, (some 330), .mov (.t 329), []⟩,
                                  ⟨(some (330, false)), (some 331), .ldV 39 none 12 true, []⟩,
                                  ⟨(some (330, false)), (some 332), .ldV 5 none 12 true, []⟩,
                                  ⟨(some (330, false)), (some 333), .eq (.a (rb 12 (some .u16))) true (.t 331) (.t 332), []⟩,
                                  ⟨none, (some 334), .pick (.t 330) (.c (.bool true)) (.t 333), []⟩,
                                  ⟨none, (some 335), .mov (.t 334), []⟩,
                                  ⟨(some (335, false)), (some 336), .mov (.t 42), []⟩,
                                  ⟨(some (335, false)), (some 337), .mov (.t 44), []⟩,
                                  ⟨(some (335, false)), (some 338), .bin .neq (.t 336) (.t 337), []⟩,
                                  ⟨none, (some 339), .pick (.t 335) (.c (.bool true)) (.t 338), []⟩,
                                  ⟨none, (some 340), .mov (.t 339), []⟩,
                                  ⟨(some (340, false)), (some 341), .mov (.t 42), []⟩,
                                  ⟨(some (340, false)), (some 342), .bin .neq (.t 341) (.c (.int .i64 0)), []⟩,
                                  ⟨none, (some 343), .pick (.t 340) (.c (.bool true)) (.t 342), []⟩,
                                  ⟨none, (some 344), .mov (.t 343), []⟩,
                                  ⟨(some (344, false)), (some 345), .ldV 41 none 12 true, []⟩,
                                  ⟨(some (344, false)), (some 346), .ldV 43 none 12 true, []⟩,
                                  ⟨(some (344, false)), (some 347), .eq (.a (rb 12 (some .u16))) true (.t 345) (.t 346), []⟩,
                                  ⟨none, (some 348), .pick (.t 344) (.c (.bool true)) (.t 347), []⟩,
                                  ⟨none, (some 349), .mov (.t 348), []⟩,
                                  ⟨(some (349, false)), (some 350), .mov (.t 46), []⟩,
                                  ⟨(some (349, false)), (some 351), .bin .neq (.t 350) (.c (.int .i64 0)), []⟩,
                                  ⟨none, (some 352), .pick (.t 349) (.c (.bool true)) (.t 351), []⟩,
                                  ⟨none, (some 353), .mov (.t 352), []⟩,
                                  ⟨(some (353, false)), (some 354), .mov (.t 48), []⟩,
                                  ⟨(some (353, false)), (some 355), .bin .neq (.t 354) (.c (.int .i64 0)), []⟩,
                                  ⟨none, (some 356), .pick (.t 353) (.c (.bool true)) (.t 355), []⟩,
                                  ⟨none, (some 357), .mov (.t 356), []⟩,
                                  ⟨(some (357, false)), (some 358), .mov (.t 47), []⟩,
                                  ⟨(some (357, false)), (some 359), .mov (.t 45), []⟩,
                                  ⟨(some (357, false)), (some 360), .bin .neq (.t 358) (.t 359), []⟩,
                                  ⟨none, (some 361), .pick (.t 357) (.c (.bool true)) (.t 360), []⟩,
                                  ⟨none, (some 362), .mov (.t 361), []⟩,
                                  ⟨(some (362, false)), (some 363), .mov (.t 50), []⟩,
                                  ⟨(some (362, false)), (some 364), .bin .neq (.t 363) (.c (.int .i64 0)), []⟩,
                                  ⟨none, (some 365), .pick (.t 362) (.c (.bool true)) (.t 364), []⟩,
                                  ⟨none, (some 366), .mov (.t 365), []⟩,
                                  ⟨(some (366, false)), (some 367), .mov (.t 49), []⟩,
                                  ⟨(some (366, false)), (some 368), .mov (.t 45), []⟩,
                                  ⟨(some (366, false)), (some 369), .bin .gtr (.t 367) (.t 368), []⟩,
                                  ⟨none, (some 370), .pick (.t 366) (.c (.bool true)) (.t 369), []⟩,
                                  ⟨none, (some 371), .mov (.t 370), []⟩,
                                  ⟨(some (371, false)), (some 372), .mov (.t 52), []⟩,
                                  ⟨(some (371, false)), (some 373), .bin .neq (.t 372) (.c (.int .i64 0)), []⟩,
                                  ⟨none, (some 374), .pick (.t 371) (.c (.bool true)) (.t 373), []⟩,
                                  ⟨none, (some 375), .mov (.t 374), []⟩,
                                  ⟨(some (375, false)), (some 376), .ldV 51 none 12 true, []⟩,
                                  ⟨(some (375, false)), (some 377), .agg (zs 12 (.int .u16 0)) [], []⟩,
                                  ⟨(some (375, false)), (some 378), .eq (.a (rb 12 (some .u16))) true (.t 376) (.t 377), []⟩,
                                  ⟨none, (some 379), .pick (.t 375) (.c (.bool true)) (.t 378), []⟩])
                                (.cond (.t 379)
                                 (.seq
                                  (.reg [4] [
                                    ⟨none, (some 4), .mov (.c (.bool false)), []⟩])
                                  .ret)
                                 .skip))
                               (.seq
                                (.reg [53, 54] [
                                  ⟨none, (some 381), .ldV 5 none 12 true, []⟩,
                                  ⟨none, (some 382), .ldV 6 none 12 true, []⟩,
                                  ⟨none, (some 383), .call true 238 [.t 381, .t 382], []⟩,
                                  ⟨none, (some 380), .mov (.t 383), []⟩,
                                  ⟨none, (some 384), .ext (.t 380) 0, []⟩,
                                  ⟨none, (some 385), .ext (.t 380) 1, []⟩,
                                  ⟨none, (some 53), .zero true (zs 12 (.int .u16 0)), []⟩,
                                  ⟨none, (some 53), .stV 53 none 12 (.t 384), []⟩,
                                  ⟨none, (some 54), .mov (.t 385), []⟩])
                                (.seq
                                 (.reg [55, 56] [
                                   ⟨none, (some 387), .ldV 5 none 12 true, []⟩,
                                   ⟨none, (some 388), .ldV 6 none 12 true, []⟩,
                                   ⟨none, (some 389), .call true 239 [.t 387, .t 388], []⟩,
                                   ⟨none, (some 386), .mov (.t 389), []⟩,
                                   ⟨none, (some 390), .ext (.t 386) 0, []⟩,
                                   ⟨none, (some 391), .ext (.t 386) 1, []⟩,
                                   ⟨none, (some 55), .zero true (zs 12 (.int .u16 0)), []⟩,
                                   ⟨none, (some 55), .stV 55 none 12 (.t 390), []⟩,
                                   ⟨none, (some 56), .mov (.t 391), []⟩])
                                 (.seq
                                  (.reg [57, 58] [
                                    ⟨none, (some 393), .ldV 5 none 12 true, []⟩,
                                    ⟨none, (some 394), .ldV 6 none 12 true, []⟩,
                                    ⟨none, (some 395), .call true 237 [.t 393, .t 394], []⟩,
                                    ⟨none, (some 392), .mov (.t 395), []⟩,
                                    ⟨none, (some 396), .ext (.t 392) 0, []⟩,
                                    ⟨none, (some 397), .ext (.t 392) 1, []⟩,
                                    ⟨none, (some 57), .zero true (zs 12 (.int .u16 0)), []⟩,
                                    ⟨none, (some 57), .stV 57 none 12 (.t 396), []⟩,
                                    ⟨none, (some 58), .mov (.t 397), []⟩])
                                  (.seq
                                   (.reg [59, 60] [
                                     ⟨none, (some 399), .ldV 6 none 12 true, []⟩,
                                     ⟨none, (some 400), .ldV 5 none 12 true, []⟩,
                                     ⟨none, (some 401), .call true 237 [.t 399, .t 400], []⟩,
                                     ⟨none, (some 398), .mov (.t 401), []⟩,
                                     ⟨none, (some 402), .ext (.t 398) 0, []⟩,
                                     ⟨none, (some 403), .ext (.t 398) 1, []⟩,
                                     ⟨none, (some 59), .zero true (zs 12 (.int .u16 0)), []⟩,
                                     ⟨none, (some 59), .stV 59 none 12 (.t 402), []⟩,
                                     ⟨none, (some 60), .mov (.t 403), []⟩])
                                   (.seq
                                    (.reg [61, 62] [
                                      ⟨none, (some 405), .ldV 5 none 12 true, []⟩,
                                      ⟨none, (some 406), .ldV 6 none 12 true, []⟩,
                                      ⟨none, (some 407), .call true 125 [.t 405, .t 406], []⟩,
                                      ⟨none, (some 404), .mov (.t 407), []⟩,
                                      ⟨none, (some 408), .ext (.t 404) 0, []⟩,
                                      ⟨none, (some 409), .ext (.t 404) 1, []⟩,
                                      ⟨none, (some 61), .mov (.t 408), []⟩,
                                      ⟨none, (some 62), .mov (.t 409), []⟩])
                                    (.seq
                                     (.reg [63, 64] [
                                       ⟨none, (some 411), .ldV 6 none 12 true, []⟩,
                                       ⟨none, (some 412), .ldV 5 none 12 true, []⟩,
                                       ⟨none, (some 413), .call true 125 [.t 411, .t 412], []⟩,
                                       ⟨none, (some 410), .mov (.t 413), []⟩,
                                       ⟨none, (some 414), .ext (.t 410) 0, []⟩,
                                       ⟨none, (some 415), .ext (.t 410) 1, []⟩,
                                       ⟨none, (some 63), .mov (.t 414), []⟩,
                                       ⟨none, (some 64), .mov (.t 415), []⟩])
                                     (.seq
                                      (.seq
                                       (.reg [450] [
                                         ⟨none, (some 416), .mov (.t 54), []⟩,
                                         ⟨none, (some 417), .bin .neq (.t 416) (.c (.int .i64 0)), []⟩,
                                         ⟨none, (some 418), .mov (.t 417), []⟩,
                                         ⟨(some (418, false)), (some 419), .mov (.t 56), []⟩,
                                         ⟨(some (418, false)), (some 420), .bin .neq (.t 419) (.c (.int .i64 0)), []⟩,
                                         ⟨none, (some 421), .pick (.t 418) (.c (.bool true)) (.t 420), []⟩,
                                         ⟨none, (some 422), .mov (.t 421), []⟩,
                                         ⟨(some (422, false)), (some 423), .mov (.t 58), []⟩,
                                         ⟨(some (422, false)), (some 424), .bin .neq (.t 423) (.c (.int .i64 0)), []⟩,
                                         ⟨none, (some 425), .pick (.t 422) (.c (.bool true)) (.t 424), []⟩,
                                         ⟨none, (some 426), .mov (.t 425), []⟩,
                                         ⟨(some (426, false)), (some 427), .mov (.t 60), []⟩,
                                         ⟨(some (426, false)), (some 428), .bin .neq (.t 427) (.c (.int .i64 0)), []⟩,
                                         ⟨none, (some 429), .pick (.t 426) (.c (.bool true)) (.t 428), []⟩,
                                         ⟨none, (some 430), .mov (.t 429), []⟩,
                                         ⟨(some (430, false)), (some 431), .mov (.t 62), []⟩,
                                         ⟨(some (430, false)), (some 432), .bin .neq (.t 431) (.c (.int .i64 0)), []⟩,
                                         ⟨none, (some 433), .pick (.t 430) (.c (.bool true)) (.t 432), []⟩,
                                         ⟨none, (some 434), .mov (.t 433), []⟩,
                                         ⟨(some (434, false)), (some 435), .mov (.t 64), []⟩,
                                         ⟨(some (434, false)), (some 436), .bin .neq (.t 435) (.c (.int .i64 0)), []⟩,
                                         ⟨none, (some 437), .pick (.t 434) (.c (.bool true)) (.t 436), []⟩,
                                         ⟨none, (some 438), .mov (.t 437), []⟩,
                                         ⟨(some (438, false)), (some 439), .mov (.t 63), []⟩,
                                         ⟨(some (438, false)), (some 440), .mov (.t 61), []⟩,
                                         ⟨(some (438, false)), (some 441), .bin .neq (.t 439) (.t 440), []⟩,
                                         ⟨none, (some 442), .pick (.t 438) (.c (.bool true)) (.t 441), []⟩,
                                         ⟨none, (some 443), .mov (.t 442), []⟩,
                                         ⟨(some (443, false)), (some 444), .mov (.t 61), []⟩,
                                         ⟨(some (443, false)), (some 445), .bin .eql (.t 444) (.c (.int .i64 0)), []⟩,
                                         ⟨(some (443, false)), (some 446), .ldV 5 none 12 true, []⟩,
                                         ⟨(some (443, false)), (some 447), .ldV 6 none 12 true, []⟩,
                                         ⟨(some (443, false)), (some 448), .eq (.a (rb 12 (some .u16))) false (.t 446) (.t 447), []⟩,
                                         ⟨(some (443, false)), (some 449), .eq .b true (.t 445) (.t 448), []⟩,
                                         ⟨none, (some 450), .pick (.t 443) (.c (.bool true)) (.t 449), []⟩])
                                       (.cond (.t 450)
                                        (.seq
                                         (.reg [4] [
                                           ⟨none, (some 4), .mov (.c (.bool false)), []⟩])
                                         .ret)
                                        .skip))
                                      (.seq
                                       (.reg [65] [
                                         ⟨none, (some 65), .mov (.c (.int .i64 0)), []⟩])
                                       (.seq
                                        (.seq
                                         (.reg [66] [
                                           ⟨none, (some 66), .mov (.c (.int .i64 0)), []⟩])
                                         (.block 2
                                          (.loop b47_3)))
                                        (.seq
                                         (.reg [72, 73] [
                                           ⟨none, (some 547), .ldV 5 none 12 true, []⟩,
                                           ⟨none, (some 548), .call true 241 [.t 547], []⟩,
                                           ⟨none, (some 546), .mov (.t 548), []⟩,
                                           ⟨none, (some 549), .ext (.t 546) 0, []⟩,
                                           ⟨none, (some 550), .ext (.t 546) 1, []⟩,
                                           ⟨none, (some 72), .mov (.t 549), []⟩,
                                           ⟨none, (some 73), .mov (.t 550), []⟩])
                                         (.seq
                                          (.reg [74, 75] [
                                            ⟨none, (some 552), .ldV 5 none 12 true, []⟩,
                                            ⟨none, (some 553), .call true 242 [.t 552], []⟩,
                                            ⟨none, (some 551), .mov (.t 553), []⟩,
                                            ⟨none, (some 554), .ext (.t 551) 0, []⟩,
                                            ⟨none, (some 555), .ext (.t 551) 1, []⟩,
                                            ⟨none, (some 74), .mov (.t 554), []⟩,
                                            ⟨none, (some 75), .mov (.t 555), []⟩])
                                          (.seq
                                           (.reg [76, 77] [
                                             ⟨none, (some 557), .bldS 2 0 [.int .i8 0, .int .i8 0] [], []⟩,
                                             ⟨none, (some 558), .mov (.t 74), []⟩,
                                             ⟨none, (some 559), .app 2 2 (.t 557) (.t 558), []⟩,
                                             ⟨none, (some 560), .mov (.t 74), []⟩,
                                             ⟨none, (some 561), .app 2 2 (.t 559) (.t 560), []⟩,
                                             ⟨none, (some 562), .call true 243 [.t 561], []⟩,
                                             ⟨none, (some 556), .mov (.t 562), []⟩,
                                             ⟨none, (some 563), .ext (.t 556) 0, []⟩,
                                             ⟨none, (some 564), .ext (.t 556) 1, []⟩,
                                             ⟨none, (some 76), .zero true (zs 12 (.int .u16 0)), []⟩,
                                             ⟨none, (some 76), .stV 76 none 12 (.t 563), []⟩,
                                             ⟨none, (some 77), .mov (.t 564), []⟩])
                                           (.seq
                                            (.reg [4] [
                                              ⟨none, (some 565), .mov (.t 65), []⟩,
                                              ⟨none, (some 566), .mov (.t 61), []⟩,
                                              ⟨none, (some 567), .bin .eql (.t 565) (.t 566), []⟩,
                                              ⟨none, (some 568), .mov (.t 567), []⟩,
                                              ⟨(some (568, true)), (some 569), .mov (.t 73), []⟩,
                                              ⟨(some (568, true)), (some 570), .mov (.t 75), []⟩,
                                              ⟨(some (568, true)), (some 571), .bin .eql (.t 569) (.t 570), []⟩,
                                              ⟨none, (some 572), .pick (.t 568) (.t 571) (.c (.bool false)), []⟩,
                                              ⟨none, (some 573), .mov (.t 572), []⟩,
                                              ⟨(some (573, true)), (some 574), .mov (.t 73), []⟩,
                                              ⟨(some (573, true)), (some 575), .bin .eql (.t 574) (.c (.int .i64 0)), []⟩,
                                              ⟨none, (some 576), .pick (.t 573) (.t 575) (.c (.bool false)), []⟩,
                                              ⟨none, (some 577), .mov (.t 576), []⟩,
                                              ⟨(some (577, true)), (some 578), .mov (.t 72), []⟩,
                                              ⟨(some (577, true)), (some 579), .mov (.t 74), []⟩,
                                              ⟨(some (577, true)), (some 580), .call true 244 [.t 578, .t 579], []⟩,
                                              ⟨none, (some 581), .pick (.t 577) (.t 580) (.c (.bool false)), []⟩,
                                              ⟨none, (some 582), .mov (.t 581), []⟩,
                                              ⟨(some (582, true)), (some 583), .mov (.t 74), []⟩,
                                              ⟨(some (582, true)), (some 584), .len (.t 583), []⟩,
                                              ⟨(some (582, true)), (some 585), .mov (.t 45), []⟩,
                                              ⟨(some (582, true)), (some 586), .bin .eql (.t 584) (.t 585), []⟩,
                                              ⟨none, (some 587), .pick (.t 582) (.t 586) (.c (.bool false)), []⟩,
                                              ⟨none, (some 588), .mov (.t 587), []⟩,
                                              ⟨(some (588, true)), (some 589), .mov (.t 77), []⟩,
                                              ⟨(some (588, true)), (some 590), .bin .eql (.t 589) (.c (.int .i64 0)), []⟩,
                                              ⟨none, (some 591), .pick (.t 588) (.t 590) (.c (.bool false)), []⟩,
                                              ⟨none, (some 592), .mov (.t 591), []⟩,
                                              ⟨(some (592, true)), (some 593), .ldV 76 none 12 true, []⟩,
                                              ⟨(some (592, true)), (some 594), .ldV 5 none 12 true, []⟩,
                                              ⟨(some (592, true)), (some 595), .eq (.a (rb 12 (some .u16))) false (.t 593) (.t 594), []⟩,
                                              ⟨none, (some 596), .pick (.t 592) (.t 595) (.c (.bool false)), []⟩,
                                              ⟨none, (some 4), .mov (.t 596), []⟩])
                                            .ret))))))))))))))))))))))))))))))))))))))))))
def c47 : Fn := { np := 2, nt := 597, kind := .pure, res := [.t 4], body := k47 }

/- laws.a2Long -/
def k84 : Cd :=
  (.seq
   (.reg [4] [
     ⟨none, (some 4), .mov (.c (.bool false)), []⟩])
   (.seq
    (.reg [4] [
      ⟨none, (some 5), .mov (.t 0), []⟩,
      ⟨none, (some 6), .len (.t 5), []⟩,
      ⟨none, (some 7), .bin .gtr (.t 6) (.c (.int .i64 3000)), []⟩,
      ⟨none, (some 8), .mov (.t 7), []⟩,
      ⟨(some (8, false)), (some 9), .mov (.t 1), []⟩,
      ⟨(some (8, false)), (some 10), .len (.t 9), []⟩,
      ⟨(some (8, false)), (some 11), .bin .gtr (.t 10) (.c (.int .i64 3000)), []⟩,
      ⟨none, (some 12), .pick (.t 8) (.c (.bool true)) (.t 11), []⟩,
      ⟨none, (some 4), .mov (.t 12), []⟩])
    .ret))
def c84 : Fn := { np := 2, nt := 13, kind := .pure, res := [.t 4], body := k84 }

/- laws.a2At -/
def k124 : Cd :=
  (.seq
   (.reg [6] [
     ⟨none, (some 6), .mov (.c (.int .i64 0)), []⟩])
   (.seq
    (.seq
     (.reg [14] [
       ⟨none, (some 7), .mov (.t 1), []⟩,
       ⟨none, (some 8), .mov (.t 0), []⟩,
       ⟨none, (some 9), .len (.t 8), []⟩,
       ⟨none, (some 10), .bin .geq (.t 7) (.t 9), []⟩,
       ⟨none, (some 11), .mov (.t 10), []⟩,
       ⟨(some (11, false)), (some 12), .mov (.t 2), []⟩,
       ⟨(some (11, false)), (some 13), .bin .lss (.t 12) (.c (.int .i64 1)), []⟩,
       ⟨none, (some 14), .pick (.t 11) (.c (.bool true)) (.t 13), []⟩])
     (.cond (.t 14)
      (.seq
       (.reg [6] [
         ⟨none, (some 6), .mov (.c (.int .i64 0)), []⟩])
       .ret)
      .skip))
    (.seq
     (.reg [6] [
       ⟨none, (some 15), .mov (.t 0), []⟩,
       ⟨none, (some 16), .mov (.t 1), []⟩,
       ⟨none, (some 17), .idxA 1 (.t 15) (.t 16), []⟩,
       ⟨none, (some 18), .ld 1 false (.t 17), []⟩,
       ⟨none, (some 19), .conv .i64 (.t 18), []⟩,
       ⟨none, (some 20), .mov (.t 2), []⟩,
       ⟨none, (some 21), .bin .rem (.t 19) (.t 20), []⟩,
       ⟨none, (some 6), .mov (.t 21), []⟩])
     .ret)))
def c124 : Fn := { np := 3, nt := 22, kind := .pure, res := [.t 6], body := k124 }

/- impl.DifferBy -/
def k125 : Cd :=
  (.seq
   (.reg [2, 3, 4, 5] [
     ⟨none, (some 2), .mov (.t 0), []⟩,
     ⟨none, (some 3), .mov (.t 1), []⟩,
     ⟨none, (some 4), .mov (.c (.int .i64 0)), []⟩,
     ⟨none, (some 5), .mov (.c (.int .i64 0)), []⟩])
   (.seq
    (.seq
     (.reg [10] [
       ⟨none, (some 6), .ldV 2 none 12 true, []⟩,
       ⟨none, (some 7), .ldV 3 none 12 true, []⟩,
       ⟨none, (some 8), .bldS 12 2 (zs 12 (.int .u16 0)) [(0, 12, (.t 6)), (12, 12, (.t 7))], []⟩,
       ⟨none, (some 9), .call true 351 [.t 8], []⟩,
       ⟨none, (some 10), .un .not (.t 9), []⟩])
     (.cond (.t 10)
      (.seq
       (.reg [4, 5] [
         ⟨none, (some 4), .mov (.c (.int .i64 0)), []⟩,
         ⟨none, (some 5), .mov (.c (.int .i64 1)), []⟩])
       .ret)
      .skip))
    (.seq
     (.reg [4, 5] [
       ⟨none, (some 11), .ldV 2 none 12 true, []⟩,
       ⟨none, (some 12), .ldV 3 none 12 true, []⟩,
       ⟨none, (some 13), .call true 324 [.t 11, .t 12], []⟩,
       ⟨none, (some 4), .mov (.t 13), []⟩,
       ⟨none, (some 5), .mov (.c (.int .i64 0)), []⟩])
     .ret)))
def c125 : Fn := { np := 2, nt := 14, kind := .pure, res := [.t 4, .t 5], body := k125 }

/- impl.MoveFrame -/
def k132 : Cd :=
  (.seq
   (.reg [3, 6, 7] [
     ⟨none, (some 3), .mov (.t 0), []⟩,
     ⟨none, (some 6), .zero true (zs 12 (.int .u16 0)), []⟩,
     ⟨none, (some 7), .mov (.c (.int .i64 0)), []⟩])
   (.seq
    (.seq
     (.reg [8] [
       ⟨none, (some 9), .ldV 3 none 12 true, []⟩,
       ⟨none, (some 10), .mov (.t 1), []⟩,
       ⟨none, (some 11), .mov (.t 2), []⟩,
       ⟨none, (some 12), .call true 357 [.t 9, .t 10, .t 11], []⟩,
       ⟨none, (some 8), .mov (.t 12), []⟩])
     (.seq
      (.reg [14] [
        ⟨none, (some 13), .mov (.t 8), []⟩,
        ⟨none, (some 14), .bin .neq (.t 13) (.c (.int .i64 0)), []⟩])
      (.cond (.t 14)
       (.seq
        (.reg [6, 7] [
          ⟨none, (some 15), .agg (zs 12 (.int .u16 0)) [], []⟩,
          ⟨none, (some 16), .mov (.t 8), []⟩,
          ⟨none, (some 6), .stV 6 none 12 (.t 15), []⟩,
          ⟨none, (some 7), .mov (.t 16), []⟩])
        .ret)
       .skip)))
    (.seq
     (.reg [6, 7] [
       ⟨none, (some 17), .ldV 3 none 12 true, []⟩,
       ⟨none, (some 18), .mov (.t 1), []⟩,
       ⟨none, (some 19), .mov (.t 2), []⟩,
       ⟨none, (some 20), .call true 358 [.t 17, .t 18, .t 19], []⟩,
       ⟨none, (some 6), .stV 6 none 12 (.t 20), []⟩,
       ⟨none, (some 7), .mov (.c (.int .i64 0)), []⟩])
     .ret)))
def c132 : Fn := { np := 3, nt := 21, kind := .pure, res := [.v 6 12 true, .t 7], body := k132 }

/- spec.A2Frame -/
def k147 : Cd :=
  (.seq
   (.reg [2] [
     ⟨none, (some 2), .zero true (zs 12 (.int .u16 0)), []⟩])
   (.seq
    (.reg [2] [
      ⟨none, (some 3), .mov (.t 0), []⟩,
      ⟨none, (some 4), .call true 315 [.t 3], []⟩,
      ⟨none, (some 5), .call false 368 [.t 4], []⟩,
      ⟨none, (some 2), .stV 2 none 12 (.t 5), []⟩])
    .ret))
def c147 : Fn := { np := 1, nt := 6, kind := .pure, res := [.v 2 12 true], body := k147 }

/- spec.MoveFrame -/
def k150 : Cd :=
  (.seq
   (.reg [3, 6, 7] [
     ⟨none, (some 3), .box 12 (.t 0), []⟩,
     ⟨none, (some 6), .zero true (zs 12 (.int .u16 0)), []⟩,
     ⟨none, (some 7), .mov (.c (.int .i64 0)), []⟩])
   (.seq
    (.seq
     (.reg [8] [
       ⟨none, (some 9), .mov (.t 1), []⟩,
       ⟨none, (some 10), .mov (.t 2), []⟩,
       ⟨none, (some 11), .call true 373 [.t 3, .t 9, .t 10], []⟩,
       ⟨none, (some 8), .mov (.t 11), []⟩])
     (.seq
      (.reg [13] [
        ⟨none, (some 12), .mov (.t 8), []⟩,
        ⟨none, (some 13), .bin .neq (.t 12) (.c (.int .i64 0)), []⟩])
      (.cond (.t 13)
       (.seq
        (.reg [6, 7] [
          ⟨none, (some 14), .agg (zs 12 (.int .u16 0)) [], []⟩,
          ⟨none, (some 15), .mov (.t 8), []⟩,
          ⟨none, (some 6), .stV 6 none 12 (.t 14), []⟩,
          ⟨none, (some 7), .mov (.t 15), []⟩])
        .ret)
       .skip)))
    (.seq
     (.reg [6, 7] [
       ⟨none, (some 16), .mov (.t 1), []⟩,
       ⟨none, (some 17), .mov (.t 2), []⟩,
       ⟨none, (some 18), .call true 355 [.t 3, .t 16, .t 17], []⟩,
       ⟨none, (some 6), .stV 6 none 12 (.t 18), []⟩,
       ⟨none, (some 7), .mov (.c (.int .i64 0)), []⟩])
     .ret)))
def c150 : Fn := { np := 3, nt := 19, kind := .pure, res := [.v 6 12 true, .t 7], body := k150 }

/- impl.CountDots -/
def k171 : Cd :=
  (.seq
   (.reg [1, 2, 3] [
     ⟨none, (some 1), .mov (.t 0), []⟩,
     ⟨none, (some 2), .mov (.c (.int .i64 0)), []⟩,
     ⟨none, (some 3), .mov (.c (.int .i64 0)), []⟩])
   (.seq
    (.seq
     (.reg [6] [
       ⟨none, (some 4), .ldV 1 none 12 true, []⟩,
       ⟨none, (some 5), .call true 234 [.t 4], []⟩,
       ⟨none, (some 6), .un .not (.t 5), []⟩])
     (.cond (.t 6)
      (.seq
       (.reg [2, 3] [
         ⟨none, (some 2), .mov (.c (.int .i64 0)), []⟩,
         ⟨none, (some 3), .mov (.c (.int .i64 1)), []⟩])
       .ret)
      .skip))
    (.seq
     (.reg [2, 3] [
       ⟨none, (some 7), .ldV 1 none 12 true, []⟩,
       ⟨none, (some 8), .call true 393 [.t 7], []⟩,
       ⟨none, (some 2), .mov (.t 8), []⟩,
       ⟨none, (some 3), .mov (.c (.int .i64 0)), []⟩])
     .ret)))
def c171 : Fn := { np := 1, nt := 9, kind := .pure, res := [.t 2, .t 3], body := k171 }

/- impl.TurnFrame -/
def k173 : Cd :=
  (.seq
   (.reg [1, 2, 3] [
     ⟨none, (some 1), .box 12 (.t 0), []⟩,
     ⟨none, (some 2), .zero true (zs 12 (.int .u16 0)), []⟩,
     ⟨none, (some 3), .mov (.c (.int .i64 0)), []⟩])
   (.seq
    (.seq
     (.reg [6] [
       ⟨none, (some 4), .ld 12 true (.t 1), []⟩,
       ⟨none, (some 5), .call true 234 [.t 4], []⟩,
       ⟨none, (some 6), .un .not (.t 5), []⟩])
     (.cond (.t 6)
      (.seq
       (.reg [2, 3] [
         ⟨none, (some 7), .agg (zs 12 (.int .u16 0)) [], []⟩,
         ⟨none, (some 2), .stV 2 none 12 (.t 7), []⟩,
         ⟨none, (some 3), .mov (.c (.int .i64 1)), []⟩])
       .ret)
      .skip))
    (.seq
     (.reg [2, 3] [
       ⟨none, (some 8), .mkf 394 [.t 1], []⟩,
       ⟨none, (some 9), .call true 306 [.t 8], []⟩,
       ⟨none, (some 2), .stV 2 none 12 (.t 9), []⟩,
       ⟨none, (some 3), .mov (.c (.int .i64 0)), []⟩])
     .ret)))
def c173 : Fn := { np := 1, nt := 10, kind := .pure, res := [.v 2 12 true, .t 3], body := k173 }

/- spec.InvertFrame -/
def b201_1 : Cd :=
  (.seq
   (.seq
    (.reg [9] [
      ⟨none, (some 8), .mov (.t 4), []⟩,
      ⟨none, (some 9), .bin .lss (.t 8) (.c (.int .i64 12)), []⟩])
    (.cond (.t 9)
     .skip
     (.exit 0)))
   (.seq
    (.block 1
     (.reg [] [
       ⟨none, (some 12), .mov (.t 4), []⟩,
       ⟨none, (some 13), .mov (.t 4), []⟩,
       ⟨none, (some 14), .idxP 12 1 (.t 1) (.t 13), []⟩,
       ⟨none, (some 15), .ld 1 false (.t 14), []⟩,
       ⟨none, (some 16), .bin .sub (.c (.int .u16 4095)) (.t 15), []⟩,
       ⟨none, (some 17), .idxP 12 1 (.t 1) (.t 12), []⟩,
       ⟨none, none, .st 1 (.t 17) (.t 16), []⟩]))
    (.reg [4] [
      ⟨none, (some 10), .mov (.t 4), []⟩,
      ⟨none, (some 11), .bin .add (.t 10) (.c (.int .i64 1)), []⟩,
      ⟨none, (some 4), .mov (.t 11), []⟩])))
def k201 : Cd :=
  (.seq
   (.reg [1, 2, 3] [
     ⟨none, (some 1), .box 12 (.t 0), []⟩,
     ⟨none, (some 2), .zero true (zs 12 (.int .u16 0)), []⟩,
     ⟨none, (some 3), .mov (.c (.int .i64 0)), []⟩])
   (.seq
    (.seq
     (.reg [6] [
       ⟨none, (some 5), .call true 359 [.t 1], []⟩,
       ⟨none, (some 6), .un .not (.t 5), []⟩])
     (.cond (.t 6)
      (.seq
       (.reg [2, 3] [
         ⟨none, (some 7), .agg (zs 12 (.int .u16 0)) [], []⟩,
         ⟨none, (some 2), .stV 2 none 12 (.t 7), []⟩,
         ⟨none, (some 3), .mov (.c (.int .i64 1)), []⟩])
       .ret)
      .skip))
    (.seq
     (.seq
      (.reg [4] [
        ⟨none, (some 4), .mov (.c (.int .i64 0)), []⟩])
      (.block 0
       (.loop b201_1)))
     (.seq
      (.reg [2, 3] [
        ⟨none, (some 18), .ld 12 true (.t 1), []⟩,
        ⟨none, (some 2), .stV 2 none 12 (.t 18), []⟩,
        ⟨none, (some 3), .mov (.c (.int .i64 0)), []⟩])
      .ret))))
def c201 : Fn := { np := 1, nt := 19, kind := .pure, res := [.v 2 12 true, .t 3], body := k201 }

/- impl.ReadFrame -/
def k226 : Cd :=
  (.seq
   (.reg [1, 2, 3] [
     ⟨none, (some 1), .box 1 (.t 0), []⟩,
     ⟨none, (some 2), .zero true (zs 12 (.int .u16 0)), []⟩,
     ⟨none, (some 3), .mov (.c (.int .i64 0)), []⟩])
   (.seq
    (.seq
     (.reg [7] [
       ⟨none, (some 5), .ld 1 false (.t 1), []⟩,
       ⟨none, (some 6), .lens (.t 5), []⟩,
       ⟨none, (some 7), .bin .neq (.t 6) (.c (.int .i64 156)), []⟩])
     (.cond (.t 7)
      (.seq
       (.reg [2, 3] [
         ⟨none, (some 8), .agg (zs 12 (.int .u16 0)) [], []⟩,
         ⟨none, (some 2), .stV 2 none 12 (.t 8), []⟩,
         ⟨none, (some 3), .mov (.c (.int .i64 5)), []⟩])
       .ret)
      .skip))
    (.seq
     (.reg [4] [
       ⟨none, (some 9), .mkf 438 [.t 1], []⟩,
       ⟨none, (some 10), .call true 306 [.t 9], []⟩,
       ⟨none, (some 4), .zero true (zs 12 (.int .u16 0)), []⟩,
       ⟨none, (some 4), .stV 4 none 12 (.t 10), []⟩])
     (.seq
      (.seq
       (.reg [14] [
         ⟨none, (some 11), .ldV 4 none 12 true, []⟩,
         ⟨none, (some 13), .ld 1 false (.t 1), []⟩,
         ⟨none, (some 12), .call true 439 [.t 11], []⟩,
         ⟨none, (some 14), .eq .s true (.t 12) (.t 13), []⟩])
       (.cond (.t 14)
        (.seq
         (.reg [2, 3] [
           ⟨none, (some 15), .agg (zs 12 (.int .u16 0)) [], []⟩,
           ⟨none, (some 2), .stV 2 none 12 (.t 15), []⟩,
           ⟨none, (some 3), .mov (.c (.int .i64 5)), []⟩])
         .ret)
        .skip))
      (.seq
       (.reg [2, 3] [
         ⟨none, (some 16), .ldV 4 none 12 true, []⟩,
         ⟨none, (some 2), .stV 2 none 12 (.t 16), []⟩,
         ⟨none, (some 3), .mov (.c (.int .i64 0)), []⟩])
       .ret)))))
def c226 : Fn := { np := 1, nt := 17, kind := .pure, res := [.v 2 12 true, .t 3], body := k226 }

/- impl.FrameText -/
def k227 : Cd :=
  (.seq
   (.reg [1, 2] [
     ⟨none, (some 1), .mov (.t 0), []⟩,
     ⟨none, (some 2), .mov (.c (.string ⟨#[]⟩)), []⟩])
   (.seq
    (.seq
     (.reg [5] [
       ⟨none, (some 3), .ldV 1 none 12 true, []⟩,
       ⟨none, (some 4), .call true 234 [.t 3], []⟩,
       ⟨none, (some 5), .un .not (.t 4), []⟩])
     (.cond (.t 5)
      (.seq
       (.reg [2] [
         ⟨none, (some 2), .mov (.c (.string ⟨#[]⟩)), []⟩])
       .ret)
      .skip))
    (.seq
     (.reg [2] [
       ⟨none, (some 6), .ldV 1 none 12 true, []⟩,
       ⟨none, (some 7), .call true 439 [.t 6], []⟩,
       ⟨none, (some 2), .mov (.t 7), []⟩])
     .ret)))
def c227 : Fn := { np := 1, nt := 8, kind := .pure, res := [.t 2], body := k227 }

/- spec.TurnFrame -/
def b228_1 : Cd :=
  (.seq
   (.seq
    (.reg [15] [
      ⟨none, (some 12), .mov (.t 6), []⟩,
      ⟨none, (some 13), .mov (.t 5), []⟩,
      ⟨none, (some 14), .len (.t 13), []⟩,
      ⟨none, (some 15), .bin .lss (.t 12) (.t 14), []⟩])
    (.cond (.t 15)
     .skip
     (.exit 0)))
   (.seq
    (.block 1
     (.reg [] [
       ⟨none, (some 18), .mov (.t 5), []⟩,
       ⟨none, (some 19), .mov (.t 6), []⟩,
       ⟨none, (some 20), .idxA 2 (.t 18) (.t 19), []⟩,
       ⟨none, (some 21), .fldP 1 (.t 20), []⟩,
       ⟨none, (some 22), .ld 1 false (.t 21), []⟩,
       ⟨none, (some 23), .conv .i64 (.t 22), []⟩,
       ⟨none, (some 24), .bin .sub (.c (.int .i64 11)) (.t 23), []⟩,
       ⟨none, (some 25), .mov (.t 5), []⟩,
       ⟨none, (some 26), .mov (.t 6), []⟩,
       ⟨none, (some 27), .idxA 2 (.t 25) (.t 26), []⟩,
       ⟨none, (some 28), .fldP 0 (.t 27), []⟩,
       ⟨none, (some 29), .ld 1 false (.t 28), []⟩,
       ⟨none, (some 30), .conv .i64 (.t 29), []⟩,
       ⟨none, (some 31), .call false 305 [.t 4, .t 24, .t 30], []⟩]))
    (.reg [6] [
      ⟨none, (some 16), .mov (.t 6), []⟩,
      ⟨none, (some 17), .bin .add (.t 16) (.c (.int .i64 1)), []⟩,
      ⟨none, (some 6), .mov (.t 17), []⟩])))
def k228 : Cd :=
  (.seq
   (.reg [1, 2, 3] [
     ⟨none, (some 1), .box 12 (.t 0), []⟩,
     ⟨none, (some 2), .zero true (zs 12 (.int .u16 0)), []⟩,
     ⟨none, (some 3), .mov (.c (.int .i64 0)), []⟩])
   (.seq
    (.seq
     (.reg [8] [
       ⟨none, (some 7), .call true 359 [.t 1], []⟩,
       ⟨none, (some 8), .un .not (.t 7), []⟩])
     (.cond (.t 8)
      (.seq
       (.reg [2, 3] [
         ⟨none, (some 9), .agg (zs 12 (.int .u16 0)) [], []⟩,
         ⟨none, (some 2), .stV 2 none 12 (.t 9), []⟩,
         ⟨none, (some 3), .mov (.c (.int .i64 1)), []⟩])
       .ret)
      .skip))
    (.seq
     (.reg [4] [
       ⟨none, (some 10), .agg (zs 12 (.int .u16 0)) [], []⟩,
       ⟨none, (some 4), .new 1 (zs 12 (.int .u16 0)), []⟩,
       ⟨none, none, .st 12 (.t 4) (.t 10), []⟩])
     (.seq
      (.reg [5] [
        ⟨none, (some 11), .call true 440 [.t 1], []⟩,
        ⟨none, (some 5), .mov (.t 11), []⟩])
      (.seq
       (.seq
        (.reg [6] [
          ⟨none, (some 6), .mov (.c (.int .i64 0)), []⟩])
        (.block 0
         (.loop b228_1)))
       (.seq
        (.reg [2, 3] [
          ⟨none, (some 32), .ld 12 true (.t 4), []⟩,
          ⟨none, (some 2), .stV 2 none 12 (.t 32), []⟩,
          ⟨none, (some 3), .mov (.c (.int .i64 0)), []⟩])
        .ret))))))
def c228 : Fn := { np := 1, nt := 33, kind := .pure, res := [.v 2 12 true, .t 3], body := k228 }

/- impl.MirrorFrame -/
def k229 : Cd :=
  (.seq
   (.reg [1, 2, 3] [
     ⟨none, (some 1), .box 12 (.t 0), []⟩,
     ⟨none, (some 2), .zero true (zs 12 (.int .u16 0)), []⟩,
     ⟨none, (some 3), .mov (.c (.int .i64 0)), []⟩])
   (.seq
    (.seq
     (.reg [6] [
       ⟨none, (some 4), .ld 12 true (.t 1), []⟩,
       ⟨none, (some 5), .call true 234 [.t 4], []⟩,
       ⟨none, (some 6), .un .not (.t 5), []⟩])
     (.cond (.t 6)
      (.seq
       (.reg [2, 3] [
         ⟨none, (some 7), .agg (zs 12 (.int .u16 0)) [], []⟩,
         ⟨none, (some 2), .stV 2 none 12 (.t 7), []⟩,
         ⟨none, (some 3), .mov (.c (.int .i64 1)), []⟩])
       .ret)
      .skip))
    (.seq
     (.reg [2, 3] [
       ⟨none, (some 8), .mkf 441 [.t 1], []⟩,
       ⟨none, (some 9), .call true 306 [.t 8], []⟩,
       ⟨none, (some 2), .stV 2 none 12 (.t 9), []⟩,
       ⟨none, (some 3), .mov (.c (.int .i64 0)), []⟩])
     .ret)))
def c229 : Fn := { np := 1, nt := 10, kind := .pure, res := [.v 2 12 true, .t 3], body := k229 }

/- spec.MirrorFrame -/
def b230_1 : Cd :=
  (.seq
   (.seq
    (.reg [15] [
      ⟨none, (some 12), .mov (.t 6), []⟩,
      ⟨none, (some 13), .mov (.t 5), []⟩,
      ⟨none, (some 14), .len (.t 13), []⟩,
      ⟨none, (some 15), .bin .lss (.t 12) (.t 14), []⟩])
    (.cond (.t 15)
     .skip
     (.exit 0)))
   (.seq
    (.block 1
     (.reg [] [
       ⟨none, (some 18), .mov (.t 5), []⟩,
       ⟨none, (some 19), .mov (.t 6), []⟩,
       ⟨none, (some 20), .idxA 2 (.t 18) (.t 19), []⟩,
       ⟨none, (some 21), .fldP 0 (.t 20), []⟩,
       ⟨none, (some 22), .ld 1 false (.t 21), []⟩,
       ⟨none, (some 23), .conv .i64 (.t 22), []⟩,
       ⟨none, (some 24), .bin .sub (.c (.int .i64 11)) (.t 23), []⟩,
       ⟨none, (some 25), .mov (.t 5), []⟩,
       ⟨none, (some 26), .mov (.t 6), []⟩,
       ⟨none, (some 27), .idxA 2 (.t 25) (.t 26), []⟩,
       ⟨none, (some 28), .fldP 1 (.t 27), []⟩,
       ⟨none, (some 29), .ld 1 false (.t 28), []⟩,
       ⟨none, (some 30), .conv .i64 (.t 29), []⟩,
       ⟨none, (some 31), .call false 305 [.t 4, .t 24, .t 30], []⟩]))
    (.reg [6] [
      ⟨none, (some 16), .mov (.t 6), []⟩,
      ⟨none, (some 17), .bin .add (.t 16) (.c (.int .i64 1)), []⟩,
      ⟨none, (some 6), .mov (.t 17), []⟩])))
def k230 : Cd :=
  (.seq
   (.reg [1, 2, 3] [
     ⟨none, (some 1), .box 12 (.t 0), []⟩,
     ⟨none, (some 2), .zero true (zs 12 (.int .u16 0)), []⟩,
     ⟨none, (some 3), .mov (.c (.int .i64 0)), []⟩])
   (.seq
    (.seq
     (.reg [8] [
       ⟨none, (some 7), .call true 359 [.t 1], []⟩,
       ⟨none, (some 8), .un .not (.t 7), []⟩])
     (.cond (.t 8)
      (.seq
       (.reg [2, 3] [
         ⟨none, (some 9), .agg (zs 12 (.int .u16 0)) [], []⟩,
         ⟨none, (some 2), .stV 2 none 12 (.t 9), []⟩,
         ⟨none, (some 3), .mov (.c (.int .i64 1)), []⟩])
       .ret)
      .skip))
    (.seq
     (.reg [4] [
       ⟨none, (some 10), .agg (zs 12 (.int .u16 0)) [], []⟩,
       ⟨none, (some 4), .new 1 (zs 12 (.int .u16 0)), []⟩,
       ⟨none, none, .st 12 (.t 4) (.t 10), []⟩])
     (.seq
      (.reg [5] [
        ⟨none, (some 11), .call true 440 [.t 1], []⟩,
        ⟨none, (some 5), .mov (.t 11), []⟩])
      (.seq
       (.seq
        (.reg [6] [
          ⟨none, (some 6), .mov (.c (.int .i64 0)), []⟩])
        (.block 0
         (.loop b230_1)))
       (.seq
        (.reg [2, 3] [
          ⟨none, (some 32), .ld 12 true (.t 4), []⟩,
          ⟨none, (some 2), .stV 2 none 12 (.t 32), []⟩,
          ⟨none, (some 3), .mov (.c (.int .i64 0)), []⟩])
        .ret))))))
def c230 : Fn := { np := 1, nt := 33, kind := .pure, res := [.v 2 12 true, .t 3], body := k230 }

/- impl.FlipFrame -/
def k231 : Cd :=
  (.seq
   (.reg [1, 2, 3] [
     ⟨none, (some 1), .box 12 (.t 0), []⟩,
     ⟨none, (some 2), .zero true (zs 12 (.int .u16 0)), []⟩,
     ⟨none, (some 3), .mov (.c (.int .i64 0)), []⟩])
   (.seq
    (.seq
     (.reg [6] [
       ⟨none, (some 4), .ld 12 true (.t 1), []⟩,
       ⟨none, (some 5), .call true 234 [.t 4], []⟩,
       ⟨none, (some 6), .un .not (.t 5), []⟩])
     (.cond (.t 6)
      (.seq
       (.reg [2, 3] [
         ⟨none, (some 7), .agg (zs 12 (.int .u16 0)) [], []⟩,
         ⟨none, (some 2), .stV 2 none 12 (.t 7), []⟩,
         ⟨none, (some 3), .mov (.c (.int .i64 1)), []⟩])
       .ret)
      .skip))
    (.seq
     (.reg [] [
       ⟨none, (some 8), .slcP 12 1 (.t 1), []⟩,
       ⟨none, (some 9), .call false 442 [.t 8], []⟩])
     (.seq
      (.reg [2, 3] [
        ⟨none, (some 10), .ld 12 true (.t 1), []⟩,
        ⟨none, (some 2), .stV 2 none 12 (.t 10), []⟩,
        ⟨none, (some 3), .mov (.c (.int .i64 0)), []⟩])
      .ret))))
def c231 : Fn := { np := 1, nt := 11, kind := .pure, res := [.v 2 12 true, .t 3], body := k231 }

/- spec.FlipFrame -/
def b232_1 : Cd :=
  (.seq
   (.seq
    (.reg [11] [
      ⟨none, (some 10), .mov (.t 5), []⟩,
      ⟨none, (some 11), .bin .lss (.t 10) (.c (.int .i64 12)), []⟩])
    (.cond (.t 11)
     .skip
     (.exit 0)))
   (.seq
    (.block 1
     (.reg [4] [
       ⟨none, (some 14), .mov (.t 5), []⟩,
       ⟨none, (some 15), .mov (.t 5), []⟩,
       ⟨none, (some 16), .bin .sub (.c (.int .i64 11)) (.t 15), []⟩,
       ⟨none, (some 17), .idxP 12 1 (.t 1) (.t 16), []⟩,
       ⟨none, (some 18), .ld 1 false (.t 17), []⟩,
       ⟨none, (some 19), .adrI 4 none 12 1 (.t 14), []⟩,
       ⟨none, (some 4), .stV 4 (some 19) 1 (.t 18), []⟩]))
    (.reg [5] [
      ⟨none, (some 12), .mov (.t 5), []⟩,
      ⟨none, (some 13), .bin .add (.t 12) (.c (.int .i64 1)), []⟩,
      ⟨none, (some 5), .mov (.t 13), []⟩])))
def k232 : Cd :=
  (.seq
   (.reg [1, 2, 3] [
     ⟨none, (some 1), .box 12 (.t 0), []⟩,
     ⟨none, (some 2), .zero true (zs 12 (.int .u16 0)), []⟩,
     ⟨none, (some 3), .mov (.c (.int .i64 0)), []⟩])
   (.seq
    (.seq
     (.reg [7] [
       ⟨none, (some 6), .call true 359 [.t 1], []⟩,
       ⟨none, (some 7), .un .not (.t 6), []⟩])
     (.cond (.t 7)
      (.seq
       (.reg [2, 3] [
         ⟨none, (some 8), .agg (zs 12 (.int .u16 0)) [], []⟩,
         ⟨none, (some 2), .stV 2 none 12 (.t 8), []⟩,
         ⟨none, (some 3), .mov (.c (.int .i64 1)), []⟩])
       .ret)
      .skip))
    (.seq
     (.reg [4] [
       ⟨none, (some 9), .agg (zs 12 (.int .u16 0)) [], []⟩,
       ⟨none, (some 4), .zero true (zs 12 (.int .u16 0)), []⟩,
       ⟨none, (some 4), .stV 4 none 12 (.t 9), []⟩])
     (.seq
      (.seq
       (.reg [5] [
         ⟨none, (some 5), .mov (.c (.int .i64 0)), []⟩])
       (.block 0
        (.loop b232_1)))
      (.seq
       (.reg [2, 3] [
         ⟨none, (some 20), .ldV 4 none 12 true, []⟩,
         ⟨none, (some 2), .stV 2 none 12 (.t 20), []⟩,
         ⟨none, (some 3), .mov (.c (.int .i64 0)), []⟩])
       .ret)))))
def c232 : Fn := { np := 1, nt := 21, kind := .pure, res := [.v 2 12 true, .t 3], body := k232 }

/- impl.InvertFrame -/
def k233 : Cd :=
  (.seq
   (.reg [1, 2, 3] [
     ⟨none, (some 1), .mov (.t 0), []⟩,
     ⟨none, (some 2), .zero true (zs 12 (.int .u16 0)), []⟩,
     ⟨none, (some 3), .mov (.c (.int .i64 0)), []⟩])
   (.seq
    (.seq
     (.reg [6] [
       ⟨none, (some 4), .ldV 1 none 12 true, []⟩,
       ⟨none, (some 5), .call true 234 [.t 4], []⟩,
       ⟨none, (some 6), .un .not (.t 5), []⟩])
     (.cond (.t 6)
      (.seq
       (.reg [2, 3] [
         ⟨none, (some 7), .agg (zs 12 (.int .u16 0)) [], []⟩,
         ⟨none, (some 2), .stV 2 none 12 (.t 7), []⟩,
         ⟨none, (some 3), .mov (.c (.int .i64 1)), []⟩])
       .ret)
      .skip))
    (.seq
     (.reg [2, 3] [
       ⟨none, (some 8), .ldV 1 none 12 true, []⟩,
       ⟨none, (some 9), .ldV 1 none 12 true, []⟩,
       ⟨none, (some 10), .call true 443 [.t 8, .t 9, .f 444], []⟩,
       ⟨none, (some 2), .stV 2 none 12 (.t 10), []⟩,
       ⟨none, (some 3), .mov (.c (.int .i64 0)), []⟩])
     .ret)))
def c233 : Fn := { np := 1, nt := 11, kind := .pure, res := [.v 2 12 true, .t 3], body := k233 }

/- impl.ValidFrame -/
def k234 : Cd :=
  (.seq
   (.reg [1, 2] [
     ⟨none, (some 1), .box 12 (.t 0), []⟩,
     ⟨none, (some 2), .mov (.c (.bool false)), []⟩])
   (.seq
    (.reg [2] [
      ⟨none, (some 3), .slcP 12 1 (.t 1), []⟩,
      ⟨none, (some 4), .call true 445 [.t 3, .f 446], []⟩,
      ⟨none, (some 5), .un .not (.t 4), []⟩,
      ⟨none, (some 2), .mov (.t 5), []⟩])
    .ret))
def c234 : Fn := { np := 1, nt := 6, kind := .pure, res := [.t 2], body := k234 }

/- impl.RollFrame -/
def k235 : Cd :=
  (.seq
   (.reg [3, 4, 5, 6, 7] [
     ⟨none, (some 3), .box 12 (.t 0), []⟩,
     ⟨none, (some 4), .box 1 (.t 1), []⟩,
     ⟨none, (some 5), .box 1 (.t 2), []⟩,
     ⟨none, (some 6), .zero true (zs 12 (.int .u16 0)), []⟩,
     ⟨none, (some 7), .mov (.c (.int .i64 0)), []⟩])
   (.seq
    (.seq
     (.reg [8] [
       ⟨none, (some 9), .ld 12 true (.t 3), []⟩,
       ⟨none, (some 10), .ld 1 false (.t 4), []⟩,
       ⟨none, (some 11), .ld 1 false (.t 5), []⟩,
       ⟨none, (some 12), .call true 357 [.t 9, .t 10, .t 11], []⟩,
       ⟨none, (some 8), .mov (.t 12), []⟩])
     (.seq
      (.reg [14] [
        ⟨none, (some 13), .mov (.t 8), []⟩,
        ⟨none, (some 14), .bin .neq (.t 13) (.c (.int .i64 0)), []⟩])
      (.cond (.t 14)
       (.seq
        (.reg [6, 7] [
          ⟨none, (some 15), .agg (zs 12 (.int .u16 0)) [], []⟩,
          ⟨none, (some 16), .mov (.t 8), []⟩,
          ⟨none, (some 6), .stV 6 none 12 (.t 15), []⟩,
          ⟨none, (some 7), .mov (.t 16), []⟩])
        .ret)
       .skip)))
    (.seq
     (.reg [6, 7] [
       ⟨none, (some 17), .mkf 447 [.t 3, .t 4, .t 5], []⟩,
       ⟨none, (some 18), .call true 306 [.t 17], []⟩,
       ⟨none, (some 6), .stV 6 none 12 (.t 18), []⟩,
       ⟨none, (some 7), .mov (.c (.int .i64 0)), []⟩])
     .ret)))
def c235 : Fn := { np := 3, nt := 19, kind := .pure, res := [.v 6 12 true, .t 7], body := k235 }

/- spec.RollFrame -/
def b236_1 : Cd :=
  (.seq
   (.seq
    (.reg [26] [
      ⟨none, (some 23), .mov (.t 11), []⟩,
      ⟨none, (some 24), .mov (.t 10), []⟩,
      ⟨none, (some 25), .len (.t 24), []⟩,
      ⟨none, (some 26), .bin .lss (.t 23) (.t 25), []⟩])
    (.cond (.t 26)
     .skip
     (.exit 0)))
   (.seq
    (.block 1
     (.seq
      (.reg [12] [
        ⟨none, (some 29), .mov (.t 10), []⟩,
        ⟨none, (some 30), .mov (.t 11), []⟩,
        ⟨none, (some 31), .idxA 2 (.t 29) (.t 30), []⟩,
        ⟨none, (some 32), .fldP 0 (.t 31), []⟩,
        ⟨none, (some 33), .ld 1 false (.t 32), []⟩,
        ⟨none, (some 34), .conv .i64 (.t 33), []⟩,
        ⟨none, (some 35), .mov (.t 1), []⟩,
        ⟨none, (some 36), .bin .add (.t 34) (.t 35), []⟩,
        ⟨none, (some 37), .bin .add (.t 36) (.c (.int .i64 12)), []⟩,
        ⟨none, (some 38), .bin .rem (.t 37) (.c (.int .i64 12)), []⟩,
        ⟨none, (some 12), .mov (.t 38), []⟩])
      (.seq
       (.reg [13] [
         ⟨none, (some 39), .mov (.t 10), []⟩,
         ⟨none, (some 40), .mov (.t 11), []⟩,
         ⟨none, (some 41), .idxA 2 (.t 39) (.t 40), []⟩,
         ⟨none, (some 42), .fldP 1 (.t 41), []⟩,
         ⟨none, (some 43), .ld 1 false (.t 42), []⟩,
         ⟨none, (some 44), .conv .i64 (.t 43), []⟩,
         ⟨none, (some 45), .mov (.t 2), []⟩,
         ⟨none, (some 46), .bin .add (.t 44) (.t 45), []⟩,
         ⟨none, (some 47), .bin .add (.t 46) (.c (.int .i64 12)), []⟩,
         ⟨none, (some 48), .bin .rem (.t 47) (.c (.int .i64 12)), []⟩,
         ⟨none, (some 13), .mov (.t 48), []⟩])
       (.reg [] [
         ⟨none, (some 49), .mov (.t 12), []⟩,
         ⟨none, (some 50), .mov (.t 13), []⟩,
         ⟨none, (some 51), .call false 305 [.t 9, .t 49, .t 50], []⟩]))))
    (.reg [11] [
      ⟨none, (some 27), .mov (.t 11), []⟩,
      ⟨none, (some 28), .bin .add (.t 27) (.c (.int .i64 1)), []⟩,
      ⟨none, (some 11), .mov (.t 28), []⟩])))
def k236 : Cd :=
  (.seq
   (.reg [3, 6, 7] [
     ⟨none, (some 3), .box 12 (.t 0), []⟩,
     ⟨none, (some 6), .zero true (zs 12 (.int .u16 0)), []⟩,
     ⟨none, (some 7), .mov (.c (.int .i64 0)), []⟩])
   (.seq
    (.seq
     (.reg [8] [
       ⟨none, (some 14), .mov (.t 1), []⟩,
       ⟨none, (some 15), .mov (.t 2), []⟩,
       ⟨none, (some 16), .call true 373 [.t 3, .t 14, .t 15], []⟩,
       ⟨none, (some 8), .mov (.t 16), []⟩])
     (.seq
      (.reg [18] [
        ⟨none, (some 17), .mov (.t 8), []⟩,
        ⟨none, (some 18), .bin .neq (.t 17) (.c (.int .i64 0)), []⟩])
      (.cond (.t 18)
       (.seq
        (.reg [6, 7] [
          ⟨none, (some 19), .agg (zs 12 (.int .u16 0)) [], []⟩,
          ⟨none, (some 20), .mov (.t 8), []⟩,
          ⟨none, (some 6), .stV 6 none 12 (.t 19), []⟩,
          ⟨none, (some 7), .mov (.t 20), []⟩])
        .ret)
       .skip)))
    (.seq
     (.reg [9] [
       ⟨none, (some 21), .agg (zs 12 (.int .u16 0)) [], []⟩,
       ⟨none, (some 9), .new 1 (zs 12 (.int .u16 0)), []⟩,
       ⟨none, none, .st 12 (.t 9) (.t 21), []⟩])
     (.seq
      (.reg [10] [
        ⟨none, (some 22), .call true 440 [.t 3], []⟩,
        ⟨none, (some 10), .mov (.t 22), []⟩])
      (.seq
       (.seq
        (.reg [11] [
          ⟨none, (some 11), .mov (.c (.int .i64 0)), []⟩])
        (.block 0
         (.loop b236_1)))
       (.seq
        (.reg [6, 7] [
          ⟨none, (some 52), .ld 12 true (.t 9), []⟩,
          ⟨none, (some 6), .stV 6 none 12 (.t 52), []⟩,
          ⟨none, (some 7), .mov (.c (.int .i64 0)), []⟩])
        .ret))))))
def c236 : Fn := { np := 3, nt := 53, kind := .pure, res := [.v 6 12 true, .t 7], body := k236 }

/- impl.LessFrame -/
def k237 : Cd :=
  (.seq
   (.reg [2, 3, 4, 5] [
     ⟨none, (some 2), .mov (.t 0), []⟩,
     ⟨none, (some 3), .mov (.t 1), []⟩,
     ⟨none, (some 4), .zero true (zs 12 (.int .u16 0)), []⟩,
     ⟨none, (some 5), .mov (.c (.int .i64 0)), []⟩])
   (.seq
    (.seq
     (.reg [10] [
       ⟨none, (some 6), .ldV 2 none 12 true, []⟩,
       ⟨none, (some 7), .ldV 3 none 12 true, []⟩,
       ⟨none, (some 8), .bldS 12 2 (zs 12 (.int .u16 0)) [(0, 12, (.t 6)), (12, 12, (.t 7))], []⟩,
       ⟨none, (some 9), .call true 351 [.t 8], []⟩,
       ⟨none, (some 10), .un .not (.t 9), []⟩])
     (.cond (.t 10)
      (.seq
       (.reg [4, 5] [
         ⟨none, (some 11), .agg (zs 12 (.int .u16 0)) [], []⟩,
         ⟨none, (some 4), .stV 4 none 12 (.t 11), []⟩,
         ⟨none, (some 5), .mov (.c (.int .i64 1)), []⟩])
       .ret)
      .skip))
    (.seq
     (.reg [4, 5] [
       ⟨none, (some 12), .ldV 2 none 12 true, []⟩,
       ⟨none, (some 13), .ldV 3 none 12 true, []⟩,
       ⟨none, (some 14), .call true 350 [.t 12, .t 13], []⟩,
       ⟨none, (some 4), .stV 4 none 12 (.t 14), []⟩,
       ⟨none, (some 5), .mov (.c (.int .i64 0)), []⟩])
     .ret)))
def c237 : Fn := { np := 2, nt := 15, kind := .pure, res := [.v 4 12 true, .t 5], body := k237 }

/- impl.JoinFrames -/
def k238 : Cd :=
  (.seq
   (.reg [2, 3, 4, 5] [
     ⟨none, (some 2), .mov (.t 0), []⟩,
     ⟨none, (some 3), .mov (.t 1), []⟩,
     ⟨none, (some 4), .zero true (zs 12 (.int .u16 0)), []⟩,
     ⟨none, (some 5), .mov (.c (.int .i64 0)), []⟩])
   (.seq
    (.seq
     (.reg [10] [
       ⟨none, (some 6), .ldV 2 none 12 true, []⟩,
       ⟨none, (some 7), .ldV 3 none 12 true, []⟩,
       ⟨none, (some 8), .bldS 12 2 (zs 12 (.int .u16 0)) [(0, 12, (.t 6)), (12, 12, (.t 7))], []⟩,
       ⟨none, (some 9), .call true 351 [.t 8], []⟩,
       ⟨none, (some 10), .un .not (.t 9), []⟩])
     (.cond (.t 10)
      (.seq
       (.reg [4, 5] [
         ⟨none, (some 11), .agg (zs 12 (.int .u16 0)) [], []⟩,
         ⟨none, (some 4), .stV 4 none 12 (.t 11), []⟩,
         ⟨none, (some 5), .mov (.c (.int .i64 1)), []⟩])
       .ret)
      .skip))
    (.seq
     (.reg [4, 5] [
       ⟨none, (some 12), .ldV 2 none 12 true, []⟩,
       ⟨none, (some 13), .ldV 3 none 12 true, []⟩,
       ⟨none, (some 14), .call true 338 [.t 12, .t 13], []⟩,
       ⟨none, (some 4), .stV 4 none 12 (.t 14), []⟩,
       ⟨none, (some 5), .mov (.c (.int .i64 0)), []⟩])
     .ret)))
def c238 : Fn := { np := 2, nt := 15, kind := .pure, res := [.v 4 12 true, .t 5], body := k238 }

/- impl.MeetFrames -/
def k239 : Cd :=
  (.seq
   (.reg [2, 3, 4, 5] [
     ⟨none, (some 2), .mov (.t 0), []⟩,
     ⟨none, (some 3), .mov (.t 1), []⟩,
     ⟨none, (some 4), .zero true (zs 12 (.int .u16 0)), []⟩,
     ⟨none, (some 5), .mov (.c (.int .i64 0)), []⟩])
   (.seq
    (.seq
     (.reg [10] [
       ⟨none, (some 6), .ldV 2 none 12 true, []⟩,
       ⟨none, (some 7), .ldV 3 none 12 true, []⟩,
       ⟨none, (some 8), .bldS 12 2 (zs 12 (.int .u16 0)) [(0, 12, (.t 6)), (12, 12, (.t 7))], []⟩,
       ⟨none, (some 9), .call true 351 [.t 8], []⟩,
       ⟨none, (some 10), .un .not (.t 9), []⟩])
     (.cond (.t 10)
      (.seq
       (.reg [4, 5] [
         ⟨none, (some 11), .agg (zs 12 (.int .u16 0)) [], []⟩,
         ⟨none, (some 4), .stV 4 none 12 (.t 11), []⟩,
         ⟨none, (some 5), .mov (.c (.int .i64 1)), []⟩])
       .ret)
      .skip))
    (.seq
     (.reg [4, 5] [
       ⟨none, (some 12), .ldV 2 none 12 true, []⟩,
       ⟨none, (some 13), .ldV 3 none 12 true, []⟩,
       ⟨none, (some 14), .call true 348 [.t 12, .t 13], []⟩,
       ⟨none, (some 4), .stV 4 none 12 (.t 14), []⟩,
       ⟨none, (some 5), .mov (.c (.int .i64 0)), []⟩])
     .ret)))
def c239 : Fn := { np := 2, nt := 15, kind := .pure, res := [.v 4 12 true, .t 5], body := k239 }

/- impl.HasDot -/
def k240 : Cd :=
  (.seq
   (.reg [3, 6, 7] [
     ⟨none, (some 3), .mov (.t 0), []⟩,
     ⟨none, (some 6), .mov (.c (.bool false)), []⟩,
     ⟨none, (some 7), .mov (.c (.int .i64 0)), []⟩])
   (.seq
    (.seq
     (.reg [8] [
       ⟨none, (some 9), .ldV 3 none 12 true, []⟩,
       ⟨none, (some 10), .mov (.t 1), []⟩,
       ⟨none, (some 11), .mov (.t 2), []⟩,
       ⟨none, (some 12), .call true 448 [.t 9, .t 10, .t 11], []⟩,
       ⟨none, (some 8), .mov (.t 12), []⟩])
     (.seq
      (.reg [14] [
        ⟨none, (some 13), .mov (.t 8), []⟩,
        ⟨none, (some 14), .bin .neq (.t 13) (.c (.int .i64 0)), []⟩])
      (.cond (.t 14)
       (.seq
        (.reg [6, 7] [
          ⟨none, (some 15), .mov (.t 8), []⟩,
          ⟨none, (some 6), .mov (.c (.bool false)), []⟩,
          ⟨none, (some 7), .mov (.t 15), []⟩])
        .ret)
       .skip)))
    (.seq
     (.reg [6, 7] [
       ⟨none, (some 16), .ldV 3 none 12 true, []⟩,
       ⟨none, (some 17), .mov (.t 1), []⟩,
       ⟨none, (some 18), .mov (.t 2), []⟩,
       ⟨none, (some 19), .call true 395 [.t 16, .t 17, .t 18], []⟩,
       ⟨none, (some 6), .mov (.t 19), []⟩,
       ⟨none, (some 7), .mov (.c (.int .i64 0)), []⟩])
     .ret)))
def c240 : Fn := { np := 3, nt := 20, kind := .pure, res := [.t 6, .t 7], body := k240 }

/- impl.DotsOf -/
def k241 : Cd :=
  (.seq
   (.reg [1, 2, 3] [
     ⟨none, (some 1), .mov (.t 0), []⟩,
     ⟨none, (some 2), .mov (.c (.slice none 0 0)), []⟩,
     ⟨none, (some 3), .mov (.c (.int .i64 0)), []⟩])
   (.seq
    (.seq
     (.reg [6] [
       ⟨none, (some 4), .ldV 1 none 12 true, []⟩,
       ⟨none, (some 5), .call true 234 [.t 4], []⟩,
       ⟨none, (some 6), .un .not (.t 5), []⟩])
     (.cond (.t 6)
      (.seq
       (.reg [2, 3] [
         ⟨none, (some 2), .mov (.c (.slice none 0 0)), []⟩,
         ⟨none, (some 3), .mov (.c (.int .i64 1)), []⟩])
       .ret)
      .skip))
    (.seq
     (.reg [2, 3] [
       ⟨none, (some 7), .ldV 1 none 12 true, []⟩,
       ⟨none, (some 8), .call true 449 [.t 7], []⟩,
       ⟨none, (some 2), .mov (.t 8), []⟩,
       ⟨none, (some 3), .mov (.c (.int .i64 0)), []⟩])
     .ret)))
def c241 : Fn := { np := 1, nt := 9, kind := .pure, res := [.t 2, .t 3], body := k241 }

/- spec.DotsOf -/
def k242 : Cd :=
  (.seq
   (.reg [1, 2, 3] [
     ⟨none, (some 1), .box 12 (.t 0), []⟩,
     ⟨none, (some 2), .mov (.c (.slice none 0 0)), []⟩,
     ⟨none, (some 3), .mov (.c (.int .i64 0)), []⟩])
   (.seq
    (.seq
     (.reg [5] [
       ⟨none, (some 4), .call true 359 [.t 1], []⟩,
       ⟨none, (some 5), .un .not (.t 4), []⟩])
     (.cond (.t 5)
      (.seq
       (.reg [2, 3] [
         ⟨none, (some 6), .bldS 2 0 [.int .i8 0, .int .i8 0] [], []⟩,
         ⟨none, (some 2), .mov (.t 6), []⟩,
         ⟨none, (some 3), .mov (.c (.int .i64 1)), []⟩])
       .ret)
      .skip))
    (.seq
     (.reg [2, 3] [
       ⟨none, (some 7), .call true 440 [.t 1], []⟩,
       ⟨none, (some 2), .mov (.t 7), []⟩,
       ⟨none, (some 3), .mov (.c (.int .i64 0)), []⟩])
     .ret)))
def c242 : Fn := { np := 1, nt := 8, kind := .pure, res := [.t 2, .t 3], body := k242 }

/- impl.FrameFrom -/
def b243_1 : Cd :=
  (.seq
   (.reg [11] [
     ⟨none, (some 11), .bin .lss (.t 10) (.t 9), []⟩])
   (.seq
    (.cond (.t 11)
     .skip
     (.exit 0))
    (.seq
     (.block 1
      (.seq
       (.reg [6] [
         ⟨none, (some 12), .idxA 2 (.t 8) (.t 10), []⟩,
         ⟨none, (some 13), .ld 2 true (.t 12), []⟩,
         ⟨none, (some 6), .zero true [.int .i8 0, .int .i8 0], []⟩,
         ⟨none, (some 6), .stV 6 none 2 (.t 13), []⟩])
       (.seq
        (.seq
         (.reg [21] [
           ⟨none, (some 14), .adrF 6 none 0, []⟩,
           ⟨none, (some 15), .ldV 6 (some 14) 1 false, []⟩,
           ⟨none, (some 16), .conv .i64 (.t 15), []⟩,
           ⟨none, (some 17), .adrF 6 none 1, []⟩,
           ⟨none, (some 18), .ldV 6 (some 17) 1 false, []⟩,
           ⟨none, (some 19), .conv .i64 (.t 18), []⟩,
           ⟨none, (some 20), .call true 345 [.t 16, .t 19], []⟩,
           ⟨none, (some 21), .un .not (.t 20), []⟩])
         (.cond (.t 21)
          (.seq
           (.reg [2, 3] [
             ⟨none, (some 22), .agg (zs 12 (.int .u16 0)) [], []⟩,
             ⟨none, (some 2), .stV 2 none 12 (.t 22), []⟩,
             ⟨none, (some 3), .mov (.c (.int .i64 2)), []⟩])
           .ret)
          .skip))
        (.reg [4] [
          ⟨none, (some 23), .ldV 4 none 12 true, []⟩,
          ⟨none, (some 24), .adrF 6 none 0, []⟩,
          ⟨none, (some 25), .ldV 6 (some 24) 1 false, []⟩,
          ⟨none, (some 26), .conv .i64 (.t 25), []⟩,
          ⟨none, (some 27), .adrF 6 none 1, []⟩,
          ⟨none, (some 28), .ldV 6 (some 27) 1 false, []⟩,
          ⟨none, (some 29), .conv .i64 (.t 28), []⟩,
          ⟨none, (some 30), .call true 346 [.t 23, .t 26, .t 29], []⟩,
          ⟨none, (some 4), .stV 4 none 12 (.t 30), []⟩]))))
     (.reg [10] [
       ⟨none, (some 31), .bin .add (.t 10) (.c (.int .i64 1)), []⟩,
       ⟨none, (some 10), .mov (.t 31), []⟩]))))
def k243 : Cd :=
  (.seq
   (.reg [2, 3] [
     ⟨none, (some 2), .zero true (zs 12 (.int .u16 0)), []⟩,
     ⟨none, (some 3), .mov (.c (.int .i64 0)), []⟩])
   (.seq
    (.reg [4] [
      ⟨none, (some 7), .agg (zs 12 (.int .u16 0)) [], []⟩,
      ⟨none, (some 4), .zero true (zs 12 (.int .u16 0)), []⟩,
      ⟨none, (some 4), .stV 4 none 12 (.t 7), []⟩])
    (.seq
     (.seq
      (.reg [8, 9, 10] [
        ⟨none, (some 8), .mov (.t 0), []⟩,
        ⟨none, (some 9), .len (.t 8), []⟩,
        ⟨none, (some 10), .mov (.c (.int .i64 0)), []⟩])
      (.block 0
       (.loop b243_1)))
     (.seq
      (.reg [2, 3] [
        ⟨none, (some 32), .ldV 4 none 12 true, []⟩,
        ⟨none, (some 2), .stV 2 none 12 (.t 32), []⟩,
        ⟨none, (some 3), .mov (.c (.int .i64 0)), []⟩])
      .ret))))
def c243 : Fn := { np := 1, nt := 33, kind := .pure, res := [.v 2 12 true, .t 3], body := k243 }

/- spec.A2SameDots -/
def b244_1 : Cd :=
  (.seq
   (.seq
    (.reg [14] [
      ⟨none, (some 11), .mov (.t 5), []⟩,
      ⟨none, (some 12), .mov (.t 0), []⟩,
      ⟨none, (some 13), .len (.t 12), []⟩,
      ⟨none, (some 14), .bin .lss (.t 11) (.t 13), []⟩])
    (.cond (.t 14)
     .skip
     (.exit 0)))
   (.seq
    (.block 1
     (.seq
      (.reg [25] [
        ⟨none, (some 17), .mov (.t 0), []⟩,
        ⟨none, (some 18), .mov (.t 5), []⟩,
        ⟨none, (some 19), .idxA 2 (.t 17) (.t 18), []⟩,
        ⟨none, (some 20), .ld 2 true (.t 19), []⟩,
        ⟨none, (some 21), .mov (.t 1), []⟩,
        ⟨none, (some 22), .mov (.t 5), []⟩,
        ⟨none, (some 23), .idxA 2 (.t 21) (.t 22), []⟩,
        ⟨none, (some 24), .ld 2 true (.t 23), []⟩,
        ⟨none, (some 25), .eq (.a (rb 2 (some .i8))) true (.t 20) (.t 24), []⟩])
      (.cond (.t 25)
       (.seq
        (.reg [4] [
          ⟨none, (some 4), .mov (.c (.bool false)), []⟩])
        .ret)
       .skip)))
    (.reg [5] [
      ⟨none, (some 15), .mov (.t 5), []⟩,
      ⟨none, (some 16), .bin .add (.t 15) (.c (.int .i64 1)), []⟩,
      ⟨none, (some 5), .mov (.t 16), []⟩])))
def k244 : Cd :=
  (.seq
   (.reg [4] [
     ⟨none, (some 4), .mov (.c (.bool false)), []⟩])
   (.seq
    (.seq
     (.reg [10] [
       ⟨none, (some 6), .mov (.t 0), []⟩,
       ⟨none, (some 7), .len (.t 6), []⟩,
       ⟨none, (some 8), .mov (.t 1), []⟩,
       ⟨none, (some 9), .len (.t 8), []⟩,
       ⟨none, (some 10), .bin .neq (.t 7) (.t 9), []⟩])
     (.cond (.t 10)
      (.seq
       (.reg [4] [
         ⟨none, (some 4), .mov (.c (.bool false)), []⟩])
       .ret)
      .skip))
    (.seq
     (.seq
      (.reg [5] [
        ⟨none, (some 5), .mov (.c (.int .i64 0)), []⟩])
      (.block 0
       (.loop b244_1)))
     (.seq
      (.reg [4] [
        ⟨none, (some 4), .mov (.c (.bool true)), []⟩])
      .ret))))
def c244 : Fn := { np := 2, nt := 26, kind := .pure, res := [.t 4], body := k244 }

/- impl.inRange -/
def k295 : Cd :=
  (.seq
   (.reg [6] [
     ⟨none, (some 6), .mov (.c (.bool false)), []⟩])
   (.seq
    (.reg [6] [
      ⟨none, (some 7), .mov (.t 1), []⟩,
      ⟨none, (some 8), .mov (.t 0), []⟩,
      ⟨none, (some 9), .bin .leq (.t 7) (.t 8), []⟩,
      ⟨none, (some 10), .mov (.t 9), []⟩,
      ⟨(some (10, true)), (some 11), .mov (.t 0), []⟩,
      ⟨(some (10, true)), (some 12), .mov (.t 2), []⟩,
      ⟨(some (10, true)), (some 13), .bin .leq (.t 11) (.t 12), []⟩,
      ⟨none, (some 14), .pick (.t 10) (.t 13) (.c (.bool false)), []⟩,
      ⟨none, (some 6), .mov (.t 14), []⟩])
    .ret))
def c295 : Fn := { np := 3, nt := 15, kind := .pure, res := [.t 6], body := k295 }

/- spec.l00In -/
def k304 : Cd :=
  (.seq
   (.reg [6] [
     ⟨none, (some 6), .mov (.c (.bool false)), []⟩])
   (.seq
    (.reg [6] [
      ⟨none, (some 7), .mov (.t 0), []⟩,
      ⟨none, (some 8), .mov (.t 1), []⟩,
      ⟨none, (some 9), .bin .geq (.t 7) (.t 8), []⟩,
      ⟨none, (some 10), .mov (.t 9), []⟩,
      ⟨(some (10, true)), (some 11), .mov (.t 0), []⟩,
      ⟨(some (10, true)), (some 12), .mov (.t 2), []⟩,
      ⟨(some (10, true)), (some 13), .bin .leq (.t 11) (.t 12), []⟩,
      ⟨none, (some 14), .pick (.t 10) (.t 13) (.c (.bool false)), []⟩,
      ⟨none, (some 6), .mov (.t 14), []⟩])
    .ret))
def c304 : Fn := { np := 3, nt := 15, kind := .pure, res := [.t 6], body := k304 }

/- spec.l01Put -/
def k305 : Cd :=
  (.seq
   (.reg [8] [
     ⟨none, (some 6), .mov (.t 1), []⟩,
     ⟨none, (some 7), .mov (.t 2), []⟩,
     ⟨none, (some 8), .call true 342 [.t 6, .t 7], []⟩])
   (.cond (.t 8)
    (.reg [] [
      ⟨none, (some 9), .mov (.t 0), []⟩,
      ⟨none, (some 10), .mov (.t 2), []⟩,
      ⟨none, (some 11), .mov (.t 0), []⟩,
      ⟨none, (some 12), .mov (.t 2), []⟩,
      ⟨none, (some 13), .nil (.t 11), []⟩,
      ⟨none, (some 14), .idxP 12 1 (.t 13) (.t 12), []⟩,
      ⟨none, (some 15), .ld 1 false (.t 14), []⟩,
      ⟨none, (some 16), .mov (.t 1), []⟩,
      ⟨none, (some 17), .conv .u64 (.t 16), []⟩,
      ⟨none, (some 18), .bin .shl (.c (.int .u16 1)) (.t 17), []⟩,
      ⟨none, (some 19), .bin .or (.t 15) (.t 18), []⟩,
      ⟨none, (some 20), .nil (.t 9), []⟩,
      ⟨none, (some 21), .idxP 12 1 (.t 20) (.t 10), []⟩,
      ⟨none, none, .st 1 (.t 21) (.t 19), []⟩])
    .skip))
def c305 : Fn := { np := 3, nt := 22, kind := .args, res := [], body := k305 }

/- impl.where -/
def b306_1 : Cd :=
  (.seq
   (.reg [11] [
     ⟨none, (some 11), .bin .lss (.t 10) (.c (.int .i64 12)), []⟩])
   (.seq
    (.cond (.t 11)
     .skip
     (.exit 2))
    (.seq
     (.block 3
      (.seq
       (.reg [5] [
         ⟨none, (some 12), .mov (.t 10), []⟩,
         ⟨none, (some 5), .mov (.t 12), []⟩])
       (.seq
        (.reg [16] [
          ⟨none, (some 13), .mov (.t 0), []⟩,
          ⟨none, (some 14), .mov (.t 5), []⟩,
          ⟨none, (some 15), .mov (.t 4), []⟩,
          ⟨none, (some 16), .callv (.t 13) [.t 14, .t 15], []⟩])
        (.cond (.t 16)
         (.reg [3] [
           ⟨none, (some 17), .ldV 3 none 12 true, []⟩,
           ⟨none, (some 18), .mov (.t 5), []⟩,
           ⟨none, (some 19), .mov (.t 4), []⟩,
           ⟨none, (some 20), .call true 346 [.t 17, .t 18, .t 19], []⟩,
           ⟨none, (some 3), .stV 3 none 12 (.t 20), []⟩])
         .skip))))
     (.reg [10] [
       ⟨none, (some 21), .bin .add (.t 10) (.c (.int .i64 1)), []⟩,
       ⟨none, (some 10), .mov (.t 21), []⟩]))))
def b306_2 : Cd :=
  (.seq
   (.reg [8] [
     ⟨none, (some 8), .bin .lss (.t 7) (.c (.int .i64 12)), []⟩])
   (.seq
    (.cond (.t 8)
     .skip
     (.exit 0))
    (.seq
     (.block 1
      (.seq
       (.reg [4] [
         ⟨none, (some 9), .mov (.t 7), []⟩,
         ⟨none, (some 4), .mov (.t 9), []⟩])
       (.seq
        (.reg [10] [
          ⟨none, (some 10), .mov (.c (.int .i64 0)), []⟩])
        (.block 2
         (.loop b306_1)))))
     (.reg [7] [
       ⟨none, (some 22), .bin .add (.t 7) (.c (.int .i64 1)), []⟩,
       ⟨none, (some 7), .mov (.t 22), []⟩]))))
def k306 : Cd :=
  (.seq
   (.reg [2] [
     ⟨none, (some 2), .zero true (zs 12 (.int .u16 0)), []⟩])
   (.seq
    (.reg [3] [
      ⟨none, (some 6), .agg (zs 12 (.int .u16 0)) [], []⟩,
      ⟨none, (some 3), .zero true (zs 12 (.int .u16 0)), []⟩,
      ⟨none, (some 3), .stV 3 none 12 (.t 6), []⟩])
    (.seq
     (.seq
      (.reg [7] [
        ⟨none, (some 7), .mov (.c (.int .i64 0)), []⟩])
      (.block 0
       (.loop b306_2)))
     (.seq
      (.reg [2] [
        ⟨none, (some 23), .ldV 3 none 12 true, []⟩,
        ⟨none, (some 2), .stV 2 none 12 (.t 23), []⟩])
      .ret))))
def c306 : Fn := { np := 1, nt := 24, kind := .pure, res := [.v 2 12 true], body := k306 }

/- spec.l00From -/
def k315 : Cd :=
  (.seq
   (.reg [2] [
     ⟨none, (some 2), .mov (.c (.pointer none)), []⟩])
   (.seq
    (.reg [2] [
      ⟨none, (some 3), .mov (.t 0), []⟩,
      ⟨none, (some 4), .agg [.slice none 0 0, .int .i64 0, .int .u64 0] [(0, 1, (.t 3))], []⟩,
      ⟨none, (some 5), .box 3 (.t 4), []⟩,
      ⟨none, (some 2), .mov (.t 5), []⟩])
    .ret))
def c315 : Fn := { np := 1, nt := 6, kind := .pure, res := [.t 2], body := k315 }

/- impl.jump -/
def k324 : Cd :=
  (.seq
   (.reg [2, 3, 4] [
     ⟨none, (some 2), .mov (.t 0), []⟩,
     ⟨none, (some 3), .mov (.t 1), []⟩,
     ⟨none, (some 4), .mov (.c (.int .i64 0)), []⟩])
   (.seq
    (.reg [4] [
      ⟨none, (some 5), .ldV 2 none 12 true, []⟩,
      ⟨none, (some 6), .ldV 3 none 12 true, []⟩,
      ⟨none, (some 7), .call true 367 [.t 5, .t 6], []⟩,
      ⟨none, (some 8), .call true 393 [.t 7], []⟩,
      ⟨none, (some 4), .mov (.t 8), []⟩])
    .ret))
def c324 : Fn := { np := 2, nt := 9, kind := .pure, res := [.t 4], body := k324 }

/- (impl.Frame).join -/
def k338 : Cd :=
  (.seq
   (.reg [2, 3, 4] [
     ⟨none, (some 2), .mov (.t 0), []⟩,
     ⟨none, (some 3), .mov (.t 1), []⟩,
     ⟨none, (some 4), .zero true (zs 12 (.int .u16 0)), []⟩])
   (.seq
    (.reg [4] [
      ⟨none, (some 5), .ldV 2 none 12 true, []⟩,
      ⟨none, (some 6), .ldV 3 none 12 true, []⟩,
      ⟨none, (some 7), .call true 443 [.t 5, .t 6, .f 502], []⟩,
      ⟨none, (some 4), .stV 4 none 12 (.t 7), []⟩])
    .ret))
def c338 : Fn := { np := 2, nt := 8, kind := .pure, res := [.v 4 12 true], body := k338 }

/- spec.l01Place -/
def k342 : Cd :=
  (.seq
   (.reg [4] [
     ⟨none, (some 4), .mov (.c (.bool false)), []⟩])
   (.seq
    (.reg [4] [
      ⟨none, (some 5), .mov (.t 0), []⟩,
      ⟨none, (some 6), .call true 304 [.t 5, .c (.int .i64 0), .c (.int .i64 11)], []⟩,
      ⟨none, (some 7), .mov (.t 6), []⟩,
      ⟨(some (7, true)), (some 8), .mov (.t 1), []⟩,
      ⟨(some (7, true)), (some 9), .call true 304 [.t 8, .c (.int .i64 0), .c (.int .i64 11)], []⟩,
      ⟨none, (some 10), .pick (.t 7) (.t 9) (.c (.bool false)), []⟩,
      ⟨none, (some 4), .mov (.t 10), []⟩])
    .ret))
def c342 : Fn := { np := 2, nt := 11, kind := .pure, res := [.t 4], body := k342 }

/- impl.isPlace -/
def k345 : Cd :=
  (.seq
   (.reg [4] [
     ⟨none, (some 4), .mov (.c (.bool false)), []⟩])
   (.seq
    (.reg [4] [
      ⟨none, (some 5), .mov (.t 0), []⟩,
      ⟨none, (some 6), .call true 295 [.t 5, .c (.int .i64 0), .c (.int .i64 11)], []⟩,
      ⟨none, (some 7), .mov (.t 6), []⟩,
      ⟨(some (7, true)), (some 8), .mov (.t 1), []⟩,
      ⟨(some (7, true)), (some 9), .call true 295 [.t 8, .c (.int .i64 0), .c (.int .i64 11)], []⟩,
      ⟨none, (some 10), .pick (.t 7) (.t 9) (.c (.bool false)), []⟩,
      ⟨none, (some 4), .mov (.t 10), []⟩])
    .ret))
def c345 : Fn := { np := 2, nt := 11, kind := .pure, res := [.t 4], body := k345 }

/- (impl.Frame).with -/
def k346 : Cd :=
  (.seq
   (.reg [3, 6] [
     ⟨none, (some 3), .mov (.t 0), []⟩,
     ⟨none, (some 6), .zero true (zs 12 (.int .u16 0)), []⟩])
   (.seq
    (.reg [3] [
      ⟨none, (some 7), .mov (.t 2), []⟩,
      ⟨none, (some 8), .adrI 3 none 12 1 (.t 7), []⟩,
      ⟨none, (some 9), .ldV 3 (some 8) 1 false, []⟩,
      ⟨none, (some 10), .mov (.t 1), []⟩,
      ⟨none, (some 11), .bin .shl (.c (.int .u16 1)) (.t 10), []⟩,
      ⟨none, (some 12), .bin .or (.t 9) (.t 11), []⟩,
      ⟨none, (some 13), .adrI 3 none 12 1 (.t 7), []⟩,
      ⟨none, (some 3), .stV 3 (some 13) 1 (.t 12), []⟩])
    (.seq
     (.reg [6] [
       ⟨none, (some 14), .ldV 3 none 12 true, []⟩,
       ⟨none, (some 6), .stV 6 none 12 (.t 14), []⟩])
     .ret)))
def c346 : Fn := { np := 3, nt := 15, kind := .pure, res := [.v 6 12 true], body := k346 }

/- (impl.Frame).meet -/
def k348 : Cd :=
  (.seq
   (.reg [2, 3, 4] [
     ⟨none, (some 2), .mov (.t 0), []⟩,
     ⟨none, (some 3), .mov (.t 1), []⟩,
     ⟨none, (some 4), .zero true (zs 12 (.int .u16 0)), []⟩])
   (.seq
    (.reg [4] [
      ⟨none, (some 5), .ldV 2 none 12 true, []⟩,
      ⟨none, (some 6), .ldV 3 none 12 true, []⟩,
      ⟨none, (some 7), .call true 443 [.t 5, .t 6, .f 503], []⟩,
      ⟨none, (some 4), .stV 4 none 12 (.t 7), []⟩])
    .ret))
def c348 : Fn := { np := 2, nt := 8, kind := .pure, res := [.v 4 12 true], body := k348 }

/- (impl.Frame).less -/
def k350 : Cd :=
  (.seq
   (.reg [2, 3, 4] [
     ⟨none, (some 2), .mov (.t 0), []⟩,
     ⟨none, (some 3), .mov (.t 1), []⟩,
     ⟨none, (some 4), .zero true (zs 12 (.int .u16 0)), []⟩])
   (.seq
    (.reg [4] [
      ⟨none, (some 5), .ldV 2 none 12 true, []⟩,
      ⟨none, (some 6), .ldV 3 none 12 true, []⟩,
      ⟨none, (some 7), .call true 443 [.t 5, .t 6, .f 504], []⟩,
      ⟨none, (some 4), .stV 4 none 12 (.t 7), []⟩])
    .ret))
def c350 : Fn := { np := 2, nt := 8, kind := .pure, res := [.v 4 12 true], body := k350 }

/- impl.areFrames -/
def k351 : Cd :=
  (.seq
   (.reg [2] [
     ⟨none, (some 2), .mov (.c (.bool false)), []⟩])
   (.seq
    (.reg [2] [
      ⟨none, (some 3), .mov (.t 0), []⟩,
      ⟨none, (some 4), .call true 505 [.t 3, .f 506], []⟩,
      ⟨none, (some 5), .un .not (.t 4), []⟩,
      ⟨none, (some 2), .mov (.t 5), []⟩])
    .ret))
def c351 : Fn := { np := 1, nt := 6, kind := .pure, res := [.t 2], body := k351 }

/- spec.l01Moved -/
def b355_1 : Cd :=
  (.seq
   (.seq
    (.reg [16] [
      ⟨none, (some 13), .mov (.t 9), []⟩,
      ⟨none, (some 14), .mov (.t 8), []⟩,
      ⟨none, (some 15), .len (.t 14), []⟩,
      ⟨none, (some 16), .bin .lss (.t 13) (.t 15), []⟩])
    (.cond (.t 16)
     .skip
     (.exit 0)))
   (.seq
    (.block 1
     (.reg [] [
       ⟨none, (some 19), .mov (.t 8), []⟩,
       ⟨none, (some 20), .mov (.t 9), []⟩,
       ⟨none, (some 21), .idxA 2 (.t 19) (.t 20), []⟩,
       ⟨none, (some 22), .fldP 0 (.t 21), []⟩,
       ⟨none, (some 23), .ld 1 false (.t 22), []⟩,
       ⟨none, (some 24), .conv .i64 (.t 23), []⟩,
       ⟨none, (some 25), .mov (.t 1), []⟩,
       ⟨none, (some 26), .bin .add (.t 24) (.t 25), []⟩,
       ⟨none, (some 27), .mov (.t 8), []⟩,
       ⟨none, (some 28), .mov (.t 9), []⟩,
       ⟨none, (some 29), .idxA 2 (.t 27) (.t 28), []⟩,
       ⟨none, (some 30), .fldP 1 (.t 29), []⟩,
       ⟨none, (some 31), .ld 1 false (.t 30), []⟩,
       ⟨none, (some 32), .conv .i64 (.t 31), []⟩,
       ⟨none, (some 33), .mov (.t 2), []⟩,
       ⟨none, (some 34), .bin .add (.t 32) (.t 33), []⟩,
       ⟨none, (some 35), .call false 305 [.t 7, .t 26, .t 34], []⟩]))
    (.reg [9] [
      ⟨none, (some 17), .mov (.t 9), []⟩,
      ⟨none, (some 18), .bin .add (.t 17) (.c (.int .i64 1)), []⟩,
      ⟨none, (some 9), .mov (.t 18), []⟩])))
def k355 : Cd :=
  (.seq
   (.reg [6] [
     ⟨none, (some 6), .zero true (zs 12 (.int .u16 0)), []⟩])
   (.seq
    (.reg [7] [
      ⟨none, (some 10), .agg (zs 12 (.int .u16 0)) [], []⟩,
      ⟨none, (some 7), .new 1 (zs 12 (.int .u16 0)), []⟩,
      ⟨none, none, .st 12 (.t 7) (.t 10), []⟩])
    (.seq
     (.reg [8] [
       ⟨none, (some 11), .mov (.t 0), []⟩,
       ⟨none, (some 12), .call true 440 [.t 11], []⟩,
       ⟨none, (some 8), .mov (.t 12), []⟩])
     (.seq
      (.seq
       (.reg [9] [
         ⟨none, (some 9), .mov (.c (.int .i64 0)), []⟩])
       (.block 0
        (.loop b355_1)))
      (.seq
       (.reg [6] [
         ⟨none, (some 36), .ld 12 true (.t 7), []⟩,
         ⟨none, (some 6), .stV 6 none 12 (.t 36), []⟩])
       .ret)))))
def c355 : Fn := { np := 3, nt := 37, kind := .pure, res := [.v 6 12 true], body := k355 }

/- impl.checkMove -/
def k357 : Cd :=
  (.seq
   (.reg [3, 6] [
     ⟨none, (some 3), .mov (.t 0), []⟩,
     ⟨none, (some 6), .mov (.c (.int .i64 0)), []⟩])
   (.seq
    (.block 0
     (.seq
      (.reg [7] [
        ⟨none, (some 8), .ldV 3 none 12 true, []⟩,
        ⟨none, (some 9), .call true 234 [.t 8], []⟩,
        ⟨none, (some 10), .un .not (.t 9), []⟩,
        ⟨none, (some 7), .mov (.t 10), []⟩])
      (.cond (.t 7)
       (.seq
        (.reg [6] [
          ⟨none, (some 6), .mov (.c (.int .i64 1)), []⟩])
        .ret)
       (.seq
        (.reg [11] [
          ⟨none, (some 12), .mov (.t 1), []⟩,
          ⟨none, (some 13), .call true 295 [.t 12, .c (.int .i64 (-12)), .c (.int .i64 12)], []⟩,
          ⟨none, (some 14), .un .not (.t 13), []⟩,
          ⟨none, (some 15), .mov (.t 14), []⟩,
          ⟨(some (15, false)), (some 16), .mov (.t 2), []⟩,
          ⟨(some (15, false)), (some 17), .call true 295 [.t 16, .c (.int .i64 (-12)), .c (.int .i64 12)], []⟩,
          ⟨(some (15, false)), (some 18), .un .not (.t 17), []⟩,
          ⟨none, (some 19), .pick (.t 15) (.c (.bool true)) (.t 18), []⟩,
          ⟨none, (some 11), .mov (.t 19), []⟩])
        (.cond (.t 11)
         (.seq
          (.reg [6] [
            ⟨none, (some 6), .mov (.c (.int .i64 2)), []⟩])
          .ret)
         .skip)))))
    (.seq
     (.reg [6] [
       ⟨none, (some 6), .mov (.c (.int .i64 0)), []⟩])
     .ret)))
def c357 : Fn := { np := 3, nt := 20, kind := .pure, res := [.t 6], body := k357 }

/- (impl.Frame).moved -/
def b358_1 : Cd :=
  (.seq
   (.reg [16] [
     ⟨none, (some 16), .bin .lss (.t 15) (.c (.int .i64 12)), []⟩])
   (.seq
    (.cond (.t 16)
     .skip
     (.exit 0))
    (.seq
     (.block 1
      (.seq
       (.reg [8] [
         ⟨none, (some 17), .mov (.t 15), []⟩,
         ⟨none, (some 8), .mov (.t 17), []⟩])
       (.seq
        (.reg [9] [
          ⟨none, (some 18), .mov (.t 8), []⟩,
          ⟨none, (some 19), .mov (.t 2), []⟩,
          ⟨none, (some 20), .bin .sub (.t 18) (.t 19), []⟩,
          ⟨none, (some 9), .mov (.t 20), []⟩])
        (.seq
         (.seq
          (.reg [23] [
            ⟨none, (some 21), .mov (.t 9), []⟩,
            ⟨none, (some 22), .call true 295 [.t 21, .c (.int .i64 0), .c (.int .i64 11)], []⟩,
            ⟨none, (some 23), .un .not (.t 22), []⟩])
          (.cond (.t 23)
           (.exit 1)
           .skip))
         (.seq
          (.reg [25] [
            ⟨none, (some 24), .mov (.t 1), []⟩,
            ⟨none, (some 25), .bin .geq (.t 24) (.c (.int .i64 0)), []⟩])
          (.cond (.t 25)
           (.reg [7] [
             ⟨none, (some 26), .mov (.t 8), []⟩,
             ⟨none, (some 27), .mov (.t 9), []⟩,
             ⟨none, (some 28), .adrI 3 none 12 1 (.t 27), []⟩,
             ⟨none, (some 29), .ldV 3 (some 28) 1 false, []⟩,
             ⟨none, (some 30), .mov (.t 1), []⟩,
             ⟨none, (some 31), .bin .shl (.t 29) (.t 30), []⟩,
             ⟨none, (some 32), .bin .and (.t 31) (.c (.int .u16 4095)), []⟩,
             ⟨none, (some 33), .adrI 7 none 12 1 (.t 26), []⟩,
             ⟨none, (some 7), .stV 7 (some 33) 1 (.t 32), []⟩])
           (.reg [7] [
             ⟨none, (some 34), .mov (.t 8), []⟩,
             ⟨none, (some 35), .mov (.t 9), []⟩,
             ⟨none, (some 36), .adrI 3 none 12 1 (.t 35), []⟩,
             ⟨none, (some 37), .ldV 3 (some 36) 1 false, []⟩,
             ⟨none, (some 38), .mov (.t 1), []⟩,
             ⟨none, (some 39), .un .neg (.t 38), []⟩,
             ⟨none, (some 40), .bin .shr (.t 37) (.t 39), []⟩,
             ⟨none, (some 41), .adrI 7 none 12 1 (.t 34), []⟩,
             ⟨none, (some 7), .stV 7 (some 41) 1 (.t 40), []⟩])))))))
     (.reg [15] [
       ⟨none, (some 42), .bin .add (.t 15) (.c (.int .i64 1)), []⟩,
       ⟨none, (some 15), .mov (.t 42), []⟩]))))
def k358 : Cd :=
  (.seq
   (.reg [3, 6] [
     ⟨none, (some 3), .mov (.t 0), []⟩,
     ⟨none, (some 6), .zero true (zs 12 (.int .u16 0)), []⟩])
   (.seq
    (.reg [7] [
      ⟨none, (some 10), .agg (zs 12 (.int .u16 0)) [], []⟩,
      ⟨none, (some 7), .zero true (zs 12 (.int .u16 0)), []⟩,
      ⟨none, (some 7), .stV 7 none 12 (.t 10), []⟩])
    (.seq
     (.seq
      (.reg [13] [
        ⟨none, (some 11), .mov (.t 1), []⟩,
        ⟨none, (some 12), .call true 295 [.t 11, .c (.int .i64 (-12)), .c (.int .i64 12)], []⟩,
        ⟨none, (some 13), .un .not (.t 12), []⟩])
      (.cond (.t 13)
       (.seq
        (.reg [6] [
          ⟨none, (some 14), .ldV 7 none 12 true, []⟩,
          ⟨none, (some 6), .stV 6 none 12 (.t 14), []⟩])
        .ret)
       .skip))
     (.seq
      (.seq
       (.reg [15] [
         ⟨none, (some 15), .mov (.c (.int .i64 0)), []⟩])
       (.block 0
        (.loop b358_1)))
      (.seq
       (.reg [6] [
         ⟨none, (some 43), .ldV 7 none 12 true, []⟩,
         ⟨none, (some 6), .stV 6 none 12 (.t 43), []⟩])
       .ret)))))
def c358 : Fn := { np := 3, nt := 44, kind := .pure, res := [.v 6 12 true], body := k358 }

/- spec.l01Ok -/
def b359_1 : Cd :=
  (.seq
   (.seq
    (.reg [5] [
      ⟨none, (some 4), .mov (.t 3), []⟩,
      ⟨none, (some 5), .bin .lss (.t 4) (.c (.int .i64 12)), []⟩])
    (.cond (.t 5)
     .skip
     (.exit 0)))
   (.seq
    (.block 1
     (.seq
      (.reg [13] [
        ⟨none, (some 8), .mov (.t 0), []⟩,
        ⟨none, (some 9), .mov (.t 3), []⟩,
        ⟨none, (some 10), .nil (.t 8), []⟩,
        ⟨none, (some 11), .idxP 12 1 (.t 10) (.t 9), []⟩,
        ⟨none, (some 12), .ld 1 false (.t 11), []⟩,
        ⟨none, (some 13), .bin .gtr (.t 12) (.c (.int .u16 4095)), []⟩])
      (.cond (.t 13)
       (.seq
        (.reg [2] [
          ⟨none, (some 2), .mov (.c (.bool false)), []⟩])
        .ret)
       .skip)))
    (.reg [3] [
      ⟨none, (some 6), .mov (.t 3), []⟩,
      ⟨none, (some 7), .bin .add (.t 6) (.c (.int .i64 1)), []⟩,
      ⟨none, (some 3), .mov (.t 7), []⟩])))
def k359 : Cd :=
  (.seq
   (.reg [2] [
     ⟨none, (some 2), .mov (.c (.bool false)), []⟩])
   (.seq
    (.seq
     (.reg [3] [
       ⟨none, (some 3), .mov (.c (.int .i64 0)), []⟩])
     (.block 0
      (.loop b359_1)))
    (.seq
     (.reg [2] [
       ⟨none, (some 2), .mov (.c (.bool true)), []⟩])
     .ret)))
def c359 : Fn := { np := 1, nt := 14, kind := .pure, res := [.t 2], body := k359 }

/- (impl.Frame).differ -/
def k367 : Cd :=
  (.seq
   (.reg [2, 3, 4] [
     ⟨none, (some 2), .mov (.t 0), []⟩,
     ⟨none, (some 3), .mov (.t 1), []⟩,
     ⟨none, (some 4), .zero true (zs 12 (.int .u16 0)), []⟩])
   (.seq
    (.reg [4] [
      ⟨none, (some 5), .ldV 2 none 12 true, []⟩,
      ⟨none, (some 6), .ldV 3 none 12 true, []⟩,
      ⟨none, (some 7), .call true 443 [.t 5, .t 6, .f 512], []⟩,
      ⟨none, (some 4), .stV 4 none 12 (.t 7), []⟩])
    .ret))
def c367 : Fn := { np := 2, nt := 8, kind := .pure, res := [.v 4 12 true], body := k367 }

/- spec.l01Drawn -/
def b368_1 : Cd :=
  (.seq
   (.seq
    (.reg [16] [
      ⟨none, (some 15), .mov (.t 6), []⟩,
      ⟨none, (some 16), .bin .gtr (.t 15) (.c (.int .i64 0)), []⟩])
    (.cond (.t 16)
     .skip
     (.exit 0)))
   (.seq
    (.block 1
     (.seq
      (.reg [] [
        ⟨none, (some 19), .mov (.t 4), []⟩,
        ⟨none, (some 20), .mov (.t 5), []⟩,
        ⟨none, (some 21), .call false 305 [.t 3, .t 19, .t 20], []⟩])
      (.seq
       (.reg [23] [
         ⟨none, (some 22), .mov (.t 0), []⟩,
         ⟨none, (some 23), .call false 459 [.t 22, .c (.int .i64 6)], []⟩])
       (.block 2
        (.seq
         (.reg [30] [
           ⟨none, (some 31), .bin .eql (.t 23) (.c (.int .i64 0)), []⟩,
           ⟨none, (some 30), .mov (.t 31), []⟩])
         (.cond (.t 30)
          (.seq
           (.reg [4] [
             ⟨none, (some 32), .mov (.t 0), []⟩,
             ⟨none, (some 33), .call false 459 [.t 32, .c (.int .i64 12)], []⟩,
             ⟨none, (some 4), .mov (.t 33), []⟩])
           (.reg [5] [
             ⟨none, (some 34), .mov (.t 0), []⟩,
             ⟨none, (some 35), .call false 459 [.t 34, .c (.int .i64 12)], []⟩,
             ⟨none, (some 5), .mov (.t 35), []⟩]))
          (.seq
           (.seq
            (.reg [36] [
              ⟨none, (some 37), .bin .eql (.t 23) (.c (.int .i64 1)), []⟩,
              ⟨none, (some 36), .mov (.t 37), []⟩])
            (.cond (.t 36)
             .skip
             (.reg [36] [
               ⟨none, (some 38), .bin .eql (.t 23) (.c (.int .i64 2)), []⟩,
               ⟨none, (some 36), .mov (.t 38), []⟩])))
           (.cond (.t 36)
            (.reg [4] [
              ⟨none, (some 39), .mov (.t 4), []⟩,
              ⟨none, (some 40), .bin .add (.t 39) (.c (.int .i64 1)), []⟩,
              ⟨none, (some 41), .bin .rem (.t 40) (.c (.int .i64 12)), []⟩,
              ⟨none, (some 4), .mov (.t 41), []⟩])
            (.reg [5] [
              ⟨none, (some 24), .mov (.t 5), []⟩,
              ⟨none, (some 25), .mov (.t 0), []⟩,
              ⟨none, (some 26), .call false 459 [.t 25, .c (.int .i64 3)], []⟩,
              ⟨none, (some 27), .bin .add (.t 24) (.t 26), []⟩,
              ⟨none, (some 28), .bin .add (.t 27) (.c (.int .i64 11)), []⟩,
              ⟨none, (some 29), .bin .rem (.t 28) (.c (.int .i64 12)), []⟩,
              ⟨none, (some 5), .mov (.t 29), []⟩])))))))))
    (.reg [6] [
      ⟨none, (some 17), .mov (.t 6), []⟩,
      ⟨none, (some 18), .bin .sub (.t 17) (.c (.int .i64 1)), []⟩,
      ⟨none, (some 6), .mov (.t 18), []⟩])))
def b368_2 : Cd :=
  (.seq
   (.seq
    (.reg [45] [
      ⟨none, (some 44), .mov (.t 7), []⟩,
      ⟨none, (some 45), .bin .lss (.t 44) (.c (.int .i64 12)), []⟩])
    (.cond (.t 45)
     .skip
     (.exit 3)))
   (.seq
    (.block 4
     (.reg [] [
       ⟨none, (some 48), .mov (.t 7), []⟩,
       ⟨none, (some 49), .mov (.t 7), []⟩,
       ⟨none, (some 50), .idxP 12 1 (.t 3) (.t 49), []⟩,
       ⟨none, (some 51), .ld 1 false (.t 50), []⟩,
       ⟨none, (some 52), .mov (.t 0), []⟩,
       ⟨none, (some 53), .call false 459 [.t 52, .c (.int .i64 4096)], [.t 50]⟩,
       ⟨none, (some 54), .conv .u16 (.t 53), []⟩,
       ⟨none, (some 55), .bin .or (.t 51) (.t 54), []⟩,
       ⟨none, (some 56), .idxP 12 1 (.t 3) (.t 48), []⟩,
       ⟨none, none, .st 1 (.t 56) (.t 55), []⟩]))
    (.reg [7] [
      ⟨none, (some 46), .mov (.t 7), []⟩,
      ⟨none, (some 47), .bin .add (.t 46) (.c (.int .i64 1)), []⟩,
      ⟨none, (some 7), .mov (.t 47), []⟩])))
def k368 : Cd :=
  (.seq
   (.reg [2] [
     ⟨none, (some 2), .zero true (zs 12 (.int .u16 0)), []⟩])
   (.seq
    (.reg [3] [
      ⟨none, (some 8), .agg (zs 12 (.int .u16 0)) [], []⟩,
      ⟨none, (some 3), .new 1 (zs 12 (.int .u16 0)), []⟩,
      ⟨none, none, .st 12 (.t 3) (.t 8), []⟩])
    (.seq
     (.reg [4] [
       ⟨none, (some 9), .mov (.t 0), []⟩,
       ⟨none, (some 10), .call false 459 [.t 9, .c (.int .i64 12)], []⟩,
       ⟨none, (some 4), .mov (.t 10), []⟩])
     (.seq
      (.reg [5] [
        ⟨none, (some 11), .mov (.t 0), []⟩,
        ⟨none, (some 12), .call false 459 [.t 11, .c (.int .i64 12)], []⟩,
        ⟨none, (some 5), .mov (.t 12), []⟩])
      (.seq
       (.seq
        (.reg [6] [
          ⟨none, (some 13), .mov (.t 0), []⟩,
          ⟨none, (some 14), .call false 459 [.t 13, .c (.int .i64 14)], []⟩,
          ⟨none, (some 6), .mov (.t 14), []⟩])
        (.block 0
         (.loop b368_1)))
       (.seq
        (.seq
         (.reg [43] [
           ⟨none, (some 42), .mov (.t 0), []⟩,
           ⟨none, (some 43), .call false 513 [.t 42, .c (.int .i64 8)], []⟩])
         (.cond (.t 43)
          (.seq
           (.reg [7] [
             ⟨none, (some 7), .mov (.c (.int .i64 0)), []⟩])
           (.block 3
            (.loop b368_2)))
          .skip))
        (.seq
         (.reg [2] [
           ⟨none, (some 57), .ld 12 true (.t 3), []⟩,
           ⟨none, (some 2), .stV 2 none 12 (.t 57), []⟩])
         .ret)))))))
def c368 : Fn := { np := 1, nt := 58, kind := .args, res := [.v 2 12 true], body := k368 }

/- spec.l01Way -/
def k373 : Cd :=
  (.seq
   (.reg [6] [
     ⟨none, (some 6), .mov (.c (.int .i64 0)), []⟩])
   (.seq
    (.seq
     (.reg [9] [
       ⟨none, (some 7), .mov (.t 0), []⟩,
       ⟨none, (some 8), .call true 359 [.t 7], []⟩,
       ⟨none, (some 9), .un .not (.t 8), []⟩])
     (.cond (.t 9)
      (.seq
       (.reg [6] [
         ⟨none, (some 6), .mov (.c (.int .i64 1)), []⟩])
       .ret)
      .skip))
    (.seq
     (.seq
      (.reg [17] [
        ⟨none, (some 10), .mov (.t 1), []⟩,
        ⟨none, (some 11), .call true 304 [.t 10, .c (.int .i64 (-12)), .c (.int .i64 12)], []⟩,
        ⟨none, (some 12), .un .not (.t 11), []⟩,
        ⟨none, (some 13), .mov (.t 12), []⟩,
        ⟨(some (13, false)), (some 14), .mov (.t 2), []⟩,
        ⟨(some (13, false)), (some 15), .call true 304 [.t 14, .c (.int .i64 (-12)), .c (.int .i64 12)], []⟩,
        ⟨(some (13, false)), (some 16), .un .not (.t 15), []⟩,
        ⟨none, (some 17), .pick (.t 13) (.c (.bool true)) (.t 16), []⟩])
      (.cond (.t 17)
       (.seq
        (.reg [6] [
          ⟨none, (some 6), .mov (.c (.int .i64 2)), []⟩])
        .ret)
       .skip))
     (.seq
      (.reg [6] [
        ⟨none, (some 6), .mov (.c (.int .i64 0)), []⟩])
      .ret))))
def c373 : Fn := { np := 3, nt := 18, kind := .pure, res := [.t 6], body := k373 }

/- (impl.Frame).count -/
def b393_1 : Cd :=
  (.seq
   (.reg [8] [
     ⟨none, (some 8), .bin .lss (.t 7) (.c (.int .i64 12)), []⟩])
   (.seq
    (.cond (.t 8)
     .skip
     (.exit 0))
    (.seq
     (.block 1
      (.seq
       (.reg [5] [
         ⟨none, (some 9), .idx 12 1 false (.t 6) (.t 7), []⟩,
         ⟨none, (some 5), .mov (.t 9), []⟩])
       (.reg [3] [
         ⟨none, (some 10), .mov (.t 3), []⟩,
         ⟨none, (some 11), .mov (.t 5), []⟩,
         ⟨none, (some 12), .call true 530 [.t 11], []⟩,
         ⟨none, (some 13), .bin .add (.t 10) (.t 12), []⟩,
         ⟨none, (some 3), .mov (.t 13), []⟩])))
     (.reg [7] [
       ⟨none, (some 14), .bin .add (.t 7) (.c (.int .i64 1)), []⟩,
       ⟨none, (some 7), .mov (.t 14), []⟩]))))
def k393 : Cd :=
  (.seq
   (.reg [1, 2] [
     ⟨none, (some 1), .mov (.t 0), []⟩,
     ⟨none, (some 2), .mov (.c (.int .i64 0)), []⟩])
   (.seq
    (.reg [3] [
      ⟨none, (some 3), .mov (.c (.int .i64 0)), []⟩])
    (.seq
     (.seq
      (.reg [6, 7] [
        ⟨none, (some 6), .ldV 1 none 12 true, []⟩,
        ⟨none, (some 7), .mov (.c (.int .i64 0)), []⟩])
      (.block 0
       (.loop b393_1)))
     (.seq
      (.reg [2] [
        ⟨none, (some 15), .mov (.t 3), []⟩,
        ⟨none, (some 2), .mov (.t 15), []⟩])
      .ret))))
def c393 : Fn := { np := 1, nt := 16, kind := .pure, res := [.t 2], body := k393 }

/- impl.TurnFrame$1 -/
def k394 : Cd :=
  (.seq
   (.reg [5] [
     ⟨none, (some 5), .mov (.c (.bool false)), []⟩])
   (.seq
    (.reg [5] [
      ⟨none, (some 6), .ld 12 true (.t 2), []⟩,
      ⟨none, (some 7), .mov (.t 1), []⟩,
      ⟨none, (some 8), .mov (.t 0), []⟩,
      ⟨none, (some 9), .bin .sub (.c (.int .i64 11)) (.t 8), []⟩,
      ⟨none, (some 10), .call true 395 [.t 6, .t 7, .t 9], []⟩,
      ⟨none, (some 5), .mov (.t 10), []⟩])
    .ret))
def c394 : Fn := { np := 3, nt := 11, kind := .pure, res := [.t 5], body := k394 }

/- (impl.Frame).has -/
def k395 : Cd :=
  (.seq
   (.reg [3, 6] [
     ⟨none, (some 3), .mov (.t 0), []⟩,
     ⟨none, (some 6), .mov (.c (.bool false)), []⟩])
   (.seq
    (.reg [6] [
      ⟨none, (some 7), .mov (.t 1), []⟩,
      ⟨none, (some 8), .mov (.t 2), []⟩,
      ⟨none, (some 9), .call true 345 [.t 7, .t 8], []⟩,
      ⟨none, (some 10), .mov (.t 9), []⟩,
      ⟨(some (10, true)), (some 11), .mov (.t 2), []⟩,
      ⟨(some (10, true)), (some 12), .adrI 3 none 12 1 (.t 11), []⟩,
      ⟨(some (10, true)), (some 13), .ldV 3 (some 12) 1 false, []⟩,
      ⟨(some (10, true)), (some 14), .mov (.t 1), []⟩,
      ⟨(some (10, true)), (some 15), .bin .shr (.t 13) (.t 14), []⟩,
      ⟨(some (10, true)), (some 16), .bin .and (.t 15) (.c (.int .u16 1)), []⟩,
      ⟨(some (10, true)), (some 17), .bin .eql (.t 16) (.c (.int .u16 1)), []⟩,
      ⟨none, (some 18), .pick (.t 10) (.t 17) (.c (.bool false)), []⟩,
      ⟨none, (some 6), .mov (.t 18), []⟩])
    .ret))
def c395 : Fn := { np := 3, nt := 19, kind := .pure, res := [.t 6], body := k395 }

/- impl.ReadFrame$1 -/
def k438 : Cd :=
  (.seq
   (.reg [5] [
     ⟨none, (some 5), .mov (.c (.bool false)), []⟩])
   (.seq
    (.reg [5] [
      ⟨none, (some 6), .ld 1 false (.t 2), []⟩,
      ⟨none, (some 7), .mov (.t 1), []⟩,
      ⟨none, (some 8), .bin .mul (.t 7) (.c (.int .i64 13)), []⟩,
      ⟨none, (some 9), .mov (.t 0), []⟩,
      ⟨none, (some 10), .bin .add (.t 8) (.t 9), []⟩,
      ⟨none, (some 11), .idxs (.t 6) (.t 10), []⟩,
      ⟨none, (some 12), .bin .eql (.t 11) (.c (.int .u8 35)), []⟩,
      ⟨none, (some 5), .mov (.t 12), []⟩])
    .ret))
def c438 : Fn := { np := 3, nt := 13, kind := .pure, res := [.t 5], body := k438 }

/- spec.l01Dots -/
def b440_1 : Cd :=
  (.seq
   (.seq
    (.reg [12] [
      ⟨none, (some 11), .mov (.t 5), []⟩,
      ⟨none, (some 12), .bin .lss (.t 11) (.c (.int .i64 12)), []⟩])
    (.cond (.t 12)
     .skip
     (.exit 2)))
   (.seq
    (.block 3
     (.seq
      (.reg [18] [
        ⟨none, (some 15), .mov (.t 0), []⟩,
        ⟨none, (some 16), .mov (.t 5), []⟩,
        ⟨none, (some 17), .mov (.t 4), []⟩,
        ⟨none, (some 18), .call true 456 [.t 15, .t 16, .t 17], []⟩])
      (.cond (.t 18)
       (.reg [3] [
         ⟨none, (some 19), .mov (.t 3), []⟩,
         ⟨none, (some 20), .mov (.t 5), []⟩,
         ⟨none, (some 21), .conv .i8 (.t 20), []⟩,
         ⟨none, (some 22), .mov (.t 4), []⟩,
         ⟨none, (some 23), .conv .i8 (.t 22), []⟩,
         ⟨none, (some 24), .agg [.int .i8 0, .int .i8 0] [(0, 1, (.t 21)), (1, 1, (.t 23))], []⟩,
         ⟨none, (some 25), .bldS 2 1 [.int .i8 0, .int .i8 0] [(0, 2, (.t 24))], []⟩,
         ⟨none, (some 26), .app 2 2 (.t 19) (.t 25), []⟩,
         ⟨none, (some 3), .mov (.t 26), []⟩])
       .skip)))
    (.reg [5] [
      ⟨none, (some 13), .mov (.t 5), []⟩,
      ⟨none, (some 14), .bin .add (.t 13) (.c (.int .i64 1)), []⟩,
      ⟨none, (some 5), .mov (.t 14), []⟩])))
def b440_2 : Cd :=
  (.seq
   (.seq
    (.reg [8] [
      ⟨none, (some 7), .mov (.t 4), []⟩,
      ⟨none, (some 8), .bin .lss (.t 7) (.c (.int .i64 12)), []⟩])
    (.cond (.t 8)
     .skip
     (.exit 0)))
   (.seq
    (.block 1
     (.seq
      (.reg [5] [
        ⟨none, (some 5), .mov (.c (.int .i64 0)), []⟩])
      (.block 2
       (.loop b440_1))))
    (.reg [4] [
      ⟨none, (some 9), .mov (.t 4), []⟩,
      ⟨none, (some 10), .bin .add (.t 9) (.c (.int .i64 1)), []⟩,
      ⟨none, (some 4), .mov (.t 10), []⟩])))
def k440 : Cd :=
  (.seq
   (.reg [2] [
     ⟨none, (some 2), .mov (.c (.slice none 0 0)), []⟩])
   (.seq
    (.reg [3] [
      ⟨none, (some 6), .bldS 2 0 [.int .i8 0, .int .i8 0] [], []⟩,
      ⟨none, (some 3), .mov (.t 6), []⟩])
    (.seq
     (.seq
      (.reg [4] [
        ⟨none, (some 4), .mov (.c (.int .i64 0)), []⟩])
      (.block 0
       (.loop b440_2)))
     (.seq
      (.reg [2] [
        ⟨none, (some 27), .mov (.t 3), []⟩,
        ⟨none, (some 2), .mov (.t 27), []⟩])
      .ret))))
def c440 : Fn := { np := 1, nt := 28, kind := .pure, res := [.t 2], body := k440 }

/- impl.MirrorFrame$1 -/
def k441 : Cd :=
  (.seq
   (.reg [5] [
     ⟨none, (some 5), .mov (.c (.bool false)), []⟩])
   (.seq
    (.reg [5] [
      ⟨none, (some 6), .ld 12 true (.t 2), []⟩,
      ⟨none, (some 7), .mov (.t 0), []⟩,
      ⟨none, (some 8), .bin .sub (.c (.int .i64 11)) (.t 7), []⟩,
      ⟨none, (some 9), .mov (.t 1), []⟩,
      ⟨none, (some 10), .call true 395 [.t 6, .t 8, .t 9], []⟩,
      ⟨none, (some 5), .mov (.t 10), []⟩])
    .ret))
def c441 : Fn := { np := 3, nt := 11, kind := .pure, res := [.t 5], body := k441 }

/- slices.Reverse[[]uint16,uint16] -/
def b442_1 : Cd :=
  (.seq
   (.seq
    (.reg [9] [
      ⟨none, (some 7), .mov (.t 2), []⟩,
      ⟨none, (some 8), .mov (.t 3), []⟩,
      ⟨none, (some 9), .bin .lss (.t 7) (.t 8), []⟩])
    (.cond (.t 9)
     .skip
     (.exit 0)))
   (.seq
    (.block 1
     (.reg [] [
       ⟨none, (some 14), .mov (.t 0), []⟩,
       ⟨none, (some 15), .mov (.t 2), []⟩,
       ⟨none, (some 16), .mov (.t 0), []⟩,
       ⟨none, (some 17), .mov (.t 3), []⟩,
       ⟨none, (some 18), .mov (.t 0), []⟩,
       ⟨none, (some 19), .mov (.t 3), []⟩,
       ⟨none, (some 20), .idxA 1 (.t 18) (.t 19), []⟩,
       ⟨none, (some 21), .ld 1 false (.t 20), []⟩,
       ⟨none, (some 22), .mov (.t 0), []⟩,
       ⟨none, (some 23), .mov (.t 2), []⟩,
       ⟨none, (some 24), .idxA 1 (.t 22) (.t 23), []⟩,
       ⟨none, (some 25), .ld 1 false (.t 24), []⟩,
       ⟨none, (some 26), .idxA 1 (.t 14) (.t 15), []⟩,
       ⟨none, none, .st 1 (.t 26) (.t 21), []⟩,
       ⟨none, (some 27), .idxA 1 (.t 16) (.t 17), []⟩,
       ⟨none, none, .st 1 (.t 27) (.t 25), []⟩]))
    (.reg [2, 3] [
      ⟨none, (some 10), .mov (.t 2), []⟩,
      ⟨none, (some 11), .bin .add (.t 10) (.c (.int .i64 1)), []⟩,
      ⟨none, (some 12), .mov (.t 3), []⟩,
      ⟨none, (some 13), .bin .sub (.t 12) (.c (.int .i64 1)), []⟩,
      ⟨none, (some 2), .mov (.t 11), []⟩,
      ⟨none, (some 3), .mov (.t 13), []⟩])))
def k442 : Cd :=
  (.seq
   (.reg [2, 3] [
     ⟨none, (some 4), .mov (.t 0), []⟩,
     ⟨none, (some 5), .len (.t 4), []⟩,
     ⟨none, (some 6), .bin .sub (.t 5) (.c (.int .i64 1)), []⟩,
     ⟨none, (some 2), .mov (.c (.int .i64 0)), []⟩,
     ⟨none, (some 3), .mov (.t 6), []⟩])
   (.block 0
    (.loop b442_1)))
def c442 : Fn := { np := 1, nt := 28, kind := .args, res := [], body := k442 }

/- (impl.Frame).mix -/
def b443_1 : Cd :=
  (.seq
   (.reg [11] [
     ⟨none, (some 11), .bin .lss (.t 10) (.c (.int .i64 12)), []⟩])
   (.seq
    (.cond (.t 11)
     .skip
     (.exit 0))
    (.seq
     (.block 1
      (.seq
       (.reg [7, 8] [
         ⟨none, (some 12), .mov (.t 10), []⟩,
         ⟨none, (some 13), .idx 12 1 false (.t 9) (.t 10), []⟩,
         ⟨none, (some 7), .mov (.t 12), []⟩,
         ⟨none, (some 8), .mov (.t 13), []⟩])
       (.reg [3] [
         ⟨none, (some 14), .mov (.t 7), []⟩,
         ⟨none, (some 15), .mov (.t 2), []⟩,
         ⟨none, (some 16), .mov (.t 8), []⟩,
         ⟨none, (some 17), .mov (.t 7), []⟩,
         ⟨none, (some 18), .adrI 4 none 12 1 (.t 17), []⟩,
         ⟨none, (some 19), .ldV 4 (some 18) 1 false, []⟩,
         ⟨none, (some 20), .callv (.t 15) [.t 16, .t 19], []⟩,
         ⟨none, (some 21), .adrI 3 none 12 1 (.t 14), []⟩,
         ⟨none, (some 3), .stV 3 (some 21) 1 (.t 20), []⟩])))
     (.reg [10] [
       ⟨none, (some 22), .bin .add (.t 10) (.c (.int .i64 1)), []⟩,
       ⟨none, (some 10), .mov (.t 22), []⟩]))))
def k443 : Cd :=
  (.seq
   (.reg [3, 4, 6] [
     ⟨none, (some 3), .mov (.t 0), []⟩,
     ⟨none, (some 4), .mov (.t 1), []⟩,
     ⟨none, (some 6), .zero true (zs 12 (.int .u16 0)), []⟩])
   (.seq
    (.seq
     (.reg [9, 10] [
       ⟨none, (some 9), .ldV 3 none 12 true, []⟩,
       ⟨none, (some 10), .mov (.c (.int .i64 0)), []⟩])
     (.block 0
      (.loop b443_1)))
    (.seq
     (.reg [6] [
       ⟨none, (some 23), .ldV 3 none 12 true, []⟩,
       ⟨none, (some 6), .stV 6 none 12 (.t 23), []⟩])
     .ret)))
def c443 : Fn := { np := 3, nt := 24, kind := .pure, res := [.v 6 12 true], body := k443 }

/- impl.InvertFrame$1 -/
def k444 : Cd :=
  (.seq
   (.reg [4] [
     ⟨none, (some 4), .mov (.c (.int .u16 0)), []⟩])
   (.seq
    (.reg [4] [
      ⟨none, (some 5), .mov (.t 0), []⟩,
      ⟨none, (some 6), .bin .andNot (.c (.int .u16 4095)) (.t 5), []⟩,
      ⟨none, (some 4), .mov (.t 6), []⟩])
    .ret))
def c444 : Fn := { np := 2, nt := 7, kind := .pure, res := [.t 4], body := k444 }

/- slices.ContainsFunc[[]uint16,uint16] -/
def k445 : Cd :=
  (.seq
   (.reg [4] [
     ⟨none, (some 4), .mov (.c (.bool false)), []⟩])
   (.seq
    (.reg [4] [
      ⟨none, (some 5), .mov (.t 0), []⟩,
      ⟨none, (some 6), .mov (.t 1), []⟩,
      ⟨none, (some 7), .call true 547 [.t 5, .t 6], []⟩,
      ⟨none, (some 8), .bin .geq (.t 7) (.c (.int .i64 0)), []⟩,
      ⟨none, (some 4), .mov (.t 8), []⟩])
    .ret))
def c445 : Fn := { np := 2, nt := 9, kind := .pure, res := [.t 4], body := k445 }

/- impl.ValidFrame$1 -/
def k446 : Cd :=
  (.seq
   (.reg [2] [
     ⟨none, (some 2), .mov (.c (.bool false)), []⟩])
   (.seq
    (.reg [2] [
      ⟨none, (some 3), .mov (.t 0), []⟩,
      ⟨none, (some 4), .bin .gtr (.t 3) (.c (.int .u16 4095)), []⟩,
      ⟨none, (some 2), .mov (.t 4), []⟩])
    .ret))
def c446 : Fn := { np := 1, nt := 5, kind := .pure, res := [.t 2], body := k446 }

/- impl.RollFrame$1 -/
def k447 : Cd :=
  (.seq
   (.reg [7] [
     ⟨none, (some 7), .mov (.c (.bool false)), []⟩])
   (.seq
    (.reg [7] [
      ⟨none, (some 8), .ld 12 true (.t 2), []⟩,
      ⟨none, (some 9), .mov (.t 0), []⟩,
      ⟨none, (some 10), .ld 1 false (.t 3), []⟩,
      ⟨none, (some 11), .bin .sub (.t 9) (.t 10), []⟩,
      ⟨none, (some 12), .bin .add (.t 11) (.c (.int .i64 24)), []⟩,
      ⟨none, (some 13), .bin .rem (.t 12) (.c (.int .i64 12)), []⟩,
      ⟨none, (some 14), .mov (.t 1), []⟩,
      ⟨none, (some 15), .ld 1 false (.t 4), []⟩,
      ⟨none, (some 16), .bin .sub (.t 14) (.t 15), []⟩,
      ⟨none, (some 17), .bin .add (.t 16) (.c (.int .i64 24)), []⟩,
      ⟨none, (some 18), .bin .rem (.t 17) (.c (.int .i64 12)), []⟩,
      ⟨none, (some 19), .call true 395 [.t 8, .t 13, .t 18], []⟩,
      ⟨none, (some 7), .mov (.t 19), []⟩])
    .ret))
def c447 : Fn := { np := 5, nt := 20, kind := .pure, res := [.t 7], body := k447 }

/- impl.checkPlace -/
def k448 : Cd :=
  (.seq
   (.reg [3, 6] [
     ⟨none, (some 3), .mov (.t 0), []⟩,
     ⟨none, (some 6), .mov (.c (.int .i64 0)), []⟩])
   (.seq
    (.block 0
     (.seq
      (.reg [7] [
        ⟨none, (some 8), .ldV 3 none 12 true, []⟩,
        ⟨none, (some 9), .call true 234 [.t 8], []⟩,
        ⟨none, (some 10), .un .not (.t 9), []⟩,
        ⟨none, (some 7), .mov (.t 10), []⟩])
      (.cond (.t 7)
       (.seq
        (.reg [6] [
          ⟨none, (some 6), .mov (.c (.int .i64 1)), []⟩])
        .ret)
       (.seq
        (.reg [11] [
          ⟨none, (some 12), .mov (.t 1), []⟩,
          ⟨none, (some 13), .mov (.t 2), []⟩,
          ⟨none, (some 14), .call true 345 [.t 12, .t 13], []⟩,
          ⟨none, (some 15), .un .not (.t 14), []⟩,
          ⟨none, (some 11), .mov (.t 15), []⟩])
        (.cond (.t 11)
         (.seq
          (.reg [6] [
            ⟨none, (some 6), .mov (.c (.int .i64 2)), []⟩])
          .ret)
         .skip)))))
    (.seq
     (.reg [6] [
       ⟨none, (some 6), .mov (.c (.int .i64 0)), []⟩])
     .ret)))
def c448 : Fn := { np := 3, nt := 16, kind := .pure, res := [.t 6], body := k448 }

/- (impl.Frame).dots -/
def b449_1 : Cd :=
  (.seq
   (.reg [11] [
     ⟨none, (some 11), .bin .lss (.t 10) (.c (.int .i64 12)), []⟩])
   (.seq
    (.cond (.t 11)
     .skip
     (.exit 2))
    (.seq
     (.block 3
      (.seq
       (.reg [5] [
         ⟨none, (some 12), .mov (.t 10), []⟩,
         ⟨none, (some 5), .mov (.t 12), []⟩])
       (.seq
        (.reg [16] [
          ⟨none, (some 13), .ldV 1 none 12 true, []⟩,
          ⟨none, (some 14), .mov (.t 5), []⟩,
          ⟨none, (some 15), .mov (.t 4), []⟩,
          ⟨none, (some 16), .call true 395 [.t 13, .t 14, .t 15], []⟩])
        (.cond (.t 16)
         (.reg [3] [
           ⟨none, (some 17), .mov (.t 3), []⟩,
           ⟨none, (some 18), .mov (.t 5), []⟩,
           ⟨none, (some 19), .conv .i8 (.t 18), []⟩,
           ⟨none, (some 20), .mov (.t 4), []⟩,
           ⟨none, (some 21), .conv .i8 (.t 20), []⟩,
           ⟨none, (some 22), .agg [.int .i8 0, .int .i8 0] [(0, 1, (.t 19)), (1, 1, (.t 21))], []⟩,
           ⟨none, (some 23), .bldS 2 1 [.int .i8 0, .int .i8 0] [(0, 2, (.t 22))], []⟩,
           ⟨none, (some 24), .app 2 2 (.t 17) (.t 23), []⟩,
           ⟨none, (some 3), .mov (.t 24), []⟩])
         .skip))))
     (.reg [10] [
       ⟨none, (some 25), .bin .add (.t 10) (.c (.int .i64 1)), []⟩,
       ⟨none, (some 10), .mov (.t 25), []⟩]))))
def b449_2 : Cd :=
  (.seq
   (.reg [8] [
     ⟨none, (some 8), .bin .lss (.t 7) (.c (.int .i64 12)), []⟩])
   (.seq
    (.cond (.t 8)
     .skip
     (.exit 0))
    (.seq
     (.block 1
      (.seq
       (.reg [4] [
         ⟨none, (some 9), .mov (.t 7), []⟩,
         ⟨none, (some 4), .mov (.t 9), []⟩])
       (.seq
        (.reg [10] [
          ⟨none, (some 10), .mov (.c (.int .i64 0)), []⟩])
        (.block 2
         (.loop b449_1)))))
     (.reg [7] [
       ⟨none, (some 26), .bin .add (.t 7) (.c (.int .i64 1)), []⟩,
       ⟨none, (some 7), .mov (.t 26), []⟩]))))
def k449 : Cd :=
  (.seq
   (.reg [1, 2] [
     ⟨none, (some 1), .mov (.t 0), []⟩,
     ⟨none, (some 2), .mov (.c (.slice none 0 0)), []⟩])
   (.seq
    (.reg [3] [
      ⟨none, (some 6), .bldS 2 0 [.int .i8 0, .int .i8 0] [], []⟩,
      ⟨none, (some 3), .mov (.t 6), []⟩])
    (.seq
     (.seq
      (.reg [7] [
        ⟨none, (some 7), .mov (.c (.int .i64 0)), []⟩])
      (.block 0
       (.loop b449_2)))
     (.seq
      (.reg [2] [
        ⟨none, (some 27), .mov (.t 3), []⟩,
        ⟨none, (some 2), .mov (.t 27), []⟩])
      .ret))))
def c449 : Fn := { np := 1, nt := 28, kind := .pure, res := [.t 2], body := k449 }

/- spec.l01Has -/
def k456 : Cd :=
  (.seq
   (.reg [6] [
     ⟨none, (some 6), .mov (.c (.bool false)), []⟩])
   (.seq
    (.reg [6] [
      ⟨none, (some 7), .mov (.t 1), []⟩,
      ⟨none, (some 8), .mov (.t 2), []⟩,
      ⟨none, (some 9), .call true 342 [.t 7, .t 8], []⟩,
      ⟨none, (some 10), .mov (.t 9), []⟩,
      ⟨(some (10, true)), (some 11), .mov (.t 0), []⟩,
      ⟨(some (10, true)), (some 12), .mov (.t 2), []⟩,
      ⟨(some (10, true)), (some 13), .nil (.t 11), []⟩,
      ⟨(some (10, true)), (some 14), .idxP 12 1 (.t 13) (.t 12), []⟩,
      ⟨(some (10, true)), (some 15), .ld 1 false (.t 14), []⟩,
      ⟨(some (10, true)), (some 16), .mov (.t 1), []⟩,
      ⟨(some (10, true)), (some 17), .conv .u64 (.t 16), []⟩,
      ⟨(some (10, true)), (some 18), .bin .shr (.t 15) (.t 17), []⟩,
      ⟨(some (10, true)), (some 19), .bin .rem (.t 18) (.c (.int .u16 2)), []⟩,
      ⟨(some (10, true)), (some 20), .bin .eql (.t 19) (.c (.int .u16 1)), []⟩,
      ⟨none, (some 21), .pick (.t 10) (.t 20) (.c (.bool false)), []⟩,
      ⟨none, (some 6), .mov (.t 21), []⟩])
    .ret))
def c456 : Fn := { np := 3, nt := 22, kind := .pure, res := [.t 6], body := k456 }

/- (*spec.l00Src).pick -/
def k459 : Cd :=
  (.seq
   (.reg [4] [
     ⟨none, (some 4), .mov (.c (.int .i64 0)), []⟩])
   (.seq
    (.seq
     (.reg [7] [
       ⟨none, (some 6), .mov (.t 1), []⟩,
       ⟨none, (some 7), .bin .leq (.t 6) (.c (.int .i64 1)), []⟩])
     (.cond (.t 7)
      (.seq
       (.reg [4] [
         ⟨none, (some 4), .mov (.c (.int .i64 0)), []⟩])
       .ret)
      .skip))
    (.seq
     (.reg [5] [
       ⟨none, (some 8), .mov (.t 0), []⟩,
       ⟨none, (some 9), .call false 550 [.t 8], []⟩,
       ⟨none, (some 5), .mov (.t 9), []⟩])
     (.seq
      (.seq
       (.reg [11] [
         ⟨none, (some 10), .mov (.t 1), []⟩,
         ⟨none, (some 11), .bin .gtr (.t 10) (.c (.int .i64 200)), []⟩])
       (.cond (.t 11)
        (.reg [5] [
          ⟨none, (some 12), .mov (.t 5), []⟩,
          ⟨none, (some 13), .bin .mul (.t 12) (.c (.int .i64 256)), []⟩,
          ⟨none, (some 14), .mov (.t 0), []⟩,
          ⟨none, (some 15), .call false 550 [.t 14], []⟩,
          ⟨none, (some 16), .bin .add (.t 13) (.t 15), []⟩,
          ⟨none, (some 5), .mov (.t 16), []⟩])
        .skip))
      (.seq
       (.reg [4] [
         ⟨none, (some 17), .mov (.t 5), []⟩,
         ⟨none, (some 18), .mov (.t 1), []⟩,
         ⟨none, (some 19), .bin .rem (.t 17) (.t 18), []⟩,
         ⟨none, (some 4), .mov (.t 19), []⟩])
       .ret)))))
def c459 : Fn := { np := 2, nt := 20, kind := .args, res := [.t 4], body := k459 }

/- slices.IndexFunc[[]impl.Frame,impl.Frame] -/
def b474_1 : Cd :=
  (.seq
   (.reg [9] [
     ⟨none, (some 9), .bin .lss (.t 8) (.t 7), []⟩])
   (.seq
    (.cond (.t 9)
     .skip
     (.exit 0))
    (.seq
     (.block 1
      (.seq
       (.reg [5] [
         ⟨none, (some 10), .mov (.t 8), []⟩,
         ⟨none, (some 5), .mov (.t 10), []⟩])
       (.seq
        (.reg [16] [
          ⟨none, (some 11), .mov (.t 1), []⟩,
          ⟨none, (some 12), .mov (.t 0), []⟩,
          ⟨none, (some 13), .mov (.t 5), []⟩,
          ⟨none, (some 14), .idxA 12 (.t 12) (.t 13), []⟩,
          ⟨none, (some 15), .ld 12 true (.t 14), []⟩,
          ⟨none, (some 16), .callv (.t 11) [.t 15], []⟩])
        (.cond (.t 16)
         (.seq
          (.reg [4] [
            ⟨none, (some 17), .mov (.t 5), []⟩,
            ⟨none, (some 4), .mov (.t 17), []⟩])
          .ret)
         .skip))))
     (.reg [8] [
       ⟨none, (some 18), .bin .add (.t 8) (.c (.int .i64 1)), []⟩,
       ⟨none, (some 8), .mov (.t 18), []⟩]))))
def k474 : Cd :=
  (.seq
   (.reg [4] [
     ⟨none, (some 4), .mov (.c (.int .i64 0)), []⟩])
   (.seq
    (.seq
     (.reg [7, 8] [
       ⟨none, (some 6), .mov (.t 0), []⟩,
       ⟨none, (some 7), .len (.t 6), []⟩,
       ⟨none, (some 8), .mov (.c (.int .i64 0)), []⟩])
     (.block 0
      (.loop b474_1)))
    (.seq
     (.reg [4] [
       ⟨none, (some 4), .mov (.c (.int .i64 (-1))), []⟩])
     .ret)))
def c474 : Fn := { np := 2, nt := 19, kind := .pure, res := [.t 4], body := k474 }

/- (impl.Frame).join$1 -/
def k502 : Cd :=
  (.seq
   (.reg [4] [
     ⟨none, (some 4), .mov (.c (.int .u16 0)), []⟩])
   (.seq
    (.reg [4] [
      ⟨none, (some 5), .mov (.t 0), []⟩,
      ⟨none, (some 6), .mov (.t 1), []⟩,
      ⟨none, (some 7), .bin .or (.t 5) (.t 6), []⟩,
      ⟨none, (some 4), .mov (.t 7), []⟩])
    .ret))
def c502 : Fn := { np := 2, nt := 8, kind := .pure, res := [.t 4], body := k502 }

/- (impl.Frame).meet$1 -/
def k503 : Cd :=
  (.seq
   (.reg [4] [
     ⟨none, (some 4), .mov (.c (.int .u16 0)), []⟩])
   (.seq
    (.reg [4] [
      ⟨none, (some 5), .mov (.t 0), []⟩,
      ⟨none, (some 6), .mov (.t 1), []⟩,
      ⟨none, (some 7), .bin .and (.t 5) (.t 6), []⟩,
      ⟨none, (some 4), .mov (.t 7), []⟩])
    .ret))
def c503 : Fn := { np := 2, nt := 8, kind := .pure, res := [.t 4], body := k503 }

/- (impl.Frame).less$1 -/
def k504 : Cd :=
  (.seq
   (.reg [4] [
     ⟨none, (some 4), .mov (.c (.int .u16 0)), []⟩])
   (.seq
    (.reg [4] [
      ⟨none, (some 5), .mov (.t 0), []⟩,
      ⟨none, (some 6), .mov (.t 1), []⟩,
      ⟨none, (some 7), .bin .andNot (.t 5) (.t 6), []⟩,
      ⟨none, (some 4), .mov (.t 7), []⟩])
    .ret))
def c504 : Fn := { np := 2, nt := 8, kind := .pure, res := [.t 4], body := k504 }

/- slices.ContainsFunc[[]impl.Frame,impl.Frame] -/
def k505 : Cd :=
  (.seq
   (.reg [4] [
     ⟨none, (some 4), .mov (.c (.bool false)), []⟩])
   (.seq
    (.reg [4] [
      ⟨none, (some 5), .mov (.t 0), []⟩,
      ⟨none, (some 6), .mov (.t 1), []⟩,
      ⟨none, (some 7), .call true 474 [.t 5, .t 6], []⟩,
      ⟨none, (some 8), .bin .geq (.t 7) (.c (.int .i64 0)), []⟩,
      ⟨none, (some 4), .mov (.t 8), []⟩])
    .ret))
def c505 : Fn := { np := 2, nt := 9, kind := .pure, res := [.t 4], body := k505 }

/- impl.areFrames$1 -/
def k506 : Cd :=
  (.seq
   (.reg [1, 2] [
     ⟨none, (some 1), .mov (.t 0), []⟩,
     ⟨none, (some 2), .mov (.c (.bool false)), []⟩])
   (.seq
    (.reg [2] [
      ⟨none, (some 3), .ldV 1 none 12 true, []⟩,
      ⟨none, (some 4), .call true 234 [.t 3], []⟩,
      ⟨none, (some 5), .un .not (.t 4), []⟩,
      ⟨none, (some 2), .mov (.t 5), []⟩])
    .ret))
def c506 : Fn := { np := 1, nt := 6, kind := .pure, res := [.t 2], body := k506 }

/- (impl.Frame).differ$1 -/
def k512 : Cd :=
  (.seq
   (.reg [4] [
     ⟨none, (some 4), .mov (.c (.int .u16 0)), []⟩])
   (.seq
    (.reg [4] [
      ⟨none, (some 5), .mov (.t 0), []⟩,
      ⟨none, (some 6), .mov (.t 1), []⟩,
      ⟨none, (some 7), .bin .xor (.t 5) (.t 6), []⟩,
      ⟨none, (some 4), .mov (.t 7), []⟩])
    .ret))
def c512 : Fn := { np := 2, nt := 8, kind := .pure, res := [.t 4], body := k512 }

/- (*spec.l00Src).one -/
def k513 : Cd :=
  (.seq
   (.reg [4] [
     ⟨none, (some 4), .mov (.c (.bool false)), []⟩])
   (.seq
    (.reg [4] [
      ⟨none, (some 5), .mov (.t 0), []⟩,
      ⟨none, (some 6), .mov (.t 1), []⟩,
      ⟨none, (some 7), .call false 459 [.t 5, .t 6], []⟩,
      ⟨none, (some 8), .bin .eql (.t 7) (.c (.int .i64 0)), []⟩,
      ⟨none, (some 4), .mov (.t 8), []⟩])
    .ret))
def c513 : Fn := { np := 2, nt := 9, kind := .args, res := [.t 4], body := k513 }

/- math/bits.OnesCount16 -/
def k530 : Cd :=
  (.seq
   (.reg [2] [
     ⟨none, (some 2), .mov (.c (.int .i64 0)), []⟩])
   (.seq
    (.reg [2] [
      ⟨none, (some 3), .mov (.t 0), []⟩,
      ⟨none, (some 4), .bin .shr (.t 3) (.c (.int .u64 8)), []⟩,
      ⟨none, (some 5), .idxs (.c (.string ⟨#[0, 1, 1, 2, 1, 2, 2, 3, 1, 2, 2, 3, 2, 3, 3, 4, 1, 2, 2, 3, 2, 3, 3, 4, 2, 3, 3, 4, 3, 4, 4, 5, 1, 2, 2, 3, 2, 3, 3, 4, 2, 3, 3, 4, 3, 4, 4, 5, 2, 3, 3, 4, 3, 4, 4, 5, 3, 4, 4, 5, 4, 5, 5, 6, 1, 2, 2, 3, 2, 3, 3, 4, 2, 3, 3, 4, 3, 4, 4, 5, 2, 3, 3, 4, 3, 4, 4, 5, 3, 4, 4, 5, 4, 5, 5, 6, 2, 3, 3, 4, 3, 4, 4, 5, 3, 4, 4, 5, 4, 5, 5, 6, 3, 4, 4, 5, 4, 5, 5, 6, 4, 5, 5, 6, 5, 6, 6, 7, 1, 2, 2, 3, 2, 3, 3, 4, 2, 3, 3, 4, 3, 4, 4, 5, 2, 3, 3, 4, 3, 4, 4, 5, 3, 4, 4, 5, 4, 5, 5, 6, 2, 3, 3, 4, 3, 4, 4, 5, 3, 4, 4, 5, 4, 5, 5, 6, 3, 4, 4, 5, 4, 5, 5, 6, 4, 5, 5, 6, 5, 6, 6, 7, 2, 3, 3, 4, 3, 4, 4, 5, 3, 4, 4, 5, 4, 5, 5, 6, 3, 4, 4, 5, 4, 5, 5, 6, 4, 5, 5, 6, 5, 6, 6, 7, 3, 4, 4, 5, 4, 5, 5, 6, 4, 5, 5, 6, 5, 6, 6, 7, 4, 5, 5, 6, 5, 6, 6, 7, 5, 6, 6, 7, 6, 7, 7, 8]⟩)) (.t 4), []⟩,
      ⟨none, (some 6), .mov (.t 0), []⟩,
      ⟨none, (some 7), .bin .and (.t 6) (.c (.int .u16 255)), []⟩,
      ⟨none, (some 8), .idxs (.c (.string ⟨#[0, 1, 1, 2, 1, 2, 2, 3, 1, 2, 2, 3, 2, 3, 3, 4, 1, 2, 2, 3, 2, 3, 3, 4, 2, 3, 3, 4, 3, 4, 4, 5, 1, 2, 2, 3, 2, 3, 3, 4, 2, 3, 3, 4, 3, 4, 4, 5, 2, 3, 3, 4, 3, 4, 4, 5, 3, 4, 4, 5, 4, 5, 5, 6, 1, 2, 2, 3, 2, 3, 3, 4, 2, 3, 3, 4, 3, 4, 4, 5, 2, 3, 3, 4, 3, 4, 4, 5, 3, 4, 4, 5, 4, 5, 5, 6, 2, 3, 3, 4, 3, 4, 4, 5, 3, 4, 4, 5, 4, 5, 5, 6, 3, 4, 4, 5, 4, 5, 5, 6, 4, 5, 5, 6, 5, 6, 6, 7, 1, 2, 2, 3, 2, 3, 3, 4, 2, 3, 3, 4, 3, 4, 4, 5, 2, 3, 3, 4, 3, 4, 4, 5, 3, 4, 4, 5, 4, 5, 5, 6, 2, 3, 3, 4, 3, 4, 4, 5, 3, 4, 4, 5, 4, 5, 5, 6, 3, 4, 4, 5, 4, 5, 5, 6, 4, 5, 5, 6, 5, 6, 6, 7, 2, 3, 3, 4, 3, 4, 4, 5, 3, 4, 4, 5, 4, 5, 5, 6, 3, 4, 4, 5, 4, 5, 5, 6, 4, 5, 5, 6, 5, 6, 6, 7, 3, 4, 4, 5, 4, 5, 5, 6, 4, 5, 5, 6, 5, 6, 6, 7, 4, 5, 5, 6, 5, 6, 6, 7, 5, 6, 6, 7, 6, 7, 7, 8]⟩)) (.t 7), []⟩,
      ⟨none, (some 9), .bin .add (.t 5) (.t 8), []⟩,
      ⟨none, (some 10), .conv .i64 (.t 9), []⟩,
      ⟨none, (some 2), .mov (.t 10), []⟩])
    .ret))
def c530 : Fn := { np := 1, nt := 11, kind := .pure, res := [.t 2], body := k530 }

/- slices.IndexFunc[[]uint16,uint16] -/
def b547_1 : Cd :=
  (.seq
   (.reg [9] [
     ⟨none, (some 9), .bin .lss (.t 8) (.t 7), []⟩])
   (.seq
    (.cond (.t 9)
     .skip
     (.exit 0))
    (.seq
     (.block 1
      (.seq
       (.reg [5] [
         ⟨none, (some 10), .mov (.t 8), []⟩,
         ⟨none, (some 5), .mov (.t 10), []⟩])
       (.seq
        (.reg [16] [
          ⟨none, (some 11), .mov (.t 1), []⟩,
          ⟨none, (some 12), .mov (.t 0), []⟩,
          ⟨none, (some 13), .mov (.t 5), []⟩,
          ⟨none, (some 14), .idxA 1 (.t 12) (.t 13), []⟩,
          ⟨none, (some 15), .ld 1 false (.t 14), []⟩,
          ⟨none, (some 16), .callv (.t 11) [.t 15], []⟩])
        (.cond (.t 16)
         (.seq
          (.reg [4] [
            ⟨none, (some 17), .mov (.t 5), []⟩,
            ⟨none, (some 4), .mov (.t 17), []⟩])
          .ret)
         .skip))))
     (.reg [8] [
       ⟨none, (some 18), .bin .add (.t 8) (.c (.int .i64 1)), []⟩,
       ⟨none, (some 8), .mov (.t 18), []⟩]))))
def k547 : Cd :=
  (.seq
   (.reg [4] [
     ⟨none, (some 4), .mov (.c (.int .i64 0)), []⟩])
   (.seq
    (.seq
     (.reg [7, 8] [
       ⟨none, (some 6), .mov (.t 0), []⟩,
       ⟨none, (some 7), .len (.t 6), []⟩,
       ⟨none, (some 8), .mov (.c (.int .i64 0)), []⟩])
     (.block 0
      (.loop b547_1)))
    (.seq
     (.reg [4] [
       ⟨none, (some 4), .mov (.c (.int .i64 (-1))), []⟩])
     .ret)))
def c547 : Fn := { np := 2, nt := 19, kind := .pure, res := [.t 4], body := k547 }

/- (*spec.l00Src).next -/
def k550 : Cd :=
  (.seq
   (.reg [2] [
     ⟨none, (some 2), .mov (.c (.int .i64 0)), []⟩])
   (.seq
    (.reg [3] [
      ⟨none, (some 3), .mov (.c (.int .i64 0)), []⟩])
    (.seq
     (.seq
      (.reg [13] [
        ⟨none, (some 4), .mov (.t 0), []⟩,
        ⟨none, (some 5), .nil (.t 4), []⟩,
        ⟨none, (some 6), .fldP 1 (.t 5), []⟩,
        ⟨none, (some 7), .ld 1 false (.t 6), []⟩,
        ⟨none, (some 8), .mov (.t 0), []⟩,
        ⟨none, (some 9), .nil (.t 8), []⟩,
        ⟨none, (some 10), .fldP 0 (.t 9), []⟩,
        ⟨none, (some 11), .ld 1 false (.t 10), []⟩,
        ⟨none, (some 12), .len (.t 11), []⟩,
        ⟨none, (some 13), .bin .lss (.t 7) (.t 12), []⟩])
      (.cond (.t 13)
       (.reg [3] [
         ⟨none, (some 14), .mov (.t 0), []⟩,
         ⟨none, (some 15), .nil (.t 14), []⟩,
         ⟨none, (some 16), .fldP 0 (.t 15), []⟩,
         ⟨none, (some 17), .ld 1 false (.t 16), []⟩,
         ⟨none, (some 18), .mov (.t 0), []⟩,
         ⟨none, (some 19), .nil (.t 18), []⟩,
         ⟨none, (some 20), .fldP 1 (.t 19), []⟩,
         ⟨none, (some 21), .ld 1 false (.t 20), []⟩,
         ⟨none, (some 22), .idxA 1 (.t 17) (.t 21), []⟩,
         ⟨none, (some 23), .ld 1 false (.t 22), []⟩,
         ⟨none, (some 24), .conv .i64 (.t 23), []⟩,
         ⟨none, (some 3), .mov (.t 24), []⟩])
       .skip))
     (.seq
      (.reg [] [
        ⟨none, (some 25), .mov (.t 0), []⟩,
        ⟨none, (some 26), .nil (.t 25), []⟩,
        ⟨none, (some 27), .fldP 1 (.t 26), []⟩,
        ⟨none, (some 28), .ld 1 false (.t 27), []⟩,
        ⟨none, (some 29), .bin .add (.t 28) (.c (.int .i64 1)), []⟩,
        ⟨none, (some 30), .nil (.t 25), []⟩,
        ⟨none, (some 31), .fldP 1 (.t 30), []⟩,
        ⟨none, none, .st 1 (.t 31) (.t 29), []⟩])
      (.seq
       (.reg [] [
         ⟨none, (some 32), .mov (.t 0), []⟩,
         ⟨none, (some 33), .mov (.t 0), []⟩,
         ⟨none, (some 34), .nil (.t 33), []⟩,
         ⟨none, (some 35), .fldP 2 (.t 34), []⟩,
         ⟨none, (some 36), .ld 1 false (.t 35), []⟩,
         ⟨none, (some 37), .bin .mul (.t 36) (.c (.int .u64 6364136223846793005)), []⟩,
         ⟨none, (some 38), .mov (.t 3), []⟩,
         ⟨none, (some 39), .conv .u64 (.t 38), []⟩,
         ⟨none, (some 40), .bin .add (.t 37) (.t 39), []⟩,
         ⟨none, (some 41), .bin .add (.t 40) (.c (.int .u64 1442695040888963407)), []⟩,
         ⟨none, (some 42), .nil (.t 32), []⟩,
         ⟨none, (some 43), .fldP 2 (.t 42), []⟩,
         ⟨none, none, .st 1 (.t 43) (.t 41), []⟩])
       (.seq
        (.seq
         (.reg [53] [
           ⟨none, (some 44), .mov (.t 0), []⟩,
           ⟨none, (some 45), .nil (.t 44), []⟩,
           ⟨none, (some 46), .fldP 1 (.t 45), []⟩,
           ⟨none, (some 47), .ld 1 false (.t 46), []⟩,
           ⟨none, (some 48), .mov (.t 0), []⟩,
           ⟨none, (some 49), .nil (.t 48), []⟩,
           ⟨none, (some 50), .fldP 0 (.t 49), []⟩,
           ⟨none, (some 51), .ld 1 false (.t 50), []⟩,
           ⟨none, (some 52), .len (.t 51), []⟩,
           ⟨none, (some 53), .bin .leq (.t 47) (.t 52), []⟩])
         (.cond (.t 53)
          (.seq
           (.reg [2] [
             ⟨none, (some 54), .mov (.t 3), []⟩,
             ⟨none, (some 2), .mov (.t 54), []⟩])
           .ret)
          .skip))
        (.seq
         (.reg [2] [
           ⟨none, (some 55), .mov (.t 0), []⟩,
           ⟨none, (some 56), .nil (.t 55), []⟩,
           ⟨none, (some 57), .fldP 2 (.t 56), []⟩,
           ⟨none, (some 58), .ld 1 false (.t 57), []⟩,
           ⟨none, (some 59), .bin .shr (.t 58) (.c (.int .u64 40)), []⟩,
           ⟨none, (some 60), .bin .and (.t 59) (.c (.int .u64 255)), []⟩,
           ⟨none, (some 61), .conv .i64 (.t 60), []⟩,
           ⟨none, (some 2), .mov (.t 61), []⟩])
         .ret)))))))
def c550 : Fn := { np := 1, nt := 62, kind := .args, res := [.t 2], body := k550 }


end Fb
