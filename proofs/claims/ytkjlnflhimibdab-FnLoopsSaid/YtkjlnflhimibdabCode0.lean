/- The functions of the law, in the small language. -/
import Derived.Test.YtkjlnflhimibdabDen
set_option linter.unusedVariables false
set_option linter.unusedSimpArgs false
namespace Fb
open Go

/- laws.FnLoops -/
def b17_1 : Cd :=
  (.seq
   (.seq
    (.reg [198] [
      ⟨none, (some 193), .mov (.t 23), []⟩,
      ⟨none, (some 194), .mov (.t 22), []⟩,
      ⟨none, (some 195), .bin .add (.t 193) (.t 194), []⟩,
      ⟨none, (some 196), .mov (.t 5), []⟩,
      ⟨none, (some 197), .len (.t 196), []⟩,
      ⟨none, (some 198), .bin .leq (.t 195) (.t 197), []⟩])
    (.cond (.t 198)
     .skip
     (.exit 2)))
   (.seq
    (.block 3
     (.seq
      (.reg [24, 25] [
        ⟨none, (some 202), .mov (.t 5), []⟩,
        ⟨none, (some 203), .mov (.t 23), []⟩,
        ⟨none, (some 204), .mov (.t 22), []⟩,
        ⟨none, (some 205), .bin .add (.t 203) (.t 204), []⟩,
        ⟨none, (some 206), .bin .sub (.t 205) (.c (.int .i64 1)), []⟩,
        ⟨none, (some 207), .idxA 12 (.t 202) (.t 206), []⟩,
        ⟨none, (some 208), .ld 12 true (.t 207), []⟩,
        ⟨none, (some 209), .mov (.t 5), []⟩,
        ⟨none, (some 210), .mov (.t 23), []⟩,
        ⟨none, (some 211), .idxA 12 (.t 209) (.t 210), []⟩,
        ⟨none, (some 212), .ld 12 true (.t 211), []⟩,
        ⟨none, (some 213), .call true 95 [.t 208, .t 212], []⟩,
        ⟨none, (some 201), .mov (.t 213), []⟩,
        ⟨none, (some 214), .ext (.t 201) 0, []⟩,
        ⟨none, (some 215), .ext (.t 201) 1, []⟩,
        ⟨none, (some 24), .mov (.t 214), []⟩,
        ⟨none, (some 25), .mov (.t 215), []⟩])
      (.seq
       (.reg [242] [
         ⟨none, (some 216), .mov (.t 25), []⟩,
         ⟨none, (some 217), .bin .neq (.t 216) (.c (.int .i64 0)), []⟩,
         ⟨none, (some 218), .mov (.t 217), []⟩,
         ⟨(some (218, false)), (some 219), .mov (.t 24), []⟩,
         ⟨(some (218, false)), (some 220), .mov (.t 14), []⟩,
         ⟨(some (218, false)), (some 221), .bin .lss (.t 219) (.t 220), []⟩,
         ⟨none, (some 222), .pick (.t 218) (.c (.bool true)) (.t 221), []⟩,
         ⟨none, (some 223), .mov (.t 222), []⟩,
         ⟨(some (223, false)), (some 224), .mov (.t 24), []⟩,
         ⟨(some (223, false)), (some 225), .mov (.t 14), []⟩,
         ⟨(some (223, false)), (some 226), .bin .eql (.t 224) (.t 225), []⟩,
         ⟨(some (223, false)), (some 227), .mov (.t 226), []⟩,
         ⟨(some (227, true)), (some 228), .mov (.t 22), []⟩,
         ⟨(some (227, true)), (some 229), .mov (.t 13), []⟩,
         ⟨(some (227, true)), (some 230), .bin .gtr (.t 228) (.t 229), []⟩,
         ⟨(some (227, true)), (some 231), .mov (.t 230), []⟩,
         ⟨(some (231, false)), (some 232), .mov (.t 22), []⟩,
         ⟨(some (231, false)), (some 233), .mov (.t 13), []⟩,
         ⟨(some (231, false)), (some 234), .bin .eql (.t 232) (.t 233), []⟩,
         ⟨(some (231, false)), (some 235), .mov (.t 234), []⟩,
         ⟨(some (235, true)), (some 236), .mov (.t 23), []⟩,
         ⟨(some (235, true)), (some 237), .mov (.t 12), []⟩,
         ⟨(some (235, true)), (some 238), .bin .lss (.t 236) (.t 237), []⟩,
         ⟨(some (231, false)), (some 239), .pick (.t 235) (.t 238) (.c (.bool false)), []⟩,
         ⟨(some (227, true)), (some 240), .pick (.t 231) (.c (.bool true)) (.t 239), []⟩,
         ⟨(some (223, false)), (some 241), .pick (.t 227) (.t 240) (.c (.bool false)), []⟩,
         ⟨none, (some 242), .pick (.t 223) (.c (.bool true)) (.t 241), []⟩])
       (.cond (.t 242)
        (.seq
         (.reg [4] [
           ⟨none, (some 4), .mov (.c (.bool false)), []⟩])
         .ret)
        .skip))))
    (.reg [23] [
      ⟨none, (some 199), .mov (.t 23), []⟩,
      ⟨none, (some 200), .bin .add (.t 199) (.c (.int .i64 1)), []⟩,
      ⟨none, (some 23), .mov (.t 200), []⟩])))
def b17_2 : Cd :=
  (.seq
   (.seq
    (.reg [190] [
      ⟨none, (some 187), .mov (.t 22), []⟩,
      ⟨none, (some 188), .mov (.t 5), []⟩,
      ⟨none, (some 189), .len (.t 188), []⟩,
      ⟨none, (some 190), .bin .leq (.t 187) (.t 189), []⟩])
    (.cond (.t 190)
     .skip
     (.exit 0)))
   (.seq
    (.block 1
     (.seq
      (.reg [23] [
        ⟨none, (some 23), .mov (.c (.int .i64 0)), []⟩])
      (.block 2
       (.loop b17_1))))
    (.reg [22] [
      ⟨none, (some 191), .mov (.t 22), []⟩,
      ⟨none, (some 192), .bin .add (.t 191) (.c (.int .i64 1)), []⟩,
      ⟨none, (some 22), .mov (.t 192), []⟩])))
def b17_3 : Cd :=
  (.seq
   (.seq
    (.reg [290] [
      ⟨none, (some 287), .mov (.t 35), []⟩,
      ⟨none, (some 288), .mov (.t 5), []⟩,
      ⟨none, (some 289), .len (.t 288), []⟩,
      ⟨none, (some 290), .bin .lss (.t 287) (.t 289), []⟩])
    (.cond (.t 290)
     .skip
     (.exit 6)))
   (.seq
    (.block 7
     (.seq
      (.reg [32] [
        ⟨none, (some 293), .mov (.t 34), []⟩,
        ⟨none, (some 294), .adrI 32 none 12 1 (.t 293), []⟩,
        ⟨none, (some 295), .ldV 32 (some 294) 1 false, []⟩,
        ⟨none, (some 296), .mov (.t 5), []⟩,
        ⟨none, (some 297), .mov (.t 35), []⟩,
        ⟨none, (some 298), .mov (.t 34), []⟩,
        ⟨none, (some 299), .idxA 12 (.t 296) (.t 297), []⟩,
        ⟨none, (some 300), .idxP 12 1 (.t 299) (.t 298), []⟩,
        ⟨none, (some 301), .ld 1 false (.t 300), []⟩,
        ⟨none, (some 302), .bin .and (.t 295) (.t 301), []⟩,
        ⟨none, (some 303), .adrI 32 none 12 1 (.t 293), []⟩,
        ⟨none, (some 32), .stV 32 (some 303) 1 (.t 302), []⟩])
      (.reg [33] [
        ⟨none, (some 304), .mov (.t 34), []⟩,
        ⟨none, (some 305), .adrI 33 none 12 1 (.t 304), []⟩,
        ⟨none, (some 306), .ldV 33 (some 305) 1 false, []⟩,
        ⟨none, (some 307), .mov (.t 5), []⟩,
        ⟨none, (some 308), .mov (.t 35), []⟩,
        ⟨none, (some 309), .mov (.t 34), []⟩,
        ⟨none, (some 310), .idxA 12 (.t 307) (.t 308), []⟩,
        ⟨none, (some 311), .idxP 12 1 (.t 310) (.t 309), []⟩,
        ⟨none, (some 312), .ld 1 false (.t 311), []⟩,
        ⟨none, (some 313), .bin .or (.t 306) (.t 312), []⟩,
        ⟨none, (some 314), .adrI 33 none 12 1 (.t 304), []⟩,
        ⟨none, (some 33), .stV 33 (some 314) 1 (.t 313), []⟩])))
    (.reg [35] [
      ⟨none, (some 291), .mov (.t 35), []⟩,
      ⟨none, (some 292), .bin .add (.t 291) (.c (.int .i64 1)), []⟩,
      ⟨none, (some 35), .mov (.t 292), []⟩])))
def b17_4 : Cd :=
  (.seq
   (.seq
    (.reg [282] [
      ⟨none, (some 281), .mov (.t 34), []⟩,
      ⟨none, (some 282), .bin .lss (.t 281) (.c (.int .i64 12)), []⟩])
    (.cond (.t 282)
     .skip
     (.exit 4)))
   (.seq
    (.block 5
     (.seq
      (.reg [32] [
        ⟨none, (some 285), .mov (.t 34), []⟩,
        ⟨none, (some 286), .adrI 32 none 12 1 (.t 285), []⟩,
        ⟨none, (some 32), .stV 32 (some 286) 1 (.c (.int .u16 4095)), []⟩])
      (.seq
       (.reg [35] [
         ⟨none, (some 35), .mov (.c (.int .i64 0)), []⟩])
       (.block 6
        (.loop b17_3)))))
    (.reg [34] [
      ⟨none, (some 283), .mov (.t 34), []⟩,
      ⟨none, (some 284), .bin .add (.t 283) (.c (.int .i64 1)), []⟩,
      ⟨none, (some 34), .mov (.t 284), []⟩])))
def b17_5 : Cd :=
  (.seq
   (.seq
    (.reg [330] [
      ⟨none, (some 329), .mov (.t 37), []⟩,
      ⟨none, (some 330), .bin .lss (.t 329) (.c (.int .i64 12)), []⟩])
    (.cond (.t 330)
     .skip
     (.exit 10)))
   (.seq
    (.block 11
     (.seq
      (.reg [358] [
        ⟨none, (some 333), .mov (.t 36), []⟩,
        ⟨none, (some 334), .bin .gtr (.t 333) (.c (.int .i64 0)), []⟩,
        ⟨none, (some 335), .mov (.t 334), []⟩,
        ⟨(some (335, true)), (some 336), .mov (.t 30), []⟩,
        ⟨(some (335, true)), (some 337), .mov (.t 36), []⟩,
        ⟨(some (335, true)), (some 338), .bin .sub (.t 337) (.c (.int .i64 1)), []⟩,
        ⟨(some (335, true)), (some 339), .mov (.t 37), []⟩,
        ⟨(some (335, true)), (some 340), .idxA 12 (.t 336) (.t 338), []⟩,
        ⟨(some (335, true)), (some 341), .idxP 12 1 (.t 340) (.t 339), []⟩,
        ⟨(some (335, true)), (some 342), .ld 1 false (.t 341), []⟩,
        ⟨(some (335, true)), (some 343), .mov (.t 5), []⟩,
        ⟨(some (335, true)), (some 344), .mov (.t 36), []⟩,
        ⟨(some (335, true)), (some 345), .bin .sub (.t 344) (.c (.int .i64 1)), []⟩,
        ⟨(some (335, true)), (some 346), .mov (.t 37), []⟩,
        ⟨(some (335, true)), (some 347), .idxA 12 (.t 343) (.t 345), []⟩,
        ⟨(some (335, true)), (some 348), .idxP 12 1 (.t 347) (.t 346), []⟩,
        ⟨(some (335, true)), (some 349), .ld 1 false (.t 348), []⟩,
        ⟨(some (335, true)), (some 350), .mov (.t 5), []⟩,
        ⟨(some (335, true)), (some 351), .mov (.t 36), []⟩,
        ⟨(some (335, true)), (some 352), .mov (.t 37), []⟩,
        ⟨(some (335, true)), (some 353), .idxA 12 (.t 350) (.t 351), []⟩,
        ⟨(some (335, true)), (some 354), .idxP 12 1 (.t 353) (.t 352), []⟩,
        ⟨(some (335, true)), (some 355), .ld 1 false (.t 354), []⟩,
        ⟨(some (335, true)), (some 356), .bin .andNot (.t 349) (.t 355), []⟩,
        ⟨(some (335, true)), (some 357), .bin .neq (.t 342) (.t 356), []⟩,
        ⟨none, (some 358), .pick (.t 335) (.t 357) (.c (.bool false)), []⟩])
      (.cond (.t 358)
       (.seq
        (.reg [4] [
          ⟨none, (some 4), .mov (.c (.bool false)), []⟩])
        .ret)
       .skip)))
    (.reg [37] [
      ⟨none, (some 331), .mov (.t 37), []⟩,
      ⟨none, (some 332), .bin .add (.t 331) (.c (.int .i64 1)), []⟩,
      ⟨none, (some 37), .mov (.t 332), []⟩])))
def b17_6 : Cd :=
  (.seq
   (.seq
    (.reg [326] [
      ⟨none, (some 323), .mov (.t 36), []⟩,
      ⟨none, (some 324), .mov (.t 5), []⟩,
      ⟨none, (some 325), .len (.t 324), []⟩,
      ⟨none, (some 326), .bin .lss (.t 323) (.t 325), []⟩])
    (.cond (.t 326)
     .skip
     (.exit 8)))
   (.seq
    (.block 9
     (.seq
      (.reg [37] [
        ⟨none, (some 37), .mov (.c (.int .i64 0)), []⟩])
      (.block 10
       (.loop b17_5))))
    (.reg [36] [
      ⟨none, (some 327), .mov (.t 36), []⟩,
      ⟨none, (some 328), .bin .add (.t 327) (.c (.int .i64 1)), []⟩,
      ⟨none, (some 36), .mov (.t 328), []⟩])))
def b17_7 : Cd :=
  (.seq
   (.seq
    (.reg [387] [
      ⟨none, (some 382), .mov (.t 38), []⟩,
      ⟨none, (some 383), .mov (.t 18), []⟩,
      ⟨none, (some 384), .bin .add (.t 382) (.t 383), []⟩,
      ⟨none, (some 385), .mov (.t 5), []⟩,
      ⟨none, (some 386), .len (.t 385), []⟩,
      ⟨none, (some 387), .bin .lss (.t 384) (.t 386), []⟩])
    (.cond (.t 387)
     .skip
     (.exit 12)))
   (.seq
    (.block 13
     (.seq
      (.reg [400] [
        ⟨none, (some 390), .mov (.t 5), []⟩,
        ⟨none, (some 391), .mov (.t 38), []⟩,
        ⟨none, (some 392), .idxA 12 (.t 390) (.t 391), []⟩,
        ⟨none, (some 393), .ld 12 true (.t 392), []⟩,
        ⟨none, (some 394), .mov (.t 5), []⟩,
        ⟨none, (some 395), .mov (.t 38), []⟩,
        ⟨none, (some 396), .mov (.t 18), []⟩,
        ⟨none, (some 397), .bin .add (.t 395) (.t 396), []⟩,
        ⟨none, (some 398), .idxA 12 (.t 394) (.t 397), []⟩,
        ⟨none, (some 399), .ld 12 true (.t 398), []⟩,
        ⟨none, (some 400), .eq (.a (rb 12 (some .u16))) true (.t 393) (.t 399), []⟩])
      (.cond (.t 400)
       (.seq
        (.reg [4] [
          ⟨none, (some 4), .mov (.c (.bool false)), []⟩])
        .ret)
       .skip)))
    (.reg [38] [
      ⟨none, (some 388), .mov (.t 38), []⟩,
      ⟨none, (some 389), .bin .add (.t 388) (.c (.int .i64 1)), []⟩,
      ⟨none, (some 38), .mov (.t 389), []⟩])))
def b17_8 : Cd :=
  (.seq
   (.seq
    (.reg [521] [
      ⟨none, (some 518), .mov (.t 55), []⟩,
      ⟨none, (some 519), .mov (.t 49), []⟩,
      ⟨none, (some 520), .len (.t 519), []⟩,
      ⟨none, (some 521), .bin .lss (.t 518) (.t 520), []⟩])
    (.cond (.t 521)
     .skip
     (.exit 16)))
   (.seq
    (.block 17
     (.reg [54] [
       ⟨none, (some 524), .mov (.t 54), []⟩,
       ⟨none, (some 525), .mov (.t 524), []⟩,
       ⟨(some (525, false)), (some 526), .mov (.t 49), []⟩,
       ⟨(some (525, false)), (some 527), .mov (.t 55), []⟩,
       ⟨(some (525, false)), (some 528), .idxA 1 (.t 526) (.t 527), []⟩,
       ⟨(some (525, false)), (some 529), .ld 1 false (.t 528), []⟩,
       ⟨(some (525, false)), (some 530), .mov (.t 44), []⟩,
       ⟨(some (525, false)), (some 531), .mov (.t 53), []⟩,
       ⟨(some (525, false)), (some 532), .idxA 1 (.t 530) (.t 531), []⟩,
       ⟨(some (525, false)), (some 533), .ld 1 false (.t 532), []⟩,
       ⟨(some (525, false)), (some 534), .bin .eql (.t 529) (.t 533), []⟩,
       ⟨(some (525, false)), (some 535), .mov (.t 534), []⟩,
       ⟨(some (535, true)), (some 536), .mov (.t 50), []⟩,
       ⟨(some (535, true)), (some 537), .mov (.t 55), []⟩,
       ⟨(some (535, true)), (some 538), .idxA 2 (.t 536) (.t 537), []⟩,
       ⟨(some (535, true)), (some 539), .ld 2 true (.t 538), []⟩,
       ⟨(some (535, true)), (some 540), .agg [.int .i8 0, .int .i8 0] [], []⟩,
       ⟨(some (535, true)), (some 541), .eq (.a (rb 2 (some .i8))) false (.t 539) (.t 540), []⟩,
       ⟨(some (525, false)), (some 542), .pick (.t 535) (.t 541) (.c (.bool false)), []⟩,
       ⟨none, (some 543), .pick (.t 525) (.c (.bool true)) (.t 542), []⟩,
       ⟨none, (some 54), .mov (.t 543), []⟩]))
    (.reg [55] [
      ⟨none, (some 522), .mov (.t 55), []⟩,
      ⟨none, (some 523), .bin .add (.t 522) (.c (.int .i64 1)), []⟩,
      ⟨none, (some 55), .mov (.t 523), []⟩])))
def b17_9 : Cd :=
  (.seq
   (.seq
    (.reg [489] [
      ⟨none, (some 486), .mov (.t 53), []⟩,
      ⟨none, (some 487), .mov (.t 44), []⟩,
      ⟨none, (some 488), .len (.t 487), []⟩,
      ⟨none, (some 489), .bin .lss (.t 486) (.t 488), []⟩])
    (.cond (.t 489)
     .skip
     (.exit 14)))
   (.seq
    (.block 15
     (.seq
      (.seq
       (.reg [508] [
         ⟨none, (some 492), .mov (.t 44), []⟩,
         ⟨none, (some 493), .mov (.t 53), []⟩,
         ⟨none, (some 494), .idxA 1 (.t 492) (.t 493), []⟩,
         ⟨none, (some 495), .ld 1 false (.t 494), []⟩,
         ⟨none, (some 496), .bin .lss (.t 495) (.c (.int .i64 0)), []⟩,
         ⟨none, (some 497), .mov (.t 496), []⟩,
         ⟨(some (497, false)), (some 498), .mov (.t 44), []⟩,
         ⟨(some (497, false)), (some 499), .mov (.t 53), []⟩,
         ⟨(some (497, false)), (some 500), .idxA 1 (.t 498) (.t 499), []⟩,
         ⟨(some (497, false)), (some 501), .ld 1 false (.t 500), []⟩,
         ⟨(some (497, false)), (some 502), .mov (.t 41), []⟩,
         ⟨(some (497, false)), (some 503), .len (.t 502), []⟩,
         ⟨(some (497, false)), (some 504), .bin .add (.t 501) (.t 503), []⟩,
         ⟨(some (497, false)), (some 505), .mov (.t 5), []⟩,
         ⟨(some (497, false)), (some 506), .len (.t 505), []⟩,
         ⟨(some (497, false)), (some 507), .bin .gtr (.t 504) (.t 506), []⟩,
         ⟨none, (some 508), .pick (.t 497) (.c (.bool true)) (.t 507), []⟩])
       (.cond (.t 508)
        (.seq
         (.reg [4] [
           ⟨none, (some 4), .mov (.c (.bool false)), []⟩])
         .ret)
        .skip))
      (.seq
       (.reg [52] [
         ⟨none, (some 509), .mov (.t 52), []⟩,
         ⟨none, (some 510), .mov (.t 509), []⟩,
         ⟨(some (510, false)), (some 511), .mov (.t 44), []⟩,
         ⟨(some (510, false)), (some 512), .mov (.t 53), []⟩,
         ⟨(some (510, false)), (some 513), .idxA 1 (.t 511) (.t 512), []⟩,
         ⟨(some (510, false)), (some 514), .ld 1 false (.t 513), []⟩,
         ⟨(some (510, false)), (some 515), .mov (.t 39), []⟩,
         ⟨(some (510, false)), (some 516), .bin .eql (.t 514) (.t 515), []⟩,
         ⟨none, (some 517), .pick (.t 510) (.c (.bool true)) (.t 516), []⟩,
         ⟨none, (some 52), .mov (.t 517), []⟩])
       (.seq
        (.reg [54] [
          ⟨none, (some 54), .mov (.c (.bool false)), []⟩])
        (.seq
         (.seq
          (.reg [55] [
            ⟨none, (some 55), .mov (.c (.int .i64 0)), []⟩])
          (.block 16
           (.loop b17_8)))
         (.seq
          (.reg [545] [
            ⟨none, (some 544), .mov (.t 54), []⟩,
            ⟨none, (some 545), .un .not (.t 544), []⟩])
          (.cond (.t 545)
           (.seq
            (.reg [4] [
              ⟨none, (some 4), .mov (.c (.bool false)), []⟩])
            .ret)
           .skip)))))))
    (.reg [53] [
      ⟨none, (some 490), .mov (.t 53), []⟩,
      ⟨none, (some 491), .bin .add (.t 490) (.c (.int .i64 1)), []⟩,
      ⟨none, (some 53), .mov (.t 491), []⟩])))
def b17_10 : Cd :=
  (.seq
   (.seq
    (.reg [549] [
      ⟨none, (some 546), .mov (.t 56), []⟩,
      ⟨none, (some 547), .mov (.t 49), []⟩,
      ⟨none, (some 548), .len (.t 547), []⟩,
      ⟨none, (some 549), .bin .lss (.t 546) (.t 548), []⟩])
    (.cond (.t 549)
     .skip
     (.exit 18)))
   (.seq
    (.block 19
     (.seq
      (.reg [57, 58] [
        ⟨none, (some 553), .mov (.t 41), []⟩,
        ⟨none, (some 554), .idxA 12 (.t 553) (.c (.int .i64 0)), []⟩,
        ⟨none, (some 555), .ld 12 true (.t 554), []⟩,
        ⟨none, (some 556), .mov (.t 50), []⟩,
        ⟨none, (some 557), .mov (.t 56), []⟩,
        ⟨none, (some 558), .idxA 2 (.t 556) (.t 557), []⟩,
        ⟨none, (some 559), .fldP 0 (.t 558), []⟩,
        ⟨none, (some 560), .ld 1 false (.t 559), []⟩,
        ⟨none, (some 561), .conv .i64 (.t 560), []⟩,
        ⟨none, (some 562), .mov (.t 50), []⟩,
        ⟨none, (some 563), .mov (.t 56), []⟩,
        ⟨none, (some 564), .idxA 2 (.t 562) (.t 563), []⟩,
        ⟨none, (some 565), .fldP 1 (.t 564), []⟩,
        ⟨none, (some 566), .ld 1 false (.t 565), []⟩,
        ⟨none, (some 567), .conv .i64 (.t 566), []⟩,
        ⟨none, (some 57), .zero true (zs 12 (.int .u16 0)), []⟩,
        ⟨none, (some 568), .call true 132 [.t 555, .t 561, .t 567], []⟩,
        ⟨none, (some 552), .mov (.t 568), []⟩,
        ⟨none, (some 569), .ext (.t 552) 0, []⟩,
        ⟨none, (some 570), .ext (.t 552) 1, []⟩,
        ⟨none, (some 57), .stV 57 none 12 (.t 569), []⟩,
        ⟨none, (some 58), .mov (.t 570), []⟩])
      (.seq
       (.reg [599] [
         ⟨none, (some 571), .mov (.t 58), []⟩,
         ⟨none, (some 572), .bin .neq (.t 571) (.c (.int .i64 0)), []⟩,
         ⟨none, (some 573), .mov (.t 572), []⟩,
         ⟨(some (573, false)), (some 574), .mov (.t 49), []⟩,
         ⟨(some (573, false)), (some 575), .mov (.t 56), []⟩,
         ⟨(some (573, false)), (some 576), .idxA 1 (.t 574) (.t 575), []⟩,
         ⟨(some (573, false)), (some 577), .ld 1 false (.t 576), []⟩,
         ⟨(some (573, false)), (some 578), .bin .lss (.t 577) (.c (.int .i64 0)), []⟩,
         ⟨none, (some 579), .pick (.t 573) (.c (.bool true)) (.t 578), []⟩,
         ⟨none, (some 580), .mov (.t 579), []⟩,
         ⟨(some (580, false)), (some 581), .mov (.t 49), []⟩,
         ⟨(some (580, false)), (some 582), .mov (.t 56), []⟩,
         ⟨(some (580, false)), (some 583), .idxA 1 (.t 581) (.t 582), []⟩,
         ⟨(some (580, false)), (some 584), .ld 1 false (.t 583), []⟩,
         ⟨(some (580, false)), (some 585), .mov (.t 5), []⟩,
         ⟨(some (580, false)), (some 586), .len (.t 585), []⟩,
         ⟨(some (580, false)), (some 587), .bin .geq (.t 584) (.t 586), []⟩,
         ⟨none, (some 588), .pick (.t 580) (.c (.bool true)) (.t 587), []⟩,
         ⟨none, (some 589), .mov (.t 588), []⟩,
         ⟨(some (589, false)), (some 590), .ldV 57 none 12 true, []⟩,
         ⟨(some (589, false)), (some 591), .mov (.t 5), []⟩,
         ⟨(some (589, false)), (some 592), .mov (.t 49), []⟩,
         ⟨(some (589, false)), (some 593), .mov (.t 56), []⟩,
         ⟨(some (589, false)), (some 594), .idxA 1 (.t 592) (.t 593), []⟩,
         ⟨(some (589, false)), (some 595), .ld 1 false (.t 594), []⟩,
         ⟨(some (589, false)), (some 596), .idxA 12 (.t 591) (.t 595), []⟩,
         ⟨(some (589, false)), (some 597), .ld 12 true (.t 596), []⟩,
         ⟨(some (589, false)), (some 598), .eq (.a (rb 12 (some .u16))) true (.t 590) (.t 597), []⟩,
         ⟨none, (some 599), .pick (.t 589) (.c (.bool true)) (.t 598), []⟩])
       (.cond (.t 599)
        (.seq
         (.reg [4] [
           ⟨none, (some 4), .mov (.c (.bool false)), []⟩])
         .ret)
        .skip))))
    (.reg [56] [
      ⟨none, (some 550), .mov (.t 56), []⟩,
      ⟨none, (some 551), .bin .add (.t 550) (.c (.int .i64 1)), []⟩,
      ⟨none, (some 56), .mov (.t 551), []⟩])))
def k17 : Cd :=
  (.seq
   (.reg [4] [
     ⟨none, (some 4), .mov (.c (.bool false)), []⟩])
   (.seq
    (.seq
     (.reg [61] [
       ⟨none, (some 59), .mov (.t 0), []⟩,
       ⟨none, (some 60), .mov (.t 1), []⟩,
       ⟨none, (some 61), .call true 84 [.t 59, .t 60], []⟩])
     (.cond (.t 61)
      (.seq
       (.reg [4] [
         ⟨none, (some 4), .mov (.c (.bool true)), []⟩])
       .ret)
      .skip))
    (.seq
     (.reg [5] [
       ⟨none, (some 62), .mov (.t 0), []⟩,
       ⟨none, (some 63), .call true 85 [.t 62], []⟩,
       ⟨none, (some 5), .mov (.t 63), []⟩])
     (.seq
      (.reg [6] [
        ⟨none, (some 64), .mov (.t 1), []⟩,
        ⟨none, (some 65), .call true 124 [.t 64, .c (.int .i64 3), .c (.int .i64 2)], []⟩,
        ⟨none, (some 66), .bin .eql (.t 65) (.c (.int .i64 0)), []⟩,
        ⟨none, (some 6), .mov (.t 66), []⟩])
      (.seq
       (.seq
        (.reg [67] [
          ⟨none, (some 67), .mov (.t 6), []⟩])
        (.cond (.t 67)
         (.reg [5] [
           ⟨none, (some 68), .bldS 12 0 (zs 12 (.int .u16 0)) [], []⟩,
           ⟨none, (some 69), .mov (.t 5), []⟩,
           ⟨none, (some 70), .app 12 24 (.t 68) (.t 69), []⟩,
           ⟨none, (some 71), .mov (.t 5), []⟩,
           ⟨none, (some 72), .app 12 24 (.t 70) (.t 71), []⟩,
           ⟨none, (some 5), .mov (.t 72), []⟩])
         .skip))
       (.seq
        (.reg [7] [
          ⟨none, (some 73), .mov (.t 1), []⟩,
          ⟨none, (some 74), .call true 124 [.t 73, .c (.int .i64 0), .c (.int .i64 4)], []⟩,
          ⟨none, (some 75), .bin .add (.c (.int .i64 1)) (.t 74), []⟩,
          ⟨none, (some 7), .mov (.t 75), []⟩])
        (.seq
         (.reg [8, 9, 10, 11] [
           ⟨none, (some 77), .mov (.t 5), []⟩,
           ⟨none, (some 78), .mov (.t 7), []⟩,
           ⟨none, (some 79), .call true 92 [.t 77, .t 78], []⟩,
           ⟨none, (some 76), .mov (.t 79), []⟩,
           ⟨none, (some 80), .ext (.t 76) 0, []⟩,
           ⟨none, (some 81), .ext (.t 76) 1, []⟩,
           ⟨none, (some 82), .ext (.t 76) 2, []⟩,
           ⟨none, (some 83), .ext (.t 76) 3, []⟩,
           ⟨none, (some 8), .mov (.t 80), []⟩,
           ⟨none, (some 9), .mov (.t 81), []⟩,
           ⟨none, (some 10), .mov (.t 82), []⟩,
           ⟨none, (some 11), .mov (.t 83), []⟩])
         (.seq
          (.reg [12, 13, 14, 15] [
            ⟨none, (some 85), .mov (.t 5), []⟩,
            ⟨none, (some 86), .mov (.t 7), []⟩,
            ⟨none, (some 87), .call true 93 [.t 85, .t 86], []⟩,
            ⟨none, (some 84), .mov (.t 87), []⟩,
            ⟨none, (some 88), .ext (.t 84) 0, []⟩,
            ⟨none, (some 89), .ext (.t 84) 1, []⟩,
            ⟨none, (some 90), .ext (.t 84) 2, []⟩,
            ⟨none, (some 91), .ext (.t 84) 3, []⟩,
            ⟨none, (some 12), .mov (.t 88), []⟩,
            ⟨none, (some 13), .mov (.t 89), []⟩,
            ⟨none, (some 14), .mov (.t 90), []⟩,
            ⟨none, (some 15), .mov (.t 91), []⟩])
          (.seq
           (.reg [16, 17] [
             ⟨none, (some 93), .mov (.t 5), []⟩,
             ⟨none, (some 94), .call true 111 [.t 93], []⟩,
             ⟨none, (some 92), .mov (.t 94), []⟩,
             ⟨none, (some 95), .ext (.t 92) 0, []⟩,
             ⟨none, (some 96), .ext (.t 92) 1, []⟩,
             ⟨none, (some 16), .mov (.t 95), []⟩,
             ⟨none, (some 17), .mov (.t 96), []⟩])
           (.seq
            (.reg [18, 19] [
              ⟨none, (some 98), .mov (.t 5), []⟩,
              ⟨none, (some 99), .call true 110 [.t 98], []⟩,
              ⟨none, (some 97), .mov (.t 99), []⟩,
              ⟨none, (some 100), .ext (.t 97) 0, []⟩,
              ⟨none, (some 101), .ext (.t 97) 1, []⟩,
              ⟨none, (some 18), .mov (.t 100), []⟩,
              ⟨none, (some 19), .mov (.t 101), []⟩])
            (.seq
             (.seq
              (.reg [146] [
                ⟨none, (some 102), .mov (.t 11), []⟩,
                ⟨none, (some 103), .mov (.t 15), []⟩,
                ⟨none, (some 104), .bin .neq (.t 102) (.t 103), []⟩,
                ⟨none, (some 105), .mov (.t 104), []⟩,
                ⟨(some (105, false)), (some 106), .mov (.t 8), []⟩,
                ⟨(some (105, false)), (some 107), .mov (.t 12), []⟩,
                ⟨(some (105, false)), (some 108), .bin .neq (.t 106) (.t 107), []⟩,
                ⟨none, (some 109), .pick (.t 105) (.c (.bool true)) (.t 108), []⟩,
                ⟨none, (some 110), .mov (.t 109), []⟩,
                ⟨(some (110, false)), (some 111), .mov (.t 9), []⟩,
                ⟨(some (110, false)), (some 112), .mov (.t 13), []⟩,
                ⟨(some (110, false)), (some 113), .bin .neq (.t 111) (.t 112), []⟩,
                ⟨none, (some 114), .pick (.t 110) (.c (.bool true)) (.t 113), []⟩,
                ⟨none, (some 115), .mov (.t 114), []⟩,
                ⟨(some (115, false)), (some 116), .mov (.t 10), []⟩,
                ⟨(some (115, false)), (some 117), .mov (.t 14), []⟩,
                ⟨(some (115, false)), (some 118), .bin .neq (.t 116) (.t 117), []⟩,
                ⟨none, (some 119), .pick (.t 115) (.c (.bool true)) (.t 118), []⟩,
                ⟨none, (some 120), .mov (.t 119), []⟩,
                ⟨(some (120, false)), (some 121), .mov (.t 11), []⟩,
                ⟨(some (120, false)), (some 122), .bin .eql (.t 121) (.c (.int .i64 0)), []⟩,
                ⟨(some (120, false)), (some 123), .mov (.t 5), []⟩,
                ⟨(some (120, false)), (some 124), .len (.t 123), []⟩,
                ⟨(some (120, false)), (some 125), .mov (.t 7), []⟩,
                ⟨(some (120, false)), (some 126), .bin .geq (.t 124) (.t 125), []⟩,
                ⟨(some (120, false)), (some 127), .eq .b true (.t 122) (.t 126), []⟩,
                ⟨none, (some 128), .pick (.t 120) (.c (.bool true)) (.t 127), []⟩,
                ⟨none, (some 129), .mov (.t 128), []⟩,
                ⟨(some (129, false)), (some 130), .mov (.t 17), []⟩,
                ⟨(some (129, false)), (some 131), .mov (.t 19), []⟩,
                ⟨(some (129, false)), (some 132), .bin .neq (.t 130) (.t 131), []⟩,
                ⟨none, (some 133), .pick (.t 129) (.c (.bool true)) (.t 132), []⟩,
                ⟨none, (some 134), .mov (.t 133), []⟩,
                ⟨(some (134, false)), (some 135), .mov (.t 16), []⟩,
                ⟨(some (134, false)), (some 136), .mov (.t 18), []⟩,
                ⟨(some (134, false)), (some 137), .bin .neq (.t 135) (.t 136), []⟩,
                ⟨none, (some 138), .pick (.t 134) (.c (.bool true)) (.t 137), []⟩,
                ⟨none, (some 139), .mov (.t 138), []⟩,
                ⟨(some (139, false)), (some 140), .mov (.t 17), []⟩,
                ⟨(some (139, false)), (some 141), .bin .eql (.t 140) (.c (.int .i64 0)), []⟩,
                ⟨(some (139, false)), (some 142), .mov (.t 5), []⟩,
                ⟨(some (139, false)), (some 143), .len (.t 142), []⟩,
                ⟨(some (139, false)), (some 144), .bin .gtr (.t 143) (.c (.int .i64 0)), []⟩,
                ⟨(some (139, false)), (some 145), .eq .b true (.t 141) (.t 144), []⟩,
                ⟨none, (some 146), .pick (.t 139) (.c (.bool true)) (.t 145), []⟩])
              (.cond (.t 146)
               (.seq
                (.reg [4] [
                  ⟨none, (some 4), .mov (.c (.bool false)), []⟩])
                .ret)
               .skip))
             (.seq
              (.seq
               (.reg [148] [
                 ⟨none, (some 147), .mov (.t 11), []⟩,
                 ⟨none, (some 148), .bin .eql (.t 147) (.c (.int .i64 0)), []⟩])
               (.cond (.t 148)
                (.seq
                 (.seq
                  (.reg [163] [
                    ⟨none, (some 149), .mov (.t 13), []⟩,
                    ⟨none, (some 150), .mov (.t 7), []⟩,
                    ⟨none, (some 151), .bin .lss (.t 149) (.t 150), []⟩,
                    ⟨none, (some 152), .mov (.t 151), []⟩,
                    ⟨(some (152, false)), (some 153), .mov (.t 12), []⟩,
                    ⟨(some (152, false)), (some 154), .bin .lss (.t 153) (.c (.int .i64 0)), []⟩,
                    ⟨none, (some 155), .pick (.t 152) (.c (.bool true)) (.t 154), []⟩,
                    ⟨none, (some 156), .mov (.t 155), []⟩,
                    ⟨(some (156, false)), (some 157), .mov (.t 12), []⟩,
                    ⟨(some (156, false)), (some 158), .mov (.t 13), []⟩,
                    ⟨(some (156, false)), (some 159), .bin .add (.t 157) (.t 158), []⟩,
                    ⟨(some (156, false)), (some 160), .mov (.t 5), []⟩,
                    ⟨(some (156, false)), (some 161), .len (.t 160), []⟩,
                    ⟨(some (156, false)), (some 162), .bin .gtr (.t 159) (.t 161), []⟩,
                    ⟨none, (some 163), .pick (.t 156) (.c (.bool true)) (.t 162), []⟩])
                  (.cond (.t 163)
                   (.seq
                    (.reg [4] [
                      ⟨none, (some 4), .mov (.c (.bool false)), []⟩])
                    .ret)
                   .skip))
                 (.seq
                  (.reg [20, 21] [
                    ⟨none, (some 165), .mov (.t 5), []⟩,
                    ⟨none, (some 166), .mov (.t 12), []⟩,
                    ⟨none, (some 167), .mov (.t 13), []⟩,
                    ⟨none, (some 168), .bin .add (.t 166) (.t 167), []⟩,
                    ⟨none, (some 169), .bin .sub (.t 168) (.c (.int .i64 1)), []⟩,
                    ⟨none, (some 170), .idxA 12 (.t 165) (.t 169), []⟩,
                    ⟨none, (some 171), .ld 12 true (.t 170), []⟩,
                    ⟨none, (some 172), .mov (.t 5), []⟩,
                    ⟨none, (some 173), .mov (.t 12), []⟩,
                    ⟨none, (some 174), .idxA 12 (.t 172) (.t 173), []⟩,
                    ⟨none, (some 175), .ld 12 true (.t 174), []⟩,
                    ⟨none, (some 176), .call true 125 [.t 171, .t 175], []⟩,
                    ⟨none, (some 164), .mov (.t 176), []⟩,
                    ⟨none, (some 177), .ext (.t 164) 0, []⟩,
                    ⟨none, (some 178), .ext (.t 164) 1, []⟩,
                    ⟨none, (some 20), .mov (.t 177), []⟩,
                    ⟨none, (some 21), .mov (.t 178), []⟩])
                  (.seq
                   (.seq
                    (.reg [185] [
                      ⟨none, (some 179), .mov (.t 21), []⟩,
                      ⟨none, (some 180), .bin .neq (.t 179) (.c (.int .i64 0)), []⟩,
                      ⟨none, (some 181), .mov (.t 180), []⟩,
                      ⟨(some (181, false)), (some 182), .mov (.t 20), []⟩,
                      ⟨(some (181, false)), (some 183), .mov (.t 14), []⟩,
                      ⟨(some (181, false)), (some 184), .bin .neq (.t 182) (.t 183), []⟩,
                      ⟨none, (some 185), .pick (.t 181) (.c (.bool true)) (.t 184), []⟩])
                    (.cond (.t 185)
                     (.seq
                      (.reg [4] [
                        ⟨none, (some 4), .mov (.c (.bool false)), []⟩])
                      .ret)
                     .skip))
                   (.seq
                    (.reg [22] [
                      ⟨none, (some 186), .mov (.t 7), []⟩,
                      ⟨none, (some 22), .mov (.t 186), []⟩])
                    (.block 0
                     (.loop b17_2))))))
                (.seq
                 (.reg [244] [
                   ⟨none, (some 243), .mov (.t 11), []⟩,
                   ⟨none, (some 244), .bin .neq (.t 243) (.c (.int .i64 6)), []⟩])
                 (.cond (.t 244)
                  (.seq
                   (.reg [4] [
                     ⟨none, (some 4), .mov (.c (.bool false)), []⟩])
                   .ret)
                  .skip))))
              (.seq
               (.reg [26, 27] [
                 ⟨none, (some 246), .mov (.t 5), []⟩,
                 ⟨none, (some 247), .call true 118 [.t 246], []⟩,
                 ⟨none, (some 245), .mov (.t 247), []⟩,
                 ⟨none, (some 248), .ext (.t 245) 0, []⟩,
                 ⟨none, (some 249), .ext (.t 245) 1, []⟩,
                 ⟨none, (some 26), .zero true (zs 12 (.int .u16 0)), []⟩,
                 ⟨none, (some 26), .stV 26 none 12 (.t 248), []⟩,
                 ⟨none, (some 27), .mov (.t 249), []⟩])
               (.seq
                (.reg [28, 29] [
                  ⟨none, (some 251), .mov (.t 5), []⟩,
                  ⟨none, (some 252), .call true 106 [.t 251], []⟩,
                  ⟨none, (some 250), .mov (.t 252), []⟩,
                  ⟨none, (some 253), .ext (.t 250) 0, []⟩,
                  ⟨none, (some 254), .ext (.t 250) 1, []⟩,
                  ⟨none, (some 28), .zero true (zs 12 (.int .u16 0)), []⟩,
                  ⟨none, (some 28), .stV 28 none 12 (.t 253), []⟩,
                  ⟨none, (some 29), .mov (.t 254), []⟩])
                (.seq
                 (.reg [30, 31] [
                   ⟨none, (some 256), .mov (.t 5), []⟩,
                   ⟨none, (some 257), .call true 120 [.t 256], []⟩,
                   ⟨none, (some 255), .mov (.t 257), []⟩,
                   ⟨none, (some 258), .ext (.t 255) 0, []⟩,
                   ⟨none, (some 259), .ext (.t 255) 1, []⟩,
                   ⟨none, (some 30), .mov (.t 258), []⟩,
                   ⟨none, (some 31), .mov (.t 259), []⟩])
                 (.seq
                  (.seq
                   (.reg [278] [
                     ⟨none, (some 260), .mov (.t 27), []⟩,
                     ⟨none, (some 261), .bin .neq (.t 260) (.c (.int .i64 0)), []⟩,
                     ⟨none, (some 262), .mov (.t 261), []⟩,
                     ⟨(some (262, false)), (some 263), .mov (.t 29), []⟩,
                     ⟨(some (262, false)), (some 264), .bin .neq (.t 263) (.c (.int .i64 0)), []⟩,
                     ⟨none, (some 265), .pick (.t 262) (.c (.bool true)) (.t 264), []⟩,
                     ⟨none, (some 266), .mov (.t 265), []⟩,
                     ⟨(some (266, false)), (some 267), .mov (.t 31), []⟩,
                     ⟨(some (266, false)), (some 268), .bin .neq (.t 267) (.c (.int .i64 0)), []⟩,
                     ⟨none, (some 269), .pick (.t 266) (.c (.bool true)) (.t 268), []⟩,
                     ⟨none, (some 270), .mov (.t 269), []⟩,
                     ⟨(some (270, false)), (some 271), .mov (.t 30), []⟩,
                     ⟨(some (270, false)), (some 272), .len (.t 271), []⟩,
                     ⟨(some (270, false)), (some 273), .mov (.t 5), []⟩,
                     ⟨(some (270, false)), (some 274), .len (.t 273), []⟩,
                     ⟨(some (270, false)), (some 275), .bin .sub (.t 274) (.c (.int .i64 1)), []⟩,
                     ⟨(some (270, false)), (some 276), .mx (.c (.int .i64 0)) (.t 275), []⟩,
                     ⟨(some (270, false)), (some 277), .bin .neq (.t 272) (.t 276), []⟩,
                     ⟨none, (some 278), .pick (.t 270) (.c (.bool true)) (.t 277), []⟩])
                   (.cond (.t 278)
                    (.seq
                     (.reg [4] [
                       ⟨none, (some 4), .mov (.c (.bool false)), []⟩])
                     .ret)
                    .skip))
                  (.seq
                   (.reg [32, 33] [
                     ⟨none, (some 279), .agg (zs 12 (.int .u16 0)) [], []⟩,
                     ⟨none, (some 280), .agg (zs 12 (.int .u16 0)) [], []⟩,
                     ⟨none, (some 32), .zero true (zs 12 (.int .u16 0)), []⟩,
                     ⟨none, (some 33), .zero true (zs 12 (.int .u16 0)), []⟩,
                     ⟨none, (some 32), .stV 32 none 12 (.t 279), []⟩,
                     ⟨none, (some 33), .stV 33 none 12 (.t 280), []⟩])
                   (.seq
                    (.seq
                     (.reg [34] [
                       ⟨none, (some 34), .mov (.c (.int .i64 0)), []⟩])
                     (.block 4
                      (.loop b17_4)))
                    (.seq
                     (.seq
                      (.reg [322] [
                        ⟨none, (some 315), .ldV 26 none 12 true, []⟩,
                        ⟨none, (some 316), .ldV 32 none 12 true, []⟩,
                        ⟨none, (some 317), .eq (.a (rb 12 (some .u16))) true (.t 315) (.t 316), []⟩,
                        ⟨none, (some 318), .mov (.t 317), []⟩,
                        ⟨(some (318, false)), (some 319), .ldV 28 none 12 true, []⟩,
                        ⟨(some (318, false)), (some 320), .ldV 33 none 12 true, []⟩,
                        ⟨(some (318, false)), (some 321), .eq (.a (rb 12 (some .u16))) true (.t 319) (.t 320), []⟩,
                        ⟨none, (some 322), .pick (.t 318) (.c (.bool true)) (.t 321), []⟩])
                      (.cond (.t 322)
                       (.seq
                        (.reg [4] [
                          ⟨none, (some 4), .mov (.c (.bool false)), []⟩])
                        .ret)
                       .skip))
                     (.seq
                      (.seq
                       (.reg [36] [
                         ⟨none, (some 36), .mov (.c (.int .i64 0)), []⟩])
                       (.block 8
                        (.loop b17_6)))
                      (.seq
                       (.seq
                        (.reg [361] [
                          ⟨none, (some 359), .mov (.t 5), []⟩,
                          ⟨none, (some 360), .len (.t 359), []⟩,
                          ⟨none, (some 361), .bin .eql (.t 360) (.c (.int .i64 0)), []⟩])
                        (.cond (.t 361)
                         (.seq
                          (.reg [4] [
                            ⟨none, (some 362), .mov (.t 17), []⟩,
                            ⟨none, (some 363), .bin .eql (.t 362) (.c (.int .i64 6)), []⟩,
                            ⟨none, (some 4), .mov (.t 363), []⟩])
                          .ret)
                         .skip))
                       (.seq
                        (.seq
                         (.reg [381] [
                           ⟨none, (some 364), .mov (.t 18), []⟩,
                           ⟨none, (some 365), .bin .lss (.t 364) (.c (.int .i64 1)), []⟩,
                           ⟨none, (some 366), .mov (.t 365), []⟩,
                           ⟨(some (366, false)), (some 367), .mov (.t 18), []⟩,
                           ⟨(some (366, false)), (some 368), .mov (.t 5), []⟩,
                           ⟨(some (366, false)), (some 369), .len (.t 368), []⟩,
                           ⟨(some (366, false)), (some 370), .bin .gtr (.t 367) (.t 369), []⟩,
                           ⟨none, (some 371), .pick (.t 366) (.c (.bool true)) (.t 370), []⟩,
                           ⟨none, (some 372), .mov (.t 371), []⟩,
                           ⟨(some (372, false)), (some 373), .mov (.t 6), []⟩,
                           ⟨(some (372, false)), (some 374), .mov (.t 373), []⟩,
                           ⟨(some (374, true)), (some 375), .mov (.t 18), []⟩,
                           ⟨(some (374, true)), (some 376), .mov (.t 5), []⟩,
                           ⟨(some (374, true)), (some 377), .len (.t 376), []⟩,
                           ⟨(some (374, true)), (some 378), .bin .quo (.t 377) (.c (.int .i64 2)), []⟩,
                           ⟨(some (374, true)), (some 379), .bin .gtr (.t 375) (.t 378), []⟩,
                           ⟨(some (372, false)), (some 380), .pick (.t 374) (.t 379) (.c (.bool false)), []⟩,
                           ⟨none, (some 381), .pick (.t 372) (.c (.bool true)) (.t 380), []⟩])
                         (.cond (.t 381)
                          (.seq
                           (.reg [4] [
                             ⟨none, (some 4), .mov (.c (.bool false)), []⟩])
                           .ret)
                          .skip))
                        (.seq
                         (.seq
                          (.reg [38] [
                            ⟨none, (some 38), .mov (.c (.int .i64 0)), []⟩])
                          (.block 12
                           (.loop b17_7)))
                         (.seq
                          (.reg [39] [
                            ⟨none, (some 401), .mov (.t 1), []⟩,
                            ⟨none, (some 402), .mov (.t 5), []⟩,
                            ⟨none, (some 403), .len (.t 402), []⟩,
                            ⟨none, (some 404), .call true 124 [.t 401, .c (.int .i64 1), .t 403], []⟩,
                            ⟨none, (some 39), .mov (.t 404), []⟩])
                          (.seq
                           (.reg [40] [
                             ⟨none, (some 405), .mov (.t 5), []⟩,
                             ⟨none, (some 406), .len (.t 405), []⟩,
                             ⟨none, (some 407), .mov (.t 39), []⟩,
                             ⟨none, (some 408), .bin .add (.t 407) (.c (.int .i64 1)), []⟩,
                             ⟨none, (some 409), .mov (.t 1), []⟩,
                             ⟨none, (some 410), .call true 124 [.t 409, .c (.int .i64 2), .c (.int .i64 3)], []⟩,
                             ⟨none, (some 411), .bin .add (.t 408) (.t 410), []⟩,
                             ⟨none, (some 412), .mn (.t 406) (.t 411), []⟩,
                             ⟨none, (some 40), .mov (.t 412), []⟩])
                           (.seq
                            (.reg [41] [
                              ⟨none, (some 413), .bldS 12 0 (zs 12 (.int .u16 0)) [], []⟩,
                              ⟨none, (some 414), .mov (.t 5), []⟩,
                              ⟨none, (some 415), .mov (.t 39), []⟩,
                              ⟨none, (some 416), .mov (.t 40), []⟩,
                              ⟨none, (some 417), .slcA 12 (.t 414) (some (.t 415)) (some (.t 416)) none, []⟩,
                              ⟨none, (some 418), .app 12 24 (.t 413) (.t 417), []⟩,
                              ⟨none, (some 41), .mov (.t 418), []⟩])
                            (.seq
                             (.reg [42, 43] [
                               ⟨none, (some 420), .mov (.t 5), []⟩,
                               ⟨none, (some 421), .mov (.t 41), []⟩,
                               ⟨none, (some 422), .call true 126 [.t 420, .t 421], []⟩,
                               ⟨none, (some 419), .mov (.t 422), []⟩,
                               ⟨none, (some 423), .ext (.t 419) 0, []⟩,
                               ⟨none, (some 424), .ext (.t 419) 1, []⟩,
                               ⟨none, (some 42), .mov (.t 423), []⟩,
                               ⟨none, (some 43), .mov (.t 424), []⟩])
                             (.seq
                              (.reg [44, 45] [
                                ⟨none, (some 426), .mov (.t 5), []⟩,
                                ⟨none, (some 427), .mov (.t 41), []⟩,
                                ⟨none, (some 428), .call true 127 [.t 426, .t 427], []⟩,
                                ⟨none, (some 425), .mov (.t 428), []⟩,
                                ⟨none, (some 429), .ext (.t 425) 0, []⟩,
                                ⟨none, (some 430), .ext (.t 425) 1, []⟩,
                                ⟨none, (some 44), .mov (.t 429), []⟩,
                                ⟨none, (some 45), .mov (.t 430), []⟩])
                              (.seq
                               (.reg [46, 47, 48] [
                                 ⟨none, (some 432), .mov (.t 5), []⟩,
                                 ⟨none, (some 433), .mov (.t 41), []⟩,
                                 ⟨none, (some 434), .call true 128 [.t 432, .t 433, .c (.int .i64 1)], []⟩,
                                 ⟨none, (some 431), .mov (.t 434), []⟩,
                                 ⟨none, (some 435), .ext (.t 431) 0, []⟩,
                                 ⟨none, (some 436), .ext (.t 431) 1, []⟩,
                                 ⟨none, (some 437), .ext (.t 431) 2, []⟩,
                                 ⟨none, (some 46), .mov (.t 435), []⟩,
                                 ⟨none, (some 47), .mov (.t 436), []⟩,
                                 ⟨none, (some 48), .mov (.t 437), []⟩])
                               (.seq
                                (.reg [49, 50, 51] [
                                  ⟨none, (some 439), .mov (.t 5), []⟩,
                                  ⟨none, (some 440), .mov (.t 41), []⟩,
                                  ⟨none, (some 441), .call true 129 [.t 439, .t 440, .c (.int .i64 1)], []⟩,
                                  ⟨none, (some 438), .mov (.t 441), []⟩,
                                  ⟨none, (some 442), .ext (.t 438) 0, []⟩,
                                  ⟨none, (some 443), .ext (.t 438) 1, []⟩,
                                  ⟨none, (some 444), .ext (.t 438) 2, []⟩,
                                  ⟨none, (some 49), .mov (.t 442), []⟩,
                                  ⟨none, (some 50), .mov (.t 443), []⟩,
                                  ⟨none, (some 51), .mov (.t 444), []⟩])
                                (.seq
                                 (.seq
                                  (.reg [485] [
                                    ⟨none, (some 445), .mov (.t 43), []⟩,
                                    ⟨none, (some 446), .mov (.t 45), []⟩,
                                    ⟨none, (some 447), .bin .neq (.t 445) (.t 446), []⟩,
                                    ⟨none, (some 448), .mov (.t 447), []⟩,
                                    ⟨(some (448, false)), (some 449), .mov (.t 43), []⟩,
                                    ⟨(some (448, false)), (some 450), .bin .neq (.t 449) (.c (.int .i64 0)), []⟩,
                                    ⟨none, (some 451), .pick (.t 448) (.c (.bool true)) (.t 450), []⟩,
                                    ⟨none, (some 452), .mov (.t 451), []⟩,
                                    ⟨(some (452, false)), (some 453), .mov (.t 42), []⟩,
                                    ⟨(some (452, false)), (some 454), .mov (.t 44), []⟩,
                                    ⟨(some (452, false)), (some 455), .call true 130 [.t 453, .t 454], []⟩,
                                    ⟨(some (452, false)), (some 456), .un .not (.t 455), []⟩,
                                    ⟨none, (some 457), .pick (.t 452) (.c (.bool true)) (.t 456), []⟩,
                                    ⟨none, (some 458), .mov (.t 457), []⟩,
                                    ⟨(some (458, false)), (some 459), .mov (.t 48), []⟩,
                                    ⟨(some (458, false)), (some 460), .mov (.t 51), []⟩,
                                    ⟨(some (458, false)), (some 461), .bin .neq (.t 459) (.t 460), []⟩,
                                    ⟨none, (some 462), .pick (.t 458) (.c (.bool true)) (.t 461), []⟩,
                                    ⟨none, (some 463), .mov (.t 462), []⟩,
                                    ⟨(some (463, false)), (some 464), .mov (.t 48), []⟩,
                                    ⟨(some (463, false)), (some 465), .bin .neq (.t 464) (.c (.int .i64 0)), []⟩,
                                    ⟨none, (some 466), .pick (.t 463) (.c (.bool true)) (.t 465), []⟩,
                                    ⟨none, (some 467), .mov (.t 466), []⟩,
                                    ⟨(some (467, false)), (some 468), .mov (.t 46), []⟩,
                                    ⟨(some (467, false)), (some 469), .mov (.t 49), []⟩,
                                    ⟨(some (467, false)), (some 470), .call true 130 [.t 468, .t 469], []⟩,
                                    ⟨(some (467, false)), (some 471), .un .not (.t 470), []⟩,
                                    ⟨none, (some 472), .pick (.t 467) (.c (.bool true)) (.t 471), []⟩,
                                    ⟨none, (some 473), .mov (.t 472), []⟩,
                                    ⟨(some (473, false)), (some 474), .mov (.t 47), []⟩,
                                    ⟨(some (473, false)), (some 475), .mov (.t 50), []⟩,
                                    ⟨(some (473, false)), (some 476), .call true 131 [.t 474, .t 475], []⟩,
                                    ⟨(some (473, false)), (some 477), .un .not (.t 476), []⟩,
                                    ⟨none, (some 478), .pick (.t 473) (.c (.bool true)) (.t 477), []⟩,
                                    ⟨none, (some 479), .mov (.t 478), []⟩,
                                    ⟨(some (479, false)), (some 480), .mov (.t 49), []⟩,
                                    ⟨(some (479, false)), (some 481), .len (.t 480), []⟩,
                                    ⟨(some (479, false)), (some 482), .mov (.t 50), []⟩,
                                    ⟨(some (479, false)), (some 483), .len (.t 482), []⟩,
                                    ⟨(some (479, false)), (some 484), .bin .neq (.t 481) (.t 483), []⟩,
                                    ⟨none, (some 485), .pick (.t 479) (.c (.bool true)) (.t 484), []⟩])
                                  (.cond (.t 485)
                                   (.seq
                                    (.reg [4] [
                                      ⟨none, (some 4), .mov (.c (.bool false)), []⟩])
                                    .ret)
                                   .skip))
                                 (.seq
                                  (.reg [52] [
                                    ⟨none, (some 52), .mov (.c (.bool false)), []⟩])
                                  (.seq
                                   (.seq
                                    (.reg [53] [
                                      ⟨none, (some 53), .mov (.c (.int .i64 0)), []⟩])
                                    (.block 14
                                     (.loop b17_9)))
                                   (.seq
                                    (.seq
                                     (.reg [56] [
                                       ⟨none, (some 56), .mov (.c (.int .i64 0)), []⟩])
                                     (.block 18
                                      (.loop b17_10)))
                                    (.seq
                                     (.reg [4] [
                                       ⟨none, (some 600), .mov (.t 52), []⟩,
                                       ⟨none, (some 4), .mov (.t 600), []⟩])
                                     .ret)))))))))))))))))))))))))))))))))))
def c17 : Fn := { np := 2, nt := 601, kind := .pure, res := [.t 4], body := k17 }

/- laws.a2Long -/
def k84 : Cd :=
  (.seq
   (.reg [4] [
     ⟨none, (some 4), .mov (.c (.bool false)), []⟩])
   (.seq
    (.reg [4] [
      ⟨none, (some 5), .mov (.t 0), []⟩,
      ⟨none, (some 6), .len (.t 5), []⟩,
      ⟨none, (some 7), .bin .gtr (.t 6) (.c (.int .i64 3000)), []⟩,
      ⟨none, (some 8), .mov (.t 7), []⟩,
      ⟨(some (8, false)), (some 9), .mov (.t 1), []⟩,
      ⟨(some (8, false)), (some 10), .len (.t 9), []⟩,
      ⟨(some (8, false)), (some 11), .bin .gtr (.t 10) (.c (.int .i64 3000)), []⟩,
      ⟨none, (some 12), .pick (.t 8) (.c (.bool true)) (.t 11), []⟩,
      ⟨none, (some 4), .mov (.t 12), []⟩])
    .ret))
def c84 : Fn := { np := 2, nt := 13, kind := .pure, res := [.t 4], body := k84 }

/- spec.A2Book -/
def k85 : Cd :=
  (.seq
   (.reg [2] [
     ⟨none, (some 2), .mov (.c (.slice none 0 0)), []⟩])
   (.seq
    (.reg [2] [
      ⟨none, (some 3), .mov (.t 0), []⟩,
      ⟨none, (some 4), .call true 315 [.t 3], []⟩,
      ⟨none, (some 5), .call false 314 [.t 4, .c (.int .i64 7)], []⟩,
      ⟨none, (some 2), .mov (.t 5), []⟩])
    .ret))
def c85 : Fn := { np := 1, nt := 6, kind := .pure, res := [.t 2], body := k85 }

/- impl.BestLoop -/
def b92_1 : Cd :=
  (.seq
   (.seq
    (.reg [38] [
      ⟨none, (some 33), .mov (.t 12), []⟩,
      ⟨none, (some 34), .mov (.t 11), []⟩,
      ⟨none, (some 35), .bin .add (.t 33) (.t 34), []⟩,
      ⟨none, (some 36), .mov (.t 0), []⟩,
      ⟨none, (some 37), .len (.t 36), []⟩,
      ⟨none, (some 38), .bin .leq (.t 35) (.t 37), []⟩])
    (.cond (.t 38)
     .skip
     (.exit 3)))
   (.seq
    (.block 4
     (.seq
      (.reg [13] [
        ⟨none, (some 41), .mov (.t 0), []⟩,
        ⟨none, (some 42), .mov (.t 12), []⟩,
        ⟨none, (some 43), .mov (.t 11), []⟩,
        ⟨none, (some 44), .bin .add (.t 42) (.t 43), []⟩,
        ⟨none, (some 45), .bin .sub (.t 44) (.c (.int .i64 1)), []⟩,
        ⟨none, (some 46), .idxA 12 (.t 41) (.t 45), []⟩,
        ⟨none, (some 47), .ld 12 true (.t 46), []⟩,
        ⟨none, (some 48), .mov (.t 0), []⟩,
        ⟨none, (some 49), .mov (.t 12), []⟩,
        ⟨none, (some 50), .idxA 12 (.t 48) (.t 49), []⟩,
        ⟨none, (some 51), .ld 12 true (.t 50), []⟩,
        ⟨none, (some 52), .call true 324 [.t 47, .t 51], []⟩,
        ⟨none, (some 13), .mov (.t 52), []⟩])
      (.seq
       (.reg [59] [
         ⟨none, (some 53), .mov (.t 10), []⟩,
         ⟨none, (some 54), .bin .lss (.t 53) (.c (.int .i64 0)), []⟩,
         ⟨none, (some 55), .mov (.t 54), []⟩,
         ⟨(some (55, false)), (some 56), .mov (.t 13), []⟩,
         ⟨(some (55, false)), (some 57), .mov (.t 10), []⟩,
         ⟨(some (55, false)), (some 58), .bin .lss (.t 56) (.t 57), []⟩,
         ⟨none, (some 59), .pick (.t 55) (.c (.bool true)) (.t 58), []⟩])
       (.cond (.t 59)
        (.reg [8, 9, 10] [
          ⟨none, (some 60), .mov (.t 12), []⟩,
          ⟨none, (some 61), .mov (.t 11), []⟩,
          ⟨none, (some 62), .mov (.t 13), []⟩,
          ⟨none, (some 8), .mov (.t 60), []⟩,
          ⟨none, (some 9), .mov (.t 61), []⟩,
          ⟨none, (some 10), .mov (.t 62), []⟩])
        .skip))))
    (.reg [12] [
      ⟨none, (some 39), .mov (.t 12), []⟩,
      ⟨none, (some 40), .bin .add (.t 39) (.c (.int .i64 1)), []⟩,
      ⟨none, (some 12), .mov (.t 40), []⟩])))
def b92_2 : Cd :=
  (.seq
   (.seq
    (.reg [30] [
      ⟨none, (some 28), .mov (.t 11), []⟩,
      ⟨none, (some 29), .mov (.t 1), []⟩,
      ⟨none, (some 30), .bin .geq (.t 28) (.t 29), []⟩])
    (.cond (.t 30)
     .skip
     (.exit 1)))
   (.seq
    (.block 2
     (.seq
      (.reg [12] [
        ⟨none, (some 12), .mov (.c (.int .i64 0)), []⟩])
      (.block 3
       (.loop b92_1))))
    (.reg [11] [
      ⟨none, (some 31), .mov (.t 11), []⟩,
      ⟨none, (some 32), .bin .sub (.t 31) (.c (.int .i64 1)), []⟩,
      ⟨none, (some 11), .mov (.t 32), []⟩])))
def k92 : Cd :=
  (.seq
   (.reg [4, 5, 6, 7] [
     ⟨none, (some 4), .mov (.c (.int .i64 0)), []⟩,
     ⟨none, (some 5), .mov (.c (.int .i64 0)), []⟩,
     ⟨none, (some 6), .mov (.c (.int .i64 0)), []⟩,
     ⟨none, (some 7), .mov (.c (.int .i64 0)), []⟩])
   (.seq
    (.block 0
     (.seq
      (.reg [14] [
        ⟨none, (some 15), .mov (.t 0), []⟩,
        ⟨none, (some 16), .call true 316 [.t 15], []⟩,
        ⟨none, (some 17), .un .not (.t 16), []⟩,
        ⟨none, (some 14), .mov (.t 17), []⟩])
      (.cond (.t 14)
       (.seq
        (.reg [4, 5, 6, 7] [
          ⟨none, (some 4), .mov (.c (.int .i64 0)), []⟩,
          ⟨none, (some 5), .mov (.c (.int .i64 0)), []⟩,
          ⟨none, (some 6), .mov (.c (.int .i64 0)), []⟩,
          ⟨none, (some 7), .mov (.c (.int .i64 1)), []⟩])
        .ret)
       (.seq
        (.reg [18] [
          ⟨none, (some 19), .mov (.t 1), []⟩,
          ⟨none, (some 20), .bin .lss (.t 19) (.c (.int .i64 1)), []⟩,
          ⟨none, (some 18), .mov (.t 20), []⟩])
        (.cond (.t 18)
         (.seq
          (.reg [4, 5, 6, 7] [
            ⟨none, (some 4), .mov (.c (.int .i64 0)), []⟩,
            ⟨none, (some 5), .mov (.c (.int .i64 0)), []⟩,
            ⟨none, (some 6), .mov (.c (.int .i64 0)), []⟩,
            ⟨none, (some 7), .mov (.c (.int .i64 2)), []⟩])
          .ret)
         (.seq
          (.reg [21] [
            ⟨none, (some 22), .mov (.t 1), []⟩,
            ⟨none, (some 23), .mov (.t 0), []⟩,
            ⟨none, (some 24), .len (.t 23), []⟩,
            ⟨none, (some 25), .bin .gtr (.t 22) (.t 24), []⟩,
            ⟨none, (some 21), .mov (.t 25), []⟩])
          (.cond (.t 21)
           (.seq
            (.reg [4, 5, 6, 7] [
              ⟨none, (some 4), .mov (.c (.int .i64 0)), []⟩,
              ⟨none, (some 5), .mov (.c (.int .i64 0)), []⟩,
              ⟨none, (some 6), .mov (.c (.int .i64 0)), []⟩,
              ⟨none, (some 7), .mov (.c (.int .i64 6)), []⟩])
            .ret)
           .skip)))))))
    (.seq
     (.reg [8, 9, 10] [
       ⟨none, (some 8), .mov (.c (.int .i64 0)), []⟩,
       ⟨none, (some 9), .mov (.c (.int .i64 0)), []⟩,
       ⟨none, (some 10), .mov (.c (.int .i64 (-1))), []⟩])
     (.seq
      (.seq
       (.reg [11] [
         ⟨none, (some 26), .mov (.t 0), []⟩,
         ⟨none, (some 27), .len (.t 26), []⟩,
         ⟨none, (some 11), .mov (.t 27), []⟩])
       (.block 1
        (.loop b92_2)))
      (.seq
       (.reg [4, 5, 6, 7] [
         ⟨none, (some 63), .mov (.t 8), []⟩,
         ⟨none, (some 64), .mov (.t 9), []⟩,
         ⟨none, (some 65), .mov (.t 10), []⟩,
         ⟨none, (some 4), .mov (.t 63), []⟩,
         ⟨none, (some 5), .mov (.t 64), []⟩,
         ⟨none, (some 6), .mov (.t 65), []⟩,
         ⟨none, (some 7), .mov (.c (.int .i64 0)), []⟩])
       .ret)))))
def c92 : Fn := { np := 2, nt := 66, kind := .pure, res := [.t 4, .t 5, .t 6, .t 7], body := k92 }

/- spec.BestLoop -/
def b93_1 : Cd :=
  (.seq
   (.seq
    (.reg [35] [
      ⟨none, (some 30), .mov (.t 12), []⟩,
      ⟨none, (some 31), .mov (.t 11), []⟩,
      ⟨none, (some 32), .bin .add (.t 30) (.t 31), []⟩,
      ⟨none, (some 33), .mov (.t 0), []⟩,
      ⟨none, (some 34), .len (.t 33), []⟩,
      ⟨none, (some 35), .bin .leq (.t 32) (.t 34), []⟩])
    (.cond (.t 35)
     .skip
     (.exit 2)))
   (.seq
    (.block 3
     (.seq
      (.reg [13] [
        ⟨none, (some 38), .mov (.t 0), []⟩,
        ⟨none, (some 39), .mov (.t 12), []⟩,
        ⟨none, (some 40), .mov (.t 11), []⟩,
        ⟨none, (some 41), .bin .add (.t 39) (.t 40), []⟩,
        ⟨none, (some 42), .bin .sub (.t 41) (.c (.int .i64 1)), []⟩,
        ⟨none, (some 43), .idxA 12 (.t 38) (.t 42), []⟩,
        ⟨none, (some 44), .mov (.t 0), []⟩,
        ⟨none, (some 45), .mov (.t 12), []⟩,
        ⟨none, (some 46), .idxA 12 (.t 44) (.t 45), []⟩,
        ⟨none, (some 47), .call true 325 [.t 43, .t 46], []⟩,
        ⟨none, (some 13), .mov (.t 47), []⟩])
      (.seq
       (.reg [54] [
         ⟨none, (some 48), .mov (.t 8), []⟩,
         ⟨none, (some 49), .bin .lss (.t 48) (.c (.int .i64 0)), []⟩,
         ⟨none, (some 50), .mov (.t 49), []⟩,
         ⟨(some (50, false)), (some 51), .mov (.t 13), []⟩,
         ⟨(some (50, false)), (some 52), .mov (.t 10), []⟩,
         ⟨(some (50, false)), (some 53), .bin .lss (.t 51) (.t 52), []⟩,
         ⟨none, (some 54), .pick (.t 50) (.c (.bool true)) (.t 53), []⟩])
       (.cond (.t 54)
        (.seq
         (.reg [8] [
           ⟨none, (some 55), .mov (.t 12), []⟩,
           ⟨none, (some 8), .mov (.t 55), []⟩])
         (.seq
          (.reg [9] [
            ⟨none, (some 56), .mov (.t 11), []⟩,
            ⟨none, (some 9), .mov (.t 56), []⟩])
          (.reg [10] [
            ⟨none, (some 57), .mov (.t 13), []⟩,
            ⟨none, (some 10), .mov (.t 57), []⟩])))
        .skip))))
    (.reg [12] [
      ⟨none, (some 36), .mov (.t 12), []⟩,
      ⟨none, (some 37), .bin .add (.t 36) (.c (.int .i64 1)), []⟩,
      ⟨none, (some 12), .mov (.t 37), []⟩])))
def b93_2 : Cd :=
  (.seq
   (.seq
    (.reg [27] [
      ⟨none, (some 25), .mov (.t 11), []⟩,
      ⟨none, (some 26), .mov (.t 1), []⟩,
      ⟨none, (some 27), .bin .geq (.t 25) (.t 26), []⟩])
    (.cond (.t 27)
     .skip
     (.exit 0)))
   (.seq
    (.block 1
     (.seq
      (.reg [12] [
        ⟨none, (some 12), .mov (.c (.int .i64 0)), []⟩])
      (.block 2
       (.loop b93_1))))
    (.reg [11] [
      ⟨none, (some 28), .mov (.t 11), []⟩,
      ⟨none, (some 29), .bin .sub (.t 28) (.c (.int .i64 1)), []⟩,
      ⟨none, (some 11), .mov (.t 29), []⟩])))
def k93 : Cd :=
  (.seq
   (.reg [4, 5, 6, 7] [
     ⟨none, (some 4), .mov (.c (.int .i64 0)), []⟩,
     ⟨none, (some 5), .mov (.c (.int .i64 0)), []⟩,
     ⟨none, (some 6), .mov (.c (.int .i64 0)), []⟩,
     ⟨none, (some 7), .mov (.c (.int .i64 0)), []⟩])
   (.seq
    (.seq
     (.reg [16] [
       ⟨none, (some 14), .mov (.t 0), []⟩,
       ⟨none, (some 15), .call true 318 [.t 14], []⟩,
       ⟨none, (some 16), .un .not (.t 15), []⟩])
     (.cond (.t 16)
      (.seq
       (.reg [4, 5, 6, 7] [
         ⟨none, (some 4), .mov (.c (.int .i64 0)), []⟩,
         ⟨none, (some 5), .mov (.c (.int .i64 0)), []⟩,
         ⟨none, (some 6), .mov (.c (.int .i64 0)), []⟩,
         ⟨none, (some 7), .mov (.c (.int .i64 1)), []⟩])
       .ret)
      .skip))
    (.seq
     (.seq
      (.reg [18] [
        ⟨none, (some 17), .mov (.t 1), []⟩,
        ⟨none, (some 18), .bin .lss (.t 17) (.c (.int .i64 1)), []⟩])
      (.cond (.t 18)
       (.seq
        (.reg [4, 5, 6, 7] [
          ⟨none, (some 4), .mov (.c (.int .i64 0)), []⟩,
          ⟨none, (some 5), .mov (.c (.int .i64 0)), []⟩,
          ⟨none, (some 6), .mov (.c (.int .i64 0)), []⟩,
          ⟨none, (some 7), .mov (.c (.int .i64 2)), []⟩])
        .ret)
       .skip))
     (.seq
      (.seq
       (.reg [22] [
         ⟨none, (some 19), .mov (.t 1), []⟩,
         ⟨none, (some 20), .mov (.t 0), []⟩,
         ⟨none, (some 21), .len (.t 20), []⟩,
         ⟨none, (some 22), .bin .gtr (.t 19) (.t 21), []⟩])
       (.cond (.t 22)
        (.seq
         (.reg [4, 5, 6, 7] [
           ⟨none, (some 4), .mov (.c (.int .i64 0)), []⟩,
           ⟨none, (some 5), .mov (.c (.int .i64 0)), []⟩,
           ⟨none, (some 6), .mov (.c (.int .i64 0)), []⟩,
           ⟨none, (some 7), .mov (.c (.int .i64 6)), []⟩])
         .ret)
        .skip))
      (.seq
       (.reg [8] [
         ⟨none, (some 8), .mov (.c (.int .i64 (-1))), []⟩])
       (.seq
        (.reg [9] [
          ⟨none, (some 9), .mov (.c (.int .i64 0)), []⟩])
        (.seq
         (.reg [10] [
           ⟨none, (some 10), .mov (.c (.int .i64 0)), []⟩])
         (.seq
          (.seq
           (.reg [11] [
             ⟨none, (some 23), .mov (.t 0), []⟩,
             ⟨none, (some 24), .len (.t 23), []⟩,
             ⟨none, (some 11), .mov (.t 24), []⟩])
           (.block 0
            (.loop b93_2)))
          (.seq
           (.reg [4, 5, 6, 7] [
             ⟨none, (some 58), .mov (.t 8), []⟩,
             ⟨none, (some 59), .mov (.t 9), []⟩,
             ⟨none, (some 60), .mov (.t 10), []⟩,
             ⟨none, (some 4), .mov (.t 58), []⟩,
             ⟨none, (some 5), .mov (.t 59), []⟩,
             ⟨none, (some 6), .mov (.t 60), []⟩,
             ⟨none, (some 7), .mov (.c (.int .i64 0)), []⟩])
           .ret)))))))))
def c93 : Fn := { np := 2, nt := 61, kind := .pure, res := [.t 4, .t 5, .t 6, .t 7], body := k93 }

/- spec.DifferBy -/
def k95 : Cd :=
  (.seq
   (.reg [2, 3, 4, 5] [
     ⟨none, (some 2), .box 12 (.t 0), []⟩,
     ⟨none, (some 3), .box 12 (.t 1), []⟩,
     ⟨none, (some 4), .mov (.c (.int .i64 0)), []⟩,
     ⟨none, (some 5), .mov (.c (.int .i64 0)), []⟩])
   (.seq
    (.seq
     (.reg [6] [
       ⟨none, (some 7), .call true 327 [.t 2, .t 3], []⟩,
       ⟨none, (some 6), .mov (.t 7), []⟩])
     (.seq
      (.reg [9] [
        ⟨none, (some 8), .mov (.t 6), []⟩,
        ⟨none, (some 9), .bin .neq (.t 8) (.c (.int .i64 0)), []⟩])
      (.cond (.t 9)
       (.seq
        (.reg [4, 5] [
          ⟨none, (some 10), .mov (.t 6), []⟩,
          ⟨none, (some 4), .mov (.c (.int .i64 0)), []⟩,
          ⟨none, (some 5), .mov (.t 10), []⟩])
        .ret)
       .skip)))
    (.seq
     (.reg [4, 5] [
       ⟨none, (some 11), .call true 325 [.t 2, .t 3], []⟩,
       ⟨none, (some 4), .mov (.t 11), []⟩,
       ⟨none, (some 5), .mov (.c (.int .i64 0)), []⟩])
     .ret)))
def c95 : Fn := { np := 2, nt := 12, kind := .pure, res := [.t 4, .t 5], body := k95 }

/- impl.EverDots -/
def b106_1 : Cd :=
  (.seq
   (.reg [15] [
     ⟨none, (some 15), .bin .lss (.t 14) (.t 13), []⟩])
   (.seq
    (.cond (.t 15)
     .skip
     (.exit 0))
    (.seq
     (.block 1
      (.seq
       (.reg [6] [
         ⟨none, (some 16), .idxA 12 (.t 12) (.t 14), []⟩,
         ⟨none, (some 17), .ld 12 true (.t 16), []⟩,
         ⟨none, (some 6), .zero true (zs 12 (.int .u16 0)), []⟩,
         ⟨none, (some 6), .stV 6 none 12 (.t 17), []⟩])
       (.reg [4] [
         ⟨none, (some 18), .ldV 4 none 12 true, []⟩,
         ⟨none, (some 19), .ldV 6 none 12 true, []⟩,
         ⟨none, (some 20), .call true 338 [.t 18, .t 19], []⟩,
         ⟨none, (some 4), .stV 4 none 12 (.t 20), []⟩])))
     (.reg [14] [
       ⟨none, (some 21), .bin .add (.t 14) (.c (.int .i64 1)), []⟩,
       ⟨none, (some 14), .mov (.t 21), []⟩]))))
def k106 : Cd :=
  (.seq
   (.reg [2, 3] [
     ⟨none, (some 2), .zero true (zs 12 (.int .u16 0)), []⟩,
     ⟨none, (some 3), .mov (.c (.int .i64 0)), []⟩])
   (.seq
    (.seq
     (.reg [9] [
       ⟨none, (some 7), .mov (.t 0), []⟩,
       ⟨none, (some 8), .call true 316 [.t 7], []⟩,
       ⟨none, (some 9), .un .not (.t 8), []⟩])
     (.cond (.t 9)
      (.seq
       (.reg [2, 3] [
         ⟨none, (some 10), .agg (zs 12 (.int .u16 0)) [], []⟩,
         ⟨none, (some 2), .stV 2 none 12 (.t 10), []⟩,
         ⟨none, (some 3), .mov (.c (.int .i64 1)), []⟩])
       .ret)
      .skip))
    (.seq
     (.reg [4] [
       ⟨none, (some 11), .agg (zs 12 (.int .u16 0)) [], []⟩,
       ⟨none, (some 4), .zero true (zs 12 (.int .u16 0)), []⟩,
       ⟨none, (some 4), .stV 4 none 12 (.t 11), []⟩])
     (.seq
      (.seq
       (.reg [12, 13, 14] [
         ⟨none, (some 12), .mov (.t 0), []⟩,
         ⟨none, (some 13), .len (.t 12), []⟩,
         ⟨none, (some 14), .mov (.c (.int .i64 0)), []⟩])
       (.block 0
        (.loop b106_1)))
      (.seq
       (.reg [2, 3] [
         ⟨none, (some 22), .ldV 4 none 12 true, []⟩,
         ⟨none, (some 2), .stV 2 none 12 (.t 22), []⟩,
         ⟨none, (some 3), .mov (.c (.int .i64 0)), []⟩])
       .ret)))))
def c106 : Fn := { np := 1, nt := 23, kind := .pure, res := [.v 2 12 true, .t 3], body := k106 }

/- spec.PeriodOf -/
def b110_1 : Cd :=
  (.seq
   (.seq
    (.reg [21] [
      ⟨none, (some 16), .mov (.t 6), []⟩,
      ⟨none, (some 17), .mov (.t 4), []⟩,
      ⟨none, (some 18), .bin .add (.t 16) (.t 17), []⟩,
      ⟨none, (some 19), .mov (.t 0), []⟩,
      ⟨none, (some 20), .len (.t 19), []⟩,
      ⟨none, (some 21), .bin .lss (.t 18) (.t 20), []⟩])
    (.cond (.t 21)
     .skip
     (.exit 2)))
   (.seq
    (.block 3
     (.reg [5] [
       ⟨none, (some 24), .mov (.t 5), []⟩,
       ⟨none, (some 25), .mov (.t 24), []⟩,
       ⟨(some (25, true)), (some 26), .mov (.t 0), []⟩,
       ⟨(some (25, true)), (some 27), .mov (.t 6), []⟩,
       ⟨(some (25, true)), (some 28), .idxA 12 (.t 26) (.t 27), []⟩,
       ⟨(some (25, true)), (some 29), .ld 12 true (.t 28), []⟩,
       ⟨(some (25, true)), (some 30), .mov (.t 0), []⟩,
       ⟨(some (25, true)), (some 31), .mov (.t 6), []⟩,
       ⟨(some (25, true)), (some 32), .mov (.t 4), []⟩,
       ⟨(some (25, true)), (some 33), .bin .add (.t 31) (.t 32), []⟩,
       ⟨(some (25, true)), (some 34), .idxA 12 (.t 30) (.t 33), []⟩,
       ⟨(some (25, true)), (some 35), .ld 12 true (.t 34), []⟩,
       ⟨(some (25, true)), (some 36), .eq (.a (rb 12 (some .u16))) false (.t 29) (.t 35), []⟩,
       ⟨none, (some 37), .pick (.t 25) (.t 36) (.c (.bool false)), []⟩,
       ⟨none, (some 5), .mov (.t 37), []⟩]))
    (.reg [6] [
      ⟨none, (some 22), .mov (.t 6), []⟩,
      ⟨none, (some 23), .bin .add (.t 22) (.c (.int .i64 1)), []⟩,
      ⟨none, (some 6), .mov (.t 23), []⟩])))
def b110_2 : Cd :=
  (.seq
   (.seq
    (.reg [13] [
      ⟨none, (some 10), .mov (.t 4), []⟩,
      ⟨none, (some 11), .mov (.t 0), []⟩,
      ⟨none, (some 12), .len (.t 11), []⟩,
      ⟨none, (some 13), .bin .leq (.t 10) (.t 12), []⟩])
    (.cond (.t 13)
     .skip
     (.exit 0)))
   (.seq
    (.block 1
     (.seq
      (.reg [5] [
        ⟨none, (some 5), .mov (.c (.bool true)), []⟩])
      (.seq
       (.seq
        (.reg [6] [
          ⟨none, (some 6), .mov (.c (.int .i64 0)), []⟩])
        (.block 2
         (.loop b110_1)))
       (.seq
        (.reg [38] [
          ⟨none, (some 38), .mov (.t 5), []⟩])
        (.cond (.t 38)
         (.seq
          (.reg [2, 3] [
            ⟨none, (some 39), .mov (.t 4), []⟩,
            ⟨none, (some 2), .mov (.t 39), []⟩,
            ⟨none, (some 3), .mov (.c (.int .i64 0)), []⟩])
          .ret)
         .skip)))))
    (.reg [4] [
      ⟨none, (some 14), .mov (.t 4), []⟩,
      ⟨none, (some 15), .bin .add (.t 14) (.c (.int .i64 1)), []⟩,
      ⟨none, (some 4), .mov (.t 15), []⟩])))
def k110 : Cd :=
  (.seq
   (.reg [2, 3] [
     ⟨none, (some 2), .mov (.c (.int .i64 0)), []⟩,
     ⟨none, (some 3), .mov (.c (.int .i64 0)), []⟩])
   (.seq
    (.seq
     (.reg [9] [
       ⟨none, (some 7), .mov (.t 0), []⟩,
       ⟨none, (some 8), .call true 318 [.t 7], []⟩,
       ⟨none, (some 9), .un .not (.t 8), []⟩])
     (.cond (.t 9)
      (.seq
       (.reg [2, 3] [
         ⟨none, (some 2), .mov (.c (.int .i64 0)), []⟩,
         ⟨none, (some 3), .mov (.c (.int .i64 1)), []⟩])
       .ret)
      .skip))
    (.seq
     (.seq
      (.reg [4] [
        ⟨none, (some 4), .mov (.c (.int .i64 1)), []⟩])
      (.block 0
       (.loop b110_2)))
     (.seq
      (.reg [2, 3] [
        ⟨none, (some 2), .mov (.c (.int .i64 0)), []⟩,
        ⟨none, (some 3), .mov (.c (.int .i64 6)), []⟩])
      .ret))))
def c110 : Fn := { np := 1, nt := 40, kind := .pure, res := [.t 2, .t 3], body := k110 }

/- impl.PeriodOf -/
def b111_1 : Cd :=
  (.seq
   (.seq
    (.reg [23] [
      ⟨none, (some 13), .mov (.t 0), []⟩,
      ⟨none, (some 14), .mov (.t 0), []⟩,
      ⟨none, (some 15), .len (.t 14), []⟩,
      ⟨none, (some 16), .mov (.t 4), []⟩,
      ⟨none, (some 17), .bin .sub (.t 15) (.t 16), []⟩,
      ⟨none, (some 18), .slcA 12 (.t 13) none (some (.t 17)) none, []⟩,
      ⟨none, (some 19), .mov (.t 0), []⟩,
      ⟨none, (some 20), .mov (.t 4), []⟩,
      ⟨none, (some 21), .slcA 12 (.t 19) (some (.t 20)) none none, []⟩,
      ⟨none, (some 22), .call true 341 [.t 18, .t 21], []⟩,
      ⟨none, (some 23), .un .not (.t 22), []⟩])
    (.cond (.t 23)
     .skip
     (.exit 1)))
   (.block 2
    (.reg [4] [
      ⟨none, (some 24), .mov (.t 4), []⟩,
      ⟨none, (some 25), .bin .add (.t 24) (.c (.int .i64 1)), []⟩,
      ⟨none, (some 4), .mov (.t 25), []⟩])))
def k111 : Cd :=
  (.seq
   (.reg [2, 3] [
     ⟨none, (some 2), .mov (.c (.int .i64 0)), []⟩,
     ⟨none, (some 3), .mov (.c (.int .i64 0)), []⟩])
   (.seq
    (.block 0
     (.seq
      (.reg [5] [
        ⟨none, (some 6), .mov (.t 0), []⟩,
        ⟨none, (some 7), .call true 316 [.t 6], []⟩,
        ⟨none, (some 8), .un .not (.t 7), []⟩,
        ⟨none, (some 5), .mov (.t 8), []⟩])
      (.cond (.t 5)
       (.seq
        (.reg [2, 3] [
          ⟨none, (some 2), .mov (.c (.int .i64 0)), []⟩,
          ⟨none, (some 3), .mov (.c (.int .i64 1)), []⟩])
        .ret)
       (.seq
        (.reg [9] [
          ⟨none, (some 10), .mov (.t 0), []⟩,
          ⟨none, (some 11), .len (.t 10), []⟩,
          ⟨none, (some 12), .bin .eql (.t 11) (.c (.int .i64 0)), []⟩,
          ⟨none, (some 9), .mov (.t 12), []⟩])
        (.cond (.t 9)
         (.seq
          (.reg [2, 3] [
            ⟨none, (some 2), .mov (.c (.int .i64 0)), []⟩,
            ⟨none, (some 3), .mov (.c (.int .i64 6)), []⟩])
          .ret)
         .skip)))))
    (.seq
     (.reg [4] [
       ⟨none, (some 4), .mov (.c (.int .i64 1)), []⟩])
     (.seq
      (.block 1
       (.loop b111_1))
      (.seq
       (.reg [2, 3] [
         ⟨none, (some 26), .mov (.t 4), []⟩,
         ⟨none, (some 2), .mov (.t 26), []⟩,
         ⟨none, (some 3), .mov (.c (.int .i64 0)), []⟩])
       .ret)))))
def c111 : Fn := { np := 1, nt := 27, kind := .pure, res := [.t 2, .t 3], body := k111 }

/- impl.StillDots -/
def b118_1 : Cd :=
  (.seq
   (.reg [15] [
     ⟨none, (some 15), .bin .lss (.t 14) (.t 13), []⟩])
   (.seq
    (.cond (.t 15)
     .skip
     (.exit 0))
    (.seq
     (.block 1
      (.seq
       (.reg [6] [
         ⟨none, (some 16), .idxA 12 (.t 12) (.t 14), []⟩,
         ⟨none, (some 17), .ld 12 true (.t 16), []⟩,
         ⟨none, (some 6), .zero true (zs 12 (.int .u16 0)), []⟩,
         ⟨none, (some 6), .stV 6 none 12 (.t 17), []⟩])
       (.reg [4] [
         ⟨none, (some 18), .ldV 4 none 12 true, []⟩,
         ⟨none, (some 19), .ldV 6 none 12 true, []⟩,
         ⟨none, (some 20), .call true 348 [.t 18, .t 19], []⟩,
         ⟨none, (some 4), .stV 4 none 12 (.t 20), []⟩])))
     (.reg [14] [
       ⟨none, (some 21), .bin .add (.t 14) (.c (.int .i64 1)), []⟩,
       ⟨none, (some 14), .mov (.t 21), []⟩]))))
def k118 : Cd :=
  (.seq
   (.reg [2, 3] [
     ⟨none, (some 2), .zero true (zs 12 (.int .u16 0)), []⟩,
     ⟨none, (some 3), .mov (.c (.int .i64 0)), []⟩])
   (.seq
    (.seq
     (.reg [9] [
       ⟨none, (some 7), .mov (.t 0), []⟩,
       ⟨none, (some 8), .call true 316 [.t 7], []⟩,
       ⟨none, (some 9), .un .not (.t 8), []⟩])
     (.cond (.t 9)
      (.seq
       (.reg [2, 3] [
         ⟨none, (some 10), .agg (zs 12 (.int .u16 0)) [], []⟩,
         ⟨none, (some 2), .stV 2 none 12 (.t 10), []⟩,
         ⟨none, (some 3), .mov (.c (.int .i64 1)), []⟩])
       .ret)
      .skip))
    (.seq
     (.reg [4] [
       ⟨none, (some 11), .call true 306 [.f 347], []⟩,
       ⟨none, (some 4), .zero true (zs 12 (.int .u16 0)), []⟩,
       ⟨none, (some 4), .stV 4 none 12 (.t 11), []⟩])
     (.seq
      (.seq
       (.reg [12, 13, 14] [
         ⟨none, (some 12), .mov (.t 0), []⟩,
         ⟨none, (some 13), .len (.t 12), []⟩,
         ⟨none, (some 14), .mov (.c (.int .i64 0)), []⟩])
       (.block 0
        (.loop b118_1)))
      (.seq
       (.reg [2, 3] [
         ⟨none, (some 22), .ldV 4 none 12 true, []⟩,
         ⟨none, (some 2), .stV 2 none 12 (.t 22), []⟩,
         ⟨none, (some 3), .mov (.c (.int .i64 0)), []⟩])
       .ret)))))
def c118 : Fn := { np := 1, nt := 23, kind := .pure, res := [.v 2 12 true, .t 3], body := k118 }

/- impl.GhostsOf -/
def b120_1 : Cd :=
  (.seq
   (.seq
    (.reg [13] [
      ⟨none, (some 10), .mov (.t 5), []⟩,
      ⟨none, (some 11), .mov (.t 0), []⟩,
      ⟨none, (some 12), .len (.t 11), []⟩,
      ⟨none, (some 13), .bin .lss (.t 10) (.t 12), []⟩])
    (.cond (.t 13)
     .skip
     (.exit 0)))
   (.seq
    (.block 1
     (.reg [4] [
       ⟨none, (some 16), .mov (.t 4), []⟩,
       ⟨none, (some 17), .mov (.t 0), []⟩,
       ⟨none, (some 18), .mov (.t 5), []⟩,
       ⟨none, (some 19), .bin .sub (.t 18) (.c (.int .i64 1)), []⟩,
       ⟨none, (some 20), .idxA 12 (.t 17) (.t 19), []⟩,
       ⟨none, (some 21), .ld 12 true (.t 20), []⟩,
       ⟨none, (some 22), .mov (.t 0), []⟩,
       ⟨none, (some 23), .mov (.t 5), []⟩,
       ⟨none, (some 24), .idxA 12 (.t 22) (.t 23), []⟩,
       ⟨none, (some 25), .ld 12 true (.t 24), []⟩,
       ⟨none, (some 26), .call true 350 [.t 21, .t 25], []⟩,
       ⟨none, (some 27), .bldS 12 1 (zs 12 (.int .u16 0)) [(0, 12, (.t 26))], []⟩,
       ⟨none, (some 28), .app 12 24 (.t 16) (.t 27), []⟩,
       ⟨none, (some 4), .mov (.t 28), []⟩]))
    (.reg [5] [
      ⟨none, (some 14), .mov (.t 5), []⟩,
      ⟨none, (some 15), .bin .add (.t 14) (.c (.int .i64 1)), []⟩,
      ⟨none, (some 5), .mov (.t 15), []⟩])))
def k120 : Cd :=
  (.seq
   (.reg [2, 3] [
     ⟨none, (some 2), .mov (.c (.slice none 0 0)), []⟩,
     ⟨none, (some 3), .mov (.c (.int .i64 0)), []⟩])
   (.seq
    (.seq
     (.reg [8] [
       ⟨none, (some 6), .mov (.t 0), []⟩,
       ⟨none, (some 7), .call true 316 [.t 6], []⟩,
       ⟨none, (some 8), .un .not (.t 7), []⟩])
     (.cond (.t 8)
      (.seq
       (.reg [2, 3] [
         ⟨none, (some 2), .mov (.c (.slice none 0 0)), []⟩,
         ⟨none, (some 3), .mov (.c (.int .i64 1)), []⟩])
       .ret)
      .skip))
    (.seq
     (.reg [4] [
       ⟨none, (some 9), .bldS 12 0 (zs 12 (.int .u16 0)) [], []⟩,
       ⟨none, (some 4), .mov (.t 9), []⟩])
     (.seq
      (.seq
       (.reg [5] [
         ⟨none, (some 5), .mov (.c (.int .i64 1)), []⟩])
       (.block 0
        (.loop b120_1)))
      (.seq
       (.reg [2, 3] [
         ⟨none, (some 29), .mov (.t 4), []⟩,
         ⟨none, (some 2), .mov (.t 29), []⟩,
         ⟨none, (some 3), .mov (.c (.int .i64 0)), []⟩])
       .ret)))))
def c120 : Fn := { np := 1, nt := 30, kind := .pure, res := [.t 2, .t 3], body := k120 }

/- laws.a2At -/
def k124 : Cd :=
  (.seq
   (.reg [6] [
     ⟨none, (some 6), .mov (.c (.int .i64 0)), []⟩])
   (.seq
    (.seq
     (.reg [14] [
       ⟨none, (some 7), .mov (.t 1), []⟩,
       ⟨none, (some 8), .mov (.t 0), []⟩,
       ⟨none, (some 9), .len (.t 8), []⟩,
       ⟨none, (some 10), .bin .geq (.t 7) (.t 9), []⟩,
       ⟨none, (some 11), .mov (.t 10), []⟩,
       ⟨(some (11, false)), (some 12), .mov (.t 2), []⟩,
       ⟨(some (11, false)), (some 13), .bin .lss (.t 12) (.c (.int .i64 1)), []⟩,
       ⟨none, (some 14), .pick (.t 11) (.c (.bool true)) (.t 13), []⟩])
     (.cond (.t 14)
      (.seq
       (.reg [6] [
         ⟨none, (some 6), .mov (.c (.int .i64 0)), []⟩])
       .ret)
      .skip))
    (.seq
     (.reg [6] [
       ⟨none, (some 15), .mov (.t 0), []⟩,
       ⟨none, (some 16), .mov (.t 1), []⟩,
       ⟨none, (some 17), .idxA 1 (.t 15) (.t 16), []⟩,
       ⟨none, (some 18), .ld 1 false (.t 17), []⟩,
       ⟨none, (some 19), .conv .i64 (.t 18), []⟩,
       ⟨none, (some 20), .mov (.t 2), []⟩,
       ⟨none, (some 21), .bin .rem (.t 19) (.t 20), []⟩,
       ⟨none, (some 6), .mov (.t 21), []⟩])
     .ret)))
def c124 : Fn := { np := 3, nt := 22, kind := .pure, res := [.t 6], body := k124 }

/- impl.DifferBy -/
def k125 : Cd :=
  (.seq
   (.reg [2, 3, 4, 5] [
     ⟨none, (some 2), .mov (.t 0), []⟩,
     ⟨none, (some 3), .mov (.t 1), []⟩,
     ⟨none, (some 4), .mov (.c (.int .i64 0)), []⟩,
     ⟨none, (some 5), .mov (.c (.int .i64 0)), []⟩])
   (.seq
    (.seq
     (.reg [10] [
       ⟨none, (some 6), .ldV 2 none 12 true, []⟩,
       ⟨none, (some 7), .ldV 3 none 12 true, []⟩,
       ⟨none, (some 8), .bldS 12 2 (zs 12 (.int .u16 0)) [(0, 12, (.t 6)), (12, 12, (.t 7))], []⟩,
       ⟨none, (some 9), .call true 351 [.t 8], []⟩,
       ⟨none, (some 10), .un .not (.t 9), []⟩])
     (.cond (.t 10)
      (.seq
       (.reg [4, 5] [
         ⟨none, (some 4), .mov (.c (.int .i64 0)), []⟩,
         ⟨none, (some 5), .mov (.c (.int .i64 1)), []⟩])
       .ret)
      .skip))
    (.seq
     (.reg [4, 5] [
       ⟨none, (some 11), .ldV 2 none 12 true, []⟩,
       ⟨none, (some 12), .ldV 3 none 12 true, []⟩,
       ⟨none, (some 13), .call true 324 [.t 11, .t 12], []⟩,
       ⟨none, (some 4), .mov (.t 13), []⟩,
       ⟨none, (some 5), .mov (.c (.int .i64 0)), []⟩])
     .ret)))
def c125 : Fn := { np := 2, nt := 14, kind := .pure, res := [.t 4, .t 5], body := k125 }

/- impl.CopiesOf -/
def k126 : Cd :=
  (.seq
   (.reg [4, 5] [
     ⟨none, (some 4), .mov (.c (.slice none 0 0)), []⟩,
     ⟨none, (some 5), .mov (.c (.int .i64 0)), []⟩])
   (.seq
    (.reg [6, 8] [
      ⟨none, (some 10), .mov (.t 0), []⟩,
      ⟨none, (some 11), .mov (.t 1), []⟩,
      ⟨none, (some 12), .call true 352 [.t 10, .t 11, .c (.int .i64 0)], []⟩,
      ⟨none, (some 9), .mov (.t 12), []⟩,
      ⟨none, (some 13), .ext (.t 9) 0, []⟩,
      ⟨none, (some 14), .ext (.t 9) 1, []⟩,
      ⟨none, (some 15), .ext (.t 9) 2, []⟩,
      ⟨none, (some 6), .mov (.t 13), []⟩,
      ⟨none, (some 7), .mov (.t 14), []⟩,
      ⟨none, (some 8), .mov (.t 15), []⟩])
    (.seq
     (.reg [4, 5] [
       ⟨none, (some 16), .mov (.t 6), []⟩,
       ⟨none, (some 17), .mov (.t 8), []⟩,
       ⟨none, (some 4), .mov (.t 16), []⟩,
       ⟨none, (some 5), .mov (.t 17), []⟩])
     .ret)))
def c126 : Fn := { np := 2, nt := 18, kind := .pure, res := [.t 4, .t 5], body := k126 }

/- spec.CopiesOf -/
def b127_1 : Cd :=
  (.seq
   (.seq
    (.reg [28] [
      ⟨none, (some 22), .mov (.t 7), []⟩,
      ⟨none, (some 23), .mov (.t 1), []⟩,
      ⟨none, (some 24), .len (.t 23), []⟩,
      ⟨none, (some 25), .bin .add (.t 22) (.t 24), []⟩,
      ⟨none, (some 26), .mov (.t 0), []⟩,
      ⟨none, (some 27), .len (.t 26), []⟩,
      ⟨none, (some 28), .bin .leq (.t 25) (.t 27), []⟩])
    (.cond (.t 28)
     .skip
     (.exit 0)))
   (.seq
    (.block 1
     (.seq
      (.reg [39] [
        ⟨none, (some 31), .mov (.t 0), []⟩,
        ⟨none, (some 32), .mov (.t 7), []⟩,
        ⟨none, (some 33), .mov (.t 7), []⟩,
        ⟨none, (some 34), .mov (.t 1), []⟩,
        ⟨none, (some 35), .len (.t 34), []⟩,
        ⟨none, (some 36), .bin .add (.t 33) (.t 35), []⟩,
        ⟨none, (some 37), .slcA 12 (.t 31) (some (.t 32)) (some (.t 36)) none, []⟩,
        ⟨none, (some 38), .mov (.t 1), []⟩,
        ⟨none, (some 39), .call true 323 [.t 37, .t 38], []⟩])
      (.cond (.t 39)
       (.reg [6] [
         ⟨none, (some 40), .mov (.t 6), []⟩,
         ⟨none, (some 41), .mov (.t 7), []⟩,
         ⟨none, (some 42), .bldS 1 1 [.int .i64 0] [(0, 1, (.t 41))], []⟩,
         ⟨none, (some 43), .app 1 8 (.t 40) (.t 42), []⟩,
         ⟨none, (some 6), .mov (.t 43), []⟩])
       .skip)))
    (.reg [7] [
      ⟨none, (some 29), .mov (.t 7), []⟩,
      ⟨none, (some 30), .bin .add (.t 29) (.c (.int .i64 1)), []⟩,
      ⟨none, (some 7), .mov (.t 30), []⟩])))
def k127 : Cd :=
  (.seq
   (.reg [4, 5] [
     ⟨none, (some 4), .mov (.c (.slice none 0 0)), []⟩,
     ⟨none, (some 5), .mov (.c (.int .i64 0)), []⟩])
   (.seq
    (.seq
     (.reg [15] [
       ⟨none, (some 8), .mov (.t 0), []⟩,
       ⟨none, (some 9), .call true 318 [.t 8], []⟩,
       ⟨none, (some 10), .un .not (.t 9), []⟩,
       ⟨none, (some 11), .mov (.t 10), []⟩,
       ⟨(some (11, false)), (some 12), .mov (.t 1), []⟩,
       ⟨(some (11, false)), (some 13), .call true 318 [.t 12], []⟩,
       ⟨(some (11, false)), (some 14), .un .not (.t 13), []⟩,
       ⟨none, (some 15), .pick (.t 11) (.c (.bool true)) (.t 14), []⟩])
     (.cond (.t 15)
      (.seq
       (.reg [4, 5] [
         ⟨none, (some 16), .bldS 1 0 [.int .i64 0] [], []⟩,
         ⟨none, (some 4), .mov (.t 16), []⟩,
         ⟨none, (some 5), .mov (.c (.int .i64 1)), []⟩])
       .ret)
      .skip))
    (.seq
     (.seq
      (.reg [19] [
        ⟨none, (some 17), .mov (.t 1), []⟩,
        ⟨none, (some 18), .len (.t 17), []⟩,
        ⟨none, (some 19), .bin .eql (.t 18) (.c (.int .i64 0)), []⟩])
      (.cond (.t 19)
       (.seq
        (.reg [4, 5] [
          ⟨none, (some 20), .bldS 1 0 [.int .i64 0] [], []⟩,
          ⟨none, (some 4), .mov (.t 20), []⟩,
          ⟨none, (some 5), .mov (.c (.int .i64 2)), []⟩])
        .ret)
       .skip))
     (.seq
      (.reg [6] [
        ⟨none, (some 21), .bldS 1 0 [.int .i64 0] [], []⟩,
        ⟨none, (some 6), .mov (.t 21), []⟩])
      (.seq
       (.seq
        (.reg [7] [
          ⟨none, (some 7), .mov (.c (.int .i64 0)), []⟩])
        (.block 0
         (.loop b127_1)))
       (.seq
        (.reg [4, 5] [
          ⟨none, (some 44), .mov (.t 6), []⟩,
          ⟨none, (some 4), .mov (.t 44), []⟩,
          ⟨none, (some 5), .mov (.c (.int .i64 0)), []⟩])
        .ret))))))
def c127 : Fn := { np := 2, nt := 45, kind := .pure, res := [.t 4, .t 5], body := k127 }

/- impl.MovedCopies -/
def k128 : Cd :=
  (.seq
   (.reg [6, 7, 8] [
     ⟨none, (some 6), .mov (.c (.slice none 0 0)), []⟩,
     ⟨none, (some 7), .mov (.c (.slice none 0 0)), []⟩,
     ⟨none, (some 8), .mov (.c (.int .i64 0)), []⟩])
   (.seq
    (.reg [6, 7, 8] [
      ⟨none, (some 9), .mov (.t 0), []⟩,
      ⟨none, (some 10), .mov (.t 1), []⟩,
      ⟨none, (some 11), .mov (.t 2), []⟩,
      ⟨none, (some 12), .call true 352 [.t 9, .t 10, .t 11], []⟩,
      ⟨none, (some 13), .ext (.t 12) 0, []⟩,
      ⟨none, (some 14), .ext (.t 12) 1, []⟩,
      ⟨none, (some 15), .ext (.t 12) 2, []⟩,
      ⟨none, (some 6), .mov (.t 13), []⟩,
      ⟨none, (some 7), .mov (.t 14), []⟩,
      ⟨none, (some 8), .mov (.t 15), []⟩])
    .ret))
def c128 : Fn := { np := 3, nt := 16, kind := .pure, res := [.t 6, .t 7, .t 8], body := k128 }

/- spec.MovedCopies -/
def b129_1 : Cd :=
  (.seq
   (.seq
    (.reg [58] [
      ⟨none, (some 55), .mov (.t 15), []⟩,
      ⟨none, (some 56), .mov (.t 1), []⟩,
      ⟨none, (some 57), .len (.t 56), []⟩,
      ⟨none, (some 58), .bin .lss (.t 55) (.t 57), []⟩])
    (.cond (.t 58)
     .skip
     (.exit 4)))
   (.seq
    (.block 5
     (.reg [14] [
       ⟨none, (some 61), .mov (.t 14), []⟩,
       ⟨none, (some 62), .mov (.t 61), []⟩,
       ⟨(some (62, true)), (some 63), .mov (.t 1), []⟩,
       ⟨(some (62, true)), (some 64), .mov (.t 15), []⟩,
       ⟨(some (62, true)), (some 65), .idxA 12 (.t 63) (.t 64), []⟩,
       ⟨(some (62, true)), (some 66), .mov (.t 11), []⟩,
       ⟨(some (62, true)), (some 67), .mov (.t 13), []⟩,
       ⟨(some (62, true)), (some 68), .idxA 2 (.t 66) (.t 67), []⟩,
       ⟨(some (62, true)), (some 69), .fldP 0 (.t 68), []⟩,
       ⟨(some (62, true)), (some 70), .ld 1 false (.t 69), []⟩,
       ⟨(some (62, true)), (some 71), .conv .i64 (.t 70), []⟩,
       ⟨(some (62, true)), (some 72), .mov (.t 11), []⟩,
       ⟨(some (62, true)), (some 73), .mov (.t 13), []⟩,
       ⟨(some (62, true)), (some 74), .idxA 2 (.t 72) (.t 73), []⟩,
       ⟨(some (62, true)), (some 75), .fldP 1 (.t 74), []⟩,
       ⟨(some (62, true)), (some 76), .ld 1 false (.t 75), []⟩,
       ⟨(some (62, true)), (some 77), .conv .i64 (.t 76), []⟩,
       ⟨(some (62, true)), (some 79), .mov (.t 0), []⟩,
       ⟨(some (62, true)), (some 80), .mov (.t 12), []⟩,
       ⟨(some (62, true)), (some 81), .mov (.t 15), []⟩,
       ⟨(some (62, true)), (some 82), .bin .add (.t 80) (.t 81), []⟩,
       ⟨(some (62, true)), (some 83), .idxA 12 (.t 79) (.t 82), []⟩,
       ⟨(some (62, true)), (some 84), .ld 12 true (.t 83), []⟩,
       ⟨(some (62, true)), (some 78), .call true 355 [.t 65, .t 71, .t 77], []⟩,
       ⟨(some (62, true)), (some 85), .eq (.a (rb 12 (some .u16))) false (.t 78) (.t 84), []⟩,
       ⟨none, (some 86), .pick (.t 62) (.t 85) (.c (.bool false)), []⟩,
       ⟨none, (some 14), .mov (.t 86), []⟩]))
    (.reg [15] [
      ⟨none, (some 59), .mov (.t 15), []⟩,
      ⟨none, (some 60), .bin .add (.t 59) (.c (.int .i64 1)), []⟩,
      ⟨none, (some 15), .mov (.t 60), []⟩])))
def b129_2 : Cd :=
  (.seq
   (.seq
    (.reg [52] [
      ⟨none, (some 49), .mov (.t 13), []⟩,
      ⟨none, (some 50), .mov (.t 11), []⟩,
      ⟨none, (some 51), .len (.t 50), []⟩,
      ⟨none, (some 52), .bin .lss (.t 49) (.t 51), []⟩])
    (.cond (.t 52)
     .skip
     (.exit 2)))
   (.seq
    (.block 3
     (.seq
      (.reg [14] [
        ⟨none, (some 14), .mov (.c (.bool true)), []⟩])
      (.seq
       (.seq
        (.reg [15] [
          ⟨none, (some 15), .mov (.c (.int .i64 0)), []⟩])
        (.block 4
         (.loop b129_1)))
       (.seq
        (.reg [87] [
          ⟨none, (some 87), .mov (.t 14), []⟩])
        (.cond (.t 87)
         (.seq
          (.reg [9] [
            ⟨none, (some 88), .mov (.t 9), []⟩,
            ⟨none, (some 89), .mov (.t 12), []⟩,
            ⟨none, (some 90), .bldS 1 1 [.int .i64 0] [(0, 1, (.t 89))], []⟩,
            ⟨none, (some 91), .app 1 8 (.t 88) (.t 90), []⟩,
            ⟨none, (some 9), .mov (.t 91), []⟩])
          (.seq
           (.reg [10] [
             ⟨none, (some 92), .mov (.t 10), []⟩,
             ⟨none, (some 93), .mov (.t 11), []⟩,
             ⟨none, (some 94), .mov (.t 13), []⟩,
             ⟨none, (some 95), .idxA 2 (.t 93) (.t 94), []⟩,
             ⟨none, (some 96), .ld 2 true (.t 95), []⟩,
             ⟨none, (some 97), .bldS 2 1 [.int .i8 0, .int .i8 0] [(0, 2, (.t 96))], []⟩,
             ⟨none, (some 98), .app 2 2 (.t 92) (.t 97), []⟩,
             ⟨none, (some 10), .mov (.t 98), []⟩])
           (.exit 2)))
         .skip)))))
    (.reg [13] [
      ⟨none, (some 53), .mov (.t 13), []⟩,
      ⟨none, (some 54), .bin .add (.t 53) (.c (.int .i64 1)), []⟩,
      ⟨none, (some 13), .mov (.t 54), []⟩])))
def b129_3 : Cd :=
  (.seq
   (.seq
    (.reg [46] [
      ⟨none, (some 40), .mov (.t 12), []⟩,
      ⟨none, (some 41), .mov (.t 1), []⟩,
      ⟨none, (some 42), .len (.t 41), []⟩,
      ⟨none, (some 43), .bin .add (.t 40) (.t 42), []⟩,
      ⟨none, (some 44), .mov (.t 0), []⟩,
      ⟨none, (some 45), .len (.t 44), []⟩,
      ⟨none, (some 46), .bin .leq (.t 43) (.t 45), []⟩])
    (.cond (.t 46)
     .skip
     (.exit 0)))
   (.seq
    (.block 1
     (.seq
      (.reg [13] [
        ⟨none, (some 13), .mov (.c (.int .i64 0)), []⟩])
      (.block 2
       (.loop b129_2))))
    (.reg [12] [
      ⟨none, (some 47), .mov (.t 12), []⟩,
      ⟨none, (some 48), .bin .add (.t 47) (.c (.int .i64 1)), []⟩,
      ⟨none, (some 12), .mov (.t 48), []⟩])))
def k129 : Cd :=
  (.seq
   (.reg [6, 7, 8] [
     ⟨none, (some 6), .mov (.c (.slice none 0 0)), []⟩,
     ⟨none, (some 7), .mov (.c (.slice none 0 0)), []⟩,
     ⟨none, (some 8), .mov (.c (.int .i64 0)), []⟩])
   (.seq
    (.seq
     (.reg [23] [
       ⟨none, (some 16), .mov (.t 0), []⟩,
       ⟨none, (some 17), .call true 318 [.t 16], []⟩,
       ⟨none, (some 18), .un .not (.t 17), []⟩,
       ⟨none, (some 19), .mov (.t 18), []⟩,
       ⟨(some (19, false)), (some 20), .mov (.t 1), []⟩,
       ⟨(some (19, false)), (some 21), .call true 318 [.t 20], []⟩,
       ⟨(some (19, false)), (some 22), .un .not (.t 21), []⟩,
       ⟨none, (some 23), .pick (.t 19) (.c (.bool true)) (.t 22), []⟩])
     (.cond (.t 23)
      (.seq
       (.reg [6, 7, 8] [
         ⟨none, (some 24), .bldS 1 0 [.int .i64 0] [], []⟩,
         ⟨none, (some 25), .bldS 2 0 [.int .i8 0, .int .i8 0] [], []⟩,
         ⟨none, (some 6), .mov (.t 24), []⟩,
         ⟨none, (some 7), .mov (.t 25), []⟩,
         ⟨none, (some 8), .mov (.c (.int .i64 1)), []⟩])
       .ret)
      .skip))
    (.seq
     (.seq
      (.reg [33] [
        ⟨none, (some 26), .mov (.t 2), []⟩,
        ⟨none, (some 27), .call true 353 [.t 26], []⟩,
        ⟨none, (some 28), .un .not (.t 27), []⟩,
        ⟨none, (some 29), .mov (.t 28), []⟩,
        ⟨(some (29, false)), (some 30), .mov (.t 1), []⟩,
        ⟨(some (29, false)), (some 31), .len (.t 30), []⟩,
        ⟨(some (29, false)), (some 32), .bin .eql (.t 31) (.c (.int .i64 0)), []⟩,
        ⟨none, (some 33), .pick (.t 29) (.c (.bool true)) (.t 32), []⟩])
      (.cond (.t 33)
       (.seq
        (.reg [6, 7, 8] [
          ⟨none, (some 34), .bldS 1 0 [.int .i64 0] [], []⟩,
          ⟨none, (some 35), .bldS 2 0 [.int .i8 0, .int .i8 0] [], []⟩,
          ⟨none, (some 6), .mov (.t 34), []⟩,
          ⟨none, (some 7), .mov (.t 35), []⟩,
          ⟨none, (some 8), .mov (.c (.int .i64 2)), []⟩])
        .ret)
       .skip))
     (.seq
      (.reg [9] [
        ⟨none, (some 36), .bldS 1 0 [.int .i64 0] [], []⟩,
        ⟨none, (some 9), .mov (.t 36), []⟩])
      (.seq
       (.reg [10] [
         ⟨none, (some 37), .bldS 2 0 [.int .i8 0, .int .i8 0] [], []⟩,
         ⟨none, (some 10), .mov (.t 37), []⟩])
       (.seq
        (.reg [11] [
          ⟨none, (some 38), .mov (.t 2), []⟩,
          ⟨none, (some 39), .call true 354 [.t 38], []⟩,
          ⟨none, (some 11), .mov (.t 39), []⟩])
        (.seq
         (.seq
          (.reg [12] [
            ⟨none, (some 12), .mov (.c (.int .i64 0)), []⟩])
          (.block 0
           (.loop b129_3)))
         (.seq
          (.reg [6, 7, 8] [
            ⟨none, (some 99), .mov (.t 9), []⟩,
            ⟨none, (some 100), .mov (.t 10), []⟩,
            ⟨none, (some 6), .mov (.t 99), []⟩,
            ⟨none, (some 7), .mov (.t 100), []⟩,
            ⟨none, (some 8), .mov (.c (.int .i64 0)), []⟩])
          .ret))))))))
def c129 : Fn := { np := 3, nt := 101, kind := .pure, res := [.t 6, .t 7, .t 8], body := k129 }

/- spec.A2Same -/
def k130 : Cd :=
  (.seq
   (.reg [4] [
     ⟨none, (some 4), .mov (.c (.bool false)), []⟩])
   (.seq
    (.reg [4] [
      ⟨none, (some 5), .mov (.t 0), []⟩,
      ⟨none, (some 6), .mov (.t 1), []⟩,
      ⟨none, (some 7), .call true 356 [.t 5, .t 6], []⟩,
      ⟨none, (some 4), .mov (.t 7), []⟩])
    .ret))
def c130 : Fn := { np := 2, nt := 8, kind := .pure, res := [.t 4], body := k130 }

/- spec.A2SameMoves -/
def b131_1 : Cd :=
  (.seq
   (.seq
    (.reg [14] [
      ⟨none, (some 11), .mov (.t 5), []⟩,
      ⟨none, (some 12), .mov (.t 0), []⟩,
      ⟨none, (some 13), .len (.t 12), []⟩,
      ⟨none, (some 14), .bin .lss (.t 11) (.t 13), []⟩])
    (.cond (.t 14)
     .skip
     (.exit 0)))
   (.seq
    (.block 1
     (.seq
      (.reg [25] [
        ⟨none, (some 17), .mov (.t 0), []⟩,
        ⟨none, (some 18), .mov (.t 5), []⟩,
        ⟨none, (some 19), .idxA 2 (.t 17) (.t 18), []⟩,
        ⟨none, (some 20), .ld 2 true (.t 19), []⟩,
        ⟨none, (some 21), .mov (.t 1), []⟩,
        ⟨none, (some 22), .mov (.t 5), []⟩,
        ⟨none, (some 23), .idxA 2 (.t 21) (.t 22), []⟩,
        ⟨none, (some 24), .ld 2 true (.t 23), []⟩,
        ⟨none, (some 25), .eq (.a (rb 2 (some .i8))) true (.t 20) (.t 24), []⟩])
      (.cond (.t 25)
       (.seq
        (.reg [4] [
          ⟨none, (some 4), .mov (.c (.bool false)), []⟩])
        .ret)
       .skip)))
    (.reg [5] [
      ⟨none, (some 15), .mov (.t 5), []⟩,
      ⟨none, (some 16), .bin .add (.t 15) (.c (.int .i64 1)), []⟩,
      ⟨none, (some 5), .mov (.t 16), []⟩])))
def k131 : Cd :=
  (.seq
   (.reg [4] [
     ⟨none, (some 4), .mov (.c (.bool false)), []⟩])
   (.seq
    (.seq
     (.reg [10] [
       ⟨none, (some 6), .mov (.t 0), []⟩,
       ⟨none, (some 7), .len (.t 6), []⟩,
       ⟨none, (some 8), .mov (.t 1), []⟩,
       ⟨none, (some 9), .len (.t 8), []⟩,
       ⟨none, (some 10), .bin .neq (.t 7) (.t 9), []⟩])
     (.cond (.t 10)
      (.seq
       (.reg [4] [
         ⟨none, (some 4), .mov (.c (.bool false)), []⟩])
       .ret)
      .skip))
    (.seq
     (.seq
      (.reg [5] [
        ⟨none, (some 5), .mov (.c (.int .i64 0)), []⟩])
      (.block 0
       (.loop b131_1)))
     (.seq
      (.reg [4] [
        ⟨none, (some 4), .mov (.c (.bool true)), []⟩])
      .ret))))
def c131 : Fn := { np := 2, nt := 26, kind := .pure, res := [.t 4], body := k131 }

/- impl.MoveFrame -/
def k132 : Cd :=
  (.seq
   (.reg [3, 6, 7] [
     ⟨none, (some 3), .mov (.t 0), []⟩,
     ⟨none, (some 6), .zero true (zs 12 (.int .u16 0)), []⟩,
     ⟨none, (some 7), .mov (.c (.int .i64 0)), []⟩])
   (.seq
    (.seq
     (.reg [8] [
       ⟨none, (some 9), .ldV 3 none 12 true, []⟩,
       ⟨none, (some 10), .mov (.t 1), []⟩,
       ⟨none, (some 11), .mov (.t 2), []⟩,
       ⟨none, (some 12), .call true 357 [.t 9, .t 10, .t 11], []⟩,
       ⟨none, (some 8), .mov (.t 12), []⟩])
     (.seq
      (.reg [14] [
        ⟨none, (some 13), .mov (.t 8), []⟩,
        ⟨none, (some 14), .bin .neq (.t 13) (.c (.int .i64 0)), []⟩])
      (.cond (.t 14)
       (.seq
        (.reg [6, 7] [
          ⟨none, (some 15), .agg (zs 12 (.int .u16 0)) [], []⟩,
          ⟨none, (some 16), .mov (.t 8), []⟩,
          ⟨none, (some 6), .stV 6 none 12 (.t 15), []⟩,
          ⟨none, (some 7), .mov (.t 16), []⟩])
        .ret)
       .skip)))
    (.seq
     (.reg [6, 7] [
       ⟨none, (some 17), .ldV 3 none 12 true, []⟩,
       ⟨none, (some 18), .mov (.t 1), []⟩,
       ⟨none, (some 19), .mov (.t 2), []⟩,
       ⟨none, (some 20), .call true 358 [.t 17, .t 18, .t 19], []⟩,
       ⟨none, (some 6), .stV 6 none 12 (.t 20), []⟩,
       ⟨none, (some 7), .mov (.c (.int .i64 0)), []⟩])
     .ret)))
def c132 : Fn := { np := 3, nt := 21, kind := .pure, res := [.v 6 12 true, .t 7], body := k132 }

/- impl.ValidFrame -/
def k234 : Cd :=
  (.seq
   (.reg [1, 2] [
     ⟨none, (some 1), .box 12 (.t 0), []⟩,
     ⟨none, (some 2), .mov (.c (.bool false)), []⟩])
   (.seq
    (.reg [2] [
      ⟨none, (some 3), .slcP 12 1 (.t 1), []⟩,
      ⟨none, (some 4), .call true 445 [.t 3, .f 446], []⟩,
      ⟨none, (some 5), .un .not (.t 4), []⟩,
      ⟨none, (some 2), .mov (.t 5), []⟩])
    .ret))
def c234 : Fn := { np := 1, nt := 6, kind := .pure, res := [.t 2], body := k234 }

/- impl.inRange -/
def k295 : Cd :=
  (.seq
   (.reg [6] [
     ⟨none, (some 6), .mov (.c (.bool false)), []⟩])
   (.seq
    (.reg [6] [
      ⟨none, (some 7), .mov (.t 1), []⟩,
      ⟨none, (some 8), .mov (.t 0), []⟩,
      ⟨none, (some 9), .bin .leq (.t 7) (.t 8), []⟩,
      ⟨none, (some 10), .mov (.t 9), []⟩,
      ⟨(some (10, true)), (some 11), .mov (.t 0), []⟩,
      ⟨(some (10, true)), (some 12), .mov (.t 2), []⟩,
      ⟨(some (10, true)), (some 13), .bin .leq (.t 11) (.t 12), []⟩,
      ⟨none, (some 14), .pick (.t 10) (.t 13) (.c (.bool false)), []⟩,
      ⟨none, (some 6), .mov (.t 14), []⟩])
    .ret))
def c295 : Fn := { np := 3, nt := 15, kind := .pure, res := [.t 6], body := k295 }

/- spec.l00In -/
def k304 : Cd :=
  (.seq
   (.reg [6] [
     ⟨none, (some 6), .mov (.c (.bool false)), []⟩])
   (.seq
    (.reg [6] [
      ⟨none, (some 7), .mov (.t 0), []⟩,
      ⟨none, (some 8), .mov (.t 1), []⟩,
      ⟨none, (some 9), .bin .geq (.t 7) (.t 8), []⟩,
      ⟨none, (some 10), .mov (.t 9), []⟩,
      ⟨(some (10, true)), (some 11), .mov (.t 0), []⟩,
      ⟨(some (10, true)), (some 12), .mov (.t 2), []⟩,
      ⟨(some (10, true)), (some 13), .bin .leq (.t 11) (.t 12), []⟩,
      ⟨none, (some 14), .pick (.t 10) (.t 13) (.c (.bool false)), []⟩,
      ⟨none, (some 6), .mov (.t 14), []⟩])
    .ret))
def c304 : Fn := { np := 3, nt := 15, kind := .pure, res := [.t 6], body := k304 }

/- spec.l01Put -/
def k305 : Cd :=
  (.seq
   (.reg [8] [
     ⟨none, (some 6), .mov (.t 1), []⟩,
     ⟨none, (some 7), .mov (.t 2), []⟩,
     ⟨none, (some 8), .call true 342 [.t 6, .t 7], []⟩])
   (.cond (.t 8)
    (.reg [] [
      ⟨none, (some 9), .mov (.t 0), []⟩,
      ⟨none, (some 10), .mov (.t 2), []⟩,
      ⟨none, (some 11), .mov (.t 0), []⟩,
      ⟨none, (some 12), .mov (.t 2), []⟩,
      ⟨none, (some 13), .nil (.t 11), []⟩,
      ⟨none, (some 14), .idxP 12 1 (.t 13) (.t 12), []⟩,
      ⟨none, (some 15), .ld 1 false (.t 14), []⟩,
      ⟨none, (some 16), .mov (.t 1), []⟩,
      ⟨none, (some 17), .conv .u64 (.t 16), []⟩,
      ⟨none, (some 18), .bin .shl (.c (.int .u16 1)) (.t 17), []⟩,
      ⟨none, (some 19), .bin .or (.t 15) (.t 18), []⟩,
      ⟨none, (some 20), .nil (.t 9), []⟩,
      ⟨none, (some 21), .idxP 12 1 (.t 20) (.t 10), []⟩,
      ⟨none, none, .st 1 (.t 21) (.t 19), []⟩])
    .skip))
def c305 : Fn := { np := 3, nt := 22, kind := .args, res := [], body := k305 }

/- impl.where -/
def b306_1 : Cd :=
  (.seq
   (.reg [11] [
     ⟨none, (some 11), .bin .lss (.t 10) (.c (.int .i64 12)), []⟩])
   (.seq
    (.cond (.t 11)
     .skip
     (.exit 2))
    (.seq
     (.block 3
      (.seq
       (.reg [5] [
         ⟨none, (some 12), .mov (.t 10), []⟩,
         ⟨none, (some 5), .mov (.t 12), []⟩])
       (.seq
        (.reg [16] [
          ⟨none, (some 13), .mov (.t 0), []⟩,
          ⟨none, (some 14), .mov (.t 5), []⟩,
          ⟨none, (some 15), .mov (.t 4), []⟩,
          ⟨none, (some 16), .callv (.t 13) [.t 14, .t 15], []⟩])
        (.cond (.t 16)
         (.reg [3] [
           ⟨none, (some 17), .ldV 3 none 12 true, []⟩,
           ⟨none, (some 18), .mov (.t 5), []⟩,
           ⟨none, (some 19), .mov (.t 4), []⟩,
           ⟨none, (some 20), .call true 346 [.t 17, .t 18, .t 19], []⟩,
           ⟨none, (some 3), .stV 3 none 12 (.t 20), []⟩])
         .skip))))
     (.reg [10] [
       ⟨none, (some 21), .bin .add (.t 10) (.c (.int .i64 1)), []⟩,
       ⟨none, (some 10), .mov (.t 21), []⟩]))))
def b306_2 : Cd :=
  (.seq
   (.reg [8] [
     ⟨none, (some 8), .bin .lss (.t 7) (.c (.int .i64 12)), []⟩])
   (.seq
    (.cond (.t 8)
     .skip
     (.exit 0))
    (.seq
     (.block 1
      (.seq
       (.reg [4] [
         ⟨none, (some 9), .mov (.t 7), []⟩,
         ⟨none, (some 4), .mov (.t 9), []⟩])
       (.seq
        (.reg [10] [
          ⟨none, (some 10), .mov (.c (.int .i64 0)), []⟩])
        (.block 2
         (.loop b306_1)))))
     (.reg [7] [
       ⟨none, (some 22), .bin .add (.t 7) (.c (.int .i64 1)), []⟩,
       ⟨none, (some 7), .mov (.t 22), []⟩]))))
def k306 : Cd :=
  (.seq
   (.reg [2] [
     ⟨none, (some 2), .zero true (zs 12 (.int .u16 0)), []⟩])
   (.seq
    (.reg [3] [
      ⟨none, (some 6), .agg (zs 12 (.int .u16 0)) [], []⟩,
      ⟨none, (some 3), .zero true (zs 12 (.int .u16 0)), []⟩,
      ⟨none, (some 3), .stV 3 none 12 (.t 6), []⟩])
    (.seq
     (.seq
      (.reg [7] [
        ⟨none, (some 7), .mov (.c (.int .i64 0)), []⟩])
      (.block 0
       (.loop b306_2)))
     (.seq
      (.reg [2] [
        ⟨none, (some 23), .ldV 3 none 12 true, []⟩,
        ⟨none, (some 2), .stV 2 none 12 (.t 23), []⟩])
      .ret))))
def c306 : Fn := { np := 1, nt := 24, kind := .pure, res := [.v 2 12 true], body := k306 }

/- spec.l02Drawn -/
def b314_1 : Cd :=
  (.seq
   (.seq
    (.reg [16] [
      ⟨none, (some 15), .mov (.t 7), []⟩,
      ⟨none, (some 16), .bin .gtr (.t 15) (.c (.int .i64 0)), []⟩])
    (.cond (.t 16)
     .skip
     (.exit 0)))
   (.seq
    (.block 1
     (.seq
      (.seq
       (.reg [20] [
         ⟨none, (some 19), .mov (.t 0), []⟩,
         ⟨none, (some 20), .call false 459 [.t 19, .c (.int .i64 5)], []⟩])
       (.block 2
        (.seq
         (.reg [28] [
           ⟨none, (some 29), .bin .eql (.t 20) (.c (.int .i64 0)), []⟩,
           ⟨none, (some 28), .mov (.t 29), []⟩])
         (.cond (.t 28)
          (.reg [] [
            ⟨none, (some 30), .mov (.t 0), []⟩,
            ⟨none, (some 31), .call false 368 [.t 30], []⟩,
            ⟨none, none, .st 12 (.t 6) (.t 31), []⟩])
          (.seq
           (.reg [32] [
             ⟨none, (some 33), .bin .eql (.t 20) (.c (.int .i64 1)), []⟩,
             ⟨none, (some 32), .mov (.t 33), []⟩])
           (.cond (.t 32)
            .skip
            (.seq
             (.reg [34] [
               ⟨none, (some 35), .bin .eql (.t 20) (.c (.int .i64 2)), []⟩,
               ⟨none, (some 34), .mov (.t 35), []⟩])
             (.cond (.t 34)
              (.seq
               (.reg [38] [
                 ⟨none, (some 36), .mov (.t 5), []⟩,
                 ⟨none, (some 37), .len (.t 36), []⟩,
                 ⟨none, (some 38), .bin .gtr (.t 37) (.c (.int .i64 0)), []⟩])
               (.cond (.t 38)
                (.reg [] [
                  ⟨none, (some 39), .mov (.t 5), []⟩,
                  ⟨none, (some 40), .mov (.t 0), []⟩,
                  ⟨none, (some 41), .mov (.t 5), []⟩,
                  ⟨none, (some 42), .len (.t 41), []⟩,
                  ⟨none, (some 43), .call false 459 [.t 40, .t 42], []⟩,
                  ⟨none, (some 44), .idxA 12 (.t 39) (.t 43), []⟩,
                  ⟨none, (some 45), .ld 12 true (.t 44), []⟩,
                  ⟨none, none, .st 12 (.t 6) (.t 45), []⟩])
                .skip))
              (.reg [] [
                ⟨none, (some 21), .mov (.t 0), []⟩,
                ⟨none, (some 22), .call false 459 [.t 21, .c (.int .i64 3)], []⟩,
                ⟨none, (some 23), .bin .sub (.t 22) (.c (.int .i64 1)), []⟩,
                ⟨none, (some 24), .mov (.t 0), []⟩,
                ⟨none, (some 25), .call false 459 [.t 24, .c (.int .i64 3)], []⟩,
                ⟨none, (some 26), .bin .sub (.t 25) (.c (.int .i64 1)), []⟩,
                ⟨none, (some 27), .call true 355 [.t 6, .t 23, .t 26], []⟩,
                ⟨none, none, .st 12 (.t 6) (.t 27), []⟩])))))))))
      (.reg [5] [
        ⟨none, (some 46), .mov (.t 5), []⟩,
        ⟨none, (some 47), .ld 12 true (.t 6), []⟩,
        ⟨none, (some 48), .bldS 12 1 (zs 12 (.int .u16 0)) [(0, 12, (.t 47))], []⟩,
        ⟨none, (some 49), .app 12 24 (.t 46) (.t 48), []⟩,
        ⟨none, (some 5), .mov (.t 49), []⟩])))
    (.reg [7] [
      ⟨none, (some 17), .mov (.t 7), []⟩,
      ⟨none, (some 18), .bin .sub (.t 17) (.c (.int .i64 1)), []⟩,
      ⟨none, (some 7), .mov (.t 18), []⟩])))
def k314 : Cd :=
  (.seq
   (.reg [4] [
     ⟨none, (some 4), .mov (.c (.slice none 0 0)), []⟩])
   (.seq
    (.reg [5] [
      ⟨none, (some 8), .bldS 12 0 (zs 12 (.int .u16 0)) [], []⟩,
      ⟨none, (some 5), .mov (.t 8), []⟩])
    (.seq
     (.reg [6] [
       ⟨none, (some 9), .mov (.t 0), []⟩,
       ⟨none, (some 10), .call false 368 [.t 9], []⟩,
       ⟨none, (some 6), .new 1 (zs 12 (.int .u16 0)), []⟩,
       ⟨none, none, .st 12 (.t 6) (.t 10), []⟩])
     (.seq
      (.seq
       (.reg [7] [
         ⟨none, (some 11), .mov (.t 0), []⟩,
         ⟨none, (some 12), .mov (.t 1), []⟩,
         ⟨none, (some 13), .bin .add (.t 12) (.c (.int .i64 1)), []⟩,
         ⟨none, (some 14), .call false 459 [.t 11, .t 13], []⟩,
         ⟨none, (some 7), .mov (.t 14), []⟩])
       (.block 0
        (.loop b314_1)))
      (.seq
       (.reg [4] [
         ⟨none, (some 50), .mov (.t 5), []⟩,
         ⟨none, (some 4), .mov (.t 50), []⟩])
       .ret)))))
def c314 : Fn := { np := 2, nt := 51, kind := .args, res := [.t 4], body := k314 }

/- spec.l00From -/
def k315 : Cd :=
  (.seq
   (.reg [2] [
     ⟨none, (some 2), .mov (.c (.pointer none)), []⟩])
   (.seq
    (.reg [2] [
      ⟨none, (some 3), .mov (.t 0), []⟩,
      ⟨none, (some 4), .agg [.slice none 0 0, .int .i64 0, .int .u64 0] [(0, 1, (.t 3))], []⟩,
      ⟨none, (some 5), .box 3 (.t 4), []⟩,
      ⟨none, (some 2), .mov (.t 5), []⟩])
    .ret))
def c315 : Fn := { np := 1, nt := 6, kind := .pure, res := [.t 2], body := k315 }

/- impl.ValidBook -/
def k316 : Cd :=
  (.seq
   (.reg [2] [
     ⟨none, (some 2), .mov (.c (.bool false)), []⟩])
   (.seq
    (.reg [2] [
      ⟨none, (some 3), .mov (.t 0), []⟩,
      ⟨none, (some 4), .len (.t 3), []⟩,
      ⟨none, (some 5), .bin .leq (.t 4) (.c (.int .i64 40)), []⟩,
      ⟨none, (some 6), .mov (.t 5), []⟩,
      ⟨(some (6, true)), (some 7), .mov (.t 0), []⟩,
      ⟨(some (6, true)), (some 8), .call true 351 [.t 7], []⟩,
      ⟨none, (some 9), .pick (.t 6) (.t 8) (.c (.bool false)), []⟩,
      ⟨none, (some 2), .mov (.t 9), []⟩])
    .ret))
def c316 : Fn := { np := 1, nt := 10, kind := .pure, res := [.t 2], body := k316 }

/- spec.l02Ok -/
def b318_1 : Cd :=
  (.seq
   (.seq
    (.reg [7] [
      ⟨none, (some 4), .mov (.t 3), []⟩,
      ⟨none, (some 5), .mov (.t 0), []⟩,
      ⟨none, (some 6), .len (.t 5), []⟩,
      ⟨none, (some 7), .bin .lss (.t 4) (.t 6), []⟩])
    (.cond (.t 7)
     .skip
     (.exit 0)))
   (.seq
    (.block 1
     (.seq
      (.reg [14] [
        ⟨none, (some 10), .mov (.t 0), []⟩,
        ⟨none, (some 11), .mov (.t 3), []⟩,
        ⟨none, (some 12), .idxA 12 (.t 10) (.t 11), []⟩,
        ⟨none, (some 13), .call true 359 [.t 12], []⟩,
        ⟨none, (some 14), .un .not (.t 13), []⟩])
      (.cond (.t 14)
       (.seq
        (.reg [2] [
          ⟨none, (some 2), .mov (.c (.bool false)), []⟩])
        .ret)
       .skip)))
    (.reg [3] [
      ⟨none, (some 8), .mov (.t 3), []⟩,
      ⟨none, (some 9), .bin .add (.t 8) (.c (.int .i64 1)), []⟩,
      ⟨none, (some 3), .mov (.t 9), []⟩])))
def k318 : Cd :=
  (.seq
   (.reg [2] [
     ⟨none, (some 2), .mov (.c (.bool false)), []⟩])
   (.seq
    (.seq
     (.reg [3] [
       ⟨none, (some 3), .mov (.c (.int .i64 0)), []⟩])
     (.block 0
      (.loop b318_1)))
    (.seq
     (.reg [2] [
       ⟨none, (some 15), .mov (.t 0), []⟩,
       ⟨none, (some 16), .len (.t 15), []⟩,
       ⟨none, (some 17), .bin .leq (.t 16) (.c (.int .i64 40)), []⟩,
       ⟨none, (some 2), .mov (.t 17), []⟩])
     .ret)))
def c318 : Fn := { np := 1, nt := 18, kind := .pure, res := [.t 2], body := k318 }

/- spec.l02Same -/
def b323_1 : Cd :=
  (.seq
   (.seq
    (.reg [14] [
      ⟨none, (some 11), .mov (.t 5), []⟩,
      ⟨none, (some 12), .mov (.t 0), []⟩,
      ⟨none, (some 13), .len (.t 12), []⟩,
      ⟨none, (some 14), .bin .lss (.t 11) (.t 13), []⟩])
    (.cond (.t 14)
     .skip
     (.exit 0)))
   (.seq
    (.block 1
     (.seq
      (.reg [25] [
        ⟨none, (some 17), .mov (.t 0), []⟩,
        ⟨none, (some 18), .mov (.t 5), []⟩,
        ⟨none, (some 19), .idxA 12 (.t 17) (.t 18), []⟩,
        ⟨none, (some 20), .ld 12 true (.t 19), []⟩,
        ⟨none, (some 21), .mov (.t 1), []⟩,
        ⟨none, (some 22), .mov (.t 5), []⟩,
        ⟨none, (some 23), .idxA 12 (.t 21) (.t 22), []⟩,
        ⟨none, (some 24), .ld 12 true (.t 23), []⟩,
        ⟨none, (some 25), .eq (.a (rb 12 (some .u16))) true (.t 20) (.t 24), []⟩])
      (.cond (.t 25)
       (.seq
        (.reg [4] [
          ⟨none, (some 4), .mov (.c (.bool false)), []⟩])
        .ret)
       .skip)))
    (.reg [5] [
      ⟨none, (some 15), .mov (.t 5), []⟩,
      ⟨none, (some 16), .bin .add (.t 15) (.c (.int .i64 1)), []⟩,
      ⟨none, (some 5), .mov (.t 16), []⟩])))
def k323 : Cd :=
  (.seq
   (.reg [4] [
     ⟨none, (some 4), .mov (.c (.bool false)), []⟩])
   (.seq
    (.seq
     (.reg [10] [
       ⟨none, (some 6), .mov (.t 0), []⟩,
       ⟨none, (some 7), .len (.t 6), []⟩,
       ⟨none, (some 8), .mov (.t 1), []⟩,
       ⟨none, (some 9), .len (.t 8), []⟩,
       ⟨none, (some 10), .bin .neq (.t 7) (.t 9), []⟩])
     (.cond (.t 10)
      (.seq
       (.reg [4] [
         ⟨none, (some 4), .mov (.c (.bool false)), []⟩])
       .ret)
      .skip))
    (.seq
     (.seq
      (.reg [5] [
        ⟨none, (some 5), .mov (.c (.int .i64 0)), []⟩])
      (.block 0
       (.loop b323_1)))
     (.seq
      (.reg [4] [
        ⟨none, (some 4), .mov (.c (.bool true)), []⟩])
      .ret))))
def c323 : Fn := { np := 2, nt := 26, kind := .pure, res := [.t 4], body := k323 }

/- impl.jump -/
def k324 : Cd :=
  (.seq
   (.reg [2, 3, 4] [
     ⟨none, (some 2), .mov (.t 0), []⟩,
     ⟨none, (some 3), .mov (.t 1), []⟩,
     ⟨none, (some 4), .mov (.c (.int .i64 0)), []⟩])
   (.seq
    (.reg [4] [
      ⟨none, (some 5), .ldV 2 none 12 true, []⟩,
      ⟨none, (some 6), .ldV 3 none 12 true, []⟩,
      ⟨none, (some 7), .call true 367 [.t 5, .t 6], []⟩,
      ⟨none, (some 8), .call true 393 [.t 7], []⟩,
      ⟨none, (some 4), .mov (.t 8), []⟩])
    .ret))
def c324 : Fn := { np := 2, nt := 9, kind := .pure, res := [.t 4], body := k324 }

/- spec.l01Differ -/
def b325_1 : Cd :=
  (.seq
   (.seq
    (.reg [9] [
      ⟨none, (some 8), .mov (.t 6), []⟩,
      ⟨none, (some 9), .bin .lss (.t 8) (.c (.int .i64 12)), []⟩])
    (.cond (.t 9)
     .skip
     (.exit 0)))
   (.seq
    (.block 1
     (.reg [] [
       ⟨none, (some 12), .mov (.t 6), []⟩,
       ⟨none, (some 13), .mov (.t 0), []⟩,
       ⟨none, (some 14), .mov (.t 6), []⟩,
       ⟨none, (some 15), .nil (.t 13), []⟩,
       ⟨none, (some 16), .idxP 12 1 (.t 15) (.t 14), []⟩,
       ⟨none, (some 17), .ld 1 false (.t 16), []⟩,
       ⟨none, (some 18), .mov (.t 1), []⟩,
       ⟨none, (some 19), .mov (.t 6), []⟩,
       ⟨none, (some 20), .nil (.t 18), []⟩,
       ⟨none, (some 21), .idxP 12 1 (.t 20) (.t 19), []⟩,
       ⟨none, (some 22), .ld 1 false (.t 21), []⟩,
       ⟨none, (some 23), .bin .xor (.t 17) (.t 22), []⟩,
       ⟨none, (some 24), .idxP 12 1 (.t 5) (.t 12), []⟩,
       ⟨none, none, .st 1 (.t 24) (.t 23), []⟩]))
    (.reg [6] [
      ⟨none, (some 10), .mov (.t 6), []⟩,
      ⟨none, (some 11), .bin .add (.t 10) (.c (.int .i64 1)), []⟩,
      ⟨none, (some 6), .mov (.t 11), []⟩])))
def k325 : Cd :=
  (.seq
   (.reg [4] [
     ⟨none, (some 4), .mov (.c (.int .i64 0)), []⟩])
   (.seq
    (.reg [5] [
      ⟨none, (some 7), .agg (zs 12 (.int .u16 0)) [], []⟩,
      ⟨none, (some 5), .new 1 (zs 12 (.int .u16 0)), []⟩,
      ⟨none, none, .st 12 (.t 5) (.t 7), []⟩])
    (.seq
     (.seq
      (.reg [6] [
        ⟨none, (some 6), .mov (.c (.int .i64 0)), []⟩])
      (.block 0
       (.loop b325_1)))
     (.seq
      (.reg [4] [
        ⟨none, (some 25), .call true 409 [.t 5], []⟩,
        ⟨none, (some 4), .mov (.t 25), []⟩])
      .ret))))
def c325 : Fn := { np := 2, nt := 26, kind := .pure, res := [.t 4], body := k325 }

/- spec.l01Both -/
def k327 : Cd :=
  (.seq
   (.reg [4] [
     ⟨none, (some 4), .mov (.c (.int .i64 0)), []⟩])
   (.seq
    (.seq
     (.reg [12] [
       ⟨none, (some 5), .mov (.t 0), []⟩,
       ⟨none, (some 6), .call true 359 [.t 5], []⟩,
       ⟨none, (some 7), .un .not (.t 6), []⟩,
       ⟨none, (some 8), .mov (.t 7), []⟩,
       ⟨(some (8, false)), (some 9), .mov (.t 1), []⟩,
       ⟨(some (8, false)), (some 10), .call true 359 [.t 9], []⟩,
       ⟨(some (8, false)), (some 11), .un .not (.t 10), []⟩,
       ⟨none, (some 12), .pick (.t 8) (.c (.bool true)) (.t 11), []⟩])
     (.cond (.t 12)
      (.seq
       (.reg [4] [
         ⟨none, (some 4), .mov (.c (.int .i64 1)), []⟩])
       .ret)
      .skip))
    (.seq
     (.reg [4] [
       ⟨none, (some 4), .mov (.c (.int .i64 0)), []⟩])
     .ret)))
def c327 : Fn := { np := 2, nt := 13, kind := .pure, res := [.t 4], body := k327 }

/- (impl.Frame).join -/
def k338 : Cd :=
  (.seq
   (.reg [2, 3, 4] [
     ⟨none, (some 2), .mov (.t 0), []⟩,
     ⟨none, (some 3), .mov (.t 1), []⟩,
     ⟨none, (some 4), .zero true (zs 12 (.int .u16 0)), []⟩])
   (.seq
    (.reg [4] [
      ⟨none, (some 5), .ldV 2 none 12 true, []⟩,
      ⟨none, (some 6), .ldV 3 none 12 true, []⟩,
      ⟨none, (some 7), .call true 443 [.t 5, .t 6, .f 502], []⟩,
      ⟨none, (some 4), .stV 4 none 12 (.t 7), []⟩])
    .ret))
def c338 : Fn := { np := 2, nt := 8, kind := .pure, res := [.v 4 12 true], body := k338 }

/- slices.Equal[impl.Book,impl.Frame] -/
def b341_1 : Cd :=
  (.seq
   (.reg [14] [
     ⟨none, (some 14), .bin .lss (.t 13) (.t 12), []⟩])
   (.seq
    (.cond (.t 14)
     .skip
     (.exit 0))
    (.seq
     (.block 1
      (.seq
       (.reg [5] [
         ⟨none, (some 15), .mov (.t 13), []⟩,
         ⟨none, (some 5), .mov (.t 15), []⟩])
       (.seq
        (.reg [24] [
          ⟨none, (some 16), .mov (.t 0), []⟩,
          ⟨none, (some 17), .mov (.t 5), []⟩,
          ⟨none, (some 18), .idxA 12 (.t 16) (.t 17), []⟩,
          ⟨none, (some 19), .ld 12 true (.t 18), []⟩,
          ⟨none, (some 20), .mov (.t 1), []⟩,
          ⟨none, (some 21), .mov (.t 5), []⟩,
          ⟨none, (some 22), .idxA 12 (.t 20) (.t 21), []⟩,
          ⟨none, (some 23), .ld 12 true (.t 22), []⟩,
          ⟨none, (some 24), .eq (.a (rb 12 (some .u16))) true (.t 19) (.t 23), []⟩])
        (.cond (.t 24)
         (.seq
          (.reg [4] [
            ⟨none, (some 4), .mov (.c (.bool false)), []⟩])
          .ret)
         .skip))))
     (.reg [13] [
       ⟨none, (some 25), .bin .add (.t 13) (.c (.int .i64 1)), []⟩,
       ⟨none, (some 13), .mov (.t 25), []⟩]))))
def k341 : Cd :=
  (.seq
   (.reg [4] [
     ⟨none, (some 4), .mov (.c (.bool false)), []⟩])
   (.seq
    (.seq
     (.reg [10] [
       ⟨none, (some 6), .mov (.t 0), []⟩,
       ⟨none, (some 7), .len (.t 6), []⟩,
       ⟨none, (some 8), .mov (.t 1), []⟩,
       ⟨none, (some 9), .len (.t 8), []⟩,
       ⟨none, (some 10), .bin .neq (.t 7) (.t 9), []⟩])
     (.cond (.t 10)
      (.seq
       (.reg [4] [
         ⟨none, (some 4), .mov (.c (.bool false)), []⟩])
       .ret)
      .skip))
    (.seq
     (.seq
      (.reg [12, 13] [
        ⟨none, (some 11), .mov (.t 0), []⟩,
        ⟨none, (some 12), .len (.t 11), []⟩,
        ⟨none, (some 13), .mov (.c (.int .i64 0)), []⟩])
      (.block 0
       (.loop b341_1)))
     (.seq
      (.reg [4] [
        ⟨none, (some 4), .mov (.c (.bool true)), []⟩])
      .ret))))
def c341 : Fn := { np := 2, nt := 26, kind := .pure, res := [.t 4], body := k341 }

/- spec.l01Place -/
def k342 : Cd :=
  (.seq
   (.reg [4] [
     ⟨none, (some 4), .mov (.c (.bool false)), []⟩])
   (.seq
    (.reg [4] [
      ⟨none, (some 5), .mov (.t 0), []⟩,
      ⟨none, (some 6), .call true 304 [.t 5, .c (.int .i64 0), .c (.int .i64 11)], []⟩,
      ⟨none, (some 7), .mov (.t 6), []⟩,
      ⟨(some (7, true)), (some 8), .mov (.t 1), []⟩,
      ⟨(some (7, true)), (some 9), .call true 304 [.t 8, .c (.int .i64 0), .c (.int .i64 11)], []⟩,
      ⟨none, (some 10), .pick (.t 7) (.t 9) (.c (.bool false)), []⟩,
      ⟨none, (some 4), .mov (.t 10), []⟩])
    .ret))
def c342 : Fn := { np := 2, nt := 11, kind := .pure, res := [.t 4], body := k342 }

/- (impl.Frame).with -/
def k346 : Cd :=
  (.seq
   (.reg [3, 6] [
     ⟨none, (some 3), .mov (.t 0), []⟩,
     ⟨none, (some 6), .zero true (zs 12 (.int .u16 0)), []⟩])
   (.seq
    (.reg [3] [
      ⟨none, (some 7), .mov (.t 2), []⟩,
      ⟨none, (some 8), .adrI 3 none 12 1 (.t 7), []⟩,
      ⟨none, (some 9), .ldV 3 (some 8) 1 false, []⟩,
      ⟨none, (some 10), .mov (.t 1), []⟩,
      ⟨none, (some 11), .bin .shl (.c (.int .u16 1)) (.t 10), []⟩,
      ⟨none, (some 12), .bin .or (.t 9) (.t 11), []⟩,
      ⟨none, (some 13), .adrI 3 none 12 1 (.t 7), []⟩,
      ⟨none, (some 3), .stV 3 (some 13) 1 (.t 12), []⟩])
    (.seq
     (.reg [6] [
       ⟨none, (some 14), .ldV 3 none 12 true, []⟩,
       ⟨none, (some 6), .stV 6 none 12 (.t 14), []⟩])
     .ret)))
def c346 : Fn := { np := 3, nt := 15, kind := .pure, res := [.v 6 12 true], body := k346 }

/- impl.StillDots$1 -/
def k347 : Cd :=
  (.seq
   (.reg [4] [
     ⟨none, (some 4), .mov (.c (.bool false)), []⟩])
   (.seq
    (.reg [4] [
      ⟨none, (some 4), .mov (.c (.bool true)), []⟩])
    .ret))
def c347 : Fn := { np := 2, nt := 5, kind := .pure, res := [.t 4], body := k347 }

/- (impl.Frame).meet -/
def k348 : Cd :=
  (.seq
   (.reg [2, 3, 4] [
     ⟨none, (some 2), .mov (.t 0), []⟩,
     ⟨none, (some 3), .mov (.t 1), []⟩,
     ⟨none, (some 4), .zero true (zs 12 (.int .u16 0)), []⟩])
   (.seq
    (.reg [4] [
      ⟨none, (some 5), .ldV 2 none 12 true, []⟩,
      ⟨none, (some 6), .ldV 3 none 12 true, []⟩,
      ⟨none, (some 7), .call true 443 [.t 5, .t 6, .f 503], []⟩,
      ⟨none, (some 4), .stV 4 none 12 (.t 7), []⟩])
    .ret))
def c348 : Fn := { np := 2, nt := 8, kind := .pure, res := [.v 4 12 true], body := k348 }

/- (impl.Frame).less -/
def k350 : Cd :=
  (.seq
   (.reg [2, 3, 4] [
     ⟨none, (some 2), .mov (.t 0), []⟩,
     ⟨none, (some 3), .mov (.t 1), []⟩,
     ⟨none, (some 4), .zero true (zs 12 (.int .u16 0)), []⟩])
   (.seq
    (.reg [4] [
      ⟨none, (some 5), .ldV 2 none 12 true, []⟩,
      ⟨none, (some 6), .ldV 3 none 12 true, []⟩,
      ⟨none, (some 7), .call true 443 [.t 5, .t 6, .f 504], []⟩,
      ⟨none, (some 4), .stV 4 none 12 (.t 7), []⟩])
    .ret))
def c350 : Fn := { np := 2, nt := 8, kind := .pure, res := [.v 4 12 true], body := k350 }

/- impl.areFrames -/
def k351 : Cd :=
  (.seq
   (.reg [2] [
     ⟨none, (some 2), .mov (.c (.bool false)), []⟩])
   (.seq
    (.reg [2] [
      ⟨none, (some 3), .mov (.t 0), []⟩,
      ⟨none, (some 4), .call true 505 [.t 3, .f 506], []⟩,
      ⟨none, (some 5), .un .not (.t 4), []⟩,
      ⟨none, (some 2), .mov (.t 5), []⟩])
    .ret))
def c351 : Fn := { np := 1, nt := 6, kind := .pure, res := [.t 2], body := k351 }

/- (impl.Book).movedCopies -/
def b352_1 : Cd :=
  (.seq
   (.seq
    (.reg [42] [
      ⟨none, (some 36), .ld 1 false (.t 12), []⟩,
      ⟨none, (some 37), .ld 1 false (.t 4), []⟩,
      ⟨none, (some 38), .len (.t 37), []⟩,
      ⟨none, (some 39), .bin .add (.t 36) (.t 38), []⟩,
      ⟨none, (some 40), .ld 1 false (.t 3), []⟩,
      ⟨none, (some 41), .len (.t 40), []⟩,
      ⟨none, (some 42), .bin .leq (.t 39) (.t 41), []⟩])
    (.cond (.t 42)
     .skip
     (.exit 1)))
   (.seq
    (.block 2
     (.seq
      (.reg [13] [
        ⟨none, (some 45), .mov (.t 11), []⟩,
        ⟨none, (some 46), .mkf 508 [.t 3, .t 12, .t 4], []⟩,
        ⟨none, (some 47), .call true 507 [.t 45, .t 46], []⟩,
        ⟨none, (some 13), .mov (.t 47), []⟩])
      (.seq
       (.reg [49] [
         ⟨none, (some 48), .mov (.t 13), []⟩,
         ⟨none, (some 49), .bin .geq (.t 48) (.c (.int .i64 0)), []⟩])
       (.cond (.t 49)
        (.reg [9, 10] [
          ⟨none, (some 50), .mov (.t 9), []⟩,
          ⟨none, (some 51), .ld 1 false (.t 12), []⟩,
          ⟨none, (some 52), .bldS 1 1 [.int .i64 0] [(0, 1, (.t 51))], []⟩,
          ⟨none, (some 54), .mov (.t 10), []⟩,
          ⟨none, (some 55), .mov (.t 11), []⟩,
          ⟨none, (some 56), .mov (.t 13), []⟩,
          ⟨none, (some 57), .idxA 2 (.t 55) (.t 56), []⟩,
          ⟨none, (some 58), .ld 2 true (.t 57), []⟩,
          ⟨none, (some 59), .bldS 2 1 [.int .i8 0, .int .i8 0] [(0, 2, (.t 58))], []⟩,
          ⟨none, (some 53), .app 1 8 (.t 50) (.t 52), [.t 57]⟩,
          ⟨none, (some 60), .app 2 2 (.t 54) (.t 59), []⟩,
          ⟨none, (some 9), .mov (.t 53), []⟩,
          ⟨none, (some 10), .mov (.t 60), []⟩])
        .skip))))
    (.seq
     (.seq
      (.reg [61] [
        ⟨none, (some 61), .ld 1 false (.t 12), []⟩])
      (.reg [12] [
        ⟨none, (some 12), .new 1 [.int .i64 0], []⟩,
        ⟨none, none, .st 1 (.t 12) (.t 61), []⟩]))
     (.reg [] [
       ⟨none, (some 43), .ld 1 false (.t 12), []⟩,
       ⟨none, (some 44), .bin .add (.t 43) (.c (.int .i64 1)), []⟩,
       ⟨none, none, .st 1 (.t 12) (.t 44), []⟩]))))
def k352 : Cd :=
  (.seq
   (.reg [3, 4, 6, 7, 8] [
     ⟨none, (some 3), .box 1 (.t 0), []⟩,
     ⟨none, (some 4), .box 1 (.t 1), []⟩,
     ⟨none, (some 6), .mov (.c (.slice none 0 0)), []⟩,
     ⟨none, (some 7), .mov (.c (.slice none 0 0)), []⟩,
     ⟨none, (some 8), .mov (.c (.int .i64 0)), []⟩])
   (.seq
    (.block 0
     (.seq
      (.reg [14] [
        ⟨none, (some 15), .ld 1 false (.t 3), []⟩,
        ⟨none, (some 16), .call true 316 [.t 15], []⟩,
        ⟨none, (some 17), .un .not (.t 16), []⟩,
        ⟨none, (some 18), .mov (.t 17), []⟩,
        ⟨(some (18, false)), (some 19), .ld 1 false (.t 4), []⟩,
        ⟨(some (18, false)), (some 20), .call true 316 [.t 19], []⟩,
        ⟨(some (18, false)), (some 21), .un .not (.t 20), []⟩,
        ⟨none, (some 22), .pick (.t 18) (.c (.bool true)) (.t 21), []⟩,
        ⟨none, (some 14), .mov (.t 22), []⟩])
      (.cond (.t 14)
       (.seq
        (.reg [6, 7, 8] [
          ⟨none, (some 6), .mov (.c (.slice none 0 0)), []⟩,
          ⟨none, (some 7), .mov (.c (.slice none 0 0)), []⟩,
          ⟨none, (some 8), .mov (.c (.int .i64 1)), []⟩])
        .ret)
       (.seq
        (.reg [23] [
          ⟨none, (some 24), .mov (.t 2), []⟩,
          ⟨none, (some 25), .call true 369 [.t 24], []⟩,
          ⟨none, (some 26), .un .not (.t 25), []⟩,
          ⟨none, (some 27), .mov (.t 26), []⟩,
          ⟨(some (27, false)), (some 28), .ld 1 false (.t 4), []⟩,
          ⟨(some (27, false)), (some 29), .len (.t 28), []⟩,
          ⟨(some (27, false)), (some 30), .bin .eql (.t 29) (.c (.int .i64 0)), []⟩,
          ⟨none, (some 31), .pick (.t 27) (.c (.bool true)) (.t 30), []⟩,
          ⟨none, (some 23), .mov (.t 31), []⟩])
        (.cond (.t 23)
         (.seq
          (.reg [6, 7, 8] [
            ⟨none, (some 6), .mov (.c (.slice none 0 0)), []⟩,
            ⟨none, (some 7), .mov (.c (.slice none 0 0)), []⟩,
            ⟨none, (some 8), .mov (.c (.int .i64 2)), []⟩])
          .ret)
         .skip)))))
    (.seq
     (.reg [9, 10, 11] [
       ⟨none, (some 32), .bldS 1 0 [.int .i64 0] [], []⟩,
       ⟨none, (some 33), .bldS 2 0 [.int .i8 0, .int .i8 0] [], []⟩,
       ⟨none, (some 34), .mov (.t 2), []⟩,
       ⟨none, (some 35), .call true 371 [.t 34], []⟩,
       ⟨none, (some 9), .mov (.t 32), []⟩,
       ⟨none, (some 10), .mov (.t 33), []⟩,
       ⟨none, (some 11), .mov (.t 35), []⟩])
     (.seq
      (.seq
       (.reg [12] [
         ⟨none, (some 12), .new 1 [.int .i64 0], []⟩,
         ⟨none, none, .st 1 (.t 12) (.c (.int .i64 0)), []⟩])
       (.block 1
        (.loop b352_1)))
      (.seq
       (.reg [6, 7, 8] [
         ⟨none, (some 62), .mov (.t 9), []⟩,
         ⟨none, (some 63), .mov (.t 10), []⟩,
         ⟨none, (some 6), .mov (.t 62), []⟩,
         ⟨none, (some 7), .mov (.t 63), []⟩,
         ⟨none, (some 8), .mov (.c (.int .i64 0)), []⟩])
       .ret)))))
def c352 : Fn := { np := 3, nt := 64, kind := .pure, res := [.t 6, .t 7, .t 8], body := k352 }

/- spec.l07Most -/
def k353 : Cd :=
  (.seq
   (.reg [2] [
     ⟨none, (some 2), .mov (.c (.bool false)), []⟩])
   (.seq
    (.reg [2] [
      ⟨none, (some 3), .mov (.t 0), []⟩,
      ⟨none, (some 4), .call true 304 [.t 3, .c (.int .i64 0), .c (.int .i64 4)], []⟩,
      ⟨none, (some 2), .mov (.t 4), []⟩])
    .ret))
def c353 : Fn := { np := 1, nt := 5, kind := .pure, res := [.t 2], body := k353 }

/- spec.l07Moves -/
def b354_1 : Cd :=
  (.seq
   (.seq
    (.reg [26] [
      ⟨none, (some 24), .mov (.t 6), []⟩,
      ⟨none, (some 25), .mov (.t 0), []⟩,
      ⟨none, (some 26), .bin .leq (.t 24) (.t 25), []⟩])
    (.cond (.t 26)
     .skip
     (.exit 4)))
   (.seq
    (.block 5
     (.seq
      (.reg [7] [
        ⟨none, (some 29), .mov (.t 5), []⟩,
        ⟨none, (some 30), .conv .i8 (.t 29), []⟩,
        ⟨none, (some 31), .mov (.t 6), []⟩,
        ⟨none, (some 32), .conv .i8 (.t 31), []⟩,
        ⟨none, (some 33), .agg [.int .i8 0, .int .i8 0] [(0, 1, (.t 30)), (1, 1, (.t 32))], []⟩,
        ⟨none, (some 7), .zero true [.int .i8 0, .int .i8 0], []⟩,
        ⟨none, (some 7), .stV 7 none 2 (.t 33), []⟩])
      (.seq
       (.reg [37] [
         ⟨none, (some 34), .ldV 7 none 2 true, []⟩,
         ⟨none, (some 35), .call true 510 [.t 34], []⟩,
         ⟨none, (some 36), .mov (.t 4), []⟩,
         ⟨none, (some 37), .bin .eql (.t 35) (.t 36), []⟩])
       (.cond (.t 37)
        (.reg [3] [
          ⟨none, (some 38), .mov (.t 3), []⟩,
          ⟨none, (some 39), .ldV 7 none 2 true, []⟩,
          ⟨none, (some 40), .bldS 2 1 [.int .i8 0, .int .i8 0] [(0, 2, (.t 39))], []⟩,
          ⟨none, (some 41), .app 2 2 (.t 38) (.t 40), []⟩,
          ⟨none, (some 3), .mov (.t 41), []⟩])
        .skip))))
    (.reg [6] [
      ⟨none, (some 27), .mov (.t 6), []⟩,
      ⟨none, (some 28), .bin .add (.t 27) (.c (.int .i64 1)), []⟩,
      ⟨none, (some 6), .mov (.t 28), []⟩])))
def b354_2 : Cd :=
  (.seq
   (.seq
    (.reg [19] [
      ⟨none, (some 17), .mov (.t 5), []⟩,
      ⟨none, (some 18), .mov (.t 0), []⟩,
      ⟨none, (some 19), .bin .leq (.t 17) (.t 18), []⟩])
    (.cond (.t 19)
     .skip
     (.exit 2)))
   (.seq
    (.block 3
     (.seq
      (.reg [6] [
        ⟨none, (some 22), .mov (.t 0), []⟩,
        ⟨none, (some 23), .un .neg (.t 22), []⟩,
        ⟨none, (some 6), .mov (.t 23), []⟩])
      (.block 4
       (.loop b354_1))))
    (.reg [5] [
      ⟨none, (some 20), .mov (.t 5), []⟩,
      ⟨none, (some 21), .bin .add (.t 20) (.c (.int .i64 1)), []⟩,
      ⟨none, (some 5), .mov (.t 21), []⟩])))
def b354_3 : Cd :=
  (.seq
   (.seq
    (.reg [12] [
      ⟨none, (some 9), .mov (.t 4), []⟩,
      ⟨none, (some 10), .mov (.t 0), []⟩,
      ⟨none, (some 11), .bin .mul (.c (.int .i64 2)) (.t 10), []⟩,
      ⟨none, (some 12), .bin .leq (.t 9) (.t 11), []⟩])
    (.cond (.t 12)
     .skip
     (.exit 0)))
   (.seq
    (.block 1
     (.seq
      (.reg [5] [
        ⟨none, (some 15), .mov (.t 0), []⟩,
        ⟨none, (some 16), .un .neg (.t 15), []⟩,
        ⟨none, (some 5), .mov (.t 16), []⟩])
      (.block 2
       (.loop b354_2))))
    (.reg [4] [
      ⟨none, (some 13), .mov (.t 4), []⟩,
      ⟨none, (some 14), .bin .add (.t 13) (.c (.int .i64 1)), []⟩,
      ⟨none, (some 4), .mov (.t 14), []⟩])))
def k354 : Cd :=
  (.seq
   (.reg [2] [
     ⟨none, (some 2), .mov (.c (.slice none 0 0)), []⟩])
   (.seq
    (.reg [3] [
      ⟨none, (some 8), .bldS 2 0 [.int .i8 0, .int .i8 0] [], []⟩,
      ⟨none, (some 3), .mov (.t 8), []⟩])
    (.seq
     (.seq
      (.reg [4] [
        ⟨none, (some 4), .mov (.c (.int .i64 0)), []⟩])
      (.block 0
       (.loop b354_3)))
     (.seq
      (.reg [2] [
        ⟨none, (some 42), .mov (.t 3), []⟩,
        ⟨none, (some 2), .mov (.t 42), []⟩])
      .ret))))
def c354 : Fn := { np := 1, nt := 43, kind := .pure, res := [.t 2], body := k354 }

/- spec.l01Moved -/
def b355_1 : Cd :=
  (.seq
   (.seq
    (.reg [16] [
      ⟨none, (some 13), .mov (.t 9), []⟩,
      ⟨none, (some 14), .mov (.t 8), []⟩,
      ⟨none, (some 15), .len (.t 14), []⟩,
      ⟨none, (some 16), .bin .lss (.t 13) (.t 15), []⟩])
    (.cond (.t 16)
     .skip
     (.exit 0)))
   (.seq
    (.block 1
     (.reg [] [
       ⟨none, (some 19), .mov (.t 8), []⟩,
       ⟨none, (some 20), .mov (.t 9), []⟩,
       ⟨none, (some 21), .idxA 2 (.t 19) (.t 20), []⟩,
       ⟨none, (some 22), .fldP 0 (.t 21), []⟩,
       ⟨none, (some 23), .ld 1 false (.t 22), []⟩,
       ⟨none, (some 24), .conv .i64 (.t 23), []⟩,
       ⟨none, (some 25), .mov (.t 1), []⟩,
       ⟨none, (some 26), .bin .add (.t 24) (.t 25), []⟩,
       ⟨none, (some 27), .mov (.t 8), []⟩,
       ⟨none, (some 28), .mov (.t 9), []⟩,
       ⟨none, (some 29), .idxA 2 (.t 27) (.t 28), []⟩,
       ⟨none, (some 30), .fldP 1 (.t 29), []⟩,
       ⟨none, (some 31), .ld 1 false (.t 30), []⟩,
       ⟨none, (some 32), .conv .i64 (.t 31), []⟩,
       ⟨none, (some 33), .mov (.t 2), []⟩,
       ⟨none, (some 34), .bin .add (.t 32) (.t 33), []⟩,
       ⟨none, (some 35), .call false 305 [.t 7, .t 26, .t 34], []⟩]))
    (.reg [9] [
      ⟨none, (some 17), .mov (.t 9), []⟩,
      ⟨none, (some 18), .bin .add (.t 17) (.c (.int .i64 1)), []⟩,
      ⟨none, (some 9), .mov (.t 18), []⟩])))
def k355 : Cd :=
  (.seq
   (.reg [6] [
     ⟨none, (some 6), .zero true (zs 12 (.int .u16 0)), []⟩])
   (.seq
    (.reg [7] [
      ⟨none, (some 10), .agg (zs 12 (.int .u16 0)) [], []⟩,
      ⟨none, (some 7), .new 1 (zs 12 (.int .u16 0)), []⟩,
      ⟨none, none, .st 12 (.t 7) (.t 10), []⟩])
    (.seq
     (.reg [8] [
       ⟨none, (some 11), .mov (.t 0), []⟩,
       ⟨none, (some 12), .call true 440 [.t 11], []⟩,
       ⟨none, (some 8), .mov (.t 12), []⟩])
     (.seq
      (.seq
       (.reg [9] [
         ⟨none, (some 9), .mov (.c (.int .i64 0)), []⟩])
       (.block 0
        (.loop b355_1)))
      (.seq
       (.reg [6] [
         ⟨none, (some 36), .ld 12 true (.t 7), []⟩,
         ⟨none, (some 6), .stV 6 none 12 (.t 36), []⟩])
       .ret)))))
def c355 : Fn := { np := 3, nt := 37, kind := .pure, res := [.v 6 12 true], body := k355 }

/- spec.l00Same -/
def b356_1 : Cd :=
  (.seq
   (.seq
    (.reg [14] [
      ⟨none, (some 11), .mov (.t 5), []⟩,
      ⟨none, (some 12), .mov (.t 0), []⟩,
      ⟨none, (some 13), .len (.t 12), []⟩,
      ⟨none, (some 14), .bin .lss (.t 11) (.t 13), []⟩])
    (.cond (.t 14)
     .skip
     (.exit 0)))
   (.seq
    (.block 1
     (.seq
      (.reg [25] [
        ⟨none, (some 17), .mov (.t 0), []⟩,
        ⟨none, (some 18), .mov (.t 5), []⟩,
        ⟨none, (some 19), .idxA 1 (.t 17) (.t 18), []⟩,
        ⟨none, (some 20), .ld 1 false (.t 19), []⟩,
        ⟨none, (some 21), .mov (.t 1), []⟩,
        ⟨none, (some 22), .mov (.t 5), []⟩,
        ⟨none, (some 23), .idxA 1 (.t 21) (.t 22), []⟩,
        ⟨none, (some 24), .ld 1 false (.t 23), []⟩,
        ⟨none, (some 25), .bin .neq (.t 20) (.t 24), []⟩])
      (.cond (.t 25)
       (.seq
        (.reg [4] [
          ⟨none, (some 4), .mov (.c (.bool false)), []⟩])
        .ret)
       .skip)))
    (.reg [5] [
      ⟨none, (some 15), .mov (.t 5), []⟩,
      ⟨none, (some 16), .bin .add (.t 15) (.c (.int .i64 1)), []⟩,
      ⟨none, (some 5), .mov (.t 16), []⟩])))
def k356 : Cd :=
  (.seq
   (.reg [4] [
     ⟨none, (some 4), .mov (.c (.bool false)), []⟩])
   (.seq
    (.seq
     (.reg [10] [
       ⟨none, (some 6), .mov (.t 0), []⟩,
       ⟨none, (some 7), .len (.t 6), []⟩,
       ⟨none, (some 8), .mov (.t 1), []⟩,
       ⟨none, (some 9), .len (.t 8), []⟩,
       ⟨none, (some 10), .bin .neq (.t 7) (.t 9), []⟩])
     (.cond (.t 10)
      (.seq
       (.reg [4] [
         ⟨none, (some 4), .mov (.c (.bool false)), []⟩])
       .ret)
      .skip))
    (.seq
     (.seq
      (.reg [5] [
        ⟨none, (some 5), .mov (.c (.int .i64 0)), []⟩])
      (.block 0
       (.loop b356_1)))
     (.seq
      (.reg [4] [
        ⟨none, (some 4), .mov (.c (.bool true)), []⟩])
      .ret))))
def c356 : Fn := { np := 2, nt := 26, kind := .pure, res := [.t 4], body := k356 }

/- impl.checkMove -/
def k357 : Cd :=
  (.seq
   (.reg [3, 6] [
     ⟨none, (some 3), .mov (.t 0), []⟩,
     ⟨none, (some 6), .mov (.c (.int .i64 0)), []⟩])
   (.seq
    (.block 0
     (.seq
      (.reg [7] [
        ⟨none, (some 8), .ldV 3 none 12 true, []⟩,
        ⟨none, (some 9), .call true 234 [.t 8], []⟩,
        ⟨none, (some 10), .un .not (.t 9), []⟩,
        ⟨none, (some 7), .mov (.t 10), []⟩])
      (.cond (.t 7)
       (.seq
        (.reg [6] [
          ⟨none, (some 6), .mov (.c (.int .i64 1)), []⟩])
        .ret)
       (.seq
        (.reg [11] [
          ⟨none, (some 12), .mov (.t 1), []⟩,
          ⟨none, (some 13), .call true 295 [.t 12, .c (.int .i64 (-12)), .c (.int .i64 12)], []⟩,
          ⟨none, (some 14), .un .not (.t 13), []⟩,
          ⟨none, (some 15), .mov (.t 14), []⟩,
          ⟨(some (15, false)), (some 16), .mov (.t 2), []⟩,
          ⟨(some (15, false)), (some 17), .call true 295 [.t 16, .c (.int .i64 (-12)), .c (.int .i64 12)], []⟩,
          ⟨(some (15, false)), (some 18), .un .not (.t 17), []⟩,
          ⟨none, (some 19), .pick (.t 15) (.c (.bool true)) (.t 18), []⟩,
          ⟨none, (some 11), .mov (.t 19), []⟩])
        (.cond (.t 11)
         (.seq
          (.reg [6] [
            ⟨none, (some 6), .mov (.c (.int .i64 2)), []⟩])
          .ret)
         .skip)))))
    (.seq
     (.reg [6] [
       ⟨none, (some 6), .mov (.c (.int .i64 0)), []⟩])
     .ret)))
def c357 : Fn := { np := 3, nt := 20, kind := .pure, res := [.t 6], body := k357 }

/- (impl.Frame).moved -/
def b358_1 : Cd :=
  (.seq
   (.reg [16] [
     ⟨none, (some 16), .bin .lss (.t 15) (.c (.int .i64 12)), []⟩])
   (.seq
    (.cond (.t 16)
     .skip
     (.exit 0))
    (.seq
     (.block 1
      (.seq
       (.reg [8] [
         ⟨none, (some 17), .mov (.t 15), []⟩,
         ⟨none, (some 8), .mov (.t 17), []⟩])
       (.seq
        (.reg [9] [
          ⟨none, (some 18), .mov (.t 8), []⟩,
          ⟨none, (some 19), .mov (.t 2), []⟩,
          ⟨none, (some 20), .bin .sub (.t 18) (.t 19), []⟩,
          ⟨none, (some 9), .mov (.t 20), []⟩])
        (.seq
         (.seq
          (.reg [23] [
            ⟨none, (some 21), .mov (.t 9), []⟩,
            ⟨none, (some 22), .call true 295 [.t 21, .c (.int .i64 0), .c (.int .i64 11)], []⟩,
            ⟨none, (some 23), .un .not (.t 22), []⟩])
          (.cond (.t 23)
           (.exit 1)
           .skip))
         (.seq
          (.reg [25] [
            ⟨none, (some 24), .mov (.t 1), []⟩,
            ⟨none, (some 25), .bin .geq (.t 24) (.c (.int .i64 0)), []⟩])
          (.cond (.t 25)
           (.reg [7] [
             ⟨none, (some 26), .mov (.t 8), []⟩,
             ⟨none, (some 27), .mov (.t 9), []⟩,
             ⟨none, (some 28), .adrI 3 none 12 1 (.t 27), []⟩,
             ⟨none, (some 29), .ldV 3 (some 28) 1 false, []⟩,
             ⟨none, (some 30), .mov (.t 1), []⟩,
             ⟨none, (some 31), .bin .shl (.t 29) (.t 30), []⟩,
             ⟨none, (some 32), .bin .and (.t 31) (.c (.int .u16 4095)), []⟩,
             ⟨none, (some 33), .adrI 7 none 12 1 (.t 26), []⟩,
             ⟨none, (some 7), .stV 7 (some 33) 1 (.t 32), []⟩])
           (.reg [7] [
             ⟨none, (some 34), .mov (.t 8), []⟩,
             ⟨none, (some 35), .mov (.t 9), []⟩,
             ⟨none, (some 36), .adrI 3 none 12 1 (.t 35), []⟩,
             ⟨none, (some 37), .ldV 3 (some 36) 1 false, []⟩,
             ⟨none, (some 38), .mov (.t 1), []⟩,
             ⟨none, (some 39), .un .neg (.t 38), []⟩,
             ⟨none, (some 40), .bin .shr (.t 37) (.t 39), []⟩,
             ⟨none, (some 41), .adrI 7 none 12 1 (.t 34), []⟩,
             ⟨none, (some 7), .stV 7 (some 41) 1 (.t 40), []⟩])))))))
     (.reg [15] [
       ⟨none, (some 42), .bin .add (.t 15) (.c (.int .i64 1)), []⟩,
       ⟨none, (some 15), .mov (.t 42), []⟩]))))
def k358 : Cd :=
  (.seq
   (.reg [3, 6] [
     ⟨none, (some 3), .mov (.t 0), []⟩,
     ⟨none, (some 6), .zero true (zs 12 (.int .u16 0)), []⟩])
   (.seq
    (.reg [7] [
      ⟨none, (some 10), .agg (zs 12 (.int .u16 0)) [], []⟩,
      ⟨none, (some 7), .zero true (zs 12 (.int .u16 0)), []⟩,
      ⟨none, (some 7), .stV 7 none 12 (.t 10), []⟩])
    (.seq
     (.seq
      (.reg [13] [
        ⟨none, (some 11), .mov (.t 1), []⟩,
        ⟨none, (some 12), .call true 295 [.t 11, .c (.int .i64 (-12)), .c (.int .i64 12)], []⟩,
        ⟨none, (some 13), .un .not (.t 12), []⟩])
      (.cond (.t 13)
       (.seq
        (.reg [6] [
          ⟨none, (some 14), .ldV 7 none 12 true, []⟩,
          ⟨none, (some 6), .stV 6 none 12 (.t 14), []⟩])
        .ret)
       .skip))
     (.seq
      (.seq
       (.reg [15] [
         ⟨none, (some 15), .mov (.c (.int .i64 0)), []⟩])
       (.block 0
        (.loop b358_1)))
      (.seq
       (.reg [6] [
         ⟨none, (some 43), .ldV 7 none 12 true, []⟩,
         ⟨none, (some 6), .stV 6 none 12 (.t 43), []⟩])
       .ret)))))
def c358 : Fn := { np := 3, nt := 44, kind := .pure, res := [.v 6 12 true], body := k358 }

/- spec.l01Ok -/
def b359_1 : Cd :=
  (.seq
   (.seq
    (.reg [5] [
      ⟨none, (some 4), .mov (.t 3), []⟩,
      ⟨none, (some 5), .bin .lss (.t 4) (.c (.int .i64 12)), []⟩])
    (.cond (.t 5)
     .skip
     (.exit 0)))
   (.seq
    (.block 1
     (.seq
      (.reg [13] [
        ⟨none, (some 8), .mov (.t 0), []⟩,
        ⟨none, (some 9), .mov (.t 3), []⟩,
        ⟨none, (some 10), .nil (.t 8), []⟩,
        ⟨none, (some 11), .idxP 12 1 (.t 10) (.t 9), []⟩,
        ⟨none, (some 12), .ld 1 false (.t 11), []⟩,
        ⟨none, (some 13), .bin .gtr (.t 12) (.c (.int .u16 4095)), []⟩])
      (.cond (.t 13)
       (.seq
        (.reg [2] [
          ⟨none, (some 2), .mov (.c (.bool false)), []⟩])
        .ret)
       .skip)))
    (.reg [3] [
      ⟨none, (some 6), .mov (.t 3), []⟩,
      ⟨none, (some 7), .bin .add (.t 6) (.c (.int .i64 1)), []⟩,
      ⟨none, (some 3), .mov (.t 7), []⟩])))
def k359 : Cd :=
  (.seq
   (.reg [2] [
     ⟨none, (some 2), .mov (.c (.bool false)), []⟩])
   (.seq
    (.seq
     (.reg [3] [
       ⟨none, (some 3), .mov (.c (.int .i64 0)), []⟩])
     (.block 0
      (.loop b359_1)))
    (.seq
     (.reg [2] [
       ⟨none, (some 2), .mov (.c (.bool true)), []⟩])
     .ret)))
def c359 : Fn := { np := 1, nt := 14, kind := .pure, res := [.t 2], body := k359 }

/- (impl.Frame).differ -/
def k367 : Cd :=
  (.seq
   (.reg [2, 3, 4] [
     ⟨none, (some 2), .mov (.t 0), []⟩,
     ⟨none, (some 3), .mov (.t 1), []⟩,
     ⟨none, (some 4), .zero true (zs 12 (.int .u16 0)), []⟩])
   (.seq
    (.reg [4] [
      ⟨none, (some 5), .ldV 2 none 12 true, []⟩,
      ⟨none, (some 6), .ldV 3 none 12 true, []⟩,
      ⟨none, (some 7), .call true 443 [.t 5, .t 6, .f 512], []⟩,
      ⟨none, (some 4), .stV 4 none 12 (.t 7), []⟩])
    .ret))
def c367 : Fn := { np := 2, nt := 8, kind := .pure, res := [.v 4 12 true], body := k367 }

/- spec.l01Drawn -/
def b368_1 : Cd :=
  (.seq
   (.seq
    (.reg [16] [
      ⟨none, (some 15), .mov (.t 6), []⟩,
      ⟨none, (some 16), .bin .gtr (.t 15) (.c (.int .i64 0)), []⟩])
    (.cond (.t 16)
     .skip
     (.exit 0)))
   (.seq
    (.block 1
     (.seq
      (.reg [] [
        ⟨none, (some 19), .mov (.t 4), []⟩,
        ⟨none, (some 20), .mov (.t 5), []⟩,
        ⟨none, (some 21), .call false 305 [.t 3, .t 19, .t 20], []⟩])
      (.seq
       (.reg [23] [
         ⟨none, (some 22), .mov (.t 0), []⟩,
         ⟨none, (some 23), .call false 459 [.t 22, .c (.int .i64 6)], []⟩])
       (.block 2
        (.seq
         (.reg [30] [
           ⟨none, (some 31), .bin .eql (.t 23) (.c (.int .i64 0)), []⟩,
           ⟨none, (some 30), .mov (.t 31), []⟩])
         (.cond (.t 30)
          (.seq
           (.reg [4] [
             ⟨none, (some 32), .mov (.t 0), []⟩,
             ⟨none, (some 33), .call false 459 [.t 32, .c (.int .i64 12)], []⟩,
             ⟨none, (some 4), .mov (.t 33), []⟩])
           (.reg [5] [
             ⟨none, (some 34), .mov (.t 0), []⟩,
             ⟨none, (some 35), .call false 459 [.t 34, .c (.int .i64 12)], []⟩,
             ⟨none, (some 5), .mov (.t 35), []⟩]))
          (.seq
           (.seq
            (.reg [36] [
              ⟨none, (some 37), .bin .eql (.t 23) (.c (.int .i64 1)), []⟩,
              ⟨none, (some 36), .mov (.t 37), []⟩])
            (.cond (.t 36)
             .skip
             (.reg [36] [
               ⟨none, (some 38), .bin .eql (.t 23) (.c (.int .i64 2)), []⟩,
               ⟨none, (some 36), .mov (.t 38), []⟩])))
           (.cond (.t 36)
            (.reg [4] [
              ⟨none, (some 39), .mov (.t 4), []⟩,
              ⟨none, (some 40), .bin .add (.t 39) (.c (.int .i64 1)), []⟩,
              ⟨none, (some 41), .bin .rem (.t 40) (.c (.int .i64 12)), []⟩,
              ⟨none, (some 4), .mov (.t 41), []⟩])
            (.reg [5] [
              ⟨none, (some 24), .mov (.t 5), []⟩,
              ⟨none, (some 25), .mov (.t 0), []⟩,
              ⟨none, (some 26), .call false 459 [.t 25, .c (.int .i64 3)], []⟩,
              ⟨none, (some 27), .bin .add (.t 24) (.t 26), []⟩,
              ⟨none, (some 28), .bin .add (.t 27) (.c (.int .i64 11)), []⟩,
              ⟨none, (some 29), .bin .rem (.t 28) (.c (.int .i64 12)), []⟩,
              ⟨none, (some 5), .mov (.t 29), []⟩])))))))))
    (.reg [6] [
      ⟨none, (some 17), .mov (.t 6), []⟩,
      ⟨none, (some 18), .bin .sub (.t 17) (.c (.int .i64 1)), []⟩,
      ⟨none, (some 6), .mov (.t 18), []⟩])))
def b368_2 : Cd :=
  (.seq
   (.seq
    (.reg [45] [
      ⟨none, (some 44), .mov (.t 7), []⟩,
      ⟨none, (some 45), .bin .lss (.t 44) (.c (.int .i64 12)), []⟩])
    (.cond (.t 45)
     .skip
     (.exit 3)))
   (.seq
    (.block 4
     (.reg [] [
       ⟨none, (some 48), .mov (.t 7), []⟩,
       ⟨none, (some 49), .mov (.t 7), []⟩,
       ⟨none, (some 50), .idxP 12 1 (.t 3) (.t 49), []⟩,
       ⟨none, (some 51), .ld 1 false (.t 50), []⟩,
       ⟨none, (some 52), .mov (.t 0), []⟩,
       ⟨none, (some 53), .call false 459 [.t 52, .c (.int .i64 4096)], [.t 50]⟩,
       ⟨none, (some 54), .conv .u16 (.t 53), []⟩,
       ⟨none, (some 55), .bin .or (.t 51) (.t 54), []⟩,
       ⟨none, (some 56), .idxP 12 1 (.t 3) (.t 48), []⟩,
       ⟨none, none, .st 1 (.t 56) (.t 55), []⟩]))
    (.reg [7] [
      ⟨none, (some 46), .mov (.t 7), []⟩,
      ⟨none, (some 47), .bin .add (.t 46) (.c (.int .i64 1)), []⟩,
      ⟨none, (some 7), .mov (.t 47), []⟩])))
def k368 : Cd :=
  (.seq
   (.reg [2] [
     ⟨none, (some 2), .zero true (zs 12 (.int .u16 0)), []⟩])
   (.seq
    (.reg [3] [
      ⟨none, (some 8), .agg (zs 12 (.int .u16 0)) [], []⟩,
      ⟨none, (some 3), .new 1 (zs 12 (.int .u16 0)), []⟩,
      ⟨none, none, .st 12 (.t 3) (.t 8), []⟩])
    (.seq
     (.reg [4] [
       ⟨none, (some 9), .mov (.t 0), []⟩,
       ⟨none, (some 10), .call false 459 [.t 9, .c (.int .i64 12)], []⟩,
       ⟨none, (some 4), .mov (.t 10), []⟩])
     (.seq
      (.reg [5] [
        ⟨none, (some 11), .mov (.t 0), []⟩,
        ⟨none, (some 12), .call false 459 [.t 11, .c (.int .i64 12)], []⟩,
        ⟨none, (some 5), .mov (.t 12), []⟩])
      (.seq
       (.seq
        (.reg [6] [
          ⟨none, (some 13), .mov (.t 0), []⟩,
          ⟨none, (some 14), .call false 459 [.t 13, .c (.int .i64 14)], []⟩,
          ⟨none, (some 6), .mov (.t 14), []⟩])
        (.block 0
         (.loop b368_1)))
       (.seq
        (.seq
         (.reg [43] [
           ⟨none, (some 42), .mov (.t 0), []⟩,
           ⟨none, (some 43), .call false 513 [.t 42, .c (.int .i64 8)], []⟩])
         (.cond (.t 43)
          (.seq
           (.reg [7] [
             ⟨none, (some 7), .mov (.c (.int .i64 0)), []⟩])
           (.block 3
            (.loop b368_2)))
          .skip))
        (.seq
         (.reg [2] [
           ⟨none, (some 57), .ld 12 true (.t 3), []⟩,
           ⟨none, (some 2), .stV 2 none 12 (.t 57), []⟩])
         .ret)))))))
def c368 : Fn := { np := 1, nt := 58, kind := .args, res := [.v 2 12 true], body := k368 }

/- impl.isMost -/
def k369 : Cd :=
  (.seq
   (.reg [2] [
     ⟨none, (some 2), .mov (.c (.bool false)), []⟩])
   (.seq
    (.reg [2] [
      ⟨none, (some 3), .mov (.t 0), []⟩,
      ⟨none, (some 4), .call true 295 [.t 3, .c (.int .i64 0), .c (.int .i64 4)], []⟩,
      ⟨none, (some 2), .mov (.t 4), []⟩])
    .ret))
def c369 : Fn := { np := 1, nt := 5, kind := .pure, res := [.t 2], body := k369 }

/- impl.movesUpTo -/
def b371_1 : Cd :=
  (.seq
   (.seq
    (.reg [19] [
      ⟨none, (some 17), .mov (.t 5), []⟩,
      ⟨none, (some 18), .mov (.t 0), []⟩,
      ⟨none, (some 19), .bin .leq (.t 17) (.t 18), []⟩])
    (.cond (.t 19)
     .skip
     (.exit 2)))
   (.seq
    (.block 3
     (.reg [3] [
       ⟨none, (some 22), .mov (.t 3), []⟩,
       ⟨none, (some 23), .mov (.t 4), []⟩,
       ⟨none, (some 24), .conv .i8 (.t 23), []⟩,
       ⟨none, (some 25), .mov (.t 5), []⟩,
       ⟨none, (some 26), .conv .i8 (.t 25), []⟩,
       ⟨none, (some 27), .agg [.int .i8 0, .int .i8 0] [(0, 1, (.t 24)), (1, 1, (.t 26))], []⟩,
       ⟨none, (some 28), .bldS 2 1 [.int .i8 0, .int .i8 0] [(0, 2, (.t 27))], []⟩,
       ⟨none, (some 29), .app 2 2 (.t 22) (.t 28), []⟩,
       ⟨none, (some 3), .mov (.t 29), []⟩]))
    (.reg [5] [
      ⟨none, (some 20), .mov (.t 5), []⟩,
      ⟨none, (some 21), .bin .add (.t 20) (.c (.int .i64 1)), []⟩,
      ⟨none, (some 5), .mov (.t 21), []⟩])))
def b371_2 : Cd :=
  (.seq
   (.seq
    (.reg [12] [
      ⟨none, (some 10), .mov (.t 4), []⟩,
      ⟨none, (some 11), .mov (.t 0), []⟩,
      ⟨none, (some 12), .bin .leq (.t 10) (.t 11), []⟩])
    (.cond (.t 12)
     .skip
     (.exit 0)))
   (.seq
    (.block 1
     (.seq
      (.reg [5] [
        ⟨none, (some 15), .mov (.t 0), []⟩,
        ⟨none, (some 16), .un .neg (.t 15), []⟩,
        ⟨none, (some 5), .mov (.t 16), []⟩])
      (.block 2
       (.loop b371_1))))
    (.reg [4] [
      ⟨none, (some 13), .mov (.t 4), []⟩,
      ⟨none, (some 14), .bin .add (.t 13) (.c (.int .i64 1)), []⟩,
      ⟨none, (some 4), .mov (.t 14), []⟩])))
def k371 : Cd :=
  (.seq
   (.reg [2] [
     ⟨none, (some 2), .mov (.c (.slice none 0 0)), []⟩])
   (.seq
    (.reg [3] [
      ⟨none, (some 7), .bldS 2 0 [.int .i8 0, .int .i8 0] [], []⟩,
      ⟨none, (some 3), .mov (.t 7), []⟩])
    (.seq
     (.seq
      (.reg [4] [
        ⟨none, (some 8), .mov (.t 0), []⟩,
        ⟨none, (some 9), .un .neg (.t 8), []⟩,
        ⟨none, (some 4), .mov (.t 9), []⟩])
      (.block 0
       (.loop b371_2)))
     (.seq
      (.reg [6] [
        ⟨none, (some 6), .new 1 [.nilFunc], []⟩,
        ⟨none, none, .st 1 (.t 6) (.f 515), []⟩])
      (.seq
       (.reg [] [
         ⟨none, (some 30), .mov (.t 3), []⟩,
         ⟨none, (some 31), .mkf 518 [.t 6], []⟩,
         ⟨none, (some 32), .call false 517 [.t 30, .t 31], []⟩])
       (.seq
        (.reg [2] [
          ⟨none, (some 33), .mov (.t 3), []⟩,
          ⟨none, (some 2), .mov (.t 33), []⟩])
        .ret))))))
def c371 : Fn := { np := 1, nt := 34, kind := .pure, res := [.t 2], body := k371 }

/- (impl.Frame).count -/
def b393_1 : Cd :=
  (.seq
   (.reg [8] [
     ⟨none, (some 8), .bin .lss (.t 7) (.c (.int .i64 12)), []⟩])
   (.seq
    (.cond (.t 8)
     .skip
     (.exit 0))
    (.seq
     (.block 1
      (.seq
       (.reg [5] [
         ⟨none, (some 9), .idx 12 1 false (.t 6) (.t 7), []⟩,
         ⟨none, (some 5), .mov (.t 9), []⟩])
       (.reg [3] [
         ⟨none, (some 10), .mov (.t 3), []⟩,
         ⟨none, (some 11), .mov (.t 5), []⟩,
         ⟨none, (some 12), .call true 530 [.t 11], []⟩,
         ⟨none, (some 13), .bin .add (.t 10) (.t 12), []⟩,
         ⟨none, (some 3), .mov (.t 13), []⟩])))
     (.reg [7] [
       ⟨none, (some 14), .bin .add (.t 7) (.c (.int .i64 1)), []⟩,
       ⟨none, (some 7), .mov (.t 14), []⟩]))))
def k393 : Cd :=
  (.seq
   (.reg [1, 2] [
     ⟨none, (some 1), .mov (.t 0), []⟩,
     ⟨none, (some 2), .mov (.c (.int .i64 0)), []⟩])
   (.seq
    (.reg [3] [
      ⟨none, (some 3), .mov (.c (.int .i64 0)), []⟩])
    (.seq
     (.seq
      (.reg [6, 7] [
        ⟨none, (some 6), .ldV 1 none 12 true, []⟩,
        ⟨none, (some 7), .mov (.c (.int .i64 0)), []⟩])
      (.block 0
       (.loop b393_1)))
     (.seq
      (.reg [2] [
        ⟨none, (some 15), .mov (.t 3), []⟩,
        ⟨none, (some 2), .mov (.t 15), []⟩])
      .ret))))
def c393 : Fn := { np := 1, nt := 16, kind := .pure, res := [.t 2], body := k393 }

/- spec.l01Count -/
def k409 : Cd :=
  (.seq
   (.reg [2] [
     ⟨none, (some 2), .mov (.c (.int .i64 0)), []⟩])
   (.seq
    (.reg [2] [
      ⟨none, (some 3), .mov (.t 0), []⟩,
      ⟨none, (some 4), .call true 440 [.t 3], []⟩,
      ⟨none, (some 5), .len (.t 4), []⟩,
      ⟨none, (some 2), .mov (.t 5), []⟩])
    .ret))
def c409 : Fn := { np := 1, nt := 6, kind := .pure, res := [.t 2], body := k409 }

/- spec.l01Dots -/
def b440_1 : Cd :=
  (.seq
   (.seq
    (.reg [12] [
      ⟨none, (some 11), .mov (.t 5), []⟩,
      ⟨none, (some 12), .bin .lss (.t 11) (.c (.int .i64 12)), []⟩])
    (.cond (.t 12)
     .skip
     (.exit 2)))
   (.seq
    (.block 3
     (.seq
      (.reg [18] [
        ⟨none, (some 15), .mov (.t 0), []⟩,
        ⟨none, (some 16), .mov (.t 5), []⟩,
        ⟨none, (some 17), .mov (.t 4), []⟩,
        ⟨none, (some 18), .call true 456 [.t 15, .t 16, .t 17], []⟩])
      (.cond (.t 18)
       (.reg [3] [
         ⟨none, (some 19), .mov (.t 3), []⟩,
         ⟨none, (some 20), .mov (.t 5), []⟩,
         ⟨none, (some 21), .conv .i8 (.t 20), []⟩,
         ⟨none, (some 22), .mov (.t 4), []⟩,
         ⟨none, (some 23), .conv .i8 (.t 22), []⟩,
         ⟨none, (some 24), .agg [.int .i8 0, .int .i8 0] [(0, 1, (.t 21)), (1, 1, (.t 23))], []⟩,
         ⟨none, (some 25), .bldS 2 1 [.int .i8 0, .int .i8 0] [(0, 2, (.t 24))], []⟩,
         ⟨none, (some 26), .app 2 2 (.t 19) (.t 25), []⟩,
         ⟨none, (some 3), .mov (.t 26), []⟩])
       .skip)))
    (.reg [5] [
      ⟨none, (some 13), .mov (.t 5), []⟩,
      ⟨none, (some 14), .bin .add (.t 13) (.c (.int .i64 1)), []⟩,
      ⟨none, (some 5), .mov (.t 14), []⟩])))
def b440_2 : Cd :=
  (.seq
   (.seq
    (.reg [8] [
      ⟨none, (some 7), .mov (.t 4), []⟩,
      ⟨none, (some 8), .bin .lss (.t 7) (.c (.int .i64 12)), []⟩])
    (.cond (.t 8)
     .skip
     (.exit 0)))
   (.seq
    (.block 1
     (.seq
      (.reg [5] [
        ⟨none, (some 5), .mov (.c (.int .i64 0)), []⟩])
      (.block 2
       (.loop b440_1))))
    (.reg [4] [
      ⟨none, (some 9), .mov (.t 4), []⟩,
      ⟨none, (some 10), .bin .add (.t 9) (.c (.int .i64 1)), []⟩,
      ⟨none, (some 4), .mov (.t 10), []⟩])))
def k440 : Cd :=
  (.seq
   (.reg [2] [
     ⟨none, (some 2), .mov (.c (.slice none 0 0)), []⟩])
   (.seq
    (.reg [3] [
      ⟨none, (some 6), .bldS 2 0 [.int .i8 0, .int .i8 0] [], []⟩,
      ⟨none, (some 3), .mov (.t 6), []⟩])
    (.seq
     (.seq
      (.reg [4] [
        ⟨none, (some 4), .mov (.c (.int .i64 0)), []⟩])
      (.block 0
       (.loop b440_2)))
     (.seq
      (.reg [2] [
        ⟨none, (some 27), .mov (.t 3), []⟩,
        ⟨none, (some 2), .mov (.t 27), []⟩])
      .ret))))
def c440 : Fn := { np := 1, nt := 28, kind := .pure, res := [.t 2], body := k440 }

/- (impl.Frame).mix -/
def b443_1 : Cd :=
  (.seq
   (.reg [11] [
     ⟨none, (some 11), .bin .lss (.t 10) (.c (.int .i64 12)), []⟩])
   (.seq
    (.cond (.t 11)
     .skip
     (.exit 0))
    (.seq
     (.block 1
      (.seq
       (.reg [7, 8] [
         ⟨none, (some 12), .mov (.t 10), []⟩,
         ⟨none, (some 13), .idx 12 1 false (.t 9) (.t 10), []⟩,
         ⟨none, (some 7), .mov (.t 12), []⟩,
         ⟨none, (some 8), .mov (.t 13), []⟩])
       (.reg [3] [
         ⟨none, (some 14), .mov (.t 7), []⟩,
         ⟨none, (some 15), .mov (.t 2), []⟩,
         ⟨none, (some 16), .mov (.t 8), []⟩,
         ⟨none, (some 17), .mov (.t 7), []⟩,
         ⟨none, (some 18), .adrI 4 none 12 1 (.t 17), []⟩,
         ⟨none, (some 19), .ldV 4 (some 18) 1 false, []⟩,
         ⟨none, (some 20), .callv (.t 15) [.t 16, .t 19], []⟩,
         ⟨none, (some 21), .adrI 3 none 12 1 (.t 14), []⟩,
         ⟨none, (some 3), .stV 3 (some 21) 1 (.t 20), []⟩])))
     (.reg [10] [
       ⟨none, (some 22), .bin .add (.t 10) (.c (.int .i64 1)), []⟩,
       ⟨none, (some 10), .mov (.t 22), []⟩]))))
def k443 : Cd :=
  (.seq
   (.reg [3, 4, 6] [
     ⟨none, (some 3), .mov (.t 0), []⟩,
     ⟨none, (some 4), .mov (.t 1), []⟩,
     ⟨none, (some 6), .zero true (zs 12 (.int .u16 0)), []⟩])
   (.seq
    (.seq
     (.reg [9, 10] [
       ⟨none, (some 9), .ldV 3 none 12 true, []⟩,
       ⟨none, (some 10), .mov (.c (.int .i64 0)), []⟩])
     (.block 0
      (.loop b443_1)))
    (.seq
     (.reg [6] [
       ⟨none, (some 23), .ldV 3 none 12 true, []⟩,
       ⟨none, (some 6), .stV 6 none 12 (.t 23), []⟩])
     .ret)))
def c443 : Fn := { np := 3, nt := 24, kind := .pure, res := [.v 6 12 true], body := k443 }

/- slices.ContainsFunc[[]uint16,uint16] -/
def k445 : Cd :=
  (.seq
   (.reg [4] [
     ⟨none, (some 4), .mov (.c (.bool false)), []⟩])
   (.seq
    (.reg [4] [
      ⟨none, (some 5), .mov (.t 0), []⟩,
      ⟨none, (some 6), .mov (.t 1), []⟩,
      ⟨none, (some 7), .call true 547 [.t 5, .t 6], []⟩,
      ⟨none, (some 8), .bin .geq (.t 7) (.c (.int .i64 0)), []⟩,
      ⟨none, (some 4), .mov (.t 8), []⟩])
    .ret))
def c445 : Fn := { np := 2, nt := 9, kind := .pure, res := [.t 4], body := k445 }

/- impl.ValidFrame$1 -/
def k446 : Cd :=
  (.seq
   (.reg [2] [
     ⟨none, (some 2), .mov (.c (.bool false)), []⟩])
   (.seq
    (.reg [2] [
      ⟨none, (some 3), .mov (.t 0), []⟩,
      ⟨none, (some 4), .bin .gtr (.t 3) (.c (.int .u16 4095)), []⟩,
      ⟨none, (some 2), .mov (.t 4), []⟩])
    .ret))
def c446 : Fn := { np := 1, nt := 5, kind := .pure, res := [.t 2], body := k446 }

/- spec.l01Has -/
def k456 : Cd :=
  (.seq
   (.reg [6] [
     ⟨none, (some 6), .mov (.c (.bool false)), []⟩])
   (.seq
    (.reg [6] [
      ⟨none, (some 7), .mov (.t 1), []⟩,
      ⟨none, (some 8), .mov (.t 2), []⟩,
      ⟨none, (some 9), .call true 342 [.t 7, .t 8], []⟩,
      ⟨none, (some 10), .mov (.t 9), []⟩,
      ⟨(some (10, true)), (some 11), .mov (.t 0), []⟩,
      ⟨(some (10, true)), (some 12), .mov (.t 2), []⟩,
      ⟨(some (10, true)), (some 13), .nil (.t 11), []⟩,
      ⟨(some (10, true)), (some 14), .idxP 12 1 (.t 13) (.t 12), []⟩,
      ⟨(some (10, true)), (some 15), .ld 1 false (.t 14), []⟩,
      ⟨(some (10, true)), (some 16), .mov (.t 1), []⟩,
      ⟨(some (10, true)), (some 17), .conv .u64 (.t 16), []⟩,
      ⟨(some (10, true)), (some 18), .bin .shr (.t 15) (.t 17), []⟩,
      ⟨(some (10, true)), (some 19), .bin .rem (.t 18) (.c (.int .u16 2)), []⟩,
      ⟨(some (10, true)), (some 20), .bin .eql (.t 19) (.c (.int .u16 1)), []⟩,
      ⟨none, (some 21), .pick (.t 10) (.t 20) (.c (.bool false)), []⟩,
      ⟨none, (some 6), .mov (.t 21), []⟩])
    .ret))
def c456 : Fn := { np := 3, nt := 22, kind := .pure, res := [.t 6], body := k456 }

/- (*spec.l00Src).pick -/
def k459 : Cd :=
  (.seq
   (.reg [4] [
     ⟨none, (some 4), .mov (.c (.int .i64 0)), []⟩])
   (.seq
    (.seq
     (.reg [7] [
       ⟨none, (some 6), .mov (.t 1), []⟩,
       ⟨none, (some 7), .bin .leq (.t 6) (.c (.int .i64 1)), []⟩])
     (.cond (.t 7)
      (.seq
       (.reg [4] [
         ⟨none, (some 4), .mov (.c (.int .i64 0)), []⟩])
       .ret)
      .skip))
    (.seq
     (.reg [5] [
       ⟨none, (some 8), .mov (.t 0), []⟩,
       ⟨none, (some 9), .call false 550 [.t 8], []⟩,
       ⟨none, (some 5), .mov (.t 9), []⟩])
     (.seq
      (.seq
       (.reg [11] [
         ⟨none, (some 10), .mov (.t 1), []⟩,
         ⟨none, (some 11), .bin .gtr (.t 10) (.c (.int .i64 200)), []⟩])
       (.cond (.t 11)
        (.reg [5] [
          ⟨none, (some 12), .mov (.t 5), []⟩,
          ⟨none, (some 13), .bin .mul (.t 12) (.c (.int .i64 256)), []⟩,
          ⟨none, (some 14), .mov (.t 0), []⟩,
          ⟨none, (some 15), .call false 550 [.t 14], []⟩,
          ⟨none, (some 16), .bin .add (.t 13) (.t 15), []⟩,
          ⟨none, (some 5), .mov (.t 16), []⟩])
        .skip))
      (.seq
       (.reg [4] [
         ⟨none, (some 17), .mov (.t 5), []⟩,
         ⟨none, (some 18), .mov (.t 1), []⟩,
         ⟨none, (some 19), .bin .rem (.t 17) (.t 18), []⟩,
         ⟨none, (some 4), .mov (.t 19), []⟩])
       .ret)))))
def c459 : Fn := { np := 2, nt := 20, kind := .args, res := [.t 4], body := k459 }

/- slices.IndexFunc[[]impl.Frame,impl.Frame] -/
def b474_1 : Cd :=
  (.seq
   (.reg [9] [
     ⟨none, (some 9), .bin .lss (.t 8) (.t 7), []⟩])
   (.seq
    (.cond (.t 9)
     .skip
     (.exit 0))
    (.seq
     (.block 1
      (.seq
       (.reg [5] [
         ⟨none, (some 10), .mov (.t 8), []⟩,
         ⟨none, (some 5), .mov (.t 10), []⟩])
       (.seq
        (.reg [16] [
          ⟨none, (some 11), .mov (.t 1), []⟩,
          ⟨none, (some 12), .mov (.t 0), []⟩,
          ⟨none, (some 13), .mov (.t 5), []⟩,
          ⟨none, (some 14), .idxA 12 (.t 12) (.t 13), []⟩,
          ⟨none, (some 15), .ld 12 true (.t 14), []⟩,
          ⟨none, (some 16), .callv (.t 11) [.t 15], []⟩])
        (.cond (.t 16)
         (.seq
          (.reg [4] [
            ⟨none, (some 17), .mov (.t 5), []⟩,
            ⟨none, (some 4), .mov (.t 17), []⟩])
          .ret)
         .skip))))
     (.reg [8] [
       ⟨none, (some 18), .bin .add (.t 8) (.c (.int .i64 1)), []⟩,
       ⟨none, (some 8), .mov (.t 18), []⟩]))))
def k474 : Cd :=
  (.seq
   (.reg [4] [
     ⟨none, (some 4), .mov (.c (.int .i64 0)), []⟩])
   (.seq
    (.seq
     (.reg [7, 8] [
       ⟨none, (some 6), .mov (.t 0), []⟩,
       ⟨none, (some 7), .len (.t 6), []⟩,
       ⟨none, (some 8), .mov (.c (.int .i64 0)), []⟩])
     (.block 0
      (.loop b474_1)))
    (.seq
     (.reg [4] [
       ⟨none, (some 4), .mov (.c (.int .i64 (-1))), []⟩])
     .ret)))
def c474 : Fn := { np := 2, nt := 19, kind := .pure, res := [.t 4], body := k474 }

/- (impl.Frame).join$1 -/
def k502 : Cd :=
  (.seq
   (.reg [4] [
     ⟨none, (some 4), .mov (.c (.int .u16 0)), []⟩])
   (.seq
    (.reg [4] [
      ⟨none, (some 5), .mov (.t 0), []⟩,
      ⟨none, (some 6), .mov (.t 1), []⟩,
      ⟨none, (some 7), .bin .or (.t 5) (.t 6), []⟩,
      ⟨none, (some 4), .mov (.t 7), []⟩])
    .ret))
def c502 : Fn := { np := 2, nt := 8, kind := .pure, res := [.t 4], body := k502 }

/- (impl.Frame).meet$1 -/
def k503 : Cd :=
  (.seq
   (.reg [4] [
     ⟨none, (some 4), .mov (.c (.int .u16 0)), []⟩])
   (.seq
    (.reg [4] [
      ⟨none, (some 5), .mov (.t 0), []⟩,
      ⟨none, (some 6), .mov (.t 1), []⟩,
      ⟨none, (some 7), .bin .and (.t 5) (.t 6), []⟩,
      ⟨none, (some 4), .mov (.t 7), []⟩])
    .ret))
def c503 : Fn := { np := 2, nt := 8, kind := .pure, res := [.t 4], body := k503 }

/- (impl.Frame).less$1 -/
def k504 : Cd :=
  (.seq
   (.reg [4] [
     ⟨none, (some 4), .mov (.c (.int .u16 0)), []⟩])
   (.seq
    (.reg [4] [
      ⟨none, (some 5), .mov (.t 0), []⟩,
      ⟨none, (some 6), .mov (.t 1), []⟩,
      ⟨none, (some 7), .bin .andNot (.t 5) (.t 6), []⟩,
      ⟨none, (some 4), .mov (.t 7), []⟩])
    .ret))
def c504 : Fn := { np := 2, nt := 8, kind := .pure, res := [.t 4], body := k504 }

/- slices.ContainsFunc[[]impl.Frame,impl.Frame] -/
def k505 : Cd :=
  (.seq
   (.reg [4] [
     ⟨none, (some 4), .mov (.c (.bool false)), []⟩])
   (.seq
    (.reg [4] [
      ⟨none, (some 5), .mov (.t 0), []⟩,
      ⟨none, (some 6), .mov (.t 1), []⟩,
      ⟨none, (some 7), .call true 474 [.t 5, .t 6], []⟩,
      ⟨none, (some 8), .bin .geq (.t 7) (.c (.int .i64 0)), []⟩,
      ⟨none, (some 4), .mov (.t 8), []⟩])
    .ret))
def c505 : Fn := { np := 2, nt := 9, kind := .pure, res := [.t 4], body := k505 }

/- impl.areFrames$1 -/
def k506 : Cd :=
  (.seq
   (.reg [1, 2] [
     ⟨none, (some 1), .mov (.t 0), []⟩,
     ⟨none, (some 2), .mov (.c (.bool false)), []⟩])
   (.seq
    (.reg [2] [
      ⟨none, (some 3), .ldV 1 none 12 true, []⟩,
      ⟨none, (some 4), .call true 234 [.t 3], []⟩,
      ⟨none, (some 5), .un .not (.t 4), []⟩,
      ⟨none, (some 2), .mov (.t 5), []⟩])
    .ret))
def c506 : Fn := { np := 1, nt := 6, kind := .pure, res := [.t 2], body := k506 }

/- slices.IndexFunc[[]impl.Move,impl.Move] -/
def b507_1 : Cd :=
  (.seq
   (.reg [9] [
     ⟨none, (some 9), .bin .lss (.t 8) (.t 7), []⟩])
   (.seq
    (.cond (.t 9)
     .skip
     (.exit 0))
    (.seq
     (.block 1
      (.seq
       (.reg [5] [
         ⟨none, (some 10), .mov (.t 8), []⟩,
         ⟨none, (some 5), .mov (.t 10), []⟩])
       (.seq
        (.reg [16] [
          ⟨none, (some 11), .mov (.t 1), []⟩,
          ⟨none, (some 12), .mov (.t 0), []⟩,
          ⟨none, (some 13), .mov (.t 5), []⟩,
          ⟨none, (some 14), .idxA 2 (.t 12) (.t 13), []⟩,
          ⟨none, (some 15), .ld 2 true (.t 14), []⟩,
          ⟨none, (some 16), .callv (.t 11) [.t 15], []⟩])
        (.cond (.t 16)
         (.seq
          (.reg [4] [
            ⟨none, (some 17), .mov (.t 5), []⟩,
            ⟨none, (some 4), .mov (.t 17), []⟩])
          .ret)
         .skip))))
     (.reg [8] [
       ⟨none, (some 18), .bin .add (.t 8) (.c (.int .i64 1)), []⟩,
       ⟨none, (some 8), .mov (.t 18), []⟩]))))
def k507 : Cd :=
  (.seq
   (.reg [4] [
     ⟨none, (some 4), .mov (.c (.int .i64 0)), []⟩])
   (.seq
    (.seq
     (.reg [7, 8] [
       ⟨none, (some 6), .mov (.t 0), []⟩,
       ⟨none, (some 7), .len (.t 6), []⟩,
       ⟨none, (some 8), .mov (.c (.int .i64 0)), []⟩])
     (.block 0
      (.loop b507_1)))
    (.seq
     (.reg [4] [
       ⟨none, (some 4), .mov (.c (.int .i64 (-1))), []⟩])
     .ret)))
def c507 : Fn := { np := 2, nt := 19, kind := .pure, res := [.t 4], body := k507 }

/- (impl.Book).movedCopies$1 -/
def k508 : Cd :=
  (.seq
   (.reg [4, 5] [
     ⟨none, (some 4), .mov (.t 0), []⟩,
     ⟨none, (some 5), .mov (.c (.bool false)), []⟩])
   (.seq
    (.reg [5] [
      ⟨none, (some 6), .ld 1 false (.t 1), []⟩,
      ⟨none, (some 7), .ld 1 false (.t 2), []⟩,
      ⟨none, (some 8), .ld 1 false (.t 3), []⟩,
      ⟨none, (some 9), .ldV 4 none 2 true, []⟩,
      ⟨none, (some 10), .call true 509 [.t 6, .t 7, .t 8, .t 9], []⟩,
      ⟨none, (some 5), .mov (.t 10), []⟩])
    .ret))
def c508 : Fn := { np := 4, nt := 11, kind := .pure, res := [.t 5], body := k508 }

/- (impl.Book).copyAt -/
def b509_1 : Cd :=
  (.seq
   (.reg [14] [
     ⟨none, (some 14), .bin .lss (.t 13) (.t 12), []⟩])
   (.seq
    (.cond (.t 14)
     .skip
     (.exit 0))
    (.seq
     (.block 1
      (.seq
       (.reg [10, 9] [
         ⟨none, (some 15), .mov (.t 13), []⟩,
         ⟨none, (some 16), .idxA 12 (.t 11) (.t 13), []⟩,
         ⟨none, (some 17), .ld 12 true (.t 16), []⟩,
         ⟨none, (some 10), .zero true (zs 12 (.int .u16 0)), []⟩,
         ⟨none, (some 9), .mov (.t 15), []⟩,
         ⟨none, (some 10), .stV 10 none 12 (.t 17), []⟩])
       (.seq
        (.reg [27] [
          ⟨none, (some 18), .mov (.t 0), []⟩,
          ⟨none, (some 19), .mov (.t 1), []⟩,
          ⟨none, (some 20), .mov (.t 9), []⟩,
          ⟨none, (some 21), .bin .add (.t 19) (.t 20), []⟩,
          ⟨none, (some 22), .idxA 12 (.t 18) (.t 21), []⟩,
          ⟨none, (some 23), .ld 12 true (.t 22), []⟩,
          ⟨none, (some 24), .ldV 10 none 12 true, []⟩,
          ⟨none, (some 25), .ldV 7 none 2 true, []⟩,
          ⟨none, (some 26), .call true 514 [.t 24, .t 25], []⟩,
          ⟨none, (some 27), .eq (.a (rb 12 (some .u16))) true (.t 23) (.t 26), []⟩])
        (.cond (.t 27)
         (.seq
          (.reg [8] [
            ⟨none, (some 8), .mov (.c (.bool false)), []⟩])
          .ret)
         .skip))))
     (.reg [13] [
       ⟨none, (some 28), .bin .add (.t 13) (.c (.int .i64 1)), []⟩,
       ⟨none, (some 13), .mov (.t 28), []⟩]))))
def k509 : Cd :=
  (.seq
   (.reg [7, 8] [
     ⟨none, (some 7), .mov (.t 3), []⟩,
     ⟨none, (some 8), .mov (.c (.bool false)), []⟩])
   (.seq
    (.seq
     (.reg [11, 12, 13] [
       ⟨none, (some 11), .mov (.t 2), []⟩,
       ⟨none, (some 12), .len (.t 11), []⟩,
       ⟨none, (some 13), .mov (.c (.int .i64 0)), []⟩])
     (.block 0
      (.loop b509_1)))
    (.seq
     (.reg [8] [
       ⟨none, (some 8), .mov (.c (.bool true)), []⟩])
     .ret)))
def c509 : Fn := { np := 4, nt := 29, kind := .pure, res := [.t 8], body := k509 }

/- spec.l07Far -/
def k510 : Cd :=
  (.seq
   (.reg [1, 2] [
     ⟨none, (some 1), .mov (.t 0), []⟩,
     ⟨none, (some 2), .mov (.c (.int .i64 0)), []⟩])
   (.seq
    (.reg [3] [
      ⟨none, (some 5), .adrF 1 none 0, []⟩,
      ⟨none, (some 6), .ldV 1 (some 5) 1 false, []⟩,
      ⟨none, (some 7), .conv .i64 (.t 6), []⟩,
      ⟨none, (some 3), .mov (.t 7), []⟩])
    (.seq
     (.reg [4] [
       ⟨none, (some 8), .adrF 1 none 1, []⟩,
       ⟨none, (some 9), .ldV 1 (some 8) 1 false, []⟩,
       ⟨none, (some 10), .conv .i64 (.t 9), []⟩,
       ⟨none, (some 4), .mov (.t 10), []⟩])
     (.seq
      (.reg [2] [
        ⟨none, (some 11), .mov (.t 3), []⟩,
        ⟨none, (some 12), .mov (.t 3), []⟩,
        ⟨none, (some 13), .un .neg (.t 12), []⟩,
        ⟨none, (some 14), .call true 549 [.t 11, .t 13], []⟩,
        ⟨none, (some 15), .mov (.t 4), []⟩,
        ⟨none, (some 16), .mov (.t 4), []⟩,
        ⟨none, (some 17), .un .neg (.t 16), []⟩,
        ⟨none, (some 18), .call true 549 [.t 15, .t 17], []⟩,
        ⟨none, (some 19), .bin .add (.t 14) (.t 18), []⟩,
        ⟨none, (some 2), .mov (.t 19), []⟩])
      .ret))))
def c510 : Fn := { np := 1, nt := 20, kind := .pure, res := [.t 2], body := k510 }

/- (impl.Frame).differ$1 -/
def k512 : Cd :=
  (.seq
   (.reg [4] [
     ⟨none, (some 4), .mov (.c (.int .u16 0)), []⟩])
   (.seq
    (.reg [4] [
      ⟨none, (some 5), .mov (.t 0), []⟩,
      ⟨none, (some 6), .mov (.t 1), []⟩,
      ⟨none, (some 7), .bin .xor (.t 5) (.t 6), []⟩,
      ⟨none, (some 4), .mov (.t 7), []⟩])
    .ret))
def c512 : Fn := { np := 2, nt := 8, kind := .pure, res := [.t 4], body := k512 }

/- (*spec.l00Src).one -/
def k513 : Cd :=
  (.seq
   (.reg [4] [
     ⟨none, (some 4), .mov (.c (.bool false)), []⟩])
   (.seq
    (.reg [4] [
      ⟨none, (some 5), .mov (.t 0), []⟩,
      ⟨none, (some 6), .mov (.t 1), []⟩,
      ⟨none, (some 7), .call false 459 [.t 5, .t 6], []⟩,
      ⟨none, (some 8), .bin .eql (.t 7) (.c (.int .i64 0)), []⟩,
      ⟨none, (some 4), .mov (.t 8), []⟩])
    .ret))
def c513 : Fn := { np := 2, nt := 9, kind := .args, res := [.t 4], body := k513 }

/- (impl.Frame).by -/
def k514 : Cd :=
  (.seq
   (.reg [2, 3, 4] [
     ⟨none, (some 2), .mov (.t 0), []⟩,
     ⟨none, (some 3), .mov (.t 1), []⟩,
     ⟨none, (some 4), .zero true (zs 12 (.int .u16 0)), []⟩])
   (.seq
    (.reg [4] [
      ⟨none, (some 5), .ldV 2 none 12 true, []⟩,
      ⟨none, (some 6), .adrF 3 none 0, []⟩,
      ⟨none, (some 7), .ldV 3 (some 6) 1 false, []⟩,
      ⟨none, (some 8), .conv .i64 (.t 7), []⟩,
      ⟨none, (some 9), .adrF 3 none 1, []⟩,
      ⟨none, (some 10), .ldV 3 (some 9) 1 false, []⟩,
      ⟨none, (some 11), .conv .i64 (.t 10), []⟩,
      ⟨none, (some 12), .call true 358 [.t 5, .t 8, .t 11], []⟩,
      ⟨none, (some 4), .stV 4 none 12 (.t 12), []⟩])
    .ret))
def c514 : Fn := { np := 2, nt := 13, kind := .pure, res := [.v 4 12 true], body := k514 }

/- impl.movesUpTo$1 -/
def k515 : Cd :=
  (.seq
   (.reg [1, 2] [
     ⟨none, (some 1), .mov (.t 0), []⟩,
     ⟨none, (some 2), .mov (.c (.int .i64 0)), []⟩])
   (.seq
    (.reg [2] [
      ⟨none, (some 3), .adrF 1 none 0, []⟩,
      ⟨none, (some 4), .ldV 1 (some 3) 1 false, []⟩,
      ⟨none, (some 5), .conv .i64 (.t 4), []⟩,
      ⟨none, (some 7), .adrF 1 none 1, []⟩,
      ⟨none, (some 8), .ldV 1 (some 7) 1 false, []⟩,
      ⟨none, (some 9), .conv .i64 (.t 8), []⟩,
      ⟨none, (some 6), .call true 516 [.t 5], []⟩,
      ⟨none, (some 10), .call true 516 [.t 9], []⟩,
      ⟨none, (some 11), .bin .add (.t 6) (.t 10), []⟩,
      ⟨none, (some 2), .mov (.t 11), []⟩])
    .ret))
def c515 : Fn := { np := 1, nt := 12, kind := .pure, res := [.t 2], body := k515 }

/- impl.size -/
def k516 : Cd :=
  (.seq
   (.reg [2] [
     ⟨none, (some 2), .mov (.c (.int .i64 0)), []⟩])
   (.seq
    (.reg [2] [
      ⟨none, (some 3), .mov (.t 0), []⟩,
      ⟨none, (some 4), .mov (.t 0), []⟩,
      ⟨none, (some 5), .un .neg (.t 4), []⟩,
      ⟨none, (some 6), .mx (.t 3) (.t 5), []⟩,
      ⟨none, (some 2), .mov (.t 6), []⟩])
    .ret))
def c516 : Fn := { np := 1, nt := 7, kind := .pure, res := [.t 2], body := k516 }

/- slices.SortStableFunc[[]impl.Move,impl.Move] -/
def k517 : Cd :=
  (.reg [] [
    ⟨none, (some 4), .mov (.t 0), []⟩,
    ⟨none, (some 5), .mov (.t 0), []⟩,
    ⟨none, (some 6), .len (.t 5), []⟩,
    ⟨none, (some 7), .mov (.t 1), []⟩,
    ⟨none, (some 8), .call false 565 [.t 4, .t 6, .t 7], []⟩])
def c517 : Fn := { np := 2, nt := 9, kind := .args, res := [], body := k517 }

/- impl.movesUpTo$2 -/
def k518 : Cd :=
  (.seq
   (.reg [3, 4, 5] [
     ⟨none, (some 3), .mov (.t 0), []⟩,
     ⟨none, (some 4), .mov (.t 1), []⟩,
     ⟨none, (some 5), .mov (.c (.int .i64 0)), []⟩])
   (.seq
    (.reg [5] [
      ⟨none, (some 6), .ld 1 false (.t 2), []⟩,
      ⟨none, (some 7), .ldV 3 none 2 true, []⟩,
      ⟨none, (some 9), .ld 1 false (.t 2), []⟩,
      ⟨none, (some 10), .ldV 4 none 2 true, []⟩,
      ⟨none, (some 8), .callv (.t 6) [.t 7], []⟩,
      ⟨none, (some 11), .callv (.t 9) [.t 10], []⟩,
      ⟨none, (some 12), .call true 519 [.t 8, .t 11], []⟩,
      ⟨none, (some 5), .mov (.t 12), []⟩])
    .ret))
def c518 : Fn := { np := 3, nt := 13, kind := .pure, res := [.t 5], body := k518 }

/- cmp.Compare[int64] -/
def k519 : Cd :=
  (.seq
   (.reg [4] [
     ⟨none, (some 4), .mov (.c (.int .i64 0)), []⟩])
   (.seq
    (.reg [5] [
      ⟨none, (some 7), .mov (.t 0), []⟩,
      ⟨none, (some 8), .call true 566 [.t 7], []⟩,
      ⟨none, (some 5), .mov (.t 8), []⟩])
    (.seq
     (.reg [6] [
       ⟨none, (some 9), .mov (.t 1), []⟩,
       ⟨none, (some 10), .call true 566 [.t 9], []⟩,
       ⟨none, (some 6), .mov (.t 10), []⟩])
     (.seq
      (.seq
       (.reg [11] [
         ⟨none, (some 11), .mov (.t 5), []⟩])
       (.cond (.t 11)
        (.seq
         (.seq
          (.reg [12] [
            ⟨none, (some 12), .mov (.t 6), []⟩])
          (.cond (.t 12)
           (.seq
            (.reg [4] [
              ⟨none, (some 4), .mov (.c (.int .i64 0)), []⟩])
            .ret)
           .skip))
         (.seq
          (.reg [4] [
            ⟨none, (some 4), .mov (.c (.int .i64 (-1))), []⟩])
          .ret))
        .skip))
      (.seq
       (.seq
        (.reg [13] [
          ⟨none, (some 13), .mov (.t 6), []⟩])
        (.cond (.t 13)
         (.seq
          (.reg [4] [
            ⟨none, (some 4), .mov (.c (.int .i64 1)), []⟩])
          .ret)
         .skip))
       (.seq
        (.seq
         (.reg [16] [
           ⟨none, (some 14), .mov (.t 0), []⟩,
           ⟨none, (some 15), .mov (.t 1), []⟩,
           ⟨none, (some 16), .bin .lss (.t 14) (.t 15), []⟩])
         (.cond (.t 16)
          (.seq
           (.reg [4] [
             ⟨none, (some 4), .mov (.c (.int .i64 (-1))), []⟩])
           .ret)
          .skip))
        (.seq
         (.seq
          (.reg [19] [
            ⟨none, (some 17), .mov (.t 0), []⟩,
            ⟨none, (some 18), .mov (.t 1), []⟩,
            ⟨none, (some 19), .bin .gtr (.t 17) (.t 18), []⟩])
          (.cond (.t 19)
           (.seq
            (.reg [4] [
              ⟨none, (some 4), .mov (.c (.int .i64 1)), []⟩])
            .ret)
           .skip))
         (.seq
          (.reg [4] [
            ⟨none, (some 4), .mov (.c (.int .i64 0)), []⟩])
          .ret))))))))
def c519 : Fn := { np := 2, nt := 20, kind := .pure, res := [.t 4], body := k519 }

/- math/bits.OnesCount16 -/
def k530 : Cd :=
  (.seq
   (.reg [2] [
     ⟨none, (some 2), .mov (.c (.int .i64 0)), []⟩])
   (.seq
    (.reg [2] [
      ⟨none, (some 3), .mov (.t 0), []⟩,
      ⟨none, (some 4), .bin .shr (.t 3) (.c (.int .u64 8)), []⟩,
      ⟨none, (some 5), .idxs (.c (.string ⟨#[0, 1, 1, 2, 1, 2, 2, 3, 1, 2, 2, 3, 2, 3, 3, 4, 1, 2, 2, 3, 2, 3, 3, 4, 2, 3, 3, 4, 3, 4, 4, 5, 1, 2, 2, 3, 2, 3, 3, 4, 2, 3, 3, 4, 3, 4, 4, 5, 2, 3, 3, 4, 3, 4, 4, 5, 3, 4, 4, 5, 4, 5, 5, 6, 1, 2, 2, 3, 2, 3, 3, 4, 2, 3, 3, 4, 3, 4, 4, 5, 2, 3, 3, 4, 3, 4, 4, 5, 3, 4, 4, 5, 4, 5, 5, 6, 2, 3, 3, 4, 3, 4, 4, 5, 3, 4, 4, 5, 4, 5, 5, 6, 3, 4, 4, 5, 4, 5, 5, 6, 4, 5, 5, 6, 5, 6, 6, 7, 1, 2, 2, 3, 2, 3, 3, 4, 2, 3, 3, 4, 3, 4, 4, 5, 2, 3, 3, 4, 3, 4, 4, 5, 3, 4, 4, 5, 4, 5, 5, 6, 2, 3, 3, 4, 3, 4, 4, 5, 3, 4, 4, 5, 4, 5, 5, 6, 3, 4, 4, 5, 4, 5, 5, 6, 4, 5, 5, 6, 5, 6, 6, 7, 2, 3, 3, 4, 3, 4, 4, 5, 3, 4, 4, 5, 4, 5, 5, 6, 3, 4, 4, 5, 4, 5, 5, 6, 4, 5, 5, 6, 5, 6, 6, 7, 3, 4, 4, 5, 4, 5, 5, 6, 4, 5, 5, 6, 5, 6, 6, 7, 4, 5, 5, 6, 5, 6, 6, 7, 5, 6, 6, 7, 6, 7, 7, 8]⟩)) (.t 4), []⟩,
      ⟨none, (some 6), .mov (.t 0), []⟩,
      ⟨none, (some 7), .bin .and (.t 6) (.c (.int .u16 255)), []⟩,
      ⟨none, (some 8), .idxs (.c (.string ⟨#[0, 1, 1, 2, 1, 2, 2, 3, 1, 2, 2, 3, 2, 3, 3, 4, 1, 2, 2, 3, 2, 3, 3, 4, 2, 3, 3, 4, 3, 4, 4, 5, 1, 2, 2, 3, 2, 3, 3, 4, 2, 3, 3, 4, 3, 4, 4, 5, 2, 3, 3, 4, 3, 4, 4, 5, 3, 4, 4, 5, 4, 5, 5, 6, 1, 2, 2, 3, 2, 3, 3, 4, 2, 3, 3, 4, 3, 4, 4, 5, 2, 3, 3, 4, 3, 4, 4, 5, 3, 4, 4, 5, 4, 5, 5, 6, 2, 3, 3, 4, 3, 4, 4, 5, 3, 4, 4, 5, 4, 5, 5, 6, 3, 4, 4, 5, 4, 5, 5, 6, 4, 5, 5, 6, 5, 6, 6, 7, 1, 2, 2, 3, 2, 3, 3, 4, 2, 3, 3, 4, 3, 4, 4, 5, 2, 3, 3, 4, 3, 4, 4, 5, 3, 4, 4, 5, 4, 5, 5, 6, 2, 3, 3, 4, 3, 4, 4, 5, 3, 4, 4, 5, 4, 5, 5, 6, 3, 4, 4, 5, 4, 5, 5, 6, 4, 5, 5, 6, 5, 6, 6, 7, 2, 3, 3, 4, 3, 4, 4, 5, 3, 4, 4, 5, 4, 5, 5, 6, 3, 4, 4, 5, 4, 5, 5, 6, 4, 5, 5, 6, 5, 6, 6, 7, 3, 4, 4, 5, 4, 5, 5, 6, 4, 5, 5, 6, 5, 6, 6, 7, 4, 5, 5, 6, 5, 6, 6, 7, 5, 6, 6, 7, 6, 7, 7, 8]⟩)) (.t 7), []⟩,
      ⟨none, (some 9), .bin .add (.t 5) (.t 8), []⟩,
      ⟨none, (some 10), .conv .i64 (.t 9), []⟩,
      ⟨none, (some 2), .mov (.t 10), []⟩])
    .ret))
def c530 : Fn := { np := 1, nt := 11, kind := .pure, res := [.t 2], body := k530 }

/- slices.IndexFunc[[]uint16,uint16] -/
def b547_1 : Cd :=
  (.seq
   (.reg [9] [
     ⟨none, (some 9), .bin .lss (.t 8) (.t 7), []⟩])
   (.seq
    (.cond (.t 9)
     .skip
     (.exit 0))
    (.seq
     (.block 1
      (.seq
       (.reg [5] [
         ⟨none, (some 10), .mov (.t 8), []⟩,
         ⟨none, (some 5), .mov (.t 10), []⟩])
       (.seq
        (.reg [16] [
          ⟨none, (some 11), .mov (.t 1), []⟩,
          ⟨none, (some 12), .mov (.t 0), []⟩,
          ⟨none, (some 13), .mov (.t 5), []⟩,
          ⟨none, (some 14), .idxA 1 (.t 12) (.t 13), []⟩,
          ⟨none, (some 15), .ld 1 false (.t 14), []⟩,
          ⟨none, (some 16), .callv (.t 11) [.t 15], []⟩])
        (.cond (.t 16)
         (.seq
          (.reg [4] [
            ⟨none, (some 17), .mov (.t 5), []⟩,
            ⟨none, (some 4), .mov (.t 17), []⟩])
          .ret)
         .skip))))
     (.reg [8] [
       ⟨none, (some 18), .bin .add (.t 8) (.c (.int .i64 1)), []⟩,
       ⟨none, (some 8), .mov (.t 18), []⟩]))))
def k547 : Cd :=
  (.seq
   (.reg [4] [
     ⟨none, (some 4), .mov (.c (.int .i64 0)), []⟩])
   (.seq
    (.seq
     (.reg [7, 8] [
       ⟨none, (some 6), .mov (.t 0), []⟩,
       ⟨none, (some 7), .len (.t 6), []⟩,
       ⟨none, (some 8), .mov (.c (.int .i64 0)), []⟩])
     (.block 0
      (.loop b547_1)))
    (.seq
     (.reg [4] [
       ⟨none, (some 4), .mov (.c (.int .i64 (-1))), []⟩])
     .ret)))
def c547 : Fn := { np := 2, nt := 19, kind := .pure, res := [.t 4], body := k547 }

/- spec.l00Max -/
def k549 : Cd :=
  (.seq
   (.reg [4] [
     ⟨none, (some 4), .mov (.c (.int .i64 0)), []⟩])
   (.seq
    (.seq
     (.reg [7] [
       ⟨none, (some 5), .mov (.t 0), []⟩,
       ⟨none, (some 6), .mov (.t 1), []⟩,
       ⟨none, (some 7), .bin .gtr (.t 5) (.t 6), []⟩])
     (.cond (.t 7)
      (.seq
       (.reg [4] [
         ⟨none, (some 8), .mov (.t 0), []⟩,
         ⟨none, (some 4), .mov (.t 8), []⟩])
       .ret)
      .skip))
    (.seq
     (.reg [4] [
       ⟨none, (some 9), .mov (.t 1), []⟩,
       ⟨none, (some 4), .mov (.t 9), []⟩])
     .ret)))
def c549 : Fn := { np := 2, nt := 10, kind := .pure, res := [.t 4], body := k549 }

/- (*spec.l00Src).next -/
def k550 : Cd :=
  (.seq
   (.reg [2] [
     ⟨none, (some 2), .mov (.c (.int .i64 0)), []⟩])
   (.seq
    (.reg [3] [
      ⟨none, (some 3), .mov (.c (.int .i64 0)), []⟩])
    (.seq
     (.seq
      (.reg [13] [
        ⟨none, (some 4), .mov (.t 0), []⟩,
        ⟨none, (some 5), .nil (.t 4), []⟩,
        ⟨none, (some 6), .fldP 1 (.t 5), []⟩,
        ⟨none, (some 7), .ld 1 false (.t 6), []⟩,
        ⟨none, (some 8), .mov (.t 0), []⟩,
        ⟨none, (some 9), .nil (.t 8), []⟩,
        ⟨none, (some 10), .fldP 0 (.t 9), []⟩,
        ⟨none, (some 11), .ld 1 false (.t 10), []⟩,
        ⟨none, (some 12), .len (.t 11), []⟩,
        ⟨none, (some 13), .bin .lss (.t 7) (.t 12), []⟩])
      (.cond (.t 13)
       (.reg [3] [
         ⟨none, (some 14), .mov (.t 0), []⟩,
         ⟨none, (some 15), .nil (.t 14), []⟩,
         ⟨none, (some 16), .fldP 0 (.t 15), []⟩,
         ⟨none, (some 17), .ld 1 false (.t 16), []⟩,
         ⟨none, (some 18), .mov (.t 0), []⟩,
         ⟨none, (some 19), .nil (.t 18), []⟩,
         ⟨none, (some 20), .fldP 1 (.t 19), []⟩,
         ⟨none, (some 21), .ld 1 false (.t 20), []⟩,
         ⟨none, (some 22), .idxA 1 (.t 17) (.t 21), []⟩,
         ⟨none, (some 23), .ld 1 false (.t 22), []⟩,
         ⟨none, (some 24), .conv .i64 (.t 23), []⟩,
         ⟨none, (some 3), .mov (.t 24), []⟩])
       .skip))
     (.seq
      (.reg [] [
        ⟨none, (some 25), .mov (.t 0), []⟩,
        ⟨none, (some 26), .nil (.t 25), []⟩,
        ⟨none, (some 27), .fldP 1 (.t 26), []⟩,
        ⟨none, (some 28), .ld 1 false (.t 27), []⟩,
        ⟨none, (some 29), .bin .add (.t 28) (.c (.int .i64 1)), []⟩,
        ⟨none, (some 30), .nil (.t 25), []⟩,
        ⟨none, (some 31), .fldP 1 (.t 30), []⟩,
        ⟨none, none, .st 1 (.t 31) (.t 29), []⟩])
      (.seq
       (.reg [] [
         ⟨none, (some 32), .mov (.t 0), []⟩,
         ⟨none, (some 33), .mov (.t 0), []⟩,
         ⟨none, (some 34), .nil (.t 33), []⟩,
         ⟨none, (some 35), .fldP 2 (.t 34), []⟩,
         ⟨none, (some 36), .ld 1 false (.t 35), []⟩,
         ⟨none, (some 37), .bin .mul (.t 36) (.c (.int .u64 6364136223846793005)), []⟩,
         ⟨none, (some 38), .mov (.t 3), []⟩,
         ⟨none, (some 39), .conv .u64 (.t 38), []⟩,
         ⟨none, (some 40), .bin .add (.t 37) (.t 39), []⟩,
         ⟨none, (some 41), .bin .add (.t 40) (.c (.int .u64 1442695040888963407)), []⟩,
         ⟨none, (some 42), .nil (.t 32), []⟩,
         ⟨none, (some 43), .fldP 2 (.t 42), []⟩,
         ⟨none, none, .st 1 (.t 43) (.t 41), []⟩])
       (.seq
        (.seq
         (.reg [53] [
           ⟨none, (some 44), .mov (.t 0), []⟩,
           ⟨none, (some 45), .nil (.t 44), []⟩,
           ⟨none, (some 46), .fldP 1 (.t 45), []⟩,
           ⟨none, (some 47), .ld 1 false (.t 46), []⟩,
           ⟨none, (some 48), .mov (.t 0), []⟩,
           ⟨none, (some 49), .nil (.t 48), []⟩,
           ⟨none, (some 50), .fldP 0 (.t 49), []⟩,
           ⟨none, (some 51), .ld 1 false (.t 50), []⟩,
           ⟨none, (some 52), .len (.t 51), []⟩,
           ⟨none, (some 53), .bin .leq (.t 47) (.t 52), []⟩])
         (.cond (.t 53)
          (.seq
           (.reg [2] [
             ⟨none, (some 54), .mov (.t 3), []⟩,
             ⟨none, (some 2), .mov (.t 54), []⟩])
           .ret)
          .skip))
        (.seq
         (.reg [2] [
           ⟨none, (some 55), .mov (.t 0), []⟩,
           ⟨none, (some 56), .nil (.t 55), []⟩,
           ⟨none, (some 57), .fldP 2 (.t 56), []⟩,
           ⟨none, (some 58), .ld 1 false (.t 57), []⟩,
           ⟨none, (some 59), .bin .shr (.t 58) (.c (.int .u64 40)), []⟩,
           ⟨none, (some 60), .bin .and (.t 59) (.c (.int .u64 255)), []⟩,
           ⟨none, (some 61), .conv .i64 (.t 60), []⟩,
           ⟨none, (some 2), .mov (.t 61), []⟩])
         .ret)))))))
def c550 : Fn := { np := 1, nt := 62, kind := .args, res := [.t 2], body := k550 }

/- slices.stableCmpFunc[impl.Move] -/
def b565_1 : Cd :=
  (.seq
   (.seq
    (.reg [13] [
      ⟨none, (some 11), .mov (.t 8), []⟩,
      ⟨none, (some 12), .mov (.t 1), []⟩,
      ⟨none, (some 13), .bin .leq (.t 11) (.t 12), []⟩])
    (.cond (.t 13)
     .skip
     (.exit 0)))
   (.block 1
    (.seq
     (.reg [] [
       ⟨none, (some 14), .mov (.t 0), []⟩,
       ⟨none, (some 15), .mov (.t 7), []⟩,
       ⟨none, (some 16), .mov (.t 8), []⟩,
       ⟨none, (some 17), .mov (.t 2), []⟩,
       ⟨none, (some 18), .call false 589 [.t 14, .t 15, .t 16, .t 17], []⟩])
     (.seq
      (.reg [7] [
        ⟨none, (some 19), .mov (.t 8), []⟩,
        ⟨none, (some 7), .mov (.t 19), []⟩])
      (.reg [8] [
        ⟨none, (some 20), .mov (.t 8), []⟩,
        ⟨none, (some 21), .mov (.t 6), []⟩,
        ⟨none, (some 22), .bin .add (.t 20) (.t 21), []⟩,
        ⟨none, (some 8), .mov (.t 22), []⟩])))))
def b565_2 : Cd :=
  (.seq
   (.seq
    (.reg [35] [
      ⟨none, (some 33), .mov (.t 8), []⟩,
      ⟨none, (some 34), .mov (.t 1), []⟩,
      ⟨none, (some 35), .bin .leq (.t 33) (.t 34), []⟩])
    (.cond (.t 35)
     .skip
     (.exit 4)))
   (.block 5
    (.seq
     (.reg [] [
       ⟨none, (some 36), .mov (.t 0), []⟩,
       ⟨none, (some 37), .mov (.t 7), []⟩,
       ⟨none, (some 38), .mov (.t 7), []⟩,
       ⟨none, (some 39), .mov (.t 6), []⟩,
       ⟨none, (some 40), .bin .add (.t 38) (.t 39), []⟩,
       ⟨none, (some 41), .mov (.t 8), []⟩,
       ⟨none, (some 42), .mov (.t 2), []⟩,
       ⟨none, (some 43), .call false 590 [.t 36, .t 37, .t 40, .t 41, .t 42], []⟩])
     (.seq
      (.reg [7] [
        ⟨none, (some 44), .mov (.t 8), []⟩,
        ⟨none, (some 7), .mov (.t 44), []⟩])
      (.reg [8] [
        ⟨none, (some 45), .mov (.t 8), []⟩,
        ⟨none, (some 46), .mov (.t 6), []⟩,
        ⟨none, (some 47), .bin .mul (.c (.int .i64 2)) (.t 46), []⟩,
        ⟨none, (some 48), .bin .add (.t 45) (.t 47), []⟩,
        ⟨none, (some 8), .mov (.t 48), []⟩])))))
def b565_3 : Cd :=
  (.seq
   (.seq
    (.reg [30] [
      ⟨none, (some 28), .mov (.t 6), []⟩,
      ⟨none, (some 29), .mov (.t 1), []⟩,
      ⟨none, (some 30), .bin .lss (.t 28) (.t 29), []⟩])
    (.cond (.t 30)
     .skip
     (.exit 2)))
   (.block 3
    (.seq
     (.reg [7, 8] [
       ⟨none, (some 31), .mov (.t 6), []⟩,
       ⟨none, (some 32), .bin .mul (.c (.int .i64 2)) (.t 31), []⟩,
       ⟨none, (some 7), .mov (.c (.int .i64 0)), []⟩,
       ⟨none, (some 8), .mov (.t 32), []⟩])
     (.seq
      (.block 4
       (.loop b565_2))
      (.seq
       (.seq
        (.reg [9] [
          ⟨none, (some 49), .mov (.t 7), []⟩,
          ⟨none, (some 50), .mov (.t 6), []⟩,
          ⟨none, (some 51), .bin .add (.t 49) (.t 50), []⟩,
          ⟨none, (some 9), .mov (.t 51), []⟩])
        (.seq
         (.reg [54] [
           ⟨none, (some 52), .mov (.t 9), []⟩,
           ⟨none, (some 53), .mov (.t 1), []⟩,
           ⟨none, (some 54), .bin .lss (.t 52) (.t 53), []⟩])
         (.cond (.t 54)
          (.reg [] [
            ⟨none, (some 55), .mov (.t 0), []⟩,
            ⟨none, (some 56), .mov (.t 7), []⟩,
            ⟨none, (some 57), .mov (.t 9), []⟩,
            ⟨none, (some 58), .mov (.t 1), []⟩,
            ⟨none, (some 59), .mov (.t 2), []⟩,
            ⟨none, (some 60), .call false 590 [.t 55, .t 56, .t 57, .t 58, .t 59], []⟩])
          .skip)))
       (.reg [6] [
         ⟨none, (some 61), .mov (.t 6), []⟩,
         ⟨none, (some 62), .bin .mul (.t 61) (.c (.int .i64 2)), []⟩,
         ⟨none, (some 6), .mov (.t 62), []⟩]))))))
def k565 : Cd :=
  (.seq
   (.reg [6] [
     ⟨none, (some 6), .mov (.c (.int .i64 20)), []⟩])
   (.seq
    (.reg [7, 8] [
      ⟨none, (some 10), .mov (.t 6), []⟩,
      ⟨none, (some 7), .mov (.c (.int .i64 0)), []⟩,
      ⟨none, (some 8), .mov (.t 10), []⟩])
    (.seq
     (.block 0
      (.loop b565_1))
     (.seq
      (.reg [] [
        ⟨none, (some 23), .mov (.t 0), []⟩,
        ⟨none, (some 24), .mov (.t 7), []⟩,
        ⟨none, (some 25), .mov (.t 1), []⟩,
        ⟨none, (some 26), .mov (.t 2), []⟩,
        ⟨none, (some 27), .call false 589 [.t 23, .t 24, .t 25, .t 26], []⟩])
      (.block 2
       (.loop b565_3))))))
def c565 : Fn := { np := 3, nt := 63, kind := .args, res := [], body := k565 }

/- cmp.isNaN[int64] -/
def k566 : Cd :=
  (.seq
   (.reg [2] [
     ⟨none, (some 2), .mov (.c (.bool false)), []⟩])
   (.seq
    (.reg [2] [
      ⟨none, (some 3), .mov (.t 0), []⟩,
      ⟨none, (some 4), .mov (.t 0), []⟩,
      ⟨none, (some 5), .bin .neq (.t 3) (.t 4), []⟩,
      ⟨none, (some 2), .mov (.t 5), []⟩])
    .ret))
def c566 : Fn := { np := 1, nt := 6, kind := .pure, res := [.t 2], body := k566 }

/- slices.insertionSortCmpFunc[impl.Move] -/
def b589_1 : Cd :=
  (.seq
   (.seq
    (.reg [34] [
      ⟨none, (some 18), .mov (.t 9), []⟩,
      ⟨none, (some 19), .mov (.t 1), []⟩,
      ⟨none, (some 20), .bin .gtr (.t 18) (.t 19), []⟩,
      ⟨none, (some 21), .mov (.t 20), []⟩,
      ⟨(some (21, true)), (some 22), .mov (.t 3), []⟩,
      ⟨(some (21, true)), (some 23), .mov (.t 0), []⟩,
      ⟨(some (21, true)), (some 24), .mov (.t 9), []⟩,
      ⟨(some (21, true)), (some 25), .idxA 2 (.t 23) (.t 24), []⟩,
      ⟨(some (21, true)), (some 26), .ld 2 true (.t 25), []⟩,
      ⟨(some (21, true)), (some 27), .mov (.t 0), []⟩,
      ⟨(some (21, true)), (some 28), .mov (.t 9), []⟩,
      ⟨(some (21, true)), (some 29), .bin .sub (.t 28) (.c (.int .i64 1)), []⟩,
      ⟨(some (21, true)), (some 30), .idxA 2 (.t 27) (.t 29), []⟩,
      ⟨(some (21, true)), (some 31), .ld 2 true (.t 30), []⟩,
      ⟨(some (21, true)), (some 32), .callv (.t 22) [.t 26, .t 31], []⟩,
      ⟨(some (21, true)), (some 33), .bin .lss (.t 32) (.c (.int .i64 0)), []⟩,
      ⟨none, (some 34), .pick (.t 21) (.t 33) (.c (.bool false)), []⟩])
    (.cond (.t 34)
     .skip
     (.exit 2)))
   (.seq
    (.block 3
     (.reg [] [
       ⟨none, (some 37), .mov (.t 0), []⟩,
       ⟨none, (some 38), .mov (.t 9), []⟩,
       ⟨none, (some 39), .mov (.t 0), []⟩,
       ⟨none, (some 40), .mov (.t 9), []⟩,
       ⟨none, (some 41), .bin .sub (.t 40) (.c (.int .i64 1)), []⟩,
       ⟨none, (some 42), .mov (.t 0), []⟩,
       ⟨none, (some 43), .mov (.t 9), []⟩,
       ⟨none, (some 44), .bin .sub (.t 43) (.c (.int .i64 1)), []⟩,
       ⟨none, (some 45), .idxA 2 (.t 42) (.t 44), []⟩,
       ⟨none, (some 46), .ld 2 true (.t 45), []⟩,
       ⟨none, (some 47), .mov (.t 0), []⟩,
       ⟨none, (some 48), .mov (.t 9), []⟩,
       ⟨none, (some 49), .idxA 2 (.t 47) (.t 48), []⟩,
       ⟨none, (some 50), .ld 2 true (.t 49), []⟩,
       ⟨none, (some 51), .idxA 2 (.t 37) (.t 38), []⟩,
       ⟨none, none, .st 2 (.t 51) (.t 46), []⟩,
       ⟨none, (some 52), .idxA 2 (.t 39) (.t 41), []⟩,
       ⟨none, none, .st 2 (.t 52) (.t 50), []⟩]))
    (.reg [9] [
      ⟨none, (some 35), .mov (.t 9), []⟩,
      ⟨none, (some 36), .bin .sub (.t 35) (.c (.int .i64 1)), []⟩,
      ⟨none, (some 9), .mov (.t 36), []⟩])))
def b589_2 : Cd :=
  (.seq
   (.seq
    (.reg [14] [
      ⟨none, (some 12), .mov (.t 8), []⟩,
      ⟨none, (some 13), .mov (.t 2), []⟩,
      ⟨none, (some 14), .bin .lss (.t 12) (.t 13), []⟩])
    (.cond (.t 14)
     .skip
     (.exit 0)))
   (.seq
    (.block 1
     (.seq
      (.reg [9] [
        ⟨none, (some 17), .mov (.t 8), []⟩,
        ⟨none, (some 9), .mov (.t 17), []⟩])
      (.block 2
       (.loop b589_1))))
    (.reg [8] [
      ⟨none, (some 15), .mov (.t 8), []⟩,
      ⟨none, (some 16), .bin .add (.t 15) (.c (.int .i64 1)), []⟩,
      ⟨none, (some 8), .mov (.t 16), []⟩])))
def k589 : Cd :=
  (.seq
   (.reg [8] [
     ⟨none, (some 10), .mov (.t 1), []⟩,
     ⟨none, (some 11), .bin .add (.t 10) (.c (.int .i64 1)), []⟩,
     ⟨none, (some 8), .mov (.t 11), []⟩])
   (.block 0
    (.loop b589_2)))
def c589 : Fn := { np := 4, nt := 53, kind := .args, res := [], body := k589 }

/- slices.symMergeCmpFunc[impl.Move] -/
def b590_1 : Cd :=
  (.seq
   (.seq
    (.reg [33] [
      ⟨none, (some 31), .mov (.t 10), []⟩,
      ⟨none, (some 32), .mov (.t 11), []⟩,
      ⟨none, (some 33), .bin .lss (.t 31) (.t 32), []⟩])
    (.cond (.t 33)
     .skip
     (.exit 0)))
   (.block 1
    (.seq
     (.reg [12] [
       ⟨none, (some 34), .mov (.t 10), []⟩,
       ⟨none, (some 35), .mov (.t 11), []⟩,
       ⟨none, (some 36), .bin .add (.t 34) (.t 35), []⟩,
       ⟨none, (some 37), .conv .u64 (.t 36), []⟩,
       ⟨none, (some 38), .bin .shr (.t 37) (.c (.int .u64 1)), []⟩,
       ⟨none, (some 39), .conv .i64 (.t 38), []⟩,
       ⟨none, (some 12), .mov (.t 39), []⟩])
     (.seq
      (.reg [50] [
        ⟨none, (some 40), .mov (.t 4), []⟩,
        ⟨none, (some 41), .mov (.t 0), []⟩,
        ⟨none, (some 42), .mov (.t 12), []⟩,
        ⟨none, (some 43), .idxA 2 (.t 41) (.t 42), []⟩,
        ⟨none, (some 44), .ld 2 true (.t 43), []⟩,
        ⟨none, (some 45), .mov (.t 0), []⟩,
        ⟨none, (some 46), .mov (.t 1), []⟩,
        ⟨none, (some 47), .idxA 2 (.t 45) (.t 46), []⟩,
        ⟨none, (some 48), .ld 2 true (.t 47), []⟩,
        ⟨none, (some 49), .callv (.t 40) [.t 44, .t 48], []⟩,
        ⟨none, (some 50), .bin .lss (.t 49) (.c (.int .i64 0)), []⟩])
      (.cond (.t 50)
       (.reg [10] [
         ⟨none, (some 51), .mov (.t 12), []⟩,
         ⟨none, (some 52), .bin .add (.t 51) (.c (.int .i64 1)), []⟩,
         ⟨none, (some 10), .mov (.t 52), []⟩])
       (.reg [11] [
         ⟨none, (some 53), .mov (.t 12), []⟩,
         ⟨none, (some 11), .mov (.t 53), []⟩]))))))
def b590_2 : Cd :=
  (.seq
   (.seq
    (.reg [58] [
      ⟨none, (some 55), .mov (.t 13), []⟩,
      ⟨none, (some 56), .mov (.t 10), []⟩,
      ⟨none, (some 57), .bin .sub (.t 56) (.c (.int .i64 1)), []⟩,
      ⟨none, (some 58), .bin .lss (.t 55) (.t 57), []⟩])
    (.cond (.t 58)
     .skip
     (.exit 2)))
   (.seq
    (.block 3
     (.reg [] [
       ⟨none, (some 61), .mov (.t 0), []⟩,
       ⟨none, (some 62), .mov (.t 13), []⟩,
       ⟨none, (some 63), .mov (.t 0), []⟩,
       ⟨none, (some 64), .mov (.t 13), []⟩,
       ⟨none, (some 65), .bin .add (.t 64) (.c (.int .i64 1)), []⟩,
       ⟨none, (some 66), .mov (.t 0), []⟩,
       ⟨none, (some 67), .mov (.t 13), []⟩,
       ⟨none, (some 68), .bin .add (.t 67) (.c (.int .i64 1)), []⟩,
       ⟨none, (some 69), .idxA 2 (.t 66) (.t 68), []⟩,
       ⟨none, (some 70), .ld 2 true (.t 69), []⟩,
       ⟨none, (some 71), .mov (.t 0), []⟩,
       ⟨none, (some 72), .mov (.t 13), []⟩,
       ⟨none, (some 73), .idxA 2 (.t 71) (.t 72), []⟩,
       ⟨none, (some 74), .ld 2 true (.t 73), []⟩,
       ⟨none, (some 75), .idxA 2 (.t 61) (.t 62), []⟩,
       ⟨none, none, .st 2 (.t 75) (.t 70), []⟩,
       ⟨none, (some 76), .idxA 2 (.t 63) (.t 65), []⟩,
       ⟨none, none, .st 2 (.t 76) (.t 74), []⟩]))
    (.reg [13] [
      ⟨none, (some 59), .mov (.t 13), []⟩,
      ⟨none, (some 60), .bin .add (.t 59) (.c (.int .i64 1)), []⟩,
      ⟨none, (some 13), .mov (.t 60), []⟩])))
def b590_3 : Cd :=
  (.seq
   (.seq
    (.reg [85] [
      ⟨none, (some 83), .mov (.t 14), []⟩,
      ⟨none, (some 84), .mov (.t 15), []⟩,
      ⟨none, (some 85), .bin .lss (.t 83) (.t 84), []⟩])
    (.cond (.t 85)
     .skip
     (.exit 4)))
   (.block 5
    (.seq
     (.reg [16] [
       ⟨none, (some 86), .mov (.t 14), []⟩,
       ⟨none, (some 87), .mov (.t 15), []⟩,
       ⟨none, (some 88), .bin .add (.t 86) (.t 87), []⟩,
       ⟨none, (some 89), .conv .u64 (.t 88), []⟩,
       ⟨none, (some 90), .bin .shr (.t 89) (.c (.int .u64 1)), []⟩,
       ⟨none, (some 91), .conv .i64 (.t 90), []⟩,
       ⟨none, (some 16), .mov (.t 91), []⟩])
     (.seq
      (.reg [103] [
        ⟨none, (some 92), .mov (.t 4), []⟩,
        ⟨none, (some 93), .mov (.t 0), []⟩,
        ⟨none, (some 94), .mov (.t 2), []⟩,
        ⟨none, (some 95), .idxA 2 (.t 93) (.t 94), []⟩,
        ⟨none, (some 96), .ld 2 true (.t 95), []⟩,
        ⟨none, (some 97), .mov (.t 0), []⟩,
        ⟨none, (some 98), .mov (.t 16), []⟩,
        ⟨none, (some 99), .idxA 2 (.t 97) (.t 98), []⟩,
        ⟨none, (some 100), .ld 2 true (.t 99), []⟩,
        ⟨none, (some 101), .callv (.t 92) [.t 96, .t 100], []⟩,
        ⟨none, (some 102), .bin .lss (.t 101) (.c (.int .i64 0)), []⟩,
        ⟨none, (some 103), .un .not (.t 102), []⟩])
      (.cond (.t 103)
       (.reg [14] [
         ⟨none, (some 104), .mov (.t 16), []⟩,
         ⟨none, (some 105), .bin .add (.t 104) (.c (.int .i64 1)), []⟩,
         ⟨none, (some 14), .mov (.t 105), []⟩])
       (.reg [15] [
         ⟨none, (some 106), .mov (.t 16), []⟩,
         ⟨none, (some 15), .mov (.t 106), []⟩]))))))
def b590_4 : Cd :=
  (.seq
   (.seq
    (.reg [110] [
      ⟨none, (some 108), .mov (.t 17), []⟩,
      ⟨none, (some 109), .mov (.t 14), []⟩,
      ⟨none, (some 110), .bin .gtr (.t 108) (.t 109), []⟩])
    (.cond (.t 110)
     .skip
     (.exit 6)))
   (.seq
    (.block 7
     (.reg [] [
       ⟨none, (some 113), .mov (.t 0), []⟩,
       ⟨none, (some 114), .mov (.t 17), []⟩,
       ⟨none, (some 115), .mov (.t 0), []⟩,
       ⟨none, (some 116), .mov (.t 17), []⟩,
       ⟨none, (some 117), .bin .sub (.t 116) (.c (.int .i64 1)), []⟩,
       ⟨none, (some 118), .mov (.t 0), []⟩,
       ⟨none, (some 119), .mov (.t 17), []⟩,
       ⟨none, (some 120), .bin .sub (.t 119) (.c (.int .i64 1)), []⟩,
       ⟨none, (some 121), .idxA 2 (.t 118) (.t 120), []⟩,
       ⟨none, (some 122), .ld 2 true (.t 121), []⟩,
       ⟨none, (some 123), .mov (.t 0), []⟩,
       ⟨none, (some 124), .mov (.t 17), []⟩,
       ⟨none, (some 125), .idxA 2 (.t 123) (.t 124), []⟩,
       ⟨none, (some 126), .ld 2 true (.t 125), []⟩,
       ⟨none, (some 127), .idxA 2 (.t 113) (.t 114), []⟩,
       ⟨none, none, .st 2 (.t 127) (.t 122), []⟩,
       ⟨none, (some 128), .idxA 2 (.t 115) (.t 117), []⟩,
       ⟨none, none, .st 2 (.t 128) (.t 126), []⟩]))
    (.reg [17] [
      ⟨none, (some 111), .mov (.t 17), []⟩,
      ⟨none, (some 112), .bin .sub (.t 111) (.c (.int .i64 1)), []⟩,
      ⟨none, (some 17), .mov (.t 112), []⟩])))
def b590_5 : Cd :=
  (.seq
   (.seq
    (.reg [151] [
      ⟨none, (some 149), .mov (.t 20), []⟩,
      ⟨none, (some 150), .mov (.t 21), []⟩,
      ⟨none, (some 151), .bin .lss (.t 149) (.t 150), []⟩])
    (.cond (.t 151)
     .skip
     (.exit 8)))
   (.block 9
    (.seq
     (.reg [23] [
       ⟨none, (some 152), .mov (.t 20), []⟩,
       ⟨none, (some 153), .mov (.t 21), []⟩,
       ⟨none, (some 154), .bin .add (.t 152) (.t 153), []⟩,
       ⟨none, (some 155), .conv .u64 (.t 154), []⟩,
       ⟨none, (some 156), .bin .shr (.t 155) (.c (.int .u64 1)), []⟩,
       ⟨none, (some 157), .conv .i64 (.t 156), []⟩,
       ⟨none, (some 23), .mov (.t 157), []⟩])
     (.seq
      (.reg [171] [
        ⟨none, (some 158), .mov (.t 4), []⟩,
        ⟨none, (some 159), .mov (.t 0), []⟩,
        ⟨none, (some 160), .mov (.t 22), []⟩,
        ⟨none, (some 161), .mov (.t 23), []⟩,
        ⟨none, (some 162), .bin .sub (.t 160) (.t 161), []⟩,
        ⟨none, (some 163), .idxA 2 (.t 159) (.t 162), []⟩,
        ⟨none, (some 164), .ld 2 true (.t 163), []⟩,
        ⟨none, (some 165), .mov (.t 0), []⟩,
        ⟨none, (some 166), .mov (.t 23), []⟩,
        ⟨none, (some 167), .idxA 2 (.t 165) (.t 166), []⟩,
        ⟨none, (some 168), .ld 2 true (.t 167), []⟩,
        ⟨none, (some 169), .callv (.t 158) [.t 164, .t 168], []⟩,
        ⟨none, (some 170), .bin .lss (.t 169) (.c (.int .i64 0)), []⟩,
        ⟨none, (some 171), .un .not (.t 170), []⟩])
      (.cond (.t 171)
       (.reg [20] [
         ⟨none, (some 172), .mov (.t 23), []⟩,
         ⟨none, (some 173), .bin .add (.t 172) (.c (.int .i64 1)), []⟩,
         ⟨none, (some 20), .mov (.t 173), []⟩])
       (.reg [21] [
         ⟨none, (some 174), .mov (.t 23), []⟩,
         ⟨none, (some 21), .mov (.t 174), []⟩]))))))
def k590 : Cd :=
  (.seq
   (.seq
    (.reg [28] [
      ⟨none, (some 25), .mov (.t 2), []⟩,
      ⟨none, (some 26), .mov (.t 1), []⟩,
      ⟨none, (some 27), .bin .sub (.t 25) (.t 26), []⟩,
      ⟨none, (some 28), .bin .eql (.t 27) (.c (.int .i64 1)), []⟩])
    (.cond (.t 28)
     (.seq
      (.reg [10] [
        ⟨none, (some 29), .mov (.t 2), []⟩,
        ⟨none, (some 10), .mov (.t 29), []⟩])
      (.seq
       (.reg [11] [
         ⟨none, (some 30), .mov (.t 3), []⟩,
         ⟨none, (some 11), .mov (.t 30), []⟩])
       (.seq
        (.block 0
         (.loop b590_1))
        (.seq
         (.seq
          (.reg [13] [
            ⟨none, (some 54), .mov (.t 1), []⟩,
            ⟨none, (some 13), .mov (.t 54), []⟩])
          (.block 2
           (.loop b590_2)))
         .ret))))
     .skip))
   (.seq
    (.seq
     (.reg [80] [
       ⟨none, (some 77), .mov (.t 3), []⟩,
       ⟨none, (some 78), .mov (.t 2), []⟩,
       ⟨none, (some 79), .bin .sub (.t 77) (.t 78), []⟩,
       ⟨none, (some 80), .bin .eql (.t 79) (.c (.int .i64 1)), []⟩])
     (.cond (.t 80)
      (.seq
       (.reg [14] [
         ⟨none, (some 81), .mov (.t 1), []⟩,
         ⟨none, (some 14), .mov (.t 81), []⟩])
       (.seq
        (.reg [15] [
          ⟨none, (some 82), .mov (.t 2), []⟩,
          ⟨none, (some 15), .mov (.t 82), []⟩])
        (.seq
         (.block 4
          (.loop b590_3))
         (.seq
          (.seq
           (.reg [17] [
             ⟨none, (some 107), .mov (.t 2), []⟩,
             ⟨none, (some 17), .mov (.t 107), []⟩])
           (.block 6
            (.loop b590_4)))
          .ret))))
      .skip))
    (.seq
     (.reg [18] [
       ⟨none, (some 129), .mov (.t 1), []⟩,
       ⟨none, (some 130), .mov (.t 3), []⟩,
       ⟨none, (some 131), .bin .add (.t 129) (.t 130), []⟩,
       ⟨none, (some 132), .conv .u64 (.t 131), []⟩,
       ⟨none, (some 133), .bin .shr (.t 132) (.c (.int .u64 1)), []⟩,
       ⟨none, (some 134), .conv .i64 (.t 133), []⟩,
       ⟨none, (some 18), .mov (.t 134), []⟩])
     (.seq
      (.reg [19] [
        ⟨none, (some 135), .mov (.t 18), []⟩,
        ⟨none, (some 136), .mov (.t 2), []⟩,
        ⟨none, (some 137), .bin .add (.t 135) (.t 136), []⟩,
        ⟨none, (some 19), .mov (.t 137), []⟩])
      (.seq
       (.reg [20, 21] [
         ⟨none, (some 20), .mov (.c (.int .i64 0)), []⟩,
         ⟨none, (some 21), .mov (.c (.int .i64 0)), []⟩])
       (.seq
        (.seq
         (.reg [140] [
           ⟨none, (some 138), .mov (.t 2), []⟩,
           ⟨none, (some 139), .mov (.t 18), []⟩,
           ⟨none, (some 140), .bin .gtr (.t 138) (.t 139), []⟩])
         (.cond (.t 140)
          (.seq
           (.reg [20] [
             ⟨none, (some 141), .mov (.t 19), []⟩,
             ⟨none, (some 142), .mov (.t 3), []⟩,
             ⟨none, (some 143), .bin .sub (.t 141) (.t 142), []⟩,
             ⟨none, (some 20), .mov (.t 143), []⟩])
           (.reg [21] [
             ⟨none, (some 144), .mov (.t 18), []⟩,
             ⟨none, (some 21), .mov (.t 144), []⟩]))
          (.seq
           (.reg [20] [
             ⟨none, (some 145), .mov (.t 1), []⟩,
             ⟨none, (some 20), .mov (.t 145), []⟩])
           (.reg [21] [
             ⟨none, (some 146), .mov (.t 2), []⟩,
             ⟨none, (some 21), .mov (.t 146), []⟩]))))
        (.seq
         (.reg [22] [
           ⟨none, (some 147), .mov (.t 19), []⟩,
           ⟨none, (some 148), .bin .sub (.t 147) (.c (.int .i64 1)), []⟩,
           ⟨none, (some 22), .mov (.t 148), []⟩])
         (.seq
          (.block 8
           (.loop b590_5))
          (.seq
           (.reg [24] [
             ⟨none, (some 175), .mov (.t 19), []⟩,
             ⟨none, (some 176), .mov (.t 20), []⟩,
             ⟨none, (some 177), .bin .sub (.t 175) (.t 176), []⟩,
             ⟨none, (some 24), .mov (.t 177), []⟩])
           (.seq
            (.seq
             (.reg [185] [
               ⟨none, (some 178), .mov (.t 20), []⟩,
               ⟨none, (some 179), .mov (.t 2), []⟩,
               ⟨none, (some 180), .bin .lss (.t 178) (.t 179), []⟩,
               ⟨none, (some 181), .mov (.t 180), []⟩,
               ⟨(some (181, true)), (some 182), .mov (.t 2), []⟩,
               ⟨(some (181, true)), (some 183), .mov (.t 24), []⟩,
               ⟨(some (181, true)), (some 184), .bin .lss (.t 182) (.t 183), []⟩,
               ⟨none, (some 185), .pick (.t 181) (.t 184) (.c (.bool false)), []⟩])
             (.cond (.t 185)
              (.reg [] [
                ⟨none, (some 186), .mov (.t 0), []⟩,
                ⟨none, (some 187), .mov (.t 20), []⟩,
                ⟨none, (some 188), .mov (.t 2), []⟩,
                ⟨none, (some 189), .mov (.t 24), []⟩,
                ⟨none, (some 190), .mov (.t 4), []⟩,
                ⟨none, (some 191), .call false 610 [.t 186, .t 187, .t 188, .t 189, .t 190], []⟩])
              .skip))
            (.seq
             (.seq
              (.reg [199] [
                ⟨none, (some 192), .mov (.t 1), []⟩,
                ⟨none, (some 193), .mov (.t 20), []⟩,
                ⟨none, (some 194), .bin .lss (.t 192) (.t 193), []⟩,
                ⟨none, (some 195), .mov (.t 194), []⟩,
                ⟨(some (195, true)), (some 196), .mov (.t 20), []⟩,
                ⟨(some (195, true)), (some 197), .mov (.t 18), []⟩,
                ⟨(some (195, true)), (some 198), .bin .lss (.t 196) (.t 197), []⟩,
                ⟨none, (some 199), .pick (.t 195) (.t 198) (.c (.bool false)), []⟩])
              (.cond (.t 199)
               (.reg [] [
                 ⟨none, (some 200), .mov (.t 0), []⟩,
                 ⟨none, (some 201), .mov (.t 1), []⟩,
                 ⟨none, (some 202), .mov (.t 20), []⟩,
                 ⟨none, (some 203), .mov (.t 18), []⟩,
                 ⟨none, (some 204), .mov (.t 4), []⟩,
                 ⟨none, (some 205), .call false 590 [.t 200, .t 201, .t 202, .t 203, .t 204], []⟩])
               .skip))
             (.seq
              (.reg [213] [
                ⟨none, (some 206), .mov (.t 18), []⟩,
                ⟨none, (some 207), .mov (.t 24), []⟩,
                ⟨none, (some 208), .bin .lss (.t 206) (.t 207), []⟩,
                ⟨none, (some 209), .mov (.t 208), []⟩,
                ⟨(some (209, true)), (some 210), .mov (.t 24), []⟩,
                ⟨(some (209, true)), (some 211), .mov (.t 3), []⟩,
                ⟨(some (209, true)), (some 212), .bin .lss (.t 210) (.t 211), []⟩,
                ⟨none, (some 213), .pick (.t 209) (.t 212) (.c (.bool false)), []⟩])
              (.cond (.t 213)
               (.reg [] [
                 ⟨none, (some 214), .mov (.t 0), []⟩,
                 ⟨none, (some 215), .mov (.t 18), []⟩,
                 ⟨none, (some 216), .mov (.t 24), []⟩,
                 ⟨none, (some 217), .mov (.t 3), []⟩,
                 ⟨none, (some 218), .mov (.t 4), []⟩,
                 ⟨none, (some 219), .call false 590 [.t 214, .t 215, .t 216, .t 217, .t 218], []⟩])
               .skip)))))))))))))
def c590 : Fn := { np := 5, nt := 220, kind := .args, res := [], body := k590 }

/- slices.rotateCmpFunc[impl.Move] -/
def b610_1 : Cd :=
  (.seq
   (.seq
    (.reg [20] [
      ⟨none, (some 18), .mov (.t 10), []⟩,
      ⟨none, (some 19), .mov (.t 11), []⟩,
      ⟨none, (some 20), .bin .neq (.t 18) (.t 19), []⟩])
    (.cond (.t 20)
     .skip
     (.exit 0)))
   (.block 1
    (.seq
     (.reg [23] [
       ⟨none, (some 21), .mov (.t 10), []⟩,
       ⟨none, (some 22), .mov (.t 11), []⟩,
       ⟨none, (some 23), .bin .gtr (.t 21) (.t 22), []⟩])
     (.cond (.t 23)
      (.seq
       (.reg [] [
         ⟨none, (some 24), .mov (.t 0), []⟩,
         ⟨none, (some 25), .mov (.t 2), []⟩,
         ⟨none, (some 26), .mov (.t 10), []⟩,
         ⟨none, (some 27), .bin .sub (.t 25) (.t 26), []⟩,
         ⟨none, (some 28), .mov (.t 2), []⟩,
         ⟨none, (some 29), .mov (.t 11), []⟩,
         ⟨none, (some 30), .mov (.t 4), []⟩,
         ⟨none, (some 31), .call false 624 [.t 24, .t 27, .t 28, .t 29, .t 30], []⟩])
       (.reg [10] [
         ⟨none, (some 32), .mov (.t 10), []⟩,
         ⟨none, (some 33), .mov (.t 11), []⟩,
         ⟨none, (some 34), .bin .sub (.t 32) (.t 33), []⟩,
         ⟨none, (some 10), .mov (.t 34), []⟩]))
      (.seq
       (.reg [] [
         ⟨none, (some 35), .mov (.t 0), []⟩,
         ⟨none, (some 36), .mov (.t 2), []⟩,
         ⟨none, (some 37), .mov (.t 10), []⟩,
         ⟨none, (some 38), .bin .sub (.t 36) (.t 37), []⟩,
         ⟨none, (some 39), .mov (.t 2), []⟩,
         ⟨none, (some 40), .mov (.t 11), []⟩,
         ⟨none, (some 41), .bin .add (.t 39) (.t 40), []⟩,
         ⟨none, (some 42), .mov (.t 10), []⟩,
         ⟨none, (some 43), .bin .sub (.t 41) (.t 42), []⟩,
         ⟨none, (some 44), .mov (.t 10), []⟩,
         ⟨none, (some 45), .mov (.t 4), []⟩,
         ⟨none, (some 46), .call false 624 [.t 35, .t 38, .t 43, .t 44, .t 45], []⟩])
       (.reg [11] [
         ⟨none, (some 47), .mov (.t 11), []⟩,
         ⟨none, (some 48), .mov (.t 10), []⟩,
         ⟨none, (some 49), .bin .sub (.t 47) (.t 48), []⟩,
         ⟨none, (some 11), .mov (.t 49), []⟩]))))))
def k610 : Cd :=
  (.seq
   (.reg [10] [
     ⟨none, (some 12), .mov (.t 2), []⟩,
     ⟨none, (some 13), .mov (.t 1), []⟩,
     ⟨none, (some 14), .bin .sub (.t 12) (.t 13), []⟩,
     ⟨none, (some 10), .mov (.t 14), []⟩])
   (.seq
    (.reg [11] [
      ⟨none, (some 15), .mov (.t 3), []⟩,
      ⟨none, (some 16), .mov (.t 2), []⟩,
      ⟨none, (some 17), .bin .sub (.t 15) (.t 16), []⟩,
      ⟨none, (some 11), .mov (.t 17), []⟩])
    (.seq
     (.block 0
      (.loop b610_1))
     (.reg [] [
       ⟨none, (some 50), .mov (.t 0), []⟩,
       ⟨none, (some 51), .mov (.t 2), []⟩,
       ⟨none, (some 52), .mov (.t 10), []⟩,
       ⟨none, (some 53), .bin .sub (.t 51) (.t 52), []⟩,
       ⟨none, (some 54), .mov (.t 2), []⟩,
       ⟨none, (some 55), .mov (.t 10), []⟩,
       ⟨none, (some 56), .mov (.t 4), []⟩,
       ⟨none, (some 57), .call false 624 [.t 50, .t 53, .t 54, .t 55, .t 56], []⟩]))))
def c610 : Fn := { np := 5, nt := 58, kind := .args, res := [], body := k610 }

/- slices.swapRangeCmpFunc[impl.Move] -/
def b624_1 : Cd :=
  (.seq
   (.seq
    (.reg [13] [
      ⟨none, (some 11), .mov (.t 10), []⟩,
      ⟨none, (some 12), .mov (.t 3), []⟩,
      ⟨none, (some 13), .bin .lss (.t 11) (.t 12), []⟩])
    (.cond (.t 13)
     .skip
     (.exit 0)))
   (.seq
    (.block 1
     (.reg [] [
       ⟨none, (some 16), .mov (.t 0), []⟩,
       ⟨none, (some 17), .mov (.t 1), []⟩,
       ⟨none, (some 18), .mov (.t 10), []⟩,
       ⟨none, (some 19), .bin .add (.t 17) (.t 18), []⟩,
       ⟨none, (some 20), .mov (.t 0), []⟩,
       ⟨none, (some 21), .mov (.t 2), []⟩,
       ⟨none, (some 22), .mov (.t 10), []⟩,
       ⟨none, (some 23), .bin .add (.t 21) (.t 22), []⟩,
       ⟨none, (some 24), .mov (.t 0), []⟩,
       ⟨none, (some 25), .mov (.t 2), []⟩,
       ⟨none, (some 26), .mov (.t 10), []⟩,
       ⟨none, (some 27), .bin .add (.t 25) (.t 26), []⟩,
       ⟨none, (some 28), .idxA 2 (.t 24) (.t 27), []⟩,
       ⟨none, (some 29), .ld 2 true (.t 28), []⟩,
       ⟨none, (some 30), .mov (.t 0), []⟩,
       ⟨none, (some 31), .mov (.t 1), []⟩,
       ⟨none, (some 32), .mov (.t 10), []⟩,
       ⟨none, (some 33), .bin .add (.t 31) (.t 32), []⟩,
       ⟨none, (some 34), .idxA 2 (.t 30) (.t 33), []⟩,
       ⟨none, (some 35), .ld 2 true (.t 34), []⟩,
       ⟨none, (some 36), .idxA 2 (.t 16) (.t 19), []⟩,
       ⟨none, none, .st 2 (.t 36) (.t 29), []⟩,
       ⟨none, (some 37), .idxA 2 (.t 20) (.t 23), []⟩,
       ⟨none, none, .st 2 (.t 37) (.t 35), []⟩]))
    (.reg [10] [
      ⟨none, (some 14), .mov (.t 10), []⟩,
      ⟨none, (some 15), .bin .add (.t 14) (.c (.int .i64 1)), []⟩,
      ⟨none, (some 10), .mov (.t 15), []⟩])))
def k624 : Cd :=
  (.seq
   (.reg [10] [
     ⟨none, (some 10), .mov (.c (.int .i64 0)), []⟩])
   (.block 0
    (.loop b624_1)))
def c624 : Fn := { np := 5, nt := 38, kind := .args, res := [], body := k624 }


end Fb
