/- The functions of the law, in the small language. -/
import Derived.Test.YtimijcjjmeemeaaDen
set_option linter.unusedVariables false
set_option linter.unusedSimpArgs false
namespace Fb
open Go

/- laws.FnScenes -/
def b57_1 : Cd :=
  (.seq
   (.seq
    (.reg [236] [
      ⟨none, (some 235), .mov (.t 28), []⟩,
      ⟨none, (some 236), .bin .lss (.t 235) (.c (.int .i64 12)), []⟩])
    (.cond (.t 236)
     .skip
     (.exit 2)))
   (.seq
    (.block 3
     (.seq
      (.reg [29, 30] [
        ⟨none, (some 240), .mov (.t 5), []⟩,
        ⟨none, (some 241), .mov (.t 6), []⟩,
        ⟨none, (some 242), .mov (.t 7), []⟩,
        ⟨none, (some 243), .mov (.t 28), []⟩,
        ⟨none, (some 244), .mov (.t 27), []⟩,
        ⟨none, (some 245), .call true 282 [.t 240, .t 241, .t 242, .t 243, .t 244], []⟩,
        ⟨none, (some 239), .mov (.t 245), []⟩,
        ⟨none, (some 246), .ext (.t 239) 0, []⟩,
        ⟨none, (some 247), .ext (.t 239) 1, []⟩,
        ⟨none, (some 29), .mov (.t 246), []⟩,
        ⟨none, (some 30), .mov (.t 247), []⟩])
      (.seq
       (.reg [31, 32] [
         ⟨none, (some 249), .mov (.t 5), []⟩,
         ⟨none, (some 250), .mov (.t 6), []⟩,
         ⟨none, (some 251), .mov (.t 7), []⟩,
         ⟨none, (some 252), .mov (.t 28), []⟩,
         ⟨none, (some 253), .mov (.t 27), []⟩,
         ⟨none, (some 254), .call true 283 [.t 249, .t 250, .t 251, .t 252, .t 253], []⟩,
         ⟨none, (some 248), .mov (.t 254), []⟩,
         ⟨none, (some 255), .ext (.t 248) 0, []⟩,
         ⟨none, (some 256), .ext (.t 248) 1, []⟩,
         ⟨none, (some 31), .mov (.t 255), []⟩,
         ⟨none, (some 32), .mov (.t 256), []⟩])
       (.seq
        (.reg [33] [
          ⟨none, (some 257), .mov (.t 27), []⟩,
          ⟨none, (some 258), .adrI 10 none 12 1 (.t 257), []⟩,
          ⟨none, (some 259), .ldV 10 (some 258) 1 false, []⟩,
          ⟨none, (some 260), .mov (.t 28), []⟩,
          ⟨none, (some 261), .conv .u64 (.t 260), []⟩,
          ⟨none, (some 262), .bin .shr (.t 259) (.t 261), []⟩,
          ⟨none, (some 263), .bin .and (.t 262) (.c (.int .u16 1)), []⟩,
          ⟨none, (some 264), .bin .eql (.t 263) (.c (.int .u16 1)), []⟩,
          ⟨none, (some 33), .mov (.t 264), []⟩])
        (.seq
         (.reg [34] [
           ⟨none, (some 265), .mov (.t 27), []⟩,
           ⟨none, (some 266), .adrF 14 none 12, []⟩,
           ⟨none, (some 267), .adrI 14 (some 266) 12 1 (.t 265), []⟩,
           ⟨none, (some 268), .ldV 14 (some 267) 1 false, []⟩,
           ⟨none, (some 269), .mov (.t 28), []⟩,
           ⟨none, (some 270), .conv .u64 (.t 269), []⟩,
           ⟨none, (some 271), .bin .shr (.t 268) (.t 270), []⟩,
           ⟨none, (some 272), .bin .and (.t 271) (.c (.int .u16 1)), []⟩,
           ⟨none, (some 273), .bin .eql (.t 272) (.c (.int .u16 1)), []⟩,
           ⟨none, (some 34), .mov (.t 273), []⟩])
         (.seq
          (.seq
           (.reg [294] [
             ⟨none, (some 274), .mov (.t 30), []⟩,
             ⟨none, (some 275), .mov (.t 32), []⟩,
             ⟨none, (some 276), .bin .neq (.t 274) (.t 275), []⟩,
             ⟨none, (some 277), .mov (.t 276), []⟩,
             ⟨(some (277, false)), (some 278), .mov (.t 29), []⟩,
             ⟨(some (277, false)), (some 279), .mov (.t 31), []⟩,
             ⟨(some (277, false)), (some 280), .bin .neq (.t 278) (.t 279), []⟩,
             ⟨none, (some 281), .pick (.t 277) (.c (.bool true)) (.t 280), []⟩,
             ⟨none, (some 282), .mov (.t 281), []⟩,
             ⟨(some (282, false)), (some 283), .mov (.t 30), []⟩,
             ⟨(some (282, false)), (some 284), .bin .eql (.t 283) (.c (.int .i64 0)), []⟩,
             ⟨(some (282, false)), (some 285), .mov (.t 34), []⟩,
             ⟨(some (282, false)), (some 286), .eq .b true (.t 284) (.t 285), []⟩,
             ⟨none, (some 287), .pick (.t 282) (.c (.bool true)) (.t 286), []⟩,
             ⟨none, (some 288), .mov (.t 287), []⟩,
             ⟨(some (288, false)), (some 289), .mov (.t 30), []⟩,
             ⟨(some (288, false)), (some 290), .bin .neq (.t 289) (.c (.int .i64 0)), []⟩,
             ⟨(some (288, false)), (some 291), .mov (.t 290), []⟩,
             ⟨(some (291, true)), (some 292), .mov (.t 33), []⟩,
             ⟨(some (288, false)), (some 293), .pick (.t 291) (.t 292) (.c (.bool false)), []⟩,
             ⟨none, (some 294), .pick (.t 288) (.c (.bool true)) (.t 293), []⟩])
           (.cond (.t 294)
            (.seq
             (.reg [4] [
               ⟨none, (some 4), .mov (.c (.bool false)), []⟩])
             .ret)
            .skip))
          (.seq
           (.seq
            (.reg [296] [
              ⟨none, (some 295), .mov (.t 30), []⟩,
              ⟨none, (some 296), .bin .neq (.t 295) (.c (.int .i64 0)), []⟩])
            (.cond (.t 296)
             (.exit 3)
             .skip))
           (.seq
            (.reg [] [
              ⟨none, (some 297), .mov (.t 26), []⟩,
              ⟨none, (some 298), .mov (.t 31), []⟩,
              ⟨none, (some 299), .idxA 1 (.t 297) (.t 298), []⟩,
              ⟨none, (some 300), .ld 1 false (.t 299), []⟩,
              ⟨none, (some 301), .bin .add (.t 300) (.c (.int .i64 1)), []⟩,
              ⟨none, (some 302), .idxA 1 (.t 297) (.t 298), []⟩,
              ⟨none, none, .st 1 (.t 302) (.t 301), []⟩])
            (.seq
             (.reg [35, 36, 37] [
               ⟨none, (some 304), .mov (.t 5), []⟩,
               ⟨none, (some 305), .mov (.t 31), []⟩,
               ⟨none, (some 306), .mov (.t 6), []⟩,
               ⟨none, (some 307), .mov (.t 7), []⟩,
               ⟨none, (some 308), .call true 101 [.t 304, .t 305, .t 306, .t 307], []⟩,
               ⟨none, (some 303), .mov (.t 308), []⟩,
               ⟨none, (some 309), .ext (.t 303) 0, []⟩,
               ⟨none, (some 310), .ext (.t 303) 1, []⟩,
               ⟨none, (some 311), .ext (.t 303) 2, []⟩,
               ⟨none, (some 35), .mov (.t 309), []⟩,
               ⟨none, (some 36), .mov (.t 310), []⟩,
               ⟨none, (some 37), .mov (.t 311), []⟩])
             (.seq
              (.reg [38] [
                ⟨none, (some 312), .mov (.t 28), []⟩,
                ⟨none, (some 313), .mov (.t 35), []⟩,
                ⟨none, (some 314), .bin .sub (.t 312) (.t 313), []⟩,
                ⟨none, (some 38), .mov (.t 314), []⟩])
              (.seq
               (.reg [39] [
                 ⟨none, (some 315), .mov (.t 27), []⟩,
                 ⟨none, (some 316), .mov (.t 36), []⟩,
                 ⟨none, (some 317), .bin .sub (.t 315) (.t 316), []⟩,
                 ⟨none, (some 39), .mov (.t 317), []⟩])
               (.seq
                (.reg [367] [
                  ⟨none, (some 318), .mov (.t 37), []⟩,
                  ⟨none, (some 319), .bin .neq (.t 318) (.c (.int .i64 0)), []⟩,
                  ⟨none, (some 320), .mov (.t 319), []⟩,
                  ⟨(some (320, false)), (some 321), .mov (.t 38), []⟩,
                  ⟨(some (320, false)), (some 322), .bin .lss (.t 321) (.c (.int .i64 0)), []⟩,
                  ⟨none, (some 323), .pick (.t 320) (.c (.bool true)) (.t 322), []⟩,
                  ⟨none, (some 324), .mov (.t 323), []⟩,
                  ⟨(some (324, false)), (some 325), .mov (.t 38), []⟩,
                  ⟨(some (324, false)), (some 326), .bin .gtr (.t 325) (.c (.int .i64 11)), []⟩,
                  ⟨none, (some 327), .pick (.t 324) (.c (.bool true)) (.t 326), []⟩,
                  ⟨none, (some 328), .mov (.t 327), []⟩,
                  ⟨(some (328, false)), (some 329), .mov (.t 39), []⟩,
                  ⟨(some (328, false)), (some 330), .bin .lss (.t 329) (.c (.int .i64 0)), []⟩,
                  ⟨none, (some 331), .pick (.t 328) (.c (.bool true)) (.t 330), []⟩,
                  ⟨none, (some 332), .mov (.t 331), []⟩,
                  ⟨(some (332, false)), (some 333), .mov (.t 39), []⟩,
                  ⟨(some (332, false)), (some 334), .bin .gtr (.t 333) (.c (.int .i64 11)), []⟩,
                  ⟨none, (some 335), .pick (.t 332) (.c (.bool true)) (.t 334), []⟩,
                  ⟨none, (some 336), .mov (.t 335), []⟩,
                  ⟨(some (336, false)), (some 337), .mov (.t 5), []⟩,
                  ⟨(some (336, false)), (some 338), .mov (.t 31), []⟩,
                  ⟨(some (336, false)), (some 339), .mov (.t 39), []⟩,
                  ⟨(some (336, false)), (some 340), .idxA 27 (.t 337) (.t 338), []⟩,
                  ⟨(some (336, false)), (some 341), .fldP 0 (.t 340), []⟩,
                  ⟨(some (336, false)), (some 342), .fldP 12 (.t 341), []⟩,
                  ⟨(some (336, false)), (some 343), .idxP 12 1 (.t 342) (.t 339), []⟩,
                  ⟨(some (336, false)), (some 344), .ld 1 false (.t 343), []⟩,
                  ⟨(some (336, false)), (some 345), .mov (.t 38), []⟩,
                  ⟨(some (336, false)), (some 346), .conv .u64 (.t 345), []⟩,
                  ⟨(some (336, false)), (some 347), .bin .shr (.t 344) (.t 346), []⟩,
                  ⟨(some (336, false)), (some 348), .bin .and (.t 347) (.c (.int .u16 1)), []⟩,
                  ⟨(some (336, false)), (some 349), .bin .eql (.t 348) (.c (.int .u16 0)), []⟩,
                  ⟨none, (some 350), .pick (.t 336) (.c (.bool true)) (.t 349), []⟩,
                  ⟨none, (some 351), .mov (.t 350), []⟩,
                  ⟨(some (351, false)), (some 352), .mov (.t 5), []⟩,
                  ⟨(some (351, false)), (some 353), .mov (.t 31), []⟩,
                  ⟨(some (351, false)), (some 354), .mov (.t 39), []⟩,
                  ⟨(some (351, false)), (some 355), .idxA 27 (.t 352) (.t 353), []⟩,
                  ⟨(some (351, false)), (some 356), .fldP 0 (.t 355), []⟩,
                  ⟨(some (351, false)), (some 357), .fldP 0 (.t 356), []⟩,
                  ⟨(some (351, false)), (some 358), .idxP 12 1 (.t 357) (.t 354), []⟩,
                  ⟨(some (351, false)), (some 359), .ld 1 false (.t 358), []⟩,
                  ⟨(some (351, false)), (some 360), .mov (.t 38), []⟩,
                  ⟨(some (351, false)), (some 361), .conv .u64 (.t 360), []⟩,
                  ⟨(some (351, false)), (some 362), .bin .shr (.t 359) (.t 361), []⟩,
                  ⟨(some (351, false)), (some 363), .bin .and (.t 362) (.c (.int .u16 1)), []⟩,
                  ⟨(some (351, false)), (some 364), .bin .eql (.t 363) (.c (.int .u16 1)), []⟩,
                  ⟨(some (351, false)), (some 365), .mov (.t 33), []⟩,
                  ⟨(some (351, false)), (some 366), .eq .b true (.t 364) (.t 365), []⟩,
                  ⟨none, (some 367), .pick (.t 351) (.c (.bool true)) (.t 366), []⟩])
                (.cond (.t 367)
                 (.seq
                  (.reg [4] [
                    ⟨none, (some 4), .mov (.c (.bool false)), []⟩])
                  .ret)
                 .skip)))))))))))))
    (.reg [28] [
      ⟨none, (some 237), .mov (.t 28), []⟩,
      ⟨none, (some 238), .bin .add (.t 237) (.c (.int .i64 1)), []⟩,
      ⟨none, (some 28), .mov (.t 238), []⟩])))
def b57_2 : Cd :=
  (.seq
   (.seq
    (.reg [232] [
      ⟨none, (some 231), .mov (.t 27), []⟩,
      ⟨none, (some 232), .bin .lss (.t 231) (.c (.int .i64 12)), []⟩])
    (.cond (.t 232)
     .skip
     (.exit 0)))
   (.seq
    (.block 1
     (.seq
      (.reg [28] [
        ⟨none, (some 28), .mov (.c (.int .i64 0)), []⟩])
      (.block 2
       (.loop b57_1))))
    (.reg [27] [
      ⟨none, (some 233), .mov (.t 27), []⟩,
      ⟨none, (some 234), .bin .add (.t 233) (.c (.int .i64 1)), []⟩,
      ⟨none, (some 27), .mov (.t 234), []⟩])))
def b57_3 : Cd :=
  (.seq
   (.seq
    (.reg [375] [
      ⟨none, (some 372), .mov (.t 40), []⟩,
      ⟨none, (some 373), .mov (.t 24), []⟩,
      ⟨none, (some 374), .len (.t 373), []⟩,
      ⟨none, (some 375), .bin .lss (.t 372) (.t 374), []⟩])
    (.cond (.t 375)
     .skip
     (.exit 4)))
   (.seq
    (.block 5
     (.seq
      (.reg [417] [
        ⟨none, (some 378), .mov (.t 24), []⟩,
        ⟨none, (some 379), .mov (.t 40), []⟩,
        ⟨none, (some 380), .idxA 1 (.t 378) (.t 379), []⟩,
        ⟨none, (some 381), .ld 1 false (.t 380), []⟩,
        ⟨none, (some 382), .bin .lss (.t 381) (.c (.int .i64 0)), []⟩,
        ⟨none, (some 383), .mov (.t 382), []⟩,
        ⟨(some (383, false)), (some 384), .mov (.t 24), []⟩,
        ⟨(some (383, false)), (some 385), .mov (.t 40), []⟩,
        ⟨(some (383, false)), (some 386), .idxA 1 (.t 384) (.t 385), []⟩,
        ⟨(some (383, false)), (some 387), .ld 1 false (.t 386), []⟩,
        ⟨(some (383, false)), (some 388), .mov (.t 5), []⟩,
        ⟨(some (383, false)), (some 389), .len (.t 388), []⟩,
        ⟨(some (383, false)), (some 390), .bin .geq (.t 387) (.t 389), []⟩,
        ⟨none, (some 391), .pick (.t 383) (.c (.bool true)) (.t 390), []⟩,
        ⟨none, (some 392), .mov (.t 391), []⟩,
        ⟨(some (392, false)), (some 393), .mov (.t 26), []⟩,
        ⟨(some (392, false)), (some 394), .mov (.t 24), []⟩,
        ⟨(some (392, false)), (some 395), .mov (.t 40), []⟩,
        ⟨(some (392, false)), (some 396), .idxA 1 (.t 394) (.t 395), []⟩,
        ⟨(some (392, false)), (some 397), .ld 1 false (.t 396), []⟩,
        ⟨(some (392, false)), (some 398), .idxA 1 (.t 393) (.t 397), []⟩,
        ⟨(some (392, false)), (some 399), .ld 1 false (.t 398), []⟩,
        ⟨(some (392, false)), (some 400), .bin .neq (.t 399) (.c (.int .i64 0)), []⟩,
        ⟨none, (some 401), .pick (.t 392) (.c (.bool true)) (.t 400), []⟩,
        ⟨none, (some 402), .mov (.t 401), []⟩,
        ⟨(some (402, false)), (some 403), .mov (.t 40), []⟩,
        ⟨(some (402, false)), (some 404), .bin .gtr (.t 403) (.c (.int .i64 0)), []⟩,
        ⟨(some (402, false)), (some 405), .mov (.t 404), []⟩,
        ⟨(some (405, true)), (some 406), .mov (.t 24), []⟩,
        ⟨(some (405, true)), (some 407), .mov (.t 40), []⟩,
        ⟨(some (405, true)), (some 408), .idxA 1 (.t 406) (.t 407), []⟩,
        ⟨(some (405, true)), (some 409), .ld 1 false (.t 408), []⟩,
        ⟨(some (405, true)), (some 410), .mov (.t 24), []⟩,
        ⟨(some (405, true)), (some 411), .mov (.t 40), []⟩,
        ⟨(some (405, true)), (some 412), .bin .sub (.t 411) (.c (.int .i64 1)), []⟩,
        ⟨(some (405, true)), (some 413), .idxA 1 (.t 410) (.t 412), []⟩,
        ⟨(some (405, true)), (some 414), .ld 1 false (.t 413), []⟩,
        ⟨(some (405, true)), (some 415), .bin .leq (.t 409) (.t 414), []⟩,
        ⟨(some (402, false)), (some 416), .pick (.t 405) (.t 415) (.c (.bool false)), []⟩,
        ⟨none, (some 417), .pick (.t 402) (.c (.bool true)) (.t 416), []⟩])
      (.cond (.t 417)
       (.seq
        (.reg [4] [
          ⟨none, (some 4), .mov (.c (.bool false)), []⟩])
        .ret)
       .skip)))
    (.reg [40] [
      ⟨none, (some 376), .mov (.t 40), []⟩,
      ⟨none, (some 377), .bin .add (.t 376) (.c (.int .i64 1)), []⟩,
      ⟨none, (some 40), .mov (.t 377), []⟩])))
def b57_4 : Cd :=
  (.seq
   (.seq
    (.reg [433] [
      ⟨none, (some 432), .mov (.t 43), []⟩,
      ⟨none, (some 433), .bin .lss (.t 432) (.c (.int .i64 4)), []⟩])
    (.cond (.t 433)
     .skip
     (.exit 6)))
   (.seq
    (.block 7
     (.seq
      (.reg [44, 45] [
        ⟨none, (some 437), .mov (.t 5), []⟩,
        ⟨none, (some 438), .mov (.t 6), []⟩,
        ⟨none, (some 439), .mov (.t 43), []⟩,
        ⟨none, (some 440), .bin .mul (.c (.int .i64 2)) (.t 439), []⟩,
        ⟨none, (some 441), .bin .add (.t 438) (.t 440), []⟩,
        ⟨none, (some 442), .mov (.t 7), []⟩,
        ⟨none, (some 443), .mov (.t 43), []⟩,
        ⟨none, (some 444), .bin .sub (.t 442) (.t 443), []⟩,
        ⟨none, (some 445), .call true 98 [.t 437, .t 441, .t 444], []⟩,
        ⟨none, (some 436), .mov (.t 445), []⟩,
        ⟨none, (some 446), .ext (.t 436) 0, []⟩,
        ⟨none, (some 447), .ext (.t 436) 1, []⟩,
        ⟨none, (some 44), .zero true (zs 12 (.int .u16 0)), []⟩,
        ⟨none, (some 44), .stV 44 none 12 (.t 446), []⟩,
        ⟨none, (some 45), .mov (.t 447), []⟩])
      (.seq
       (.reg [457] [
         ⟨none, (some 448), .mov (.t 45), []⟩,
         ⟨none, (some 449), .bin .neq (.t 448) (.c (.int .i64 0)), []⟩,
         ⟨none, (some 450), .mov (.t 449), []⟩,
         ⟨(some (450, false)), (some 451), .mov (.t 41), []⟩,
         ⟨(some (450, false)), (some 452), .mov (.t 43), []⟩,
         ⟨(some (450, false)), (some 453), .idxA 12 (.t 451) (.t 452), []⟩,
         ⟨(some (450, false)), (some 454), .ld 12 true (.t 453), []⟩,
         ⟨(some (450, false)), (some 455), .ldV 44 none 12 true, []⟩,
         ⟨(some (450, false)), (some 456), .eq (.a (rb 12 (some .u16))) true (.t 454) (.t 455), []⟩,
         ⟨none, (some 457), .pick (.t 450) (.c (.bool true)) (.t 456), []⟩])
       (.cond (.t 457)
        (.seq
         (.reg [4] [
           ⟨none, (some 4), .mov (.c (.bool false)), []⟩])
         .ret)
        .skip))))
    (.reg [43] [
      ⟨none, (some 434), .mov (.t 43), []⟩,
      ⟨none, (some 435), .bin .add (.t 434) (.c (.int .i64 1)), []⟩,
      ⟨none, (some 43), .mov (.t 435), []⟩])))
def b57_5 : Cd :=
  (.seq
   (.seq
    (.reg [484] [
      ⟨none, (some 481), .mov (.t 49), []⟩,
      ⟨none, (some 482), .mov (.t 47), []⟩,
      ⟨none, (some 483), .len (.t 482), []⟩,
      ⟨none, (some 484), .bin .lss (.t 481) (.t 483), []⟩])
    (.cond (.t 484)
     .skip
     (.exit 8)))
   (.seq
    (.block 9
     (.seq
      (.reg [517] [
        ⟨none, (some 487), .mov (.t 49), []⟩,
        ⟨none, (some 488), .mov (.t 46), []⟩,
        ⟨none, (some 489), .bin .lss (.t 487) (.t 488), []⟩,
        ⟨none, (some 490), .mov (.t 489), []⟩,
        ⟨(some (490, true)), (some 491), .mov (.t 47), []⟩,
        ⟨(some (490, true)), (some 492), .mov (.t 49), []⟩,
        ⟨(some (490, true)), (some 493), .idxA 27 (.t 491) (.t 492), []⟩,
        ⟨(some (490, true)), (some 494), .ld 27 true (.t 493), []⟩,
        ⟨(some (490, true)), (some 495), .mov (.t 5), []⟩,
        ⟨(some (490, true)), (some 496), .mov (.t 49), []⟩,
        ⟨(some (490, true)), (some 497), .idxA 27 (.t 495) (.t 496), []⟩,
        ⟨(some (490, true)), (some 498), .ld 27 true (.t 497), []⟩,
        ⟨(some (490, true)), (some 499), .eq (.a (rb 24 (some .u16) ++ rb 3 (some .i8))) true (.t 494) (.t 498), []⟩,
        ⟨none, (some 500), .pick (.t 490) (.t 499) (.c (.bool false)), []⟩,
        ⟨none, (some 501), .mov (.t 500), []⟩,
        ⟨(some (501, false)), (some 502), .mov (.t 49), []⟩,
        ⟨(some (501, false)), (some 503), .mov (.t 46), []⟩,
        ⟨(some (501, false)), (some 504), .bin .geq (.t 502) (.t 503), []⟩,
        ⟨(some (501, false)), (some 505), .mov (.t 504), []⟩,
        ⟨(some (505, true)), (some 506), .mov (.t 47), []⟩,
        ⟨(some (505, true)), (some 507), .mov (.t 49), []⟩,
        ⟨(some (505, true)), (some 508), .idxA 27 (.t 506) (.t 507), []⟩,
        ⟨(some (505, true)), (some 509), .ld 27 true (.t 508), []⟩,
        ⟨(some (505, true)), (some 510), .mov (.t 5), []⟩,
        ⟨(some (505, true)), (some 511), .mov (.t 49), []⟩,
        ⟨(some (505, true)), (some 512), .bin .add (.t 511) (.c (.int .i64 1)), []⟩,
        ⟨(some (505, true)), (some 513), .idxA 27 (.t 510) (.t 512), []⟩,
        ⟨(some (505, true)), (some 514), .ld 27 true (.t 513), []⟩,
        ⟨(some (505, true)), (some 515), .eq (.a (rb 24 (some .u16) ++ rb 3 (some .i8))) true (.t 509) (.t 514), []⟩,
        ⟨(some (501, false)), (some 516), .pick (.t 505) (.t 515) (.c (.bool false)), []⟩,
        ⟨none, (some 517), .pick (.t 501) (.c (.bool true)) (.t 516), []⟩])
      (.cond (.t 517)
       (.seq
        (.reg [4] [
          ⟨none, (some 4), .mov (.c (.bool false)), []⟩])
        .ret)
       .skip)))
    (.reg [49] [
      ⟨none, (some 485), .mov (.t 49), []⟩,
      ⟨none, (some 486), .bin .add (.t 485) (.c (.int .i64 1)), []⟩,
      ⟨none, (some 49), .mov (.t 486), []⟩])))
def b57_6 : Cd :=
  (.seq
   (.seq
    (.reg [591] [
      ⟨none, (some 588), .mov (.t 56), []⟩,
      ⟨none, (some 589), .mov (.t 5), []⟩,
      ⟨none, (some 590), .len (.t 589), []⟩,
      ⟨none, (some 591), .bin .lss (.t 588) (.t 590), []⟩])
    (.cond (.t 591)
     .skip
     (.exit 10)))
   (.seq
    (.block 11
     (.seq
      (.reg [57] [
        ⟨none, (some 594), .mov (.t 56), []⟩,
        ⟨none, (some 57), .mov (.t 594), []⟩])
      (.seq
       (.seq
        (.reg [597] [
          ⟨none, (some 595), .mov (.t 56), []⟩,
          ⟨none, (some 596), .mov (.t 46), []⟩,
          ⟨none, (some 597), .bin .eql (.t 595) (.t 596), []⟩])
        (.cond (.t 597)
         (.reg [57] [
           ⟨none, (some 598), .mov (.t 46), []⟩,
           ⟨none, (some 599), .bin .sub (.t 598) (.c (.int .i64 1)), []⟩,
           ⟨none, (some 57), .mov (.t 599), []⟩])
         (.seq
          (.reg [603] [
            ⟨none, (some 600), .mov (.t 56), []⟩,
            ⟨none, (some 601), .mov (.t 46), []⟩,
            ⟨none, (some 602), .bin .sub (.t 601) (.c (.int .i64 1)), []⟩,
            ⟨none, (some 603), .bin .eql (.t 600) (.t 602), []⟩])
          (.cond (.t 603)
           (.reg [57] [
             ⟨none, (some 604), .mov (.t 46), []⟩,
             ⟨none, (some 57), .mov (.t 604), []⟩])
           .skip))))
       (.seq
        (.reg [613] [
          ⟨none, (some 605), .mov (.t 52), []⟩,
          ⟨none, (some 606), .mov (.t 56), []⟩,
          ⟨none, (some 607), .idxA 27 (.t 605) (.t 606), []⟩,
          ⟨none, (some 608), .ld 27 true (.t 607), []⟩,
          ⟨none, (some 609), .mov (.t 5), []⟩,
          ⟨none, (some 610), .mov (.t 57), []⟩,
          ⟨none, (some 611), .idxA 27 (.t 609) (.t 610), []⟩,
          ⟨none, (some 612), .ld 27 true (.t 611), []⟩,
          ⟨none, (some 613), .eq (.a (rb 24 (some .u16) ++ rb 3 (some .i8))) true (.t 608) (.t 612), []⟩])
        (.cond (.t 613)
         (.seq
          (.reg [4] [
            ⟨none, (some 4), .mov (.c (.bool false)), []⟩])
          .ret)
         .skip)))))
    (.reg [56] [
      ⟨none, (some 592), .mov (.t 56), []⟩,
      ⟨none, (some 593), .bin .add (.t 592) (.c (.int .i64 1)), []⟩,
      ⟨none, (some 56), .mov (.t 593), []⟩])))
def k57 : Cd :=
  (.seq
   (.reg [4] [
     ⟨none, (some 4), .mov (.c (.bool false)), []⟩])
   (.seq
    (.seq
     (.reg [64] [
       ⟨none, (some 62), .mov (.t 0), []⟩,
       ⟨none, (some 63), .mov (.t 1), []⟩,
       ⟨none, (some 64), .call true 84 [.t 62, .t 63], []⟩])
     (.cond (.t 64)
      (.seq
       (.reg [4] [
         ⟨none, (some 4), .mov (.c (.bool true)), []⟩])
       .ret)
      .skip))
    (.seq
     (.reg [5] [
       ⟨none, (some 65), .mov (.t 0), []⟩,
       ⟨none, (some 66), .call true 96 [.t 65], []⟩,
       ⟨none, (some 5), .mov (.t 66), []⟩])
     (.seq
      (.reg [6] [
        ⟨none, (some 67), .mov (.t 1), []⟩,
        ⟨none, (some 68), .call true 124 [.t 67, .c (.int .i64 0), .c (.int .i64 13)], []⟩,
        ⟨none, (some 69), .bin .sub (.t 68) (.c (.int .i64 6)), []⟩,
        ⟨none, (some 6), .mov (.t 69), []⟩])
      (.seq
       (.reg [7] [
         ⟨none, (some 70), .mov (.t 1), []⟩,
         ⟨none, (some 71), .call true 124 [.t 70, .c (.int .i64 1), .c (.int .i64 13)], []⟩,
         ⟨none, (some 72), .bin .sub (.t 71) (.c (.int .i64 6)), []⟩,
         ⟨none, (some 7), .mov (.t 72), []⟩])
       (.seq
        (.reg [8, 9] [
          ⟨none, (some 74), .mov (.t 5), []⟩,
          ⟨none, (some 75), .mov (.t 6), []⟩,
          ⟨none, (some 76), .mov (.t 7), []⟩,
          ⟨none, (some 77), .call true 97 [.t 74, .t 75, .t 76], []⟩,
          ⟨none, (some 73), .mov (.t 77), []⟩,
          ⟨none, (some 78), .ext (.t 73) 0, []⟩,
          ⟨none, (some 79), .ext (.t 73) 1, []⟩,
          ⟨none, (some 8), .zero true (zs 12 (.int .u16 0)), []⟩,
          ⟨none, (some 8), .stV 8 none 12 (.t 78), []⟩,
          ⟨none, (some 9), .mov (.t 79), []⟩])
        (.seq
         (.reg [10, 11] [
           ⟨none, (some 81), .mov (.t 5), []⟩,
           ⟨none, (some 82), .mov (.t 6), []⟩,
           ⟨none, (some 83), .mov (.t 7), []⟩,
           ⟨none, (some 84), .call true 98 [.t 81, .t 82, .t 83], []⟩,
           ⟨none, (some 80), .mov (.t 84), []⟩,
           ⟨none, (some 85), .ext (.t 80) 0, []⟩,
           ⟨none, (some 86), .ext (.t 80) 1, []⟩,
           ⟨none, (some 10), .zero true (zs 12 (.int .u16 0)), []⟩,
           ⟨none, (some 10), .stV 10 none 12 (.t 85), []⟩,
           ⟨none, (some 11), .mov (.t 86), []⟩])
         (.seq
          (.reg [12, 13] [
            ⟨none, (some 88), .mov (.t 5), []⟩,
            ⟨none, (some 89), .mov (.t 6), []⟩,
            ⟨none, (some 90), .mov (.t 7), []⟩,
            ⟨none, (some 91), .call true 99 [.t 88, .t 89, .t 90], []⟩,
            ⟨none, (some 87), .mov (.t 91), []⟩,
            ⟨none, (some 92), .ext (.t 87) 0, []⟩,
            ⟨none, (some 93), .ext (.t 87) 1, []⟩,
            ⟨none, (some 12), .zero true (zs 24 (.int .u16 0)), []⟩,
            ⟨none, (some 12), .stV 12 none 24 (.t 92), []⟩,
            ⟨none, (some 13), .mov (.t 93), []⟩])
          (.seq
           (.reg [14, 15] [
             ⟨none, (some 95), .mov (.t 5), []⟩,
             ⟨none, (some 96), .mov (.t 6), []⟩,
             ⟨none, (some 97), .mov (.t 7), []⟩,
             ⟨none, (some 98), .call true 276 [.t 95, .t 96, .t 97], []⟩,
             ⟨none, (some 94), .mov (.t 98), []⟩,
             ⟨none, (some 99), .ext (.t 94) 0, []⟩,
             ⟨none, (some 100), .ext (.t 94) 1, []⟩,
             ⟨none, (some 14), .zero true (zs 24 (.int .u16 0)), []⟩,
             ⟨none, (some 14), .stV 14 none 24 (.t 99), []⟩,
             ⟨none, (some 15), .mov (.t 100), []⟩])
           (.seq
            (.reg [16, 17] [
              ⟨none, (some 102), .mov (.t 5), []⟩,
              ⟨none, (some 103), .mov (.t 6), []⟩,
              ⟨none, (some 104), .mov (.t 7), []⟩,
              ⟨none, (some 105), .call true 192 [.t 102, .t 103, .t 104], []⟩,
              ⟨none, (some 101), .mov (.t 105), []⟩,
              ⟨none, (some 106), .ext (.t 101) 0, []⟩,
              ⟨none, (some 107), .ext (.t 101) 1, []⟩,
              ⟨none, (some 16), .mov (.t 106), []⟩,
              ⟨none, (some 17), .mov (.t 107), []⟩])
            (.seq
             (.reg [18, 19] [
               ⟨none, (some 109), .mov (.t 5), []⟩,
               ⟨none, (some 110), .mov (.t 6), []⟩,
               ⟨none, (some 111), .mov (.t 7), []⟩,
               ⟨none, (some 112), .call true 190 [.t 109, .t 110, .t 111], []⟩,
               ⟨none, (some 108), .mov (.t 112), []⟩,
               ⟨none, (some 113), .ext (.t 108) 0, []⟩,
               ⟨none, (some 114), .ext (.t 108) 1, []⟩,
               ⟨none, (some 18), .mov (.t 113), []⟩,
               ⟨none, (some 19), .mov (.t 114), []⟩])
             (.seq
              (.reg [20, 21] [
                ⟨none, (some 116), .mov (.t 18), []⟩,
                ⟨none, (some 117), .mov (.t 6), []⟩,
                ⟨none, (some 118), .mov (.t 7), []⟩,
                ⟨none, (some 119), .call true 97 [.t 116, .t 117, .t 118], []⟩,
                ⟨none, (some 115), .mov (.t 119), []⟩,
                ⟨none, (some 120), .ext (.t 115) 0, []⟩,
                ⟨none, (some 121), .ext (.t 115) 1, []⟩,
                ⟨none, (some 20), .zero true (zs 12 (.int .u16 0)), []⟩,
                ⟨none, (some 20), .stV 20 none 12 (.t 120), []⟩,
                ⟨none, (some 21), .mov (.t 121), []⟩])
              (.seq
               (.reg [22, 23] [
                 ⟨none, (some 123), .mov (.t 5), []⟩,
                 ⟨none, (some 124), .mov (.t 6), []⟩,
                 ⟨none, (some 125), .mov (.t 7), []⟩,
                 ⟨none, (some 126), .call true 277 [.t 123, .t 124, .t 125], []⟩,
                 ⟨none, (some 122), .mov (.t 126), []⟩,
                 ⟨none, (some 127), .ext (.t 122) 0, []⟩,
                 ⟨none, (some 128), .ext (.t 122) 1, []⟩,
                 ⟨none, (some 22), .mov (.t 127), []⟩,
                 ⟨none, (some 23), .mov (.t 128), []⟩])
               (.seq
                (.reg [24, 25] [
                  ⟨none, (some 130), .mov (.t 5), []⟩,
                  ⟨none, (some 131), .mov (.t 6), []⟩,
                  ⟨none, (some 132), .mov (.t 7), []⟩,
                  ⟨none, (some 133), .call true 278 [.t 130, .t 131, .t 132], []⟩,
                  ⟨none, (some 129), .mov (.t 133), []⟩,
                  ⟨none, (some 134), .ext (.t 129) 0, []⟩,
                  ⟨none, (some 135), .ext (.t 129) 1, []⟩,
                  ⟨none, (some 24), .mov (.t 134), []⟩,
                  ⟨none, (some 25), .mov (.t 135), []⟩])
                (.seq
                 (.seq
                  (.reg [227] [
                    ⟨none, (some 136), .mov (.t 9), []⟩,
                    ⟨none, (some 137), .mov (.t 11), []⟩,
                    ⟨none, (some 138), .bin .neq (.t 136) (.t 137), []⟩,
                    ⟨none, (some 139), .mov (.t 138), []⟩,
                    ⟨(some (139, false)), (some 140), .mov (.t 9), []⟩,
                    ⟨(some (139, false)), (some 141), .bin .neq (.t 140) (.c (.int .i64 0)), []⟩,
                    ⟨none, (some 142), .pick (.t 139) (.c (.bool true)) (.t 141), []⟩,
                    ⟨none, (some 143), .mov (.t 142), []⟩,
                    ⟨(some (143, false)), (some 144), .ldV 8 none 12 true, []⟩,
                    ⟨(some (143, false)), (some 145), .ldV 10 none 12 true, []⟩,
                    ⟨(some (143, false)), (some 146), .eq (.a (rb 12 (some .u16))) true (.t 144) (.t 145), []⟩,
                    ⟨none, (some 147), .pick (.t 143) (.c (.bool true)) (.t 146), []⟩,
                    ⟨none, (some 148), .mov (.t 147), []⟩,
                    ⟨(some (148, false)), (some 149), .mov (.t 13), []⟩,
                    ⟨(some (148, false)), (some 150), .mov (.t 15), []⟩,
                    ⟨(some (148, false)), (some 151), .bin .neq (.t 149) (.t 150), []⟩,
                    ⟨none, (some 152), .pick (.t 148) (.c (.bool true)) (.t 151), []⟩,
                    ⟨none, (some 153), .mov (.t 152), []⟩,
                    ⟨(some (153, false)), (some 154), .mov (.t 13), []⟩,
                    ⟨(some (153, false)), (some 155), .bin .neq (.t 154) (.c (.int .i64 0)), []⟩,
                    ⟨none, (some 156), .pick (.t 153) (.c (.bool true)) (.t 155), []⟩,
                    ⟨none, (some 157), .mov (.t 156), []⟩,
                    ⟨(some (157, false)), (some 158), .ldV 12 none 24 true, []⟩,
                    ⟨(some (157, false)), (some 159), .ldV 14 none 24 true, []⟩,
                    ⟨(some (157, false)), (some 160), .eq (.a (rb 24 (some .u16))) true (.t 158) (.t 159), []⟩,
                    ⟨none, (some 161), .pick (.t 157) (.c (.bool true)) (.t 160), []⟩,
                    ⟨none, (some 162), .mov (.t 161), []⟩,
                    ⟨(some (162, false)), (some 163), .adrF 14 none 0, []⟩,
                    ⟨(some (162, false)), (some 164), .ldV 14 (some 163) 12 true, []⟩,
                    ⟨(some (162, false)), (some 165), .ldV 10 none 12 true, []⟩,
                    ⟨(some (162, false)), (some 166), .eq (.a (rb 12 (some .u16))) true (.t 164) (.t 165), []⟩,
                    ⟨none, (some 167), .pick (.t 162) (.c (.bool true)) (.t 166), []⟩,
                    ⟨none, (some 168), .mov (.t 167), []⟩,
                    ⟨(some (168, false)), (some 169), .mov (.t 17), []⟩,
                    ⟨(some (168, false)), (some 170), .mov (.t 19), []⟩,
                    ⟨(some (168, false)), (some 171), .bin .neq (.t 169) (.t 170), []⟩,
                    ⟨none, (some 172), .pick (.t 168) (.c (.bool true)) (.t 171), []⟩,
                    ⟨none, (some 173), .mov (.t 172), []⟩,
                    ⟨(some (173, false)), (some 174), .mov (.t 17), []⟩,
                    ⟨(some (173, false)), (some 175), .bin .neq (.t 174) (.c (.int .i64 0)), []⟩,
                    ⟨none, (some 176), .pick (.t 173) (.c (.bool true)) (.t 175), []⟩,
                    ⟨none, (some 177), .mov (.t 176), []⟩,
                    ⟨(some (177, false)), (some 178), .mov (.t 16), []⟩,
                    ⟨(some (177, false)), (some 179), .mov (.t 18), []⟩,
                    ⟨(some (177, false)), (some 180), .call true 279 [.t 178, .t 179], []⟩,
                    ⟨(some (177, false)), (some 181), .un .not (.t 180), []⟩,
                    ⟨none, (some 182), .pick (.t 177) (.c (.bool true)) (.t 181), []⟩,
                    ⟨none, (some 183), .mov (.t 182), []⟩,
                    ⟨(some (183, false)), (some 184), .mov (.t 16), []⟩,
                    ⟨(some (183, false)), (some 185), .mov (.t 18), []⟩,
                    ⟨(some (183, false)), (some 186), .call true 280 [.t 184, .t 185], []⟩,
                    ⟨(some (183, false)), (some 187), .un .not (.t 186), []⟩,
                    ⟨none, (some 188), .pick (.t 183) (.c (.bool true)) (.t 187), []⟩,
                    ⟨none, (some 189), .mov (.t 188), []⟩,
                    ⟨(some (189, false)), (some 190), .mov (.t 21), []⟩,
                    ⟨(some (189, false)), (some 191), .bin .neq (.t 190) (.c (.int .i64 0)), []⟩,
                    ⟨none, (some 192), .pick (.t 189) (.c (.bool true)) (.t 191), []⟩,
                    ⟨none, (some 193), .mov (.t 192), []⟩,
                    ⟨(some (193, false)), (some 194), .ldV 20 none 12 true, []⟩,
                    ⟨(some (193, false)), (some 195), .ldV 10 none 12 true, []⟩,
                    ⟨(some (193, false)), (some 196), .eq (.a (rb 12 (some .u16))) true (.t 194) (.t 195), []⟩,
                    ⟨none, (some 197), .pick (.t 193) (.c (.bool true)) (.t 196), []⟩,
                    ⟨none, (some 198), .mov (.t 197), []⟩,
                    ⟨(some (198, false)), (some 199), .mov (.t 23), []⟩,
                    ⟨(some (198, false)), (some 200), .bin .neq (.t 199) (.c (.int .i64 0)), []⟩,
                    ⟨none, (some 201), .pick (.t 198) (.c (.bool true)) (.t 200), []⟩,
                    ⟨none, (some 202), .mov (.t 201), []⟩,
                    ⟨(some (202, false)), (some 203), .mov (.t 22), []⟩,
                    ⟨(some (202, false)), (some 204), .len (.t 203), []⟩,
                    ⟨(some (202, false)), (some 205), .mov (.t 5), []⟩,
                    ⟨(some (202, false)), (some 206), .len (.t 205), []⟩,
                    ⟨(some (202, false)), (some 207), .bin .neq (.t 204) (.t 206), []⟩,
                    ⟨none, (some 208), .pick (.t 202) (.c (.bool true)) (.t 207), []⟩,
                    ⟨none, (some 209), .mov (.t 208), []⟩,
                    ⟨(some (209, false)), (some 210), .mov (.t 25), []⟩,
                    ⟨(some (209, false)), (some 211), .bin .neq (.t 210) (.c (.int .i64 0)), []⟩,
                    ⟨none, (some 212), .pick (.t 209) (.c (.bool true)) (.t 211), []⟩,
                    ⟨none, (some 213), .mov (.t 212), []⟩,
                    ⟨(some (213, false)), (some 214), .mov (.t 24), []⟩,
                    ⟨(some (213, false)), (some 215), .len (.t 214), []⟩,
                    ⟨(some (213, false)), (some 216), .mov (.t 18), []⟩,
                    ⟨(some (213, false)), (some 217), .len (.t 216), []⟩,
                    ⟨(some (213, false)), (some 218), .bin .add (.t 215) (.t 217), []⟩,
                    ⟨(some (213, false)), (some 219), .mov (.t 5), []⟩,
                    ⟨(some (213, false)), (some 220), .len (.t 219), []⟩,
                    ⟨(some (213, false)), (some 221), .bin .neq (.t 218) (.t 220), []⟩,
                    ⟨none, (some 222), .pick (.t 213) (.c (.bool true)) (.t 221), []⟩,
                    ⟨none, (some 223), .mov (.t 222), []⟩,
                    ⟨(some (223, false)), (some 224), .mov (.t 5), []⟩,
                    ⟨(some (223, false)), (some 225), .call true 281 [.t 224], []⟩,
                    ⟨(some (223, false)), (some 226), .un .not (.t 225), []⟩,
                    ⟨none, (some 227), .pick (.t 223) (.c (.bool true)) (.t 226), []⟩])
                  (.cond (.t 227)
                   (.seq
                    (.reg [4] [
                      ⟨none, (some 4), .mov (.c (.bool false)), []⟩])
                    .ret)
                   .skip))
                 (.seq
                  (.reg [26] [
                    ⟨none, (some 228), .mov (.t 5), []⟩,
                    ⟨none, (some 229), .len (.t 228), []⟩,
                    ⟨none, (some 230), .mkS 1 8 [.int .i64 0] (.t 229) (.t 229), []⟩,
                    ⟨none, (some 26), .mov (.t 230), []⟩])
                  (.seq
                   (.seq
                    (.reg [27] [
                      ⟨none, (some 27), .mov (.c (.int .i64 0)), []⟩])
                    (.block 0
                     (.loop b57_2)))
                   (.seq
                    (.seq
                     (.reg [371] [
                       ⟨none, (some 368), .mov (.t 26), []⟩,
                       ⟨none, (some 369), .mov (.t 22), []⟩,
                       ⟨none, (some 370), .call true 130 [.t 368, .t 369], []⟩,
                       ⟨none, (some 371), .un .not (.t 370), []⟩])
                     (.cond (.t 371)
                      (.seq
                       (.reg [4] [
                         ⟨none, (some 4), .mov (.c (.bool false)), []⟩])
                       .ret)
                      .skip))
                    (.seq
                     (.seq
                      (.reg [40] [
                        ⟨none, (some 40), .mov (.c (.int .i64 0)), []⟩])
                      (.block 4
                       (.loop b57_3)))
                     (.seq
                      (.reg [41, 42] [
                        ⟨none, (some 419), .mov (.t 5), []⟩,
                        ⟨none, (some 420), .mov (.t 6), []⟩,
                        ⟨none, (some 421), .mov (.t 7), []⟩,
                        ⟨none, (some 422), .call true 199 [.t 419, .t 420, .t 421, .c (.int .i64 2), .c (.int .i64 (-1)), .c (.int .i64 4)], []⟩,
                        ⟨none, (some 418), .mov (.t 422), []⟩,
                        ⟨none, (some 423), .ext (.t 418) 0, []⟩,
                        ⟨none, (some 424), .ext (.t 418) 1, []⟩,
                        ⟨none, (some 41), .mov (.t 423), []⟩,
                        ⟨none, (some 42), .mov (.t 424), []⟩])
                      (.seq
                       (.seq
                        (.reg [431] [
                          ⟨none, (some 425), .mov (.t 42), []⟩,
                          ⟨none, (some 426), .bin .neq (.t 425) (.c (.int .i64 0)), []⟩,
                          ⟨none, (some 427), .mov (.t 426), []⟩,
                          ⟨(some (427, false)), (some 428), .mov (.t 41), []⟩,
                          ⟨(some (427, false)), (some 429), .len (.t 428), []⟩,
                          ⟨(some (427, false)), (some 430), .bin .neq (.t 429) (.c (.int .i64 4)), []⟩,
                          ⟨none, (some 431), .pick (.t 427) (.c (.bool true)) (.t 430), []⟩])
                        (.cond (.t 431)
                         (.seq
                          (.reg [4] [
                            ⟨none, (some 4), .mov (.c (.bool false)), []⟩])
                          .ret)
                         .skip))
                       (.seq
                        (.seq
                         (.reg [43] [
                           ⟨none, (some 43), .mov (.c (.int .i64 0)), []⟩])
                         (.block 6
                          (.loop b57_4)))
                        (.seq
                         (.seq
                          (.reg [460] [
                            ⟨none, (some 458), .mov (.t 5), []⟩,
                            ⟨none, (some 459), .len (.t 458), []⟩,
                            ⟨none, (some 460), .bin .eql (.t 459) (.c (.int .i64 0)), []⟩])
                          (.cond (.t 460)
                           (.seq
                            (.reg [4] [
                              ⟨none, (some 4), .mov (.c (.bool true)), []⟩])
                            .ret)
                           .skip))
                         (.seq
                          (.reg [46] [
                            ⟨none, (some 461), .mov (.t 1), []⟩,
                            ⟨none, (some 462), .mov (.t 5), []⟩,
                            ⟨none, (some 463), .len (.t 462), []⟩,
                            ⟨none, (some 464), .call true 124 [.t 461, .c (.int .i64 2), .t 463], []⟩,
                            ⟨none, (some 46), .mov (.t 464), []⟩])
                          (.seq
                           (.reg [47, 48] [
                             ⟨none, (some 466), .mov (.t 5), []⟩,
                             ⟨none, (some 467), .mov (.t 46), []⟩,
                             ⟨none, (some 468), .call true 284 [.t 466, .t 467], []⟩,
                             ⟨none, (some 465), .mov (.t 468), []⟩,
                             ⟨none, (some 469), .ext (.t 465) 0, []⟩,
                             ⟨none, (some 470), .ext (.t 465) 1, []⟩,
                             ⟨none, (some 47), .mov (.t 469), []⟩,
                             ⟨none, (some 48), .mov (.t 470), []⟩])
                           (.seq
                            (.seq
                             (.reg [480] [
                               ⟨none, (some 471), .mov (.t 48), []⟩,
                               ⟨none, (some 472), .bin .neq (.t 471) (.c (.int .i64 0)), []⟩,
                               ⟨none, (some 473), .mov (.t 472), []⟩,
                               ⟨(some (473, false)), (some 474), .mov (.t 47), []⟩,
                               ⟨(some (473, false)), (some 475), .len (.t 474), []⟩,
                               ⟨(some (473, false)), (some 476), .mov (.t 5), []⟩,
                               ⟨(some (473, false)), (some 477), .len (.t 476), []⟩,
                               ⟨(some (473, false)), (some 478), .bin .sub (.t 477) (.c (.int .i64 1)), []⟩,
                               ⟨(some (473, false)), (some 479), .bin .neq (.t 475) (.t 478), []⟩,
                               ⟨none, (some 480), .pick (.t 473) (.c (.bool true)) (.t 479), []⟩])
                             (.cond (.t 480)
                              (.seq
                               (.reg [4] [
                                 ⟨none, (some 4), .mov (.c (.bool false)), []⟩])
                               .ret)
                              .skip))
                            (.seq
                             (.seq
                              (.reg [49] [
                                ⟨none, (some 49), .mov (.c (.int .i64 0)), []⟩])
                              (.block 8
                               (.loop b57_5)))
                             (.seq
                              (.reg [50, 51] [
                                ⟨none, (some 519), .mov (.t 47), []⟩,
                                ⟨none, (some 520), .mov (.t 5), []⟩,
                                ⟨none, (some 521), .mov (.t 46), []⟩,
                                ⟨none, (some 522), .idxA 27 (.t 520) (.t 521), []⟩,
                                ⟨none, (some 523), .ld 27 true (.t 522), []⟩,
                                ⟨none, (some 524), .call true 285 [.t 519, .t 523], []⟩,
                                ⟨none, (some 518), .mov (.t 524), []⟩,
                                ⟨none, (some 525), .ext (.t 518) 0, []⟩,
                                ⟨none, (some 526), .ext (.t 518) 1, []⟩,
                                ⟨none, (some 50), .mov (.t 525), []⟩,
                                ⟨none, (some 51), .mov (.t 526), []⟩])
                              (.seq
                               (.reg [52, 53] [
                                 ⟨none, (some 528), .mov (.t 5), []⟩,
                                 ⟨none, (some 529), .mov (.t 46), []⟩,
                                 ⟨none, (some 530), .call true 286 [.t 528, .t 529], []⟩,
                                 ⟨none, (some 527), .mov (.t 530), []⟩,
                                 ⟨none, (some 531), .ext (.t 527) 0, []⟩,
                                 ⟨none, (some 532), .ext (.t 527) 1, []⟩,
                                 ⟨none, (some 52), .mov (.t 531), []⟩,
                                 ⟨none, (some 53), .mov (.t 532), []⟩])
                               (.seq
                                (.reg [54, 55] [
                                  ⟨none, (some 534), .mov (.t 5), []⟩,
                                  ⟨none, (some 535), .mov (.t 46), []⟩,
                                  ⟨none, (some 536), .mov (.t 6), []⟩,
                                  ⟨none, (some 537), .mov (.t 7), []⟩,
                                  ⟨none, (some 538), .call true 287 [.t 534, .t 535, .t 536, .t 537], []⟩,
                                  ⟨none, (some 533), .mov (.t 538), []⟩,
                                  ⟨none, (some 539), .ext (.t 533) 0, []⟩,
                                  ⟨none, (some 540), .ext (.t 533) 1, []⟩,
                                  ⟨none, (some 54), .mov (.t 539), []⟩,
                                  ⟨none, (some 55), .mov (.t 540), []⟩])
                                (.seq
                                 (.seq
                                  (.reg [578] [
                                    ⟨none, (some 541), .mov (.t 51), []⟩,
                                    ⟨none, (some 542), .bin .neq (.t 541) (.c (.int .i64 0)), []⟩,
                                    ⟨none, (some 543), .mov (.t 542), []⟩,
                                    ⟨(some (543, false)), (some 544), .mov (.t 50), []⟩,
                                    ⟨(some (543, false)), (some 545), .len (.t 544), []⟩,
                                    ⟨(some (543, false)), (some 546), .mov (.t 5), []⟩,
                                    ⟨(some (543, false)), (some 547), .len (.t 546), []⟩,
                                    ⟨(some (543, false)), (some 548), .bin .neq (.t 545) (.t 547), []⟩,
                                    ⟨none, (some 549), .pick (.t 543) (.c (.bool true)) (.t 548), []⟩,
                                    ⟨none, (some 550), .mov (.t 549), []⟩,
                                    ⟨(some (550, false)), (some 551), .mov (.t 50), []⟩,
                                    ⟨(some (550, false)), (some 552), .idxA 27 (.t 551) (.c (.int .i64 0)), []⟩,
                                    ⟨(some (550, false)), (some 553), .ld 27 true (.t 552), []⟩,
                                    ⟨(some (550, false)), (some 554), .mov (.t 5), []⟩,
                                    ⟨(some (550, false)), (some 555), .mov (.t 46), []⟩,
                                    ⟨(some (550, false)), (some 556), .idxA 27 (.t 554) (.t 555), []⟩,
                                    ⟨(some (550, false)), (some 557), .ld 27 true (.t 556), []⟩,
                                    ⟨(some (550, false)), (some 558), .eq (.a (rb 24 (some .u16) ++ rb 3 (some .i8))) true (.t 553) (.t 557), []⟩,
                                    ⟨none, (some 559), .pick (.t 550) (.c (.bool true)) (.t 558), []⟩,
                                    ⟨none, (some 560), .mov (.t 559), []⟩,
                                    ⟨(some (560, false)), (some 561), .mov (.t 53), []⟩,
                                    ⟨(some (560, false)), (some 562), .mov (.t 55), []⟩,
                                    ⟨(some (560, false)), (some 563), .bin .neq (.t 561) (.t 562), []⟩,
                                    ⟨none, (some 564), .pick (.t 560) (.c (.bool true)) (.t 563), []⟩,
                                    ⟨none, (some 565), .mov (.t 564), []⟩,
                                    ⟨(some (565, false)), (some 566), .mov (.t 53), []⟩,
                                    ⟨(some (565, false)), (some 567), .bin .eql (.t 566) (.c (.int .i64 0)), []⟩,
                                    ⟨(some (565, false)), (some 568), .mov (.t 46), []⟩,
                                    ⟨(some (565, false)), (some 569), .bin .gtr (.t 568) (.c (.int .i64 0)), []⟩,
                                    ⟨(some (565, false)), (some 570), .eq .b true (.t 567) (.t 569), []⟩,
                                    ⟨none, (some 571), .pick (.t 565) (.c (.bool true)) (.t 570), []⟩,
                                    ⟨none, (some 572), .mov (.t 571), []⟩,
                                    ⟨(some (572, false)), (some 573), .mov (.t 50), []⟩,
                                    ⟨(some (572, false)), (some 574), .slcA 27 (.t 573) (some (.c (.int .i64 1))) none none, []⟩,
                                    ⟨(some (572, false)), (some 575), .mov (.t 47), []⟩,
                                    ⟨(some (572, false)), (some 576), .call true 280 [.t 574, .t 575], []⟩,
                                    ⟨(some (572, false)), (some 577), .un .not (.t 576), []⟩,
                                    ⟨none, (some 578), .pick (.t 572) (.c (.bool true)) (.t 577), []⟩])
                                  (.cond (.t 578)
                                   (.seq
                                    (.reg [4] [
                                      ⟨none, (some 4), .mov (.c (.bool false)), []⟩])
                                    .ret)
                                   .skip))
                                 (.seq
                                  (.seq
                                   (.reg [580] [
                                     ⟨none, (some 579), .mov (.t 53), []⟩,
                                     ⟨none, (some 580), .bin .neq (.t 579) (.c (.int .i64 0)), []⟩])
                                   (.cond (.t 580)
                                    (.seq
                                     (.reg [4] [
                                       ⟨none, (some 581), .mov (.t 53), []⟩,
                                       ⟨none, (some 582), .bin .eql (.t 581) (.c (.int .i64 4)), []⟩,
                                       ⟨none, (some 4), .mov (.t 582), []⟩])
                                     .ret)
                                    .skip))
                                  (.seq
                                   (.seq
                                    (.reg [587] [
                                      ⟨none, (some 583), .mov (.t 52), []⟩,
                                      ⟨none, (some 584), .len (.t 583), []⟩,
                                      ⟨none, (some 585), .mov (.t 5), []⟩,
                                      ⟨none, (some 586), .len (.t 585), []⟩,
                                      ⟨none, (some 587), .bin .neq (.t 584) (.t 586), []⟩])
                                    (.cond (.t 587)
                                     (.seq
                                      (.reg [4] [
                                        ⟨none, (some 4), .mov (.c (.bool false)), []⟩])
                                      .ret)
                                     .skip))
                                   (.seq
                                    (.seq
                                     (.reg [56] [
                                       ⟨none, (some 56), .mov (.c (.int .i64 0)), []⟩])
                                     (.block 10
                                      (.loop b57_6)))
                                    (.seq
                                     (.reg [58, 59] [
                                       ⟨none, (some 615), .mov (.t 52), []⟩,
                                       ⟨none, (some 616), .mov (.t 6), []⟩,
                                       ⟨none, (some 617), .mov (.t 7), []⟩,
                                       ⟨none, (some 618), .call true 98 [.t 615, .t 616, .t 617], []⟩,
                                       ⟨none, (some 614), .mov (.t 618), []⟩,
                                       ⟨none, (some 619), .ext (.t 614) 0, []⟩,
                                       ⟨none, (some 620), .ext (.t 614) 1, []⟩,
                                       ⟨none, (some 58), .zero true (zs 12 (.int .u16 0)), []⟩,
                                       ⟨none, (some 58), .stV 58 none 12 (.t 619), []⟩,
                                       ⟨none, (some 59), .mov (.t 620), []⟩])
                                     (.seq
                                      (.reg [60, 61] [
                                        ⟨none, (some 622), .mov (.t 52), []⟩,
                                        ⟨none, (some 623), .mov (.t 46), []⟩,
                                        ⟨none, (some 624), .call true 286 [.t 622, .t 623], []⟩,
                                        ⟨none, (some 621), .mov (.t 624), []⟩,
                                        ⟨none, (some 625), .ext (.t 621) 0, []⟩,
                                        ⟨none, (some 626), .ext (.t 621) 1, []⟩,
                                        ⟨none, (some 60), .mov (.t 625), []⟩,
                                        ⟨none, (some 61), .mov (.t 626), []⟩])
                                      (.seq
                                       (.reg [4] [
                                         ⟨none, (some 627), .mov (.t 59), []⟩,
                                         ⟨none, (some 628), .bin .eql (.t 627) (.c (.int .i64 0)), []⟩,
                                         ⟨none, (some 629), .mov (.t 628), []⟩,
                                         ⟨(some (629, true)), (some 630), .mov (.t 54), []⟩,
                                         ⟨(some (629, true)), (some 631), .ldV 58 none 12 true, []⟩,
                                         ⟨(some (629, true)), (some 632), .ldV 10 none 12 true, []⟩,
                                         ⟨(some (629, true)), (some 633), .eq (.a (rb 12 (some .u16))) false (.t 631) (.t 632), []⟩,
                                         ⟨(some (629, true)), (some 634), .eq .b false (.t 630) (.t 633), []⟩,
                                         ⟨none, (some 635), .pick (.t 629) (.t 634) (.c (.bool false)), []⟩,
                                         ⟨none, (some 636), .mov (.t 635), []⟩,
                                         ⟨(some (636, true)), (some 637), .mov (.t 61), []⟩,
                                         ⟨(some (636, true)), (some 638), .bin .eql (.t 637) (.c (.int .i64 0)), []⟩,
                                         ⟨none, (some 639), .pick (.t 636) (.t 638) (.c (.bool false)), []⟩,
                                         ⟨none, (some 640), .mov (.t 639), []⟩,
                                         ⟨(some (640, true)), (some 641), .mov (.t 60), []⟩,
                                         ⟨(some (640, true)), (some 642), .mov (.t 5), []⟩,
                                         ⟨(some (640, true)), (some 643), .call true 280 [.t 641, .t 642], []⟩,
                                         ⟨none, (some 644), .pick (.t 640) (.t 643) (.c (.bool false)), []⟩,
                                         ⟨none, (some 4), .mov (.t 644), []⟩])
                                       .ret)))))))))))))))))))))))))))))))))))))
def c57 : Fn := { np := 2, nt := 645, kind := .pure, res := [.t 4], body := k57 }

/- laws.a2Long -/
def k84 : Cd :=
  (.seq
   (.reg [4] [
     ⟨none, (some 4), .mov (.c (.bool false)), []⟩])
   (.seq
    (.reg [4] [
      ⟨none, (some 5), .mov (.t 0), []⟩,
      ⟨none, (some 6), .len (.t 5), []⟩,
      ⟨none, (some 7), .bin .gtr (.t 6) (.c (.int .i64 3000)), []⟩,
      ⟨none, (some 8), .mov (.t 7), []⟩,
      ⟨(some (8, false)), (some 9), .mov (.t 1), []⟩,
      ⟨(some (8, false)), (some 10), .len (.t 9), []⟩,
      ⟨(some (8, false)), (some 11), .bin .gtr (.t 10) (.c (.int .i64 3000)), []⟩,
      ⟨none, (some 12), .pick (.t 8) (.c (.bool true)) (.t 11), []⟩,
      ⟨none, (some 4), .mov (.t 12), []⟩])
    .ret))
def c84 : Fn := { np := 2, nt := 13, kind := .pure, res := [.t 4], body := k84 }

/- spec.A2Scene -/
def k96 : Cd :=
  (.seq
   (.reg [2] [
     ⟨none, (some 2), .mov (.c (.slice none 0 0)), []⟩])
   (.seq
    (.reg [2] [
      ⟨none, (some 3), .mov (.t 0), []⟩,
      ⟨none, (some 4), .call true 315 [.t 3], []⟩,
      ⟨none, (some 5), .call false 328 [.t 4], []⟩,
      ⟨none, (some 2), .mov (.t 5), []⟩])
    .ret))
def c96 : Fn := { np := 1, nt := 6, kind := .pure, res := [.t 2], body := k96 }

/- impl.ShowScene -/
def k97 : Cd :=
  (.seq
   (.reg [6, 7] [
     ⟨none, (some 6), .zero true (zs 12 (.int .u16 0)), []⟩,
     ⟨none, (some 7), .mov (.c (.int .i64 0)), []⟩])
   (.seq
    (.seq
     (.reg [8] [
       ⟨none, (some 9), .mov (.t 0), []⟩,
       ⟨none, (some 10), .mov (.t 1), []⟩,
       ⟨none, (some 11), .mov (.t 2), []⟩,
       ⟨none, (some 12), .call true 329 [.t 9, .t 10, .t 11], []⟩,
       ⟨none, (some 8), .mov (.t 12), []⟩])
     (.seq
      (.reg [14] [
        ⟨none, (some 13), .mov (.t 8), []⟩,
        ⟨none, (some 14), .bin .neq (.t 13) (.c (.int .i64 0)), []⟩])
      (.cond (.t 14)
       (.seq
        (.reg [6, 7] [
          ⟨none, (some 15), .agg (zs 12 (.int .u16 0)) [], []⟩,
          ⟨none, (some 16), .mov (.t 8), []⟩,
          ⟨none, (some 6), .stV 6 none 12 (.t 15), []⟩,
          ⟨none, (some 7), .mov (.t 16), []⟩])
        .ret)
       .skip)))
    (.seq
     (.reg [6, 7] [
       ⟨none, (some 17), .mov (.t 0), []⟩,
       ⟨none, (some 18), .mov (.t 1), []⟩,
       ⟨none, (some 19), .mov (.t 2), []⟩,
       ⟨none, (some 20), .call true 330 [.t 17, .t 18, .t 19], []⟩,
       ⟨none, (some 21), .fld 0 12 true (.t 20), []⟩,
       ⟨none, (some 6), .stV 6 none 12 (.t 21), []⟩,
       ⟨none, (some 7), .mov (.c (.int .i64 0)), []⟩])
     .ret)))
def c97 : Fn := { np := 3, nt := 22, kind := .pure, res := [.v 6 12 true, .t 7], body := k97 }

/- spec.ShowScene -/
def k98 : Cd :=
  (.seq
   (.reg [6, 7] [
     ⟨none, (some 6), .zero true (zs 12 (.int .u16 0)), []⟩,
     ⟨none, (some 7), .mov (.c (.int .i64 0)), []⟩])
   (.seq
    (.seq
     (.reg [8] [
       ⟨none, (some 10), .mov (.t 0), []⟩,
       ⟨none, (some 11), .mov (.t 1), []⟩,
       ⟨none, (some 12), .mov (.t 2), []⟩,
       ⟨none, (some 13), .call true 331 [.t 10, .t 11, .t 12], []⟩,
       ⟨none, (some 8), .mov (.t 13), []⟩])
     (.seq
      (.reg [15] [
        ⟨none, (some 14), .mov (.t 8), []⟩,
        ⟨none, (some 15), .bin .neq (.t 14) (.c (.int .i64 0)), []⟩])
      (.cond (.t 15)
       (.seq
        (.reg [6, 7] [
          ⟨none, (some 16), .agg (zs 12 (.int .u16 0)) [], []⟩,
          ⟨none, (some 17), .mov (.t 8), []⟩,
          ⟨none, (some 6), .stV 6 none 12 (.t 16), []⟩,
          ⟨none, (some 7), .mov (.t 17), []⟩])
        .ret)
       .skip)))
    (.seq
     (.reg [9] [
       ⟨none, (some 18), .mov (.t 0), []⟩,
       ⟨none, (some 19), .mov (.t 1), []⟩,
       ⟨none, (some 20), .mov (.t 2), []⟩,
       ⟨none, (some 21), .call true 332 [.t 18, .t 19, .t 20], []⟩,
       ⟨none, (some 9), .zero true (zs 24 (.int .u16 0)), []⟩,
       ⟨none, (some 9), .stV 9 none 24 (.t 21), []⟩])
     (.seq
      (.reg [6, 7] [
        ⟨none, (some 22), .adrF 9 none 0, []⟩,
        ⟨none, (some 23), .ldV 9 (some 22) 12 true, []⟩,
        ⟨none, (some 6), .stV 6 none 12 (.t 23), []⟩,
        ⟨none, (some 7), .mov (.c (.int .i64 0)), []⟩])
      .ret))))
def c98 : Fn := { np := 3, nt := 24, kind := .pure, res := [.v 6 12 true, .t 7], body := k98 }

/- impl.FlattenScene -/
def k99 : Cd :=
  (.seq
   (.reg [6, 7] [
     ⟨none, (some 6), .zero true (zs 24 (.int .u16 0)), []⟩,
     ⟨none, (some 7), .mov (.c (.int .i64 0)), []⟩])
   (.seq
    (.seq
     (.reg [8] [
       ⟨none, (some 9), .mov (.t 0), []⟩,
       ⟨none, (some 10), .mov (.t 1), []⟩,
       ⟨none, (some 11), .mov (.t 2), []⟩,
       ⟨none, (some 12), .call true 329 [.t 9, .t 10, .t 11], []⟩,
       ⟨none, (some 8), .mov (.t 12), []⟩])
     (.seq
      (.reg [14] [
        ⟨none, (some 13), .mov (.t 8), []⟩,
        ⟨none, (some 14), .bin .neq (.t 13) (.c (.int .i64 0)), []⟩])
      (.cond (.t 14)
       (.seq
        (.reg [6, 7] [
          ⟨none, (some 15), .agg (zs 24 (.int .u16 0)) [], []⟩,
          ⟨none, (some 16), .mov (.t 8), []⟩,
          ⟨none, (some 6), .stV 6 none 24 (.t 15), []⟩,
          ⟨none, (some 7), .mov (.t 16), []⟩])
        .ret)
       .skip)))
    (.seq
     (.reg [6, 7] [
       ⟨none, (some 17), .mov (.t 0), []⟩,
       ⟨none, (some 18), .mov (.t 1), []⟩,
       ⟨none, (some 19), .mov (.t 2), []⟩,
       ⟨none, (some 20), .call true 330 [.t 17, .t 18, .t 19], []⟩,
       ⟨none, (some 6), .stV 6 none 24 (.t 20), []⟩,
       ⟨none, (some 7), .mov (.c (.int .i64 0)), []⟩])
     .ret)))
def c99 : Fn := { np := 3, nt := 21, kind := .pure, res := [.v 6 24 true, .t 7], body := k99 }

/- impl.OffsetAt -/
def k101 : Cd :=
  (.seq
   (.reg [8, 9, 10] [
     ⟨none, (some 8), .mov (.c (.int .i64 0)), []⟩,
     ⟨none, (some 9), .mov (.c (.int .i64 0)), []⟩,
     ⟨none, (some 10), .mov (.c (.int .i64 0)), []⟩])
   (.seq
    (.seq
     (.reg [11] [
       ⟨none, (some 14), .mov (.t 0), []⟩,
       ⟨none, (some 15), .mov (.t 2), []⟩,
       ⟨none, (some 16), .mov (.t 3), []⟩,
       ⟨none, (some 17), .call true 329 [.t 14, .t 15, .t 16], []⟩,
       ⟨none, (some 11), .mov (.t 17), []⟩])
     (.seq
      (.reg [19] [
        ⟨none, (some 18), .mov (.t 11), []⟩,
        ⟨none, (some 19), .bin .neq (.t 18) (.c (.int .i64 0)), []⟩])
      (.cond (.t 19)
       (.seq
        (.reg [8, 9, 10] [
          ⟨none, (some 20), .mov (.t 11), []⟩,
          ⟨none, (some 8), .mov (.c (.int .i64 0)), []⟩,
          ⟨none, (some 9), .mov (.c (.int .i64 0)), []⟩,
          ⟨none, (some 10), .mov (.t 20), []⟩])
        .ret)
       .skip)))
    (.seq
     (.seq
      (.reg [24] [
        ⟨none, (some 21), .mov (.t 0), []⟩,
        ⟨none, (some 22), .mov (.t 1), []⟩,
        ⟨none, (some 23), .call true 334 [.t 21, .t 22], []⟩,
        ⟨none, (some 24), .un .not (.t 23), []⟩])
      (.cond (.t 24)
       (.seq
        (.reg [8, 9, 10] [
          ⟨none, (some 8), .mov (.c (.int .i64 0)), []⟩,
          ⟨none, (some 9), .mov (.c (.int .i64 0)), []⟩,
          ⟨none, (some 10), .mov (.c (.int .i64 2)), []⟩])
        .ret)
       .skip))
     (.seq
      (.reg [12, 13] [
        ⟨none, (some 26), .mov (.t 0), []⟩,
        ⟨none, (some 27), .mov (.t 1), []⟩,
        ⟨none, (some 28), .idxA 27 (.t 26) (.t 27), []⟩,
        ⟨none, (some 29), .ld 27 true (.t 28), []⟩,
        ⟨none, (some 30), .mov (.t 2), []⟩,
        ⟨none, (some 31), .mov (.t 3), []⟩,
        ⟨none, (some 32), .call true 335 [.t 29, .t 30, .t 31], []⟩,
        ⟨none, (some 25), .mov (.t 32), []⟩,
        ⟨none, (some 33), .ext (.t 25) 0, []⟩,
        ⟨none, (some 34), .ext (.t 25) 1, []⟩,
        ⟨none, (some 12), .mov (.t 33), []⟩,
        ⟨none, (some 13), .mov (.t 34), []⟩])
      (.seq
       (.reg [8, 9, 10] [
         ⟨none, (some 35), .mov (.t 12), []⟩,
         ⟨none, (some 36), .mov (.t 13), []⟩,
         ⟨none, (some 8), .mov (.t 35), []⟩,
         ⟨none, (some 9), .mov (.t 36), []⟩,
         ⟨none, (some 10), .mov (.c (.int .i64 0)), []⟩])
       .ret)))))
def c101 : Fn := { np := 4, nt := 37, kind := .pure, res := [.t 8, .t 9, .t 10], body := k101 }

/- laws.a2At -/
def k124 : Cd :=
  (.seq
   (.reg [6] [
     ⟨none, (some 6), .mov (.c (.int .i64 0)), []⟩])
   (.seq
    (.seq
     (.reg [14] [
       ⟨none, (some 7), .mov (.t 1), []⟩,
       ⟨none, (some 8), .mov (.t 0), []⟩,
       ⟨none, (some 9), .len (.t 8), []⟩,
       ⟨none, (some 10), .bin .geq (.t 7) (.t 9), []⟩,
       ⟨none, (some 11), .mov (.t 10), []⟩,
       ⟨(some (11, false)), (some 12), .mov (.t 2), []⟩,
       ⟨(some (11, false)), (some 13), .bin .lss (.t 12) (.c (.int .i64 1)), []⟩,
       ⟨none, (some 14), .pick (.t 11) (.c (.bool true)) (.t 13), []⟩])
     (.cond (.t 14)
      (.seq
       (.reg [6] [
         ⟨none, (some 6), .mov (.c (.int .i64 0)), []⟩])
       .ret)
      .skip))
    (.seq
     (.reg [6] [
       ⟨none, (some 15), .mov (.t 0), []⟩,
       ⟨none, (some 16), .mov (.t 1), []⟩,
       ⟨none, (some 17), .idxA 1 (.t 15) (.t 16), []⟩,
       ⟨none, (some 18), .ld 1 false (.t 17), []⟩,
       ⟨none, (some 19), .conv .i64 (.t 18), []⟩,
       ⟨none, (some 20), .mov (.t 2), []⟩,
       ⟨none, (some 21), .bin .rem (.t 19) (.t 20), []⟩,
       ⟨none, (some 6), .mov (.t 21), []⟩])
     .ret)))
def c124 : Fn := { np := 3, nt := 22, kind := .pure, res := [.t 6], body := k124 }

/- spec.A2Same -/
def k130 : Cd :=
  (.seq
   (.reg [4] [
     ⟨none, (some 4), .mov (.c (.bool false)), []⟩])
   (.seq
    (.reg [4] [
      ⟨none, (some 5), .mov (.t 0), []⟩,
      ⟨none, (some 6), .mov (.t 1), []⟩,
      ⟨none, (some 7), .call true 356 [.t 5, .t 6], []⟩,
      ⟨none, (some 4), .mov (.t 7), []⟩])
    .ret))
def c130 : Fn := { np := 2, nt := 8, kind := .pure, res := [.t 4], body := k130 }

/- spec.TrimScene -/
def b190_1 : Cd :=
  (.seq
   (.seq
    (.reg [28] [
      ⟨none, (some 25), .mov (.t 11), []⟩,
      ⟨none, (some 26), .mov (.t 10), []⟩,
      ⟨none, (some 27), .len (.t 26), []⟩,
      ⟨none, (some 28), .bin .lss (.t 25) (.t 27), []⟩])
    (.cond (.t 28)
     .skip
     (.exit 0)))
   (.seq
    (.block 1
     (.seq
      (.reg [35] [
        ⟨none, (some 31), .mov (.t 10), []⟩,
        ⟨none, (some 32), .mov (.t 11), []⟩,
        ⟨none, (some 33), .idxA 12 (.t 31) (.t 32), []⟩,
        ⟨none, (some 34), .call true 409 [.t 33], []⟩,
        ⟨none, (some 35), .bin .gtr (.t 34) (.c (.int .i64 0)), []⟩])
      (.cond (.t 35)
       (.reg [9] [
         ⟨none, (some 36), .mov (.t 9), []⟩,
         ⟨none, (some 37), .mov (.t 0), []⟩,
         ⟨none, (some 38), .mov (.t 11), []⟩,
         ⟨none, (some 39), .idxA 27 (.t 37) (.t 38), []⟩,
         ⟨none, (some 40), .ld 27 true (.t 39), []⟩,
         ⟨none, (some 41), .bldS 27 1 [.int .u16 0, .int .u16 0, .int .u16 0, .int .u16 0, .int .u16 0, .int .u16 0, .int .u16 0, .int .u16 0, .int .u16 0, .int .u16 0, .int .u16 0, .int .u16 0, .int .u16 0, .int .u16 0, .int .u16 0, .int .u16 0, .int .u16 0, .int .u16 0, .int .u16 0, .int .u16 0, .int .u16 0, .int .u16 0, .int .u16 0, .int .u16 0, .int .i8 0, .int .i8 0, .int .i8 0] [(0, 27, (.t 40))], []⟩,
         ⟨none, (some 42), .app 27 52 (.t 36) (.t 41), []⟩,
         ⟨none, (some 9), .mov (.t 42), []⟩])
       .skip)))
    (.reg [11] [
      ⟨none, (some 29), .mov (.t 11), []⟩,
      ⟨none, (some 30), .bin .add (.t 29) (.c (.int .i64 1)), []⟩,
      ⟨none, (some 11), .mov (.t 30), []⟩])))
def k190 : Cd :=
  (.seq
   (.reg [6, 7] [
     ⟨none, (some 6), .mov (.c (.slice none 0 0)), []⟩,
     ⟨none, (some 7), .mov (.c (.int .i64 0)), []⟩])
   (.seq
    (.seq
     (.reg [8] [
       ⟨none, (some 12), .mov (.t 0), []⟩,
       ⟨none, (some 13), .mov (.t 1), []⟩,
       ⟨none, (some 14), .mov (.t 2), []⟩,
       ⟨none, (some 15), .call true 331 [.t 12, .t 13, .t 14], []⟩,
       ⟨none, (some 8), .mov (.t 15), []⟩])
     (.seq
      (.reg [17] [
        ⟨none, (some 16), .mov (.t 8), []⟩,
        ⟨none, (some 17), .bin .neq (.t 16) (.c (.int .i64 0)), []⟩])
      (.cond (.t 17)
       (.seq
        (.reg [6, 7] [
          ⟨none, (some 18), .bldS 27 0 [.int .u16 0, .int .u16 0, .int .u16 0, .int .u16 0, .int .u16 0, .int .u16 0, .int .u16 0, .int .u16 0, .int .u16 0, .int .u16 0, .int .u16 0, .int .u16 0, .int .u16 0, .int .u16 0, .int .u16 0, .int .u16 0, .int .u16 0, .int .u16 0, .int .u16 0, .int .u16 0, .int .u16 0, .int .u16 0, .int .u16 0, .int .u16 0, .int .i8 0, .int .i8 0, .int .i8 0] [], []⟩,
          ⟨none, (some 19), .mov (.t 8), []⟩,
          ⟨none, (some 6), .mov (.t 18), []⟩,
          ⟨none, (some 7), .mov (.t 19), []⟩])
        .ret)
       .skip)))
    (.seq
     (.reg [9] [
       ⟨none, (some 20), .bldS 27 0 [.int .u16 0, .int .u16 0, .int .u16 0, .int .u16 0, .int .u16 0, .int .u16 0, .int .u16 0, .int .u16 0, .int .u16 0, .int .u16 0, .int .u16 0, .int .u16 0, .int .u16 0, .int .u16 0, .int .u16 0, .int .u16 0, .int .u16 0, .int .u16 0, .int .u16 0, .int .u16 0, .int .u16 0, .int .u16 0, .int .u16 0, .int .u16 0, .int .i8 0, .int .i8 0, .int .i8 0] [], []⟩,
       ⟨none, (some 9), .mov (.t 20), []⟩])
     (.seq
      (.reg [10] [
        ⟨none, (some 21), .mov (.t 0), []⟩,
        ⟨none, (some 22), .mov (.t 1), []⟩,
        ⟨none, (some 23), .mov (.t 2), []⟩,
        ⟨none, (some 24), .call true 408 [.t 21, .t 22, .t 23], []⟩,
        ⟨none, (some 10), .mov (.t 24), []⟩])
      (.seq
       (.seq
        (.reg [11] [
          ⟨none, (some 11), .mov (.c (.int .i64 0)), []⟩])
        (.block 0
         (.loop b190_1)))
       (.seq
        (.reg [6, 7] [
          ⟨none, (some 43), .mov (.t 9), []⟩,
          ⟨none, (some 6), .mov (.t 43), []⟩,
          ⟨none, (some 7), .mov (.c (.int .i64 0)), []⟩])
        .ret))))))
def c190 : Fn := { np := 3, nt := 44, kind := .pure, res := [.t 6, .t 7], body := k190 }

/- impl.TrimScene -/
def b192_1 : Cd :=
  (.seq
   (.reg [26] [
     ⟨none, (some 26), .bin .lss (.t 25) (.t 24), []⟩])
   (.seq
    (.cond (.t 26)
     .skip
     (.exit 0))
    (.seq
     (.block 1
      (.seq
       (.reg [11, 10] [
         ⟨none, (some 27), .mov (.t 25), []⟩,
         ⟨none, (some 28), .idxA 12 (.t 23) (.t 25), []⟩,
         ⟨none, (some 29), .ld 12 true (.t 28), []⟩,
         ⟨none, (some 11), .zero true (zs 12 (.int .u16 0)), []⟩,
         ⟨none, (some 10), .mov (.t 27), []⟩,
         ⟨none, (some 11), .stV 11 none 12 (.t 29), []⟩])
       (.seq
        (.reg [32] [
          ⟨none, (some 30), .ldV 11 none 12 true, []⟩,
          ⟨none, (some 31), .call true 393 [.t 30], []⟩,
          ⟨none, (some 32), .bin .gtr (.t 31) (.c (.int .i64 0)), []⟩])
        (.cond (.t 32)
         (.reg [9] [
           ⟨none, (some 33), .mov (.t 9), []⟩,
           ⟨none, (some 34), .mov (.t 0), []⟩,
           ⟨none, (some 35), .mov (.t 10), []⟩,
           ⟨none, (some 36), .idxA 27 (.t 34) (.t 35), []⟩,
           ⟨none, (some 37), .ld 27 true (.t 36), []⟩,
           ⟨none, (some 38), .bldS 27 1 [.int .u16 0, .int .u16 0, .int .u16 0, .int .u16 0, .int .u16 0, .int .u16 0, .int .u16 0, .int .u16 0, .int .u16 0, .int .u16 0, .int .u16 0, .int .u16 0, .int .u16 0, .int .u16 0, .int .u16 0, .int .u16 0, .int .u16 0, .int .u16 0, .int .u16 0, .int .u16 0, .int .u16 0, .int .u16 0, .int .u16 0, .int .u16 0, .int .i8 0, .int .i8 0, .int .i8 0] [(0, 27, (.t 37))], []⟩,
           ⟨none, (some 39), .app 27 52 (.t 33) (.t 38), []⟩,
           ⟨none, (some 9), .mov (.t 39), []⟩])
         .skip))))
     (.reg [25] [
       ⟨none, (some 40), .bin .add (.t 25) (.c (.int .i64 1)), []⟩,
       ⟨none, (some 25), .mov (.t 40), []⟩]))))
def k192 : Cd :=
  (.seq
   (.reg [6, 7] [
     ⟨none, (some 6), .mov (.c (.slice none 0 0)), []⟩,
     ⟨none, (some 7), .mov (.c (.int .i64 0)), []⟩])
   (.seq
    (.seq
     (.reg [8] [
       ⟨none, (some 12), .mov (.t 0), []⟩,
       ⟨none, (some 13), .mov (.t 1), []⟩,
       ⟨none, (some 14), .mov (.t 2), []⟩,
       ⟨none, (some 15), .call true 329 [.t 12, .t 13, .t 14], []⟩,
       ⟨none, (some 8), .mov (.t 15), []⟩])
     (.seq
      (.reg [17] [
        ⟨none, (some 16), .mov (.t 8), []⟩,
        ⟨none, (some 17), .bin .neq (.t 16) (.c (.int .i64 0)), []⟩])
      (.cond (.t 17)
       (.seq
        (.reg [6, 7] [
          ⟨none, (some 18), .mov (.t 8), []⟩,
          ⟨none, (some 6), .mov (.c (.slice none 0 0)), []⟩,
          ⟨none, (some 7), .mov (.t 18), []⟩])
        .ret)
       .skip)))
    (.seq
     (.reg [9] [
       ⟨none, (some 19), .bldS 27 0 [.int .u16 0, .int .u16 0, .int .u16 0, .int .u16 0, .int .u16 0, .int .u16 0, .int .u16 0, .int .u16 0, .int .u16 0, .int .u16 0, .int .u16 0, .int .u16 0, .int .u16 0, .int .u16 0, .int .u16 0, .int .u16 0, .int .u16 0, .int .u16 0, .int .u16 0, .int .u16 0, .int .u16 0, .int .u16 0, .int .u16 0, .int .u16 0, .int .i8 0, .int .i8 0, .int .i8 0] [], []⟩,
       ⟨none, (some 9), .mov (.t 19), []⟩])
     (.seq
      (.seq
       (.reg [23, 24, 25] [
         ⟨none, (some 20), .mov (.t 0), []⟩,
         ⟨none, (some 21), .mov (.t 1), []⟩,
         ⟨none, (some 22), .mov (.t 2), []⟩,
         ⟨none, (some 23), .call true 412 [.t 20, .t 21, .t 22], []⟩,
         ⟨none, (some 24), .len (.t 23), []⟩,
         ⟨none, (some 25), .mov (.c (.int .i64 0)), []⟩])
       (.block 0
        (.loop b192_1)))
      (.seq
       (.reg [6, 7] [
         ⟨none, (some 41), .mov (.t 9), []⟩,
         ⟨none, (some 6), .mov (.t 41), []⟩,
         ⟨none, (some 7), .mov (.c (.int .i64 0)), []⟩])
       .ret)))))
def c192 : Fn := { np := 3, nt := 42, kind := .pure, res := [.t 6, .t 7], body := k192 }

/- impl.PanScene -/
def b199_1 : Cd :=
  (.seq
   (.reg [36] [
     ⟨none, (some 36), .bin .lss (.t 35) (.t 34), []⟩])
   (.seq
    (.cond (.t 36)
     .skip
     (.exit 0))
    (.seq
     (.block 1
      (.seq
       (.reg [16] [
         ⟨none, (some 37), .mov (.t 35), []⟩,
         ⟨none, (some 16), .mov (.t 37), []⟩])
       (.seq
        (.seq
         (.reg [49] [
           ⟨none, (some 38), .mov (.t 1), []⟩,
           ⟨none, (some 39), .mov (.t 16), []⟩,
           ⟨none, (some 40), .mov (.t 3), []⟩,
           ⟨none, (some 41), .bin .mul (.t 39) (.t 40), []⟩,
           ⟨none, (some 42), .bin .add (.t 38) (.t 41), []⟩,
           ⟨none, (some 43), .mov (.t 2), []⟩,
           ⟨none, (some 44), .mov (.t 16), []⟩,
           ⟨none, (some 45), .mov (.t 4), []⟩,
           ⟨none, (some 46), .bin .mul (.t 44) (.t 45), []⟩,
           ⟨none, (some 47), .bin .add (.t 43) (.t 46), []⟩,
           ⟨none, (some 48), .call true 416 [.t 42, .t 47], []⟩,
           ⟨none, (some 49), .un .not (.t 48), []⟩])
         (.cond (.t 49)
          (.seq
           (.reg [12, 13] [
             ⟨none, (some 12), .mov (.c (.slice none 0 0)), []⟩,
             ⟨none, (some 13), .mov (.c (.int .i64 2)), []⟩])
           .ret)
          .skip))
        (.reg [15] [
          ⟨none, (some 50), .mov (.t 15), []⟩,
          ⟨none, (some 51), .mov (.t 0), []⟩,
          ⟨none, (some 52), .mov (.t 1), []⟩,
          ⟨none, (some 53), .mov (.t 16), []⟩,
          ⟨none, (some 54), .mov (.t 3), []⟩,
          ⟨none, (some 55), .bin .mul (.t 53) (.t 54), []⟩,
          ⟨none, (some 56), .bin .add (.t 52) (.t 55), []⟩,
          ⟨none, (some 57), .mov (.t 2), []⟩,
          ⟨none, (some 58), .mov (.t 16), []⟩,
          ⟨none, (some 59), .mov (.t 4), []⟩,
          ⟨none, (some 60), .bin .mul (.t 58) (.t 59), []⟩,
          ⟨none, (some 61), .bin .add (.t 57) (.t 60), []⟩,
          ⟨none, (some 62), .call true 330 [.t 51, .t 56, .t 61], []⟩,
          ⟨none, (some 63), .fld 0 12 true (.t 62), []⟩,
          ⟨none, (some 64), .bldS 12 1 (zs 12 (.int .u16 0)) [(0, 12, (.t 63))], []⟩,
          ⟨none, (some 65), .app 12 24 (.t 50) (.t 64), []⟩,
          ⟨none, (some 15), .mov (.t 65), []⟩]))))
     (.reg [35] [
       ⟨none, (some 66), .bin .add (.t 35) (.c (.int .i64 1)), []⟩,
       ⟨none, (some 35), .mov (.t 66), []⟩]))))
def k199 : Cd :=
  (.seq
   (.reg [12, 13] [
     ⟨none, (some 12), .mov (.c (.slice none 0 0)), []⟩,
     ⟨none, (some 13), .mov (.c (.int .i64 0)), []⟩])
   (.seq
    (.seq
     (.reg [14] [
       ⟨none, (some 17), .mov (.t 0), []⟩,
       ⟨none, (some 18), .mov (.t 1), []⟩,
       ⟨none, (some 19), .mov (.t 2), []⟩,
       ⟨none, (some 20), .call true 329 [.t 17, .t 18, .t 19], []⟩,
       ⟨none, (some 14), .mov (.t 20), []⟩])
     (.seq
      (.reg [22] [
        ⟨none, (some 21), .mov (.t 14), []⟩,
        ⟨none, (some 22), .bin .neq (.t 21) (.c (.int .i64 0)), []⟩])
      (.cond (.t 22)
       (.seq
        (.reg [12, 13] [
          ⟨none, (some 23), .mov (.t 14), []⟩,
          ⟨none, (some 12), .mov (.c (.slice none 0 0)), []⟩,
          ⟨none, (some 13), .mov (.t 23), []⟩])
        .ret)
       .skip)))
    (.seq
     (.seq
      (.reg [32] [
        ⟨none, (some 24), .mov (.t 5), []⟩,
        ⟨none, (some 25), .call true 295 [.t 24, .c (.int .i64 0), .c (.int .i64 40)], []⟩,
        ⟨none, (some 26), .un .not (.t 25), []⟩,
        ⟨none, (some 27), .mov (.t 26), []⟩,
        ⟨(some (27, false)), (some 28), .mov (.t 3), []⟩,
        ⟨(some (27, false)), (some 29), .mov (.t 4), []⟩,
        ⟨(some (27, false)), (some 30), .call true 416 [.t 28, .t 29], []⟩,
        ⟨(some (27, false)), (some 31), .un .not (.t 30), []⟩,
        ⟨none, (some 32), .pick (.t 27) (.c (.bool true)) (.t 31), []⟩])
      (.cond (.t 32)
       (.seq
        (.reg [12, 13] [
          ⟨none, (some 12), .mov (.c (.slice none 0 0)), []⟩,
          ⟨none, (some 13), .mov (.c (.int .i64 2)), []⟩])
        .ret)
       .skip))
     (.seq
      (.reg [15] [
        ⟨none, (some 33), .bldS 12 0 (zs 12 (.int .u16 0)) [], []⟩,
        ⟨none, (some 15), .mov (.t 33), []⟩])
      (.seq
       (.seq
        (.reg [34, 35] [
          ⟨none, (some 34), .mov (.t 5), []⟩,
          ⟨none, (some 35), .mov (.c (.int .i64 0)), []⟩])
        (.block 0
         (.loop b199_1)))
       (.seq
        (.reg [12, 13] [
          ⟨none, (some 67), .mov (.t 15), []⟩,
          ⟨none, (some 12), .mov (.t 67), []⟩,
          ⟨none, (some 13), .mov (.c (.int .i64 0)), []⟩])
        .ret))))))
def c199 : Fn := { np := 6, nt := 68, kind := .pure, res := [.t 12, .t 13], body := k199 }

/- impl.ValidFrame -/
def k234 : Cd :=
  (.seq
   (.reg [1, 2] [
     ⟨none, (some 1), .box 12 (.t 0), []⟩,
     ⟨none, (some 2), .mov (.c (.bool false)), []⟩])
   (.seq
    (.reg [2] [
      ⟨none, (some 3), .slcP 12 1 (.t 1), []⟩,
      ⟨none, (some 4), .call true 445 [.t 3, .f 446], []⟩,
      ⟨none, (some 5), .un .not (.t 4), []⟩,
      ⟨none, (some 2), .mov (.t 5), []⟩])
    .ret))
def c234 : Fn := { np := 1, nt := 6, kind := .pure, res := [.t 2], body := k234 }

/- spec.FlattenScene -/
def k276 : Cd :=
  (.seq
   (.reg [6, 7] [
     ⟨none, (some 6), .zero true (zs 24 (.int .u16 0)), []⟩,
     ⟨none, (some 7), .mov (.c (.int .i64 0)), []⟩])
   (.seq
    (.seq
     (.reg [8] [
       ⟨none, (some 9), .mov (.t 0), []⟩,
       ⟨none, (some 10), .mov (.t 1), []⟩,
       ⟨none, (some 11), .mov (.t 2), []⟩,
       ⟨none, (some 12), .call true 331 [.t 9, .t 10, .t 11], []⟩,
       ⟨none, (some 8), .mov (.t 12), []⟩])
     (.seq
      (.reg [14] [
        ⟨none, (some 13), .mov (.t 8), []⟩,
        ⟨none, (some 14), .bin .neq (.t 13) (.c (.int .i64 0)), []⟩])
      (.cond (.t 14)
       (.seq
        (.reg [6, 7] [
          ⟨none, (some 15), .agg (zs 24 (.int .u16 0)) [], []⟩,
          ⟨none, (some 16), .mov (.t 8), []⟩,
          ⟨none, (some 6), .stV 6 none 24 (.t 15), []⟩,
          ⟨none, (some 7), .mov (.t 16), []⟩])
        .ret)
       .skip)))
    (.seq
     (.reg [6, 7] [
       ⟨none, (some 17), .mov (.t 0), []⟩,
       ⟨none, (some 18), .mov (.t 1), []⟩,
       ⟨none, (some 19), .mov (.t 2), []⟩,
       ⟨none, (some 20), .call true 332 [.t 17, .t 18, .t 19], []⟩,
       ⟨none, (some 6), .stV 6 none 24 (.t 20), []⟩,
       ⟨none, (some 7), .mov (.c (.int .i64 0)), []⟩])
     .ret)))
def c276 : Fn := { np := 3, nt := 21, kind := .pure, res := [.v 6 24 true, .t 7], body := k276 }

/- impl.SeenDots -/
def b277_1 : Cd :=
  (.seq
   (.reg [26] [
     ⟨none, (some 26), .bin .lss (.t 25) (.t 24), []⟩])
   (.seq
    (.cond (.t 26)
     .skip
     (.exit 0))
    (.seq
     (.block 1
      (.seq
       (.reg [11] [
         ⟨none, (some 27), .idxA 12 (.t 23) (.t 25), []⟩,
         ⟨none, (some 28), .ld 12 true (.t 27), []⟩,
         ⟨none, (some 11), .zero true (zs 12 (.int .u16 0)), []⟩,
         ⟨none, (some 11), .stV 11 none 12 (.t 28), []⟩])
       (.reg [9] [
         ⟨none, (some 29), .mov (.t 9), []⟩,
         ⟨none, (some 30), .ldV 11 none 12 true, []⟩,
         ⟨none, (some 31), .call true 393 [.t 30], []⟩,
         ⟨none, (some 32), .bldS 1 1 [.int .i64 0] [(0, 1, (.t 31))], []⟩,
         ⟨none, (some 33), .app 1 8 (.t 29) (.t 32), []⟩,
         ⟨none, (some 9), .mov (.t 33), []⟩])))
     (.reg [25] [
       ⟨none, (some 34), .bin .add (.t 25) (.c (.int .i64 1)), []⟩,
       ⟨none, (some 25), .mov (.t 34), []⟩]))))
def k277 : Cd :=
  (.seq
   (.reg [6, 7] [
     ⟨none, (some 6), .mov (.c (.slice none 0 0)), []⟩,
     ⟨none, (some 7), .mov (.c (.int .i64 0)), []⟩])
   (.seq
    (.seq
     (.reg [8] [
       ⟨none, (some 12), .mov (.t 0), []⟩,
       ⟨none, (some 13), .mov (.t 1), []⟩,
       ⟨none, (some 14), .mov (.t 2), []⟩,
       ⟨none, (some 15), .call true 329 [.t 12, .t 13, .t 14], []⟩,
       ⟨none, (some 8), .mov (.t 15), []⟩])
     (.seq
      (.reg [17] [
        ⟨none, (some 16), .mov (.t 8), []⟩,
        ⟨none, (some 17), .bin .neq (.t 16) (.c (.int .i64 0)), []⟩])
      (.cond (.t 17)
       (.seq
        (.reg [6, 7] [
          ⟨none, (some 18), .mov (.t 8), []⟩,
          ⟨none, (some 6), .mov (.c (.slice none 0 0)), []⟩,
          ⟨none, (some 7), .mov (.t 18), []⟩])
        .ret)
       .skip)))
    (.seq
     (.reg [9] [
       ⟨none, (some 19), .bldS 1 0 [.int .i64 0] [], []⟩,
       ⟨none, (some 9), .mov (.t 19), []⟩])
     (.seq
      (.seq
       (.reg [23, 24, 25] [
         ⟨none, (some 20), .mov (.t 0), []⟩,
         ⟨none, (some 21), .mov (.t 1), []⟩,
         ⟨none, (some 22), .mov (.t 2), []⟩,
         ⟨none, (some 23), .call true 412 [.t 20, .t 21, .t 22], []⟩,
         ⟨none, (some 24), .len (.t 23), []⟩,
         ⟨none, (some 25), .mov (.c (.int .i64 0)), []⟩])
       (.block 0
        (.loop b277_1)))
      (.seq
       (.reg [6, 7] [
         ⟨none, (some 35), .mov (.t 9), []⟩,
         ⟨none, (some 6), .mov (.t 35), []⟩,
         ⟨none, (some 7), .mov (.c (.int .i64 0)), []⟩])
       .ret)))))
def c277 : Fn := { np := 3, nt := 36, kind := .pure, res := [.t 6, .t 7], body := k277 }

/- impl.HiddenIn -/
def b278_1 : Cd :=
  (.seq
   (.reg [26] [
     ⟨none, (some 26), .bin .lss (.t 25) (.t 24), []⟩])
   (.seq
    (.cond (.t 26)
     .skip
     (.exit 0))
    (.seq
     (.block 1
      (.seq
       (.reg [11, 10] [
         ⟨none, (some 27), .mov (.t 25), []⟩,
         ⟨none, (some 28), .idxA 12 (.t 23) (.t 25), []⟩,
         ⟨none, (some 29), .ld 12 true (.t 28), []⟩,
         ⟨none, (some 11), .zero true (zs 12 (.int .u16 0)), []⟩,
         ⟨none, (some 10), .mov (.t 27), []⟩,
         ⟨none, (some 11), .stV 11 none 12 (.t 29), []⟩])
       (.seq
        (.reg [32] [
          ⟨none, (some 30), .ldV 11 none 12 true, []⟩,
          ⟨none, (some 31), .call true 393 [.t 30], []⟩,
          ⟨none, (some 32), .bin .eql (.t 31) (.c (.int .i64 0)), []⟩])
        (.cond (.t 32)
         (.reg [9] [
           ⟨none, (some 33), .mov (.t 9), []⟩,
           ⟨none, (some 34), .mov (.t 10), []⟩,
           ⟨none, (some 35), .bldS 1 1 [.int .i64 0] [(0, 1, (.t 34))], []⟩,
           ⟨none, (some 36), .app 1 8 (.t 33) (.t 35), []⟩,
           ⟨none, (some 9), .mov (.t 36), []⟩])
         .skip))))
     (.reg [25] [
       ⟨none, (some 37), .bin .add (.t 25) (.c (.int .i64 1)), []⟩,
       ⟨none, (some 25), .mov (.t 37), []⟩]))))
def k278 : Cd :=
  (.seq
   (.reg [6, 7] [
     ⟨none, (some 6), .mov (.c (.slice none 0 0)), []⟩,
     ⟨none, (some 7), .mov (.c (.int .i64 0)), []⟩])
   (.seq
    (.seq
     (.reg [8] [
       ⟨none, (some 12), .mov (.t 0), []⟩,
       ⟨none, (some 13), .mov (.t 1), []⟩,
       ⟨none, (some 14), .mov (.t 2), []⟩,
       ⟨none, (some 15), .call true 329 [.t 12, .t 13, .t 14], []⟩,
       ⟨none, (some 8), .mov (.t 15), []⟩])
     (.seq
      (.reg [17] [
        ⟨none, (some 16), .mov (.t 8), []⟩,
        ⟨none, (some 17), .bin .neq (.t 16) (.c (.int .i64 0)), []⟩])
      (.cond (.t 17)
       (.seq
        (.reg [6, 7] [
          ⟨none, (some 18), .mov (.t 8), []⟩,
          ⟨none, (some 6), .mov (.c (.slice none 0 0)), []⟩,
          ⟨none, (some 7), .mov (.t 18), []⟩])
        .ret)
       .skip)))
    (.seq
     (.reg [9] [
       ⟨none, (some 19), .bldS 1 0 [.int .i64 0] [], []⟩,
       ⟨none, (some 9), .mov (.t 19), []⟩])
     (.seq
      (.seq
       (.reg [23, 24, 25] [
         ⟨none, (some 20), .mov (.t 0), []⟩,
         ⟨none, (some 21), .mov (.t 1), []⟩,
         ⟨none, (some 22), .mov (.t 2), []⟩,
         ⟨none, (some 23), .call true 412 [.t 20, .t 21, .t 22], []⟩,
         ⟨none, (some 24), .len (.t 23), []⟩,
         ⟨none, (some 25), .mov (.c (.int .i64 0)), []⟩])
       (.block 0
        (.loop b278_1)))
      (.seq
       (.reg [6, 7] [
         ⟨none, (some 38), .mov (.t 9), []⟩,
         ⟨none, (some 6), .mov (.t 38), []⟩,
         ⟨none, (some 7), .mov (.c (.int .i64 0)), []⟩])
       .ret)))))
def c278 : Fn := { np := 3, nt := 39, kind := .pure, res := [.t 6, .t 7], body := k278 }

/- impl.SameScene -/
def k279 : Cd :=
  (.seq
   (.reg [4] [
     ⟨none, (some 4), .mov (.c (.bool false)), []⟩])
   (.seq
    (.reg [4] [
      ⟨none, (some 5), .mov (.t 0), []⟩,
      ⟨none, (some 6), .mov (.t 1), []⟩,
      ⟨none, (some 7), .call true 470 [.t 5, .t 6], []⟩,
      ⟨none, (some 4), .mov (.t 7), []⟩])
    .ret))
def c279 : Fn := { np := 2, nt := 8, kind := .pure, res := [.t 4], body := k279 }

/- spec.SameScene -/
def b280_1 : Cd :=
  (.seq
   (.seq
    (.reg [14] [
      ⟨none, (some 11), .mov (.t 5), []⟩,
      ⟨none, (some 12), .mov (.t 0), []⟩,
      ⟨none, (some 13), .len (.t 12), []⟩,
      ⟨none, (some 14), .bin .lss (.t 11) (.t 13), []⟩])
    (.cond (.t 14)
     .skip
     (.exit 0)))
   (.seq
    (.block 1
     (.seq
      (.reg [25] [
        ⟨none, (some 17), .mov (.t 0), []⟩,
        ⟨none, (some 18), .mov (.t 5), []⟩,
        ⟨none, (some 19), .idxA 27 (.t 17) (.t 18), []⟩,
        ⟨none, (some 20), .ld 27 true (.t 19), []⟩,
        ⟨none, (some 21), .mov (.t 1), []⟩,
        ⟨none, (some 22), .mov (.t 5), []⟩,
        ⟨none, (some 23), .idxA 27 (.t 21) (.t 22), []⟩,
        ⟨none, (some 24), .ld 27 true (.t 23), []⟩,
        ⟨none, (some 25), .eq (.a (rb 24 (some .u16) ++ rb 3 (some .i8))) true (.t 20) (.t 24), []⟩])
      (.cond (.t 25)
       (.seq
        (.reg [4] [
          ⟨none, (some 4), .mov (.c (.bool false)), []⟩])
        .ret)
       .skip)))
    (.reg [5] [
      ⟨none, (some 15), .mov (.t 5), []⟩,
      ⟨none, (some 16), .bin .add (.t 15) (.c (.int .i64 1)), []⟩,
      ⟨none, (some 5), .mov (.t 16), []⟩])))
def k280 : Cd :=
  (.seq
   (.reg [4] [
     ⟨none, (some 4), .mov (.c (.bool false)), []⟩])
   (.seq
    (.seq
     (.reg [10] [
       ⟨none, (some 6), .mov (.t 0), []⟩,
       ⟨none, (some 7), .len (.t 6), []⟩,
       ⟨none, (some 8), .mov (.t 1), []⟩,
       ⟨none, (some 9), .len (.t 8), []⟩,
       ⟨none, (some 10), .bin .neq (.t 7) (.t 9), []⟩])
     (.cond (.t 10)
      (.seq
       (.reg [4] [
         ⟨none, (some 4), .mov (.c (.bool false)), []⟩])
       .ret)
      .skip))
    (.seq
     (.seq
      (.reg [5] [
        ⟨none, (some 5), .mov (.c (.int .i64 0)), []⟩])
      (.block 0
       (.loop b280_1)))
     (.seq
      (.reg [4] [
        ⟨none, (some 4), .mov (.c (.bool true)), []⟩])
      .ret))))
def c280 : Fn := { np := 2, nt := 26, kind := .pure, res := [.t 4], body := k280 }

/- impl.ValidScene -/
def k281 : Cd :=
  (.seq
   (.reg [2] [
     ⟨none, (some 2), .mov (.c (.bool false)), []⟩])
   (.seq
    (.reg [2] [
      ⟨none, (some 3), .mov (.t 0), []⟩,
      ⟨none, (some 4), .len (.t 3), []⟩,
      ⟨none, (some 5), .bin .leq (.t 4) (.c (.int .i64 8)), []⟩,
      ⟨none, (some 6), .mov (.t 5), []⟩,
      ⟨(some (6, true)), (some 7), .mov (.t 0), []⟩,
      ⟨(some (6, true)), (some 8), .call true 471 [.t 7, .f 472], []⟩,
      ⟨(some (6, true)), (some 9), .un .not (.t 8), []⟩,
      ⟨none, (some 10), .pick (.t 6) (.t 9) (.c (.bool false)), []⟩,
      ⟨none, (some 2), .mov (.t 10), []⟩])
    .ret))
def c281 : Fn := { np := 1, nt := 11, kind := .pure, res := [.t 2], body := k281 }

/- impl.LayerAt -/
def k282 : Cd :=
  (.seq
   (.reg [8, 9, 10, 11] [
     ⟨none, (some 8), .box 1 (.t 3), []⟩,
     ⟨none, (some 9), .box 1 (.t 4), []⟩,
     ⟨none, (some 10), .mov (.c (.int .i64 0)), []⟩,
     ⟨none, (some 11), .mov (.c (.int .i64 0)), []⟩])
   (.seq
    (.seq
     (.reg [12] [
       ⟨none, (some 14), .mov (.t 0), []⟩,
       ⟨none, (some 15), .mov (.t 1), []⟩,
       ⟨none, (some 16), .mov (.t 2), []⟩,
       ⟨none, (some 17), .call true 329 [.t 14, .t 15, .t 16], []⟩,
       ⟨none, (some 12), .mov (.t 17), []⟩])
     (.seq
      (.reg [19] [
        ⟨none, (some 18), .mov (.t 12), []⟩,
        ⟨none, (some 19), .bin .neq (.t 18) (.c (.int .i64 0)), []⟩])
      (.cond (.t 19)
       (.seq
        (.reg [10, 11] [
          ⟨none, (some 20), .mov (.t 12), []⟩,
          ⟨none, (some 10), .mov (.c (.int .i64 0)), []⟩,
          ⟨none, (some 11), .mov (.t 20), []⟩])
        .ret)
       .skip)))
    (.seq
     (.seq
      (.reg [24] [
        ⟨none, (some 21), .ld 1 false (.t 8), []⟩,
        ⟨none, (some 22), .ld 1 false (.t 9), []⟩,
        ⟨none, (some 23), .call true 345 [.t 21, .t 22], []⟩,
        ⟨none, (some 24), .un .not (.t 23), []⟩])
      (.cond (.t 24)
       (.seq
        (.reg [10, 11] [
          ⟨none, (some 10), .mov (.c (.int .i64 0)), []⟩,
          ⟨none, (some 11), .mov (.c (.int .i64 2)), []⟩])
        .ret)
       .skip))
     (.seq
      (.reg [13] [
        ⟨none, (some 25), .mov (.t 0), []⟩,
        ⟨none, (some 26), .mov (.t 1), []⟩,
        ⟨none, (some 27), .mov (.t 2), []⟩,
        ⟨none, (some 28), .call true 412 [.t 25, .t 26, .t 27], []⟩,
        ⟨none, (some 29), .mkf 475 [.t 8, .t 9], []⟩,
        ⟨none, (some 30), .call true 474 [.t 28, .t 29], []⟩,
        ⟨none, (some 13), .mov (.t 30), []⟩])
      (.seq
       (.seq
        (.reg [32] [
          ⟨none, (some 31), .mov (.t 13), []⟩,
          ⟨none, (some 32), .bin .lss (.t 31) (.c (.int .i64 0)), []⟩])
        (.cond (.t 32)
         (.seq
          (.reg [10, 11] [
            ⟨none, (some 10), .mov (.c (.int .i64 0)), []⟩,
            ⟨none, (some 11), .mov (.c (.int .i64 6)), []⟩])
          .ret)
         .skip))
       (.seq
        (.reg [10, 11] [
          ⟨none, (some 33), .mov (.t 13), []⟩,
          ⟨none, (some 10), .mov (.t 33), []⟩,
          ⟨none, (some 11), .mov (.c (.int .i64 0)), []⟩])
        .ret))))))
def c282 : Fn := { np := 5, nt := 34, kind := .pure, res := [.t 10, .t 11], body := k282 }

/- spec.LayerAt -/
def b283_1 : Cd :=
  (.seq
   (.seq
    (.reg [37] [
      ⟨none, (some 34), .mov (.t 14), []⟩,
      ⟨none, (some 35), .mov (.t 13), []⟩,
      ⟨none, (some 36), .len (.t 35), []⟩,
      ⟨none, (some 37), .bin .lss (.t 34) (.t 36), []⟩])
    (.cond (.t 37)
     .skip
     (.exit 0)))
   (.seq
    (.block 1
     (.seq
      (.reg [45] [
        ⟨none, (some 40), .mov (.t 13), []⟩,
        ⟨none, (some 41), .mov (.t 14), []⟩,
        ⟨none, (some 42), .idxA 12 (.t 40) (.t 41), []⟩,
        ⟨none, (some 43), .mov (.t 3), []⟩,
        ⟨none, (some 44), .mov (.t 4), []⟩,
        ⟨none, (some 45), .call true 456 [.t 42, .t 43, .t 44], []⟩])
      (.cond (.t 45)
       (.seq
        (.reg [10, 11] [
          ⟨none, (some 46), .mov (.t 14), []⟩,
          ⟨none, (some 10), .mov (.t 46), []⟩,
          ⟨none, (some 11), .mov (.c (.int .i64 0)), []⟩])
        .ret)
       .skip)))
    (.reg [14] [
      ⟨none, (some 38), .mov (.t 14), []⟩,
      ⟨none, (some 39), .bin .add (.t 38) (.c (.int .i64 1)), []⟩,
      ⟨none, (some 14), .mov (.t 39), []⟩])))
def k283 : Cd :=
  (.seq
   (.reg [10, 11] [
     ⟨none, (some 10), .mov (.c (.int .i64 0)), []⟩,
     ⟨none, (some 11), .mov (.c (.int .i64 0)), []⟩])
   (.seq
    (.reg [12] [
      ⟨none, (some 15), .mov (.t 0), []⟩,
      ⟨none, (some 16), .mov (.t 1), []⟩,
      ⟨none, (some 17), .mov (.t 2), []⟩,
      ⟨none, (some 18), .call true 331 [.t 15, .t 16, .t 17], []⟩,
      ⟨none, (some 12), .mov (.t 18), []⟩])
    (.seq
     (.seq
      (.reg [26] [
        ⟨none, (some 19), .mov (.t 12), []⟩,
        ⟨none, (some 20), .bin .eql (.t 19) (.c (.int .i64 0)), []⟩,
        ⟨none, (some 21), .mov (.t 20), []⟩,
        ⟨(some (21, true)), (some 22), .mov (.t 3), []⟩,
        ⟨(some (21, true)), (some 23), .mov (.t 4), []⟩,
        ⟨(some (21, true)), (some 24), .call true 342 [.t 22, .t 23], []⟩,
        ⟨(some (21, true)), (some 25), .un .not (.t 24), []⟩,
        ⟨none, (some 26), .pick (.t 21) (.t 25) (.c (.bool false)), []⟩])
      (.cond (.t 26)
       (.reg [12] [
         ⟨none, (some 12), .mov (.c (.int .i64 2)), []⟩])
       .skip))
     (.seq
      (.seq
       (.reg [28] [
         ⟨none, (some 27), .mov (.t 12), []⟩,
         ⟨none, (some 28), .bin .neq (.t 27) (.c (.int .i64 0)), []⟩])
       (.cond (.t 28)
        (.seq
         (.reg [10, 11] [
           ⟨none, (some 29), .mov (.t 12), []⟩,
           ⟨none, (some 10), .mov (.c (.int .i64 0)), []⟩,
           ⟨none, (some 11), .mov (.t 29), []⟩])
         .ret)
        .skip))
      (.seq
       (.reg [13] [
         ⟨none, (some 30), .mov (.t 0), []⟩,
         ⟨none, (some 31), .mov (.t 1), []⟩,
         ⟨none, (some 32), .mov (.t 2), []⟩,
         ⟨none, (some 33), .call true 408 [.t 30, .t 31, .t 32], []⟩,
         ⟨none, (some 13), .mov (.t 33), []⟩])
       (.seq
        (.seq
         (.reg [14] [
           ⟨none, (some 14), .mov (.c (.int .i64 0)), []⟩])
         (.block 0
          (.loop b283_1)))
        (.seq
         (.reg [10, 11] [
           ⟨none, (some 10), .mov (.c (.int .i64 0)), []⟩,
           ⟨none, (some 11), .mov (.c (.int .i64 6)), []⟩])
         .ret)))))))
def c283 : Fn := { np := 5, nt := 47, kind := .pure, res := [.t 10, .t 11], body := k283 }

/- impl.DropLayer -/
def k284 : Cd :=
  (.seq
   (.reg [4, 5] [
     ⟨none, (some 4), .mov (.c (.slice none 0 0)), []⟩,
     ⟨none, (some 5), .mov (.c (.int .i64 0)), []⟩])
   (.seq
    (.block 0
     (.seq
      (.reg [6] [
        ⟨none, (some 7), .mov (.t 0), []⟩,
        ⟨none, (some 8), .call true 281 [.t 7], []⟩,
        ⟨none, (some 9), .un .not (.t 8), []⟩,
        ⟨none, (some 6), .mov (.t 9), []⟩])
      (.cond (.t 6)
       (.seq
        (.reg [4, 5] [
          ⟨none, (some 4), .mov (.c (.slice none 0 0)), []⟩,
          ⟨none, (some 5), .mov (.c (.int .i64 1)), []⟩])
        .ret)
       (.seq
        (.reg [10] [
          ⟨none, (some 11), .mov (.t 0), []⟩,
          ⟨none, (some 12), .mov (.t 1), []⟩,
          ⟨none, (some 13), .call true 334 [.t 11, .t 12], []⟩,
          ⟨none, (some 14), .un .not (.t 13), []⟩,
          ⟨none, (some 10), .mov (.t 14), []⟩])
        (.cond (.t 10)
         (.seq
          (.reg [4, 5] [
            ⟨none, (some 4), .mov (.c (.slice none 0 0)), []⟩,
            ⟨none, (some 5), .mov (.c (.int .i64 2)), []⟩])
          .ret)
         .skip)))))
    (.seq
     (.reg [4, 5] [
       ⟨none, (some 15), .mov (.t 0), []⟩,
       ⟨none, (some 16), .call true 477 [.t 15], []⟩,
       ⟨none, (some 17), .mov (.t 1), []⟩,
       ⟨none, (some 18), .mov (.t 1), []⟩,
       ⟨none, (some 19), .bin .add (.t 18) (.c (.int .i64 1)), []⟩,
       ⟨none, (some 20), .call false 476 [.t 16, .t 17, .t 19], []⟩,
       ⟨none, (some 4), .mov (.t 20), []⟩,
       ⟨none, (some 5), .mov (.c (.int .i64 0)), []⟩])
     .ret)))
def c284 : Fn := { np := 2, nt := 21, kind := .pure, res := [.t 4, .t 5], body := k284 }

/- impl.AddLayer -/
def k285 : Cd :=
  (.seq
   (.reg [3, 4, 5] [
     ⟨none, (some 3), .mov (.t 1), []⟩,
     ⟨none, (some 4), .mov (.c (.slice none 0 0)), []⟩,
     ⟨none, (some 5), .mov (.c (.int .i64 0)), []⟩])
   (.seq
    (.block 0
     (.seq
      (.reg [6] [
        ⟨none, (some 7), .mov (.t 0), []⟩,
        ⟨none, (some 8), .call true 281 [.t 7], []⟩,
        ⟨none, (some 9), .un .not (.t 8), []⟩,
        ⟨none, (some 10), .mov (.t 9), []⟩,
        ⟨(some (10, false)), (some 11), .ldV 3 none 27 true, []⟩,
        ⟨(some (10, false)), (some 12), .call true 473 [.t 11], []⟩,
        ⟨(some (10, false)), (some 13), .un .not (.t 12), []⟩,
        ⟨none, (some 14), .pick (.t 10) (.c (.bool true)) (.t 13), []⟩,
        ⟨none, (some 6), .mov (.t 14), []⟩])
      (.cond (.t 6)
       (.seq
        (.reg [4, 5] [
          ⟨none, (some 4), .mov (.c (.slice none 0 0)), []⟩,
          ⟨none, (some 5), .mov (.c (.int .i64 1)), []⟩])
        .ret)
       (.seq
        (.reg [15] [
          ⟨none, (some 16), .mov (.t 0), []⟩,
          ⟨none, (some 17), .len (.t 16), []⟩,
          ⟨none, (some 18), .bin .eql (.t 17) (.c (.int .i64 8)), []⟩,
          ⟨none, (some 15), .mov (.t 18), []⟩])
        (.cond (.t 15)
         (.seq
          (.reg [4, 5] [
            ⟨none, (some 4), .mov (.c (.slice none 0 0)), []⟩,
            ⟨none, (some 5), .mov (.c (.int .i64 3)), []⟩])
          .ret)
         .skip)))))
    (.seq
     (.reg [4, 5] [
       ⟨none, (some 19), .ldV 3 none 27 true, []⟩,
       ⟨none, (some 20), .bldS 27 1 [.int .u16 0, .int .u16 0, .int .u16 0, .int .u16 0, .int .u16 0, .int .u16 0, .int .u16 0, .int .u16 0, .int .u16 0, .int .u16 0, .int .u16 0, .int .u16 0, .int .u16 0, .int .u16 0, .int .u16 0, .int .u16 0, .int .u16 0, .int .u16 0, .int .u16 0, .int .u16 0, .int .u16 0, .int .u16 0, .int .u16 0, .int .u16 0, .int .i8 0, .int .i8 0, .int .i8 0] [(0, 27, (.t 19))], []⟩,
       ⟨none, (some 21), .mov (.t 0), []⟩,
       ⟨none, (some 22), .bldS 1 2 [.slice none 0 0] [(0, 1, (.t 20)), (1, 1, (.t 21))], []⟩,
       ⟨none, (some 23), .call true 478 [.t 22], []⟩,
       ⟨none, (some 4), .mov (.t 23), []⟩,
       ⟨none, (some 5), .mov (.c (.int .i64 0)), []⟩])
     .ret)))
def c285 : Fn := { np := 2, nt := 24, kind := .pure, res := [.t 4, .t 5], body := k285 }

/- impl.RaiseLayer -/
def k286 : Cd :=
  (.seq
   (.reg [4, 5] [
     ⟨none, (some 4), .mov (.c (.slice none 0 0)), []⟩,
     ⟨none, (some 5), .mov (.c (.int .i64 0)), []⟩])
   (.seq
    (.seq
     (.reg [6] [
       ⟨none, (some 7), .mov (.t 0), []⟩,
       ⟨none, (some 8), .mov (.t 1), []⟩,
       ⟨none, (some 9), .call true 479 [.t 7, .t 8], []⟩,
       ⟨none, (some 6), .mov (.t 9), []⟩])
     (.seq
      (.reg [11] [
        ⟨none, (some 10), .mov (.t 6), []⟩,
        ⟨none, (some 11), .bin .neq (.t 10) (.c (.int .i64 0)), []⟩])
      (.cond (.t 11)
       (.seq
        (.reg [4, 5] [
          ⟨none, (some 12), .mov (.t 6), []⟩,
          ⟨none, (some 4), .mov (.c (.slice none 0 0)), []⟩,
          ⟨none, (some 5), .mov (.t 12), []⟩])
        .ret)
       .skip)))
    (.seq
     (.reg [4, 5] [
       ⟨none, (some 13), .mov (.t 0), []⟩,
       ⟨none, (some 14), .mov (.t 1), []⟩,
       ⟨none, (some 15), .call true 480 [.t 13, .t 14], []⟩,
       ⟨none, (some 4), .mov (.t 15), []⟩,
       ⟨none, (some 5), .mov (.c (.int .i64 0)), []⟩])
     .ret)))
def c286 : Fn := { np := 2, nt := 16, kind := .pure, res := [.t 4, .t 5], body := k286 }

/- impl.CanSwap -/
def k287 : Cd :=
  (.seq
   (.reg [8, 9] [
     ⟨none, (some 8), .mov (.c (.bool false)), []⟩,
     ⟨none, (some 9), .mov (.c (.int .i64 0)), []⟩])
   (.seq
    (.seq
     (.reg [10] [
       ⟨none, (some 12), .mov (.t 0), []⟩,
       ⟨none, (some 13), .mov (.t 2), []⟩,
       ⟨none, (some 14), .mov (.t 3), []⟩,
       ⟨none, (some 15), .call true 329 [.t 12, .t 13, .t 14], []⟩,
       ⟨none, (some 10), .mov (.t 15), []⟩])
     (.seq
      (.reg [17] [
        ⟨none, (some 16), .mov (.t 10), []⟩,
        ⟨none, (some 17), .bin .neq (.t 16) (.c (.int .i64 0)), []⟩])
      (.cond (.t 17)
       (.seq
        (.reg [8, 9] [
          ⟨none, (some 18), .mov (.t 10), []⟩,
          ⟨none, (some 8), .mov (.c (.bool false)), []⟩,
          ⟨none, (some 9), .mov (.t 18), []⟩])
        .ret)
       .skip)))
    (.seq
     (.seq
      (.reg [11] [
        ⟨none, (some 19), .mov (.t 0), []⟩,
        ⟨none, (some 20), .mov (.t 1), []⟩,
        ⟨none, (some 21), .call true 479 [.t 19, .t 20], []⟩,
        ⟨none, (some 11), .mov (.t 21), []⟩])
      (.seq
       (.reg [23] [
         ⟨none, (some 22), .mov (.t 11), []⟩,
         ⟨none, (some 23), .bin .neq (.t 22) (.c (.int .i64 0)), []⟩])
       (.cond (.t 23)
        (.seq
         (.reg [8, 9] [
           ⟨none, (some 24), .mov (.t 11), []⟩,
           ⟨none, (some 8), .mov (.c (.bool false)), []⟩,
           ⟨none, (some 9), .mov (.t 24), []⟩])
         .ret)
        .skip)))
     (.seq
      (.reg [8, 9] [
        ⟨none, (some 25), .mov (.t 0), []⟩,
        ⟨none, (some 26), .mov (.t 2), []⟩,
        ⟨none, (some 27), .mov (.t 3), []⟩,
        ⟨none, (some 28), .call true 330 [.t 25, .t 26, .t 27], []⟩,
        ⟨none, (some 29), .fld 0 12 true (.t 28), []⟩,
        ⟨none, (some 30), .mov (.t 0), []⟩,
        ⟨none, (some 31), .mov (.t 1), []⟩,
        ⟨none, (some 32), .call true 480 [.t 30, .t 31], []⟩,
        ⟨none, (some 33), .mov (.t 2), []⟩,
        ⟨none, (some 34), .mov (.t 3), []⟩,
        ⟨none, (some 35), .call true 330 [.t 32, .t 33, .t 34], []⟩,
        ⟨none, (some 36), .fld 0 12 true (.t 35), []⟩,
        ⟨none, (some 37), .eq (.a (rb 12 (some .u16))) false (.t 29) (.t 36), []⟩,
        ⟨none, (some 8), .mov (.t 37), []⟩,
        ⟨none, (some 9), .mov (.c (.int .i64 0)), []⟩])
      .ret))))
def c287 : Fn := { np := 4, nt := 38, kind := .pure, res := [.t 8, .t 9], body := k287 }

/- impl.inRange -/
def k295 : Cd :=
  (.seq
   (.reg [6] [
     ⟨none, (some 6), .mov (.c (.bool false)), []⟩])
   (.seq
    (.reg [6] [
      ⟨none, (some 7), .mov (.t 1), []⟩,
      ⟨none, (some 8), .mov (.t 0), []⟩,
      ⟨none, (some 9), .bin .leq (.t 7) (.t 8), []⟩,
      ⟨none, (some 10), .mov (.t 9), []⟩,
      ⟨(some (10, true)), (some 11), .mov (.t 0), []⟩,
      ⟨(some (10, true)), (some 12), .mov (.t 2), []⟩,
      ⟨(some (10, true)), (some 13), .bin .leq (.t 11) (.t 12), []⟩,
      ⟨none, (some 14), .pick (.t 10) (.t 13) (.c (.bool false)), []⟩,
      ⟨none, (some 6), .mov (.t 14), []⟩])
    .ret))
def c295 : Fn := { np := 3, nt := 15, kind := .pure, res := [.t 6], body := k295 }

/- spec.l00In -/
def k304 : Cd :=
  (.seq
   (.reg [6] [
     ⟨none, (some 6), .mov (.c (.bool false)), []⟩])
   (.seq
    (.reg [6] [
      ⟨none, (some 7), .mov (.t 0), []⟩,
      ⟨none, (some 8), .mov (.t 1), []⟩,
      ⟨none, (some 9), .bin .geq (.t 7) (.t 8), []⟩,
      ⟨none, (some 10), .mov (.t 9), []⟩,
      ⟨(some (10, true)), (some 11), .mov (.t 0), []⟩,
      ⟨(some (10, true)), (some 12), .mov (.t 2), []⟩,
      ⟨(some (10, true)), (some 13), .bin .leq (.t 11) (.t 12), []⟩,
      ⟨none, (some 14), .pick (.t 10) (.t 13) (.c (.bool false)), []⟩,
      ⟨none, (some 6), .mov (.t 14), []⟩])
    .ret))
def c304 : Fn := { np := 3, nt := 15, kind := .pure, res := [.t 6], body := k304 }

/- spec.l01Put -/
def k305 : Cd :=
  (.seq
   (.reg [8] [
     ⟨none, (some 6), .mov (.t 1), []⟩,
     ⟨none, (some 7), .mov (.t 2), []⟩,
     ⟨none, (some 8), .call true 342 [.t 6, .t 7], []⟩])
   (.cond (.t 8)
    (.reg [] [
      ⟨none, (some 9), .mov (.t 0), []⟩,
      ⟨none, (some 10), .mov (.t 2), []⟩,
      ⟨none, (some 11), .mov (.t 0), []⟩,
      ⟨none, (some 12), .mov (.t 2), []⟩,
      ⟨none, (some 13), .nil (.t 11), []⟩,
      ⟨none, (some 14), .idxP 12 1 (.t 13) (.t 12), []⟩,
      ⟨none, (some 15), .ld 1 false (.t 14), []⟩,
      ⟨none, (some 16), .mov (.t 1), []⟩,
      ⟨none, (some 17), .conv .u64 (.t 16), []⟩,
      ⟨none, (some 18), .bin .shl (.c (.int .u16 1)) (.t 17), []⟩,
      ⟨none, (some 19), .bin .or (.t 15) (.t 18), []⟩,
      ⟨none, (some 20), .nil (.t 9), []⟩,
      ⟨none, (some 21), .idxP 12 1 (.t 20) (.t 10), []⟩,
      ⟨none, none, .st 1 (.t 21) (.t 19), []⟩])
    .skip))
def c305 : Fn := { np := 3, nt := 22, kind := .args, res := [], body := k305 }

/- spec.l00From -/
def k315 : Cd :=
  (.seq
   (.reg [2] [
     ⟨none, (some 2), .mov (.c (.pointer none)), []⟩])
   (.seq
    (.reg [2] [
      ⟨none, (some 3), .mov (.t 0), []⟩,
      ⟨none, (some 4), .agg [.slice none 0 0, .int .i64 0, .int .u64 0] [(0, 1, (.t 3))], []⟩,
      ⟨none, (some 5), .box 3 (.t 4), []⟩,
      ⟨none, (some 2), .mov (.t 5), []⟩])
    .ret))
def c315 : Fn := { np := 1, nt := 6, kind := .pure, res := [.t 2], body := k315 }

/- spec.l05Drawn -/
def b328_1 : Cd :=
  (.seq
   (.seq
    (.reg [10] [
      ⟨none, (some 9), .mov (.t 4), []⟩,
      ⟨none, (some 10), .bin .gtr (.t 9) (.c (.int .i64 0)), []⟩])
    (.cond (.t 10)
     .skip
     (.exit 0)))
   (.seq
    (.block 1
     (.seq
      (.reg [5] [
        ⟨none, (some 13), .mov (.t 0), []⟩,
        ⟨none, (some 14), .call false 495 [.t 13], []⟩,
        ⟨none, (some 15), .mov (.t 0), []⟩,
        ⟨none, (some 16), .call false 459 [.t 15, .c (.int .i64 7)], []⟩,
        ⟨none, (some 17), .bin .sub (.t 16) (.c (.int .i64 3)), []⟩,
        ⟨none, (some 18), .conv .i8 (.t 17), []⟩,
        ⟨none, (some 19), .agg [.int .u16 0, .int .u16 0, .int .u16 0, .int .u16 0, .int .u16 0, .int .u16 0, .int .u16 0, .int .u16 0, .int .u16 0, .int .u16 0, .int .u16 0, .int .u16 0, .int .u16 0, .int .u16 0, .int .u16 0, .int .u16 0, .int .u16 0, .int .u16 0, .int .u16 0, .int .u16 0, .int .u16 0, .int .u16 0, .int .u16 0, .int .u16 0, .int .i8 0, .int .i8 0, .int .i8 0] [(0, 24, (.t 14)), (24, 1, (.t 18))], []⟩,
        ⟨none, (some 5), .zero true [.int .u16 0, .int .u16 0, .int .u16 0, .int .u16 0, .int .u16 0, .int .u16 0, .int .u16 0, .int .u16 0, .int .u16 0, .int .u16 0, .int .u16 0, .int .u16 0, .int .u16 0, .int .u16 0, .int .u16 0, .int .u16 0, .int .u16 0, .int .u16 0, .int .u16 0, .int .u16 0, .int .u16 0, .int .u16 0, .int .u16 0, .int .u16 0, .int .i8 0, .int .i8 0, .int .i8 0], []⟩,
        ⟨none, (some 5), .stV 5 none 27 (.t 19), []⟩])
      (.seq
       (.reg [5] [
         ⟨none, (some 20), .mov (.t 0), []⟩,
         ⟨none, (some 21), .call false 459 [.t 20, .c (.int .i64 7)], []⟩,
         ⟨none, (some 22), .bin .sub (.t 21) (.c (.int .i64 3)), []⟩,
         ⟨none, (some 23), .conv .i8 (.t 22), []⟩,
         ⟨none, (some 24), .adrF 5 none 25, []⟩,
         ⟨none, (some 5), .stV 5 (some 24) 1 (.t 23), []⟩])
       (.seq
        (.reg [5] [
          ⟨none, (some 25), .mov (.t 0), []⟩,
          ⟨none, (some 26), .bldS 1 5 [.int .i64 0] [(0, 1, (.c (.int .i64 0))), (1, 1, (.c (.int .i64 2))), (2, 1, (.c (.int .i64 3))), (3, 1, (.c (.int .i64 4))), (4, 1, (.c (.int .i64 8)))], []⟩,
          ⟨none, (some 27), .call false 496 [.t 25, .t 26], []⟩,
          ⟨none, (some 28), .conv .i8 (.t 27), []⟩,
          ⟨none, (some 29), .adrF 5 none 26, []⟩,
          ⟨none, (some 5), .stV 5 (some 29) 1 (.t 28), []⟩])
        (.reg [3] [
          ⟨none, (some 30), .mov (.t 3), []⟩,
          ⟨none, (some 31), .ldV 5 none 27 true, []⟩,
          ⟨none, (some 32), .bldS 27 1 [.int .u16 0, .int .u16 0, .int .u16 0, .int .u16 0, .int .u16 0, .int .u16 0, .int .u16 0, .int .u16 0, .int .u16 0, .int .u16 0, .int .u16 0, .int .u16 0, .int .u16 0, .int .u16 0, .int .u16 0, .int .u16 0, .int .u16 0, .int .u16 0, .int .u16 0, .int .u16 0, .int .u16 0, .int .u16 0, .int .u16 0, .int .u16 0, .int .i8 0, .int .i8 0, .int .i8 0] [(0, 27, (.t 31))], []⟩,
          ⟨none, (some 33), .app 27 52 (.t 30) (.t 32), []⟩,
          ⟨none, (some 3), .mov (.t 33), []⟩])))))
    (.reg [4] [
      ⟨none, (some 11), .mov (.t 4), []⟩,
      ⟨none, (some 12), .bin .sub (.t 11) (.c (.int .i64 1)), []⟩,
      ⟨none, (some 4), .mov (.t 12), []⟩])))
def k328 : Cd :=
  (.seq
   (.reg [2] [
     ⟨none, (some 2), .mov (.c (.slice none 0 0)), []⟩])
   (.seq
    (.reg [3] [
      ⟨none, (some 6), .bldS 27 0 [.int .u16 0, .int .u16 0, .int .u16 0, .int .u16 0, .int .u16 0, .int .u16 0, .int .u16 0, .int .u16 0, .int .u16 0, .int .u16 0, .int .u16 0, .int .u16 0, .int .u16 0, .int .u16 0, .int .u16 0, .int .u16 0, .int .u16 0, .int .u16 0, .int .u16 0, .int .u16 0, .int .u16 0, .int .u16 0, .int .u16 0, .int .u16 0, .int .i8 0, .int .i8 0, .int .i8 0] [], []⟩,
      ⟨none, (some 3), .mov (.t 6), []⟩])
    (.seq
     (.seq
      (.reg [4] [
        ⟨none, (some 7), .mov (.t 0), []⟩,
        ⟨none, (some 8), .call false 459 [.t 7, .c (.int .i64 5)], []⟩,
        ⟨none, (some 4), .mov (.t 8), []⟩])
      (.block 0
       (.loop b328_1)))
     (.seq
      (.reg [2] [
        ⟨none, (some 34), .mov (.t 3), []⟩,
        ⟨none, (some 2), .mov (.t 34), []⟩])
      .ret))))
def c328 : Fn := { np := 1, nt := 35, kind := .args, res := [.t 2], body := k328 }

/- impl.checkCamera -/
def k329 : Cd :=
  (.seq
   (.reg [6] [
     ⟨none, (some 6), .mov (.c (.int .i64 0)), []⟩])
   (.seq
    (.block 0
     (.seq
      (.reg [7] [
        ⟨none, (some 8), .mov (.t 0), []⟩,
        ⟨none, (some 9), .call true 281 [.t 8], []⟩,
        ⟨none, (some 10), .un .not (.t 9), []⟩,
        ⟨none, (some 7), .mov (.t 10), []⟩])
      (.cond (.t 7)
       (.seq
        (.reg [6] [
          ⟨none, (some 6), .mov (.c (.int .i64 1)), []⟩])
        .ret)
       (.seq
        (.reg [11] [
          ⟨none, (some 12), .mov (.t 1), []⟩,
          ⟨none, (some 13), .mov (.t 2), []⟩,
          ⟨none, (some 14), .call true 416 [.t 12, .t 13], []⟩,
          ⟨none, (some 15), .un .not (.t 14), []⟩,
          ⟨none, (some 11), .mov (.t 15), []⟩])
        (.cond (.t 11)
         (.seq
          (.reg [6] [
            ⟨none, (some 6), .mov (.c (.int .i64 2)), []⟩])
          .ret)
         .skip)))))
    (.seq
     (.reg [6] [
       ⟨none, (some 6), .mov (.c (.int .i64 0)), []⟩])
     .ret)))
def c329 : Fn := { np := 3, nt := 16, kind := .pure, res := [.t 6], body := k329 }

/- (impl.Scene).flat -/
def b330_1 : Cd :=
  (.seq
   (.reg [14] [
     ⟨none, (some 14), .bin .lss (.t 13) (.t 12), []⟩])
   (.seq
    (.cond (.t 14)
     .skip
     (.exit 0))
    (.seq
     (.block 1
      (.seq
       (.reg [9] [
         ⟨none, (some 15), .idxA 27 (.t 11) (.t 13), []⟩,
         ⟨none, (some 16), .ld 27 true (.t 15), []⟩,
         ⟨none, (some 9), .zero true [.int .u16 0, .int .u16 0, .int .u16 0, .int .u16 0, .int .u16 0, .int .u16 0, .int .u16 0, .int .u16 0, .int .u16 0, .int .u16 0, .int .u16 0, .int .u16 0, .int .u16 0, .int .u16 0, .int .u16 0, .int .u16 0, .int .u16 0, .int .u16 0, .int .u16 0, .int .u16 0, .int .u16 0, .int .u16 0, .int .u16 0, .int .u16 0, .int .i8 0, .int .i8 0, .int .i8 0], []⟩,
         ⟨none, (some 9), .stV 9 none 27 (.t 16), []⟩])
       (.reg [7] [
         ⟨none, (some 17), .ldV 7 none 24 true, []⟩,
         ⟨none, (some 18), .adrF 9 none 0, []⟩,
         ⟨none, (some 19), .ldV 9 (some 18) 24 true, []⟩,
         ⟨none, (some 20), .ldV 9 none 27 true, []⟩,
         ⟨none, (some 21), .mov (.t 1), []⟩,
         ⟨none, (some 22), .mov (.t 2), []⟩,
         ⟨none, (some 23), .call true 335 [.t 20, .t 21, .t 22], []⟩,
         ⟨none, (some 24), .ext (.t 23) 0, []⟩,
         ⟨none, (some 25), .ext (.t 23) 1, []⟩,
         ⟨none, (some 26), .call true 336 [.t 19, .t 24, .t 25], []⟩,
         ⟨none, (some 27), .call true 497 [.t 17, .t 26], []⟩,
         ⟨none, (some 7), .stV 7 none 24 (.t 27), []⟩])))
     (.reg [13] [
       ⟨none, (some 28), .bin .add (.t 13) (.c (.int .i64 1)), []⟩,
       ⟨none, (some 13), .mov (.t 28), []⟩]))))
def k330 : Cd :=
  (.seq
   (.reg [6] [
     ⟨none, (some 6), .zero true (zs 24 (.int .u16 0)), []⟩])
   (.seq
    (.reg [7] [
      ⟨none, (some 10), .agg (zs 24 (.int .u16 0)) [], []⟩,
      ⟨none, (some 7), .zero true (zs 24 (.int .u16 0)), []⟩,
      ⟨none, (some 7), .stV 7 none 24 (.t 10), []⟩])
    (.seq
     (.seq
      (.reg [11, 12, 13] [
        ⟨none, (some 11), .mov (.t 0), []⟩,
        ⟨none, (some 12), .len (.t 11), []⟩,
        ⟨none, (some 13), .mov (.c (.int .i64 0)), []⟩])
      (.block 0
       (.loop b330_1)))
     (.seq
      (.reg [6] [
        ⟨none, (some 29), .ldV 7 none 24 true, []⟩,
        ⟨none, (some 6), .stV 6 none 24 (.t 29), []⟩])
      .ret))))
def c330 : Fn := { np := 3, nt := 30, kind := .pure, res := [.v 6 24 true], body := k330 }

/- spec.l05Camera -/
def k331 : Cd :=
  (.seq
   (.reg [6] [
     ⟨none, (some 6), .mov (.c (.int .i64 0)), []⟩])
   (.seq
    (.seq
     (.reg [9] [
       ⟨none, (some 7), .mov (.t 0), []⟩,
       ⟨none, (some 8), .call true 498 [.t 7], []⟩,
       ⟨none, (some 9), .un .not (.t 8), []⟩])
     (.cond (.t 9)
      (.seq
       (.reg [6] [
         ⟨none, (some 6), .mov (.c (.int .i64 1)), []⟩])
       .ret)
      .skip))
    (.seq
     (.seq
      (.reg [17] [
        ⟨none, (some 10), .mov (.t 1), []⟩,
        ⟨none, (some 11), .call true 304 [.t 10, .c (.int .i64 (-100)), .c (.int .i64 100)], []⟩,
        ⟨none, (some 12), .un .not (.t 11), []⟩,
        ⟨none, (some 13), .mov (.t 12), []⟩,
        ⟨(some (13, false)), (some 14), .mov (.t 2), []⟩,
        ⟨(some (13, false)), (some 15), .call true 304 [.t 14, .c (.int .i64 (-100)), .c (.int .i64 100)], []⟩,
        ⟨(some (13, false)), (some 16), .un .not (.t 15), []⟩,
        ⟨none, (some 17), .pick (.t 13) (.c (.bool true)) (.t 16), []⟩])
      (.cond (.t 17)
       (.seq
        (.reg [6] [
          ⟨none, (some 6), .mov (.c (.int .i64 2)), []⟩])
        .ret)
       .skip))
     (.seq
      (.reg [6] [
        ⟨none, (some 6), .mov (.c (.int .i64 0)), []⟩])
      .ret))))
def c331 : Fn := { np := 3, nt := 18, kind := .pure, res := [.t 6], body := k331 }

/- spec.l05Flat -/
def b332_1 : Cd :=
  (.seq
   (.seq
    (.reg [16] [
      ⟨none, (some 13), .mov (.t 8), []⟩,
      ⟨none, (some 14), .mov (.t 0), []⟩,
      ⟨none, (some 15), .len (.t 14), []⟩,
      ⟨none, (some 16), .bin .lss (.t 13) (.t 15), []⟩])
    (.cond (.t 16)
     .skip
     (.exit 0)))
   (.seq
    (.block 1
     (.seq
      (.reg [9, 10] [
        ⟨none, (some 20), .mov (.t 0), []⟩,
        ⟨none, (some 21), .mov (.t 8), []⟩,
        ⟨none, (some 22), .idxA 27 (.t 20) (.t 21), []⟩,
        ⟨none, (some 23), .mov (.t 1), []⟩,
        ⟨none, (some 24), .mov (.t 2), []⟩,
        ⟨none, (some 25), .call true 499 [.t 22, .t 23, .t 24], []⟩,
        ⟨none, (some 19), .mov (.t 25), []⟩,
        ⟨none, (some 26), .ext (.t 19) 0, []⟩,
        ⟨none, (some 27), .ext (.t 19) 1, []⟩,
        ⟨none, (some 9), .mov (.t 26), []⟩,
        ⟨none, (some 10), .mov (.t 27), []⟩])
      (.seq
       (.reg [11] [
         ⟨none, (some 28), .mov (.t 0), []⟩,
         ⟨none, (some 29), .mov (.t 8), []⟩,
         ⟨none, (some 30), .idxA 27 (.t 28) (.t 29), []⟩,
         ⟨none, (some 31), .fldP 0 (.t 30), []⟩,
         ⟨none, (some 32), .mov (.t 9), []⟩,
         ⟨none, (some 33), .mov (.t 10), []⟩,
         ⟨none, (some 34), .call true 468 [.t 31, .t 32, .t 33], []⟩,
         ⟨none, (some 11), .new 1 (zs 24 (.int .u16 0)), []⟩,
         ⟨none, none, .st 24 (.t 11) (.t 34), []⟩])
       (.reg [] [
         ⟨none, (some 35), .call true 500 [.t 7, .t 11], []⟩,
         ⟨none, none, .st 24 (.t 7) (.t 35), []⟩]))))
    (.reg [8] [
      ⟨none, (some 17), .mov (.t 8), []⟩,
      ⟨none, (some 18), .bin .add (.t 17) (.c (.int .i64 1)), []⟩,
      ⟨none, (some 8), .mov (.t 18), []⟩])))
def k332 : Cd :=
  (.seq
   (.reg [6] [
     ⟨none, (some 6), .zero true (zs 24 (.int .u16 0)), []⟩])
   (.seq
    (.reg [7] [
      ⟨none, (some 12), .agg (zs 24 (.int .u16 0)) [], []⟩,
      ⟨none, (some 7), .new 1 (zs 24 (.int .u16 0)), []⟩,
      ⟨none, none, .st 24 (.t 7) (.t 12), []⟩])
    (.seq
     (.seq
      (.reg [8] [
        ⟨none, (some 8), .mov (.c (.int .i64 0)), []⟩])
      (.block 0
       (.loop b332_1)))
     (.seq
      (.reg [6] [
        ⟨none, (some 36), .ld 24 true (.t 7), []⟩,
        ⟨none, (some 6), .stV 6 none 24 (.t 36), []⟩])
      .ret))))
def c332 : Fn := { np := 3, nt := 37, kind := .pure, res := [.v 6 24 true], body := k332 }

/- impl.ValidCel -/
def k333 : Cd :=
  (.seq
   (.reg [1, 2] [
     ⟨none, (some 1), .mov (.t 0), []⟩,
     ⟨none, (some 2), .mov (.c (.bool false)), []⟩])
   (.seq
    (.reg [2] [
      ⟨none, (some 3), .adrF 1 none 0, []⟩,
      ⟨none, (some 4), .ldV 1 (some 3) 12 true, []⟩,
      ⟨none, (some 5), .adrF 1 none 12, []⟩,
      ⟨none, (some 6), .ldV 1 (some 5) 12 true, []⟩,
      ⟨none, (some 7), .bldS 12 2 (zs 12 (.int .u16 0)) [(0, 12, (.t 4)), (12, 12, (.t 6))], []⟩,
      ⟨none, (some 8), .call true 351 [.t 7], []⟩,
      ⟨none, (some 9), .mov (.t 8), []⟩,
      ⟨(some (9, true)), (some 10), .adrF 1 none 0, []⟩,
      ⟨(some (9, true)), (some 11), .ldV 1 (some 10) 12 true, []⟩,
      ⟨(some (9, true)), (some 12), .adrF 1 none 12, []⟩,
      ⟨(some (9, true)), (some 13), .ldV 1 (some 12) 12 true, []⟩,
      ⟨(some (9, true)), (some 14), .call true 350 [.t 11, .t 13], []⟩,
      ⟨(some (9, true)), (some 15), .agg (zs 12 (.int .u16 0)) [], []⟩,
      ⟨(some (9, true)), (some 16), .eq (.a (rb 12 (some .u16))) false (.t 14) (.t 15), []⟩,
      ⟨none, (some 17), .pick (.t 9) (.t 16) (.c (.bool false)), []⟩,
      ⟨none, (some 2), .mov (.t 17), []⟩])
    .ret))
def c333 : Fn := { np := 1, nt := 18, kind := .pure, res := [.t 2], body := k333 }

/- (impl.Scene).isIn -/
def k334 : Cd :=
  (.seq
   (.reg [4] [
     ⟨none, (some 4), .mov (.c (.bool false)), []⟩])
   (.seq
    (.reg [4] [
      ⟨none, (some 5), .mov (.t 1), []⟩,
      ⟨none, (some 6), .mov (.t 0), []⟩,
      ⟨none, (some 7), .len (.t 6), []⟩,
      ⟨none, (some 8), .bin .sub (.t 7) (.c (.int .i64 1)), []⟩,
      ⟨none, (some 9), .call true 295 [.t 5, .c (.int .i64 0), .t 8], []⟩,
      ⟨none, (some 4), .mov (.t 9), []⟩])
    .ret))
def c334 : Fn := { np := 2, nt := 10, kind := .pure, res := [.t 4], body := k334 }

/- (impl.Layer).offset -/
def k335 : Cd :=
  (.seq
   (.reg [3, 6, 7] [
     ⟨none, (some 3), .mov (.t 0), []⟩,
     ⟨none, (some 6), .mov (.c (.int .i64 0)), []⟩,
     ⟨none, (some 7), .mov (.c (.int .i64 0)), []⟩])
   (.seq
    (.reg [6, 7] [
      ⟨none, (some 8), .adrF 3 none 24, []⟩,
      ⟨none, (some 9), .ldV 3 (some 8) 1 false, []⟩,
      ⟨none, (some 10), .conv .i64 (.t 9), []⟩,
      ⟨none, (some 11), .mov (.t 1), []⟩,
      ⟨none, (some 12), .adrF 3 none 26, []⟩,
      ⟨none, (some 13), .ldV 3 (some 12) 1 false, []⟩,
      ⟨none, (some 14), .conv .i64 (.t 13), []⟩,
      ⟨none, (some 17), .adrF 3 none 25, []⟩,
      ⟨none, (some 18), .ldV 3 (some 17) 1 false, []⟩,
      ⟨none, (some 19), .conv .i64 (.t 18), []⟩,
      ⟨none, (some 20), .mov (.t 2), []⟩,
      ⟨none, (some 21), .adrF 3 none 26, []⟩,
      ⟨none, (some 22), .ldV 3 (some 21) 1 false, []⟩,
      ⟨none, (some 23), .conv .i64 (.t 22), []⟩,
      ⟨none, (some 15), .call true 501 [.t 11, .t 14], []⟩,
      ⟨none, (some 16), .bin .sub (.t 10) (.t 15), []⟩,
      ⟨none, (some 24), .call true 501 [.t 20, .t 23], []⟩,
      ⟨none, (some 25), .bin .sub (.t 19) (.t 24), []⟩,
      ⟨none, (some 6), .mov (.t 16), []⟩,
      ⟨none, (some 7), .mov (.t 25), []⟩])
    .ret))
def c335 : Fn := { np := 3, nt := 26, kind := .pure, res := [.t 6, .t 7], body := k335 }

/- (impl.Cel).moved -/
def k336 : Cd :=
  (.seq
   (.reg [3, 6] [
     ⟨none, (some 3), .mov (.t 0), []⟩,
     ⟨none, (some 6), .zero true (zs 24 (.int .u16 0)), []⟩])
   (.seq
    (.reg [6] [
      ⟨none, (some 7), .adrF 3 none 0, []⟩,
      ⟨none, (some 8), .ldV 3 (some 7) 12 true, []⟩,
      ⟨none, (some 9), .mov (.t 1), []⟩,
      ⟨none, (some 10), .mov (.t 2), []⟩,
      ⟨none, (some 12), .adrF 3 none 12, []⟩,
      ⟨none, (some 13), .ldV 3 (some 12) 12 true, []⟩,
      ⟨none, (some 14), .mov (.t 1), []⟩,
      ⟨none, (some 15), .mov (.t 2), []⟩,
      ⟨none, (some 11), .call true 358 [.t 8, .t 9, .t 10], []⟩,
      ⟨none, (some 16), .call true 358 [.t 13, .t 14, .t 15], []⟩,
      ⟨none, (some 17), .agg (zs 24 (.int .u16 0)) [(0, 12, (.t 11)), (12, 12, (.t 16))], []⟩,
      ⟨none, (some 6), .stV 6 none 24 (.t 17), []⟩])
    .ret))
def c336 : Fn := { np := 3, nt := 18, kind := .pure, res := [.v 6 24 true], body := k336 }

/- spec.l01Join -/
def b337_1 : Cd :=
  (.seq
   (.seq
    (.reg [9] [
      ⟨none, (some 8), .mov (.t 6), []⟩,
      ⟨none, (some 9), .bin .lss (.t 8) (.c (.int .i64 12)), []⟩])
    (.cond (.t 9)
     .skip
     (.exit 0)))
   (.seq
    (.block 1
     (.reg [5] [
       ⟨none, (some 12), .mov (.t 6), []⟩,
       ⟨none, (some 13), .mov (.t 0), []⟩,
       ⟨none, (some 14), .mov (.t 6), []⟩,
       ⟨none, (some 15), .nil (.t 13), []⟩,
       ⟨none, (some 16), .idxP 12 1 (.t 15) (.t 14), []⟩,
       ⟨none, (some 17), .ld 1 false (.t 16), []⟩,
       ⟨none, (some 18), .mov (.t 1), []⟩,
       ⟨none, (some 19), .mov (.t 6), []⟩,
       ⟨none, (some 20), .nil (.t 18), []⟩,
       ⟨none, (some 21), .idxP 12 1 (.t 20) (.t 19), []⟩,
       ⟨none, (some 22), .ld 1 false (.t 21), []⟩,
       ⟨none, (some 23), .bin .or (.t 17) (.t 22), []⟩,
       ⟨none, (some 24), .adrI 5 none 12 1 (.t 12), []⟩,
       ⟨none, (some 5), .stV 5 (some 24) 1 (.t 23), []⟩]))
    (.reg [6] [
      ⟨none, (some 10), .mov (.t 6), []⟩,
      ⟨none, (some 11), .bin .add (.t 10) (.c (.int .i64 1)), []⟩,
      ⟨none, (some 6), .mov (.t 11), []⟩])))
def k337 : Cd :=
  (.seq
   (.reg [4] [
     ⟨none, (some 4), .zero true (zs 12 (.int .u16 0)), []⟩])
   (.seq
    (.reg [5] [
      ⟨none, (some 7), .agg (zs 12 (.int .u16 0)) [], []⟩,
      ⟨none, (some 5), .zero true (zs 12 (.int .u16 0)), []⟩,
      ⟨none, (some 5), .stV 5 none 12 (.t 7), []⟩])
    (.seq
     (.seq
      (.reg [6] [
        ⟨none, (some 6), .mov (.c (.int .i64 0)), []⟩])
      (.block 0
       (.loop b337_1)))
     (.seq
      (.reg [4] [
        ⟨none, (some 25), .ldV 5 none 12 true, []⟩,
        ⟨none, (some 4), .stV 4 none 12 (.t 25), []⟩])
      .ret))))
def c337 : Fn := { np := 2, nt := 26, kind := .pure, res := [.v 4 12 true], body := k337 }

/- (impl.Frame).join -/
def k338 : Cd :=
  (.seq
   (.reg [2, 3, 4] [
     ⟨none, (some 2), .mov (.t 0), []⟩,
     ⟨none, (some 3), .mov (.t 1), []⟩,
     ⟨none, (some 4), .zero true (zs 12 (.int .u16 0)), []⟩])
   (.seq
    (.reg [4] [
      ⟨none, (some 5), .ldV 2 none 12 true, []⟩,
      ⟨none, (some 6), .ldV 3 none 12 true, []⟩,
      ⟨none, (some 7), .call true 443 [.t 5, .t 6, .f 502], []⟩,
      ⟨none, (some 4), .stV 4 none 12 (.t 7), []⟩])
    .ret))
def c338 : Fn := { np := 2, nt := 8, kind := .pure, res := [.v 4 12 true], body := k338 }

/- spec.l01Place -/
def k342 : Cd :=
  (.seq
   (.reg [4] [
     ⟨none, (some 4), .mov (.c (.bool false)), []⟩])
   (.seq
    (.reg [4] [
      ⟨none, (some 5), .mov (.t 0), []⟩,
      ⟨none, (some 6), .call true 304 [.t 5, .c (.int .i64 0), .c (.int .i64 11)], []⟩,
      ⟨none, (some 7), .mov (.t 6), []⟩,
      ⟨(some (7, true)), (some 8), .mov (.t 1), []⟩,
      ⟨(some (7, true)), (some 9), .call true 304 [.t 8, .c (.int .i64 0), .c (.int .i64 11)], []⟩,
      ⟨none, (some 10), .pick (.t 7) (.t 9) (.c (.bool false)), []⟩,
      ⟨none, (some 4), .mov (.t 10), []⟩])
    .ret))
def c342 : Fn := { np := 2, nt := 11, kind := .pure, res := [.t 4], body := k342 }

/- impl.isPlace -/
def k345 : Cd :=
  (.seq
   (.reg [4] [
     ⟨none, (some 4), .mov (.c (.bool false)), []⟩])
   (.seq
    (.reg [4] [
      ⟨none, (some 5), .mov (.t 0), []⟩,
      ⟨none, (some 6), .call true 295 [.t 5, .c (.int .i64 0), .c (.int .i64 11)], []⟩,
      ⟨none, (some 7), .mov (.t 6), []⟩,
      ⟨(some (7, true)), (some 8), .mov (.t 1), []⟩,
      ⟨(some (7, true)), (some 9), .call true 295 [.t 8, .c (.int .i64 0), .c (.int .i64 11)], []⟩,
      ⟨none, (some 10), .pick (.t 7) (.t 9) (.c (.bool false)), []⟩,
      ⟨none, (some 4), .mov (.t 10), []⟩])
    .ret))
def c345 : Fn := { np := 2, nt := 11, kind := .pure, res := [.t 4], body := k345 }

/- spec.l01Less -/
def b349_1 : Cd :=
  (.seq
   (.seq
    (.reg [9] [
      ⟨none, (some 8), .mov (.t 6), []⟩,
      ⟨none, (some 9), .bin .lss (.t 8) (.c (.int .i64 12)), []⟩])
    (.cond (.t 9)
     .skip
     (.exit 0)))
   (.seq
    (.block 1
     (.reg [5] [
       ⟨none, (some 12), .mov (.t 6), []⟩,
       ⟨none, (some 13), .mov (.t 0), []⟩,
       ⟨none, (some 14), .mov (.t 6), []⟩,
       ⟨none, (some 15), .nil (.t 13), []⟩,
       ⟨none, (some 16), .idxP 12 1 (.t 15) (.t 14), []⟩,
       ⟨none, (some 17), .ld 1 false (.t 16), []⟩,
       ⟨none, (some 18), .mov (.t 1), []⟩,
       ⟨none, (some 19), .mov (.t 6), []⟩,
       ⟨none, (some 20), .nil (.t 18), []⟩,
       ⟨none, (some 21), .idxP 12 1 (.t 20) (.t 19), []⟩,
       ⟨none, (some 22), .ld 1 false (.t 21), []⟩,
       ⟨none, (some 23), .bin .andNot (.t 17) (.t 22), []⟩,
       ⟨none, (some 24), .adrI 5 none 12 1 (.t 12), []⟩,
       ⟨none, (some 5), .stV 5 (some 24) 1 (.t 23), []⟩]))
    (.reg [6] [
      ⟨none, (some 10), .mov (.t 6), []⟩,
      ⟨none, (some 11), .bin .add (.t 10) (.c (.int .i64 1)), []⟩,
      ⟨none, (some 6), .mov (.t 11), []⟩])))
def k349 : Cd :=
  (.seq
   (.reg [4] [
     ⟨none, (some 4), .zero true (zs 12 (.int .u16 0)), []⟩])
   (.seq
    (.reg [5] [
      ⟨none, (some 7), .agg (zs 12 (.int .u16 0)) [], []⟩,
      ⟨none, (some 5), .zero true (zs 12 (.int .u16 0)), []⟩,
      ⟨none, (some 5), .stV 5 none 12 (.t 7), []⟩])
    (.seq
     (.seq
      (.reg [6] [
        ⟨none, (some 6), .mov (.c (.int .i64 0)), []⟩])
      (.block 0
       (.loop b349_1)))
     (.seq
      (.reg [4] [
        ⟨none, (some 25), .ldV 5 none 12 true, []⟩,
        ⟨none, (some 4), .stV 4 none 12 (.t 25), []⟩])
      .ret))))
def c349 : Fn := { np := 2, nt := 26, kind := .pure, res := [.v 4 12 true], body := k349 }

/- (impl.Frame).less -/
def k350 : Cd :=
  (.seq
   (.reg [2, 3, 4] [
     ⟨none, (some 2), .mov (.t 0), []⟩,
     ⟨none, (some 3), .mov (.t 1), []⟩,
     ⟨none, (some 4), .zero true (zs 12 (.int .u16 0)), []⟩])
   (.seq
    (.reg [4] [
      ⟨none, (some 5), .ldV 2 none 12 true, []⟩,
      ⟨none, (some 6), .ldV 3 none 12 true, []⟩,
      ⟨none, (some 7), .call true 443 [.t 5, .t 6, .f 504], []⟩,
      ⟨none, (some 4), .stV 4 none 12 (.t 7), []⟩])
    .ret))
def c350 : Fn := { np := 2, nt := 8, kind := .pure, res := [.v 4 12 true], body := k350 }

/- impl.areFrames -/
def k351 : Cd :=
  (.seq
   (.reg [2] [
     ⟨none, (some 2), .mov (.c (.bool false)), []⟩])
   (.seq
    (.reg [2] [
      ⟨none, (some 3), .mov (.t 0), []⟩,
      ⟨none, (some 4), .call true 505 [.t 3, .f 506], []⟩,
      ⟨none, (some 5), .un .not (.t 4), []⟩,
      ⟨none, (some 2), .mov (.t 5), []⟩])
    .ret))
def c351 : Fn := { np := 1, nt := 6, kind := .pure, res := [.t 2], body := k351 }

/- spec.l01Moved -/
def b355_1 : Cd :=
  (.seq
   (.seq
    (.reg [16] [
      ⟨none, (some 13), .mov (.t 9), []⟩,
      ⟨none, (some 14), .mov (.t 8), []⟩,
      ⟨none, (some 15), .len (.t 14), []⟩,
      ⟨none, (some 16), .bin .lss (.t 13) (.t 15), []⟩])
    (.cond (.t 16)
     .skip
     (.exit 0)))
   (.seq
    (.block 1
     (.reg [] [
       ⟨none, (some 19), .mov (.t 8), []⟩,
       ⟨none, (some 20), .mov (.t 9), []⟩,
       ⟨none, (some 21), .idxA 2 (.t 19) (.t 20), []⟩,
       ⟨none, (some 22), .fldP 0 (.t 21), []⟩,
       ⟨none, (some 23), .ld 1 false (.t 22), []⟩,
       ⟨none, (some 24), .conv .i64 (.t 23), []⟩,
       ⟨none, (some 25), .mov (.t 1), []⟩,
       ⟨none, (some 26), .bin .add (.t 24) (.t 25), []⟩,
       ⟨none, (some 27), .mov (.t 8), []⟩,
       ⟨none, (some 28), .mov (.t 9), []⟩,
       ⟨none, (some 29), .idxA 2 (.t 27) (.t 28), []⟩,
       ⟨none, (some 30), .fldP 1 (.t 29), []⟩,
       ⟨none, (some 31), .ld 1 false (.t 30), []⟩,
       ⟨none, (some 32), .conv .i64 (.t 31), []⟩,
       ⟨none, (some 33), .mov (.t 2), []⟩,
       ⟨none, (some 34), .bin .add (.t 32) (.t 33), []⟩,
       ⟨none, (some 35), .call false 305 [.t 7, .t 26, .t 34], []⟩]))
    (.reg [9] [
      ⟨none, (some 17), .mov (.t 9), []⟩,
      ⟨none, (some 18), .bin .add (.t 17) (.c (.int .i64 1)), []⟩,
      ⟨none, (some 9), .mov (.t 18), []⟩])))
def k355 : Cd :=
  (.seq
   (.reg [6] [
     ⟨none, (some 6), .zero true (zs 12 (.int .u16 0)), []⟩])
   (.seq
    (.reg [7] [
      ⟨none, (some 10), .agg (zs 12 (.int .u16 0)) [], []⟩,
      ⟨none, (some 7), .new 1 (zs 12 (.int .u16 0)), []⟩,
      ⟨none, none, .st 12 (.t 7) (.t 10), []⟩])
    (.seq
     (.reg [8] [
       ⟨none, (some 11), .mov (.t 0), []⟩,
       ⟨none, (some 12), .call true 440 [.t 11], []⟩,
       ⟨none, (some 8), .mov (.t 12), []⟩])
     (.seq
      (.seq
       (.reg [9] [
         ⟨none, (some 9), .mov (.c (.int .i64 0)), []⟩])
       (.block 0
        (.loop b355_1)))
      (.seq
       (.reg [6] [
         ⟨none, (some 36), .ld 12 true (.t 7), []⟩,
         ⟨none, (some 6), .stV 6 none 12 (.t 36), []⟩])
       .ret)))))
def c355 : Fn := { np := 3, nt := 37, kind := .pure, res := [.v 6 12 true], body := k355 }

/- spec.l00Same -/
def b356_1 : Cd :=
  (.seq
   (.seq
    (.reg [14] [
      ⟨none, (some 11), .mov (.t 5), []⟩,
      ⟨none, (some 12), .mov (.t 0), []⟩,
      ⟨none, (some 13), .len (.t 12), []⟩,
      ⟨none, (some 14), .bin .lss (.t 11) (.t 13), []⟩])
    (.cond (.t 14)
     .skip
     (.exit 0)))
   (.seq
    (.block 1
     (.seq
      (.reg [25] [
        ⟨none, (some 17), .mov (.t 0), []⟩,
        ⟨none, (some 18), .mov (.t 5), []⟩,
        ⟨none, (some 19), .idxA 1 (.t 17) (.t 18), []⟩,
        ⟨none, (some 20), .ld 1 false (.t 19), []⟩,
        ⟨none, (some 21), .mov (.t 1), []⟩,
        ⟨none, (some 22), .mov (.t 5), []⟩,
        ⟨none, (some 23), .idxA 1 (.t 21) (.t 22), []⟩,
        ⟨none, (some 24), .ld 1 false (.t 23), []⟩,
        ⟨none, (some 25), .bin .neq (.t 20) (.t 24), []⟩])
      (.cond (.t 25)
       (.seq
        (.reg [4] [
          ⟨none, (some 4), .mov (.c (.bool false)), []⟩])
        .ret)
       .skip)))
    (.reg [5] [
      ⟨none, (some 15), .mov (.t 5), []⟩,
      ⟨none, (some 16), .bin .add (.t 15) (.c (.int .i64 1)), []⟩,
      ⟨none, (some 5), .mov (.t 16), []⟩])))
def k356 : Cd :=
  (.seq
   (.reg [4] [
     ⟨none, (some 4), .mov (.c (.bool false)), []⟩])
   (.seq
    (.seq
     (.reg [10] [
       ⟨none, (some 6), .mov (.t 0), []⟩,
       ⟨none, (some 7), .len (.t 6), []⟩,
       ⟨none, (some 8), .mov (.t 1), []⟩,
       ⟨none, (some 9), .len (.t 8), []⟩,
       ⟨none, (some 10), .bin .neq (.t 7) (.t 9), []⟩])
     (.cond (.t 10)
      (.seq
       (.reg [4] [
         ⟨none, (some 4), .mov (.c (.bool false)), []⟩])
       .ret)
      .skip))
    (.seq
     (.seq
      (.reg [5] [
        ⟨none, (some 5), .mov (.c (.int .i64 0)), []⟩])
      (.block 0
       (.loop b356_1)))
     (.seq
      (.reg [4] [
        ⟨none, (some 4), .mov (.c (.bool true)), []⟩])
      .ret))))
def c356 : Fn := { np := 2, nt := 26, kind := .pure, res := [.t 4], body := k356 }

/- (impl.Frame).moved -/
def b358_1 : Cd :=
  (.seq
   (.reg [16] [
     ⟨none, (some 16), .bin .lss (.t 15) (.c (.int .i64 12)), []⟩])
   (.seq
    (.cond (.t 16)
     .skip
     (.exit 0))
    (.seq
     (.block 1
      (.seq
       (.reg [8] [
         ⟨none, (some 17), .mov (.t 15), []⟩,
         ⟨none, (some 8), .mov (.t 17), []⟩])
       (.seq
        (.reg [9] [
          ⟨none, (some 18), .mov (.t 8), []⟩,
          ⟨none, (some 19), .mov (.t 2), []⟩,
          ⟨none, (some 20), .bin .sub (.t 18) (.t 19), []⟩,
          ⟨none, (some 9), .mov (.t 20), []⟩])
        (.seq
         (.seq
          (.reg [23] [
            ⟨none, (some 21), .mov (.t 9), []⟩,
            ⟨none, (some 22), .call true 295 [.t 21, .c (.int .i64 0), .c (.int .i64 11)], []⟩,
            ⟨none, (some 23), .un .not (.t 22), []⟩])
          (.cond (.t 23)
           (.exit 1)
           .skip))
         (.seq
          (.reg [25] [
            ⟨none, (some 24), .mov (.t 1), []⟩,
            ⟨none, (some 25), .bin .geq (.t 24) (.c (.int .i64 0)), []⟩])
          (.cond (.t 25)
           (.reg [7] [
             ⟨none, (some 26), .mov (.t 8), []⟩,
             ⟨none, (some 27), .mov (.t 9), []⟩,
             ⟨none, (some 28), .adrI 3 none 12 1 (.t 27), []⟩,
             ⟨none, (some 29), .ldV 3 (some 28) 1 false, []⟩,
             ⟨none, (some 30), .mov (.t 1), []⟩,
             ⟨none, (some 31), .bin .shl (.t 29) (.t 30), []⟩,
             ⟨none, (some 32), .bin .and (.t 31) (.c (.int .u16 4095)), []⟩,
             ⟨none, (some 33), .adrI 7 none 12 1 (.t 26), []⟩,
             ⟨none, (some 7), .stV 7 (some 33) 1 (.t 32), []⟩])
           (.reg [7] [
             ⟨none, (some 34), .mov (.t 8), []⟩,
             ⟨none, (some 35), .mov (.t 9), []⟩,
             ⟨none, (some 36), .adrI 3 none 12 1 (.t 35), []⟩,
             ⟨none, (some 37), .ldV 3 (some 36) 1 false, []⟩,
             ⟨none, (some 38), .mov (.t 1), []⟩,
             ⟨none, (some 39), .un .neg (.t 38), []⟩,
             ⟨none, (some 40), .bin .shr (.t 37) (.t 39), []⟩,
             ⟨none, (some 41), .adrI 7 none 12 1 (.t 34), []⟩,
             ⟨none, (some 7), .stV 7 (some 41) 1 (.t 40), []⟩])))))))
     (.reg [15] [
       ⟨none, (some 42), .bin .add (.t 15) (.c (.int .i64 1)), []⟩,
       ⟨none, (some 15), .mov (.t 42), []⟩]))))
def k358 : Cd :=
  (.seq
   (.reg [3, 6] [
     ⟨none, (some 3), .mov (.t 0), []⟩,
     ⟨none, (some 6), .zero true (zs 12 (.int .u16 0)), []⟩])
   (.seq
    (.reg [7] [
      ⟨none, (some 10), .agg (zs 12 (.int .u16 0)) [], []⟩,
      ⟨none, (some 7), .zero true (zs 12 (.int .u16 0)), []⟩,
      ⟨none, (some 7), .stV 7 none 12 (.t 10), []⟩])
    (.seq
     (.seq
      (.reg [13] [
        ⟨none, (some 11), .mov (.t 1), []⟩,
        ⟨none, (some 12), .call true 295 [.t 11, .c (.int .i64 (-12)), .c (.int .i64 12)], []⟩,
        ⟨none, (some 13), .un .not (.t 12), []⟩])
      (.cond (.t 13)
       (.seq
        (.reg [6] [
          ⟨none, (some 14), .ldV 7 none 12 true, []⟩,
          ⟨none, (some 6), .stV 6 none 12 (.t 14), []⟩])
        .ret)
       .skip))
     (.seq
      (.seq
       (.reg [15] [
         ⟨none, (some 15), .mov (.c (.int .i64 0)), []⟩])
       (.block 0
        (.loop b358_1)))
      (.seq
       (.reg [6] [
         ⟨none, (some 43), .ldV 7 none 12 true, []⟩,
         ⟨none, (some 6), .stV 6 none 12 (.t 43), []⟩])
       .ret)))))
def c358 : Fn := { np := 3, nt := 44, kind := .pure, res := [.v 6 12 true], body := k358 }

/- spec.l01Ok -/
def b359_1 : Cd :=
  (.seq
   (.seq
    (.reg [5] [
      ⟨none, (some 4), .mov (.t 3), []⟩,
      ⟨none, (some 5), .bin .lss (.t 4) (.c (.int .i64 12)), []⟩])
    (.cond (.t 5)
     .skip
     (.exit 0)))
   (.seq
    (.block 1
     (.seq
      (.reg [13] [
        ⟨none, (some 8), .mov (.t 0), []⟩,
        ⟨none, (some 9), .mov (.t 3), []⟩,
        ⟨none, (some 10), .nil (.t 8), []⟩,
        ⟨none, (some 11), .idxP 12 1 (.t 10) (.t 9), []⟩,
        ⟨none, (some 12), .ld 1 false (.t 11), []⟩,
        ⟨none, (some 13), .bin .gtr (.t 12) (.c (.int .u16 4095)), []⟩])
      (.cond (.t 13)
       (.seq
        (.reg [2] [
          ⟨none, (some 2), .mov (.c (.bool false)), []⟩])
        .ret)
       .skip)))
    (.reg [3] [
      ⟨none, (some 6), .mov (.t 3), []⟩,
      ⟨none, (some 7), .bin .add (.t 6) (.c (.int .i64 1)), []⟩,
      ⟨none, (some 3), .mov (.t 7), []⟩])))
def k359 : Cd :=
  (.seq
   (.reg [2] [
     ⟨none, (some 2), .mov (.c (.bool false)), []⟩])
   (.seq
    (.seq
     (.reg [3] [
       ⟨none, (some 3), .mov (.c (.int .i64 0)), []⟩])
     (.block 0
      (.loop b359_1)))
    (.seq
     (.reg [2] [
       ⟨none, (some 2), .mov (.c (.bool true)), []⟩])
     .ret)))
def c359 : Fn := { np := 1, nt := 14, kind := .pure, res := [.t 2], body := k359 }

/- spec.l01Drawn -/
def b368_1 : Cd :=
  (.seq
   (.seq
    (.reg [16] [
      ⟨none, (some 15), .mov (.t 6), []⟩,
      ⟨none, (some 16), .bin .gtr (.t 15) (.c (.int .i64 0)), []⟩])
    (.cond (.t 16)
     .skip
     (.exit 0)))
   (.seq
    (.block 1
     (.seq
      (.reg [] [
        ⟨none, (some 19), .mov (.t 4), []⟩,
        ⟨none, (some 20), .mov (.t 5), []⟩,
        ⟨none, (some 21), .call false 305 [.t 3, .t 19, .t 20], []⟩])
      (.seq
       (.reg [23] [
         ⟨none, (some 22), .mov (.t 0), []⟩,
         ⟨none, (some 23), .call false 459 [.t 22, .c (.int .i64 6)], []⟩])
       (.block 2
        (.seq
         (.reg [30] [
           ⟨none, (some 31), .bin .eql (.t 23) (.c (.int .i64 0)), []⟩,
           ⟨none, (some 30), .mov (.t 31), []⟩])
         (.cond (.t 30)
          (.seq
           (.reg [4] [
             ⟨none, (some 32), .mov (.t 0), []⟩,
             ⟨none, (some 33), .call false 459 [.t 32, .c (.int .i64 12)], []⟩,
             ⟨none, (some 4), .mov (.t 33), []⟩])
           (.reg [5] [
             ⟨none, (some 34), .mov (.t 0), []⟩,
             ⟨none, (some 35), .call false 459 [.t 34, .c (.int .i64 12)], []⟩,
             ⟨none, (some 5), .mov (.t 35), []⟩]))
          (.seq
           (.seq
            (.reg [36] [
              ⟨none, (some 37), .bin .eql (.t 23) (.c (.int .i64 1)), []⟩,
              ⟨none, (some 36), .mov (.t 37), []⟩])
            (.cond (.t 36)
             .skip
             (.reg [36] [
               ⟨none, (some 38), .bin .eql (.t 23) (.c (.int .i64 2)), []⟩,
               ⟨none, (some 36), .mov (.t 38), []⟩])))
           (.cond (.t 36)
            (.reg [4] [
              ⟨none, (some 39), .mov (.t 4), []⟩,
              ⟨none, (some 40), .bin .add (.t 39) (.c (.int .i64 1)), []⟩,
              ⟨none, (some 41), .bin .rem (.t 40) (.c (.int .i64 12)), []⟩,
              ⟨none, (some 4), .mov (.t 41), []⟩])
            (.reg [5] [
              ⟨none, (some 24), .mov (.t 5), []⟩,
              ⟨none, (some 25), .mov (.t 0), []⟩,
              ⟨none, (some 26), .call false 459 [.t 25, .c (.int .i64 3)], []⟩,
              ⟨none, (some 27), .bin .add (.t 24) (.t 26), []⟩,
              ⟨none, (some 28), .bin .add (.t 27) (.c (.int .i64 11)), []⟩,
              ⟨none, (some 29), .bin .rem (.t 28) (.c (.int .i64 12)), []⟩,
              ⟨none, (some 5), .mov (.t 29), []⟩])))))))))
    (.reg [6] [
      ⟨none, (some 17), .mov (.t 6), []⟩,
      ⟨none, (some 18), .bin .sub (.t 17) (.c (.int .i64 1)), []⟩,
      ⟨none, (some 6), .mov (.t 18), []⟩])))
def b368_2 : Cd :=
  (.seq
   (.seq
    (.reg [45] [
      ⟨none, (some 44), .mov (.t 7), []⟩,
      ⟨none, (some 45), .bin .lss (.t 44) (.c (.int .i64 12)), []⟩])
    (.cond (.t 45)
     .skip
     (.exit 3)))
   (.seq
    (.block 4
     (.reg [] [
       ⟨none, (some 48), .mov (.t 7), []⟩,
       ⟨none, (some 49), .mov (.t 7), []⟩,
       ⟨none, (some 50), .idxP 12 1 (.t 3) (.t 49), []⟩,
       ⟨none, (some 51), .ld 1 false (.t 50), []⟩,
       ⟨none, (some 52), .mov (.t 0), []⟩,
       ⟨none, (some 53), .call false 459 [.t 52, .c (.int .i64 4096)], [.t 50]⟩,
       ⟨none, (some 54), .conv .u16 (.t 53), []⟩,
       ⟨none, (some 55), .bin .or (.t 51) (.t 54), []⟩,
       ⟨none, (some 56), .idxP 12 1 (.t 3) (.t 48), []⟩,
       ⟨none, none, .st 1 (.t 56) (.t 55), []⟩]))
    (.reg [7] [
      ⟨none, (some 46), .mov (.t 7), []⟩,
      ⟨none, (some 47), .bin .add (.t 46) (.c (.int .i64 1)), []⟩,
      ⟨none, (some 7), .mov (.t 47), []⟩])))
def k368 : Cd :=
  (.seq
   (.reg [2] [
     ⟨none, (some 2), .zero true (zs 12 (.int .u16 0)), []⟩])
   (.seq
    (.reg [3] [
      ⟨none, (some 8), .agg (zs 12 (.int .u16 0)) [], []⟩,
      ⟨none, (some 3), .new 1 (zs 12 (.int .u16 0)), []⟩,
      ⟨none, none, .st 12 (.t 3) (.t 8), []⟩])
    (.seq
     (.reg [4] [
       ⟨none, (some 9), .mov (.t 0), []⟩,
       ⟨none, (some 10), .call false 459 [.t 9, .c (.int .i64 12)], []⟩,
       ⟨none, (some 4), .mov (.t 10), []⟩])
     (.seq
      (.reg [5] [
        ⟨none, (some 11), .mov (.t 0), []⟩,
        ⟨none, (some 12), .call false 459 [.t 11, .c (.int .i64 12)], []⟩,
        ⟨none, (some 5), .mov (.t 12), []⟩])
      (.seq
       (.seq
        (.reg [6] [
          ⟨none, (some 13), .mov (.t 0), []⟩,
          ⟨none, (some 14), .call false 459 [.t 13, .c (.int .i64 14)], []⟩,
          ⟨none, (some 6), .mov (.t 14), []⟩])
        (.block 0
         (.loop b368_1)))
       (.seq
        (.seq
         (.reg [43] [
           ⟨none, (some 42), .mov (.t 0), []⟩,
           ⟨none, (some 43), .call false 513 [.t 42, .c (.int .i64 8)], []⟩])
         (.cond (.t 43)
          (.seq
           (.reg [7] [
             ⟨none, (some 7), .mov (.c (.int .i64 0)), []⟩])
           (.block 3
            (.loop b368_2)))
          .skip))
        (.seq
         (.reg [2] [
           ⟨none, (some 57), .ld 12 true (.t 3), []⟩,
           ⟨none, (some 2), .stV 2 none 12 (.t 57), []⟩])
         .ret)))))))
def c368 : Fn := { np := 1, nt := 58, kind := .args, res := [.v 2 12 true], body := k368 }

/- (impl.Frame).count -/
def b393_1 : Cd :=
  (.seq
   (.reg [8] [
     ⟨none, (some 8), .bin .lss (.t 7) (.c (.int .i64 12)), []⟩])
   (.seq
    (.cond (.t 8)
     .skip
     (.exit 0))
    (.seq
     (.block 1
      (.seq
       (.reg [5] [
         ⟨none, (some 9), .idx 12 1 false (.t 6) (.t 7), []⟩,
         ⟨none, (some 5), .mov (.t 9), []⟩])
       (.reg [3] [
         ⟨none, (some 10), .mov (.t 3), []⟩,
         ⟨none, (some 11), .mov (.t 5), []⟩,
         ⟨none, (some 12), .call true 530 [.t 11], []⟩,
         ⟨none, (some 13), .bin .add (.t 10) (.t 12), []⟩,
         ⟨none, (some 3), .mov (.t 13), []⟩])))
     (.reg [7] [
       ⟨none, (some 14), .bin .add (.t 7) (.c (.int .i64 1)), []⟩,
       ⟨none, (some 7), .mov (.t 14), []⟩]))))
def k393 : Cd :=
  (.seq
   (.reg [1, 2] [
     ⟨none, (some 1), .mov (.t 0), []⟩,
     ⟨none, (some 2), .mov (.c (.int .i64 0)), []⟩])
   (.seq
    (.reg [3] [
      ⟨none, (some 3), .mov (.c (.int .i64 0)), []⟩])
    (.seq
     (.seq
      (.reg [6, 7] [
        ⟨none, (some 6), .ldV 1 none 12 true, []⟩,
        ⟨none, (some 7), .mov (.c (.int .i64 0)), []⟩])
      (.block 0
       (.loop b393_1)))
     (.seq
      (.reg [2] [
        ⟨none, (some 15), .mov (.t 3), []⟩,
        ⟨none, (some 2), .mov (.t 15), []⟩])
      .ret))))
def c393 : Fn := { np := 1, nt := 16, kind := .pure, res := [.t 2], body := k393 }

/- (impl.Frame).has -/
def k395 : Cd :=
  (.seq
   (.reg [3, 6] [
     ⟨none, (some 3), .mov (.t 0), []⟩,
     ⟨none, (some 6), .mov (.c (.bool false)), []⟩])
   (.seq
    (.reg [6] [
      ⟨none, (some 7), .mov (.t 1), []⟩,
      ⟨none, (some 8), .mov (.t 2), []⟩,
      ⟨none, (some 9), .call true 345 [.t 7, .t 8], []⟩,
      ⟨none, (some 10), .mov (.t 9), []⟩,
      ⟨(some (10, true)), (some 11), .mov (.t 2), []⟩,
      ⟨(some (10, true)), (some 12), .adrI 3 none 12 1 (.t 11), []⟩,
      ⟨(some (10, true)), (some 13), .ldV 3 (some 12) 1 false, []⟩,
      ⟨(some (10, true)), (some 14), .mov (.t 1), []⟩,
      ⟨(some (10, true)), (some 15), .bin .shr (.t 13) (.t 14), []⟩,
      ⟨(some (10, true)), (some 16), .bin .and (.t 15) (.c (.int .u16 1)), []⟩,
      ⟨(some (10, true)), (some 17), .bin .eql (.t 16) (.c (.int .u16 1)), []⟩,
      ⟨none, (some 18), .pick (.t 10) (.t 17) (.c (.bool false)), []⟩,
      ⟨none, (some 6), .mov (.t 18), []⟩])
    .ret))
def c395 : Fn := { np := 3, nt := 19, kind := .pure, res := [.t 6], body := k395 }

/- spec.l05Seen -/
def b408_1 : Cd :=
  (.seq
   (.seq
    (.reg [18] [
      ⟨none, (some 15), .mov (.t 9), []⟩,
      ⟨none, (some 16), .mov (.t 0), []⟩,
      ⟨none, (some 17), .len (.t 16), []⟩,
      ⟨none, (some 18), .bin .lss (.t 15) (.t 17), []⟩])
    (.cond (.t 18)
     .skip
     (.exit 0)))
   (.seq
    (.block 1
     (.seq
      (.reg [10, 11] [
        ⟨none, (some 22), .mov (.t 0), []⟩,
        ⟨none, (some 23), .mov (.t 9), []⟩,
        ⟨none, (some 24), .idxA 27 (.t 22) (.t 23), []⟩,
        ⟨none, (some 25), .mov (.t 1), []⟩,
        ⟨none, (some 26), .mov (.t 2), []⟩,
        ⟨none, (some 27), .call true 499 [.t 24, .t 25, .t 26], []⟩,
        ⟨none, (some 21), .mov (.t 27), []⟩,
        ⟨none, (some 28), .ext (.t 21) 0, []⟩,
        ⟨none, (some 29), .ext (.t 21) 1, []⟩,
        ⟨none, (some 10), .mov (.t 28), []⟩,
        ⟨none, (some 11), .mov (.t 29), []⟩])
      (.seq
       (.reg [12] [
         ⟨none, (some 30), .mov (.t 0), []⟩,
         ⟨none, (some 31), .mov (.t 9), []⟩,
         ⟨none, (some 32), .idxA 27 (.t 30) (.t 31), []⟩,
         ⟨none, (some 33), .fldP 0 (.t 32), []⟩,
         ⟨none, (some 34), .fldP 12 (.t 33), []⟩,
         ⟨none, (some 35), .mov (.t 10), []⟩,
         ⟨none, (some 36), .mov (.t 11), []⟩,
         ⟨none, (some 37), .call true 355 [.t 34, .t 35, .t 36], []⟩,
         ⟨none, (some 12), .new 1 (zs 12 (.int .u16 0)), []⟩,
         ⟨none, none, .st 12 (.t 12) (.t 37), []⟩])
       (.seq
        (.reg [7] [
          ⟨none, (some 38), .mov (.t 7), []⟩,
          ⟨none, (some 39), .call true 349 [.t 12, .t 8], []⟩,
          ⟨none, (some 40), .bldS 12 1 (zs 12 (.int .u16 0)) [(0, 12, (.t 39))], []⟩,
          ⟨none, (some 41), .app 12 24 (.t 38) (.t 40), []⟩,
          ⟨none, (some 7), .mov (.t 41), []⟩])
        (.reg [] [
          ⟨none, (some 42), .call true 337 [.t 8, .t 12], []⟩,
          ⟨none, none, .st 12 (.t 8) (.t 42), []⟩])))))
    (.reg [9] [
      ⟨none, (some 19), .mov (.t 9), []⟩,
      ⟨none, (some 20), .bin .add (.t 19) (.c (.int .i64 1)), []⟩,
      ⟨none, (some 9), .mov (.t 20), []⟩])))
def k408 : Cd :=
  (.seq
   (.reg [6] [
     ⟨none, (some 6), .mov (.c (.slice none 0 0)), []⟩])
   (.seq
    (.reg [7] [
      ⟨none, (some 13), .bldS 12 0 (zs 12 (.int .u16 0)) [], []⟩,
      ⟨none, (some 7), .mov (.t 13), []⟩])
    (.seq
     (.reg [8] [
       ⟨none, (some 14), .agg (zs 12 (.int .u16 0)) [], []⟩,
       ⟨none, (some 8), .new 1 (zs 12 (.int .u16 0)), []⟩,
       ⟨none, none, .st 12 (.t 8) (.t 14), []⟩])
     (.seq
      (.seq
       (.reg [9] [
         ⟨none, (some 9), .mov (.c (.int .i64 0)), []⟩])
       (.block 0
        (.loop b408_1)))
      (.seq
       (.reg [6] [
         ⟨none, (some 43), .mov (.t 7), []⟩,
         ⟨none, (some 6), .mov (.t 43), []⟩])
       .ret)))))
def c408 : Fn := { np := 3, nt := 44, kind := .pure, res := [.t 6], body := k408 }

/- spec.l01Count -/
def k409 : Cd :=
  (.seq
   (.reg [2] [
     ⟨none, (some 2), .mov (.c (.int .i64 0)), []⟩])
   (.seq
    (.reg [2] [
      ⟨none, (some 3), .mov (.t 0), []⟩,
      ⟨none, (some 4), .call true 440 [.t 3], []⟩,
      ⟨none, (some 5), .len (.t 4), []⟩,
      ⟨none, (some 2), .mov (.t 5), []⟩])
    .ret))
def c409 : Fn := { np := 1, nt := 6, kind := .pure, res := [.t 2], body := k409 }

/- (impl.Scene).seen -/
def b412_1 : Cd :=
  (.seq
   (.reg [17] [
     ⟨none, (some 17), .bin .lss (.t 16) (.t 15), []⟩])
   (.seq
    (.cond (.t 17)
     .skip
     (.exit 0))
    (.seq
     (.block 1
      (.seq
       (.reg [10] [
         ⟨none, (some 18), .idxA 27 (.t 14) (.t 16), []⟩,
         ⟨none, (some 19), .ld 27 true (.t 18), []⟩,
         ⟨none, (some 10), .zero true [.int .u16 0, .int .u16 0, .int .u16 0, .int .u16 0, .int .u16 0, .int .u16 0, .int .u16 0, .int .u16 0, .int .u16 0, .int .u16 0, .int .u16 0, .int .u16 0, .int .u16 0, .int .u16 0, .int .u16 0, .int .u16 0, .int .u16 0, .int .u16 0, .int .u16 0, .int .u16 0, .int .u16 0, .int .u16 0, .int .u16 0, .int .u16 0, .int .i8 0, .int .i8 0, .int .i8 0], []⟩,
         ⟨none, (some 10), .stV 10 none 27 (.t 19), []⟩])
       (.seq
        (.reg [11] [
          ⟨none, (some 20), .adrF 10 none 0, []⟩,
          ⟨none, (some 21), .ldV 10 (some 20) 24 true, []⟩,
          ⟨none, (some 22), .ldV 10 none 27 true, []⟩,
          ⟨none, (some 23), .mov (.t 1), []⟩,
          ⟨none, (some 24), .mov (.t 2), []⟩,
          ⟨none, (some 11), .zero true (zs 12 (.int .u16 0)), []⟩,
          ⟨none, (some 25), .call true 335 [.t 22, .t 23, .t 24], []⟩,
          ⟨none, (some 26), .ext (.t 25) 0, []⟩,
          ⟨none, (some 27), .ext (.t 25) 1, []⟩,
          ⟨none, (some 28), .call true 336 [.t 21, .t 26, .t 27], []⟩,
          ⟨none, (some 29), .fld 12 12 true (.t 28), []⟩,
          ⟨none, (some 11), .stV 11 none 12 (.t 29), []⟩])
        (.seq
         (.reg [7] [
           ⟨none, (some 30), .mov (.t 7), []⟩,
           ⟨none, (some 31), .ldV 11 none 12 true, []⟩,
           ⟨none, (some 32), .ldV 8 none 12 true, []⟩,
           ⟨none, (some 33), .call true 350 [.t 31, .t 32], []⟩,
           ⟨none, (some 34), .bldS 12 1 (zs 12 (.int .u16 0)) [(0, 12, (.t 33))], []⟩,
           ⟨none, (some 35), .app 12 24 (.t 30) (.t 34), []⟩,
           ⟨none, (some 7), .mov (.t 35), []⟩])
         (.reg [8] [
           ⟨none, (some 36), .ldV 8 none 12 true, []⟩,
           ⟨none, (some 37), .ldV 11 none 12 true, []⟩,
           ⟨none, (some 38), .call true 338 [.t 36, .t 37], []⟩,
           ⟨none, (some 8), .stV 8 none 12 (.t 38), []⟩])))))
     (.reg [16] [
       ⟨none, (some 39), .bin .add (.t 16) (.c (.int .i64 1)), []⟩,
       ⟨none, (some 16), .mov (.t 39), []⟩]))))
def k412 : Cd :=
  (.seq
   (.reg [6] [
     ⟨none, (some 6), .mov (.c (.slice none 0 0)), []⟩])
   (.seq
    (.reg [8, 7] [
      ⟨none, (some 12), .bldS 12 0 (zs 12 (.int .u16 0)) [], []⟩,
      ⟨none, (some 13), .agg (zs 12 (.int .u16 0)) [], []⟩,
      ⟨none, (some 8), .zero true (zs 12 (.int .u16 0)), []⟩,
      ⟨none, (some 7), .mov (.t 12), []⟩,
      ⟨none, (some 8), .stV 8 none 12 (.t 13), []⟩])
    (.seq
     (.seq
      (.reg [14, 15, 16] [
        ⟨none, (some 14), .mov (.t 0), []⟩,
        ⟨none, (some 15), .len (.t 14), []⟩,
        ⟨none, (some 16), .mov (.c (.int .i64 0)), []⟩])
      (.block 0
       (.loop b412_1)))
     (.seq
      (.reg [6] [
        ⟨none, (some 40), .mov (.t 7), []⟩,
        ⟨none, (some 6), .mov (.t 40), []⟩])
      .ret))))
def c412 : Fn := { np := 3, nt := 41, kind := .pure, res := [.t 6], body := k412 }

/- impl.isCamera -/
def k416 : Cd :=
  (.seq
   (.reg [4] [
     ⟨none, (some 4), .mov (.c (.bool false)), []⟩])
   (.seq
    (.reg [4] [
      ⟨none, (some 5), .mov (.t 0), []⟩,
      ⟨none, (some 6), .call true 295 [.t 5, .c (.int .i64 (-100)), .c (.int .i64 100)], []⟩,
      ⟨none, (some 7), .mov (.t 6), []⟩,
      ⟨(some (7, true)), (some 8), .mov (.t 1), []⟩,
      ⟨(some (7, true)), (some 9), .call true 295 [.t 8, .c (.int .i64 (-100)), .c (.int .i64 100)], []⟩,
      ⟨none, (some 10), .pick (.t 7) (.t 9) (.c (.bool false)), []⟩,
      ⟨none, (some 4), .mov (.t 10), []⟩])
    .ret))
def c416 : Fn := { np := 2, nt := 11, kind := .pure, res := [.t 4], body := k416 }

/- spec.l01Dots -/
def b440_1 : Cd :=
  (.seq
   (.seq
    (.reg [12] [
      ⟨none, (some 11), .mov (.t 5), []⟩,
      ⟨none, (some 12), .bin .lss (.t 11) (.c (.int .i64 12)), []⟩])
    (.cond (.t 12)
     .skip
     (.exit 2)))
   (.seq
    (.block 3
     (.seq
      (.reg [18] [
        ⟨none, (some 15), .mov (.t 0), []⟩,
        ⟨none, (some 16), .mov (.t 5), []⟩,
        ⟨none, (some 17), .mov (.t 4), []⟩,
        ⟨none, (some 18), .call true 456 [.t 15, .t 16, .t 17], []⟩])
      (.cond (.t 18)
       (.reg [3] [
         ⟨none, (some 19), .mov (.t 3), []⟩,
         ⟨none, (some 20), .mov (.t 5), []⟩,
         ⟨none, (some 21), .conv .i8 (.t 20), []⟩,
         ⟨none, (some 22), .mov (.t 4), []⟩,
         ⟨none, (some 23), .conv .i8 (.t 22), []⟩,
         ⟨none, (some 24), .agg [.int .i8 0, .int .i8 0] [(0, 1, (.t 21)), (1, 1, (.t 23))], []⟩,
         ⟨none, (some 25), .bldS 2 1 [.int .i8 0, .int .i8 0] [(0, 2, (.t 24))], []⟩,
         ⟨none, (some 26), .app 2 2 (.t 19) (.t 25), []⟩,
         ⟨none, (some 3), .mov (.t 26), []⟩])
       .skip)))
    (.reg [5] [
      ⟨none, (some 13), .mov (.t 5), []⟩,
      ⟨none, (some 14), .bin .add (.t 13) (.c (.int .i64 1)), []⟩,
      ⟨none, (some 5), .mov (.t 14), []⟩])))
def b440_2 : Cd :=
  (.seq
   (.seq
    (.reg [8] [
      ⟨none, (some 7), .mov (.t 4), []⟩,
      ⟨none, (some 8), .bin .lss (.t 7) (.c (.int .i64 12)), []⟩])
    (.cond (.t 8)
     .skip
     (.exit 0)))
   (.seq
    (.block 1
     (.seq
      (.reg [5] [
        ⟨none, (some 5), .mov (.c (.int .i64 0)), []⟩])
      (.block 2
       (.loop b440_1))))
    (.reg [4] [
      ⟨none, (some 9), .mov (.t 4), []⟩,
      ⟨none, (some 10), .bin .add (.t 9) (.c (.int .i64 1)), []⟩,
      ⟨none, (some 4), .mov (.t 10), []⟩])))
def k440 : Cd :=
  (.seq
   (.reg [2] [
     ⟨none, (some 2), .mov (.c (.slice none 0 0)), []⟩])
   (.seq
    (.reg [3] [
      ⟨none, (some 6), .bldS 2 0 [.int .i8 0, .int .i8 0] [], []⟩,
      ⟨none, (some 3), .mov (.t 6), []⟩])
    (.seq
     (.seq
      (.reg [4] [
        ⟨none, (some 4), .mov (.c (.int .i64 0)), []⟩])
      (.block 0
       (.loop b440_2)))
     (.seq
      (.reg [2] [
        ⟨none, (some 27), .mov (.t 3), []⟩,
        ⟨none, (some 2), .mov (.t 27), []⟩])
      .ret))))
def c440 : Fn := { np := 1, nt := 28, kind := .pure, res := [.t 2], body := k440 }

/- (impl.Frame).mix -/
def b443_1 : Cd :=
  (.seq
   (.reg [11] [
     ⟨none, (some 11), .bin .lss (.t 10) (.c (.int .i64 12)), []⟩])
   (.seq
    (.cond (.t 11)
     .skip
     (.exit 0))
    (.seq
     (.block 1
      (.seq
       (.reg [7, 8] [
         ⟨none, (some 12), .mov (.t 10), []⟩,
         ⟨none, (some 13), .idx 12 1 false (.t 9) (.t 10), []⟩,
         ⟨none, (some 7), .mov (.t 12), []⟩,
         ⟨none, (some 8), .mov (.t 13), []⟩])
       (.reg [3] [
         ⟨none, (some 14), .mov (.t 7), []⟩,
         ⟨none, (some 15), .mov (.t 2), []⟩,
         ⟨none, (some 16), .mov (.t 8), []⟩,
         ⟨none, (some 17), .mov (.t 7), []⟩,
         ⟨none, (some 18), .adrI 4 none 12 1 (.t 17), []⟩,
         ⟨none, (some 19), .ldV 4 (some 18) 1 false, []⟩,
         ⟨none, (some 20), .callv (.t 15) [.t 16, .t 19], []⟩,
         ⟨none, (some 21), .adrI 3 none 12 1 (.t 14), []⟩,
         ⟨none, (some 3), .stV 3 (some 21) 1 (.t 20), []⟩])))
     (.reg [10] [
       ⟨none, (some 22), .bin .add (.t 10) (.c (.int .i64 1)), []⟩,
       ⟨none, (some 10), .mov (.t 22), []⟩]))))
def k443 : Cd :=
  (.seq
   (.reg [3, 4, 6] [
     ⟨none, (some 3), .mov (.t 0), []⟩,
     ⟨none, (some 4), .mov (.t 1), []⟩,
     ⟨none, (some 6), .zero true (zs 12 (.int .u16 0)), []⟩])
   (.seq
    (.seq
     (.reg [9, 10] [
       ⟨none, (some 9), .ldV 3 none 12 true, []⟩,
       ⟨none, (some 10), .mov (.c (.int .i64 0)), []⟩])
     (.block 0
      (.loop b443_1)))
    (.seq
     (.reg [6] [
       ⟨none, (some 23), .ldV 3 none 12 true, []⟩,
       ⟨none, (some 6), .stV 6 none 12 (.t 23), []⟩])
     .ret)))
def c443 : Fn := { np := 3, nt := 24, kind := .pure, res := [.v 6 12 true], body := k443 }

/- slices.ContainsFunc[[]uint16,uint16] -/
def k445 : Cd :=
  (.seq
   (.reg [4] [
     ⟨none, (some 4), .mov (.c (.bool false)), []⟩])
   (.seq
    (.reg [4] [
      ⟨none, (some 5), .mov (.t 0), []⟩,
      ⟨none, (some 6), .mov (.t 1), []⟩,
      ⟨none, (some 7), .call true 547 [.t 5, .t 6], []⟩,
      ⟨none, (some 8), .bin .geq (.t 7) (.c (.int .i64 0)), []⟩,
      ⟨none, (some 4), .mov (.t 8), []⟩])
    .ret))
def c445 : Fn := { np := 2, nt := 9, kind := .pure, res := [.t 4], body := k445 }

/- impl.ValidFrame$1 -/
def k446 : Cd :=
  (.seq
   (.reg [2] [
     ⟨none, (some 2), .mov (.c (.bool false)), []⟩])
   (.seq
    (.reg [2] [
      ⟨none, (some 3), .mov (.t 0), []⟩,
      ⟨none, (some 4), .bin .gtr (.t 3) (.c (.int .u16 4095)), []⟩,
      ⟨none, (some 2), .mov (.t 4), []⟩])
    .ret))
def c446 : Fn := { np := 1, nt := 5, kind := .pure, res := [.t 2], body := k446 }

/- spec.l01Grow -/
def b453_1 : Cd :=
  (.seq
   (.seq
    (.reg [16] [
      ⟨none, (some 13), .mov (.t 5), []⟩,
      ⟨none, (some 14), .mov (.t 4), []⟩,
      ⟨none, (some 15), .len (.t 14), []⟩,
      ⟨none, (some 16), .bin .lss (.t 13) (.t 15), []⟩])
    (.cond (.t 16)
     .skip
     (.exit 0)))
   (.seq
    (.block 1
     (.seq
      (.reg [6] [
        ⟨none, (some 19), .mov (.t 4), []⟩,
        ⟨none, (some 20), .mov (.t 5), []⟩,
        ⟨none, (some 21), .idxA 2 (.t 19) (.t 20), []⟩,
        ⟨none, (some 22), .fldP 0 (.t 21), []⟩,
        ⟨none, (some 23), .ld 1 false (.t 22), []⟩,
        ⟨none, (some 24), .conv .i64 (.t 23), []⟩,
        ⟨none, (some 6), .mov (.t 24), []⟩])
      (.seq
       (.reg [7] [
         ⟨none, (some 25), .mov (.t 4), []⟩,
         ⟨none, (some 26), .mov (.t 5), []⟩,
         ⟨none, (some 27), .idxA 2 (.t 25) (.t 26), []⟩,
         ⟨none, (some 28), .fldP 1 (.t 27), []⟩,
         ⟨none, (some 29), .ld 1 false (.t 28), []⟩,
         ⟨none, (some 30), .conv .i64 (.t 29), []⟩,
         ⟨none, (some 7), .mov (.t 30), []⟩])
       (.seq
        (.reg [] [
          ⟨none, (some 31), .mov (.t 6), []⟩,
          ⟨none, (some 32), .bin .sub (.t 31) (.c (.int .i64 1)), []⟩,
          ⟨none, (some 33), .mov (.t 7), []⟩,
          ⟨none, (some 34), .call false 305 [.t 3, .t 32, .t 33], []⟩])
        (.seq
         (.reg [] [
           ⟨none, (some 35), .mov (.t 6), []⟩,
           ⟨none, (some 36), .bin .add (.t 35) (.c (.int .i64 1)), []⟩,
           ⟨none, (some 37), .mov (.t 7), []⟩,
           ⟨none, (some 38), .call false 305 [.t 3, .t 36, .t 37], []⟩])
         (.seq
          (.reg [] [
            ⟨none, (some 39), .mov (.t 6), []⟩,
            ⟨none, (some 40), .mov (.t 7), []⟩,
            ⟨none, (some 41), .bin .sub (.t 40) (.c (.int .i64 1)), []⟩,
            ⟨none, (some 42), .call false 305 [.t 3, .t 39, .t 41], []⟩])
          (.reg [] [
            ⟨none, (some 43), .mov (.t 6), []⟩,
            ⟨none, (some 44), .mov (.t 7), []⟩,
            ⟨none, (some 45), .bin .add (.t 44) (.c (.int .i64 1)), []⟩,
            ⟨none, (some 46), .call false 305 [.t 3, .t 43, .t 45], []⟩])))))))
    (.reg [5] [
      ⟨none, (some 17), .mov (.t 5), []⟩,
      ⟨none, (some 18), .bin .add (.t 17) (.c (.int .i64 1)), []⟩,
      ⟨none, (some 5), .mov (.t 18), []⟩])))
def k453 : Cd :=
  (.seq
   (.reg [2] [
     ⟨none, (some 2), .zero true (zs 12 (.int .u16 0)), []⟩])
   (.seq
    (.reg [3] [
      ⟨none, (some 8), .mov (.t 0), []⟩,
      ⟨none, (some 9), .nil (.t 8), []⟩,
      ⟨none, (some 10), .ld 12 true (.t 9), []⟩,
      ⟨none, (some 3), .new 1 (zs 12 (.int .u16 0)), []⟩,
      ⟨none, none, .st 12 (.t 3) (.t 10), []⟩])
    (.seq
     (.reg [4] [
       ⟨none, (some 11), .mov (.t 0), []⟩,
       ⟨none, (some 12), .call true 440 [.t 11], []⟩,
       ⟨none, (some 4), .mov (.t 12), []⟩])
     (.seq
      (.seq
       (.reg [5] [
         ⟨none, (some 5), .mov (.c (.int .i64 0)), []⟩])
       (.block 0
        (.loop b453_1)))
      (.seq
       (.reg [2] [
         ⟨none, (some 47), .ld 12 true (.t 3), []⟩,
         ⟨none, (some 2), .stV 2 none 12 (.t 47), []⟩])
       .ret)))))
def c453 : Fn := { np := 1, nt := 48, kind := .pure, res := [.v 2 12 true], body := k453 }

/- spec.l01Has -/
def k456 : Cd :=
  (.seq
   (.reg [6] [
     ⟨none, (some 6), .mov (.c (.bool false)), []⟩])
   (.seq
    (.reg [6] [
      ⟨none, (some 7), .mov (.t 1), []⟩,
      ⟨none, (some 8), .mov (.t 2), []⟩,
      ⟨none, (some 9), .call true 342 [.t 7, .t 8], []⟩,
      ⟨none, (some 10), .mov (.t 9), []⟩,
      ⟨(some (10, true)), (some 11), .mov (.t 0), []⟩,
      ⟨(some (10, true)), (some 12), .mov (.t 2), []⟩,
      ⟨(some (10, true)), (some 13), .nil (.t 11), []⟩,
      ⟨(some (10, true)), (some 14), .idxP 12 1 (.t 13) (.t 12), []⟩,
      ⟨(some (10, true)), (some 15), .ld 1 false (.t 14), []⟩,
      ⟨(some (10, true)), (some 16), .mov (.t 1), []⟩,
      ⟨(some (10, true)), (some 17), .conv .u64 (.t 16), []⟩,
      ⟨(some (10, true)), (some 18), .bin .shr (.t 15) (.t 17), []⟩,
      ⟨(some (10, true)), (some 19), .bin .rem (.t 18) (.c (.int .u16 2)), []⟩,
      ⟨(some (10, true)), (some 20), .bin .eql (.t 19) (.c (.int .u16 1)), []⟩,
      ⟨none, (some 21), .pick (.t 10) (.t 20) (.c (.bool false)), []⟩,
      ⟨none, (some 6), .mov (.t 21), []⟩])
    .ret))
def c456 : Fn := { np := 3, nt := 22, kind := .pure, res := [.t 6], body := k456 }

/- (*spec.l00Src).pick -/
def k459 : Cd :=
  (.seq
   (.reg [4] [
     ⟨none, (some 4), .mov (.c (.int .i64 0)), []⟩])
   (.seq
    (.seq
     (.reg [7] [
       ⟨none, (some 6), .mov (.t 1), []⟩,
       ⟨none, (some 7), .bin .leq (.t 6) (.c (.int .i64 1)), []⟩])
     (.cond (.t 7)
      (.seq
       (.reg [4] [
         ⟨none, (some 4), .mov (.c (.int .i64 0)), []⟩])
       .ret)
      .skip))
    (.seq
     (.reg [5] [
       ⟨none, (some 8), .mov (.t 0), []⟩,
       ⟨none, (some 9), .call false 550 [.t 8], []⟩,
       ⟨none, (some 5), .mov (.t 9), []⟩])
     (.seq
      (.seq
       (.reg [11] [
         ⟨none, (some 10), .mov (.t 1), []⟩,
         ⟨none, (some 11), .bin .gtr (.t 10) (.c (.int .i64 200)), []⟩])
       (.cond (.t 11)
        (.reg [5] [
          ⟨none, (some 12), .mov (.t 5), []⟩,
          ⟨none, (some 13), .bin .mul (.t 12) (.c (.int .i64 256)), []⟩,
          ⟨none, (some 14), .mov (.t 0), []⟩,
          ⟨none, (some 15), .call false 550 [.t 14], []⟩,
          ⟨none, (some 16), .bin .add (.t 13) (.t 15), []⟩,
          ⟨none, (some 5), .mov (.t 16), []⟩])
        .skip))
      (.seq
       (.reg [4] [
         ⟨none, (some 17), .mov (.t 5), []⟩,
         ⟨none, (some 18), .mov (.t 1), []⟩,
         ⟨none, (some 19), .bin .rem (.t 17) (.t 18), []⟩,
         ⟨none, (some 4), .mov (.t 19), []⟩])
       .ret)))))
def c459 : Fn := { np := 2, nt := 20, kind := .args, res := [.t 4], body := k459 }

/- spec.l05Cel -/
def k467 : Cd :=
  (.seq
   (.reg [2] [
     ⟨none, (some 2), .mov (.c (.bool false)), []⟩])
   (.seq
    (.seq
     (.reg [14] [
       ⟨none, (some 3), .mov (.t 0), []⟩,
       ⟨none, (some 4), .nil (.t 3), []⟩,
       ⟨none, (some 5), .fldP 0 (.t 4), []⟩,
       ⟨none, (some 6), .call true 359 [.t 5], []⟩,
       ⟨none, (some 7), .un .not (.t 6), []⟩,
       ⟨none, (some 8), .mov (.t 7), []⟩,
       ⟨(some (8, false)), (some 9), .mov (.t 0), []⟩,
       ⟨(some (8, false)), (some 10), .nil (.t 9), []⟩,
       ⟨(some (8, false)), (some 11), .fldP 12 (.t 10), []⟩,
       ⟨(some (8, false)), (some 12), .call true 359 [.t 11], []⟩,
       ⟨(some (8, false)), (some 13), .un .not (.t 12), []⟩,
       ⟨none, (some 14), .pick (.t 8) (.c (.bool true)) (.t 13), []⟩])
     (.cond (.t 14)
      (.seq
       (.reg [2] [
         ⟨none, (some 2), .mov (.c (.bool false)), []⟩])
       .ret)
      .skip))
    (.seq
     (.reg [2] [
       ⟨none, (some 15), .mov (.t 0), []⟩,
       ⟨none, (some 16), .nil (.t 15), []⟩,
       ⟨none, (some 17), .fldP 0 (.t 16), []⟩,
       ⟨none, (some 18), .mov (.t 0), []⟩,
       ⟨none, (some 19), .nil (.t 18), []⟩,
       ⟨none, (some 20), .fldP 12 (.t 19), []⟩,
       ⟨none, (some 22), .agg (zs 12 (.int .u16 0)) [], []⟩,
       ⟨none, (some 21), .call true 349 [.t 17, .t 20], []⟩,
       ⟨none, (some 23), .eq (.a (rb 12 (some .u16))) false (.t 21) (.t 22), []⟩,
       ⟨none, (some 2), .mov (.t 23), []⟩])
     .ret)))
def c467 : Fn := { np := 1, nt := 24, kind := .pure, res := [.t 2], body := k467 }

/- spec.l05Moved -/
def k468 : Cd :=
  (.seq
   (.reg [6] [
     ⟨none, (some 6), .zero true (zs 24 (.int .u16 0)), []⟩])
   (.seq
    (.reg [6] [
      ⟨none, (some 7), .mov (.t 0), []⟩,
      ⟨none, (some 8), .nil (.t 7), []⟩,
      ⟨none, (some 9), .fldP 0 (.t 8), []⟩,
      ⟨none, (some 10), .mov (.t 1), []⟩,
      ⟨none, (some 11), .mov (.t 2), []⟩,
      ⟨none, (some 13), .mov (.t 0), []⟩,
      ⟨none, (some 14), .nil (.t 13), []⟩,
      ⟨none, (some 15), .fldP 12 (.t 14), []⟩,
      ⟨none, (some 16), .mov (.t 1), []⟩,
      ⟨none, (some 17), .mov (.t 2), []⟩,
      ⟨none, (some 12), .call true 355 [.t 9, .t 10, .t 11], []⟩,
      ⟨none, (some 18), .call true 355 [.t 15, .t 16, .t 17], []⟩,
      ⟨none, (some 19), .agg (zs 24 (.int .u16 0)) [(0, 12, (.t 12)), (12, 12, (.t 18))], []⟩,
      ⟨none, (some 6), .stV 6 none 24 (.t 19), []⟩])
    .ret))
def c468 : Fn := { np := 3, nt := 20, kind := .pure, res := [.v 6 24 true], body := k468 }

/- slices.Equal[impl.Scene,impl.Layer] -/
def b470_1 : Cd :=
  (.seq
   (.reg [14] [
     ⟨none, (some 14), .bin .lss (.t 13) (.t 12), []⟩])
   (.seq
    (.cond (.t 14)
     .skip
     (.exit 0))
    (.seq
     (.block 1
      (.seq
       (.reg [5] [
         ⟨none, (some 15), .mov (.t 13), []⟩,
         ⟨none, (some 5), .mov (.t 15), []⟩])
       (.seq
        (.reg [24] [
          ⟨none, (some 16), .mov (.t 0), []⟩,
          ⟨none, (some 17), .mov (.t 5), []⟩,
          ⟨none, (some 18), .idxA 27 (.t 16) (.t 17), []⟩,
          ⟨none, (some 19), .ld 27 true (.t 18), []⟩,
          ⟨none, (some 20), .mov (.t 1), []⟩,
          ⟨none, (some 21), .mov (.t 5), []⟩,
          ⟨none, (some 22), .idxA 27 (.t 20) (.t 21), []⟩,
          ⟨none, (some 23), .ld 27 true (.t 22), []⟩,
          ⟨none, (some 24), .eq (.a (rb 24 (some .u16) ++ rb 3 (some .i8))) true (.t 19) (.t 23), []⟩])
        (.cond (.t 24)
         (.seq
          (.reg [4] [
            ⟨none, (some 4), .mov (.c (.bool false)), []⟩])
          .ret)
         .skip))))
     (.reg [13] [
       ⟨none, (some 25), .bin .add (.t 13) (.c (.int .i64 1)), []⟩,
       ⟨none, (some 13), .mov (.t 25), []⟩]))))
def k470 : Cd :=
  (.seq
   (.reg [4] [
     ⟨none, (some 4), .mov (.c (.bool false)), []⟩])
   (.seq
    (.seq
     (.reg [10] [
       ⟨none, (some 6), .mov (.t 0), []⟩,
       ⟨none, (some 7), .len (.t 6), []⟩,
       ⟨none, (some 8), .mov (.t 1), []⟩,
       ⟨none, (some 9), .len (.t 8), []⟩,
       ⟨none, (some 10), .bin .neq (.t 7) (.t 9), []⟩])
     (.cond (.t 10)
      (.seq
       (.reg [4] [
         ⟨none, (some 4), .mov (.c (.bool false)), []⟩])
       .ret)
      .skip))
    (.seq
     (.seq
      (.reg [12, 13] [
        ⟨none, (some 11), .mov (.t 0), []⟩,
        ⟨none, (some 12), .len (.t 11), []⟩,
        ⟨none, (some 13), .mov (.c (.int .i64 0)), []⟩])
      (.block 0
       (.loop b470_1)))
     (.seq
      (.reg [4] [
        ⟨none, (some 4), .mov (.c (.bool true)), []⟩])
      .ret))))
def c470 : Fn := { np := 2, nt := 26, kind := .pure, res := [.t 4], body := k470 }

/- slices.ContainsFunc[impl.Scene,impl.Layer] -/
def k471 : Cd :=
  (.seq
   (.reg [4] [
     ⟨none, (some 4), .mov (.c (.bool false)), []⟩])
   (.seq
    (.reg [4] [
      ⟨none, (some 5), .mov (.t 0), []⟩,
      ⟨none, (some 6), .mov (.t 1), []⟩,
      ⟨none, (some 7), .call true 555 [.t 5, .t 6], []⟩,
      ⟨none, (some 8), .bin .geq (.t 7) (.c (.int .i64 0)), []⟩,
      ⟨none, (some 4), .mov (.t 8), []⟩])
    .ret))
def c471 : Fn := { np := 2, nt := 9, kind := .pure, res := [.t 4], body := k471 }

/- impl.ValidScene$1 -/
def k472 : Cd :=
  (.seq
   (.reg [1, 2] [
     ⟨none, (some 1), .mov (.t 0), []⟩,
     ⟨none, (some 2), .mov (.c (.bool false)), []⟩])
   (.seq
    (.reg [2] [
      ⟨none, (some 3), .ldV 1 none 27 true, []⟩,
      ⟨none, (some 4), .call true 473 [.t 3], []⟩,
      ⟨none, (some 5), .un .not (.t 4), []⟩,
      ⟨none, (some 2), .mov (.t 5), []⟩])
    .ret))
def c472 : Fn := { np := 1, nt := 6, kind := .pure, res := [.t 2], body := k472 }

/- impl.isLayer -/
def k473 : Cd :=
  (.seq
   (.reg [1, 2] [
     ⟨none, (some 1), .mov (.t 0), []⟩,
     ⟨none, (some 2), .mov (.c (.bool false)), []⟩])
   (.seq
    (.reg [2] [
      ⟨none, (some 3), .adrF 1 none 0, []⟩,
      ⟨none, (some 4), .ldV 1 (some 3) 24 true, []⟩,
      ⟨none, (some 5), .call true 333 [.t 4], []⟩,
      ⟨none, (some 6), .mov (.t 5), []⟩,
      ⟨(some (6, true)), (some 7), .adrF 1 none 24, []⟩,
      ⟨(some (6, true)), (some 8), .ldV 1 (some 7) 1 false, []⟩,
      ⟨(some (6, true)), (some 9), .conv .i64 (.t 8), []⟩,
      ⟨(some (6, true)), (some 10), .call true 295 [.t 9, .c (.int .i64 (-12)), .c (.int .i64 12)], []⟩,
      ⟨none, (some 11), .pick (.t 6) (.t 10) (.c (.bool false)), []⟩,
      ⟨none, (some 12), .mov (.t 11), []⟩,
      ⟨(some (12, true)), (some 13), .adrF 1 none 25, []⟩,
      ⟨(some (12, true)), (some 14), .ldV 1 (some 13) 1 false, []⟩,
      ⟨(some (12, true)), (some 15), .conv .i64 (.t 14), []⟩,
      ⟨(some (12, true)), (some 16), .call true 295 [.t 15, .c (.int .i64 (-12)), .c (.int .i64 12)], []⟩,
      ⟨none, (some 17), .pick (.t 12) (.t 16) (.c (.bool false)), []⟩,
      ⟨none, (some 18), .mov (.t 17), []⟩,
      ⟨(some (18, true)), (some 19), .adrF 1 none 26, []⟩,
      ⟨(some (18, true)), (some 20), .ldV 1 (some 19) 1 false, []⟩,
      ⟨(some (18, true)), (some 21), .conv .i64 (.t 20), []⟩,
      ⟨(some (18, true)), (some 22), .call true 295 [.t 21, .c (.int .i64 0), .c (.int .i64 8)], []⟩,
      ⟨none, (some 23), .pick (.t 18) (.t 22) (.c (.bool false)), []⟩,
      ⟨none, (some 2), .mov (.t 23), []⟩])
    .ret))
def c473 : Fn := { np := 1, nt := 24, kind := .pure, res := [.t 2], body := k473 }

/- slices.IndexFunc[[]impl.Frame,impl.Frame] -/
def b474_1 : Cd :=
  (.seq
   (.reg [9] [
     ⟨none, (some 9), .bin .lss (.t 8) (.t 7), []⟩])
   (.seq
    (.cond (.t 9)
     .skip
     (.exit 0))
    (.seq
     (.block 1
      (.seq
       (.reg [5] [
         ⟨none, (some 10), .mov (.t 8), []⟩,
         ⟨none, (some 5), .mov (.t 10), []⟩])
       (.seq
        (.reg [16] [
          ⟨none, (some 11), .mov (.t 1), []⟩,
          ⟨none, (some 12), .mov (.t 0), []⟩,
          ⟨none, (some 13), .mov (.t 5), []⟩,
          ⟨none, (some 14), .idxA 12 (.t 12) (.t 13), []⟩,
          ⟨none, (some 15), .ld 12 true (.t 14), []⟩,
          ⟨none, (some 16), .callv (.t 11) [.t 15], []⟩])
        (.cond (.t 16)
         (.seq
          (.reg [4] [
            ⟨none, (some 17), .mov (.t 5), []⟩,
            ⟨none, (some 4), .mov (.t 17), []⟩])
          .ret)
         .skip))))
     (.reg [8] [
       ⟨none, (some 18), .bin .add (.t 8) (.c (.int .i64 1)), []⟩,
       ⟨none, (some 8), .mov (.t 18), []⟩]))))
def k474 : Cd :=
  (.seq
   (.reg [4] [
     ⟨none, (some 4), .mov (.c (.int .i64 0)), []⟩])
   (.seq
    (.seq
     (.reg [7, 8] [
       ⟨none, (some 6), .mov (.t 0), []⟩,
       ⟨none, (some 7), .len (.t 6), []⟩,
       ⟨none, (some 8), .mov (.c (.int .i64 0)), []⟩])
     (.block 0
      (.loop b474_1)))
    (.seq
     (.reg [4] [
       ⟨none, (some 4), .mov (.c (.int .i64 (-1))), []⟩])
     .ret)))
def c474 : Fn := { np := 2, nt := 19, kind := .pure, res := [.t 4], body := k474 }

/- impl.LayerAt$1 -/
def k475 : Cd :=
  (.seq
   (.reg [3, 4] [
     ⟨none, (some 3), .mov (.t 0), []⟩,
     ⟨none, (some 4), .mov (.c (.bool false)), []⟩])
   (.seq
    (.reg [4] [
      ⟨none, (some 5), .ldV 3 none 12 true, []⟩,
      ⟨none, (some 6), .ld 1 false (.t 1), []⟩,
      ⟨none, (some 7), .ld 1 false (.t 2), []⟩,
      ⟨none, (some 8), .call true 395 [.t 5, .t 6, .t 7], []⟩,
      ⟨none, (some 4), .mov (.t 8), []⟩])
    .ret))
def c475 : Fn := { np := 3, nt := 9, kind := .pure, res := [.t 4], body := k475 }

/- slices.Delete[impl.Scene,impl.Layer] -/
def k476 : Cd :=
  (.seq
   (.reg [6] [
     ⟨none, (some 6), .mov (.c (.slice none 0 0)), []⟩])
   (.seq
    (.reg [] [
      ⟨none, (some 8), .mov (.t 0), []⟩,
      ⟨none, (some 9), .mov (.t 1), []⟩,
      ⟨none, (some 10), .mov (.t 2), []⟩,
      ⟨none, (some 11), .mov (.t 0), []⟩,
      ⟨none, (some 12), .len (.t 11), []⟩,
      ⟨none, (some 13), .slcA 27 (.t 8) (some (.t 9)) (some (.t 10)) (some (.t 12)), []⟩])
    (.seq
     (.seq
      (.reg [16] [
        ⟨none, (some 14), .mov (.t 1), []⟩,
        ⟨none, (some 15), .mov (.t 2), []⟩,
        ⟨none, (some 16), .bin .eql (.t 14) (.t 15), []⟩])
      (.cond (.t 16)
       (.seq
        (.reg [6] [
          ⟨none, (some 17), .mov (.t 0), []⟩,
          ⟨none, (some 6), .mov (.t 17), []⟩])
        .ret)
       .skip))
     (.seq
      (.reg [7] [
        ⟨none, (some 18), .mov (.t 0), []⟩,
        ⟨none, (some 19), .len (.t 18), []⟩,
        ⟨none, (some 7), .mov (.t 19), []⟩])
      (.seq
       (.reg [0] [
         ⟨none, (some 20), .mov (.t 0), []⟩,
         ⟨none, (some 21), .mov (.t 1), []⟩,
         ⟨none, (some 22), .slcA 27 (.t 20) none (some (.t 21)) none, []⟩,
         ⟨none, (some 23), .mov (.t 0), []⟩,
         ⟨none, (some 24), .mov (.t 2), []⟩,
         ⟨none, (some 25), .slcA 27 (.t 23) (some (.t 24)) none none, []⟩,
         ⟨none, (some 26), .app 27 52 (.t 22) (.t 25), []⟩,
         ⟨none, (some 0), .mov (.t 26), []⟩])
       (.seq
        (.reg [] [
          ⟨none, (some 27), .mov (.t 0), []⟩,
          ⟨none, (some 28), .mov (.t 0), []⟩,
          ⟨none, (some 29), .len (.t 28), []⟩,
          ⟨none, (some 30), .mov (.t 7), []⟩,
          ⟨none, (some 31), .slcA 27 (.t 27) (some (.t 29)) (some (.t 30)) none, []⟩,
          ⟨none, none, .clr [.int .u16 0, .int .u16 0, .int .u16 0, .int .u16 0, .int .u16 0, .int .u16 0, .int .u16 0, .int .u16 0, .int .u16 0, .int .u16 0, .int .u16 0, .int .u16 0, .int .u16 0, .int .u16 0, .int .u16 0, .int .u16 0, .int .u16 0, .int .u16 0, .int .u16 0, .int .u16 0, .int .u16 0, .int .u16 0, .int .u16 0, .int .u16 0, .int .i8 0, .int .i8 0, .int .i8 0] (.t 31), []⟩])
        (.seq
         (.reg [6] [
           ⟨none, (some 32), .mov (.t 0), []⟩,
           ⟨none, (some 6), .mov (.t 32), []⟩])
         .ret)))))))
def c476 : Fn := { np := 3, nt := 33, kind := .args, res := [.t 6], body := k476 }

/- slices.Clone[impl.Scene,impl.Layer] -/
def k477 : Cd :=
  (.seq
   (.reg [2] [
     ⟨none, (some 2), .mov (.c (.slice none 0 0)), []⟩])
   (.seq
    (.seq
     (.reg [4] [
       ⟨none, (some 3), .mov (.t 0), []⟩,
       ⟨none, (some 4), .eq .n false (.t 3) (.c (.slice none 0 0)), []⟩])
     (.cond (.t 4)
      (.seq
       (.reg [2] [
         ⟨none, (some 2), .mov (.c (.slice none 0 0)), []⟩])
       .ret)
      .skip))
    (.seq
     (.reg [2] [
       ⟨none, (some 5), .bldS 27 0 [.int .u16 0, .int .u16 0, .int .u16 0, .int .u16 0, .int .u16 0, .int .u16 0, .int .u16 0, .int .u16 0, .int .u16 0, .int .u16 0, .int .u16 0, .int .u16 0, .int .u16 0, .int .u16 0, .int .u16 0, .int .u16 0, .int .u16 0, .int .u16 0, .int .u16 0, .int .u16 0, .int .u16 0, .int .u16 0, .int .u16 0, .int .u16 0, .int .i8 0, .int .i8 0, .int .i8 0] [], []⟩,
       ⟨none, (some 6), .mov (.t 0), []⟩,
       ⟨none, (some 7), .app 27 52 (.t 5) (.t 6), []⟩,
       ⟨none, (some 2), .mov (.t 7), []⟩])
     .ret)))
def c477 : Fn := { np := 1, nt := 8, kind := .pure, res := [.t 2], body := k477 }

/- slices.Concat[impl.Scene,impl.Layer] -/
def b478_1 : Cd :=
  (.seq
   (.reg [12] [
     ⟨none, (some 12), .bin .lss (.t 11) (.t 10), []⟩])
   (.seq
    (.cond (.t 12)
     .skip
     (.exit 0))
    (.seq
     (.block 1
      (.seq
       (.reg [5] [
         ⟨none, (some 13), .idxA 1 (.t 9) (.t 11), []⟩,
         ⟨none, (some 14), .ld 1 false (.t 13), []⟩,
         ⟨none, (some 5), .mov (.t 14), []⟩])
       (.seq
        (.reg [3] [
          ⟨none, (some 15), .mov (.t 3), []⟩,
          ⟨none, (some 16), .mov (.t 5), []⟩,
          ⟨none, (some 17), .len (.t 16), []⟩,
          ⟨none, (some 18), .bin .add (.t 15) (.t 17), []⟩,
          ⟨none, (some 3), .mov (.t 18), []⟩])
        (.seq
         (.reg [20] [
           ⟨none, (some 19), .mov (.t 3), []⟩,
           ⟨none, (some 20), .bin .lss (.t 19) (.c (.int .i64 0)), []⟩])
         (.cond (.t 20)
          (.reg [] [
            ⟨none, none, .bad, []⟩])
          .skip)))))
     (.reg [11] [
       ⟨none, (some 22), .bin .add (.t 11) (.c (.int .i64 1)), []⟩,
       ⟨none, (some 11), .mov (.t 22), []⟩]))))
def b478_2 : Cd :=
  (.seq
   (.reg [28] [
     ⟨none, (some 28), .bin .lss (.t 27) (.t 26), []⟩])
   (.seq
    (.cond (.t 28)
     .skip
     (.exit 2))
    (.seq
     (.block 3
      (.seq
       (.reg [8] [
         ⟨none, (some 29), .idxA 1 (.t 25) (.t 27), []⟩,
         ⟨none, (some 30), .ld 1 false (.t 29), []⟩,
         ⟨none, (some 8), .mov (.t 30), []⟩])
       (.reg [6] [
         ⟨none, (some 31), .mov (.t 6), []⟩,
         ⟨none, (some 32), .mov (.t 8), []⟩,
         ⟨none, (some 33), .app 27 52 (.t 31) (.t 32), []⟩,
         ⟨none, (some 6), .mov (.t 33), []⟩])))
     (.reg [27] [
       ⟨none, (some 34), .bin .add (.t 27) (.c (.int .i64 1)), []⟩,
       ⟨none, (some 27), .mov (.t 34), []⟩]))))
def k478 : Cd :=
  (.seq
   (.reg [2] [
     ⟨none, (some 2), .mov (.c (.slice none 0 0)), []⟩])
   (.seq
    (.reg [3] [
      ⟨none, (some 3), .mov (.c (.int .i64 0)), []⟩])
    (.seq
     (.seq
      (.reg [9, 10, 11] [
        ⟨none, (some 9), .mov (.t 0), []⟩,
        ⟨none, (some 10), .len (.t 9), []⟩,
        ⟨none, (some 11), .mov (.c (.int .i64 0)), []⟩])
      (.block 0
       (.loop b478_1)))
     (.seq
      (.reg [6] [
        ⟨none, (some 23), .mov (.t 3), []⟩,
        ⟨none, (some 24), .call true 556 [.c (.slice none 0 0), .t 23], []⟩,
        ⟨none, (some 6), .mov (.t 24), []⟩])
      (.seq
       (.seq
        (.reg [25, 26, 27] [
          ⟨none, (some 25), .mov (.t 0), []⟩,
          ⟨none, (some 26), .len (.t 25), []⟩,
          ⟨none, (some 27), .mov (.c (.int .i64 0)), []⟩])
        (.block 2
         (.loop b478_2)))
       (.seq
        (.reg [2] [
          ⟨none, (some 35), .mov (.t 6), []⟩,
          ⟨none, (some 2), .mov (.t 35), []⟩])
        .ret))))))
def c478 : Fn := { np := 1, nt := 36, kind := .pure, res := [.t 2], body := k478 }

/- impl.checkRaise -/
def k479 : Cd :=
  (.seq
   (.reg [4] [
     ⟨none, (some 4), .mov (.c (.int .i64 0)), []⟩])
   (.seq
    (.block 0
     (.seq
      (.reg [5] [
        ⟨none, (some 6), .mov (.t 0), []⟩,
        ⟨none, (some 7), .call true 281 [.t 6], []⟩,
        ⟨none, (some 8), .un .not (.t 7), []⟩,
        ⟨none, (some 5), .mov (.t 8), []⟩])
      (.cond (.t 5)
       (.seq
        (.reg [4] [
          ⟨none, (some 4), .mov (.c (.int .i64 1)), []⟩])
        .ret)
       (.seq
        (.reg [9] [
          ⟨none, (some 10), .mov (.t 0), []⟩,
          ⟨none, (some 11), .mov (.t 1), []⟩,
          ⟨none, (some 12), .call true 334 [.t 10, .t 11], []⟩,
          ⟨none, (some 13), .un .not (.t 12), []⟩,
          ⟨none, (some 9), .mov (.t 13), []⟩])
        (.cond (.t 9)
         (.seq
          (.reg [4] [
            ⟨none, (some 4), .mov (.c (.int .i64 2)), []⟩])
          .ret)
         (.seq
          (.reg [14] [
            ⟨none, (some 15), .mov (.t 1), []⟩,
            ⟨none, (some 16), .bin .eql (.t 15) (.c (.int .i64 0)), []⟩,
            ⟨none, (some 14), .mov (.t 16), []⟩])
          (.cond (.t 14)
           (.seq
            (.reg [4] [
              ⟨none, (some 4), .mov (.c (.int .i64 4)), []⟩])
            .ret)
           .skip)))))))
    (.seq
     (.reg [4] [
       ⟨none, (some 4), .mov (.c (.int .i64 0)), []⟩])
     .ret)))
def c479 : Fn := { np := 2, nt := 17, kind := .pure, res := [.t 4], body := k479 }

/- (impl.Scene).raised -/
def k480 : Cd :=
  (.seq
   (.reg [4] [
     ⟨none, (some 4), .mov (.c (.slice none 0 0)), []⟩])
   (.seq
    (.reg [5] [
      ⟨none, (some 6), .mov (.t 0), []⟩,
      ⟨none, (some 7), .call true 477 [.t 6], []⟩,
      ⟨none, (some 5), .mov (.t 7), []⟩])
    (.seq
     (.reg [] [
       ⟨none, (some 8), .mov (.t 5), []⟩,
       ⟨none, (some 9), .mov (.t 1), []⟩,
       ⟨none, (some 10), .bin .sub (.t 9) (.c (.int .i64 1)), []⟩,
       ⟨none, (some 11), .mov (.t 5), []⟩,
       ⟨none, (some 12), .mov (.t 1), []⟩,
       ⟨none, (some 13), .mov (.t 0), []⟩,
       ⟨none, (some 14), .mov (.t 1), []⟩,
       ⟨none, (some 15), .idxA 27 (.t 13) (.t 14), []⟩,
       ⟨none, (some 16), .ld 27 true (.t 15), []⟩,
       ⟨none, (some 17), .mov (.t 0), []⟩,
       ⟨none, (some 18), .mov (.t 1), []⟩,
       ⟨none, (some 19), .bin .sub (.t 18) (.c (.int .i64 1)), []⟩,
       ⟨none, (some 20), .idxA 27 (.t 17) (.t 19), []⟩,
       ⟨none, (some 21), .ld 27 true (.t 20), []⟩,
       ⟨none, (some 22), .idxA 27 (.t 8) (.t 10), []⟩,
       ⟨none, none, .st 27 (.t 22) (.t 16), []⟩,
       ⟨none, (some 23), .idxA 27 (.t 11) (.t 12), []⟩,
       ⟨none, none, .st 27 (.t 23) (.t 21), []⟩])
     (.seq
      (.reg [4] [
        ⟨none, (some 24), .mov (.t 5), []⟩,
        ⟨none, (some 4), .mov (.t 24), []⟩])
      .ret))))
def c480 : Fn := { np := 2, nt := 25, kind := .pure, res := [.t 4], body := k480 }

/- spec.l05CelDrawn -/
def k495 : Cd :=
  (.seq
   (.reg [2] [
     ⟨none, (some 2), .zero true (zs 24 (.int .u16 0)), []⟩])
   (.seq
    (.reg [3] [
      ⟨none, (some 5), .mov (.t 0), []⟩,
      ⟨none, (some 6), .call false 368 [.t 5], []⟩,
      ⟨none, (some 3), .new 1 (zs 12 (.int .u16 0)), []⟩,
      ⟨none, none, .st 12 (.t 3) (.t 6), []⟩])
    (.seq
     (.reg [4] [
       ⟨none, (some 7), .mov (.t 0), []⟩,
       ⟨none, (some 8), .call false 368 [.t 7], []⟩,
       ⟨none, (some 4), .new 1 (zs 12 (.int .u16 0)), []⟩,
       ⟨none, none, .st 12 (.t 4) (.t 8), []⟩])
     (.seq
      (.seq
       (.reg [10] [
         ⟨none, (some 9), .mov (.t 0), []⟩,
         ⟨none, (some 10), .call false 513 [.t 9, .c (.int .i64 3)], []⟩])
       (.cond (.t 10)
        (.reg [] [
          ⟨none, (some 11), .call true 453 [.t 3], []⟩,
          ⟨none, none, .st 12 (.t 4) (.t 11), []⟩])
        .skip))
      (.seq
       (.reg [2] [
         ⟨none, (some 12), .ld 12 true (.t 3), []⟩,
         ⟨none, (some 13), .call true 337 [.t 3, .t 4], []⟩,
         ⟨none, (some 14), .agg (zs 24 (.int .u16 0)) [(0, 12, (.t 12)), (12, 12, (.t 13))], []⟩,
         ⟨none, (some 2), .stV 2 none 24 (.t 14), []⟩])
       .ret)))))
def c495 : Fn := { np := 1, nt := 15, kind := .args, res := [.v 2 24 true], body := k495 }

/- (*spec.l00Src).among -/
def k496 : Cd :=
  (.seq
   (.reg [4] [
     ⟨none, (some 4), .mov (.c (.int .i64 0)), []⟩])
   (.seq
    (.reg [4] [
      ⟨none, (some 5), .mov (.t 1), []⟩,
      ⟨none, (some 6), .mov (.t 0), []⟩,
      ⟨none, (some 7), .mov (.t 1), []⟩,
      ⟨none, (some 8), .len (.t 7), []⟩,
      ⟨none, (some 9), .call false 459 [.t 6, .t 8], []⟩,
      ⟨none, (some 10), .idxA 1 (.t 5) (.t 9), []⟩,
      ⟨none, (some 11), .ld 1 false (.t 10), []⟩,
      ⟨none, (some 4), .mov (.t 11), []⟩])
    .ret))
def c496 : Fn := { np := 2, nt := 12, kind := .args, res := [.t 4], body := k496 }

/- (impl.Cel).over -/
def k497 : Cd :=
  (.seq
   (.reg [2, 3, 4] [
     ⟨none, (some 2), .mov (.t 0), []⟩,
     ⟨none, (some 3), .mov (.t 1), []⟩,
     ⟨none, (some 4), .zero true (zs 24 (.int .u16 0)), []⟩])
   (.seq
    (.reg [4] [
      ⟨none, (some 5), .adrF 2 none 0, []⟩,
      ⟨none, (some 6), .ldV 2 (some 5) 12 true, []⟩,
      ⟨none, (some 7), .adrF 3 none 0, []⟩,
      ⟨none, (some 8), .ldV 3 (some 7) 12 true, []⟩,
      ⟨none, (some 9), .adrF 2 none 12, []⟩,
      ⟨none, (some 10), .ldV 2 (some 9) 12 true, []⟩,
      ⟨none, (some 13), .adrF 2 none 12, []⟩,
      ⟨none, (some 14), .ldV 2 (some 13) 12 true, []⟩,
      ⟨none, (some 15), .adrF 3 none 12, []⟩,
      ⟨none, (some 16), .ldV 3 (some 15) 12 true, []⟩,
      ⟨none, (some 11), .call true 350 [.t 8, .t 10], []⟩,
      ⟨none, (some 12), .call true 338 [.t 6, .t 11], []⟩,
      ⟨none, (some 17), .call true 338 [.t 14, .t 16], []⟩,
      ⟨none, (some 18), .agg (zs 24 (.int .u16 0)) [(0, 12, (.t 12)), (12, 12, (.t 17))], []⟩,
      ⟨none, (some 4), .stV 4 none 24 (.t 18), []⟩])
    .ret))
def c497 : Fn := { np := 2, nt := 19, kind := .pure, res := [.v 4 24 true], body := k497 }

/- spec.l05Ok -/
def b498_1 : Cd :=
  (.seq
   (.seq
    (.reg [7] [
      ⟨none, (some 4), .mov (.t 3), []⟩,
      ⟨none, (some 5), .mov (.t 0), []⟩,
      ⟨none, (some 6), .len (.t 5), []⟩,
      ⟨none, (some 7), .bin .lss (.t 4) (.t 6), []⟩])
    (.cond (.t 7)
     .skip
     (.exit 0)))
   (.seq
    (.block 1
     (.seq
      (.reg [14] [
        ⟨none, (some 10), .mov (.t 0), []⟩,
        ⟨none, (some 11), .mov (.t 3), []⟩,
        ⟨none, (some 12), .idxA 27 (.t 10) (.t 11), []⟩,
        ⟨none, (some 13), .call true 563 [.t 12], []⟩,
        ⟨none, (some 14), .un .not (.t 13), []⟩])
      (.cond (.t 14)
       (.seq
        (.reg [2] [
          ⟨none, (some 2), .mov (.c (.bool false)), []⟩])
        .ret)
       .skip)))
    (.reg [3] [
      ⟨none, (some 8), .mov (.t 3), []⟩,
      ⟨none, (some 9), .bin .add (.t 8) (.c (.int .i64 1)), []⟩,
      ⟨none, (some 3), .mov (.t 9), []⟩])))
def k498 : Cd :=
  (.seq
   (.reg [2] [
     ⟨none, (some 2), .mov (.c (.bool false)), []⟩])
   (.seq
    (.seq
     (.reg [3] [
       ⟨none, (some 3), .mov (.c (.int .i64 0)), []⟩])
     (.block 0
      (.loop b498_1)))
    (.seq
     (.reg [2] [
       ⟨none, (some 15), .mov (.t 0), []⟩,
       ⟨none, (some 16), .len (.t 15), []⟩,
       ⟨none, (some 17), .bin .leq (.t 16) (.c (.int .i64 8)), []⟩,
       ⟨none, (some 2), .mov (.t 17), []⟩])
     .ret)))
def c498 : Fn := { np := 1, nt := 18, kind := .pure, res := [.t 2], body := k498 }

/- spec.l05Offset -/
def k499 : Cd :=
  (.seq
   (.reg [6, 7] [
     ⟨none, (some 6), .mov (.c (.int .i64 0)), []⟩,
     ⟨none, (some 7), .mov (.c (.int .i64 0)), []⟩])
   (.seq
    (.reg [8] [
      ⟨none, (some 9), .mov (.t 0), []⟩,
      ⟨none, (some 10), .nil (.t 9), []⟩,
      ⟨none, (some 11), .fldP 24 (.t 10), []⟩,
      ⟨none, (some 12), .ld 1 false (.t 11), []⟩,
      ⟨none, (some 13), .conv .i64 (.t 12), []⟩,
      ⟨none, (some 14), .mov (.t 1), []⟩,
      ⟨none, (some 15), .mov (.t 0), []⟩,
      ⟨none, (some 16), .nil (.t 15), []⟩,
      ⟨none, (some 17), .fldP 26 (.t 16), []⟩,
      ⟨none, (some 18), .ld 1 false (.t 17), []⟩,
      ⟨none, (some 19), .conv .i64 (.t 18), []⟩,
      ⟨none, (some 20), .call true 564 [.t 14, .t 19], []⟩,
      ⟨none, (some 21), .bin .sub (.t 13) (.t 20), []⟩,
      ⟨none, (some 8), .mov (.t 21), []⟩])
    (.seq
     (.reg [6, 7] [
       ⟨none, (some 22), .mov (.t 8), []⟩,
       ⟨none, (some 23), .mov (.t 0), []⟩,
       ⟨none, (some 24), .nil (.t 23), []⟩,
       ⟨none, (some 25), .fldP 25 (.t 24), []⟩,
       ⟨none, (some 26), .ld 1 false (.t 25), []⟩,
       ⟨none, (some 27), .conv .i64 (.t 26), []⟩,
       ⟨none, (some 28), .mov (.t 2), []⟩,
       ⟨none, (some 29), .mov (.t 0), []⟩,
       ⟨none, (some 30), .nil (.t 29), []⟩,
       ⟨none, (some 31), .fldP 26 (.t 30), []⟩,
       ⟨none, (some 32), .ld 1 false (.t 31), []⟩,
       ⟨none, (some 33), .conv .i64 (.t 32), []⟩,
       ⟨none, (some 34), .call true 564 [.t 28, .t 33], []⟩,
       ⟨none, (some 35), .bin .sub (.t 27) (.t 34), []⟩,
       ⟨none, (some 6), .mov (.t 22), []⟩,
       ⟨none, (some 7), .mov (.t 35), []⟩])
     .ret)))
def c499 : Fn := { np := 3, nt := 36, kind := .pure, res := [.t 6, .t 7], body := k499 }

/- spec.l05Over -/
def k500 : Cd :=
  (.seq
   (.reg [4] [
     ⟨none, (some 4), .zero true (zs 24 (.int .u16 0)), []⟩])
   (.seq
    (.reg [5] [
      ⟨none, (some 6), .mov (.t 1), []⟩,
      ⟨none, (some 7), .nil (.t 6), []⟩,
      ⟨none, (some 8), .fldP 0 (.t 7), []⟩,
      ⟨none, (some 9), .mov (.t 0), []⟩,
      ⟨none, (some 10), .nil (.t 9), []⟩,
      ⟨none, (some 11), .fldP 12 (.t 10), []⟩,
      ⟨none, (some 5), .new 1 (zs 12 (.int .u16 0)), []⟩,
      ⟨none, (some 12), .call true 349 [.t 8, .t 11], []⟩,
      ⟨none, none, .st 12 (.t 5) (.t 12), []⟩])
    (.seq
     (.reg [4] [
       ⟨none, (some 13), .mov (.t 0), []⟩,
       ⟨none, (some 14), .nil (.t 13), []⟩,
       ⟨none, (some 15), .fldP 0 (.t 14), []⟩,
       ⟨none, (some 17), .mov (.t 0), []⟩,
       ⟨none, (some 18), .nil (.t 17), []⟩,
       ⟨none, (some 19), .fldP 12 (.t 18), []⟩,
       ⟨none, (some 20), .mov (.t 1), []⟩,
       ⟨none, (some 21), .nil (.t 20), []⟩,
       ⟨none, (some 22), .fldP 12 (.t 21), []⟩,
       ⟨none, (some 16), .call true 337 [.t 15, .t 5], []⟩,
       ⟨none, (some 23), .call true 337 [.t 19, .t 22], []⟩,
       ⟨none, (some 24), .agg (zs 24 (.int .u16 0)) [(0, 12, (.t 16)), (12, 12, (.t 23))], []⟩,
       ⟨none, (some 4), .stV 4 none 24 (.t 24), []⟩])
     .ret)))
def c500 : Fn := { np := 2, nt := 25, kind := .pure, res := [.v 4 24 true], body := k500 }

/- impl.eighths -/
def k501 : Cd :=
  (.seq
   (.reg [4] [
     ⟨none, (some 4), .mov (.c (.int .i64 0)), []⟩])
   (.seq
    (.reg [4] [
      ⟨none, (some 5), .mov (.t 0), []⟩,
      ⟨none, (some 6), .mov (.t 1), []⟩,
      ⟨none, (some 7), .bin .mul (.t 5) (.t 6), []⟩,
      ⟨none, (some 8), .bin .shr (.t 7) (.c (.int .u64 3)), []⟩,
      ⟨none, (some 4), .mov (.t 8), []⟩])
    .ret))
def c501 : Fn := { np := 2, nt := 9, kind := .pure, res := [.t 4], body := k501 }

/- (impl.Frame).join$1 -/
def k502 : Cd :=
  (.seq
   (.reg [4] [
     ⟨none, (some 4), .mov (.c (.int .u16 0)), []⟩])
   (.seq
    (.reg [4] [
      ⟨none, (some 5), .mov (.t 0), []⟩,
      ⟨none, (some 6), .mov (.t 1), []⟩,
      ⟨none, (some 7), .bin .or (.t 5) (.t 6), []⟩,
      ⟨none, (some 4), .mov (.t 7), []⟩])
    .ret))
def c502 : Fn := { np := 2, nt := 8, kind := .pure, res := [.t 4], body := k502 }

/- (impl.Frame).less$1 -/
def k504 : Cd :=
  (.seq
   (.reg [4] [
     ⟨none, (some 4), .mov (.c (.int .u16 0)), []⟩])
   (.seq
    (.reg [4] [
      ⟨none, (some 5), .mov (.t 0), []⟩,
      ⟨none, (some 6), .mov (.t 1), []⟩,
      ⟨none, (some 7), .bin .andNot (.t 5) (.t 6), []⟩,
      ⟨none, (some 4), .mov (.t 7), []⟩])
    .ret))
def c504 : Fn := { np := 2, nt := 8, kind := .pure, res := [.t 4], body := k504 }

/- slices.ContainsFunc[[]impl.Frame,impl.Frame] -/
def k505 : Cd :=
  (.seq
   (.reg [4] [
     ⟨none, (some 4), .mov (.c (.bool false)), []⟩])
   (.seq
    (.reg [4] [
      ⟨none, (some 5), .mov (.t 0), []⟩,
      ⟨none, (some 6), .mov (.t 1), []⟩,
      ⟨none, (some 7), .call true 474 [.t 5, .t 6], []⟩,
      ⟨none, (some 8), .bin .geq (.t 7) (.c (.int .i64 0)), []⟩,
      ⟨none, (some 4), .mov (.t 8), []⟩])
    .ret))
def c505 : Fn := { np := 2, nt := 9, kind := .pure, res := [.t 4], body := k505 }

/- impl.areFrames$1 -/
def k506 : Cd :=
  (.seq
   (.reg [1, 2] [
     ⟨none, (some 1), .mov (.t 0), []⟩,
     ⟨none, (some 2), .mov (.c (.bool false)), []⟩])
   (.seq
    (.reg [2] [
      ⟨none, (some 3), .ldV 1 none 12 true, []⟩,
      ⟨none, (some 4), .call true 234 [.t 3], []⟩,
      ⟨none, (some 5), .un .not (.t 4), []⟩,
      ⟨none, (some 2), .mov (.t 5), []⟩])
    .ret))
def c506 : Fn := { np := 1, nt := 6, kind := .pure, res := [.t 2], body := k506 }

/- (*spec.l00Src).one -/
def k513 : Cd :=
  (.seq
   (.reg [4] [
     ⟨none, (some 4), .mov (.c (.bool false)), []⟩])
   (.seq
    (.reg [4] [
      ⟨none, (some 5), .mov (.t 0), []⟩,
      ⟨none, (some 6), .mov (.t 1), []⟩,
      ⟨none, (some 7), .call false 459 [.t 5, .t 6], []⟩,
      ⟨none, (some 8), .bin .eql (.t 7) (.c (.int .i64 0)), []⟩,
      ⟨none, (some 4), .mov (.t 8), []⟩])
    .ret))
def c513 : Fn := { np := 2, nt := 9, kind := .args, res := [.t 4], body := k513 }

/- math/bits.OnesCount16 -/
def k530 : Cd :=
  (.seq
   (.reg [2] [
     ⟨none, (some 2), .mov (.c (.int .i64 0)), []⟩])
   (.seq
    (.reg [2] [
      ⟨none, (some 3), .mov (.t 0), []⟩,
      ⟨none, (some 4), .bin .shr (.t 3) (.c (.int .u64 8)), []⟩,
      ⟨none, (some 5), .idxs (.c (.string ⟨#[0, 1, 1, 2, 1, 2, 2, 3, 1, 2, 2, 3, 2, 3, 3, 4, 1, 2, 2, 3, 2, 3, 3, 4, 2, 3, 3, 4, 3, 4, 4, 5, 1, 2, 2, 3, 2, 3, 3, 4, 2, 3, 3, 4, 3, 4, 4, 5, 2, 3, 3, 4, 3, 4, 4, 5, 3, 4, 4, 5, 4, 5, 5, 6, 1, 2, 2, 3, 2, 3, 3, 4, 2, 3, 3, 4, 3, 4, 4, 5, 2, 3, 3, 4, 3, 4, 4, 5, 3, 4, 4, 5, 4, 5, 5, 6, 2, 3, 3, 4, 3, 4, 4, 5, 3, 4, 4, 5, 4, 5, 5, 6, 3, 4, 4, 5, 4, 5, 5, 6, 4, 5, 5, 6, 5, 6, 6, 7, 1, 2, 2, 3, 2, 3, 3, 4, 2, 3, 3, 4, 3, 4, 4, 5, 2, 3, 3, 4, 3, 4, 4, 5, 3, 4, 4, 5, 4, 5, 5, 6, 2, 3, 3, 4, 3, 4, 4, 5, 3, 4, 4, 5, 4, 5, 5, 6, 3, 4, 4, 5, 4, 5, 5, 6, 4, 5, 5, 6, 5, 6, 6, 7, 2, 3, 3, 4, 3, 4, 4, 5, 3, 4, 4, 5, 4, 5, 5, 6, 3, 4, 4, 5, 4, 5, 5, 6, 4, 5, 5, 6, 5, 6, 6, 7, 3, 4, 4, 5, 4, 5, 5, 6, 4, 5, 5, 6, 5, 6, 6, 7, 4, 5, 5, 6, 5, 6, 6, 7, 5, 6, 6, 7, 6, 7, 7, 8]⟩)) (.t 4), []⟩,
      ⟨none, (some 6), .mov (.t 0), []⟩,
      ⟨none, (some 7), .bin .and (.t 6) (.c (.int .u16 255)), []⟩,
      ⟨none, (some 8), .idxs (.c (.string ⟨#[0, 1, 1, 2, 1, 2, 2, 3, 1, 2, 2, 3, 2, 3, 3, 4, 1, 2, 2, 3, 2, 3, 3, 4, 2, 3, 3, 4, 3, 4, 4, 5, 1, 2, 2, 3, 2, 3, 3, 4, 2, 3, 3, 4, 3, 4, 4, 5, 2, 3, 3, 4, 3, 4, 4, 5, 3, 4, 4, 5, 4, 5, 5, 6, 1, 2, 2, 3, 2, 3, 3, 4, 2, 3, 3, 4, 3, 4, 4, 5, 2, 3, 3, 4, 3, 4, 4, 5, 3, 4, 4, 5, 4, 5, 5, 6, 2, 3, 3, 4, 3, 4, 4, 5, 3, 4, 4, 5, 4, 5, 5, 6, 3, 4, 4, 5, 4, 5, 5, 6, 4, 5, 5, 6, 5, 6, 6, 7, 1, 2, 2, 3, 2, 3, 3, 4, 2, 3, 3, 4, 3, 4, 4, 5, 2, 3, 3, 4, 3, 4, 4, 5, 3, 4, 4, 5, 4, 5, 5, 6, 2, 3, 3, 4, 3, 4, 4, 5, 3, 4, 4, 5, 4, 5, 5, 6, 3, 4, 4, 5, 4, 5, 5, 6, 4, 5, 5, 6, 5, 6, 6, 7, 2, 3, 3, 4, 3, 4, 4, 5, 3, 4, 4, 5, 4, 5, 5, 6, 3, 4, 4, 5, 4, 5, 5, 6, 4, 5, 5, 6, 5, 6, 6, 7, 3, 4, 4, 5, 4, 5, 5, 6, 4, 5, 5, 6, 5, 6, 6, 7, 4, 5, 5, 6, 5, 6, 6, 7, 5, 6, 6, 7, 6, 7, 7, 8]⟩)) (.t 7), []⟩,
      ⟨none, (some 9), .bin .add (.t 5) (.t 8), []⟩,
      ⟨none, (some 10), .conv .i64 (.t 9), []⟩,
      ⟨none, (some 2), .mov (.t 10), []⟩])
    .ret))
def c530 : Fn := { np := 1, nt := 11, kind := .pure, res := [.t 2], body := k530 }

/- slices.IndexFunc[[]uint16,uint16] -/
def b547_1 : Cd :=
  (.seq
   (.reg [9] [
     ⟨none, (some 9), .bin .lss (.t 8) (.t 7), []⟩])
   (.seq
    (.cond (.t 9)
     .skip
     (.exit 0))
    (.seq
     (.block 1
      (.seq
       (.reg [5] [
         ⟨none, (some 10), .mov (.t 8), []⟩,
         ⟨none, (some 5), .mov (.t 10), []⟩])
       (.seq
        (.reg [16] [
          ⟨none, (some 11), .mov (.t 1), []⟩,
          ⟨none, (some 12), .mov (.t 0), []⟩,
          ⟨none, (some 13), .mov (.t 5), []⟩,
          ⟨none, (some 14), .idxA 1 (.t 12) (.t 13), []⟩,
          ⟨none, (some 15), .ld 1 false (.t 14), []⟩,
          ⟨none, (some 16), .callv (.t 11) [.t 15], []⟩])
        (.cond (.t 16)
         (.seq
          (.reg [4] [
            ⟨none, (some 17), .mov (.t 5), []⟩,
            ⟨none, (some 4), .mov (.t 17), []⟩])
          .ret)
         .skip))))
     (.reg [8] [
       ⟨none, (some 18), .bin .add (.t 8) (.c (.int .i64 1)), []⟩,
       ⟨none, (some 8), .mov (.t 18), []⟩]))))
def k547 : Cd :=
  (.seq
   (.reg [4] [
     ⟨none, (some 4), .mov (.c (.int .i64 0)), []⟩])
   (.seq
    (.seq
     (.reg [7, 8] [
       ⟨none, (some 6), .mov (.t 0), []⟩,
       ⟨none, (some 7), .len (.t 6), []⟩,
       ⟨none, (some 8), .mov (.c (.int .i64 0)), []⟩])
     (.block 0
      (.loop b547_1)))
    (.seq
     (.reg [4] [
       ⟨none, (some 4), .mov (.c (.int .i64 (-1))), []⟩])
     .ret)))
def c547 : Fn := { np := 2, nt := 19, kind := .pure, res := [.t 4], body := k547 }

/- (*spec.l00Src).next -/
def k550 : Cd :=
  (.seq
   (.reg [2] [
     ⟨none, (some 2), .mov (.c (.int .i64 0)), []⟩])
   (.seq
    (.reg [3] [
      ⟨none, (some 3), .mov (.c (.int .i64 0)), []⟩])
    (.seq
     (.seq
      (.reg [13] [
        ⟨none, (some 4), .mov (.t 0), []⟩,
        ⟨none, (some 5), .nil (.t 4), []⟩,
        ⟨none, (some 6), .fldP 1 (.t 5), []⟩,
        ⟨none, (some 7), .ld 1 false (.t 6), []⟩,
        ⟨none, (some 8), .mov (.t 0), []⟩,
        ⟨none, (some 9), .nil (.t 8), []⟩,
        ⟨none, (some 10), .fldP 0 (.t 9), []⟩,
        ⟨none, (some 11), .ld 1 false (.t 10), []⟩,
        ⟨none, (some 12), .len (.t 11), []⟩,
        ⟨none, (some 13), .bin .lss (.t 7) (.t 12), []⟩])
      (.cond (.t 13)
       (.reg [3] [
         ⟨none, (some 14), .mov (.t 0), []⟩,
         ⟨none, (some 15), .nil (.t 14), []⟩,
         ⟨none, (some 16), .fldP 0 (.t 15), []⟩,
         ⟨none, (some 17), .ld 1 false (.t 16), []⟩,
         ⟨none, (some 18), .mov (.t 0), []⟩,
         ⟨none, (some 19), .nil (.t 18), []⟩,
         ⟨none, (some 20), .fldP 1 (.t 19), []⟩,
         ⟨none, (some 21), .ld 1 false (.t 20), []⟩,
         ⟨none, (some 22), .idxA 1 (.t 17) (.t 21), []⟩,
         ⟨none, (some 23), .ld 1 false (.t 22), []⟩,
         ⟨none, (some 24), .conv .i64 (.t 23), []⟩,
         ⟨none, (some 3), .mov (.t 24), []⟩])
       .skip))
     (.seq
      (.reg [] [
        ⟨none, (some 25), .mov (.t 0), []⟩,
        ⟨none, (some 26), .nil (.t 25), []⟩,
        ⟨none, (some 27), .fldP 1 (.t 26), []⟩,
        ⟨none, (some 28), .ld 1 false (.t 27), []⟩,
        ⟨none, (some 29), .bin .add (.t 28) (.c (.int .i64 1)), []⟩,
        ⟨none, (some 30), .nil (.t 25), []⟩,
        ⟨none, (some 31), .fldP 1 (.t 30), []⟩,
        ⟨none, none, .st 1 (.t 31) (.t 29), []⟩])
      (.seq
       (.reg [] [
         ⟨none, (some 32), .mov (.t 0), []⟩,
         ⟨none, (some 33), .mov (.t 0), []⟩,
         ⟨none, (some 34), .nil (.t 33), []⟩,
         ⟨none, (some 35), .fldP 2 (.t 34), []⟩,
         ⟨none, (some 36), .ld 1 false (.t 35), []⟩,
         ⟨none, (some 37), .bin .mul (.t 36) (.c (.int .u64 6364136223846793005)), []⟩,
         ⟨none, (some 38), .mov (.t 3), []⟩,
         ⟨none, (some 39), .conv .u64 (.t 38), []⟩,
         ⟨none, (some 40), .bin .add (.t 37) (.t 39), []⟩,
         ⟨none, (some 41), .bin .add (.t 40) (.c (.int .u64 1442695040888963407)), []⟩,
         ⟨none, (some 42), .nil (.t 32), []⟩,
         ⟨none, (some 43), .fldP 2 (.t 42), []⟩,
         ⟨none, none, .st 1 (.t 43) (.t 41), []⟩])
       (.seq
        (.seq
         (.reg [53] [
           ⟨none, (some 44), .mov (.t 0), []⟩,
           ⟨none, (some 45), .nil (.t 44), []⟩,
           ⟨none, (some 46), .fldP 1 (.t 45), []⟩,
           ⟨none, (some 47), .ld 1 false (.t 46), []⟩,
           ⟨none, (some 48), .mov (.t 0), []⟩,
           ⟨none, (some 49), .nil (.t 48), []⟩,
           ⟨none, (some 50), .fldP 0 (.t 49), []⟩,
           ⟨none, (some 51), .ld 1 false (.t 50), []⟩,
           ⟨none, (some 52), .len (.t 51), []⟩,
           ⟨none, (some 53), .bin .leq (.t 47) (.t 52), []⟩])
         (.cond (.t 53)
          (.seq
           (.reg [2] [
             ⟨none, (some 54), .mov (.t 3), []⟩,
             ⟨none, (some 2), .mov (.t 54), []⟩])
           .ret)
          .skip))
        (.seq
         (.reg [2] [
           ⟨none, (some 55), .mov (.t 0), []⟩,
           ⟨none, (some 56), .nil (.t 55), []⟩,
           ⟨none, (some 57), .fldP 2 (.t 56), []⟩,
           ⟨none, (some 58), .ld 1 false (.t 57), []⟩,
           ⟨none, (some 59), .bin .shr (.t 58) (.c (.int .u64 40)), []⟩,
           ⟨none, (some 60), .bin .and (.t 59) (.c (.int .u64 255)), []⟩,
           ⟨none, (some 61), .conv .i64 (.t 60), []⟩,
           ⟨none, (some 2), .mov (.t 61), []⟩])
         .ret)))))))
def c550 : Fn := { np := 1, nt := 62, kind := .args, res := [.t 2], body := k550 }

/- slices.IndexFunc[impl.Scene,impl.Layer] -/
def b555_1 : Cd :=
  (.seq
   (.reg [9] [
     ⟨none, (some 9), .bin .lss (.t 8) (.t 7), []⟩])
   (.seq
    (.cond (.t 9)
     .skip
     (.exit 0))
    (.seq
     (.block 1
      (.seq
       (.reg [5] [
         ⟨none, (some 10), .mov (.t 8), []⟩,
         ⟨none, (some 5), .mov (.t 10), []⟩])
       (.seq
        (.reg [16] [
          ⟨none, (some 11), .mov (.t 1), []⟩,
          ⟨none, (some 12), .mov (.t 0), []⟩,
          ⟨none, (some 13), .mov (.t 5), []⟩,
          ⟨none, (some 14), .idxA 27 (.t 12) (.t 13), []⟩,
          ⟨none, (some 15), .ld 27 true (.t 14), []⟩,
          ⟨none, (some 16), .callv (.t 11) [.t 15], []⟩])
        (.cond (.t 16)
         (.seq
          (.reg [4] [
            ⟨none, (some 17), .mov (.t 5), []⟩,
            ⟨none, (some 4), .mov (.t 17), []⟩])
          .ret)
         .skip))))
     (.reg [8] [
       ⟨none, (some 18), .bin .add (.t 8) (.c (.int .i64 1)), []⟩,
       ⟨none, (some 8), .mov (.t 18), []⟩]))))
def k555 : Cd :=
  (.seq
   (.reg [4] [
     ⟨none, (some 4), .mov (.c (.int .i64 0)), []⟩])
   (.seq
    (.seq
     (.reg [7, 8] [
       ⟨none, (some 6), .mov (.t 0), []⟩,
       ⟨none, (some 7), .len (.t 6), []⟩,
       ⟨none, (some 8), .mov (.c (.int .i64 0)), []⟩])
     (.block 0
      (.loop b555_1)))
    (.seq
     (.reg [4] [
       ⟨none, (some 4), .mov (.c (.int .i64 (-1))), []⟩])
     .ret)))
def c555 : Fn := { np := 2, nt := 19, kind := .pure, res := [.t 4], body := k555 }

/- slices.Grow[impl.Scene,impl.Layer] -/
def k556 : Cd :=
  (.seq
   (.reg [4] [
     ⟨none, (some 4), .mov (.c (.slice none 0 0)), []⟩])
   (.seq
    (.seq
     (.reg [6] [
       ⟨none, (some 5), .mov (.t 1), []⟩,
       ⟨none, (some 6), .bin .lss (.t 5) (.c (.int .i64 0)), []⟩])
     (.cond (.t 6)
      (.reg [] [
        ⟨none, none, .bad, []⟩])
      .skip))
    (.seq
     (.seq
      (.reg [1] [
        ⟨none, (some 8), .mov (.t 1), []⟩,
        ⟨none, (some 9), .mov (.t 0), []⟩,
        ⟨none, (some 10), .cap (.t 9), []⟩,
        ⟨none, (some 11), .mov (.t 0), []⟩,
        ⟨none, (some 12), .len (.t 11), []⟩,
        ⟨none, (some 13), .bin .sub (.t 10) (.t 12), []⟩,
        ⟨none, (some 14), .bin .sub (.t 8) (.t 13), []⟩,
        ⟨none, (some 1), .mov (.t 14), []⟩])
      (.seq
       (.reg [16] [
         ⟨none, (some 15), .mov (.t 1), []⟩,
         ⟨none, (some 16), .bin .gtr (.t 15) (.c (.int .i64 0)), []⟩])
       (.cond (.t 16)
        (.reg [0] [
          ⟨none, (some 17), .mov (.t 0), []⟩,
          ⟨none, (some 18), .mov (.t 0), []⟩,
          ⟨none, (some 19), .cap (.t 18), []⟩,
          ⟨none, (some 20), .slcA 27 (.t 17) none (some (.t 19)) none, []⟩,
          ⟨none, (some 21), .mov (.t 1), []⟩,
          ⟨none, (some 22), .apm 27 52 [.int .u16 0, .int .u16 0, .int .u16 0, .int .u16 0, .int .u16 0, .int .u16 0, .int .u16 0, .int .u16 0, .int .u16 0, .int .u16 0, .int .u16 0, .int .u16 0, .int .u16 0, .int .u16 0, .int .u16 0, .int .u16 0, .int .u16 0, .int .u16 0, .int .u16 0, .int .u16 0, .int .u16 0, .int .u16 0, .int .u16 0, .int .u16 0, .int .i8 0, .int .i8 0, .int .i8 0] (.t 20) (.t 21), []⟩,
          ⟨none, (some 23), .mov (.t 0), []⟩,
          ⟨none, (some 24), .len (.t 23), []⟩,
          ⟨none, (some 25), .slcA 27 (.t 22) none (some (.t 24)) none, []⟩,
          ⟨none, (some 0), .mov (.t 25), []⟩])
        .skip)))
     (.seq
      (.reg [4] [
        ⟨none, (some 26), .mov (.t 0), []⟩,
        ⟨none, (some 4), .mov (.t 26), []⟩])
      .ret))))
def c556 : Fn := { np := 2, nt := 27, kind := .pure, res := [.t 4], body := k556 }

/- spec.l05Layer -/
def k563 : Cd :=
  (.seq
   (.reg [2] [
     ⟨none, (some 2), .mov (.c (.bool false)), []⟩])
   (.seq
    (.reg [2] [
      ⟨none, (some 3), .mov (.t 0), []⟩,
      ⟨none, (some 4), .nil (.t 3), []⟩,
      ⟨none, (some 5), .fldP 0 (.t 4), []⟩,
      ⟨none, (some 6), .call true 467 [.t 5], []⟩,
      ⟨none, (some 7), .mov (.t 6), []⟩,
      ⟨(some (7, true)), (some 8), .mov (.t 0), []⟩,
      ⟨(some (7, true)), (some 9), .nil (.t 8), []⟩,
      ⟨(some (7, true)), (some 10), .fldP 24 (.t 9), []⟩,
      ⟨(some (7, true)), (some 11), .ld 1 false (.t 10), []⟩,
      ⟨(some (7, true)), (some 12), .conv .i64 (.t 11), []⟩,
      ⟨(some (7, true)), (some 13), .call true 304 [.t 12, .c (.int .i64 (-12)), .c (.int .i64 12)], []⟩,
      ⟨none, (some 14), .pick (.t 7) (.t 13) (.c (.bool false)), []⟩,
      ⟨none, (some 15), .mov (.t 14), []⟩,
      ⟨(some (15, true)), (some 16), .mov (.t 0), []⟩,
      ⟨(some (15, true)), (some 17), .nil (.t 16), []⟩,
      ⟨(some (15, true)), (some 18), .fldP 25 (.t 17), []⟩,
      ⟨(some (15, true)), (some 19), .ld 1 false (.t 18), []⟩,
      ⟨(some (15, true)), (some 20), .conv .i64 (.t 19), []⟩,
      ⟨(some (15, true)), (some 21), .call true 304 [.t 20, .c (.int .i64 (-12)), .c (.int .i64 12)], []⟩,
      ⟨none, (some 22), .pick (.t 15) (.t 21) (.c (.bool false)), []⟩,
      ⟨none, (some 23), .mov (.t 22), []⟩,
      ⟨(some (23, true)), (some 24), .mov (.t 0), []⟩,
      ⟨(some (23, true)), (some 25), .nil (.t 24), []⟩,
      ⟨(some (23, true)), (some 26), .fldP 26 (.t 25), []⟩,
      ⟨(some (23, true)), (some 27), .ld 1 false (.t 26), []⟩,
      ⟨(some (23, true)), (some 28), .conv .i64 (.t 27), []⟩,
      ⟨(some (23, true)), (some 29), .call true 304 [.t 28, .c (.int .i64 0), .c (.int .i64 8)], []⟩,
      ⟨none, (some 30), .pick (.t 23) (.t 29) (.c (.bool false)), []⟩,
      ⟨none, (some 2), .mov (.t 30), []⟩])
    .ret))
def c563 : Fn := { np := 1, nt := 31, kind := .pure, res := [.t 2], body := k563 }

/- spec.l05Eighths -/
def k564 : Cd :=
  (.seq
   (.reg [4] [
     ⟨none, (some 4), .mov (.c (.int .i64 0)), []⟩])
   (.seq
    (.reg [5] [
      ⟨none, (some 6), .mov (.t 0), []⟩,
      ⟨none, (some 7), .mov (.t 1), []⟩,
      ⟨none, (some 8), .bin .mul (.t 6) (.t 7), []⟩,
      ⟨none, (some 9), .bin .quo (.t 8) (.c (.int .i64 8)), []⟩,
      ⟨none, (some 5), .mov (.t 9), []⟩])
    (.seq
     (.seq
      (.reg [20] [
        ⟨none, (some 10), .mov (.t 0), []⟩,
        ⟨none, (some 11), .mov (.t 1), []⟩,
        ⟨none, (some 12), .bin .mul (.t 10) (.t 11), []⟩,
        ⟨none, (some 13), .bin .lss (.t 12) (.c (.int .i64 0)), []⟩,
        ⟨none, (some 14), .mov (.t 13), []⟩,
        ⟨(some (14, true)), (some 15), .mov (.t 0), []⟩,
        ⟨(some (14, true)), (some 16), .mov (.t 1), []⟩,
        ⟨(some (14, true)), (some 17), .bin .mul (.t 15) (.t 16), []⟩,
        ⟨(some (14, true)), (some 18), .bin .rem (.t 17) (.c (.int .i64 8)), []⟩,
        ⟨(some (14, true)), (some 19), .bin .neq (.t 18) (.c (.int .i64 0)), []⟩,
        ⟨none, (some 20), .pick (.t 14) (.t 19) (.c (.bool false)), []⟩])
      (.cond (.t 20)
       (.reg [5] [
         ⟨none, (some 21), .mov (.t 5), []⟩,
         ⟨none, (some 22), .bin .sub (.t 21) (.c (.int .i64 1)), []⟩,
         ⟨none, (some 5), .mov (.t 22), []⟩])
       .skip))
     (.seq
      (.reg [4] [
        ⟨none, (some 23), .mov (.t 5), []⟩,
        ⟨none, (some 4), .mov (.t 23), []⟩])
      .ret))))
def c564 : Fn := { np := 2, nt := 24, kind := .pure, res := [.t 4], body := k564 }


end Fb
