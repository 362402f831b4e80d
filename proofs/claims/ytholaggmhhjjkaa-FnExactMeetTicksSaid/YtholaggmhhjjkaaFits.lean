/- Each function of the law is compiled by the checker to its text in the small language. -/
import Derived.Test.YtholaggmhhjjkaaRow2
import Derived.Test.YtholaggmhhjjkaaTab
import Derived.Test.YtholaggmhhjjkaaRows
import Derived.KernelRfl
set_option linter.unusedVariables false
set_option linter.unusedSimpArgs false
namespace Fb
open Go Go.Proofs

def inv : FuncId → Option Nat := fun f => match f with
  | 7 => some 41
  | 44 => some 78
  | 10 => some 134
  | 30 => some 180
  | 32 => some 182
  | 33 => some 183
  | 34 => some 205
  | 35 => some 206
  | 36 => some 207
  | 37 => some 208
  | 38 => some 209
  | 39 => some 210
  | 94 => some 234
  | 129 => some 263
  | 65 => some 295
  | 56 => some 296
  | 63 => some 304
  | 137 => some 305
  | 164 => some 342
  | 79 => some 348
  | 91 => some 355
  | 130 => some 358
  | 88 => some 359
  | 61 => some 393
  | 71 => some 420
  | 72 => some 421
  | 73 => some 422
  | 74 => some 423
  | 75 => some 424
  | 76 => some 425
  | 77 => some 426
  | 78 => some 427
  | 80 => some 428
  | 81 => some 429
  | 82 => some 432
  | 85 => some 435
  | 106 => some 440
  | 132 => some 443
  | 139 => some 445
  | 140 => some 446
  | 146 => some 456
  | 158 => some 461
  | 159 => some 462
  | 133 => some 503
  | 114 => some 530
  | 123 => some 537
  | 124 => some 538
  | 125 => some 539
  | 126 => some 540
  | 127 => some 541
  | 128 => some 542
  | 131 => some 543
  | 134 => some 544
  | 165 => some 547
  | 163 => some 549
  | 174 => some 551
  | 153 => some 574
  | 154 => some 575
  | 155 => some 576
  | 156 => some 577
  | 157 => some 578
  | 160 => some 579
  | 161 => some 580
  | 162 => some 581
  | 172 => some 605
  | 173 => some 606
  | _ => none
def rho : Nat → FuncId := fun n => match n with
  | 41 => 7
  | 78 => 44
  | 134 => 10
  | 180 => 30
  | 182 => 32
  | 183 => 33
  | 205 => 34
  | 206 => 35
  | 207 => 36
  | 208 => 37
  | 209 => 38
  | 210 => 39
  | 234 => 94
  | 263 => 129
  | 295 => 65
  | 296 => 56
  | 304 => 63
  | 305 => 137
  | 342 => 164
  | 348 => 79
  | 355 => 91
  | 358 => 130
  | 359 => 88
  | 393 => 61
  | 420 => 71
  | 421 => 72
  | 422 => 73
  | 423 => 74
  | 424 => 75
  | 425 => 76
  | 426 => 77
  | 427 => 78
  | 428 => 80
  | 429 => 81
  | 432 => 82
  | 435 => 85
  | 440 => 106
  | 443 => 132
  | 445 => 139
  | 446 => 140
  | 456 => 146
  | 461 => 158
  | 462 => 159
  | 503 => 133
  | 530 => 114
  | 537 => 123
  | 538 => 124
  | 539 => 125
  | 540 => 126
  | 541 => 127
  | 542 => 128
  | 543 => 131
  | 544 => 134
  | 547 => 165
  | 549 => 163
  | 551 => 174
  | 574 => 153
  | 575 => 154
  | 576 => 155
  | 577 => 156
  | 578 => 157
  | 579 => 160
  | 580 => 161
  | 581 => 162
  | 605 => 172
  | 606 => 173
  | _ => 0
def isPure : Nat → Bool := fun n => !([182, 210, 305, 429] : List Nat).contains n
theorem inv_rho : ∀ f i, inv f = some i → rho i = f := by
  intro f i h
  unfold inv at h
  split at h <;> first | (cases h; rfl) | cases h
def h41 : Hint := ⟨.pure, [13, 12, 5, 4], [0, 1, 2, 3, 4, 5, 8, 9, 10, 11, 12, 13, 14, 15, 16, 17, 18, 19, 20, 25, 30, 61, 66, 71, 90, 98, 101, 120, 125, 128]⟩
theorem comp41 : compFn Try.prog inv isPure h41 Try.f7 = some c41 := by kernel_rfl
theorem name41 : (Try.f7.name == "runtime.NumGoroutine") = false := by kernel_rfl
def h78 : Hint := ⟨.pure, [3, 2], [0, 1, 2, 3, 4, 5, 7, 16]⟩
theorem comp78 : compFn Try.prog inv isPure h78 Try.f44 = some c78 := by kernel_rfl
theorem name78 : (Try.f44.name == "runtime.NumGoroutine") = false := by kernel_rfl
def h134 : Hint := ⟨.pure, [3, 2, 1], [0, 1, 2, 3, 4, 6]⟩
theorem comp134 : compFn Try.prog inv isPure h134 Try.f10 = some c134 := by kernel_rfl
theorem name134 : (Try.f10.name == "runtime.NumGoroutine") = false := by kernel_rfl
def h180 : Hint := ⟨.pure, [], [0, 1, 4, 5, 10, 14, 25]⟩
theorem comp180 : compFn Try.prog inv isPure h180 Try.f30 = some c180 := by kernel_rfl
theorem name180 : (Try.f30.name == "runtime.NumGoroutine") = false := by kernel_rfl
def h182 : Hint := ⟨.args, [], [0, 1, 4, 5, 9]⟩
theorem comp182 : compFn Try.prog inv isPure h182 Try.f32 = some c182 := by kernel_rfl
theorem name182 : (Try.f32.name == "runtime.NumGoroutine") = false := by kernel_rfl
def h183 : Hint := ⟨.pure, [], [0, 1, 4, 5, 9, 17]⟩
theorem comp183 : compFn Try.prog inv isPure h183 Try.f33 = some c183 := by kernel_rfl
theorem name183 : (Try.f33.name == "runtime.NumGoroutine") = false := by kernel_rfl
def h205 : Hint := ⟨.pure, [2], [0, 1, 2, 4, 10]⟩
theorem comp205 : compFn Try.prog inv isPure h205 Try.f34 = some c205 := by kernel_rfl
theorem name205 : (Try.f34.name == "runtime.NumGoroutine") = false := by kernel_rfl
def h206 : Hint := ⟨.pure, [14, 13], [0, 1, 2, 3, 4, 5, 8, 9, 10, 11, 12, 13, 14, 15, 24, 31, 39, 49]⟩
theorem comp206 : compFn Try.prog inv isPure h206 Try.f35 = some c206 := by kernel_rfl
theorem name206 : (Try.f35.name == "runtime.NumGoroutine") = false := by kernel_rfl
def h207 : Hint := ⟨.pure, [5, 4, 2], [0, 1, 2, 4, 5]⟩
theorem comp207 : compFn Try.prog inv isPure h207 Try.f36 = some c207 := by kernel_rfl
theorem name207 : (Try.f36.name == "runtime.NumGoroutine") = false := by kernel_rfl
def h208 : Hint := ⟨.pure, [5, 4], [0, 1, 2, 3, 4, 5, 8, 9, 10, 11, 12, 18, 27, 38]⟩
theorem comp208 : compFn Try.prog inv isPure h208 Try.f37 = some c208 := by kernel_rfl
theorem name208 : (Try.f37.name == "runtime.NumGoroutine") = false := by kernel_rfl
def h209 : Hint := ⟨.pure, [3, 2], [0, 1, 2, 3, 4, 10, 15, 21]⟩
theorem comp209 : compFn Try.prog inv isPure h209 Try.f38 = some c209 := by kernel_rfl
theorem name209 : (Try.f38.name == "runtime.NumGoroutine") = false := by kernel_rfl
def h210 : Hint := ⟨.args, [2], [0, 1, 2, 4]⟩
theorem comp210 : compFn Try.prog inv isPure h210 Try.f39 = some c210 := by kernel_rfl
theorem name210 : (Try.f39.name == "runtime.NumGoroutine") = false := by kernel_rfl
def h234 : Hint := ⟨.pure, [], [0, 1, 2]⟩
theorem comp234 : compFn Try.prog inv isPure h234 Try.f94 = some c234 := by kernel_rfl
theorem name234 : (Try.f94.name == "runtime.NumGoroutine") = false := by kernel_rfl
def h263 : Hint := ⟨.pure, [1], [0, 1, 2]⟩
theorem comp263 : compFn Try.prog inv isPure h263 Try.f129 = some c263 := by kernel_rfl
theorem name263 : (Try.f129.name == "runtime.NumGoroutine") = false := by kernel_rfl
def h295 : Hint := ⟨.pure, [], [0, 1, 2, 6]⟩
theorem comp295 : compFn Try.prog inv isPure h295 Try.f65 = some c295 := by kernel_rfl
theorem name295 : (Try.f65.name == "runtime.NumGoroutine") = false := by kernel_rfl
def h296 : Hint := ⟨.pure, [], [0, 2, 5, 8]⟩
theorem comp296 : compFn Try.prog inv isPure h296 Try.f56 = some c296 := by kernel_rfl
theorem name296 : (Try.f56.name == "runtime.NumGoroutine") = false := by kernel_rfl
def h304 : Hint := ⟨.pure, [], [0, 1, 2, 6]⟩
theorem comp304 : compFn Try.prog inv isPure h304 Try.f63 = some c304 := by kernel_rfl
theorem name304 : (Try.f63.name == "runtime.NumGoroutine") = false := by kernel_rfl
def h305 : Hint := ⟨.args, [], [0, 1, 2, 8]⟩
theorem comp305 : compFn Try.prog inv isPure h305 Try.f137 = some c305 := by kernel_rfl
theorem name305 : (Try.f137.name == "runtime.NumGoroutine") = false := by kernel_rfl
def h342 : Hint := ⟨.pure, [], [0, 1, 4]⟩
theorem comp342 : compFn Try.prog inv isPure h342 Try.f164 = some c342 := by kernel_rfl
theorem name342 : (Try.f164.name == "runtime.NumGoroutine") = false := by kernel_rfl
def h348 : Hint := ⟨.pure, [4, 3, 2], [0, 1, 2, 3, 4]⟩
theorem comp348 : compFn Try.prog inv isPure h348 Try.f79 = some c348 := by kernel_rfl
theorem name348 : (Try.f79.name == "runtime.NumGoroutine") = false := by kernel_rfl
def h355 : Hint := ⟨.pure, [6], [0, 1, 2, 6, 7, 8, 9, 16]⟩
theorem comp355 : compFn Try.prog inv isPure h355 Try.f91 = some c355 := by kernel_rfl
theorem name355 : (Try.f91.name == "runtime.NumGoroutine") = false := by kernel_rfl
def h358 : Hint := ⟨.pure, [7, 6, 3], [0, 1, 2, 3, 6, 7, 8, 9, 13, 15, 16, 23, 25]⟩
theorem comp358 : compFn Try.prog inv isPure h358 Try.f130 = some c358 := by kernel_rfl
theorem name358 : (Try.f130.name == "runtime.NumGoroutine") = false := by kernel_rfl
def h359 : Hint := ⟨.pure, [], [0, 2, 3, 5, 13]⟩
theorem comp359 : compFn Try.prog inv isPure h359 Try.f88 = some c359 := by kernel_rfl
theorem name359 : (Try.f88.name == "runtime.NumGoroutine") = false := by kernel_rfl
def h393 : Hint := ⟨.pure, [1], [0, 1, 2, 3, 5, 6, 7, 8]⟩
theorem comp393 : compFn Try.prog inv isPure h393 Try.f61 = some c393 := by kernel_rfl
theorem name393 : (Try.f61.name == "runtime.NumGoroutine") = false := by kernel_rfl
def h420 : Hint := ⟨.pure, [], [0, 1, 4, 10]⟩
theorem comp420 : compFn Try.prog inv isPure h420 Try.f71 = some c420 := by kernel_rfl
theorem name420 : (Try.f71.name == "runtime.NumGoroutine") = false := by kernel_rfl
def h421 : Hint := ⟨.pure, [], [0, 1, 4, 5, 9, 16, 18, 21]⟩
theorem comp421 : compFn Try.prog inv isPure h421 Try.f72 = some c421 := by kernel_rfl
theorem name421 : (Try.f72.name == "runtime.NumGoroutine") = false := by kernel_rfl
def h422 : Hint := ⟨.pure, [], [0, 1, 4]⟩
theorem comp422 : compFn Try.prog inv isPure h422 Try.f73 = some c422 := by kernel_rfl
theorem name422 : (Try.f73.name == "runtime.NumGoroutine") = false := by kernel_rfl
def h423 : Hint := ⟨.pure, [4], [0, 1, 4, 5, 6]⟩
theorem comp423 : compFn Try.prog inv isPure h423 Try.f74 = some c423 := by kernel_rfl
theorem name423 : (Try.f74.name == "runtime.NumGoroutine") = false := by kernel_rfl
def h424 : Hint := ⟨.pure, [], [0, 1, 4, 5, 6, 7, 13, 24, 40]⟩
theorem comp424 : compFn Try.prog inv isPure h424 Try.f75 = some c424 := by kernel_rfl
theorem name424 : (Try.f75.name == "runtime.NumGoroutine") = false := by kernel_rfl
def h425 : Hint := ⟨.pure, [], [0, 2]⟩
theorem comp425 : compFn Try.prog inv isPure h425 Try.f76 = some c425 := by kernel_rfl
theorem name425 : (Try.f76.name == "runtime.NumGoroutine") = false := by kernel_rfl
def h426 : Hint := ⟨.pure, [], [0, 1, 4]⟩
theorem comp426 : compFn Try.prog inv isPure h426 Try.f77 = some c426 := by kernel_rfl
theorem name426 : (Try.f77.name == "runtime.NumGoroutine") = false := by kernel_rfl
def h427 : Hint := ⟨.pure, [4, 2], [0, 1, 2, 4]⟩
theorem comp427 : compFn Try.prog inv isPure h427 Try.f78 = some c427 := by kernel_rfl
theorem name427 : (Try.f78.name == "runtime.NumGoroutine") = false := by kernel_rfl
def h428 : Hint := ⟨.pure, [], [0, 1, 4, 5]⟩
theorem comp428 : compFn Try.prog inv isPure h428 Try.f80 = some c428 := by kernel_rfl
theorem name428 : (Try.f80.name == "runtime.NumGoroutine") = false := by kernel_rfl
def h429 : Hint := ⟨.args, [], [0, 1, 4, 5, 9]⟩
theorem comp429 : compFn Try.prog inv isPure h429 Try.f81 = some c429 := by kernel_rfl
theorem name429 : (Try.f81.name == "runtime.NumGoroutine") = false := by kernel_rfl
def h432 : Hint := ⟨.pure, [], [0, 2]⟩
theorem comp432 : compFn Try.prog inv isPure h432 Try.f82 = some c432 := by kernel_rfl
theorem name432 : (Try.f82.name == "runtime.NumGoroutine") = false := by kernel_rfl
def h435 : Hint := ⟨.pure, [], [0, 2]⟩
theorem comp435 : compFn Try.prog inv isPure h435 Try.f85 = some c435 := by kernel_rfl
theorem name435 : (Try.f85.name == "runtime.NumGoroutine") = false := by kernel_rfl
def h440 : Hint := ⟨.pure, [], [0, 2, 3, 4, 5, 8, 12, 18]⟩
theorem comp440 : compFn Try.prog inv isPure h440 Try.f106 = some c440 := by kernel_rfl
theorem name440 : (Try.f106.name == "runtime.NumGoroutine") = false := by kernel_rfl
def h443 : Hint := ⟨.pure, [6, 4, 3], [0, 1, 2, 3, 4, 6, 7, 8, 9, 10, 11]⟩
theorem comp443 : compFn Try.prog inv isPure h443 Try.f132 = some c443 := by kernel_rfl
theorem name443 : (Try.f132.name == "runtime.NumGoroutine") = false := by kernel_rfl
def h445 : Hint := ⟨.pure, [], [0, 1, 4]⟩
theorem comp445 : compFn Try.prog inv isPure h445 Try.f139 = some c445 := by kernel_rfl
theorem name445 : (Try.f139.name == "runtime.NumGoroutine") = false := by kernel_rfl
def h446 : Hint := ⟨.pure, [], [0, 2]⟩
theorem comp446 : compFn Try.prog inv isPure h446 Try.f140 = some c446 := by kernel_rfl
theorem name446 : (Try.f140.name == "runtime.NumGoroutine") = false := by kernel_rfl
def h456 : Hint := ⟨.pure, [], [0, 1, 2, 6]⟩
theorem comp456 : compFn Try.prog inv isPure h456 Try.f146 = some c456 := by kernel_rfl
theorem name456 : (Try.f146.name == "runtime.NumGoroutine") = false := by kernel_rfl
def h461 : Hint := ⟨.pure, [4], [0, 2, 3, 4, 5, 6, 7, 8, 45]⟩
theorem comp461 : compFn Try.prog inv isPure h461 Try.f158 = some c461 := by kernel_rfl
theorem name461 : (Try.f158.name == "runtime.NumGoroutine") = false := by kernel_rfl
def h462 : Hint := ⟨.pure, [], [0, 2]⟩
theorem comp462 : compFn Try.prog inv isPure h462 Try.f159 = some c462 := by kernel_rfl
theorem name462 : (Try.f159.name == "runtime.NumGoroutine") = false := by kernel_rfl
def h503 : Hint := ⟨.pure, [], [0, 1, 4]⟩
theorem comp503 : compFn Try.prog inv isPure h503 Try.f133 = some c503 := by kernel_rfl
theorem name503 : (Try.f133.name == "runtime.NumGoroutine") = false := by kernel_rfl
def h530 : Hint := ⟨.pure, [], [0, 2]⟩
theorem comp530 : compFn Try.prog inv isPure h530 Try.f114 = some c530 := by kernel_rfl
theorem name530 : (Try.f114.name == "runtime.NumGoroutine") = false := by kernel_rfl
def h537 : Hint := ⟨.pure, [], [0, 2]⟩
theorem comp537 : compFn Try.prog inv isPure h537 Try.f123 = some c537 := by kernel_rfl
theorem name537 : (Try.f123.name == "runtime.NumGoroutine") = false := by kernel_rfl
def h538 : Hint := ⟨.pure, [], [0, 1, 2, 6, 7, 8, 9, 10, 11, 27, 56]⟩
theorem comp538 : compFn Try.prog inv isPure h538 Try.f124 = some c538 := by kernel_rfl
theorem name538 : (Try.f124.name == "runtime.NumGoroutine") = false := by kernel_rfl
def h539 : Hint := ⟨.pure, [3, 2, 1], [0, 1, 2, 3]⟩
theorem comp539 : compFn Try.prog inv isPure h539 Try.f125 = some c539 := by kernel_rfl
theorem name539 : (Try.f125.name == "runtime.NumGoroutine") = false := by kernel_rfl
def h540 : Hint := ⟨.pure, [0], [0]⟩
theorem comp540 : compFn Try.prog inv isPure h540 Try.f126 = some c540 := by kernel_rfl
theorem name540 : (Try.f126.name == "runtime.NumGoroutine") = false := by kernel_rfl
def h541 : Hint := ⟨.pure, [], [0, 1, 4]⟩
theorem comp541 : compFn Try.prog inv isPure h541 Try.f127 = some c541 := by kernel_rfl
theorem name541 : (Try.f127.name == "runtime.NumGoroutine") = false := by kernel_rfl
def h542 : Hint := ⟨.pure, [1], [0, 1, 2]⟩
theorem comp542 : compFn Try.prog inv isPure h542 Try.f128 = some c542 := by kernel_rfl
theorem name542 : (Try.f128.name == "runtime.NumGoroutine") = false := by kernel_rfl
def h543 : Hint := ⟨.pure, [11, 10, 9], [0, 1, 2, 6, 7, 8, 9, 10, 11, 12, 26, 36]⟩
theorem comp543 : compFn Try.prog inv isPure h543 Try.f131 = some c543 := by kernel_rfl
theorem name543 : (Try.f131.name == "runtime.NumGoroutine") = false := by kernel_rfl
def h544 : Hint := ⟨.pure, [], [0, 1, 4, 5, 10, 14, 26]⟩
theorem comp544 : compFn Try.prog inv isPure h544 Try.f134 = some c544 := by kernel_rfl
theorem name544 : (Try.f134.name == "runtime.NumGoroutine") = false := by kernel_rfl
def h547 : Hint := ⟨.pure, [], [0, 1, 4, 5, 7, 8, 9, 16]⟩
theorem comp547 : compFn Try.prog inv isPure h547 Try.f165 = some c547 := by kernel_rfl
theorem name547 : (Try.f165.name == "runtime.NumGoroutine") = false := by kernel_rfl
def h549 : Hint := ⟨.pure, [], [0, 1, 4, 7]⟩
theorem comp549 : compFn Try.prog inv isPure h549 Try.f163 = some c549 := by kernel_rfl
theorem name549 : (Try.f163.name == "runtime.NumGoroutine") = false := by kernel_rfl
def h551 : Hint := ⟨.pure, [], [0, 2]⟩
theorem comp551 : compFn Try.prog inv isPure h551 Try.f174 = some c551 := by kernel_rfl
theorem name551 : (Try.f174.name == "runtime.NumGoroutine") = false := by kernel_rfl
def h574 : Hint := ⟨.pure, [], [0, 2]⟩
theorem comp574 : compFn Try.prog inv isPure h574 Try.f153 = some c574 := by kernel_rfl
theorem name574 : (Try.f153.name == "runtime.NumGoroutine") = false := by kernel_rfl
def h575 : Hint := ⟨.pure, [], [0, 2, 3, 7, 37, 53]⟩
theorem comp575 : compFn Try.prog inv isPure h575 Try.f154 = some c575 := by kernel_rfl
theorem name575 : (Try.f154.name == "runtime.NumGoroutine") = false := by kernel_rfl
def h576 : Hint := ⟨.pure, [], [0, 1, 2, 6, 7, 8, 15, 16, 22, 30, 42]⟩
theorem comp576 : compFn Try.prog inv isPure h576 Try.f155 = some c576 := by kernel_rfl
theorem name576 : (Try.f155.name == "runtime.NumGoroutine") = false := by kernel_rfl
def h577 : Hint := ⟨.pure, [], [0, 1, 2, 6, 7, 18]⟩
theorem comp577 : compFn Try.prog inv isPure h577 Try.f156 = some c577 := by kernel_rfl
theorem name577 : (Try.f156.name == "runtime.NumGoroutine") = false := by kernel_rfl
def h578 : Hint := ⟨.pure, [], [0, 1, 4, 5, 7, 8, 9, 16]⟩
theorem comp578 : compFn Try.prog inv isPure h578 Try.f157 = some c578 := by kernel_rfl
theorem name578 : (Try.f157.name == "runtime.NumGoroutine") = false := by kernel_rfl
def h579 : Hint := ⟨.pure, [], [0, 1, 2, 6, 7, 8, 15, 22, 31, 41]⟩
theorem comp579 : compFn Try.prog inv isPure h579 Try.f160 = some c579 := by kernel_rfl
theorem name579 : (Try.f160.name == "runtime.NumGoroutine") = false := by kernel_rfl
def h580 : Hint := ⟨.pure, [], [0, 1, 2, 6, 9]⟩
theorem comp580 : compFn Try.prog inv isPure h580 Try.f161 = some c580 := by kernel_rfl
theorem name580 : (Try.f161.name == "runtime.NumGoroutine") = false := by kernel_rfl
def h581 : Hint := ⟨.pure, [3, 2], [0, 1, 2, 3, 4, 9, 14, 19]⟩
theorem comp581 : compFn Try.prog inv isPure h581 Try.f162 = some c581 := by kernel_rfl
theorem name581 : (Try.f162.name == "runtime.NumGoroutine") = false := by kernel_rfl
def h605 : Hint := ⟨.pure, [], [0, 2]⟩
theorem comp605 : compFn Try.prog inv isPure h605 Try.f172 = some c605 := by kernel_rfl
theorem name605 : (Try.f172.name == "runtime.NumGoroutine") = false := by kernel_rfl
def h606 : Hint := ⟨.pure, [], [0, 2]⟩
theorem comp606 : compFn Try.prog inv isPure h606 Try.f173 = some c606 := by kernel_rfl
theorem name606 : (Try.f173.name == "runtime.NumGoroutine") = false := by kernel_rfl
theorem tab_ok : ∀ f D, tab f = some D → DefOk Try.prog inv isPure rho f D := by
  intro f D h
  unfold tab at h
  split at h
  · cases h; exact ⟨Try.f7, h41, Try.func7, name41, comp41⟩
  · cases h; exact ⟨Try.f44, h78, Try.func44, name78, comp78⟩
  · cases h; exact ⟨Try.f10, h134, Try.func10, name134, comp134⟩
  · cases h; exact ⟨Try.f30, h180, Try.func30, name180, comp180⟩
  · cases h; exact ⟨Try.f32, h182, Try.func32, name182, comp182⟩
  · cases h; exact ⟨Try.f33, h183, Try.func33, name183, comp183⟩
  · cases h; exact ⟨Try.f34, h205, Try.func34, name205, comp205⟩
  · cases h; exact ⟨Try.f35, h206, Try.func35, name206, comp206⟩
  · cases h; exact ⟨Try.f36, h207, Try.func36, name207, comp207⟩
  · cases h; exact ⟨Try.f37, h208, Try.func37, name208, comp208⟩
  · cases h; exact ⟨Try.f38, h209, Try.func38, name209, comp209⟩
  · cases h; exact ⟨Try.f39, h210, Try.func39, name210, comp210⟩
  · cases h; exact ⟨Try.f94, h234, Try.func94, name234, comp234⟩
  · cases h; exact ⟨Try.f129, h263, Try.func129, name263, comp263⟩
  · cases h; exact ⟨Try.f65, h295, Try.func65, name295, comp295⟩
  · cases h; exact ⟨Try.f56, h296, Try.func56, name296, comp296⟩
  · cases h; exact ⟨Try.f63, h304, Try.func63, name304, comp304⟩
  · cases h; exact ⟨Try.f137, h305, Try.func137, name305, comp305⟩
  · cases h; exact ⟨Try.f164, h342, Try.func164, name342, comp342⟩
  · cases h; exact ⟨Try.f79, h348, Try.func79, name348, comp348⟩
  · cases h; exact ⟨Try.f91, h355, Try.func91, name355, comp355⟩
  · cases h; exact ⟨Try.f130, h358, Try.func130, name358, comp358⟩
  · cases h; exact ⟨Try.f88, h359, Try.func88, name359, comp359⟩
  · cases h; exact ⟨Try.f61, h393, Try.func61, name393, comp393⟩
  · cases h; exact ⟨Try.f71, h420, Try.func71, name420, comp420⟩
  · cases h; exact ⟨Try.f72, h421, Try.func72, name421, comp421⟩
  · cases h; exact ⟨Try.f73, h422, Try.func73, name422, comp422⟩
  · cases h; exact ⟨Try.f74, h423, Try.func74, name423, comp423⟩
  · cases h; exact ⟨Try.f75, h424, Try.func75, name424, comp424⟩
  · cases h; exact ⟨Try.f76, h425, Try.func76, name425, comp425⟩
  · cases h; exact ⟨Try.f77, h426, Try.func77, name426, comp426⟩
  · cases h; exact ⟨Try.f78, h427, Try.func78, name427, comp427⟩
  · cases h; exact ⟨Try.f80, h428, Try.func80, name428, comp428⟩
  · cases h; exact ⟨Try.f81, h429, Try.func81, name429, comp429⟩
  · cases h; exact ⟨Try.f82, h432, Try.func82, name432, comp432⟩
  · cases h; exact ⟨Try.f85, h435, Try.func85, name435, comp435⟩
  · cases h; exact ⟨Try.f106, h440, Try.func106, name440, comp440⟩
  · cases h; exact ⟨Try.f132, h443, Try.func132, name443, comp443⟩
  · cases h; exact ⟨Try.f139, h445, Try.func139, name445, comp445⟩
  · cases h; exact ⟨Try.f140, h446, Try.func140, name446, comp446⟩
  · cases h; exact ⟨Try.f146, h456, Try.func146, name456, comp456⟩
  · cases h; exact ⟨Try.f158, h461, Try.func158, name461, comp461⟩
  · cases h; exact ⟨Try.f159, h462, Try.func159, name462, comp462⟩
  · cases h; exact ⟨Try.f133, h503, Try.func133, name503, comp503⟩
  · cases h; exact ⟨Try.f114, h530, Try.func114, name530, comp530⟩
  · cases h; exact ⟨Try.f123, h537, Try.func123, name537, comp537⟩
  · cases h; exact ⟨Try.f124, h538, Try.func124, name538, comp538⟩
  · cases h; exact ⟨Try.f125, h539, Try.func125, name539, comp539⟩
  · cases h; exact ⟨Try.f126, h540, Try.func126, name540, comp540⟩
  · cases h; exact ⟨Try.f127, h541, Try.func127, name541, comp541⟩
  · cases h; exact ⟨Try.f128, h542, Try.func128, name542, comp542⟩
  · cases h; exact ⟨Try.f131, h543, Try.func131, name543, comp543⟩
  · cases h; exact ⟨Try.f134, h544, Try.func134, name544, comp544⟩
  · cases h; exact ⟨Try.f165, h547, Try.func165, name547, comp547⟩
  · cases h; exact ⟨Try.f163, h549, Try.func163, name549, comp549⟩
  · cases h; exact ⟨Try.f174, h551, Try.func174, name551, comp551⟩
  · cases h; exact ⟨Try.f153, h574, Try.func153, name574, comp574⟩
  · cases h; exact ⟨Try.f154, h575, Try.func154, name575, comp575⟩
  · cases h; exact ⟨Try.f155, h576, Try.func155, name576, comp576⟩
  · cases h; exact ⟨Try.f156, h577, Try.func156, name577, comp577⟩
  · cases h; exact ⟨Try.f157, h578, Try.func157, name578, comp578⟩
  · cases h; exact ⟨Try.f160, h579, Try.func160, name579, comp579⟩
  · cases h; exact ⟨Try.f161, h580, Try.func161, name580, comp580⟩
  · cases h; exact ⟨Try.f162, h581, Try.func162, name581, comp581⟩
  · cases h; exact ⟨Try.f172, h605, Try.func172, name605, comp605⟩
  · cases h; exact ⟨Try.f173, h606, Try.func173, name606, comp606⟩
  · cases h
end Fb
