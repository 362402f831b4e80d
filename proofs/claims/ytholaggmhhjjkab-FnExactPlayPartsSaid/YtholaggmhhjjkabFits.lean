/- Each function of the law is compiled by the checker to its text in the small language. -/
import Derived.Test.YtholaggmhhjjkabRow2
import Derived.Test.YtholaggmhhjjkabTab
import Derived.Test.YtholaggmhhjjkabRows
import Derived.KernelRfl
set_option linter.unusedVariables false
set_option linter.unusedSimpArgs false
namespace Fb
open Go Go.Proofs

def inv : FuncId → Option Nat := fun f => match f with
  | 6 => some 53
  | 43 => some 78
  | 21 => some 121
  | 14 => some 122
  | 22 => some 123
  | 36 => some 134
  | 48 => some 205
  | 52 => some 207
  | 57 => some 209
  | 25 => some 219
  | 27 => some 221
  | 29 => some 223
  | 99 => some 234
  | 28 => some 260
  | 26 => some 261
  | 87 => some 263
  | 30 => some 269
  | 69 => some 295
  | 35 => some 296
  | 61 => some 304
  | 64 => some 305
  | 82 => some 337
  | 89 => some 338
  | 95 => some 342
  | 34 => some 355
  | 42 => some 358
  | 60 => some 359
  | 78 => some 420
  | 49 => some 421
  | 50 => some 422
  | 81 => some 423
  | 83 => some 424
  | 54 => some 425
  | 55 => some 426
  | 90 => some 427
  | 91 => some 428
  | 59 => some 429
  | 80 => some 432
  | 51 => some 433
  | 53 => some 434
  | 88 => some 435
  | 56 => some 436
  | 58 => some 437
  | 63 => some 440
  | 111 => some 443
  | 117 => some 445
  | 118 => some 446
  | 94 => some 456
  | 109 => some 461
  | 110 => some 462
  | 112 => some 502
  | 79 => some 537
  | 106 => some 538
  | 107 => some 539
  | 84 => some 540
  | 85 => some 541
  | 86 => some 542
  | 113 => some 543
  | 114 => some 544
  | 92 => some 545
  | 130 => some 547
  | 93 => some 549
  | 126 => some 551
  | 104 => some 574
  | 105 => some 575
  | 124 => some 576
  | 125 => some 577
  | 108 => some 578
  | 127 => some 579
  | 128 => some 580
  | 129 => some 581
  | 123 => some 605
  | 132 => some 606
  | _ => none
def rho : Nat → FuncId := fun n => match n with
  | 53 => 6
  | 78 => 43
  | 121 => 21
  | 122 => 14
  | 123 => 22
  | 134 => 36
  | 205 => 48
  | 207 => 52
  | 209 => 57
  | 219 => 25
  | 221 => 27
  | 223 => 29
  | 234 => 99
  | 260 => 28
  | 261 => 26
  | 263 => 87
  | 269 => 30
  | 295 => 69
  | 296 => 35
  | 304 => 61
  | 305 => 64
  | 337 => 82
  | 338 => 89
  | 342 => 95
  | 355 => 34
  | 358 => 42
  | 359 => 60
  | 420 => 78
  | 421 => 49
  | 422 => 50
  | 423 => 81
  | 424 => 83
  | 425 => 54
  | 426 => 55
  | 427 => 90
  | 428 => 91
  | 429 => 59
  | 432 => 80
  | 433 => 51
  | 434 => 53
  | 435 => 88
  | 436 => 56
  | 437 => 58
  | 440 => 63
  | 443 => 111
  | 445 => 117
  | 446 => 118
  | 456 => 94
  | 461 => 109
  | 462 => 110
  | 502 => 112
  | 537 => 79
  | 538 => 106
  | 539 => 107
  | 540 => 84
  | 541 => 85
  | 542 => 86
  | 543 => 113
  | 544 => 114
  | 545 => 92
  | 547 => 130
  | 549 => 93
  | 551 => 126
  | 574 => 104
  | 575 => 105
  | 576 => 124
  | 577 => 125
  | 578 => 108
  | 579 => 127
  | 580 => 128
  | 581 => 129
  | 605 => 123
  | 606 => 132
  | _ => 0
def isPure : Nat → Bool := fun n => !([122, 269, 305, 429] : List Nat).contains n
theorem inv_rho : ∀ f i, inv f = some i → rho i = f := by
  intro f i h
  unfold inv at h
  split at h <;> first | (cases h; rfl) | cases h
def h53 : Hint := ⟨.pure, [], [0, 1, 2, 6, 7, 8, 9, 10, 11, 12, 13, 14, 15, 16, 17, 22, 48, 53, 69, 77, 80, 97, 102, 105]⟩
theorem comp53 : compFn Try.prog inv isPure h53 Try.f6 = some c53 := by kernel_rfl
theorem name53 : (Try.f6.name == "runtime.NumGoroutine") = false := by kernel_rfl
def h78 : Hint := ⟨.pure, [3, 2], [0, 1, 2, 3, 4, 5, 7, 16]⟩
theorem comp78 : compFn Try.prog inv isPure h78 Try.f43 = some c78 := by kernel_rfl
theorem name78 : (Try.f43.name == "runtime.NumGoroutine") = false := by kernel_rfl
def h121 : Hint := ⟨.pure, [], [0, 1, 4, 5, 10, 14, 26]⟩
theorem comp121 : compFn Try.prog inv isPure h121 Try.f21 = some c121 := by kernel_rfl
theorem name121 : (Try.f21.name == "runtime.NumGoroutine") = false := by kernel_rfl
def h122 : Hint := ⟨.args, [], [0, 1, 4, 5, 6, 10, 14]⟩
theorem comp122 : compFn Try.prog inv isPure h122 Try.f14 = some c122 := by kernel_rfl
theorem name122 : (Try.f14.name == "runtime.NumGoroutine") = false := by kernel_rfl
def h123 : Hint := ⟨.pure, [], [0, 1, 4, 5, 6, 10, 14, 25]⟩
theorem comp123 : compFn Try.prog inv isPure h123 Try.f22 = some c123 := by kernel_rfl
theorem name123 : (Try.f22.name == "runtime.NumGoroutine") = false := by kernel_rfl
def h134 : Hint := ⟨.pure, [3, 2, 1], [0, 1, 2, 3, 4, 6]⟩
theorem comp134 : compFn Try.prog inv isPure h134 Try.f36 = some c134 := by kernel_rfl
theorem name134 : (Try.f36.name == "runtime.NumGoroutine") = false := by kernel_rfl
def h205 : Hint := ⟨.pure, [2], [0, 1, 2, 4, 10]⟩
theorem comp205 : compFn Try.prog inv isPure h205 Try.f48 = some c205 := by kernel_rfl
theorem name205 : (Try.f48.name == "runtime.NumGoroutine") = false := by kernel_rfl
def h207 : Hint := ⟨.pure, [5, 4, 2], [0, 1, 2, 4, 5]⟩
theorem comp207 : compFn Try.prog inv isPure h207 Try.f52 = some c207 := by kernel_rfl
theorem name207 : (Try.f52.name == "runtime.NumGoroutine") = false := by kernel_rfl
def h209 : Hint := ⟨.pure, [3, 2], [0, 1, 2, 3, 4, 10, 15, 21]⟩
theorem comp209 : compFn Try.prog inv isPure h209 Try.f57 = some c209 := by kernel_rfl
theorem name209 : (Try.f57.name == "runtime.NumGoroutine") = false := by kernel_rfl
def h219 : Hint := ⟨.pure, [], [0, 1, 4, 5, 11, 15, 25]⟩
theorem comp219 : compFn Try.prog inv isPure h219 Try.f25 = some c219 := by kernel_rfl
theorem name219 : (Try.f25.name == "runtime.NumGoroutine") = false := by kernel_rfl
def h221 : Hint := ⟨.pure, [], [0, 1, 4, 5, 6, 7, 13, 24, 41]⟩
theorem comp221 : compFn Try.prog inv isPure h221 Try.f27 = some c221 := by kernel_rfl
theorem name221 : (Try.f27.name == "runtime.NumGoroutine") = false := by kernel_rfl
def h223 : Hint := ⟨.pure, [], [0, 1, 4, 5, 6, 17, 21, 33]⟩
theorem comp223 : compFn Try.prog inv isPure h223 Try.f29 = some c223 := by kernel_rfl
theorem name223 : (Try.f29.name == "runtime.NumGoroutine") = false := by kernel_rfl
def h234 : Hint := ⟨.pure, [], [0, 1, 2]⟩
theorem comp234 : compFn Try.prog inv isPure h234 Try.f99 = some c234 := by kernel_rfl
theorem name234 : (Try.f99.name == "runtime.NumGoroutine") = false := by kernel_rfl
def h260 : Hint := ⟨.pure, [], [0, 1, 2, 6, 7, 8, 9, 10, 14, 19, 34]⟩
theorem comp260 : compFn Try.prog inv isPure h260 Try.f28 = some c260 := by kernel_rfl
theorem name260 : (Try.f28.name == "runtime.NumGoroutine") = false := by kernel_rfl
def h261 : Hint := ⟨.pure, [], [0, 1, 2, 6, 7, 8, 9, 10, 24, 26, 33]⟩
theorem comp261 : compFn Try.prog inv isPure h261 Try.f26 = some c261 := by kernel_rfl
theorem name261 : (Try.f26.name == "runtime.NumGoroutine") = false := by kernel_rfl
def h263 : Hint := ⟨.pure, [1], [0, 1, 2]⟩
theorem comp263 : compFn Try.prog inv isPure h263 Try.f87 = some c263 := by kernel_rfl
theorem name263 : (Try.f87.name == "runtime.NumGoroutine") = false := by kernel_rfl
def h269 : Hint := ⟨.args, [], [0, 1, 4, 5, 6, 10, 14]⟩
theorem comp269 : compFn Try.prog inv isPure h269 Try.f30 = some c269 := by kernel_rfl
theorem name269 : (Try.f30.name == "runtime.NumGoroutine") = false := by kernel_rfl
def h295 : Hint := ⟨.pure, [], [0, 1, 2, 6]⟩
theorem comp295 : compFn Try.prog inv isPure h295 Try.f69 = some c295 := by kernel_rfl
theorem name295 : (Try.f69.name == "runtime.NumGoroutine") = false := by kernel_rfl
def h296 : Hint := ⟨.pure, [], [0, 2, 5, 8]⟩
theorem comp296 : compFn Try.prog inv isPure h296 Try.f35 = some c296 := by kernel_rfl
theorem name296 : (Try.f35.name == "runtime.NumGoroutine") = false := by kernel_rfl
def h304 : Hint := ⟨.pure, [], [0, 1, 2, 6]⟩
theorem comp304 : compFn Try.prog inv isPure h304 Try.f61 = some c304 := by kernel_rfl
theorem name304 : (Try.f61.name == "runtime.NumGoroutine") = false := by kernel_rfl
def h305 : Hint := ⟨.args, [], [0, 1, 2, 8]⟩
theorem comp305 : compFn Try.prog inv isPure h305 Try.f64 = some c305 := by kernel_rfl
theorem name305 : (Try.f64.name == "runtime.NumGoroutine") = false := by kernel_rfl
def h337 : Hint := ⟨.pure, [5, 4], [0, 1, 4, 5, 6, 9]⟩
theorem comp337 : compFn Try.prog inv isPure h337 Try.f82 = some c337 := by kernel_rfl
theorem name337 : (Try.f82.name == "runtime.NumGoroutine") = false := by kernel_rfl
def h338 : Hint := ⟨.pure, [4, 3, 2], [0, 1, 2, 3, 4]⟩
theorem comp338 : compFn Try.prog inv isPure h338 Try.f89 = some c338 := by kernel_rfl
theorem name338 : (Try.f89.name == "runtime.NumGoroutine") = false := by kernel_rfl
def h342 : Hint := ⟨.pure, [], [0, 1, 4]⟩
theorem comp342 : compFn Try.prog inv isPure h342 Try.f95 = some c342 := by kernel_rfl
theorem name342 : (Try.f95.name == "runtime.NumGoroutine") = false := by kernel_rfl
def h355 : Hint := ⟨.pure, [6], [0, 1, 2, 6, 7, 8, 9, 16]⟩
theorem comp355 : compFn Try.prog inv isPure h355 Try.f34 = some c355 := by kernel_rfl
theorem name355 : (Try.f34.name == "runtime.NumGoroutine") = false := by kernel_rfl
def h358 : Hint := ⟨.pure, [7, 6, 3], [0, 1, 2, 3, 6, 7, 8, 9, 13, 15, 16, 23, 25]⟩
theorem comp358 : compFn Try.prog inv isPure h358 Try.f42 = some c358 := by kernel_rfl
theorem name358 : (Try.f42.name == "runtime.NumGoroutine") = false := by kernel_rfl
def h359 : Hint := ⟨.pure, [], [0, 2, 3, 5, 13]⟩
theorem comp359 : compFn Try.prog inv isPure h359 Try.f60 = some c359 := by kernel_rfl
theorem name359 : (Try.f60.name == "runtime.NumGoroutine") = false := by kernel_rfl
def h420 : Hint := ⟨.pure, [], [0, 1, 4, 10]⟩
theorem comp420 : compFn Try.prog inv isPure h420 Try.f78 = some c420 := by kernel_rfl
theorem name420 : (Try.f78.name == "runtime.NumGoroutine") = false := by kernel_rfl
def h421 : Hint := ⟨.pure, [], [0, 1, 4, 5, 9, 16, 18, 21]⟩
theorem comp421 : compFn Try.prog inv isPure h421 Try.f49 = some c421 := by kernel_rfl
theorem name421 : (Try.f49.name == "runtime.NumGoroutine") = false := by kernel_rfl
def h422 : Hint := ⟨.pure, [], [0, 1, 4]⟩
theorem comp422 : compFn Try.prog inv isPure h422 Try.f50 = some c422 := by kernel_rfl
theorem name422 : (Try.f50.name == "runtime.NumGoroutine") = false := by kernel_rfl
def h423 : Hint := ⟨.pure, [4], [0, 1, 4, 5, 6]⟩
theorem comp423 : compFn Try.prog inv isPure h423 Try.f81 = some c423 := by kernel_rfl
theorem name423 : (Try.f81.name == "runtime.NumGoroutine") = false := by kernel_rfl
def h424 : Hint := ⟨.pure, [], [0, 1, 4, 5, 6, 7, 13, 24, 40]⟩
theorem comp424 : compFn Try.prog inv isPure h424 Try.f83 = some c424 := by kernel_rfl
theorem name424 : (Try.f83.name == "runtime.NumGoroutine") = false := by kernel_rfl
def h425 : Hint := ⟨.pure, [], [0, 2]⟩
theorem comp425 : compFn Try.prog inv isPure h425 Try.f54 = some c425 := by kernel_rfl
theorem name425 : (Try.f54.name == "runtime.NumGoroutine") = false := by kernel_rfl
def h426 : Hint := ⟨.pure, [], [0, 1, 4]⟩
theorem comp426 : compFn Try.prog inv isPure h426 Try.f55 = some c426 := by kernel_rfl
theorem name426 : (Try.f55.name == "runtime.NumGoroutine") = false := by kernel_rfl
def h427 : Hint := ⟨.pure, [4, 2], [0, 1, 2, 4]⟩
theorem comp427 : compFn Try.prog inv isPure h427 Try.f90 = some c427 := by kernel_rfl
theorem name427 : (Try.f90.name == "runtime.NumGoroutine") = false := by kernel_rfl
def h428 : Hint := ⟨.pure, [], [0, 1, 4, 5]⟩
theorem comp428 : compFn Try.prog inv isPure h428 Try.f91 = some c428 := by kernel_rfl
theorem name428 : (Try.f91.name == "runtime.NumGoroutine") = false := by kernel_rfl
def h429 : Hint := ⟨.args, [], [0, 1, 4, 5, 9]⟩
theorem comp429 : compFn Try.prog inv isPure h429 Try.f59 = some c429 := by kernel_rfl
theorem name429 : (Try.f59.name == "runtime.NumGoroutine") = false := by kernel_rfl
def h432 : Hint := ⟨.pure, [], [0, 2]⟩
theorem comp432 : compFn Try.prog inv isPure h432 Try.f80 = some c432 := by kernel_rfl
theorem name432 : (Try.f80.name == "runtime.NumGoroutine") = false := by kernel_rfl
def h433 : Hint := ⟨.pure, [4], [0, 1, 4, 5, 6, 7, 12]⟩
theorem comp433 : compFn Try.prog inv isPure h433 Try.f51 = some c433 := by kernel_rfl
theorem name433 : (Try.f51.name == "runtime.NumGoroutine") = false := by kernel_rfl
def h434 : Hint := ⟨.pure, [0], [0]⟩
theorem comp434 : compFn Try.prog inv isPure h434 Try.f53 = some c434 := by kernel_rfl
theorem name434 : (Try.f53.name == "runtime.NumGoroutine") = false := by kernel_rfl
def h435 : Hint := ⟨.pure, [], [0, 2]⟩
theorem comp435 : compFn Try.prog inv isPure h435 Try.f88 = some c435 := by kernel_rfl
theorem name435 : (Try.f88.name == "runtime.NumGoroutine") = false := by kernel_rfl
def h436 : Hint := ⟨.pure, [7, 5, 4], [0, 1, 4, 5, 7, 9, 10, 11, 12]⟩
theorem comp436 : compFn Try.prog inv isPure h436 Try.f56 = some c436 := by kernel_rfl
theorem name436 : (Try.f56.name == "runtime.NumGoroutine") = false := by kernel_rfl
def h437 : Hint := ⟨.pure, [], [0, 1, 4, 5, 10, 14, 26]⟩
theorem comp437 : compFn Try.prog inv isPure h437 Try.f58 = some c437 := by kernel_rfl
theorem name437 : (Try.f58.name == "runtime.NumGoroutine") = false := by kernel_rfl
def h440 : Hint := ⟨.pure, [], [0, 2, 3, 4, 5, 8, 12, 18]⟩
theorem comp440 : compFn Try.prog inv isPure h440 Try.f63 = some c440 := by kernel_rfl
theorem name440 : (Try.f63.name == "runtime.NumGoroutine") = false := by kernel_rfl
def h443 : Hint := ⟨.pure, [6, 4, 3], [0, 1, 2, 3, 4, 6, 7, 8, 9, 10, 11]⟩
theorem comp443 : compFn Try.prog inv isPure h443 Try.f111 = some c443 := by kernel_rfl
theorem name443 : (Try.f111.name == "runtime.NumGoroutine") = false := by kernel_rfl
def h445 : Hint := ⟨.pure, [], [0, 1, 4]⟩
theorem comp445 : compFn Try.prog inv isPure h445 Try.f117 = some c445 := by kernel_rfl
theorem name445 : (Try.f117.name == "runtime.NumGoroutine") = false := by kernel_rfl
def h446 : Hint := ⟨.pure, [], [0, 2]⟩
theorem comp446 : compFn Try.prog inv isPure h446 Try.f118 = some c446 := by kernel_rfl
theorem name446 : (Try.f118.name == "runtime.NumGoroutine") = false := by kernel_rfl
def h456 : Hint := ⟨.pure, [], [0, 1, 2, 6]⟩
theorem comp456 : compFn Try.prog inv isPure h456 Try.f94 = some c456 := by kernel_rfl
theorem name456 : (Try.f94.name == "runtime.NumGoroutine") = false := by kernel_rfl
def h461 : Hint := ⟨.pure, [4], [0, 2, 3, 4, 5, 6, 7, 8, 45]⟩
theorem comp461 : compFn Try.prog inv isPure h461 Try.f109 = some c461 := by kernel_rfl
theorem name461 : (Try.f109.name == "runtime.NumGoroutine") = false := by kernel_rfl
def h462 : Hint := ⟨.pure, [], [0, 2]⟩
theorem comp462 : compFn Try.prog inv isPure h462 Try.f110 = some c462 := by kernel_rfl
theorem name462 : (Try.f110.name == "runtime.NumGoroutine") = false := by kernel_rfl
def h502 : Hint := ⟨.pure, [], [0, 1, 4]⟩
theorem comp502 : compFn Try.prog inv isPure h502 Try.f112 = some c502 := by kernel_rfl
theorem name502 : (Try.f112.name == "runtime.NumGoroutine") = false := by kernel_rfl
def h537 : Hint := ⟨.pure, [], [0, 2]⟩
theorem comp537 : compFn Try.prog inv isPure h537 Try.f79 = some c537 := by kernel_rfl
theorem name537 : (Try.f79.name == "runtime.NumGoroutine") = false := by kernel_rfl
def h538 : Hint := ⟨.pure, [], [0, 1, 2, 6, 7, 8, 9, 10, 11, 27, 56]⟩
theorem comp538 : compFn Try.prog inv isPure h538 Try.f106 = some c538 := by kernel_rfl
theorem name538 : (Try.f106.name == "runtime.NumGoroutine") = false := by kernel_rfl
def h539 : Hint := ⟨.pure, [3, 2, 1], [0, 1, 2, 3]⟩
theorem comp539 : compFn Try.prog inv isPure h539 Try.f107 = some c539 := by kernel_rfl
theorem name539 : (Try.f107.name == "runtime.NumGoroutine") = false := by kernel_rfl
def h540 : Hint := ⟨.pure, [0], [0]⟩
theorem comp540 : compFn Try.prog inv isPure h540 Try.f84 = some c540 := by kernel_rfl
theorem name540 : (Try.f84.name == "runtime.NumGoroutine") = false := by kernel_rfl
def h541 : Hint := ⟨.pure, [], [0, 1, 4]⟩
theorem comp541 : compFn Try.prog inv isPure h541 Try.f85 = some c541 := by kernel_rfl
theorem name541 : (Try.f85.name == "runtime.NumGoroutine") = false := by kernel_rfl
def h542 : Hint := ⟨.pure, [1], [0, 1, 2]⟩
theorem comp542 : compFn Try.prog inv isPure h542 Try.f86 = some c542 := by kernel_rfl
theorem name542 : (Try.f86.name == "runtime.NumGoroutine") = false := by kernel_rfl
def h543 : Hint := ⟨.pure, [11, 10, 9], [0, 1, 2, 6, 7, 8, 9, 10, 11, 12, 26, 36]⟩
theorem comp543 : compFn Try.prog inv isPure h543 Try.f113 = some c543 := by kernel_rfl
theorem name543 : (Try.f113.name == "runtime.NumGoroutine") = false := by kernel_rfl
def h544 : Hint := ⟨.pure, [], [0, 1, 4, 5, 10, 14, 26]⟩
theorem comp544 : compFn Try.prog inv isPure h544 Try.f114 = some c544 := by kernel_rfl
theorem name544 : (Try.f114.name == "runtime.NumGoroutine") = false := by kernel_rfl
def h545 : Hint := ⟨.pure, [3, 2], [0, 1, 2, 3, 4, 10, 15, 21]⟩
theorem comp545 : compFn Try.prog inv isPure h545 Try.f92 = some c545 := by kernel_rfl
theorem name545 : (Try.f92.name == "runtime.NumGoroutine") = false := by kernel_rfl
def h547 : Hint := ⟨.pure, [], [0, 1, 4, 5, 7, 8, 9, 16]⟩
theorem comp547 : compFn Try.prog inv isPure h547 Try.f130 = some c547 := by kernel_rfl
theorem name547 : (Try.f130.name == "runtime.NumGoroutine") = false := by kernel_rfl
def h549 : Hint := ⟨.pure, [], [0, 1, 4, 7]⟩
theorem comp549 : compFn Try.prog inv isPure h549 Try.f93 = some c549 := by kernel_rfl
theorem name549 : (Try.f93.name == "runtime.NumGoroutine") = false := by kernel_rfl
def h551 : Hint := ⟨.pure, [], [0, 2]⟩
theorem comp551 : compFn Try.prog inv isPure h551 Try.f126 = some c551 := by kernel_rfl
theorem name551 : (Try.f126.name == "runtime.NumGoroutine") = false := by kernel_rfl
def h574 : Hint := ⟨.pure, [], [0, 2]⟩
theorem comp574 : compFn Try.prog inv isPure h574 Try.f104 = some c574 := by kernel_rfl
theorem name574 : (Try.f104.name == "runtime.NumGoroutine") = false := by kernel_rfl
def h575 : Hint := ⟨.pure, [], [0, 2, 3, 7, 37, 53]⟩
theorem comp575 : compFn Try.prog inv isPure h575 Try.f105 = some c575 := by kernel_rfl
theorem name575 : (Try.f105.name == "runtime.NumGoroutine") = false := by kernel_rfl
def h576 : Hint := ⟨.pure, [], [0, 1, 2, 6, 7, 8, 15, 16, 22, 30, 42]⟩
theorem comp576 : compFn Try.prog inv isPure h576 Try.f124 = some c576 := by kernel_rfl
theorem name576 : (Try.f124.name == "runtime.NumGoroutine") = false := by kernel_rfl
def h577 : Hint := ⟨.pure, [], [0, 1, 2, 6, 7, 18]⟩
theorem comp577 : compFn Try.prog inv isPure h577 Try.f125 = some c577 := by kernel_rfl
theorem name577 : (Try.f125.name == "runtime.NumGoroutine") = false := by kernel_rfl
def h578 : Hint := ⟨.pure, [], [0, 1, 4, 5, 7, 8, 9, 16]⟩
theorem comp578 : compFn Try.prog inv isPure h578 Try.f108 = some c578 := by kernel_rfl
theorem name578 : (Try.f108.name == "runtime.NumGoroutine") = false := by kernel_rfl
def h579 : Hint := ⟨.pure, [], [0, 1, 2, 6, 7, 8, 15, 22, 31, 41]⟩
theorem comp579 : compFn Try.prog inv isPure h579 Try.f127 = some c579 := by kernel_rfl
theorem name579 : (Try.f127.name == "runtime.NumGoroutine") = false := by kernel_rfl
def h580 : Hint := ⟨.pure, [], [0, 1, 2, 6, 9]⟩
theorem comp580 : compFn Try.prog inv isPure h580 Try.f128 = some c580 := by kernel_rfl
theorem name580 : (Try.f128.name == "runtime.NumGoroutine") = false := by kernel_rfl
def h581 : Hint := ⟨.pure, [3, 2], [0, 1, 2, 3, 4, 9, 14, 19]⟩
theorem comp581 : compFn Try.prog inv isPure h581 Try.f129 = some c581 := by kernel_rfl
theorem name581 : (Try.f129.name == "runtime.NumGoroutine") = false := by kernel_rfl
def h605 : Hint := ⟨.pure, [], [0, 2]⟩
theorem comp605 : compFn Try.prog inv isPure h605 Try.f123 = some c605 := by kernel_rfl
theorem name605 : (Try.f123.name == "runtime.NumGoroutine") = false := by kernel_rfl
def h606 : Hint := ⟨.pure, [], [0, 2]⟩
theorem comp606 : compFn Try.prog inv isPure h606 Try.f132 = some c606 := by kernel_rfl
theorem name606 : (Try.f132.name == "runtime.NumGoroutine") = false := by kernel_rfl
theorem tab_ok : ∀ f D, tab f = some D → DefOk Try.prog inv isPure rho f D := by
  intro f D h
  unfold tab at h
  split at h
  · cases h; exact ⟨Try.f6, h53, Try.func6, name53, comp53⟩
  · cases h; exact ⟨Try.f43, h78, Try.func43, name78, comp78⟩
  · cases h; exact ⟨Try.f21, h121, Try.func21, name121, comp121⟩
  · cases h; exact ⟨Try.f14, h122, Try.func14, name122, comp122⟩
  · cases h; exact ⟨Try.f22, h123, Try.func22, name123, comp123⟩
  · cases h; exact ⟨Try.f36, h134, Try.func36, name134, comp134⟩
  · cases h; exact ⟨Try.f48, h205, Try.func48, name205, comp205⟩
  · cases h; exact ⟨Try.f52, h207, Try.func52, name207, comp207⟩
  · cases h; exact ⟨Try.f57, h209, Try.func57, name209, comp209⟩
  · cases h; exact ⟨Try.f25, h219, Try.func25, name219, comp219⟩
  · cases h; exact ⟨Try.f27, h221, Try.func27, name221, comp221⟩
  · cases h; exact ⟨Try.f29, h223, Try.func29, name223, comp223⟩
  · cases h; exact ⟨Try.f99, h234, Try.func99, name234, comp234⟩
  · cases h; exact ⟨Try.f28, h260, Try.func28, name260, comp260⟩
  · cases h; exact ⟨Try.f26, h261, Try.func26, name261, comp261⟩
  · cases h; exact ⟨Try.f87, h263, Try.func87, name263, comp263⟩
  · cases h; exact ⟨Try.f30, h269, Try.func30, name269, comp269⟩
  · cases h; exact ⟨Try.f69, h295, Try.func69, name295, comp295⟩
  · cases h; exact ⟨Try.f35, h296, Try.func35, name296, comp296⟩
  · cases h; exact ⟨Try.f61, h304, Try.func61, name304, comp304⟩
  · cases h; exact ⟨Try.f64, h305, Try.func64, name305, comp305⟩
  · cases h; exact ⟨Try.f82, h337, Try.func82, name337, comp337⟩
  · cases h; exact ⟨Try.f89, h338, Try.func89, name338, comp338⟩
  · cases h; exact ⟨Try.f95, h342, Try.func95, name342, comp342⟩
  · cases h; exact ⟨Try.f34, h355, Try.func34, name355, comp355⟩
  · cases h; exact ⟨Try.f42, h358, Try.func42, name358, comp358⟩
  · cases h; exact ⟨Try.f60, h359, Try.func60, name359, comp359⟩
  · cases h; exact ⟨Try.f78, h420, Try.func78, name420, comp420⟩
  · cases h; exact ⟨Try.f49, h421, Try.func49, name421, comp421⟩
  · cases h; exact ⟨Try.f50, h422, Try.func50, name422, comp422⟩
  · cases h; exact ⟨Try.f81, h423, Try.func81, name423, comp423⟩
  · cases h; exact ⟨Try.f83, h424, Try.func83, name424, comp424⟩
  · cases h; exact ⟨Try.f54, h425, Try.func54, name425, comp425⟩
  · cases h; exact ⟨Try.f55, h426, Try.func55, name426, comp426⟩
  · cases h; exact ⟨Try.f90, h427, Try.func90, name427, comp427⟩
  · cases h; exact ⟨Try.f91, h428, Try.func91, name428, comp428⟩
  · cases h; exact ⟨Try.f59, h429, Try.func59, name429, comp429⟩
  · cases h; exact ⟨Try.f80, h432, Try.func80, name432, comp432⟩
  · cases h; exact ⟨Try.f51, h433, Try.func51, name433, comp433⟩
  · cases h; exact ⟨Try.f53, h434, Try.func53, name434, comp434⟩
  · cases h; exact ⟨Try.f88, h435, Try.func88, name435, comp435⟩
  · cases h; exact ⟨Try.f56, h436, Try.func56, name436, comp436⟩
  · cases h; exact ⟨Try.f58, h437, Try.func58, name437, comp437⟩
  · cases h; exact ⟨Try.f63, h440, Try.func63, name440, comp440⟩
  · cases h; exact ⟨Try.f111, h443, Try.func111, name443, comp443⟩
  · cases h; exact ⟨Try.f117, h445, Try.func117, name445, comp445⟩
  · cases h; exact ⟨Try.f118, h446, Try.func118, name446, comp446⟩
  · cases h; exact ⟨Try.f94, h456, Try.func94, name456, comp456⟩
  · cases h; exact ⟨Try.f109, h461, Try.func109, name461, comp461⟩
  · cases h; exact ⟨Try.f110, h462, Try.func110, name462, comp462⟩
  · cases h; exact ⟨Try.f112, h502, Try.func112, name502, comp502⟩
  · cases h; exact ⟨Try.f79, h537, Try.func79, name537, comp537⟩
  · cases h; exact ⟨Try.f106, h538, Try.func106, name538, comp538⟩
  · cases h; exact ⟨Try.f107, h539, Try.func107, name539, comp539⟩
  · cases h; exact ⟨Try.f84, h540, Try.func84, name540, comp540⟩
  · cases h; exact ⟨Try.f85, h541, Try.func85, name541, comp541⟩
  · cases h; exact ⟨Try.f86, h542, Try.func86, name542, comp542⟩
  · cases h; exact ⟨Try.f113, h543, Try.func113, name543, comp543⟩
  · cases h; exact ⟨Try.f114, h544, Try.func114, name544, comp544⟩
  · cases h; exact ⟨Try.f92, h545, Try.func92, name545, comp545⟩
  · cases h; exact ⟨Try.f130, h547, Try.func130, name547, comp547⟩
  · cases h; exact ⟨Try.f93, h549, Try.func93, name549, comp549⟩
  · cases h; exact ⟨Try.f126, h551, Try.func126, name551, comp551⟩
  · cases h; exact ⟨Try.f104, h574, Try.func104, name574, comp574⟩
  · cases h; exact ⟨Try.f105, h575, Try.func105, name575, comp575⟩
  · cases h; exact ⟨Try.f124, h576, Try.func124, name576, comp576⟩
  · cases h; exact ⟨Try.f125, h577, Try.func125, name577, comp577⟩
  · cases h; exact ⟨Try.f108, h578, Try.func108, name578, comp578⟩
  · cases h; exact ⟨Try.f127, h579, Try.func127, name579, comp579⟩
  · cases h; exact ⟨Try.f128, h580, Try.func128, name580, comp580⟩
  · cases h; exact ⟨Try.f129, h581, Try.func129, name581, comp581⟩
  · cases h; exact ⟨Try.f123, h605, Try.func123, name605, comp605⟩
  · cases h; exact ⟨Try.f132, h606, Try.func132, name606, comp606⟩
  · cases h
end Fb
