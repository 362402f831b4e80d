/- Each function of the law is compiled by the checker to its text in the small language. -/
import Derived.Test.YtgdnkjgipinkhaaGreatDoorRow3
import Derived.Test.YtgdnkjgipinkhaaGreatDoorTab
import Derived.Test.YtgdnkjgipinkhaaGreatDoorRows
import Derived.KernelRfl
import Derived.Test.YtgdnkjgipinkhaaGreatDoorShelf
set_option linter.unusedVariables false
set_option linter.unusedSimpArgs false
namespace Fb
open Go Go.Proofs

def inv : FuncId → Option Nat := fun f => match f with
  | 3 => some 24
  | 18 => some 71
  | 5 => some 84
  | 7 => some 85
  | 22 => some 91
  | 8 => some 124
  | 12 => some 125
  | 21 => some 131
  | 11 => some 132
  | 6 => some 147
  | 9 => some 148
  | 10 => some 149
  | 13 => some 150
  | 14 => some 151
  | 15 => some 152
  | 16 => some 153
  | 17 => some 154
  | 19 => some 155
  | 20 => some 156
  | 95 => some 234
  | 66 => some 295
  | 111 => some 304
  | 100 => some 305
  | 47 => some 314
  | 46 => some 315
  | 60 => some 316
  | 80 => some 318
  | 69 => some 323
  | 57 => some 324
  | 113 => some 325
  | 52 => some 327
  | 132 => some 342
  | 48 => some 351
  | 53 => some 353
  | 112 => some 354
  | 59 => some 355
  | 55 => some 357
  | 56 => some 358
  | 110 => some 359
  | 98 => some 367
  | 45 => some 368
  | 49 => some 369
  | 50 => some 370
  | 51 => some 371
  | 54 => some 372
  | 58 => some 373
  | 61 => some 374
  | 62 => some 375
  | 63 => some 376
  | 64 => some 377
  | 65 => some 378
  | 67 => some 379
  | 68 => some 380
  | 114 => some 393
  | 137 => some 409
  | 115 => some 440
  | 130 => some 443
  | 128 => some 445
  | 129 => some 446
  | 139 => some 456
  | 87 => some 459
  | 133 => some 474
  | 71 => some 485
  | 102 => some 505
  | 103 => some 506
  | 136 => some 510
  | 131 => some 512
  | 101 => some 513
  | 104 => some 514
  | 105 => some 515
  | 106 => some 516
  | 107 => some 517
  | 108 => some 518
  | 109 => some 519
  | 117 => some 521
  | 118 => some 522
  | 138 => some 530
  | 152 => some 547
  | 155 => some 549
  | 124 => some 550
  | 134 => some 565
  | 135 => some 566
  | 153 => some 589
  | 154 => some 590
  | 173 => some 610
  | 187 => some 624
  | _ => none
def rho : Nat → FuncId := fun n => match n with
  | 24 => 3
  | 71 => 18
  | 84 => 5
  | 85 => 7
  | 91 => 22
  | 124 => 8
  | 125 => 12
  | 131 => 21
  | 132 => 11
  | 147 => 6
  | 148 => 9
  | 149 => 10
  | 150 => 13
  | 151 => 14
  | 152 => 15
  | 153 => 16
  | 154 => 17
  | 155 => 19
  | 156 => 20
  | 234 => 95
  | 295 => 66
  | 304 => 111
  | 305 => 100
  | 314 => 47
  | 315 => 46
  | 316 => 60
  | 318 => 80
  | 323 => 69
  | 324 => 57
  | 325 => 113
  | 327 => 52
  | 342 => 132
  | 351 => 48
  | 353 => 53
  | 354 => 112
  | 355 => 59
  | 357 => 55
  | 358 => 56
  | 359 => 110
  | 367 => 98
  | 368 => 45
  | 369 => 49
  | 370 => 50
  | 371 => 51
  | 372 => 54
  | 373 => 58
  | 374 => 61
  | 375 => 62
  | 376 => 63
  | 377 => 64
  | 378 => 65
  | 379 => 67
  | 380 => 68
  | 393 => 114
  | 409 => 137
  | 440 => 115
  | 443 => 130
  | 445 => 128
  | 446 => 129
  | 456 => 139
  | 459 => 87
  | 474 => 133
  | 485 => 71
  | 505 => 102
  | 506 => 103
  | 510 => 136
  | 512 => 131
  | 513 => 101
  | 514 => 104
  | 515 => 105
  | 516 => 106
  | 517 => 107
  | 518 => 108
  | 519 => 109
  | 521 => 117
  | 522 => 118
  | 530 => 138
  | 547 => 152
  | 549 => 155
  | 550 => 124
  | 565 => 134
  | 566 => 135
  | 589 => 153
  | 590 => 154
  | 610 => 173
  | 624 => 187
  | _ => 0
def isPure : Nat → Bool := fun n => !([305, 314, 368, 459, 513, 517, 550, 565, 589, 590, 610, 624, 377, 380, 485, 521, 522] : List Nat).contains n
theorem inv_rho : ∀ f i, inv f = some i → rho i = f := by
  intro f i h
  unfold inv at h
  split at h <;> first | (cases h; rfl) | cases h
def h24 : Hint := ⟨.pure, [54, 49, 30, 27, 25, 23, 15, 12, 9, 6, 5], [0, 1, 4, 5, 6, 7, 8, 9, 10, 11, 12, 13, 14, 15, 16, 17, 18, 19, 20, 21, 22, 23, 24, 25, 26, 27, 28, 29, 30, 31, 32, 33, 34, 35, 36, 37, 38, 39, 40, 41, 42, 43, 44, 45, 46, 47, 48, 49, 51, 52, 53, 54, 56, 59, 68, 172, 241, 335, 339, 366, 398, 425]⟩
theorem comp24 : compFn Tryz.prog inv isPure h24 Tryz.f3 = some c24 := by kernel_rfl
theorem name24 : (Tryz.f3.name == "runtime.NumGoroutine") = false := by kernel_rfl
def h71 : Hint := ⟨.pure, [8], [0, 2, 3, 4, 5, 6, 8, 9, 10, 11, 12]⟩
theorem comp71 : compFn Tryz.prog inv isPure h71 Tryz.f18 = some c71 := by kernel_rfl
theorem name71 : (Tryz.f18.name == "runtime.NumGoroutine") = false := by kernel_rfl
def h84 : Hint := ⟨.pure, [], [0, 1, 4]⟩
theorem comp84 : compFn Tryz.prog inv isPure h84 Tryz.f5 = some c84 := by kernel_rfl
theorem name84 : (Tryz.f5.name == "runtime.NumGoroutine") = false := by kernel_rfl
def h85 : Hint := ⟨.pure, [], [0, 2]⟩
theorem comp85 : compFn Tryz.prog inv isPure h85 Tryz.f7 = some c85 := by kernel_rfl
theorem name85 : (Tryz.f7.name == "runtime.NumGoroutine") = false := by kernel_rfl
def h91 : Hint := ⟨.pure, [], [0, 1, 4]⟩
theorem comp91 : compFn Tryz.prog inv isPure h91 Tryz.f22 = some c91 := by kernel_rfl
theorem name91 : (Tryz.f22.name == "runtime.NumGoroutine") = false := by kernel_rfl
def h124 : Hint := ⟨.pure, [], [0, 1, 2, 6, 14]⟩
theorem comp124 : compFn Tryz.prog inv isPure h124 Tryz.f8 = some c124 := by kernel_rfl
theorem name124 : (Tryz.f8.name == "runtime.NumGoroutine") = false := by kernel_rfl
def h125 : Hint := ⟨.pure, [3, 2], [0, 1, 2, 3, 4, 5, 10]⟩
theorem comp125 : compFn Tryz.prog inv isPure h125 Tryz.f12 = some c125 := by kernel_rfl
theorem name125 : (Tryz.f12.name == "runtime.NumGoroutine") = false := by kernel_rfl
def h131 : Hint := ⟨.pure, [], [0, 1, 4, 5, 10, 14, 25]⟩
theorem comp131 : compFn Tryz.prog inv isPure h131 Tryz.f21 = some c131 := by kernel_rfl
theorem name131 : (Tryz.f21.name == "runtime.NumGoroutine") = false := by kernel_rfl
def h132 : Hint := ⟨.pure, [6, 3], [0, 1, 2, 3, 6, 7, 8, 14]⟩
theorem comp132 : compFn Tryz.prog inv isPure h132 Tryz.f11 = some c132 := by kernel_rfl
theorem name132 : (Tryz.f11.name == "runtime.NumGoroutine") = false := by kernel_rfl
def h147 : Hint := ⟨.pure, [2], [0, 2]⟩
theorem comp147 : compFn Tryz.prog inv isPure h147 Tryz.f6 = some c147 := by kernel_rfl
theorem name147 : (Tryz.f6.name == "runtime.NumGoroutine") = false := by kernel_rfl
def h148 : Hint := ⟨.pure, [9, 6, 4, 3], [0, 1, 2, 3, 4, 6, 7, 8, 9, 10, 11, 18]⟩
theorem comp148 : compFn Tryz.prog inv isPure h148 Tryz.f9 = some c148 := by kernel_rfl
theorem name148 : (Tryz.f9.name == "runtime.NumGoroutine") = false := by kernel_rfl
def h149 : Hint := ⟨.pure, [10, 6], [0, 1, 2, 3, 4, 6, 7, 8, 9, 10, 11, 14, 19]⟩
theorem comp149 : compFn Tryz.prog inv isPure h149 Tryz.f10 = some c149 := by kernel_rfl
theorem name149 : (Tryz.f10.name == "runtime.NumGoroutine") = false := by kernel_rfl
def h150 : Hint := ⟨.pure, [6], [0, 1, 2, 3, 6, 7, 8, 13]⟩
theorem comp150 : compFn Tryz.prog inv isPure h150 Tryz.f13 = some c150 := by kernel_rfl
theorem name150 : (Tryz.f13.name == "runtime.NumGoroutine") = false := by kernel_rfl
def h151 : Hint := ⟨.pure, [9], [0, 1, 4, 5, 6, 7, 8, 9, 11, 15, 25]⟩
theorem comp151 : compFn Tryz.prog inv isPure h151 Tryz.f14 = some c151 := by kernel_rfl
theorem name151 : (Tryz.f14.name == "runtime.NumGoroutine") = false := by kernel_rfl
def h152 : Hint := ⟨.pure, [], [0, 1, 4, 5, 6, 11]⟩
theorem comp152 : compFn Tryz.prog inv isPure h152 Tryz.f15 = some c152 := by kernel_rfl
theorem name152 : (Tryz.f15.name == "runtime.NumGoroutine") = false := by kernel_rfl
def h153 : Hint := ⟨.pure, [], [0, 2, 3, 4, 6, 7, 8, 9, 10, 11, 12, 13, 16, 17, 18, 19, 47]⟩
theorem comp153 : compFn Tryz.prog inv isPure h153 Tryz.f16 = some c153 := by kernel_rfl
theorem name153 : (Tryz.f16.name == "runtime.NumGoroutine") = false := by kernel_rfl
def h154 : Hint := ⟨.pure, [5], [0, 2, 3, 5, 7, 8, 9, 10, 24]⟩
theorem comp154 : compFn Tryz.prog inv isPure h154 Tryz.f17 = some c154 := by kernel_rfl
theorem name154 : (Tryz.f17.name == "runtime.NumGoroutine") = false := by kernel_rfl
def h155 : Hint := ⟨.pure, [10], [0, 1, 4, 5, 6, 7, 8, 9, 10, 11, 12, 21, 24, 25, 26, 27]⟩
theorem comp155 : compFn Tryz.prog inv isPure h155 Tryz.f19 = some c155 := by kernel_rfl
theorem name155 : (Tryz.f19.name == "runtime.NumGoroutine") = false := by kernel_rfl
def h156 : Hint := ⟨.pure, [], [0, 1, 4, 5, 6, 7, 8, 9, 10, 11, 16, 26, 30]⟩
theorem comp156 : compFn Tryz.prog inv isPure h156 Tryz.f20 = some c156 := by kernel_rfl
theorem name156 : (Tryz.f20.name == "runtime.NumGoroutine") = false := by kernel_rfl
def h234 : Hint := ⟨.pure, [], [0, 1, 2]⟩
theorem comp234 : compFn Tryz.prog inv isPure h234 Tryz.f95 = some c234 := by kernel_rfl
theorem name234 : (Tryz.f95.name == "runtime.NumGoroutine") = false := by kernel_rfl
def h295 : Hint := ⟨.pure, [], [0, 1, 2, 6]⟩
theorem comp295 : compFn Tryz.prog inv isPure h295 Tryz.f66 = some c295 := by kernel_rfl
theorem name295 : (Tryz.f66.name == "runtime.NumGoroutine") = false := by kernel_rfl
def h304 : Hint := ⟨.pure, [], [0, 1, 2, 6]⟩
theorem comp304 : compFn Tryz.prog inv isPure h304 Tryz.f111 = some c304 := by kernel_rfl
theorem name304 : (Tryz.f111.name == "runtime.NumGoroutine") = false := by kernel_rfl
def h305 : Hint := ⟨.args, [], [0, 1, 2, 8]⟩
theorem comp305 : compFn Tryz.prog inv isPure h305 Tryz.f100 = some c305 := by kernel_rfl
theorem name305 : (Tryz.f100.name == "runtime.NumGoroutine") = false := by kernel_rfl
def h314 : Hint := ⟨.args, [], [0, 1, 4, 5, 6, 7, 16, 20, 28, 32, 34, 38]⟩
theorem comp314 : compFn Tryz.prog inv isPure h314 Tryz.f47 = some c314 := by kernel_rfl
theorem name314 : (Tryz.f47.name == "runtime.NumGoroutine") = false := by kernel_rfl
def h315 : Hint := ⟨.pure, [], [0, 2]⟩
theorem comp315 : compFn Tryz.prog inv isPure h315 Tryz.f46 = some c315 := by kernel_rfl
theorem name315 : (Tryz.f46.name == "runtime.NumGoroutine") = false := by kernel_rfl
def h316 : Hint := ⟨.pure, [], [0, 2]⟩
theorem comp316 : compFn Tryz.prog inv isPure h316 Tryz.f60 = some c316 := by kernel_rfl
theorem name316 : (Tryz.f60.name == "runtime.NumGoroutine") = false := by kernel_rfl
def h318 : Hint := ⟨.pure, [], [0, 2, 3, 7, 14]⟩
theorem comp318 : compFn Tryz.prog inv isPure h318 Tryz.f80 = some c318 := by kernel_rfl
theorem name318 : (Tryz.f80.name == "runtime.NumGoroutine") = false := by kernel_rfl
def h323 : Hint := ⟨.pure, [], [0, 1, 4, 5, 10, 14, 25]⟩
theorem comp323 : compFn Tryz.prog inv isPure h323 Tryz.f69 = some c323 := by kernel_rfl
theorem name323 : (Tryz.f69.name == "runtime.NumGoroutine") = false := by kernel_rfl
def h324 : Hint := ⟨.pure, [3, 2], [0, 1, 2, 3, 4]⟩
theorem comp324 : compFn Tryz.prog inv isPure h324 Tryz.f57 = some c324 := by kernel_rfl
theorem name324 : (Tryz.f57.name == "runtime.NumGoroutine") = false := by kernel_rfl
def h325 : Hint := ⟨.pure, [], [0, 1, 4, 5, 6, 9]⟩
theorem comp325 : compFn Tryz.prog inv isPure h325 Tryz.f113 = some c325 := by kernel_rfl
theorem name325 : (Tryz.f113.name == "runtime.NumGoroutine") = false := by kernel_rfl
def h327 : Hint := ⟨.pure, [], [0, 1, 4, 12]⟩
theorem comp327 : compFn Tryz.prog inv isPure h327 Tryz.f52 = some c327 := by kernel_rfl
theorem name327 : (Tryz.f52.name == "runtime.NumGoroutine") = false := by kernel_rfl
def h342 : Hint := ⟨.pure, [], [0, 1, 4]⟩
theorem comp342 : compFn Tryz.prog inv isPure h342 Tryz.f132 = some c342 := by kernel_rfl
theorem name342 : (Tryz.f132.name == "runtime.NumGoroutine") = false := by kernel_rfl
def h351 : Hint := ⟨.pure, [], [0, 2]⟩
theorem comp351 : compFn Tryz.prog inv isPure h351 Tryz.f48 = some c351 := by kernel_rfl
theorem name351 : (Tryz.f48.name == "runtime.NumGoroutine") = false := by kernel_rfl
def h353 : Hint := ⟨.pure, [], [0, 2]⟩
theorem comp353 : compFn Tryz.prog inv isPure h353 Tryz.f53 = some c353 := by kernel_rfl
theorem name353 : (Tryz.f53.name == "runtime.NumGoroutine") = false := by kernel_rfl
def h354 : Hint := ⟨.pure, [7], [0, 2, 3, 4, 5, 6, 7, 12, 19, 26, 37]⟩
theorem comp354 : compFn Tryz.prog inv isPure h354 Tryz.f112 = some c354 := by kernel_rfl
theorem name354 : (Tryz.f112.name == "runtime.NumGoroutine") = false := by kernel_rfl
def h355 : Hint := ⟨.pure, [6], [0, 1, 2, 6, 7, 8, 9, 16]⟩
theorem comp355 : compFn Tryz.prog inv isPure h355 Tryz.f59 = some c355 := by kernel_rfl
theorem name355 : (Tryz.f59.name == "runtime.NumGoroutine") = false := by kernel_rfl
def h357 : Hint := ⟨.pure, [3], [0, 1, 2, 3, 6, 7, 11]⟩
theorem comp357 : compFn Tryz.prog inv isPure h357 Tryz.f55 = some c357 := by kernel_rfl
theorem name357 : (Tryz.f55.name == "runtime.NumGoroutine") = false := by kernel_rfl
def h358 : Hint := ⟨.pure, [7, 6, 3], [0, 1, 2, 3, 6, 7, 8, 9, 13, 15, 16, 23, 25]⟩
theorem comp358 : compFn Tryz.prog inv isPure h358 Tryz.f56 = some c358 := by kernel_rfl
theorem name358 : (Tryz.f56.name == "runtime.NumGoroutine") = false := by kernel_rfl
def h359 : Hint := ⟨.pure, [], [0, 2, 3, 5, 13]⟩
theorem comp359 : compFn Tryz.prog inv isPure h359 Tryz.f110 = some c359 := by kernel_rfl
theorem name359 : (Tryz.f110.name == "runtime.NumGoroutine") = false := by kernel_rfl
def h367 : Hint := ⟨.pure, [4, 3, 2], [0, 1, 2, 3, 4]⟩
theorem comp367 : compFn Tryz.prog inv isPure h367 Tryz.f98 = some c367 := by kernel_rfl
theorem name367 : (Tryz.f98.name == "runtime.NumGoroutine") = false := by kernel_rfl
def h368 : Hint := ⟨.args, [2], [0, 2, 3, 4, 5, 6, 7, 16, 23, 30, 36, 43, 45]⟩
theorem comp368 : compFn Tryz.prog inv isPure h368 Tryz.f45 = some c368 := by kernel_rfl
theorem name368 : (Tryz.f45.name == "runtime.NumGoroutine") = false := by kernel_rfl
def h369 : Hint := ⟨.pure, [], [0, 2]⟩
theorem comp369 : compFn Tryz.prog inv isPure h369 Tryz.f49 = some c369 := by kernel_rfl
theorem name369 : (Tryz.f49.name == "runtime.NumGoroutine") = false := by kernel_rfl
def h370 : Hint := ⟨.pure, [11, 8, 6, 4, 3], [0, 1, 2, 3, 4, 6, 7, 8, 9, 11, 12, 24, 25, 26, 27, 37]⟩
theorem comp370 : compFn Tryz.prog inv isPure h370 Tryz.f50 = some c370 := by kernel_rfl
theorem name370 : (Tryz.f50.name == "runtime.NumGoroutine") = false := by kernel_rfl
def h371 : Hint := ⟨.pure, [], [0, 2, 3, 4, 5, 6, 12, 19]⟩
theorem comp371 : compFn Tryz.prog inv isPure h371 Tryz.f51 = some c371 := by kernel_rfl
theorem name371 : (Tryz.f51.name == "runtime.NumGoroutine") = false := by kernel_rfl
def h372 : Hint := ⟨.pure, [9, 6], [0, 1, 2, 6, 7, 8, 9, 10, 11, 12, 13, 23, 44]⟩
theorem comp372 : compFn Tryz.prog inv isPure h372 Tryz.f54 = some c372 := by kernel_rfl
theorem name372 : (Tryz.f54.name == "runtime.NumGoroutine") = false := by kernel_rfl
def h373 : Hint := ⟨.pure, [], [0, 1, 2, 6, 9, 17]⟩
theorem comp373 : compFn Tryz.prog inv isPure h373 Tryz.f58 = some c373 := by kernel_rfl
theorem name373 : (Tryz.f58.name == "runtime.NumGoroutine") = false := by kernel_rfl
def h374 : Hint := ⟨.pure, [], [0, 1, 4, 7, 10]⟩
theorem comp374 : compFn Tryz.prog inv isPure h374 Tryz.f61 = some c374 := by kernel_rfl
theorem name374 : (Tryz.f61.name == "runtime.NumGoroutine") = false := by kernel_rfl
def h375 : Hint := ⟨.pure, [7], [0, 1, 4, 5, 6, 7, 13]⟩
theorem comp375 : compFn Tryz.prog inv isPure h375 Tryz.f62 = some c375 := by kernel_rfl
theorem name375 : (Tryz.f62.name == "runtime.NumGoroutine") = false := by kernel_rfl
def h376 : Hint := ⟨.pure, [], [0, 2, 4]⟩
theorem comp376 : compFn Tryz.prog inv isPure h376 Tryz.f63 = some c376 := by kernel_rfl
theorem name376 : (Tryz.f63.name == "runtime.NumGoroutine") = false := by kernel_rfl
def h378 : Hint := ⟨.pure, [], [0, 1, 2, 6, 7, 8, 9]⟩
theorem comp378 : compFn Tryz.prog inv isPure h378 Tryz.f65 = some c378 := by kernel_rfl
theorem name378 : (Tryz.f65.name == "runtime.NumGoroutine") = false := by kernel_rfl
def h379 : Hint := ⟨.pure, [], [0, 2]⟩
theorem comp379 : compFn Tryz.prog inv isPure h379 Tryz.f67 = some c379 := by kernel_rfl
theorem name379 : (Tryz.f67.name == "runtime.NumGoroutine") = false := by kernel_rfl
def h393 : Hint := ⟨.pure, [1], [0, 1, 2, 3, 5, 6, 7, 8]⟩
theorem comp393 : compFn Tryz.prog inv isPure h393 Tryz.f114 = some c393 := by kernel_rfl
theorem name393 : (Tryz.f114.name == "runtime.NumGoroutine") = false := by kernel_rfl
def h409 : Hint := ⟨.pure, [], [0, 2]⟩
theorem comp409 : compFn Tryz.prog inv isPure h409 Tryz.f137 = some c409 := by kernel_rfl
theorem name409 : (Tryz.f137.name == "runtime.NumGoroutine") = false := by kernel_rfl
def h440 : Hint := ⟨.pure, [], [0, 2, 3, 4, 5, 8, 12, 18]⟩
theorem comp440 : compFn Tryz.prog inv isPure h440 Tryz.f115 = some c440 := by kernel_rfl
theorem name440 : (Tryz.f115.name == "runtime.NumGoroutine") = false := by kernel_rfl
def h443 : Hint := ⟨.pure, [6, 4, 3], [0, 1, 2, 3, 4, 6, 7, 8, 9, 10, 11]⟩
theorem comp443 : compFn Tryz.prog inv isPure h443 Tryz.f130 = some c443 := by kernel_rfl
theorem name443 : (Tryz.f130.name == "runtime.NumGoroutine") = false := by kernel_rfl
def h445 : Hint := ⟨.pure, [], [0, 1, 4]⟩
theorem comp445 : compFn Tryz.prog inv isPure h445 Tryz.f128 = some c445 := by kernel_rfl
theorem name445 : (Tryz.f128.name == "runtime.NumGoroutine") = false := by kernel_rfl
def h446 : Hint := ⟨.pure, [], [0, 2]⟩
theorem comp446 : compFn Tryz.prog inv isPure h446 Tryz.f129 = some c446 := by kernel_rfl
theorem name446 : (Tryz.f129.name == "runtime.NumGoroutine") = false := by kernel_rfl
def h456 : Hint := ⟨.pure, [], [0, 1, 2, 6]⟩
theorem comp456 : compFn Tryz.prog inv isPure h456 Tryz.f139 = some c456 := by kernel_rfl
theorem name456 : (Tryz.f139.name == "runtime.NumGoroutine") = false := by kernel_rfl
def h459 : Hint := ⟨.args, [], [0, 1, 4, 5, 7, 11]⟩
theorem comp459 : compFn Tryz.prog inv isPure h459 Tryz.f87 = some c459 := by kernel_rfl
theorem name459 : (Tryz.f87.name == "runtime.NumGoroutine") = false := by kernel_rfl
def h474 : Hint := ⟨.pure, [], [0, 1, 4, 5, 7, 8, 9, 16]⟩
theorem comp474 : compFn Tryz.prog inv isPure h474 Tryz.f133 = some c474 := by kernel_rfl
theorem name474 : (Tryz.f133.name == "runtime.NumGoroutine") = false := by kernel_rfl
def h505 : Hint := ⟨.pure, [], [0, 1, 4]⟩
theorem comp505 : compFn Tryz.prog inv isPure h505 Tryz.f102 = some c505 := by kernel_rfl
theorem name505 : (Tryz.f102.name == "runtime.NumGoroutine") = false := by kernel_rfl
def h506 : Hint := ⟨.pure, [1], [0, 1, 2]⟩
theorem comp506 : compFn Tryz.prog inv isPure h506 Tryz.f103 = some c506 := by kernel_rfl
theorem name506 : (Tryz.f103.name == "runtime.NumGoroutine") = false := by kernel_rfl
def h510 : Hint := ⟨.pure, [1], [0, 1, 2, 3, 4]⟩
theorem comp510 : compFn Tryz.prog inv isPure h510 Tryz.f136 = some c510 := by kernel_rfl
theorem name510 : (Tryz.f136.name == "runtime.NumGoroutine") = false := by kernel_rfl
def h512 : Hint := ⟨.pure, [], [0, 1, 4]⟩
theorem comp512 : compFn Tryz.prog inv isPure h512 Tryz.f131 = some c512 := by kernel_rfl
theorem name512 : (Tryz.f131.name == "runtime.NumGoroutine") = false := by kernel_rfl
def h513 : Hint := ⟨.args, [], [0, 1, 4]⟩
theorem comp513 : compFn Tryz.prog inv isPure h513 Tryz.f101 = some c513 := by kernel_rfl
theorem name513 : (Tryz.f101.name == "runtime.NumGoroutine") = false := by kernel_rfl
def h514 : Hint := ⟨.pure, [4, 3, 2], [0, 1, 2, 3, 4]⟩
theorem comp514 : compFn Tryz.prog inv isPure h514 Tryz.f104 = some c514 := by kernel_rfl
theorem name514 : (Tryz.f104.name == "runtime.NumGoroutine") = false := by kernel_rfl
def h515 : Hint := ⟨.pure, [1], [0, 1, 2]⟩
theorem comp515 : compFn Tryz.prog inv isPure h515 Tryz.f105 = some c515 := by kernel_rfl
theorem name515 : (Tryz.f105.name == "runtime.NumGoroutine") = false := by kernel_rfl
def h516 : Hint := ⟨.pure, [], [0, 2]⟩
theorem comp516 : compFn Tryz.prog inv isPure h516 Tryz.f106 = some c516 := by kernel_rfl
theorem name516 : (Tryz.f106.name == "runtime.NumGoroutine") = false := by kernel_rfl
def h517 : Hint := ⟨.args, [], [0, 1]⟩
theorem comp517 : compFn Tryz.prog inv isPure h517 Tryz.f107 = some c517 := by kernel_rfl
theorem name517 : (Tryz.f107.name == "runtime.NumGoroutine") = false := by kernel_rfl
def h518 : Hint := ⟨.pure, [4, 3], [0, 1, 2, 3, 4, 5]⟩
theorem comp518 : compFn Tryz.prog inv isPure h518 Tryz.f108 = some c518 := by kernel_rfl
theorem name518 : (Tryz.f108.name == "runtime.NumGoroutine") = false := by kernel_rfl
def h519 : Hint := ⟨.pure, [], [0, 1, 4, 5, 6, 11, 12, 13, 16, 19]⟩
theorem comp519 : compFn Tryz.prog inv isPure h519 Tryz.f109 = some c519 := by kernel_rfl
theorem name519 : (Tryz.f109.name == "runtime.NumGoroutine") = false := by kernel_rfl
def h530 : Hint := ⟨.pure, [], [0, 2]⟩
theorem comp530 : compFn Tryz.prog inv isPure h530 Tryz.f138 = some c530 := by kernel_rfl
theorem name530 : (Tryz.f138.name == "runtime.NumGoroutine") = false := by kernel_rfl
def h547 : Hint := ⟨.pure, [], [0, 1, 4, 5, 7, 8, 9, 16]⟩
theorem comp547 : compFn Tryz.prog inv isPure h547 Tryz.f152 = some c547 := by kernel_rfl
theorem name547 : (Tryz.f152.name == "runtime.NumGoroutine") = false := by kernel_rfl
def h549 : Hint := ⟨.pure, [], [0, 1, 4, 7]⟩
theorem comp549 : compFn Tryz.prog inv isPure h549 Tryz.f155 = some c549 := by kernel_rfl
theorem name549 : (Tryz.f155.name == "runtime.NumGoroutine") = false := by kernel_rfl
def h550 : Hint := ⟨.args, [], [0, 2, 3, 13, 53]⟩
theorem comp550 : compFn Tryz.prog inv isPure h550 Tryz.f124 = some c550 := by kernel_rfl
theorem name550 : (Tryz.f124.name == "runtime.NumGoroutine") = false := by kernel_rfl
def h565 : Hint := ⟨.args, [], [0, 1, 2, 6, 7, 8, 9, 13, 30, 35, 54]⟩
theorem comp565 : compFn Tryz.prog inv isPure h565 Tryz.f134 = some c565 := by kernel_rfl
theorem name565 : (Tryz.f134.name == "runtime.NumGoroutine") = false := by kernel_rfl
def h566 : Hint := ⟨.pure, [], [0, 2]⟩
theorem comp566 : compFn Tryz.prog inv isPure h566 Tryz.f135 = some c566 := by kernel_rfl
theorem name566 : (Tryz.f135.name == "runtime.NumGoroutine") = false := by kernel_rfl
def h589 : Hint := ⟨.args, [], [0, 1, 2, 3, 8, 9, 14, 34]⟩
theorem comp589 : compFn Tryz.prog inv isPure h589 Tryz.f153 = some c589 := by kernel_rfl
theorem name589 : (Tryz.f153.name == "runtime.NumGoroutine") = false := by kernel_rfl
def h590 : Hint := ⟨.args, [], [0, 1, 2, 3, 4, 10, 11, 12, 13, 14, 15, 16, 17, 18, 19, 20, 21, 22, 23, 24, 28, 33, 50, 58, 80, 85, 103, 110, 140, 151, 171, 185, 199, 213]⟩
theorem comp590 : compFn Tryz.prog inv isPure h590 Tryz.f154 = some c590 := by kernel_rfl
theorem name590 : (Tryz.f154.name == "runtime.NumGoroutine") = false := by kernel_rfl
def h610 : Hint := ⟨.args, [], [0, 1, 2, 3, 4, 10, 11, 20, 23]⟩
theorem comp610 : compFn Tryz.prog inv isPure h610 Tryz.f173 = some c610 := by kernel_rfl
theorem name610 : (Tryz.f173.name == "runtime.NumGoroutine") = false := by kernel_rfl
def h624 : Hint := ⟨.args, [], [0, 1, 2, 3, 4, 10, 13]⟩
theorem comp624 : compFn Tryz.prog inv isPure h624 Tryz.f187 = some c624 := by kernel_rfl
theorem name624 : (Tryz.f187.name == "runtime.NumGoroutine") = false := by kernel_rfl
theorem callable377 : Callable Tryz.prog (rho 377) := ⟨Tryz.f64, Tryz.func64, by kernel_rfl, by kernel_rfl⟩
theorem def377 {W : World} (hm : ∃ m, W.cell? ⟨1, 0, none⟩ = some (.int .i64 m)) : DefOk Tryz.prog inv isPure rho (glob Tryz.prog W) 377 (.ext .pure ext377) :=
  ext377_ok callable377 fun w hs s p h => hm.elim fun m hm => Any.strings_Cut Tryz.lays145 s p m w h (glob_cell hs (by decide +kernel) hm)
theorem callable380 : Callable Tryz.prog (rho 380) := ⟨Tryz.f68, Tryz.func68, by kernel_rfl, by kernel_rfl⟩
theorem def380 {W : World}  : DefOk Tryz.prog inv isPure rho (glob Tryz.prog W) 380 (.ext .pure ext380) :=
  ext380_ok callable380 (fun w a c p => Any.strings_Join_none Tryz.lays156 Tryz.Builder_Extra_156 a c p w) (fun w bk o c xs p h1 h2 h3 h4 h5 => Any.strings_Join Tryz.lays156 Tryz.Builder_Extra_156 bk o c xs p w h1 h2 h3 h4 h5)
theorem callable485 : Callable Tryz.prog (rho 485) := ⟨Tryz.f71, Tryz.func71, by kernel_rfl, by kernel_rfl⟩
theorem def485 {W : World} (hm : ∃ m, W.cell? ⟨1, 0, none⟩ = some (.int .i64 m)) : DefOk Tryz.prog inv isPure rho (glob Tryz.prog W) 485 (.ext .pure ext485) :=
  ext485_ok callable485 9 fun w hs s p h h1 => hm.elim fun m hm => Any.strings_Split Tryz.lays146 (by kernel_rfl) s p m w h (glob_cell hs (by decide +kernel) hm) h1
theorem callable521 : Callable Tryz.prog (rho 521) := ⟨Tryz.f117, Tryz.func117, by kernel_rfl, by kernel_rfl⟩
theorem def521 {W : World} (hy : ∃ tp p, W.var? Tryz.prog "strconv.ErrSyntax" = some #[.iface tp p]) (hr : ∃ tp p, W.var? Tryz.prog "strconv.ErrRange" = some #[.iface tp p]) : DefOk Tryz.prog inv isPure rho (glob Tryz.prog W) 521 (.ext .pure ext521) :=
  ext521_ok callable521
    (fun w hs s v h1 h2 => (Any.strconv_ParseInt_10_at64_ok Tryz.laysC174 s (by omega) v h2 w).mono fun e w' ⟨he, hw⟩ => ⟨he, hw.elim (fun h => h ▸ Go.RowKit.Below.refl _ _) fun ⟨t, h⟩ => h ▸ below_bytes w _ t⟩)
    (fun w hs s h1 h2 => hy.elim fun tp hy => hy.elim fun p hy => (Any.strconv_ParseInt_10_at64_syntax_var Tryz.laysC174 s h1 h2 tp p w (glob_var hs (g := 2) (by kernel_rfl) (by decide +kernel) hy)).mono fun e w' ⟨N, he, _, _, hb⟩ => ⟨⟨_, _, he⟩, hb⟩)
    (fun w hs s h1 h2 => hr.elim fun tp hr => hr.elim fun p hr => (Any.strconv_ParseInt_10_at64_range_var Tryz.laysC174 s h1 h2 tp p w (glob_var hs (g := 3) (by kernel_rfl) (by decide +kernel) hr)).mono fun e w' ⟨N, he, _, _, hb⟩ => ⟨⟨_, _, he⟩, hb⟩)
theorem callable522 : Callable Tryz.prog (rho 522) := ⟨Tryz.f118, Tryz.func118, by kernel_rfl, by kernel_rfl⟩
theorem def522 {W : World} (ht : Lib.TabIs Tryz.prog W "internal/strconv.uint64pow10" .u64 Lib.pow10Tab) : DefOk Tryz.prog inv isPure rho (glob Tryz.prog W) 522 (.ext .pure ext522) :=
  ext522_ok callable522 fun w hs n h0 h1 => Any.strconv_FormatInt_10 Tryz.laysM173 n h0 h1 w (glob_var hs (g := 4) (by kernel_rfl) (by decide +kernel) ht)
theorem tab_ok {W : World} (hm : ∃ m, W.cell? ⟨1, 0, none⟩ = some (.int .i64 m)) (ht : Lib.TabIs Tryz.prog W "internal/strconv.uint64pow10" .u64 Lib.pow10Tab) (hy : ∃ tp p, W.var? Tryz.prog "strconv.ErrSyntax" = some #[.iface tp p]) (hr : ∃ tp p, W.var? Tryz.prog "strconv.ErrRange" = some #[.iface tp p]) : ∀ f D, tab f = some D → DefOk Tryz.prog inv isPure rho (glob Tryz.prog W) f D := by
  intro f D h
  unfold tab at h
  split at h
  · cases h; exact ⟨Tryz.f3, h24, Tryz.func3, name24, comp24⟩
  · cases h; exact ⟨Tryz.f18, h71, Tryz.func18, name71, comp71⟩
  · cases h; exact ⟨Tryz.f5, h84, Tryz.func5, name84, comp84⟩
  · cases h; exact ⟨Tryz.f7, h85, Tryz.func7, name85, comp85⟩
  · cases h; exact ⟨Tryz.f22, h91, Tryz.func22, name91, comp91⟩
  · cases h; exact ⟨Tryz.f8, h124, Tryz.func8, name124, comp124⟩
  · cases h; exact ⟨Tryz.f12, h125, Tryz.func12, name125, comp125⟩
  · cases h; exact ⟨Tryz.f21, h131, Tryz.func21, name131, comp131⟩
  · cases h; exact ⟨Tryz.f11, h132, Tryz.func11, name132, comp132⟩
  · cases h; exact ⟨Tryz.f6, h147, Tryz.func6, name147, comp147⟩
  · cases h; exact ⟨Tryz.f9, h148, Tryz.func9, name148, comp148⟩
  · cases h; exact ⟨Tryz.f10, h149, Tryz.func10, name149, comp149⟩
  · cases h; exact ⟨Tryz.f13, h150, Tryz.func13, name150, comp150⟩
  · cases h; exact ⟨Tryz.f14, h151, Tryz.func14, name151, comp151⟩
  · cases h; exact ⟨Tryz.f15, h152, Tryz.func15, name152, comp152⟩
  · cases h; exact ⟨Tryz.f16, h153, Tryz.func16, name153, comp153⟩
  · cases h; exact ⟨Tryz.f17, h154, Tryz.func17, name154, comp154⟩
  · cases h; exact ⟨Tryz.f19, h155, Tryz.func19, name155, comp155⟩
  · cases h; exact ⟨Tryz.f20, h156, Tryz.func20, name156, comp156⟩
  · cases h; exact ⟨Tryz.f95, h234, Tryz.func95, name234, comp234⟩
  · cases h; exact ⟨Tryz.f66, h295, Tryz.func66, name295, comp295⟩
  · cases h; exact ⟨Tryz.f111, h304, Tryz.func111, name304, comp304⟩
  · cases h; exact ⟨Tryz.f100, h305, Tryz.func100, name305, comp305⟩
  · cases h; exact ⟨Tryz.f47, h314, Tryz.func47, name314, comp314⟩
  · cases h; exact ⟨Tryz.f46, h315, Tryz.func46, name315, comp315⟩
  · cases h; exact ⟨Tryz.f60, h316, Tryz.func60, name316, comp316⟩
  · cases h; exact ⟨Tryz.f80, h318, Tryz.func80, name318, comp318⟩
  · cases h; exact ⟨Tryz.f69, h323, Tryz.func69, name323, comp323⟩
  · cases h; exact ⟨Tryz.f57, h324, Tryz.func57, name324, comp324⟩
  · cases h; exact ⟨Tryz.f113, h325, Tryz.func113, name325, comp325⟩
  · cases h; exact ⟨Tryz.f52, h327, Tryz.func52, name327, comp327⟩
  · cases h; exact ⟨Tryz.f132, h342, Tryz.func132, name342, comp342⟩
  · cases h; exact ⟨Tryz.f48, h351, Tryz.func48, name351, comp351⟩
  · cases h; exact ⟨Tryz.f53, h353, Tryz.func53, name353, comp353⟩
  · cases h; exact ⟨Tryz.f112, h354, Tryz.func112, name354, comp354⟩
  · cases h; exact ⟨Tryz.f59, h355, Tryz.func59, name355, comp355⟩
  · cases h; exact ⟨Tryz.f55, h357, Tryz.func55, name357, comp357⟩
  · cases h; exact ⟨Tryz.f56, h358, Tryz.func56, name358, comp358⟩
  · cases h; exact ⟨Tryz.f110, h359, Tryz.func110, name359, comp359⟩
  · cases h; exact ⟨Tryz.f98, h367, Tryz.func98, name367, comp367⟩
  · cases h; exact ⟨Tryz.f45, h368, Tryz.func45, name368, comp368⟩
  · cases h; exact ⟨Tryz.f49, h369, Tryz.func49, name369, comp369⟩
  · cases h; exact ⟨Tryz.f50, h370, Tryz.func50, name370, comp370⟩
  · cases h; exact ⟨Tryz.f51, h371, Tryz.func51, name371, comp371⟩
  · cases h; exact ⟨Tryz.f54, h372, Tryz.func54, name372, comp372⟩
  · cases h; exact ⟨Tryz.f58, h373, Tryz.func58, name373, comp373⟩
  · cases h; exact ⟨Tryz.f61, h374, Tryz.func61, name374, comp374⟩
  · cases h; exact ⟨Tryz.f62, h375, Tryz.func62, name375, comp375⟩
  · cases h; exact ⟨Tryz.f63, h376, Tryz.func63, name376, comp376⟩
  · cases h; exact def377 hm
  · cases h; exact ⟨Tryz.f65, h378, Tryz.func65, name378, comp378⟩
  · cases h; exact ⟨Tryz.f67, h379, Tryz.func67, name379, comp379⟩
  · cases h; exact def380 
  · cases h; exact ⟨Tryz.f114, h393, Tryz.func114, name393, comp393⟩
  · cases h; exact ⟨Tryz.f137, h409, Tryz.func137, name409, comp409⟩
  · cases h; exact ⟨Tryz.f115, h440, Tryz.func115, name440, comp440⟩
  · cases h; exact ⟨Tryz.f130, h443, Tryz.func130, name443, comp443⟩
  · cases h; exact ⟨Tryz.f128, h445, Tryz.func128, name445, comp445⟩
  · cases h; exact ⟨Tryz.f129, h446, Tryz.func129, name446, comp446⟩
  · cases h; exact ⟨Tryz.f139, h456, Tryz.func139, name456, comp456⟩
  · cases h; exact ⟨Tryz.f87, h459, Tryz.func87, name459, comp459⟩
  · cases h; exact ⟨Tryz.f133, h474, Tryz.func133, name474, comp474⟩
  · cases h; exact def485 hm
  · cases h; exact ⟨Tryz.f102, h505, Tryz.func102, name505, comp505⟩
  · cases h; exact ⟨Tryz.f103, h506, Tryz.func103, name506, comp506⟩
  · cases h; exact ⟨Tryz.f136, h510, Tryz.func136, name510, comp510⟩
  · cases h; exact ⟨Tryz.f131, h512, Tryz.func131, name512, comp512⟩
  · cases h; exact ⟨Tryz.f101, h513, Tryz.func101, name513, comp513⟩
  · cases h; exact ⟨Tryz.f104, h514, Tryz.func104, name514, comp514⟩
  · cases h; exact ⟨Tryz.f105, h515, Tryz.func105, name515, comp515⟩
  · cases h; exact ⟨Tryz.f106, h516, Tryz.func106, name516, comp516⟩
  · cases h; exact ⟨Tryz.f107, h517, Tryz.func107, name517, comp517⟩
  · cases h; exact ⟨Tryz.f108, h518, Tryz.func108, name518, comp518⟩
  · cases h; exact ⟨Tryz.f109, h519, Tryz.func109, name519, comp519⟩
  · cases h; exact def521 hy hr
  · cases h; exact def522 ht
  · cases h; exact ⟨Tryz.f138, h530, Tryz.func138, name530, comp530⟩
  · cases h; exact ⟨Tryz.f152, h547, Tryz.func152, name547, comp547⟩
  · cases h; exact ⟨Tryz.f155, h549, Tryz.func155, name549, comp549⟩
  · cases h; exact ⟨Tryz.f124, h550, Tryz.func124, name550, comp550⟩
  · cases h; exact ⟨Tryz.f134, h565, Tryz.func134, name565, comp565⟩
  · cases h; exact ⟨Tryz.f135, h566, Tryz.func135, name566, comp566⟩
  · cases h; exact ⟨Tryz.f153, h589, Tryz.func153, name589, comp589⟩
  · cases h; exact ⟨Tryz.f154, h590, Tryz.func154, name590, comp590⟩
  · cases h; exact ⟨Tryz.f173, h610, Tryz.func173, name610, comp610⟩
  · cases h; exact ⟨Tryz.f187, h624, Tryz.func187, name624, comp624⟩
  · cases h
end Fb
