/- Each function of the law is compiled by the checker to its text in the small language. -/
import Derived.Test.YtkjlnflhimibdabRow2
import Derived.Test.YtkjlnflhimibdabTab
import Derived.Test.YtkjlnflhimibdabRows
import Derived.KernelRfl
set_option linter.unusedVariables false
set_option linter.unusedSimpArgs false
namespace Fb
open Go Go.Proofs

def inv : FuncId → Option Nat := fun f => match f with
  | 4 => some 17
  | 27 => some 84
  | 28 => some 85
  | 30 => some 92
  | 31 => some 93
  | 35 => some 95
  | 37 => some 106
  | 33 => some 110
  | 32 => some 111
  | 36 => some 118
  | 38 => some 120
  | 29 => some 124
  | 34 => some 125
  | 39 => some 126
  | 40 => some 127
  | 41 => some 128
  | 42 => some 129
  | 43 => some 130
  | 44 => some 131
  | 45 => some 132
  | 99 => some 234
  | 57 => some 295
  | 66 => some 304
  | 119 => some 305
  | 78 => some 306
  | 74 => some 314
  | 47 => some 315
  | 55 => some 316
  | 52 => some 318
  | 59 => some 323
  | 75 => some 324
  | 76 => some 325
  | 77 => some 327
  | 81 => some 338
  | 56 => some 341
  | 136 => some 342
  | 107 => some 346
  | 79 => some 347
  | 80 => some 348
  | 82 => some 350
  | 70 => some 351
  | 83 => some 352
  | 84 => some 353
  | 85 => some 354
  | 86 => some 355
  | 67 => some 356
  | 87 => some 357
  | 88 => some 358
  | 72 => some 359
  | 104 => some 367
  | 103 => some 368
  | 112 => some 369
  | 113 => some 371
  | 105 => some 393
  | 106 => some 409
  | 118 => some 440
  | 108 => some 443
  | 124 => some 445
  | 125 => some 446
  | 135 => some 456
  | 62 => some 459
  | 123 => some 474
  | 110 => some 502
  | 109 => some 503
  | 111 => some 504
  | 97 => some 505
  | 98 => some 506
  | 114 => some 507
  | 115 => some 508
  | 116 => some 509
  | 117 => some 510
  | 126 => some 512
  | 89 => some 513
  | 133 => some 514
  | 128 => some 515
  | 129 => some 516
  | 130 => some 517
  | 131 => some 518
  | 132 => some 519
  | 127 => some 530
  | 137 => some 547
  | 134 => some 549
  | 94 => some 550
  | 138 => some 565
  | 139 => some 566
  | 140 => some 589
  | 141 => some 590
  | 142 => some 610
  | 143 => some 624
  | _ => none
def rho : Nat → FuncId := fun n => match n with
  | 17 => 4
  | 84 => 27
  | 85 => 28
  | 92 => 30
  | 93 => 31
  | 95 => 35
  | 106 => 37
  | 110 => 33
  | 111 => 32
  | 118 => 36
  | 120 => 38
  | 124 => 29
  | 125 => 34
  | 126 => 39
  | 127 => 40
  | 128 => 41
  | 129 => 42
  | 130 => 43
  | 131 => 44
  | 132 => 45
  | 234 => 99
  | 295 => 57
  | 304 => 66
  | 305 => 119
  | 306 => 78
  | 314 => 74
  | 315 => 47
  | 316 => 55
  | 318 => 52
  | 323 => 59
  | 324 => 75
  | 325 => 76
  | 327 => 77
  | 338 => 81
  | 341 => 56
  | 342 => 136
  | 346 => 107
  | 347 => 79
  | 348 => 80
  | 350 => 82
  | 351 => 70
  | 352 => 83
  | 353 => 84
  | 354 => 85
  | 355 => 86
  | 356 => 67
  | 357 => 87
  | 358 => 88
  | 359 => 72
  | 367 => 104
  | 368 => 103
  | 369 => 112
  | 371 => 113
  | 393 => 105
  | 409 => 106
  | 440 => 118
  | 443 => 108
  | 445 => 124
  | 446 => 125
  | 456 => 135
  | 459 => 62
  | 474 => 123
  | 502 => 110
  | 503 => 109
  | 504 => 111
  | 505 => 97
  | 506 => 98
  | 507 => 114
  | 508 => 115
  | 509 => 116
  | 510 => 117
  | 512 => 126
  | 513 => 89
  | 514 => 133
  | 515 => 128
  | 516 => 129
  | 517 => 130
  | 518 => 131
  | 519 => 132
  | 530 => 127
  | 547 => 137
  | 549 => 134
  | 550 => 94
  | 565 => 138
  | 566 => 139
  | 589 => 140
  | 590 => 141
  | 610 => 142
  | 624 => 143
  | _ => 0
def isPure : Nat → Bool := fun n => !([305, 314, 368, 459, 513, 517, 550, 565, 589, 590, 610, 624] : List Nat).contains n
theorem inv_rho : ∀ f i, inv f = some i → rho i = f := by
  intro f i h
  unfold inv at h
  split at h <;> first | (cases h; rfl) | cases h
def h17 : Hint := ⟨.pure, [57, 33, 32, 28, 26], [0, 1, 4, 5, 6, 7, 8, 9, 10, 11, 12, 13, 14, 15, 16, 17, 18, 19, 20, 21, 22, 23, 24, 25, 26, 27, 28, 29, 30, 31, 32, 33, 34, 35, 36, 37, 38, 39, 40, 41, 42, 43, 44, 45, 46, 47, 48, 49, 50, 51, 52, 53, 54, 55, 56, 57, 58, 61, 67, 146, 148, 163, 185, 190, 198, 242, 244, 278, 282, 290, 322, 326, 330, 358, 361, 381, 387, 400, 485, 489, 508, 521, 545, 549, 599]⟩
theorem comp17 : compFn Try.prog inv isPure h17 Try.f4 = some c17 := by kernel_rfl
theorem name17 : (Try.f4.name == "runtime.NumGoroutine") = false := by kernel_rfl
def h84 : Hint := ⟨.pure, [], [0, 1, 4]⟩
theorem comp84 : compFn Try.prog inv isPure h84 Try.f27 = some c84 := by kernel_rfl
theorem name84 : (Try.f27.name == "runtime.NumGoroutine") = false := by kernel_rfl
def h85 : Hint := ⟨.pure, [], [0, 2]⟩
theorem comp85 : compFn Try.prog inv isPure h85 Try.f28 = some c85 := by kernel_rfl
theorem name85 : (Try.f28.name == "runtime.NumGoroutine") = false := by kernel_rfl
def h92 : Hint := ⟨.pure, [], [0, 1, 4, 5, 6, 7, 8, 9, 10, 11, 12, 13, 14, 18, 21, 30, 38, 59]⟩
theorem comp92 : compFn Try.prog inv isPure h92 Try.f30 = some c92 := by kernel_rfl
theorem name92 : (Try.f30.name == "runtime.NumGoroutine") = false := by kernel_rfl
def h93 : Hint := ⟨.pure, [], [0, 1, 4, 5, 6, 7, 8, 9, 10, 11, 12, 13, 16, 18, 22, 27, 35, 54]⟩
theorem comp93 : compFn Try.prog inv isPure h93 Try.f31 = some c93 := by kernel_rfl
theorem name93 : (Try.f31.name == "runtime.NumGoroutine") = false := by kernel_rfl
def h95 : Hint := ⟨.pure, [], [0, 1, 2, 3, 4, 5, 6, 9]⟩
theorem comp95 : compFn Try.prog inv isPure h95 Try.f35 = some c95 := by kernel_rfl
theorem name95 : (Try.f35.name == "runtime.NumGoroutine") = false := by kernel_rfl
def h106 : Hint := ⟨.pure, [6, 4, 2], [0, 2, 3, 4, 6, 9, 12, 13, 14, 15]⟩
theorem comp106 : compFn Try.prog inv isPure h106 Try.f37 = some c106 := by kernel_rfl
theorem name106 : (Try.f37.name == "runtime.NumGoroutine") = false := by kernel_rfl
def h110 : Hint := ⟨.pure, [], [0, 2, 3, 4, 5, 6, 9, 13, 21, 38]⟩
theorem comp110 : compFn Try.prog inv isPure h110 Try.f33 = some c110 := by kernel_rfl
theorem name110 : (Try.f33.name == "runtime.NumGoroutine") = false := by kernel_rfl
def h111 : Hint := ⟨.pure, [], [0, 2, 3, 4, 5, 9, 23]⟩
theorem comp111 : compFn Try.prog inv isPure h111 Try.f32 = some c111 := by kernel_rfl
theorem name111 : (Try.f32.name == "runtime.NumGoroutine") = false := by kernel_rfl
def h118 : Hint := ⟨.pure, [6, 4, 2], [0, 2, 3, 4, 6, 9, 12, 13, 14, 15]⟩
theorem comp118 : compFn Try.prog inv isPure h118 Try.f36 = some c118 := by kernel_rfl
theorem name118 : (Try.f36.name == "runtime.NumGoroutine") = false := by kernel_rfl
def h120 : Hint := ⟨.pure, [], [0, 2, 3, 4, 5, 8, 13]⟩
theorem comp120 : compFn Try.prog inv isPure h120 Try.f38 = some c120 := by kernel_rfl
theorem name120 : (Try.f38.name == "runtime.NumGoroutine") = false := by kernel_rfl
def h124 : Hint := ⟨.pure, [], [0, 1, 2, 6, 14]⟩
theorem comp124 : compFn Try.prog inv isPure h124 Try.f29 = some c124 := by kernel_rfl
theorem name124 : (Try.f29.name == "runtime.NumGoroutine") = false := by kernel_rfl
def h125 : Hint := ⟨.pure, [3, 2], [0, 1, 2, 3, 4, 5, 10]⟩
theorem comp125 : compFn Try.prog inv isPure h125 Try.f34 = some c125 := by kernel_rfl
theorem name125 : (Try.f34.name == "runtime.NumGoroutine") = false := by kernel_rfl
def h126 : Hint := ⟨.pure, [], [0, 1, 4, 5, 6, 8]⟩
theorem comp126 : compFn Try.prog inv isPure h126 Try.f39 = some c126 := by kernel_rfl
theorem name126 : (Try.f39.name == "runtime.NumGoroutine") = false := by kernel_rfl
def h127 : Hint := ⟨.pure, [], [0, 1, 4, 5, 6, 7, 15, 19, 28, 39]⟩
theorem comp127 : compFn Try.prog inv isPure h127 Try.f40 = some c127 := by kernel_rfl
theorem name127 : (Try.f40.name == "runtime.NumGoroutine") = false := by kernel_rfl
def h128 : Hint := ⟨.pure, [], [0, 1, 2, 6, 7, 8]⟩
theorem comp128 : compFn Try.prog inv isPure h128 Try.f41 = some c128 := by kernel_rfl
theorem name128 : (Try.f41.name == "runtime.NumGoroutine") = false := by kernel_rfl
def h129 : Hint := ⟨.pure, [], [0, 1, 2, 6, 7, 8, 9, 10, 11, 12, 13, 14, 15, 23, 33, 46, 52, 58, 87]⟩
theorem comp129 : compFn Try.prog inv isPure h129 Try.f42 = some c129 := by kernel_rfl
theorem name129 : (Try.f42.name == "runtime.NumGoroutine") = false := by kernel_rfl
def h130 : Hint := ⟨.pure, [], [0, 1, 4]⟩
theorem comp130 : compFn Try.prog inv isPure h130 Try.f43 = some c130 := by kernel_rfl
theorem name130 : (Try.f43.name == "runtime.NumGoroutine") = false := by kernel_rfl
def h131 : Hint := ⟨.pure, [], [0, 1, 4, 5, 10, 14, 25]⟩
theorem comp131 : compFn Try.prog inv isPure h131 Try.f44 = some c131 := by kernel_rfl
theorem name131 : (Try.f44.name == "runtime.NumGoroutine") = false := by kernel_rfl
def h132 : Hint := ⟨.pure, [6, 3], [0, 1, 2, 3, 6, 7, 8, 14]⟩
theorem comp132 : compFn Try.prog inv isPure h132 Try.f45 = some c132 := by kernel_rfl
theorem name132 : (Try.f45.name == "runtime.NumGoroutine") = false := by kernel_rfl
def h234 : Hint := ⟨.pure, [], [0, 1, 2]⟩
theorem comp234 : compFn Try.prog inv isPure h234 Try.f99 = some c234 := by kernel_rfl
theorem name234 : (Try.f99.name == "runtime.NumGoroutine") = false := by kernel_rfl
def h295 : Hint := ⟨.pure, [], [0, 1, 2, 6]⟩
theorem comp295 : compFn Try.prog inv isPure h295 Try.f57 = some c295 := by kernel_rfl
theorem name295 : (Try.f57.name == "runtime.NumGoroutine") = false := by kernel_rfl
def h304 : Hint := ⟨.pure, [], [0, 1, 2, 6]⟩
theorem comp304 : compFn Try.prog inv isPure h304 Try.f66 = some c304 := by kernel_rfl
theorem name304 : (Try.f66.name == "runtime.NumGoroutine") = false := by kernel_rfl
def h305 : Hint := ⟨.args, [], [0, 1, 2, 8]⟩
theorem comp305 : compFn Try.prog inv isPure h305 Try.f119 = some c305 := by kernel_rfl
theorem name305 : (Try.f119.name == "runtime.NumGoroutine") = false := by kernel_rfl
def h306 : Hint := ⟨.pure, [3, 2], [0, 2, 3, 4, 5, 7, 8, 10, 11, 16]⟩
theorem comp306 : compFn Try.prog inv isPure h306 Try.f78 = some c306 := by kernel_rfl
theorem name306 : (Try.f78.name == "runtime.NumGoroutine") = false := by kernel_rfl
def h314 : Hint := ⟨.args, [], [0, 1, 4, 5, 6, 7, 16, 20, 28, 32, 34, 38]⟩
theorem comp314 : compFn Try.prog inv isPure h314 Try.f74 = some c314 := by kernel_rfl
theorem name314 : (Try.f74.name == "runtime.NumGoroutine") = false := by kernel_rfl
def h315 : Hint := ⟨.pure, [], [0, 2]⟩
theorem comp315 : compFn Try.prog inv isPure h315 Try.f47 = some c315 := by kernel_rfl
theorem name315 : (Try.f47.name == "runtime.NumGoroutine") = false := by kernel_rfl
def h316 : Hint := ⟨.pure, [], [0, 2]⟩
theorem comp316 : compFn Try.prog inv isPure h316 Try.f55 = some c316 := by kernel_rfl
theorem name316 : (Try.f55.name == "runtime.NumGoroutine") = false := by kernel_rfl
def h318 : Hint := ⟨.pure, [], [0, 2, 3, 7, 14]⟩
theorem comp318 : compFn Try.prog inv isPure h318 Try.f52 = some c318 := by kernel_rfl
theorem name318 : (Try.f52.name == "runtime.NumGoroutine") = false := by kernel_rfl
def h323 : Hint := ⟨.pure, [], [0, 1, 4, 5, 10, 14, 25]⟩
theorem comp323 : compFn Try.prog inv isPure h323 Try.f59 = some c323 := by kernel_rfl
theorem name323 : (Try.f59.name == "runtime.NumGoroutine") = false := by kernel_rfl
def h324 : Hint := ⟨.pure, [3, 2], [0, 1, 2, 3, 4]⟩
theorem comp324 : compFn Try.prog inv isPure h324 Try.f75 = some c324 := by kernel_rfl
theorem name324 : (Try.f75.name == "runtime.NumGoroutine") = false := by kernel_rfl
def h325 : Hint := ⟨.pure, [], [0, 1, 4, 5, 6, 9]⟩
theorem comp325 : compFn Try.prog inv isPure h325 Try.f76 = some c325 := by kernel_rfl
theorem name325 : (Try.f76.name == "runtime.NumGoroutine") = false := by kernel_rfl
def h327 : Hint := ⟨.pure, [], [0, 1, 4, 12]⟩
theorem comp327 : compFn Try.prog inv isPure h327 Try.f77 = some c327 := by kernel_rfl
theorem name327 : (Try.f77.name == "runtime.NumGoroutine") = false := by kernel_rfl
def h338 : Hint := ⟨.pure, [4, 3, 2], [0, 1, 2, 3, 4]⟩
theorem comp338 : compFn Try.prog inv isPure h338 Try.f81 = some c338 := by kernel_rfl
theorem name338 : (Try.f81.name == "runtime.NumGoroutine") = false := by kernel_rfl
def h341 : Hint := ⟨.pure, [], [0, 1, 4, 5, 10, 12, 13, 14, 24]⟩
theorem comp341 : compFn Try.prog inv isPure h341 Try.f56 = some c341 := by kernel_rfl
theorem name341 : (Try.f56.name == "runtime.NumGoroutine") = false := by kernel_rfl
def h342 : Hint := ⟨.pure, [], [0, 1, 4]⟩
theorem comp342 : compFn Try.prog inv isPure h342 Try.f136 = some c342 := by kernel_rfl
theorem name342 : (Try.f136.name == "runtime.NumGoroutine") = false := by kernel_rfl
def h346 : Hint := ⟨.pure, [6, 3], [0, 1, 2, 3, 6]⟩
theorem comp346 : compFn Try.prog inv isPure h346 Try.f107 = some c346 := by kernel_rfl
theorem name346 : (Try.f107.name == "runtime.NumGoroutine") = false := by kernel_rfl
def h347 : Hint := ⟨.pure, [], [0, 1, 4]⟩
theorem comp347 : compFn Try.prog inv isPure h347 Try.f79 = some c347 := by kernel_rfl
theorem name347 : (Try.f79.name == "runtime.NumGoroutine") = false := by kernel_rfl
def h348 : Hint := ⟨.pure, [4, 3, 2], [0, 1, 2, 3, 4]⟩
theorem comp348 : compFn Try.prog inv isPure h348 Try.f80 = some c348 := by kernel_rfl
theorem name348 : (Try.f80.name == "runtime.NumGoroutine") = false := by kernel_rfl
def h350 : Hint := ⟨.pure, [4, 3, 2], [0, 1, 2, 3, 4]⟩
theorem comp350 : compFn Try.prog inv isPure h350 Try.f82 = some c350 := by kernel_rfl
theorem name350 : (Try.f82.name == "runtime.NumGoroutine") = false := by kernel_rfl
def h351 : Hint := ⟨.pure, [], [0, 2]⟩
theorem comp351 : compFn Try.prog inv isPure h351 Try.f70 = some c351 := by kernel_rfl
theorem name351 : (Try.f70.name == "runtime.NumGoroutine") = false := by kernel_rfl
def h352 : Hint := ⟨.pure, [], [0, 1, 2, 3, 4, 6, 7, 8, 9, 10, 11, 12, 13, 14, 23, 42, 49, 61]⟩
theorem comp352 : compFn Try.prog inv isPure h352 Try.f83 = some c352 := by kernel_rfl
theorem name352 : (Try.f83.name == "runtime.NumGoroutine") = false := by kernel_rfl
def h353 : Hint := ⟨.pure, [], [0, 2]⟩
theorem comp353 : compFn Try.prog inv isPure h353 Try.f84 = some c353 := by kernel_rfl
theorem name353 : (Try.f84.name == "runtime.NumGoroutine") = false := by kernel_rfl
def h354 : Hint := ⟨.pure, [7], [0, 2, 3, 4, 5, 6, 7, 12, 19, 26, 37]⟩
theorem comp354 : compFn Try.prog inv isPure h354 Try.f85 = some c354 := by kernel_rfl
theorem name354 : (Try.f85.name == "runtime.NumGoroutine") = false := by kernel_rfl
def h355 : Hint := ⟨.pure, [6], [0, 1, 2, 6, 7, 8, 9, 16]⟩
theorem comp355 : compFn Try.prog inv isPure h355 Try.f86 = some c355 := by kernel_rfl
theorem name355 : (Try.f86.name == "runtime.NumGoroutine") = false := by kernel_rfl
def h356 : Hint := ⟨.pure, [], [0, 1, 4, 5, 10, 14, 25]⟩
theorem comp356 : compFn Try.prog inv isPure h356 Try.f67 = some c356 := by kernel_rfl
theorem name356 : (Try.f67.name == "runtime.NumGoroutine") = false := by kernel_rfl
def h357 : Hint := ⟨.pure, [3], [0, 1, 2, 3, 6, 7, 11]⟩
theorem comp357 : compFn Try.prog inv isPure h357 Try.f87 = some c357 := by kernel_rfl
theorem name357 : (Try.f87.name == "runtime.NumGoroutine") = false := by kernel_rfl
def h358 : Hint := ⟨.pure, [7, 6, 3], [0, 1, 2, 3, 6, 7, 8, 9, 13, 15, 16, 23, 25]⟩
theorem comp358 : compFn Try.prog inv isPure h358 Try.f88 = some c358 := by kernel_rfl
theorem name358 : (Try.f88.name == "runtime.NumGoroutine") = false := by kernel_rfl
def h359 : Hint := ⟨.pure, [], [0, 2, 3, 5, 13]⟩
theorem comp359 : compFn Try.prog inv isPure h359 Try.f72 = some c359 := by kernel_rfl
theorem name359 : (Try.f72.name == "runtime.NumGoroutine") = false := by kernel_rfl
def h367 : Hint := ⟨.pure, [4, 3, 2], [0, 1, 2, 3, 4]⟩
theorem comp367 : compFn Try.prog inv isPure h367 Try.f104 = some c367 := by kernel_rfl
theorem name367 : (Try.f104.name == "runtime.NumGoroutine") = false := by kernel_rfl
def h368 : Hint := ⟨.args, [2], [0, 2, 3, 4, 5, 6, 7, 16, 23, 30, 36, 43, 45]⟩
theorem comp368 : compFn Try.prog inv isPure h368 Try.f103 = some c368 := by kernel_rfl
theorem name368 : (Try.f103.name == "runtime.NumGoroutine") = false := by kernel_rfl
def h369 : Hint := ⟨.pure, [], [0, 2]⟩
theorem comp369 : compFn Try.prog inv isPure h369 Try.f112 = some c369 := by kernel_rfl
theorem name369 : (Try.f112.name == "runtime.NumGoroutine") = false := by kernel_rfl
def h371 : Hint := ⟨.pure, [], [0, 2, 3, 4, 5, 6, 12, 19]⟩
theorem comp371 : compFn Try.prog inv isPure h371 Try.f113 = some c371 := by kernel_rfl
theorem name371 : (Try.f113.name == "runtime.NumGoroutine") = false := by kernel_rfl
def h393 : Hint := ⟨.pure, [1], [0, 1, 2, 3, 5, 6, 7, 8]⟩
theorem comp393 : compFn Try.prog inv isPure h393 Try.f105 = some c393 := by kernel_rfl
theorem name393 : (Try.f105.name == "runtime.NumGoroutine") = false := by kernel_rfl
def h409 : Hint := ⟨.pure, [], [0, 2]⟩
theorem comp409 : compFn Try.prog inv isPure h409 Try.f106 = some c409 := by kernel_rfl
theorem name409 : (Try.f106.name == "runtime.NumGoroutine") = false := by kernel_rfl
def h440 : Hint := ⟨.pure, [], [0, 2, 3, 4, 5, 8, 12, 18]⟩
theorem comp440 : compFn Try.prog inv isPure h440 Try.f118 = some c440 := by kernel_rfl
theorem name440 : (Try.f118.name == "runtime.NumGoroutine") = false := by kernel_rfl
def h443 : Hint := ⟨.pure, [6, 4, 3], [0, 1, 2, 3, 4, 6, 7, 8, 9, 10, 11]⟩
theorem comp443 : compFn Try.prog inv isPure h443 Try.f108 = some c443 := by kernel_rfl
theorem name443 : (Try.f108.name == "runtime.NumGoroutine") = false := by kernel_rfl
def h445 : Hint := ⟨.pure, [], [0, 1, 4]⟩
theorem comp445 : compFn Try.prog inv isPure h445 Try.f124 = some c445 := by kernel_rfl
theorem name445 : (Try.f124.name == "runtime.NumGoroutine") = false := by kernel_rfl
def h446 : Hint := ⟨.pure, [], [0, 2]⟩
theorem comp446 : compFn Try.prog inv isPure h446 Try.f125 = some c446 := by kernel_rfl
theorem name446 : (Try.f125.name == "runtime.NumGoroutine") = false := by kernel_rfl
def h456 : Hint := ⟨.pure, [], [0, 1, 2, 6]⟩
theorem comp456 : compFn Try.prog inv isPure h456 Try.f135 = some c456 := by kernel_rfl
theorem name456 : (Try.f135.name == "runtime.NumGoroutine") = false := by kernel_rfl
def h459 : Hint := ⟨.args, [], [0, 1, 4, 5, 7, 11]⟩
theorem comp459 : compFn Try.prog inv isPure h459 Try.f62 = some c459 := by kernel_rfl
theorem name459 : (Try.f62.name == "runtime.NumGoroutine") = false := by kernel_rfl
def h474 : Hint := ⟨.pure, [], [0, 1, 4, 5, 7, 8, 9, 16]⟩
theorem comp474 : compFn Try.prog inv isPure h474 Try.f123 = some c474 := by kernel_rfl
theorem name474 : (Try.f123.name == "runtime.NumGoroutine") = false := by kernel_rfl
def h502 : Hint := ⟨.pure, [], [0, 1, 4]⟩
theorem comp502 : compFn Try.prog inv isPure h502 Try.f110 = some c502 := by kernel_rfl
theorem name502 : (Try.f110.name == "runtime.NumGoroutine") = false := by kernel_rfl
def h503 : Hint := ⟨.pure, [], [0, 1, 4]⟩
theorem comp503 : compFn Try.prog inv isPure h503 Try.f109 = some c503 := by kernel_rfl
theorem name503 : (Try.f109.name == "runtime.NumGoroutine") = false := by kernel_rfl
def h504 : Hint := ⟨.pure, [], [0, 1, 4]⟩
theorem comp504 : compFn Try.prog inv isPure h504 Try.f111 = some c504 := by kernel_rfl
theorem name504 : (Try.f111.name == "runtime.NumGoroutine") = false := by kernel_rfl
def h505 : Hint := ⟨.pure, [], [0, 1, 4]⟩
theorem comp505 : compFn Try.prog inv isPure h505 Try.f97 = some c505 := by kernel_rfl
theorem name505 : (Try.f97.name == "runtime.NumGoroutine") = false := by kernel_rfl
def h506 : Hint := ⟨.pure, [1], [0, 1, 2]⟩
theorem comp506 : compFn Try.prog inv isPure h506 Try.f98 = some c506 := by kernel_rfl
theorem name506 : (Try.f98.name == "runtime.NumGoroutine") = false := by kernel_rfl
def h507 : Hint := ⟨.pure, [], [0, 1, 4, 5, 7, 8, 9, 16]⟩
theorem comp507 : compFn Try.prog inv isPure h507 Try.f114 = some c507 := by kernel_rfl
theorem name507 : (Try.f114.name == "runtime.NumGoroutine") = false := by kernel_rfl
def h508 : Hint := ⟨.pure, [4], [0, 1, 2, 3, 4, 5]⟩
theorem comp508 : compFn Try.prog inv isPure h508 Try.f115 = some c508 := by kernel_rfl
theorem name508 : (Try.f115.name == "runtime.NumGoroutine") = false := by kernel_rfl
def h509 : Hint := ⟨.pure, [10, 7], [0, 1, 2, 3, 7, 8, 9, 10, 11, 12, 13, 14, 27]⟩
theorem comp509 : compFn Try.prog inv isPure h509 Try.f116 = some c509 := by kernel_rfl
theorem name509 : (Try.f116.name == "runtime.NumGoroutine") = false := by kernel_rfl
def h510 : Hint := ⟨.pure, [1], [0, 1, 2, 3, 4]⟩
theorem comp510 : compFn Try.prog inv isPure h510 Try.f117 = some c510 := by kernel_rfl
theorem name510 : (Try.f117.name == "runtime.NumGoroutine") = false := by kernel_rfl
def h512 : Hint := ⟨.pure, [], [0, 1, 4]⟩
theorem comp512 : compFn Try.prog inv isPure h512 Try.f126 = some c512 := by kernel_rfl
theorem name512 : (Try.f126.name == "runtime.NumGoroutine") = false := by kernel_rfl
def h513 : Hint := ⟨.args, [], [0, 1, 4]⟩
theorem comp513 : compFn Try.prog inv isPure h513 Try.f89 = some c513 := by kernel_rfl
theorem name513 : (Try.f89.name == "runtime.NumGoroutine") = false := by kernel_rfl
def h514 : Hint := ⟨.pure, [4, 3, 2], [0, 1, 2, 3, 4]⟩
theorem comp514 : compFn Try.prog inv isPure h514 Try.f133 = some c514 := by kernel_rfl
theorem name514 : (Try.f133.name == "runtime.NumGoroutine") = false := by kernel_rfl
def h515 : Hint := ⟨.pure, [1], [0, 1, 2]⟩
theorem comp515 : compFn Try.prog inv isPure h515 Try.f128 = some c515 := by kernel_rfl
theorem name515 : (Try.f128.name == "runtime.NumGoroutine") = false := by kernel_rfl
def h516 : Hint := ⟨.pure, [], [0, 2]⟩
theorem comp516 : compFn Try.prog inv isPure h516 Try.f129 = some c516 := by kernel_rfl
theorem name516 : (Try.f129.name == "runtime.NumGoroutine") = false := by kernel_rfl
def h517 : Hint := ⟨.args, [], [0, 1]⟩
theorem comp517 : compFn Try.prog inv isPure h517 Try.f130 = some c517 := by kernel_rfl
theorem name517 : (Try.f130.name == "runtime.NumGoroutine") = false := by kernel_rfl
def h518 : Hint := ⟨.pure, [4, 3], [0, 1, 2, 3, 4, 5]⟩
theorem comp518 : compFn Try.prog inv isPure h518 Try.f131 = some c518 := by kernel_rfl
theorem name518 : (Try.f131.name == "runtime.NumGoroutine") = false := by kernel_rfl
def h519 : Hint := ⟨.pure, [], [0, 1, 4, 5, 6, 11, 12, 13, 16, 19]⟩
theorem comp519 : compFn Try.prog inv isPure h519 Try.f132 = some c519 := by kernel_rfl
theorem name519 : (Try.f132.name == "runtime.NumGoroutine") = false := by kernel_rfl
def h530 : Hint := ⟨.pure, [], [0, 2]⟩
theorem comp530 : compFn Try.prog inv isPure h530 Try.f127 = some c530 := by kernel_rfl
theorem name530 : (Try.f127.name == "runtime.NumGoroutine") = false := by kernel_rfl
def h547 : Hint := ⟨.pure, [], [0, 1, 4, 5, 7, 8, 9, 16]⟩
theorem comp547 : compFn Try.prog inv isPure h547 Try.f137 = some c547 := by kernel_rfl
theorem name547 : (Try.f137.name == "runtime.NumGoroutine") = false := by kernel_rfl
def h549 : Hint := ⟨.pure, [], [0, 1, 4, 7]⟩
theorem comp549 : compFn Try.prog inv isPure h549 Try.f134 = some c549 := by kernel_rfl
theorem name549 : (Try.f134.name == "runtime.NumGoroutine") = false := by kernel_rfl
def h550 : Hint := ⟨.args, [], [0, 2, 3, 13, 53]⟩
theorem comp550 : compFn Try.prog inv isPure h550 Try.f94 = some c550 := by kernel_rfl
theorem name550 : (Try.f94.name == "runtime.NumGoroutine") = false := by kernel_rfl
def h565 : Hint := ⟨.args, [], [0, 1, 2, 6, 7, 8, 9, 13, 30, 35, 54]⟩
theorem comp565 : compFn Try.prog inv isPure h565 Try.f138 = some c565 := by kernel_rfl
theorem name565 : (Try.f138.name == "runtime.NumGoroutine") = false := by kernel_rfl
def h566 : Hint := ⟨.pure, [], [0, 2]⟩
theorem comp566 : compFn Try.prog inv isPure h566 Try.f139 = some c566 := by kernel_rfl
theorem name566 : (Try.f139.name == "runtime.NumGoroutine") = false := by kernel_rfl
def h589 : Hint := ⟨.args, [], [0, 1, 2, 3, 8, 9, 14, 34]⟩
theorem comp589 : compFn Try.prog inv isPure h589 Try.f140 = some c589 := by kernel_rfl
theorem name589 : (Try.f140.name == "runtime.NumGoroutine") = false := by kernel_rfl
def h590 : Hint := ⟨.args, [], [0, 1, 2, 3, 4, 10, 11, 12, 13, 14, 15, 16, 17, 18, 19, 20, 21, 22, 23, 24, 28, 33, 50, 58, 80, 85, 103, 110, 140, 151, 171, 185, 199, 213]⟩
theorem comp590 : compFn Try.prog inv isPure h590 Try.f141 = some c590 := by kernel_rfl
theorem name590 : (Try.f141.name == "runtime.NumGoroutine") = false := by kernel_rfl
def h610 : Hint := ⟨.args, [], [0, 1, 2, 3, 4, 10, 11, 20, 23]⟩
theorem comp610 : compFn Try.prog inv isPure h610 Try.f142 = some c610 := by kernel_rfl
theorem name610 : (Try.f142.name == "runtime.NumGoroutine") = false := by kernel_rfl
def h624 : Hint := ⟨.args, [], [0, 1, 2, 3, 4, 10, 13]⟩
theorem comp624 : compFn Try.prog inv isPure h624 Try.f143 = some c624 := by kernel_rfl
theorem name624 : (Try.f143.name == "runtime.NumGoroutine") = false := by kernel_rfl
theorem tab_ok : ∀ f D, tab f = some D → DefOk Try.prog inv isPure rho f D := by
  intro f D h
  unfold tab at h
  split at h
  · cases h; exact ⟨Try.f4, h17, Try.func4, name17, comp17⟩
  · cases h; exact ⟨Try.f27, h84, Try.func27, name84, comp84⟩
  · cases h; exact ⟨Try.f28, h85, Try.func28, name85, comp85⟩
  · cases h; exact ⟨Try.f30, h92, Try.func30, name92, comp92⟩
  · cases h; exact ⟨Try.f31, h93, Try.func31, name93, comp93⟩
  · cases h; exact ⟨Try.f35, h95, Try.func35, name95, comp95⟩
  · cases h; exact ⟨Try.f37, h106, Try.func37, name106, comp106⟩
  · cases h; exact ⟨Try.f33, h110, Try.func33, name110, comp110⟩
  · cases h; exact ⟨Try.f32, h111, Try.func32, name111, comp111⟩
  · cases h; exact ⟨Try.f36, h118, Try.func36, name118, comp118⟩
  · cases h; exact ⟨Try.f38, h120, Try.func38, name120, comp120⟩
  · cases h; exact ⟨Try.f29, h124, Try.func29, name124, comp124⟩
  · cases h; exact ⟨Try.f34, h125, Try.func34, name125, comp125⟩
  · cases h; exact ⟨Try.f39, h126, Try.func39, name126, comp126⟩
  · cases h; exact ⟨Try.f40, h127, Try.func40, name127, comp127⟩
  · cases h; exact ⟨Try.f41, h128, Try.func41, name128, comp128⟩
  · cases h; exact ⟨Try.f42, h129, Try.func42, name129, comp129⟩
  · cases h; exact ⟨Try.f43, h130, Try.func43, name130, comp130⟩
  · cases h; exact ⟨Try.f44, h131, Try.func44, name131, comp131⟩
  · cases h; exact ⟨Try.f45, h132, Try.func45, name132, comp132⟩
  · cases h; exact ⟨Try.f99, h234, Try.func99, name234, comp234⟩
  · cases h; exact ⟨Try.f57, h295, Try.func57, name295, comp295⟩
  · cases h; exact ⟨Try.f66, h304, Try.func66, name304, comp304⟩
  · cases h; exact ⟨Try.f119, h305, Try.func119, name305, comp305⟩
  · cases h; exact ⟨Try.f78, h306, Try.func78, name306, comp306⟩
  · cases h; exact ⟨Try.f74, h314, Try.func74, name314, comp314⟩
  · cases h; exact ⟨Try.f47, h315, Try.func47, name315, comp315⟩
  · cases h; exact ⟨Try.f55, h316, Try.func55, name316, comp316⟩
  · cases h; exact ⟨Try.f52, h318, Try.func52, name318, comp318⟩
  · cases h; exact ⟨Try.f59, h323, Try.func59, name323, comp323⟩
  · cases h; exact ⟨Try.f75, h324, Try.func75, name324, comp324⟩
  · cases h; exact ⟨Try.f76, h325, Try.func76, name325, comp325⟩
  · cases h; exact ⟨Try.f77, h327, Try.func77, name327, comp327⟩
  · cases h; exact ⟨Try.f81, h338, Try.func81, name338, comp338⟩
  · cases h; exact ⟨Try.f56, h341, Try.func56, name341, comp341⟩
  · cases h; exact ⟨Try.f136, h342, Try.func136, name342, comp342⟩
  · cases h; exact ⟨Try.f107, h346, Try.func107, name346, comp346⟩
  · cases h; exact ⟨Try.f79, h347, Try.func79, name347, comp347⟩
  · cases h; exact ⟨Try.f80, h348, Try.func80, name348, comp348⟩
  · cases h; exact ⟨Try.f82, h350, Try.func82, name350, comp350⟩
  · cases h; exact ⟨Try.f70, h351, Try.func70, name351, comp351⟩
  · cases h; exact ⟨Try.f83, h352, Try.func83, name352, comp352⟩
  · cases h; exact ⟨Try.f84, h353, Try.func84, name353, comp353⟩
  · cases h; exact ⟨Try.f85, h354, Try.func85, name354, comp354⟩
  · cases h; exact ⟨Try.f86, h355, Try.func86, name355, comp355⟩
  · cases h; exact ⟨Try.f67, h356, Try.func67, name356, comp356⟩
  · cases h; exact ⟨Try.f87, h357, Try.func87, name357, comp357⟩
  · cases h; exact ⟨Try.f88, h358, Try.func88, name358, comp358⟩
  · cases h; exact ⟨Try.f72, h359, Try.func72, name359, comp359⟩
  · cases h; exact ⟨Try.f104, h367, Try.func104, name367, comp367⟩
  · cases h; exact ⟨Try.f103, h368, Try.func103, name368, comp368⟩
  · cases h; exact ⟨Try.f112, h369, Try.func112, name369, comp369⟩
  · cases h; exact ⟨Try.f113, h371, Try.func113, name371, comp371⟩
  · cases h; exact ⟨Try.f105, h393, Try.func105, name393, comp393⟩
  · cases h; exact ⟨Try.f106, h409, Try.func106, name409, comp409⟩
  · cases h; exact ⟨Try.f118, h440, Try.func118, name440, comp440⟩
  · cases h; exact ⟨Try.f108, h443, Try.func108, name443, comp443⟩
  · cases h; exact ⟨Try.f124, h445, Try.func124, name445, comp445⟩
  · cases h; exact ⟨Try.f125, h446, Try.func125, name446, comp446⟩
  · cases h; exact ⟨Try.f135, h456, Try.func135, name456, comp456⟩
  · cases h; exact ⟨Try.f62, h459, Try.func62, name459, comp459⟩
  · cases h; exact ⟨Try.f123, h474, Try.func123, name474, comp474⟩
  · cases h; exact ⟨Try.f110, h502, Try.func110, name502, comp502⟩
  · cases h; exact ⟨Try.f109, h503, Try.func109, name503, comp503⟩
  · cases h; exact ⟨Try.f111, h504, Try.func111, name504, comp504⟩
  · cases h; exact ⟨Try.f97, h505, Try.func97, name505, comp505⟩
  · cases h; exact ⟨Try.f98, h506, Try.func98, name506, comp506⟩
  · cases h; exact ⟨Try.f114, h507, Try.func114, name507, comp507⟩
  · cases h; exact ⟨Try.f115, h508, Try.func115, name508, comp508⟩
  · cases h; exact ⟨Try.f116, h509, Try.func116, name509, comp509⟩
  · cases h; exact ⟨Try.f117, h510, Try.func117, name510, comp510⟩
  · cases h; exact ⟨Try.f126, h512, Try.func126, name512, comp512⟩
  · cases h; exact ⟨Try.f89, h513, Try.func89, name513, comp513⟩
  · cases h; exact ⟨Try.f133, h514, Try.func133, name514, comp514⟩
  · cases h; exact ⟨Try.f128, h515, Try.func128, name515, comp515⟩
  · cases h; exact ⟨Try.f129, h516, Try.func129, name516, comp516⟩
  · cases h; exact ⟨Try.f130, h517, Try.func130, name517, comp517⟩
  · cases h; exact ⟨Try.f131, h518, Try.func131, name518, comp518⟩
  · cases h; exact ⟨Try.f132, h519, Try.func132, name519, comp519⟩
  · cases h; exact ⟨Try.f127, h530, Try.func127, name530, comp530⟩
  · cases h; exact ⟨Try.f137, h547, Try.func137, name547, comp547⟩
  · cases h; exact ⟨Try.f134, h549, Try.func134, name549, comp549⟩
  · cases h; exact ⟨Try.f94, h550, Try.func94, name550, comp550⟩
  · cases h; exact ⟨Try.f138, h565, Try.func138, name565, comp565⟩
  · cases h; exact ⟨Try.f139, h566, Try.func139, name566, comp566⟩
  · cases h; exact ⟨Try.f140, h589, Try.func140, name589, comp589⟩
  · cases h; exact ⟨Try.f141, h590, Try.func141, name590, comp590⟩
  · cases h; exact ⟨Try.f142, h610, Try.func142, name610, comp610⟩
  · cases h; exact ⟨Try.f143, h624, Try.func143, name624, comp624⟩
  · cases h
end Fb
