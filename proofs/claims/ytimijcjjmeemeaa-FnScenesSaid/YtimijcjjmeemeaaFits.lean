/- Each function of the law is compiled by the checker to its text in the small language. -/
import Derived.Test.YtimijcjjmeemeaaRow2
import Derived.Test.YtimijcjjmeemeaaTab
import Derived.Test.YtimijcjjmeemeaaRows
import Derived.KernelRfl
set_option linter.unusedVariables false
set_option linter.unusedSimpArgs false
namespace Fb
open Go Go.Proofs

def inv : FuncId → Option Nat := fun f => match f with
  | 4 => some 57
  | 5 => some 84
  | 33 => some 96
  | 34 => some 97
  | 35 => some 98
  | 36 => some 99
  | 47 => some 101
  | 18 => some 124
  | 48 => some 130
  | 39 => some 190
  | 38 => some 192
  | 49 => some 199
  | 17 => some 234
  | 37 => some 276
  | 40 => some 277
  | 41 => some 278
  | 42 => some 279
  | 43 => some 280
  | 44 => some 281
  | 45 => some 282
  | 46 => some 283
  | 50 => some 284
  | 51 => some 285
  | 52 => some 286
  | 53 => some 287
  | 104 => some 295
  | 116 => some 304
  | 63 => some 305
  | 55 => some 315
  | 85 => some 328
  | 86 => some 329
  | 87 => some 330
  | 88 => some 331
  | 89 => some 332
  | 135 => some 333
  | 101 => some 334
  | 102 => some 335
  | 127 => some 336
  | 133 => some 337
  | 78 => some 338
  | 99 => some 342
  | 83 => some 345
  | 132 => some 349
  | 77 => some 350
  | 76 => some 351
  | 74 => some 355
  | 103 => some 356
  | 73 => some 358
  | 61 => some 359
  | 54 => some 368
  | 75 => some 393
  | 60 => some 395
  | 91 => some 408
  | 92 => some 409
  | 90 => some 412
  | 105 => some 416
  | 62 => some 440
  | 66 => some 443
  | 68 => some 445
  | 69 => some 446
  | 141 => some 453
  | 100 => some 456
  | 111 => some 459
  | 145 => some 467
  | 130 => some 468
  | 93 => some 470
  | 94 => some 471
  | 95 => some 472
  | 96 => some 473
  | 97 => some 474
  | 98 => some 475
  | 106 => some 476
  | 107 => some 477
  | 108 => some 478
  | 109 => some 479
  | 110 => some 480
  | 124 => some 495
  | 125 => some 496
  | 126 => some 497
  | 128 => some 498
  | 129 => some 499
  | 131 => some 500
  | 136 => some 501
  | 121 => some 502
  | 120 => some 504
  | 118 => some 505
  | 119 => some 506
  | 112 => some 513
  | 117 => some 530
  | 115 => some 547
  | 138 => some 550
  | 134 => some 555
  | 137 => some 556
  | 142 => some 563
  | 143 => some 564
  | _ => none
def rho : Nat → FuncId := fun n => match n with
  | 57 => 4
  | 84 => 5
  | 96 => 33
  | 97 => 34
  | 98 => 35
  | 99 => 36
  | 101 => 47
  | 124 => 18
  | 130 => 48
  | 190 => 39
  | 192 => 38
  | 199 => 49
  | 234 => 17
  | 276 => 37
  | 277 => 40
  | 278 => 41
  | 279 => 42
  | 280 => 43
  | 281 => 44
  | 282 => 45
  | 283 => 46
  | 284 => 50
  | 285 => 51
  | 286 => 52
  | 287 => 53
  | 295 => 104
  | 304 => 116
  | 305 => 63
  | 315 => 55
  | 328 => 85
  | 329 => 86
  | 330 => 87
  | 331 => 88
  | 332 => 89
  | 333 => 135
  | 334 => 101
  | 335 => 102
  | 336 => 127
  | 337 => 133
  | 338 => 78
  | 342 => 99
  | 345 => 83
  | 349 => 132
  | 350 => 77
  | 351 => 76
  | 355 => 74
  | 356 => 103
  | 358 => 73
  | 359 => 61
  | 368 => 54
  | 393 => 75
  | 395 => 60
  | 408 => 91
  | 409 => 92
  | 412 => 90
  | 416 => 105
  | 440 => 62
  | 443 => 66
  | 445 => 68
  | 446 => 69
  | 453 => 141
  | 456 => 100
  | 459 => 111
  | 467 => 145
  | 468 => 130
  | 470 => 93
  | 471 => 94
  | 472 => 95
  | 473 => 96
  | 474 => 97
  | 475 => 98
  | 476 => 106
  | 477 => 107
  | 478 => 108
  | 479 => 109
  | 480 => 110
  | 495 => 124
  | 496 => 125
  | 497 => 126
  | 498 => 128
  | 499 => 129
  | 500 => 131
  | 501 => 136
  | 502 => 121
  | 504 => 120
  | 505 => 118
  | 506 => 119
  | 513 => 112
  | 530 => 117
  | 547 => 115
  | 550 => 138
  | 555 => 134
  | 556 => 137
  | 563 => 142
  | 564 => 143
  | _ => 0
def isPure : Nat → Bool := fun n => !([305, 328, 368, 459, 476, 495, 496, 513, 550] : List Nat).contains n
theorem inv_rho : ∀ f i, inv f = some i → rho i = f := by
  intro f i h
  unfold inv at h
  split at h <;> first | (cases h; rfl) | cases h
def h57 : Hint := ⟨.pure, [58, 44, 20, 14, 12, 10, 8], [0, 1, 4, 5, 6, 7, 8, 9, 10, 11, 12, 13, 14, 15, 16, 17, 18, 19, 20, 21, 22, 23, 24, 25, 26, 27, 28, 29, 30, 31, 32, 33, 34, 35, 36, 37, 38, 39, 40, 41, 42, 43, 44, 45, 46, 47, 48, 49, 50, 51, 52, 53, 54, 55, 56, 57, 58, 59, 60, 61, 64, 227, 232, 236, 294, 296, 367, 371, 375, 417, 431, 433, 457, 460, 480, 484, 517, 578, 580, 587, 591, 597, 603, 613], none⟩
theorem comp57 : compFn Try.prog inv isPure h57 Try.f4 = some c57 := by kernel_rfl
theorem name57 : (Try.f4.name == "runtime.NumGoroutine") = false := by kernel_rfl
def h84 : Hint := ⟨.pure, [], [0, 1, 4], none⟩
theorem comp84 : compFn Try.prog inv isPure h84 Try.f5 = some c84 := by kernel_rfl
theorem name84 : (Try.f5.name == "runtime.NumGoroutine") = false := by kernel_rfl
def h96 : Hint := ⟨.pure, [], [0, 2], none⟩
theorem comp96 : compFn Try.prog inv isPure h96 Try.f33 = some c96 := by kernel_rfl
theorem name96 : (Try.f33.name == "runtime.NumGoroutine") = false := by kernel_rfl
def h97 : Hint := ⟨.pure, [6], [0, 1, 2, 6, 7, 8, 14], none⟩
theorem comp97 : compFn Try.prog inv isPure h97 Try.f34 = some c97 := by kernel_rfl
theorem name97 : (Try.f34.name == "runtime.NumGoroutine") = false := by kernel_rfl
def h98 : Hint := ⟨.pure, [9, 6], [0, 1, 2, 6, 7, 8, 9, 15], none⟩
theorem comp98 : compFn Try.prog inv isPure h98 Try.f35 = some c98 := by kernel_rfl
theorem name98 : (Try.f35.name == "runtime.NumGoroutine") = false := by kernel_rfl
def h99 : Hint := ⟨.pure, [6], [0, 1, 2, 6, 7, 8, 14], none⟩
theorem comp99 : compFn Try.prog inv isPure h99 Try.f36 = some c99 := by kernel_rfl
theorem name99 : (Try.f36.name == "runtime.NumGoroutine") = false := by kernel_rfl
def h101 : Hint := ⟨.pure, [], [0, 1, 2, 3, 8, 9, 10, 11, 12, 13, 19, 24], none⟩
theorem comp101 : compFn Try.prog inv isPure h101 Try.f47 = some c101 := by kernel_rfl
theorem name101 : (Try.f47.name == "runtime.NumGoroutine") = false := by kernel_rfl
def h124 : Hint := ⟨.pure, [], [0, 1, 2, 6, 14], none⟩
theorem comp124 : compFn Try.prog inv isPure h124 Try.f18 = some c124 := by kernel_rfl
theorem name124 : (Try.f18.name == "runtime.NumGoroutine") = false := by kernel_rfl
def h130 : Hint := ⟨.pure, [], [0, 1, 4], none⟩
theorem comp130 : compFn Try.prog inv isPure h130 Try.f48 = some c130 := by kernel_rfl
theorem name130 : (Try.f48.name == "runtime.NumGoroutine") = false := by kernel_rfl
def h190 : Hint := ⟨.pure, [], [0, 1, 2, 6, 7, 8, 9, 10, 11, 17, 28, 35], none⟩
theorem comp190 : compFn Try.prog inv isPure h190 Try.f39 = some c190 := by kernel_rfl
theorem name190 : (Try.f39.name == "runtime.NumGoroutine") = false := by kernel_rfl
def h192 : Hint := ⟨.pure, [11], [0, 1, 2, 6, 7, 8, 9, 10, 11, 17, 23, 24, 25, 26, 32], none⟩
theorem comp192 : compFn Try.prog inv isPure h192 Try.f38 = some c192 := by kernel_rfl
theorem name192 : (Try.f38.name == "runtime.NumGoroutine") = false := by kernel_rfl
def h199 : Hint := ⟨.pure, [], [0, 1, 2, 3, 4, 5, 12, 13, 14, 15, 16, 22, 32, 34, 35, 36, 49], none⟩
theorem comp199 : compFn Try.prog inv isPure h199 Try.f49 = some c199 := by kernel_rfl
theorem name199 : (Try.f49.name == "runtime.NumGoroutine") = false := by kernel_rfl
def h234 : Hint := ⟨.pure, [], [0, 1, 2], none⟩
theorem comp234 : compFn Try.prog inv isPure h234 Try.f17 = some c234 := by kernel_rfl
theorem name234 : (Try.f17.name == "runtime.NumGoroutine") = false := by kernel_rfl
def h276 : Hint := ⟨.pure, [6], [0, 1, 2, 6, 7, 8, 14], none⟩
theorem comp276 : compFn Try.prog inv isPure h276 Try.f37 = some c276 := by kernel_rfl
theorem name276 : (Try.f37.name == "runtime.NumGoroutine") = false := by kernel_rfl
def h277 : Hint := ⟨.pure, [11], [0, 1, 2, 6, 7, 8, 9, 11, 17, 23, 24, 25, 26], none⟩
theorem comp277 : compFn Try.prog inv isPure h277 Try.f40 = some c277 := by kernel_rfl
theorem name277 : (Try.f40.name == "runtime.NumGoroutine") = false := by kernel_rfl
def h278 : Hint := ⟨.pure, [11], [0, 1, 2, 6, 7, 8, 9, 10, 11, 17, 23, 24, 25, 26, 32], none⟩
theorem comp278 : compFn Try.prog inv isPure h278 Try.f41 = some c278 := by kernel_rfl
theorem name278 : (Try.f41.name == "runtime.NumGoroutine") = false := by kernel_rfl
def h279 : Hint := ⟨.pure, [], [0, 1, 4], none⟩
theorem comp279 : compFn Try.prog inv isPure h279 Try.f42 = some c279 := by kernel_rfl
theorem name279 : (Try.f42.name == "runtime.NumGoroutine") = false := by kernel_rfl
def h280 : Hint := ⟨.pure, [], [0, 1, 4, 5, 10, 14, 25], none⟩
theorem comp280 : compFn Try.prog inv isPure h280 Try.f43 = some c280 := by kernel_rfl
theorem name280 : (Try.f43.name == "runtime.NumGoroutine") = false := by kernel_rfl
def h281 : Hint := ⟨.pure, [], [0, 2], none⟩
theorem comp281 : compFn Try.prog inv isPure h281 Try.f44 = some c281 := by kernel_rfl
theorem name281 : (Try.f44.name == "runtime.NumGoroutine") = false := by kernel_rfl
def h282 : Hint := ⟨.pure, [], [0, 1, 2, 3, 4, 8, 9, 10, 11, 12, 13, 19, 24, 32], none⟩
theorem comp282 : compFn Try.prog inv isPure h282 Try.f45 = some c282 := by kernel_rfl
theorem name282 : (Try.f45.name == "runtime.NumGoroutine") = false := by kernel_rfl
def h283 : Hint := ⟨.pure, [], [0, 1, 2, 3, 4, 10, 11, 12, 13, 14, 26, 28, 37, 45], none⟩
theorem comp283 : compFn Try.prog inv isPure h283 Try.f46 = some c283 := by kernel_rfl
theorem name283 : (Try.f46.name == "runtime.NumGoroutine") = false := by kernel_rfl
def h284 : Hint := ⟨.pure, [], [0, 1, 4, 5, 6, 10], none⟩
theorem comp284 : compFn Try.prog inv isPure h284 Try.f50 = some c284 := by kernel_rfl
theorem name284 : (Try.f50.name == "runtime.NumGoroutine") = false := by kernel_rfl
def h285 : Hint := ⟨.pure, [3], [0, 1, 3, 4, 5, 6, 15], none⟩
theorem comp285 : compFn Try.prog inv isPure h285 Try.f51 = some c285 := by kernel_rfl
theorem name285 : (Try.f51.name == "runtime.NumGoroutine") = false := by kernel_rfl
def h286 : Hint := ⟨.pure, [], [0, 1, 4, 5, 6, 11], none⟩
theorem comp286 : compFn Try.prog inv isPure h286 Try.f52 = some c286 := by kernel_rfl
theorem name286 : (Try.f52.name == "runtime.NumGoroutine") = false := by kernel_rfl
def h287 : Hint := ⟨.pure, [], [0, 1, 2, 3, 8, 9, 10, 11, 17, 23], none⟩
theorem comp287 : compFn Try.prog inv isPure h287 Try.f53 = some c287 := by kernel_rfl
theorem name287 : (Try.f53.name == "runtime.NumGoroutine") = false := by kernel_rfl
def h295 : Hint := ⟨.pure, [], [0, 1, 2, 6], none⟩
theorem comp295 : compFn Try.prog inv isPure h295 Try.f104 = some c295 := by kernel_rfl
theorem name295 : (Try.f104.name == "runtime.NumGoroutine") = false := by kernel_rfl
def h304 : Hint := ⟨.pure, [], [0, 1, 2, 6], none⟩
theorem comp304 : compFn Try.prog inv isPure h304 Try.f116 = some c304 := by kernel_rfl
theorem name304 : (Try.f116.name == "runtime.NumGoroutine") = false := by kernel_rfl
def h305 : Hint := ⟨.args, [], [0, 1, 2, 8], none⟩
theorem comp305 : compFn Try.prog inv isPure h305 Try.f63 = some c305 := by kernel_rfl
theorem name305 : (Try.f63.name == "runtime.NumGoroutine") = false := by kernel_rfl
def h315 : Hint := ⟨.pure, [], [0, 2], none⟩
theorem comp315 : compFn Try.prog inv isPure h315 Try.f55 = some c315 := by kernel_rfl
theorem name315 : (Try.f55.name == "runtime.NumGoroutine") = false := by kernel_rfl
def h328 : Hint := ⟨.args, [5], [0, 2, 3, 4, 5, 10], none⟩
theorem comp328 : compFn Try.prog inv isPure h328 Try.f85 = some c328 := by kernel_rfl
theorem name328 : (Try.f85.name == "runtime.NumGoroutine") = false := by kernel_rfl
def h329 : Hint := ⟨.pure, [], [0, 1, 2, 6, 7, 11], none⟩
theorem comp329 : compFn Try.prog inv isPure h329 Try.f86 = some c329 := by kernel_rfl
theorem name329 : (Try.f86.name == "runtime.NumGoroutine") = false := by kernel_rfl
def h330 : Hint := ⟨.pure, [9, 7, 6], [0, 1, 2, 6, 7, 9, 11, 12, 13, 14], none⟩
theorem comp330 : compFn Try.prog inv isPure h330 Try.f87 = some c330 := by kernel_rfl
theorem name330 : (Try.f87.name == "runtime.NumGoroutine") = false := by kernel_rfl
def h331 : Hint := ⟨.pure, [], [0, 1, 2, 6, 9, 17], none⟩
theorem comp331 : compFn Try.prog inv isPure h331 Try.f88 = some c331 := by kernel_rfl
theorem name331 : (Try.f88.name == "runtime.NumGoroutine") = false := by kernel_rfl
def h332 : Hint := ⟨.pure, [6], [0, 1, 2, 6, 7, 8, 9, 10, 11, 16], none⟩
theorem comp332 : compFn Try.prog inv isPure h332 Try.f89 = some c332 := by kernel_rfl
theorem name332 : (Try.f89.name == "runtime.NumGoroutine") = false := by kernel_rfl
def h333 : Hint := ⟨.pure, [1], [0, 1, 2], none⟩
theorem comp333 : compFn Try.prog inv isPure h333 Try.f135 = some c333 := by kernel_rfl
theorem name333 : (Try.f135.name == "runtime.NumGoroutine") = false := by kernel_rfl
def h334 : Hint := ⟨.pure, [], [0, 1, 4], none⟩
theorem comp334 : compFn Try.prog inv isPure h334 Try.f101 = some c334 := by kernel_rfl
theorem name334 : (Try.f101.name == "runtime.NumGoroutine") = false := by kernel_rfl
def h335 : Hint := ⟨.pure, [3], [0, 1, 2, 3, 6, 7], none⟩
theorem comp335 : compFn Try.prog inv isPure h335 Try.f102 = some c335 := by kernel_rfl
theorem name335 : (Try.f102.name == "runtime.NumGoroutine") = false := by kernel_rfl
def h336 : Hint := ⟨.pure, [6, 3], [0, 1, 2, 3, 6], none⟩
theorem comp336 : compFn Try.prog inv isPure h336 Try.f127 = some c336 := by kernel_rfl
theorem name336 : (Try.f127.name == "runtime.NumGoroutine") = false := by kernel_rfl
def h337 : Hint := ⟨.pure, [5, 4], [0, 1, 4, 5, 6, 9], none⟩
theorem comp337 : compFn Try.prog inv isPure h337 Try.f133 = some c337 := by kernel_rfl
theorem name337 : (Try.f133.name == "runtime.NumGoroutine") = false := by kernel_rfl
def h338 : Hint := ⟨.pure, [4, 3, 2], [0, 1, 2, 3, 4], none⟩
theorem comp338 : compFn Try.prog inv isPure h338 Try.f78 = some c338 := by kernel_rfl
theorem name338 : (Try.f78.name == "runtime.NumGoroutine") = false := by kernel_rfl
def h342 : Hint := ⟨.pure, [], [0, 1, 4], none⟩
theorem comp342 : compFn Try.prog inv isPure h342 Try.f99 = some c342 := by kernel_rfl
theorem name342 : (Try.f99.name == "runtime.NumGoroutine") = false := by kernel_rfl
def h345 : Hint := ⟨.pure, [], [0, 1, 4], none⟩
theorem comp345 : compFn Try.prog inv isPure h345 Try.f83 = some c345 := by kernel_rfl
theorem name345 : (Try.f83.name == "runtime.NumGoroutine") = false := by kernel_rfl
def h349 : Hint := ⟨.pure, [5, 4], [0, 1, 4, 5, 6, 9], none⟩
theorem comp349 : compFn Try.prog inv isPure h349 Try.f132 = some c349 := by kernel_rfl
theorem name349 : (Try.f132.name == "runtime.NumGoroutine") = false := by kernel_rfl
def h350 : Hint := ⟨.pure, [4, 3, 2], [0, 1, 2, 3, 4], none⟩
theorem comp350 : compFn Try.prog inv isPure h350 Try.f77 = some c350 := by kernel_rfl
theorem name350 : (Try.f77.name == "runtime.NumGoroutine") = false := by kernel_rfl
def h351 : Hint := ⟨.pure, [], [0, 2], none⟩
theorem comp351 : compFn Try.prog inv isPure h351 Try.f76 = some c351 := by kernel_rfl
theorem name351 : (Try.f76.name == "runtime.NumGoroutine") = false := by kernel_rfl
def h355 : Hint := ⟨.pure, [6], [0, 1, 2, 6, 7, 8, 9, 16], none⟩
theorem comp355 : compFn Try.prog inv isPure h355 Try.f74 = some c355 := by kernel_rfl
theorem name355 : (Try.f74.name == "runtime.NumGoroutine") = false := by kernel_rfl
def h356 : Hint := ⟨.pure, [], [0, 1, 4, 5, 10, 14, 25], none⟩
theorem comp356 : compFn Try.prog inv isPure h356 Try.f103 = some c356 := by kernel_rfl
theorem name356 : (Try.f103.name == "runtime.NumGoroutine") = false := by kernel_rfl
def h358 : Hint := ⟨.pure, [7, 6, 3], [0, 1, 2, 3, 6, 7, 8, 9, 13, 15, 16, 23, 25], none⟩
theorem comp358 : compFn Try.prog inv isPure h358 Try.f73 = some c358 := by kernel_rfl
theorem name358 : (Try.f73.name == "runtime.NumGoroutine") = false := by kernel_rfl
def h359 : Hint := ⟨.pure, [], [0, 2, 3, 5, 13], none⟩
theorem comp359 : compFn Try.prog inv isPure h359 Try.f61 = some c359 := by kernel_rfl
theorem name359 : (Try.f61.name == "runtime.NumGoroutine") = false := by kernel_rfl
def h368 : Hint := ⟨.args, [2], [0, 2, 3, 4, 5, 6, 7, 16, 23, 30, 36, 43, 45], none⟩
theorem comp368 : compFn Try.prog inv isPure h368 Try.f54 = some c368 := by kernel_rfl
theorem name368 : (Try.f54.name == "runtime.NumGoroutine") = false := by kernel_rfl
def h393 : Hint := ⟨.pure, [1], [0, 1, 2, 3, 5, 6, 7, 8], none⟩
theorem comp393 : compFn Try.prog inv isPure h393 Try.f75 = some c393 := by kernel_rfl
theorem name393 : (Try.f75.name == "runtime.NumGoroutine") = false := by kernel_rfl
def h395 : Hint := ⟨.pure, [3], [0, 1, 2, 3, 6], none⟩
theorem comp395 : compFn Try.prog inv isPure h395 Try.f60 = some c395 := by kernel_rfl
theorem name395 : (Try.f60.name == "runtime.NumGoroutine") = false := by kernel_rfl
def h408 : Hint := ⟨.pure, [], [0, 1, 2, 6, 7, 8, 9, 10, 11, 12, 18], none⟩
theorem comp408 : compFn Try.prog inv isPure h408 Try.f91 = some c408 := by kernel_rfl
theorem name408 : (Try.f91.name == "runtime.NumGoroutine") = false := by kernel_rfl
def h409 : Hint := ⟨.pure, [], [0, 2], none⟩
theorem comp409 : compFn Try.prog inv isPure h409 Try.f92 = some c409 := by kernel_rfl
theorem name409 : (Try.f92.name == "runtime.NumGoroutine") = false := by kernel_rfl
def h412 : Hint := ⟨.pure, [11, 10, 8], [0, 1, 2, 6, 7, 8, 10, 11, 14, 15, 16, 17], none⟩
theorem comp412 : compFn Try.prog inv isPure h412 Try.f90 = some c412 := by kernel_rfl
theorem name412 : (Try.f90.name == "runtime.NumGoroutine") = false := by kernel_rfl
def h416 : Hint := ⟨.pure, [], [0, 1, 4], none⟩
theorem comp416 : compFn Try.prog inv isPure h416 Try.f105 = some c416 := by kernel_rfl
theorem name416 : (Try.f105.name == "runtime.NumGoroutine") = false := by kernel_rfl
def h440 : Hint := ⟨.pure, [], [0, 2, 3, 4, 5, 8, 12, 18], none⟩
theorem comp440 : compFn Try.prog inv isPure h440 Try.f62 = some c440 := by kernel_rfl
theorem name440 : (Try.f62.name == "runtime.NumGoroutine") = false := by kernel_rfl
def h443 : Hint := ⟨.pure, [6, 4, 3], [0, 1, 2, 3, 4, 6, 7, 8, 9, 10, 11], none⟩
theorem comp443 : compFn Try.prog inv isPure h443 Try.f66 = some c443 := by kernel_rfl
theorem name443 : (Try.f66.name == "runtime.NumGoroutine") = false := by kernel_rfl
def h445 : Hint := ⟨.pure, [], [0, 1, 4], none⟩
theorem comp445 : compFn Try.prog inv isPure h445 Try.f68 = some c445 := by kernel_rfl
theorem name445 : (Try.f68.name == "runtime.NumGoroutine") = false := by kernel_rfl
def h446 : Hint := ⟨.pure, [], [0, 2], none⟩
theorem comp446 : compFn Try.prog inv isPure h446 Try.f69 = some c446 := by kernel_rfl
theorem name446 : (Try.f69.name == "runtime.NumGoroutine") = false := by kernel_rfl
def h453 : Hint := ⟨.pure, [2], [0, 2, 3, 4, 5, 6, 7, 16], none⟩
theorem comp453 : compFn Try.prog inv isPure h453 Try.f141 = some c453 := by kernel_rfl
theorem name453 : (Try.f141.name == "runtime.NumGoroutine") = false := by kernel_rfl
def h456 : Hint := ⟨.pure, [], [0, 1, 2, 6], none⟩
theorem comp456 : compFn Try.prog inv isPure h456 Try.f100 = some c456 := by kernel_rfl
theorem name456 : (Try.f100.name == "runtime.NumGoroutine") = false := by kernel_rfl
def h459 : Hint := ⟨.args, [], [0, 1, 4, 5, 7, 11], none⟩
theorem comp459 : compFn Try.prog inv isPure h459 Try.f111 = some c459 := by kernel_rfl
theorem name459 : (Try.f111.name == "runtime.NumGoroutine") = false := by kernel_rfl
def h467 : Hint := ⟨.pure, [], [0, 2, 14], none⟩
theorem comp467 : compFn Try.prog inv isPure h467 Try.f145 = some c467 := by kernel_rfl
theorem name467 : (Try.f145.name == "runtime.NumGoroutine") = false := by kernel_rfl
def h468 : Hint := ⟨.pure, [6], [0, 1, 2, 6], none⟩
theorem comp468 : compFn Try.prog inv isPure h468 Try.f130 = some c468 := by kernel_rfl
theorem name468 : (Try.f130.name == "runtime.NumGoroutine") = false := by kernel_rfl
def h470 : Hint := ⟨.pure, [], [0, 1, 4, 5, 10, 12, 13, 14, 24], none⟩
theorem comp470 : compFn Try.prog inv isPure h470 Try.f93 = some c470 := by kernel_rfl
theorem name470 : (Try.f93.name == "runtime.NumGoroutine") = false := by kernel_rfl
def h471 : Hint := ⟨.pure, [], [0, 1, 4], none⟩
theorem comp471 : compFn Try.prog inv isPure h471 Try.f94 = some c471 := by kernel_rfl
theorem name471 : (Try.f94.name == "runtime.NumGoroutine") = false := by kernel_rfl
def h472 : Hint := ⟨.pure, [1], [0, 1, 2], none⟩
theorem comp472 : compFn Try.prog inv isPure h472 Try.f95 = some c472 := by kernel_rfl
theorem name472 : (Try.f95.name == "runtime.NumGoroutine") = false := by kernel_rfl
def h473 : Hint := ⟨.pure, [1], [0, 1, 2], none⟩
theorem comp473 : compFn Try.prog inv isPure h473 Try.f96 = some c473 := by kernel_rfl
theorem name473 : (Try.f96.name == "runtime.NumGoroutine") = false := by kernel_rfl
def h474 : Hint := ⟨.pure, [], [0, 1, 4, 5, 7, 8, 9, 16], none⟩
theorem comp474 : compFn Try.prog inv isPure h474 Try.f97 = some c474 := by kernel_rfl
theorem name474 : (Try.f97.name == "runtime.NumGoroutine") = false := by kernel_rfl
def h475 : Hint := ⟨.pure, [3], [0, 1, 2, 3, 4], none⟩
theorem comp475 : compFn Try.prog inv isPure h475 Try.f98 = some c475 := by kernel_rfl
theorem name475 : (Try.f98.name == "runtime.NumGoroutine") = false := by kernel_rfl
def h476 : Hint := ⟨.args, [], [0, 1, 2, 6, 7, 16], none⟩
theorem comp476 : compFn Try.prog inv isPure h476 Try.f106 = some c476 := by kernel_rfl
theorem name476 : (Try.f106.name == "runtime.NumGoroutine") = false := by kernel_rfl
def h477 : Hint := ⟨.pure, [], [0, 2, 4], none⟩
theorem comp477 : compFn Try.prog inv isPure h477 Try.f107 = some c477 := by kernel_rfl
theorem name477 : (Try.f107.name == "runtime.NumGoroutine") = false := by kernel_rfl
def h478 : Hint := ⟨.pure, [], [0, 2, 3, 5, 6, 8, 9, 10, 11, 12, 20, 25, 26, 27, 28], none⟩
theorem comp478 : compFn Try.prog inv isPure h478 Try.f108 = some c478 := by kernel_rfl
theorem name478 : (Try.f108.name == "runtime.NumGoroutine") = false := by kernel_rfl
def h479 : Hint := ⟨.pure, [], [0, 1, 4, 5, 9, 14], none⟩
theorem comp479 : compFn Try.prog inv isPure h479 Try.f109 = some c479 := by kernel_rfl
theorem name479 : (Try.f109.name == "runtime.NumGoroutine") = false := by kernel_rfl
def h480 : Hint := ⟨.pure, [], [0, 1, 4, 5], none⟩
theorem comp480 : compFn Try.prog inv isPure h480 Try.f110 = some c480 := by kernel_rfl
theorem name480 : (Try.f110.name == "runtime.NumGoroutine") = false := by kernel_rfl
def h495 : Hint := ⟨.args, [2], [0, 2, 3, 4, 10], none⟩
theorem comp495 : compFn Try.prog inv isPure h495 Try.f124 = some c495 := by kernel_rfl
theorem name495 : (Try.f124.name == "runtime.NumGoroutine") = false := by kernel_rfl
def h496 : Hint := ⟨.args, [], [0, 1, 4], none⟩
theorem comp496 : compFn Try.prog inv isPure h496 Try.f125 = some c496 := by kernel_rfl
theorem name496 : (Try.f125.name == "runtime.NumGoroutine") = false := by kernel_rfl
def h497 : Hint := ⟨.pure, [4, 3, 2], [0, 1, 2, 3, 4], none⟩
theorem comp497 : compFn Try.prog inv isPure h497 Try.f126 = some c497 := by kernel_rfl
theorem name497 : (Try.f126.name == "runtime.NumGoroutine") = false := by kernel_rfl
def h498 : Hint := ⟨.pure, [], [0, 2, 3, 7, 14], none⟩
theorem comp498 : compFn Try.prog inv isPure h498 Try.f128 = some c498 := by kernel_rfl
theorem name498 : (Try.f128.name == "runtime.NumGoroutine") = false := by kernel_rfl
def h499 : Hint := ⟨.pure, [], [0, 1, 2, 6, 7, 8], none⟩
theorem comp499 : compFn Try.prog inv isPure h499 Try.f129 = some c499 := by kernel_rfl
theorem name499 : (Try.f129.name == "runtime.NumGoroutine") = false := by kernel_rfl
def h500 : Hint := ⟨.pure, [4], [0, 1, 4, 5], none⟩
theorem comp500 : compFn Try.prog inv isPure h500 Try.f131 = some c500 := by kernel_rfl
theorem name500 : (Try.f131.name == "runtime.NumGoroutine") = false := by kernel_rfl
def h501 : Hint := ⟨.pure, [], [0, 1, 4], none⟩
theorem comp501 : compFn Try.prog inv isPure h501 Try.f136 = some c501 := by kernel_rfl
theorem name501 : (Try.f136.name == "runtime.NumGoroutine") = false := by kernel_rfl
def h502 : Hint := ⟨.pure, [], [0, 1, 4], none⟩
theorem comp502 : compFn Try.prog inv isPure h502 Try.f121 = some c502 := by kernel_rfl
theorem name502 : (Try.f121.name == "runtime.NumGoroutine") = false := by kernel_rfl
def h504 : Hint := ⟨.pure, [], [0, 1, 4], none⟩
theorem comp504 : compFn Try.prog inv isPure h504 Try.f120 = some c504 := by kernel_rfl
theorem name504 : (Try.f120.name == "runtime.NumGoroutine") = false := by kernel_rfl
def h505 : Hint := ⟨.pure, [], [0, 1, 4], none⟩
theorem comp505 : compFn Try.prog inv isPure h505 Try.f118 = some c505 := by kernel_rfl
theorem name505 : (Try.f118.name == "runtime.NumGoroutine") = false := by kernel_rfl
def h506 : Hint := ⟨.pure, [1], [0, 1, 2], none⟩
theorem comp506 : compFn Try.prog inv isPure h506 Try.f119 = some c506 := by kernel_rfl
theorem name506 : (Try.f119.name == "runtime.NumGoroutine") = false := by kernel_rfl
def h513 : Hint := ⟨.args, [], [0, 1, 4], none⟩
theorem comp513 : compFn Try.prog inv isPure h513 Try.f112 = some c513 := by kernel_rfl
theorem name513 : (Try.f112.name == "runtime.NumGoroutine") = false := by kernel_rfl
def h530 : Hint := ⟨.pure, [], [0, 2], none⟩
theorem comp530 : compFn Try.prog inv isPure h530 Try.f117 = some c530 := by kernel_rfl
theorem name530 : (Try.f117.name == "runtime.NumGoroutine") = false := by kernel_rfl
def h547 : Hint := ⟨.pure, [], [0, 1, 4, 5, 7, 8, 9, 16], none⟩
theorem comp547 : compFn Try.prog inv isPure h547 Try.f115 = some c547 := by kernel_rfl
theorem name547 : (Try.f115.name == "runtime.NumGoroutine") = false := by kernel_rfl
def h550 : Hint := ⟨.args, [], [0, 2, 3, 13, 53], none⟩
theorem comp550 : compFn Try.prog inv isPure h550 Try.f138 = some c550 := by kernel_rfl
theorem name550 : (Try.f138.name == "runtime.NumGoroutine") = false := by kernel_rfl
def h555 : Hint := ⟨.pure, [], [0, 1, 4, 5, 7, 8, 9, 16], none⟩
theorem comp555 : compFn Try.prog inv isPure h555 Try.f134 = some c555 := by kernel_rfl
theorem name555 : (Try.f134.name == "runtime.NumGoroutine") = false := by kernel_rfl
def h556 : Hint := ⟨.pure, [], [0, 1, 4, 6, 16], none⟩
theorem comp556 : compFn Try.prog inv isPure h556 Try.f137 = some c556 := by kernel_rfl
theorem name556 : (Try.f137.name == "runtime.NumGoroutine") = false := by kernel_rfl
def h563 : Hint := ⟨.pure, [], [0, 2], none⟩
theorem comp563 : compFn Try.prog inv isPure h563 Try.f142 = some c563 := by kernel_rfl
theorem name563 : (Try.f142.name == "runtime.NumGoroutine") = false := by kernel_rfl
def h564 : Hint := ⟨.pure, [], [0, 1, 4, 5, 20], none⟩
theorem comp564 : compFn Try.prog inv isPure h564 Try.f143 = some c564 := by kernel_rfl
theorem name564 : (Try.f143.name == "runtime.NumGoroutine") = false := by kernel_rfl
theorem tab_ok : ∀ f D, tab f = some D → DefOk Try.prog inv isPure rho Glb.none f D := by
  intro f D h
  unfold tab at h
  split at h
  · cases h; exact ⟨Try.f4, h57, fun _ h => (by cases h), Try.func4, name57, comp57⟩
  · cases h; exact ⟨Try.f5, h84, fun _ h => (by cases h), Try.func5, name84, comp84⟩
  · cases h; exact ⟨Try.f33, h96, fun _ h => (by cases h), Try.func33, name96, comp96⟩
  · cases h; exact ⟨Try.f34, h97, fun _ h => (by cases h), Try.func34, name97, comp97⟩
  · cases h; exact ⟨Try.f35, h98, fun _ h => (by cases h), Try.func35, name98, comp98⟩
  · cases h; exact ⟨Try.f36, h99, fun _ h => (by cases h), Try.func36, name99, comp99⟩
  · cases h; exact ⟨Try.f47, h101, fun _ h => (by cases h), Try.func47, name101, comp101⟩
  · cases h; exact ⟨Try.f18, h124, fun _ h => (by cases h), Try.func18, name124, comp124⟩
  · cases h; exact ⟨Try.f48, h130, fun _ h => (by cases h), Try.func48, name130, comp130⟩
  · cases h; exact ⟨Try.f39, h190, fun _ h => (by cases h), Try.func39, name190, comp190⟩
  · cases h; exact ⟨Try.f38, h192, fun _ h => (by cases h), Try.func38, name192, comp192⟩
  · cases h; exact ⟨Try.f49, h199, fun _ h => (by cases h), Try.func49, name199, comp199⟩
  · cases h; exact ⟨Try.f17, h234, fun _ h => (by cases h), Try.func17, name234, comp234⟩
  · cases h; exact ⟨Try.f37, h276, fun _ h => (by cases h), Try.func37, name276, comp276⟩
  · cases h; exact ⟨Try.f40, h277, fun _ h => (by cases h), Try.func40, name277, comp277⟩
  · cases h; exact ⟨Try.f41, h278, fun _ h => (by cases h), Try.func41, name278, comp278⟩
  · cases h; exact ⟨Try.f42, h279, fun _ h => (by cases h), Try.func42, name279, comp279⟩
  · cases h; exact ⟨Try.f43, h280, fun _ h => (by cases h), Try.func43, name280, comp280⟩
  · cases h; exact ⟨Try.f44, h281, fun _ h => (by cases h), Try.func44, name281, comp281⟩
  · cases h; exact ⟨Try.f45, h282, fun _ h => (by cases h), Try.func45, name282, comp282⟩
  · cases h; exact ⟨Try.f46, h283, fun _ h => (by cases h), Try.func46, name283, comp283⟩
  · cases h; exact ⟨Try.f50, h284, fun _ h => (by cases h), Try.func50, name284, comp284⟩
  · cases h; exact ⟨Try.f51, h285, fun _ h => (by cases h), Try.func51, name285, comp285⟩
  · cases h; exact ⟨Try.f52, h286, fun _ h => (by cases h), Try.func52, name286, comp286⟩
  · cases h; exact ⟨Try.f53, h287, fun _ h => (by cases h), Try.func53, name287, comp287⟩
  · cases h; exact ⟨Try.f104, h295, fun _ h => (by cases h), Try.func104, name295, comp295⟩
  · cases h; exact ⟨Try.f116, h304, fun _ h => (by cases h), Try.func116, name304, comp304⟩
  · cases h; exact ⟨Try.f63, h305, fun _ h => (by cases h), Try.func63, name305, comp305⟩
  · cases h; exact ⟨Try.f55, h315, fun _ h => (by cases h), Try.func55, name315, comp315⟩
  · cases h; exact ⟨Try.f85, h328, fun _ h => (by cases h), Try.func85, name328, comp328⟩
  · cases h; exact ⟨Try.f86, h329, fun _ h => (by cases h), Try.func86, name329, comp329⟩
  · cases h; exact ⟨Try.f87, h330, fun _ h => (by cases h), Try.func87, name330, comp330⟩
  · cases h; exact ⟨Try.f88, h331, fun _ h => (by cases h), Try.func88, name331, comp331⟩
  · cases h; exact ⟨Try.f89, h332, fun _ h => (by cases h), Try.func89, name332, comp332⟩
  · cases h; exact ⟨Try.f135, h333, fun _ h => (by cases h), Try.func135, name333, comp333⟩
  · cases h; exact ⟨Try.f101, h334, fun _ h => (by cases h), Try.func101, name334, comp334⟩
  · cases h; exact ⟨Try.f102, h335, fun _ h => (by cases h), Try.func102, name335, comp335⟩
  · cases h; exact ⟨Try.f127, h336, fun _ h => (by cases h), Try.func127, name336, comp336⟩
  · cases h; exact ⟨Try.f133, h337, fun _ h => (by cases h), Try.func133, name337, comp337⟩
  · cases h; exact ⟨Try.f78, h338, fun _ h => (by cases h), Try.func78, name338, comp338⟩
  · cases h; exact ⟨Try.f99, h342, fun _ h => (by cases h), Try.func99, name342, comp342⟩
  · cases h; exact ⟨Try.f83, h345, fun _ h => (by cases h), Try.func83, name345, comp345⟩
  · cases h; exact ⟨Try.f132, h349, fun _ h => (by cases h), Try.func132, name349, comp349⟩
  · cases h; exact ⟨Try.f77, h350, fun _ h => (by cases h), Try.func77, name350, comp350⟩
  · cases h; exact ⟨Try.f76, h351, fun _ h => (by cases h), Try.func76, name351, comp351⟩
  · cases h; exact ⟨Try.f74, h355, fun _ h => (by cases h), Try.func74, name355, comp355⟩
  · cases h; exact ⟨Try.f103, h356, fun _ h => (by cases h), Try.func103, name356, comp356⟩
  · cases h; exact ⟨Try.f73, h358, fun _ h => (by cases h), Try.func73, name358, comp358⟩
  · cases h; exact ⟨Try.f61, h359, fun _ h => (by cases h), Try.func61, name359, comp359⟩
  · cases h; exact ⟨Try.f54, h368, fun _ h => (by cases h), Try.func54, name368, comp368⟩
  · cases h; exact ⟨Try.f75, h393, fun _ h => (by cases h), Try.func75, name393, comp393⟩
  · cases h; exact ⟨Try.f60, h395, fun _ h => (by cases h), Try.func60, name395, comp395⟩
  · cases h; exact ⟨Try.f91, h408, fun _ h => (by cases h), Try.func91, name408, comp408⟩
  · cases h; exact ⟨Try.f92, h409, fun _ h => (by cases h), Try.func92, name409, comp409⟩
  · cases h; exact ⟨Try.f90, h412, fun _ h => (by cases h), Try.func90, name412, comp412⟩
  · cases h; exact ⟨Try.f105, h416, fun _ h => (by cases h), Try.func105, name416, comp416⟩
  · cases h; exact ⟨Try.f62, h440, fun _ h => (by cases h), Try.func62, name440, comp440⟩
  · cases h; exact ⟨Try.f66, h443, fun _ h => (by cases h), Try.func66, name443, comp443⟩
  · cases h; exact ⟨Try.f68, h445, fun _ h => (by cases h), Try.func68, name445, comp445⟩
  · cases h; exact ⟨Try.f69, h446, fun _ h => (by cases h), Try.func69, name446, comp446⟩
  · cases h; exact ⟨Try.f141, h453, fun _ h => (by cases h), Try.func141, name453, comp453⟩
  · cases h; exact ⟨Try.f100, h456, fun _ h => (by cases h), Try.func100, name456, comp456⟩
  · cases h; exact ⟨Try.f111, h459, fun _ h => (by cases h), Try.func111, name459, comp459⟩
  · cases h; exact ⟨Try.f145, h467, fun _ h => (by cases h), Try.func145, name467, comp467⟩
  · cases h; exact ⟨Try.f130, h468, fun _ h => (by cases h), Try.func130, name468, comp468⟩
  · cases h; exact ⟨Try.f93, h470, fun _ h => (by cases h), Try.func93, name470, comp470⟩
  · cases h; exact ⟨Try.f94, h471, fun _ h => (by cases h), Try.func94, name471, comp471⟩
  · cases h; exact ⟨Try.f95, h472, fun _ h => (by cases h), Try.func95, name472, comp472⟩
  · cases h; exact ⟨Try.f96, h473, fun _ h => (by cases h), Try.func96, name473, comp473⟩
  · cases h; exact ⟨Try.f97, h474, fun _ h => (by cases h), Try.func97, name474, comp474⟩
  · cases h; exact ⟨Try.f98, h475, fun _ h => (by cases h), Try.func98, name475, comp475⟩
  · cases h; exact ⟨Try.f106, h476, fun _ h => (by cases h), Try.func106, name476, comp476⟩
  · cases h; exact ⟨Try.f107, h477, fun _ h => (by cases h), Try.func107, name477, comp477⟩
  · cases h; exact ⟨Try.f108, h478, fun _ h => (by cases h), Try.func108, name478, comp478⟩
  · cases h; exact ⟨Try.f109, h479, fun _ h => (by cases h), Try.func109, name479, comp479⟩
  · cases h; exact ⟨Try.f110, h480, fun _ h => (by cases h), Try.func110, name480, comp480⟩
  · cases h; exact ⟨Try.f124, h495, fun _ h => (by cases h), Try.func124, name495, comp495⟩
  · cases h; exact ⟨Try.f125, h496, fun _ h => (by cases h), Try.func125, name496, comp496⟩
  · cases h; exact ⟨Try.f126, h497, fun _ h => (by cases h), Try.func126, name497, comp497⟩
  · cases h; exact ⟨Try.f128, h498, fun _ h => (by cases h), Try.func128, name498, comp498⟩
  · cases h; exact ⟨Try.f129, h499, fun _ h => (by cases h), Try.func129, name499, comp499⟩
  · cases h; exact ⟨Try.f131, h500, fun _ h => (by cases h), Try.func131, name500, comp500⟩
  · cases h; exact ⟨Try.f136, h501, fun _ h => (by cases h), Try.func136, name501, comp501⟩
  · cases h; exact ⟨Try.f121, h502, fun _ h => (by cases h), Try.func121, name502, comp502⟩
  · cases h; exact ⟨Try.f120, h504, fun _ h => (by cases h), Try.func120, name504, comp504⟩
  · cases h; exact ⟨Try.f118, h505, fun _ h => (by cases h), Try.func118, name505, comp505⟩
  · cases h; exact ⟨Try.f119, h506, fun _ h => (by cases h), Try.func119, name506, comp506⟩
  · cases h; exact ⟨Try.f112, h513, fun _ h => (by cases h), Try.func112, name513, comp513⟩
  · cases h; exact ⟨Try.f117, h530, fun _ h => (by cases h), Try.func117, name530, comp530⟩
  · cases h; exact ⟨Try.f115, h547, fun _ h => (by cases h), Try.func115, name547, comp547⟩
  · cases h; exact ⟨Try.f138, h550, fun _ h => (by cases h), Try.func138, name550, comp550⟩
  · cases h; exact ⟨Try.f134, h555, fun _ h => (by cases h), Try.func134, name555, comp555⟩
  · cases h; exact ⟨Try.f137, h556, fun _ h => (by cases h), Try.func137, name556, comp556⟩
  · cases h; exact ⟨Try.f142, h563, fun _ h => (by cases h), Try.func142, name563, comp563⟩
  · cases h; exact ⟨Try.f143, h564, fun _ h => (by cases h), Try.func143, name564, comp564⟩
  · cases h
end Fb
