/- Each function of the law is compiled by the checker to its text in the small language. -/
import Derived.Test.YtmdnahopljfakaaGreatRow2
import Derived.Test.YtmdnahopljfakaaGreatTab
import Derived.Test.YtmdnahopljfakaaGreatRows
import Derived.KernelRfl
set_option linter.unusedVariables false
set_option linter.unusedSimpArgs false
namespace Fb
open Go Go.Proofs

def inv : FuncId → Option Nat := fun f => match f with
  | 3 => some 10
  | 4 => some 84
  | 5 => some 85
  | 6 => some 86
  | 7 => some 87
  | 8 => some 88
  | 9 => some 89
  | 10 => some 90
  | 11 => some 91
  | 12 => some 92
  | 13 => some 93
  | 14 => some 94
  | 15 => some 95
  | 16 => some 96
  | 17 => some 97
  | 18 => some 98
  | 19 => some 99
  | 20 => some 100
  | 21 => some 101
  | 22 => some 102
  | 78 => some 234
  | 61 => some 281
  | 45 => some 295
  | 65 => some 304
  | 72 => some 305
  | 23 => some 314
  | 24 => some 315
  | 25 => some 316
  | 26 => some 317
  | 27 => some 318
  | 28 => some 319
  | 29 => some 320
  | 30 => some 321
  | 31 => some 322
  | 32 => some 323
  | 33 => some 324
  | 34 => some 325
  | 35 => some 326
  | 36 => some 327
  | 37 => some 328
  | 38 => some 329
  | 39 => some 330
  | 40 => some 331
  | 41 => some 332
  | 42 => some 333
  | 43 => some 334
  | 44 => some 335
  | 46 => some 336
  | 86 => some 337
  | 90 => some 338
  | 95 => some 342
  | 93 => some 349
  | 69 => some 350
  | 50 => some 351
  | 49 => some 355
  | 71 => some 358
  | 52 => some 359
  | 56 => some 367
  | 47 => some 368
  | 57 => some 393
  | 58 => some 409
  | 62 => some 416
  | 75 => some 440
  | 82 => some 443
  | 98 => some 445
  | 99 => some 446
  | 85 => some 453
  | 96 => some 456
  | 48 => some 459
  | 105 => some 467
  | 67 => some 468
  | 87 => some 471
  | 88 => some 472
  | 89 => some 473
  | 97 => some 474
  | 51 => some 491
  | 53 => some 492
  | 54 => some 493
  | 55 => some 494
  | 59 => some 495
  | 60 => some 496
  | 63 => some 497
  | 64 => some 498
  | 66 => some 499
  | 68 => some 500
  | 70 => some 501
  | 104 => some 502
  | 94 => some 504
  | 76 => some 505
  | 77 => some 506
  | 83 => some 512
  | 73 => some 513
  | 84 => some 530
  | 106 => some 547
  | 74 => some 550
  | 103 => some 555
  | 79 => some 560
  | 80 => some 561
  | 81 => some 562
  | 91 => some 563
  | 92 => some 564
  | 100 => some 586
  | 101 => some 587
  | 102 => some 588
  | _ => none
def rho : Nat → FuncId := fun n => match n with
  | 10 => 3
  | 84 => 4
  | 85 => 5
  | 86 => 6
  | 87 => 7
  | 88 => 8
  | 89 => 9
  | 90 => 10
  | 91 => 11
  | 92 => 12
  | 93 => 13
  | 94 => 14
  | 95 => 15
  | 96 => 16
  | 97 => 17
  | 98 => 18
  | 99 => 19
  | 100 => 20
  | 101 => 21
  | 102 => 22
  | 234 => 78
  | 281 => 61
  | 295 => 45
  | 304 => 65
  | 305 => 72
  | 314 => 23
  | 315 => 24
  | 316 => 25
  | 317 => 26
  | 318 => 27
  | 319 => 28
  | 320 => 29
  | 321 => 30
  | 322 => 31
  | 323 => 32
  | 324 => 33
  | 325 => 34
  | 326 => 35
  | 327 => 36
  | 328 => 37
  | 329 => 38
  | 330 => 39
  | 331 => 40
  | 332 => 41
  | 333 => 42
  | 334 => 43
  | 335 => 44
  | 336 => 46
  | 337 => 86
  | 338 => 90
  | 342 => 95
  | 349 => 93
  | 350 => 69
  | 351 => 50
  | 355 => 49
  | 358 => 71
  | 359 => 52
  | 367 => 56
  | 368 => 47
  | 393 => 57
  | 409 => 58
  | 416 => 62
  | 440 => 75
  | 443 => 82
  | 445 => 98
  | 446 => 99
  | 453 => 85
  | 456 => 96
  | 459 => 48
  | 467 => 105
  | 468 => 67
  | 471 => 87
  | 472 => 88
  | 473 => 89
  | 474 => 97
  | 491 => 51
  | 492 => 53
  | 493 => 54
  | 494 => 55
  | 495 => 59
  | 496 => 60
  | 497 => 63
  | 498 => 64
  | 499 => 66
  | 500 => 68
  | 501 => 70
  | 502 => 104
  | 504 => 94
  | 505 => 76
  | 506 => 77
  | 512 => 83
  | 513 => 73
  | 530 => 84
  | 547 => 106
  | 550 => 74
  | 555 => 103
  | 560 => 79
  | 561 => 80
  | 562 => 81
  | 563 => 91
  | 564 => 92
  | 586 => 100
  | 587 => 101
  | 588 => 102
  | _ => 0
def isPure : Nat → Bool := fun n => !([305, 314, 328, 368, 459, 495, 496, 513, 550] : List Nat).contains n
theorem inv_rho : ∀ f i, inv f = some i → rho i = f := by
  intro f i h
  unfold inv at h
  split at h <;> first | (cases h; rfl) | cases h
def h10 : Hint := ⟨.pure, [40, 35, 33, 31, 29], [0, 1, 4, 5, 6, 7, 8, 9, 10, 12, 13, 14, 15, 16, 17, 18, 19, 20, 21, 22, 23, 24, 25, 26, 27, 28, 29, 30, 31, 32, 33, 34, 35, 36, 37, 38, 39, 40, 41, 42, 45, 96, 146, 150, 180, 227, 230, 255, 257, 283]⟩
theorem comp10 : compFn Tryz.prog inv isPure h10 Tryz.f3 = some c10 := by kernel_rfl
theorem name10 : (Tryz.f3.name == "runtime.NumGoroutine") = false := by kernel_rfl
def h84 : Hint := ⟨.pure, [], [0, 1, 4]⟩
theorem comp84 : compFn Tryz.prog inv isPure h84 Tryz.f4 = some c84 := by kernel_rfl
theorem name84 : (Tryz.f4.name == "runtime.NumGoroutine") = false := by kernel_rfl
def h85 : Hint := ⟨.pure, [], [0, 2]⟩
theorem comp85 : compFn Tryz.prog inv isPure h85 Tryz.f5 = some c85 := by kernel_rfl
theorem name85 : (Tryz.f5.name == "runtime.NumGoroutine") = false := by kernel_rfl
def h86 : Hint := ⟨.pure, [], [0, 2, 3, 5, 6, 7, 8, 11, 18, 19, 20, 21, 35, 59]⟩
theorem comp86 : compFn Tryz.prog inv isPure h86 Tryz.f6 = some c86 := by kernel_rfl
theorem name86 : (Tryz.f6.name == "runtime.NumGoroutine") = false := by kernel_rfl
def h87 : Hint := ⟨.pure, [], [0, 2, 3, 5, 6, 7, 10, 21, 37, 45]⟩
theorem comp87 : compFn Tryz.prog inv isPure h87 Tryz.f7 = some c87 := by kernel_rfl
theorem name87 : (Tryz.f7.name == "runtime.NumGoroutine") = false := by kernel_rfl
def h88 : Hint := ⟨.pure, [], [0, 2, 3, 4, 5, 6, 9]⟩
theorem comp88 : compFn Tryz.prog inv isPure h88 Tryz.f8 = some c88 := by kernel_rfl
theorem name88 : (Tryz.f8.name == "runtime.NumGoroutine") = false := by kernel_rfl
def h89 : Hint := ⟨.pure, [], [0, 1, 4, 5, 6, 8, 12, 15, 16, 17, 18]⟩
theorem comp89 : compFn Tryz.prog inv isPure h89 Tryz.f9 = some c89 := by kernel_rfl
theorem name89 : (Tryz.f9.name == "runtime.NumGoroutine") = false := by kernel_rfl
def h90 : Hint := ⟨.pure, [], [0, 1, 4, 5, 10, 14, 25]⟩
theorem comp90 : compFn Tryz.prog inv isPure h90 Tryz.f10 = some c90 := by kernel_rfl
theorem name90 : (Tryz.f10.name == "runtime.NumGoroutine") = false := by kernel_rfl
def h91 : Hint := ⟨.pure, [], [0, 1, 4]⟩
theorem comp91 : compFn Tryz.prog inv isPure h91 Tryz.f11 = some c91 := by kernel_rfl
theorem name91 : (Tryz.f11.name == "runtime.NumGoroutine") = false := by kernel_rfl
def h92 : Hint := ⟨.pure, [], [0, 1, 4, 5, 6, 7, 8, 9, 10, 11, 12, 13, 14, 18, 21, 30, 38, 59]⟩
theorem comp92 : compFn Tryz.prog inv isPure h92 Tryz.f12 = some c92 := by kernel_rfl
theorem name92 : (Tryz.f12.name == "runtime.NumGoroutine") = false := by kernel_rfl
def h93 : Hint := ⟨.pure, [], [0, 1, 4, 5, 6, 7, 8, 9, 10, 11, 12, 13, 16, 18, 22, 27, 35, 54]⟩
theorem comp93 : compFn Tryz.prog inv isPure h93 Tryz.f13 = some c93 := by kernel_rfl
theorem name93 : (Tryz.f13.name == "runtime.NumGoroutine") = false := by kernel_rfl
def h94 : Hint := ⟨.pure, [], [0, 2, 3, 6]⟩
theorem comp94 : compFn Tryz.prog inv isPure h94 Tryz.f14 = some c94 := by kernel_rfl
theorem name94 : (Tryz.f14.name == "runtime.NumGoroutine") = false := by kernel_rfl
def h95 : Hint := ⟨.pure, [], [0, 1, 2, 3, 4, 5, 6, 9]⟩
theorem comp95 : compFn Tryz.prog inv isPure h95 Tryz.f15 = some c95 := by kernel_rfl
theorem name95 : (Tryz.f15.name == "runtime.NumGoroutine") = false := by kernel_rfl
def h96 : Hint := ⟨.pure, [], [0, 2]⟩
theorem comp96 : compFn Tryz.prog inv isPure h96 Tryz.f16 = some c96 := by kernel_rfl
theorem name96 : (Tryz.f16.name == "runtime.NumGoroutine") = false := by kernel_rfl
def h97 : Hint := ⟨.pure, [6], [0, 1, 2, 6, 7, 8, 14]⟩
theorem comp97 : compFn Tryz.prog inv isPure h97 Tryz.f17 = some c97 := by kernel_rfl
theorem name97 : (Tryz.f17.name == "runtime.NumGoroutine") = false := by kernel_rfl
def h98 : Hint := ⟨.pure, [9, 6], [0, 1, 2, 6, 7, 8, 9, 15]⟩
theorem comp98 : compFn Tryz.prog inv isPure h98 Tryz.f18 = some c98 := by kernel_rfl
theorem name98 : (Tryz.f18.name == "runtime.NumGoroutine") = false := by kernel_rfl
def h99 : Hint := ⟨.pure, [6], [0, 1, 2, 6, 7, 8, 14]⟩
theorem comp99 : compFn Tryz.prog inv isPure h99 Tryz.f19 = some c99 := by kernel_rfl
theorem name99 : (Tryz.f19.name == "runtime.NumGoroutine") = false := by kernel_rfl
def h100 : Hint := ⟨.pure, [2, 1], [0, 1, 2, 3, 6]⟩
theorem comp100 : compFn Tryz.prog inv isPure h100 Tryz.f20 = some c100 := by kernel_rfl
theorem name100 : (Tryz.f20.name == "runtime.NumGoroutine") = false := by kernel_rfl
def h101 : Hint := ⟨.pure, [], [0, 1, 2, 3, 8, 9, 10, 11, 12, 13, 19, 24]⟩
theorem comp101 : compFn Tryz.prog inv isPure h101 Tryz.f21 = some c101 := by kernel_rfl
theorem name101 : (Tryz.f21.name == "runtime.NumGoroutine") = false := by kernel_rfl
def h102 : Hint := ⟨.pure, [6, 3], [0, 1, 2, 3, 6, 7, 8, 13]⟩
theorem comp102 : compFn Tryz.prog inv isPure h102 Tryz.f22 = some c102 := by kernel_rfl
theorem name102 : (Tryz.f22.name == "runtime.NumGoroutine") = false := by kernel_rfl
def h234 : Hint := ⟨.pure, [], [0, 1, 2]⟩
theorem comp234 : compFn Tryz.prog inv isPure h234 Tryz.f78 = some c234 := by kernel_rfl
theorem name234 : (Tryz.f78.name == "runtime.NumGoroutine") = false := by kernel_rfl
def h281 : Hint := ⟨.pure, [], [0, 2]⟩
theorem comp281 : compFn Tryz.prog inv isPure h281 Tryz.f61 = some c281 := by kernel_rfl
theorem name281 : (Tryz.f61.name == "runtime.NumGoroutine") = false := by kernel_rfl
def h295 : Hint := ⟨.pure, [], [0, 1, 2, 6]⟩
theorem comp295 : compFn Tryz.prog inv isPure h295 Tryz.f45 = some c295 := by kernel_rfl
theorem name295 : (Tryz.f45.name == "runtime.NumGoroutine") = false := by kernel_rfl
def h304 : Hint := ⟨.pure, [], [0, 1, 2, 6]⟩
theorem comp304 : compFn Tryz.prog inv isPure h304 Tryz.f65 = some c304 := by kernel_rfl
theorem name304 : (Tryz.f65.name == "runtime.NumGoroutine") = false := by kernel_rfl
def h305 : Hint := ⟨.args, [], [0, 1, 2, 8]⟩
theorem comp305 : compFn Tryz.prog inv isPure h305 Tryz.f72 = some c305 := by kernel_rfl
theorem name305 : (Tryz.f72.name == "runtime.NumGoroutine") = false := by kernel_rfl
def h314 : Hint := ⟨.args, [], [0, 1, 4, 5, 6, 7, 16, 20, 28, 32, 34, 38]⟩
theorem comp314 : compFn Tryz.prog inv isPure h314 Tryz.f23 = some c314 := by kernel_rfl
theorem name314 : (Tryz.f23.name == "runtime.NumGoroutine") = false := by kernel_rfl
def h315 : Hint := ⟨.pure, [], [0, 2]⟩
theorem comp315 : compFn Tryz.prog inv isPure h315 Tryz.f24 = some c315 := by kernel_rfl
theorem name315 : (Tryz.f24.name == "runtime.NumGoroutine") = false := by kernel_rfl
def h316 : Hint := ⟨.pure, [], [0, 2]⟩
theorem comp316 : compFn Tryz.prog inv isPure h316 Tryz.f25 = some c316 := by kernel_rfl
theorem name316 : (Tryz.f25.name == "runtime.NumGoroutine") = false := by kernel_rfl
def h317 : Hint := ⟨.pure, [7], [0, 2, 3, 4, 5, 7, 8, 11, 12, 13, 14, 21]⟩
theorem comp317 : compFn Tryz.prog inv isPure h317 Tryz.f26 = some c317 := by kernel_rfl
theorem name317 : (Tryz.f26.name == "runtime.NumGoroutine") = false := by kernel_rfl
def h318 : Hint := ⟨.pure, [], [0, 2, 3, 7, 14]⟩
theorem comp318 : compFn Tryz.prog inv isPure h318 Tryz.f27 = some c318 := by kernel_rfl
theorem name318 : (Tryz.f27.name == "runtime.NumGoroutine") = false := by kernel_rfl
def h319 : Hint := ⟨.pure, [], [0, 2, 3, 4, 5, 6, 7, 15, 23]⟩
theorem comp319 : compFn Tryz.prog inv isPure h319 Tryz.f28 = some c319 := by kernel_rfl
theorem name319 : (Tryz.f28.name == "runtime.NumGoroutine") = false := by kernel_rfl
def h320 : Hint := ⟨.pure, [], [0, 1, 4]⟩
theorem comp320 : compFn Tryz.prog inv isPure h320 Tryz.f29 = some c320 := by kernel_rfl
theorem name320 : (Tryz.f29.name == "runtime.NumGoroutine") = false := by kernel_rfl
def h321 : Hint := ⟨.pure, [5], [0, 2, 3, 5, 7, 8, 9, 10]⟩
theorem comp321 : compFn Tryz.prog inv isPure h321 Tryz.f30 = some c321 := by kernel_rfl
theorem name321 : (Tryz.f30.name == "runtime.NumGoroutine") = false := by kernel_rfl
def h322 : Hint := ⟨.pure, [], [0, 2, 3, 6]⟩
theorem comp322 : compFn Tryz.prog inv isPure h322 Tryz.f31 = some c322 := by kernel_rfl
theorem name322 : (Tryz.f31.name == "runtime.NumGoroutine") = false := by kernel_rfl
def h323 : Hint := ⟨.pure, [], [0, 1, 4, 5, 10, 14, 25]⟩
theorem comp323 : compFn Tryz.prog inv isPure h323 Tryz.f32 = some c323 := by kernel_rfl
theorem name323 : (Tryz.f32.name == "runtime.NumGoroutine") = false := by kernel_rfl
def h324 : Hint := ⟨.pure, [3, 2], [0, 1, 2, 3, 4]⟩
theorem comp324 : compFn Tryz.prog inv isPure h324 Tryz.f33 = some c324 := by kernel_rfl
theorem name324 : (Tryz.f33.name == "runtime.NumGoroutine") = false := by kernel_rfl
def h325 : Hint := ⟨.pure, [], [0, 1, 4, 5, 6, 9]⟩
theorem comp325 : compFn Tryz.prog inv isPure h325 Tryz.f34 = some c325 := by kernel_rfl
theorem name325 : (Tryz.f34.name == "runtime.NumGoroutine") = false := by kernel_rfl
def h326 : Hint := ⟨.pure, [], [0, 2, 3, 4, 9]⟩
theorem comp326 : compFn Tryz.prog inv isPure h326 Tryz.f35 = some c326 := by kernel_rfl
theorem name326 : (Tryz.f35.name == "runtime.NumGoroutine") = false := by kernel_rfl
def h327 : Hint := ⟨.pure, [], [0, 1, 4, 12]⟩
theorem comp327 : compFn Tryz.prog inv isPure h327 Tryz.f36 = some c327 := by kernel_rfl
theorem name327 : (Tryz.f36.name == "runtime.NumGoroutine") = false := by kernel_rfl
def h328 : Hint := ⟨.args, [5], [0, 2, 3, 4, 5, 10]⟩
theorem comp328 : compFn Tryz.prog inv isPure h328 Tryz.f37 = some c328 := by kernel_rfl
theorem name328 : (Tryz.f37.name == "runtime.NumGoroutine") = false := by kernel_rfl
def h329 : Hint := ⟨.pure, [], [0, 1, 2, 6, 7, 11]⟩
theorem comp329 : compFn Tryz.prog inv isPure h329 Tryz.f38 = some c329 := by kernel_rfl
theorem name329 : (Tryz.f38.name == "runtime.NumGoroutine") = false := by kernel_rfl
def h330 : Hint := ⟨.pure, [9, 7, 6], [0, 1, 2, 6, 7, 9, 11, 12, 13, 14]⟩
theorem comp330 : compFn Tryz.prog inv isPure h330 Tryz.f39 = some c330 := by kernel_rfl
theorem name330 : (Tryz.f39.name == "runtime.NumGoroutine") = false := by kernel_rfl
def h331 : Hint := ⟨.pure, [], [0, 1, 2, 6, 9, 17]⟩
theorem comp331 : compFn Tryz.prog inv isPure h331 Tryz.f40 = some c331 := by kernel_rfl
theorem name331 : (Tryz.f40.name == "runtime.NumGoroutine") = false := by kernel_rfl
def h332 : Hint := ⟨.pure, [6], [0, 1, 2, 6, 7, 8, 9, 10, 11, 16]⟩
theorem comp332 : compFn Tryz.prog inv isPure h332 Tryz.f41 = some c332 := by kernel_rfl
theorem name332 : (Tryz.f41.name == "runtime.NumGoroutine") = false := by kernel_rfl
def h333 : Hint := ⟨.pure, [1], [0, 1, 2]⟩
theorem comp333 : compFn Tryz.prog inv isPure h333 Tryz.f42 = some c333 := by kernel_rfl
theorem name333 : (Tryz.f42.name == "runtime.NumGoroutine") = false := by kernel_rfl
def h334 : Hint := ⟨.pure, [], [0, 1, 4]⟩
theorem comp334 : compFn Tryz.prog inv isPure h334 Tryz.f43 = some c334 := by kernel_rfl
theorem name334 : (Tryz.f43.name == "runtime.NumGoroutine") = false := by kernel_rfl
def h335 : Hint := ⟨.pure, [3], [0, 1, 2, 3, 6, 7]⟩
theorem comp335 : compFn Tryz.prog inv isPure h335 Tryz.f44 = some c335 := by kernel_rfl
theorem name335 : (Tryz.f44.name == "runtime.NumGoroutine") = false := by kernel_rfl
def h336 : Hint := ⟨.pure, [6, 3], [0, 1, 2, 3, 6]⟩
theorem comp336 : compFn Tryz.prog inv isPure h336 Tryz.f46 = some c336 := by kernel_rfl
theorem name336 : (Tryz.f46.name == "runtime.NumGoroutine") = false := by kernel_rfl
def h337 : Hint := ⟨.pure, [5, 4], [0, 1, 4, 5, 6, 9]⟩
theorem comp337 : compFn Tryz.prog inv isPure h337 Tryz.f86 = some c337 := by kernel_rfl
theorem name337 : (Tryz.f86.name == "runtime.NumGoroutine") = false := by kernel_rfl
def h338 : Hint := ⟨.pure, [4, 3, 2], [0, 1, 2, 3, 4]⟩
theorem comp338 : compFn Tryz.prog inv isPure h338 Tryz.f90 = some c338 := by kernel_rfl
theorem name338 : (Tryz.f90.name == "runtime.NumGoroutine") = false := by kernel_rfl
def h342 : Hint := ⟨.pure, [], [0, 1, 4]⟩
theorem comp342 : compFn Tryz.prog inv isPure h342 Tryz.f95 = some c342 := by kernel_rfl
theorem name342 : (Tryz.f95.name == "runtime.NumGoroutine") = false := by kernel_rfl
def h349 : Hint := ⟨.pure, [5, 4], [0, 1, 4, 5, 6, 9]⟩
theorem comp349 : compFn Tryz.prog inv isPure h349 Tryz.f93 = some c349 := by kernel_rfl
theorem name349 : (Tryz.f93.name == "runtime.NumGoroutine") = false := by kernel_rfl
def h350 : Hint := ⟨.pure, [4, 3, 2], [0, 1, 2, 3, 4]⟩
theorem comp350 : compFn Tryz.prog inv isPure h350 Tryz.f69 = some c350 := by kernel_rfl
theorem name350 : (Tryz.f69.name == "runtime.NumGoroutine") = false := by kernel_rfl
def h351 : Hint := ⟨.pure, [], [0, 2]⟩
theorem comp351 : compFn Tryz.prog inv isPure h351 Tryz.f50 = some c351 := by kernel_rfl
theorem name351 : (Tryz.f50.name == "runtime.NumGoroutine") = false := by kernel_rfl
def h355 : Hint := ⟨.pure, [6], [0, 1, 2, 6, 7, 8, 9, 16]⟩
theorem comp355 : compFn Tryz.prog inv isPure h355 Tryz.f49 = some c355 := by kernel_rfl
theorem name355 : (Tryz.f49.name == "runtime.NumGoroutine") = false := by kernel_rfl
def h358 : Hint := ⟨.pure, [7, 6, 3], [0, 1, 2, 3, 6, 7, 8, 9, 13, 15, 16, 23, 25]⟩
theorem comp358 : compFn Tryz.prog inv isPure h358 Tryz.f71 = some c358 := by kernel_rfl
theorem name358 : (Tryz.f71.name == "runtime.NumGoroutine") = false := by kernel_rfl
def h359 : Hint := ⟨.pure, [], [0, 2, 3, 5, 13]⟩
theorem comp359 : compFn Tryz.prog inv isPure h359 Tryz.f52 = some c359 := by kernel_rfl
theorem name359 : (Tryz.f52.name == "runtime.NumGoroutine") = false := by kernel_rfl
def h367 : Hint := ⟨.pure, [4, 3, 2], [0, 1, 2, 3, 4]⟩
theorem comp367 : compFn Tryz.prog inv isPure h367 Tryz.f56 = some c367 := by kernel_rfl
theorem name367 : (Tryz.f56.name == "runtime.NumGoroutine") = false := by kernel_rfl
def h368 : Hint := ⟨.args, [2], [0, 2, 3, 4, 5, 6, 7, 16, 23, 30, 36, 43, 45]⟩
theorem comp368 : compFn Tryz.prog inv isPure h368 Tryz.f47 = some c368 := by kernel_rfl
theorem name368 : (Tryz.f47.name == "runtime.NumGoroutine") = false := by kernel_rfl
def h393 : Hint := ⟨.pure, [1], [0, 1, 2, 3, 5, 6, 7, 8]⟩
theorem comp393 : compFn Tryz.prog inv isPure h393 Tryz.f57 = some c393 := by kernel_rfl
theorem name393 : (Tryz.f57.name == "runtime.NumGoroutine") = false := by kernel_rfl
def h409 : Hint := ⟨.pure, [], [0, 2]⟩
theorem comp409 : compFn Tryz.prog inv isPure h409 Tryz.f58 = some c409 := by kernel_rfl
theorem name409 : (Tryz.f58.name == "runtime.NumGoroutine") = false := by kernel_rfl
def h416 : Hint := ⟨.pure, [], [0, 1, 4]⟩
theorem comp416 : compFn Tryz.prog inv isPure h416 Tryz.f62 = some c416 := by kernel_rfl
theorem name416 : (Tryz.f62.name == "runtime.NumGoroutine") = false := by kernel_rfl
def h440 : Hint := ⟨.pure, [], [0, 2, 3, 4, 5, 8, 12, 18]⟩
theorem comp440 : compFn Tryz.prog inv isPure h440 Tryz.f75 = some c440 := by kernel_rfl
theorem name440 : (Tryz.f75.name == "runtime.NumGoroutine") = false := by kernel_rfl
def h443 : Hint := ⟨.pure, [6, 4, 3], [0, 1, 2, 3, 4, 6, 7, 8, 9, 10, 11]⟩
theorem comp443 : compFn Tryz.prog inv isPure h443 Tryz.f82 = some c443 := by kernel_rfl
theorem name443 : (Tryz.f82.name == "runtime.NumGoroutine") = false := by kernel_rfl
def h445 : Hint := ⟨.pure, [], [0, 1, 4]⟩
theorem comp445 : compFn Tryz.prog inv isPure h445 Tryz.f98 = some c445 := by kernel_rfl
theorem name445 : (Tryz.f98.name == "runtime.NumGoroutine") = false := by kernel_rfl
def h446 : Hint := ⟨.pure, [], [0, 2]⟩
theorem comp446 : compFn Tryz.prog inv isPure h446 Tryz.f99 = some c446 := by kernel_rfl
theorem name446 : (Tryz.f99.name == "runtime.NumGoroutine") = false := by kernel_rfl
def h453 : Hint := ⟨.pure, [2], [0, 2, 3, 4, 5, 6, 7, 16]⟩
theorem comp453 : compFn Tryz.prog inv isPure h453 Tryz.f85 = some c453 := by kernel_rfl
theorem name453 : (Tryz.f85.name == "runtime.NumGoroutine") = false := by kernel_rfl
def h456 : Hint := ⟨.pure, [], [0, 1, 2, 6]⟩
theorem comp456 : compFn Tryz.prog inv isPure h456 Tryz.f96 = some c456 := by kernel_rfl
theorem name456 : (Tryz.f96.name == "runtime.NumGoroutine") = false := by kernel_rfl
def h459 : Hint := ⟨.args, [], [0, 1, 4, 5, 7, 11]⟩
theorem comp459 : compFn Tryz.prog inv isPure h459 Tryz.f48 = some c459 := by kernel_rfl
theorem name459 : (Tryz.f48.name == "runtime.NumGoroutine") = false := by kernel_rfl
def h467 : Hint := ⟨.pure, [], [0, 2, 14]⟩
theorem comp467 : compFn Tryz.prog inv isPure h467 Tryz.f105 = some c467 := by kernel_rfl
theorem name467 : (Tryz.f105.name == "runtime.NumGoroutine") = false := by kernel_rfl
def h468 : Hint := ⟨.pure, [6], [0, 1, 2, 6]⟩
theorem comp468 : compFn Tryz.prog inv isPure h468 Tryz.f67 = some c468 := by kernel_rfl
theorem name468 : (Tryz.f67.name == "runtime.NumGoroutine") = false := by kernel_rfl
def h471 : Hint := ⟨.pure, [], [0, 1, 4]⟩
theorem comp471 : compFn Tryz.prog inv isPure h471 Tryz.f87 = some c471 := by kernel_rfl
theorem name471 : (Tryz.f87.name == "runtime.NumGoroutine") = false := by kernel_rfl
def h472 : Hint := ⟨.pure, [1], [0, 1, 2]⟩
theorem comp472 : compFn Tryz.prog inv isPure h472 Tryz.f88 = some c472 := by kernel_rfl
theorem name472 : (Tryz.f88.name == "runtime.NumGoroutine") = false := by kernel_rfl
def h473 : Hint := ⟨.pure, [1], [0, 1, 2]⟩
theorem comp473 : compFn Tryz.prog inv isPure h473 Tryz.f89 = some c473 := by kernel_rfl
theorem name473 : (Tryz.f89.name == "runtime.NumGoroutine") = false := by kernel_rfl
def h474 : Hint := ⟨.pure, [], [0, 1, 4, 5, 7, 8, 9, 16]⟩
theorem comp474 : compFn Tryz.prog inv isPure h474 Tryz.f97 = some c474 := by kernel_rfl
theorem name474 : (Tryz.f97.name == "runtime.NumGoroutine") = false := by kernel_rfl
def h491 : Hint := ⟨.pure, [3], [0, 1, 3, 4, 5, 7, 8, 9, 16]⟩
theorem comp491 : compFn Tryz.prog inv isPure h491 Tryz.f51 = some c491 := by kernel_rfl
theorem name491 : (Tryz.f51.name == "runtime.NumGoroutine") = false := by kernel_rfl
def h492 : Hint := ⟨.pure, [], [0, 2, 3, 4, 5, 10, 21]⟩
theorem comp492 : compFn Tryz.prog inv isPure h492 Tryz.f53 = some c492 := by kernel_rfl
theorem name492 : (Tryz.f53.name == "runtime.NumGoroutine") = false := by kernel_rfl
def h493 : Hint := ⟨.pure, [], [0, 1, 3, 4]⟩
theorem comp493 : compFn Tryz.prog inv isPure h493 Tryz.f54 = some c493 := by kernel_rfl
theorem name493 : (Tryz.f54.name == "runtime.NumGoroutine") = false := by kernel_rfl
def h494 : Hint := ⟨.pure, [], [0, 1, 4, 5, 6, 7, 8, 10, 26, 37]⟩
theorem comp494 : compFn Tryz.prog inv isPure h494 Tryz.f55 = some c494 := by kernel_rfl
theorem name494 : (Tryz.f55.name == "runtime.NumGoroutine") = false := by kernel_rfl
def h495 : Hint := ⟨.args, [2], [0, 2, 3, 4, 10]⟩
theorem comp495 : compFn Tryz.prog inv isPure h495 Tryz.f59 = some c495 := by kernel_rfl
theorem name495 : (Tryz.f59.name == "runtime.NumGoroutine") = false := by kernel_rfl
def h496 : Hint := ⟨.args, [], [0, 1, 4]⟩
theorem comp496 : compFn Tryz.prog inv isPure h496 Tryz.f60 = some c496 := by kernel_rfl
theorem name496 : (Tryz.f60.name == "runtime.NumGoroutine") = false := by kernel_rfl
def h497 : Hint := ⟨.pure, [4, 3, 2], [0, 1, 2, 3, 4]⟩
theorem comp497 : compFn Tryz.prog inv isPure h497 Tryz.f63 = some c497 := by kernel_rfl
theorem name497 : (Tryz.f63.name == "runtime.NumGoroutine") = false := by kernel_rfl
def h498 : Hint := ⟨.pure, [], [0, 2, 3, 7, 14]⟩
theorem comp498 : compFn Tryz.prog inv isPure h498 Tryz.f64 = some c498 := by kernel_rfl
theorem name498 : (Tryz.f64.name == "runtime.NumGoroutine") = false := by kernel_rfl
def h499 : Hint := ⟨.pure, [], [0, 1, 2, 6, 7, 8]⟩
theorem comp499 : compFn Tryz.prog inv isPure h499 Tryz.f66 = some c499 := by kernel_rfl
theorem name499 : (Tryz.f66.name == "runtime.NumGoroutine") = false := by kernel_rfl
def h500 : Hint := ⟨.pure, [4], [0, 1, 4, 5]⟩
theorem comp500 : compFn Tryz.prog inv isPure h500 Tryz.f68 = some c500 := by kernel_rfl
theorem name500 : (Tryz.f68.name == "runtime.NumGoroutine") = false := by kernel_rfl
def h501 : Hint := ⟨.pure, [], [0, 1, 4]⟩
theorem comp501 : compFn Tryz.prog inv isPure h501 Tryz.f70 = some c501 := by kernel_rfl
theorem name501 : (Tryz.f70.name == "runtime.NumGoroutine") = false := by kernel_rfl
def h502 : Hint := ⟨.pure, [], [0, 1, 4]⟩
theorem comp502 : compFn Tryz.prog inv isPure h502 Tryz.f104 = some c502 := by kernel_rfl
theorem name502 : (Tryz.f104.name == "runtime.NumGoroutine") = false := by kernel_rfl
def h504 : Hint := ⟨.pure, [], [0, 1, 4]⟩
theorem comp504 : compFn Tryz.prog inv isPure h504 Tryz.f94 = some c504 := by kernel_rfl
theorem name504 : (Tryz.f94.name == "runtime.NumGoroutine") = false := by kernel_rfl
def h505 : Hint := ⟨.pure, [], [0, 1, 4]⟩
theorem comp505 : compFn Tryz.prog inv isPure h505 Tryz.f76 = some c505 := by kernel_rfl
theorem name505 : (Tryz.f76.name == "runtime.NumGoroutine") = false := by kernel_rfl
def h506 : Hint := ⟨.pure, [1], [0, 1, 2]⟩
theorem comp506 : compFn Tryz.prog inv isPure h506 Tryz.f77 = some c506 := by kernel_rfl
theorem name506 : (Tryz.f77.name == "runtime.NumGoroutine") = false := by kernel_rfl
def h512 : Hint := ⟨.pure, [], [0, 1, 4]⟩
theorem comp512 : compFn Tryz.prog inv isPure h512 Tryz.f83 = some c512 := by kernel_rfl
theorem name512 : (Tryz.f83.name == "runtime.NumGoroutine") = false := by kernel_rfl
def h513 : Hint := ⟨.args, [], [0, 1, 4]⟩
theorem comp513 : compFn Tryz.prog inv isPure h513 Tryz.f73 = some c513 := by kernel_rfl
theorem name513 : (Tryz.f73.name == "runtime.NumGoroutine") = false := by kernel_rfl
def h530 : Hint := ⟨.pure, [], [0, 2]⟩
theorem comp530 : compFn Tryz.prog inv isPure h530 Tryz.f84 = some c530 := by kernel_rfl
theorem name530 : (Tryz.f84.name == "runtime.NumGoroutine") = false := by kernel_rfl
def h547 : Hint := ⟨.pure, [], [0, 1, 4, 5, 7, 8, 9, 16]⟩
theorem comp547 : compFn Tryz.prog inv isPure h547 Tryz.f106 = some c547 := by kernel_rfl
theorem name547 : (Tryz.f106.name == "runtime.NumGoroutine") = false := by kernel_rfl
def h550 : Hint := ⟨.args, [], [0, 2, 3, 13, 53]⟩
theorem comp550 : compFn Tryz.prog inv isPure h550 Tryz.f74 = some c550 := by kernel_rfl
theorem name550 : (Tryz.f74.name == "runtime.NumGoroutine") = false := by kernel_rfl
def h555 : Hint := ⟨.pure, [], [0, 1, 4, 5, 7, 8, 9, 16]⟩
theorem comp555 : compFn Tryz.prog inv isPure h555 Tryz.f103 = some c555 := by kernel_rfl
theorem name555 : (Tryz.f103.name == "runtime.NumGoroutine") = false := by kernel_rfl
def h560 : Hint := ⟨.pure, [], [0, 1, 4]⟩
theorem comp560 : compFn Tryz.prog inv isPure h560 Tryz.f79 = some c560 := by kernel_rfl
theorem name560 : (Tryz.f79.name == "runtime.NumGoroutine") = false := by kernel_rfl
def h561 : Hint := ⟨.pure, [2], [0, 1, 2, 3]⟩
theorem comp561 : compFn Tryz.prog inv isPure h561 Tryz.f80 = some c561 := by kernel_rfl
theorem name561 : (Tryz.f80.name == "runtime.NumGoroutine") = false := by kernel_rfl
def h562 : Hint := ⟨.pure, [], [0, 1, 4, 5, 6, 7, 8, 9]⟩
theorem comp562 : compFn Tryz.prog inv isPure h562 Tryz.f81 = some c562 := by kernel_rfl
theorem name562 : (Tryz.f81.name == "runtime.NumGoroutine") = false := by kernel_rfl
def h563 : Hint := ⟨.pure, [], [0, 2]⟩
theorem comp563 : compFn Tryz.prog inv isPure h563 Tryz.f91 = some c563 := by kernel_rfl
theorem name563 : (Tryz.f91.name == "runtime.NumGoroutine") = false := by kernel_rfl
def h564 : Hint := ⟨.pure, [], [0, 1, 4, 5, 20]⟩
theorem comp564 : compFn Tryz.prog inv isPure h564 Tryz.f92 = some c564 := by kernel_rfl
theorem name564 : (Tryz.f92.name == "runtime.NumGoroutine") = false := by kernel_rfl
def h586 : Hint := ⟨.pure, [], [0, 1, 4, 5, 7, 8, 9, 16]⟩
theorem comp586 : compFn Tryz.prog inv isPure h586 Tryz.f100 = some c586 := by kernel_rfl
theorem name586 : (Tryz.f100.name == "runtime.NumGoroutine") = false := by kernel_rfl
def h587 : Hint := ⟨.pure, [], [0, 1, 4, 5, 6]⟩
theorem comp587 : compFn Tryz.prog inv isPure h587 Tryz.f101 = some c587 := by kernel_rfl
theorem name587 : (Tryz.f101.name == "runtime.NumGoroutine") = false := by kernel_rfl
def h588 : Hint := ⟨.pure, [], [0, 1, 4, 5, 6, 7, 8, 9, 10, 11, 12, 13]⟩
theorem comp588 : compFn Tryz.prog inv isPure h588 Tryz.f102 = some c588 := by kernel_rfl
theorem name588 : (Tryz.f102.name == "runtime.NumGoroutine") = false := by kernel_rfl
theorem tab_ok : ∀ f D, tab f = some D → DefOk Tryz.prog inv isPure rho f D := by
  intro f D h
  unfold tab at h
  split at h
  · cases h; exact ⟨Tryz.f3, h10, Tryz.func3, name10, comp10⟩
  · cases h; exact ⟨Tryz.f4, h84, Tryz.func4, name84, comp84⟩
  · cases h; exact ⟨Tryz.f5, h85, Tryz.func5, name85, comp85⟩
  · cases h; exact ⟨Tryz.f6, h86, Tryz.func6, name86, comp86⟩
  · cases h; exact ⟨Tryz.f7, h87, Tryz.func7, name87, comp87⟩
  · cases h; exact ⟨Tryz.f8, h88, Tryz.func8, name88, comp88⟩
  · cases h; exact ⟨Tryz.f9, h89, Tryz.func9, name89, comp89⟩
  · cases h; exact ⟨Tryz.f10, h90, Tryz.func10, name90, comp90⟩
  · cases h; exact ⟨Tryz.f11, h91, Tryz.func11, name91, comp91⟩
  · cases h; exact ⟨Tryz.f12, h92, Tryz.func12, name92, comp92⟩
  · cases h; exact ⟨Tryz.f13, h93, Tryz.func13, name93, comp93⟩
  · cases h; exact ⟨Tryz.f14, h94, Tryz.func14, name94, comp94⟩
  · cases h; exact ⟨Tryz.f15, h95, Tryz.func15, name95, comp95⟩
  · cases h; exact ⟨Tryz.f16, h96, Tryz.func16, name96, comp96⟩
  · cases h; exact ⟨Tryz.f17, h97, Tryz.func17, name97, comp97⟩
  · cases h; exact ⟨Tryz.f18, h98, Tryz.func18, name98, comp98⟩
  · cases h; exact ⟨Tryz.f19, h99, Tryz.func19, name99, comp99⟩
  · cases h; exact ⟨Tryz.f20, h100, Tryz.func20, name100, comp100⟩
  · cases h; exact ⟨Tryz.f21, h101, Tryz.func21, name101, comp101⟩
  · cases h; exact ⟨Tryz.f22, h102, Tryz.func22, name102, comp102⟩
  · cases h; exact ⟨Tryz.f78, h234, Tryz.func78, name234, comp234⟩
  · cases h; exact ⟨Tryz.f61, h281, Tryz.func61, name281, comp281⟩
  · cases h; exact ⟨Tryz.f45, h295, Tryz.func45, name295, comp295⟩
  · cases h; exact ⟨Tryz.f65, h304, Tryz.func65, name304, comp304⟩
  · cases h; exact ⟨Tryz.f72, h305, Tryz.func72, name305, comp305⟩
  · cases h; exact ⟨Tryz.f23, h314, Tryz.func23, name314, comp314⟩
  · cases h; exact ⟨Tryz.f24, h315, Tryz.func24, name315, comp315⟩
  · cases h; exact ⟨Tryz.f25, h316, Tryz.func25, name316, comp316⟩
  · cases h; exact ⟨Tryz.f26, h317, Tryz.func26, name317, comp317⟩
  · cases h; exact ⟨Tryz.f27, h318, Tryz.func27, name318, comp318⟩
  · cases h; exact ⟨Tryz.f28, h319, Tryz.func28, name319, comp319⟩
  · cases h; exact ⟨Tryz.f29, h320, Tryz.func29, name320, comp320⟩
  · cases h; exact ⟨Tryz.f30, h321, Tryz.func30, name321, comp321⟩
  · cases h; exact ⟨Tryz.f31, h322, Tryz.func31, name322, comp322⟩
  · cases h; exact ⟨Tryz.f32, h323, Tryz.func32, name323, comp323⟩
  · cases h; exact ⟨Tryz.f33, h324, Tryz.func33, name324, comp324⟩
  · cases h; exact ⟨Tryz.f34, h325, Tryz.func34, name325, comp325⟩
  · cases h; exact ⟨Tryz.f35, h326, Tryz.func35, name326, comp326⟩
  · cases h; exact ⟨Tryz.f36, h327, Tryz.func36, name327, comp327⟩
  · cases h; exact ⟨Tryz.f37, h328, Tryz.func37, name328, comp328⟩
  · cases h; exact ⟨Tryz.f38, h329, Tryz.func38, name329, comp329⟩
  · cases h; exact ⟨Tryz.f39, h330, Tryz.func39, name330, comp330⟩
  · cases h; exact ⟨Tryz.f40, h331, Tryz.func40, name331, comp331⟩
  · cases h; exact ⟨Tryz.f41, h332, Tryz.func41, name332, comp332⟩
  · cases h; exact ⟨Tryz.f42, h333, Tryz.func42, name333, comp333⟩
  · cases h; exact ⟨Tryz.f43, h334, Tryz.func43, name334, comp334⟩
  · cases h; exact ⟨Tryz.f44, h335, Tryz.func44, name335, comp335⟩
  · cases h; exact ⟨Tryz.f46, h336, Tryz.func46, name336, comp336⟩
  · cases h; exact ⟨Tryz.f86, h337, Tryz.func86, name337, comp337⟩
  · cases h; exact ⟨Tryz.f90, h338, Tryz.func90, name338, comp338⟩
  · cases h; exact ⟨Tryz.f95, h342, Tryz.func95, name342, comp342⟩
  · cases h; exact ⟨Tryz.f93, h349, Tryz.func93, name349, comp349⟩
  · cases h; exact ⟨Tryz.f69, h350, Tryz.func69, name350, comp350⟩
  · cases h; exact ⟨Tryz.f50, h351, Tryz.func50, name351, comp351⟩
  · cases h; exact ⟨Tryz.f49, h355, Tryz.func49, name355, comp355⟩
  · cases h; exact ⟨Tryz.f71, h358, Tryz.func71, name358, comp358⟩
  · cases h; exact ⟨Tryz.f52, h359, Tryz.func52, name359, comp359⟩
  · cases h; exact ⟨Tryz.f56, h367, Tryz.func56, name367, comp367⟩
  · cases h; exact ⟨Tryz.f47, h368, Tryz.func47, name368, comp368⟩
  · cases h; exact ⟨Tryz.f57, h393, Tryz.func57, name393, comp393⟩
  · cases h; exact ⟨Tryz.f58, h409, Tryz.func58, name409, comp409⟩
  · cases h; exact ⟨Tryz.f62, h416, Tryz.func62, name416, comp416⟩
  · cases h; exact ⟨Tryz.f75, h440, Tryz.func75, name440, comp440⟩
  · cases h; exact ⟨Tryz.f82, h443, Tryz.func82, name443, comp443⟩
  · cases h; exact ⟨Tryz.f98, h445, Tryz.func98, name445, comp445⟩
  · cases h; exact ⟨Tryz.f99, h446, Tryz.func99, name446, comp446⟩
  · cases h; exact ⟨Tryz.f85, h453, Tryz.func85, name453, comp453⟩
  · cases h; exact ⟨Tryz.f96, h456, Tryz.func96, name456, comp456⟩
  · cases h; exact ⟨Tryz.f48, h459, Tryz.func48, name459, comp459⟩
  · cases h; exact ⟨Tryz.f105, h467, Tryz.func105, name467, comp467⟩
  · cases h; exact ⟨Tryz.f67, h468, Tryz.func67, name468, comp468⟩
  · cases h; exact ⟨Tryz.f87, h471, Tryz.func87, name471, comp471⟩
  · cases h; exact ⟨Tryz.f88, h472, Tryz.func88, name472, comp472⟩
  · cases h; exact ⟨Tryz.f89, h473, Tryz.func89, name473, comp473⟩
  · cases h; exact ⟨Tryz.f97, h474, Tryz.func97, name474, comp474⟩
  · cases h; exact ⟨Tryz.f51, h491, Tryz.func51, name491, comp491⟩
  · cases h; exact ⟨Tryz.f53, h492, Tryz.func53, name492, comp492⟩
  · cases h; exact ⟨Tryz.f54, h493, Tryz.func54, name493, comp493⟩
  · cases h; exact ⟨Tryz.f55, h494, Tryz.func55, name494, comp494⟩
  · cases h; exact ⟨Tryz.f59, h495, Tryz.func59, name495, comp495⟩
  · cases h; exact ⟨Tryz.f60, h496, Tryz.func60, name496, comp496⟩
  · cases h; exact ⟨Tryz.f63, h497, Tryz.func63, name497, comp497⟩
  · cases h; exact ⟨Tryz.f64, h498, Tryz.func64, name498, comp498⟩
  · cases h; exact ⟨Tryz.f66, h499, Tryz.func66, name499, comp499⟩
  · cases h; exact ⟨Tryz.f68, h500, Tryz.func68, name500, comp500⟩
  · cases h; exact ⟨Tryz.f70, h501, Tryz.func70, name501, comp501⟩
  · cases h; exact ⟨Tryz.f104, h502, Tryz.func104, name502, comp502⟩
  · cases h; exact ⟨Tryz.f94, h504, Tryz.func94, name504, comp504⟩
  · cases h; exact ⟨Tryz.f76, h505, Tryz.func76, name505, comp505⟩
  · cases h; exact ⟨Tryz.f77, h506, Tryz.func77, name506, comp506⟩
  · cases h; exact ⟨Tryz.f83, h512, Tryz.func83, name512, comp512⟩
  · cases h; exact ⟨Tryz.f73, h513, Tryz.func73, name513, comp513⟩
  · cases h; exact ⟨Tryz.f84, h530, Tryz.func84, name530, comp530⟩
  · cases h; exact ⟨Tryz.f106, h547, Tryz.func106, name547, comp547⟩
  · cases h; exact ⟨Tryz.f74, h550, Tryz.func74, name550, comp550⟩
  · cases h; exact ⟨Tryz.f103, h555, Tryz.func103, name555, comp555⟩
  · cases h; exact ⟨Tryz.f79, h560, Tryz.func79, name560, comp560⟩
  · cases h; exact ⟨Tryz.f80, h561, Tryz.func80, name561, comp561⟩
  · cases h; exact ⟨Tryz.f81, h562, Tryz.func81, name562, comp562⟩
  · cases h; exact ⟨Tryz.f91, h563, Tryz.func91, name563, comp563⟩
  · cases h; exact ⟨Tryz.f92, h564, Tryz.func92, name564, comp564⟩
  · cases h; exact ⟨Tryz.f100, h586, Tryz.func100, name586, comp586⟩
  · cases h; exact ⟨Tryz.f101, h587, Tryz.func101, name587, comp587⟩
  · cases h; exact ⟨Tryz.f102, h588, Tryz.func102, name588, comp588⟩
  · cases h
end Fb
