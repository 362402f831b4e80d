/- Each function of the law is compiled by the checker to its text in the small language. -/
import Derived.Test.YtimijcjjmeemeaaGreatDoorRow3
import Derived.Test.YtimijcjjmeemeaaGreatDoorTab
import Derived.Test.YtimijcjjmeemeaaGreatDoorRows
import Derived.KernelRfl
import Derived.Test.YtimijcjjmeemeaaGreatDoorShelf
import Derived.Test.YtimijcjjmeemeaaGreatDoorW271
import Derived.Test.YtimijcjjmeemeaaGreatDoorSoundZ
import Derived.Test.YtimijcjjmeemeaaGreatDoorUse4
set_option linter.unusedVariables false
set_option linter.unusedSimpArgs false
namespace Fb
open Go Go.Proofs

def inv : FuncId → Option Nat := fun f => match f with
  | 3 => some 60
  | 20 => some 82
  | 26 => some 91
  | 11 => some 108
  | 10 => some 109
  | 24 => some 144
  | 12 => some 158
  | 13 => some 160
  | 14 => some 163
  | 4 => some 169
  | 23 => some 170
  | 17 => some 176
  | 16 => some 177
  | 19 => some 184
  | 18 => some 185
  | 8 => some 203
  | 9 => some 218
  | 25 => some 225
  | 56 => some 234
  | 15 => some 259
  | 21 => some 262
  | 22 => some 265
  | 7 => some 271
  | 5 => some 274
  | 6 => some 290
  | 53 => some 295
  | 77 => some 304
  | 79 => some 305
  | 91 => some 309
  | 50 => some 310
  | 48 => some 312
  | 28 => some 315
  | 36 => some 316
  | 39 => some 318
  | 61 => some 323
  | 40 => some 339
  | 38 => some 340
  | 60 => some 341
  | 97 => some 342
  | 71 => some 351
  | 70 => some 355
  | 54 => some 356
  | 72 => some 358
  | 73 => some 359
  | 57 => some 365
  | 58 => some 366
  | 59 => some 367
  | 55 => some 368
  | 66 => some 377
  | 65 => some 378
  | 68 => some 379
  | 41 => some 381
  | 42 => some 383
  | 43 => some 384
  | 44 => some 385
  | 34 => some 386
  | 45 => some 387
  | 49 => some 398
  | 47 => some 399
  | 52 => some 401
  | 51 => some 402
  | 35 => some 418
  | 37 => some 419
  | 94 => some 440
  | 82 => some 443
  | 80 => some 445
  | 81 => some 446
  | 106 => some 456
  | 46 => some 459
  | 32 => some 465
  | 27 => some 469
  | 107 => some 474
  | 29 => some 485
  | 30 => some 486
  | 76 => some 490
  | 95 => some 505
  | 96 => some 506
  | 83 => some 512
  | 62 => some 513
  | 87 => some 521
  | 90 => some 522
  | 69 => some 524
  | 75 => some 531
  | 78 => some 532
  | 98 => some 547
  | 74 => some 550
  | 64 => some 559
  | 92 => some 572
  | 93 => some 573
  | _ => none
def rho : Nat → FuncId := fun n => match n with
  | 60 => 3
  | 82 => 20
  | 91 => 26
  | 108 => 11
  | 109 => 10
  | 144 => 24
  | 158 => 12
  | 160 => 13
  | 163 => 14
  | 169 => 4
  | 170 => 23
  | 176 => 17
  | 177 => 16
  | 184 => 19
  | 185 => 18
  | 203 => 8
  | 218 => 9
  | 225 => 25
  | 234 => 56
  | 259 => 15
  | 262 => 21
  | 265 => 22
  | 271 => 7
  | 274 => 5
  | 290 => 6
  | 295 => 53
  | 304 => 77
  | 305 => 79
  | 309 => 91
  | 310 => 50
  | 312 => 48
  | 315 => 28
  | 316 => 36
  | 318 => 39
  | 323 => 61
  | 339 => 40
  | 340 => 38
  | 341 => 60
  | 342 => 97
  | 351 => 71
  | 355 => 70
  | 356 => 54
  | 358 => 72
  | 359 => 73
  | 365 => 57
  | 366 => 58
  | 367 => 59
  | 368 => 55
  | 377 => 66
  | 378 => 65
  | 379 => 68
  | 381 => 41
  | 383 => 42
  | 384 => 43
  | 385 => 44
  | 386 => 34
  | 387 => 45
  | 398 => 49
  | 399 => 47
  | 401 => 52
  | 402 => 51
  | 418 => 35
  | 419 => 37
  | 440 => 94
  | 443 => 82
  | 445 => 80
  | 446 => 81
  | 456 => 106
  | 459 => 46
  | 465 => 32
  | 469 => 27
  | 474 => 107
  | 485 => 29
  | 486 => 30
  | 490 => 76
  | 505 => 95
  | 506 => 96
  | 512 => 83
  | 513 => 62
  | 521 => 87
  | 522 => 90
  | 524 => 69
  | 531 => 75
  | 532 => 78
  | 547 => 98
  | 550 => 74
  | 559 => 64
  | 572 => 92
  | 573 => 93
  | _ => 0
def isPure : Nat → Bool := fun n => !([305, 368, 459, 469, 513, 550, 377, 485, 521, 522] : List Nat).contains n
theorem inv_rho : ∀ f i, inv f = some i → rho i = f := by
  intro f i h
  unfold inv at h
  split at h <;> first | (cases h; rfl) | cases h
def h60 : Hint := ⟨.pure, [14, 12], [0, 1, 4, 5, 6, 7, 8, 9, 11, 12, 13, 14, 15, 16, 17, 18, 19, 20, 21, 22, 23, 24, 25, 26, 27, 28, 29, 30, 31, 32, 33, 34, 35, 41, 111, 114, 142, 146, 197, 200, 206], some 0⟩
theorem comp60 : compFn Tryz.prog inv isPure h60 Tryz.f3 = some c60 := by kernel_rfl
theorem name60 : (Tryz.f3.name == "runtime.NumGoroutine") = false := by kernel_rfl
def h82 : Hint := ⟨.pure, [1], [0, 1, 2, 3, 14], some 0⟩
theorem comp82 : compFn Tryz.prog inv isPure h82 Tryz.f20 = some c82 := by kernel_rfl
theorem name82 : (Tryz.f20.name == "runtime.NumGoroutine") = false := by kernel_rfl
def h91 : Hint := ⟨.pure, [], [0, 1, 4], some 0⟩
theorem comp91 : compFn Tryz.prog inv isPure h91 Tryz.f26 = some c91 := by kernel_rfl
theorem name91 : (Tryz.f26.name == "runtime.NumGoroutine") = false := by kernel_rfl
def h108 : Hint := ⟨.pure, [2], [0, 2, 3, 6], some 0⟩
theorem comp108 : compFn Tryz.prog inv isPure h108 Tryz.f11 = some c108 := by kernel_rfl
theorem name108 : (Tryz.f11.name == "runtime.NumGoroutine") = false := by kernel_rfl
def h109 : Hint := ⟨.pure, [2], [0, 2, 3, 6], some 0⟩
theorem comp109 : compFn Tryz.prog inv isPure h109 Tryz.f10 = some c109 := by kernel_rfl
theorem name109 : (Tryz.f10.name == "runtime.NumGoroutine") = false := by kernel_rfl
def h144 : Hint := ⟨.pure, [4], [0, 1, 2, 4, 6, 7, 8, 9, 18], some 0⟩
theorem comp144 : compFn Tryz.prog inv isPure h144 Tryz.f24 = some c144 := by kernel_rfl
theorem name144 : (Tryz.f24.name == "runtime.NumGoroutine") = false := by kernel_rfl
def h158 : Hint := ⟨.pure, [], [0, 1, 4, 5, 10, 14, 24], some 0⟩
theorem comp158 : compFn Tryz.prog inv isPure h158 Tryz.f12 = some c158 := by kernel_rfl
theorem name158 : (Tryz.f12.name == "runtime.NumGoroutine") = false := by kernel_rfl
def h160 : Hint := ⟨.pure, [], [0, 1, 4], some 0⟩
theorem comp160 : compFn Tryz.prog inv isPure h160 Tryz.f13 = some c160 := by kernel_rfl
theorem name160 : (Tryz.f13.name == "runtime.NumGoroutine") = false := by kernel_rfl
def h163 : Hint := ⟨.pure, [4], [0, 2, 3, 4, 5, 6, 7, 8, 15], some 0⟩
theorem comp163 : compFn Tryz.prog inv isPure h163 Tryz.f14 = some c163 := by kernel_rfl
theorem name163 : (Tryz.f14.name == "runtime.NumGoroutine") = false := by kernel_rfl
def h169 : Hint := ⟨.pure, [], [0, 2], some 0⟩
theorem comp169 : compFn Tryz.prog inv isPure h169 Tryz.f4 = some c169 := by kernel_rfl
theorem name169 : (Tryz.f4.name == "runtime.NumGoroutine") = false := by kernel_rfl
def h170 : Hint := ⟨.pure, [2], [0, 2], some 0⟩
theorem comp170 : compFn Tryz.prog inv isPure h170 Tryz.f23 = some c170 := by kernel_rfl
theorem name170 : (Tryz.f23.name == "runtime.NumGoroutine") = false := by kernel_rfl
def h176 : Hint := ⟨.pure, [], [0, 1, 4, 5, 6, 7, 12, 23], some 0⟩
theorem comp176 : compFn Tryz.prog inv isPure h176 Tryz.f17 = some c176 := by kernel_rfl
theorem name176 : (Tryz.f17.name == "runtime.NumGoroutine") = false := by kernel_rfl
def h177 : Hint := ⟨.pure, [8], [0, 1, 4, 5, 6, 7, 8, 13, 21], some 0⟩
theorem comp177 : compFn Tryz.prog inv isPure h177 Tryz.f16 = some c177 := by kernel_rfl
theorem name177 : (Tryz.f16.name == "runtime.NumGoroutine") = false := by kernel_rfl
def h184 : Hint := ⟨.pure, [], [0, 1, 4, 5, 6, 7, 8, 13, 23, 41], some 0⟩
theorem comp184 : compFn Tryz.prog inv isPure h184 Tryz.f19 = some c184 := by kernel_rfl
theorem name184 : (Tryz.f19.name == "runtime.NumGoroutine") = false := by kernel_rfl
def h185 : Hint := ⟨.pure, [9], [0, 1, 4, 5, 6, 7, 8, 9, 14, 18, 19, 20, 21, 39], some 0⟩
theorem comp185 : compFn Tryz.prog inv isPure h185 Tryz.f18 = some c185 := by kernel_rfl
theorem name185 : (Tryz.f18.name == "runtime.NumGoroutine") = false := by kernel_rfl
def h203 : Hint := ⟨.pure, [], [0, 2, 3, 6], some 0⟩
theorem comp203 : compFn Tryz.prog inv isPure h203 Tryz.f8 = some c203 := by kernel_rfl
theorem name203 : (Tryz.f8.name == "runtime.NumGoroutine") = false := by kernel_rfl
def h218 : Hint := ⟨.pure, [], [0, 1, 4, 5, 6, 7, 15, 22, 23, 24, 46], some 0⟩
theorem comp218 : compFn Tryz.prog inv isPure h218 Tryz.f9 = some c218 := by kernel_rfl
theorem name218 : (Tryz.f9.name == "runtime.NumGoroutine") = false := by kernel_rfl
def h225 : Hint := ⟨.pure, [], [0, 1, 4, 5, 13], some 0⟩
theorem comp225 : compFn Tryz.prog inv isPure h225 Tryz.f25 = some c225 := by kernel_rfl
theorem name225 : (Tryz.f25.name == "runtime.NumGoroutine") = false := by kernel_rfl
def h234 : Hint := ⟨.pure, [], [0, 1, 2], some 0⟩
theorem comp234 : compFn Tryz.prog inv isPure h234 Tryz.f56 = some c234 := by kernel_rfl
theorem name234 : (Tryz.f56.name == "runtime.NumGoroutine") = false := by kernel_rfl
def h259 : Hint := ⟨.pure, [], [0, 1, 4], some 0⟩
theorem comp259 : compFn Tryz.prog inv isPure h259 Tryz.f15 = some c259 := by kernel_rfl
theorem name259 : (Tryz.f15.name == "runtime.NumGoroutine") = false := by kernel_rfl
def h262 : Hint := ⟨.pure, [], [0, 1, 4], some 0⟩
theorem comp262 : compFn Tryz.prog inv isPure h262 Tryz.f21 = some c262 := by kernel_rfl
theorem name262 : (Tryz.f21.name == "runtime.NumGoroutine") = false := by kernel_rfl
def h265 : Hint := ⟨.pure, [], [0, 1, 4], some 0⟩
theorem comp265 : compFn Tryz.prog inv isPure h265 Tryz.f22 = some c265 := by kernel_rfl
theorem name265 : (Tryz.f22.name == "runtime.NumGoroutine") = false := by kernel_rfl
def h274 : Hint := ⟨.pure, [], [0, 2], some 0⟩
theorem comp274 : compFn Tryz.prog inv isPure h274 Tryz.f5 = some c274 := by kernel_rfl
theorem name274 : (Tryz.f5.name == "runtime.NumGoroutine") = false := by kernel_rfl
def h290 : Hint := ⟨.pure, [8], [0, 2, 3, 4, 5, 7, 8, 9, 17, 18, 19, 20, 29, 43], some 0⟩
theorem comp290 : compFn Tryz.prog inv isPure h290 Tryz.f6 = some c290 := by kernel_rfl
theorem name290 : (Tryz.f6.name == "runtime.NumGoroutine") = false := by kernel_rfl
def h295 : Hint := ⟨.pure, [], [0, 1, 2, 6], some 0⟩
theorem comp295 : compFn Tryz.prog inv isPure h295 Tryz.f53 = some c295 := by kernel_rfl
theorem name295 : (Tryz.f53.name == "runtime.NumGoroutine") = false := by kernel_rfl
def h304 : Hint := ⟨.pure, [], [0, 1, 2, 6], some 0⟩
theorem comp304 : compFn Tryz.prog inv isPure h304 Tryz.f77 = some c304 := by kernel_rfl
theorem name304 : (Tryz.f77.name == "runtime.NumGoroutine") = false := by kernel_rfl
def h305 : Hint := ⟨.args, [], [0, 1, 2, 8], some 0⟩
theorem comp305 : compFn Tryz.prog inv isPure h305 Tryz.f79 = some c305 := by kernel_rfl
theorem name305 : (Tryz.f79.name == "runtime.NumGoroutine") = false := by kernel_rfl
def h309 : Hint := ⟨.pure, [], [0, 2], some 0⟩
theorem comp309 : compFn Tryz.prog inv isPure h309 Tryz.f91 = some c309 := by kernel_rfl
theorem name309 : (Tryz.f91.name == "runtime.NumGoroutine") = false := by kernel_rfl
def h310 : Hint := ⟨.pure, [3], [0, 2, 3], some 0⟩
theorem comp310 : compFn Tryz.prog inv isPure h310 Tryz.f50 = some c310 := by kernel_rfl
theorem name310 : (Tryz.f50.name == "runtime.NumGoroutine") = false := by kernel_rfl
def h312 : Hint := ⟨.pure, [3, 1], [0, 1, 2, 3], some 0⟩
theorem comp312 : compFn Tryz.prog inv isPure h312 Tryz.f48 = some c312 := by kernel_rfl
theorem name312 : (Tryz.f48.name == "runtime.NumGoroutine") = false := by kernel_rfl
def h315 : Hint := ⟨.pure, [], [0, 2], some 0⟩
theorem comp315 : compFn Tryz.prog inv isPure h315 Tryz.f28 = some c315 := by kernel_rfl
theorem name315 : (Tryz.f28.name == "runtime.NumGoroutine") = false := by kernel_rfl
def h316 : Hint := ⟨.pure, [], [0, 2], some 0⟩
theorem comp316 : compFn Tryz.prog inv isPure h316 Tryz.f36 = some c316 := by kernel_rfl
theorem name316 : (Tryz.f36.name == "runtime.NumGoroutine") = false := by kernel_rfl
def h318 : Hint := ⟨.pure, [], [0, 2, 3, 7, 14], some 0⟩
theorem comp318 : compFn Tryz.prog inv isPure h318 Tryz.f39 = some c318 := by kernel_rfl
theorem name318 : (Tryz.f39.name == "runtime.NumGoroutine") = false := by kernel_rfl
def h323 : Hint := ⟨.pure, [], [0, 1, 4, 5, 10, 14, 25], some 0⟩
theorem comp323 : compFn Tryz.prog inv isPure h323 Tryz.f61 = some c323 := by kernel_rfl
theorem name323 : (Tryz.f61.name == "runtime.NumGoroutine") = false := by kernel_rfl
def h339 : Hint := ⟨.pure, [3, 2], [0, 2, 3, 4, 5, 10, 14], some 0⟩
theorem comp339 : compFn Tryz.prog inv isPure h339 Tryz.f40 = some c339 := by kernel_rfl
theorem name339 : (Tryz.f40.name == "runtime.NumGoroutine") = false := by kernel_rfl
def h340 : Hint := ⟨.pure, [5, 3, 2], [0, 2, 3, 5, 7, 8, 9, 10], some 0⟩
theorem comp340 : compFn Tryz.prog inv isPure h340 Tryz.f38 = some c340 := by kernel_rfl
theorem name340 : (Tryz.f38.name == "runtime.NumGoroutine") = false := by kernel_rfl
def h341 : Hint := ⟨.pure, [], [0, 1, 4, 5, 10, 12, 13, 14, 24], some 0⟩
theorem comp341 : compFn Tryz.prog inv isPure h341 Tryz.f60 = some c341 := by kernel_rfl
theorem name341 : (Tryz.f60.name == "runtime.NumGoroutine") = false := by kernel_rfl
def h342 : Hint := ⟨.pure, [], [0, 1, 4], some 0⟩
theorem comp342 : compFn Tryz.prog inv isPure h342 Tryz.f97 = some c342 := by kernel_rfl
theorem name342 : (Tryz.f97.name == "runtime.NumGoroutine") = false := by kernel_rfl
def h351 : Hint := ⟨.pure, [], [0, 2], some 0⟩
theorem comp351 : compFn Tryz.prog inv isPure h351 Tryz.f71 = some c351 := by kernel_rfl
theorem name351 : (Tryz.f71.name == "runtime.NumGoroutine") = false := by kernel_rfl
def h355 : Hint := ⟨.pure, [6], [0, 1, 2, 6, 7, 8, 9, 16], some 0⟩
theorem comp355 : compFn Tryz.prog inv isPure h355 Tryz.f70 = some c355 := by kernel_rfl
theorem name355 : (Tryz.f70.name == "runtime.NumGoroutine") = false := by kernel_rfl
def h356 : Hint := ⟨.pure, [], [0, 1, 4, 5, 10, 14, 25], some 0⟩
theorem comp356 : compFn Tryz.prog inv isPure h356 Tryz.f54 = some c356 := by kernel_rfl
theorem name356 : (Tryz.f54.name == "runtime.NumGoroutine") = false := by kernel_rfl
def h358 : Hint := ⟨.pure, [7, 6, 3], [0, 1, 2, 3, 6, 7, 8, 9, 13, 15, 16, 23, 25], some 0⟩
theorem comp358 : compFn Tryz.prog inv isPure h358 Tryz.f72 = some c358 := by kernel_rfl
theorem name358 : (Tryz.f72.name == "runtime.NumGoroutine") = false := by kernel_rfl
def h359 : Hint := ⟨.pure, [], [0, 2, 3, 5, 13], some 0⟩
theorem comp359 : compFn Tryz.prog inv isPure h359 Tryz.f73 = some c359 := by kernel_rfl
theorem name359 : (Tryz.f73.name == "runtime.NumGoroutine") = false := by kernel_rfl
def h365 : Hint := ⟨.pure, [], [0, 1, 4], some 0⟩
theorem comp365 : compFn Tryz.prog inv isPure h365 Tryz.f57 = some c365 := by kernel_rfl
theorem name365 : (Tryz.f57.name == "runtime.NumGoroutine") = false := by kernel_rfl
def h366 : Hint := ⟨.pure, [], [0, 2, 4], some 0⟩
theorem comp366 : compFn Tryz.prog inv isPure h366 Tryz.f58 = some c366 := by kernel_rfl
theorem name366 : (Tryz.f58.name == "runtime.NumGoroutine") = false := by kernel_rfl
def h367 : Hint := ⟨.pure, [4, 3, 2], [0, 1, 2, 3, 4], some 0⟩
theorem comp367 : compFn Tryz.prog inv isPure h367 Tryz.f59 = some c367 := by kernel_rfl
theorem name367 : (Tryz.f59.name == "runtime.NumGoroutine") = false := by kernel_rfl
def h368 : Hint := ⟨.args, [2], [0, 2, 3, 4, 5, 6, 7, 16, 23, 30, 36, 43, 45], some 0⟩
theorem comp368 : compFn Tryz.prog inv isPure h368 Tryz.f55 = some c368 := by kernel_rfl
theorem name368 : (Tryz.f55.name == "runtime.NumGoroutine") = false := by kernel_rfl
def h378 : Hint := ⟨.pure, [], [0, 1, 2, 6, 7, 8, 9], some 0⟩
theorem comp378 : compFn Tryz.prog inv isPure h378 Tryz.f65 = some c378 := by kernel_rfl
theorem name378 : (Tryz.f65.name == "runtime.NumGoroutine") = false := by kernel_rfl
def h379 : Hint := ⟨.pure, [], [0, 2], some 0⟩
theorem comp379 : compFn Tryz.prog inv isPure h379 Tryz.f68 = some c379 := by kernel_rfl
theorem name379 : (Tryz.f68.name == "runtime.NumGoroutine") = false := by kernel_rfl
def h381 : Hint := ⟨.pure, [], [0, 1, 4, 5, 60, 67, 84], some 0⟩
theorem comp381 : compFn Tryz.prog inv isPure h381 Tryz.f41 = some c381 := by kernel_rfl
theorem name381 : (Tryz.f41.name == "runtime.NumGoroutine") = false := by kernel_rfl
def h383 : Hint := ⟨.pure, [9, 8], [0, 1, 2, 6, 7, 8, 9, 14, 15, 16, 17, 18, 30], some 0⟩
theorem comp383 : compFn Tryz.prog inv isPure h383 Tryz.f42 = some c383 := by kernel_rfl
theorem name383 : (Tryz.f42.name == "runtime.NumGoroutine") = false := by kernel_rfl
def h384 : Hint := ⟨.pure, [3, 2], [0, 1, 2, 3, 4], some 0⟩
theorem comp384 : compFn Tryz.prog inv isPure h384 Tryz.f43 = some c384 := by kernel_rfl
theorem name384 : (Tryz.f43.name == "runtime.NumGoroutine") = false := by kernel_rfl
def h385 : Hint := ⟨.pure, [], [0, 1, 4, 5, 10, 12, 13, 14, 24], some 0⟩
theorem comp385 : compFn Tryz.prog inv isPure h385 Tryz.f44 = some c385 := by kernel_rfl
theorem name385 : (Tryz.f44.name == "runtime.NumGoroutine") = false := by kernel_rfl
def h386 : Hint := ⟨.pure, [], [0, 2, 3, 7, 15], some 0⟩
theorem comp386 : compFn Tryz.prog inv isPure h386 Tryz.f34 = some c386 := by kernel_rfl
theorem name386 : (Tryz.f34.name == "runtime.NumGoroutine") = false := by kernel_rfl
def h387 : Hint := ⟨.pure, [6, 2], [0, 1, 2, 4, 5, 6, 7, 8, 10, 11, 12, 13, 44, 61, 62, 70, 76], some 0⟩
theorem comp387 : compFn Tryz.prog inv isPure h387 Tryz.f45 = some c387 := by kernel_rfl
theorem name387 : (Tryz.f45.name == "runtime.NumGoroutine") = false := by kernel_rfl
def h398 : Hint := ⟨.pure, [], [0, 1, 4, 7, 13], some 0⟩
theorem comp398 : compFn Tryz.prog inv isPure h398 Tryz.f49 = some c398 := by kernel_rfl
theorem name398 : (Tryz.f49.name == "runtime.NumGoroutine") = false := by kernel_rfl
def h399 : Hint := ⟨.pure, [], [0, 1, 4, 5, 9], some 0⟩
theorem comp399 : compFn Tryz.prog inv isPure h399 Tryz.f47 = some c399 := by kernel_rfl
theorem name399 : (Tryz.f47.name == "runtime.NumGoroutine") = false := by kernel_rfl
def h401 : Hint := ⟨.pure, [], [0, 1, 4, 5, 9, 17], some 0⟩
theorem comp401 : compFn Tryz.prog inv isPure h401 Tryz.f52 = some c401 := by kernel_rfl
theorem name401 : (Tryz.f52.name == "runtime.NumGoroutine") = false := by kernel_rfl
def h402 : Hint := ⟨.pure, [], [0, 1, 4], some 0⟩
theorem comp402 : compFn Tryz.prog inv isPure h402 Tryz.f51 = some c402 := by kernel_rfl
theorem name402 : (Tryz.f51.name == "runtime.NumGoroutine") = false := by kernel_rfl
def h418 : Hint := ⟨.pure, [6, 5], [0, 2, 3, 4, 5, 6, 7, 12, 21, 22, 29, 46], some 0⟩
theorem comp418 : compFn Tryz.prog inv isPure h418 Tryz.f35 = some c418 := by kernel_rfl
theorem name418 : (Tryz.f35.name == "runtime.NumGoroutine") = false := by kernel_rfl
def h419 : Hint := ⟨.pure, [8, 6, 5], [0, 2, 3, 5, 6, 8, 10, 11, 12, 13, 19, 33, 34, 35, 36], some 0⟩
theorem comp419 : compFn Tryz.prog inv isPure h419 Tryz.f37 = some c419 := by kernel_rfl
theorem name419 : (Tryz.f37.name == "runtime.NumGoroutine") = false := by kernel_rfl
def h440 : Hint := ⟨.pure, [], [0, 2, 3, 4, 5, 8, 12, 18], some 0⟩
theorem comp440 : compFn Tryz.prog inv isPure h440 Tryz.f94 = some c440 := by kernel_rfl
theorem name440 : (Tryz.f94.name == "runtime.NumGoroutine") = false := by kernel_rfl
def h443 : Hint := ⟨.pure, [6, 4, 3], [0, 1, 2, 3, 4, 6, 7, 8, 9, 10, 11], some 0⟩
theorem comp443 : compFn Tryz.prog inv isPure h443 Tryz.f82 = some c443 := by kernel_rfl
theorem name443 : (Tryz.f82.name == "runtime.NumGoroutine") = false := by kernel_rfl
def h445 : Hint := ⟨.pure, [], [0, 1, 4], some 0⟩
theorem comp445 : compFn Tryz.prog inv isPure h445 Tryz.f80 = some c445 := by kernel_rfl
theorem name445 : (Tryz.f80.name == "runtime.NumGoroutine") = false := by kernel_rfl
def h446 : Hint := ⟨.pure, [], [0, 2], some 0⟩
theorem comp446 : compFn Tryz.prog inv isPure h446 Tryz.f81 = some c446 := by kernel_rfl
theorem name446 : (Tryz.f81.name == "runtime.NumGoroutine") = false := by kernel_rfl
def h456 : Hint := ⟨.pure, [], [0, 1, 2, 6], some 0⟩
theorem comp456 : compFn Tryz.prog inv isPure h456 Tryz.f106 = some c456 := by kernel_rfl
theorem name456 : (Tryz.f106.name == "runtime.NumGoroutine") = false := by kernel_rfl
def h459 : Hint := ⟨.args, [], [0, 1, 4, 5, 7, 11], some 0⟩
theorem comp459 : compFn Tryz.prog inv isPure h459 Tryz.f46 = some c459 := by kernel_rfl
theorem name459 : (Tryz.f46.name == "runtime.NumGoroutine") = false := by kernel_rfl
def h465 : Hint := ⟨.pure, [5, 1], [0, 1, 2, 3, 5, 12, 22, 37, 38, 39, 40], some 0⟩
theorem comp465 : compFn Tryz.prog inv isPure h465 Tryz.f32 = some c465 := by kernel_rfl
theorem name465 : (Tryz.f32.name == "runtime.NumGoroutine") = false := by kernel_rfl
def h469 : Hint := ⟨.args, [5], [0, 2, 3, 4, 5, 6, 11, 20, 24, 33, 45, 49], some 0⟩
theorem comp469 : compFn Tryz.prog inv isPure h469 Tryz.f27 = some c469 := by kernel_rfl
theorem name469 : (Tryz.f27.name == "runtime.NumGoroutine") = false := by kernel_rfl
def h474 : Hint := ⟨.pure, [], [0, 1, 4, 5, 7, 8, 9, 16], some 0⟩
theorem comp474 : compFn Tryz.prog inv isPure h474 Tryz.f107 = some c474 := by kernel_rfl
theorem name474 : (Tryz.f107.name == "runtime.NumGoroutine") = false := by kernel_rfl
def h486 : Hint := ⟨.pure, [2], [0, 2, 3, 4, 5, 6, 7, 8, 9, 10, 11, 13, 14, 15, 16, 17, 18, 19, 20, 29, 47, 49, 50, 51, 52, 66, 77, 78, 79, 80, 108], some 0⟩
theorem comp486 : compFn Tryz.prog inv isPure h486 Tryz.f30 = some c486 := by kernel_rfl
theorem name486 : (Tryz.f30.name == "runtime.NumGoroutine") = false := by kernel_rfl
def h490 : Hint := ⟨.pure, [], [0, 2], some 0⟩
theorem comp490 : compFn Tryz.prog inv isPure h490 Tryz.f76 = some c490 := by kernel_rfl
theorem name490 : (Tryz.f76.name == "runtime.NumGoroutine") = false := by kernel_rfl
def h505 : Hint := ⟨.pure, [], [0, 1, 4], some 0⟩
theorem comp505 : compFn Tryz.prog inv isPure h505 Tryz.f95 = some c505 := by kernel_rfl
theorem name505 : (Tryz.f95.name == "runtime.NumGoroutine") = false := by kernel_rfl
def h506 : Hint := ⟨.pure, [1], [0, 1, 2], some 0⟩
theorem comp506 : compFn Tryz.prog inv isPure h506 Tryz.f96 = some c506 := by kernel_rfl
theorem name506 : (Tryz.f96.name == "runtime.NumGoroutine") = false := by kernel_rfl
def h512 : Hint := ⟨.pure, [], [0, 1, 4], some 0⟩
theorem comp512 : compFn Tryz.prog inv isPure h512 Tryz.f83 = some c512 := by kernel_rfl
theorem name512 : (Tryz.f83.name == "runtime.NumGoroutine") = false := by kernel_rfl
def h513 : Hint := ⟨.args, [], [0, 1, 4], some 0⟩
theorem comp513 : compFn Tryz.prog inv isPure h513 Tryz.f62 = some c513 := by kernel_rfl
theorem name513 : (Tryz.f62.name == "runtime.NumGoroutine") = false := by kernel_rfl
def h524 : Hint := ⟨.pure, [], [0, 1, 4, 5, 38, 54, 55, 65], some 0⟩
theorem comp524 : compFn Tryz.prog inv isPure h524 Tryz.f69 = some c524 := by kernel_rfl
theorem name524 : (Tryz.f69.name == "runtime.NumGoroutine") = false := by kernel_rfl
def h531 : Hint := ⟨.pure, [], [0, 2], some 0⟩
theorem comp531 : compFn Tryz.prog inv isPure h531 Tryz.f75 = some c531 := by kernel_rfl
theorem name531 : (Tryz.f75.name == "runtime.NumGoroutine") = false := by kernel_rfl
def h532 : Hint := ⟨.pure, [], [0, 1, 4, 5, 7, 8, 9, 16], some 0⟩
theorem comp532 : compFn Tryz.prog inv isPure h532 Tryz.f78 = some c532 := by kernel_rfl
theorem name532 : (Tryz.f78.name == "runtime.NumGoroutine") = false := by kernel_rfl
def h547 : Hint := ⟨.pure, [], [0, 1, 4, 5, 7, 8, 9, 16], some 0⟩
theorem comp547 : compFn Tryz.prog inv isPure h547 Tryz.f98 = some c547 := by kernel_rfl
theorem name547 : (Tryz.f98.name == "runtime.NumGoroutine") = false := by kernel_rfl
def h550 : Hint := ⟨.args, [], [0, 2, 3, 13, 53], some 0⟩
theorem comp550 : compFn Tryz.prog inv isPure h550 Tryz.f74 = some c550 := by kernel_rfl
theorem name550 : (Tryz.f74.name == "runtime.NumGoroutine") = false := by kernel_rfl
def h559 : Hint := ⟨.pure, [], [0, 1, 4, 5, 7, 8, 9, 16], some 0⟩
theorem comp559 : compFn Tryz.prog inv isPure h559 Tryz.f64 = some c559 := by kernel_rfl
theorem name559 : (Tryz.f64.name == "runtime.NumGoroutine") = false := by kernel_rfl
def h572 : Hint := ⟨.pure, [], [0, 2], some 0⟩
theorem comp572 : compFn Tryz.prog inv isPure h572 Tryz.f92 = some c572 := by kernel_rfl
theorem name572 : (Tryz.f92.name == "runtime.NumGoroutine") = false := by kernel_rfl
def h573 : Hint := ⟨.pure, [], [0, 2, 3, 7, 27, 43], some 0⟩
theorem comp573 : compFn Tryz.prog inv isPure h573 Tryz.f93 = some c573 := by kernel_rfl
theorem name573 : (Tryz.f93.name == "runtime.NumGoroutine") = false := by kernel_rfl
theorem callable271 : Callable Tryz.prog (rho 271) := ⟨Tryz.f7, Tryz.func7, by kernel_rfl, by kernel_rfl⟩
theorem callable377 : Callable Tryz.prog (rho 377) := ⟨Tryz.f66, Tryz.func66, by kernel_rfl, by kernel_rfl⟩
theorem def377 {W : World} (hm : ∃ m, W.cell? ⟨1, 0, none⟩ = some (.int .i64 m)) : DefOk Tryz.prog inv isPure rho (glob Tryz.prog W (some 0)) 377 (.ext .pure ext377) :=
  ext377_ok callable377 fun w hs s p h => hm.elim fun m hm => Any.strings_Cut Tryz.lays145 s p m w h (glob_cell hs (by decide +kernel) hm)
theorem callable485 : Callable Tryz.prog (rho 485) := ⟨Tryz.f29, Tryz.func29, by kernel_rfl, by kernel_rfl⟩
theorem def485 {W : World} (hm : ∃ m, W.cell? ⟨1, 0, none⟩ = some (.int .i64 m)) : DefOk Tryz.prog inv isPure rho (glob Tryz.prog W (some 0)) 485 (.ext .pure ext485) :=
  ext485_ok callable485 9 fun w hs s p h h1 => hm.elim fun m hm => Any.strings_Split Tryz.lays146 (by kernel_rfl) s p m w h (glob_cell hs (by decide +kernel) hm) h1
theorem callable521 : Callable Tryz.prog (rho 521) := ⟨Tryz.f87, Tryz.func87, by kernel_rfl, by kernel_rfl⟩
theorem def521 {W : World} (hy : ∃ tp p, W.var? Tryz.prog "strconv.ErrSyntax" = some #[.iface tp p]) (hr : ∃ tp p, W.var? Tryz.prog "strconv.ErrRange" = some #[.iface tp p]) : DefOk Tryz.prog inv isPure rho (glob Tryz.prog W (some 0)) 521 (.ext .pure ext521) :=
  ext521_ok callable521
    (fun w hs s v h1 h2 => (Any.strconv_ParseInt_10_at64_ok Tryz.laysC174 s (by omega) v h2 w).mono fun e w' ⟨he, hw⟩ => ⟨he, hw.elim (fun h => h ▸ Go.RowKit.Below.refl _ _) fun ⟨t, h⟩ => h ▸ below_bytes w _ t⟩)
    (fun w hs s h1 h2 => hy.elim fun tp hy => hy.elim fun p hy => (Any.strconv_ParseInt_10_at64_syntax_var Tryz.laysC174 s h1 h2 tp p w (glob_var hs (g := 4) (by kernel_rfl) (by decide +kernel) hy)).mono fun e w' ⟨N, he, _, _, hb⟩ => ⟨⟨_, _, he⟩, hb⟩)
    (fun w hs s h1 h2 => hr.elim fun tp hr => hr.elim fun p hr => (Any.strconv_ParseInt_10_at64_range_var Tryz.laysC174 s h1 h2 tp p w (glob_var hs (g := 5) (by kernel_rfl) (by decide +kernel) hr)).mono fun e w' ⟨N, he, _, _, hb⟩ => ⟨⟨_, _, he⟩, hb⟩)
theorem callable522 : Callable Tryz.prog (rho 522) := ⟨Tryz.f90, Tryz.func90, by kernel_rfl, by kernel_rfl⟩
theorem def522 {W : World} (ht : Lib.TabIs Tryz.prog W "internal/strconv.uint64pow10" .u64 Lib.pow10Tab) : DefOk Tryz.prog inv isPure rho (glob Tryz.prog W (some 0)) 522 (.ext .pure ext522) :=
  ext522_ok callable522 fun w hs n h0 h1 => Any.strconv_FormatInt_10 Tryz.laysM173 n h0 h1 w (glob_var hs (g := 6) (by kernel_rfl) (by decide +kernel) ht)
theorem tab_ok {W : World} (hm : ∃ m, W.cell? ⟨1, 0, none⟩ = some (.int .i64 m)) (ht : Lib.TabIs Tryz.prog W "internal/strconv.uint64pow10" .u64 Lib.pow10Tab) (hy : ∃ tp p, W.var? Tryz.prog "strconv.ErrSyntax" = some #[.iface tp p]) (hr : ∃ tp p, W.var? Tryz.prog "strconv.ErrRange" = some #[.iface tp p]) : ∀ f D, tab f = some D → DefOk Tryz.prog inv isPure rho (glob Tryz.prog W (some 0)) f D := by
  intro f D h
  unfold tab at h
  split at h
  · cases h; exact ⟨Tryz.f3, h60, fun _ h => h, Tryz.func3, name60, comp60⟩
  · cases h; exact ⟨Tryz.f20, h82, fun _ h => h, Tryz.func20, name82, comp82⟩
  · cases h; exact ⟨Tryz.f26, h91, fun _ h => h, Tryz.func26, name91, comp91⟩
  · cases h; exact ⟨Tryz.f11, h108, fun _ h => h, Tryz.func11, name108, comp108⟩
  · cases h; exact ⟨Tryz.f10, h109, fun _ h => h, Tryz.func10, name109, comp109⟩
  · cases h; exact ⟨Tryz.f24, h144, fun _ h => h, Tryz.func24, name144, comp144⟩
  · cases h; exact ⟨Tryz.f12, h158, fun _ h => h, Tryz.func12, name158, comp158⟩
  · cases h; exact ⟨Tryz.f13, h160, fun _ h => h, Tryz.func13, name160, comp160⟩
  · cases h; exact ⟨Tryz.f14, h163, fun _ h => h, Tryz.func14, name163, comp163⟩
  · cases h; exact ⟨Tryz.f4, h169, fun _ h => h, Tryz.func4, name169, comp169⟩
  · cases h; exact ⟨Tryz.f23, h170, fun _ h => h, Tryz.func23, name170, comp170⟩
  · cases h; exact ⟨Tryz.f17, h176, fun _ h => h, Tryz.func17, name176, comp176⟩
  · cases h; exact ⟨Tryz.f16, h177, fun _ h => h, Tryz.func16, name177, comp177⟩
  · cases h; exact ⟨Tryz.f19, h184, fun _ h => h, Tryz.func19, name184, comp184⟩
  · cases h; exact ⟨Tryz.f18, h185, fun _ h => h, Tryz.func18, name185, comp185⟩
  · cases h; exact ⟨Tryz.f8, h203, fun _ h => h, Tryz.func8, name203, comp203⟩
  · cases h; exact ⟨Tryz.f9, h218, fun _ h => h, Tryz.func9, name218, comp218⟩
  · cases h; exact ⟨Tryz.f25, h225, fun _ h => h, Tryz.func25, name225, comp225⟩
  · cases h; exact ⟨Tryz.f56, h234, fun _ h => h, Tryz.func56, name234, comp234⟩
  · cases h; exact ⟨Tryz.f15, h259, fun _ h => h, Tryz.func15, name259, comp259⟩
  · cases h; exact ⟨Tryz.f21, h262, fun _ h => h, Tryz.func21, name262, comp262⟩
  · cases h; exact ⟨Tryz.f22, h265, fun _ h => h, Tryz.func22, name265, comp265⟩
  · cases h; exact ⟨Tryz.f5, h274, fun _ h => h, Tryz.func5, name274, comp274⟩
  · cases h; exact ⟨Tryz.f6, h290, fun _ h => h, Tryz.func6, name290, comp290⟩
  · cases h; exact ⟨Tryz.f53, h295, fun _ h => h, Tryz.func53, name295, comp295⟩
  · cases h; exact ⟨Tryz.f77, h304, fun _ h => h, Tryz.func77, name304, comp304⟩
  · cases h; exact ⟨Tryz.f79, h305, fun _ h => h, Tryz.func79, name305, comp305⟩
  · cases h; exact ⟨Tryz.f91, h309, fun _ h => h, Tryz.func91, name309, comp309⟩
  · cases h; exact ⟨Tryz.f50, h310, fun _ h => h, Tryz.func50, name310, comp310⟩
  · cases h; exact ⟨Tryz.f48, h312, fun _ h => h, Tryz.func48, name312, comp312⟩
  · cases h; exact ⟨Tryz.f28, h315, fun _ h => h, Tryz.func28, name315, comp315⟩
  · cases h; exact ⟨Tryz.f36, h316, fun _ h => h, Tryz.func36, name316, comp316⟩
  · cases h; exact ⟨Tryz.f39, h318, fun _ h => h, Tryz.func39, name318, comp318⟩
  · cases h; exact ⟨Tryz.f61, h323, fun _ h => h, Tryz.func61, name323, comp323⟩
  · cases h; exact ⟨Tryz.f40, h339, fun _ h => h, Tryz.func40, name339, comp339⟩
  · cases h; exact ⟨Tryz.f38, h340, fun _ h => h, Tryz.func38, name340, comp340⟩
  · cases h; exact ⟨Tryz.f60, h341, fun _ h => h, Tryz.func60, name341, comp341⟩
  · cases h; exact ⟨Tryz.f97, h342, fun _ h => h, Tryz.func97, name342, comp342⟩
  · cases h; exact ⟨Tryz.f71, h351, fun _ h => h, Tryz.func71, name351, comp351⟩
  · cases h; exact ⟨Tryz.f70, h355, fun _ h => h, Tryz.func70, name355, comp355⟩
  · cases h; exact ⟨Tryz.f54, h356, fun _ h => h, Tryz.func54, name356, comp356⟩
  · cases h; exact ⟨Tryz.f72, h358, fun _ h => h, Tryz.func72, name358, comp358⟩
  · cases h; exact ⟨Tryz.f73, h359, fun _ h => h, Tryz.func73, name359, comp359⟩
  · cases h; exact ⟨Tryz.f57, h365, fun _ h => h, Tryz.func57, name365, comp365⟩
  · cases h; exact ⟨Tryz.f58, h366, fun _ h => h, Tryz.func58, name366, comp366⟩
  · cases h; exact ⟨Tryz.f59, h367, fun _ h => h, Tryz.func59, name367, comp367⟩
  · cases h; exact ⟨Tryz.f55, h368, fun _ h => h, Tryz.func55, name368, comp368⟩
  · cases h; exact def377 hm
  · cases h; exact ⟨Tryz.f65, h378, fun _ h => h, Tryz.func65, name378, comp378⟩
  · cases h; exact ⟨Tryz.f68, h379, fun _ h => h, Tryz.func68, name379, comp379⟩
  · cases h; exact ⟨Tryz.f41, h381, fun _ h => h, Tryz.func41, name381, comp381⟩
  · cases h; exact ⟨Tryz.f42, h383, fun _ h => h, Tryz.func42, name383, comp383⟩
  · cases h; exact ⟨Tryz.f43, h384, fun _ h => h, Tryz.func43, name384, comp384⟩
  · cases h; exact ⟨Tryz.f44, h385, fun _ h => h, Tryz.func44, name385, comp385⟩
  · cases h; exact ⟨Tryz.f34, h386, fun _ h => h, Tryz.func34, name386, comp386⟩
  · cases h; exact ⟨Tryz.f45, h387, fun _ h => h, Tryz.func45, name387, comp387⟩
  · cases h; exact ⟨Tryz.f49, h398, fun _ h => h, Tryz.func49, name398, comp398⟩
  · cases h; exact ⟨Tryz.f47, h399, fun _ h => h, Tryz.func47, name399, comp399⟩
  · cases h; exact ⟨Tryz.f52, h401, fun _ h => h, Tryz.func52, name401, comp401⟩
  · cases h; exact ⟨Tryz.f51, h402, fun _ h => h, Tryz.func51, name402, comp402⟩
  · cases h; exact ⟨Tryz.f35, h418, fun _ h => h, Tryz.func35, name418, comp418⟩
  · cases h; exact ⟨Tryz.f37, h419, fun _ h => h, Tryz.func37, name419, comp419⟩
  · cases h; exact ⟨Tryz.f94, h440, fun _ h => h, Tryz.func94, name440, comp440⟩
  · cases h; exact ⟨Tryz.f82, h443, fun _ h => h, Tryz.func82, name443, comp443⟩
  · cases h; exact ⟨Tryz.f80, h445, fun _ h => h, Tryz.func80, name445, comp445⟩
  · cases h; exact ⟨Tryz.f81, h446, fun _ h => h, Tryz.func81, name446, comp446⟩
  · cases h; exact ⟨Tryz.f106, h456, fun _ h => h, Tryz.func106, name456, comp456⟩
  · cases h; exact ⟨Tryz.f46, h459, fun _ h => h, Tryz.func46, name459, comp459⟩
  · cases h; exact ⟨Tryz.f32, h465, fun _ h => h, Tryz.func32, name465, comp465⟩
  · cases h; exact ⟨Tryz.f27, h469, fun _ h => h, Tryz.func27, name469, comp469⟩
  · cases h; exact ⟨Tryz.f107, h474, fun _ h => h, Tryz.func107, name474, comp474⟩
  · cases h; exact def485 hm
  · cases h; exact ⟨Tryz.f30, h486, fun _ h => h, Tryz.func30, name486, comp486⟩
  · cases h; exact ⟨Tryz.f76, h490, fun _ h => h, Tryz.func76, name490, comp490⟩
  · cases h; exact ⟨Tryz.f95, h505, fun _ h => h, Tryz.func95, name505, comp505⟩
  · cases h; exact ⟨Tryz.f96, h506, fun _ h => h, Tryz.func96, name506, comp506⟩
  · cases h; exact ⟨Tryz.f83, h512, fun _ h => h, Tryz.func83, name512, comp512⟩
  · cases h; exact ⟨Tryz.f62, h513, fun _ h => h, Tryz.func62, name513, comp513⟩
  · cases h; exact def521 hy hr
  · cases h; exact def522 ht
  · cases h; exact ⟨Tryz.f69, h524, fun _ h => h, Tryz.func69, name524, comp524⟩
  · cases h; exact ⟨Tryz.f75, h531, fun _ h => h, Tryz.func75, name531, comp531⟩
  · cases h; exact ⟨Tryz.f78, h532, fun _ h => h, Tryz.func78, name532, comp532⟩
  · cases h; exact ⟨Tryz.f98, h547, fun _ h => h, Tryz.func98, name547, comp547⟩
  · cases h; exact ⟨Tryz.f74, h550, fun _ h => h, Tryz.func74, name550, comp550⟩
  · cases h; exact ⟨Tryz.f64, h559, fun _ h => h, Tryz.func64, name559, comp559⟩
  · cases h; exact ⟨Tryz.f92, h572, fun _ h => h, Tryz.func92, name572, comp572⟩
  · cases h; exact ⟨Tryz.f93, h573, fun _ h => h, Tryz.func93, name573, comp573⟩
  · cases h
theorem mix0 : Tryz.prog.follows .mixedOrders = true := by kernel_rfl
theorem def271 {W : World} (hm : ∃ m, W.cell? ⟨1, 0, none⟩ = some (.int .i64 m)) (ht : Lib.TabIs Tryz.prog W "internal/strconv.uint64pow10" .u64 Lib.pow10Tab) (hy : ∃ tp p, W.var? Tryz.prog "strconv.ErrSyntax" = some #[.iface tp p]) (hr : ∃ tp p, W.var? Tryz.prog "strconv.ErrRange" = some #[.iface tp p]) : DefOk Tryz.prog inv isPure rho (glob Tryz.prog W (some 0)) 271 (.ext .pure (ext271 tab)) :=
  ext271_ok mix0 inv_rho (tab_ok hm ht hy hr) callable271 (fun x w0 S h => walk271_no x w0 S h) fun p n cap t w0 S h1 h2 h3 h4 h5 => walk271 p n cap t w0 S h1 h2 h3 h4 h5
theorem tab2_ok {W : World} (hm : ∃ m, W.cell? ⟨1, 0, none⟩ = some (.int .i64 m)) (ht : Lib.TabIs Tryz.prog W "internal/strconv.uint64pow10" .u64 Lib.pow10Tab) (hy : ∃ tp p, W.var? Tryz.prog "strconv.ErrSyntax" = some #[.iface tp p]) (hr : ∃ tp p, W.var? Tryz.prog "strconv.ErrRange" = some #[.iface tp p]) : ∀ f D, tab2 f = some D → DefOk Tryz.prog inv isPure rho (glob Tryz.prog W (some 0)) f D := by
  intro f D h
  unfold tab2 at h
  split at h
  · rename_i e
    subst e
    cases h
    exact def271 hm ht hy hr
  · exact tab_ok hm ht hy hr f D h
end Fb
