/- Each function of the law is compiled by the checker to its text in the small language. -/
import Derived.Test.YtmdnahopljfakaaRow2
import Derived.Test.YtmdnahopljfakaaTab
import Derived.Test.YtmdnahopljfakaaRows
import Derived.KernelRfl
set_option linter.unusedVariables false
set_option linter.unusedSimpArgs false
namespace Fb
open Go Go.Proofs

def inv : FuncId → Option Nat := fun f => match f with
  | 4 => some 48
  | 22 => some 84
  | 33 => some 124
  | 14 => some 125
  | 23 => some 147
  | 87 => some 234
  | 30 => some 237
  | 39 => some 240
  | 32 => some 242
  | 24 => some 245
  | 25 => some 246
  | 26 => some 247
  | 27 => some 248
  | 28 => some 249
  | 29 => some 250
  | 31 => some 251
  | 34 => some 252
  | 35 => some 253
  | 36 => some 254
  | 37 => some 255
  | 38 => some 256
  | 40 => some 257
  | 80 => some 295
  | 126 => some 304
  | 104 => some 305
  | 99 => some 306
  | 86 => some 315
  | 70 => some 324
  | 105 => some 327
  | 107 => some 337
  | 158 => some 338
  | 102 => some 342
  | 97 => some 345
  | 109 => some 346
  | 154 => some 348
  | 148 => some 349
  | 91 => some 350
  | 72 => some 351
  | 147 => some 358
  | 92 => some 359
  | 136 => some 367
  | 85 => some 368
  | 88 => some 393
  | 98 => some 395
  | 101 => some 440
  | 155 => some 443
  | 151 => some 445
  | 152 => some 446
  | 106 => some 448
  | 89 => some 449
  | 90 => some 450
  | 93 => some 451
  | 94 => some 452
  | 95 => some 453
  | 96 => some 454
  | 100 => some 455
  | 103 => some 456
  | 108 => some 457
  | 110 => some 458
  | 122 => some 459
  | 175 => some 474
  | 183 => some 502
  | 182 => some 503
  | 156 => some 504
  | 138 => some 505
  | 139 => some 506
  | 159 => some 511
  | 174 => some 512
  | 150 => some 513
  | 153 => some 530
  | 181 => some 547
  | 157 => some 548
  | 160 => some 549
  | 165 => some 550
  | _ => none
def rho : Nat → FuncId := fun n => match n with
  | 48 => 4
  | 84 => 22
  | 124 => 33
  | 125 => 14
  | 147 => 23
  | 234 => 87
  | 237 => 30
  | 240 => 39
  | 242 => 32
  | 245 => 24
  | 246 => 25
  | 247 => 26
  | 248 => 27
  | 249 => 28
  | 250 => 29
  | 251 => 31
  | 252 => 34
  | 253 => 35
  | 254 => 36
  | 255 => 37
  | 256 => 38
  | 257 => 40
  | 295 => 80
  | 304 => 126
  | 305 => 104
  | 306 => 99
  | 315 => 86
  | 324 => 70
  | 327 => 105
  | 337 => 107
  | 338 => 158
  | 342 => 102
  | 345 => 97
  | 346 => 109
  | 348 => 154
  | 349 => 148
  | 350 => 91
  | 351 => 72
  | 358 => 147
  | 359 => 92
  | 367 => 136
  | 368 => 85
  | 393 => 88
  | 395 => 98
  | 440 => 101
  | 443 => 155
  | 445 => 151
  | 446 => 152
  | 448 => 106
  | 449 => 89
  | 450 => 90
  | 451 => 93
  | 452 => 94
  | 453 => 95
  | 454 => 96
  | 455 => 100
  | 456 => 103
  | 457 => 108
  | 458 => 110
  | 459 => 122
  | 474 => 175
  | 502 => 183
  | 503 => 182
  | 504 => 156
  | 505 => 138
  | 506 => 139
  | 511 => 159
  | 512 => 174
  | 513 => 150
  | 530 => 153
  | 547 => 181
  | 548 => 157
  | 549 => 160
  | 550 => 165
  | _ => 0
def isPure : Nat → Bool := fun n => !([305, 368, 459, 513, 550] : List Nat).contains n
theorem inv_rho : ∀ f i, inv f = some i → rho i = f := by
  intro f i h
  unfold inv at h
  split at h <;> first | (cases h; rfl) | cases h
def h48 : Hint := ⟨.pure, [55, 53, 49, 43, 41, 37, 35, 33, 31, 30, 26, 24, 22, 20, 18, 16, 14, 12, 10, 5], [0, 1, 4, 5, 6, 7, 8, 9, 10, 11, 12, 13, 14, 15, 16, 17, 18, 19, 20, 21, 22, 23, 24, 25, 26, 27, 28, 29, 30, 31, 32, 33, 34, 35, 36, 37, 38, 39, 40, 41, 42, 43, 44, 45, 46, 47, 48, 49, 50, 51, 52, 53, 54, 55, 56, 59, 148, 153, 172, 218, 233, 262, 273, 305, 365, 390, 392, 407, 410, 432]⟩
theorem comp48 : compFn Try.prog inv isPure h48 Try.f4 = some c48 := by kernel_rfl
theorem name48 : (Try.f4.name == "runtime.NumGoroutine") = false := by kernel_rfl
def h84 : Hint := ⟨.pure, [], [0, 1, 4]⟩
theorem comp84 : compFn Try.prog inv isPure h84 Try.f22 = some c84 := by kernel_rfl
theorem name84 : (Try.f22.name == "runtime.NumGoroutine") = false := by kernel_rfl
def h124 : Hint := ⟨.pure, [], [0, 1, 2, 6, 14]⟩
theorem comp124 : compFn Try.prog inv isPure h124 Try.f33 = some c124 := by kernel_rfl
theorem name124 : (Try.f33.name == "runtime.NumGoroutine") = false := by kernel_rfl
def h125 : Hint := ⟨.pure, [3, 2], [0, 1, 2, 3, 4, 5, 10]⟩
theorem comp125 : compFn Try.prog inv isPure h125 Try.f14 = some c125 := by kernel_rfl
theorem name125 : (Try.f14.name == "runtime.NumGoroutine") = false := by kernel_rfl
def h147 : Hint := ⟨.pure, [2], [0, 2]⟩
theorem comp147 : compFn Try.prog inv isPure h147 Try.f23 = some c147 := by kernel_rfl
theorem name147 : (Try.f23.name == "runtime.NumGoroutine") = false := by kernel_rfl
def h234 : Hint := ⟨.pure, [], [0, 1, 2]⟩
theorem comp234 : compFn Try.prog inv isPure h234 Try.f87 = some c234 := by kernel_rfl
theorem name234 : (Try.f87.name == "runtime.NumGoroutine") = false := by kernel_rfl
def h237 : Hint := ⟨.pure, [4, 3, 2], [0, 1, 2, 3, 4, 5, 10]⟩
theorem comp237 : compFn Try.prog inv isPure h237 Try.f30 = some c237 := by kernel_rfl
theorem name237 : (Try.f30.name == "runtime.NumGoroutine") = false := by kernel_rfl
def h240 : Hint := ⟨.pure, [3], [0, 1, 2, 3, 6, 7, 8, 14]⟩
theorem comp240 : compFn Try.prog inv isPure h240 Try.f39 = some c240 := by kernel_rfl
theorem name240 : (Try.f39.name == "runtime.NumGoroutine") = false := by kernel_rfl
def h242 : Hint := ⟨.pure, [], [0, 1, 2, 3, 5]⟩
theorem comp242 : compFn Try.prog inv isPure h242 Try.f32 = some c242 := by kernel_rfl
theorem name242 : (Try.f32.name == "runtime.NumGoroutine") = false := by kernel_rfl
def h245 : Hint := ⟨.pure, [6, 5, 1], [0, 1, 2, 3, 4, 5, 6, 9, 13]⟩
theorem comp245 : compFn Try.prog inv isPure h245 Try.f24 = some c245 := by kernel_rfl
theorem name245 : (Try.f24.name == "runtime.NumGoroutine") = false := by kernel_rfl
def h246 : Hint := ⟨.pure, [], [0, 1, 2, 3, 5]⟩
theorem comp246 : compFn Try.prog inv isPure h246 Try.f25 = some c246 := by kernel_rfl
theorem name246 : (Try.f25.name == "runtime.NumGoroutine") = false := by kernel_rfl
def h247 : Hint := ⟨.pure, [2, 1], [0, 1, 2, 3, 6]⟩
theorem comp247 : compFn Try.prog inv isPure h247 Try.f26 = some c247 := by kernel_rfl
theorem name247 : (Try.f26.name == "runtime.NumGoroutine") = false := by kernel_rfl
def h248 : Hint := ⟨.pure, [2], [0, 1, 2, 3, 5]⟩
theorem comp248 : compFn Try.prog inv isPure h248 Try.f27 = some c248 := by kernel_rfl
theorem name248 : (Try.f27.name == "runtime.NumGoroutine") = false := by kernel_rfl
def h249 : Hint := ⟨.pure, [2], [0, 1, 2, 3, 4, 7]⟩
theorem comp249 : compFn Try.prog inv isPure h249 Try.f28 = some c249 := by kernel_rfl
theorem name249 : (Try.f28.name == "runtime.NumGoroutine") = false := by kernel_rfl
def h250 : Hint := ⟨.pure, [10, 2], [0, 1, 2, 3, 4, 5, 6, 7, 8, 9, 10, 11, 13, 20, 53, 76, 77]⟩
theorem comp250 : compFn Try.prog inv isPure h250 Try.f29 = some c250 := by kernel_rfl
theorem name250 : (Try.f29.name == "runtime.NumGoroutine") = false := by kernel_rfl
def h251 : Hint := ⟨.pure, [4], [0, 1, 2, 3, 4, 5, 6, 7, 10, 14]⟩
theorem comp251 : compFn Try.prog inv isPure h251 Try.f31 = some c251 := by kernel_rfl
theorem name251 : (Try.f31.name == "runtime.NumGoroutine") = false := by kernel_rfl
def h252 : Hint := ⟨.pure, [6, 3], [0, 1, 2, 3, 6, 7, 8, 14, 21]⟩
theorem comp252 : compFn Try.prog inv isPure h252 Try.f34 = some c252 := by kernel_rfl
theorem name252 : (Try.f34.name == "runtime.NumGoroutine") = false := by kernel_rfl
def h253 : Hint := ⟨.pure, [4], [0, 1, 2, 3, 4, 5, 6, 9]⟩
theorem comp253 : compFn Try.prog inv isPure h253 Try.f35 = some c253 := by kernel_rfl
theorem name253 : (Try.f35.name == "runtime.NumGoroutine") = false := by kernel_rfl
def h254 : Hint := ⟨.pure, [8, 2, 1], [0, 1, 2, 3, 4, 5, 6, 8, 9, 10, 13, 19, 29, 30, 31, 32]⟩
theorem comp254 : compFn Try.prog inv isPure h254 Try.f36 = some c254 := by kernel_rfl
theorem name254 : (Try.f36.name == "runtime.NumGoroutine") = false := by kernel_rfl
def h255 : Hint := ⟨.pure, [4, 2], [0, 1, 2, 3, 4, 5, 7, 14]⟩
theorem comp255 : compFn Try.prog inv isPure h255 Try.f37 = some c255 := by kernel_rfl
theorem name255 : (Try.f37.name == "runtime.NumGoroutine") = false := by kernel_rfl
def h256 : Hint := ⟨.pure, [8, 4], [0, 1, 2, 3, 4, 8, 9, 10, 16, 26]⟩
theorem comp256 : compFn Try.prog inv isPure h256 Try.f38 = some c256 := by kernel_rfl
theorem name256 : (Try.f38.name == "runtime.NumGoroutine") = false := by kernel_rfl
def h257 : Hint := ⟨.pure, [4, 3], [0, 1, 2, 3, 4, 5, 6, 7, 8, 9, 28, 33]⟩
theorem comp257 : compFn Try.prog inv isPure h257 Try.f40 = some c257 := by kernel_rfl
theorem name257 : (Try.f40.name == "runtime.NumGoroutine") = false := by kernel_rfl
def h295 : Hint := ⟨.pure, [], [0, 1, 2, 6]⟩
theorem comp295 : compFn Try.prog inv isPure h295 Try.f80 = some c295 := by kernel_rfl
theorem name295 : (Try.f80.name == "runtime.NumGoroutine") = false := by kernel_rfl
def h304 : Hint := ⟨.pure, [], [0, 1, 2, 6]⟩
theorem comp304 : compFn Try.prog inv isPure h304 Try.f126 = some c304 := by kernel_rfl
theorem name304 : (Try.f126.name == "runtime.NumGoroutine") = false := by kernel_rfl
def h305 : Hint := ⟨.args, [], [0, 1, 2, 8]⟩
theorem comp305 : compFn Try.prog inv isPure h305 Try.f104 = some c305 := by kernel_rfl
theorem name305 : (Try.f104.name == "runtime.NumGoroutine") = false := by kernel_rfl
def h306 : Hint := ⟨.pure, [3, 2], [0, 2, 3, 4, 5, 7, 8, 10, 11, 16]⟩
theorem comp306 : compFn Try.prog inv isPure h306 Try.f99 = some c306 := by kernel_rfl
theorem name306 : (Try.f99.name == "runtime.NumGoroutine") = false := by kernel_rfl
def h315 : Hint := ⟨.pure, [], [0, 2]⟩
theorem comp315 : compFn Try.prog inv isPure h315 Try.f86 = some c315 := by kernel_rfl
theorem name315 : (Try.f86.name == "runtime.NumGoroutine") = false := by kernel_rfl
def h324 : Hint := ⟨.pure, [3, 2], [0, 1, 2, 3, 4]⟩
theorem comp324 : compFn Try.prog inv isPure h324 Try.f70 = some c324 := by kernel_rfl
theorem name324 : (Try.f70.name == "runtime.NumGoroutine") = false := by kernel_rfl
def h327 : Hint := ⟨.pure, [], [0, 1, 4, 12]⟩
theorem comp327 : compFn Try.prog inv isPure h327 Try.f105 = some c327 := by kernel_rfl
theorem name327 : (Try.f105.name == "runtime.NumGoroutine") = false := by kernel_rfl
def h337 : Hint := ⟨.pure, [5, 4], [0, 1, 4, 5, 6, 9]⟩
theorem comp337 : compFn Try.prog inv isPure h337 Try.f107 = some c337 := by kernel_rfl
theorem name337 : (Try.f107.name == "runtime.NumGoroutine") = false := by kernel_rfl
def h338 : Hint := ⟨.pure, [4, 3, 2], [0, 1, 2, 3, 4]⟩
theorem comp338 : compFn Try.prog inv isPure h338 Try.f158 = some c338 := by kernel_rfl
theorem name338 : (Try.f158.name == "runtime.NumGoroutine") = false := by kernel_rfl
def h342 : Hint := ⟨.pure, [], [0, 1, 4]⟩
theorem comp342 : compFn Try.prog inv isPure h342 Try.f102 = some c342 := by kernel_rfl
theorem name342 : (Try.f102.name == "runtime.NumGoroutine") = false := by kernel_rfl
def h345 : Hint := ⟨.pure, [], [0, 1, 4]⟩
theorem comp345 : compFn Try.prog inv isPure h345 Try.f97 = some c345 := by kernel_rfl
theorem name345 : (Try.f97.name == "runtime.NumGoroutine") = false := by kernel_rfl
def h346 : Hint := ⟨.pure, [6, 3], [0, 1, 2, 3, 6]⟩
theorem comp346 : compFn Try.prog inv isPure h346 Try.f109 = some c346 := by kernel_rfl
theorem name346 : (Try.f109.name == "runtime.NumGoroutine") = false := by kernel_rfl
def h348 : Hint := ⟨.pure, [4, 3, 2], [0, 1, 2, 3, 4]⟩
theorem comp348 : compFn Try.prog inv isPure h348 Try.f154 = some c348 := by kernel_rfl
theorem name348 : (Try.f154.name == "runtime.NumGoroutine") = false := by kernel_rfl
def h349 : Hint := ⟨.pure, [5, 4], [0, 1, 4, 5, 6, 9]⟩
theorem comp349 : compFn Try.prog inv isPure h349 Try.f148 = some c349 := by kernel_rfl
theorem name349 : (Try.f148.name == "runtime.NumGoroutine") = false := by kernel_rfl
def h350 : Hint := ⟨.pure, [4, 3, 2], [0, 1, 2, 3, 4]⟩
theorem comp350 : compFn Try.prog inv isPure h350 Try.f91 = some c350 := by kernel_rfl
theorem name350 : (Try.f91.name == "runtime.NumGoroutine") = false := by kernel_rfl
def h351 : Hint := ⟨.pure, [], [0, 2]⟩
theorem comp351 : compFn Try.prog inv isPure h351 Try.f72 = some c351 := by kernel_rfl
theorem name351 : (Try.f72.name == "runtime.NumGoroutine") = false := by kernel_rfl
def h358 : Hint := ⟨.pure, [7, 6, 3], [0, 1, 2, 3, 6, 7, 8, 9, 13, 15, 16, 23, 25]⟩
theorem comp358 : compFn Try.prog inv isPure h358 Try.f147 = some c358 := by kernel_rfl
theorem name358 : (Try.f147.name == "runtime.NumGoroutine") = false := by kernel_rfl
def h359 : Hint := ⟨.pure, [], [0, 2, 3, 5, 13]⟩
theorem comp359 : compFn Try.prog inv isPure h359 Try.f92 = some c359 := by kernel_rfl
theorem name359 : (Try.f92.name == "runtime.NumGoroutine") = false := by kernel_rfl
def h367 : Hint := ⟨.pure, [4, 3, 2], [0, 1, 2, 3, 4]⟩
theorem comp367 : compFn Try.prog inv isPure h367 Try.f136 = some c367 := by kernel_rfl
theorem name367 : (Try.f136.name == "runtime.NumGoroutine") = false := by kernel_rfl
def h368 : Hint := ⟨.args, [2], [0, 2, 3, 4, 5, 6, 7, 16, 23, 30, 36, 43, 45]⟩
theorem comp368 : compFn Try.prog inv isPure h368 Try.f85 = some c368 := by kernel_rfl
theorem name368 : (Try.f85.name == "runtime.NumGoroutine") = false := by kernel_rfl
def h393 : Hint := ⟨.pure, [1], [0, 1, 2, 3, 5, 6, 7, 8]⟩
theorem comp393 : compFn Try.prog inv isPure h393 Try.f88 = some c393 := by kernel_rfl
theorem name393 : (Try.f88.name == "runtime.NumGoroutine") = false := by kernel_rfl
def h395 : Hint := ⟨.pure, [3], [0, 1, 2, 3, 6]⟩
theorem comp395 : compFn Try.prog inv isPure h395 Try.f98 = some c395 := by kernel_rfl
theorem name395 : (Try.f98.name == "runtime.NumGoroutine") = false := by kernel_rfl
def h440 : Hint := ⟨.pure, [], [0, 2, 3, 4, 5, 8, 12, 18]⟩
theorem comp440 : compFn Try.prog inv isPure h440 Try.f101 = some c440 := by kernel_rfl
theorem name440 : (Try.f101.name == "runtime.NumGoroutine") = false := by kernel_rfl
def h443 : Hint := ⟨.pure, [6, 4, 3], [0, 1, 2, 3, 4, 6, 7, 8, 9, 10, 11]⟩
theorem comp443 : compFn Try.prog inv isPure h443 Try.f155 = some c443 := by kernel_rfl
theorem name443 : (Try.f155.name == "runtime.NumGoroutine") = false := by kernel_rfl
def h445 : Hint := ⟨.pure, [], [0, 1, 4]⟩
theorem comp445 : compFn Try.prog inv isPure h445 Try.f151 = some c445 := by kernel_rfl
theorem name445 : (Try.f151.name == "runtime.NumGoroutine") = false := by kernel_rfl
def h446 : Hint := ⟨.pure, [], [0, 2]⟩
theorem comp446 : compFn Try.prog inv isPure h446 Try.f152 = some c446 := by kernel_rfl
theorem name446 : (Try.f152.name == "runtime.NumGoroutine") = false := by kernel_rfl
def h448 : Hint := ⟨.pure, [3], [0, 1, 2, 3, 6, 7, 11]⟩
theorem comp448 : compFn Try.prog inv isPure h448 Try.f106 = some c448 := by kernel_rfl
theorem name448 : (Try.f106.name == "runtime.NumGoroutine") = false := by kernel_rfl
def h449 : Hint := ⟨.pure, [1], [0, 1, 2, 3, 4, 5, 7, 8, 10, 11, 16]⟩
theorem comp449 : compFn Try.prog inv isPure h449 Try.f89 = some c449 := by kernel_rfl
theorem name449 : (Try.f89.name == "runtime.NumGoroutine") = false := by kernel_rfl
def h450 : Hint := ⟨.pure, [8, 7, 6, 3], [0, 1, 2, 3, 6, 7, 8, 19]⟩
theorem comp450 : compFn Try.prog inv isPure h450 Try.f90 = some c450 := by kernel_rfl
theorem name450 : (Try.f90.name == "runtime.NumGoroutine") = false := by kernel_rfl
def h451 : Hint := ⟨.pure, [], [0, 2, 3, 4, 5, 6, 14]⟩
theorem comp451 : compFn Try.prog inv isPure h451 Try.f93 = some c451 := by kernel_rfl
theorem name451 : (Try.f93.name == "runtime.NumGoroutine") = false := by kernel_rfl
def h452 : Hint := ⟨.pure, [2, 1], [0, 1, 2]⟩
theorem comp452 : compFn Try.prog inv isPure h452 Try.f94 = some c452 := by kernel_rfl
theorem name452 : (Try.f94.name == "runtime.NumGoroutine") = false := by kernel_rfl
def h453 : Hint := ⟨.pure, [2], [0, 2, 3, 4, 5, 6, 7, 16]⟩
theorem comp453 : compFn Try.prog inv isPure h453 Try.f95 = some c453 := by kernel_rfl
theorem name453 : (Try.f95.name == "runtime.NumGoroutine") = false := by kernel_rfl
def h454 : Hint := ⟨.pure, [], [0, 1, 2, 5]⟩
theorem comp454 : compFn Try.prog inv isPure h454 Try.f96 = some c454 := by kernel_rfl
theorem name454 : (Try.f96.name == "runtime.NumGoroutine") = false := by kernel_rfl
def h455 : Hint := ⟨.pure, [], [0, 1, 2, 3, 6]⟩
theorem comp455 : compFn Try.prog inv isPure h455 Try.f100 = some c455 := by kernel_rfl
theorem name455 : (Try.f100.name == "runtime.NumGoroutine") = false := by kernel_rfl
def h456 : Hint := ⟨.pure, [], [0, 1, 2, 6]⟩
theorem comp456 : compFn Try.prog inv isPure h456 Try.f103 = some c456 := by kernel_rfl
theorem name456 : (Try.f103.name == "runtime.NumGoroutine") = false := by kernel_rfl
def h457 : Hint := ⟨.pure, [2], [0, 2, 3, 4, 5, 6, 7, 8, 9, 14, 19]⟩
theorem comp457 : compFn Try.prog inv isPure h457 Try.f108 = some c457 := by kernel_rfl
theorem name457 : (Try.f108.name == "runtime.NumGoroutine") = false := by kernel_rfl
def h458 : Hint := ⟨.pure, [], [0, 1, 2, 3, 4, 5, 6, 9]⟩
theorem comp458 : compFn Try.prog inv isPure h458 Try.f110 = some c458 := by kernel_rfl
theorem name458 : (Try.f110.name == "runtime.NumGoroutine") = false := by kernel_rfl
def h459 : Hint := ⟨.args, [], [0, 1, 4, 5, 7, 11]⟩
theorem comp459 : compFn Try.prog inv isPure h459 Try.f122 = some c459 := by kernel_rfl
theorem name459 : (Try.f122.name == "runtime.NumGoroutine") = false := by kernel_rfl
def h474 : Hint := ⟨.pure, [], [0, 1, 4, 5, 7, 8, 9, 16]⟩
theorem comp474 : compFn Try.prog inv isPure h474 Try.f175 = some c474 := by kernel_rfl
theorem name474 : (Try.f175.name == "runtime.NumGoroutine") = false := by kernel_rfl
def h502 : Hint := ⟨.pure, [], [0, 1, 4]⟩
theorem comp502 : compFn Try.prog inv isPure h502 Try.f183 = some c502 := by kernel_rfl
theorem name502 : (Try.f183.name == "runtime.NumGoroutine") = false := by kernel_rfl
def h503 : Hint := ⟨.pure, [], [0, 1, 4]⟩
theorem comp503 : compFn Try.prog inv isPure h503 Try.f182 = some c503 := by kernel_rfl
theorem name503 : (Try.f182.name == "runtime.NumGoroutine") = false := by kernel_rfl
def h504 : Hint := ⟨.pure, [], [0, 1, 4]⟩
theorem comp504 : compFn Try.prog inv isPure h504 Try.f156 = some c504 := by kernel_rfl
theorem name504 : (Try.f156.name == "runtime.NumGoroutine") = false := by kernel_rfl
def h505 : Hint := ⟨.pure, [], [0, 1, 4]⟩
theorem comp505 : compFn Try.prog inv isPure h505 Try.f138 = some c505 := by kernel_rfl
theorem name505 : (Try.f138.name == "runtime.NumGoroutine") = false := by kernel_rfl
def h506 : Hint := ⟨.pure, [1], [0, 1, 2]⟩
theorem comp506 : compFn Try.prog inv isPure h506 Try.f139 = some c506 := by kernel_rfl
theorem name506 : (Try.f139.name == "runtime.NumGoroutine") = false := by kernel_rfl
def h511 : Hint := ⟨.pure, [], [0, 1, 4, 7]⟩
theorem comp511 : compFn Try.prog inv isPure h511 Try.f159 = some c511 := by kernel_rfl
theorem name511 : (Try.f159.name == "runtime.NumGoroutine") = false := by kernel_rfl
def h512 : Hint := ⟨.pure, [], [0, 1, 4]⟩
theorem comp512 : compFn Try.prog inv isPure h512 Try.f174 = some c512 := by kernel_rfl
theorem name512 : (Try.f174.name == "runtime.NumGoroutine") = false := by kernel_rfl
def h513 : Hint := ⟨.args, [], [0, 1, 4]⟩
theorem comp513 : compFn Try.prog inv isPure h513 Try.f150 = some c513 := by kernel_rfl
theorem name513 : (Try.f150.name == "runtime.NumGoroutine") = false := by kernel_rfl
def h530 : Hint := ⟨.pure, [], [0, 2]⟩
theorem comp530 : compFn Try.prog inv isPure h530 Try.f153 = some c530 := by kernel_rfl
theorem name530 : (Try.f153.name == "runtime.NumGoroutine") = false := by kernel_rfl
def h547 : Hint := ⟨.pure, [], [0, 1, 4, 5, 7, 8, 9, 16]⟩
theorem comp547 : compFn Try.prog inv isPure h547 Try.f181 = some c547 := by kernel_rfl
theorem name547 : (Try.f181.name == "runtime.NumGoroutine") = false := by kernel_rfl
def h548 : Hint := ⟨.pure, [8, 6], [0, 1, 2, 6, 7, 8, 9, 16, 32]⟩
theorem comp548 : compFn Try.prog inv isPure h548 Try.f157 = some c548 := by kernel_rfl
theorem name548 : (Try.f157.name == "runtime.NumGoroutine") = false := by kernel_rfl
def h549 : Hint := ⟨.pure, [], [0, 1, 4, 7]⟩
theorem comp549 : compFn Try.prog inv isPure h549 Try.f160 = some c549 := by kernel_rfl
theorem name549 : (Try.f160.name == "runtime.NumGoroutine") = false := by kernel_rfl
def h550 : Hint := ⟨.args, [], [0, 2, 3, 13, 53]⟩
theorem comp550 : compFn Try.prog inv isPure h550 Try.f165 = some c550 := by kernel_rfl
theorem name550 : (Try.f165.name == "runtime.NumGoroutine") = false := by kernel_rfl
theorem tab_ok : ∀ f D, tab f = some D → DefOk Try.prog inv isPure rho f D := by
  intro f D h
  unfold tab at h
  split at h
  · cases h; exact ⟨Try.f4, h48, Try.func4, name48, comp48⟩
  · cases h; exact ⟨Try.f22, h84, Try.func22, name84, comp84⟩
  · cases h; exact ⟨Try.f33, h124, Try.func33, name124, comp124⟩
  · cases h; exact ⟨Try.f14, h125, Try.func14, name125, comp125⟩
  · cases h; exact ⟨Try.f23, h147, Try.func23, name147, comp147⟩
  · cases h; exact ⟨Try.f87, h234, Try.func87, name234, comp234⟩
  · cases h; exact ⟨Try.f30, h237, Try.func30, name237, comp237⟩
  · cases h; exact ⟨Try.f39, h240, Try.func39, name240, comp240⟩
  · cases h; exact ⟨Try.f32, h242, Try.func32, name242, comp242⟩
  · cases h; exact ⟨Try.f24, h245, Try.func24, name245, comp245⟩
  · cases h; exact ⟨Try.f25, h246, Try.func25, name246, comp246⟩
  · cases h; exact ⟨Try.f26, h247, Try.func26, name247, comp247⟩
  · cases h; exact ⟨Try.f27, h248, Try.func27, name248, comp248⟩
  · cases h; exact ⟨Try.f28, h249, Try.func28, name249, comp249⟩
  · cases h; exact ⟨Try.f29, h250, Try.func29, name250, comp250⟩
  · cases h; exact ⟨Try.f31, h251, Try.func31, name251, comp251⟩
  · cases h; exact ⟨Try.f34, h252, Try.func34, name252, comp252⟩
  · cases h; exact ⟨Try.f35, h253, Try.func35, name253, comp253⟩
  · cases h; exact ⟨Try.f36, h254, Try.func36, name254, comp254⟩
  · cases h; exact ⟨Try.f37, h255, Try.func37, name255, comp255⟩
  · cases h; exact ⟨Try.f38, h256, Try.func38, name256, comp256⟩
  · cases h; exact ⟨Try.f40, h257, Try.func40, name257, comp257⟩
  · cases h; exact ⟨Try.f80, h295, Try.func80, name295, comp295⟩
  · cases h; exact ⟨Try.f126, h304, Try.func126, name304, comp304⟩
  · cases h; exact ⟨Try.f104, h305, Try.func104, name305, comp305⟩
  · cases h; exact ⟨Try.f99, h306, Try.func99, name306, comp306⟩
  · cases h; exact ⟨Try.f86, h315, Try.func86, name315, comp315⟩
  · cases h; exact ⟨Try.f70, h324, Try.func70, name324, comp324⟩
  · cases h; exact ⟨Try.f105, h327, Try.func105, name327, comp327⟩
  · cases h; exact ⟨Try.f107, h337, Try.func107, name337, comp337⟩
  · cases h; exact ⟨Try.f158, h338, Try.func158, name338, comp338⟩
  · cases h; exact ⟨Try.f102, h342, Try.func102, name342, comp342⟩
  · cases h; exact ⟨Try.f97, h345, Try.func97, name345, comp345⟩
  · cases h; exact ⟨Try.f109, h346, Try.func109, name346, comp346⟩
  · cases h; exact ⟨Try.f154, h348, Try.func154, name348, comp348⟩
  · cases h; exact ⟨Try.f148, h349, Try.func148, name349, comp349⟩
  · cases h; exact ⟨Try.f91, h350, Try.func91, name350, comp350⟩
  · cases h; exact ⟨Try.f72, h351, Try.func72, name351, comp351⟩
  · cases h; exact ⟨Try.f147, h358, Try.func147, name358, comp358⟩
  · cases h; exact ⟨Try.f92, h359, Try.func92, name359, comp359⟩
  · cases h; exact ⟨Try.f136, h367, Try.func136, name367, comp367⟩
  · cases h; exact ⟨Try.f85, h368, Try.func85, name368, comp368⟩
  · cases h; exact ⟨Try.f88, h393, Try.func88, name393, comp393⟩
  · cases h; exact ⟨Try.f98, h395, Try.func98, name395, comp395⟩
  · cases h; exact ⟨Try.f101, h440, Try.func101, name440, comp440⟩
  · cases h; exact ⟨Try.f155, h443, Try.func155, name443, comp443⟩
  · cases h; exact ⟨Try.f151, h445, Try.func151, name445, comp445⟩
  · cases h; exact ⟨Try.f152, h446, Try.func152, name446, comp446⟩
  · cases h; exact ⟨Try.f106, h448, Try.func106, name448, comp448⟩
  · cases h; exact ⟨Try.f89, h449, Try.func89, name449, comp449⟩
  · cases h; exact ⟨Try.f90, h450, Try.func90, name450, comp450⟩
  · cases h; exact ⟨Try.f93, h451, Try.func93, name451, comp451⟩
  · cases h; exact ⟨Try.f94, h452, Try.func94, name452, comp452⟩
  · cases h; exact ⟨Try.f95, h453, Try.func95, name453, comp453⟩
  · cases h; exact ⟨Try.f96, h454, Try.func96, name454, comp454⟩
  · cases h; exact ⟨Try.f100, h455, Try.func100, name455, comp455⟩
  · cases h; exact ⟨Try.f103, h456, Try.func103, name456, comp456⟩
  · cases h; exact ⟨Try.f108, h457, Try.func108, name457, comp457⟩
  · cases h; exact ⟨Try.f110, h458, Try.func110, name458, comp458⟩
  · cases h; exact ⟨Try.f122, h459, Try.func122, name459, comp459⟩
  · cases h; exact ⟨Try.f175, h474, Try.func175, name474, comp474⟩
  · cases h; exact ⟨Try.f183, h502, Try.func183, name502, comp502⟩
  · cases h; exact ⟨Try.f182, h503, Try.func182, name503, comp503⟩
  · cases h; exact ⟨Try.f156, h504, Try.func156, name504, comp504⟩
  · cases h; exact ⟨Try.f138, h505, Try.func138, name505, comp505⟩
  · cases h; exact ⟨Try.f139, h506, Try.func139, name506, comp506⟩
  · cases h; exact ⟨Try.f159, h511, Try.func159, name511, comp511⟩
  · cases h; exact ⟨Try.f174, h512, Try.func174, name512, comp512⟩
  · cases h; exact ⟨Try.f150, h513, Try.func150, name513, comp513⟩
  · cases h; exact ⟨Try.f153, h530, Try.func153, name530, comp530⟩
  · cases h; exact ⟨Try.f181, h547, Try.func181, name547, comp547⟩
  · cases h; exact ⟨Try.f157, h548, Try.func157, name548, comp548⟩
  · cases h; exact ⟨Try.f160, h549, Try.func160, name549, comp549⟩
  · cases h; exact ⟨Try.f165, h550, Try.func165, name550, comp550⟩
  · cases h
end Fb
