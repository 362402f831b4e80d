/- Each function of the law is compiled by the checker to its text in the small language. -/
import Derived.Test.YtmdnahopljfakaaRow2
import Derived.Test.YtmdnahopljfakaaTab
import Derived.Test.YtmdnahopljfakaaRows
import Derived.KernelRfl
set_option linter.unusedVariables false
set_option linter.unusedSimpArgs false
namespace Fb
open Go Go.Proofs

def inv : FuncId → Option Nat := fun f => match f with
  | 3 => some 55
  | 6 => some 86
  | 7 => some 87
  | 10 => some 89
  | 8 => some 90
  | 11 => some 91
  | 12 => some 92
  | 13 => some 93
  | 15 => some 97
  | 16 => some 98
  | 17 => some 99
  | 18 => some 100
  | 19 => some 101
  | 20 => some 102
  | 14 => some 125
  | 87 => some 234
  | 9 => some 272
  | 21 => some 273
  | 140 => some 281
  | 80 => some 295
  | 126 => some 304
  | 104 => some 305
  | 62 => some 316
  | 63 => some 317
  | 64 => some 318
  | 65 => some 319
  | 66 => some 320
  | 67 => some 321
  | 68 => some 322
  | 69 => some 323
  | 70 => some 324
  | 71 => some 325
  | 73 => some 329
  | 74 => some 330
  | 75 => some 331
  | 76 => some 332
  | 77 => some 333
  | 78 => some 334
  | 79 => some 335
  | 81 => some 336
  | 107 => some 337
  | 158 => some 338
  | 102 => some 342
  | 148 => some 349
  | 91 => some 350
  | 72 => some 351
  | 149 => some 355
  | 147 => some 358
  | 92 => some 359
  | 136 => some 367
  | 83 => some 373
  | 88 => some 393
  | 137 => some 409
  | 141 => some 416
  | 101 => some 440
  | 155 => some 443
  | 151 => some 445
  | 152 => some 446
  | 103 => some 456
  | 82 => some 467
  | 84 => some 468
  | 176 => some 471
  | 177 => some 472
  | 178 => some 473
  | 175 => some 474
  | 132 => some 491
  | 133 => some 492
  | 134 => some 493
  | 135 => some 494
  | 142 => some 497
  | 143 => some 498
  | 144 => some 499
  | 145 => some 500
  | 146 => some 501
  | 183 => some 502
  | 156 => some 504
  | 138 => some 505
  | 139 => some 506
  | 174 => some 512
  | 153 => some 530
  | 181 => some 547
  | 190 => some 555
  | 171 => some 560
  | 172 => some 561
  | 173 => some 562
  | 179 => some 563
  | 180 => some 564
  | 187 => some 586
  | 188 => some 587
  | 189 => some 588
  | _ => none
def rho : Nat → FuncId := fun n => match n with
  | 55 => 3
  | 86 => 6
  | 87 => 7
  | 89 => 10
  | 90 => 8
  | 91 => 11
  | 92 => 12
  | 93 => 13
  | 97 => 15
  | 98 => 16
  | 99 => 17
  | 100 => 18
  | 101 => 19
  | 102 => 20
  | 125 => 14
  | 234 => 87
  | 272 => 9
  | 273 => 21
  | 281 => 140
  | 295 => 80
  | 304 => 126
  | 305 => 104
  | 316 => 62
  | 317 => 63
  | 318 => 64
  | 319 => 65
  | 320 => 66
  | 321 => 67
  | 322 => 68
  | 323 => 69
  | 324 => 70
  | 325 => 71
  | 329 => 73
  | 330 => 74
  | 331 => 75
  | 332 => 76
  | 333 => 77
  | 334 => 78
  | 335 => 79
  | 336 => 81
  | 337 => 107
  | 338 => 158
  | 342 => 102
  | 349 => 148
  | 350 => 91
  | 351 => 72
  | 355 => 149
  | 358 => 147
  | 359 => 92
  | 367 => 136
  | 373 => 83
  | 393 => 88
  | 409 => 137
  | 416 => 141
  | 440 => 101
  | 443 => 155
  | 445 => 151
  | 446 => 152
  | 456 => 103
  | 467 => 82
  | 468 => 84
  | 471 => 176
  | 472 => 177
  | 473 => 178
  | 474 => 175
  | 491 => 132
  | 492 => 133
  | 493 => 134
  | 494 => 135
  | 497 => 142
  | 498 => 143
  | 499 => 144
  | 500 => 145
  | 501 => 146
  | 502 => 183
  | 504 => 156
  | 505 => 138
  | 506 => 139
  | 512 => 174
  | 530 => 153
  | 547 => 181
  | 555 => 190
  | 560 => 171
  | 561 => 172
  | 562 => 173
  | 563 => 179
  | 564 => 180
  | 586 => 187
  | 587 => 188
  | 588 => 189
  | _ => 0
def isPure : Nat → Bool := fun n => !([305] : List Nat).contains n
theorem inv_rho : ∀ f i, inv f = some i → rho i = f := by
  intro f i h
  unfold inv at h
  split at h <;> first | (cases h; rfl) | cases h
def h55 : Hint := ⟨.pure, [45, 43, 38, 36, 34, 32], [0, 1, 2, 3, 4, 10, 11, 12, 13, 14, 15, 17, 18, 19, 20, 21, 22, 23, 24, 25, 26, 27, 28, 29, 30, 31, 32, 33, 34, 35, 36, 37, 38, 39, 40, 41, 42, 43, 44, 45, 46, 47, 66, 68, 92, 126, 134, 143, 182, 216, 218, 230, 233, 246, 258, 273, 299]⟩
theorem comp55 : compFn Try.prog inv isPure h55 Try.f3 = some c55 := by kernel_rfl
theorem name55 : (Try.f3.name == "runtime.NumGoroutine") = false := by kernel_rfl
def h86 : Hint := ⟨.pure, [], [0, 2, 3, 5, 6, 7, 8, 11, 18, 19, 20, 21, 35, 59]⟩
theorem comp86 : compFn Try.prog inv isPure h86 Try.f6 = some c86 := by kernel_rfl
theorem name86 : (Try.f6.name == "runtime.NumGoroutine") = false := by kernel_rfl
def h87 : Hint := ⟨.pure, [], [0, 2, 3, 5, 6, 7, 10, 21, 37, 45]⟩
theorem comp87 : compFn Try.prog inv isPure h87 Try.f7 = some c87 := by kernel_rfl
theorem name87 : (Try.f7.name == "runtime.NumGoroutine") = false := by kernel_rfl
def h89 : Hint := ⟨.pure, [], [0, 1, 4, 5, 6, 8, 12, 15, 16, 17, 18]⟩
theorem comp89 : compFn Try.prog inv isPure h89 Try.f10 = some c89 := by kernel_rfl
theorem name89 : (Try.f10.name == "runtime.NumGoroutine") = false := by kernel_rfl
def h90 : Hint := ⟨.pure, [], [0, 1, 4, 5, 10, 14, 25]⟩
theorem comp90 : compFn Try.prog inv isPure h90 Try.f8 = some c90 := by kernel_rfl
theorem name90 : (Try.f8.name == "runtime.NumGoroutine") = false := by kernel_rfl
def h91 : Hint := ⟨.pure, [], [0, 1, 4]⟩
theorem comp91 : compFn Try.prog inv isPure h91 Try.f11 = some c91 := by kernel_rfl
theorem name91 : (Try.f11.name == "runtime.NumGoroutine") = false := by kernel_rfl
def h92 : Hint := ⟨.pure, [], [0, 1, 4, 5, 6, 7, 8, 9, 10, 11, 12, 13, 14, 18, 21, 30, 38, 59]⟩
theorem comp92 : compFn Try.prog inv isPure h92 Try.f12 = some c92 := by kernel_rfl
theorem name92 : (Try.f12.name == "runtime.NumGoroutine") = false := by kernel_rfl
def h93 : Hint := ⟨.pure, [], [0, 1, 4, 5, 6, 7, 8, 9, 10, 11, 12, 13, 16, 18, 22, 27, 35, 54]⟩
theorem comp93 : compFn Try.prog inv isPure h93 Try.f13 = some c93 := by kernel_rfl
theorem name93 : (Try.f13.name == "runtime.NumGoroutine") = false := by kernel_rfl
def h97 : Hint := ⟨.pure, [6], [0, 1, 2, 6, 7, 8, 14]⟩
theorem comp97 : compFn Try.prog inv isPure h97 Try.f15 = some c97 := by kernel_rfl
theorem name97 : (Try.f15.name == "runtime.NumGoroutine") = false := by kernel_rfl
def h98 : Hint := ⟨.pure, [9, 6], [0, 1, 2, 6, 7, 8, 9, 15]⟩
theorem comp98 : compFn Try.prog inv isPure h98 Try.f16 = some c98 := by kernel_rfl
theorem name98 : (Try.f16.name == "runtime.NumGoroutine") = false := by kernel_rfl
def h99 : Hint := ⟨.pure, [6], [0, 1, 2, 6, 7, 8, 14]⟩
theorem comp99 : compFn Try.prog inv isPure h99 Try.f17 = some c99 := by kernel_rfl
theorem name99 : (Try.f17.name == "runtime.NumGoroutine") = false := by kernel_rfl
def h100 : Hint := ⟨.pure, [2, 1], [0, 1, 2, 3, 6]⟩
theorem comp100 : compFn Try.prog inv isPure h100 Try.f18 = some c100 := by kernel_rfl
theorem name100 : (Try.f18.name == "runtime.NumGoroutine") = false := by kernel_rfl
def h101 : Hint := ⟨.pure, [], [0, 1, 2, 3, 8, 9, 10, 11, 12, 13, 19, 24]⟩
theorem comp101 : compFn Try.prog inv isPure h101 Try.f19 = some c101 := by kernel_rfl
theorem name101 : (Try.f19.name == "runtime.NumGoroutine") = false := by kernel_rfl
def h102 : Hint := ⟨.pure, [6, 3], [0, 1, 2, 3, 6, 7, 8, 13]⟩
theorem comp102 : compFn Try.prog inv isPure h102 Try.f20 = some c102 := by kernel_rfl
theorem name102 : (Try.f20.name == "runtime.NumGoroutine") = false := by kernel_rfl
def h125 : Hint := ⟨.pure, [3, 2], [0, 1, 2, 3, 4, 5, 10]⟩
theorem comp125 : compFn Try.prog inv isPure h125 Try.f14 = some c125 := by kernel_rfl
theorem name125 : (Try.f14.name == "runtime.NumGoroutine") = false := by kernel_rfl
def h234 : Hint := ⟨.pure, [], [0, 1, 2]⟩
theorem comp234 : compFn Try.prog inv isPure h234 Try.f87 = some c234 := by kernel_rfl
theorem name234 : (Try.f87.name == "runtime.NumGoroutine") = false := by kernel_rfl
def h272 : Hint := ⟨.pure, [], [0, 2, 3, 4, 5, 6, 9]⟩
theorem comp272 : compFn Try.prog inv isPure h272 Try.f9 = some c272 := by kernel_rfl
theorem name272 : (Try.f9.name == "runtime.NumGoroutine") = false := by kernel_rfl
def h273 : Hint := ⟨.pure, [6], [0, 1, 2, 3, 6, 7, 8, 10, 17]⟩
theorem comp273 : compFn Try.prog inv isPure h273 Try.f21 = some c273 := by kernel_rfl
theorem name273 : (Try.f21.name == "runtime.NumGoroutine") = false := by kernel_rfl
def h281 : Hint := ⟨.pure, [], [0, 2]⟩
theorem comp281 : compFn Try.prog inv isPure h281 Try.f140 = some c281 := by kernel_rfl
theorem name281 : (Try.f140.name == "runtime.NumGoroutine") = false := by kernel_rfl
def h295 : Hint := ⟨.pure, [], [0, 1, 2, 6]⟩
theorem comp295 : compFn Try.prog inv isPure h295 Try.f80 = some c295 := by kernel_rfl
theorem name295 : (Try.f80.name == "runtime.NumGoroutine") = false := by kernel_rfl
def h304 : Hint := ⟨.pure, [], [0, 1, 2, 6]⟩
theorem comp304 : compFn Try.prog inv isPure h304 Try.f126 = some c304 := by kernel_rfl
theorem name304 : (Try.f126.name == "runtime.NumGoroutine") = false := by kernel_rfl
def h305 : Hint := ⟨.args, [], [0, 1, 2, 8]⟩
theorem comp305 : compFn Try.prog inv isPure h305 Try.f104 = some c305 := by kernel_rfl
theorem name305 : (Try.f104.name == "runtime.NumGoroutine") = false := by kernel_rfl
def h316 : Hint := ⟨.pure, [], [0, 2]⟩
theorem comp316 : compFn Try.prog inv isPure h316 Try.f62 = some c316 := by kernel_rfl
theorem name316 : (Try.f62.name == "runtime.NumGoroutine") = false := by kernel_rfl
def h317 : Hint := ⟨.pure, [7], [0, 2, 3, 4, 5, 7, 8, 11, 12, 13, 14, 21]⟩
theorem comp317 : compFn Try.prog inv isPure h317 Try.f63 = some c317 := by kernel_rfl
theorem name317 : (Try.f63.name == "runtime.NumGoroutine") = false := by kernel_rfl
def h318 : Hint := ⟨.pure, [], [0, 2, 3, 7, 14]⟩
theorem comp318 : compFn Try.prog inv isPure h318 Try.f64 = some c318 := by kernel_rfl
theorem name318 : (Try.f64.name == "runtime.NumGoroutine") = false := by kernel_rfl
def h319 : Hint := ⟨.pure, [], [0, 2, 3, 4, 5, 6, 7, 15, 23]⟩
theorem comp319 : compFn Try.prog inv isPure h319 Try.f65 = some c319 := by kernel_rfl
theorem name319 : (Try.f65.name == "runtime.NumGoroutine") = false := by kernel_rfl
def h320 : Hint := ⟨.pure, [], [0, 1, 4]⟩
theorem comp320 : compFn Try.prog inv isPure h320 Try.f66 = some c320 := by kernel_rfl
theorem name320 : (Try.f66.name == "runtime.NumGoroutine") = false := by kernel_rfl
def h321 : Hint := ⟨.pure, [5], [0, 2, 3, 5, 7, 8, 9, 10]⟩
theorem comp321 : compFn Try.prog inv isPure h321 Try.f67 = some c321 := by kernel_rfl
theorem name321 : (Try.f67.name == "runtime.NumGoroutine") = false := by kernel_rfl
def h322 : Hint := ⟨.pure, [], [0, 2, 3, 6]⟩
theorem comp322 : compFn Try.prog inv isPure h322 Try.f68 = some c322 := by kernel_rfl
theorem name322 : (Try.f68.name == "runtime.NumGoroutine") = false := by kernel_rfl
def h323 : Hint := ⟨.pure, [], [0, 1, 4, 5, 10, 14, 25]⟩
theorem comp323 : compFn Try.prog inv isPure h323 Try.f69 = some c323 := by kernel_rfl
theorem name323 : (Try.f69.name == "runtime.NumGoroutine") = false := by kernel_rfl
def h324 : Hint := ⟨.pure, [3, 2], [0, 1, 2, 3, 4]⟩
theorem comp324 : compFn Try.prog inv isPure h324 Try.f70 = some c324 := by kernel_rfl
theorem name324 : (Try.f70.name == "runtime.NumGoroutine") = false := by kernel_rfl
def h325 : Hint := ⟨.pure, [], [0, 1, 4, 5, 6, 9]⟩
theorem comp325 : compFn Try.prog inv isPure h325 Try.f71 = some c325 := by kernel_rfl
theorem name325 : (Try.f71.name == "runtime.NumGoroutine") = false := by kernel_rfl
def h329 : Hint := ⟨.pure, [], [0, 1, 2, 6, 7, 11]⟩
theorem comp329 : compFn Try.prog inv isPure h329 Try.f73 = some c329 := by kernel_rfl
theorem name329 : (Try.f73.name == "runtime.NumGoroutine") = false := by kernel_rfl
def h330 : Hint := ⟨.pure, [9, 7, 6], [0, 1, 2, 6, 7, 9, 11, 12, 13, 14]⟩
theorem comp330 : compFn Try.prog inv isPure h330 Try.f74 = some c330 := by kernel_rfl
theorem name330 : (Try.f74.name == "runtime.NumGoroutine") = false := by kernel_rfl
def h331 : Hint := ⟨.pure, [], [0, 1, 2, 6, 9, 17]⟩
theorem comp331 : compFn Try.prog inv isPure h331 Try.f75 = some c331 := by kernel_rfl
theorem name331 : (Try.f75.name == "runtime.NumGoroutine") = false := by kernel_rfl
def h332 : Hint := ⟨.pure, [6], [0, 1, 2, 6, 7, 8, 9, 10, 11, 16]⟩
theorem comp332 : compFn Try.prog inv isPure h332 Try.f76 = some c332 := by kernel_rfl
theorem name332 : (Try.f76.name == "runtime.NumGoroutine") = false := by kernel_rfl
def h333 : Hint := ⟨.pure, [1], [0, 1, 2]⟩
theorem comp333 : compFn Try.prog inv isPure h333 Try.f77 = some c333 := by kernel_rfl
theorem name333 : (Try.f77.name == "runtime.NumGoroutine") = false := by kernel_rfl
def h334 : Hint := ⟨.pure, [], [0, 1, 4]⟩
theorem comp334 : compFn Try.prog inv isPure h334 Try.f78 = some c334 := by kernel_rfl
theorem name334 : (Try.f78.name == "runtime.NumGoroutine") = false := by kernel_rfl
def h335 : Hint := ⟨.pure, [3], [0, 1, 2, 3, 6, 7]⟩
theorem comp335 : compFn Try.prog inv isPure h335 Try.f79 = some c335 := by kernel_rfl
theorem name335 : (Try.f79.name == "runtime.NumGoroutine") = false := by kernel_rfl
def h336 : Hint := ⟨.pure, [6, 3], [0, 1, 2, 3, 6]⟩
theorem comp336 : compFn Try.prog inv isPure h336 Try.f81 = some c336 := by kernel_rfl
theorem name336 : (Try.f81.name == "runtime.NumGoroutine") = false := by kernel_rfl
def h337 : Hint := ⟨.pure, [5, 4], [0, 1, 4, 5, 6, 9]⟩
theorem comp337 : compFn Try.prog inv isPure h337 Try.f107 = some c337 := by kernel_rfl
theorem name337 : (Try.f107.name == "runtime.NumGoroutine") = false := by kernel_rfl
def h338 : Hint := ⟨.pure, [4, 3, 2], [0, 1, 2, 3, 4]⟩
theorem comp338 : compFn Try.prog inv isPure h338 Try.f158 = some c338 := by kernel_rfl
theorem name338 : (Try.f158.name == "runtime.NumGoroutine") = false := by kernel_rfl
def h342 : Hint := ⟨.pure, [], [0, 1, 4]⟩
theorem comp342 : compFn Try.prog inv isPure h342 Try.f102 = some c342 := by kernel_rfl
theorem name342 : (Try.f102.name == "runtime.NumGoroutine") = false := by kernel_rfl
def h349 : Hint := ⟨.pure, [5, 4], [0, 1, 4, 5, 6, 9]⟩
theorem comp349 : compFn Try.prog inv isPure h349 Try.f148 = some c349 := by kernel_rfl
theorem name349 : (Try.f148.name == "runtime.NumGoroutine") = false := by kernel_rfl
def h350 : Hint := ⟨.pure, [4, 3, 2], [0, 1, 2, 3, 4]⟩
theorem comp350 : compFn Try.prog inv isPure h350 Try.f91 = some c350 := by kernel_rfl
theorem name350 : (Try.f91.name == "runtime.NumGoroutine") = false := by kernel_rfl
def h351 : Hint := ⟨.pure, [], [0, 2]⟩
theorem comp351 : compFn Try.prog inv isPure h351 Try.f72 = some c351 := by kernel_rfl
theorem name351 : (Try.f72.name == "runtime.NumGoroutine") = false := by kernel_rfl
def h355 : Hint := ⟨.pure, [6], [0, 1, 2, 6, 7, 8, 9, 16]⟩
theorem comp355 : compFn Try.prog inv isPure h355 Try.f149 = some c355 := by kernel_rfl
theorem name355 : (Try.f149.name == "runtime.NumGoroutine") = false := by kernel_rfl
def h358 : Hint := ⟨.pure, [7, 6, 3], [0, 1, 2, 3, 6, 7, 8, 9, 13, 15, 16, 23, 25]⟩
theorem comp358 : compFn Try.prog inv isPure h358 Try.f147 = some c358 := by kernel_rfl
theorem name358 : (Try.f147.name == "runtime.NumGoroutine") = false := by kernel_rfl
def h359 : Hint := ⟨.pure, [], [0, 2, 3, 5, 13]⟩
theorem comp359 : compFn Try.prog inv isPure h359 Try.f92 = some c359 := by kernel_rfl
theorem name359 : (Try.f92.name == "runtime.NumGoroutine") = false := by kernel_rfl
def h367 : Hint := ⟨.pure, [4, 3, 2], [0, 1, 2, 3, 4]⟩
theorem comp367 : compFn Try.prog inv isPure h367 Try.f136 = some c367 := by kernel_rfl
theorem name367 : (Try.f136.name == "runtime.NumGoroutine") = false := by kernel_rfl
def h373 : Hint := ⟨.pure, [], [0, 1, 2, 6, 9, 17]⟩
theorem comp373 : compFn Try.prog inv isPure h373 Try.f83 = some c373 := by kernel_rfl
theorem name373 : (Try.f83.name == "runtime.NumGoroutine") = false := by kernel_rfl
def h393 : Hint := ⟨.pure, [1], [0, 1, 2, 3, 5, 6, 7, 8]⟩
theorem comp393 : compFn Try.prog inv isPure h393 Try.f88 = some c393 := by kernel_rfl
theorem name393 : (Try.f88.name == "runtime.NumGoroutine") = false := by kernel_rfl
def h409 : Hint := ⟨.pure, [], [0, 2]⟩
theorem comp409 : compFn Try.prog inv isPure h409 Try.f137 = some c409 := by kernel_rfl
theorem name409 : (Try.f137.name == "runtime.NumGoroutine") = false := by kernel_rfl
def h416 : Hint := ⟨.pure, [], [0, 1, 4]⟩
theorem comp416 : compFn Try.prog inv isPure h416 Try.f141 = some c416 := by kernel_rfl
theorem name416 : (Try.f141.name == "runtime.NumGoroutine") = false := by kernel_rfl
def h440 : Hint := ⟨.pure, [], [0, 2, 3, 4, 5, 8, 12, 18]⟩
theorem comp440 : compFn Try.prog inv isPure h440 Try.f101 = some c440 := by kernel_rfl
theorem name440 : (Try.f101.name == "runtime.NumGoroutine") = false := by kernel_rfl
def h443 : Hint := ⟨.pure, [6, 4, 3], [0, 1, 2, 3, 4, 6, 7, 8, 9, 10, 11]⟩
theorem comp443 : compFn Try.prog inv isPure h443 Try.f155 = some c443 := by kernel_rfl
theorem name443 : (Try.f155.name == "runtime.NumGoroutine") = false := by kernel_rfl
def h445 : Hint := ⟨.pure, [], [0, 1, 4]⟩
theorem comp445 : compFn Try.prog inv isPure h445 Try.f151 = some c445 := by kernel_rfl
theorem name445 : (Try.f151.name == "runtime.NumGoroutine") = false := by kernel_rfl
def h446 : Hint := ⟨.pure, [], [0, 2]⟩
theorem comp446 : compFn Try.prog inv isPure h446 Try.f152 = some c446 := by kernel_rfl
theorem name446 : (Try.f152.name == "runtime.NumGoroutine") = false := by kernel_rfl
def h456 : Hint := ⟨.pure, [], [0, 1, 2, 6]⟩
theorem comp456 : compFn Try.prog inv isPure h456 Try.f103 = some c456 := by kernel_rfl
theorem name456 : (Try.f103.name == "runtime.NumGoroutine") = false := by kernel_rfl
def h467 : Hint := ⟨.pure, [], [0, 2, 14]⟩
theorem comp467 : compFn Try.prog inv isPure h467 Try.f82 = some c467 := by kernel_rfl
theorem name467 : (Try.f82.name == "runtime.NumGoroutine") = false := by kernel_rfl
def h468 : Hint := ⟨.pure, [6], [0, 1, 2, 6]⟩
theorem comp468 : compFn Try.prog inv isPure h468 Try.f84 = some c468 := by kernel_rfl
theorem name468 : (Try.f84.name == "runtime.NumGoroutine") = false := by kernel_rfl
def h471 : Hint := ⟨.pure, [], [0, 1, 4]⟩
theorem comp471 : compFn Try.prog inv isPure h471 Try.f176 = some c471 := by kernel_rfl
theorem name471 : (Try.f176.name == "runtime.NumGoroutine") = false := by kernel_rfl
def h472 : Hint := ⟨.pure, [1], [0, 1, 2]⟩
theorem comp472 : compFn Try.prog inv isPure h472 Try.f177 = some c472 := by kernel_rfl
theorem name472 : (Try.f177.name == "runtime.NumGoroutine") = false := by kernel_rfl
def h473 : Hint := ⟨.pure, [1], [0, 1, 2]⟩
theorem comp473 : compFn Try.prog inv isPure h473 Try.f178 = some c473 := by kernel_rfl
theorem name473 : (Try.f178.name == "runtime.NumGoroutine") = false := by kernel_rfl
def h474 : Hint := ⟨.pure, [], [0, 1, 4, 5, 7, 8, 9, 16]⟩
theorem comp474 : compFn Try.prog inv isPure h474 Try.f175 = some c474 := by kernel_rfl
theorem name474 : (Try.f175.name == "runtime.NumGoroutine") = false := by kernel_rfl
def h491 : Hint := ⟨.pure, [3], [0, 1, 3, 4, 5, 7, 8, 9, 16]⟩
theorem comp491 : compFn Try.prog inv isPure h491 Try.f132 = some c491 := by kernel_rfl
theorem name491 : (Try.f132.name == "runtime.NumGoroutine") = false := by kernel_rfl
def h492 : Hint := ⟨.pure, [], [0, 2, 3, 4, 5, 10, 21]⟩
theorem comp492 : compFn Try.prog inv isPure h492 Try.f133 = some c492 := by kernel_rfl
theorem name492 : (Try.f133.name == "runtime.NumGoroutine") = false := by kernel_rfl
def h493 : Hint := ⟨.pure, [], [0, 1, 3, 4]⟩
theorem comp493 : compFn Try.prog inv isPure h493 Try.f134 = some c493 := by kernel_rfl
theorem name493 : (Try.f134.name == "runtime.NumGoroutine") = false := by kernel_rfl
def h494 : Hint := ⟨.pure, [], [0, 1, 4, 5, 6, 7, 8, 10, 26, 37]⟩
theorem comp494 : compFn Try.prog inv isPure h494 Try.f135 = some c494 := by kernel_rfl
theorem name494 : (Try.f135.name == "runtime.NumGoroutine") = false := by kernel_rfl
def h497 : Hint := ⟨.pure, [4, 3, 2], [0, 1, 2, 3, 4]⟩
theorem comp497 : compFn Try.prog inv isPure h497 Try.f142 = some c497 := by kernel_rfl
theorem name497 : (Try.f142.name == "runtime.NumGoroutine") = false := by kernel_rfl
def h498 : Hint := ⟨.pure, [], [0, 2, 3, 7, 14]⟩
theorem comp498 : compFn Try.prog inv isPure h498 Try.f143 = some c498 := by kernel_rfl
theorem name498 : (Try.f143.name == "runtime.NumGoroutine") = false := by kernel_rfl
def h499 : Hint := ⟨.pure, [], [0, 1, 2, 6, 7, 8]⟩
theorem comp499 : compFn Try.prog inv isPure h499 Try.f144 = some c499 := by kernel_rfl
theorem name499 : (Try.f144.name == "runtime.NumGoroutine") = false := by kernel_rfl
def h500 : Hint := ⟨.pure, [4], [0, 1, 4, 5]⟩
theorem comp500 : compFn Try.prog inv isPure h500 Try.f145 = some c500 := by kernel_rfl
theorem name500 : (Try.f145.name == "runtime.NumGoroutine") = false := by kernel_rfl
def h501 : Hint := ⟨.pure, [], [0, 1, 4]⟩
theorem comp501 : compFn Try.prog inv isPure h501 Try.f146 = some c501 := by kernel_rfl
theorem name501 : (Try.f146.name == "runtime.NumGoroutine") = false := by kernel_rfl
def h502 : Hint := ⟨.pure, [], [0, 1, 4]⟩
theorem comp502 : compFn Try.prog inv isPure h502 Try.f183 = some c502 := by kernel_rfl
theorem name502 : (Try.f183.name == "runtime.NumGoroutine") = false := by kernel_rfl
def h504 : Hint := ⟨.pure, [], [0, 1, 4]⟩
theorem comp504 : compFn Try.prog inv isPure h504 Try.f156 = some c504 := by kernel_rfl
theorem name504 : (Try.f156.name == "runtime.NumGoroutine") = false := by kernel_rfl
def h505 : Hint := ⟨.pure, [], [0, 1, 4]⟩
theorem comp505 : compFn Try.prog inv isPure h505 Try.f138 = some c505 := by kernel_rfl
theorem name505 : (Try.f138.name == "runtime.NumGoroutine") = false := by kernel_rfl
def h506 : Hint := ⟨.pure, [1], [0, 1, 2]⟩
theorem comp506 : compFn Try.prog inv isPure h506 Try.f139 = some c506 := by kernel_rfl
theorem name506 : (Try.f139.name == "runtime.NumGoroutine") = false := by kernel_rfl
def h512 : Hint := ⟨.pure, [], [0, 1, 4]⟩
theorem comp512 : compFn Try.prog inv isPure h512 Try.f174 = some c512 := by kernel_rfl
theorem name512 : (Try.f174.name == "runtime.NumGoroutine") = false := by kernel_rfl
def h530 : Hint := ⟨.pure, [], [0, 2]⟩
theorem comp530 : compFn Try.prog inv isPure h530 Try.f153 = some c530 := by kernel_rfl
theorem name530 : (Try.f153.name == "runtime.NumGoroutine") = false := by kernel_rfl
def h547 : Hint := ⟨.pure, [], [0, 1, 4, 5, 7, 8, 9, 16]⟩
theorem comp547 : compFn Try.prog inv isPure h547 Try.f181 = some c547 := by kernel_rfl
theorem name547 : (Try.f181.name == "runtime.NumGoroutine") = false := by kernel_rfl
def h555 : Hint := ⟨.pure, [], [0, 1, 4, 5, 7, 8, 9, 16]⟩
theorem comp555 : compFn Try.prog inv isPure h555 Try.f190 = some c555 := by kernel_rfl
theorem name555 : (Try.f190.name == "runtime.NumGoroutine") = false := by kernel_rfl
def h560 : Hint := ⟨.pure, [], [0, 1, 4]⟩
theorem comp560 : compFn Try.prog inv isPure h560 Try.f171 = some c560 := by kernel_rfl
theorem name560 : (Try.f171.name == "runtime.NumGoroutine") = false := by kernel_rfl
def h561 : Hint := ⟨.pure, [2], [0, 1, 2, 3]⟩
theorem comp561 : compFn Try.prog inv isPure h561 Try.f172 = some c561 := by kernel_rfl
theorem name561 : (Try.f172.name == "runtime.NumGoroutine") = false := by kernel_rfl
def h562 : Hint := ⟨.pure, [], [0, 1, 4, 5, 6, 7, 8, 9]⟩
theorem comp562 : compFn Try.prog inv isPure h562 Try.f173 = some c562 := by kernel_rfl
theorem name562 : (Try.f173.name == "runtime.NumGoroutine") = false := by kernel_rfl
def h563 : Hint := ⟨.pure, [], [0, 2]⟩
theorem comp563 : compFn Try.prog inv isPure h563 Try.f179 = some c563 := by kernel_rfl
theorem name563 : (Try.f179.name == "runtime.NumGoroutine") = false := by kernel_rfl
def h564 : Hint := ⟨.pure, [], [0, 1, 4, 5, 20]⟩
theorem comp564 : compFn Try.prog inv isPure h564 Try.f180 = some c564 := by kernel_rfl
theorem name564 : (Try.f180.name == "runtime.NumGoroutine") = false := by kernel_rfl
def h586 : Hint := ⟨.pure, [], [0, 1, 4, 5, 7, 8, 9, 16]⟩
theorem comp586 : compFn Try.prog inv isPure h586 Try.f187 = some c586 := by kernel_rfl
theorem name586 : (Try.f187.name == "runtime.NumGoroutine") = false := by kernel_rfl
def h587 : Hint := ⟨.pure, [], [0, 1, 4, 5, 6]⟩
theorem comp587 : compFn Try.prog inv isPure h587 Try.f188 = some c587 := by kernel_rfl
theorem name587 : (Try.f188.name == "runtime.NumGoroutine") = false := by kernel_rfl
def h588 : Hint := ⟨.pure, [], [0, 1, 4, 5, 6, 7, 8, 9, 10, 11, 12, 13]⟩
theorem comp588 : compFn Try.prog inv isPure h588 Try.f189 = some c588 := by kernel_rfl
theorem name588 : (Try.f189.name == "runtime.NumGoroutine") = false := by kernel_rfl
theorem tab_ok : ∀ f D, tab f = some D → DefOk Try.prog inv isPure rho f D := by
  intro f D h
  unfold tab at h
  split at h
  · cases h; exact ⟨Try.f3, h55, Try.func3, name55, comp55⟩
  · cases h; exact ⟨Try.f6, h86, Try.func6, name86, comp86⟩
  · cases h; exact ⟨Try.f7, h87, Try.func7, name87, comp87⟩
  · cases h; exact ⟨Try.f10, h89, Try.func10, name89, comp89⟩
  · cases h; exact ⟨Try.f8, h90, Try.func8, name90, comp90⟩
  · cases h; exact ⟨Try.f11, h91, Try.func11, name91, comp91⟩
  · cases h; exact ⟨Try.f12, h92, Try.func12, name92, comp92⟩
  · cases h; exact ⟨Try.f13, h93, Try.func13, name93, comp93⟩
  · cases h; exact ⟨Try.f15, h97, Try.func15, name97, comp97⟩
  · cases h; exact ⟨Try.f16, h98, Try.func16, name98, comp98⟩
  · cases h; exact ⟨Try.f17, h99, Try.func17, name99, comp99⟩
  · cases h; exact ⟨Try.f18, h100, Try.func18, name100, comp100⟩
  · cases h; exact ⟨Try.f19, h101, Try.func19, name101, comp101⟩
  · cases h; exact ⟨Try.f20, h102, Try.func20, name102, comp102⟩
  · cases h; exact ⟨Try.f14, h125, Try.func14, name125, comp125⟩
  · cases h; exact ⟨Try.f87, h234, Try.func87, name234, comp234⟩
  · cases h; exact ⟨Try.f9, h272, Try.func9, name272, comp272⟩
  · cases h; exact ⟨Try.f21, h273, Try.func21, name273, comp273⟩
  · cases h; exact ⟨Try.f140, h281, Try.func140, name281, comp281⟩
  · cases h; exact ⟨Try.f80, h295, Try.func80, name295, comp295⟩
  · cases h; exact ⟨Try.f126, h304, Try.func126, name304, comp304⟩
  · cases h; exact ⟨Try.f104, h305, Try.func104, name305, comp305⟩
  · cases h; exact ⟨Try.f62, h316, Try.func62, name316, comp316⟩
  · cases h; exact ⟨Try.f63, h317, Try.func63, name317, comp317⟩
  · cases h; exact ⟨Try.f64, h318, Try.func64, name318, comp318⟩
  · cases h; exact ⟨Try.f65, h319, Try.func65, name319, comp319⟩
  · cases h; exact ⟨Try.f66, h320, Try.func66, name320, comp320⟩
  · cases h; exact ⟨Try.f67, h321, Try.func67, name321, comp321⟩
  · cases h; exact ⟨Try.f68, h322, Try.func68, name322, comp322⟩
  · cases h; exact ⟨Try.f69, h323, Try.func69, name323, comp323⟩
  · cases h; exact ⟨Try.f70, h324, Try.func70, name324, comp324⟩
  · cases h; exact ⟨Try.f71, h325, Try.func71, name325, comp325⟩
  · cases h; exact ⟨Try.f73, h329, Try.func73, name329, comp329⟩
  · cases h; exact ⟨Try.f74, h330, Try.func74, name330, comp330⟩
  · cases h; exact ⟨Try.f75, h331, Try.func75, name331, comp331⟩
  · cases h; exact ⟨Try.f76, h332, Try.func76, name332, comp332⟩
  · cases h; exact ⟨Try.f77, h333, Try.func77, name333, comp333⟩
  · cases h; exact ⟨Try.f78, h334, Try.func78, name334, comp334⟩
  · cases h; exact ⟨Try.f79, h335, Try.func79, name335, comp335⟩
  · cases h; exact ⟨Try.f81, h336, Try.func81, name336, comp336⟩
  · cases h; exact ⟨Try.f107, h337, Try.func107, name337, comp337⟩
  · cases h; exact ⟨Try.f158, h338, Try.func158, name338, comp338⟩
  · cases h; exact ⟨Try.f102, h342, Try.func102, name342, comp342⟩
  · cases h; exact ⟨Try.f148, h349, Try.func148, name349, comp349⟩
  · cases h; exact ⟨Try.f91, h350, Try.func91, name350, comp350⟩
  · cases h; exact ⟨Try.f72, h351, Try.func72, name351, comp351⟩
  · cases h; exact ⟨Try.f149, h355, Try.func149, name355, comp355⟩
  · cases h; exact ⟨Try.f147, h358, Try.func147, name358, comp358⟩
  · cases h; exact ⟨Try.f92, h359, Try.func92, name359, comp359⟩
  · cases h; exact ⟨Try.f136, h367, Try.func136, name367, comp367⟩
  · cases h; exact ⟨Try.f83, h373, Try.func83, name373, comp373⟩
  · cases h; exact ⟨Try.f88, h393, Try.func88, name393, comp393⟩
  · cases h; exact ⟨Try.f137, h409, Try.func137, name409, comp409⟩
  · cases h; exact ⟨Try.f141, h416, Try.func141, name416, comp416⟩
  · cases h; exact ⟨Try.f101, h440, Try.func101, name440, comp440⟩
  · cases h; exact ⟨Try.f155, h443, Try.func155, name443, comp443⟩
  · cases h; exact ⟨Try.f151, h445, Try.func151, name445, comp445⟩
  · cases h; exact ⟨Try.f152, h446, Try.func152, name446, comp446⟩
  · cases h; exact ⟨Try.f103, h456, Try.func103, name456, comp456⟩
  · cases h; exact ⟨Try.f82, h467, Try.func82, name467, comp467⟩
  · cases h; exact ⟨Try.f84, h468, Try.func84, name468, comp468⟩
  · cases h; exact ⟨Try.f176, h471, Try.func176, name471, comp471⟩
  · cases h; exact ⟨Try.f177, h472, Try.func177, name472, comp472⟩
  · cases h; exact ⟨Try.f178, h473, Try.func178, name473, comp473⟩
  · cases h; exact ⟨Try.f175, h474, Try.func175, name474, comp474⟩
  · cases h; exact ⟨Try.f132, h491, Try.func132, name491, comp491⟩
  · cases h; exact ⟨Try.f133, h492, Try.func133, name492, comp492⟩
  · cases h; exact ⟨Try.f134, h493, Try.func134, name493, comp493⟩
  · cases h; exact ⟨Try.f135, h494, Try.func135, name494, comp494⟩
  · cases h; exact ⟨Try.f142, h497, Try.func142, name497, comp497⟩
  · cases h; exact ⟨Try.f143, h498, Try.func143, name498, comp498⟩
  · cases h; exact ⟨Try.f144, h499, Try.func144, name499, comp499⟩
  · cases h; exact ⟨Try.f145, h500, Try.func145, name500, comp500⟩
  · cases h; exact ⟨Try.f146, h501, Try.func146, name501, comp501⟩
  · cases h; exact ⟨Try.f183, h502, Try.func183, name502, comp502⟩
  · cases h; exact ⟨Try.f156, h504, Try.func156, name504, comp504⟩
  · cases h; exact ⟨Try.f138, h505, Try.func138, name505, comp505⟩
  · cases h; exact ⟨Try.f139, h506, Try.func139, name506, comp506⟩
  · cases h; exact ⟨Try.f174, h512, Try.func174, name512, comp512⟩
  · cases h; exact ⟨Try.f153, h530, Try.func153, name530, comp530⟩
  · cases h; exact ⟨Try.f181, h547, Try.func181, name547, comp547⟩
  · cases h; exact ⟨Try.f190, h555, Try.func190, name555, comp555⟩
  · cases h; exact ⟨Try.f171, h560, Try.func171, name560, comp560⟩
  · cases h; exact ⟨Try.f172, h561, Try.func172, name561, comp561⟩
  · cases h; exact ⟨Try.f173, h562, Try.func173, name562, comp562⟩
  · cases h; exact ⟨Try.f179, h563, Try.func179, name563, comp563⟩
  · cases h; exact ⟨Try.f180, h564, Try.func180, name564, comp564⟩
  · cases h; exact ⟨Try.f187, h586, Try.func187, name586, comp586⟩
  · cases h; exact ⟨Try.f188, h587, Try.func188, name587, comp587⟩
  · cases h; exact ⟨Try.f189, h588, Try.func189, name588, comp588⟩
  · cases h
end Fb
