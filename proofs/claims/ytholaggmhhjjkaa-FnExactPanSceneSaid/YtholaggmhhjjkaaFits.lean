/- Each function of the law is compiled by the checker to its text in the small language. -/
import Derived.Test.YtholaggmhhjjkaaRow2
import Derived.Test.YtholaggmhhjjkaaTab
import Derived.Test.YtholaggmhhjjkaaRows
import Derived.KernelRfl
set_option linter.unusedVariables false
set_option linter.unusedSimpArgs false
namespace Fb
open Go Go.Proofs

def inv : FuncId → Option Nat := fun f => match f with
  | 5 => some 37
  | 44 => some 78
  | 23 => some 121
  | 24 => some 122
  | 25 => some 123
  | 10 => some 134
  | 13 => some 189
  | 15 => some 191
  | 17 => some 193
  | 18 => some 194
  | 19 => some 195
  | 21 => some 198
  | 22 => some 199
  | 94 => some 234
  | 109 => some 281
  | 65 => some 295
  | 56 => some 296
  | 63 => some 304
  | 137 => some 305
  | 59 => some 329
  | 67 => some 330
  | 53 => some 331
  | 64 => some 332
  | 171 => some 333
  | 111 => some 335
  | 110 => some 336
  | 105 => some 337
  | 113 => some 338
  | 164 => some 342
  | 104 => some 349
  | 112 => some 350
  | 49 => some 351
  | 91 => some 355
  | 130 => some 358
  | 88 => some 359
  | 57 => some 410
  | 58 => some 411
  | 62 => some 413
  | 66 => some 416
  | 106 => some 440
  | 132 => some 443
  | 139 => some 445
  | 140 => some 446
  | 146 => some 456
  | 169 => some 467
  | 116 => some 468
  | 147 => some 471
  | 148 => some 472
  | 149 => some 473
  | 138 => some 474
  | 118 => some 497
  | 102 => some 498
  | 103 => some 499
  | 117 => some 500
  | 150 => some 501
  | 152 => some 502
  | 151 => some 504
  | 92 => some 505
  | 93 => some 506
  | 107 => some 533
  | 108 => some 534
  | 115 => some 535
  | 165 => some 547
  | 170 => some 555
  | 144 => some 563
  | 145 => some 564
  | _ => none
def rho : Nat → FuncId := fun n => match n with
  | 37 => 5
  | 78 => 44
  | 121 => 23
  | 122 => 24
  | 123 => 25
  | 134 => 10
  | 189 => 13
  | 191 => 15
  | 193 => 17
  | 194 => 18
  | 195 => 19
  | 198 => 21
  | 199 => 22
  | 234 => 94
  | 281 => 109
  | 295 => 65
  | 296 => 56
  | 304 => 63
  | 305 => 137
  | 329 => 59
  | 330 => 67
  | 331 => 53
  | 332 => 64
  | 333 => 171
  | 335 => 111
  | 336 => 110
  | 337 => 105
  | 338 => 113
  | 342 => 164
  | 349 => 104
  | 350 => 112
  | 351 => 49
  | 355 => 91
  | 358 => 130
  | 359 => 88
  | 410 => 57
  | 411 => 58
  | 413 => 62
  | 416 => 66
  | 440 => 106
  | 443 => 132
  | 445 => 139
  | 446 => 140
  | 456 => 146
  | 467 => 169
  | 468 => 116
  | 471 => 147
  | 472 => 148
  | 473 => 149
  | 474 => 138
  | 497 => 118
  | 498 => 102
  | 499 => 103
  | 500 => 117
  | 501 => 150
  | 502 => 152
  | 504 => 151
  | 505 => 92
  | 506 => 93
  | 533 => 107
  | 534 => 108
  | 535 => 115
  | 547 => 165
  | 555 => 170
  | 563 => 144
  | 564 => 145
  | _ => 0
def isPure : Nat → Bool := fun n => !([122, 195, 305] : List Nat).contains n
theorem inv_rho : ∀ f i, inv f = some i → rho i = f := by
  intro f i h
  unfold inv at h
  split at h <;> first | (cases h; rfl) | cases h
def h37 : Hint := ⟨.pure, [], [0, 1, 2, 3, 4, 5, 12, 13, 14, 15, 16, 17, 18, 19, 20, 21, 22, 23, 28, 60, 65, 81, 89, 92, 112, 117, 120]⟩
theorem comp37 : compFn Try.prog inv isPure h37 Try.f5 = some c37 := by kernel_rfl
theorem name37 : (Try.f5.name == "runtime.NumGoroutine") = false := by kernel_rfl
def h78 : Hint := ⟨.pure, [3, 2], [0, 1, 2, 3, 4, 5, 7, 16]⟩
theorem comp78 : compFn Try.prog inv isPure h78 Try.f44 = some c78 := by kernel_rfl
theorem name78 : (Try.f44.name == "runtime.NumGoroutine") = false := by kernel_rfl
def h121 : Hint := ⟨.pure, [], [0, 1, 4, 5, 10, 14, 26]⟩
theorem comp121 : compFn Try.prog inv isPure h121 Try.f23 = some c121 := by kernel_rfl
theorem name121 : (Try.f23.name == "runtime.NumGoroutine") = false := by kernel_rfl
def h122 : Hint := ⟨.args, [], [0, 1, 4, 5, 6, 10, 14]⟩
theorem comp122 : compFn Try.prog inv isPure h122 Try.f24 = some c122 := by kernel_rfl
theorem name122 : (Try.f24.name == "runtime.NumGoroutine") = false := by kernel_rfl
def h123 : Hint := ⟨.pure, [], [0, 1, 4, 5, 6, 10, 14, 25]⟩
theorem comp123 : compFn Try.prog inv isPure h123 Try.f25 = some c123 := by kernel_rfl
theorem name123 : (Try.f25.name == "runtime.NumGoroutine") = false := by kernel_rfl
def h134 : Hint := ⟨.pure, [3, 2, 1], [0, 1, 2, 3, 4, 6]⟩
theorem comp134 : compFn Try.prog inv isPure h134 Try.f10 = some c134 := by kernel_rfl
theorem name134 : (Try.f10.name == "runtime.NumGoroutine") = false := by kernel_rfl
def h189 : Hint := ⟨.pure, [], [0, 1, 4, 10]⟩
theorem comp189 : compFn Try.prog inv isPure h189 Try.f13 = some c189 := by kernel_rfl
theorem name189 : (Try.f13.name == "runtime.NumGoroutine") = false := by kernel_rfl
def h191 : Hint := ⟨.pure, [], [0, 1, 4, 5, 6, 7, 13, 24, 40]⟩
theorem comp191 : compFn Try.prog inv isPure h191 Try.f15 = some c191 := by kernel_rfl
theorem name191 : (Try.f15.name == "runtime.NumGoroutine") = false := by kernel_rfl
def h193 : Hint := ⟨.pure, [], [0, 1, 4, 5, 10, 14, 26]⟩
theorem comp193 : compFn Try.prog inv isPure h193 Try.f17 = some c193 := by kernel_rfl
theorem name193 : (Try.f17.name == "runtime.NumGoroutine") = false := by kernel_rfl
def h194 : Hint := ⟨.pure, [], [0, 1, 4, 5]⟩
theorem comp194 : compFn Try.prog inv isPure h194 Try.f18 = some c194 := by kernel_rfl
theorem name194 : (Try.f18.name == "runtime.NumGoroutine") = false := by kernel_rfl
def h195 : Hint := ⟨.args, [], [0, 1, 4, 5, 6, 7, 11, 15, 30]⟩
theorem comp195 : compFn Try.prog inv isPure h195 Try.f19 = some c195 := by kernel_rfl
theorem name195 : (Try.f19.name == "runtime.NumGoroutine") = false := by kernel_rfl
def h198 : Hint := ⟨.pure, [18], [0, 1, 2, 3, 4, 5, 12, 13, 14, 15, 16, 17, 18, 39, 46, 62, 68]⟩
theorem comp198 : compFn Try.prog inv isPure h198 Try.f21 = some c198 := by kernel_rfl
theorem name198 : (Try.f21.name == "runtime.NumGoroutine") = false := by kernel_rfl
def h199 : Hint := ⟨.pure, [], [0, 1, 2, 3, 4, 5, 12, 13, 14, 15, 16, 22, 32, 34, 35, 36, 49]⟩
theorem comp199 : compFn Try.prog inv isPure h199 Try.f22 = some c199 := by kernel_rfl
theorem name199 : (Try.f22.name == "runtime.NumGoroutine") = false := by kernel_rfl
def h234 : Hint := ⟨.pure, [], [0, 1, 2]⟩
theorem comp234 : compFn Try.prog inv isPure h234 Try.f94 = some c234 := by kernel_rfl
theorem name234 : (Try.f94.name == "runtime.NumGoroutine") = false := by kernel_rfl
def h281 : Hint := ⟨.pure, [], [0, 2]⟩
theorem comp281 : compFn Try.prog inv isPure h281 Try.f109 = some c281 := by kernel_rfl
theorem name281 : (Try.f109.name == "runtime.NumGoroutine") = false := by kernel_rfl
def h295 : Hint := ⟨.pure, [], [0, 1, 2, 6]⟩
theorem comp295 : compFn Try.prog inv isPure h295 Try.f65 = some c295 := by kernel_rfl
theorem name295 : (Try.f65.name == "runtime.NumGoroutine") = false := by kernel_rfl
def h296 : Hint := ⟨.pure, [], [0, 2, 5, 8]⟩
theorem comp296 : compFn Try.prog inv isPure h296 Try.f56 = some c296 := by kernel_rfl
theorem name296 : (Try.f56.name == "runtime.NumGoroutine") = false := by kernel_rfl
def h304 : Hint := ⟨.pure, [], [0, 1, 2, 6]⟩
theorem comp304 : compFn Try.prog inv isPure h304 Try.f63 = some c304 := by kernel_rfl
theorem name304 : (Try.f63.name == "runtime.NumGoroutine") = false := by kernel_rfl
def h305 : Hint := ⟨.args, [], [0, 1, 2, 8]⟩
theorem comp305 : compFn Try.prog inv isPure h305 Try.f137 = some c305 := by kernel_rfl
theorem name305 : (Try.f137.name == "runtime.NumGoroutine") = false := by kernel_rfl
def h329 : Hint := ⟨.pure, [], [0, 1, 2, 6, 7, 11]⟩
theorem comp329 : compFn Try.prog inv isPure h329 Try.f59 = some c329 := by kernel_rfl
theorem name329 : (Try.f59.name == "runtime.NumGoroutine") = false := by kernel_rfl
def h330 : Hint := ⟨.pure, [9, 7, 6], [0, 1, 2, 6, 7, 9, 11, 12, 13, 14]⟩
theorem comp330 : compFn Try.prog inv isPure h330 Try.f67 = some c330 := by kernel_rfl
theorem name330 : (Try.f67.name == "runtime.NumGoroutine") = false := by kernel_rfl
def h331 : Hint := ⟨.pure, [], [0, 1, 2, 6, 9, 17]⟩
theorem comp331 : compFn Try.prog inv isPure h331 Try.f53 = some c331 := by kernel_rfl
theorem name331 : (Try.f53.name == "runtime.NumGoroutine") = false := by kernel_rfl
def h332 : Hint := ⟨.pure, [6], [0, 1, 2, 6, 7, 8, 9, 10, 11, 16]⟩
theorem comp332 : compFn Try.prog inv isPure h332 Try.f64 = some c332 := by kernel_rfl
theorem name332 : (Try.f64.name == "runtime.NumGoroutine") = false := by kernel_rfl
def h333 : Hint := ⟨.pure, [1], [0, 1, 2]⟩
theorem comp333 : compFn Try.prog inv isPure h333 Try.f171 = some c333 := by kernel_rfl
theorem name333 : (Try.f171.name == "runtime.NumGoroutine") = false := by kernel_rfl
def h335 : Hint := ⟨.pure, [3], [0, 1, 2, 3, 6, 7]⟩
theorem comp335 : compFn Try.prog inv isPure h335 Try.f111 = some c335 := by kernel_rfl
theorem name335 : (Try.f111.name == "runtime.NumGoroutine") = false := by kernel_rfl
def h336 : Hint := ⟨.pure, [6, 3], [0, 1, 2, 3, 6]⟩
theorem comp336 : compFn Try.prog inv isPure h336 Try.f110 = some c336 := by kernel_rfl
theorem name336 : (Try.f110.name == "runtime.NumGoroutine") = false := by kernel_rfl
def h337 : Hint := ⟨.pure, [5, 4], [0, 1, 4, 5, 6, 9]⟩
theorem comp337 : compFn Try.prog inv isPure h337 Try.f105 = some c337 := by kernel_rfl
theorem name337 : (Try.f105.name == "runtime.NumGoroutine") = false := by kernel_rfl
def h338 : Hint := ⟨.pure, [4, 3, 2], [0, 1, 2, 3, 4]⟩
theorem comp338 : compFn Try.prog inv isPure h338 Try.f113 = some c338 := by kernel_rfl
theorem name338 : (Try.f113.name == "runtime.NumGoroutine") = false := by kernel_rfl
def h342 : Hint := ⟨.pure, [], [0, 1, 4]⟩
theorem comp342 : compFn Try.prog inv isPure h342 Try.f164 = some c342 := by kernel_rfl
theorem name342 : (Try.f164.name == "runtime.NumGoroutine") = false := by kernel_rfl
def h349 : Hint := ⟨.pure, [5, 4], [0, 1, 4, 5, 6, 9]⟩
theorem comp349 : compFn Try.prog inv isPure h349 Try.f104 = some c349 := by kernel_rfl
theorem name349 : (Try.f104.name == "runtime.NumGoroutine") = false := by kernel_rfl
def h350 : Hint := ⟨.pure, [4, 3, 2], [0, 1, 2, 3, 4]⟩
theorem comp350 : compFn Try.prog inv isPure h350 Try.f112 = some c350 := by kernel_rfl
theorem name350 : (Try.f112.name == "runtime.NumGoroutine") = false := by kernel_rfl
def h351 : Hint := ⟨.pure, [], [0, 2]⟩
theorem comp351 : compFn Try.prog inv isPure h351 Try.f49 = some c351 := by kernel_rfl
theorem name351 : (Try.f49.name == "runtime.NumGoroutine") = false := by kernel_rfl
def h355 : Hint := ⟨.pure, [6], [0, 1, 2, 6, 7, 8, 9, 16]⟩
theorem comp355 : compFn Try.prog inv isPure h355 Try.f91 = some c355 := by kernel_rfl
theorem name355 : (Try.f91.name == "runtime.NumGoroutine") = false := by kernel_rfl
def h358 : Hint := ⟨.pure, [7, 6, 3], [0, 1, 2, 3, 6, 7, 8, 9, 13, 15, 16, 23, 25]⟩
theorem comp358 : compFn Try.prog inv isPure h358 Try.f130 = some c358 := by kernel_rfl
theorem name358 : (Try.f130.name == "runtime.NumGoroutine") = false := by kernel_rfl
def h359 : Hint := ⟨.pure, [], [0, 2, 3, 5, 13]⟩
theorem comp359 : compFn Try.prog inv isPure h359 Try.f88 = some c359 := by kernel_rfl
theorem name359 : (Try.f88.name == "runtime.NumGoroutine") = false := by kernel_rfl
def h410 : Hint := ⟨.pure, [3, 2, 1], [0, 1, 2, 3]⟩
theorem comp410 : compFn Try.prog inv isPure h410 Try.f57 = some c410 := by kernel_rfl
theorem name410 : (Try.f57.name == "runtime.NumGoroutine") = false := by kernel_rfl
def h411 : Hint := ⟨.pure, [0], [0]⟩
theorem comp411 : compFn Try.prog inv isPure h411 Try.f58 = some c411 := by kernel_rfl
theorem name411 : (Try.f58.name == "runtime.NumGoroutine") = false := by kernel_rfl
def h413 : Hint := ⟨.pure, [3, 2], [0, 1, 2, 3, 4, 10, 15, 20, 25]⟩
theorem comp413 : compFn Try.prog inv isPure h413 Try.f62 = some c413 := by kernel_rfl
theorem name413 : (Try.f62.name == "runtime.NumGoroutine") = false := by kernel_rfl
def h416 : Hint := ⟨.pure, [], [0, 1, 4]⟩
theorem comp416 : compFn Try.prog inv isPure h416 Try.f66 = some c416 := by kernel_rfl
theorem name416 : (Try.f66.name == "runtime.NumGoroutine") = false := by kernel_rfl
def h440 : Hint := ⟨.pure, [], [0, 2, 3, 4, 5, 8, 12, 18]⟩
theorem comp440 : compFn Try.prog inv isPure h440 Try.f106 = some c440 := by kernel_rfl
theorem name440 : (Try.f106.name == "runtime.NumGoroutine") = false := by kernel_rfl
def h443 : Hint := ⟨.pure, [6, 4, 3], [0, 1, 2, 3, 4, 6, 7, 8, 9, 10, 11]⟩
theorem comp443 : compFn Try.prog inv isPure h443 Try.f132 = some c443 := by kernel_rfl
theorem name443 : (Try.f132.name == "runtime.NumGoroutine") = false := by kernel_rfl
def h445 : Hint := ⟨.pure, [], [0, 1, 4]⟩
theorem comp445 : compFn Try.prog inv isPure h445 Try.f139 = some c445 := by kernel_rfl
theorem name445 : (Try.f139.name == "runtime.NumGoroutine") = false := by kernel_rfl
def h446 : Hint := ⟨.pure, [], [0, 2]⟩
theorem comp446 : compFn Try.prog inv isPure h446 Try.f140 = some c446 := by kernel_rfl
theorem name446 : (Try.f140.name == "runtime.NumGoroutine") = false := by kernel_rfl
def h456 : Hint := ⟨.pure, [], [0, 1, 2, 6]⟩
theorem comp456 : compFn Try.prog inv isPure h456 Try.f146 = some c456 := by kernel_rfl
theorem name456 : (Try.f146.name == "runtime.NumGoroutine") = false := by kernel_rfl
def h467 : Hint := ⟨.pure, [], [0, 2, 14]⟩
theorem comp467 : compFn Try.prog inv isPure h467 Try.f169 = some c467 := by kernel_rfl
theorem name467 : (Try.f169.name == "runtime.NumGoroutine") = false := by kernel_rfl
def h468 : Hint := ⟨.pure, [6], [0, 1, 2, 6]⟩
theorem comp468 : compFn Try.prog inv isPure h468 Try.f116 = some c468 := by kernel_rfl
theorem name468 : (Try.f116.name == "runtime.NumGoroutine") = false := by kernel_rfl
def h471 : Hint := ⟨.pure, [], [0, 1, 4]⟩
theorem comp471 : compFn Try.prog inv isPure h471 Try.f147 = some c471 := by kernel_rfl
theorem name471 : (Try.f147.name == "runtime.NumGoroutine") = false := by kernel_rfl
def h472 : Hint := ⟨.pure, [1], [0, 1, 2]⟩
theorem comp472 : compFn Try.prog inv isPure h472 Try.f148 = some c472 := by kernel_rfl
theorem name472 : (Try.f148.name == "runtime.NumGoroutine") = false := by kernel_rfl
def h473 : Hint := ⟨.pure, [1], [0, 1, 2]⟩
theorem comp473 : compFn Try.prog inv isPure h473 Try.f149 = some c473 := by kernel_rfl
theorem name473 : (Try.f149.name == "runtime.NumGoroutine") = false := by kernel_rfl
def h474 : Hint := ⟨.pure, [], [0, 1, 4, 5, 7, 8, 9, 16]⟩
theorem comp474 : compFn Try.prog inv isPure h474 Try.f138 = some c474 := by kernel_rfl
theorem name474 : (Try.f138.name == "runtime.NumGoroutine") = false := by kernel_rfl
def h497 : Hint := ⟨.pure, [4, 3, 2], [0, 1, 2, 3, 4]⟩
theorem comp497 : compFn Try.prog inv isPure h497 Try.f118 = some c497 := by kernel_rfl
theorem name497 : (Try.f118.name == "runtime.NumGoroutine") = false := by kernel_rfl
def h498 : Hint := ⟨.pure, [], [0, 2, 3, 7, 14]⟩
theorem comp498 : compFn Try.prog inv isPure h498 Try.f102 = some c498 := by kernel_rfl
theorem name498 : (Try.f102.name == "runtime.NumGoroutine") = false := by kernel_rfl
def h499 : Hint := ⟨.pure, [], [0, 1, 2, 6, 7, 8]⟩
theorem comp499 : compFn Try.prog inv isPure h499 Try.f103 = some c499 := by kernel_rfl
theorem name499 : (Try.f103.name == "runtime.NumGoroutine") = false := by kernel_rfl
def h500 : Hint := ⟨.pure, [4], [0, 1, 4, 5]⟩
theorem comp500 : compFn Try.prog inv isPure h500 Try.f117 = some c500 := by kernel_rfl
theorem name500 : (Try.f117.name == "runtime.NumGoroutine") = false := by kernel_rfl
def h501 : Hint := ⟨.pure, [], [0, 1, 4]⟩
theorem comp501 : compFn Try.prog inv isPure h501 Try.f150 = some c501 := by kernel_rfl
theorem name501 : (Try.f150.name == "runtime.NumGoroutine") = false := by kernel_rfl
def h502 : Hint := ⟨.pure, [], [0, 1, 4]⟩
theorem comp502 : compFn Try.prog inv isPure h502 Try.f152 = some c502 := by kernel_rfl
theorem name502 : (Try.f152.name == "runtime.NumGoroutine") = false := by kernel_rfl
def h504 : Hint := ⟨.pure, [], [0, 1, 4]⟩
theorem comp504 : compFn Try.prog inv isPure h504 Try.f151 = some c504 := by kernel_rfl
theorem name504 : (Try.f151.name == "runtime.NumGoroutine") = false := by kernel_rfl
def h505 : Hint := ⟨.pure, [], [0, 1, 4]⟩
theorem comp505 : compFn Try.prog inv isPure h505 Try.f92 = some c505 := by kernel_rfl
theorem name505 : (Try.f92.name == "runtime.NumGoroutine") = false := by kernel_rfl
def h506 : Hint := ⟨.pure, [1], [0, 1, 2]⟩
theorem comp506 : compFn Try.prog inv isPure h506 Try.f93 = some c506 := by kernel_rfl
theorem name506 : (Try.f93.name == "runtime.NumGoroutine") = false := by kernel_rfl
def h533 : Hint := ⟨.pure, [3, 2, 1], [0, 1, 2, 3]⟩
theorem comp533 : compFn Try.prog inv isPure h533 Try.f107 = some c533 := by kernel_rfl
theorem name533 : (Try.f107.name == "runtime.NumGoroutine") = false := by kernel_rfl
def h534 : Hint := ⟨.pure, [0], [0]⟩
theorem comp534 : compFn Try.prog inv isPure h534 Try.f108 = some c534 := by kernel_rfl
theorem name534 : (Try.f108.name == "runtime.NumGoroutine") = false := by kernel_rfl
def h535 : Hint := ⟨.pure, [3, 2], [0, 1, 2, 3, 4, 10, 16]⟩
theorem comp535 : compFn Try.prog inv isPure h535 Try.f115 = some c535 := by kernel_rfl
theorem name535 : (Try.f115.name == "runtime.NumGoroutine") = false := by kernel_rfl
def h547 : Hint := ⟨.pure, [], [0, 1, 4, 5, 7, 8, 9, 16]⟩
theorem comp547 : compFn Try.prog inv isPure h547 Try.f165 = some c547 := by kernel_rfl
theorem name547 : (Try.f165.name == "runtime.NumGoroutine") = false := by kernel_rfl
def h555 : Hint := ⟨.pure, [], [0, 1, 4, 5, 7, 8, 9, 16]⟩
theorem comp555 : compFn Try.prog inv isPure h555 Try.f170 = some c555 := by kernel_rfl
theorem name555 : (Try.f170.name == "runtime.NumGoroutine") = false := by kernel_rfl
def h563 : Hint := ⟨.pure, [], [0, 2]⟩
theorem comp563 : compFn Try.prog inv isPure h563 Try.f144 = some c563 := by kernel_rfl
theorem name563 : (Try.f144.name == "runtime.NumGoroutine") = false := by kernel_rfl
def h564 : Hint := ⟨.pure, [], [0, 1, 4, 5, 20]⟩
theorem comp564 : compFn Try.prog inv isPure h564 Try.f145 = some c564 := by kernel_rfl
theorem name564 : (Try.f145.name == "runtime.NumGoroutine") = false := by kernel_rfl
theorem tab_ok : ∀ f D, tab f = some D → DefOk Try.prog inv isPure rho f D := by
  intro f D h
  unfold tab at h
  split at h
  · cases h; exact ⟨Try.f5, h37, Try.func5, name37, comp37⟩
  · cases h; exact ⟨Try.f44, h78, Try.func44, name78, comp78⟩
  · cases h; exact ⟨Try.f23, h121, Try.func23, name121, comp121⟩
  · cases h; exact ⟨Try.f24, h122, Try.func24, name122, comp122⟩
  · cases h; exact ⟨Try.f25, h123, Try.func25, name123, comp123⟩
  · cases h; exact ⟨Try.f10, h134, Try.func10, name134, comp134⟩
  · cases h; exact ⟨Try.f13, h189, Try.func13, name189, comp189⟩
  · cases h; exact ⟨Try.f15, h191, Try.func15, name191, comp191⟩
  · cases h; exact ⟨Try.f17, h193, Try.func17, name193, comp193⟩
  · cases h; exact ⟨Try.f18, h194, Try.func18, name194, comp194⟩
  · cases h; exact ⟨Try.f19, h195, Try.func19, name195, comp195⟩
  · cases h; exact ⟨Try.f21, h198, Try.func21, name198, comp198⟩
  · cases h; exact ⟨Try.f22, h199, Try.func22, name199, comp199⟩
  · cases h; exact ⟨Try.f94, h234, Try.func94, name234, comp234⟩
  · cases h; exact ⟨Try.f109, h281, Try.func109, name281, comp281⟩
  · cases h; exact ⟨Try.f65, h295, Try.func65, name295, comp295⟩
  · cases h; exact ⟨Try.f56, h296, Try.func56, name296, comp296⟩
  · cases h; exact ⟨Try.f63, h304, Try.func63, name304, comp304⟩
  · cases h; exact ⟨Try.f137, h305, Try.func137, name305, comp305⟩
  · cases h; exact ⟨Try.f59, h329, Try.func59, name329, comp329⟩
  · cases h; exact ⟨Try.f67, h330, Try.func67, name330, comp330⟩
  · cases h; exact ⟨Try.f53, h331, Try.func53, name331, comp331⟩
  · cases h; exact ⟨Try.f64, h332, Try.func64, name332, comp332⟩
  · cases h; exact ⟨Try.f171, h333, Try.func171, name333, comp333⟩
  · cases h; exact ⟨Try.f111, h335, Try.func111, name335, comp335⟩
  · cases h; exact ⟨Try.f110, h336, Try.func110, name336, comp336⟩
  · cases h; exact ⟨Try.f105, h337, Try.func105, name337, comp337⟩
  · cases h; exact ⟨Try.f113, h338, Try.func113, name338, comp338⟩
  · cases h; exact ⟨Try.f164, h342, Try.func164, name342, comp342⟩
  · cases h; exact ⟨Try.f104, h349, Try.func104, name349, comp349⟩
  · cases h; exact ⟨Try.f112, h350, Try.func112, name350, comp350⟩
  · cases h; exact ⟨Try.f49, h351, Try.func49, name351, comp351⟩
  · cases h; exact ⟨Try.f91, h355, Try.func91, name355, comp355⟩
  · cases h; exact ⟨Try.f130, h358, Try.func130, name358, comp358⟩
  · cases h; exact ⟨Try.f88, h359, Try.func88, name359, comp359⟩
  · cases h; exact ⟨Try.f57, h410, Try.func57, name410, comp410⟩
  · cases h; exact ⟨Try.f58, h411, Try.func58, name411, comp411⟩
  · cases h; exact ⟨Try.f62, h413, Try.func62, name413, comp413⟩
  · cases h; exact ⟨Try.f66, h416, Try.func66, name416, comp416⟩
  · cases h; exact ⟨Try.f106, h440, Try.func106, name440, comp440⟩
  · cases h; exact ⟨Try.f132, h443, Try.func132, name443, comp443⟩
  · cases h; exact ⟨Try.f139, h445, Try.func139, name445, comp445⟩
  · cases h; exact ⟨Try.f140, h446, Try.func140, name446, comp446⟩
  · cases h; exact ⟨Try.f146, h456, Try.func146, name456, comp456⟩
  · cases h; exact ⟨Try.f169, h467, Try.func169, name467, comp467⟩
  · cases h; exact ⟨Try.f116, h468, Try.func116, name468, comp468⟩
  · cases h; exact ⟨Try.f147, h471, Try.func147, name471, comp471⟩
  · cases h; exact ⟨Try.f148, h472, Try.func148, name472, comp472⟩
  · cases h; exact ⟨Try.f149, h473, Try.func149, name473, comp473⟩
  · cases h; exact ⟨Try.f138, h474, Try.func138, name474, comp474⟩
  · cases h; exact ⟨Try.f118, h497, Try.func118, name497, comp497⟩
  · cases h; exact ⟨Try.f102, h498, Try.func102, name498, comp498⟩
  · cases h; exact ⟨Try.f103, h499, Try.func103, name499, comp499⟩
  · cases h; exact ⟨Try.f117, h500, Try.func117, name500, comp500⟩
  · cases h; exact ⟨Try.f150, h501, Try.func150, name501, comp501⟩
  · cases h; exact ⟨Try.f152, h502, Try.func152, name502, comp502⟩
  · cases h; exact ⟨Try.f151, h504, Try.func151, name504, comp504⟩
  · cases h; exact ⟨Try.f92, h505, Try.func92, name505, comp505⟩
  · cases h; exact ⟨Try.f93, h506, Try.func93, name506, comp506⟩
  · cases h; exact ⟨Try.f107, h533, Try.func107, name533, comp533⟩
  · cases h; exact ⟨Try.f108, h534, Try.func108, name534, comp534⟩
  · cases h; exact ⟨Try.f115, h535, Try.func115, name535, comp535⟩
  · cases h; exact ⟨Try.f165, h547, Try.func165, name547, comp547⟩
  · cases h; exact ⟨Try.f170, h555, Try.func170, name555, comp555⟩
  · cases h; exact ⟨Try.f144, h563, Try.func144, name563, comp563⟩
  · cases h; exact ⟨Try.f145, h564, Try.func145, name564, comp564⟩
  · cases h
end Fb
