/- Each function of the law is compiled by the checker to its text in the small language. -/
import Derived.Test.YtholaggmhhjjkabRow2
import Derived.Test.YtholaggmhhjjkabTab
import Derived.Test.YtholaggmhhjjkabRows
import Derived.KernelRfl
set_option linter.unusedVariables false
set_option linter.unusedSimpArgs false
namespace Fb
open Go Go.Proofs

def inv : FuncId → Option Nat := fun f => match f with
  | 4 => some 51
  | 41 => some 71
  | 43 => some 78
  | 7 => some 103
  | 9 => some 105
  | 13 => some 107
  | 21 => some 121
  | 14 => some 122
  | 22 => some 123
  | 36 => some 134
  | 24 => some 151
  | 20 => some 155
  | 19 => some 156
  | 99 => some 234
  | 69 => some 295
  | 35 => some 296
  | 61 => some 304
  | 64 => some 305
  | 44 => some 316
  | 31 => some 318
  | 76 => some 324
  | 96 => some 325
  | 95 => some 342
  | 70 => some 351
  | 32 => some 353
  | 33 => some 354
  | 34 => some 355
  | 42 => some 358
  | 60 => some 359
  | 102 => some 367
  | 45 => some 369
  | 47 => some 370
  | 46 => some 371
  | 68 => some 372
  | 39 => some 374
  | 40 => some 375
  | 103 => some 393
  | 115 => some 409
  | 63 => some 440
  | 111 => some 443
  | 117 => some 445
  | 118 => some 446
  | 94 => some 456
  | 116 => some 474
  | 97 => some 505
  | 98 => some 506
  | 62 => some 510
  | 121 => some 512
  | 77 => some 514
  | 71 => some 515
  | 72 => some 516
  | 73 => some 517
  | 74 => some 518
  | 75 => some 519
  | 122 => some 530
  | 130 => some 547
  | 93 => some 549
  | 100 => some 565
  | 101 => some 566
  | 119 => some 589
  | 120 => some 590
  | 131 => some 610
  | 133 => some 624
  | _ => none
def rho : Nat → FuncId := fun n => match n with
  | 51 => 4
  | 71 => 41
  | 78 => 43
  | 103 => 7
  | 105 => 9
  | 107 => 13
  | 121 => 21
  | 122 => 14
  | 123 => 22
  | 134 => 36
  | 151 => 24
  | 155 => 20
  | 156 => 19
  | 234 => 99
  | 295 => 69
  | 296 => 35
  | 304 => 61
  | 305 => 64
  | 316 => 44
  | 318 => 31
  | 324 => 76
  | 325 => 96
  | 342 => 95
  | 351 => 70
  | 353 => 32
  | 354 => 33
  | 355 => 34
  | 358 => 42
  | 359 => 60
  | 367 => 102
  | 369 => 45
  | 370 => 47
  | 371 => 46
  | 372 => 68
  | 374 => 39
  | 375 => 40
  | 393 => 103
  | 409 => 115
  | 440 => 63
  | 443 => 111
  | 445 => 117
  | 446 => 118
  | 456 => 94
  | 474 => 116
  | 505 => 97
  | 506 => 98
  | 510 => 62
  | 512 => 121
  | 514 => 77
  | 515 => 71
  | 516 => 72
  | 517 => 73
  | 518 => 74
  | 519 => 75
  | 530 => 122
  | 547 => 130
  | 549 => 93
  | 565 => 100
  | 566 => 101
  | 589 => 119
  | 590 => 120
  | 610 => 131
  | 624 => 133
  | _ => 0
def isPure : Nat → Bool := fun n => !([122, 305, 517, 565, 589, 590, 610, 624] : List Nat).contains n
theorem inv_rho : ∀ f i, inv f = some i → rho i = f := by
  intro f i h
  unfold inv at h
  split at h <;> first | (cases h; rfl) | cases h
def h51 : Hint := ⟨.pure, [], [0, 1, 4, 5, 6, 7, 8, 9, 10, 11, 12, 13, 14, 15, 20, 44, 49, 65, 73, 76, 92, 97, 100]⟩
theorem comp51 : compFn Try.prog inv isPure h51 Try.f4 = some c51 := by kernel_rfl
theorem name51 : (Try.f4.name == "runtime.NumGoroutine") = false := by kernel_rfl
def h71 : Hint := ⟨.pure, [8], [0, 2, 3, 4, 5, 6, 8, 9, 10, 11, 12]⟩
theorem comp71 : compFn Try.prog inv isPure h71 Try.f41 = some c71 := by kernel_rfl
theorem name71 : (Try.f41.name == "runtime.NumGoroutine") = false := by kernel_rfl
def h78 : Hint := ⟨.pure, [3, 2], [0, 1, 2, 3, 4, 5, 7, 16]⟩
theorem comp78 : compFn Try.prog inv isPure h78 Try.f43 = some c78 := by kernel_rfl
theorem name78 : (Try.f43.name == "runtime.NumGoroutine") = false := by kernel_rfl
def h103 : Hint := ⟨.pure, [], [0, 1, 4, 10]⟩
theorem comp103 : compFn Try.prog inv isPure h103 Try.f7 = some c103 := by kernel_rfl
theorem name103 : (Try.f7.name == "runtime.NumGoroutine") = false := by kernel_rfl
def h105 : Hint := ⟨.pure, [], [0, 1, 4, 5, 6, 7, 13, 24, 40]⟩
theorem comp105 : compFn Try.prog inv isPure h105 Try.f9 = some c105 := by kernel_rfl
theorem name105 : (Try.f9.name == "runtime.NumGoroutine") = false := by kernel_rfl
def h107 : Hint := ⟨.pure, [], [0, 1, 4, 5]⟩
theorem comp107 : compFn Try.prog inv isPure h107 Try.f13 = some c107 := by kernel_rfl
theorem name107 : (Try.f13.name == "runtime.NumGoroutine") = false := by kernel_rfl
def h121 : Hint := ⟨.pure, [], [0, 1, 4, 5, 10, 14, 26]⟩
theorem comp121 : compFn Try.prog inv isPure h121 Try.f21 = some c121 := by kernel_rfl
theorem name121 : (Try.f21.name == "runtime.NumGoroutine") = false := by kernel_rfl
def h122 : Hint := ⟨.args, [], [0, 1, 4, 5, 6, 10, 14]⟩
theorem comp122 : compFn Try.prog inv isPure h122 Try.f14 = some c122 := by kernel_rfl
theorem name122 : (Try.f14.name == "runtime.NumGoroutine") = false := by kernel_rfl
def h123 : Hint := ⟨.pure, [], [0, 1, 4, 5, 6, 10, 14, 25]⟩
theorem comp123 : compFn Try.prog inv isPure h123 Try.f22 = some c123 := by kernel_rfl
theorem name123 : (Try.f22.name == "runtime.NumGoroutine") = false := by kernel_rfl
def h134 : Hint := ⟨.pure, [3, 2, 1], [0, 1, 2, 3, 4, 6]⟩
theorem comp134 : compFn Try.prog inv isPure h134 Try.f36 = some c134 := by kernel_rfl
theorem name134 : (Try.f36.name == "runtime.NumGoroutine") = false := by kernel_rfl
def h151 : Hint := ⟨.pure, [9], [0, 1, 4, 5, 6, 7, 8, 9, 11, 15, 25]⟩
theorem comp151 : compFn Try.prog inv isPure h151 Try.f24 = some c151 := by kernel_rfl
theorem name151 : (Try.f24.name == "runtime.NumGoroutine") = false := by kernel_rfl
def h155 : Hint := ⟨.pure, [10], [0, 1, 4, 5, 6, 7, 8, 9, 10, 11, 12, 21, 24, 25, 26, 27]⟩
theorem comp155 : compFn Try.prog inv isPure h155 Try.f20 = some c155 := by kernel_rfl
theorem name155 : (Try.f20.name == "runtime.NumGoroutine") = false := by kernel_rfl
def h156 : Hint := ⟨.pure, [], [0, 1, 4, 5, 6, 7, 8, 9, 10, 11, 16, 26, 30]⟩
theorem comp156 : compFn Try.prog inv isPure h156 Try.f19 = some c156 := by kernel_rfl
theorem name156 : (Try.f19.name == "runtime.NumGoroutine") = false := by kernel_rfl
def h234 : Hint := ⟨.pure, [], [0, 1, 2]⟩
theorem comp234 : compFn Try.prog inv isPure h234 Try.f99 = some c234 := by kernel_rfl
theorem name234 : (Try.f99.name == "runtime.NumGoroutine") = false := by kernel_rfl
def h295 : Hint := ⟨.pure, [], [0, 1, 2, 6]⟩
theorem comp295 : compFn Try.prog inv isPure h295 Try.f69 = some c295 := by kernel_rfl
theorem name295 : (Try.f69.name == "runtime.NumGoroutine") = false := by kernel_rfl
def h296 : Hint := ⟨.pure, [], [0, 2, 5, 8]⟩
theorem comp296 : compFn Try.prog inv isPure h296 Try.f35 = some c296 := by kernel_rfl
theorem name296 : (Try.f35.name == "runtime.NumGoroutine") = false := by kernel_rfl
def h304 : Hint := ⟨.pure, [], [0, 1, 2, 6]⟩
theorem comp304 : compFn Try.prog inv isPure h304 Try.f61 = some c304 := by kernel_rfl
theorem name304 : (Try.f61.name == "runtime.NumGoroutine") = false := by kernel_rfl
def h305 : Hint := ⟨.args, [], [0, 1, 2, 8]⟩
theorem comp305 : compFn Try.prog inv isPure h305 Try.f64 = some c305 := by kernel_rfl
theorem name305 : (Try.f64.name == "runtime.NumGoroutine") = false := by kernel_rfl
def h316 : Hint := ⟨.pure, [], [0, 2]⟩
theorem comp316 : compFn Try.prog inv isPure h316 Try.f44 = some c316 := by kernel_rfl
theorem name316 : (Try.f44.name == "runtime.NumGoroutine") = false := by kernel_rfl
def h318 : Hint := ⟨.pure, [], [0, 2, 3, 7, 14]⟩
theorem comp318 : compFn Try.prog inv isPure h318 Try.f31 = some c318 := by kernel_rfl
theorem name318 : (Try.f31.name == "runtime.NumGoroutine") = false := by kernel_rfl
def h324 : Hint := ⟨.pure, [3, 2], [0, 1, 2, 3, 4]⟩
theorem comp324 : compFn Try.prog inv isPure h324 Try.f76 = some c324 := by kernel_rfl
theorem name324 : (Try.f76.name == "runtime.NumGoroutine") = false := by kernel_rfl
def h325 : Hint := ⟨.pure, [], [0, 1, 4, 5, 6, 9]⟩
theorem comp325 : compFn Try.prog inv isPure h325 Try.f96 = some c325 := by kernel_rfl
theorem name325 : (Try.f96.name == "runtime.NumGoroutine") = false := by kernel_rfl
def h342 : Hint := ⟨.pure, [], [0, 1, 4]⟩
theorem comp342 : compFn Try.prog inv isPure h342 Try.f95 = some c342 := by kernel_rfl
theorem name342 : (Try.f95.name == "runtime.NumGoroutine") = false := by kernel_rfl
def h351 : Hint := ⟨.pure, [], [0, 2]⟩
theorem comp351 : compFn Try.prog inv isPure h351 Try.f70 = some c351 := by kernel_rfl
theorem name351 : (Try.f70.name == "runtime.NumGoroutine") = false := by kernel_rfl
def h353 : Hint := ⟨.pure, [], [0, 2]⟩
theorem comp353 : compFn Try.prog inv isPure h353 Try.f32 = some c353 := by kernel_rfl
theorem name353 : (Try.f32.name == "runtime.NumGoroutine") = false := by kernel_rfl
def h354 : Hint := ⟨.pure, [7], [0, 2, 3, 4, 5, 6, 7, 12, 19, 26, 37]⟩
theorem comp354 : compFn Try.prog inv isPure h354 Try.f33 = some c354 := by kernel_rfl
theorem name354 : (Try.f33.name == "runtime.NumGoroutine") = false := by kernel_rfl
def h355 : Hint := ⟨.pure, [6], [0, 1, 2, 6, 7, 8, 9, 16]⟩
theorem comp355 : compFn Try.prog inv isPure h355 Try.f34 = some c355 := by kernel_rfl
theorem name355 : (Try.f34.name == "runtime.NumGoroutine") = false := by kernel_rfl
def h358 : Hint := ⟨.pure, [7, 6, 3], [0, 1, 2, 3, 6, 7, 8, 9, 13, 15, 16, 23, 25]⟩
theorem comp358 : compFn Try.prog inv isPure h358 Try.f42 = some c358 := by kernel_rfl
theorem name358 : (Try.f42.name == "runtime.NumGoroutine") = false := by kernel_rfl
def h359 : Hint := ⟨.pure, [], [0, 2, 3, 5, 13]⟩
theorem comp359 : compFn Try.prog inv isPure h359 Try.f60 = some c359 := by kernel_rfl
theorem name359 : (Try.f60.name == "runtime.NumGoroutine") = false := by kernel_rfl
def h367 : Hint := ⟨.pure, [4, 3, 2], [0, 1, 2, 3, 4]⟩
theorem comp367 : compFn Try.prog inv isPure h367 Try.f102 = some c367 := by kernel_rfl
theorem name367 : (Try.f102.name == "runtime.NumGoroutine") = false := by kernel_rfl
def h369 : Hint := ⟨.pure, [], [0, 2]⟩
theorem comp369 : compFn Try.prog inv isPure h369 Try.f45 = some c369 := by kernel_rfl
theorem name369 : (Try.f45.name == "runtime.NumGoroutine") = false := by kernel_rfl
def h370 : Hint := ⟨.pure, [11, 8, 6, 4, 3], [0, 1, 2, 3, 4, 6, 7, 8, 9, 11, 12, 24, 25, 26, 27, 37]⟩
theorem comp370 : compFn Try.prog inv isPure h370 Try.f47 = some c370 := by kernel_rfl
theorem name370 : (Try.f47.name == "runtime.NumGoroutine") = false := by kernel_rfl
def h371 : Hint := ⟨.pure, [], [0, 2, 3, 4, 5, 6, 12, 19]⟩
theorem comp371 : compFn Try.prog inv isPure h371 Try.f46 = some c371 := by kernel_rfl
theorem name371 : (Try.f46.name == "runtime.NumGoroutine") = false := by kernel_rfl
def h372 : Hint := ⟨.pure, [9, 6], [0, 1, 2, 6, 7, 8, 9, 10, 11, 12, 13, 23, 44]⟩
theorem comp372 : compFn Try.prog inv isPure h372 Try.f68 = some c372 := by kernel_rfl
theorem name372 : (Try.f68.name == "runtime.NumGoroutine") = false := by kernel_rfl
def h374 : Hint := ⟨.pure, [], [0, 1, 4, 7, 10]⟩
theorem comp374 : compFn Try.prog inv isPure h374 Try.f39 = some c374 := by kernel_rfl
theorem name374 : (Try.f39.name == "runtime.NumGoroutine") = false := by kernel_rfl
def h375 : Hint := ⟨.pure, [7], [0, 1, 4, 5, 6, 7, 13]⟩
theorem comp375 : compFn Try.prog inv isPure h375 Try.f40 = some c375 := by kernel_rfl
theorem name375 : (Try.f40.name == "runtime.NumGoroutine") = false := by kernel_rfl
def h393 : Hint := ⟨.pure, [1], [0, 1, 2, 3, 5, 6, 7, 8]⟩
theorem comp393 : compFn Try.prog inv isPure h393 Try.f103 = some c393 := by kernel_rfl
theorem name393 : (Try.f103.name == "runtime.NumGoroutine") = false := by kernel_rfl
def h409 : Hint := ⟨.pure, [], [0, 2]⟩
theorem comp409 : compFn Try.prog inv isPure h409 Try.f115 = some c409 := by kernel_rfl
theorem name409 : (Try.f115.name == "runtime.NumGoroutine") = false := by kernel_rfl
def h440 : Hint := ⟨.pure, [], [0, 2, 3, 4, 5, 8, 12, 18]⟩
theorem comp440 : compFn Try.prog inv isPure h440 Try.f63 = some c440 := by kernel_rfl
theorem name440 : (Try.f63.name == "runtime.NumGoroutine") = false := by kernel_rfl
def h443 : Hint := ⟨.pure, [6, 4, 3], [0, 1, 2, 3, 4, 6, 7, 8, 9, 10, 11]⟩
theorem comp443 : compFn Try.prog inv isPure h443 Try.f111 = some c443 := by kernel_rfl
theorem name443 : (Try.f111.name == "runtime.NumGoroutine") = false := by kernel_rfl
def h445 : Hint := ⟨.pure, [], [0, 1, 4]⟩
theorem comp445 : compFn Try.prog inv isPure h445 Try.f117 = some c445 := by kernel_rfl
theorem name445 : (Try.f117.name == "runtime.NumGoroutine") = false := by kernel_rfl
def h446 : Hint := ⟨.pure, [], [0, 2]⟩
theorem comp446 : compFn Try.prog inv isPure h446 Try.f118 = some c446 := by kernel_rfl
theorem name446 : (Try.f118.name == "runtime.NumGoroutine") = false := by kernel_rfl
def h456 : Hint := ⟨.pure, [], [0, 1, 2, 6]⟩
theorem comp456 : compFn Try.prog inv isPure h456 Try.f94 = some c456 := by kernel_rfl
theorem name456 : (Try.f94.name == "runtime.NumGoroutine") = false := by kernel_rfl
def h474 : Hint := ⟨.pure, [], [0, 1, 4, 5, 7, 8, 9, 16]⟩
theorem comp474 : compFn Try.prog inv isPure h474 Try.f116 = some c474 := by kernel_rfl
theorem name474 : (Try.f116.name == "runtime.NumGoroutine") = false := by kernel_rfl
def h505 : Hint := ⟨.pure, [], [0, 1, 4]⟩
theorem comp505 : compFn Try.prog inv isPure h505 Try.f97 = some c505 := by kernel_rfl
theorem name505 : (Try.f97.name == "runtime.NumGoroutine") = false := by kernel_rfl
def h506 : Hint := ⟨.pure, [1], [0, 1, 2]⟩
theorem comp506 : compFn Try.prog inv isPure h506 Try.f98 = some c506 := by kernel_rfl
theorem name506 : (Try.f98.name == "runtime.NumGoroutine") = false := by kernel_rfl
def h510 : Hint := ⟨.pure, [1], [0, 1, 2, 3, 4]⟩
theorem comp510 : compFn Try.prog inv isPure h510 Try.f62 = some c510 := by kernel_rfl
theorem name510 : (Try.f62.name == "runtime.NumGoroutine") = false := by kernel_rfl
def h512 : Hint := ⟨.pure, [], [0, 1, 4]⟩
theorem comp512 : compFn Try.prog inv isPure h512 Try.f121 = some c512 := by kernel_rfl
theorem name512 : (Try.f121.name == "runtime.NumGoroutine") = false := by kernel_rfl
def h514 : Hint := ⟨.pure, [4, 3, 2], [0, 1, 2, 3, 4]⟩
theorem comp514 : compFn Try.prog inv isPure h514 Try.f77 = some c514 := by kernel_rfl
theorem name514 : (Try.f77.name == "runtime.NumGoroutine") = false := by kernel_rfl
def h515 : Hint := ⟨.pure, [1], [0, 1, 2]⟩
theorem comp515 : compFn Try.prog inv isPure h515 Try.f71 = some c515 := by kernel_rfl
theorem name515 : (Try.f71.name == "runtime.NumGoroutine") = false := by kernel_rfl
def h516 : Hint := ⟨.pure, [], [0, 2]⟩
theorem comp516 : compFn Try.prog inv isPure h516 Try.f72 = some c516 := by kernel_rfl
theorem name516 : (Try.f72.name == "runtime.NumGoroutine") = false := by kernel_rfl
def h517 : Hint := ⟨.args, [], [0, 1]⟩
theorem comp517 : compFn Try.prog inv isPure h517 Try.f73 = some c517 := by kernel_rfl
theorem name517 : (Try.f73.name == "runtime.NumGoroutine") = false := by kernel_rfl
def h518 : Hint := ⟨.pure, [4, 3], [0, 1, 2, 3, 4, 5]⟩
theorem comp518 : compFn Try.prog inv isPure h518 Try.f74 = some c518 := by kernel_rfl
theorem name518 : (Try.f74.name == "runtime.NumGoroutine") = false := by kernel_rfl
def h519 : Hint := ⟨.pure, [], [0, 1, 4, 5, 6, 11, 12, 13, 16, 19]⟩
theorem comp519 : compFn Try.prog inv isPure h519 Try.f75 = some c519 := by kernel_rfl
theorem name519 : (Try.f75.name == "runtime.NumGoroutine") = false := by kernel_rfl
def h530 : Hint := ⟨.pure, [], [0, 2]⟩
theorem comp530 : compFn Try.prog inv isPure h530 Try.f122 = some c530 := by kernel_rfl
theorem name530 : (Try.f122.name == "runtime.NumGoroutine") = false := by kernel_rfl
def h547 : Hint := ⟨.pure, [], [0, 1, 4, 5, 7, 8, 9, 16]⟩
theorem comp547 : compFn Try.prog inv isPure h547 Try.f130 = some c547 := by kernel_rfl
theorem name547 : (Try.f130.name == "runtime.NumGoroutine") = false := by kernel_rfl
def h549 : Hint := ⟨.pure, [], [0, 1, 4, 7]⟩
theorem comp549 : compFn Try.prog inv isPure h549 Try.f93 = some c549 := by kernel_rfl
theorem name549 : (Try.f93.name == "runtime.NumGoroutine") = false := by kernel_rfl
def h565 : Hint := ⟨.args, [], [0, 1, 2, 6, 7, 8, 9, 13, 30, 35, 54]⟩
theorem comp565 : compFn Try.prog inv isPure h565 Try.f100 = some c565 := by kernel_rfl
theorem name565 : (Try.f100.name == "runtime.NumGoroutine") = false := by kernel_rfl
def h566 : Hint := ⟨.pure, [], [0, 2]⟩
theorem comp566 : compFn Try.prog inv isPure h566 Try.f101 = some c566 := by kernel_rfl
theorem name566 : (Try.f101.name == "runtime.NumGoroutine") = false := by kernel_rfl
def h589 : Hint := ⟨.args, [], [0, 1, 2, 3, 8, 9, 14, 34]⟩
theorem comp589 : compFn Try.prog inv isPure h589 Try.f119 = some c589 := by kernel_rfl
theorem name589 : (Try.f119.name == "runtime.NumGoroutine") = false := by kernel_rfl
def h590 : Hint := ⟨.args, [], [0, 1, 2, 3, 4, 10, 11, 12, 13, 14, 15, 16, 17, 18, 19, 20, 21, 22, 23, 24, 28, 33, 50, 58, 80, 85, 103, 110, 140, 151, 171, 185, 199, 213]⟩
theorem comp590 : compFn Try.prog inv isPure h590 Try.f120 = some c590 := by kernel_rfl
theorem name590 : (Try.f120.name == "runtime.NumGoroutine") = false := by kernel_rfl
def h610 : Hint := ⟨.args, [], [0, 1, 2, 3, 4, 10, 11, 20, 23]⟩
theorem comp610 : compFn Try.prog inv isPure h610 Try.f131 = some c610 := by kernel_rfl
theorem name610 : (Try.f131.name == "runtime.NumGoroutine") = false := by kernel_rfl
def h624 : Hint := ⟨.args, [], [0, 1, 2, 3, 4, 10, 13]⟩
theorem comp624 : compFn Try.prog inv isPure h624 Try.f133 = some c624 := by kernel_rfl
theorem name624 : (Try.f133.name == "runtime.NumGoroutine") = false := by kernel_rfl
theorem tab_ok : ∀ f D, tab f = some D → DefOk Try.prog inv isPure rho f D := by
  intro f D h
  unfold tab at h
  split at h
  · cases h; exact ⟨Try.f4, h51, Try.func4, name51, comp51⟩
  · cases h; exact ⟨Try.f41, h71, Try.func41, name71, comp71⟩
  · cases h; exact ⟨Try.f43, h78, Try.func43, name78, comp78⟩
  · cases h; exact ⟨Try.f7, h103, Try.func7, name103, comp103⟩
  · cases h; exact ⟨Try.f9, h105, Try.func9, name105, comp105⟩
  · cases h; exact ⟨Try.f13, h107, Try.func13, name107, comp107⟩
  · cases h; exact ⟨Try.f21, h121, Try.func21, name121, comp121⟩
  · cases h; exact ⟨Try.f14, h122, Try.func14, name122, comp122⟩
  · cases h; exact ⟨Try.f22, h123, Try.func22, name123, comp123⟩
  · cases h; exact ⟨Try.f36, h134, Try.func36, name134, comp134⟩
  · cases h; exact ⟨Try.f24, h151, Try.func24, name151, comp151⟩
  · cases h; exact ⟨Try.f20, h155, Try.func20, name155, comp155⟩
  · cases h; exact ⟨Try.f19, h156, Try.func19, name156, comp156⟩
  · cases h; exact ⟨Try.f99, h234, Try.func99, name234, comp234⟩
  · cases h; exact ⟨Try.f69, h295, Try.func69, name295, comp295⟩
  · cases h; exact ⟨Try.f35, h296, Try.func35, name296, comp296⟩
  · cases h; exact ⟨Try.f61, h304, Try.func61, name304, comp304⟩
  · cases h; exact ⟨Try.f64, h305, Try.func64, name305, comp305⟩
  · cases h; exact ⟨Try.f44, h316, Try.func44, name316, comp316⟩
  · cases h; exact ⟨Try.f31, h318, Try.func31, name318, comp318⟩
  · cases h; exact ⟨Try.f76, h324, Try.func76, name324, comp324⟩
  · cases h; exact ⟨Try.f96, h325, Try.func96, name325, comp325⟩
  · cases h; exact ⟨Try.f95, h342, Try.func95, name342, comp342⟩
  · cases h; exact ⟨Try.f70, h351, Try.func70, name351, comp351⟩
  · cases h; exact ⟨Try.f32, h353, Try.func32, name353, comp353⟩
  · cases h; exact ⟨Try.f33, h354, Try.func33, name354, comp354⟩
  · cases h; exact ⟨Try.f34, h355, Try.func34, name355, comp355⟩
  · cases h; exact ⟨Try.f42, h358, Try.func42, name358, comp358⟩
  · cases h; exact ⟨Try.f60, h359, Try.func60, name359, comp359⟩
  · cases h; exact ⟨Try.f102, h367, Try.func102, name367, comp367⟩
  · cases h; exact ⟨Try.f45, h369, Try.func45, name369, comp369⟩
  · cases h; exact ⟨Try.f47, h370, Try.func47, name370, comp370⟩
  · cases h; exact ⟨Try.f46, h371, Try.func46, name371, comp371⟩
  · cases h; exact ⟨Try.f68, h372, Try.func68, name372, comp372⟩
  · cases h; exact ⟨Try.f39, h374, Try.func39, name374, comp374⟩
  · cases h; exact ⟨Try.f40, h375, Try.func40, name375, comp375⟩
  · cases h; exact ⟨Try.f103, h393, Try.func103, name393, comp393⟩
  · cases h; exact ⟨Try.f115, h409, Try.func115, name409, comp409⟩
  · cases h; exact ⟨Try.f63, h440, Try.func63, name440, comp440⟩
  · cases h; exact ⟨Try.f111, h443, Try.func111, name443, comp443⟩
  · cases h; exact ⟨Try.f117, h445, Try.func117, name445, comp445⟩
  · cases h; exact ⟨Try.f118, h446, Try.func118, name446, comp446⟩
  · cases h; exact ⟨Try.f94, h456, Try.func94, name456, comp456⟩
  · cases h; exact ⟨Try.f116, h474, Try.func116, name474, comp474⟩
  · cases h; exact ⟨Try.f97, h505, Try.func97, name505, comp505⟩
  · cases h; exact ⟨Try.f98, h506, Try.func98, name506, comp506⟩
  · cases h; exact ⟨Try.f62, h510, Try.func62, name510, comp510⟩
  · cases h; exact ⟨Try.f121, h512, Try.func121, name512, comp512⟩
  · cases h; exact ⟨Try.f77, h514, Try.func77, name514, comp514⟩
  · cases h; exact ⟨Try.f71, h515, Try.func71, name515, comp515⟩
  · cases h; exact ⟨Try.f72, h516, Try.func72, name516, comp516⟩
  · cases h; exact ⟨Try.f73, h517, Try.func73, name517, comp517⟩
  · cases h; exact ⟨Try.f74, h518, Try.func74, name518, comp518⟩
  · cases h; exact ⟨Try.f75, h519, Try.func75, name519, comp519⟩
  · cases h; exact ⟨Try.f122, h530, Try.func122, name530, comp530⟩
  · cases h; exact ⟨Try.f130, h547, Try.func130, name547, comp547⟩
  · cases h; exact ⟨Try.f93, h549, Try.func93, name549, comp549⟩
  · cases h; exact ⟨Try.f100, h565, Try.func100, name565, comp565⟩
  · cases h; exact ⟨Try.f101, h566, Try.func101, name566, comp566⟩
  · cases h; exact ⟨Try.f119, h589, Try.func119, name589, comp589⟩
  · cases h; exact ⟨Try.f120, h590, Try.func120, name590, comp590⟩
  · cases h; exact ⟨Try.f131, h610, Try.func131, name610, comp610⟩
  · cases h; exact ⟨Try.f133, h624, Try.func133, name624, comp624⟩
  · cases h
end Fb
