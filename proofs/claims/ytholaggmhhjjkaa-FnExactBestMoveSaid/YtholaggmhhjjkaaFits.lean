/- Each function of the law is compiled by the checker to its text in the small language. -/
import Derived.Test.YtholaggmhhjjkaaRow2
import Derived.Test.YtholaggmhhjjkaaTab
import Derived.Test.YtholaggmhhjjkaaRows
import Derived.KernelRfl
set_option linter.unusedVariables false
set_option linter.unusedSimpArgs false
namespace Fb
open Go Go.Proofs

def inv : FuncId → Option Nat := fun f => match f with
  | 3 => some 34
  | 10 => some 134
  | 11 => some 148
  | 9 => some 149
  | 12 => some 188
  | 94 => some 234
  | 65 => some 295
  | 63 => some 304
  | 137 => some 305
  | 95 => some 324
  | 90 => some 325
  | 46 => some 327
  | 164 => some 342
  | 49 => some 351
  | 47 => some 353
  | 89 => some 354
  | 91 => some 355
  | 130 => some 358
  | 88 => some 359
  | 141 => some 367
  | 50 => some 369
  | 51 => some 370
  | 52 => some 371
  | 48 => some 372
  | 61 => some 393
  | 55 => some 409
  | 106 => some 440
  | 132 => some 443
  | 139 => some 445
  | 140 => some 446
  | 146 => some 456
  | 138 => some 474
  | 92 => some 505
  | 93 => some 506
  | 136 => some 510
  | 166 => some 512
  | 96 => some 514
  | 97 => some 515
  | 98 => some 516
  | 99 => some 517
  | 100 => some 518
  | 101 => some 519
  | 114 => some 530
  | 165 => some 547
  | 163 => some 549
  | 142 => some 565
  | 143 => some 566
  | 167 => some 589
  | 168 => some 590
  | 175 => some 610
  | 176 => some 624
  | _ => none
def rho : Nat → FuncId := fun n => match n with
  | 34 => 3
  | 134 => 10
  | 148 => 11
  | 149 => 9
  | 188 => 12
  | 234 => 94
  | 295 => 65
  | 304 => 63
  | 305 => 137
  | 324 => 95
  | 325 => 90
  | 327 => 46
  | 342 => 164
  | 351 => 49
  | 353 => 47
  | 354 => 89
  | 355 => 91
  | 358 => 130
  | 359 => 88
  | 367 => 141
  | 369 => 50
  | 370 => 51
  | 371 => 52
  | 372 => 48
  | 393 => 61
  | 409 => 55
  | 440 => 106
  | 443 => 132
  | 445 => 139
  | 446 => 140
  | 456 => 146
  | 474 => 138
  | 505 => 92
  | 506 => 93
  | 510 => 136
  | 512 => 166
  | 514 => 96
  | 515 => 97
  | 516 => 98
  | 517 => 99
  | 518 => 100
  | 519 => 101
  | 530 => 114
  | 547 => 165
  | 549 => 163
  | 565 => 142
  | 566 => 143
  | 589 => 167
  | 590 => 168
  | 610 => 175
  | 624 => 176
  | _ => 0
def isPure : Nat → Bool := fun n => !([305, 517, 565, 589, 590, 610, 624] : List Nat).contains n
theorem inv_rho : ∀ f i, inv f = some i → rho i = f := by
  intro f i h
  unfold inv at h
  split at h <;> first | (cases h; rfl) | cases h
def h34 : Hint := ⟨.pure, [10, 7, 4, 3], [0, 1, 2, 3, 4, 6, 7, 8, 9, 10, 11, 12, 46]⟩
theorem comp34 : compFn Try.prog inv isPure h34 Try.f3 = some c34 := by kernel_rfl
theorem name34 : (Try.f3.name == "runtime.NumGoroutine") = false := by kernel_rfl
def h134 : Hint := ⟨.pure, [3, 2, 1], [0, 1, 2, 3, 4, 6]⟩
theorem comp134 : compFn Try.prog inv isPure h134 Try.f10 = some c134 := by kernel_rfl
theorem name134 : (Try.f10.name == "runtime.NumGoroutine") = false := by kernel_rfl
def h148 : Hint := ⟨.pure, [9, 6, 4, 3], [0, 1, 2, 3, 4, 6, 7, 8, 9, 10, 11, 18]⟩
theorem comp148 : compFn Try.prog inv isPure h148 Try.f11 = some c148 := by kernel_rfl
theorem name148 : (Try.f11.name == "runtime.NumGoroutine") = false := by kernel_rfl
def h149 : Hint := ⟨.pure, [10, 6], [0, 1, 2, 3, 4, 6, 7, 8, 9, 10, 11, 14, 19]⟩
theorem comp149 : compFn Try.prog inv isPure h149 Try.f9 = some c149 := by kernel_rfl
theorem name149 : (Try.f9.name == "runtime.NumGoroutine") = false := by kernel_rfl
def h188 : Hint := ⟨.pure, [3, 2], [0, 1, 2, 3, 4, 9, 14]⟩
theorem comp188 : compFn Try.prog inv isPure h188 Try.f12 = some c188 := by kernel_rfl
theorem name188 : (Try.f12.name == "runtime.NumGoroutine") = false := by kernel_rfl
def h234 : Hint := ⟨.pure, [], [0, 1, 2]⟩
theorem comp234 : compFn Try.prog inv isPure h234 Try.f94 = some c234 := by kernel_rfl
theorem name234 : (Try.f94.name == "runtime.NumGoroutine") = false := by kernel_rfl
def h295 : Hint := ⟨.pure, [], [0, 1, 2, 6]⟩
theorem comp295 : compFn Try.prog inv isPure h295 Try.f65 = some c295 := by kernel_rfl
theorem name295 : (Try.f65.name == "runtime.NumGoroutine") = false := by kernel_rfl
def h304 : Hint := ⟨.pure, [], [0, 1, 2, 6]⟩
theorem comp304 : compFn Try.prog inv isPure h304 Try.f63 = some c304 := by kernel_rfl
theorem name304 : (Try.f63.name == "runtime.NumGoroutine") = false := by kernel_rfl
def h305 : Hint := ⟨.args, [], [0, 1, 2, 8]⟩
theorem comp305 : compFn Try.prog inv isPure h305 Try.f137 = some c305 := by kernel_rfl
theorem name305 : (Try.f137.name == "runtime.NumGoroutine") = false := by kernel_rfl
def h324 : Hint := ⟨.pure, [3, 2], [0, 1, 2, 3, 4]⟩
theorem comp324 : compFn Try.prog inv isPure h324 Try.f95 = some c324 := by kernel_rfl
theorem name324 : (Try.f95.name == "runtime.NumGoroutine") = false := by kernel_rfl
def h325 : Hint := ⟨.pure, [], [0, 1, 4, 5, 6, 9]⟩
theorem comp325 : compFn Try.prog inv isPure h325 Try.f90 = some c325 := by kernel_rfl
theorem name325 : (Try.f90.name == "runtime.NumGoroutine") = false := by kernel_rfl
def h327 : Hint := ⟨.pure, [], [0, 1, 4, 12]⟩
theorem comp327 : compFn Try.prog inv isPure h327 Try.f46 = some c327 := by kernel_rfl
theorem name327 : (Try.f46.name == "runtime.NumGoroutine") = false := by kernel_rfl
def h342 : Hint := ⟨.pure, [], [0, 1, 4]⟩
theorem comp342 : compFn Try.prog inv isPure h342 Try.f164 = some c342 := by kernel_rfl
theorem name342 : (Try.f164.name == "runtime.NumGoroutine") = false := by kernel_rfl
def h351 : Hint := ⟨.pure, [], [0, 2]⟩
theorem comp351 : compFn Try.prog inv isPure h351 Try.f49 = some c351 := by kernel_rfl
theorem name351 : (Try.f49.name == "runtime.NumGoroutine") = false := by kernel_rfl
def h353 : Hint := ⟨.pure, [], [0, 2]⟩
theorem comp353 : compFn Try.prog inv isPure h353 Try.f47 = some c353 := by kernel_rfl
theorem name353 : (Try.f47.name == "runtime.NumGoroutine") = false := by kernel_rfl
def h354 : Hint := ⟨.pure, [7], [0, 2, 3, 4, 5, 6, 7, 12, 19, 26, 37]⟩
theorem comp354 : compFn Try.prog inv isPure h354 Try.f89 = some c354 := by kernel_rfl
theorem name354 : (Try.f89.name == "runtime.NumGoroutine") = false := by kernel_rfl
def h355 : Hint := ⟨.pure, [6], [0, 1, 2, 6, 7, 8, 9, 16]⟩
theorem comp355 : compFn Try.prog inv isPure h355 Try.f91 = some c355 := by kernel_rfl
theorem name355 : (Try.f91.name == "runtime.NumGoroutine") = false := by kernel_rfl
def h358 : Hint := ⟨.pure, [7, 6, 3], [0, 1, 2, 3, 6, 7, 8, 9, 13, 15, 16, 23, 25]⟩
theorem comp358 : compFn Try.prog inv isPure h358 Try.f130 = some c358 := by kernel_rfl
theorem name358 : (Try.f130.name == "runtime.NumGoroutine") = false := by kernel_rfl
def h359 : Hint := ⟨.pure, [], [0, 2, 3, 5, 13]⟩
theorem comp359 : compFn Try.prog inv isPure h359 Try.f88 = some c359 := by kernel_rfl
theorem name359 : (Try.f88.name == "runtime.NumGoroutine") = false := by kernel_rfl
def h367 : Hint := ⟨.pure, [4, 3, 2], [0, 1, 2, 3, 4]⟩
theorem comp367 : compFn Try.prog inv isPure h367 Try.f141 = some c367 := by kernel_rfl
theorem name367 : (Try.f141.name == "runtime.NumGoroutine") = false := by kernel_rfl
def h369 : Hint := ⟨.pure, [], [0, 2]⟩
theorem comp369 : compFn Try.prog inv isPure h369 Try.f50 = some c369 := by kernel_rfl
theorem name369 : (Try.f50.name == "runtime.NumGoroutine") = false := by kernel_rfl
def h370 : Hint := ⟨.pure, [11, 8, 6, 4, 3], [0, 1, 2, 3, 4, 6, 7, 8, 9, 11, 12, 24, 25, 26, 27, 37]⟩
theorem comp370 : compFn Try.prog inv isPure h370 Try.f51 = some c370 := by kernel_rfl
theorem name370 : (Try.f51.name == "runtime.NumGoroutine") = false := by kernel_rfl
def h371 : Hint := ⟨.pure, [], [0, 2, 3, 4, 5, 6, 12, 19]⟩
theorem comp371 : compFn Try.prog inv isPure h371 Try.f52 = some c371 := by kernel_rfl
theorem name371 : (Try.f52.name == "runtime.NumGoroutine") = false := by kernel_rfl
def h372 : Hint := ⟨.pure, [9, 6], [0, 1, 2, 6, 7, 8, 9, 10, 11, 12, 13, 23, 44]⟩
theorem comp372 : compFn Try.prog inv isPure h372 Try.f48 = some c372 := by kernel_rfl
theorem name372 : (Try.f48.name == "runtime.NumGoroutine") = false := by kernel_rfl
def h393 : Hint := ⟨.pure, [1], [0, 1, 2, 3, 5, 6, 7, 8]⟩
theorem comp393 : compFn Try.prog inv isPure h393 Try.f61 = some c393 := by kernel_rfl
theorem name393 : (Try.f61.name == "runtime.NumGoroutine") = false := by kernel_rfl
def h409 : Hint := ⟨.pure, [], [0, 2]⟩
theorem comp409 : compFn Try.prog inv isPure h409 Try.f55 = some c409 := by kernel_rfl
theorem name409 : (Try.f55.name == "runtime.NumGoroutine") = false := by kernel_rfl
def h440 : Hint := ⟨.pure, [], [0, 2, 3, 4, 5, 8, 12, 18]⟩
theorem comp440 : compFn Try.prog inv isPure h440 Try.f106 = some c440 := by kernel_rfl
theorem name440 : (Try.f106.name == "runtime.NumGoroutine") = false := by kernel_rfl
def h443 : Hint := ⟨.pure, [6, 4, 3], [0, 1, 2, 3, 4, 6, 7, 8, 9, 10, 11]⟩
theorem comp443 : compFn Try.prog inv isPure h443 Try.f132 = some c443 := by kernel_rfl
theorem name443 : (Try.f132.name == "runtime.NumGoroutine") = false := by kernel_rfl
def h445 : Hint := ⟨.pure, [], [0, 1, 4]⟩
theorem comp445 : compFn Try.prog inv isPure h445 Try.f139 = some c445 := by kernel_rfl
theorem name445 : (Try.f139.name == "runtime.NumGoroutine") = false := by kernel_rfl
def h446 : Hint := ⟨.pure, [], [0, 2]⟩
theorem comp446 : compFn Try.prog inv isPure h446 Try.f140 = some c446 := by kernel_rfl
theorem name446 : (Try.f140.name == "runtime.NumGoroutine") = false := by kernel_rfl
def h456 : Hint := ⟨.pure, [], [0, 1, 2, 6]⟩
theorem comp456 : compFn Try.prog inv isPure h456 Try.f146 = some c456 := by kernel_rfl
theorem name456 : (Try.f146.name == "runtime.NumGoroutine") = false := by kernel_rfl
def h474 : Hint := ⟨.pure, [], [0, 1, 4, 5, 7, 8, 9, 16]⟩
theorem comp474 : compFn Try.prog inv isPure h474 Try.f138 = some c474 := by kernel_rfl
theorem name474 : (Try.f138.name == "runtime.NumGoroutine") = false := by kernel_rfl
def h505 : Hint := ⟨.pure, [], [0, 1, 4]⟩
theorem comp505 : compFn Try.prog inv isPure h505 Try.f92 = some c505 := by kernel_rfl
theorem name505 : (Try.f92.name == "runtime.NumGoroutine") = false := by kernel_rfl
def h506 : Hint := ⟨.pure, [1], [0, 1, 2]⟩
theorem comp506 : compFn Try.prog inv isPure h506 Try.f93 = some c506 := by kernel_rfl
theorem name506 : (Try.f93.name == "runtime.NumGoroutine") = false := by kernel_rfl
def h510 : Hint := ⟨.pure, [1], [0, 1, 2, 3, 4]⟩
theorem comp510 : compFn Try.prog inv isPure h510 Try.f136 = some c510 := by kernel_rfl
theorem name510 : (Try.f136.name == "runtime.NumGoroutine") = false := by kernel_rfl
def h512 : Hint := ⟨.pure, [], [0, 1, 4]⟩
theorem comp512 : compFn Try.prog inv isPure h512 Try.f166 = some c512 := by kernel_rfl
theorem name512 : (Try.f166.name == "runtime.NumGoroutine") = false := by kernel_rfl
def h514 : Hint := ⟨.pure, [4, 3, 2], [0, 1, 2, 3, 4]⟩
theorem comp514 : compFn Try.prog inv isPure h514 Try.f96 = some c514 := by kernel_rfl
theorem name514 : (Try.f96.name == "runtime.NumGoroutine") = false := by kernel_rfl
def h515 : Hint := ⟨.pure, [1], [0, 1, 2]⟩
theorem comp515 : compFn Try.prog inv isPure h515 Try.f97 = some c515 := by kernel_rfl
theorem name515 : (Try.f97.name == "runtime.NumGoroutine") = false := by kernel_rfl
def h516 : Hint := ⟨.pure, [], [0, 2]⟩
theorem comp516 : compFn Try.prog inv isPure h516 Try.f98 = some c516 := by kernel_rfl
theorem name516 : (Try.f98.name == "runtime.NumGoroutine") = false := by kernel_rfl
def h517 : Hint := ⟨.args, [], [0, 1]⟩
theorem comp517 : compFn Try.prog inv isPure h517 Try.f99 = some c517 := by kernel_rfl
theorem name517 : (Try.f99.name == "runtime.NumGoroutine") = false := by kernel_rfl
def h518 : Hint := ⟨.pure, [4, 3], [0, 1, 2, 3, 4, 5]⟩
theorem comp518 : compFn Try.prog inv isPure h518 Try.f100 = some c518 := by kernel_rfl
theorem name518 : (Try.f100.name == "runtime.NumGoroutine") = false := by kernel_rfl
def h519 : Hint := ⟨.pure, [], [0, 1, 4, 5, 6, 11, 12, 13, 16, 19]⟩
theorem comp519 : compFn Try.prog inv isPure h519 Try.f101 = some c519 := by kernel_rfl
theorem name519 : (Try.f101.name == "runtime.NumGoroutine") = false := by kernel_rfl
def h530 : Hint := ⟨.pure, [], [0, 2]⟩
theorem comp530 : compFn Try.prog inv isPure h530 Try.f114 = some c530 := by kernel_rfl
theorem name530 : (Try.f114.name == "runtime.NumGoroutine") = false := by kernel_rfl
def h547 : Hint := ⟨.pure, [], [0, 1, 4, 5, 7, 8, 9, 16]⟩
theorem comp547 : compFn Try.prog inv isPure h547 Try.f165 = some c547 := by kernel_rfl
theorem name547 : (Try.f165.name == "runtime.NumGoroutine") = false := by kernel_rfl
def h549 : Hint := ⟨.pure, [], [0, 1, 4, 7]⟩
theorem comp549 : compFn Try.prog inv isPure h549 Try.f163 = some c549 := by kernel_rfl
theorem name549 : (Try.f163.name == "runtime.NumGoroutine") = false := by kernel_rfl
def h565 : Hint := ⟨.args, [], [0, 1, 2, 6, 7, 8, 9, 13, 30, 35, 54]⟩
theorem comp565 : compFn Try.prog inv isPure h565 Try.f142 = some c565 := by kernel_rfl
theorem name565 : (Try.f142.name == "runtime.NumGoroutine") = false := by kernel_rfl
def h566 : Hint := ⟨.pure, [], [0, 2]⟩
theorem comp566 : compFn Try.prog inv isPure h566 Try.f143 = some c566 := by kernel_rfl
theorem name566 : (Try.f143.name == "runtime.NumGoroutine") = false := by kernel_rfl
def h589 : Hint := ⟨.args, [], [0, 1, 2, 3, 8, 9, 14, 34]⟩
theorem comp589 : compFn Try.prog inv isPure h589 Try.f167 = some c589 := by kernel_rfl
theorem name589 : (Try.f167.name == "runtime.NumGoroutine") = false := by kernel_rfl
def h590 : Hint := ⟨.args, [], [0, 1, 2, 3, 4, 10, 11, 12, 13, 14, 15, 16, 17, 18, 19, 20, 21, 22, 23, 24, 28, 33, 50, 58, 80, 85, 103, 110, 140, 151, 171, 185, 199, 213]⟩
theorem comp590 : compFn Try.prog inv isPure h590 Try.f168 = some c590 := by kernel_rfl
theorem name590 : (Try.f168.name == "runtime.NumGoroutine") = false := by kernel_rfl
def h610 : Hint := ⟨.args, [], [0, 1, 2, 3, 4, 10, 11, 20, 23]⟩
theorem comp610 : compFn Try.prog inv isPure h610 Try.f175 = some c610 := by kernel_rfl
theorem name610 : (Try.f175.name == "runtime.NumGoroutine") = false := by kernel_rfl
def h624 : Hint := ⟨.args, [], [0, 1, 2, 3, 4, 10, 13]⟩
theorem comp624 : compFn Try.prog inv isPure h624 Try.f176 = some c624 := by kernel_rfl
theorem name624 : (Try.f176.name == "runtime.NumGoroutine") = false := by kernel_rfl
theorem tab_ok : ∀ f D, tab f = some D → DefOk Try.prog inv isPure rho f D := by
  intro f D h
  unfold tab at h
  split at h
  · cases h; exact ⟨Try.f3, h34, Try.func3, name34, comp34⟩
  · cases h; exact ⟨Try.f10, h134, Try.func10, name134, comp134⟩
  · cases h; exact ⟨Try.f11, h148, Try.func11, name148, comp148⟩
  · cases h; exact ⟨Try.f9, h149, Try.func9, name149, comp149⟩
  · cases h; exact ⟨Try.f12, h188, Try.func12, name188, comp188⟩
  · cases h; exact ⟨Try.f94, h234, Try.func94, name234, comp234⟩
  · cases h; exact ⟨Try.f65, h295, Try.func65, name295, comp295⟩
  · cases h; exact ⟨Try.f63, h304, Try.func63, name304, comp304⟩
  · cases h; exact ⟨Try.f137, h305, Try.func137, name305, comp305⟩
  · cases h; exact ⟨Try.f95, h324, Try.func95, name324, comp324⟩
  · cases h; exact ⟨Try.f90, h325, Try.func90, name325, comp325⟩
  · cases h; exact ⟨Try.f46, h327, Try.func46, name327, comp327⟩
  · cases h; exact ⟨Try.f164, h342, Try.func164, name342, comp342⟩
  · cases h; exact ⟨Try.f49, h351, Try.func49, name351, comp351⟩
  · cases h; exact ⟨Try.f47, h353, Try.func47, name353, comp353⟩
  · cases h; exact ⟨Try.f89, h354, Try.func89, name354, comp354⟩
  · cases h; exact ⟨Try.f91, h355, Try.func91, name355, comp355⟩
  · cases h; exact ⟨Try.f130, h358, Try.func130, name358, comp358⟩
  · cases h; exact ⟨Try.f88, h359, Try.func88, name359, comp359⟩
  · cases h; exact ⟨Try.f141, h367, Try.func141, name367, comp367⟩
  · cases h; exact ⟨Try.f50, h369, Try.func50, name369, comp369⟩
  · cases h; exact ⟨Try.f51, h370, Try.func51, name370, comp370⟩
  · cases h; exact ⟨Try.f52, h371, Try.func52, name371, comp371⟩
  · cases h; exact ⟨Try.f48, h372, Try.func48, name372, comp372⟩
  · cases h; exact ⟨Try.f61, h393, Try.func61, name393, comp393⟩
  · cases h; exact ⟨Try.f55, h409, Try.func55, name409, comp409⟩
  · cases h; exact ⟨Try.f106, h440, Try.func106, name440, comp440⟩
  · cases h; exact ⟨Try.f132, h443, Try.func132, name443, comp443⟩
  · cases h; exact ⟨Try.f139, h445, Try.func139, name445, comp445⟩
  · cases h; exact ⟨Try.f140, h446, Try.func140, name446, comp446⟩
  · cases h; exact ⟨Try.f146, h456, Try.func146, name456, comp456⟩
  · cases h; exact ⟨Try.f138, h474, Try.func138, name474, comp474⟩
  · cases h; exact ⟨Try.f92, h505, Try.func92, name505, comp505⟩
  · cases h; exact ⟨Try.f93, h506, Try.func93, name506, comp506⟩
  · cases h; exact ⟨Try.f136, h510, Try.func136, name510, comp510⟩
  · cases h; exact ⟨Try.f166, h512, Try.func166, name512, comp512⟩
  · cases h; exact ⟨Try.f96, h514, Try.func96, name514, comp514⟩
  · cases h; exact ⟨Try.f97, h515, Try.func97, name515, comp515⟩
  · cases h; exact ⟨Try.f98, h516, Try.func98, name516, comp516⟩
  · cases h; exact ⟨Try.f99, h517, Try.func99, name517, comp517⟩
  · cases h; exact ⟨Try.f100, h518, Try.func100, name518, comp518⟩
  · cases h; exact ⟨Try.f101, h519, Try.func101, name519, comp519⟩
  · cases h; exact ⟨Try.f114, h530, Try.func114, name530, comp530⟩
  · cases h; exact ⟨Try.f165, h547, Try.func165, name547, comp547⟩
  · cases h; exact ⟨Try.f163, h549, Try.func163, name549, comp549⟩
  · cases h; exact ⟨Try.f142, h565, Try.func142, name565, comp565⟩
  · cases h; exact ⟨Try.f143, h566, Try.func143, name566, comp566⟩
  · cases h; exact ⟨Try.f167, h589, Try.func167, name589, comp589⟩
  · cases h; exact ⟨Try.f168, h590, Try.func168, name590, comp590⟩
  · cases h; exact ⟨Try.f175, h610, Try.func175, name610, comp610⟩
  · cases h; exact ⟨Try.f176, h624, Try.func176, name624, comp624⟩
  · cases h
end Fb
