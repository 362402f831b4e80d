/- Each function of the law is compiled by the checker to its text in the small language. -/
import Derived.Test.YtholaggmhhjjkaaRow2
import Derived.Test.YtholaggmhhjjkaaTab
import Derived.Test.YtholaggmhhjjkaaRows
import Derived.KernelRfl
set_option linter.unusedVariables false
set_option linter.unusedSimpArgs false
namespace Fb
open Go Go.Proofs

def inv : FuncId → Option Nat := fun f => match f with
  | 6 => some 38
  | 44 => some 78
  | 26 => some 103
  | 28 => some 105
  | 31 => some 107
  | 23 => some 121
  | 24 => some 122
  | 29 => some 126
  | 27 => some 127
  | 10 => some 134
  | 30 => some 180
  | 32 => some 182
  | 33 => some 183
  | 94 => some 234
  | 65 => some 295
  | 56 => some 296
  | 119 => some 316
  | 68 => some 318
  | 69 => some 323
  | 49 => some 351
  | 70 => some 352
  | 130 => some 358
  | 88 => some 359
  | 50 => some 369
  | 52 => some 371
  | 139 => some 445
  | 140 => some 446
  | 138 => some 474
  | 92 => some 505
  | 93 => some 506
  | 120 => some 507
  | 121 => some 508
  | 122 => some 509
  | 96 => some 514
  | 97 => some 515
  | 98 => some 516
  | 99 => some 517
  | 100 => some 518
  | 101 => some 519
  | 165 => some 547
  | 142 => some 565
  | 143 => some 566
  | 167 => some 589
  | 168 => some 590
  | 175 => some 610
  | 176 => some 624
  | _ => none
def rho : Nat → FuncId := fun n => match n with
  | 38 => 6
  | 78 => 44
  | 103 => 26
  | 105 => 28
  | 107 => 31
  | 121 => 23
  | 122 => 24
  | 126 => 29
  | 127 => 27
  | 134 => 10
  | 180 => 30
  | 182 => 32
  | 183 => 33
  | 234 => 94
  | 295 => 65
  | 296 => 56
  | 316 => 119
  | 318 => 68
  | 323 => 69
  | 351 => 49
  | 352 => 70
  | 358 => 130
  | 359 => 88
  | 369 => 50
  | 371 => 52
  | 445 => 139
  | 446 => 140
  | 474 => 138
  | 505 => 92
  | 506 => 93
  | 507 => 120
  | 508 => 121
  | 509 => 122
  | 514 => 96
  | 515 => 97
  | 516 => 98
  | 517 => 99
  | 518 => 100
  | 519 => 101
  | 547 => 165
  | 565 => 142
  | 566 => 143
  | 589 => 167
  | 590 => 168
  | 610 => 175
  | 624 => 176
  | _ => 0
def isPure : Nat → Bool := fun n => !([122, 182, 517, 565, 589, 590, 610, 624] : List Nat).contains n
theorem inv_rho : ∀ f i, inv f = some i → rho i = f := by
  intro f i h
  unfold inv at h
  split at h <;> first | (cases h; rfl) | cases h
def h38 : Hint := ⟨.pure, [], [0, 1, 4, 5, 6, 7, 8, 9, 10, 11, 12, 13, 14, 15, 16, 21, 26, 53, 58, 63, 82, 90, 93, 110, 115, 118]⟩
theorem comp38 : compFn Try.prog inv isPure h38 Try.f6 = some c38 := by kernel_rfl
theorem name38 : (Try.f6.name == "runtime.NumGoroutine") = false := by kernel_rfl
def h78 : Hint := ⟨.pure, [3, 2], [0, 1, 2, 3, 4, 5, 7, 16]⟩
theorem comp78 : compFn Try.prog inv isPure h78 Try.f44 = some c78 := by kernel_rfl
theorem name78 : (Try.f44.name == "runtime.NumGoroutine") = false := by kernel_rfl
def h103 : Hint := ⟨.pure, [], [0, 1, 4, 10]⟩
theorem comp103 : compFn Try.prog inv isPure h103 Try.f26 = some c103 := by kernel_rfl
theorem name103 : (Try.f26.name == "runtime.NumGoroutine") = false := by kernel_rfl
def h105 : Hint := ⟨.pure, [], [0, 1, 4, 5, 6, 7, 13, 24, 40]⟩
theorem comp105 : compFn Try.prog inv isPure h105 Try.f28 = some c105 := by kernel_rfl
theorem name105 : (Try.f28.name == "runtime.NumGoroutine") = false := by kernel_rfl
def h107 : Hint := ⟨.pure, [], [0, 1, 4, 5]⟩
theorem comp107 : compFn Try.prog inv isPure h107 Try.f31 = some c107 := by kernel_rfl
theorem name107 : (Try.f31.name == "runtime.NumGoroutine") = false := by kernel_rfl
def h121 : Hint := ⟨.pure, [], [0, 1, 4, 5, 10, 14, 26]⟩
theorem comp121 : compFn Try.prog inv isPure h121 Try.f23 = some c121 := by kernel_rfl
theorem name121 : (Try.f23.name == "runtime.NumGoroutine") = false := by kernel_rfl
def h122 : Hint := ⟨.args, [], [0, 1, 4, 5, 6, 10, 14]⟩
theorem comp122 : compFn Try.prog inv isPure h122 Try.f24 = some c122 := by kernel_rfl
theorem name122 : (Try.f24.name == "runtime.NumGoroutine") = false := by kernel_rfl
def h126 : Hint := ⟨.pure, [], [0, 1, 4, 5, 6, 8]⟩
theorem comp126 : compFn Try.prog inv isPure h126 Try.f29 = some c126 := by kernel_rfl
theorem name126 : (Try.f29.name == "runtime.NumGoroutine") = false := by kernel_rfl
def h127 : Hint := ⟨.pure, [], [0, 1, 4, 5, 6, 7, 15, 19, 28, 39]⟩
theorem comp127 : compFn Try.prog inv isPure h127 Try.f27 = some c127 := by kernel_rfl
theorem name127 : (Try.f27.name == "runtime.NumGoroutine") = false := by kernel_rfl
def h134 : Hint := ⟨.pure, [3, 2, 1], [0, 1, 2, 3, 4, 6]⟩
theorem comp134 : compFn Try.prog inv isPure h134 Try.f10 = some c134 := by kernel_rfl
theorem name134 : (Try.f10.name == "runtime.NumGoroutine") = false := by kernel_rfl
def h180 : Hint := ⟨.pure, [], [0, 1, 4, 5, 10, 14, 25]⟩
theorem comp180 : compFn Try.prog inv isPure h180 Try.f30 = some c180 := by kernel_rfl
theorem name180 : (Try.f30.name == "runtime.NumGoroutine") = false := by kernel_rfl
def h182 : Hint := ⟨.args, [], [0, 1, 4, 5, 9]⟩
theorem comp182 : compFn Try.prog inv isPure h182 Try.f32 = some c182 := by kernel_rfl
theorem name182 : (Try.f32.name == "runtime.NumGoroutine") = false := by kernel_rfl
def h183 : Hint := ⟨.pure, [], [0, 1, 4, 5, 9, 17]⟩
theorem comp183 : compFn Try.prog inv isPure h183 Try.f33 = some c183 := by kernel_rfl
theorem name183 : (Try.f33.name == "runtime.NumGoroutine") = false := by kernel_rfl
def h234 : Hint := ⟨.pure, [], [0, 1, 2]⟩
theorem comp234 : compFn Try.prog inv isPure h234 Try.f94 = some c234 := by kernel_rfl
theorem name234 : (Try.f94.name == "runtime.NumGoroutine") = false := by kernel_rfl
def h295 : Hint := ⟨.pure, [], [0, 1, 2, 6]⟩
theorem comp295 : compFn Try.prog inv isPure h295 Try.f65 = some c295 := by kernel_rfl
theorem name295 : (Try.f65.name == "runtime.NumGoroutine") = false := by kernel_rfl
def h296 : Hint := ⟨.pure, [], [0, 2, 5, 8]⟩
theorem comp296 : compFn Try.prog inv isPure h296 Try.f56 = some c296 := by kernel_rfl
theorem name296 : (Try.f56.name == "runtime.NumGoroutine") = false := by kernel_rfl
def h316 : Hint := ⟨.pure, [], [0, 2]⟩
theorem comp316 : compFn Try.prog inv isPure h316 Try.f119 = some c316 := by kernel_rfl
theorem name316 : (Try.f119.name == "runtime.NumGoroutine") = false := by kernel_rfl
def h318 : Hint := ⟨.pure, [], [0, 2, 3, 7, 14]⟩
theorem comp318 : compFn Try.prog inv isPure h318 Try.f68 = some c318 := by kernel_rfl
theorem name318 : (Try.f68.name == "runtime.NumGoroutine") = false := by kernel_rfl
def h323 : Hint := ⟨.pure, [], [0, 1, 4, 5, 10, 14, 25]⟩
theorem comp323 : compFn Try.prog inv isPure h323 Try.f69 = some c323 := by kernel_rfl
theorem name323 : (Try.f69.name == "runtime.NumGoroutine") = false := by kernel_rfl
def h351 : Hint := ⟨.pure, [], [0, 2]⟩
theorem comp351 : compFn Try.prog inv isPure h351 Try.f49 = some c351 := by kernel_rfl
theorem name351 : (Try.f49.name == "runtime.NumGoroutine") = false := by kernel_rfl
def h352 : Hint := ⟨.pure, [], [0, 1, 2, 3, 4, 6, 7, 8, 9, 10, 11, 12, 13, 14, 23, 42, 49, 61]⟩
theorem comp352 : compFn Try.prog inv isPure h352 Try.f70 = some c352 := by kernel_rfl
theorem name352 : (Try.f70.name == "runtime.NumGoroutine") = false := by kernel_rfl
def h358 : Hint := ⟨.pure, [7, 6, 3], [0, 1, 2, 3, 6, 7, 8, 9, 13, 15, 16, 23, 25]⟩
theorem comp358 : compFn Try.prog inv isPure h358 Try.f130 = some c358 := by kernel_rfl
theorem name358 : (Try.f130.name == "runtime.NumGoroutine") = false := by kernel_rfl
def h359 : Hint := ⟨.pure, [], [0, 2, 3, 5, 13]⟩
theorem comp359 : compFn Try.prog inv isPure h359 Try.f88 = some c359 := by kernel_rfl
theorem name359 : (Try.f88.name == "runtime.NumGoroutine") = false := by kernel_rfl
def h369 : Hint := ⟨.pure, [], [0, 2]⟩
theorem comp369 : compFn Try.prog inv isPure h369 Try.f50 = some c369 := by kernel_rfl
theorem name369 : (Try.f50.name == "runtime.NumGoroutine") = false := by kernel_rfl
def h371 : Hint := ⟨.pure, [], [0, 2, 3, 4, 5, 6, 12, 19]⟩
theorem comp371 : compFn Try.prog inv isPure h371 Try.f52 = some c371 := by kernel_rfl
theorem name371 : (Try.f52.name == "runtime.NumGoroutine") = false := by kernel_rfl
def h445 : Hint := ⟨.pure, [], [0, 1, 4]⟩
theorem comp445 : compFn Try.prog inv isPure h445 Try.f139 = some c445 := by kernel_rfl
theorem name445 : (Try.f139.name == "runtime.NumGoroutine") = false := by kernel_rfl
def h446 : Hint := ⟨.pure, [], [0, 2]⟩
theorem comp446 : compFn Try.prog inv isPure h446 Try.f140 = some c446 := by kernel_rfl
theorem name446 : (Try.f140.name == "runtime.NumGoroutine") = false := by kernel_rfl
def h474 : Hint := ⟨.pure, [], [0, 1, 4, 5, 7, 8, 9, 16]⟩
theorem comp474 : compFn Try.prog inv isPure h474 Try.f138 = some c474 := by kernel_rfl
theorem name474 : (Try.f138.name == "runtime.NumGoroutine") = false := by kernel_rfl
def h505 : Hint := ⟨.pure, [], [0, 1, 4]⟩
theorem comp505 : compFn Try.prog inv isPure h505 Try.f92 = some c505 := by kernel_rfl
theorem name505 : (Try.f92.name == "runtime.NumGoroutine") = false := by kernel_rfl
def h506 : Hint := ⟨.pure, [1], [0, 1, 2]⟩
theorem comp506 : compFn Try.prog inv isPure h506 Try.f93 = some c506 := by kernel_rfl
theorem name506 : (Try.f93.name == "runtime.NumGoroutine") = false := by kernel_rfl
def h507 : Hint := ⟨.pure, [], [0, 1, 4, 5, 7, 8, 9, 16]⟩
theorem comp507 : compFn Try.prog inv isPure h507 Try.f120 = some c507 := by kernel_rfl
theorem name507 : (Try.f120.name == "runtime.NumGoroutine") = false := by kernel_rfl
def h508 : Hint := ⟨.pure, [4], [0, 1, 2, 3, 4, 5]⟩
theorem comp508 : compFn Try.prog inv isPure h508 Try.f121 = some c508 := by kernel_rfl
theorem name508 : (Try.f121.name == "runtime.NumGoroutine") = false := by kernel_rfl
def h509 : Hint := ⟨.pure, [10, 7], [0, 1, 2, 3, 7, 8, 9, 10, 11, 12, 13, 14, 27]⟩
theorem comp509 : compFn Try.prog inv isPure h509 Try.f122 = some c509 := by kernel_rfl
theorem name509 : (Try.f122.name == "runtime.NumGoroutine") = false := by kernel_rfl
def h514 : Hint := ⟨.pure, [4, 3, 2], [0, 1, 2, 3, 4]⟩
theorem comp514 : compFn Try.prog inv isPure h514 Try.f96 = some c514 := by kernel_rfl
theorem name514 : (Try.f96.name == "runtime.NumGoroutine") = false := by kernel_rfl
def h515 : Hint := ⟨.pure, [1], [0, 1, 2]⟩
theorem comp515 : compFn Try.prog inv isPure h515 Try.f97 = some c515 := by kernel_rfl
theorem name515 : (Try.f97.name == "runtime.NumGoroutine") = false := by kernel_rfl
def h516 : Hint := ⟨.pure, [], [0, 2]⟩
theorem comp516 : compFn Try.prog inv isPure h516 Try.f98 = some c516 := by kernel_rfl
theorem name516 : (Try.f98.name == "runtime.NumGoroutine") = false := by kernel_rfl
def h517 : Hint := ⟨.args, [], [0, 1]⟩
theorem comp517 : compFn Try.prog inv isPure h517 Try.f99 = some c517 := by kernel_rfl
theorem name517 : (Try.f99.name == "runtime.NumGoroutine") = false := by kernel_rfl
def h518 : Hint := ⟨.pure, [4, 3], [0, 1, 2, 3, 4, 5]⟩
theorem comp518 : compFn Try.prog inv isPure h518 Try.f100 = some c518 := by kernel_rfl
theorem name518 : (Try.f100.name == "runtime.NumGoroutine") = false := by kernel_rfl
def h519 : Hint := ⟨.pure, [], [0, 1, 4, 5, 6, 11, 12, 13, 16, 19]⟩
theorem comp519 : compFn Try.prog inv isPure h519 Try.f101 = some c519 := by kernel_rfl
theorem name519 : (Try.f101.name == "runtime.NumGoroutine") = false := by kernel_rfl
def h547 : Hint := ⟨.pure, [], [0, 1, 4, 5, 7, 8, 9, 16]⟩
theorem comp547 : compFn Try.prog inv isPure h547 Try.f165 = some c547 := by kernel_rfl
theorem name547 : (Try.f165.name == "runtime.NumGoroutine") = false := by kernel_rfl
def h565 : Hint := ⟨.args, [], [0, 1, 2, 6, 7, 8, 9, 13, 30, 35, 54]⟩
theorem comp565 : compFn Try.prog inv isPure h565 Try.f142 = some c565 := by kernel_rfl
theorem name565 : (Try.f142.name == "runtime.NumGoroutine") = false := by kernel_rfl
def h566 : Hint := ⟨.pure, [], [0, 2]⟩
theorem comp566 : compFn Try.prog inv isPure h566 Try.f143 = some c566 := by kernel_rfl
theorem name566 : (Try.f143.name == "runtime.NumGoroutine") = false := by kernel_rfl
def h589 : Hint := ⟨.args, [], [0, 1, 2, 3, 8, 9, 14, 34]⟩
theorem comp589 : compFn Try.prog inv isPure h589 Try.f167 = some c589 := by kernel_rfl
theorem name589 : (Try.f167.name == "runtime.NumGoroutine") = false := by kernel_rfl
def h590 : Hint := ⟨.args, [], [0, 1, 2, 3, 4, 10, 11, 12, 13, 14, 15, 16, 17, 18, 19, 20, 21, 22, 23, 24, 28, 33, 50, 58, 80, 85, 103, 110, 140, 151, 171, 185, 199, 213]⟩
theorem comp590 : compFn Try.prog inv isPure h590 Try.f168 = some c590 := by kernel_rfl
theorem name590 : (Try.f168.name == "runtime.NumGoroutine") = false := by kernel_rfl
def h610 : Hint := ⟨.args, [], [0, 1, 2, 3, 4, 10, 11, 20, 23]⟩
theorem comp610 : compFn Try.prog inv isPure h610 Try.f175 = some c610 := by kernel_rfl
theorem name610 : (Try.f175.name == "runtime.NumGoroutine") = false := by kernel_rfl
def h624 : Hint := ⟨.args, [], [0, 1, 2, 3, 4, 10, 13]⟩
theorem comp624 : compFn Try.prog inv isPure h624 Try.f176 = some c624 := by kernel_rfl
theorem name624 : (Try.f176.name == "runtime.NumGoroutine") = false := by kernel_rfl
theorem tab_ok : ∀ f D, tab f = some D → DefOk Try.prog inv isPure rho f D := by
  intro f D h
  unfold tab at h
  split at h
  · cases h; exact ⟨Try.f6, h38, Try.func6, name38, comp38⟩
  · cases h; exact ⟨Try.f44, h78, Try.func44, name78, comp78⟩
  · cases h; exact ⟨Try.f26, h103, Try.func26, name103, comp103⟩
  · cases h; exact ⟨Try.f28, h105, Try.func28, name105, comp105⟩
  · cases h; exact ⟨Try.f31, h107, Try.func31, name107, comp107⟩
  · cases h; exact ⟨Try.f23, h121, Try.func23, name121, comp121⟩
  · cases h; exact ⟨Try.f24, h122, Try.func24, name122, comp122⟩
  · cases h; exact ⟨Try.f29, h126, Try.func29, name126, comp126⟩
  · cases h; exact ⟨Try.f27, h127, Try.func27, name127, comp127⟩
  · cases h; exact ⟨Try.f10, h134, Try.func10, name134, comp134⟩
  · cases h; exact ⟨Try.f30, h180, Try.func30, name180, comp180⟩
  · cases h; exact ⟨Try.f32, h182, Try.func32, name182, comp182⟩
  · cases h; exact ⟨Try.f33, h183, Try.func33, name183, comp183⟩
  · cases h; exact ⟨Try.f94, h234, Try.func94, name234, comp234⟩
  · cases h; exact ⟨Try.f65, h295, Try.func65, name295, comp295⟩
  · cases h; exact ⟨Try.f56, h296, Try.func56, name296, comp296⟩
  · cases h; exact ⟨Try.f119, h316, Try.func119, name316, comp316⟩
  · cases h; exact ⟨Try.f68, h318, Try.func68, name318, comp318⟩
  · cases h; exact ⟨Try.f69, h323, Try.func69, name323, comp323⟩
  · cases h; exact ⟨Try.f49, h351, Try.func49, name351, comp351⟩
  · cases h; exact ⟨Try.f70, h352, Try.func70, name352, comp352⟩
  · cases h; exact ⟨Try.f130, h358, Try.func130, name358, comp358⟩
  · cases h; exact ⟨Try.f88, h359, Try.func88, name359, comp359⟩
  · cases h; exact ⟨Try.f50, h369, Try.func50, name369, comp369⟩
  · cases h; exact ⟨Try.f52, h371, Try.func52, name371, comp371⟩
  · cases h; exact ⟨Try.f139, h445, Try.func139, name445, comp445⟩
  · cases h; exact ⟨Try.f140, h446, Try.func140, name446, comp446⟩
  · cases h; exact ⟨Try.f138, h474, Try.func138, name474, comp474⟩
  · cases h; exact ⟨Try.f92, h505, Try.func92, name505, comp505⟩
  · cases h; exact ⟨Try.f93, h506, Try.func93, name506, comp506⟩
  · cases h; exact ⟨Try.f120, h507, Try.func120, name507, comp507⟩
  · cases h; exact ⟨Try.f121, h508, Try.func121, name508, comp508⟩
  · cases h; exact ⟨Try.f122, h509, Try.func122, name509, comp509⟩
  · cases h; exact ⟨Try.f96, h514, Try.func96, name514, comp514⟩
  · cases h; exact ⟨Try.f97, h515, Try.func97, name515, comp515⟩
  · cases h; exact ⟨Try.f98, h516, Try.func98, name516, comp516⟩
  · cases h; exact ⟨Try.f99, h517, Try.func99, name517, comp517⟩
  · cases h; exact ⟨Try.f100, h518, Try.func100, name518, comp518⟩
  · cases h; exact ⟨Try.f101, h519, Try.func101, name519, comp519⟩
  · cases h; exact ⟨Try.f165, h547, Try.func165, name547, comp547⟩
  · cases h; exact ⟨Try.f142, h565, Try.func142, name565, comp565⟩
  · cases h; exact ⟨Try.f143, h566, Try.func143, name566, comp566⟩
  · cases h; exact ⟨Try.f167, h589, Try.func167, name589, comp589⟩
  · cases h; exact ⟨Try.f168, h590, Try.func168, name590, comp590⟩
  · cases h; exact ⟨Try.f175, h610, Try.func175, name610, comp610⟩
  · cases h; exact ⟨Try.f176, h624, Try.func176, name624, comp624⟩
  · cases h
end Fb
