/- Each function of the law is compiled by the checker to its text in the small language. -/
import Derived.Test.YtkkncjfgnielgabRow2
import Derived.Test.YtkkncjfgnielgabTab
import Derived.Test.YtkkncjfgnielgabRows
import Derived.KernelRfl
set_option linter.unusedVariables false
set_option linter.unusedSimpArgs false
namespace Fb
open Go Go.Proofs

def inv : FuncId → Option Nat := fun f => match f with
  | 7 => some 22
  | 56 => some 78
  | 30 => some 92
  | 29 => some 93
  | 21 => some 103
  | 23 => some 105
  | 26 => some 107
  | 25 => some 121
  | 11 => some 134
  | 39 => some 234
  | 50 => some 296
  | 48 => some 304
  | 51 => some 316
  | 47 => some 318
  | 58 => some 324
  | 57 => some 325
  | 74 => some 342
  | 69 => some 351
  | 34 => some 359
  | 55 => some 367
  | 73 => some 393
  | 72 => some 409
  | 80 => some 440
  | 70 => some 443
  | 65 => some 445
  | 66 => some 446
  | 60 => some 456
  | 82 => some 474
  | 78 => some 505
  | 79 => some 506
  | 71 => some 512
  | 81 => some 530
  | 76 => some 547
  | _ => none
def rho : Nat → FuncId := fun n => match n with
  | 22 => 7
  | 78 => 56
  | 92 => 30
  | 93 => 29
  | 103 => 21
  | 105 => 23
  | 107 => 26
  | 121 => 25
  | 134 => 11
  | 234 => 39
  | 296 => 50
  | 304 => 48
  | 316 => 51
  | 318 => 47
  | 324 => 58
  | 325 => 57
  | 342 => 74
  | 351 => 69
  | 359 => 34
  | 367 => 55
  | 393 => 73
  | 409 => 72
  | 440 => 80
  | 443 => 70
  | 445 => 65
  | 446 => 66
  | 456 => 60
  | 474 => 82
  | 505 => 78
  | 506 => 79
  | 512 => 71
  | 530 => 81
  | 547 => 76
  | _ => 0
def isPure : Nat → Bool := fun n => true
theorem inv_rho : ∀ f i, inv f = some i → rho i = f := by
  intro f i h
  unfold inv at h
  split at h <;> first | (cases h; rfl) | cases h
def h22 : Hint := ⟨.pure, [], [0, 1, 4, 5, 6, 7, 8, 9, 10, 11, 12, 13, 14, 15, 16, 17, 18, 23, 60, 65, 92]⟩
theorem comp22 : compFn Try.prog inv isPure h22 Try.f7 = some c22 := by kernel_rfl
theorem name22 : (Try.f7.name == "runtime.NumGoroutine") = false := by kernel_rfl
def h78 : Hint := ⟨.pure, [3, 2], [0, 1, 2, 3, 4, 5, 7, 16]⟩
theorem comp78 : compFn Try.prog inv isPure h78 Try.f56 = some c78 := by kernel_rfl
theorem name78 : (Try.f56.name == "runtime.NumGoroutine") = false := by kernel_rfl
def h92 : Hint := ⟨.pure, [], [0, 1, 4, 5, 6, 7, 8, 9, 10, 11, 12, 13, 14, 18, 21, 30, 38, 59]⟩
theorem comp92 : compFn Try.prog inv isPure h92 Try.f30 = some c92 := by kernel_rfl
theorem name92 : (Try.f30.name == "runtime.NumGoroutine") = false := by kernel_rfl
def h93 : Hint := ⟨.pure, [], [0, 1, 4, 5, 6, 7, 8, 9, 10, 11, 12, 13, 16, 18, 22, 27, 35, 54]⟩
theorem comp93 : compFn Try.prog inv isPure h93 Try.f29 = some c93 := by kernel_rfl
theorem name93 : (Try.f29.name == "runtime.NumGoroutine") = false := by kernel_rfl
def h103 : Hint := ⟨.pure, [], [0, 1, 4, 10]⟩
theorem comp103 : compFn Try.prog inv isPure h103 Try.f21 = some c103 := by kernel_rfl
theorem name103 : (Try.f21.name == "runtime.NumGoroutine") = false := by kernel_rfl
def h105 : Hint := ⟨.pure, [], [0, 1, 4, 5, 6, 7, 13, 24, 40]⟩
theorem comp105 : compFn Try.prog inv isPure h105 Try.f23 = some c105 := by kernel_rfl
theorem name105 : (Try.f23.name == "runtime.NumGoroutine") = false := by kernel_rfl
def h107 : Hint := ⟨.pure, [], [0, 1, 4, 5]⟩
theorem comp107 : compFn Try.prog inv isPure h107 Try.f26 = some c107 := by kernel_rfl
theorem name107 : (Try.f26.name == "runtime.NumGoroutine") = false := by kernel_rfl
def h121 : Hint := ⟨.pure, [], [0, 1, 4, 5, 10, 14, 26]⟩
theorem comp121 : compFn Try.prog inv isPure h121 Try.f25 = some c121 := by kernel_rfl
theorem name121 : (Try.f25.name == "runtime.NumGoroutine") = false := by kernel_rfl
def h134 : Hint := ⟨.pure, [3, 2, 1], [0, 1, 2, 3, 4, 6]⟩
theorem comp134 : compFn Try.prog inv isPure h134 Try.f11 = some c134 := by kernel_rfl
theorem name134 : (Try.f11.name == "runtime.NumGoroutine") = false := by kernel_rfl
def h234 : Hint := ⟨.pure, [], [0, 1, 2]⟩
theorem comp234 : compFn Try.prog inv isPure h234 Try.f39 = some c234 := by kernel_rfl
theorem name234 : (Try.f39.name == "runtime.NumGoroutine") = false := by kernel_rfl
def h296 : Hint := ⟨.pure, [], [0, 2, 5, 8]⟩
theorem comp296 : compFn Try.prog inv isPure h296 Try.f50 = some c296 := by kernel_rfl
theorem name296 : (Try.f50.name == "runtime.NumGoroutine") = false := by kernel_rfl
def h304 : Hint := ⟨.pure, [], [0, 1, 2, 6]⟩
theorem comp304 : compFn Try.prog inv isPure h304 Try.f48 = some c304 := by kernel_rfl
theorem name304 : (Try.f48.name == "runtime.NumGoroutine") = false := by kernel_rfl
def h316 : Hint := ⟨.pure, [], [0, 2]⟩
theorem comp316 : compFn Try.prog inv isPure h316 Try.f51 = some c316 := by kernel_rfl
theorem name316 : (Try.f51.name == "runtime.NumGoroutine") = false := by kernel_rfl
def h318 : Hint := ⟨.pure, [], [0, 2, 3, 7, 14]⟩
theorem comp318 : compFn Try.prog inv isPure h318 Try.f47 = some c318 := by kernel_rfl
theorem name318 : (Try.f47.name == "runtime.NumGoroutine") = false := by kernel_rfl
def h324 : Hint := ⟨.pure, [3, 2], [0, 1, 2, 3, 4]⟩
theorem comp324 : compFn Try.prog inv isPure h324 Try.f58 = some c324 := by kernel_rfl
theorem name324 : (Try.f58.name == "runtime.NumGoroutine") = false := by kernel_rfl
def h325 : Hint := ⟨.pure, [], [0, 1, 4, 5, 6, 9]⟩
theorem comp325 : compFn Try.prog inv isPure h325 Try.f57 = some c325 := by kernel_rfl
theorem name325 : (Try.f57.name == "runtime.NumGoroutine") = false := by kernel_rfl
def h342 : Hint := ⟨.pure, [], [0, 1, 4]⟩
theorem comp342 : compFn Try.prog inv isPure h342 Try.f74 = some c342 := by kernel_rfl
theorem name342 : (Try.f74.name == "runtime.NumGoroutine") = false := by kernel_rfl
def h351 : Hint := ⟨.pure, [], [0, 2]⟩
theorem comp351 : compFn Try.prog inv isPure h351 Try.f69 = some c351 := by kernel_rfl
theorem name351 : (Try.f69.name == "runtime.NumGoroutine") = false := by kernel_rfl
def h359 : Hint := ⟨.pure, [], [0, 2, 3, 5, 13]⟩
theorem comp359 : compFn Try.prog inv isPure h359 Try.f34 = some c359 := by kernel_rfl
theorem name359 : (Try.f34.name == "runtime.NumGoroutine") = false := by kernel_rfl
def h367 : Hint := ⟨.pure, [4, 3, 2], [0, 1, 2, 3, 4]⟩
theorem comp367 : compFn Try.prog inv isPure h367 Try.f55 = some c367 := by kernel_rfl
theorem name367 : (Try.f55.name == "runtime.NumGoroutine") = false := by kernel_rfl
def h393 : Hint := ⟨.pure, [1], [0, 1, 2, 3, 5, 6, 7, 8]⟩
theorem comp393 : compFn Try.prog inv isPure h393 Try.f73 = some c393 := by kernel_rfl
theorem name393 : (Try.f73.name == "runtime.NumGoroutine") = false := by kernel_rfl
def h409 : Hint := ⟨.pure, [], [0, 2]⟩
theorem comp409 : compFn Try.prog inv isPure h409 Try.f72 = some c409 := by kernel_rfl
theorem name409 : (Try.f72.name == "runtime.NumGoroutine") = false := by kernel_rfl
def h440 : Hint := ⟨.pure, [], [0, 2, 3, 4, 5, 8, 12, 18]⟩
theorem comp440 : compFn Try.prog inv isPure h440 Try.f80 = some c440 := by kernel_rfl
theorem name440 : (Try.f80.name == "runtime.NumGoroutine") = false := by kernel_rfl
def h443 : Hint := ⟨.pure, [6, 4, 3], [0, 1, 2, 3, 4, 6, 7, 8, 9, 10, 11]⟩
theorem comp443 : compFn Try.prog inv isPure h443 Try.f70 = some c443 := by kernel_rfl
theorem name443 : (Try.f70.name == "runtime.NumGoroutine") = false := by kernel_rfl
def h445 : Hint := ⟨.pure, [], [0, 1, 4]⟩
theorem comp445 : compFn Try.prog inv isPure h445 Try.f65 = some c445 := by kernel_rfl
theorem name445 : (Try.f65.name == "runtime.NumGoroutine") = false := by kernel_rfl
def h446 : Hint := ⟨.pure, [], [0, 2]⟩
theorem comp446 : compFn Try.prog inv isPure h446 Try.f66 = some c446 := by kernel_rfl
theorem name446 : (Try.f66.name == "runtime.NumGoroutine") = false := by kernel_rfl
def h456 : Hint := ⟨.pure, [], [0, 1, 2, 6]⟩
theorem comp456 : compFn Try.prog inv isPure h456 Try.f60 = some c456 := by kernel_rfl
theorem name456 : (Try.f60.name == "runtime.NumGoroutine") = false := by kernel_rfl
def h474 : Hint := ⟨.pure, [], [0, 1, 4, 5, 7, 8, 9, 16]⟩
theorem comp474 : compFn Try.prog inv isPure h474 Try.f82 = some c474 := by kernel_rfl
theorem name474 : (Try.f82.name == "runtime.NumGoroutine") = false := by kernel_rfl
def h505 : Hint := ⟨.pure, [], [0, 1, 4]⟩
theorem comp505 : compFn Try.prog inv isPure h505 Try.f78 = some c505 := by kernel_rfl
theorem name505 : (Try.f78.name == "runtime.NumGoroutine") = false := by kernel_rfl
def h506 : Hint := ⟨.pure, [1], [0, 1, 2]⟩
theorem comp506 : compFn Try.prog inv isPure h506 Try.f79 = some c506 := by kernel_rfl
theorem name506 : (Try.f79.name == "runtime.NumGoroutine") = false := by kernel_rfl
def h512 : Hint := ⟨.pure, [], [0, 1, 4]⟩
theorem comp512 : compFn Try.prog inv isPure h512 Try.f71 = some c512 := by kernel_rfl
theorem name512 : (Try.f71.name == "runtime.NumGoroutine") = false := by kernel_rfl
def h530 : Hint := ⟨.pure, [], [0, 2]⟩
theorem comp530 : compFn Try.prog inv isPure h530 Try.f81 = some c530 := by kernel_rfl
theorem name530 : (Try.f81.name == "runtime.NumGoroutine") = false := by kernel_rfl
def h547 : Hint := ⟨.pure, [], [0, 1, 4, 5, 7, 8, 9, 16]⟩
theorem comp547 : compFn Try.prog inv isPure h547 Try.f76 = some c547 := by kernel_rfl
theorem name547 : (Try.f76.name == "runtime.NumGoroutine") = false := by kernel_rfl
theorem tab_ok : ∀ f D, tab f = some D → DefOk Try.prog inv isPure rho f D := by
  intro f D h
  unfold tab at h
  split at h
  · cases h; exact ⟨Try.f7, h22, Try.func7, name22, comp22⟩
  · cases h; exact ⟨Try.f56, h78, Try.func56, name78, comp78⟩
  · cases h; exact ⟨Try.f30, h92, Try.func30, name92, comp92⟩
  · cases h; exact ⟨Try.f29, h93, Try.func29, name93, comp93⟩
  · cases h; exact ⟨Try.f21, h103, Try.func21, name103, comp103⟩
  · cases h; exact ⟨Try.f23, h105, Try.func23, name105, comp105⟩
  · cases h; exact ⟨Try.f26, h107, Try.func26, name107, comp107⟩
  · cases h; exact ⟨Try.f25, h121, Try.func25, name121, comp121⟩
  · cases h; exact ⟨Try.f11, h134, Try.func11, name134, comp134⟩
  · cases h; exact ⟨Try.f39, h234, Try.func39, name234, comp234⟩
  · cases h; exact ⟨Try.f50, h296, Try.func50, name296, comp296⟩
  · cases h; exact ⟨Try.f48, h304, Try.func48, name304, comp304⟩
  · cases h; exact ⟨Try.f51, h316, Try.func51, name316, comp316⟩
  · cases h; exact ⟨Try.f47, h318, Try.func47, name318, comp318⟩
  · cases h; exact ⟨Try.f58, h324, Try.func58, name324, comp324⟩
  · cases h; exact ⟨Try.f57, h325, Try.func57, name325, comp325⟩
  · cases h; exact ⟨Try.f74, h342, Try.func74, name342, comp342⟩
  · cases h; exact ⟨Try.f69, h351, Try.func69, name351, comp351⟩
  · cases h; exact ⟨Try.f34, h359, Try.func34, name359, comp359⟩
  · cases h; exact ⟨Try.f55, h367, Try.func55, name367, comp367⟩
  · cases h; exact ⟨Try.f73, h393, Try.func73, name393, comp393⟩
  · cases h; exact ⟨Try.f72, h409, Try.func72, name409, comp409⟩
  · cases h; exact ⟨Try.f80, h440, Try.func80, name440, comp440⟩
  · cases h; exact ⟨Try.f70, h443, Try.func70, name443, comp443⟩
  · cases h; exact ⟨Try.f65, h445, Try.func65, name445, comp445⟩
  · cases h; exact ⟨Try.f66, h446, Try.func66, name446, comp446⟩
  · cases h; exact ⟨Try.f60, h456, Try.func60, name456, comp456⟩
  · cases h; exact ⟨Try.f82, h474, Try.func82, name474, comp474⟩
  · cases h; exact ⟨Try.f78, h505, Try.func78, name505, comp505⟩
  · cases h; exact ⟨Try.f79, h506, Try.func79, name506, comp506⟩
  · cases h; exact ⟨Try.f71, h512, Try.func71, name512, comp512⟩
  · cases h; exact ⟨Try.f81, h530, Try.func81, name530, comp530⟩
  · cases h; exact ⟨Try.f76, h547, Try.func76, name547, comp547⟩
  · cases h
end Fb
