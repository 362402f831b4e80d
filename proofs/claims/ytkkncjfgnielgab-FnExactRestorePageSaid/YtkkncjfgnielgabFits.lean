/- Each function of the law is compiled by the checker to its text in the small language. -/
import Derived.Test.YtkkncjfgnielgabRow2
import Derived.Test.YtkkncjfgnielgabTab
import Derived.Test.YtkkncjfgnielgabRows
import Derived.KernelRfl
set_option linter.unusedVariables false
set_option linter.unusedSimpArgs false
namespace Fb
open Go Go.Proofs

def inv : FuncId → Option Nat := fun f => match f with
  | 6 => some 21
  | 56 => some 78
  | 21 => some 103
  | 23 => some 105
  | 26 => some 107
  | 25 => some 121
  | 27 => some 122
  | 28 => some 123
  | 11 => some 134
  | 22 => some 143
  | 24 => some 144
  | 39 => some 234
  | 64 => some 295
  | 50 => some 296
  | 48 => some 304
  | 51 => some 316
  | 47 => some 318
  | 49 => some 339
  | 54 => some 340
  | 69 => some 351
  | 34 => some 359
  | 52 => some 365
  | 53 => some 366
  | 55 => some 367
  | 70 => some 443
  | 65 => some 445
  | 66 => some 446
  | 82 => some 474
  | 78 => some 505
  | 79 => some 506
  | 71 => some 512
  | 76 => some 547
  | _ => none
def rho : Nat → FuncId := fun n => match n with
  | 21 => 6
  | 78 => 56
  | 103 => 21
  | 105 => 23
  | 107 => 26
  | 121 => 25
  | 122 => 27
  | 123 => 28
  | 134 => 11
  | 143 => 22
  | 144 => 24
  | 234 => 39
  | 295 => 64
  | 296 => 50
  | 304 => 48
  | 316 => 51
  | 318 => 47
  | 339 => 49
  | 340 => 54
  | 351 => 69
  | 359 => 34
  | 365 => 52
  | 366 => 53
  | 367 => 55
  | 443 => 70
  | 445 => 65
  | 446 => 66
  | 474 => 82
  | 505 => 78
  | 506 => 79
  | 512 => 71
  | 547 => 76
  | _ => 0
def isPure : Nat → Bool := fun n => !([122] : List Nat).contains n
theorem inv_rho : ∀ f i, inv f = some i → rho i = f := by
  intro f i h
  unfold inv at h
  split at h <;> first | (cases h; rfl) | cases h
def h21 : Hint := ⟨.pure, [4], [0, 1, 2, 4, 6, 7, 8, 9, 10, 11, 12, 13, 14, 15, 16, 17, 22, 50, 55, 71, 79, 82, 100, 105, 108]⟩
theorem comp21 : compFn Try.prog inv isPure h21 Try.f6 = some c21 := by kernel_rfl
theorem name21 : (Try.f6.name == "runtime.NumGoroutine") = false := by kernel_rfl
def h78 : Hint := ⟨.pure, [3, 2], [0, 1, 2, 3, 4, 5, 7, 16]⟩
theorem comp78 : compFn Try.prog inv isPure h78 Try.f56 = some c78 := by kernel_rfl
theorem name78 : (Try.f56.name == "runtime.NumGoroutine") = false := by kernel_rfl
def h103 : Hint := ⟨.pure, [], [0, 1, 4, 10]⟩
theorem comp103 : compFn Try.prog inv isPure h103 Try.f21 = some c103 := by kernel_rfl
theorem name103 : (Try.f21.name == "runtime.NumGoroutine") = false := by kernel_rfl
def h105 : Hint := ⟨.pure, [], [0, 1, 4, 5, 6, 7, 13, 24, 40]⟩
theorem comp105 : compFn Try.prog inv isPure h105 Try.f23 = some c105 := by kernel_rfl
theorem name105 : (Try.f23.name == "runtime.NumGoroutine") = false := by kernel_rfl
def h107 : Hint := ⟨.pure, [], [0, 1, 4, 5]⟩
theorem comp107 : compFn Try.prog inv isPure h107 Try.f26 = some c107 := by kernel_rfl
theorem name107 : (Try.f26.name == "runtime.NumGoroutine") = false := by kernel_rfl
def h121 : Hint := ⟨.pure, [], [0, 1, 4, 5, 10, 14, 26]⟩
theorem comp121 : compFn Try.prog inv isPure h121 Try.f25 = some c121 := by kernel_rfl
theorem name121 : (Try.f25.name == "runtime.NumGoroutine") = false := by kernel_rfl
def h122 : Hint := ⟨.args, [], [0, 1, 4, 5, 6, 10, 14]⟩
theorem comp122 : compFn Try.prog inv isPure h122 Try.f27 = some c122 := by kernel_rfl
theorem name122 : (Try.f27.name == "runtime.NumGoroutine") = false := by kernel_rfl
def h123 : Hint := ⟨.pure, [], [0, 1, 4, 5, 6, 10, 14, 25]⟩
theorem comp123 : compFn Try.prog inv isPure h123 Try.f28 = some c123 := by kernel_rfl
theorem name123 : (Try.f28.name == "runtime.NumGoroutine") = false := by kernel_rfl
def h134 : Hint := ⟨.pure, [3, 2, 1], [0, 1, 2, 3, 4, 6]⟩
theorem comp134 : compFn Try.prog inv isPure h134 Try.f11 = some c134 := by kernel_rfl
theorem name134 : (Try.f11.name == "runtime.NumGoroutine") = false := by kernel_rfl
def h143 : Hint := ⟨.pure, [9], [0, 1, 2, 4, 6, 7, 8, 9, 10, 17, 24, 32]⟩
theorem comp143 : compFn Try.prog inv isPure h143 Try.f22 = some c143 := by kernel_rfl
theorem name143 : (Try.f22.name == "runtime.NumGoroutine") = false := by kernel_rfl
def h144 : Hint := ⟨.pure, [4], [0, 1, 2, 4, 6, 7, 8, 9, 18]⟩
theorem comp144 : compFn Try.prog inv isPure h144 Try.f24 = some c144 := by kernel_rfl
theorem name144 : (Try.f24.name == "runtime.NumGoroutine") = false := by kernel_rfl
def h234 : Hint := ⟨.pure, [], [0, 1, 2]⟩
theorem comp234 : compFn Try.prog inv isPure h234 Try.f39 = some c234 := by kernel_rfl
theorem name234 : (Try.f39.name == "runtime.NumGoroutine") = false := by kernel_rfl
def h295 : Hint := ⟨.pure, [], [0, 1, 2, 6]⟩
theorem comp295 : compFn Try.prog inv isPure h295 Try.f64 = some c295 := by kernel_rfl
theorem name295 : (Try.f64.name == "runtime.NumGoroutine") = false := by kernel_rfl
def h296 : Hint := ⟨.pure, [], [0, 2, 5, 8]⟩
theorem comp296 : compFn Try.prog inv isPure h296 Try.f50 = some c296 := by kernel_rfl
theorem name296 : (Try.f50.name == "runtime.NumGoroutine") = false := by kernel_rfl
def h304 : Hint := ⟨.pure, [], [0, 1, 2, 6]⟩
theorem comp304 : compFn Try.prog inv isPure h304 Try.f48 = some c304 := by kernel_rfl
theorem name304 : (Try.f48.name == "runtime.NumGoroutine") = false := by kernel_rfl
def h316 : Hint := ⟨.pure, [], [0, 2]⟩
theorem comp316 : compFn Try.prog inv isPure h316 Try.f51 = some c316 := by kernel_rfl
theorem name316 : (Try.f51.name == "runtime.NumGoroutine") = false := by kernel_rfl
def h318 : Hint := ⟨.pure, [], [0, 2, 3, 7, 14]⟩
theorem comp318 : compFn Try.prog inv isPure h318 Try.f47 = some c318 := by kernel_rfl
theorem name318 : (Try.f47.name == "runtime.NumGoroutine") = false := by kernel_rfl
def h339 : Hint := ⟨.pure, [3, 2], [0, 2, 3, 4, 5, 10, 14]⟩
theorem comp339 : compFn Try.prog inv isPure h339 Try.f49 = some c339 := by kernel_rfl
theorem name339 : (Try.f49.name == "runtime.NumGoroutine") = false := by kernel_rfl
def h340 : Hint := ⟨.pure, [5, 3, 2], [0, 2, 3, 5, 7, 8, 9, 10]⟩
theorem comp340 : compFn Try.prog inv isPure h340 Try.f54 = some c340 := by kernel_rfl
theorem name340 : (Try.f54.name == "runtime.NumGoroutine") = false := by kernel_rfl
def h351 : Hint := ⟨.pure, [], [0, 2]⟩
theorem comp351 : compFn Try.prog inv isPure h351 Try.f69 = some c351 := by kernel_rfl
theorem name351 : (Try.f69.name == "runtime.NumGoroutine") = false := by kernel_rfl
def h359 : Hint := ⟨.pure, [], [0, 2, 3, 5, 13]⟩
theorem comp359 : compFn Try.prog inv isPure h359 Try.f34 = some c359 := by kernel_rfl
theorem name359 : (Try.f34.name == "runtime.NumGoroutine") = false := by kernel_rfl
def h365 : Hint := ⟨.pure, [], [0, 1, 4]⟩
theorem comp365 : compFn Try.prog inv isPure h365 Try.f52 = some c365 := by kernel_rfl
theorem name365 : (Try.f52.name == "runtime.NumGoroutine") = false := by kernel_rfl
def h366 : Hint := ⟨.pure, [], [0, 2, 4]⟩
theorem comp366 : compFn Try.prog inv isPure h366 Try.f53 = some c366 := by kernel_rfl
theorem name366 : (Try.f53.name == "runtime.NumGoroutine") = false := by kernel_rfl
def h367 : Hint := ⟨.pure, [4, 3, 2], [0, 1, 2, 3, 4]⟩
theorem comp367 : compFn Try.prog inv isPure h367 Try.f55 = some c367 := by kernel_rfl
theorem name367 : (Try.f55.name == "runtime.NumGoroutine") = false := by kernel_rfl
def h443 : Hint := ⟨.pure, [6, 4, 3], [0, 1, 2, 3, 4, 6, 7, 8, 9, 10, 11]⟩
theorem comp443 : compFn Try.prog inv isPure h443 Try.f70 = some c443 := by kernel_rfl
theorem name443 : (Try.f70.name == "runtime.NumGoroutine") = false := by kernel_rfl
def h445 : Hint := ⟨.pure, [], [0, 1, 4]⟩
theorem comp445 : compFn Try.prog inv isPure h445 Try.f65 = some c445 := by kernel_rfl
theorem name445 : (Try.f65.name == "runtime.NumGoroutine") = false := by kernel_rfl
def h446 : Hint := ⟨.pure, [], [0, 2]⟩
theorem comp446 : compFn Try.prog inv isPure h446 Try.f66 = some c446 := by kernel_rfl
theorem name446 : (Try.f66.name == "runtime.NumGoroutine") = false := by kernel_rfl
def h474 : Hint := ⟨.pure, [], [0, 1, 4, 5, 7, 8, 9, 16]⟩
theorem comp474 : compFn Try.prog inv isPure h474 Try.f82 = some c474 := by kernel_rfl
theorem name474 : (Try.f82.name == "runtime.NumGoroutine") = false := by kernel_rfl
def h505 : Hint := ⟨.pure, [], [0, 1, 4]⟩
theorem comp505 : compFn Try.prog inv isPure h505 Try.f78 = some c505 := by kernel_rfl
theorem name505 : (Try.f78.name == "runtime.NumGoroutine") = false := by kernel_rfl
def h506 : Hint := ⟨.pure, [1], [0, 1, 2]⟩
theorem comp506 : compFn Try.prog inv isPure h506 Try.f79 = some c506 := by kernel_rfl
theorem name506 : (Try.f79.name == "runtime.NumGoroutine") = false := by kernel_rfl
def h512 : Hint := ⟨.pure, [], [0, 1, 4]⟩
theorem comp512 : compFn Try.prog inv isPure h512 Try.f71 = some c512 := by kernel_rfl
theorem name512 : (Try.f71.name == "runtime.NumGoroutine") = false := by kernel_rfl
def h547 : Hint := ⟨.pure, [], [0, 1, 4, 5, 7, 8, 9, 16]⟩
theorem comp547 : compFn Try.prog inv isPure h547 Try.f76 = some c547 := by kernel_rfl
theorem name547 : (Try.f76.name == "runtime.NumGoroutine") = false := by kernel_rfl
theorem tab_ok : ∀ f D, tab f = some D → DefOk Try.prog inv isPure rho f D := by
  intro f D h
  unfold tab at h
  split at h
  · cases h; exact ⟨Try.f6, h21, Try.func6, name21, comp21⟩
  · cases h; exact ⟨Try.f56, h78, Try.func56, name78, comp78⟩
  · cases h; exact ⟨Try.f21, h103, Try.func21, name103, comp103⟩
  · cases h; exact ⟨Try.f23, h105, Try.func23, name105, comp105⟩
  · cases h; exact ⟨Try.f26, h107, Try.func26, name107, comp107⟩
  · cases h; exact ⟨Try.f25, h121, Try.func25, name121, comp121⟩
  · cases h; exact ⟨Try.f27, h122, Try.func27, name122, comp122⟩
  · cases h; exact ⟨Try.f28, h123, Try.func28, name123, comp123⟩
  · cases h; exact ⟨Try.f11, h134, Try.func11, name134, comp134⟩
  · cases h; exact ⟨Try.f22, h143, Try.func22, name143, comp143⟩
  · cases h; exact ⟨Try.f24, h144, Try.func24, name144, comp144⟩
  · cases h; exact ⟨Try.f39, h234, Try.func39, name234, comp234⟩
  · cases h; exact ⟨Try.f64, h295, Try.func64, name295, comp295⟩
  · cases h; exact ⟨Try.f50, h296, Try.func50, name296, comp296⟩
  · cases h; exact ⟨Try.f48, h304, Try.func48, name304, comp304⟩
  · cases h; exact ⟨Try.f51, h316, Try.func51, name316, comp316⟩
  · cases h; exact ⟨Try.f47, h318, Try.func47, name318, comp318⟩
  · cases h; exact ⟨Try.f49, h339, Try.func49, name339, comp339⟩
  · cases h; exact ⟨Try.f54, h340, Try.func54, name340, comp340⟩
  · cases h; exact ⟨Try.f69, h351, Try.func69, name351, comp351⟩
  · cases h; exact ⟨Try.f34, h359, Try.func34, name359, comp359⟩
  · cases h; exact ⟨Try.f52, h365, Try.func52, name365, comp365⟩
  · cases h; exact ⟨Try.f53, h366, Try.func53, name366, comp366⟩
  · cases h; exact ⟨Try.f55, h367, Try.func55, name367, comp367⟩
  · cases h; exact ⟨Try.f70, h443, Try.func70, name443, comp443⟩
  · cases h; exact ⟨Try.f65, h445, Try.func65, name445, comp445⟩
  · cases h; exact ⟨Try.f66, h446, Try.func66, name446, comp446⟩
  · cases h; exact ⟨Try.f82, h474, Try.func82, name474, comp474⟩
  · cases h; exact ⟨Try.f78, h505, Try.func78, name505, comp505⟩
  · cases h; exact ⟨Try.f79, h506, Try.func79, name506, comp506⟩
  · cases h; exact ⟨Try.f71, h512, Try.func71, name512, comp512⟩
  · cases h; exact ⟨Try.f76, h547, Try.func76, name547, comp547⟩
  · cases h
end Fb
