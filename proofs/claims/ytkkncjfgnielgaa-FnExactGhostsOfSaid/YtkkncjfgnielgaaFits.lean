/- Each function of the law is compiled by the checker to its text in the small language. -/
import Derived.Test.YtkkncjfgnielgaaRow2
import Derived.Test.YtkkncjfgnielgaaTab
import Derived.Test.YtkkncjfgnielgaaRows
import Derived.KernelRfl
set_option linter.unusedVariables false
set_option linter.unusedSimpArgs false
namespace Fb
open Go Go.Proofs

def inv : FuncId → Option Nat := fun f => match f with
  | 8 => some 16
  | 13 => some 78
  | 9 => some 103
  | 11 => some 105
  | 14 => some 107
  | 26 => some 119
  | 27 => some 120
  | 28 => some 121
  | 29 => some 122
  | 30 => some 123
  | 34 => some 134
  | 64 => some 234
  | 33 => some 296
  | 35 => some 316
  | 31 => some 318
  | 50 => some 349
  | 51 => some 350
  | 53 => some 351
  | 52 => some 359
  | 54 => some 443
  | 67 => some 445
  | 68 => some 446
  | 66 => some 474
  | 61 => some 504
  | 62 => some 505
  | 63 => some 506
  | 69 => some 547
  | _ => none
def rho : Nat → FuncId := fun n => match n with
  | 16 => 8
  | 78 => 13
  | 103 => 9
  | 105 => 11
  | 107 => 14
  | 119 => 26
  | 120 => 27
  | 121 => 28
  | 122 => 29
  | 123 => 30
  | 134 => 34
  | 234 => 64
  | 296 => 33
  | 316 => 35
  | 318 => 31
  | 349 => 50
  | 350 => 51
  | 351 => 53
  | 359 => 52
  | 443 => 54
  | 445 => 67
  | 446 => 68
  | 474 => 66
  | 504 => 61
  | 505 => 62
  | 506 => 63
  | 547 => 69
  | _ => 0
def isPure : Nat → Bool := fun n => !([122] : List Nat).contains n
theorem inv_rho : ∀ f i, inv f = some i → rho i = f := by
  intro f i h
  unfold inv at h
  split at h <;> first | (cases h; rfl) | cases h
def h16 : Hint := ⟨.pure, [], [0, 2, 3, 4, 5, 6, 7, 8, 9, 10, 11, 12, 13, 18, 40, 45, 61, 69, 72, 87, 92, 95]⟩
theorem comp16 : compFn Try.prog inv isPure h16 Try.f8 = some c16 := by kernel_rfl
theorem name16 : (Try.f8.name == "runtime.NumGoroutine") = false := by kernel_rfl
def h78 : Hint := ⟨.pure, [3, 2], [0, 1, 2, 3, 4, 5, 7, 16]⟩
theorem comp78 : compFn Try.prog inv isPure h78 Try.f13 = some c78 := by kernel_rfl
theorem name78 : (Try.f13.name == "runtime.NumGoroutine") = false := by kernel_rfl
def h103 : Hint := ⟨.pure, [], [0, 1, 4, 10]⟩
theorem comp103 : compFn Try.prog inv isPure h103 Try.f9 = some c103 := by kernel_rfl
theorem name103 : (Try.f9.name == "runtime.NumGoroutine") = false := by kernel_rfl
def h105 : Hint := ⟨.pure, [], [0, 1, 4, 5, 6, 7, 13, 24, 40]⟩
theorem comp105 : compFn Try.prog inv isPure h105 Try.f11 = some c105 := by kernel_rfl
theorem name105 : (Try.f11.name == "runtime.NumGoroutine") = false := by kernel_rfl
def h107 : Hint := ⟨.pure, [], [0, 1, 4, 5]⟩
theorem comp107 : compFn Try.prog inv isPure h107 Try.f14 = some c107 := by kernel_rfl
theorem name107 : (Try.f14.name == "runtime.NumGoroutine") = false := by kernel_rfl
def h119 : Hint := ⟨.pure, [], [0, 2, 3, 4, 5, 8, 14]⟩
theorem comp119 : compFn Try.prog inv isPure h119 Try.f26 = some c119 := by kernel_rfl
theorem name119 : (Try.f26.name == "runtime.NumGoroutine") = false := by kernel_rfl
def h120 : Hint := ⟨.pure, [], [0, 2, 3, 4, 5, 8, 13]⟩
theorem comp120 : compFn Try.prog inv isPure h120 Try.f27 = some c120 := by kernel_rfl
theorem name120 : (Try.f27.name == "runtime.NumGoroutine") = false := by kernel_rfl
def h121 : Hint := ⟨.pure, [], [0, 1, 4, 5, 10, 14, 26]⟩
theorem comp121 : compFn Try.prog inv isPure h121 Try.f28 = some c121 := by kernel_rfl
theorem name121 : (Try.f28.name == "runtime.NumGoroutine") = false := by kernel_rfl
def h122 : Hint := ⟨.args, [], [0, 1, 4, 5, 6, 10, 14]⟩
theorem comp122 : compFn Try.prog inv isPure h122 Try.f29 = some c122 := by kernel_rfl
theorem name122 : (Try.f29.name == "runtime.NumGoroutine") = false := by kernel_rfl
def h123 : Hint := ⟨.pure, [], [0, 1, 4, 5, 6, 10, 14, 25]⟩
theorem comp123 : compFn Try.prog inv isPure h123 Try.f30 = some c123 := by kernel_rfl
theorem name123 : (Try.f30.name == "runtime.NumGoroutine") = false := by kernel_rfl
def h134 : Hint := ⟨.pure, [3, 2, 1], [0, 1, 2, 3, 4, 6]⟩
theorem comp134 : compFn Try.prog inv isPure h134 Try.f34 = some c134 := by kernel_rfl
theorem name134 : (Try.f34.name == "runtime.NumGoroutine") = false := by kernel_rfl
def h234 : Hint := ⟨.pure, [], [0, 1, 2]⟩
theorem comp234 : compFn Try.prog inv isPure h234 Try.f64 = some c234 := by kernel_rfl
theorem name234 : (Try.f64.name == "runtime.NumGoroutine") = false := by kernel_rfl
def h296 : Hint := ⟨.pure, [], [0, 2, 5, 8]⟩
theorem comp296 : compFn Try.prog inv isPure h296 Try.f33 = some c296 := by kernel_rfl
theorem name296 : (Try.f33.name == "runtime.NumGoroutine") = false := by kernel_rfl
def h316 : Hint := ⟨.pure, [], [0, 2]⟩
theorem comp316 : compFn Try.prog inv isPure h316 Try.f35 = some c316 := by kernel_rfl
theorem name316 : (Try.f35.name == "runtime.NumGoroutine") = false := by kernel_rfl
def h318 : Hint := ⟨.pure, [], [0, 2, 3, 7, 14]⟩
theorem comp318 : compFn Try.prog inv isPure h318 Try.f31 = some c318 := by kernel_rfl
theorem name318 : (Try.f31.name == "runtime.NumGoroutine") = false := by kernel_rfl
def h349 : Hint := ⟨.pure, [5, 4], [0, 1, 4, 5, 6, 9]⟩
theorem comp349 : compFn Try.prog inv isPure h349 Try.f50 = some c349 := by kernel_rfl
theorem name349 : (Try.f50.name == "runtime.NumGoroutine") = false := by kernel_rfl
def h350 : Hint := ⟨.pure, [4, 3, 2], [0, 1, 2, 3, 4]⟩
theorem comp350 : compFn Try.prog inv isPure h350 Try.f51 = some c350 := by kernel_rfl
theorem name350 : (Try.f51.name == "runtime.NumGoroutine") = false := by kernel_rfl
def h351 : Hint := ⟨.pure, [], [0, 2]⟩
theorem comp351 : compFn Try.prog inv isPure h351 Try.f53 = some c351 := by kernel_rfl
theorem name351 : (Try.f53.name == "runtime.NumGoroutine") = false := by kernel_rfl
def h359 : Hint := ⟨.pure, [], [0, 2, 3, 5, 13]⟩
theorem comp359 : compFn Try.prog inv isPure h359 Try.f52 = some c359 := by kernel_rfl
theorem name359 : (Try.f52.name == "runtime.NumGoroutine") = false := by kernel_rfl
def h443 : Hint := ⟨.pure, [6, 4, 3], [0, 1, 2, 3, 4, 6, 7, 8, 9, 10, 11]⟩
theorem comp443 : compFn Try.prog inv isPure h443 Try.f54 = some c443 := by kernel_rfl
theorem name443 : (Try.f54.name == "runtime.NumGoroutine") = false := by kernel_rfl
def h445 : Hint := ⟨.pure, [], [0, 1, 4]⟩
theorem comp445 : compFn Try.prog inv isPure h445 Try.f67 = some c445 := by kernel_rfl
theorem name445 : (Try.f67.name == "runtime.NumGoroutine") = false := by kernel_rfl
def h446 : Hint := ⟨.pure, [], [0, 2]⟩
theorem comp446 : compFn Try.prog inv isPure h446 Try.f68 = some c446 := by kernel_rfl
theorem name446 : (Try.f68.name == "runtime.NumGoroutine") = false := by kernel_rfl
def h474 : Hint := ⟨.pure, [], [0, 1, 4, 5, 7, 8, 9, 16]⟩
theorem comp474 : compFn Try.prog inv isPure h474 Try.f66 = some c474 := by kernel_rfl
theorem name474 : (Try.f66.name == "runtime.NumGoroutine") = false := by kernel_rfl
def h504 : Hint := ⟨.pure, [], [0, 1, 4]⟩
theorem comp504 : compFn Try.prog inv isPure h504 Try.f61 = some c504 := by kernel_rfl
theorem name504 : (Try.f61.name == "runtime.NumGoroutine") = false := by kernel_rfl
def h505 : Hint := ⟨.pure, [], [0, 1, 4]⟩
theorem comp505 : compFn Try.prog inv isPure h505 Try.f62 = some c505 := by kernel_rfl
theorem name505 : (Try.f62.name == "runtime.NumGoroutine") = false := by kernel_rfl
def h506 : Hint := ⟨.pure, [1], [0, 1, 2]⟩
theorem comp506 : compFn Try.prog inv isPure h506 Try.f63 = some c506 := by kernel_rfl
theorem name506 : (Try.f63.name == "runtime.NumGoroutine") = false := by kernel_rfl
def h547 : Hint := ⟨.pure, [], [0, 1, 4, 5, 7, 8, 9, 16]⟩
theorem comp547 : compFn Try.prog inv isPure h547 Try.f69 = some c547 := by kernel_rfl
theorem name547 : (Try.f69.name == "runtime.NumGoroutine") = false := by kernel_rfl
theorem tab_ok : ∀ f D, tab f = some D → DefOk Try.prog inv isPure rho f D := by
  intro f D h
  unfold tab at h
  split at h
  · cases h; exact ⟨Try.f8, h16, Try.func8, name16, comp16⟩
  · cases h; exact ⟨Try.f13, h78, Try.func13, name78, comp78⟩
  · cases h; exact ⟨Try.f9, h103, Try.func9, name103, comp103⟩
  · cases h; exact ⟨Try.f11, h105, Try.func11, name105, comp105⟩
  · cases h; exact ⟨Try.f14, h107, Try.func14, name107, comp107⟩
  · cases h; exact ⟨Try.f26, h119, Try.func26, name119, comp119⟩
  · cases h; exact ⟨Try.f27, h120, Try.func27, name120, comp120⟩
  · cases h; exact ⟨Try.f28, h121, Try.func28, name121, comp121⟩
  · cases h; exact ⟨Try.f29, h122, Try.func29, name122, comp122⟩
  · cases h; exact ⟨Try.f30, h123, Try.func30, name123, comp123⟩
  · cases h; exact ⟨Try.f34, h134, Try.func34, name134, comp134⟩
  · cases h; exact ⟨Try.f64, h234, Try.func64, name234, comp234⟩
  · cases h; exact ⟨Try.f33, h296, Try.func33, name296, comp296⟩
  · cases h; exact ⟨Try.f35, h316, Try.func35, name316, comp316⟩
  · cases h; exact ⟨Try.f31, h318, Try.func31, name318, comp318⟩
  · cases h; exact ⟨Try.f50, h349, Try.func50, name349, comp349⟩
  · cases h; exact ⟨Try.f51, h350, Try.func51, name350, comp350⟩
  · cases h; exact ⟨Try.f53, h351, Try.func53, name351, comp351⟩
  · cases h; exact ⟨Try.f52, h359, Try.func52, name359, comp359⟩
  · cases h; exact ⟨Try.f54, h443, Try.func54, name443, comp443⟩
  · cases h; exact ⟨Try.f67, h445, Try.func67, name445, comp445⟩
  · cases h; exact ⟨Try.f68, h446, Try.func68, name446, comp446⟩
  · cases h; exact ⟨Try.f66, h474, Try.func66, name474, comp474⟩
  · cases h; exact ⟨Try.f61, h504, Try.func61, name504, comp504⟩
  · cases h; exact ⟨Try.f62, h505, Try.func62, name505, comp505⟩
  · cases h; exact ⟨Try.f63, h506, Try.func63, name506, comp506⟩
  · cases h; exact ⟨Try.f69, h547, Try.func69, name547, comp547⟩
  · cases h
end Fb
