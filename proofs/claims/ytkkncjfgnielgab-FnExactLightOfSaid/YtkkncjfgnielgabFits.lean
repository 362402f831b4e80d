/- Each function of the law is compiled by the checker to its text in the small language. -/
import Derived.Test.YtkkncjfgnielgabRow2
import Derived.Test.YtkkncjfgnielgabTab
import Derived.Test.YtkkncjfgnielgabRows
import Derived.KernelRfl
set_option linter.unusedVariables false
set_option linter.unusedSimpArgs false
namespace Fb
open Go Go.Proofs

def inv : FuncId → Option Nat := fun f => match f with
  | 8 => some 23
  | 13 => some 75
  | 56 => some 78
  | 21 => some 103
  | 23 => some 105
  | 26 => some 107
  | 25 => some 121
  | 11 => some 134
  | 31 => some 145
  | 32 => some 146
  | 39 => some 234
  | 64 => some 295
  | 50 => some 296
  | 35 => some 299
  | 59 => some 300
  | 40 => some 301
  | 41 => some 302
  | 43 => some 303
  | 48 => some 304
  | 51 => some 316
  | 47 => some 318
  | 74 => some 342
  | 77 => some 345
  | 69 => some 351
  | 34 => some 359
  | 36 => some 360
  | 42 => some 361
  | 68 => some 395
  | 65 => some 445
  | 66 => some 446
  | 67 => some 449
  | 60 => some 456
  | 82 => some 474
  | 78 => some 505
  | 79 => some 506
  | 61 => some 511
  | 76 => some 547
  | _ => none
def rho : Nat → FuncId := fun n => match n with
  | 23 => 8
  | 75 => 13
  | 78 => 56
  | 103 => 21
  | 105 => 23
  | 107 => 26
  | 121 => 25
  | 134 => 11
  | 145 => 31
  | 146 => 32
  | 234 => 39
  | 295 => 64
  | 296 => 50
  | 299 => 35
  | 300 => 59
  | 301 => 40
  | 302 => 41
  | 303 => 43
  | 304 => 48
  | 316 => 51
  | 318 => 47
  | 342 => 74
  | 345 => 77
  | 351 => 69
  | 359 => 34
  | 360 => 36
  | 361 => 42
  | 395 => 68
  | 445 => 65
  | 446 => 66
  | 449 => 67
  | 456 => 60
  | 474 => 82
  | 505 => 78
  | 506 => 79
  | 511 => 61
  | 547 => 76
  | _ => 0
def isPure : Nat → Bool := fun n => true
theorem inv_rho : ∀ f i, inv f = some i → rho i = f := by
  intro f i h
  unfold inv at h
  split at h <;> first | (cases h; rfl) | cases h
def h23 : Hint := ⟨.pure, [11, 9, 6], [0, 1, 4, 5, 6, 7, 8, 9, 10, 11, 12, 17, 41, 46, 62]⟩
theorem comp23 : compFn Try.prog inv isPure h23 Try.f8 = some c23 := by kernel_rfl
theorem name23 : (Try.f8.name == "runtime.NumGoroutine") = false := by kernel_rfl
def h75 : Hint := ⟨.pure, [3, 2], [0, 1, 2, 3, 4, 5, 7, 17]⟩
theorem comp75 : compFn Try.prog inv isPure h75 Try.f13 = some c75 := by kernel_rfl
theorem name75 : (Try.f13.name == "runtime.NumGoroutine") = false := by kernel_rfl
def h78 : Hint := ⟨.pure, [3, 2], [0, 1, 2, 3, 4, 5, 7, 16]⟩
theorem comp78 : compFn Try.prog inv isPure h78 Try.f56 = some c78 := by kernel_rfl
theorem name78 : (Try.f56.name == "runtime.NumGoroutine") = false := by kernel_rfl
def h103 : Hint := ⟨.pure, [], [0, 1, 4, 10]⟩
theorem comp103 : compFn Try.prog inv isPure h103 Try.f21 = some c103 := by kernel_rfl
theorem name103 : (Try.f21.name == "runtime.NumGoroutine") = false := by kernel_rfl
def h105 : Hint := ⟨.pure, [], [0, 1, 4, 5, 6, 7, 13, 24, 40]⟩
theorem comp105 : compFn Try.prog inv isPure h105 Try.f23 = some c105 := by kernel_rfl
theorem name105 : (Try.f23.name == "runtime.NumGoroutine") = false := by kernel_rfl
def h107 : Hint := ⟨.pure, [], [0, 1, 4, 5]⟩
theorem comp107 : compFn Try.prog inv isPure h107 Try.f26 = some c107 := by kernel_rfl
theorem name107 : (Try.f26.name == "runtime.NumGoroutine") = false := by kernel_rfl
def h121 : Hint := ⟨.pure, [], [0, 1, 4, 5, 10, 14, 26]⟩
theorem comp121 : compFn Try.prog inv isPure h121 Try.f25 = some c121 := by kernel_rfl
theorem name121 : (Try.f25.name == "runtime.NumGoroutine") = false := by kernel_rfl
def h134 : Hint := ⟨.pure, [3, 2, 1], [0, 1, 2, 3, 4, 6]⟩
theorem comp134 : compFn Try.prog inv isPure h134 Try.f11 = some c134 := by kernel_rfl
theorem name134 : (Try.f11.name == "runtime.NumGoroutine") = false := by kernel_rfl
def h145 : Hint := ⟨.pure, [6, 4], [0, 1, 4, 5, 6, 7, 10, 14, 20]⟩
theorem comp145 : compFn Try.prog inv isPure h145 Try.f31 = some c145 := by kernel_rfl
theorem name145 : (Try.f31.name == "runtime.NumGoroutine") = false := by kernel_rfl
def h146 : Hint := ⟨.pure, [8, 6, 4], [0, 1, 4, 5, 6, 8, 9, 14, 20, 21, 22, 23]⟩
theorem comp146 : compFn Try.prog inv isPure h146 Try.f32 = some c146 := by kernel_rfl
theorem name146 : (Try.f32.name == "runtime.NumGoroutine") = false := by kernel_rfl
def h234 : Hint := ⟨.pure, [], [0, 1, 2]⟩
theorem comp234 : compFn Try.prog inv isPure h234 Try.f39 = some c234 := by kernel_rfl
theorem name234 : (Try.f39.name == "runtime.NumGoroutine") = false := by kernel_rfl
def h295 : Hint := ⟨.pure, [], [0, 1, 2, 6]⟩
theorem comp295 : compFn Try.prog inv isPure h295 Try.f64 = some c295 := by kernel_rfl
theorem name295 : (Try.f64.name == "runtime.NumGoroutine") = false := by kernel_rfl
def h296 : Hint := ⟨.pure, [], [0, 2, 5, 8]⟩
theorem comp296 : compFn Try.prog inv isPure h296 Try.f50 = some c296 := by kernel_rfl
theorem name296 : (Try.f50.name == "runtime.NumGoroutine") = false := by kernel_rfl
def h299 : Hint := ⟨.pure, [], [0, 2]⟩
theorem comp299 : compFn Try.prog inv isPure h299 Try.f35 = some c299 := by kernel_rfl
theorem name299 : (Try.f35.name == "runtime.NumGoroutine") = false := by kernel_rfl
def h300 : Hint := ⟨.pure, [4, 2], [0, 1, 2, 4, 5, 6, 8, 12]⟩
theorem comp300 : compFn Try.prog inv isPure h300 Try.f59 = some c300 := by kernel_rfl
theorem name300 : (Try.f59.name == "runtime.NumGoroutine") = false := by kernel_rfl
def h301 : Hint := ⟨.pure, [], [0, 2]⟩
theorem comp301 : compFn Try.prog inv isPure h301 Try.f40 = some c301 := by kernel_rfl
theorem name301 : (Try.f40.name == "runtime.NumGoroutine") = false := by kernel_rfl
def h302 : Hint := ⟨.pure, [4, 2], [0, 1, 2, 4, 5, 6, 7, 8, 9, 13, 14, 15]⟩
theorem comp302 : compFn Try.prog inv isPure h302 Try.f41 = some c302 := by kernel_rfl
theorem name302 : (Try.f41.name == "runtime.NumGoroutine") = false := by kernel_rfl
def h303 : Hint := ⟨.pure, [3, 2], [0, 1, 2, 3, 4, 5, 7, 16]⟩
theorem comp303 : compFn Try.prog inv isPure h303 Try.f43 = some c303 := by kernel_rfl
theorem name303 : (Try.f43.name == "runtime.NumGoroutine") = false := by kernel_rfl
def h304 : Hint := ⟨.pure, [], [0, 1, 2, 6]⟩
theorem comp304 : compFn Try.prog inv isPure h304 Try.f48 = some c304 := by kernel_rfl
theorem name304 : (Try.f48.name == "runtime.NumGoroutine") = false := by kernel_rfl
def h316 : Hint := ⟨.pure, [], [0, 2]⟩
theorem comp316 : compFn Try.prog inv isPure h316 Try.f51 = some c316 := by kernel_rfl
theorem name316 : (Try.f51.name == "runtime.NumGoroutine") = false := by kernel_rfl
def h318 : Hint := ⟨.pure, [], [0, 2, 3, 7, 14]⟩
theorem comp318 : compFn Try.prog inv isPure h318 Try.f47 = some c318 := by kernel_rfl
theorem name318 : (Try.f47.name == "runtime.NumGoroutine") = false := by kernel_rfl
def h342 : Hint := ⟨.pure, [], [0, 1, 4]⟩
theorem comp342 : compFn Try.prog inv isPure h342 Try.f74 = some c342 := by kernel_rfl
theorem name342 : (Try.f74.name == "runtime.NumGoroutine") = false := by kernel_rfl
def h345 : Hint := ⟨.pure, [], [0, 1, 4]⟩
theorem comp345 : compFn Try.prog inv isPure h345 Try.f77 = some c345 := by kernel_rfl
theorem name345 : (Try.f77.name == "runtime.NumGoroutine") = false := by kernel_rfl
def h351 : Hint := ⟨.pure, [], [0, 2]⟩
theorem comp351 : compFn Try.prog inv isPure h351 Try.f69 = some c351 := by kernel_rfl
theorem name351 : (Try.f69.name == "runtime.NumGoroutine") = false := by kernel_rfl
def h359 : Hint := ⟨.pure, [], [0, 2, 3, 5, 13]⟩
theorem comp359 : compFn Try.prog inv isPure h359 Try.f34 = some c359 := by kernel_rfl
theorem name359 : (Try.f34.name == "runtime.NumGoroutine") = false := by kernel_rfl
def h360 : Hint := ⟨.pure, [6, 3], [0, 1, 2, 3, 6, 7, 8, 13, 17, 23]⟩
theorem comp360 : compFn Try.prog inv isPure h360 Try.f36 = some c360 := by kernel_rfl
theorem name360 : (Try.f36.name == "runtime.NumGoroutine") = false := by kernel_rfl
def h361 : Hint := ⟨.pure, [6, 4, 3, 2], [0, 1, 2, 3, 4, 6, 8, 9, 10, 11]⟩
theorem comp361 : compFn Try.prog inv isPure h361 Try.f42 = some c361 := by kernel_rfl
theorem name361 : (Try.f42.name == "runtime.NumGoroutine") = false := by kernel_rfl
def h395 : Hint := ⟨.pure, [3], [0, 1, 2, 3, 6]⟩
theorem comp395 : compFn Try.prog inv isPure h395 Try.f68 = some c395 := by kernel_rfl
theorem name395 : (Try.f68.name == "runtime.NumGoroutine") = false := by kernel_rfl
def h445 : Hint := ⟨.pure, [], [0, 1, 4]⟩
theorem comp445 : compFn Try.prog inv isPure h445 Try.f65 = some c445 := by kernel_rfl
theorem name445 : (Try.f65.name == "runtime.NumGoroutine") = false := by kernel_rfl
def h446 : Hint := ⟨.pure, [], [0, 2]⟩
theorem comp446 : compFn Try.prog inv isPure h446 Try.f66 = some c446 := by kernel_rfl
theorem name446 : (Try.f66.name == "runtime.NumGoroutine") = false := by kernel_rfl
def h449 : Hint := ⟨.pure, [1], [0, 1, 2, 3, 4, 5, 7, 8, 10, 11, 16]⟩
theorem comp449 : compFn Try.prog inv isPure h449 Try.f67 = some c449 := by kernel_rfl
theorem name449 : (Try.f67.name == "runtime.NumGoroutine") = false := by kernel_rfl
def h456 : Hint := ⟨.pure, [], [0, 1, 2, 6]⟩
theorem comp456 : compFn Try.prog inv isPure h456 Try.f60 = some c456 := by kernel_rfl
theorem name456 : (Try.f60.name == "runtime.NumGoroutine") = false := by kernel_rfl
def h474 : Hint := ⟨.pure, [], [0, 1, 4, 5, 7, 8, 9, 16]⟩
theorem comp474 : compFn Try.prog inv isPure h474 Try.f82 = some c474 := by kernel_rfl
theorem name474 : (Try.f82.name == "runtime.NumGoroutine") = false := by kernel_rfl
def h505 : Hint := ⟨.pure, [], [0, 1, 4]⟩
theorem comp505 : compFn Try.prog inv isPure h505 Try.f78 = some c505 := by kernel_rfl
theorem name505 : (Try.f78.name == "runtime.NumGoroutine") = false := by kernel_rfl
def h506 : Hint := ⟨.pure, [1], [0, 1, 2]⟩
theorem comp506 : compFn Try.prog inv isPure h506 Try.f79 = some c506 := by kernel_rfl
theorem name506 : (Try.f79.name == "runtime.NumGoroutine") = false := by kernel_rfl
def h511 : Hint := ⟨.pure, [], [0, 1, 4, 7]⟩
theorem comp511 : compFn Try.prog inv isPure h511 Try.f61 = some c511 := by kernel_rfl
theorem name511 : (Try.f61.name == "runtime.NumGoroutine") = false := by kernel_rfl
def h547 : Hint := ⟨.pure, [], [0, 1, 4, 5, 7, 8, 9, 16]⟩
theorem comp547 : compFn Try.prog inv isPure h547 Try.f76 = some c547 := by kernel_rfl
theorem name547 : (Try.f76.name == "runtime.NumGoroutine") = false := by kernel_rfl
theorem tab_ok : ∀ f D, tab f = some D → DefOk Try.prog inv isPure rho f D := by
  intro f D h
  unfold tab at h
  split at h
  · cases h; exact ⟨Try.f8, h23, Try.func8, name23, comp23⟩
  · cases h; exact ⟨Try.f13, h75, Try.func13, name75, comp75⟩
  · cases h; exact ⟨Try.f56, h78, Try.func56, name78, comp78⟩
  · cases h; exact ⟨Try.f21, h103, Try.func21, name103, comp103⟩
  · cases h; exact ⟨Try.f23, h105, Try.func23, name105, comp105⟩
  · cases h; exact ⟨Try.f26, h107, Try.func26, name107, comp107⟩
  · cases h; exact ⟨Try.f25, h121, Try.func25, name121, comp121⟩
  · cases h; exact ⟨Try.f11, h134, Try.func11, name134, comp134⟩
  · cases h; exact ⟨Try.f31, h145, Try.func31, name145, comp145⟩
  · cases h; exact ⟨Try.f32, h146, Try.func32, name146, comp146⟩
  · cases h; exact ⟨Try.f39, h234, Try.func39, name234, comp234⟩
  · cases h; exact ⟨Try.f64, h295, Try.func64, name295, comp295⟩
  · cases h; exact ⟨Try.f50, h296, Try.func50, name296, comp296⟩
  · cases h; exact ⟨Try.f35, h299, Try.func35, name299, comp299⟩
  · cases h; exact ⟨Try.f59, h300, Try.func59, name300, comp300⟩
  · cases h; exact ⟨Try.f40, h301, Try.func40, name301, comp301⟩
  · cases h; exact ⟨Try.f41, h302, Try.func41, name302, comp302⟩
  · cases h; exact ⟨Try.f43, h303, Try.func43, name303, comp303⟩
  · cases h; exact ⟨Try.f48, h304, Try.func48, name304, comp304⟩
  · cases h; exact ⟨Try.f51, h316, Try.func51, name316, comp316⟩
  · cases h; exact ⟨Try.f47, h318, Try.func47, name318, comp318⟩
  · cases h; exact ⟨Try.f74, h342, Try.func74, name342, comp342⟩
  · cases h; exact ⟨Try.f77, h345, Try.func77, name345, comp345⟩
  · cases h; exact ⟨Try.f69, h351, Try.func69, name351, comp351⟩
  · cases h; exact ⟨Try.f34, h359, Try.func34, name359, comp359⟩
  · cases h; exact ⟨Try.f36, h360, Try.func36, name360, comp360⟩
  · cases h; exact ⟨Try.f42, h361, Try.func42, name361, comp361⟩
  · cases h; exact ⟨Try.f68, h395, Try.func68, name395, comp395⟩
  · cases h; exact ⟨Try.f65, h445, Try.func65, name445, comp445⟩
  · cases h; exact ⟨Try.f66, h446, Try.func66, name446, comp446⟩
  · cases h; exact ⟨Try.f67, h449, Try.func67, name449, comp449⟩
  · cases h; exact ⟨Try.f60, h456, Try.func60, name456, comp456⟩
  · cases h; exact ⟨Try.f82, h474, Try.func82, name474, comp474⟩
  · cases h; exact ⟨Try.f78, h505, Try.func78, name505, comp505⟩
  · cases h; exact ⟨Try.f79, h506, Try.func79, name506, comp506⟩
  · cases h; exact ⟨Try.f61, h511, Try.func61, name511, comp511⟩
  · cases h; exact ⟨Try.f76, h547, Try.func76, name547, comp547⟩
  · cases h
end Fb
