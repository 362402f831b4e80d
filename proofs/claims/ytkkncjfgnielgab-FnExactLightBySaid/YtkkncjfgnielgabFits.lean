/- Each function of the law is compiled by the checker to its text in the small language. -/
import Derived.Test.YtkkncjfgnielgabRow2
import Derived.Test.YtkkncjfgnielgabTab
import Derived.Test.YtkkncjfgnielgabRows
import Derived.KernelRfl
set_option linter.unusedVariables false
set_option linter.unusedSimpArgs false
namespace Fb
open Go Go.Proofs

def inv : FuncId → Option Nat := fun f => match f with
  | 3 => some 18
  | 10 => some 62
  | 38 => some 63
  | 13 => some 75
  | 9 => some 133
  | 11 => some 134
  | 12 => some 135
  | 39 => some 234
  | 33 => some 291
  | 37 => some 292
  | 62 => some 293
  | 63 => some 294
  | 64 => some 295
  | 35 => some 299
  | 59 => some 300
  | 40 => some 301
  | 41 => some 302
  | 43 => some 303
  | 48 => some 304
  | 74 => some 342
  | 77 => some 345
  | 34 => some 359
  | 36 => some 360
  | 42 => some 361
  | 68 => some 395
  | 65 => some 445
  | 66 => some 446
  | 67 => some 449
  | 60 => some 456
  | 75 => some 487
  | 61 => some 511
  | 76 => some 547
  | _ => none
def rho : Nat → FuncId := fun n => match n with
  | 18 => 3
  | 62 => 10
  | 63 => 38
  | 75 => 13
  | 133 => 9
  | 134 => 11
  | 135 => 12
  | 234 => 39
  | 291 => 33
  | 292 => 37
  | 293 => 62
  | 294 => 63
  | 295 => 64
  | 299 => 35
  | 300 => 59
  | 301 => 40
  | 302 => 41
  | 303 => 43
  | 304 => 48
  | 342 => 74
  | 345 => 77
  | 359 => 34
  | 360 => 36
  | 361 => 42
  | 395 => 68
  | 445 => 65
  | 446 => 66
  | 449 => 67
  | 456 => 60
  | 487 => 75
  | 511 => 61
  | 547 => 76
  | _ => 0
def isPure : Nat → Bool := fun n => true
theorem inv_rho : ∀ f i, inv f = some i → rho i = f := by
  intro f i h
  unfold inv at h
  split at h <;> first | (cases h; rfl) | cases h
def h18 : Hint := ⟨.pure, [9, 7, 4, 3], [0, 1, 2, 3, 4, 6, 7, 8, 9, 10, 37]⟩
theorem comp18 : compFn Try.prog inv isPure h18 Try.f3 = some c18 := by kernel_rfl
theorem name18 : (Try.f3.name == "runtime.NumGoroutine") = false := by kernel_rfl
def h62 : Hint := ⟨.pure, [3, 2, 1], [0, 1, 2, 3, 4, 6]⟩
theorem comp62 : compFn Try.prog inv isPure h62 Try.f10 = some c62 := by kernel_rfl
theorem name62 : (Try.f10.name == "runtime.NumGoroutine") = false := by kernel_rfl
def h63 : Hint := ⟨.pure, [1], [0, 1, 2, 4, 5, 6, 7, 10]⟩
theorem comp63 : compFn Try.prog inv isPure h63 Try.f38 = some c63 := by kernel_rfl
theorem name63 : (Try.f38.name == "runtime.NumGoroutine") = false := by kernel_rfl
def h75 : Hint := ⟨.pure, [3, 2], [0, 1, 2, 3, 4, 5, 7, 17]⟩
theorem comp75 : compFn Try.prog inv isPure h75 Try.f13 = some c75 := by kernel_rfl
theorem name75 : (Try.f13.name == "runtime.NumGoroutine") = false := by kernel_rfl
def h133 : Hint := ⟨.pure, [6], [0, 1, 2, 3, 4, 6, 7, 13, 17]⟩
theorem comp133 : compFn Try.prog inv isPure h133 Try.f9 = some c133 := by kernel_rfl
theorem name133 : (Try.f9.name == "runtime.NumGoroutine") = false := by kernel_rfl
def h134 : Hint := ⟨.pure, [3, 2, 1], [0, 1, 2, 3, 4, 6]⟩
theorem comp134 : compFn Try.prog inv isPure h134 Try.f11 = some c134 := by kernel_rfl
theorem name134 : (Try.f11.name == "runtime.NumGoroutine") = false := by kernel_rfl
def h135 : Hint := ⟨.pure, [6, 4, 3], [0, 1, 2, 3, 4, 6, 7, 8, 18]⟩
theorem comp135 : compFn Try.prog inv isPure h135 Try.f12 = some c135 := by kernel_rfl
theorem name135 : (Try.f12.name == "runtime.NumGoroutine") = false := by kernel_rfl
def h234 : Hint := ⟨.pure, [], [0, 1, 2]⟩
theorem comp234 : compFn Try.prog inv isPure h234 Try.f39 = some c234 := by kernel_rfl
theorem name234 : (Try.f39.name == "runtime.NumGoroutine") = false := by kernel_rfl
def h291 : Hint := ⟨.pure, [], [0, 2, 3, 4, 6, 10, 22]⟩
theorem comp291 : compFn Try.prog inv isPure h291 Try.f33 = some c291 := by kernel_rfl
theorem name291 : (Try.f33.name == "runtime.NumGoroutine") = false := by kernel_rfl
def h292 : Hint := ⟨.pure, [3, 2, 1], [0, 1, 2, 3, 4, 6]⟩
theorem comp292 : compFn Try.prog inv isPure h292 Try.f37 = some c292 := by kernel_rfl
theorem name292 : (Try.f37.name == "runtime.NumGoroutine") = false := by kernel_rfl
def h293 : Hint := ⟨.pure, [], [0, 1, 4]⟩
theorem comp293 : compFn Try.prog inv isPure h293 Try.f62 = some c293 := by kernel_rfl
theorem name293 : (Try.f62.name == "runtime.NumGoroutine") = false := by kernel_rfl
def h294 : Hint := ⟨.pure, [], [0, 2]⟩
theorem comp294 : compFn Try.prog inv isPure h294 Try.f63 = some c294 := by kernel_rfl
theorem name294 : (Try.f63.name == "runtime.NumGoroutine") = false := by kernel_rfl
def h295 : Hint := ⟨.pure, [], [0, 1, 2, 6]⟩
theorem comp295 : compFn Try.prog inv isPure h295 Try.f64 = some c295 := by kernel_rfl
theorem name295 : (Try.f64.name == "runtime.NumGoroutine") = false := by kernel_rfl
def h299 : Hint := ⟨.pure, [], [0, 2]⟩
theorem comp299 : compFn Try.prog inv isPure h299 Try.f35 = some c299 := by kernel_rfl
theorem name299 : (Try.f35.name == "runtime.NumGoroutine") = false := by kernel_rfl
def h300 : Hint := ⟨.pure, [4, 2], [0, 1, 2, 4, 5, 6, 8, 12]⟩
theorem comp300 : compFn Try.prog inv isPure h300 Try.f59 = some c300 := by kernel_rfl
theorem name300 : (Try.f59.name == "runtime.NumGoroutine") = false := by kernel_rfl
def h301 : Hint := ⟨.pure, [], [0, 2]⟩
theorem comp301 : compFn Try.prog inv isPure h301 Try.f40 = some c301 := by kernel_rfl
theorem name301 : (Try.f40.name == "runtime.NumGoroutine") = false := by kernel_rfl
def h302 : Hint := ⟨.pure, [4, 2], [0, 1, 2, 4, 5, 6, 7, 8, 9, 13, 14, 15]⟩
theorem comp302 : compFn Try.prog inv isPure h302 Try.f41 = some c302 := by kernel_rfl
theorem name302 : (Try.f41.name == "runtime.NumGoroutine") = false := by kernel_rfl
def h303 : Hint := ⟨.pure, [3, 2], [0, 1, 2, 3, 4, 5, 7, 16]⟩
theorem comp303 : compFn Try.prog inv isPure h303 Try.f43 = some c303 := by kernel_rfl
theorem name303 : (Try.f43.name == "runtime.NumGoroutine") = false := by kernel_rfl
def h304 : Hint := ⟨.pure, [], [0, 1, 2, 6]⟩
theorem comp304 : compFn Try.prog inv isPure h304 Try.f48 = some c304 := by kernel_rfl
theorem name304 : (Try.f48.name == "runtime.NumGoroutine") = false := by kernel_rfl
def h342 : Hint := ⟨.pure, [], [0, 1, 4]⟩
theorem comp342 : compFn Try.prog inv isPure h342 Try.f74 = some c342 := by kernel_rfl
theorem name342 : (Try.f74.name == "runtime.NumGoroutine") = false := by kernel_rfl
def h345 : Hint := ⟨.pure, [], [0, 1, 4]⟩
theorem comp345 : compFn Try.prog inv isPure h345 Try.f77 = some c345 := by kernel_rfl
theorem name345 : (Try.f77.name == "runtime.NumGoroutine") = false := by kernel_rfl
def h359 : Hint := ⟨.pure, [], [0, 2, 3, 5, 13]⟩
theorem comp359 : compFn Try.prog inv isPure h359 Try.f34 = some c359 := by kernel_rfl
theorem name359 : (Try.f34.name == "runtime.NumGoroutine") = false := by kernel_rfl
def h360 : Hint := ⟨.pure, [6, 3], [0, 1, 2, 3, 6, 7, 8, 13, 17, 23]⟩
theorem comp360 : compFn Try.prog inv isPure h360 Try.f36 = some c360 := by kernel_rfl
theorem name360 : (Try.f36.name == "runtime.NumGoroutine") = false := by kernel_rfl
def h361 : Hint := ⟨.pure, [6, 4, 3, 2], [0, 1, 2, 3, 4, 6, 8, 9, 10, 11]⟩
theorem comp361 : compFn Try.prog inv isPure h361 Try.f42 = some c361 := by kernel_rfl
theorem name361 : (Try.f42.name == "runtime.NumGoroutine") = false := by kernel_rfl
def h395 : Hint := ⟨.pure, [3], [0, 1, 2, 3, 6]⟩
theorem comp395 : compFn Try.prog inv isPure h395 Try.f68 = some c395 := by kernel_rfl
theorem name395 : (Try.f68.name == "runtime.NumGoroutine") = false := by kernel_rfl
def h445 : Hint := ⟨.pure, [], [0, 1, 4]⟩
theorem comp445 : compFn Try.prog inv isPure h445 Try.f65 = some c445 := by kernel_rfl
theorem name445 : (Try.f65.name == "runtime.NumGoroutine") = false := by kernel_rfl
def h446 : Hint := ⟨.pure, [], [0, 2]⟩
theorem comp446 : compFn Try.prog inv isPure h446 Try.f66 = some c446 := by kernel_rfl
theorem name446 : (Try.f66.name == "runtime.NumGoroutine") = false := by kernel_rfl
def h449 : Hint := ⟨.pure, [1], [0, 1, 2, 3, 4, 5, 7, 8, 10, 11, 16]⟩
theorem comp449 : compFn Try.prog inv isPure h449 Try.f67 = some c449 := by kernel_rfl
theorem name449 : (Try.f67.name == "runtime.NumGoroutine") = false := by kernel_rfl
def h456 : Hint := ⟨.pure, [], [0, 1, 2, 6]⟩
theorem comp456 : compFn Try.prog inv isPure h456 Try.f60 = some c456 := by kernel_rfl
theorem name456 : (Try.f60.name == "runtime.NumGoroutine") = false := by kernel_rfl
def h487 : Hint := ⟨.pure, [], [0, 1, 4, 5, 7, 8, 9, 16]⟩
theorem comp487 : compFn Try.prog inv isPure h487 Try.f75 = some c487 := by kernel_rfl
theorem name487 : (Try.f75.name == "runtime.NumGoroutine") = false := by kernel_rfl
def h511 : Hint := ⟨.pure, [], [0, 1, 4, 7]⟩
theorem comp511 : compFn Try.prog inv isPure h511 Try.f61 = some c511 := by kernel_rfl
theorem name511 : (Try.f61.name == "runtime.NumGoroutine") = false := by kernel_rfl
def h547 : Hint := ⟨.pure, [], [0, 1, 4, 5, 7, 8, 9, 16]⟩
theorem comp547 : compFn Try.prog inv isPure h547 Try.f76 = some c547 := by kernel_rfl
theorem name547 : (Try.f76.name == "runtime.NumGoroutine") = false := by kernel_rfl
theorem tab_ok : ∀ f D, tab f = some D → DefOk Try.prog inv isPure rho f D := by
  intro f D h
  unfold tab at h
  split at h
  · cases h; exact ⟨Try.f3, h18, Try.func3, name18, comp18⟩
  · cases h; exact ⟨Try.f10, h62, Try.func10, name62, comp62⟩
  · cases h; exact ⟨Try.f38, h63, Try.func38, name63, comp63⟩
  · cases h; exact ⟨Try.f13, h75, Try.func13, name75, comp75⟩
  · cases h; exact ⟨Try.f9, h133, Try.func9, name133, comp133⟩
  · cases h; exact ⟨Try.f11, h134, Try.func11, name134, comp134⟩
  · cases h; exact ⟨Try.f12, h135, Try.func12, name135, comp135⟩
  · cases h; exact ⟨Try.f39, h234, Try.func39, name234, comp234⟩
  · cases h; exact ⟨Try.f33, h291, Try.func33, name291, comp291⟩
  · cases h; exact ⟨Try.f37, h292, Try.func37, name292, comp292⟩
  · cases h; exact ⟨Try.f62, h293, Try.func62, name293, comp293⟩
  · cases h; exact ⟨Try.f63, h294, Try.func63, name294, comp294⟩
  · cases h; exact ⟨Try.f64, h295, Try.func64, name295, comp295⟩
  · cases h; exact ⟨Try.f35, h299, Try.func35, name299, comp299⟩
  · cases h; exact ⟨Try.f59, h300, Try.func59, name300, comp300⟩
  · cases h; exact ⟨Try.f40, h301, Try.func40, name301, comp301⟩
  · cases h; exact ⟨Try.f41, h302, Try.func41, name302, comp302⟩
  · cases h; exact ⟨Try.f43, h303, Try.func43, name303, comp303⟩
  · cases h; exact ⟨Try.f48, h304, Try.func48, name304, comp304⟩
  · cases h; exact ⟨Try.f74, h342, Try.func74, name342, comp342⟩
  · cases h; exact ⟨Try.f77, h345, Try.func77, name345, comp345⟩
  · cases h; exact ⟨Try.f34, h359, Try.func34, name359, comp359⟩
  · cases h; exact ⟨Try.f36, h360, Try.func36, name360, comp360⟩
  · cases h; exact ⟨Try.f42, h361, Try.func42, name361, comp361⟩
  · cases h; exact ⟨Try.f68, h395, Try.func68, name395, comp395⟩
  · cases h; exact ⟨Try.f65, h445, Try.func65, name445, comp445⟩
  · cases h; exact ⟨Try.f66, h446, Try.func66, name446, comp446⟩
  · cases h; exact ⟨Try.f67, h449, Try.func67, name449, comp449⟩
  · cases h; exact ⟨Try.f60, h456, Try.func60, name456, comp456⟩
  · cases h; exact ⟨Try.f75, h487, Try.func75, name487, comp487⟩
  · cases h; exact ⟨Try.f61, h511, Try.func61, name511, comp511⟩
  · cases h; exact ⟨Try.f76, h547, Try.func76, name547, comp547⟩
  · cases h
end Fb
