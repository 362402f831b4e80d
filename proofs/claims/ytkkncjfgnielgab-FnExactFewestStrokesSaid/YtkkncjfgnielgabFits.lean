/- Each function of the law is compiled by the checker to its text in the small language. -/
import Derived.Test.YtkkncjfgnielgabRow2
import Derived.Test.YtkkncjfgnielgabTab
import Derived.Test.YtkkncjfgnielgabRows
import Derived.KernelRfl
set_option linter.unusedVariables false
set_option linter.unusedSimpArgs false
namespace Fb
open Go Go.Proofs

def inv : FuncId → Option Nat := fun f => match f with
  | 5 => some 20
  | 11 => some 134
  | 16 => some 138
  | 17 => some 139
  | 18 => some 140
  | 19 => some 141
  | 20 => some 142
  | 39 => some 234
  | 64 => some 295
  | 48 => some 304
  | 74 => some 342
  | 77 => some 345
  | 34 => some 359
  | 44 => some 362
  | 45 => some 363
  | 46 => some 364
  | 68 => some 395
  | 65 => some 445
  | 66 => some 446
  | 67 => some 449
  | 60 => some 456
  | 76 => some 547
  | _ => none
def rho : Nat → FuncId := fun n => match n with
  | 20 => 5
  | 134 => 11
  | 138 => 16
  | 139 => 17
  | 140 => 18
  | 141 => 19
  | 142 => 20
  | 234 => 39
  | 295 => 64
  | 304 => 48
  | 342 => 74
  | 345 => 77
  | 359 => 34
  | 362 => 44
  | 363 => 45
  | 364 => 46
  | 395 => 68
  | 445 => 65
  | 446 => 66
  | 449 => 67
  | 456 => 60
  | 547 => 76
  | _ => 0
def isPure : Nat → Bool := fun n => !([139] : List Nat).contains n
theorem inv_rho : ∀ f i, inv f = some i → rho i = f := by
  intro f i h
  unfold inv at h
  split at h <;> first | (cases h; rfl) | cases h
def h20 : Hint := ⟨.pure, [1], [0, 1, 2, 3, 4, 5, 6, 7, 8, 9, 10, 31, 39, 42, 57, 62, 65]⟩
theorem comp20 : compFn Try.prog inv isPure h20 Try.f5 = some c20 := by kernel_rfl
theorem name20 : (Try.f5.name == "runtime.NumGoroutine") = false := by kernel_rfl
def h134 : Hint := ⟨.pure, [3, 2, 1], [0, 1, 2, 3, 4, 6]⟩
theorem comp134 : compFn Try.prog inv isPure h134 Try.f11 = some c134 := by kernel_rfl
theorem name134 : (Try.f11.name == "runtime.NumGoroutine") = false := by kernel_rfl
def h138 : Hint := ⟨.pure, [], [0, 1, 4, 5, 10, 14, 26]⟩
theorem comp138 : compFn Try.prog inv isPure h138 Try.f16 = some c138 := by kernel_rfl
theorem name138 : (Try.f16.name == "runtime.NumGoroutine") = false := by kernel_rfl
def h139 : Hint := ⟨.args, [], [0, 1, 4, 5, 9]⟩
theorem comp139 : compFn Try.prog inv isPure h139 Try.f17 = some c139 := by kernel_rfl
theorem name139 : (Try.f17.name == "runtime.NumGoroutine") = false := by kernel_rfl
def h140 : Hint := ⟨.pure, [], [0, 1, 4, 5, 9, 19, 29, 39, 50]⟩
theorem comp140 : compFn Try.prog inv isPure h140 Try.f18 = some c140 := by kernel_rfl
theorem name140 : (Try.f18.name == "runtime.NumGoroutine") = false := by kernel_rfl
def h141 : Hint := ⟨.pure, [], [0, 1, 2, 3, 4, 5, 7, 15]⟩
theorem comp141 : compFn Try.prog inv isPure h141 Try.f19 = some c141 := by kernel_rfl
theorem name141 : (Try.f19.name == "runtime.NumGoroutine") = false := by kernel_rfl
def h142 : Hint := ⟨.pure, [1], [0, 1, 2, 3, 4, 5, 8, 17]⟩
theorem comp142 : compFn Try.prog inv isPure h142 Try.f20 = some c142 := by kernel_rfl
theorem name142 : (Try.f20.name == "runtime.NumGoroutine") = false := by kernel_rfl
def h234 : Hint := ⟨.pure, [], [0, 1, 2]⟩
theorem comp234 : compFn Try.prog inv isPure h234 Try.f39 = some c234 := by kernel_rfl
theorem name234 : (Try.f39.name == "runtime.NumGoroutine") = false := by kernel_rfl
def h295 : Hint := ⟨.pure, [], [0, 1, 2, 6]⟩
theorem comp295 : compFn Try.prog inv isPure h295 Try.f64 = some c295 := by kernel_rfl
theorem name295 : (Try.f64.name == "runtime.NumGoroutine") = false := by kernel_rfl
def h304 : Hint := ⟨.pure, [], [0, 1, 2, 6]⟩
theorem comp304 : compFn Try.prog inv isPure h304 Try.f48 = some c304 := by kernel_rfl
theorem name304 : (Try.f48.name == "runtime.NumGoroutine") = false := by kernel_rfl
def h342 : Hint := ⟨.pure, [], [0, 1, 4]⟩
theorem comp342 : compFn Try.prog inv isPure h342 Try.f74 = some c342 := by kernel_rfl
theorem name342 : (Try.f74.name == "runtime.NumGoroutine") = false := by kernel_rfl
def h345 : Hint := ⟨.pure, [], [0, 1, 4]⟩
theorem comp345 : compFn Try.prog inv isPure h345 Try.f77 = some c345 := by kernel_rfl
theorem name345 : (Try.f77.name == "runtime.NumGoroutine") = false := by kernel_rfl
def h359 : Hint := ⟨.pure, [], [0, 2, 3, 5, 13]⟩
theorem comp359 : compFn Try.prog inv isPure h359 Try.f34 = some c359 := by kernel_rfl
theorem name359 : (Try.f34.name == "runtime.NumGoroutine") = false := by kernel_rfl
def h362 : Hint := ⟨.pure, [], [0, 1, 4, 5, 6, 7, 8, 9, 10, 11, 14, 18, 35, 47]⟩
theorem comp362 : compFn Try.prog inv isPure h362 Try.f44 = some c362 := by kernel_rfl
theorem name362 : (Try.f44.name == "runtime.NumGoroutine") = false := by kernel_rfl
def h363 : Hint := ⟨.pure, [9, 2], [0, 1, 2, 4, 5, 6, 7, 9, 10, 11, 12, 13, 16, 17, 18, 19, 35, 47]⟩
theorem comp363 : compFn Try.prog inv isPure h363 Try.f45 = some c363 := by kernel_rfl
theorem name363 : (Try.f45.name == "runtime.NumGoroutine") = false := by kernel_rfl
def h364 : Hint := ⟨.pure, [3, 2], [0, 1, 2, 3, 4, 9, 14, 19, 24]⟩
theorem comp364 : compFn Try.prog inv isPure h364 Try.f46 = some c364 := by kernel_rfl
theorem name364 : (Try.f46.name == "runtime.NumGoroutine") = false := by kernel_rfl
def h395 : Hint := ⟨.pure, [3], [0, 1, 2, 3, 6]⟩
theorem comp395 : compFn Try.prog inv isPure h395 Try.f68 = some c395 := by kernel_rfl
theorem name395 : (Try.f68.name == "runtime.NumGoroutine") = false := by kernel_rfl
def h445 : Hint := ⟨.pure, [], [0, 1, 4]⟩
theorem comp445 : compFn Try.prog inv isPure h445 Try.f65 = some c445 := by kernel_rfl
theorem name445 : (Try.f65.name == "runtime.NumGoroutine") = false := by kernel_rfl
def h446 : Hint := ⟨.pure, [], [0, 2]⟩
theorem comp446 : compFn Try.prog inv isPure h446 Try.f66 = some c446 := by kernel_rfl
theorem name446 : (Try.f66.name == "runtime.NumGoroutine") = false := by kernel_rfl
def h449 : Hint := ⟨.pure, [1], [0, 1, 2, 3, 4, 5, 7, 8, 10, 11, 16]⟩
theorem comp449 : compFn Try.prog inv isPure h449 Try.f67 = some c449 := by kernel_rfl
theorem name449 : (Try.f67.name == "runtime.NumGoroutine") = false := by kernel_rfl
def h456 : Hint := ⟨.pure, [], [0, 1, 2, 6]⟩
theorem comp456 : compFn Try.prog inv isPure h456 Try.f60 = some c456 := by kernel_rfl
theorem name456 : (Try.f60.name == "runtime.NumGoroutine") = false := by kernel_rfl
def h547 : Hint := ⟨.pure, [], [0, 1, 4, 5, 7, 8, 9, 16]⟩
theorem comp547 : compFn Try.prog inv isPure h547 Try.f76 = some c547 := by kernel_rfl
theorem name547 : (Try.f76.name == "runtime.NumGoroutine") = false := by kernel_rfl
theorem tab_ok : ∀ f D, tab f = some D → DefOk Try.prog inv isPure rho f D := by
  intro f D h
  unfold tab at h
  split at h
  · cases h; exact ⟨Try.f5, h20, Try.func5, name20, comp20⟩
  · cases h; exact ⟨Try.f11, h134, Try.func11, name134, comp134⟩
  · cases h; exact ⟨Try.f16, h138, Try.func16, name138, comp138⟩
  · cases h; exact ⟨Try.f17, h139, Try.func17, name139, comp139⟩
  · cases h; exact ⟨Try.f18, h140, Try.func18, name140, comp140⟩
  · cases h; exact ⟨Try.f19, h141, Try.func19, name141, comp141⟩
  · cases h; exact ⟨Try.f20, h142, Try.func20, name142, comp142⟩
  · cases h; exact ⟨Try.f39, h234, Try.func39, name234, comp234⟩
  · cases h; exact ⟨Try.f64, h295, Try.func64, name295, comp295⟩
  · cases h; exact ⟨Try.f48, h304, Try.func48, name304, comp304⟩
  · cases h; exact ⟨Try.f74, h342, Try.func74, name342, comp342⟩
  · cases h; exact ⟨Try.f77, h345, Try.func77, name345, comp345⟩
  · cases h; exact ⟨Try.f34, h359, Try.func34, name359, comp359⟩
  · cases h; exact ⟨Try.f44, h362, Try.func44, name362, comp362⟩
  · cases h; exact ⟨Try.f45, h363, Try.func45, name363, comp363⟩
  · cases h; exact ⟨Try.f46, h364, Try.func46, name364, comp364⟩
  · cases h; exact ⟨Try.f68, h395, Try.func68, name395, comp395⟩
  · cases h; exact ⟨Try.f65, h445, Try.func65, name445, comp445⟩
  · cases h; exact ⟨Try.f66, h446, Try.func66, name446, comp446⟩
  · cases h; exact ⟨Try.f67, h449, Try.func67, name449, comp449⟩
  · cases h; exact ⟨Try.f60, h456, Try.func60, name456, comp456⟩
  · cases h; exact ⟨Try.f76, h547, Try.func76, name547, comp547⟩
  · cases h
end Fb
