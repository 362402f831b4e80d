/- Each function of the law is compiled by the checker to its text in the small language. -/
import Derived.Test.YtenmbknaocedfaaRow2
import Derived.Test.YtenmbknaocedfaaTab
import Derived.Test.YtenmbknaocedfaaRows
import Derived.KernelRfl
set_option linter.unusedVariables false
set_option linter.unusedSimpArgs false
namespace Fb
open Go Go.Proofs

def inv : FuncId → Option Nat := fun f => match f with
  | 3 => some 25
  | 36 => some 79
  | 39 => some 81
  | 44 => some 83
  | 9 => some 157
  | 10 => some 158
  | 11 => some 159
  | 12 => some 160
  | 13 => some 161
  | 19 => some 166
  | 45 => some 213
  | 38 => some 296
  | 74 => some 308
  | 75 => some 311
  | 77 => some 313
  | 37 => some 381
  | 40 => some 382
  | 41 => some 383
  | 42 => some 384
  | 43 => some 385
  | 54 => some 390
  | 97 => some 488
  | 76 => some 489
  | 86 => some 529
  | _ => none
def rho : Nat → FuncId := fun n => match n with
  | 25 => 3
  | 79 => 36
  | 81 => 39
  | 83 => 44
  | 157 => 9
  | 158 => 10
  | 159 => 11
  | 160 => 12
  | 161 => 13
  | 166 => 19
  | 213 => 45
  | 296 => 38
  | 308 => 74
  | 311 => 75
  | 313 => 77
  | 381 => 37
  | 382 => 40
  | 383 => 41
  | 384 => 42
  | 385 => 43
  | 390 => 54
  | 488 => 97
  | 489 => 76
  | 529 => 86
  | _ => 0
def isPure : Nat → Bool := fun n => true
theorem inv_rho : ∀ f i, inv f = some i → rho i = f := by
  intro f i h
  unfold inv at h
  split at h <;> first | (cases h; rfl) | cases h
def h25 : Hint := ⟨.pure, [], [0, 1, 4, 5, 6, 7, 8, 9, 10, 15, 20, 35, 40, 45, 53]⟩
theorem comp25 : compFn Try.prog inv isPure h25 Try.f3 = some c25 := by kernel_rfl
theorem name25 : (Try.f3.name == "runtime.NumGoroutine") = false := by kernel_rfl
def h79 : Hint := ⟨.pure, [2], [0, 1, 2, 4, 10]⟩
theorem comp79 : compFn Try.prog inv isPure h79 Try.f36 = some c79 := by kernel_rfl
theorem name79 : (Try.f36.name == "runtime.NumGoroutine") = false := by kernel_rfl
def h81 : Hint := ⟨.pure, [5, 4, 2], [0, 1, 2, 4, 5]⟩
theorem comp81 : compFn Try.prog inv isPure h81 Try.f39 = some c81 := by kernel_rfl
theorem name81 : (Try.f39.name == "runtime.NumGoroutine") = false := by kernel_rfl
def h83 : Hint := ⟨.pure, [3, 2], [0, 1, 2, 3, 4, 9, 14, 19, 24, 30]⟩
theorem comp83 : compFn Try.prog inv isPure h83 Try.f44 = some c83 := by kernel_rfl
theorem name83 : (Try.f44.name == "runtime.NumGoroutine") = false := by kernel_rfl
def h157 : Hint := ⟨.pure, [], [0, 1, 4, 5, 11, 15, 25]⟩
theorem comp157 : compFn Try.prog inv isPure h157 Try.f9 = some c157 := by kernel_rfl
theorem name157 : (Try.f9.name == "runtime.NumGoroutine") = false := by kernel_rfl
def h158 : Hint := ⟨.pure, [], [0, 1, 4, 5, 10, 14, 24]⟩
theorem comp158 : compFn Try.prog inv isPure h158 Try.f10 = some c158 := by kernel_rfl
theorem name158 : (Try.f10.name == "runtime.NumGoroutine") = false := by kernel_rfl
def h159 : Hint := ⟨.pure, [], [0, 1, 4, 5, 6, 7, 13, 24, 41]⟩
theorem comp159 : compFn Try.prog inv isPure h159 Try.f11 = some c159 := by kernel_rfl
theorem name159 : (Try.f11.name == "runtime.NumGoroutine") = false := by kernel_rfl
def h160 : Hint := ⟨.pure, [], [0, 1, 4]⟩
theorem comp160 : compFn Try.prog inv isPure h160 Try.f12 = some c160 := by kernel_rfl
theorem name160 : (Try.f12.name == "runtime.NumGoroutine") = false := by kernel_rfl
def h161 : Hint := ⟨.pure, [], [0, 1, 4, 5, 6, 17, 21, 33]⟩
theorem comp161 : compFn Try.prog inv isPure h161 Try.f13 = some c161 := by kernel_rfl
theorem name161 : (Try.f13.name == "runtime.NumGoroutine") = false := by kernel_rfl
def h166 : Hint := ⟨.pure, [3, 2], [0, 1, 2, 3, 4, 9, 14, 19, 24, 30]⟩
theorem comp166 : compFn Try.prog inv isPure h166 Try.f19 = some c166 := by kernel_rfl
theorem name166 : (Try.f19.name == "runtime.NumGoroutine") = false := by kernel_rfl
def h213 : Hint := ⟨.pure, [], [0, 1, 4, 5, 10, 14, 26]⟩
theorem comp213 : compFn Try.prog inv isPure h213 Try.f45 = some c213 := by kernel_rfl
theorem name213 : (Try.f45.name == "runtime.NumGoroutine") = false := by kernel_rfl
def h296 : Hint := ⟨.pure, [], [0, 2, 5, 8]⟩
theorem comp296 : compFn Try.prog inv isPure h296 Try.f38 = some c296 := by kernel_rfl
theorem name296 : (Try.f38.name == "runtime.NumGoroutine") = false := by kernel_rfl
def h308 : Hint := ⟨.pure, [], [0, 1, 4, 10]⟩
theorem comp308 : compFn Try.prog inv isPure h308 Try.f74 = some c308 := by kernel_rfl
theorem name308 : (Try.f74.name == "runtime.NumGoroutine") = false := by kernel_rfl
def h311 : Hint := ⟨.pure, [], [0, 1, 4, 5, 6, 7, 13, 24, 40]⟩
theorem comp311 : compFn Try.prog inv isPure h311 Try.f75 = some c311 := by kernel_rfl
theorem name311 : (Try.f75.name == "runtime.NumGoroutine") = false := by kernel_rfl
def h313 : Hint := ⟨.pure, [], [0, 1, 4, 5]⟩
theorem comp313 : compFn Try.prog inv isPure h313 Try.f77 = some c313 := by kernel_rfl
theorem name313 : (Try.f77.name == "runtime.NumGoroutine") = false := by kernel_rfl
def h381 : Hint := ⟨.pure, [], [0, 1, 4, 5, 60, 67, 84]⟩
theorem comp381 : compFn Try.prog inv isPure h381 Try.f37 = some c381 := by kernel_rfl
theorem name381 : (Try.f37.name == "runtime.NumGoroutine") = false := by kernel_rfl
def h382 : Hint := ⟨.pure, [0], [0]⟩
theorem comp382 : compFn Try.prog inv isPure h382 Try.f40 = some c382 := by kernel_rfl
theorem name382 : (Try.f40.name == "runtime.NumGoroutine") = false := by kernel_rfl
def h383 : Hint := ⟨.pure, [9, 8], [0, 1, 2, 6, 7, 8, 9, 14, 15, 16, 17, 18, 30]⟩
theorem comp383 : compFn Try.prog inv isPure h383 Try.f41 = some c383 := by kernel_rfl
theorem name383 : (Try.f41.name == "runtime.NumGoroutine") = false := by kernel_rfl
def h384 : Hint := ⟨.pure, [3, 2], [0, 1, 2, 3, 4]⟩
theorem comp384 : compFn Try.prog inv isPure h384 Try.f42 = some c384 := by kernel_rfl
theorem name384 : (Try.f42.name == "runtime.NumGoroutine") = false := by kernel_rfl
def h385 : Hint := ⟨.pure, [], [0, 1, 4, 5, 10, 12, 13, 14, 24]⟩
theorem comp385 : compFn Try.prog inv isPure h385 Try.f43 = some c385 := by kernel_rfl
theorem name385 : (Try.f43.name == "runtime.NumGoroutine") = false := by kernel_rfl
def h390 : Hint := ⟨.pure, [], [0, 1, 4, 5, 10, 14, 26]⟩
theorem comp390 : compFn Try.prog inv isPure h390 Try.f54 = some c390 := by kernel_rfl
theorem name390 : (Try.f54.name == "runtime.NumGoroutine") = false := by kernel_rfl
def h488 : Hint := ⟨.pure, [3, 2, 1], [0, 1, 2, 3]⟩
theorem comp488 : compFn Try.prog inv isPure h488 Try.f97 = some c488 := by kernel_rfl
theorem name488 : (Try.f97.name == "runtime.NumGoroutine") = false := by kernel_rfl
def h489 : Hint := ⟨.pure, [0], [0]⟩
theorem comp489 : compFn Try.prog inv isPure h489 Try.f76 = some c489 := by kernel_rfl
theorem name489 : (Try.f76.name == "runtime.NumGoroutine") = false := by kernel_rfl
def h529 : Hint := ⟨.pure, [3, 2], [0, 1, 2, 3, 4, 9, 14]⟩
theorem comp529 : compFn Try.prog inv isPure h529 Try.f86 = some c529 := by kernel_rfl
theorem name529 : (Try.f86.name == "runtime.NumGoroutine") = false := by kernel_rfl
theorem tab_ok : ∀ f D, tab f = some D → DefOk Try.prog inv isPure rho f D := by
  intro f D h
  unfold tab at h
  split at h
  · cases h; exact ⟨Try.f3, h25, Try.func3, name25, comp25⟩
  · cases h; exact ⟨Try.f36, h79, Try.func36, name79, comp79⟩
  · cases h; exact ⟨Try.f39, h81, Try.func39, name81, comp81⟩
  · cases h; exact ⟨Try.f44, h83, Try.func44, name83, comp83⟩
  · cases h; exact ⟨Try.f9, h157, Try.func9, name157, comp157⟩
  · cases h; exact ⟨Try.f10, h158, Try.func10, name158, comp158⟩
  · cases h; exact ⟨Try.f11, h159, Try.func11, name159, comp159⟩
  · cases h; exact ⟨Try.f12, h160, Try.func12, name160, comp160⟩
  · cases h; exact ⟨Try.f13, h161, Try.func13, name161, comp161⟩
  · cases h; exact ⟨Try.f19, h166, Try.func19, name166, comp166⟩
  · cases h; exact ⟨Try.f45, h213, Try.func45, name213, comp213⟩
  · cases h; exact ⟨Try.f38, h296, Try.func38, name296, comp296⟩
  · cases h; exact ⟨Try.f74, h308, Try.func74, name308, comp308⟩
  · cases h; exact ⟨Try.f75, h311, Try.func75, name311, comp311⟩
  · cases h; exact ⟨Try.f77, h313, Try.func77, name313, comp313⟩
  · cases h; exact ⟨Try.f37, h381, Try.func37, name381, comp381⟩
  · cases h; exact ⟨Try.f40, h382, Try.func40, name382, comp382⟩
  · cases h; exact ⟨Try.f41, h383, Try.func41, name383, comp383⟩
  · cases h; exact ⟨Try.f42, h384, Try.func42, name384, comp384⟩
  · cases h; exact ⟨Try.f43, h385, Try.func43, name385, comp385⟩
  · cases h; exact ⟨Try.f54, h390, Try.func54, name390, comp390⟩
  · cases h; exact ⟨Try.f97, h488, Try.func97, name488, comp488⟩
  · cases h; exact ⟨Try.f76, h489, Try.func76, name489, comp489⟩
  · cases h; exact ⟨Try.f86, h529, Try.func86, name529, comp529⟩
  · cases h
end Fb
