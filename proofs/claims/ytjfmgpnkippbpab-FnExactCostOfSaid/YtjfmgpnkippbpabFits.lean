/- Each function of the law is compiled by the checker to its text in the small language. -/
import Derived.Test.YtjfmgpnkippbpabRow2
import Derived.Test.YtjfmgpnkippbpabTab
import Derived.Test.YtjfmgpnkippbpabRows
import Derived.KernelRfl
set_option linter.unusedVariables false
set_option linter.unusedSimpArgs false
namespace Fb
open Go Go.Proofs

def inv : FuncId → Option Nat := fun f => match f with
  | 3 => some 9
  | 4 => some 79
  | 5 => some 80
  | 6 => some 81
  | 7 => some 82
  | 8 => some 83
  | 13 => some 295
  | 17 => some 296
  | 16 => some 304
  | 9 => some 308
  | 10 => some 309
  | 11 => some 310
  | 12 => some 311
  | 14 => some 312
  | 15 => some 313
  | 21 => some 390
  | 18 => some 488
  | 19 => some 489
  | 20 => some 490
  | 22 => some 529
  | _ => none
def rho : Nat → FuncId := fun n => match n with
  | 9 => 3
  | 79 => 4
  | 80 => 5
  | 81 => 6
  | 82 => 7
  | 83 => 8
  | 295 => 13
  | 296 => 17
  | 304 => 16
  | 308 => 9
  | 309 => 10
  | 310 => 11
  | 311 => 12
  | 312 => 14
  | 313 => 15
  | 390 => 21
  | 488 => 18
  | 489 => 19
  | 490 => 20
  | 529 => 22
  | _ => 0
def isPure : Nat → Bool := fun n => true
theorem inv_rho : ∀ f i, inv f = some i → rho i = f := by
  intro f i h
  unfold inv at h
  split at h <;> first | (cases h; rfl) | cases h
def h9 : Hint := ⟨.pure, [6, 1], [0, 1, 2, 3, 4, 5, 6, 7, 8, 9, 10, 15, 36, 41, 55]⟩
theorem comp9 : compFn Try.prog inv isPure h9 Try.f3 = some c9 := by kernel_rfl
theorem name9 : (Try.f3.name == "runtime.NumGoroutine") = false := by kernel_rfl
def h79 : Hint := ⟨.pure, [2], [0, 1, 2, 4, 10]⟩
theorem comp79 : compFn Try.prog inv isPure h79 Try.f4 = some c79 := by kernel_rfl
theorem name79 : (Try.f4.name == "runtime.NumGoroutine") = false := by kernel_rfl
def h80 : Hint := ⟨.pure, [], [0, 1, 2, 3, 14]⟩
theorem comp80 : compFn Try.prog inv isPure h80 Try.f5 = some c80 := by kernel_rfl
theorem name80 : (Try.f5.name == "runtime.NumGoroutine") = false := by kernel_rfl
def h81 : Hint := ⟨.pure, [5, 4, 2], [0, 1, 2, 4, 5]⟩
theorem comp81 : compFn Try.prog inv isPure h81 Try.f6 = some c81 := by kernel_rfl
theorem name81 : (Try.f6.name == "runtime.NumGoroutine") = false := by kernel_rfl
def h82 : Hint := ⟨.pure, [1], [0, 1, 2, 3, 14]⟩
theorem comp82 : compFn Try.prog inv isPure h82 Try.f7 = some c82 := by kernel_rfl
theorem name82 : (Try.f7.name == "runtime.NumGoroutine") = false := by kernel_rfl
def h83 : Hint := ⟨.pure, [3, 2], [0, 1, 2, 3, 4, 9, 14, 19, 24, 30]⟩
theorem comp83 : compFn Try.prog inv isPure h83 Try.f8 = some c83 := by kernel_rfl
theorem name83 : (Try.f8.name == "runtime.NumGoroutine") = false := by kernel_rfl
def h295 : Hint := ⟨.pure, [], [0, 1, 2, 6]⟩
theorem comp295 : compFn Try.prog inv isPure h295 Try.f13 = some c295 := by kernel_rfl
theorem name295 : (Try.f13.name == "runtime.NumGoroutine") = false := by kernel_rfl
def h296 : Hint := ⟨.pure, [], [0, 2, 5, 8]⟩
theorem comp296 : compFn Try.prog inv isPure h296 Try.f17 = some c296 := by kernel_rfl
theorem name296 : (Try.f17.name == "runtime.NumGoroutine") = false := by kernel_rfl
def h304 : Hint := ⟨.pure, [], [0, 1, 2, 6]⟩
theorem comp304 : compFn Try.prog inv isPure h304 Try.f16 = some c304 := by kernel_rfl
theorem name304 : (Try.f16.name == "runtime.NumGoroutine") = false := by kernel_rfl
def h308 : Hint := ⟨.pure, [], [0, 1, 4, 10]⟩
theorem comp308 : compFn Try.prog inv isPure h308 Try.f9 = some c308 := by kernel_rfl
theorem name308 : (Try.f9.name == "runtime.NumGoroutine") = false := by kernel_rfl
def h309 : Hint := ⟨.pure, [], [0, 2]⟩
theorem comp309 : compFn Try.prog inv isPure h309 Try.f10 = some c309 := by kernel_rfl
theorem name309 : (Try.f10.name == "runtime.NumGoroutine") = false := by kernel_rfl
def h310 : Hint := ⟨.pure, [3], [0, 2, 3]⟩
theorem comp310 : compFn Try.prog inv isPure h310 Try.f11 = some c310 := by kernel_rfl
theorem name310 : (Try.f11.name == "runtime.NumGoroutine") = false := by kernel_rfl
def h311 : Hint := ⟨.pure, [], [0, 1, 4, 5, 6, 7, 13, 24, 40]⟩
theorem comp311 : compFn Try.prog inv isPure h311 Try.f12 = some c311 := by kernel_rfl
theorem name311 : (Try.f12.name == "runtime.NumGoroutine") = false := by kernel_rfl
def h312 : Hint := ⟨.pure, [3, 1], [0, 1, 2, 3]⟩
theorem comp312 : compFn Try.prog inv isPure h312 Try.f14 = some c312 := by kernel_rfl
theorem name312 : (Try.f14.name == "runtime.NumGoroutine") = false := by kernel_rfl
def h313 : Hint := ⟨.pure, [], [0, 1, 4, 5]⟩
theorem comp313 : compFn Try.prog inv isPure h313 Try.f15 = some c313 := by kernel_rfl
theorem name313 : (Try.f15.name == "runtime.NumGoroutine") = false := by kernel_rfl
def h390 : Hint := ⟨.pure, [], [0, 1, 4, 5, 10, 14, 26]⟩
theorem comp390 : compFn Try.prog inv isPure h390 Try.f21 = some c390 := by kernel_rfl
theorem name390 : (Try.f21.name == "runtime.NumGoroutine") = false := by kernel_rfl
def h488 : Hint := ⟨.pure, [3, 2, 1], [0, 1, 2, 3]⟩
theorem comp488 : compFn Try.prog inv isPure h488 Try.f18 = some c488 := by kernel_rfl
theorem name488 : (Try.f18.name == "runtime.NumGoroutine") = false := by kernel_rfl
def h489 : Hint := ⟨.pure, [0], [0]⟩
theorem comp489 : compFn Try.prog inv isPure h489 Try.f19 = some c489 := by kernel_rfl
theorem name489 : (Try.f19.name == "runtime.NumGoroutine") = false := by kernel_rfl
def h490 : Hint := ⟨.pure, [], [0, 2]⟩
theorem comp490 : compFn Try.prog inv isPure h490 Try.f20 = some c490 := by kernel_rfl
theorem name490 : (Try.f20.name == "runtime.NumGoroutine") = false := by kernel_rfl
def h529 : Hint := ⟨.pure, [3, 2], [0, 1, 2, 3, 4, 9, 14]⟩
theorem comp529 : compFn Try.prog inv isPure h529 Try.f22 = some c529 := by kernel_rfl
theorem name529 : (Try.f22.name == "runtime.NumGoroutine") = false := by kernel_rfl
theorem tab_ok : ∀ f D, tab f = some D → DefOk Try.prog inv isPure rho f D := by
  intro f D h
  unfold tab at h
  split at h
  · cases h; exact ⟨Try.f3, h9, Try.func3, name9, comp9⟩
  · cases h; exact ⟨Try.f4, h79, Try.func4, name79, comp79⟩
  · cases h; exact ⟨Try.f5, h80, Try.func5, name80, comp80⟩
  · cases h; exact ⟨Try.f6, h81, Try.func6, name81, comp81⟩
  · cases h; exact ⟨Try.f7, h82, Try.func7, name82, comp82⟩
  · cases h; exact ⟨Try.f8, h83, Try.func8, name83, comp83⟩
  · cases h; exact ⟨Try.f13, h295, Try.func13, name295, comp295⟩
  · cases h; exact ⟨Try.f17, h296, Try.func17, name296, comp296⟩
  · cases h; exact ⟨Try.f16, h304, Try.func16, name304, comp304⟩
  · cases h; exact ⟨Try.f9, h308, Try.func9, name308, comp308⟩
  · cases h; exact ⟨Try.f10, h309, Try.func10, name309, comp309⟩
  · cases h; exact ⟨Try.f11, h310, Try.func11, name310, comp310⟩
  · cases h; exact ⟨Try.f12, h311, Try.func12, name311, comp311⟩
  · cases h; exact ⟨Try.f14, h312, Try.func14, name312, comp312⟩
  · cases h; exact ⟨Try.f15, h313, Try.func15, name313, comp313⟩
  · cases h; exact ⟨Try.f21, h390, Try.func21, name390, comp390⟩
  · cases h; exact ⟨Try.f18, h488, Try.func18, name488, comp488⟩
  · cases h; exact ⟨Try.f19, h489, Try.func19, name489, comp489⟩
  · cases h; exact ⟨Try.f20, h490, Try.func20, name490, comp490⟩
  · cases h; exact ⟨Try.f22, h529, Try.func22, name529, comp529⟩
  · cases h
end Fb
