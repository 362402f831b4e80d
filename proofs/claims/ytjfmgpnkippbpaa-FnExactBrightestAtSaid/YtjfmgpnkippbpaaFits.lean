/- Each function of the law is compiled by the checker to its text in the small language. -/
import Derived.Test.YtjfmgpnkippbpaaRow2
import Derived.Test.YtjfmgpnkippbpaaTab
import Derived.Test.YtjfmgpnkippbpaaRows
import Derived.KernelRfl
set_option linter.unusedVariables false
set_option linter.unusedSimpArgs false
namespace Fb
open Go Go.Proofs

def inv : FuncId → Option Nat := fun f => match f with
  | 5 => some 5
  | 10 => some 62
  | 11 => some 63
  | 14 => some 66
  | 15 => some 67
  | 27 => some 291
  | 28 => some 292
  | 29 => some 293
  | 30 => some 294
  | 31 => some 295
  | 41 => some 304
  | 45 => some 487
  | _ => none
def rho : Nat → FuncId := fun n => match n with
  | 5 => 5
  | 62 => 10
  | 63 => 11
  | 66 => 14
  | 67 => 15
  | 291 => 27
  | 292 => 28
  | 293 => 29
  | 294 => 30
  | 295 => 31
  | 304 => 41
  | 487 => 45
  | _ => 0
def isPure : Nat → Bool := fun n => true
theorem inv_rho : ∀ f i, inv f = some i → rho i = f := by
  intro f i h
  unfold inv at h
  split at h <;> first | (cases h; rfl) | cases h
def h5 : Hint := ⟨.pure, [1], [0, 1, 2, 3, 4, 5, 6, 7, 8, 9, 10, 44]⟩
theorem comp5 : compFn Try.prog inv isPure h5 Try.f5 = some c5 := by kernel_rfl
theorem name5 : (Try.f5.name == "runtime.NumGoroutine") = false := by kernel_rfl
def h62 : Hint := ⟨.pure, [3, 2, 1], [0, 1, 2, 3, 4, 6]⟩
theorem comp62 : compFn Try.prog inv isPure h62 Try.f10 = some c62 := by kernel_rfl
theorem name62 : (Try.f10.name == "runtime.NumGoroutine") = false := by kernel_rfl
def h63 : Hint := ⟨.pure, [1], [0, 1, 2, 4, 5, 6, 7, 10]⟩
theorem comp63 : compFn Try.prog inv isPure h63 Try.f11 = some c63 := by kernel_rfl
theorem name63 : (Try.f11.name == "runtime.NumGoroutine") = false := by kernel_rfl
def h66 : Hint := ⟨.pure, [], [0, 1, 2, 3, 4, 5, 6, 7, 8, 9, 11, 13, 17, 30]⟩
theorem comp66 : compFn Try.prog inv isPure h66 Try.f14 = some c66 := by kernel_rfl
theorem name66 : (Try.f14.name == "runtime.NumGoroutine") = false := by kernel_rfl
def h67 : Hint := ⟨.pure, [1], [0, 1, 2, 3, 4, 5, 6, 7, 8, 9, 10, 13, 14, 15, 19, 20, 21, 30]⟩
theorem comp67 : compFn Try.prog inv isPure h67 Try.f15 = some c67 := by kernel_rfl
theorem name67 : (Try.f15.name == "runtime.NumGoroutine") = false := by kernel_rfl
def h291 : Hint := ⟨.pure, [], [0, 2, 3, 4, 6, 10, 22]⟩
theorem comp291 : compFn Try.prog inv isPure h291 Try.f27 = some c291 := by kernel_rfl
theorem name291 : (Try.f27.name == "runtime.NumGoroutine") = false := by kernel_rfl
def h292 : Hint := ⟨.pure, [3, 2, 1], [0, 1, 2, 3, 4, 6]⟩
theorem comp292 : compFn Try.prog inv isPure h292 Try.f28 = some c292 := by kernel_rfl
theorem name292 : (Try.f28.name == "runtime.NumGoroutine") = false := by kernel_rfl
def h293 : Hint := ⟨.pure, [], [0, 1, 4]⟩
theorem comp293 : compFn Try.prog inv isPure h293 Try.f29 = some c293 := by kernel_rfl
theorem name293 : (Try.f29.name == "runtime.NumGoroutine") = false := by kernel_rfl
def h294 : Hint := ⟨.pure, [], [0, 2]⟩
theorem comp294 : compFn Try.prog inv isPure h294 Try.f30 = some c294 := by kernel_rfl
theorem name294 : (Try.f30.name == "runtime.NumGoroutine") = false := by kernel_rfl
def h295 : Hint := ⟨.pure, [], [0, 1, 2, 6]⟩
theorem comp295 : compFn Try.prog inv isPure h295 Try.f31 = some c295 := by kernel_rfl
theorem name295 : (Try.f31.name == "runtime.NumGoroutine") = false := by kernel_rfl
def h304 : Hint := ⟨.pure, [], [0, 1, 2, 6]⟩
theorem comp304 : compFn Try.prog inv isPure h304 Try.f41 = some c304 := by kernel_rfl
theorem name304 : (Try.f41.name == "runtime.NumGoroutine") = false := by kernel_rfl
def h487 : Hint := ⟨.pure, [], [0, 1, 4, 5, 7, 8, 9, 16]⟩
theorem comp487 : compFn Try.prog inv isPure h487 Try.f45 = some c487 := by kernel_rfl
theorem name487 : (Try.f45.name == "runtime.NumGoroutine") = false := by kernel_rfl
theorem tab_ok : ∀ f D, tab f = some D → DefOk Try.prog inv isPure rho f D := by
  intro f D h
  unfold tab at h
  split at h
  · cases h; exact ⟨Try.f5, h5, Try.func5, name5, comp5⟩
  · cases h; exact ⟨Try.f10, h62, Try.func10, name62, comp62⟩
  · cases h; exact ⟨Try.f11, h63, Try.func11, name63, comp63⟩
  · cases h; exact ⟨Try.f14, h66, Try.func14, name66, comp66⟩
  · cases h; exact ⟨Try.f15, h67, Try.func15, name67, comp67⟩
  · cases h; exact ⟨Try.f27, h291, Try.func27, name291, comp291⟩
  · cases h; exact ⟨Try.f28, h292, Try.func28, name292, comp292⟩
  · cases h; exact ⟨Try.f29, h293, Try.func29, name293, comp293⟩
  · cases h; exact ⟨Try.f30, h294, Try.func30, name294, comp294⟩
  · cases h; exact ⟨Try.f31, h295, Try.func31, name295, comp295⟩
  · cases h; exact ⟨Try.f41, h304, Try.func41, name304, comp304⟩
  · cases h; exact ⟨Try.f45, h487, Try.func45, name487, comp487⟩
  · cases h
end Fb
