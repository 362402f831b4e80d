/- Each function of the law is compiled by the checker to its text in the small language. -/
import Derived.Test.YtjfmgpnkippbpaaRow2
import Derived.Test.YtjfmgpnkippbpaaTab
import Derived.Test.YtjfmgpnkippbpaaRows
import Derived.KernelRfl
set_option linter.unusedVariables false
set_option linter.unusedSimpArgs false
namespace Fb
open Go Go.Proofs

def inv : FuncId → Option Nat := fun f => match f with
  | 4 => some 4
  | 10 => some 62
  | 11 => some 63
  | 12 => some 64
  | 13 => some 65
  | 27 => some 291
  | 28 => some 292
  | 29 => some 293
  | 30 => some 294
  | 31 => some 295
  | 41 => some 304
  | 45 => some 487
  | _ => none
def rho : Nat → FuncId := fun n => match n with
  | 4 => 4
  | 62 => 10
  | 63 => 11
  | 64 => 12
  | 65 => 13
  | 291 => 27
  | 292 => 28
  | 293 => 29
  | 294 => 30
  | 295 => 31
  | 304 => 41
  | 487 => 45
  | _ => 0
def isPure : Nat → Bool := fun n => true
theorem inv_rho : ∀ f i, inv f = some i → rho i = f := by
  intro f i h
  unfold inv at h
  split at h <;> first | (cases h; rfl) | cases h
def h4 : Hint := ⟨.pure, [1], [0, 1, 2, 3, 4, 5, 6, 26]⟩
theorem comp4 : compFn Try.prog inv isPure h4 Try.f4 = some c4 := by kernel_rfl
theorem name4 : (Try.f4.name == "runtime.NumGoroutine") = false := by kernel_rfl
def h62 : Hint := ⟨.pure, [3, 2, 1], [0, 1, 2, 3, 4, 6]⟩
theorem comp62 : compFn Try.prog inv isPure h62 Try.f10 = some c62 := by kernel_rfl
theorem name62 : (Try.f10.name == "runtime.NumGoroutine") = false := by kernel_rfl
def h63 : Hint := ⟨.pure, [1], [0, 1, 2, 4, 5, 6, 7, 10]⟩
theorem comp63 : compFn Try.prog inv isPure h63 Try.f11 = some c63 := by kernel_rfl
theorem name63 : (Try.f11.name == "runtime.NumGoroutine") = false := by kernel_rfl
def h64 : Hint := ⟨.pure, [], [0, 1, 2, 3, 4, 5, 6, 8, 10, 14]⟩
theorem comp64 : compFn Try.prog inv isPure h64 Try.f12 = some c64 := by kernel_rfl
theorem name64 : (Try.f12.name == "runtime.NumGoroutine") = false := by kernel_rfl
def h65 : Hint := ⟨.pure, [6, 1], [0, 1, 2, 3, 4, 6, 8, 11, 12, 13, 14, 16, 17, 18]⟩
theorem comp65 : compFn Try.prog inv isPure h65 Try.f13 = some c65 := by kernel_rfl
theorem name65 : (Try.f13.name == "runtime.NumGoroutine") = false := by kernel_rfl
def h291 : Hint := ⟨.pure, [], [0, 2, 3, 4, 6, 10, 22]⟩
theorem comp291 : compFn Try.prog inv isPure h291 Try.f27 = some c291 := by kernel_rfl
theorem name291 : (Try.f27.name == "runtime.NumGoroutine") = false := by kernel_rfl
def h292 : Hint := ⟨.pure, [3, 2, 1], [0, 1, 2, 3, 4, 6]⟩
theorem comp292 : compFn Try.prog inv isPure h292 Try.f28 = some c292 := by kernel_rfl
theorem name292 : (Try.f28.name == "runtime.NumGoroutine") = false := by kernel_rfl
def h293 : Hint := ⟨.pure, [], [0, 1, 4]⟩
theorem comp293 : compFn Try.prog inv isPure h293 Try.f29 = some c293 := by kernel_rfl
theorem name293 : (Try.f29.name == "runtime.NumGoroutine") = false := by kernel_rfl
def h294 : Hint := ⟨.pure, [], [0, 2]⟩
theorem comp294 : compFn Try.prog inv isPure h294 Try.f30 = some c294 := by kernel_rfl
theorem name294 : (Try.f30.name == "runtime.NumGoroutine") = false := by kernel_rfl
def h295 : Hint := ⟨.pure, [], [0, 1, 2, 6]⟩
theorem comp295 : compFn Try.prog inv isPure h295 Try.f31 = some c295 := by kernel_rfl
theorem name295 : (Try.f31.name == "runtime.NumGoroutine") = false := by kernel_rfl
def h304 : Hint := ⟨.pure, [], [0, 1, 2, 6]⟩
theorem comp304 : compFn Try.prog inv isPure h304 Try.f41 = some c304 := by kernel_rfl
theorem name304 : (Try.f41.name == "runtime.NumGoroutine") = false := by kernel_rfl
def h487 : Hint := ⟨.pure, [], [0, 1, 4, 5, 7, 8, 9, 16]⟩
theorem comp487 : compFn Try.prog inv isPure h487 Try.f45 = some c487 := by kernel_rfl
theorem name487 : (Try.f45.name == "runtime.NumGoroutine") = false := by kernel_rfl
theorem tab_ok : ∀ f D, tab f = some D → DefOk Try.prog inv isPure rho f D := by
  intro f D h
  unfold tab at h
  split at h
  · cases h; exact ⟨Try.f4, h4, Try.func4, name4, comp4⟩
  · cases h; exact ⟨Try.f10, h62, Try.func10, name62, comp62⟩
  · cases h; exact ⟨Try.f11, h63, Try.func11, name63, comp63⟩
  · cases h; exact ⟨Try.f12, h64, Try.func12, name64, comp64⟩
  · cases h; exact ⟨Try.f13, h65, Try.func13, name65, comp65⟩
  · cases h; exact ⟨Try.f27, h291, Try.func27, name291, comp291⟩
  · cases h; exact ⟨Try.f28, h292, Try.func28, name292, comp292⟩
  · cases h; exact ⟨Try.f29, h293, Try.func29, name293, comp293⟩
  · cases h; exact ⟨Try.f30, h294, Try.func30, name294, comp294⟩
  · cases h; exact ⟨Try.f31, h295, Try.func31, name295, comp295⟩
  · cases h; exact ⟨Try.f41, h304, Try.func41, name304, comp304⟩
  · cases h; exact ⟨Try.f45, h487, Try.func45, name487, comp487⟩
  · cases h
end Fb
