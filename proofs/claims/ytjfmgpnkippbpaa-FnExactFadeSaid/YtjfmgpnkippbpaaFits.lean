/- Each function of the law is compiled by the checker to its text in the small language. -/
import Derived.Test.YtjfmgpnkippbpaaRow2
import Derived.Test.YtjfmgpnkippbpaaTab
import Derived.Test.YtjfmgpnkippbpaaRows
import Derived.KernelRfl
set_option linter.unusedVariables false
set_option linter.unusedSimpArgs false
namespace Fb
open Go Go.Proofs

def inv : FuncId → Option Nat := fun f => match f with
  | 7 => some 7
  | 10 => some 62
  | 11 => some 63
  | 21 => some 73
  | 22 => some 74
  | 23 => some 75
  | 27 => some 291
  | 28 => some 292
  | 29 => some 293
  | 30 => some 294
  | 31 => some 295
  | 36 => some 299
  | 37 => some 300
  | 38 => some 301
  | 39 => some 302
  | 40 => some 303
  | 41 => some 304
  | 45 => some 487
  | _ => none
def rho : Nat → FuncId := fun n => match n with
  | 7 => 7
  | 62 => 10
  | 63 => 11
  | 73 => 21
  | 74 => 22
  | 75 => 23
  | 291 => 27
  | 292 => 28
  | 293 => 29
  | 294 => 30
  | 295 => 31
  | 299 => 36
  | 300 => 37
  | 301 => 38
  | 302 => 39
  | 303 => 40
  | 304 => 41
  | 487 => 45
  | _ => 0
def isPure : Nat → Bool := fun n => true
theorem inv_rho : ∀ f i, inv f = some i → rho i = f := by
  intro f i h
  unfold inv at h
  split at h <;> first | (cases h; rfl) | cases h
def h7 : Hint := ⟨.pure, [7, 5, 2], [0, 1, 2, 4, 5, 6, 7, 8, 31]⟩
theorem comp7 : compFn Try.prog inv isPure h7 Try.f7 = some c7 := by kernel_rfl
theorem name7 : (Try.f7.name == "runtime.NumGoroutine") = false := by kernel_rfl
def h62 : Hint := ⟨.pure, [3, 2, 1], [0, 1, 2, 3, 4, 6]⟩
theorem comp62 : compFn Try.prog inv isPure h62 Try.f10 = some c62 := by kernel_rfl
theorem name62 : (Try.f10.name == "runtime.NumGoroutine") = false := by kernel_rfl
def h63 : Hint := ⟨.pure, [1], [0, 1, 2, 4, 5, 6, 7, 10]⟩
theorem comp63 : compFn Try.prog inv isPure h63 Try.f11 = some c63 := by kernel_rfl
theorem name63 : (Try.f11.name == "runtime.NumGoroutine") = false := by kernel_rfl
def h73 : Hint := ⟨.pure, [4], [0, 1, 2, 4, 5, 7, 11]⟩
theorem comp73 : compFn Try.prog inv isPure h73 Try.f21 = some c73 := by kernel_rfl
theorem name73 : (Try.f21.name == "runtime.NumGoroutine") = false := by kernel_rfl
def h74 : Hint := ⟨.pure, [4, 2], [0, 1, 2, 4, 5, 6, 11]⟩
theorem comp74 : compFn Try.prog inv isPure h74 Try.f22 = some c74 := by kernel_rfl
theorem name74 : (Try.f22.name == "runtime.NumGoroutine") = false := by kernel_rfl
def h75 : Hint := ⟨.pure, [3, 2], [0, 1, 2, 3, 4, 5, 7, 17]⟩
theorem comp75 : compFn Try.prog inv isPure h75 Try.f23 = some c75 := by kernel_rfl
theorem name75 : (Try.f23.name == "runtime.NumGoroutine") = false := by kernel_rfl
def h291 : Hint := ⟨.pure, [], [0, 2, 3, 4, 6, 10, 22]⟩
theorem comp291 : compFn Try.prog inv isPure h291 Try.f27 = some c291 := by kernel_rfl
theorem name291 : (Try.f27.name == "runtime.NumGoroutine") = false := by kernel_rfl
def h292 : Hint := ⟨.pure, [3, 2, 1], [0, 1, 2, 3, 4, 6]⟩
theorem comp292 : compFn Try.prog inv isPure h292 Try.f28 = some c292 := by kernel_rfl
theorem name292 : (Try.f28.name == "runtime.NumGoroutine") = false := by kernel_rfl
def h293 : Hint := ⟨.pure, [], [0, 1, 4]⟩
theorem comp293 : compFn Try.prog inv isPure h293 Try.f29 = some c293 := by kernel_rfl
theorem name293 : (Try.f29.name == "runtime.NumGoroutine") = false := by kernel_rfl
def h294 : Hint := ⟨.pure, [], [0, 2]⟩
theorem comp294 : compFn Try.prog inv isPure h294 Try.f30 = some c294 := by kernel_rfl
theorem name294 : (Try.f30.name == "runtime.NumGoroutine") = false := by kernel_rfl
def h295 : Hint := ⟨.pure, [], [0, 1, 2, 6]⟩
theorem comp295 : compFn Try.prog inv isPure h295 Try.f31 = some c295 := by kernel_rfl
theorem name295 : (Try.f31.name == "runtime.NumGoroutine") = false := by kernel_rfl
def h299 : Hint := ⟨.pure, [], [0, 2]⟩
theorem comp299 : compFn Try.prog inv isPure h299 Try.f36 = some c299 := by kernel_rfl
theorem name299 : (Try.f36.name == "runtime.NumGoroutine") = false := by kernel_rfl
def h300 : Hint := ⟨.pure, [4, 2], [0, 1, 2, 4, 5, 6, 8, 12]⟩
theorem comp300 : compFn Try.prog inv isPure h300 Try.f37 = some c300 := by kernel_rfl
theorem name300 : (Try.f37.name == "runtime.NumGoroutine") = false := by kernel_rfl
def h301 : Hint := ⟨.pure, [], [0, 2]⟩
theorem comp301 : compFn Try.prog inv isPure h301 Try.f38 = some c301 := by kernel_rfl
theorem name301 : (Try.f38.name == "runtime.NumGoroutine") = false := by kernel_rfl
def h302 : Hint := ⟨.pure, [4, 2], [0, 1, 2, 4, 5, 6, 7, 8, 9, 13, 14, 15]⟩
theorem comp302 : compFn Try.prog inv isPure h302 Try.f39 = some c302 := by kernel_rfl
theorem name302 : (Try.f39.name == "runtime.NumGoroutine") = false := by kernel_rfl
def h303 : Hint := ⟨.pure, [3, 2], [0, 1, 2, 3, 4, 5, 7, 16]⟩
theorem comp303 : compFn Try.prog inv isPure h303 Try.f40 = some c303 := by kernel_rfl
theorem name303 : (Try.f40.name == "runtime.NumGoroutine") = false := by kernel_rfl
def h304 : Hint := ⟨.pure, [], [0, 1, 2, 6]⟩
theorem comp304 : compFn Try.prog inv isPure h304 Try.f41 = some c304 := by kernel_rfl
theorem name304 : (Try.f41.name == "runtime.NumGoroutine") = false := by kernel_rfl
def h487 : Hint := ⟨.pure, [], [0, 1, 4, 5, 7, 8, 9, 16]⟩
theorem comp487 : compFn Try.prog inv isPure h487 Try.f45 = some c487 := by kernel_rfl
theorem name487 : (Try.f45.name == "runtime.NumGoroutine") = false := by kernel_rfl
theorem tab_ok : ∀ f D, tab f = some D → DefOk Try.prog inv isPure rho f D := by
  intro f D h
  unfold tab at h
  split at h
  · cases h; exact ⟨Try.f7, h7, Try.func7, name7, comp7⟩
  · cases h; exact ⟨Try.f10, h62, Try.func10, name62, comp62⟩
  · cases h; exact ⟨Try.f11, h63, Try.func11, name63, comp63⟩
  · cases h; exact ⟨Try.f21, h73, Try.func21, name73, comp73⟩
  · cases h; exact ⟨Try.f22, h74, Try.func22, name74, comp74⟩
  · cases h; exact ⟨Try.f23, h75, Try.func23, name75, comp75⟩
  · cases h; exact ⟨Try.f27, h291, Try.func27, name291, comp291⟩
  · cases h; exact ⟨Try.f28, h292, Try.func28, name292, comp292⟩
  · cases h; exact ⟨Try.f29, h293, Try.func29, name293, comp293⟩
  · cases h; exact ⟨Try.f30, h294, Try.func30, name294, comp294⟩
  · cases h; exact ⟨Try.f31, h295, Try.func31, name295, comp295⟩
  · cases h; exact ⟨Try.f36, h299, Try.func36, name299, comp299⟩
  · cases h; exact ⟨Try.f37, h300, Try.func37, name300, comp300⟩
  · cases h; exact ⟨Try.f38, h301, Try.func38, name301, comp301⟩
  · cases h; exact ⟨Try.f39, h302, Try.func39, name302, comp302⟩
  · cases h; exact ⟨Try.f40, h303, Try.func40, name303, comp303⟩
  · cases h; exact ⟨Try.f41, h304, Try.func41, name304, comp304⟩
  · cases h; exact ⟨Try.f45, h487, Try.func45, name487, comp487⟩
  · cases h
end Fb
