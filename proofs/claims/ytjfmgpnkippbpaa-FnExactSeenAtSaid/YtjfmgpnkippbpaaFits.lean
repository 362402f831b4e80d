/- Each function of the law is compiled by the checker to its text in the small language. -/
import Derived.Test.YtjfmgpnkippbpaaRow2
import Derived.Test.YtjfmgpnkippbpaaTab
import Derived.Test.YtjfmgpnkippbpaaRows
import Derived.KernelRfl
set_option linter.unusedVariables false
set_option linter.unusedSimpArgs false
namespace Fb
open Go Go.Proofs

def inv : FuncId → Option Nat := fun f => match f with
  | 8 => some 8
  | 10 => some 62
  | 11 => some 63
  | 24 => some 76
  | 25 => some 77
  | 26 => some 78
  | 27 => some 291
  | 28 => some 292
  | 29 => some 293
  | 30 => some 294
  | 31 => some 295
  | 41 => some 304
  | 42 => some 305
  | 43 => some 306
  | 44 => some 307
  | 47 => some 342
  | 48 => some 346
  | 45 => some 487
  | _ => none
def rho : Nat → FuncId := fun n => match n with
  | 8 => 8
  | 62 => 10
  | 63 => 11
  | 76 => 24
  | 77 => 25
  | 78 => 26
  | 291 => 27
  | 292 => 28
  | 293 => 29
  | 294 => 30
  | 295 => 31
  | 304 => 41
  | 305 => 42
  | 306 => 43
  | 307 => 44
  | 342 => 47
  | 346 => 48
  | 487 => 45
  | _ => 0
def isPure : Nat → Bool := fun n => !([305] : List Nat).contains n
theorem inv_rho : ∀ f i, inv f = some i → rho i = f := by
  intro f i h
  unfold inv at h
  split at h <;> first | (cases h; rfl) | cases h
def h8 : Hint := ⟨.pure, [7, 5, 2], [0, 1, 2, 4, 5, 6, 7, 8, 31]⟩
theorem comp8 : compFn Try.prog inv isPure h8 Try.f8 = some c8 := by kernel_rfl
theorem name8 : (Try.f8.name == "runtime.NumGoroutine") = false := by kernel_rfl
def h62 : Hint := ⟨.pure, [3, 2, 1], [0, 1, 2, 3, 4, 6]⟩
theorem comp62 : compFn Try.prog inv isPure h62 Try.f10 = some c62 := by kernel_rfl
theorem name62 : (Try.f10.name == "runtime.NumGoroutine") = false := by kernel_rfl
def h63 : Hint := ⟨.pure, [1], [0, 1, 2, 4, 5, 6, 7, 10]⟩
theorem comp63 : compFn Try.prog inv isPure h63 Try.f11 = some c63 := by kernel_rfl
theorem name63 : (Try.f11.name == "runtime.NumGoroutine") = false := by kernel_rfl
def h76 : Hint := ⟨.pure, [4], [0, 1, 2, 4, 5, 6, 7, 8, 10, 14, 18, 22, 32]⟩
theorem comp76 : compFn Try.prog inv isPure h76 Try.f24 = some c76 := by kernel_rfl
theorem name76 : (Try.f24.name == "runtime.NumGoroutine") = false := by kernel_rfl
def h77 : Hint := ⟨.pure, [4], [0, 1, 2, 3, 4, 5, 6, 11]⟩
theorem comp77 : compFn Try.prog inv isPure h77 Try.f25 = some c77 := by kernel_rfl
theorem name77 : (Try.f25.name == "runtime.NumGoroutine") = false := by kernel_rfl
def h78 : Hint := ⟨.pure, [3, 2], [0, 1, 2, 3, 4, 5, 7, 16]⟩
theorem comp78 : compFn Try.prog inv isPure h78 Try.f26 = some c78 := by kernel_rfl
theorem name78 : (Try.f26.name == "runtime.NumGoroutine") = false := by kernel_rfl
def h291 : Hint := ⟨.pure, [], [0, 2, 3, 4, 6, 10, 22]⟩
theorem comp291 : compFn Try.prog inv isPure h291 Try.f27 = some c291 := by kernel_rfl
theorem name291 : (Try.f27.name == "runtime.NumGoroutine") = false := by kernel_rfl
def h292 : Hint := ⟨.pure, [3, 2, 1], [0, 1, 2, 3, 4, 6]⟩
theorem comp292 : compFn Try.prog inv isPure h292 Try.f28 = some c292 := by kernel_rfl
theorem name292 : (Try.f28.name == "runtime.NumGoroutine") = false := by kernel_rfl
def h293 : Hint := ⟨.pure, [], [0, 1, 4]⟩
theorem comp293 : compFn Try.prog inv isPure h293 Try.f29 = some c293 := by kernel_rfl
theorem name293 : (Try.f29.name == "runtime.NumGoroutine") = false := by kernel_rfl
def h294 : Hint := ⟨.pure, [], [0, 2]⟩
theorem comp294 : compFn Try.prog inv isPure h294 Try.f30 = some c294 := by kernel_rfl
theorem name294 : (Try.f30.name == "runtime.NumGoroutine") = false := by kernel_rfl
def h295 : Hint := ⟨.pure, [], [0, 1, 2, 6]⟩
theorem comp295 : compFn Try.prog inv isPure h295 Try.f31 = some c295 := by kernel_rfl
theorem name295 : (Try.f31.name == "runtime.NumGoroutine") = false := by kernel_rfl
def h304 : Hint := ⟨.pure, [], [0, 1, 2, 6]⟩
theorem comp304 : compFn Try.prog inv isPure h304 Try.f41 = some c304 := by kernel_rfl
theorem name304 : (Try.f41.name == "runtime.NumGoroutine") = false := by kernel_rfl
def h305 : Hint := ⟨.args, [], [0, 1, 2, 8]⟩
theorem comp305 : compFn Try.prog inv isPure h305 Try.f42 = some c305 := by kernel_rfl
theorem name305 : (Try.f42.name == "runtime.NumGoroutine") = false := by kernel_rfl
def h306 : Hint := ⟨.pure, [3, 2], [0, 2, 3, 4, 5, 7, 8, 10, 11, 16]⟩
theorem comp306 : compFn Try.prog inv isPure h306 Try.f43 = some c306 := by kernel_rfl
theorem name306 : (Try.f43.name == "runtime.NumGoroutine") = false := by kernel_rfl
def h307 : Hint := ⟨.pure, [], [0, 1, 2, 3, 6]⟩
theorem comp307 : compFn Try.prog inv isPure h307 Try.f44 = some c307 := by kernel_rfl
theorem name307 : (Try.f44.name == "runtime.NumGoroutine") = false := by kernel_rfl
def h342 : Hint := ⟨.pure, [], [0, 1, 4]⟩
theorem comp342 : compFn Try.prog inv isPure h342 Try.f47 = some c342 := by kernel_rfl
theorem name342 : (Try.f47.name == "runtime.NumGoroutine") = false := by kernel_rfl
def h346 : Hint := ⟨.pure, [6, 3], [0, 1, 2, 3, 6]⟩
theorem comp346 : compFn Try.prog inv isPure h346 Try.f48 = some c346 := by kernel_rfl
theorem name346 : (Try.f48.name == "runtime.NumGoroutine") = false := by kernel_rfl
def h487 : Hint := ⟨.pure, [], [0, 1, 4, 5, 7, 8, 9, 16]⟩
theorem comp487 : compFn Try.prog inv isPure h487 Try.f45 = some c487 := by kernel_rfl
theorem name487 : (Try.f45.name == "runtime.NumGoroutine") = false := by kernel_rfl
theorem tab_ok : ∀ f D, tab f = some D → DefOk Try.prog inv isPure rho f D := by
  intro f D h
  unfold tab at h
  split at h
  · cases h; exact ⟨Try.f8, h8, Try.func8, name8, comp8⟩
  · cases h; exact ⟨Try.f10, h62, Try.func10, name62, comp62⟩
  · cases h; exact ⟨Try.f11, h63, Try.func11, name63, comp63⟩
  · cases h; exact ⟨Try.f24, h76, Try.func24, name76, comp76⟩
  · cases h; exact ⟨Try.f25, h77, Try.func25, name77, comp77⟩
  · cases h; exact ⟨Try.f26, h78, Try.func26, name78, comp78⟩
  · cases h; exact ⟨Try.f27, h291, Try.func27, name291, comp291⟩
  · cases h; exact ⟨Try.f28, h292, Try.func28, name292, comp292⟩
  · cases h; exact ⟨Try.f29, h293, Try.func29, name293, comp293⟩
  · cases h; exact ⟨Try.f30, h294, Try.func30, name294, comp294⟩
  · cases h; exact ⟨Try.f31, h295, Try.func31, name295, comp295⟩
  · cases h; exact ⟨Try.f41, h304, Try.func41, name304, comp304⟩
  · cases h; exact ⟨Try.f42, h305, Try.func42, name305, comp305⟩
  · cases h; exact ⟨Try.f43, h306, Try.func43, name306, comp306⟩
  · cases h; exact ⟨Try.f44, h307, Try.func44, name307, comp307⟩
  · cases h; exact ⟨Try.f47, h342, Try.func47, name342, comp342⟩
  · cases h; exact ⟨Try.f48, h346, Try.func48, name346, comp346⟩
  · cases h; exact ⟨Try.f45, h487, Try.func45, name487, comp487⟩
  · cases h
end Fb
