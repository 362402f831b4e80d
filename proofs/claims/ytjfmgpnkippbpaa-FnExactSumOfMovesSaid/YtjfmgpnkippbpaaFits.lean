/- Each function of the law is compiled by the checker to its text in the small language. -/
import Derived.Test.YtjfmgpnkippbpaaRow2
import Derived.Test.YtjfmgpnkippbpaaTab
import Derived.Test.YtjfmgpnkippbpaaRows
import Derived.KernelRfl
set_option linter.unusedVariables false
set_option linter.unusedSimpArgs false
namespace Fb
open Go Go.Proofs

def inv : FuncId → Option Nat := fun f => match f with
  | 6 => some 6
  | 16 => some 68
  | 17 => some 69
  | 18 => some 70
  | 19 => some 71
  | 20 => some 72
  | 46 => some 188
  | 35 => some 266
  | 32 => some 296
  | 33 => some 297
  | 34 => some 298
  | _ => none
def rho : Nat → FuncId := fun n => match n with
  | 6 => 6
  | 68 => 16
  | 69 => 17
  | 70 => 18
  | 71 => 19
  | 72 => 20
  | 188 => 46
  | 266 => 35
  | 296 => 32
  | 297 => 33
  | 298 => 34
  | _ => 0
def isPure : Nat → Bool := fun n => true
theorem inv_rho : ∀ f i, inv f = some i → rho i = f := by
  intro f i h
  unfold inv at h
  split at h <;> first | (cases h; rfl) | cases h
def h6 : Hint := ⟨.pure, [], [0, 2, 3, 4, 5, 6, 7, 8, 9, 10, 11, 12, 13, 18, 46, 51, 71]⟩
theorem comp6 : compFn Try.prog inv isPure h6 Try.f6 = some c6 := by kernel_rfl
theorem name6 : (Try.f6.name == "runtime.NumGoroutine") = false := by kernel_rfl
def h68 : Hint := ⟨.pure, [], [0, 1, 4, 10]⟩
theorem comp68 : compFn Try.prog inv isPure h68 Try.f16 = some c68 := by kernel_rfl
theorem name68 : (Try.f16.name == "runtime.NumGoroutine") = false := by kernel_rfl
def h69 : Hint := ⟨.pure, [], [0, 2, 3, 4, 5, 6, 7, 11]⟩
theorem comp69 : compFn Try.prog inv isPure h69 Try.f17 = some c69 := by kernel_rfl
theorem name69 : (Try.f17.name == "runtime.NumGoroutine") = false := by kernel_rfl
def h70 : Hint := ⟨.pure, [], [0, 1, 4, 5, 6, 7, 13, 24, 40]⟩
theorem comp70 : compFn Try.prog inv isPure h70 Try.f18 = some c70 := by kernel_rfl
theorem name70 : (Try.f18.name == "runtime.NumGoroutine") = false := by kernel_rfl
def h71 : Hint := ⟨.pure, [8], [0, 2, 3, 4, 5, 6, 8, 9, 10, 11, 12]⟩
theorem comp71 : compFn Try.prog inv isPure h71 Try.f19 = some c71 := by kernel_rfl
theorem name71 : (Try.f19.name == "runtime.NumGoroutine") = false := by kernel_rfl
def h72 : Hint := ⟨.pure, [], [0, 1, 4, 5]⟩
theorem comp72 : compFn Try.prog inv isPure h72 Try.f20 = some c72 := by kernel_rfl
theorem name72 : (Try.f20.name == "runtime.NumGoroutine") = false := by kernel_rfl
def h188 : Hint := ⟨.pure, [3, 2], [0, 1, 2, 3, 4, 9, 14]⟩
theorem comp188 : compFn Try.prog inv isPure h188 Try.f46 = some c188 := by kernel_rfl
theorem name188 : (Try.f46.name == "runtime.NumGoroutine") = false := by kernel_rfl
def h266 : Hint := ⟨.pure, [], [0, 1, 4, 5, 10, 14, 26]⟩
theorem comp266 : compFn Try.prog inv isPure h266 Try.f35 = some c266 := by kernel_rfl
theorem name266 : (Try.f35.name == "runtime.NumGoroutine") = false := by kernel_rfl
def h296 : Hint := ⟨.pure, [], [0, 2, 5, 8]⟩
theorem comp296 : compFn Try.prog inv isPure h296 Try.f32 = some c296 := by kernel_rfl
theorem name296 : (Try.f32.name == "runtime.NumGoroutine") = false := by kernel_rfl
def h297 : Hint := ⟨.pure, [3, 2, 1], [0, 1, 2, 3]⟩
theorem comp297 : compFn Try.prog inv isPure h297 Try.f33 = some c297 := by kernel_rfl
theorem name297 : (Try.f33.name == "runtime.NumGoroutine") = false := by kernel_rfl
def h298 : Hint := ⟨.pure, [0], [0]⟩
theorem comp298 : compFn Try.prog inv isPure h298 Try.f34 = some c298 := by kernel_rfl
theorem name298 : (Try.f34.name == "runtime.NumGoroutine") = false := by kernel_rfl
theorem tab_ok : ∀ f D, tab f = some D → DefOk Try.prog inv isPure rho f D := by
  intro f D h
  unfold tab at h
  split at h
  · cases h; exact ⟨Try.f6, h6, Try.func6, name6, comp6⟩
  · cases h; exact ⟨Try.f16, h68, Try.func16, name68, comp68⟩
  · cases h; exact ⟨Try.f17, h69, Try.func17, name69, comp69⟩
  · cases h; exact ⟨Try.f18, h70, Try.func18, name70, comp70⟩
  · cases h; exact ⟨Try.f19, h71, Try.func19, name71, comp71⟩
  · cases h; exact ⟨Try.f20, h72, Try.func20, name72, comp72⟩
  · cases h; exact ⟨Try.f46, h188, Try.func46, name188, comp188⟩
  · cases h; exact ⟨Try.f35, h266, Try.func35, name266, comp266⟩
  · cases h; exact ⟨Try.f32, h296, Try.func32, name296, comp296⟩
  · cases h; exact ⟨Try.f33, h297, Try.func33, name297, comp297⟩
  · cases h; exact ⟨Try.f34, h298, Try.func34, name298, comp298⟩
  · cases h
end Fb
