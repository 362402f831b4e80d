/- Each function of the law is compiled by the checker to its text in the small language. -/
import Derived.Test.YtkkncjfgnielgaaRow2
import Derived.Test.YtkkncjfgnielgaaTab
import Derived.Test.YtkkncjfgnielgaaRows
import Derived.KernelRfl
set_option linter.unusedVariables false
set_option linter.unusedSimpArgs false
namespace Fb
open Go Go.Proofs

def inv : FuncId → Option Nat := fun f => match f with
  | 6 => some 14
  | 13 => some 78
  | 19 => some 112
  | 20 => some 113
  | 21 => some 114
  | 22 => some 115
  | 23 => some 116
  | 46 => some 138
  | 58 => some 295
  | 33 => some 296
  | 57 => some 304
  | 41 => some 305
  | 40 => some 342
  | 42 => some 343
  | 43 => some 344
  | 44 => some 345
  | 45 => some 346
  | 59 => some 364
  | _ => none
def rho : Nat → FuncId := fun n => match n with
  | 14 => 6
  | 78 => 13
  | 112 => 19
  | 113 => 20
  | 114 => 21
  | 115 => 22
  | 116 => 23
  | 138 => 46
  | 295 => 58
  | 296 => 33
  | 304 => 57
  | 305 => 41
  | 342 => 40
  | 343 => 42
  | 344 => 43
  | 345 => 44
  | 346 => 45
  | 364 => 59
  | _ => 0
def isPure : Nat → Bool := fun n => !([305] : List Nat).contains n
theorem inv_rho : ∀ f i, inv f = some i → rho i = f := by
  intro f i h
  unfold inv at h
  split at h <;> first | (cases h; rfl) | cases h
def h14 : Hint := ⟨.pure, [9, 7, 4], [0, 2, 3, 4, 5, 6, 7, 8, 9, 10, 15, 37, 42, 57]⟩
theorem comp14 : compFn Try.prog inv isPure h14 Try.f6 = some c14 := by kernel_rfl
theorem name14 : (Try.f6.name == "runtime.NumGoroutine") = false := by kernel_rfl
def h78 : Hint := ⟨.pure, [3, 2], [0, 1, 2, 3, 4, 5, 7, 16]⟩
theorem comp78 : compFn Try.prog inv isPure h78 Try.f13 = some c78 := by kernel_rfl
theorem name78 : (Try.f13.name == "runtime.NumGoroutine") = false := by kernel_rfl
def h112 : Hint := ⟨.pure, [], [0, 1, 4, 10]⟩
theorem comp112 : compFn Try.prog inv isPure h112 Try.f19 = some c112 := by kernel_rfl
theorem name112 : (Try.f19.name == "runtime.NumGoroutine") = false := by kernel_rfl
def h113 : Hint := ⟨.pure, [2], [0, 2, 3, 4, 5, 6, 7, 8, 12, 17, 37, 46, 52, 61]⟩
theorem comp113 : compFn Try.prog inv isPure h113 Try.f20 = some c113 := by kernel_rfl
theorem name113 : (Try.f20.name == "runtime.NumGoroutine") = false := by kernel_rfl
def h114 : Hint := ⟨.pure, [], [0, 1, 4, 5, 6, 7, 13, 24, 40]⟩
theorem comp114 : compFn Try.prog inv isPure h114 Try.f21 = some c114 := by kernel_rfl
theorem name114 : (Try.f21.name == "runtime.NumGoroutine") = false := by kernel_rfl
def h115 : Hint := ⟨.pure, [6, 4, 2], [0, 2, 3, 4, 6, 7, 8, 9, 12, 15, 16, 17, 18, 23, 27, 28, 29, 40, 52]⟩
theorem comp115 : compFn Try.prog inv isPure h115 Try.f22 = some c115 := by kernel_rfl
theorem name115 : (Try.f22.name == "runtime.NumGoroutine") = false := by kernel_rfl
def h116 : Hint := ⟨.pure, [], [0, 1, 4, 5]⟩
theorem comp116 : compFn Try.prog inv isPure h116 Try.f23 = some c116 := by kernel_rfl
theorem name116 : (Try.f23.name == "runtime.NumGoroutine") = false := by kernel_rfl
def h138 : Hint := ⟨.pure, [], [0, 1, 4, 5, 10, 14, 26]⟩
theorem comp138 : compFn Try.prog inv isPure h138 Try.f46 = some c138 := by kernel_rfl
theorem name138 : (Try.f46.name == "runtime.NumGoroutine") = false := by kernel_rfl
def h295 : Hint := ⟨.pure, [], [0, 1, 2, 6]⟩
theorem comp295 : compFn Try.prog inv isPure h295 Try.f58 = some c295 := by kernel_rfl
theorem name295 : (Try.f58.name == "runtime.NumGoroutine") = false := by kernel_rfl
def h296 : Hint := ⟨.pure, [], [0, 2, 5, 8]⟩
theorem comp296 : compFn Try.prog inv isPure h296 Try.f33 = some c296 := by kernel_rfl
theorem name296 : (Try.f33.name == "runtime.NumGoroutine") = false := by kernel_rfl
def h304 : Hint := ⟨.pure, [], [0, 1, 2, 6]⟩
theorem comp304 : compFn Try.prog inv isPure h304 Try.f57 = some c304 := by kernel_rfl
theorem name304 : (Try.f57.name == "runtime.NumGoroutine") = false := by kernel_rfl
def h305 : Hint := ⟨.args, [], [0, 1, 2, 8]⟩
theorem comp305 : compFn Try.prog inv isPure h305 Try.f41 = some c305 := by kernel_rfl
theorem name305 : (Try.f41.name == "runtime.NumGoroutine") = false := by kernel_rfl
def h342 : Hint := ⟨.pure, [], [0, 1, 4]⟩
theorem comp342 : compFn Try.prog inv isPure h342 Try.f40 = some c342 := by kernel_rfl
theorem name342 : (Try.f40.name == "runtime.NumGoroutine") = false := by kernel_rfl
def h343 : Hint := ⟨.pure, [3, 2, 1], [0, 1, 2, 3]⟩
theorem comp343 : compFn Try.prog inv isPure h343 Try.f42 = some c343 := by kernel_rfl
theorem name343 : (Try.f42.name == "runtime.NumGoroutine") = false := by kernel_rfl
def h344 : Hint := ⟨.pure, [0], [0]⟩
theorem comp344 : compFn Try.prog inv isPure h344 Try.f43 = some c344 := by kernel_rfl
theorem name344 : (Try.f43.name == "runtime.NumGoroutine") = false := by kernel_rfl
def h345 : Hint := ⟨.pure, [], [0, 1, 4]⟩
theorem comp345 : compFn Try.prog inv isPure h345 Try.f44 = some c345 := by kernel_rfl
theorem name345 : (Try.f44.name == "runtime.NumGoroutine") = false := by kernel_rfl
def h346 : Hint := ⟨.pure, [6, 3], [0, 1, 2, 3, 6]⟩
theorem comp346 : compFn Try.prog inv isPure h346 Try.f45 = some c346 := by kernel_rfl
theorem name346 : (Try.f45.name == "runtime.NumGoroutine") = false := by kernel_rfl
def h364 : Hint := ⟨.pure, [3, 2], [0, 1, 2, 3, 4, 9, 14, 19, 24]⟩
theorem comp364 : compFn Try.prog inv isPure h364 Try.f59 = some c364 := by kernel_rfl
theorem name364 : (Try.f59.name == "runtime.NumGoroutine") = false := by kernel_rfl
theorem tab_ok : ∀ f D, tab f = some D → DefOk Try.prog inv isPure rho f D := by
  intro f D h
  unfold tab at h
  split at h
  · cases h; exact ⟨Try.f6, h14, Try.func6, name14, comp14⟩
  · cases h; exact ⟨Try.f13, h78, Try.func13, name78, comp78⟩
  · cases h; exact ⟨Try.f19, h112, Try.func19, name112, comp112⟩
  · cases h; exact ⟨Try.f20, h113, Try.func20, name113, comp113⟩
  · cases h; exact ⟨Try.f21, h114, Try.func21, name114, comp114⟩
  · cases h; exact ⟨Try.f22, h115, Try.func22, name115, comp115⟩
  · cases h; exact ⟨Try.f23, h116, Try.func23, name116, comp116⟩
  · cases h; exact ⟨Try.f46, h138, Try.func46, name138, comp138⟩
  · cases h; exact ⟨Try.f58, h295, Try.func58, name295, comp295⟩
  · cases h; exact ⟨Try.f33, h296, Try.func33, name296, comp296⟩
  · cases h; exact ⟨Try.f57, h304, Try.func57, name304, comp304⟩
  · cases h; exact ⟨Try.f41, h305, Try.func41, name305, comp305⟩
  · cases h; exact ⟨Try.f40, h342, Try.func40, name342, comp342⟩
  · cases h; exact ⟨Try.f42, h343, Try.func42, name343, comp343⟩
  · cases h; exact ⟨Try.f43, h344, Try.func43, name344, comp344⟩
  · cases h; exact ⟨Try.f44, h345, Try.func44, name345, comp345⟩
  · cases h; exact ⟨Try.f45, h346, Try.func45, name346, comp346⟩
  · cases h; exact ⟨Try.f59, h364, Try.func59, name364, comp364⟩
  · cases h
end Fb
