/- Each function of the law is compiled by the checker to its text in the small language. -/
import Derived.Test.YtenmbknaocedfaaRow2
import Derived.Test.YtenmbknaocedfaaTab
import Derived.Test.YtenmbknaocedfaaRows
import Derived.KernelRfl
set_option linter.unusedVariables false
set_option linter.unusedSimpArgs false
namespace Fb
open Go Go.Proofs

def inv : FuncId → Option Nat := fun f => match f with
  | 7 => some 29
  | 36 => some 79
  | 39 => some 81
  | 44 => some 83
  | 9 => some 157
  | 11 => some 159
  | 13 => some 161
  | 15 => some 163
  | 19 => some 166
  | 32 => some 174
  | 33 => some 175
  | 45 => some 213
  | 52 => some 295
  | 38 => some 296
  | 49 => some 304
  | 74 => some 308
  | 98 => some 309
  | 71 => some 310
  | 75 => some 311
  | 73 => some 312
  | 77 => some 313
  | 40 => some 382
  | 46 => some 386
  | 47 => some 387
  | 54 => some 390
  | 68 => some 396
  | 69 => some 397
  | 97 => some 488
  | 76 => some 489
  | 96 => some 490
  | 78 => some 524
  | 86 => some 529
  | 99 => some 572
  | 100 => some 573
  | _ => none
def rho : Nat → FuncId := fun n => match n with
  | 29 => 7
  | 79 => 36
  | 81 => 39
  | 83 => 44
  | 157 => 9
  | 159 => 11
  | 161 => 13
  | 163 => 15
  | 166 => 19
  | 174 => 32
  | 175 => 33
  | 213 => 45
  | 295 => 52
  | 296 => 38
  | 304 => 49
  | 308 => 74
  | 309 => 98
  | 310 => 71
  | 311 => 75
  | 312 => 73
  | 313 => 77
  | 382 => 40
  | 386 => 46
  | 387 => 47
  | 390 => 54
  | 396 => 68
  | 397 => 69
  | 488 => 97
  | 489 => 76
  | 490 => 96
  | 524 => 78
  | 529 => 86
  | 572 => 99
  | 573 => 100
  | _ => 0
def isPure : Nat → Bool := fun n => true
theorem inv_rho : ∀ f i, inv f = some i → rho i = f := by
  intro f i h
  unfold inv at h
  split at h <;> first | (cases h; rfl) | cases h
def h29 : Hint := ⟨.pure, [], [0, 2, 3, 4, 5, 6, 7, 8, 9, 10, 15, 36, 41, 55]⟩
theorem comp29 : compFn Try.prog inv isPure h29 Try.f7 = some c29 := by kernel_rfl
theorem name29 : (Try.f7.name == "runtime.NumGoroutine") = false := by kernel_rfl
def h79 : Hint := ⟨.pure, [2], [0, 1, 2, 4, 10]⟩
theorem comp79 : compFn Try.prog inv isPure h79 Try.f36 = some c79 := by kernel_rfl
theorem name79 : (Try.f36.name == "runtime.NumGoroutine") = false := by kernel_rfl
def h81 : Hint := ⟨.pure, [5, 4, 2], [0, 1, 2, 4, 5]⟩
theorem comp81 : compFn Try.prog inv isPure h81 Try.f39 = some c81 := by kernel_rfl
theorem name81 : (Try.f39.name == "runtime.NumGoroutine") = false := by kernel_rfl
def h83 : Hint := ⟨.pure, [3, 2], [0, 1, 2, 3, 4, 9, 14, 19, 24, 30]⟩
theorem comp83 : compFn Try.prog inv isPure h83 Try.f44 = some c83 := by kernel_rfl
theorem name83 : (Try.f44.name == "runtime.NumGoroutine") = false := by kernel_rfl
def h157 : Hint := ⟨.pure, [], [0, 1, 4, 5, 11, 15, 25]⟩
theorem comp157 : compFn Try.prog inv isPure h157 Try.f9 = some c157 := by kernel_rfl
theorem name157 : (Try.f9.name == "runtime.NumGoroutine") = false := by kernel_rfl
def h159 : Hint := ⟨.pure, [], [0, 1, 4, 5, 6, 7, 13, 24, 41]⟩
theorem comp159 : compFn Try.prog inv isPure h159 Try.f11 = some c159 := by kernel_rfl
theorem name159 : (Try.f11.name == "runtime.NumGoroutine") = false := by kernel_rfl
def h161 : Hint := ⟨.pure, [], [0, 1, 4, 5, 6, 17, 21, 33]⟩
theorem comp161 : compFn Try.prog inv isPure h161 Try.f13 = some c161 := by kernel_rfl
theorem name161 : (Try.f13.name == "runtime.NumGoroutine") = false := by kernel_rfl
def h163 : Hint := ⟨.pure, [4], [0, 2, 3, 4, 5, 6, 7, 8, 15]⟩
theorem comp163 : compFn Try.prog inv isPure h163 Try.f15 = some c163 := by kernel_rfl
theorem name163 : (Try.f15.name == "runtime.NumGoroutine") = false := by kernel_rfl
def h166 : Hint := ⟨.pure, [3, 2], [0, 1, 2, 3, 4, 9, 14, 19, 24, 30]⟩
theorem comp166 : compFn Try.prog inv isPure h166 Try.f19 = some c166 := by kernel_rfl
theorem name166 : (Try.f19.name == "runtime.NumGoroutine") = false := by kernel_rfl
def h174 : Hint := ⟨.pure, [], [0, 2, 3, 6]⟩
theorem comp174 : compFn Try.prog inv isPure h174 Try.f32 = some c174 := by kernel_rfl
theorem name174 : (Try.f32.name == "runtime.NumGoroutine") = false := by kernel_rfl
def h175 : Hint := ⟨.pure, [], [0, 2, 3, 6]⟩
theorem comp175 : compFn Try.prog inv isPure h175 Try.f33 = some c175 := by kernel_rfl
theorem name175 : (Try.f33.name == "runtime.NumGoroutine") = false := by kernel_rfl
def h213 : Hint := ⟨.pure, [], [0, 1, 4, 5, 10, 14, 26]⟩
theorem comp213 : compFn Try.prog inv isPure h213 Try.f45 = some c213 := by kernel_rfl
theorem name213 : (Try.f45.name == "runtime.NumGoroutine") = false := by kernel_rfl
def h295 : Hint := ⟨.pure, [], [0, 1, 2, 6]⟩
theorem comp295 : compFn Try.prog inv isPure h295 Try.f52 = some c295 := by kernel_rfl
theorem name295 : (Try.f52.name == "runtime.NumGoroutine") = false := by kernel_rfl
def h296 : Hint := ⟨.pure, [], [0, 2, 5, 8]⟩
theorem comp296 : compFn Try.prog inv isPure h296 Try.f38 = some c296 := by kernel_rfl
theorem name296 : (Try.f38.name == "runtime.NumGoroutine") = false := by kernel_rfl
def h304 : Hint := ⟨.pure, [], [0, 1, 2, 6]⟩
theorem comp304 : compFn Try.prog inv isPure h304 Try.f49 = some c304 := by kernel_rfl
theorem name304 : (Try.f49.name == "runtime.NumGoroutine") = false := by kernel_rfl
def h308 : Hint := ⟨.pure, [], [0, 1, 4, 10]⟩
theorem comp308 : compFn Try.prog inv isPure h308 Try.f74 = some c308 := by kernel_rfl
theorem name308 : (Try.f74.name == "runtime.NumGoroutine") = false := by kernel_rfl
def h309 : Hint := ⟨.pure, [], [0, 2]⟩
theorem comp309 : compFn Try.prog inv isPure h309 Try.f98 = some c309 := by kernel_rfl
theorem name309 : (Try.f98.name == "runtime.NumGoroutine") = false := by kernel_rfl
def h310 : Hint := ⟨.pure, [3], [0, 2, 3]⟩
theorem comp310 : compFn Try.prog inv isPure h310 Try.f71 = some c310 := by kernel_rfl
theorem name310 : (Try.f71.name == "runtime.NumGoroutine") = false := by kernel_rfl
def h311 : Hint := ⟨.pure, [], [0, 1, 4, 5, 6, 7, 13, 24, 40]⟩
theorem comp311 : compFn Try.prog inv isPure h311 Try.f75 = some c311 := by kernel_rfl
theorem name311 : (Try.f75.name == "runtime.NumGoroutine") = false := by kernel_rfl
def h312 : Hint := ⟨.pure, [3, 1], [0, 1, 2, 3]⟩
theorem comp312 : compFn Try.prog inv isPure h312 Try.f73 = some c312 := by kernel_rfl
theorem name312 : (Try.f73.name == "runtime.NumGoroutine") = false := by kernel_rfl
def h313 : Hint := ⟨.pure, [], [0, 1, 4, 5]⟩
theorem comp313 : compFn Try.prog inv isPure h313 Try.f77 = some c313 := by kernel_rfl
theorem name313 : (Try.f77.name == "runtime.NumGoroutine") = false := by kernel_rfl
def h382 : Hint := ⟨.pure, [0], [0]⟩
theorem comp382 : compFn Try.prog inv isPure h382 Try.f40 = some c382 := by kernel_rfl
theorem name382 : (Try.f40.name == "runtime.NumGoroutine") = false := by kernel_rfl
def h386 : Hint := ⟨.pure, [], [0, 2, 3, 7, 15]⟩
theorem comp386 : compFn Try.prog inv isPure h386 Try.f46 = some c386 := by kernel_rfl
theorem name386 : (Try.f46.name == "runtime.NumGoroutine") = false := by kernel_rfl
def h387 : Hint := ⟨.pure, [6, 2], [0, 1, 2, 4, 5, 6, 7, 8, 10, 11, 12, 13, 44, 61, 62, 70, 76]⟩
theorem comp387 : compFn Try.prog inv isPure h387 Try.f47 = some c387 := by kernel_rfl
theorem name387 : (Try.f47.name == "runtime.NumGoroutine") = false := by kernel_rfl
def h390 : Hint := ⟨.pure, [], [0, 1, 4, 5, 10, 14, 26]⟩
theorem comp390 : compFn Try.prog inv isPure h390 Try.f54 = some c390 := by kernel_rfl
theorem name390 : (Try.f54.name == "runtime.NumGoroutine") = false := by kernel_rfl
def h396 : Hint := ⟨.pure, [], [0, 2, 3, 4, 8]⟩
theorem comp396 : compFn Try.prog inv isPure h396 Try.f68 = some c396 := by kernel_rfl
theorem name396 : (Try.f68.name == "runtime.NumGoroutine") = false := by kernel_rfl
def h397 : Hint := ⟨.pure, [5], [0, 2, 3, 5, 6, 7, 8, 9]⟩
theorem comp397 : compFn Try.prog inv isPure h397 Try.f69 = some c397 := by kernel_rfl
theorem name397 : (Try.f69.name == "runtime.NumGoroutine") = false := by kernel_rfl
def h488 : Hint := ⟨.pure, [3, 2, 1], [0, 1, 2, 3]⟩
theorem comp488 : compFn Try.prog inv isPure h488 Try.f97 = some c488 := by kernel_rfl
theorem name488 : (Try.f97.name == "runtime.NumGoroutine") = false := by kernel_rfl
def h489 : Hint := ⟨.pure, [0], [0]⟩
theorem comp489 : compFn Try.prog inv isPure h489 Try.f76 = some c489 := by kernel_rfl
theorem name489 : (Try.f76.name == "runtime.NumGoroutine") = false := by kernel_rfl
def h490 : Hint := ⟨.pure, [], [0, 2]⟩
theorem comp490 : compFn Try.prog inv isPure h490 Try.f96 = some c490 := by kernel_rfl
theorem name490 : (Try.f96.name == "runtime.NumGoroutine") = false := by kernel_rfl
def h524 : Hint := ⟨.pure, [], [0, 1, 4, 5, 38, 54, 55, 65]⟩
theorem comp524 : compFn Try.prog inv isPure h524 Try.f78 = some c524 := by kernel_rfl
theorem name524 : (Try.f78.name == "runtime.NumGoroutine") = false := by kernel_rfl
def h529 : Hint := ⟨.pure, [3, 2], [0, 1, 2, 3, 4, 9, 14]⟩
theorem comp529 : compFn Try.prog inv isPure h529 Try.f86 = some c529 := by kernel_rfl
theorem name529 : (Try.f86.name == "runtime.NumGoroutine") = false := by kernel_rfl
def h572 : Hint := ⟨.pure, [], [0, 2]⟩
theorem comp572 : compFn Try.prog inv isPure h572 Try.f99 = some c572 := by kernel_rfl
theorem name572 : (Try.f99.name == "runtime.NumGoroutine") = false := by kernel_rfl
def h573 : Hint := ⟨.pure, [], [0, 2, 3, 7, 27, 43]⟩
theorem comp573 : compFn Try.prog inv isPure h573 Try.f100 = some c573 := by kernel_rfl
theorem name573 : (Try.f100.name == "runtime.NumGoroutine") = false := by kernel_rfl
theorem tab_ok : ∀ f D, tab f = some D → DefOk Try.prog inv isPure rho f D := by
  intro f D h
  unfold tab at h
  split at h
  · cases h; exact ⟨Try.f7, h29, Try.func7, name29, comp29⟩
  · cases h; exact ⟨Try.f36, h79, Try.func36, name79, comp79⟩
  · cases h; exact ⟨Try.f39, h81, Try.func39, name81, comp81⟩
  · cases h; exact ⟨Try.f44, h83, Try.func44, name83, comp83⟩
  · cases h; exact ⟨Try.f9, h157, Try.func9, name157, comp157⟩
  · cases h; exact ⟨Try.f11, h159, Try.func11, name159, comp159⟩
  · cases h; exact ⟨Try.f13, h161, Try.func13, name161, comp161⟩
  · cases h; exact ⟨Try.f15, h163, Try.func15, name163, comp163⟩
  · cases h; exact ⟨Try.f19, h166, Try.func19, name166, comp166⟩
  · cases h; exact ⟨Try.f32, h174, Try.func32, name174, comp174⟩
  · cases h; exact ⟨Try.f33, h175, Try.func33, name175, comp175⟩
  · cases h; exact ⟨Try.f45, h213, Try.func45, name213, comp213⟩
  · cases h; exact ⟨Try.f52, h295, Try.func52, name295, comp295⟩
  · cases h; exact ⟨Try.f38, h296, Try.func38, name296, comp296⟩
  · cases h; exact ⟨Try.f49, h304, Try.func49, name304, comp304⟩
  · cases h; exact ⟨Try.f74, h308, Try.func74, name308, comp308⟩
  · cases h; exact ⟨Try.f98, h309, Try.func98, name309, comp309⟩
  · cases h; exact ⟨Try.f71, h310, Try.func71, name310, comp310⟩
  · cases h; exact ⟨Try.f75, h311, Try.func75, name311, comp311⟩
  · cases h; exact ⟨Try.f73, h312, Try.func73, name312, comp312⟩
  · cases h; exact ⟨Try.f77, h313, Try.func77, name313, comp313⟩
  · cases h; exact ⟨Try.f40, h382, Try.func40, name382, comp382⟩
  · cases h; exact ⟨Try.f46, h386, Try.func46, name386, comp386⟩
  · cases h; exact ⟨Try.f47, h387, Try.func47, name387, comp387⟩
  · cases h; exact ⟨Try.f54, h390, Try.func54, name390, comp390⟩
  · cases h; exact ⟨Try.f68, h396, Try.func68, name396, comp396⟩
  · cases h; exact ⟨Try.f69, h397, Try.func69, name397, comp397⟩
  · cases h; exact ⟨Try.f97, h488, Try.func97, name488, comp488⟩
  · cases h; exact ⟨Try.f76, h489, Try.func76, name489, comp489⟩
  · cases h; exact ⟨Try.f96, h490, Try.func96, name490, comp490⟩
  · cases h; exact ⟨Try.f78, h524, Try.func78, name524, comp524⟩
  · cases h; exact ⟨Try.f86, h529, Try.func86, name529, comp529⟩
  · cases h; exact ⟨Try.f99, h572, Try.func99, name572, comp572⟩
  · cases h; exact ⟨Try.f100, h573, Try.func100, name573, comp573⟩
  · cases h
end Fb
