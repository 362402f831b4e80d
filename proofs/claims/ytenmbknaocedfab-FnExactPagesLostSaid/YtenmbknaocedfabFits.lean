/- Each function of the law is compiled by the checker to its text in the small language. -/
import Derived.Test.YtenmbknaocedfabRow2
import Derived.Test.YtenmbknaocedfabTab
import Derived.Test.YtenmbknaocedfabRows
import Derived.KernelRfl
set_option linter.unusedVariables false
set_option linter.unusedSimpArgs false
namespace Fb
open Go Go.Proofs

def inv : FuncId → Option Nat := fun f => match f with
  | 4 => some 32
  | 40 => some 79
  | 43 => some 81
  | 47 => some 83
  | 8 => some 157
  | 10 => some 159
  | 13 => some 161
  | 45 => some 163
  | 23 => some 166
  | 12 => some 180
  | 14 => some 181
  | 15 => some 182
  | 16 => some 183
  | 17 => some 184
  | 18 => some 185
  | 48 => some 213
  | 85 => some 295
  | 42 => some 296
  | 84 => some 304
  | 78 => some 308
  | 128 => some 309
  | 80 => some 311
  | 83 => some 313
  | 44 => some 382
  | 41 => some 386
  | 82 => some 387
  | 59 => some 390
  | 49 => some 391
  | 50 => some 398
  | 52 => some 399
  | 51 => some 401
  | 53 => some 402
  | 131 => some 488
  | 81 => some 489
  | 79 => some 524
  | 97 => some 529
  | 86 => some 531
  | 87 => some 532
  | 129 => some 572
  | 130 => some 573
  | _ => none
def rho : Nat → FuncId := fun n => match n with
  | 32 => 4
  | 79 => 40
  | 81 => 43
  | 83 => 47
  | 157 => 8
  | 159 => 10
  | 161 => 13
  | 163 => 45
  | 166 => 23
  | 180 => 12
  | 181 => 14
  | 182 => 15
  | 183 => 16
  | 184 => 17
  | 185 => 18
  | 213 => 48
  | 295 => 85
  | 296 => 42
  | 304 => 84
  | 308 => 78
  | 309 => 128
  | 311 => 80
  | 313 => 83
  | 382 => 44
  | 386 => 41
  | 387 => 82
  | 390 => 59
  | 391 => 49
  | 398 => 50
  | 399 => 52
  | 401 => 51
  | 402 => 53
  | 488 => 131
  | 489 => 81
  | 524 => 79
  | 529 => 97
  | 531 => 86
  | 532 => 87
  | 572 => 129
  | 573 => 130
  | _ => 0
def isPure : Nat → Bool := fun n => !([181, 182, 391] : List Nat).contains n
theorem inv_rho : ∀ f i, inv f = some i → rho i = f := by
  intro f i h
  unfold inv at h
  split at h <;> first | (cases h; rfl) | cases h
def h32 : Hint := ⟨.pure, [], [0, 1, 4, 5, 6, 7, 8, 9, 10, 11, 12, 13, 14, 15, 20, 44, 49, 65, 73, 76, 92, 97, 100]⟩
theorem comp32 : compFn Try.prog inv isPure h32 Try.f4 = some c32 := by kernel_rfl
theorem name32 : (Try.f4.name == "runtime.NumGoroutine") = false := by kernel_rfl
def h79 : Hint := ⟨.pure, [2], [0, 1, 2, 4, 10]⟩
theorem comp79 : compFn Try.prog inv isPure h79 Try.f40 = some c79 := by kernel_rfl
theorem name79 : (Try.f40.name == "runtime.NumGoroutine") = false := by kernel_rfl
def h81 : Hint := ⟨.pure, [5, 4, 2], [0, 1, 2, 4, 5]⟩
theorem comp81 : compFn Try.prog inv isPure h81 Try.f43 = some c81 := by kernel_rfl
theorem name81 : (Try.f43.name == "runtime.NumGoroutine") = false := by kernel_rfl
def h83 : Hint := ⟨.pure, [3, 2], [0, 1, 2, 3, 4, 9, 14, 19, 24, 30]⟩
theorem comp83 : compFn Try.prog inv isPure h83 Try.f47 = some c83 := by kernel_rfl
theorem name83 : (Try.f47.name == "runtime.NumGoroutine") = false := by kernel_rfl
def h157 : Hint := ⟨.pure, [], [0, 1, 4, 5, 11, 15, 25]⟩
theorem comp157 : compFn Try.prog inv isPure h157 Try.f8 = some c157 := by kernel_rfl
theorem name157 : (Try.f8.name == "runtime.NumGoroutine") = false := by kernel_rfl
def h159 : Hint := ⟨.pure, [], [0, 1, 4, 5, 6, 7, 13, 24, 41]⟩
theorem comp159 : compFn Try.prog inv isPure h159 Try.f10 = some c159 := by kernel_rfl
theorem name159 : (Try.f10.name == "runtime.NumGoroutine") = false := by kernel_rfl
def h161 : Hint := ⟨.pure, [], [0, 1, 4, 5, 6, 17, 21, 33]⟩
theorem comp161 : compFn Try.prog inv isPure h161 Try.f13 = some c161 := by kernel_rfl
theorem name161 : (Try.f13.name == "runtime.NumGoroutine") = false := by kernel_rfl
def h163 : Hint := ⟨.pure, [4], [0, 2, 3, 4, 5, 6, 7, 8, 15]⟩
theorem comp163 : compFn Try.prog inv isPure h163 Try.f45 = some c163 := by kernel_rfl
theorem name163 : (Try.f45.name == "runtime.NumGoroutine") = false := by kernel_rfl
def h166 : Hint := ⟨.pure, [3, 2], [0, 1, 2, 3, 4, 9, 14, 19, 24, 30]⟩
theorem comp166 : compFn Try.prog inv isPure h166 Try.f23 = some c166 := by kernel_rfl
theorem name166 : (Try.f23.name == "runtime.NumGoroutine") = false := by kernel_rfl
def h180 : Hint := ⟨.pure, [], [0, 1, 4, 5, 10, 14, 25]⟩
theorem comp180 : compFn Try.prog inv isPure h180 Try.f12 = some c180 := by kernel_rfl
theorem name180 : (Try.f12.name == "runtime.NumGoroutine") = false := by kernel_rfl
def h181 : Hint := ⟨.args, [], [0, 1, 4, 5, 9]⟩
theorem comp181 : compFn Try.prog inv isPure h181 Try.f14 = some c181 := by kernel_rfl
theorem name181 : (Try.f14.name == "runtime.NumGoroutine") = false := by kernel_rfl
def h182 : Hint := ⟨.args, [], [0, 1, 4, 5, 9]⟩
theorem comp182 : compFn Try.prog inv isPure h182 Try.f15 = some c182 := by kernel_rfl
theorem name182 : (Try.f15.name == "runtime.NumGoroutine") = false := by kernel_rfl
def h183 : Hint := ⟨.pure, [], [0, 1, 4, 5, 9, 17]⟩
theorem comp183 : compFn Try.prog inv isPure h183 Try.f16 = some c183 := by kernel_rfl
theorem name183 : (Try.f16.name == "runtime.NumGoroutine") = false := by kernel_rfl
def h184 : Hint := ⟨.pure, [], [0, 1, 4, 5, 6, 7, 8, 13, 23, 41]⟩
theorem comp184 : compFn Try.prog inv isPure h184 Try.f17 = some c184 := by kernel_rfl
theorem name184 : (Try.f17.name == "runtime.NumGoroutine") = false := by kernel_rfl
def h185 : Hint := ⟨.pure, [9], [0, 1, 4, 5, 6, 7, 8, 9, 14, 18, 19, 20, 21, 39]⟩
theorem comp185 : compFn Try.prog inv isPure h185 Try.f18 = some c185 := by kernel_rfl
theorem name185 : (Try.f18.name == "runtime.NumGoroutine") = false := by kernel_rfl
def h213 : Hint := ⟨.pure, [], [0, 1, 4, 5, 10, 14, 26]⟩
theorem comp213 : compFn Try.prog inv isPure h213 Try.f48 = some c213 := by kernel_rfl
theorem name213 : (Try.f48.name == "runtime.NumGoroutine") = false := by kernel_rfl
def h295 : Hint := ⟨.pure, [], [0, 1, 2, 6]⟩
theorem comp295 : compFn Try.prog inv isPure h295 Try.f85 = some c295 := by kernel_rfl
theorem name295 : (Try.f85.name == "runtime.NumGoroutine") = false := by kernel_rfl
def h296 : Hint := ⟨.pure, [], [0, 2, 5, 8]⟩
theorem comp296 : compFn Try.prog inv isPure h296 Try.f42 = some c296 := by kernel_rfl
theorem name296 : (Try.f42.name == "runtime.NumGoroutine") = false := by kernel_rfl
def h304 : Hint := ⟨.pure, [], [0, 1, 2, 6]⟩
theorem comp304 : compFn Try.prog inv isPure h304 Try.f84 = some c304 := by kernel_rfl
theorem name304 : (Try.f84.name == "runtime.NumGoroutine") = false := by kernel_rfl
def h308 : Hint := ⟨.pure, [], [0, 1, 4, 10]⟩
theorem comp308 : compFn Try.prog inv isPure h308 Try.f78 = some c308 := by kernel_rfl
theorem name308 : (Try.f78.name == "runtime.NumGoroutine") = false := by kernel_rfl
def h309 : Hint := ⟨.pure, [], [0, 2]⟩
theorem comp309 : compFn Try.prog inv isPure h309 Try.f128 = some c309 := by kernel_rfl
theorem name309 : (Try.f128.name == "runtime.NumGoroutine") = false := by kernel_rfl
def h311 : Hint := ⟨.pure, [], [0, 1, 4, 5, 6, 7, 13, 24, 40]⟩
theorem comp311 : compFn Try.prog inv isPure h311 Try.f80 = some c311 := by kernel_rfl
theorem name311 : (Try.f80.name == "runtime.NumGoroutine") = false := by kernel_rfl
def h313 : Hint := ⟨.pure, [], [0, 1, 4, 5]⟩
theorem comp313 : compFn Try.prog inv isPure h313 Try.f83 = some c313 := by kernel_rfl
theorem name313 : (Try.f83.name == "runtime.NumGoroutine") = false := by kernel_rfl
def h382 : Hint := ⟨.pure, [0], [0]⟩
theorem comp382 : compFn Try.prog inv isPure h382 Try.f44 = some c382 := by kernel_rfl
theorem name382 : (Try.f44.name == "runtime.NumGoroutine") = false := by kernel_rfl
def h386 : Hint := ⟨.pure, [], [0, 2, 3, 7, 15]⟩
theorem comp386 : compFn Try.prog inv isPure h386 Try.f41 = some c386 := by kernel_rfl
theorem name386 : (Try.f41.name == "runtime.NumGoroutine") = false := by kernel_rfl
def h387 : Hint := ⟨.pure, [6, 2], [0, 1, 2, 4, 5, 6, 7, 8, 10, 11, 12, 13, 44, 61, 62, 70, 76]⟩
theorem comp387 : compFn Try.prog inv isPure h387 Try.f82 = some c387 := by kernel_rfl
theorem name387 : (Try.f82.name == "runtime.NumGoroutine") = false := by kernel_rfl
def h390 : Hint := ⟨.pure, [], [0, 1, 4, 5, 10, 14, 26]⟩
theorem comp390 : compFn Try.prog inv isPure h390 Try.f59 = some c390 := by kernel_rfl
theorem name390 : (Try.f59.name == "runtime.NumGoroutine") = false := by kernel_rfl
def h391 : Hint := ⟨.args, [], [0, 1, 4, 5, 9]⟩
theorem comp391 : compFn Try.prog inv isPure h391 Try.f49 = some c391 := by kernel_rfl
theorem name391 : (Try.f49.name == "runtime.NumGoroutine") = false := by kernel_rfl
def h398 : Hint := ⟨.pure, [], [0, 1, 4, 7, 13]⟩
theorem comp398 : compFn Try.prog inv isPure h398 Try.f50 = some c398 := by kernel_rfl
theorem name398 : (Try.f50.name == "runtime.NumGoroutine") = false := by kernel_rfl
def h399 : Hint := ⟨.pure, [], [0, 1, 4, 5, 9]⟩
theorem comp399 : compFn Try.prog inv isPure h399 Try.f52 = some c399 := by kernel_rfl
theorem name399 : (Try.f52.name == "runtime.NumGoroutine") = false := by kernel_rfl
def h401 : Hint := ⟨.pure, [], [0, 1, 4, 5, 9, 17]⟩
theorem comp401 : compFn Try.prog inv isPure h401 Try.f51 = some c401 := by kernel_rfl
theorem name401 : (Try.f51.name == "runtime.NumGoroutine") = false := by kernel_rfl
def h402 : Hint := ⟨.pure, [], [0, 1, 4]⟩
theorem comp402 : compFn Try.prog inv isPure h402 Try.f53 = some c402 := by kernel_rfl
theorem name402 : (Try.f53.name == "runtime.NumGoroutine") = false := by kernel_rfl
def h488 : Hint := ⟨.pure, [3, 2, 1], [0, 1, 2, 3]⟩
theorem comp488 : compFn Try.prog inv isPure h488 Try.f131 = some c488 := by kernel_rfl
theorem name488 : (Try.f131.name == "runtime.NumGoroutine") = false := by kernel_rfl
def h489 : Hint := ⟨.pure, [0], [0]⟩
theorem comp489 : compFn Try.prog inv isPure h489 Try.f81 = some c489 := by kernel_rfl
theorem name489 : (Try.f81.name == "runtime.NumGoroutine") = false := by kernel_rfl
def h524 : Hint := ⟨.pure, [], [0, 1, 4, 5, 38, 54, 55, 65]⟩
theorem comp524 : compFn Try.prog inv isPure h524 Try.f79 = some c524 := by kernel_rfl
theorem name524 : (Try.f79.name == "runtime.NumGoroutine") = false := by kernel_rfl
def h529 : Hint := ⟨.pure, [3, 2], [0, 1, 2, 3, 4, 9, 14]⟩
theorem comp529 : compFn Try.prog inv isPure h529 Try.f97 = some c529 := by kernel_rfl
theorem name529 : (Try.f97.name == "runtime.NumGoroutine") = false := by kernel_rfl
def h531 : Hint := ⟨.pure, [], [0, 2]⟩
theorem comp531 : compFn Try.prog inv isPure h531 Try.f86 = some c531 := by kernel_rfl
theorem name531 : (Try.f86.name == "runtime.NumGoroutine") = false := by kernel_rfl
def h532 : Hint := ⟨.pure, [], [0, 1, 4, 5, 7, 8, 9, 16]⟩
theorem comp532 : compFn Try.prog inv isPure h532 Try.f87 = some c532 := by kernel_rfl
theorem name532 : (Try.f87.name == "runtime.NumGoroutine") = false := by kernel_rfl
def h572 : Hint := ⟨.pure, [], [0, 2]⟩
theorem comp572 : compFn Try.prog inv isPure h572 Try.f129 = some c572 := by kernel_rfl
theorem name572 : (Try.f129.name == "runtime.NumGoroutine") = false := by kernel_rfl
def h573 : Hint := ⟨.pure, [], [0, 2, 3, 7, 27, 43]⟩
theorem comp573 : compFn Try.prog inv isPure h573 Try.f130 = some c573 := by kernel_rfl
theorem name573 : (Try.f130.name == "runtime.NumGoroutine") = false := by kernel_rfl
theorem tab_ok : ∀ f D, tab f = some D → DefOk Try.prog inv isPure rho f D := by
  intro f D h
  unfold tab at h
  split at h
  · cases h; exact ⟨Try.f4, h32, Try.func4, name32, comp32⟩
  · cases h; exact ⟨Try.f40, h79, Try.func40, name79, comp79⟩
  · cases h; exact ⟨Try.f43, h81, Try.func43, name81, comp81⟩
  · cases h; exact ⟨Try.f47, h83, Try.func47, name83, comp83⟩
  · cases h; exact ⟨Try.f8, h157, Try.func8, name157, comp157⟩
  · cases h; exact ⟨Try.f10, h159, Try.func10, name159, comp159⟩
  · cases h; exact ⟨Try.f13, h161, Try.func13, name161, comp161⟩
  · cases h; exact ⟨Try.f45, h163, Try.func45, name163, comp163⟩
  · cases h; exact ⟨Try.f23, h166, Try.func23, name166, comp166⟩
  · cases h; exact ⟨Try.f12, h180, Try.func12, name180, comp180⟩
  · cases h; exact ⟨Try.f14, h181, Try.func14, name181, comp181⟩
  · cases h; exact ⟨Try.f15, h182, Try.func15, name182, comp182⟩
  · cases h; exact ⟨Try.f16, h183, Try.func16, name183, comp183⟩
  · cases h; exact ⟨Try.f17, h184, Try.func17, name184, comp184⟩
  · cases h; exact ⟨Try.f18, h185, Try.func18, name185, comp185⟩
  · cases h; exact ⟨Try.f48, h213, Try.func48, name213, comp213⟩
  · cases h; exact ⟨Try.f85, h295, Try.func85, name295, comp295⟩
  · cases h; exact ⟨Try.f42, h296, Try.func42, name296, comp296⟩
  · cases h; exact ⟨Try.f84, h304, Try.func84, name304, comp304⟩
  · cases h; exact ⟨Try.f78, h308, Try.func78, name308, comp308⟩
  · cases h; exact ⟨Try.f128, h309, Try.func128, name309, comp309⟩
  · cases h; exact ⟨Try.f80, h311, Try.func80, name311, comp311⟩
  · cases h; exact ⟨Try.f83, h313, Try.func83, name313, comp313⟩
  · cases h; exact ⟨Try.f44, h382, Try.func44, name382, comp382⟩
  · cases h; exact ⟨Try.f41, h386, Try.func41, name386, comp386⟩
  · cases h; exact ⟨Try.f82, h387, Try.func82, name387, comp387⟩
  · cases h; exact ⟨Try.f59, h390, Try.func59, name390, comp390⟩
  · cases h; exact ⟨Try.f49, h391, Try.func49, name391, comp391⟩
  · cases h; exact ⟨Try.f50, h398, Try.func50, name398, comp398⟩
  · cases h; exact ⟨Try.f52, h399, Try.func52, name399, comp399⟩
  · cases h; exact ⟨Try.f51, h401, Try.func51, name401, comp401⟩
  · cases h; exact ⟨Try.f53, h402, Try.func53, name402, comp402⟩
  · cases h; exact ⟨Try.f131, h488, Try.func131, name488, comp488⟩
  · cases h; exact ⟨Try.f81, h489, Try.func81, name489, comp489⟩
  · cases h; exact ⟨Try.f79, h524, Try.func79, name524, comp524⟩
  · cases h; exact ⟨Try.f97, h529, Try.func97, name529, comp529⟩
  · cases h; exact ⟨Try.f86, h531, Try.func86, name531, comp531⟩
  · cases h; exact ⟨Try.f87, h532, Try.func87, name532, comp532⟩
  · cases h; exact ⟨Try.f129, h572, Try.func129, name572, comp572⟩
  · cases h; exact ⟨Try.f130, h573, Try.func130, name573, comp573⟩
  · cases h
end Fb
