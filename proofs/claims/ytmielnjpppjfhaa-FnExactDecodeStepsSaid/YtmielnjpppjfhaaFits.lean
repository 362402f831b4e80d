/- Each function of the law is compiled by the checker to its text in the small language. -/
import Derived.Test.YtmielnjpppjfhaaRow2
import Derived.Test.YtmielnjpppjfhaaTab
import Derived.Test.YtmielnjpppjfhaaRows
import Derived.KernelRfl
set_option linter.unusedVariables false
set_option linter.unusedSimpArgs false
namespace Fb
open Go Go.Proofs

def inv : FuncId → Option Nat := fun f => match f with
  | 6 => some 40
  | 69 => some 78
  | 95 => some 79
  | 98 => some 81
  | 102 => some 83
  | 13 => some 121
  | 16 => some 122
  | 17 => some 123
  | 43 => some 157
  | 45 => some 159
  | 47 => some 161
  | 100 => some 163
  | 119 => some 166
  | 48 => some 181
  | 44 => some 203
  | 46 => some 204
  | 57 => some 213
  | 66 => some 295
  | 62 => some 296
  | 60 => some 304
  | 92 => some 305
  | 150 => some 308
  | 201 => some 309
  | 152 => some 311
  | 156 => some 313
  | 149 => some 342
  | 140 => some 355
  | 155 => some 358
  | 99 => some 382
  | 96 => some 386
  | 154 => some 387
  | 177 => some 390
  | 103 => some 391
  | 97 => some 418
  | 101 => some 419
  | 196 => some 440
  | 143 => some 456
  | 204 => some 488
  | 153 => some 489
  | 151 => some 524
  | 220 => some 529
  | 202 => some 572
  | 203 => some 573
  | _ => none
def rho : Nat → FuncId := fun n => match n with
  | 40 => 6
  | 78 => 69
  | 79 => 95
  | 81 => 98
  | 83 => 102
  | 121 => 13
  | 122 => 16
  | 123 => 17
  | 157 => 43
  | 159 => 45
  | 161 => 47
  | 163 => 100
  | 166 => 119
  | 181 => 48
  | 203 => 44
  | 204 => 46
  | 213 => 57
  | 295 => 66
  | 296 => 62
  | 304 => 60
  | 305 => 92
  | 308 => 150
  | 309 => 201
  | 311 => 152
  | 313 => 156
  | 342 => 149
  | 355 => 140
  | 358 => 155
  | 382 => 99
  | 386 => 96
  | 387 => 154
  | 390 => 177
  | 391 => 103
  | 418 => 97
  | 419 => 101
  | 440 => 196
  | 456 => 143
  | 488 => 204
  | 489 => 153
  | 524 => 151
  | 529 => 220
  | 572 => 202
  | 573 => 203
  | _ => 0
def isPure : Nat → Bool := fun n => !([122, 181, 305, 391] : List Nat).contains n
theorem inv_rho : ∀ f i, inv f = some i → rho i = f := by
  intro f i h
  unfold inv at h
  split at h <;> first | (cases h; rfl) | cases h
def h40 : Hint := ⟨.pure, [], [0, 2, 3, 4, 5, 6, 7, 8, 9, 10, 11, 12, 13, 18, 40, 45, 61, 69, 72, 87, 92, 95]⟩
theorem comp40 : compFn Try.prog inv isPure h40 Try.f6 = some c40 := by kernel_rfl
theorem name40 : (Try.f6.name == "runtime.NumGoroutine") = false := by kernel_rfl
def h78 : Hint := ⟨.pure, [3, 2], [0, 1, 2, 3, 4, 5, 7, 16]⟩
theorem comp78 : compFn Try.prog inv isPure h78 Try.f69 = some c78 := by kernel_rfl
theorem name78 : (Try.f69.name == "runtime.NumGoroutine") = false := by kernel_rfl
def h79 : Hint := ⟨.pure, [2], [0, 1, 2, 4, 10]⟩
theorem comp79 : compFn Try.prog inv isPure h79 Try.f95 = some c79 := by kernel_rfl
theorem name79 : (Try.f95.name == "runtime.NumGoroutine") = false := by kernel_rfl
def h81 : Hint := ⟨.pure, [5, 4, 2], [0, 1, 2, 4, 5]⟩
theorem comp81 : compFn Try.prog inv isPure h81 Try.f98 = some c81 := by kernel_rfl
theorem name81 : (Try.f98.name == "runtime.NumGoroutine") = false := by kernel_rfl
def h83 : Hint := ⟨.pure, [3, 2], [0, 1, 2, 3, 4, 9, 14, 19, 24, 30]⟩
theorem comp83 : compFn Try.prog inv isPure h83 Try.f102 = some c83 := by kernel_rfl
theorem name83 : (Try.f102.name == "runtime.NumGoroutine") = false := by kernel_rfl
def h121 : Hint := ⟨.pure, [], [0, 1, 4, 5, 10, 14, 26]⟩
theorem comp121 : compFn Try.prog inv isPure h121 Try.f13 = some c121 := by kernel_rfl
theorem name121 : (Try.f13.name == "runtime.NumGoroutine") = false := by kernel_rfl
def h122 : Hint := ⟨.args, [], [0, 1, 4, 5, 6, 10, 14]⟩
theorem comp122 : compFn Try.prog inv isPure h122 Try.f16 = some c122 := by kernel_rfl
theorem name122 : (Try.f16.name == "runtime.NumGoroutine") = false := by kernel_rfl
def h123 : Hint := ⟨.pure, [], [0, 1, 4, 5, 6, 10, 14, 25]⟩
theorem comp123 : compFn Try.prog inv isPure h123 Try.f17 = some c123 := by kernel_rfl
theorem name123 : (Try.f17.name == "runtime.NumGoroutine") = false := by kernel_rfl
def h157 : Hint := ⟨.pure, [], [0, 1, 4, 5, 11, 15, 25]⟩
theorem comp157 : compFn Try.prog inv isPure h157 Try.f43 = some c157 := by kernel_rfl
theorem name157 : (Try.f43.name == "runtime.NumGoroutine") = false := by kernel_rfl
def h159 : Hint := ⟨.pure, [], [0, 1, 4, 5, 6, 7, 13, 24, 41]⟩
theorem comp159 : compFn Try.prog inv isPure h159 Try.f45 = some c159 := by kernel_rfl
theorem name159 : (Try.f45.name == "runtime.NumGoroutine") = false := by kernel_rfl
def h161 : Hint := ⟨.pure, [], [0, 1, 4, 5, 6, 17, 21, 33]⟩
theorem comp161 : compFn Try.prog inv isPure h161 Try.f47 = some c161 := by kernel_rfl
theorem name161 : (Try.f47.name == "runtime.NumGoroutine") = false := by kernel_rfl
def h163 : Hint := ⟨.pure, [4], [0, 2, 3, 4, 5, 6, 7, 8, 15]⟩
theorem comp163 : compFn Try.prog inv isPure h163 Try.f100 = some c163 := by kernel_rfl
theorem name163 : (Try.f100.name == "runtime.NumGoroutine") = false := by kernel_rfl
def h166 : Hint := ⟨.pure, [3, 2], [0, 1, 2, 3, 4, 9, 14, 19, 24, 30]⟩
theorem comp166 : compFn Try.prog inv isPure h166 Try.f119 = some c166 := by kernel_rfl
theorem name166 : (Try.f119.name == "runtime.NumGoroutine") = false := by kernel_rfl
def h181 : Hint := ⟨.args, [], [0, 1, 4, 5, 9]⟩
theorem comp181 : compFn Try.prog inv isPure h181 Try.f48 = some c181 := by kernel_rfl
theorem name181 : (Try.f48.name == "runtime.NumGoroutine") = false := by kernel_rfl
def h203 : Hint := ⟨.pure, [], [0, 2, 3, 6]⟩
theorem comp203 : compFn Try.prog inv isPure h203 Try.f44 = some c203 := by kernel_rfl
theorem name203 : (Try.f44.name == "runtime.NumGoroutine") = false := by kernel_rfl
def h204 : Hint := ⟨.pure, [], [0, 2, 3, 6]⟩
theorem comp204 : compFn Try.prog inv isPure h204 Try.f46 = some c204 := by kernel_rfl
theorem name204 : (Try.f46.name == "runtime.NumGoroutine") = false := by kernel_rfl
def h213 : Hint := ⟨.pure, [], [0, 1, 4, 5, 10, 14, 26]⟩
theorem comp213 : compFn Try.prog inv isPure h213 Try.f57 = some c213 := by kernel_rfl
theorem name213 : (Try.f57.name == "runtime.NumGoroutine") = false := by kernel_rfl
def h295 : Hint := ⟨.pure, [], [0, 1, 2, 6]⟩
theorem comp295 : compFn Try.prog inv isPure h295 Try.f66 = some c295 := by kernel_rfl
theorem name295 : (Try.f66.name == "runtime.NumGoroutine") = false := by kernel_rfl
def h296 : Hint := ⟨.pure, [], [0, 2, 5, 8]⟩
theorem comp296 : compFn Try.prog inv isPure h296 Try.f62 = some c296 := by kernel_rfl
theorem name296 : (Try.f62.name == "runtime.NumGoroutine") = false := by kernel_rfl
def h304 : Hint := ⟨.pure, [], [0, 1, 2, 6]⟩
theorem comp304 : compFn Try.prog inv isPure h304 Try.f60 = some c304 := by kernel_rfl
theorem name304 : (Try.f60.name == "runtime.NumGoroutine") = false := by kernel_rfl
def h305 : Hint := ⟨.args, [], [0, 1, 2, 8]⟩
theorem comp305 : compFn Try.prog inv isPure h305 Try.f92 = some c305 := by kernel_rfl
theorem name305 : (Try.f92.name == "runtime.NumGoroutine") = false := by kernel_rfl
def h308 : Hint := ⟨.pure, [], [0, 1, 4, 10]⟩
theorem comp308 : compFn Try.prog inv isPure h308 Try.f150 = some c308 := by kernel_rfl
theorem name308 : (Try.f150.name == "runtime.NumGoroutine") = false := by kernel_rfl
def h309 : Hint := ⟨.pure, [], [0, 2]⟩
theorem comp309 : compFn Try.prog inv isPure h309 Try.f201 = some c309 := by kernel_rfl
theorem name309 : (Try.f201.name == "runtime.NumGoroutine") = false := by kernel_rfl
def h311 : Hint := ⟨.pure, [], [0, 1, 4, 5, 6, 7, 13, 24, 40]⟩
theorem comp311 : compFn Try.prog inv isPure h311 Try.f152 = some c311 := by kernel_rfl
theorem name311 : (Try.f152.name == "runtime.NumGoroutine") = false := by kernel_rfl
def h313 : Hint := ⟨.pure, [], [0, 1, 4, 5]⟩
theorem comp313 : compFn Try.prog inv isPure h313 Try.f156 = some c313 := by kernel_rfl
theorem name313 : (Try.f156.name == "runtime.NumGoroutine") = false := by kernel_rfl
def h342 : Hint := ⟨.pure, [], [0, 1, 4]⟩
theorem comp342 : compFn Try.prog inv isPure h342 Try.f149 = some c342 := by kernel_rfl
theorem name342 : (Try.f149.name == "runtime.NumGoroutine") = false := by kernel_rfl
def h355 : Hint := ⟨.pure, [6], [0, 1, 2, 6, 7, 8, 9, 16]⟩
theorem comp355 : compFn Try.prog inv isPure h355 Try.f140 = some c355 := by kernel_rfl
theorem name355 : (Try.f140.name == "runtime.NumGoroutine") = false := by kernel_rfl
def h358 : Hint := ⟨.pure, [7, 6, 3], [0, 1, 2, 3, 6, 7, 8, 9, 13, 15, 16, 23, 25]⟩
theorem comp358 : compFn Try.prog inv isPure h358 Try.f155 = some c358 := by kernel_rfl
theorem name358 : (Try.f155.name == "runtime.NumGoroutine") = false := by kernel_rfl
def h382 : Hint := ⟨.pure, [0], [0]⟩
theorem comp382 : compFn Try.prog inv isPure h382 Try.f99 = some c382 := by kernel_rfl
theorem name382 : (Try.f99.name == "runtime.NumGoroutine") = false := by kernel_rfl
def h386 : Hint := ⟨.pure, [], [0, 2, 3, 7, 15]⟩
theorem comp386 : compFn Try.prog inv isPure h386 Try.f96 = some c386 := by kernel_rfl
theorem name386 : (Try.f96.name == "runtime.NumGoroutine") = false := by kernel_rfl
def h387 : Hint := ⟨.pure, [6, 2], [0, 1, 2, 4, 5, 6, 7, 8, 10, 11, 12, 13, 44, 61, 62, 70, 76]⟩
theorem comp387 : compFn Try.prog inv isPure h387 Try.f154 = some c387 := by kernel_rfl
theorem name387 : (Try.f154.name == "runtime.NumGoroutine") = false := by kernel_rfl
def h390 : Hint := ⟨.pure, [], [0, 1, 4, 5, 10, 14, 26]⟩
theorem comp390 : compFn Try.prog inv isPure h390 Try.f177 = some c390 := by kernel_rfl
theorem name390 : (Try.f177.name == "runtime.NumGoroutine") = false := by kernel_rfl
def h391 : Hint := ⟨.args, [], [0, 1, 4, 5, 9]⟩
theorem comp391 : compFn Try.prog inv isPure h391 Try.f103 = some c391 := by kernel_rfl
theorem name391 : (Try.f103.name == "runtime.NumGoroutine") = false := by kernel_rfl
def h418 : Hint := ⟨.pure, [6, 5], [0, 2, 3, 4, 5, 6, 7, 12, 21, 22, 29, 46]⟩
theorem comp418 : compFn Try.prog inv isPure h418 Try.f97 = some c418 := by kernel_rfl
theorem name418 : (Try.f97.name == "runtime.NumGoroutine") = false := by kernel_rfl
def h419 : Hint := ⟨.pure, [8, 6, 5], [0, 2, 3, 5, 6, 8, 10, 11, 12, 13, 19, 33, 34, 35, 36]⟩
theorem comp419 : compFn Try.prog inv isPure h419 Try.f101 = some c419 := by kernel_rfl
theorem name419 : (Try.f101.name == "runtime.NumGoroutine") = false := by kernel_rfl
def h440 : Hint := ⟨.pure, [], [0, 2, 3, 4, 5, 8, 12, 18]⟩
theorem comp440 : compFn Try.prog inv isPure h440 Try.f196 = some c440 := by kernel_rfl
theorem name440 : (Try.f196.name == "runtime.NumGoroutine") = false := by kernel_rfl
def h456 : Hint := ⟨.pure, [], [0, 1, 2, 6]⟩
theorem comp456 : compFn Try.prog inv isPure h456 Try.f143 = some c456 := by kernel_rfl
theorem name456 : (Try.f143.name == "runtime.NumGoroutine") = false := by kernel_rfl
def h488 : Hint := ⟨.pure, [3, 2, 1], [0, 1, 2, 3]⟩
theorem comp488 : compFn Try.prog inv isPure h488 Try.f204 = some c488 := by kernel_rfl
theorem name488 : (Try.f204.name == "runtime.NumGoroutine") = false := by kernel_rfl
def h489 : Hint := ⟨.pure, [0], [0]⟩
theorem comp489 : compFn Try.prog inv isPure h489 Try.f153 = some c489 := by kernel_rfl
theorem name489 : (Try.f153.name == "runtime.NumGoroutine") = false := by kernel_rfl
def h524 : Hint := ⟨.pure, [], [0, 1, 4, 5, 38, 54, 55, 65]⟩
theorem comp524 : compFn Try.prog inv isPure h524 Try.f151 = some c524 := by kernel_rfl
theorem name524 : (Try.f151.name == "runtime.NumGoroutine") = false := by kernel_rfl
def h529 : Hint := ⟨.pure, [3, 2], [0, 1, 2, 3, 4, 9, 14]⟩
theorem comp529 : compFn Try.prog inv isPure h529 Try.f220 = some c529 := by kernel_rfl
theorem name529 : (Try.f220.name == "runtime.NumGoroutine") = false := by kernel_rfl
def h572 : Hint := ⟨.pure, [], [0, 2]⟩
theorem comp572 : compFn Try.prog inv isPure h572 Try.f202 = some c572 := by kernel_rfl
theorem name572 : (Try.f202.name == "runtime.NumGoroutine") = false := by kernel_rfl
def h573 : Hint := ⟨.pure, [], [0, 2, 3, 7, 27, 43]⟩
theorem comp573 : compFn Try.prog inv isPure h573 Try.f203 = some c573 := by kernel_rfl
theorem name573 : (Try.f203.name == "runtime.NumGoroutine") = false := by kernel_rfl
theorem tab_ok : ∀ f D, tab f = some D → DefOk Try.prog inv isPure rho f D := by
  intro f D h
  unfold tab at h
  split at h
  · cases h; exact ⟨Try.f6, h40, Try.func6, name40, comp40⟩
  · cases h; exact ⟨Try.f69, h78, Try.func69, name78, comp78⟩
  · cases h; exact ⟨Try.f95, h79, Try.func95, name79, comp79⟩
  · cases h; exact ⟨Try.f98, h81, Try.func98, name81, comp81⟩
  · cases h; exact ⟨Try.f102, h83, Try.func102, name83, comp83⟩
  · cases h; exact ⟨Try.f13, h121, Try.func13, name121, comp121⟩
  · cases h; exact ⟨Try.f16, h122, Try.func16, name122, comp122⟩
  · cases h; exact ⟨Try.f17, h123, Try.func17, name123, comp123⟩
  · cases h; exact ⟨Try.f43, h157, Try.func43, name157, comp157⟩
  · cases h; exact ⟨Try.f45, h159, Try.func45, name159, comp159⟩
  · cases h; exact ⟨Try.f47, h161, Try.func47, name161, comp161⟩
  · cases h; exact ⟨Try.f100, h163, Try.func100, name163, comp163⟩
  · cases h; exact ⟨Try.f119, h166, Try.func119, name166, comp166⟩
  · cases h; exact ⟨Try.f48, h181, Try.func48, name181, comp181⟩
  · cases h; exact ⟨Try.f44, h203, Try.func44, name203, comp203⟩
  · cases h; exact ⟨Try.f46, h204, Try.func46, name204, comp204⟩
  · cases h; exact ⟨Try.f57, h213, Try.func57, name213, comp213⟩
  · cases h; exact ⟨Try.f66, h295, Try.func66, name295, comp295⟩
  · cases h; exact ⟨Try.f62, h296, Try.func62, name296, comp296⟩
  · cases h; exact ⟨Try.f60, h304, Try.func60, name304, comp304⟩
  · cases h; exact ⟨Try.f92, h305, Try.func92, name305, comp305⟩
  · cases h; exact ⟨Try.f150, h308, Try.func150, name308, comp308⟩
  · cases h; exact ⟨Try.f201, h309, Try.func201, name309, comp309⟩
  · cases h; exact ⟨Try.f152, h311, Try.func152, name311, comp311⟩
  · cases h; exact ⟨Try.f156, h313, Try.func156, name313, comp313⟩
  · cases h; exact ⟨Try.f149, h342, Try.func149, name342, comp342⟩
  · cases h; exact ⟨Try.f140, h355, Try.func140, name355, comp355⟩
  · cases h; exact ⟨Try.f155, h358, Try.func155, name358, comp358⟩
  · cases h; exact ⟨Try.f99, h382, Try.func99, name382, comp382⟩
  · cases h; exact ⟨Try.f96, h386, Try.func96, name386, comp386⟩
  · cases h; exact ⟨Try.f154, h387, Try.func154, name387, comp387⟩
  · cases h; exact ⟨Try.f177, h390, Try.func177, name390, comp390⟩
  · cases h; exact ⟨Try.f103, h391, Try.func103, name391, comp391⟩
  · cases h; exact ⟨Try.f97, h418, Try.func97, name418, comp418⟩
  · cases h; exact ⟨Try.f101, h419, Try.func101, name419, comp419⟩
  · cases h; exact ⟨Try.f196, h440, Try.func196, name440, comp440⟩
  · cases h; exact ⟨Try.f143, h456, Try.func143, name456, comp456⟩
  · cases h; exact ⟨Try.f204, h488, Try.func204, name488, comp488⟩
  · cases h; exact ⟨Try.f153, h489, Try.func153, name489, comp489⟩
  · cases h; exact ⟨Try.f151, h524, Try.func151, name524, comp524⟩
  · cases h; exact ⟨Try.f220, h529, Try.func220, name529, comp529⟩
  · cases h; exact ⟨Try.f202, h572, Try.func202, name572, comp572⟩
  · cases h; exact ⟨Try.f203, h573, Try.func203, name573, comp573⟩
  · cases h
end Fb
