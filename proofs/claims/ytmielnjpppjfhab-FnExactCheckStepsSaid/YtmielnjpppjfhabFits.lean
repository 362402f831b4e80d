/- Each function of the law is compiled by the checker to its text in the small language. -/
import Derived.Test.YtmielnjpppjfhabRow2
import Derived.Test.YtmielnjpppjfhabTab
import Derived.Test.YtmielnjpppjfhabRows
import Derived.KernelRfl
set_option linter.unusedVariables false
set_option linter.unusedSimpArgs false
namespace Fb
open Go Go.Proofs

def inv : FuncId → Option Nat := fun f => match f with
  | 6 => some 46
  | 27 => some 78
  | 88 => some 79
  | 91 => some 81
  | 95 => some 83
  | 9 => some 103
  | 11 => some 105
  | 14 => some 107
  | 85 => some 121
  | 77 => some 134
  | 18 => some 157
  | 20 => some 159
  | 22 => some 161
  | 93 => some 163
  | 84 => some 166
  | 13 => some 213
  | 29 => some 224
  | 30 => some 225
  | 43 => some 234
  | 79 => some 295
  | 76 => some 296
  | 73 => some 304
  | 118 => some 305
  | 158 => some 308
  | 196 => some 309
  | 160 => some 311
  | 163 => some 313
  | 78 => some 316
  | 72 => some 318
  | 107 => some 323
  | 108 => some 341
  | 146 => some 342
  | 131 => some 351
  | 129 => some 355
  | 128 => some 358
  | 116 => some 359
  | 92 => some 382
  | 89 => some 386
  | 162 => some 387
  | 157 => some 390
  | 90 => some 418
  | 94 => some 419
  | 117 => some 440
  | 123 => some 445
  | 124 => some 446
  | 147 => some 456
  | 211 => some 474
  | 199 => some 488
  | 161 => some 489
  | 181 => some 505
  | 182 => some 506
  | 159 => some 524
  | 195 => some 529
  | 179 => some 547
  | 197 => some 572
  | 198 => some 573
  | _ => none
def rho : Nat → FuncId := fun n => match n with
  | 46 => 6
  | 78 => 27
  | 79 => 88
  | 81 => 91
  | 83 => 95
  | 103 => 9
  | 105 => 11
  | 107 => 14
  | 121 => 85
  | 134 => 77
  | 157 => 18
  | 159 => 20
  | 161 => 22
  | 163 => 93
  | 166 => 84
  | 213 => 13
  | 224 => 29
  | 225 => 30
  | 234 => 43
  | 295 => 79
  | 296 => 76
  | 304 => 73
  | 305 => 118
  | 308 => 158
  | 309 => 196
  | 311 => 160
  | 313 => 163
  | 316 => 78
  | 318 => 72
  | 323 => 107
  | 341 => 108
  | 342 => 146
  | 351 => 131
  | 355 => 129
  | 358 => 128
  | 359 => 116
  | 382 => 92
  | 386 => 89
  | 387 => 162
  | 390 => 157
  | 418 => 90
  | 419 => 94
  | 440 => 117
  | 445 => 123
  | 446 => 124
  | 456 => 147
  | 474 => 211
  | 488 => 199
  | 489 => 161
  | 505 => 181
  | 506 => 182
  | 524 => 159
  | 529 => 195
  | 547 => 179
  | 572 => 197
  | 573 => 198
  | _ => 0
def isPure : Nat → Bool := fun n => !([305] : List Nat).contains n
theorem inv_rho : ∀ f i, inv f = some i → rho i = f := by
  intro f i h
  unfold inv at h
  split at h <;> first | (cases h; rfl) | cases h
def h46 : Hint := ⟨.pure, [], [0, 1, 4, 5, 6, 7, 8, 9, 10, 11, 12, 13, 18, 23, 49, 54, 59, 75]⟩
theorem comp46 : compFn Try.prog inv isPure h46 Try.f6 = some c46 := by kernel_rfl
theorem name46 : (Try.f6.name == "runtime.NumGoroutine") = false := by kernel_rfl
def h78 : Hint := ⟨.pure, [3, 2], [0, 1, 2, 3, 4, 5, 7, 16]⟩
theorem comp78 : compFn Try.prog inv isPure h78 Try.f27 = some c78 := by kernel_rfl
theorem name78 : (Try.f27.name == "runtime.NumGoroutine") = false := by kernel_rfl
def h79 : Hint := ⟨.pure, [2], [0, 1, 2, 4, 10]⟩
theorem comp79 : compFn Try.prog inv isPure h79 Try.f88 = some c79 := by kernel_rfl
theorem name79 : (Try.f88.name == "runtime.NumGoroutine") = false := by kernel_rfl
def h81 : Hint := ⟨.pure, [5, 4, 2], [0, 1, 2, 4, 5]⟩
theorem comp81 : compFn Try.prog inv isPure h81 Try.f91 = some c81 := by kernel_rfl
theorem name81 : (Try.f91.name == "runtime.NumGoroutine") = false := by kernel_rfl
def h83 : Hint := ⟨.pure, [3, 2], [0, 1, 2, 3, 4, 9, 14, 19, 24, 30]⟩
theorem comp83 : compFn Try.prog inv isPure h83 Try.f95 = some c83 := by kernel_rfl
theorem name83 : (Try.f95.name == "runtime.NumGoroutine") = false := by kernel_rfl
def h103 : Hint := ⟨.pure, [], [0, 1, 4, 10]⟩
theorem comp103 : compFn Try.prog inv isPure h103 Try.f9 = some c103 := by kernel_rfl
theorem name103 : (Try.f9.name == "runtime.NumGoroutine") = false := by kernel_rfl
def h105 : Hint := ⟨.pure, [], [0, 1, 4, 5, 6, 7, 13, 24, 40]⟩
theorem comp105 : compFn Try.prog inv isPure h105 Try.f11 = some c105 := by kernel_rfl
theorem name105 : (Try.f11.name == "runtime.NumGoroutine") = false := by kernel_rfl
def h107 : Hint := ⟨.pure, [], [0, 1, 4, 5]⟩
theorem comp107 : compFn Try.prog inv isPure h107 Try.f14 = some c107 := by kernel_rfl
theorem name107 : (Try.f14.name == "runtime.NumGoroutine") = false := by kernel_rfl
def h121 : Hint := ⟨.pure, [], [0, 1, 4, 5, 10, 14, 26]⟩
theorem comp121 : compFn Try.prog inv isPure h121 Try.f85 = some c121 := by kernel_rfl
theorem name121 : (Try.f85.name == "runtime.NumGoroutine") = false := by kernel_rfl
def h134 : Hint := ⟨.pure, [3, 2, 1], [0, 1, 2, 3, 4, 6]⟩
theorem comp134 : compFn Try.prog inv isPure h134 Try.f77 = some c134 := by kernel_rfl
theorem name134 : (Try.f77.name == "runtime.NumGoroutine") = false := by kernel_rfl
def h157 : Hint := ⟨.pure, [], [0, 1, 4, 5, 11, 15, 25]⟩
theorem comp157 : compFn Try.prog inv isPure h157 Try.f18 = some c157 := by kernel_rfl
theorem name157 : (Try.f18.name == "runtime.NumGoroutine") = false := by kernel_rfl
def h159 : Hint := ⟨.pure, [], [0, 1, 4, 5, 6, 7, 13, 24, 41]⟩
theorem comp159 : compFn Try.prog inv isPure h159 Try.f20 = some c159 := by kernel_rfl
theorem name159 : (Try.f20.name == "runtime.NumGoroutine") = false := by kernel_rfl
def h161 : Hint := ⟨.pure, [], [0, 1, 4, 5, 6, 17, 21, 33]⟩
theorem comp161 : compFn Try.prog inv isPure h161 Try.f22 = some c161 := by kernel_rfl
theorem name161 : (Try.f22.name == "runtime.NumGoroutine") = false := by kernel_rfl
def h163 : Hint := ⟨.pure, [4], [0, 2, 3, 4, 5, 6, 7, 8, 15]⟩
theorem comp163 : compFn Try.prog inv isPure h163 Try.f93 = some c163 := by kernel_rfl
theorem name163 : (Try.f93.name == "runtime.NumGoroutine") = false := by kernel_rfl
def h166 : Hint := ⟨.pure, [3, 2], [0, 1, 2, 3, 4, 9, 14, 19, 24, 30]⟩
theorem comp166 : compFn Try.prog inv isPure h166 Try.f84 = some c166 := by kernel_rfl
theorem name166 : (Try.f84.name == "runtime.NumGoroutine") = false := by kernel_rfl
def h213 : Hint := ⟨.pure, [], [0, 1, 4, 5, 10, 14, 26]⟩
theorem comp213 : compFn Try.prog inv isPure h213 Try.f13 = some c213 := by kernel_rfl
theorem name213 : (Try.f13.name == "runtime.NumGoroutine") = false := by kernel_rfl
def h224 : Hint := ⟨.pure, [], [0, 1, 4, 5, 13]⟩
theorem comp224 : compFn Try.prog inv isPure h224 Try.f29 = some c224 := by kernel_rfl
theorem name224 : (Try.f29.name == "runtime.NumGoroutine") = false := by kernel_rfl
def h225 : Hint := ⟨.pure, [], [0, 1, 4, 5, 13]⟩
theorem comp225 : compFn Try.prog inv isPure h225 Try.f30 = some c225 := by kernel_rfl
theorem name225 : (Try.f30.name == "runtime.NumGoroutine") = false := by kernel_rfl
def h234 : Hint := ⟨.pure, [], [0, 1, 2]⟩
theorem comp234 : compFn Try.prog inv isPure h234 Try.f43 = some c234 := by kernel_rfl
theorem name234 : (Try.f43.name == "runtime.NumGoroutine") = false := by kernel_rfl
def h295 : Hint := ⟨.pure, [], [0, 1, 2, 6]⟩
theorem comp295 : compFn Try.prog inv isPure h295 Try.f79 = some c295 := by kernel_rfl
theorem name295 : (Try.f79.name == "runtime.NumGoroutine") = false := by kernel_rfl
def h296 : Hint := ⟨.pure, [], [0, 2, 5, 8]⟩
theorem comp296 : compFn Try.prog inv isPure h296 Try.f76 = some c296 := by kernel_rfl
theorem name296 : (Try.f76.name == "runtime.NumGoroutine") = false := by kernel_rfl
def h304 : Hint := ⟨.pure, [], [0, 1, 2, 6]⟩
theorem comp304 : compFn Try.prog inv isPure h304 Try.f73 = some c304 := by kernel_rfl
theorem name304 : (Try.f73.name == "runtime.NumGoroutine") = false := by kernel_rfl
def h305 : Hint := ⟨.args, [], [0, 1, 2, 8]⟩
theorem comp305 : compFn Try.prog inv isPure h305 Try.f118 = some c305 := by kernel_rfl
theorem name305 : (Try.f118.name == "runtime.NumGoroutine") = false := by kernel_rfl
def h308 : Hint := ⟨.pure, [], [0, 1, 4, 10]⟩
theorem comp308 : compFn Try.prog inv isPure h308 Try.f158 = some c308 := by kernel_rfl
theorem name308 : (Try.f158.name == "runtime.NumGoroutine") = false := by kernel_rfl
def h309 : Hint := ⟨.pure, [], [0, 2]⟩
theorem comp309 : compFn Try.prog inv isPure h309 Try.f196 = some c309 := by kernel_rfl
theorem name309 : (Try.f196.name == "runtime.NumGoroutine") = false := by kernel_rfl
def h311 : Hint := ⟨.pure, [], [0, 1, 4, 5, 6, 7, 13, 24, 40]⟩
theorem comp311 : compFn Try.prog inv isPure h311 Try.f160 = some c311 := by kernel_rfl
theorem name311 : (Try.f160.name == "runtime.NumGoroutine") = false := by kernel_rfl
def h313 : Hint := ⟨.pure, [], [0, 1, 4, 5]⟩
theorem comp313 : compFn Try.prog inv isPure h313 Try.f163 = some c313 := by kernel_rfl
theorem name313 : (Try.f163.name == "runtime.NumGoroutine") = false := by kernel_rfl
def h316 : Hint := ⟨.pure, [], [0, 2]⟩
theorem comp316 : compFn Try.prog inv isPure h316 Try.f78 = some c316 := by kernel_rfl
theorem name316 : (Try.f78.name == "runtime.NumGoroutine") = false := by kernel_rfl
def h318 : Hint := ⟨.pure, [], [0, 2, 3, 7, 14]⟩
theorem comp318 : compFn Try.prog inv isPure h318 Try.f72 = some c318 := by kernel_rfl
theorem name318 : (Try.f72.name == "runtime.NumGoroutine") = false := by kernel_rfl
def h323 : Hint := ⟨.pure, [], [0, 1, 4, 5, 10, 14, 25]⟩
theorem comp323 : compFn Try.prog inv isPure h323 Try.f107 = some c323 := by kernel_rfl
theorem name323 : (Try.f107.name == "runtime.NumGoroutine") = false := by kernel_rfl
def h341 : Hint := ⟨.pure, [], [0, 1, 4, 5, 10, 12, 13, 14, 24]⟩
theorem comp341 : compFn Try.prog inv isPure h341 Try.f108 = some c341 := by kernel_rfl
theorem name341 : (Try.f108.name == "runtime.NumGoroutine") = false := by kernel_rfl
def h342 : Hint := ⟨.pure, [], [0, 1, 4]⟩
theorem comp342 : compFn Try.prog inv isPure h342 Try.f146 = some c342 := by kernel_rfl
theorem name342 : (Try.f146.name == "runtime.NumGoroutine") = false := by kernel_rfl
def h351 : Hint := ⟨.pure, [], [0, 2]⟩
theorem comp351 : compFn Try.prog inv isPure h351 Try.f131 = some c351 := by kernel_rfl
theorem name351 : (Try.f131.name == "runtime.NumGoroutine") = false := by kernel_rfl
def h355 : Hint := ⟨.pure, [6], [0, 1, 2, 6, 7, 8, 9, 16]⟩
theorem comp355 : compFn Try.prog inv isPure h355 Try.f129 = some c355 := by kernel_rfl
theorem name355 : (Try.f129.name == "runtime.NumGoroutine") = false := by kernel_rfl
def h358 : Hint := ⟨.pure, [7, 6, 3], [0, 1, 2, 3, 6, 7, 8, 9, 13, 15, 16, 23, 25]⟩
theorem comp358 : compFn Try.prog inv isPure h358 Try.f128 = some c358 := by kernel_rfl
theorem name358 : (Try.f128.name == "runtime.NumGoroutine") = false := by kernel_rfl
def h359 : Hint := ⟨.pure, [], [0, 2, 3, 5, 13]⟩
theorem comp359 : compFn Try.prog inv isPure h359 Try.f116 = some c359 := by kernel_rfl
theorem name359 : (Try.f116.name == "runtime.NumGoroutine") = false := by kernel_rfl
def h382 : Hint := ⟨.pure, [0], [0]⟩
theorem comp382 : compFn Try.prog inv isPure h382 Try.f92 = some c382 := by kernel_rfl
theorem name382 : (Try.f92.name == "runtime.NumGoroutine") = false := by kernel_rfl
def h386 : Hint := ⟨.pure, [], [0, 2, 3, 7, 15]⟩
theorem comp386 : compFn Try.prog inv isPure h386 Try.f89 = some c386 := by kernel_rfl
theorem name386 : (Try.f89.name == "runtime.NumGoroutine") = false := by kernel_rfl
def h387 : Hint := ⟨.pure, [6, 2], [0, 1, 2, 4, 5, 6, 7, 8, 10, 11, 12, 13, 44, 61, 62, 70, 76]⟩
theorem comp387 : compFn Try.prog inv isPure h387 Try.f162 = some c387 := by kernel_rfl
theorem name387 : (Try.f162.name == "runtime.NumGoroutine") = false := by kernel_rfl
def h390 : Hint := ⟨.pure, [], [0, 1, 4, 5, 10, 14, 26]⟩
theorem comp390 : compFn Try.prog inv isPure h390 Try.f157 = some c390 := by kernel_rfl
theorem name390 : (Try.f157.name == "runtime.NumGoroutine") = false := by kernel_rfl
def h418 : Hint := ⟨.pure, [6, 5], [0, 2, 3, 4, 5, 6, 7, 12, 21, 22, 29, 46]⟩
theorem comp418 : compFn Try.prog inv isPure h418 Try.f90 = some c418 := by kernel_rfl
theorem name418 : (Try.f90.name == "runtime.NumGoroutine") = false := by kernel_rfl
def h419 : Hint := ⟨.pure, [8, 6, 5], [0, 2, 3, 5, 6, 8, 10, 11, 12, 13, 19, 33, 34, 35, 36]⟩
theorem comp419 : compFn Try.prog inv isPure h419 Try.f94 = some c419 := by kernel_rfl
theorem name419 : (Try.f94.name == "runtime.NumGoroutine") = false := by kernel_rfl
def h440 : Hint := ⟨.pure, [], [0, 2, 3, 4, 5, 8, 12, 18]⟩
theorem comp440 : compFn Try.prog inv isPure h440 Try.f117 = some c440 := by kernel_rfl
theorem name440 : (Try.f117.name == "runtime.NumGoroutine") = false := by kernel_rfl
def h445 : Hint := ⟨.pure, [], [0, 1, 4]⟩
theorem comp445 : compFn Try.prog inv isPure h445 Try.f123 = some c445 := by kernel_rfl
theorem name445 : (Try.f123.name == "runtime.NumGoroutine") = false := by kernel_rfl
def h446 : Hint := ⟨.pure, [], [0, 2]⟩
theorem comp446 : compFn Try.prog inv isPure h446 Try.f124 = some c446 := by kernel_rfl
theorem name446 : (Try.f124.name == "runtime.NumGoroutine") = false := by kernel_rfl
def h456 : Hint := ⟨.pure, [], [0, 1, 2, 6]⟩
theorem comp456 : compFn Try.prog inv isPure h456 Try.f147 = some c456 := by kernel_rfl
theorem name456 : (Try.f147.name == "runtime.NumGoroutine") = false := by kernel_rfl
def h474 : Hint := ⟨.pure, [], [0, 1, 4, 5, 7, 8, 9, 16]⟩
theorem comp474 : compFn Try.prog inv isPure h474 Try.f211 = some c474 := by kernel_rfl
theorem name474 : (Try.f211.name == "runtime.NumGoroutine") = false := by kernel_rfl
def h488 : Hint := ⟨.pure, [3, 2, 1], [0, 1, 2, 3]⟩
theorem comp488 : compFn Try.prog inv isPure h488 Try.f199 = some c488 := by kernel_rfl
theorem name488 : (Try.f199.name == "runtime.NumGoroutine") = false := by kernel_rfl
def h489 : Hint := ⟨.pure, [0], [0]⟩
theorem comp489 : compFn Try.prog inv isPure h489 Try.f161 = some c489 := by kernel_rfl
theorem name489 : (Try.f161.name == "runtime.NumGoroutine") = false := by kernel_rfl
def h505 : Hint := ⟨.pure, [], [0, 1, 4]⟩
theorem comp505 : compFn Try.prog inv isPure h505 Try.f181 = some c505 := by kernel_rfl
theorem name505 : (Try.f181.name == "runtime.NumGoroutine") = false := by kernel_rfl
def h506 : Hint := ⟨.pure, [1], [0, 1, 2]⟩
theorem comp506 : compFn Try.prog inv isPure h506 Try.f182 = some c506 := by kernel_rfl
theorem name506 : (Try.f182.name == "runtime.NumGoroutine") = false := by kernel_rfl
def h524 : Hint := ⟨.pure, [], [0, 1, 4, 5, 38, 54, 55, 65]⟩
theorem comp524 : compFn Try.prog inv isPure h524 Try.f159 = some c524 := by kernel_rfl
theorem name524 : (Try.f159.name == "runtime.NumGoroutine") = false := by kernel_rfl
def h529 : Hint := ⟨.pure, [3, 2], [0, 1, 2, 3, 4, 9, 14]⟩
theorem comp529 : compFn Try.prog inv isPure h529 Try.f195 = some c529 := by kernel_rfl
theorem name529 : (Try.f195.name == "runtime.NumGoroutine") = false := by kernel_rfl
def h547 : Hint := ⟨.pure, [], [0, 1, 4, 5, 7, 8, 9, 16]⟩
theorem comp547 : compFn Try.prog inv isPure h547 Try.f179 = some c547 := by kernel_rfl
theorem name547 : (Try.f179.name == "runtime.NumGoroutine") = false := by kernel_rfl
def h572 : Hint := ⟨.pure, [], [0, 2]⟩
theorem comp572 : compFn Try.prog inv isPure h572 Try.f197 = some c572 := by kernel_rfl
theorem name572 : (Try.f197.name == "runtime.NumGoroutine") = false := by kernel_rfl
def h573 : Hint := ⟨.pure, [], [0, 2, 3, 7, 27, 43]⟩
theorem comp573 : compFn Try.prog inv isPure h573 Try.f198 = some c573 := by kernel_rfl
theorem name573 : (Try.f198.name == "runtime.NumGoroutine") = false := by kernel_rfl
theorem tab_ok : ∀ f D, tab f = some D → DefOk Try.prog inv isPure rho f D := by
  intro f D h
  unfold tab at h
  split at h
  · cases h; exact ⟨Try.f6, h46, Try.func6, name46, comp46⟩
  · cases h; exact ⟨Try.f27, h78, Try.func27, name78, comp78⟩
  · cases h; exact ⟨Try.f88, h79, Try.func88, name79, comp79⟩
  · cases h; exact ⟨Try.f91, h81, Try.func91, name81, comp81⟩
  · cases h; exact ⟨Try.f95, h83, Try.func95, name83, comp83⟩
  · cases h; exact ⟨Try.f9, h103, Try.func9, name103, comp103⟩
  · cases h; exact ⟨Try.f11, h105, Try.func11, name105, comp105⟩
  · cases h; exact ⟨Try.f14, h107, Try.func14, name107, comp107⟩
  · cases h; exact ⟨Try.f85, h121, Try.func85, name121, comp121⟩
  · cases h; exact ⟨Try.f77, h134, Try.func77, name134, comp134⟩
  · cases h; exact ⟨Try.f18, h157, Try.func18, name157, comp157⟩
  · cases h; exact ⟨Try.f20, h159, Try.func20, name159, comp159⟩
  · cases h; exact ⟨Try.f22, h161, Try.func22, name161, comp161⟩
  · cases h; exact ⟨Try.f93, h163, Try.func93, name163, comp163⟩
  · cases h; exact ⟨Try.f84, h166, Try.func84, name166, comp166⟩
  · cases h; exact ⟨Try.f13, h213, Try.func13, name213, comp213⟩
  · cases h; exact ⟨Try.f29, h224, Try.func29, name224, comp224⟩
  · cases h; exact ⟨Try.f30, h225, Try.func30, name225, comp225⟩
  · cases h; exact ⟨Try.f43, h234, Try.func43, name234, comp234⟩
  · cases h; exact ⟨Try.f79, h295, Try.func79, name295, comp295⟩
  · cases h; exact ⟨Try.f76, h296, Try.func76, name296, comp296⟩
  · cases h; exact ⟨Try.f73, h304, Try.func73, name304, comp304⟩
  · cases h; exact ⟨Try.f118, h305, Try.func118, name305, comp305⟩
  · cases h; exact ⟨Try.f158, h308, Try.func158, name308, comp308⟩
  · cases h; exact ⟨Try.f196, h309, Try.func196, name309, comp309⟩
  · cases h; exact ⟨Try.f160, h311, Try.func160, name311, comp311⟩
  · cases h; exact ⟨Try.f163, h313, Try.func163, name313, comp313⟩
  · cases h; exact ⟨Try.f78, h316, Try.func78, name316, comp316⟩
  · cases h; exact ⟨Try.f72, h318, Try.func72, name318, comp318⟩
  · cases h; exact ⟨Try.f107, h323, Try.func107, name323, comp323⟩
  · cases h; exact ⟨Try.f108, h341, Try.func108, name341, comp341⟩
  · cases h; exact ⟨Try.f146, h342, Try.func146, name342, comp342⟩
  · cases h; exact ⟨Try.f131, h351, Try.func131, name351, comp351⟩
  · cases h; exact ⟨Try.f129, h355, Try.func129, name355, comp355⟩
  · cases h; exact ⟨Try.f128, h358, Try.func128, name358, comp358⟩
  · cases h; exact ⟨Try.f116, h359, Try.func116, name359, comp359⟩
  · cases h; exact ⟨Try.f92, h382, Try.func92, name382, comp382⟩
  · cases h; exact ⟨Try.f89, h386, Try.func89, name386, comp386⟩
  · cases h; exact ⟨Try.f162, h387, Try.func162, name387, comp387⟩
  · cases h; exact ⟨Try.f157, h390, Try.func157, name390, comp390⟩
  · cases h; exact ⟨Try.f90, h418, Try.func90, name418, comp418⟩
  · cases h; exact ⟨Try.f94, h419, Try.func94, name419, comp419⟩
  · cases h; exact ⟨Try.f117, h440, Try.func117, name440, comp440⟩
  · cases h; exact ⟨Try.f123, h445, Try.func123, name445, comp445⟩
  · cases h; exact ⟨Try.f124, h446, Try.func124, name446, comp446⟩
  · cases h; exact ⟨Try.f147, h456, Try.func147, name456, comp456⟩
  · cases h; exact ⟨Try.f211, h474, Try.func211, name474, comp474⟩
  · cases h; exact ⟨Try.f199, h488, Try.func199, name488, comp488⟩
  · cases h; exact ⟨Try.f161, h489, Try.func161, name489, comp489⟩
  · cases h; exact ⟨Try.f181, h505, Try.func181, name505, comp505⟩
  · cases h; exact ⟨Try.f182, h506, Try.func182, name506, comp506⟩
  · cases h; exact ⟨Try.f159, h524, Try.func159, name524, comp524⟩
  · cases h; exact ⟨Try.f195, h529, Try.func195, name529, comp529⟩
  · cases h; exact ⟨Try.f179, h547, Try.func179, name547, comp547⟩
  · cases h; exact ⟨Try.f197, h572, Try.func197, name572, comp572⟩
  · cases h; exact ⟨Try.f198, h573, Try.func198, name573, comp573⟩
  · cases h
end Fb
