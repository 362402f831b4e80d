/- Each function of the law is compiled by the checker to its text in the small language. -/
import Derived.Test.YtneicaopmfbdlaaRow2
import Derived.Test.YtneicaopmfbdlaaTab
import Derived.Test.YtneicaopmfbdlaaRows
import Derived.KernelRfl
set_option linter.unusedVariables false
set_option linter.unusedSimpArgs false
namespace Fb
open Go Go.Proofs

def inv : FuncId → Option Nat := fun f => match f with
  | 4 => some 43
  | 36 => some 78
  | 5 => some 103
  | 7 => some 105
  | 10 => some 107
  | 22 => some 121
  | 11 => some 122
  | 20 => some 134
  | 21 => some 166
  | 12 => some 181
  | 9 => some 213
  | 13 => some 214
  | 14 => some 215
  | 15 => some 216
  | 46 => some 234
  | 27 => some 295
  | 19 => some 296
  | 25 => some 304
  | 34 => some 310
  | 40 => some 312
  | 26 => some 316
  | 16 => some 318
  | 37 => some 351
  | 48 => some 358
  | 32 => some 359
  | 47 => some 367
  | 42 => some 388
  | 39 => some 389
  | 35 => some 390
  | 23 => some 391
  | 24 => some 392
  | 18 => some 396
  | 31 => some 397
  | 30 => some 400
  | 33 => some 404
  | 28 => some 406
  | 17 => some 430
  | 29 => some 431
  | 55 => some 443
  | 53 => some 445
  | 54 => some 446
  | 52 => some 474
  | 50 => some 490
  | 44 => some 505
  | 45 => some 506
  | 56 => some 512
  | 41 => some 525
  | 51 => some 526
  | 38 => some 527
  | 49 => some 528
  | 43 => some 529
  | 57 => some 547
  | _ => none
def rho : Nat → FuncId := fun n => match n with
  | 43 => 4
  | 78 => 36
  | 103 => 5
  | 105 => 7
  | 107 => 10
  | 121 => 22
  | 122 => 11
  | 134 => 20
  | 166 => 21
  | 181 => 12
  | 213 => 9
  | 214 => 13
  | 215 => 14
  | 216 => 15
  | 234 => 46
  | 295 => 27
  | 296 => 19
  | 304 => 25
  | 310 => 34
  | 312 => 40
  | 316 => 26
  | 318 => 16
  | 351 => 37
  | 358 => 48
  | 359 => 32
  | 367 => 47
  | 388 => 42
  | 389 => 39
  | 390 => 35
  | 391 => 23
  | 392 => 24
  | 396 => 18
  | 397 => 31
  | 400 => 30
  | 404 => 33
  | 406 => 28
  | 430 => 17
  | 431 => 29
  | 443 => 55
  | 445 => 53
  | 446 => 54
  | 474 => 52
  | 490 => 50
  | 505 => 44
  | 506 => 45
  | 512 => 56
  | 525 => 41
  | 526 => 51
  | 527 => 38
  | 528 => 49
  | 529 => 43
  | 547 => 57
  | _ => 0
def isPure : Nat → Bool := fun n => !([122, 181, 391] : List Nat).contains n
theorem inv_rho : ∀ f i, inv f = some i → rho i = f := by
  intro f i h
  unfold inv at h
  split at h <;> first | (cases h; rfl) | cases h
def h43 : Hint := ⟨.pure, [], [0, 1, 4, 5, 6, 7, 8, 9, 10, 11, 12, 13, 14, 15, 16, 17, 18, 23, 54, 59, 80, 88, 91, 113, 118, 121]⟩
theorem comp43 : compFn Try.prog inv isPure h43 Try.f4 = some c43 := by kernel_rfl
theorem name43 : (Try.f4.name == "runtime.NumGoroutine") = false := by kernel_rfl
def h78 : Hint := ⟨.pure, [3, 2], [0, 1, 2, 3, 4, 5, 7, 16]⟩
theorem comp78 : compFn Try.prog inv isPure h78 Try.f36 = some c78 := by kernel_rfl
theorem name78 : (Try.f36.name == "runtime.NumGoroutine") = false := by kernel_rfl
def h103 : Hint := ⟨.pure, [], [0, 1, 4, 10]⟩
theorem comp103 : compFn Try.prog inv isPure h103 Try.f5 = some c103 := by kernel_rfl
theorem name103 : (Try.f5.name == "runtime.NumGoroutine") = false := by kernel_rfl
def h105 : Hint := ⟨.pure, [], [0, 1, 4, 5, 6, 7, 13, 24, 40]⟩
theorem comp105 : compFn Try.prog inv isPure h105 Try.f7 = some c105 := by kernel_rfl
theorem name105 : (Try.f7.name == "runtime.NumGoroutine") = false := by kernel_rfl
def h107 : Hint := ⟨.pure, [], [0, 1, 4, 5]⟩
theorem comp107 : compFn Try.prog inv isPure h107 Try.f10 = some c107 := by kernel_rfl
theorem name107 : (Try.f10.name == "runtime.NumGoroutine") = false := by kernel_rfl
def h121 : Hint := ⟨.pure, [], [0, 1, 4, 5, 10, 14, 26]⟩
theorem comp121 : compFn Try.prog inv isPure h121 Try.f22 = some c121 := by kernel_rfl
theorem name121 : (Try.f22.name == "runtime.NumGoroutine") = false := by kernel_rfl
def h122 : Hint := ⟨.args, [], [0, 1, 4, 5, 6, 10, 14]⟩
theorem comp122 : compFn Try.prog inv isPure h122 Try.f11 = some c122 := by kernel_rfl
theorem name122 : (Try.f11.name == "runtime.NumGoroutine") = false := by kernel_rfl
def h134 : Hint := ⟨.pure, [3, 2, 1], [0, 1, 2, 3, 4, 6]⟩
theorem comp134 : compFn Try.prog inv isPure h134 Try.f20 = some c134 := by kernel_rfl
theorem name134 : (Try.f20.name == "runtime.NumGoroutine") = false := by kernel_rfl
def h166 : Hint := ⟨.pure, [3, 2], [0, 1, 2, 3, 4, 9, 14, 19, 24, 30]⟩
theorem comp166 : compFn Try.prog inv isPure h166 Try.f21 = some c166 := by kernel_rfl
theorem name166 : (Try.f21.name == "runtime.NumGoroutine") = false := by kernel_rfl
def h181 : Hint := ⟨.args, [], [0, 1, 4, 5, 9]⟩
theorem comp181 : compFn Try.prog inv isPure h181 Try.f12 = some c181 := by kernel_rfl
theorem name181 : (Try.f12.name == "runtime.NumGoroutine") = false := by kernel_rfl
def h213 : Hint := ⟨.pure, [], [0, 1, 4, 5, 10, 14, 26]⟩
theorem comp213 : compFn Try.prog inv isPure h213 Try.f9 = some c213 := by kernel_rfl
theorem name213 : (Try.f9.name == "runtime.NumGoroutine") = false := by kernel_rfl
def h214 : Hint := ⟨.pure, [], [0, 1, 4, 5, 9, 19, 29, 39, 49, 60]⟩
theorem comp214 : compFn Try.prog inv isPure h214 Try.f13 = some c214 := by kernel_rfl
theorem name214 : (Try.f13.name == "runtime.NumGoroutine") = false := by kernel_rfl
def h215 : Hint := ⟨.pure, [], [0, 1, 4, 5, 6, 7, 10, 14]⟩
theorem comp215 : compFn Try.prog inv isPure h215 Try.f14 = some c215 := by kernel_rfl
theorem name215 : (Try.f14.name == "runtime.NumGoroutine") = false := by kernel_rfl
def h216 : Hint := ⟨.pure, [10], [0, 1, 3, 4, 5, 6, 7, 8, 9, 10, 11, 15, 22, 23, 24]⟩
theorem comp216 : compFn Try.prog inv isPure h216 Try.f15 = some c216 := by kernel_rfl
theorem name216 : (Try.f15.name == "runtime.NumGoroutine") = false := by kernel_rfl
def h234 : Hint := ⟨.pure, [], [0, 1, 2]⟩
theorem comp234 : compFn Try.prog inv isPure h234 Try.f46 = some c234 := by kernel_rfl
theorem name234 : (Try.f46.name == "runtime.NumGoroutine") = false := by kernel_rfl
def h295 : Hint := ⟨.pure, [], [0, 1, 2, 6]⟩
theorem comp295 : compFn Try.prog inv isPure h295 Try.f27 = some c295 := by kernel_rfl
theorem name295 : (Try.f27.name == "runtime.NumGoroutine") = false := by kernel_rfl
def h296 : Hint := ⟨.pure, [], [0, 2, 5, 8]⟩
theorem comp296 : compFn Try.prog inv isPure h296 Try.f19 = some c296 := by kernel_rfl
theorem name296 : (Try.f19.name == "runtime.NumGoroutine") = false := by kernel_rfl
def h304 : Hint := ⟨.pure, [], [0, 1, 2, 6]⟩
theorem comp304 : compFn Try.prog inv isPure h304 Try.f25 = some c304 := by kernel_rfl
theorem name304 : (Try.f25.name == "runtime.NumGoroutine") = false := by kernel_rfl
def h310 : Hint := ⟨.pure, [3], [0, 2, 3]⟩
theorem comp310 : compFn Try.prog inv isPure h310 Try.f34 = some c310 := by kernel_rfl
theorem name310 : (Try.f34.name == "runtime.NumGoroutine") = false := by kernel_rfl
def h312 : Hint := ⟨.pure, [3, 1], [0, 1, 2, 3]⟩
theorem comp312 : compFn Try.prog inv isPure h312 Try.f40 = some c312 := by kernel_rfl
theorem name312 : (Try.f40.name == "runtime.NumGoroutine") = false := by kernel_rfl
def h316 : Hint := ⟨.pure, [], [0, 2]⟩
theorem comp316 : compFn Try.prog inv isPure h316 Try.f26 = some c316 := by kernel_rfl
theorem name316 : (Try.f26.name == "runtime.NumGoroutine") = false := by kernel_rfl
def h318 : Hint := ⟨.pure, [], [0, 2, 3, 7, 14]⟩
theorem comp318 : compFn Try.prog inv isPure h318 Try.f16 = some c318 := by kernel_rfl
theorem name318 : (Try.f16.name == "runtime.NumGoroutine") = false := by kernel_rfl
def h351 : Hint := ⟨.pure, [], [0, 2]⟩
theorem comp351 : compFn Try.prog inv isPure h351 Try.f37 = some c351 := by kernel_rfl
theorem name351 : (Try.f37.name == "runtime.NumGoroutine") = false := by kernel_rfl
def h358 : Hint := ⟨.pure, [7, 6, 3], [0, 1, 2, 3, 6, 7, 8, 9, 13, 15, 16, 23, 25]⟩
theorem comp358 : compFn Try.prog inv isPure h358 Try.f48 = some c358 := by kernel_rfl
theorem name358 : (Try.f48.name == "runtime.NumGoroutine") = false := by kernel_rfl
def h359 : Hint := ⟨.pure, [], [0, 2, 3, 5, 13]⟩
theorem comp359 : compFn Try.prog inv isPure h359 Try.f32 = some c359 := by kernel_rfl
theorem name359 : (Try.f32.name == "runtime.NumGoroutine") = false := by kernel_rfl
def h367 : Hint := ⟨.pure, [4, 3, 2], [0, 1, 2, 3, 4]⟩
theorem comp367 : compFn Try.prog inv isPure h367 Try.f47 = some c367 := by kernel_rfl
theorem name367 : (Try.f47.name == "runtime.NumGoroutine") = false := by kernel_rfl
def h388 : Hint := ⟨.pure, [6], [0, 1, 2, 6, 7, 8, 9, 10, 11, 23, 27, 35, 47]⟩
theorem comp388 : compFn Try.prog inv isPure h388 Try.f42 = some c388 := by kernel_rfl
theorem name388 : (Try.f42.name == "runtime.NumGoroutine") = false := by kernel_rfl
def h389 : Hint := ⟨.pure, [10, 7, 6, 4, 3], [0, 1, 2, 3, 4, 6, 7, 8, 9, 10, 18, 22, 30, 42]⟩
theorem comp389 : compFn Try.prog inv isPure h389 Try.f39 = some c389 := by kernel_rfl
theorem name389 : (Try.f39.name == "runtime.NumGoroutine") = false := by kernel_rfl
def h390 : Hint := ⟨.pure, [], [0, 1, 4, 5, 10, 14, 26]⟩
theorem comp390 : compFn Try.prog inv isPure h390 Try.f35 = some c390 := by kernel_rfl
theorem name390 : (Try.f35.name == "runtime.NumGoroutine") = false := by kernel_rfl
def h391 : Hint := ⟨.args, [], [0, 1, 4, 5, 9]⟩
theorem comp391 : compFn Try.prog inv isPure h391 Try.f23 = some c391 := by kernel_rfl
theorem name391 : (Try.f23.name == "runtime.NumGoroutine") = false := by kernel_rfl
def h392 : Hint := ⟨.pure, [], [0, 1, 4, 5, 9, 19, 29]⟩
theorem comp392 : compFn Try.prog inv isPure h392 Try.f24 = some c392 := by kernel_rfl
theorem name392 : (Try.f24.name == "runtime.NumGoroutine") = false := by kernel_rfl
def h396 : Hint := ⟨.pure, [], [0, 2, 3, 4, 8]⟩
theorem comp396 : compFn Try.prog inv isPure h396 Try.f18 = some c396 := by kernel_rfl
theorem name396 : (Try.f18.name == "runtime.NumGoroutine") = false := by kernel_rfl
def h397 : Hint := ⟨.pure, [5], [0, 2, 3, 5, 6, 7, 8, 9]⟩
theorem comp397 : compFn Try.prog inv isPure h397 Try.f31 = some c397 := by kernel_rfl
theorem name397 : (Try.f31.name == "runtime.NumGoroutine") = false := by kernel_rfl
def h400 : Hint := ⟨.pure, [2], [0, 1, 2, 4, 7]⟩
theorem comp400 : compFn Try.prog inv isPure h400 Try.f30 = some c400 := by kernel_rfl
theorem name400 : (Try.f30.name == "runtime.NumGoroutine") = false := by kernel_rfl
def h404 : Hint := ⟨.pure, [8], [0, 1, 2, 3, 8, 9, 10, 11, 12, 21, 29, 40]⟩
theorem comp404 : compFn Try.prog inv isPure h404 Try.f33 = some c404 := by kernel_rfl
theorem name404 : (Try.f33.name == "runtime.NumGoroutine") = false := by kernel_rfl
def h406 : Hint := ⟨.pure, [9, 7, 6], [0, 1, 2, 6, 7, 8, 9, 17, 18, 19, 24, 39]⟩
theorem comp406 : compFn Try.prog inv isPure h406 Try.f28 = some c406 := by kernel_rfl
theorem name406 : (Try.f28.name == "runtime.NumGoroutine") = false := by kernel_rfl
def h430 : Hint := ⟨.pure, [8], [0, 1, 4, 5, 6, 7, 8, 9, 15, 25]⟩
theorem comp430 : compFn Try.prog inv isPure h430 Try.f17 = some c430 := by kernel_rfl
theorem name430 : (Try.f17.name == "runtime.NumGoroutine") = false := by kernel_rfl
def h431 : Hint := ⟨.pure, [], [0, 1, 2, 4]⟩
theorem comp431 : compFn Try.prog inv isPure h431 Try.f29 = some c431 := by kernel_rfl
theorem name431 : (Try.f29.name == "runtime.NumGoroutine") = false := by kernel_rfl
def h443 : Hint := ⟨.pure, [6, 4, 3], [0, 1, 2, 3, 4, 6, 7, 8, 9, 10, 11]⟩
theorem comp443 : compFn Try.prog inv isPure h443 Try.f55 = some c443 := by kernel_rfl
theorem name443 : (Try.f55.name == "runtime.NumGoroutine") = false := by kernel_rfl
def h445 : Hint := ⟨.pure, [], [0, 1, 4]⟩
theorem comp445 : compFn Try.prog inv isPure h445 Try.f53 = some c445 := by kernel_rfl
theorem name445 : (Try.f53.name == "runtime.NumGoroutine") = false := by kernel_rfl
def h446 : Hint := ⟨.pure, [], [0, 2]⟩
theorem comp446 : compFn Try.prog inv isPure h446 Try.f54 = some c446 := by kernel_rfl
theorem name446 : (Try.f54.name == "runtime.NumGoroutine") = false := by kernel_rfl
def h474 : Hint := ⟨.pure, [], [0, 1, 4, 5, 7, 8, 9, 16]⟩
theorem comp474 : compFn Try.prog inv isPure h474 Try.f52 = some c474 := by kernel_rfl
theorem name474 : (Try.f52.name == "runtime.NumGoroutine") = false := by kernel_rfl
def h490 : Hint := ⟨.pure, [], [0, 2]⟩
theorem comp490 : compFn Try.prog inv isPure h490 Try.f50 = some c490 := by kernel_rfl
theorem name490 : (Try.f50.name == "runtime.NumGoroutine") = false := by kernel_rfl
def h505 : Hint := ⟨.pure, [], [0, 1, 4]⟩
theorem comp505 : compFn Try.prog inv isPure h505 Try.f44 = some c505 := by kernel_rfl
theorem name505 : (Try.f44.name == "runtime.NumGoroutine") = false := by kernel_rfl
def h506 : Hint := ⟨.pure, [1], [0, 1, 2]⟩
theorem comp506 : compFn Try.prog inv isPure h506 Try.f45 = some c506 := by kernel_rfl
theorem name506 : (Try.f45.name == "runtime.NumGoroutine") = false := by kernel_rfl
def h512 : Hint := ⟨.pure, [], [0, 1, 4]⟩
theorem comp512 : compFn Try.prog inv isPure h512 Try.f56 = some c512 := by kernel_rfl
theorem name512 : (Try.f56.name == "runtime.NumGoroutine") = false := by kernel_rfl
def h525 : Hint := ⟨.pure, [], [0, 1, 4, 5, 6, 9, 22]⟩
theorem comp525 : compFn Try.prog inv isPure h525 Try.f41 = some c525 := by kernel_rfl
theorem name525 : (Try.f41.name == "runtime.NumGoroutine") = false := by kernel_rfl
def h526 : Hint := ⟨.pure, [7, 6], [0, 1, 2, 6, 7, 8, 9, 12, 20, 22]⟩
theorem comp526 : compFn Try.prog inv isPure h526 Try.f51 = some c526 := by kernel_rfl
theorem name526 : (Try.f51.name == "runtime.NumGoroutine") = false := by kernel_rfl
def h527 : Hint := ⟨.pure, [6, 5, 4, 3], [0, 1, 2, 3, 4, 5, 6, 7, 8, 12, 13, 14, 18]⟩
theorem comp527 : compFn Try.prog inv isPure h527 Try.f38 = some c527 := by kernel_rfl
theorem name527 : (Try.f38.name == "runtime.NumGoroutine") = false := by kernel_rfl
def h528 : Hint := ⟨.pure, [3, 2], [0, 1, 2, 3, 4, 5, 6, 7, 8, 9, 10, 17]⟩
theorem comp528 : compFn Try.prog inv isPure h528 Try.f49 = some c528 := by kernel_rfl
theorem name528 : (Try.f49.name == "runtime.NumGoroutine") = false := by kernel_rfl
def h529 : Hint := ⟨.pure, [3, 2], [0, 1, 2, 3, 4, 9, 14]⟩
theorem comp529 : compFn Try.prog inv isPure h529 Try.f43 = some c529 := by kernel_rfl
theorem name529 : (Try.f43.name == "runtime.NumGoroutine") = false := by kernel_rfl
def h547 : Hint := ⟨.pure, [], [0, 1, 4, 5, 7, 8, 9, 16]⟩
theorem comp547 : compFn Try.prog inv isPure h547 Try.f57 = some c547 := by kernel_rfl
theorem name547 : (Try.f57.name == "runtime.NumGoroutine") = false := by kernel_rfl
theorem tab_ok : ∀ f D, tab f = some D → DefOk Try.prog inv isPure rho f D := by
  intro f D h
  unfold tab at h
  split at h
  · cases h; exact ⟨Try.f4, h43, Try.func4, name43, comp43⟩
  · cases h; exact ⟨Try.f36, h78, Try.func36, name78, comp78⟩
  · cases h; exact ⟨Try.f5, h103, Try.func5, name103, comp103⟩
  · cases h; exact ⟨Try.f7, h105, Try.func7, name105, comp105⟩
  · cases h; exact ⟨Try.f10, h107, Try.func10, name107, comp107⟩
  · cases h; exact ⟨Try.f22, h121, Try.func22, name121, comp121⟩
  · cases h; exact ⟨Try.f11, h122, Try.func11, name122, comp122⟩
  · cases h; exact ⟨Try.f20, h134, Try.func20, name134, comp134⟩
  · cases h; exact ⟨Try.f21, h166, Try.func21, name166, comp166⟩
  · cases h; exact ⟨Try.f12, h181, Try.func12, name181, comp181⟩
  · cases h; exact ⟨Try.f9, h213, Try.func9, name213, comp213⟩
  · cases h; exact ⟨Try.f13, h214, Try.func13, name214, comp214⟩
  · cases h; exact ⟨Try.f14, h215, Try.func14, name215, comp215⟩
  · cases h; exact ⟨Try.f15, h216, Try.func15, name216, comp216⟩
  · cases h; exact ⟨Try.f46, h234, Try.func46, name234, comp234⟩
  · cases h; exact ⟨Try.f27, h295, Try.func27, name295, comp295⟩
  · cases h; exact ⟨Try.f19, h296, Try.func19, name296, comp296⟩
  · cases h; exact ⟨Try.f25, h304, Try.func25, name304, comp304⟩
  · cases h; exact ⟨Try.f34, h310, Try.func34, name310, comp310⟩
  · cases h; exact ⟨Try.f40, h312, Try.func40, name312, comp312⟩
  · cases h; exact ⟨Try.f26, h316, Try.func26, name316, comp316⟩
  · cases h; exact ⟨Try.f16, h318, Try.func16, name318, comp318⟩
  · cases h; exact ⟨Try.f37, h351, Try.func37, name351, comp351⟩
  · cases h; exact ⟨Try.f48, h358, Try.func48, name358, comp358⟩
  · cases h; exact ⟨Try.f32, h359, Try.func32, name359, comp359⟩
  · cases h; exact ⟨Try.f47, h367, Try.func47, name367, comp367⟩
  · cases h; exact ⟨Try.f42, h388, Try.func42, name388, comp388⟩
  · cases h; exact ⟨Try.f39, h389, Try.func39, name389, comp389⟩
  · cases h; exact ⟨Try.f35, h390, Try.func35, name390, comp390⟩
  · cases h; exact ⟨Try.f23, h391, Try.func23, name391, comp391⟩
  · cases h; exact ⟨Try.f24, h392, Try.func24, name392, comp392⟩
  · cases h; exact ⟨Try.f18, h396, Try.func18, name396, comp396⟩
  · cases h; exact ⟨Try.f31, h397, Try.func31, name397, comp397⟩
  · cases h; exact ⟨Try.f30, h400, Try.func30, name400, comp400⟩
  · cases h; exact ⟨Try.f33, h404, Try.func33, name404, comp404⟩
  · cases h; exact ⟨Try.f28, h406, Try.func28, name406, comp406⟩
  · cases h; exact ⟨Try.f17, h430, Try.func17, name430, comp430⟩
  · cases h; exact ⟨Try.f29, h431, Try.func29, name431, comp431⟩
  · cases h; exact ⟨Try.f55, h443, Try.func55, name443, comp443⟩
  · cases h; exact ⟨Try.f53, h445, Try.func53, name445, comp445⟩
  · cases h; exact ⟨Try.f54, h446, Try.func54, name446, comp446⟩
  · cases h; exact ⟨Try.f52, h474, Try.func52, name474, comp474⟩
  · cases h; exact ⟨Try.f50, h490, Try.func50, name490, comp490⟩
  · cases h; exact ⟨Try.f44, h505, Try.func44, name505, comp505⟩
  · cases h; exact ⟨Try.f45, h506, Try.func45, name506, comp506⟩
  · cases h; exact ⟨Try.f56, h512, Try.func56, name512, comp512⟩
  · cases h; exact ⟨Try.f41, h525, Try.func41, name525, comp525⟩
  · cases h; exact ⟨Try.f51, h526, Try.func51, name526, comp526⟩
  · cases h; exact ⟨Try.f38, h527, Try.func38, name527, comp527⟩
  · cases h; exact ⟨Try.f49, h528, Try.func49, name528, comp528⟩
  · cases h; exact ⟨Try.f43, h529, Try.func43, name529, comp529⟩
  · cases h; exact ⟨Try.f57, h547, Try.func57, name547, comp547⟩
  · cases h
end Fb
