/- Each function of the law is compiled by the checker to its text in the small language. -/
import Derived.Test.YtenmbknaocedfaaRow2
import Derived.Test.YtenmbknaocedfaaTab
import Derived.Test.YtenmbknaocedfaaRows
import Derived.KernelRfl
set_option linter.unusedVariables false
set_option linter.unusedSimpArgs false
namespace Fb
open Go Go.Proofs

def inv : FuncId → Option Nat := fun f => match f with
  | 5 => some 27
  | 17 => some 134
  | 16 => some 164
  | 18 => some 165
  | 19 => some 166
  | 20 => some 167
  | 21 => some 168
  | 59 => some 234
  | 52 => some 295
  | 49 => some 304
  | 71 => some 310
  | 73 => some 312
  | 51 => some 351
  | 84 => some 358
  | 48 => some 359
  | 102 => some 367
  | 50 => some 388
  | 53 => some 389
  | 54 => some 390
  | 55 => some 391
  | 56 => some 392
  | 106 => some 443
  | 90 => some 445
  | 91 => some 446
  | 101 => some 474
  | 96 => some 490
  | 81 => some 505
  | 82 => some 506
  | 107 => some 512
  | 79 => some 525
  | 80 => some 526
  | 83 => some 527
  | 85 => some 528
  | 86 => some 529
  | 105 => some 547
  | _ => none
def rho : Nat → FuncId := fun n => match n with
  | 27 => 5
  | 134 => 17
  | 164 => 16
  | 165 => 18
  | 166 => 19
  | 167 => 20
  | 168 => 21
  | 234 => 59
  | 295 => 52
  | 304 => 49
  | 310 => 71
  | 312 => 73
  | 351 => 51
  | 358 => 84
  | 359 => 48
  | 367 => 102
  | 388 => 50
  | 389 => 53
  | 390 => 54
  | 391 => 55
  | 392 => 56
  | 443 => 106
  | 445 => 90
  | 446 => 91
  | 474 => 101
  | 490 => 96
  | 505 => 81
  | 506 => 82
  | 512 => 107
  | 525 => 79
  | 526 => 80
  | 527 => 83
  | 528 => 85
  | 529 => 86
  | 547 => 105
  | _ => 0
def isPure : Nat → Bool := fun n => !([167, 391] : List Nat).contains n
theorem inv_rho : ∀ f i, inv f = some i → rho i = f := by
  intro f i h
  unfold inv at h
  split at h <;> first | (cases h; rfl) | cases h
def h27 : Hint := ⟨.pure, [13, 9, 7, 4, 3], [0, 1, 2, 3, 4, 6, 7, 8, 9, 10, 11, 12, 13, 14, 41, 49, 52, 70, 75, 78]⟩
theorem comp27 : compFn Try.prog inv isPure h27 Try.f5 = some c27 := by kernel_rfl
theorem name27 : (Try.f5.name == "runtime.NumGoroutine") = false := by kernel_rfl
def h134 : Hint := ⟨.pure, [3, 2, 1], [0, 1, 2, 3, 4, 6]⟩
theorem comp134 : compFn Try.prog inv isPure h134 Try.f17 = some c134 := by kernel_rfl
theorem name134 : (Try.f17.name == "runtime.NumGoroutine") = false := by kernel_rfl
def h164 : Hint := ⟨.pure, [6], [0, 1, 2, 3, 4, 6, 7, 13, 17]⟩
theorem comp164 : compFn Try.prog inv isPure h164 Try.f16 = some c164 := by kernel_rfl
theorem name164 : (Try.f16.name == "runtime.NumGoroutine") = false := by kernel_rfl
def h165 : Hint := ⟨.pure, [6, 4, 3], [0, 1, 2, 3, 4, 6, 7, 8, 15]⟩
theorem comp165 : compFn Try.prog inv isPure h165 Try.f18 = some c165 := by kernel_rfl
theorem name165 : (Try.f18.name == "runtime.NumGoroutine") = false := by kernel_rfl
def h166 : Hint := ⟨.pure, [3, 2], [0, 1, 2, 3, 4, 9, 14, 19, 24, 30]⟩
theorem comp166 : compFn Try.prog inv isPure h166 Try.f19 = some c166 := by kernel_rfl
theorem name166 : (Try.f19.name == "runtime.NumGoroutine") = false := by kernel_rfl
def h167 : Hint := ⟨.args, [2], [0, 1, 2, 4]⟩
theorem comp167 : compFn Try.prog inv isPure h167 Try.f20 = some c167 := by kernel_rfl
theorem name167 : (Try.f20.name == "runtime.NumGoroutine") = false := by kernel_rfl
def h168 : Hint := ⟨.pure, [2], [0, 1, 2, 4, 10]⟩
theorem comp168 : compFn Try.prog inv isPure h168 Try.f21 = some c168 := by kernel_rfl
theorem name168 : (Try.f21.name == "runtime.NumGoroutine") = false := by kernel_rfl
def h234 : Hint := ⟨.pure, [], [0, 1, 2]⟩
theorem comp234 : compFn Try.prog inv isPure h234 Try.f59 = some c234 := by kernel_rfl
theorem name234 : (Try.f59.name == "runtime.NumGoroutine") = false := by kernel_rfl
def h295 : Hint := ⟨.pure, [], [0, 1, 2, 6]⟩
theorem comp295 : compFn Try.prog inv isPure h295 Try.f52 = some c295 := by kernel_rfl
theorem name295 : (Try.f52.name == "runtime.NumGoroutine") = false := by kernel_rfl
def h304 : Hint := ⟨.pure, [], [0, 1, 2, 6]⟩
theorem comp304 : compFn Try.prog inv isPure h304 Try.f49 = some c304 := by kernel_rfl
theorem name304 : (Try.f49.name == "runtime.NumGoroutine") = false := by kernel_rfl
def h310 : Hint := ⟨.pure, [3], [0, 2, 3]⟩
theorem comp310 : compFn Try.prog inv isPure h310 Try.f71 = some c310 := by kernel_rfl
theorem name310 : (Try.f71.name == "runtime.NumGoroutine") = false := by kernel_rfl
def h312 : Hint := ⟨.pure, [3, 1], [0, 1, 2, 3]⟩
theorem comp312 : compFn Try.prog inv isPure h312 Try.f73 = some c312 := by kernel_rfl
theorem name312 : (Try.f73.name == "runtime.NumGoroutine") = false := by kernel_rfl
def h351 : Hint := ⟨.pure, [], [0, 2]⟩
theorem comp351 : compFn Try.prog inv isPure h351 Try.f51 = some c351 := by kernel_rfl
theorem name351 : (Try.f51.name == "runtime.NumGoroutine") = false := by kernel_rfl
def h358 : Hint := ⟨.pure, [7, 6, 3], [0, 1, 2, 3, 6, 7, 8, 9, 13, 15, 16, 23, 25]⟩
theorem comp358 : compFn Try.prog inv isPure h358 Try.f84 = some c358 := by kernel_rfl
theorem name358 : (Try.f84.name == "runtime.NumGoroutine") = false := by kernel_rfl
def h359 : Hint := ⟨.pure, [], [0, 2, 3, 5, 13]⟩
theorem comp359 : compFn Try.prog inv isPure h359 Try.f48 = some c359 := by kernel_rfl
theorem name359 : (Try.f48.name == "runtime.NumGoroutine") = false := by kernel_rfl
def h367 : Hint := ⟨.pure, [4, 3, 2], [0, 1, 2, 3, 4]⟩
theorem comp367 : compFn Try.prog inv isPure h367 Try.f102 = some c367 := by kernel_rfl
theorem name367 : (Try.f102.name == "runtime.NumGoroutine") = false := by kernel_rfl
def h388 : Hint := ⟨.pure, [6], [0, 1, 2, 6, 7, 8, 9, 10, 11, 23, 27, 35, 47]⟩
theorem comp388 : compFn Try.prog inv isPure h388 Try.f50 = some c388 := by kernel_rfl
theorem name388 : (Try.f50.name == "runtime.NumGoroutine") = false := by kernel_rfl
def h389 : Hint := ⟨.pure, [10, 7, 6, 4, 3], [0, 1, 2, 3, 4, 6, 7, 8, 9, 10, 18, 22, 30, 42]⟩
theorem comp389 : compFn Try.prog inv isPure h389 Try.f53 = some c389 := by kernel_rfl
theorem name389 : (Try.f53.name == "runtime.NumGoroutine") = false := by kernel_rfl
def h390 : Hint := ⟨.pure, [], [0, 1, 4, 5, 10, 14, 26]⟩
theorem comp390 : compFn Try.prog inv isPure h390 Try.f54 = some c390 := by kernel_rfl
theorem name390 : (Try.f54.name == "runtime.NumGoroutine") = false := by kernel_rfl
def h391 : Hint := ⟨.args, [], [0, 1, 4, 5, 9]⟩
theorem comp391 : compFn Try.prog inv isPure h391 Try.f55 = some c391 := by kernel_rfl
theorem name391 : (Try.f55.name == "runtime.NumGoroutine") = false := by kernel_rfl
def h392 : Hint := ⟨.pure, [], [0, 1, 4, 5, 9, 19, 29]⟩
theorem comp392 : compFn Try.prog inv isPure h392 Try.f56 = some c392 := by kernel_rfl
theorem name392 : (Try.f56.name == "runtime.NumGoroutine") = false := by kernel_rfl
def h443 : Hint := ⟨.pure, [6, 4, 3], [0, 1, 2, 3, 4, 6, 7, 8, 9, 10, 11]⟩
theorem comp443 : compFn Try.prog inv isPure h443 Try.f106 = some c443 := by kernel_rfl
theorem name443 : (Try.f106.name == "runtime.NumGoroutine") = false := by kernel_rfl
def h445 : Hint := ⟨.pure, [], [0, 1, 4]⟩
theorem comp445 : compFn Try.prog inv isPure h445 Try.f90 = some c445 := by kernel_rfl
theorem name445 : (Try.f90.name == "runtime.NumGoroutine") = false := by kernel_rfl
def h446 : Hint := ⟨.pure, [], [0, 2]⟩
theorem comp446 : compFn Try.prog inv isPure h446 Try.f91 = some c446 := by kernel_rfl
theorem name446 : (Try.f91.name == "runtime.NumGoroutine") = false := by kernel_rfl
def h474 : Hint := ⟨.pure, [], [0, 1, 4, 5, 7, 8, 9, 16]⟩
theorem comp474 : compFn Try.prog inv isPure h474 Try.f101 = some c474 := by kernel_rfl
theorem name474 : (Try.f101.name == "runtime.NumGoroutine") = false := by kernel_rfl
def h490 : Hint := ⟨.pure, [], [0, 2]⟩
theorem comp490 : compFn Try.prog inv isPure h490 Try.f96 = some c490 := by kernel_rfl
theorem name490 : (Try.f96.name == "runtime.NumGoroutine") = false := by kernel_rfl
def h505 : Hint := ⟨.pure, [], [0, 1, 4]⟩
theorem comp505 : compFn Try.prog inv isPure h505 Try.f81 = some c505 := by kernel_rfl
theorem name505 : (Try.f81.name == "runtime.NumGoroutine") = false := by kernel_rfl
def h506 : Hint := ⟨.pure, [1], [0, 1, 2]⟩
theorem comp506 : compFn Try.prog inv isPure h506 Try.f82 = some c506 := by kernel_rfl
theorem name506 : (Try.f82.name == "runtime.NumGoroutine") = false := by kernel_rfl
def h512 : Hint := ⟨.pure, [], [0, 1, 4]⟩
theorem comp512 : compFn Try.prog inv isPure h512 Try.f107 = some c512 := by kernel_rfl
theorem name512 : (Try.f107.name == "runtime.NumGoroutine") = false := by kernel_rfl
def h525 : Hint := ⟨.pure, [], [0, 1, 4, 5, 6, 9, 22]⟩
theorem comp525 : compFn Try.prog inv isPure h525 Try.f79 = some c525 := by kernel_rfl
theorem name525 : (Try.f79.name == "runtime.NumGoroutine") = false := by kernel_rfl
def h526 : Hint := ⟨.pure, [7, 6], [0, 1, 2, 6, 7, 8, 9, 12, 20, 22]⟩
theorem comp526 : compFn Try.prog inv isPure h526 Try.f80 = some c526 := by kernel_rfl
theorem name526 : (Try.f80.name == "runtime.NumGoroutine") = false := by kernel_rfl
def h527 : Hint := ⟨.pure, [6, 5, 4, 3], [0, 1, 2, 3, 4, 5, 6, 7, 8, 12, 13, 14, 18]⟩
theorem comp527 : compFn Try.prog inv isPure h527 Try.f83 = some c527 := by kernel_rfl
theorem name527 : (Try.f83.name == "runtime.NumGoroutine") = false := by kernel_rfl
def h528 : Hint := ⟨.pure, [3, 2], [0, 1, 2, 3, 4, 5, 6, 7, 8, 9, 10, 17]⟩
theorem comp528 : compFn Try.prog inv isPure h528 Try.f85 = some c528 := by kernel_rfl
theorem name528 : (Try.f85.name == "runtime.NumGoroutine") = false := by kernel_rfl
def h529 : Hint := ⟨.pure, [3, 2], [0, 1, 2, 3, 4, 9, 14]⟩
theorem comp529 : compFn Try.prog inv isPure h529 Try.f86 = some c529 := by kernel_rfl
theorem name529 : (Try.f86.name == "runtime.NumGoroutine") = false := by kernel_rfl
def h547 : Hint := ⟨.pure, [], [0, 1, 4, 5, 7, 8, 9, 16]⟩
theorem comp547 : compFn Try.prog inv isPure h547 Try.f105 = some c547 := by kernel_rfl
theorem name547 : (Try.f105.name == "runtime.NumGoroutine") = false := by kernel_rfl
theorem tab_ok : ∀ f D, tab f = some D → DefOk Try.prog inv isPure rho f D := by
  intro f D h
  unfold tab at h
  split at h
  · cases h; exact ⟨Try.f5, h27, Try.func5, name27, comp27⟩
  · cases h; exact ⟨Try.f17, h134, Try.func17, name134, comp134⟩
  · cases h; exact ⟨Try.f16, h164, Try.func16, name164, comp164⟩
  · cases h; exact ⟨Try.f18, h165, Try.func18, name165, comp165⟩
  · cases h; exact ⟨Try.f19, h166, Try.func19, name166, comp166⟩
  · cases h; exact ⟨Try.f20, h167, Try.func20, name167, comp167⟩
  · cases h; exact ⟨Try.f21, h168, Try.func21, name168, comp168⟩
  · cases h; exact ⟨Try.f59, h234, Try.func59, name234, comp234⟩
  · cases h; exact ⟨Try.f52, h295, Try.func52, name295, comp295⟩
  · cases h; exact ⟨Try.f49, h304, Try.func49, name304, comp304⟩
  · cases h; exact ⟨Try.f71, h310, Try.func71, name310, comp310⟩
  · cases h; exact ⟨Try.f73, h312, Try.func73, name312, comp312⟩
  · cases h; exact ⟨Try.f51, h351, Try.func51, name351, comp351⟩
  · cases h; exact ⟨Try.f84, h358, Try.func84, name358, comp358⟩
  · cases h; exact ⟨Try.f48, h359, Try.func48, name359, comp359⟩
  · cases h; exact ⟨Try.f102, h367, Try.func102, name367, comp367⟩
  · cases h; exact ⟨Try.f50, h388, Try.func50, name388, comp388⟩
  · cases h; exact ⟨Try.f53, h389, Try.func53, name389, comp389⟩
  · cases h; exact ⟨Try.f54, h390, Try.func54, name390, comp390⟩
  · cases h; exact ⟨Try.f55, h391, Try.func55, name391, comp391⟩
  · cases h; exact ⟨Try.f56, h392, Try.func56, name392, comp392⟩
  · cases h; exact ⟨Try.f106, h443, Try.func106, name443, comp443⟩
  · cases h; exact ⟨Try.f90, h445, Try.func90, name445, comp445⟩
  · cases h; exact ⟨Try.f91, h446, Try.func91, name446, comp446⟩
  · cases h; exact ⟨Try.f101, h474, Try.func101, name474, comp474⟩
  · cases h; exact ⟨Try.f96, h490, Try.func96, name490, comp490⟩
  · cases h; exact ⟨Try.f81, h505, Try.func81, name505, comp505⟩
  · cases h; exact ⟨Try.f82, h506, Try.func82, name506, comp506⟩
  · cases h; exact ⟨Try.f107, h512, Try.func107, name512, comp512⟩
  · cases h; exact ⟨Try.f79, h525, Try.func79, name525, comp525⟩
  · cases h; exact ⟨Try.f80, h526, Try.func80, name526, comp526⟩
  · cases h; exact ⟨Try.f83, h527, Try.func83, name527, comp527⟩
  · cases h; exact ⟨Try.f85, h528, Try.func85, name528, comp528⟩
  · cases h; exact ⟨Try.f86, h529, Try.func86, name529, comp529⟩
  · cases h; exact ⟨Try.f105, h547, Try.func105, name547, comp547⟩
  · cases h
end Fb
