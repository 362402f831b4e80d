/- Each function of the law is compiled by the checker to its text in the small language. -/
import Derived.Test.YtenmbknaocedfabRow2
import Derived.Test.YtenmbknaocedfabTab
import Derived.Test.YtenmbknaocedfabRows
import Derived.KernelRfl
set_option linter.unusedVariables false
set_option linter.unusedSimpArgs false
namespace Fb
open Go Go.Proofs

def inv : FuncId → Option Nat := fun f => match f with
  | 5 => some 33
  | 98 => some 78
  | 19 => some 103
  | 21 => some 105
  | 24 => some 107
  | 60 => some 121
  | 25 => some 122
  | 29 => some 134
  | 23 => some 166
  | 26 => some 167
  | 27 => some 168
  | 20 => some 186
  | 22 => some 187
  | 105 => some 234
  | 85 => some 295
  | 42 => some 296
  | 84 => some 304
  | 91 => some 310
  | 96 => some 312
  | 92 => some 316
  | 88 => some 318
  | 65 => some 351
  | 134 => some 358
  | 99 => some 359
  | 93 => some 365
  | 133 => some 367
  | 90 => some 388
  | 95 => some 389
  | 59 => some 390
  | 49 => some 391
  | 61 => some 392
  | 54 => some 403
  | 55 => some 404
  | 56 => some 405
  | 57 => some 406
  | 58 => some 407
  | 151 => some 443
  | 140 => some 445
  | 141 => some 446
  | 139 => some 474
  | 136 => some 490
  | 103 => some 505
  | 104 => some 506
  | 154 => some 512
  | 89 => some 525
  | 132 => some 526
  | 94 => some 527
  | 135 => some 528
  | 97 => some 529
  | 157 => some 547
  | _ => none
def rho : Nat → FuncId := fun n => match n with
  | 33 => 5
  | 78 => 98
  | 103 => 19
  | 105 => 21
  | 107 => 24
  | 121 => 60
  | 122 => 25
  | 134 => 29
  | 166 => 23
  | 167 => 26
  | 168 => 27
  | 186 => 20
  | 187 => 22
  | 234 => 105
  | 295 => 85
  | 296 => 42
  | 304 => 84
  | 310 => 91
  | 312 => 96
  | 316 => 92
  | 318 => 88
  | 351 => 65
  | 358 => 134
  | 359 => 99
  | 365 => 93
  | 367 => 133
  | 388 => 90
  | 389 => 95
  | 390 => 59
  | 391 => 49
  | 392 => 61
  | 403 => 54
  | 404 => 55
  | 405 => 56
  | 406 => 57
  | 407 => 58
  | 443 => 151
  | 445 => 140
  | 446 => 141
  | 474 => 139
  | 490 => 136
  | 505 => 103
  | 506 => 104
  | 512 => 154
  | 525 => 89
  | 526 => 132
  | 527 => 94
  | 528 => 135
  | 529 => 97
  | 547 => 157
  | _ => 0
def isPure : Nat → Bool := fun n => !([122, 167, 391] : List Nat).contains n
theorem inv_rho : ∀ f i, inv f = some i → rho i = f := by
  intro f i h
  unfold inv at h
  split at h <;> first | (cases h; rfl) | cases h
def h33 : Hint := ⟨.pure, [14, 9, 6], [0, 1, 4, 5, 6, 7, 8, 9, 10, 11, 12, 13, 14, 15, 20, 44, 49, 65, 73, 76, 92, 97, 100]⟩
theorem comp33 : compFn Try.prog inv isPure h33 Try.f5 = some c33 := by kernel_rfl
theorem name33 : (Try.f5.name == "runtime.NumGoroutine") = false := by kernel_rfl
def h78 : Hint := ⟨.pure, [3, 2], [0, 1, 2, 3, 4, 5, 7, 16]⟩
theorem comp78 : compFn Try.prog inv isPure h78 Try.f98 = some c78 := by kernel_rfl
theorem name78 : (Try.f98.name == "runtime.NumGoroutine") = false := by kernel_rfl
def h103 : Hint := ⟨.pure, [], [0, 1, 4, 10]⟩
theorem comp103 : compFn Try.prog inv isPure h103 Try.f19 = some c103 := by kernel_rfl
theorem name103 : (Try.f19.name == "runtime.NumGoroutine") = false := by kernel_rfl
def h105 : Hint := ⟨.pure, [], [0, 1, 4, 5, 6, 7, 13, 24, 40]⟩
theorem comp105 : compFn Try.prog inv isPure h105 Try.f21 = some c105 := by kernel_rfl
theorem name105 : (Try.f21.name == "runtime.NumGoroutine") = false := by kernel_rfl
def h107 : Hint := ⟨.pure, [], [0, 1, 4, 5]⟩
theorem comp107 : compFn Try.prog inv isPure h107 Try.f24 = some c107 := by kernel_rfl
theorem name107 : (Try.f24.name == "runtime.NumGoroutine") = false := by kernel_rfl
def h121 : Hint := ⟨.pure, [], [0, 1, 4, 5, 10, 14, 26]⟩
theorem comp121 : compFn Try.prog inv isPure h121 Try.f60 = some c121 := by kernel_rfl
theorem name121 : (Try.f60.name == "runtime.NumGoroutine") = false := by kernel_rfl
def h122 : Hint := ⟨.args, [], [0, 1, 4, 5, 6, 10, 14]⟩
theorem comp122 : compFn Try.prog inv isPure h122 Try.f25 = some c122 := by kernel_rfl
theorem name122 : (Try.f25.name == "runtime.NumGoroutine") = false := by kernel_rfl
def h134 : Hint := ⟨.pure, [3, 2, 1], [0, 1, 2, 3, 4, 6]⟩
theorem comp134 : compFn Try.prog inv isPure h134 Try.f29 = some c134 := by kernel_rfl
theorem name134 : (Try.f29.name == "runtime.NumGoroutine") = false := by kernel_rfl
def h166 : Hint := ⟨.pure, [3, 2], [0, 1, 2, 3, 4, 9, 14, 19, 24, 30]⟩
theorem comp166 : compFn Try.prog inv isPure h166 Try.f23 = some c166 := by kernel_rfl
theorem name166 : (Try.f23.name == "runtime.NumGoroutine") = false := by kernel_rfl
def h167 : Hint := ⟨.args, [2], [0, 1, 2, 4]⟩
theorem comp167 : compFn Try.prog inv isPure h167 Try.f26 = some c167 := by kernel_rfl
theorem name167 : (Try.f26.name == "runtime.NumGoroutine") = false := by kernel_rfl
def h168 : Hint := ⟨.pure, [2], [0, 1, 2, 4, 10]⟩
theorem comp168 : compFn Try.prog inv isPure h168 Try.f27 = some c168 := by kernel_rfl
theorem name168 : (Try.f27.name == "runtime.NumGoroutine") = false := by kernel_rfl
def h186 : Hint := ⟨.pure, [4], [0, 1, 4, 5, 6, 11]⟩
theorem comp186 : compFn Try.prog inv isPure h186 Try.f20 = some c186 := by kernel_rfl
theorem name186 : (Try.f20.name == "runtime.NumGoroutine") = false := by kernel_rfl
def h187 : Hint := ⟨.pure, [4], [0, 1, 4, 5, 6, 11]⟩
theorem comp187 : compFn Try.prog inv isPure h187 Try.f22 = some c187 := by kernel_rfl
theorem name187 : (Try.f22.name == "runtime.NumGoroutine") = false := by kernel_rfl
def h234 : Hint := ⟨.pure, [], [0, 1, 2]⟩
theorem comp234 : compFn Try.prog inv isPure h234 Try.f105 = some c234 := by kernel_rfl
theorem name234 : (Try.f105.name == "runtime.NumGoroutine") = false := by kernel_rfl
def h295 : Hint := ⟨.pure, [], [0, 1, 2, 6]⟩
theorem comp295 : compFn Try.prog inv isPure h295 Try.f85 = some c295 := by kernel_rfl
theorem name295 : (Try.f85.name == "runtime.NumGoroutine") = false := by kernel_rfl
def h296 : Hint := ⟨.pure, [], [0, 2, 5, 8]⟩
theorem comp296 : compFn Try.prog inv isPure h296 Try.f42 = some c296 := by kernel_rfl
theorem name296 : (Try.f42.name == "runtime.NumGoroutine") = false := by kernel_rfl
def h304 : Hint := ⟨.pure, [], [0, 1, 2, 6]⟩
theorem comp304 : compFn Try.prog inv isPure h304 Try.f84 = some c304 := by kernel_rfl
theorem name304 : (Try.f84.name == "runtime.NumGoroutine") = false := by kernel_rfl
def h310 : Hint := ⟨.pure, [3], [0, 2, 3]⟩
theorem comp310 : compFn Try.prog inv isPure h310 Try.f91 = some c310 := by kernel_rfl
theorem name310 : (Try.f91.name == "runtime.NumGoroutine") = false := by kernel_rfl
def h312 : Hint := ⟨.pure, [3, 1], [0, 1, 2, 3]⟩
theorem comp312 : compFn Try.prog inv isPure h312 Try.f96 = some c312 := by kernel_rfl
theorem name312 : (Try.f96.name == "runtime.NumGoroutine") = false := by kernel_rfl
def h316 : Hint := ⟨.pure, [], [0, 2]⟩
theorem comp316 : compFn Try.prog inv isPure h316 Try.f92 = some c316 := by kernel_rfl
theorem name316 : (Try.f92.name == "runtime.NumGoroutine") = false := by kernel_rfl
def h318 : Hint := ⟨.pure, [], [0, 2, 3, 7, 14]⟩
theorem comp318 : compFn Try.prog inv isPure h318 Try.f88 = some c318 := by kernel_rfl
theorem name318 : (Try.f88.name == "runtime.NumGoroutine") = false := by kernel_rfl
def h351 : Hint := ⟨.pure, [], [0, 2]⟩
theorem comp351 : compFn Try.prog inv isPure h351 Try.f65 = some c351 := by kernel_rfl
theorem name351 : (Try.f65.name == "runtime.NumGoroutine") = false := by kernel_rfl
def h358 : Hint := ⟨.pure, [7, 6, 3], [0, 1, 2, 3, 6, 7, 8, 9, 13, 15, 16, 23, 25]⟩
theorem comp358 : compFn Try.prog inv isPure h358 Try.f134 = some c358 := by kernel_rfl
theorem name358 : (Try.f134.name == "runtime.NumGoroutine") = false := by kernel_rfl
def h359 : Hint := ⟨.pure, [], [0, 2, 3, 5, 13]⟩
theorem comp359 : compFn Try.prog inv isPure h359 Try.f99 = some c359 := by kernel_rfl
theorem name359 : (Try.f99.name == "runtime.NumGoroutine") = false := by kernel_rfl
def h365 : Hint := ⟨.pure, [], [0, 1, 4]⟩
theorem comp365 : compFn Try.prog inv isPure h365 Try.f93 = some c365 := by kernel_rfl
theorem name365 : (Try.f93.name == "runtime.NumGoroutine") = false := by kernel_rfl
def h367 : Hint := ⟨.pure, [4, 3, 2], [0, 1, 2, 3, 4]⟩
theorem comp367 : compFn Try.prog inv isPure h367 Try.f133 = some c367 := by kernel_rfl
theorem name367 : (Try.f133.name == "runtime.NumGoroutine") = false := by kernel_rfl
def h388 : Hint := ⟨.pure, [6], [0, 1, 2, 6, 7, 8, 9, 10, 11, 23, 27, 35, 47]⟩
theorem comp388 : compFn Try.prog inv isPure h388 Try.f90 = some c388 := by kernel_rfl
theorem name388 : (Try.f90.name == "runtime.NumGoroutine") = false := by kernel_rfl
def h389 : Hint := ⟨.pure, [10, 7, 6, 4, 3], [0, 1, 2, 3, 4, 6, 7, 8, 9, 10, 18, 22, 30, 42]⟩
theorem comp389 : compFn Try.prog inv isPure h389 Try.f95 = some c389 := by kernel_rfl
theorem name389 : (Try.f95.name == "runtime.NumGoroutine") = false := by kernel_rfl
def h390 : Hint := ⟨.pure, [], [0, 1, 4, 5, 10, 14, 26]⟩
theorem comp390 : compFn Try.prog inv isPure h390 Try.f59 = some c390 := by kernel_rfl
theorem name390 : (Try.f59.name == "runtime.NumGoroutine") = false := by kernel_rfl
def h391 : Hint := ⟨.args, [], [0, 1, 4, 5, 9]⟩
theorem comp391 : compFn Try.prog inv isPure h391 Try.f49 = some c391 := by kernel_rfl
theorem name391 : (Try.f49.name == "runtime.NumGoroutine") = false := by kernel_rfl
def h392 : Hint := ⟨.pure, [], [0, 1, 4, 5, 9, 19, 29]⟩
theorem comp392 : compFn Try.prog inv isPure h392 Try.f61 = some c392 := by kernel_rfl
theorem name392 : (Try.f61.name == "runtime.NumGoroutine") = false := by kernel_rfl
def h403 : Hint := ⟨.pure, [], [0, 1, 4, 7, 13]⟩
theorem comp403 : compFn Try.prog inv isPure h403 Try.f54 = some c403 := by kernel_rfl
theorem name403 : (Try.f54.name == "runtime.NumGoroutine") = false := by kernel_rfl
def h404 : Hint := ⟨.pure, [8], [0, 1, 2, 3, 8, 9, 10, 11, 12, 21, 29, 40]⟩
theorem comp404 : compFn Try.prog inv isPure h404 Try.f55 = some c404 := by kernel_rfl
theorem name404 : (Try.f55.name == "runtime.NumGoroutine") = false := by kernel_rfl
def h405 : Hint := ⟨.pure, [], [0, 1, 4, 5, 9]⟩
theorem comp405 : compFn Try.prog inv isPure h405 Try.f56 = some c405 := by kernel_rfl
theorem name405 : (Try.f56.name == "runtime.NumGoroutine") = false := by kernel_rfl
def h406 : Hint := ⟨.pure, [9, 7, 6], [0, 1, 2, 6, 7, 8, 9, 17, 18, 19, 24, 39]⟩
theorem comp406 : compFn Try.prog inv isPure h406 Try.f57 = some c406 := by kernel_rfl
theorem name406 : (Try.f57.name == "runtime.NumGoroutine") = false := by kernel_rfl
def h407 : Hint := ⟨.pure, [], [0, 2]⟩
theorem comp407 : compFn Try.prog inv isPure h407 Try.f58 = some c407 := by kernel_rfl
theorem name407 : (Try.f58.name == "runtime.NumGoroutine") = false := by kernel_rfl
def h443 : Hint := ⟨.pure, [6, 4, 3], [0, 1, 2, 3, 4, 6, 7, 8, 9, 10, 11]⟩
theorem comp443 : compFn Try.prog inv isPure h443 Try.f151 = some c443 := by kernel_rfl
theorem name443 : (Try.f151.name == "runtime.NumGoroutine") = false := by kernel_rfl
def h445 : Hint := ⟨.pure, [], [0, 1, 4]⟩
theorem comp445 : compFn Try.prog inv isPure h445 Try.f140 = some c445 := by kernel_rfl
theorem name445 : (Try.f140.name == "runtime.NumGoroutine") = false := by kernel_rfl
def h446 : Hint := ⟨.pure, [], [0, 2]⟩
theorem comp446 : compFn Try.prog inv isPure h446 Try.f141 = some c446 := by kernel_rfl
theorem name446 : (Try.f141.name == "runtime.NumGoroutine") = false := by kernel_rfl
def h474 : Hint := ⟨.pure, [], [0, 1, 4, 5, 7, 8, 9, 16]⟩
theorem comp474 : compFn Try.prog inv isPure h474 Try.f139 = some c474 := by kernel_rfl
theorem name474 : (Try.f139.name == "runtime.NumGoroutine") = false := by kernel_rfl
def h490 : Hint := ⟨.pure, [], [0, 2]⟩
theorem comp490 : compFn Try.prog inv isPure h490 Try.f136 = some c490 := by kernel_rfl
theorem name490 : (Try.f136.name == "runtime.NumGoroutine") = false := by kernel_rfl
def h505 : Hint := ⟨.pure, [], [0, 1, 4]⟩
theorem comp505 : compFn Try.prog inv isPure h505 Try.f103 = some c505 := by kernel_rfl
theorem name505 : (Try.f103.name == "runtime.NumGoroutine") = false := by kernel_rfl
def h506 : Hint := ⟨.pure, [1], [0, 1, 2]⟩
theorem comp506 : compFn Try.prog inv isPure h506 Try.f104 = some c506 := by kernel_rfl
theorem name506 : (Try.f104.name == "runtime.NumGoroutine") = false := by kernel_rfl
def h512 : Hint := ⟨.pure, [], [0, 1, 4]⟩
theorem comp512 : compFn Try.prog inv isPure h512 Try.f154 = some c512 := by kernel_rfl
theorem name512 : (Try.f154.name == "runtime.NumGoroutine") = false := by kernel_rfl
def h525 : Hint := ⟨.pure, [], [0, 1, 4, 5, 6, 9, 22]⟩
theorem comp525 : compFn Try.prog inv isPure h525 Try.f89 = some c525 := by kernel_rfl
theorem name525 : (Try.f89.name == "runtime.NumGoroutine") = false := by kernel_rfl
def h526 : Hint := ⟨.pure, [7, 6], [0, 1, 2, 6, 7, 8, 9, 12, 20, 22]⟩
theorem comp526 : compFn Try.prog inv isPure h526 Try.f132 = some c526 := by kernel_rfl
theorem name526 : (Try.f132.name == "runtime.NumGoroutine") = false := by kernel_rfl
def h527 : Hint := ⟨.pure, [6, 5, 4, 3], [0, 1, 2, 3, 4, 5, 6, 7, 8, 12, 13, 14, 18]⟩
theorem comp527 : compFn Try.prog inv isPure h527 Try.f94 = some c527 := by kernel_rfl
theorem name527 : (Try.f94.name == "runtime.NumGoroutine") = false := by kernel_rfl
def h528 : Hint := ⟨.pure, [3, 2], [0, 1, 2, 3, 4, 5, 6, 7, 8, 9, 10, 17]⟩
theorem comp528 : compFn Try.prog inv isPure h528 Try.f135 = some c528 := by kernel_rfl
theorem name528 : (Try.f135.name == "runtime.NumGoroutine") = false := by kernel_rfl
def h529 : Hint := ⟨.pure, [3, 2], [0, 1, 2, 3, 4, 9, 14]⟩
theorem comp529 : compFn Try.prog inv isPure h529 Try.f97 = some c529 := by kernel_rfl
theorem name529 : (Try.f97.name == "runtime.NumGoroutine") = false := by kernel_rfl
def h547 : Hint := ⟨.pure, [], [0, 1, 4, 5, 7, 8, 9, 16]⟩
theorem comp547 : compFn Try.prog inv isPure h547 Try.f157 = some c547 := by kernel_rfl
theorem name547 : (Try.f157.name == "runtime.NumGoroutine") = false := by kernel_rfl
theorem tab_ok : ∀ f D, tab f = some D → DefOk Try.prog inv isPure rho f D := by
  intro f D h
  unfold tab at h
  split at h
  · cases h; exact ⟨Try.f5, h33, Try.func5, name33, comp33⟩
  · cases h; exact ⟨Try.f98, h78, Try.func98, name78, comp78⟩
  · cases h; exact ⟨Try.f19, h103, Try.func19, name103, comp103⟩
  · cases h; exact ⟨Try.f21, h105, Try.func21, name105, comp105⟩
  · cases h; exact ⟨Try.f24, h107, Try.func24, name107, comp107⟩
  · cases h; exact ⟨Try.f60, h121, Try.func60, name121, comp121⟩
  · cases h; exact ⟨Try.f25, h122, Try.func25, name122, comp122⟩
  · cases h; exact ⟨Try.f29, h134, Try.func29, name134, comp134⟩
  · cases h; exact ⟨Try.f23, h166, Try.func23, name166, comp166⟩
  · cases h; exact ⟨Try.f26, h167, Try.func26, name167, comp167⟩
  · cases h; exact ⟨Try.f27, h168, Try.func27, name168, comp168⟩
  · cases h; exact ⟨Try.f20, h186, Try.func20, name186, comp186⟩
  · cases h; exact ⟨Try.f22, h187, Try.func22, name187, comp187⟩
  · cases h; exact ⟨Try.f105, h234, Try.func105, name234, comp234⟩
  · cases h; exact ⟨Try.f85, h295, Try.func85, name295, comp295⟩
  · cases h; exact ⟨Try.f42, h296, Try.func42, name296, comp296⟩
  · cases h; exact ⟨Try.f84, h304, Try.func84, name304, comp304⟩
  · cases h; exact ⟨Try.f91, h310, Try.func91, name310, comp310⟩
  · cases h; exact ⟨Try.f96, h312, Try.func96, name312, comp312⟩
  · cases h; exact ⟨Try.f92, h316, Try.func92, name316, comp316⟩
  · cases h; exact ⟨Try.f88, h318, Try.func88, name318, comp318⟩
  · cases h; exact ⟨Try.f65, h351, Try.func65, name351, comp351⟩
  · cases h; exact ⟨Try.f134, h358, Try.func134, name358, comp358⟩
  · cases h; exact ⟨Try.f99, h359, Try.func99, name359, comp359⟩
  · cases h; exact ⟨Try.f93, h365, Try.func93, name365, comp365⟩
  · cases h; exact ⟨Try.f133, h367, Try.func133, name367, comp367⟩
  · cases h; exact ⟨Try.f90, h388, Try.func90, name388, comp388⟩
  · cases h; exact ⟨Try.f95, h389, Try.func95, name389, comp389⟩
  · cases h; exact ⟨Try.f59, h390, Try.func59, name390, comp390⟩
  · cases h; exact ⟨Try.f49, h391, Try.func49, name391, comp391⟩
  · cases h; exact ⟨Try.f61, h392, Try.func61, name392, comp392⟩
  · cases h; exact ⟨Try.f54, h403, Try.func54, name403, comp403⟩
  · cases h; exact ⟨Try.f55, h404, Try.func55, name404, comp404⟩
  · cases h; exact ⟨Try.f56, h405, Try.func56, name405, comp405⟩
  · cases h; exact ⟨Try.f57, h406, Try.func57, name406, comp406⟩
  · cases h; exact ⟨Try.f58, h407, Try.func58, name407, comp407⟩
  · cases h; exact ⟨Try.f151, h443, Try.func151, name443, comp443⟩
  · cases h; exact ⟨Try.f140, h445, Try.func140, name445, comp445⟩
  · cases h; exact ⟨Try.f141, h446, Try.func141, name446, comp446⟩
  · cases h; exact ⟨Try.f139, h474, Try.func139, name474, comp474⟩
  · cases h; exact ⟨Try.f136, h490, Try.func136, name490, comp490⟩
  · cases h; exact ⟨Try.f103, h505, Try.func103, name505, comp505⟩
  · cases h; exact ⟨Try.f104, h506, Try.func104, name506, comp506⟩
  · cases h; exact ⟨Try.f154, h512, Try.func154, name512, comp512⟩
  · cases h; exact ⟨Try.f89, h525, Try.func89, name525, comp525⟩
  · cases h; exact ⟨Try.f132, h526, Try.func132, name526, comp526⟩
  · cases h; exact ⟨Try.f94, h527, Try.func94, name527, comp527⟩
  · cases h; exact ⟨Try.f135, h528, Try.func135, name528, comp528⟩
  · cases h; exact ⟨Try.f97, h529, Try.func97, name529, comp529⟩
  · cases h; exact ⟨Try.f157, h547, Try.func157, name547, comp547⟩
  · cases h
end Fb
