/- Each function of the law is compiled by the checker to its text in the small language. -/
import Derived.Test.YtholaggmhhjjkabRow2
import Derived.Test.YtholaggmhhjjkabTab
import Derived.Test.YtholaggmhhjjkabRows
import Derived.KernelRfl
set_option linter.unusedVariables false
set_option linter.unusedSimpArgs false
namespace Fb
open Go Go.Proofs

def inv : FuncId → Option Nat := fun f => match f with
  | 3 => some 50
  | 43 => some 78
  | 7 => some 103
  | 9 => some 105
  | 13 => some 107
  | 21 => some 121
  | 14 => some 122
  | 10 => some 128
  | 8 => some 129
  | 36 => some 134
  | 11 => some 180
  | 15 => some 182
  | 17 => some 183
  | 38 => some 188
  | 99 => some 234
  | 12 => some 266
  | 16 => some 267
  | 18 => some 268
  | 69 => some 295
  | 35 => some 296
  | 61 => some 304
  | 64 => some 305
  | 44 => some 316
  | 31 => some 318
  | 95 => some 342
  | 70 => some 351
  | 37 => some 352
  | 32 => some 353
  | 33 => some 354
  | 34 => some 355
  | 42 => some 358
  | 60 => some 359
  | 45 => some 369
  | 46 => some 371
  | 63 => some 440
  | 117 => some 445
  | 118 => some 446
  | 94 => some 456
  | 116 => some 474
  | 97 => some 505
  | 98 => some 506
  | 65 => some 507
  | 66 => some 508
  | 67 => some 509
  | 62 => some 510
  | 77 => some 514
  | 71 => some 515
  | 72 => some 516
  | 73 => some 517
  | 74 => some 518
  | 75 => some 519
  | 130 => some 547
  | 93 => some 549
  | 100 => some 565
  | 101 => some 566
  | 119 => some 589
  | 120 => some 590
  | 131 => some 610
  | 133 => some 624
  | _ => none
def rho : Nat → FuncId := fun n => match n with
  | 50 => 3
  | 78 => 43
  | 103 => 7
  | 105 => 9
  | 107 => 13
  | 121 => 21
  | 122 => 14
  | 128 => 10
  | 129 => 8
  | 134 => 36
  | 180 => 11
  | 182 => 15
  | 183 => 17
  | 188 => 38
  | 234 => 99
  | 266 => 12
  | 267 => 16
  | 268 => 18
  | 295 => 69
  | 296 => 35
  | 304 => 61
  | 305 => 64
  | 316 => 44
  | 318 => 31
  | 342 => 95
  | 351 => 70
  | 352 => 37
  | 353 => 32
  | 354 => 33
  | 355 => 34
  | 358 => 42
  | 359 => 60
  | 369 => 45
  | 371 => 46
  | 440 => 63
  | 445 => 117
  | 446 => 118
  | 456 => 94
  | 474 => 116
  | 505 => 97
  | 506 => 98
  | 507 => 65
  | 508 => 66
  | 509 => 67
  | 510 => 62
  | 514 => 77
  | 515 => 71
  | 516 => 72
  | 517 => 73
  | 518 => 74
  | 519 => 75
  | 547 => 130
  | 549 => 93
  | 565 => 100
  | 566 => 101
  | 589 => 119
  | 590 => 120
  | 610 => 131
  | 624 => 133
  | _ => 0
def isPure : Nat → Bool := fun n => !([122, 182, 267, 305, 517, 565, 589, 590, 610, 624] : List Nat).contains n
theorem inv_rho : ∀ f i, inv f = some i → rho i = f := by
  intro f i h
  unfold inv at h
  split at h <;> first | (cases h; rfl) | cases h
def h50 : Hint := ⟨.pure, [], [0, 1, 2, 6, 7, 8, 9, 10, 11, 12, 13, 14, 15, 16, 17, 18, 19, 20, 21, 26, 31, 68, 73, 78, 103, 114, 119, 122, 147, 152, 157, 160]⟩
theorem comp50 : compFn Try.prog inv isPure h50 Try.f3 = some c50 := by kernel_rfl
theorem name50 : (Try.f3.name == "runtime.NumGoroutine") = false := by kernel_rfl
def h78 : Hint := ⟨.pure, [3, 2], [0, 1, 2, 3, 4, 5, 7, 16]⟩
theorem comp78 : compFn Try.prog inv isPure h78 Try.f43 = some c78 := by kernel_rfl
theorem name78 : (Try.f43.name == "runtime.NumGoroutine") = false := by kernel_rfl
def h103 : Hint := ⟨.pure, [], [0, 1, 4, 10]⟩
theorem comp103 : compFn Try.prog inv isPure h103 Try.f7 = some c103 := by kernel_rfl
theorem name103 : (Try.f7.name == "runtime.NumGoroutine") = false := by kernel_rfl
def h105 : Hint := ⟨.pure, [], [0, 1, 4, 5, 6, 7, 13, 24, 40]⟩
theorem comp105 : compFn Try.prog inv isPure h105 Try.f9 = some c105 := by kernel_rfl
theorem name105 : (Try.f9.name == "runtime.NumGoroutine") = false := by kernel_rfl
def h107 : Hint := ⟨.pure, [], [0, 1, 4, 5]⟩
theorem comp107 : compFn Try.prog inv isPure h107 Try.f13 = some c107 := by kernel_rfl
theorem name107 : (Try.f13.name == "runtime.NumGoroutine") = false := by kernel_rfl
def h121 : Hint := ⟨.pure, [], [0, 1, 4, 5, 10, 14, 26]⟩
theorem comp121 : compFn Try.prog inv isPure h121 Try.f21 = some c121 := by kernel_rfl
theorem name121 : (Try.f21.name == "runtime.NumGoroutine") = false := by kernel_rfl
def h122 : Hint := ⟨.args, [], [0, 1, 4, 5, 6, 10, 14]⟩
theorem comp122 : compFn Try.prog inv isPure h122 Try.f14 = some c122 := by kernel_rfl
theorem name122 : (Try.f14.name == "runtime.NumGoroutine") = false := by kernel_rfl
def h128 : Hint := ⟨.pure, [], [0, 1, 2, 6, 7, 8]⟩
theorem comp128 : compFn Try.prog inv isPure h128 Try.f10 = some c128 := by kernel_rfl
theorem name128 : (Try.f10.name == "runtime.NumGoroutine") = false := by kernel_rfl
def h129 : Hint := ⟨.pure, [], [0, 1, 2, 6, 7, 8, 9, 10, 11, 12, 13, 14, 15, 23, 33, 46, 52, 58, 87]⟩
theorem comp129 : compFn Try.prog inv isPure h129 Try.f8 = some c129 := by kernel_rfl
theorem name129 : (Try.f8.name == "runtime.NumGoroutine") = false := by kernel_rfl
def h134 : Hint := ⟨.pure, [3, 2, 1], [0, 1, 2, 3, 4, 6]⟩
theorem comp134 : compFn Try.prog inv isPure h134 Try.f36 = some c134 := by kernel_rfl
theorem name134 : (Try.f36.name == "runtime.NumGoroutine") = false := by kernel_rfl
def h180 : Hint := ⟨.pure, [], [0, 1, 4, 5, 10, 14, 25]⟩
theorem comp180 : compFn Try.prog inv isPure h180 Try.f11 = some c180 := by kernel_rfl
theorem name180 : (Try.f11.name == "runtime.NumGoroutine") = false := by kernel_rfl
def h182 : Hint := ⟨.args, [], [0, 1, 4, 5, 9]⟩
theorem comp182 : compFn Try.prog inv isPure h182 Try.f15 = some c182 := by kernel_rfl
theorem name182 : (Try.f15.name == "runtime.NumGoroutine") = false := by kernel_rfl
def h183 : Hint := ⟨.pure, [], [0, 1, 4, 5, 9, 17]⟩
theorem comp183 : compFn Try.prog inv isPure h183 Try.f17 = some c183 := by kernel_rfl
theorem name183 : (Try.f17.name == "runtime.NumGoroutine") = false := by kernel_rfl
def h188 : Hint := ⟨.pure, [3, 2], [0, 1, 2, 3, 4, 9, 14]⟩
theorem comp188 : compFn Try.prog inv isPure h188 Try.f38 = some c188 := by kernel_rfl
theorem name188 : (Try.f38.name == "runtime.NumGoroutine") = false := by kernel_rfl
def h234 : Hint := ⟨.pure, [], [0, 1, 2]⟩
theorem comp234 : compFn Try.prog inv isPure h234 Try.f99 = some c234 := by kernel_rfl
theorem name234 : (Try.f99.name == "runtime.NumGoroutine") = false := by kernel_rfl
def h266 : Hint := ⟨.pure, [], [0, 1, 4, 5, 10, 14, 26]⟩
theorem comp266 : compFn Try.prog inv isPure h266 Try.f12 = some c266 := by kernel_rfl
theorem name266 : (Try.f12.name == "runtime.NumGoroutine") = false := by kernel_rfl
def h267 : Hint := ⟨.args, [], [0, 1, 4, 5, 9]⟩
theorem comp267 : compFn Try.prog inv isPure h267 Try.f16 = some c267 := by kernel_rfl
theorem name267 : (Try.f16.name == "runtime.NumGoroutine") = false := by kernel_rfl
def h268 : Hint := ⟨.pure, [], [0, 1, 4, 5, 9, 19, 29]⟩
theorem comp268 : compFn Try.prog inv isPure h268 Try.f18 = some c268 := by kernel_rfl
theorem name268 : (Try.f18.name == "runtime.NumGoroutine") = false := by kernel_rfl
def h295 : Hint := ⟨.pure, [], [0, 1, 2, 6]⟩
theorem comp295 : compFn Try.prog inv isPure h295 Try.f69 = some c295 := by kernel_rfl
theorem name295 : (Try.f69.name == "runtime.NumGoroutine") = false := by kernel_rfl
def h296 : Hint := ⟨.pure, [], [0, 2, 5, 8]⟩
theorem comp296 : compFn Try.prog inv isPure h296 Try.f35 = some c296 := by kernel_rfl
theorem name296 : (Try.f35.name == "runtime.NumGoroutine") = false := by kernel_rfl
def h304 : Hint := ⟨.pure, [], [0, 1, 2, 6]⟩
theorem comp304 : compFn Try.prog inv isPure h304 Try.f61 = some c304 := by kernel_rfl
theorem name304 : (Try.f61.name == "runtime.NumGoroutine") = false := by kernel_rfl
def h305 : Hint := ⟨.args, [], [0, 1, 2, 8]⟩
theorem comp305 : compFn Try.prog inv isPure h305 Try.f64 = some c305 := by kernel_rfl
theorem name305 : (Try.f64.name == "runtime.NumGoroutine") = false := by kernel_rfl
def h316 : Hint := ⟨.pure, [], [0, 2]⟩
theorem comp316 : compFn Try.prog inv isPure h316 Try.f44 = some c316 := by kernel_rfl
theorem name316 : (Try.f44.name == "runtime.NumGoroutine") = false := by kernel_rfl
def h318 : Hint := ⟨.pure, [], [0, 2, 3, 7, 14]⟩
theorem comp318 : compFn Try.prog inv isPure h318 Try.f31 = some c318 := by kernel_rfl
theorem name318 : (Try.f31.name == "runtime.NumGoroutine") = false := by kernel_rfl
def h342 : Hint := ⟨.pure, [], [0, 1, 4]⟩
theorem comp342 : compFn Try.prog inv isPure h342 Try.f95 = some c342 := by kernel_rfl
theorem name342 : (Try.f95.name == "runtime.NumGoroutine") = false := by kernel_rfl
def h351 : Hint := ⟨.pure, [], [0, 2]⟩
theorem comp351 : compFn Try.prog inv isPure h351 Try.f70 = some c351 := by kernel_rfl
theorem name351 : (Try.f70.name == "runtime.NumGoroutine") = false := by kernel_rfl
def h352 : Hint := ⟨.pure, [], [0, 1, 2, 3, 4, 6, 7, 8, 9, 10, 11, 12, 13, 14, 23, 42, 49, 61]⟩
theorem comp352 : compFn Try.prog inv isPure h352 Try.f37 = some c352 := by kernel_rfl
theorem name352 : (Try.f37.name == "runtime.NumGoroutine") = false := by kernel_rfl
def h353 : Hint := ⟨.pure, [], [0, 2]⟩
theorem comp353 : compFn Try.prog inv isPure h353 Try.f32 = some c353 := by kernel_rfl
theorem name353 : (Try.f32.name == "runtime.NumGoroutine") = false := by kernel_rfl
def h354 : Hint := ⟨.pure, [7], [0, 2, 3, 4, 5, 6, 7, 12, 19, 26, 37]⟩
theorem comp354 : compFn Try.prog inv isPure h354 Try.f33 = some c354 := by kernel_rfl
theorem name354 : (Try.f33.name == "runtime.NumGoroutine") = false := by kernel_rfl
def h355 : Hint := ⟨.pure, [6], [0, 1, 2, 6, 7, 8, 9, 16]⟩
theorem comp355 : compFn Try.prog inv isPure h355 Try.f34 = some c355 := by kernel_rfl
theorem name355 : (Try.f34.name == "runtime.NumGoroutine") = false := by kernel_rfl
def h358 : Hint := ⟨.pure, [7, 6, 3], [0, 1, 2, 3, 6, 7, 8, 9, 13, 15, 16, 23, 25]⟩
theorem comp358 : compFn Try.prog inv isPure h358 Try.f42 = some c358 := by kernel_rfl
theorem name358 : (Try.f42.name == "runtime.NumGoroutine") = false := by kernel_rfl
def h359 : Hint := ⟨.pure, [], [0, 2, 3, 5, 13]⟩
theorem comp359 : compFn Try.prog inv isPure h359 Try.f60 = some c359 := by kernel_rfl
theorem name359 : (Try.f60.name == "runtime.NumGoroutine") = false := by kernel_rfl
def h369 : Hint := ⟨.pure, [], [0, 2]⟩
theorem comp369 : compFn Try.prog inv isPure h369 Try.f45 = some c369 := by kernel_rfl
theorem name369 : (Try.f45.name == "runtime.NumGoroutine") = false := by kernel_rfl
def h371 : Hint := ⟨.pure, [], [0, 2, 3, 4, 5, 6, 12, 19]⟩
theorem comp371 : compFn Try.prog inv isPure h371 Try.f46 = some c371 := by kernel_rfl
theorem name371 : (Try.f46.name == "runtime.NumGoroutine") = false := by kernel_rfl
def h440 : Hint := ⟨.pure, [], [0, 2, 3, 4, 5, 8, 12, 18]⟩
theorem comp440 : compFn Try.prog inv isPure h440 Try.f63 = some c440 := by kernel_rfl
theorem name440 : (Try.f63.name == "runtime.NumGoroutine") = false := by kernel_rfl
def h445 : Hint := ⟨.pure, [], [0, 1, 4]⟩
theorem comp445 : compFn Try.prog inv isPure h445 Try.f117 = some c445 := by kernel_rfl
theorem name445 : (Try.f117.name == "runtime.NumGoroutine") = false := by kernel_rfl
def h446 : Hint := ⟨.pure, [], [0, 2]⟩
theorem comp446 : compFn Try.prog inv isPure h446 Try.f118 = some c446 := by kernel_rfl
theorem name446 : (Try.f118.name == "runtime.NumGoroutine") = false := by kernel_rfl
def h456 : Hint := ⟨.pure, [], [0, 1, 2, 6]⟩
theorem comp456 : compFn Try.prog inv isPure h456 Try.f94 = some c456 := by kernel_rfl
theorem name456 : (Try.f94.name == "runtime.NumGoroutine") = false := by kernel_rfl
def h474 : Hint := ⟨.pure, [], [0, 1, 4, 5, 7, 8, 9, 16]⟩
theorem comp474 : compFn Try.prog inv isPure h474 Try.f116 = some c474 := by kernel_rfl
theorem name474 : (Try.f116.name == "runtime.NumGoroutine") = false := by kernel_rfl
def h505 : Hint := ⟨.pure, [], [0, 1, 4]⟩
theorem comp505 : compFn Try.prog inv isPure h505 Try.f97 = some c505 := by kernel_rfl
theorem name505 : (Try.f97.name == "runtime.NumGoroutine") = false := by kernel_rfl
def h506 : Hint := ⟨.pure, [1], [0, 1, 2]⟩
theorem comp506 : compFn Try.prog inv isPure h506 Try.f98 = some c506 := by kernel_rfl
theorem name506 : (Try.f98.name == "runtime.NumGoroutine") = false := by kernel_rfl
def h507 : Hint := ⟨.pure, [], [0, 1, 4, 5, 7, 8, 9, 16]⟩
theorem comp507 : compFn Try.prog inv isPure h507 Try.f65 = some c507 := by kernel_rfl
theorem name507 : (Try.f65.name == "runtime.NumGoroutine") = false := by kernel_rfl
def h508 : Hint := ⟨.pure, [4], [0, 1, 2, 3, 4, 5]⟩
theorem comp508 : compFn Try.prog inv isPure h508 Try.f66 = some c508 := by kernel_rfl
theorem name508 : (Try.f66.name == "runtime.NumGoroutine") = false := by kernel_rfl
def h509 : Hint := ⟨.pure, [10, 7], [0, 1, 2, 3, 7, 8, 9, 10, 11, 12, 13, 14, 27]⟩
theorem comp509 : compFn Try.prog inv isPure h509 Try.f67 = some c509 := by kernel_rfl
theorem name509 : (Try.f67.name == "runtime.NumGoroutine") = false := by kernel_rfl
def h510 : Hint := ⟨.pure, [1], [0, 1, 2, 3, 4]⟩
theorem comp510 : compFn Try.prog inv isPure h510 Try.f62 = some c510 := by kernel_rfl
theorem name510 : (Try.f62.name == "runtime.NumGoroutine") = false := by kernel_rfl
def h514 : Hint := ⟨.pure, [4, 3, 2], [0, 1, 2, 3, 4]⟩
theorem comp514 : compFn Try.prog inv isPure h514 Try.f77 = some c514 := by kernel_rfl
theorem name514 : (Try.f77.name == "runtime.NumGoroutine") = false := by kernel_rfl
def h515 : Hint := ⟨.pure, [1], [0, 1, 2]⟩
theorem comp515 : compFn Try.prog inv isPure h515 Try.f71 = some c515 := by kernel_rfl
theorem name515 : (Try.f71.name == "runtime.NumGoroutine") = false := by kernel_rfl
def h516 : Hint := ⟨.pure, [], [0, 2]⟩
theorem comp516 : compFn Try.prog inv isPure h516 Try.f72 = some c516 := by kernel_rfl
theorem name516 : (Try.f72.name == "runtime.NumGoroutine") = false := by kernel_rfl
def h517 : Hint := ⟨.args, [], [0, 1]⟩
theorem comp517 : compFn Try.prog inv isPure h517 Try.f73 = some c517 := by kernel_rfl
theorem name517 : (Try.f73.name == "runtime.NumGoroutine") = false := by kernel_rfl
def h518 : Hint := ⟨.pure, [4, 3], [0, 1, 2, 3, 4, 5]⟩
theorem comp518 : compFn Try.prog inv isPure h518 Try.f74 = some c518 := by kernel_rfl
theorem name518 : (Try.f74.name == "runtime.NumGoroutine") = false := by kernel_rfl
def h519 : Hint := ⟨.pure, [], [0, 1, 4, 5, 6, 11, 12, 13, 16, 19]⟩
theorem comp519 : compFn Try.prog inv isPure h519 Try.f75 = some c519 := by kernel_rfl
theorem name519 : (Try.f75.name == "runtime.NumGoroutine") = false := by kernel_rfl
def h547 : Hint := ⟨.pure, [], [0, 1, 4, 5, 7, 8, 9, 16]⟩
theorem comp547 : compFn Try.prog inv isPure h547 Try.f130 = some c547 := by kernel_rfl
theorem name547 : (Try.f130.name == "runtime.NumGoroutine") = false := by kernel_rfl
def h549 : Hint := ⟨.pure, [], [0, 1, 4, 7]⟩
theorem comp549 : compFn Try.prog inv isPure h549 Try.f93 = some c549 := by kernel_rfl
theorem name549 : (Try.f93.name == "runtime.NumGoroutine") = false := by kernel_rfl
def h565 : Hint := ⟨.args, [], [0, 1, 2, 6, 7, 8, 9, 13, 30, 35, 54]⟩
theorem comp565 : compFn Try.prog inv isPure h565 Try.f100 = some c565 := by kernel_rfl
theorem name565 : (Try.f100.name == "runtime.NumGoroutine") = false := by kernel_rfl
def h566 : Hint := ⟨.pure, [], [0, 2]⟩
theorem comp566 : compFn Try.prog inv isPure h566 Try.f101 = some c566 := by kernel_rfl
theorem name566 : (Try.f101.name == "runtime.NumGoroutine") = false := by kernel_rfl
def h589 : Hint := ⟨.args, [], [0, 1, 2, 3, 8, 9, 14, 34]⟩
theorem comp589 : compFn Try.prog inv isPure h589 Try.f119 = some c589 := by kernel_rfl
theorem name589 : (Try.f119.name == "runtime.NumGoroutine") = false := by kernel_rfl
def h590 : Hint := ⟨.args, [], [0, 1, 2, 3, 4, 10, 11, 12, 13, 14, 15, 16, 17, 18, 19, 20, 21, 22, 23, 24, 28, 33, 50, 58, 80, 85, 103, 110, 140, 151, 171, 185, 199, 213]⟩
theorem comp590 : compFn Try.prog inv isPure h590 Try.f120 = some c590 := by kernel_rfl
theorem name590 : (Try.f120.name == "runtime.NumGoroutine") = false := by kernel_rfl
def h610 : Hint := ⟨.args, [], [0, 1, 2, 3, 4, 10, 11, 20, 23]⟩
theorem comp610 : compFn Try.prog inv isPure h610 Try.f131 = some c610 := by kernel_rfl
theorem name610 : (Try.f131.name == "runtime.NumGoroutine") = false := by kernel_rfl
def h624 : Hint := ⟨.args, [], [0, 1, 2, 3, 4, 10, 13]⟩
theorem comp624 : compFn Try.prog inv isPure h624 Try.f133 = some c624 := by kernel_rfl
theorem name624 : (Try.f133.name == "runtime.NumGoroutine") = false := by kernel_rfl
theorem tab_ok : ∀ f D, tab f = some D → DefOk Try.prog inv isPure rho f D := by
  intro f D h
  unfold tab at h
  split at h
  · cases h; exact ⟨Try.f3, h50, Try.func3, name50, comp50⟩
  · cases h; exact ⟨Try.f43, h78, Try.func43, name78, comp78⟩
  · cases h; exact ⟨Try.f7, h103, Try.func7, name103, comp103⟩
  · cases h; exact ⟨Try.f9, h105, Try.func9, name105, comp105⟩
  · cases h; exact ⟨Try.f13, h107, Try.func13, name107, comp107⟩
  · cases h; exact ⟨Try.f21, h121, Try.func21, name121, comp121⟩
  · cases h; exact ⟨Try.f14, h122, Try.func14, name122, comp122⟩
  · cases h; exact ⟨Try.f10, h128, Try.func10, name128, comp128⟩
  · cases h; exact ⟨Try.f8, h129, Try.func8, name129, comp129⟩
  · cases h; exact ⟨Try.f36, h134, Try.func36, name134, comp134⟩
  · cases h; exact ⟨Try.f11, h180, Try.func11, name180, comp180⟩
  · cases h; exact ⟨Try.f15, h182, Try.func15, name182, comp182⟩
  · cases h; exact ⟨Try.f17, h183, Try.func17, name183, comp183⟩
  · cases h; exact ⟨Try.f38, h188, Try.func38, name188, comp188⟩
  · cases h; exact ⟨Try.f99, h234, Try.func99, name234, comp234⟩
  · cases h; exact ⟨Try.f12, h266, Try.func12, name266, comp266⟩
  · cases h; exact ⟨Try.f16, h267, Try.func16, name267, comp267⟩
  · cases h; exact ⟨Try.f18, h268, Try.func18, name268, comp268⟩
  · cases h; exact ⟨Try.f69, h295, Try.func69, name295, comp295⟩
  · cases h; exact ⟨Try.f35, h296, Try.func35, name296, comp296⟩
  · cases h; exact ⟨Try.f61, h304, Try.func61, name304, comp304⟩
  · cases h; exact ⟨Try.f64, h305, Try.func64, name305, comp305⟩
  · cases h; exact ⟨Try.f44, h316, Try.func44, name316, comp316⟩
  · cases h; exact ⟨Try.f31, h318, Try.func31, name318, comp318⟩
  · cases h; exact ⟨Try.f95, h342, Try.func95, name342, comp342⟩
  · cases h; exact ⟨Try.f70, h351, Try.func70, name351, comp351⟩
  · cases h; exact ⟨Try.f37, h352, Try.func37, name352, comp352⟩
  · cases h; exact ⟨Try.f32, h353, Try.func32, name353, comp353⟩
  · cases h; exact ⟨Try.f33, h354, Try.func33, name354, comp354⟩
  · cases h; exact ⟨Try.f34, h355, Try.func34, name355, comp355⟩
  · cases h; exact ⟨Try.f42, h358, Try.func42, name358, comp358⟩
  · cases h; exact ⟨Try.f60, h359, Try.func60, name359, comp359⟩
  · cases h; exact ⟨Try.f45, h369, Try.func45, name369, comp369⟩
  · cases h; exact ⟨Try.f46, h371, Try.func46, name371, comp371⟩
  · cases h; exact ⟨Try.f63, h440, Try.func63, name440, comp440⟩
  · cases h; exact ⟨Try.f117, h445, Try.func117, name445, comp445⟩
  · cases h; exact ⟨Try.f118, h446, Try.func118, name446, comp446⟩
  · cases h; exact ⟨Try.f94, h456, Try.func94, name456, comp456⟩
  · cases h; exact ⟨Try.f116, h474, Try.func116, name474, comp474⟩
  · cases h; exact ⟨Try.f97, h505, Try.func97, name505, comp505⟩
  · cases h; exact ⟨Try.f98, h506, Try.func98, name506, comp506⟩
  · cases h; exact ⟨Try.f65, h507, Try.func65, name507, comp507⟩
  · cases h; exact ⟨Try.f66, h508, Try.func66, name508, comp508⟩
  · cases h; exact ⟨Try.f67, h509, Try.func67, name509, comp509⟩
  · cases h; exact ⟨Try.f62, h510, Try.func62, name510, comp510⟩
  · cases h; exact ⟨Try.f77, h514, Try.func77, name514, comp514⟩
  · cases h; exact ⟨Try.f71, h515, Try.func71, name515, comp515⟩
  · cases h; exact ⟨Try.f72, h516, Try.func72, name516, comp516⟩
  · cases h; exact ⟨Try.f73, h517, Try.func73, name517, comp517⟩
  · cases h; exact ⟨Try.f74, h518, Try.func74, name518, comp518⟩
  · cases h; exact ⟨Try.f75, h519, Try.func75, name519, comp519⟩
  · cases h; exact ⟨Try.f130, h547, Try.func130, name547, comp547⟩
  · cases h; exact ⟨Try.f93, h549, Try.func93, name549, comp549⟩
  · cases h; exact ⟨Try.f100, h565, Try.func100, name565, comp565⟩
  · cases h; exact ⟨Try.f101, h566, Try.func101, name566, comp566⟩
  · cases h; exact ⟨Try.f119, h589, Try.func119, name589, comp589⟩
  · cases h; exact ⟨Try.f120, h590, Try.func120, name590, comp590⟩
  · cases h; exact ⟨Try.f131, h610, Try.func131, name610, comp610⟩
  · cases h; exact ⟨Try.f133, h624, Try.func133, name624, comp624⟩
  · cases h
end Fb
