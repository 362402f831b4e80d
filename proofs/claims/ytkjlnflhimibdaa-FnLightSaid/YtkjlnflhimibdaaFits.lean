/- Each function of the law is compiled by the checker to its text in the small language. -/
import Derived.Test.YtkjlnflhimibdaaRow2
import Derived.Test.YtkjlnflhimibdaaTab
import Derived.Test.YtkjlnflhimibdaaRows
import Derived.KernelRfl
set_option linter.unusedVariables false
set_option linter.unusedSimpArgs false
namespace Fb
open Go Go.Proofs

def inv : FuncId → Option Nat := fun f => match f with
  | 3 => some 39
  | 18 => some 63
  | 15 => some 65
  | 21 => some 67
  | 14 => some 73
  | 13 => some 74
  | 24 => some 76
  | 23 => some 77
  | 9 => some 84
  | 11 => some 85
  | 12 => some 124
  | 20 => some 133
  | 19 => some 135
  | 17 => some 145
  | 16 => some 146
  | 10 => some 200
  | 22 => some 201
  | 25 => some 202
  | 61 => some 234
  | 104 => some 291
  | 111 => some 293
  | 112 => some 294
  | 113 => some 295
  | 105 => some 299
  | 106 => some 300
  | 102 => some 301
  | 103 => some 302
  | 117 => some 304
  | 118 => some 305
  | 115 => some 306
  | 116 => some 307
  | 101 => some 314
  | 100 => some 315
  | 107 => some 316
  | 109 => some 318
  | 119 => some 327
  | 173 => some 342
  | 125 => some 345
  | 126 => some 346
  | 120 => some 349
  | 137 => some 351
  | 161 => some 355
  | 114 => some 359
  | 110 => some 360
  | 108 => some 361
  | 121 => some 368
  | 128 => some 395
  | 99 => some 417
  | 151 => some 440
  | 156 => some 445
  | 157 => some 446
  | 166 => some 449
  | 174 => some 456
  | 178 => some 459
  | 233 => some 474
  | 197 => some 487
  | 195 => some 496
  | 205 => some 505
  | 206 => some 506
  | 196 => some 511
  | 198 => some 513
  | 216 => some 547
  | 222 => some 550
  | _ => none
def rho : Nat → FuncId := fun n => match n with
  | 39 => 3
  | 63 => 18
  | 65 => 15
  | 67 => 21
  | 73 => 14
  | 74 => 13
  | 76 => 24
  | 77 => 23
  | 84 => 9
  | 85 => 11
  | 124 => 12
  | 133 => 20
  | 135 => 19
  | 145 => 17
  | 146 => 16
  | 200 => 10
  | 201 => 22
  | 202 => 25
  | 234 => 61
  | 291 => 104
  | 293 => 111
  | 294 => 112
  | 295 => 113
  | 299 => 105
  | 300 => 106
  | 301 => 102
  | 302 => 103
  | 304 => 117
  | 305 => 118
  | 306 => 115
  | 307 => 116
  | 314 => 101
  | 315 => 100
  | 316 => 107
  | 318 => 109
  | 327 => 119
  | 342 => 173
  | 345 => 125
  | 346 => 126
  | 349 => 120
  | 351 => 137
  | 355 => 161
  | 359 => 114
  | 360 => 110
  | 361 => 108
  | 368 => 121
  | 395 => 128
  | 417 => 99
  | 440 => 151
  | 445 => 156
  | 446 => 157
  | 449 => 166
  | 456 => 174
  | 459 => 178
  | 474 => 233
  | 487 => 197
  | 496 => 195
  | 505 => 205
  | 506 => 206
  | 511 => 196
  | 513 => 198
  | 547 => 216
  | 550 => 222
  | _ => 0
def isPure : Nat → Bool := fun n => !([305, 314, 368, 417, 459, 496, 513, 550] : List Nat).contains n
theorem inv_rho : ∀ f i, inv f = some i → rho i = f := by
  intro f i h
  unfold inv at h
  split at h <;> first | (cases h; rfl) | cases h
def h39 : Hint := ⟨.pure, [44, 42, 40, 36, 26, 24, 22, 20, 18, 12, 10, 8, 5], [0, 1, 4, 5, 6, 7, 8, 9, 10, 11, 12, 13, 14, 15, 16, 17, 18, 19, 20, 21, 22, 23, 24, 25, 26, 27, 28, 29, 30, 31, 32, 33, 34, 35, 36, 37, 38, 39, 40, 41, 42, 43, 44, 45, 48, 159, 164, 198, 239, 241, 245, 292, 304, 309, 356]⟩
theorem comp39 : compFn Try.prog inv isPure h39 Try.f3 = some c39 := by kernel_rfl
theorem name39 : (Try.f3.name == "runtime.NumGoroutine") = false := by kernel_rfl
def h63 : Hint := ⟨.pure, [1], [0, 1, 2, 4, 5, 6, 7, 10]⟩
theorem comp63 : compFn Try.prog inv isPure h63 Try.f18 = some c63 := by kernel_rfl
theorem name63 : (Try.f18.name == "runtime.NumGoroutine") = false := by kernel_rfl
def h65 : Hint := ⟨.pure, [6, 1], [0, 1, 2, 3, 4, 6, 8, 11, 12, 13, 14, 16, 17, 18]⟩
theorem comp65 : compFn Try.prog inv isPure h65 Try.f15 = some c65 := by kernel_rfl
theorem name65 : (Try.f15.name == "runtime.NumGoroutine") = false := by kernel_rfl
def h67 : Hint := ⟨.pure, [1], [0, 1, 2, 3, 4, 5, 6, 7, 8, 9, 10, 13, 14, 15, 19, 20, 21, 30]⟩
theorem comp67 : compFn Try.prog inv isPure h67 Try.f21 = some c67 := by kernel_rfl
theorem name67 : (Try.f21.name == "runtime.NumGoroutine") = false := by kernel_rfl
def h73 : Hint := ⟨.pure, [4], [0, 1, 2, 4, 5, 7, 11]⟩
theorem comp73 : compFn Try.prog inv isPure h73 Try.f14 = some c73 := by kernel_rfl
theorem name73 : (Try.f14.name == "runtime.NumGoroutine") = false := by kernel_rfl
def h74 : Hint := ⟨.pure, [4, 2], [0, 1, 2, 4, 5, 6, 11]⟩
theorem comp74 : compFn Try.prog inv isPure h74 Try.f13 = some c74 := by kernel_rfl
theorem name74 : (Try.f13.name == "runtime.NumGoroutine") = false := by kernel_rfl
def h76 : Hint := ⟨.pure, [4], [0, 1, 2, 4, 5, 6, 7, 8, 10, 14, 18, 22, 32]⟩
theorem comp76 : compFn Try.prog inv isPure h76 Try.f24 = some c76 := by kernel_rfl
theorem name76 : (Try.f24.name == "runtime.NumGoroutine") = false := by kernel_rfl
def h77 : Hint := ⟨.pure, [4], [0, 1, 2, 3, 4, 5, 6, 11]⟩
theorem comp77 : compFn Try.prog inv isPure h77 Try.f23 = some c77 := by kernel_rfl
theorem name77 : (Try.f23.name == "runtime.NumGoroutine") = false := by kernel_rfl
def h84 : Hint := ⟨.pure, [], [0, 1, 4]⟩
theorem comp84 : compFn Try.prog inv isPure h84 Try.f9 = some c84 := by kernel_rfl
theorem name84 : (Try.f9.name == "runtime.NumGoroutine") = false := by kernel_rfl
def h85 : Hint := ⟨.pure, [], [0, 2]⟩
theorem comp85 : compFn Try.prog inv isPure h85 Try.f11 = some c85 := by kernel_rfl
theorem name85 : (Try.f11.name == "runtime.NumGoroutine") = false := by kernel_rfl
def h124 : Hint := ⟨.pure, [], [0, 1, 2, 6, 14]⟩
theorem comp124 : compFn Try.prog inv isPure h124 Try.f12 = some c124 := by kernel_rfl
theorem name124 : (Try.f12.name == "runtime.NumGoroutine") = false := by kernel_rfl
def h133 : Hint := ⟨.pure, [6], [0, 1, 2, 3, 4, 6, 7, 13, 17]⟩
theorem comp133 : compFn Try.prog inv isPure h133 Try.f20 = some c133 := by kernel_rfl
theorem name133 : (Try.f20.name == "runtime.NumGoroutine") = false := by kernel_rfl
def h135 : Hint := ⟨.pure, [6, 4, 3], [0, 1, 2, 3, 4, 6, 7, 8, 18]⟩
theorem comp135 : compFn Try.prog inv isPure h135 Try.f19 = some c135 := by kernel_rfl
theorem name135 : (Try.f19.name == "runtime.NumGoroutine") = false := by kernel_rfl
def h145 : Hint := ⟨.pure, [6, 4], [0, 1, 4, 5, 6, 7, 10, 14, 20]⟩
theorem comp145 : compFn Try.prog inv isPure h145 Try.f17 = some c145 := by kernel_rfl
theorem name145 : (Try.f17.name == "runtime.NumGoroutine") = false := by kernel_rfl
def h146 : Hint := ⟨.pure, [8, 6, 4], [0, 1, 4, 5, 6, 8, 9, 14, 20, 21, 22, 23]⟩
theorem comp146 : compFn Try.prog inv isPure h146 Try.f16 = some c146 := by kernel_rfl
theorem name146 : (Try.f16.name == "runtime.NumGoroutine") = false := by kernel_rfl
def h200 : Hint := ⟨.pure, [2], [0, 2]⟩
theorem comp200 : compFn Try.prog inv isPure h200 Try.f10 = some c200 := by kernel_rfl
theorem name200 : (Try.f10.name == "runtime.NumGoroutine") = false := by kernel_rfl
def h201 : Hint := ⟨.pure, [2], [0, 1, 2, 3, 4, 6, 9]⟩
theorem comp201 : compFn Try.prog inv isPure h201 Try.f22 = some c201 := by kernel_rfl
theorem name201 : (Try.f22.name == "runtime.NumGoroutine") = false := by kernel_rfl
def h202 : Hint := ⟨.pure, [4], [0, 1, 2, 3, 4, 5, 6, 9]⟩
theorem comp202 : compFn Try.prog inv isPure h202 Try.f25 = some c202 := by kernel_rfl
theorem name202 : (Try.f25.name == "runtime.NumGoroutine") = false := by kernel_rfl
def h234 : Hint := ⟨.pure, [], [0, 1, 2]⟩
theorem comp234 : compFn Try.prog inv isPure h234 Try.f61 = some c234 := by kernel_rfl
theorem name234 : (Try.f61.name == "runtime.NumGoroutine") = false := by kernel_rfl
def h291 : Hint := ⟨.pure, [], [0, 2, 3, 4, 6, 10, 22]⟩
theorem comp291 : compFn Try.prog inv isPure h291 Try.f104 = some c291 := by kernel_rfl
theorem name291 : (Try.f104.name == "runtime.NumGoroutine") = false := by kernel_rfl
def h293 : Hint := ⟨.pure, [], [0, 1, 4]⟩
theorem comp293 : compFn Try.prog inv isPure h293 Try.f111 = some c293 := by kernel_rfl
theorem name293 : (Try.f111.name == "runtime.NumGoroutine") = false := by kernel_rfl
def h294 : Hint := ⟨.pure, [], [0, 2]⟩
theorem comp294 : compFn Try.prog inv isPure h294 Try.f112 = some c294 := by kernel_rfl
theorem name294 : (Try.f112.name == "runtime.NumGoroutine") = false := by kernel_rfl
def h295 : Hint := ⟨.pure, [], [0, 1, 2, 6]⟩
theorem comp295 : compFn Try.prog inv isPure h295 Try.f113 = some c295 := by kernel_rfl
theorem name295 : (Try.f113.name == "runtime.NumGoroutine") = false := by kernel_rfl
def h299 : Hint := ⟨.pure, [], [0, 2]⟩
theorem comp299 : compFn Try.prog inv isPure h299 Try.f105 = some c299 := by kernel_rfl
theorem name299 : (Try.f105.name == "runtime.NumGoroutine") = false := by kernel_rfl
def h300 : Hint := ⟨.pure, [4, 2], [0, 1, 2, 4, 5, 6, 8, 12]⟩
theorem comp300 : compFn Try.prog inv isPure h300 Try.f106 = some c300 := by kernel_rfl
theorem name300 : (Try.f106.name == "runtime.NumGoroutine") = false := by kernel_rfl
def h301 : Hint := ⟨.pure, [], [0, 2]⟩
theorem comp301 : compFn Try.prog inv isPure h301 Try.f102 = some c301 := by kernel_rfl
theorem name301 : (Try.f102.name == "runtime.NumGoroutine") = false := by kernel_rfl
def h302 : Hint := ⟨.pure, [4, 2], [0, 1, 2, 4, 5, 6, 7, 8, 9, 13, 14, 15]⟩
theorem comp302 : compFn Try.prog inv isPure h302 Try.f103 = some c302 := by kernel_rfl
theorem name302 : (Try.f103.name == "runtime.NumGoroutine") = false := by kernel_rfl
def h304 : Hint := ⟨.pure, [], [0, 1, 2, 6]⟩
theorem comp304 : compFn Try.prog inv isPure h304 Try.f117 = some c304 := by kernel_rfl
theorem name304 : (Try.f117.name == "runtime.NumGoroutine") = false := by kernel_rfl
def h305 : Hint := ⟨.args, [], [0, 1, 2, 8]⟩
theorem comp305 : compFn Try.prog inv isPure h305 Try.f118 = some c305 := by kernel_rfl
theorem name305 : (Try.f118.name == "runtime.NumGoroutine") = false := by kernel_rfl
def h306 : Hint := ⟨.pure, [3, 2], [0, 2, 3, 4, 5, 7, 8, 10, 11, 16]⟩
theorem comp306 : compFn Try.prog inv isPure h306 Try.f115 = some c306 := by kernel_rfl
theorem name306 : (Try.f115.name == "runtime.NumGoroutine") = false := by kernel_rfl
def h307 : Hint := ⟨.pure, [], [0, 1, 2, 3, 6]⟩
theorem comp307 : compFn Try.prog inv isPure h307 Try.f116 = some c307 := by kernel_rfl
theorem name307 : (Try.f116.name == "runtime.NumGoroutine") = false := by kernel_rfl
def h314 : Hint := ⟨.args, [], [0, 1, 4, 5, 6, 7, 16, 20, 28, 32, 34, 38]⟩
theorem comp314 : compFn Try.prog inv isPure h314 Try.f101 = some c314 := by kernel_rfl
theorem name314 : (Try.f101.name == "runtime.NumGoroutine") = false := by kernel_rfl
def h315 : Hint := ⟨.pure, [], [0, 2]⟩
theorem comp315 : compFn Try.prog inv isPure h315 Try.f100 = some c315 := by kernel_rfl
theorem name315 : (Try.f100.name == "runtime.NumGoroutine") = false := by kernel_rfl
def h316 : Hint := ⟨.pure, [], [0, 2]⟩
theorem comp316 : compFn Try.prog inv isPure h316 Try.f107 = some c316 := by kernel_rfl
theorem name316 : (Try.f107.name == "runtime.NumGoroutine") = false := by kernel_rfl
def h318 : Hint := ⟨.pure, [], [0, 2, 3, 7, 14]⟩
theorem comp318 : compFn Try.prog inv isPure h318 Try.f109 = some c318 := by kernel_rfl
theorem name318 : (Try.f109.name == "runtime.NumGoroutine") = false := by kernel_rfl
def h327 : Hint := ⟨.pure, [], [0, 1, 4, 12]⟩
theorem comp327 : compFn Try.prog inv isPure h327 Try.f119 = some c327 := by kernel_rfl
theorem name327 : (Try.f119.name == "runtime.NumGoroutine") = false := by kernel_rfl
def h342 : Hint := ⟨.pure, [], [0, 1, 4]⟩
theorem comp342 : compFn Try.prog inv isPure h342 Try.f173 = some c342 := by kernel_rfl
theorem name342 : (Try.f173.name == "runtime.NumGoroutine") = false := by kernel_rfl
def h345 : Hint := ⟨.pure, [], [0, 1, 4]⟩
theorem comp345 : compFn Try.prog inv isPure h345 Try.f125 = some c345 := by kernel_rfl
theorem name345 : (Try.f125.name == "runtime.NumGoroutine") = false := by kernel_rfl
def h346 : Hint := ⟨.pure, [6, 3], [0, 1, 2, 3, 6]⟩
theorem comp346 : compFn Try.prog inv isPure h346 Try.f126 = some c346 := by kernel_rfl
theorem name346 : (Try.f126.name == "runtime.NumGoroutine") = false := by kernel_rfl
def h349 : Hint := ⟨.pure, [5, 4], [0, 1, 4, 5, 6, 9]⟩
theorem comp349 : compFn Try.prog inv isPure h349 Try.f120 = some c349 := by kernel_rfl
theorem name349 : (Try.f120.name == "runtime.NumGoroutine") = false := by kernel_rfl
def h351 : Hint := ⟨.pure, [], [0, 2]⟩
theorem comp351 : compFn Try.prog inv isPure h351 Try.f137 = some c351 := by kernel_rfl
theorem name351 : (Try.f137.name == "runtime.NumGoroutine") = false := by kernel_rfl
def h355 : Hint := ⟨.pure, [6], [0, 1, 2, 6, 7, 8, 9, 16]⟩
theorem comp355 : compFn Try.prog inv isPure h355 Try.f161 = some c355 := by kernel_rfl
theorem name355 : (Try.f161.name == "runtime.NumGoroutine") = false := by kernel_rfl
def h359 : Hint := ⟨.pure, [], [0, 2, 3, 5, 13]⟩
theorem comp359 : compFn Try.prog inv isPure h359 Try.f114 = some c359 := by kernel_rfl
theorem name359 : (Try.f114.name == "runtime.NumGoroutine") = false := by kernel_rfl
def h360 : Hint := ⟨.pure, [6, 3], [0, 1, 2, 3, 6, 7, 8, 13, 17, 23]⟩
theorem comp360 : compFn Try.prog inv isPure h360 Try.f110 = some c360 := by kernel_rfl
theorem name360 : (Try.f110.name == "runtime.NumGoroutine") = false := by kernel_rfl
def h361 : Hint := ⟨.pure, [6, 4, 3, 2], [0, 1, 2, 3, 4, 6, 8, 9, 10, 11]⟩
theorem comp361 : compFn Try.prog inv isPure h361 Try.f108 = some c361 := by kernel_rfl
theorem name361 : (Try.f108.name == "runtime.NumGoroutine") = false := by kernel_rfl
def h368 : Hint := ⟨.args, [2], [0, 2, 3, 4, 5, 6, 7, 16, 23, 30, 36, 43, 45]⟩
theorem comp368 : compFn Try.prog inv isPure h368 Try.f121 = some c368 := by kernel_rfl
theorem name368 : (Try.f121.name == "runtime.NumGoroutine") = false := by kernel_rfl
def h395 : Hint := ⟨.pure, [3], [0, 1, 2, 3, 6]⟩
theorem comp395 : compFn Try.prog inv isPure h395 Try.f128 = some c395 := by kernel_rfl
theorem name395 : (Try.f128.name == "runtime.NumGoroutine") = false := by kernel_rfl
def h417 : Hint := ⟨.args, [3, 2], [0, 2, 3, 4, 5, 10]⟩
theorem comp417 : compFn Try.prog inv isPure h417 Try.f99 = some c417 := by kernel_rfl
theorem name417 : (Try.f99.name == "runtime.NumGoroutine") = false := by kernel_rfl
def h440 : Hint := ⟨.pure, [], [0, 2, 3, 4, 5, 8, 12, 18]⟩
theorem comp440 : compFn Try.prog inv isPure h440 Try.f151 = some c440 := by kernel_rfl
theorem name440 : (Try.f151.name == "runtime.NumGoroutine") = false := by kernel_rfl
def h445 : Hint := ⟨.pure, [], [0, 1, 4]⟩
theorem comp445 : compFn Try.prog inv isPure h445 Try.f156 = some c445 := by kernel_rfl
theorem name445 : (Try.f156.name == "runtime.NumGoroutine") = false := by kernel_rfl
def h446 : Hint := ⟨.pure, [], [0, 2]⟩
theorem comp446 : compFn Try.prog inv isPure h446 Try.f157 = some c446 := by kernel_rfl
theorem name446 : (Try.f157.name == "runtime.NumGoroutine") = false := by kernel_rfl
def h449 : Hint := ⟨.pure, [1], [0, 1, 2, 3, 4, 5, 7, 8, 10, 11, 16]⟩
theorem comp449 : compFn Try.prog inv isPure h449 Try.f166 = some c449 := by kernel_rfl
theorem name449 : (Try.f166.name == "runtime.NumGoroutine") = false := by kernel_rfl
def h456 : Hint := ⟨.pure, [], [0, 1, 2, 6]⟩
theorem comp456 : compFn Try.prog inv isPure h456 Try.f174 = some c456 := by kernel_rfl
theorem name456 : (Try.f174.name == "runtime.NumGoroutine") = false := by kernel_rfl
def h459 : Hint := ⟨.args, [], [0, 1, 4, 5, 7, 11]⟩
theorem comp459 : compFn Try.prog inv isPure h459 Try.f178 = some c459 := by kernel_rfl
theorem name459 : (Try.f178.name == "runtime.NumGoroutine") = false := by kernel_rfl
def h474 : Hint := ⟨.pure, [], [0, 1, 4, 5, 7, 8, 9, 16]⟩
theorem comp474 : compFn Try.prog inv isPure h474 Try.f233 = some c474 := by kernel_rfl
theorem name474 : (Try.f233.name == "runtime.NumGoroutine") = false := by kernel_rfl
def h487 : Hint := ⟨.pure, [], [0, 1, 4, 5, 7, 8, 9, 16]⟩
theorem comp487 : compFn Try.prog inv isPure h487 Try.f197 = some c487 := by kernel_rfl
theorem name487 : (Try.f197.name == "runtime.NumGoroutine") = false := by kernel_rfl
def h496 : Hint := ⟨.args, [], [0, 1, 4]⟩
theorem comp496 : compFn Try.prog inv isPure h496 Try.f195 = some c496 := by kernel_rfl
theorem name496 : (Try.f195.name == "runtime.NumGoroutine") = false := by kernel_rfl
def h505 : Hint := ⟨.pure, [], [0, 1, 4]⟩
theorem comp505 : compFn Try.prog inv isPure h505 Try.f205 = some c505 := by kernel_rfl
theorem name505 : (Try.f205.name == "runtime.NumGoroutine") = false := by kernel_rfl
def h506 : Hint := ⟨.pure, [1], [0, 1, 2]⟩
theorem comp506 : compFn Try.prog inv isPure h506 Try.f206 = some c506 := by kernel_rfl
theorem name506 : (Try.f206.name == "runtime.NumGoroutine") = false := by kernel_rfl
def h511 : Hint := ⟨.pure, [], [0, 1, 4, 7]⟩
theorem comp511 : compFn Try.prog inv isPure h511 Try.f196 = some c511 := by kernel_rfl
theorem name511 : (Try.f196.name == "runtime.NumGoroutine") = false := by kernel_rfl
def h513 : Hint := ⟨.args, [], [0, 1, 4]⟩
theorem comp513 : compFn Try.prog inv isPure h513 Try.f198 = some c513 := by kernel_rfl
theorem name513 : (Try.f198.name == "runtime.NumGoroutine") = false := by kernel_rfl
def h547 : Hint := ⟨.pure, [], [0, 1, 4, 5, 7, 8, 9, 16]⟩
theorem comp547 : compFn Try.prog inv isPure h547 Try.f216 = some c547 := by kernel_rfl
theorem name547 : (Try.f216.name == "runtime.NumGoroutine") = false := by kernel_rfl
def h550 : Hint := ⟨.args, [], [0, 2, 3, 13, 53]⟩
theorem comp550 : compFn Try.prog inv isPure h550 Try.f222 = some c550 := by kernel_rfl
theorem name550 : (Try.f222.name == "runtime.NumGoroutine") = false := by kernel_rfl
theorem tab_ok : ∀ f D, tab f = some D → DefOk Try.prog inv isPure rho f D := by
  intro f D h
  unfold tab at h
  split at h
  · cases h; exact ⟨Try.f3, h39, Try.func3, name39, comp39⟩
  · cases h; exact ⟨Try.f18, h63, Try.func18, name63, comp63⟩
  · cases h; exact ⟨Try.f15, h65, Try.func15, name65, comp65⟩
  · cases h; exact ⟨Try.f21, h67, Try.func21, name67, comp67⟩
  · cases h; exact ⟨Try.f14, h73, Try.func14, name73, comp73⟩
  · cases h; exact ⟨Try.f13, h74, Try.func13, name74, comp74⟩
  · cases h; exact ⟨Try.f24, h76, Try.func24, name76, comp76⟩
  · cases h; exact ⟨Try.f23, h77, Try.func23, name77, comp77⟩
  · cases h; exact ⟨Try.f9, h84, Try.func9, name84, comp84⟩
  · cases h; exact ⟨Try.f11, h85, Try.func11, name85, comp85⟩
  · cases h; exact ⟨Try.f12, h124, Try.func12, name124, comp124⟩
  · cases h; exact ⟨Try.f20, h133, Try.func20, name133, comp133⟩
  · cases h; exact ⟨Try.f19, h135, Try.func19, name135, comp135⟩
  · cases h; exact ⟨Try.f17, h145, Try.func17, name145, comp145⟩
  · cases h; exact ⟨Try.f16, h146, Try.func16, name146, comp146⟩
  · cases h; exact ⟨Try.f10, h200, Try.func10, name200, comp200⟩
  · cases h; exact ⟨Try.f22, h201, Try.func22, name201, comp201⟩
  · cases h; exact ⟨Try.f25, h202, Try.func25, name202, comp202⟩
  · cases h; exact ⟨Try.f61, h234, Try.func61, name234, comp234⟩
  · cases h; exact ⟨Try.f104, h291, Try.func104, name291, comp291⟩
  · cases h; exact ⟨Try.f111, h293, Try.func111, name293, comp293⟩
  · cases h; exact ⟨Try.f112, h294, Try.func112, name294, comp294⟩
  · cases h; exact ⟨Try.f113, h295, Try.func113, name295, comp295⟩
  · cases h; exact ⟨Try.f105, h299, Try.func105, name299, comp299⟩
  · cases h; exact ⟨Try.f106, h300, Try.func106, name300, comp300⟩
  · cases h; exact ⟨Try.f102, h301, Try.func102, name301, comp301⟩
  · cases h; exact ⟨Try.f103, h302, Try.func103, name302, comp302⟩
  · cases h; exact ⟨Try.f117, h304, Try.func117, name304, comp304⟩
  · cases h; exact ⟨Try.f118, h305, Try.func118, name305, comp305⟩
  · cases h; exact ⟨Try.f115, h306, Try.func115, name306, comp306⟩
  · cases h; exact ⟨Try.f116, h307, Try.func116, name307, comp307⟩
  · cases h; exact ⟨Try.f101, h314, Try.func101, name314, comp314⟩
  · cases h; exact ⟨Try.f100, h315, Try.func100, name315, comp315⟩
  · cases h; exact ⟨Try.f107, h316, Try.func107, name316, comp316⟩
  · cases h; exact ⟨Try.f109, h318, Try.func109, name318, comp318⟩
  · cases h; exact ⟨Try.f119, h327, Try.func119, name327, comp327⟩
  · cases h; exact ⟨Try.f173, h342, Try.func173, name342, comp342⟩
  · cases h; exact ⟨Try.f125, h345, Try.func125, name345, comp345⟩
  · cases h; exact ⟨Try.f126, h346, Try.func126, name346, comp346⟩
  · cases h; exact ⟨Try.f120, h349, Try.func120, name349, comp349⟩
  · cases h; exact ⟨Try.f137, h351, Try.func137, name351, comp351⟩
  · cases h; exact ⟨Try.f161, h355, Try.func161, name355, comp355⟩
  · cases h; exact ⟨Try.f114, h359, Try.func114, name359, comp359⟩
  · cases h; exact ⟨Try.f110, h360, Try.func110, name360, comp360⟩
  · cases h; exact ⟨Try.f108, h361, Try.func108, name361, comp361⟩
  · cases h; exact ⟨Try.f121, h368, Try.func121, name368, comp368⟩
  · cases h; exact ⟨Try.f128, h395, Try.func128, name395, comp395⟩
  · cases h; exact ⟨Try.f99, h417, Try.func99, name417, comp417⟩
  · cases h; exact ⟨Try.f151, h440, Try.func151, name440, comp440⟩
  · cases h; exact ⟨Try.f156, h445, Try.func156, name445, comp445⟩
  · cases h; exact ⟨Try.f157, h446, Try.func157, name446, comp446⟩
  · cases h; exact ⟨Try.f166, h449, Try.func166, name449, comp449⟩
  · cases h; exact ⟨Try.f174, h456, Try.func174, name456, comp456⟩
  · cases h; exact ⟨Try.f178, h459, Try.func178, name459, comp459⟩
  · cases h; exact ⟨Try.f233, h474, Try.func233, name474, comp474⟩
  · cases h; exact ⟨Try.f197, h487, Try.func197, name487, comp487⟩
  · cases h; exact ⟨Try.f195, h496, Try.func195, name496, comp496⟩
  · cases h; exact ⟨Try.f205, h505, Try.func205, name505, comp505⟩
  · cases h; exact ⟨Try.f206, h506, Try.func206, name506, comp506⟩
  · cases h; exact ⟨Try.f196, h511, Try.func196, name511, comp511⟩
  · cases h; exact ⟨Try.f198, h513, Try.func198, name513, comp513⟩
  · cases h; exact ⟨Try.f216, h547, Try.func216, name547, comp547⟩
  · cases h; exact ⟨Try.f222, h550, Try.func222, name550, comp550⟩
  · cases h
end Fb
