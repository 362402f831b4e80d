/- Each function of the law is compiled by the checker to its text in the small language. -/
import Derived.Test.YtimijcjjmeemeaaRow3
import Derived.Test.YtimijcjjmeemeaaTab
import Derived.Test.YtimijcjjmeemeaaRows
import Derived.KernelRfl
import Derived.Test.YtimijcjjmeemeaaShelf
import Derived.Test.YtimijcjjmeemeaaW439
import Derived.Test.YtimijcjjmeemeaaSoundZ
import Derived.Test.YtimijcjjmeemeaaUse3
set_option linter.unusedVariables false
set_option linter.unusedSimpArgs false
namespace Fb
open Go Go.Proofs

def inv : FuncId → Option Nat := fun f => match f with
  | 3 => some 47
  | 5 => some 84
  | 18 => some 124
  | 27 => some 125
  | 21 => some 132
  | 6 => some 147
  | 22 => some 150
  | 23 => some 171
  | 9 => some 173
  | 16 => some 201
  | 7 => some 226
  | 8 => some 227
  | 10 => some 228
  | 11 => some 229
  | 12 => some 230
  | 13 => some 231
  | 14 => some 232
  | 15 => some 233
  | 17 => some 234
  | 19 => some 235
  | 20 => some 236
  | 24 => some 237
  | 25 => some 238
  | 26 => some 239
  | 28 => some 240
  | 29 => some 241
  | 30 => some 242
  | 31 => some 243
  | 32 => some 244
  | 104 => some 295
  | 116 => some 304
  | 63 => some 305
  | 56 => some 306
  | 55 => some 315
  | 80 => some 324
  | 78 => some 338
  | 99 => some 342
  | 83 => some 345
  | 84 => some 346
  | 79 => some 348
  | 77 => some 350
  | 76 => some 351
  | 74 => some 355
  | 70 => some 357
  | 73 => some 358
  | 61 => some 359
  | 123 => some 367
  | 54 => some 368
  | 72 => some 373
  | 75 => some 393
  | 59 => some 394
  | 60 => some 395
  | 57 => some 438
  | 58 => some 439
  | 62 => some 440
  | 64 => some 441
  | 65 => some 442
  | 66 => some 443
  | 67 => some 444
  | 68 => some 445
  | 69 => some 446
  | 71 => some 447
  | 81 => some 448
  | 82 => some 449
  | 100 => some 456
  | 111 => some 459
  | 97 => some 474
  | 121 => some 502
  | 122 => some 503
  | 120 => some 504
  | 118 => some 505
  | 119 => some 506
  | 140 => some 512
  | 112 => some 513
  | 117 => some 530
  | 115 => some 547
  | 138 => some 550
  | _ => none
def rho : Nat → FuncId := fun n => match n with
  | 47 => 3
  | 84 => 5
  | 124 => 18
  | 125 => 27
  | 132 => 21
  | 147 => 6
  | 150 => 22
  | 171 => 23
  | 173 => 9
  | 201 => 16
  | 226 => 7
  | 227 => 8
  | 228 => 10
  | 229 => 11
  | 230 => 12
  | 231 => 13
  | 232 => 14
  | 233 => 15
  | 234 => 17
  | 235 => 19
  | 236 => 20
  | 237 => 24
  | 238 => 25
  | 239 => 26
  | 240 => 28
  | 241 => 29
  | 242 => 30
  | 243 => 31
  | 244 => 32
  | 295 => 104
  | 304 => 116
  | 305 => 63
  | 306 => 56
  | 315 => 55
  | 324 => 80
  | 338 => 78
  | 342 => 99
  | 345 => 83
  | 346 => 84
  | 348 => 79
  | 350 => 77
  | 351 => 76
  | 355 => 74
  | 357 => 70
  | 358 => 73
  | 359 => 61
  | 367 => 123
  | 368 => 54
  | 373 => 72
  | 393 => 75
  | 394 => 59
  | 395 => 60
  | 438 => 57
  | 439 => 58
  | 440 => 62
  | 441 => 64
  | 442 => 65
  | 443 => 66
  | 444 => 67
  | 445 => 68
  | 446 => 69
  | 447 => 71
  | 448 => 81
  | 449 => 82
  | 456 => 100
  | 459 => 111
  | 474 => 97
  | 502 => 121
  | 503 => 122
  | 504 => 120
  | 505 => 118
  | 506 => 119
  | 512 => 140
  | 513 => 112
  | 530 => 117
  | 547 => 115
  | 550 => 138
  | _ => 0
def isPure : Nat → Bool := fun n => !([305, 368, 442, 459, 513, 550] : List Nat).contains n
theorem inv_rho : ∀ f i, inv f = some i → rho i = f := by
  intro f i h
  unfold inv at h
  split at h <;> first | (cases h; rfl) | cases h
def h47 : Hint := ⟨.pure, [76, 59, 57, 55, 53, 51, 43, 41, 39, 37, 35, 31, 29, 27, 25, 23, 21, 19, 17, 15, 13, 11, 9, 7, 6, 5], [0, 1, 4, 5, 6, 7, 8, 9, 10, 11, 12, 13, 14, 15, 16, 17, 18, 19, 20, 21, 22, 23, 24, 25, 26, 27, 28, 29, 30, 31, 32, 33, 34, 35, 36, 37, 38, 39, 40, 41, 42, 43, 44, 45, 46, 47, 48, 49, 50, 51, 52, 53, 54, 55, 56, 57, 58, 59, 60, 61, 62, 63, 64, 65, 66, 67, 68, 69, 70, 71, 72, 73, 74, 75, 76, 77, 80, 93, 117, 249, 379, 450, 452, 504, 506, 540, 543]⟩
theorem comp47 : compFn Try.prog inv isPure h47 Try.f3 = some c47 := by kernel_rfl
theorem name47 : (Try.f3.name == "runtime.NumGoroutine") = false := by kernel_rfl
def h84 : Hint := ⟨.pure, [], [0, 1, 4]⟩
theorem comp84 : compFn Try.prog inv isPure h84 Try.f5 = some c84 := by kernel_rfl
theorem name84 : (Try.f5.name == "runtime.NumGoroutine") = false := by kernel_rfl
def h124 : Hint := ⟨.pure, [], [0, 1, 2, 6, 14]⟩
theorem comp124 : compFn Try.prog inv isPure h124 Try.f18 = some c124 := by kernel_rfl
theorem name124 : (Try.f18.name == "runtime.NumGoroutine") = false := by kernel_rfl
def h125 : Hint := ⟨.pure, [3, 2], [0, 1, 2, 3, 4, 5, 10]⟩
theorem comp125 : compFn Try.prog inv isPure h125 Try.f27 = some c125 := by kernel_rfl
theorem name125 : (Try.f27.name == "runtime.NumGoroutine") = false := by kernel_rfl
def h132 : Hint := ⟨.pure, [6, 3], [0, 1, 2, 3, 6, 7, 8, 14]⟩
theorem comp132 : compFn Try.prog inv isPure h132 Try.f21 = some c132 := by kernel_rfl
theorem name132 : (Try.f21.name == "runtime.NumGoroutine") = false := by kernel_rfl
def h147 : Hint := ⟨.pure, [2], [0, 2]⟩
theorem comp147 : compFn Try.prog inv isPure h147 Try.f6 = some c147 := by kernel_rfl
theorem name147 : (Try.f6.name == "runtime.NumGoroutine") = false := by kernel_rfl
def h150 : Hint := ⟨.pure, [6], [0, 1, 2, 3, 6, 7, 8, 13]⟩
theorem comp150 : compFn Try.prog inv isPure h150 Try.f22 = some c150 := by kernel_rfl
theorem name150 : (Try.f22.name == "runtime.NumGoroutine") = false := by kernel_rfl
def h171 : Hint := ⟨.pure, [1], [0, 1, 2, 3, 6]⟩
theorem comp171 : compFn Try.prog inv isPure h171 Try.f23 = some c171 := by kernel_rfl
theorem name171 : (Try.f23.name == "runtime.NumGoroutine") = false := by kernel_rfl
def h173 : Hint := ⟨.pure, [2], [0, 1, 2, 3, 6]⟩
theorem comp173 : compFn Try.prog inv isPure h173 Try.f9 = some c173 := by kernel_rfl
theorem name173 : (Try.f9.name == "runtime.NumGoroutine") = false := by kernel_rfl
def h201 : Hint := ⟨.pure, [2], [0, 1, 2, 3, 4, 6, 9]⟩
theorem comp201 : compFn Try.prog inv isPure h201 Try.f16 = some c201 := by kernel_rfl
theorem name201 : (Try.f16.name == "runtime.NumGoroutine") = false := by kernel_rfl
def h226 : Hint := ⟨.pure, [4, 2], [0, 1, 2, 3, 4, 7, 14]⟩
theorem comp226 : compFn Try.prog inv isPure h226 Try.f7 = some c226 := by kernel_rfl
theorem name226 : (Try.f7.name == "runtime.NumGoroutine") = false := by kernel_rfl
def h227 : Hint := ⟨.pure, [1], [0, 1, 2, 5]⟩
theorem comp227 : compFn Try.prog inv isPure h227 Try.f8 = some c227 := by kernel_rfl
theorem name227 : (Try.f8.name == "runtime.NumGoroutine") = false := by kernel_rfl
def h228 : Hint := ⟨.pure, [2], [0, 1, 2, 3, 4, 5, 6, 8, 15]⟩
theorem comp228 : compFn Try.prog inv isPure h228 Try.f10 = some c228 := by kernel_rfl
theorem name228 : (Try.f10.name == "runtime.NumGoroutine") = false := by kernel_rfl
def h229 : Hint := ⟨.pure, [2], [0, 1, 2, 3, 6]⟩
theorem comp229 : compFn Try.prog inv isPure h229 Try.f11 = some c229 := by kernel_rfl
theorem name229 : (Try.f11.name == "runtime.NumGoroutine") = false := by kernel_rfl
def h230 : Hint := ⟨.pure, [2], [0, 1, 2, 3, 4, 5, 6, 8, 15]⟩
theorem comp230 : compFn Try.prog inv isPure h230 Try.f12 = some c230 := by kernel_rfl
theorem name230 : (Try.f12.name == "runtime.NumGoroutine") = false := by kernel_rfl
def h231 : Hint := ⟨.pure, [2], [0, 1, 2, 3, 6]⟩
theorem comp231 : compFn Try.prog inv isPure h231 Try.f13 = some c231 := by kernel_rfl
theorem name231 : (Try.f13.name == "runtime.NumGoroutine") = false := by kernel_rfl
def h232 : Hint := ⟨.pure, [4, 2], [0, 1, 2, 3, 4, 5, 7, 11]⟩
theorem comp232 : compFn Try.prog inv isPure h232 Try.f14 = some c232 := by kernel_rfl
theorem name232 : (Try.f14.name == "runtime.NumGoroutine") = false := by kernel_rfl
def h233 : Hint := ⟨.pure, [2, 1], [0, 1, 2, 3, 6]⟩
theorem comp233 : compFn Try.prog inv isPure h233 Try.f15 = some c233 := by kernel_rfl
theorem name233 : (Try.f15.name == "runtime.NumGoroutine") = false := by kernel_rfl
def h234 : Hint := ⟨.pure, [], [0, 1, 2]⟩
theorem comp234 : compFn Try.prog inv isPure h234 Try.f17 = some c234 := by kernel_rfl
theorem name234 : (Try.f17.name == "runtime.NumGoroutine") = false := by kernel_rfl
def h235 : Hint := ⟨.pure, [6], [0, 1, 2, 3, 4, 5, 6, 7, 8, 14]⟩
theorem comp235 : compFn Try.prog inv isPure h235 Try.f19 = some c235 := by kernel_rfl
theorem name235 : (Try.f19.name == "runtime.NumGoroutine") = false := by kernel_rfl
def h236 : Hint := ⟨.pure, [6], [0, 1, 2, 3, 6, 7, 8, 9, 10, 11, 12, 13, 18, 26]⟩
theorem comp236 : compFn Try.prog inv isPure h236 Try.f20 = some c236 := by kernel_rfl
theorem name236 : (Try.f20.name == "runtime.NumGoroutine") = false := by kernel_rfl
def h237 : Hint := ⟨.pure, [4, 3, 2], [0, 1, 2, 3, 4, 5, 10]⟩
theorem comp237 : compFn Try.prog inv isPure h237 Try.f24 = some c237 := by kernel_rfl
theorem name237 : (Try.f24.name == "runtime.NumGoroutine") = false := by kernel_rfl
def h238 : Hint := ⟨.pure, [4, 3, 2], [0, 1, 2, 3, 4, 5, 10]⟩
theorem comp238 : compFn Try.prog inv isPure h238 Try.f25 = some c238 := by kernel_rfl
theorem name238 : (Try.f25.name == "runtime.NumGoroutine") = false := by kernel_rfl
def h239 : Hint := ⟨.pure, [4, 3, 2], [0, 1, 2, 3, 4, 5, 10]⟩
theorem comp239 : compFn Try.prog inv isPure h239 Try.f26 = some c239 := by kernel_rfl
theorem name239 : (Try.f26.name == "runtime.NumGoroutine") = false := by kernel_rfl
def h240 : Hint := ⟨.pure, [3], [0, 1, 2, 3, 6, 7, 8, 14]⟩
theorem comp240 : compFn Try.prog inv isPure h240 Try.f28 = some c240 := by kernel_rfl
theorem name240 : (Try.f28.name == "runtime.NumGoroutine") = false := by kernel_rfl
def h241 : Hint := ⟨.pure, [1], [0, 1, 2, 3, 6]⟩
theorem comp241 : compFn Try.prog inv isPure h241 Try.f29 = some c241 := by kernel_rfl
theorem name241 : (Try.f29.name == "runtime.NumGoroutine") = false := by kernel_rfl
def h242 : Hint := ⟨.pure, [], [0, 1, 2, 3, 5]⟩
theorem comp242 : compFn Try.prog inv isPure h242 Try.f30 = some c242 := by kernel_rfl
theorem name242 : (Try.f30.name == "runtime.NumGoroutine") = false := by kernel_rfl
def h243 : Hint := ⟨.pure, [6, 4, 2], [0, 2, 3, 4, 6, 8, 9, 10, 11, 21]⟩
theorem comp243 : compFn Try.prog inv isPure h243 Try.f31 = some c243 := by kernel_rfl
theorem name243 : (Try.f31.name == "runtime.NumGoroutine") = false := by kernel_rfl
def h244 : Hint := ⟨.pure, [], [0, 1, 4, 5, 10, 14, 25]⟩
theorem comp244 : compFn Try.prog inv isPure h244 Try.f32 = some c244 := by kernel_rfl
theorem name244 : (Try.f32.name == "runtime.NumGoroutine") = false := by kernel_rfl
def h295 : Hint := ⟨.pure, [], [0, 1, 2, 6]⟩
theorem comp295 : compFn Try.prog inv isPure h295 Try.f104 = some c295 := by kernel_rfl
theorem name295 : (Try.f104.name == "runtime.NumGoroutine") = false := by kernel_rfl
def h304 : Hint := ⟨.pure, [], [0, 1, 2, 6]⟩
theorem comp304 : compFn Try.prog inv isPure h304 Try.f116 = some c304 := by kernel_rfl
theorem name304 : (Try.f116.name == "runtime.NumGoroutine") = false := by kernel_rfl
def h305 : Hint := ⟨.args, [], [0, 1, 2, 8]⟩
theorem comp305 : compFn Try.prog inv isPure h305 Try.f63 = some c305 := by kernel_rfl
theorem name305 : (Try.f63.name == "runtime.NumGoroutine") = false := by kernel_rfl
def h306 : Hint := ⟨.pure, [3, 2], [0, 2, 3, 4, 5, 7, 8, 10, 11, 16]⟩
theorem comp306 : compFn Try.prog inv isPure h306 Try.f56 = some c306 := by kernel_rfl
theorem name306 : (Try.f56.name == "runtime.NumGoroutine") = false := by kernel_rfl
def h315 : Hint := ⟨.pure, [], [0, 2]⟩
theorem comp315 : compFn Try.prog inv isPure h315 Try.f55 = some c315 := by kernel_rfl
theorem name315 : (Try.f55.name == "runtime.NumGoroutine") = false := by kernel_rfl
def h324 : Hint := ⟨.pure, [3, 2], [0, 1, 2, 3, 4]⟩
theorem comp324 : compFn Try.prog inv isPure h324 Try.f80 = some c324 := by kernel_rfl
theorem name324 : (Try.f80.name == "runtime.NumGoroutine") = false := by kernel_rfl
def h338 : Hint := ⟨.pure, [4, 3, 2], [0, 1, 2, 3, 4]⟩
theorem comp338 : compFn Try.prog inv isPure h338 Try.f78 = some c338 := by kernel_rfl
theorem name338 : (Try.f78.name == "runtime.NumGoroutine") = false := by kernel_rfl
def h342 : Hint := ⟨.pure, [], [0, 1, 4]⟩
theorem comp342 : compFn Try.prog inv isPure h342 Try.f99 = some c342 := by kernel_rfl
theorem name342 : (Try.f99.name == "runtime.NumGoroutine") = false := by kernel_rfl
def h345 : Hint := ⟨.pure, [], [0, 1, 4]⟩
theorem comp345 : compFn Try.prog inv isPure h345 Try.f83 = some c345 := by kernel_rfl
theorem name345 : (Try.f83.name == "runtime.NumGoroutine") = false := by kernel_rfl
def h346 : Hint := ⟨.pure, [6, 3], [0, 1, 2, 3, 6]⟩
theorem comp346 : compFn Try.prog inv isPure h346 Try.f84 = some c346 := by kernel_rfl
theorem name346 : (Try.f84.name == "runtime.NumGoroutine") = false := by kernel_rfl
def h348 : Hint := ⟨.pure, [4, 3, 2], [0, 1, 2, 3, 4]⟩
theorem comp348 : compFn Try.prog inv isPure h348 Try.f79 = some c348 := by kernel_rfl
theorem name348 : (Try.f79.name == "runtime.NumGoroutine") = false := by kernel_rfl
def h350 : Hint := ⟨.pure, [4, 3, 2], [0, 1, 2, 3, 4]⟩
theorem comp350 : compFn Try.prog inv isPure h350 Try.f77 = some c350 := by kernel_rfl
theorem name350 : (Try.f77.name == "runtime.NumGoroutine") = false := by kernel_rfl
def h351 : Hint := ⟨.pure, [], [0, 2]⟩
theorem comp351 : compFn Try.prog inv isPure h351 Try.f76 = some c351 := by kernel_rfl
theorem name351 : (Try.f76.name == "runtime.NumGoroutine") = false := by kernel_rfl
def h355 : Hint := ⟨.pure, [6], [0, 1, 2, 6, 7, 8, 9, 16]⟩
theorem comp355 : compFn Try.prog inv isPure h355 Try.f74 = some c355 := by kernel_rfl
theorem name355 : (Try.f74.name == "runtime.NumGoroutine") = false := by kernel_rfl
def h357 : Hint := ⟨.pure, [3], [0, 1, 2, 3, 6, 7, 11]⟩
theorem comp357 : compFn Try.prog inv isPure h357 Try.f70 = some c357 := by kernel_rfl
theorem name357 : (Try.f70.name == "runtime.NumGoroutine") = false := by kernel_rfl
def h358 : Hint := ⟨.pure, [7, 6, 3], [0, 1, 2, 3, 6, 7, 8, 9, 13, 15, 16, 23, 25]⟩
theorem comp358 : compFn Try.prog inv isPure h358 Try.f73 = some c358 := by kernel_rfl
theorem name358 : (Try.f73.name == "runtime.NumGoroutine") = false := by kernel_rfl
def h359 : Hint := ⟨.pure, [], [0, 2, 3, 5, 13]⟩
theorem comp359 : compFn Try.prog inv isPure h359 Try.f61 = some c359 := by kernel_rfl
theorem name359 : (Try.f61.name == "runtime.NumGoroutine") = false := by kernel_rfl
def h367 : Hint := ⟨.pure, [4, 3, 2], [0, 1, 2, 3, 4]⟩
theorem comp367 : compFn Try.prog inv isPure h367 Try.f123 = some c367 := by kernel_rfl
theorem name367 : (Try.f123.name == "runtime.NumGoroutine") = false := by kernel_rfl
def h368 : Hint := ⟨.args, [2], [0, 2, 3, 4, 5, 6, 7, 16, 23, 30, 36, 43, 45]⟩
theorem comp368 : compFn Try.prog inv isPure h368 Try.f54 = some c368 := by kernel_rfl
theorem name368 : (Try.f54.name == "runtime.NumGoroutine") = false := by kernel_rfl
def h373 : Hint := ⟨.pure, [], [0, 1, 2, 6, 9, 17]⟩
theorem comp373 : compFn Try.prog inv isPure h373 Try.f72 = some c373 := by kernel_rfl
theorem name373 : (Try.f72.name == "runtime.NumGoroutine") = false := by kernel_rfl
def h393 : Hint := ⟨.pure, [1], [0, 1, 2, 3, 5, 6, 7, 8]⟩
theorem comp393 : compFn Try.prog inv isPure h393 Try.f75 = some c393 := by kernel_rfl
theorem name393 : (Try.f75.name == "runtime.NumGoroutine") = false := by kernel_rfl
def h394 : Hint := ⟨.pure, [], [0, 1, 2, 5]⟩
theorem comp394 : compFn Try.prog inv isPure h394 Try.f59 = some c394 := by kernel_rfl
theorem name394 : (Try.f59.name == "runtime.NumGoroutine") = false := by kernel_rfl
def h395 : Hint := ⟨.pure, [3], [0, 1, 2, 3, 6]⟩
theorem comp395 : compFn Try.prog inv isPure h395 Try.f60 = some c395 := by kernel_rfl
theorem name395 : (Try.f60.name == "runtime.NumGoroutine") = false := by kernel_rfl
def h438 : Hint := ⟨.pure, [], [0, 1, 2, 5]⟩
theorem comp438 : compFn Try.prog inv isPure h438 Try.f57 = some c438 := by kernel_rfl
theorem name438 : (Try.f57.name == "runtime.NumGoroutine") = false := by kernel_rfl
def h440 : Hint := ⟨.pure, [], [0, 2, 3, 4, 5, 8, 12, 18]⟩
theorem comp440 : compFn Try.prog inv isPure h440 Try.f62 = some c440 := by kernel_rfl
theorem name440 : (Try.f62.name == "runtime.NumGoroutine") = false := by kernel_rfl
def h441 : Hint := ⟨.pure, [], [0, 1, 2, 5]⟩
theorem comp441 : compFn Try.prog inv isPure h441 Try.f64 = some c441 := by kernel_rfl
theorem name441 : (Try.f64.name == "runtime.NumGoroutine") = false := by kernel_rfl
def h442 : Hint := ⟨.args, [], [0, 2, 3, 9]⟩
theorem comp442 : compFn Try.prog inv isPure h442 Try.f65 = some c442 := by kernel_rfl
theorem name442 : (Try.f65.name == "runtime.NumGoroutine") = false := by kernel_rfl
def h443 : Hint := ⟨.pure, [6, 4, 3], [0, 1, 2, 3, 4, 6, 7, 8, 9, 10, 11]⟩
theorem comp443 : compFn Try.prog inv isPure h443 Try.f66 = some c443 := by kernel_rfl
theorem name443 : (Try.f66.name == "runtime.NumGoroutine") = false := by kernel_rfl
def h444 : Hint := ⟨.pure, [], [0, 1, 4]⟩
theorem comp444 : compFn Try.prog inv isPure h444 Try.f67 = some c444 := by kernel_rfl
theorem name444 : (Try.f67.name == "runtime.NumGoroutine") = false := by kernel_rfl
def h445 : Hint := ⟨.pure, [], [0, 1, 4]⟩
theorem comp445 : compFn Try.prog inv isPure h445 Try.f68 = some c445 := by kernel_rfl
theorem name445 : (Try.f68.name == "runtime.NumGoroutine") = false := by kernel_rfl
def h446 : Hint := ⟨.pure, [], [0, 2]⟩
theorem comp446 : compFn Try.prog inv isPure h446 Try.f69 = some c446 := by kernel_rfl
theorem name446 : (Try.f69.name == "runtime.NumGoroutine") = false := by kernel_rfl
def h447 : Hint := ⟨.pure, [], [0, 1, 2, 3, 4, 7]⟩
theorem comp447 : compFn Try.prog inv isPure h447 Try.f71 = some c447 := by kernel_rfl
theorem name447 : (Try.f71.name == "runtime.NumGoroutine") = false := by kernel_rfl
def h448 : Hint := ⟨.pure, [3], [0, 1, 2, 3, 6, 7, 11]⟩
theorem comp448 : compFn Try.prog inv isPure h448 Try.f81 = some c448 := by kernel_rfl
theorem name448 : (Try.f81.name == "runtime.NumGoroutine") = false := by kernel_rfl
def h449 : Hint := ⟨.pure, [1], [0, 1, 2, 3, 4, 5, 7, 8, 10, 11, 16]⟩
theorem comp449 : compFn Try.prog inv isPure h449 Try.f82 = some c449 := by kernel_rfl
theorem name449 : (Try.f82.name == "runtime.NumGoroutine") = false := by kernel_rfl
def h456 : Hint := ⟨.pure, [], [0, 1, 2, 6]⟩
theorem comp456 : compFn Try.prog inv isPure h456 Try.f100 = some c456 := by kernel_rfl
theorem name456 : (Try.f100.name == "runtime.NumGoroutine") = false := by kernel_rfl
def h459 : Hint := ⟨.args, [], [0, 1, 4, 5, 7, 11]⟩
theorem comp459 : compFn Try.prog inv isPure h459 Try.f111 = some c459 := by kernel_rfl
theorem name459 : (Try.f111.name == "runtime.NumGoroutine") = false := by kernel_rfl
def h474 : Hint := ⟨.pure, [], [0, 1, 4, 5, 7, 8, 9, 16]⟩
theorem comp474 : compFn Try.prog inv isPure h474 Try.f97 = some c474 := by kernel_rfl
theorem name474 : (Try.f97.name == "runtime.NumGoroutine") = false := by kernel_rfl
def h502 : Hint := ⟨.pure, [], [0, 1, 4]⟩
theorem comp502 : compFn Try.prog inv isPure h502 Try.f121 = some c502 := by kernel_rfl
theorem name502 : (Try.f121.name == "runtime.NumGoroutine") = false := by kernel_rfl
def h503 : Hint := ⟨.pure, [], [0, 1, 4]⟩
theorem comp503 : compFn Try.prog inv isPure h503 Try.f122 = some c503 := by kernel_rfl
theorem name503 : (Try.f122.name == "runtime.NumGoroutine") = false := by kernel_rfl
def h504 : Hint := ⟨.pure, [], [0, 1, 4]⟩
theorem comp504 : compFn Try.prog inv isPure h504 Try.f120 = some c504 := by kernel_rfl
theorem name504 : (Try.f120.name == "runtime.NumGoroutine") = false := by kernel_rfl
def h505 : Hint := ⟨.pure, [], [0, 1, 4]⟩
theorem comp505 : compFn Try.prog inv isPure h505 Try.f118 = some c505 := by kernel_rfl
theorem name505 : (Try.f118.name == "runtime.NumGoroutine") = false := by kernel_rfl
def h506 : Hint := ⟨.pure, [1], [0, 1, 2]⟩
theorem comp506 : compFn Try.prog inv isPure h506 Try.f119 = some c506 := by kernel_rfl
theorem name506 : (Try.f119.name == "runtime.NumGoroutine") = false := by kernel_rfl
def h512 : Hint := ⟨.pure, [], [0, 1, 4]⟩
theorem comp512 : compFn Try.prog inv isPure h512 Try.f140 = some c512 := by kernel_rfl
theorem name512 : (Try.f140.name == "runtime.NumGoroutine") = false := by kernel_rfl
def h513 : Hint := ⟨.args, [], [0, 1, 4]⟩
theorem comp513 : compFn Try.prog inv isPure h513 Try.f112 = some c513 := by kernel_rfl
theorem name513 : (Try.f112.name == "runtime.NumGoroutine") = false := by kernel_rfl
def h530 : Hint := ⟨.pure, [], [0, 2]⟩
theorem comp530 : compFn Try.prog inv isPure h530 Try.f117 = some c530 := by kernel_rfl
theorem name530 : (Try.f117.name == "runtime.NumGoroutine") = false := by kernel_rfl
def h547 : Hint := ⟨.pure, [], [0, 1, 4, 5, 7, 8, 9, 16]⟩
theorem comp547 : compFn Try.prog inv isPure h547 Try.f115 = some c547 := by kernel_rfl
theorem name547 : (Try.f115.name == "runtime.NumGoroutine") = false := by kernel_rfl
def h550 : Hint := ⟨.args, [], [0, 2, 3, 13, 53]⟩
theorem comp550 : compFn Try.prog inv isPure h550 Try.f138 = some c550 := by kernel_rfl
theorem name550 : (Try.f138.name == "runtime.NumGoroutine") = false := by kernel_rfl
theorem callable439 : Callable Try.prog (rho 439) := ⟨Try.f58, Try.func58, by kernel_rfl, by kernel_rfl⟩
theorem mix0 : Try.prog.follows .mixedOrders = true := by kernel_rfl
def tabH : Tab := fun n => match n with
  | 295 => some (.fn c295)
  | 345 => some (.fn c345)
  | 395 => some (.fn c395)
  | _ => none
theorem tabH_ok : ∀ f D, tabH f = some D → DefOk Try.prog inv isPure rho (fun _ => none) f D := by
  intro f D h
  unfold tabH at h
  split at h
  · cases h; exact ⟨Try.f104, h295, Try.func104, name295, comp295⟩
  · cases h; exact ⟨Try.f83, h345, Try.func83, name345, comp345⟩
  · cases h; exact ⟨Try.f60, h395, Try.func60, name395, comp395⟩
  · cases h
theorem has_calls (f : List Int) (hf : okU f = true) (w : World) (x y : Nat) (hx : x < 12) (hy : y < 12) : Calls Try.prog 60 #[.agg (f.map (Value.int .u16)).toArray, .int .i64 x, .int .i64 y] w fun e w' =>
    e = .returned (.bool (fdot f x y)) ∧ Go.RowKit.Below w.heap.size w w' := by
  have hc := call395T (T := tabH) rfl rfl rfl (pu := true) (H := []) (okU_W hf) hx hy
  exact (calls_pure (ρ := rho) mix0 inv_rho tabH_ok hc (args := [.agg (f.map (Value.int .u16)).toArray, .int .i64 x, .int .i64 y]) fun C => VRs.cons VR.ivs (.cons (.int _ _) (.cons (.int _ _) .nil))).mono
    fun e w' ⟨⟨C', v', he, hv⟩, hb⟩ => ⟨by rw [he, hv.bool_inv]; rfl, hb⟩
theorem def439 : DefOk Try.prog inv isPure rho (fun _ => none) 439 (.ext .pure ext439) :=
  ext439_ok callable439 fun w f hf => walk439 (fun i => f.getD i.val 0) (fdot f) (.agg (f.map (Value.int .u16)).toArray) (by
    have hl : f.length = 12 := (okU_W hf).len
    match f, hl with
    | [_, _, _, _, _, _, _, _, _, _, _, _], _ => rfl) (fun w x y hx hy => has_calls f hf w x y hx hy) w
theorem tab_ok : ∀ f D, tab f = some D → DefOk Try.prog inv isPure rho (fun _ => none) f D := by
  intro f D h
  unfold tab at h
  split at h
  · cases h; exact ⟨Try.f3, h47, Try.func3, name47, comp47⟩
  · cases h; exact ⟨Try.f5, h84, Try.func5, name84, comp84⟩
  · cases h; exact ⟨Try.f18, h124, Try.func18, name124, comp124⟩
  · cases h; exact ⟨Try.f27, h125, Try.func27, name125, comp125⟩
  · cases h; exact ⟨Try.f21, h132, Try.func21, name132, comp132⟩
  · cases h; exact ⟨Try.f6, h147, Try.func6, name147, comp147⟩
  · cases h; exact ⟨Try.f22, h150, Try.func22, name150, comp150⟩
  · cases h; exact ⟨Try.f23, h171, Try.func23, name171, comp171⟩
  · cases h; exact ⟨Try.f9, h173, Try.func9, name173, comp173⟩
  · cases h; exact ⟨Try.f16, h201, Try.func16, name201, comp201⟩
  · cases h; exact ⟨Try.f7, h226, Try.func7, name226, comp226⟩
  · cases h; exact ⟨Try.f8, h227, Try.func8, name227, comp227⟩
  · cases h; exact ⟨Try.f10, h228, Try.func10, name228, comp228⟩
  · cases h; exact ⟨Try.f11, h229, Try.func11, name229, comp229⟩
  · cases h; exact ⟨Try.f12, h230, Try.func12, name230, comp230⟩
  · cases h; exact ⟨Try.f13, h231, Try.func13, name231, comp231⟩
  · cases h; exact ⟨Try.f14, h232, Try.func14, name232, comp232⟩
  · cases h; exact ⟨Try.f15, h233, Try.func15, name233, comp233⟩
  · cases h; exact ⟨Try.f17, h234, Try.func17, name234, comp234⟩
  · cases h; exact ⟨Try.f19, h235, Try.func19, name235, comp235⟩
  · cases h; exact ⟨Try.f20, h236, Try.func20, name236, comp236⟩
  · cases h; exact ⟨Try.f24, h237, Try.func24, name237, comp237⟩
  · cases h; exact ⟨Try.f25, h238, Try.func25, name238, comp238⟩
  · cases h; exact ⟨Try.f26, h239, Try.func26, name239, comp239⟩
  · cases h; exact ⟨Try.f28, h240, Try.func28, name240, comp240⟩
  · cases h; exact ⟨Try.f29, h241, Try.func29, name241, comp241⟩
  · cases h; exact ⟨Try.f30, h242, Try.func30, name242, comp242⟩
  · cases h; exact ⟨Try.f31, h243, Try.func31, name243, comp243⟩
  · cases h; exact ⟨Try.f32, h244, Try.func32, name244, comp244⟩
  · cases h; exact ⟨Try.f104, h295, Try.func104, name295, comp295⟩
  · cases h; exact ⟨Try.f116, h304, Try.func116, name304, comp304⟩
  · cases h; exact ⟨Try.f63, h305, Try.func63, name305, comp305⟩
  · cases h; exact ⟨Try.f56, h306, Try.func56, name306, comp306⟩
  · cases h; exact ⟨Try.f55, h315, Try.func55, name315, comp315⟩
  · cases h; exact ⟨Try.f80, h324, Try.func80, name324, comp324⟩
  · cases h; exact ⟨Try.f78, h338, Try.func78, name338, comp338⟩
  · cases h; exact ⟨Try.f99, h342, Try.func99, name342, comp342⟩
  · cases h; exact ⟨Try.f83, h345, Try.func83, name345, comp345⟩
  · cases h; exact ⟨Try.f84, h346, Try.func84, name346, comp346⟩
  · cases h; exact ⟨Try.f79, h348, Try.func79, name348, comp348⟩
  · cases h; exact ⟨Try.f77, h350, Try.func77, name350, comp350⟩
  · cases h; exact ⟨Try.f76, h351, Try.func76, name351, comp351⟩
  · cases h; exact ⟨Try.f74, h355, Try.func74, name355, comp355⟩
  · cases h; exact ⟨Try.f70, h357, Try.func70, name357, comp357⟩
  · cases h; exact ⟨Try.f73, h358, Try.func73, name358, comp358⟩
  · cases h; exact ⟨Try.f61, h359, Try.func61, name359, comp359⟩
  · cases h; exact ⟨Try.f123, h367, Try.func123, name367, comp367⟩
  · cases h; exact ⟨Try.f54, h368, Try.func54, name368, comp368⟩
  · cases h; exact ⟨Try.f72, h373, Try.func72, name373, comp373⟩
  · cases h; exact ⟨Try.f75, h393, Try.func75, name393, comp393⟩
  · cases h; exact ⟨Try.f59, h394, Try.func59, name394, comp394⟩
  · cases h; exact ⟨Try.f60, h395, Try.func60, name395, comp395⟩
  · cases h; exact ⟨Try.f57, h438, Try.func57, name438, comp438⟩
  · cases h; exact def439 
  · cases h; exact ⟨Try.f62, h440, Try.func62, name440, comp440⟩
  · cases h; exact ⟨Try.f64, h441, Try.func64, name441, comp441⟩
  · cases h; exact ⟨Try.f65, h442, Try.func65, name442, comp442⟩
  · cases h; exact ⟨Try.f66, h443, Try.func66, name443, comp443⟩
  · cases h; exact ⟨Try.f67, h444, Try.func67, name444, comp444⟩
  · cases h; exact ⟨Try.f68, h445, Try.func68, name445, comp445⟩
  · cases h; exact ⟨Try.f69, h446, Try.func69, name446, comp446⟩
  · cases h; exact ⟨Try.f71, h447, Try.func71, name447, comp447⟩
  · cases h; exact ⟨Try.f81, h448, Try.func81, name448, comp448⟩
  · cases h; exact ⟨Try.f82, h449, Try.func82, name449, comp449⟩
  · cases h; exact ⟨Try.f100, h456, Try.func100, name456, comp456⟩
  · cases h; exact ⟨Try.f111, h459, Try.func111, name459, comp459⟩
  · cases h; exact ⟨Try.f97, h474, Try.func97, name474, comp474⟩
  · cases h; exact ⟨Try.f121, h502, Try.func121, name502, comp502⟩
  · cases h; exact ⟨Try.f122, h503, Try.func122, name503, comp503⟩
  · cases h; exact ⟨Try.f120, h504, Try.func120, name504, comp504⟩
  · cases h; exact ⟨Try.f118, h505, Try.func118, name505, comp505⟩
  · cases h; exact ⟨Try.f119, h506, Try.func119, name506, comp506⟩
  · cases h; exact ⟨Try.f140, h512, Try.func140, name512, comp512⟩
  · cases h; exact ⟨Try.f112, h513, Try.func112, name513, comp513⟩
  · cases h; exact ⟨Try.f117, h530, Try.func117, name530, comp530⟩
  · cases h; exact ⟨Try.f115, h547, Try.func115, name547, comp547⟩
  · cases h; exact ⟨Try.f138, h550, Try.func138, name550, comp550⟩
  · cases h
end Fb
