/- Each function of the law is compiled by the checker to its text in the small language. -/
import Derived.Test.YtmdnahopljfakaaRow2
import Derived.Test.YtmdnahopljfakaaTab
import Derived.Test.YtmdnahopljfakaaRows
import Derived.KernelRfl
set_option linter.unusedVariables false
set_option linter.unusedSimpArgs false
namespace Fb
open Go Go.Proofs

def inv : FuncId → Option Nat := fun f => match f with
  | 5 => some 56
  | 49 => some 82
  | 11 => some 91
  | 50 => some 158
  | 51 => some 163
  | 61 => some 164
  | 60 => some 165
  | 41 => some 169
  | 45 => some 175
  | 56 => some 178
  | 55 => some 179
  | 58 => some 187
  | 44 => some 203
  | 43 => some 204
  | 47 => some 211
  | 46 => some 212
  | 54 => some 215
  | 53 => some 216
  | 48 => some 225
  | 87 => some 234
  | 52 => some 259
  | 57 => some 262
  | 42 => some 274
  | 59 => some 275
  | 80 => some 295
  | 126 => some 304
  | 104 => some 305
  | 184 => some 309
  | 163 => some 310
  | 119 => some 312
  | 86 => some 315
  | 62 => some 316
  | 64 => some 318
  | 69 => some 323
  | 118 => some 341
  | 102 => some 342
  | 72 => some 351
  | 149 => some 355
  | 127 => some 356
  | 147 => some 358
  | 92 => some 359
  | 167 => some 365
  | 136 => some 367
  | 120 => some 381
  | 113 => some 386
  | 121 => some 387
  | 131 => some 388
  | 130 => some 389
  | 117 => some 396
  | 115 => some 397
  | 125 => some 400
  | 162 => some 404
  | 128 => some 405
  | 123 => some 406
  | 129 => some 407
  | 114 => some 418
  | 112 => some 419
  | 116 => some 430
  | 124 => some 431
  | 101 => some 440
  | 155 => some 443
  | 151 => some 445
  | 152 => some 446
  | 103 => some 456
  | 122 => some 459
  | 111 => some 469
  | 175 => some 474
  | 164 => some 490
  | 138 => some 505
  | 139 => some 506
  | 174 => some 512
  | 150 => some 513
  | 161 => some 524
  | 169 => some 525
  | 170 => some 526
  | 166 => some 527
  | 168 => some 528
  | 181 => some 547
  | 165 => some 550
  | 185 => some 572
  | 186 => some 573
  | _ => none
def rho : Nat → FuncId := fun n => match n with
  | 56 => 5
  | 82 => 49
  | 91 => 11
  | 158 => 50
  | 163 => 51
  | 164 => 61
  | 165 => 60
  | 169 => 41
  | 175 => 45
  | 178 => 56
  | 179 => 55
  | 187 => 58
  | 203 => 44
  | 204 => 43
  | 211 => 47
  | 212 => 46
  | 215 => 54
  | 216 => 53
  | 225 => 48
  | 234 => 87
  | 259 => 52
  | 262 => 57
  | 274 => 42
  | 275 => 59
  | 295 => 80
  | 304 => 126
  | 305 => 104
  | 309 => 184
  | 310 => 163
  | 312 => 119
  | 315 => 86
  | 316 => 62
  | 318 => 64
  | 323 => 69
  | 341 => 118
  | 342 => 102
  | 351 => 72
  | 355 => 149
  | 356 => 127
  | 358 => 147
  | 359 => 92
  | 365 => 167
  | 367 => 136
  | 381 => 120
  | 386 => 113
  | 387 => 121
  | 388 => 131
  | 389 => 130
  | 396 => 117
  | 397 => 115
  | 400 => 125
  | 404 => 162
  | 405 => 128
  | 406 => 123
  | 407 => 129
  | 418 => 114
  | 419 => 112
  | 430 => 116
  | 431 => 124
  | 440 => 101
  | 443 => 155
  | 445 => 151
  | 446 => 152
  | 456 => 103
  | 459 => 122
  | 469 => 111
  | 474 => 175
  | 490 => 164
  | 505 => 138
  | 506 => 139
  | 512 => 174
  | 513 => 150
  | 524 => 161
  | 525 => 169
  | 526 => 170
  | 527 => 166
  | 528 => 168
  | 547 => 181
  | 550 => 165
  | 572 => 185
  | 573 => 186
  | _ => 0
def isPure : Nat → Bool := fun n => !([305, 459, 469, 513, 550] : List Nat).contains n
theorem inv_rho : ∀ f i, inv f = some i → rho i = f := by
  intro f i h
  unfold inv at h
  split at h <;> first | (cases h; rfl) | cases h
def h56 : Hint := ⟨.pure, [48, 46, 41], [0, 1, 4, 5, 6, 7, 8, 9, 10, 11, 12, 13, 14, 15, 16, 17, 18, 19, 20, 21, 22, 23, 24, 25, 26, 27, 28, 29, 30, 31, 32, 33, 34, 35, 36, 37, 38, 39, 40, 41, 42, 43, 44, 45, 46, 47, 48, 49, 50, 51, 57, 96, 108, 178, 257, 261, 324, 330, 333]⟩
theorem comp56 : compFn Try.prog inv isPure h56 Try.f5 = some c56 := by kernel_rfl
theorem name56 : (Try.f5.name == "runtime.NumGoroutine") = false := by kernel_rfl
def h82 : Hint := ⟨.pure, [1], [0, 1, 2, 3, 14]⟩
theorem comp82 : compFn Try.prog inv isPure h82 Try.f49 = some c82 := by kernel_rfl
theorem name82 : (Try.f49.name == "runtime.NumGoroutine") = false := by kernel_rfl
def h91 : Hint := ⟨.pure, [], [0, 1, 4]⟩
theorem comp91 : compFn Try.prog inv isPure h91 Try.f11 = some c91 := by kernel_rfl
theorem name91 : (Try.f11.name == "runtime.NumGoroutine") = false := by kernel_rfl
def h158 : Hint := ⟨.pure, [], [0, 1, 4, 5, 10, 14, 24]⟩
theorem comp158 : compFn Try.prog inv isPure h158 Try.f50 = some c158 := by kernel_rfl
theorem name158 : (Try.f50.name == "runtime.NumGoroutine") = false := by kernel_rfl
def h163 : Hint := ⟨.pure, [4], [0, 2, 3, 4, 5, 6, 7, 8, 15]⟩
theorem comp163 : compFn Try.prog inv isPure h163 Try.f51 = some c163 := by kernel_rfl
theorem name163 : (Try.f51.name == "runtime.NumGoroutine") = false := by kernel_rfl
def h164 : Hint := ⟨.pure, [6], [0, 1, 2, 3, 4, 6, 7, 13, 17]⟩
theorem comp164 : compFn Try.prog inv isPure h164 Try.f61 = some c164 := by kernel_rfl
theorem name164 : (Try.f61.name == "runtime.NumGoroutine") = false := by kernel_rfl
def h165 : Hint := ⟨.pure, [6, 4, 3], [0, 1, 2, 3, 4, 6, 7, 8, 15]⟩
theorem comp165 : compFn Try.prog inv isPure h165 Try.f60 = some c165 := by kernel_rfl
theorem name165 : (Try.f60.name == "runtime.NumGoroutine") = false := by kernel_rfl
def h169 : Hint := ⟨.pure, [], [0, 2]⟩
theorem comp169 : compFn Try.prog inv isPure h169 Try.f41 = some c169 := by kernel_rfl
theorem name169 : (Try.f41.name == "runtime.NumGoroutine") = false := by kernel_rfl
def h175 : Hint := ⟨.pure, [], [0, 2, 3, 6]⟩
theorem comp175 : compFn Try.prog inv isPure h175 Try.f45 = some c175 := by kernel_rfl
theorem name175 : (Try.f45.name == "runtime.NumGoroutine") = false := by kernel_rfl
def h178 : Hint := ⟨.pure, [], [0, 2, 3, 4, 5, 6, 9, 15, 23]⟩
theorem comp178 : compFn Try.prog inv isPure h178 Try.f56 = some c178 := by kernel_rfl
theorem name178 : (Try.f56.name == "runtime.NumGoroutine") = false := by kernel_rfl
def h179 : Hint := ⟨.pure, [6], [0, 2, 3, 4, 6, 9, 11, 12, 13, 14]⟩
theorem comp179 : compFn Try.prog inv isPure h179 Try.f55 = some c179 := by kernel_rfl
theorem name179 : (Try.f55.name == "runtime.NumGoroutine") = false := by kernel_rfl
def h187 : Hint := ⟨.pure, [4], [0, 1, 4, 5, 6, 11]⟩
theorem comp187 : compFn Try.prog inv isPure h187 Try.f58 = some c187 := by kernel_rfl
theorem name187 : (Try.f58.name == "runtime.NumGoroutine") = false := by kernel_rfl
def h203 : Hint := ⟨.pure, [], [0, 2, 3, 6]⟩
theorem comp203 : compFn Try.prog inv isPure h203 Try.f44 = some c203 := by kernel_rfl
theorem name203 : (Try.f44.name == "runtime.NumGoroutine") = false := by kernel_rfl
def h204 : Hint := ⟨.pure, [], [0, 2, 3, 6]⟩
theorem comp204 : compFn Try.prog inv isPure h204 Try.f43 = some c204 := by kernel_rfl
theorem name204 : (Try.f43.name == "runtime.NumGoroutine") = false := by kernel_rfl
def h211 : Hint := ⟨.pure, [], [0, 2, 3, 4, 5, 8]⟩
theorem comp211 : compFn Try.prog inv isPure h211 Try.f47 = some c211 := by kernel_rfl
theorem name211 : (Try.f47.name == "runtime.NumGoroutine") = false := by kernel_rfl
def h212 : Hint := ⟨.pure, [], [0, 2, 3, 4]⟩
theorem comp212 : compFn Try.prog inv isPure h212 Try.f46 = some c212 := by kernel_rfl
theorem name212 : (Try.f46.name == "runtime.NumGoroutine") = false := by kernel_rfl
def h215 : Hint := ⟨.pure, [], [0, 1, 4, 5, 6, 7, 10, 14]⟩
theorem comp215 : compFn Try.prog inv isPure h215 Try.f54 = some c215 := by kernel_rfl
theorem name215 : (Try.f54.name == "runtime.NumGoroutine") = false := by kernel_rfl
def h216 : Hint := ⟨.pure, [10], [0, 1, 3, 4, 5, 6, 7, 8, 9, 10, 11, 15, 22, 23, 24]⟩
theorem comp216 : compFn Try.prog inv isPure h216 Try.f53 = some c216 := by kernel_rfl
theorem name216 : (Try.f53.name == "runtime.NumGoroutine") = false := by kernel_rfl
def h225 : Hint := ⟨.pure, [], [0, 1, 4, 5, 13]⟩
theorem comp225 : compFn Try.prog inv isPure h225 Try.f48 = some c225 := by kernel_rfl
theorem name225 : (Try.f48.name == "runtime.NumGoroutine") = false := by kernel_rfl
def h234 : Hint := ⟨.pure, [], [0, 1, 2]⟩
theorem comp234 : compFn Try.prog inv isPure h234 Try.f87 = some c234 := by kernel_rfl
theorem name234 : (Try.f87.name == "runtime.NumGoroutine") = false := by kernel_rfl
def h259 : Hint := ⟨.pure, [], [0, 1, 4]⟩
theorem comp259 : compFn Try.prog inv isPure h259 Try.f52 = some c259 := by kernel_rfl
theorem name259 : (Try.f52.name == "runtime.NumGoroutine") = false := by kernel_rfl
def h262 : Hint := ⟨.pure, [], [0, 1, 4]⟩
theorem comp262 : compFn Try.prog inv isPure h262 Try.f57 = some c262 := by kernel_rfl
theorem name262 : (Try.f57.name == "runtime.NumGoroutine") = false := by kernel_rfl
def h274 : Hint := ⟨.pure, [], [0, 2]⟩
theorem comp274 : compFn Try.prog inv isPure h274 Try.f42 = some c274 := by kernel_rfl
theorem name274 : (Try.f42.name == "runtime.NumGoroutine") = false := by kernel_rfl
def h275 : Hint := ⟨.pure, [], [0, 1, 2, 3, 4]⟩
theorem comp275 : compFn Try.prog inv isPure h275 Try.f59 = some c275 := by kernel_rfl
theorem name275 : (Try.f59.name == "runtime.NumGoroutine") = false := by kernel_rfl
def h295 : Hint := ⟨.pure, [], [0, 1, 2, 6]⟩
theorem comp295 : compFn Try.prog inv isPure h295 Try.f80 = some c295 := by kernel_rfl
theorem name295 : (Try.f80.name == "runtime.NumGoroutine") = false := by kernel_rfl
def h304 : Hint := ⟨.pure, [], [0, 1, 2, 6]⟩
theorem comp304 : compFn Try.prog inv isPure h304 Try.f126 = some c304 := by kernel_rfl
theorem name304 : (Try.f126.name == "runtime.NumGoroutine") = false := by kernel_rfl
def h305 : Hint := ⟨.args, [], [0, 1, 2, 8]⟩
theorem comp305 : compFn Try.prog inv isPure h305 Try.f104 = some c305 := by kernel_rfl
theorem name305 : (Try.f104.name == "runtime.NumGoroutine") = false := by kernel_rfl
def h309 : Hint := ⟨.pure, [], [0, 2]⟩
theorem comp309 : compFn Try.prog inv isPure h309 Try.f184 = some c309 := by kernel_rfl
theorem name309 : (Try.f184.name == "runtime.NumGoroutine") = false := by kernel_rfl
def h310 : Hint := ⟨.pure, [3], [0, 2, 3]⟩
theorem comp310 : compFn Try.prog inv isPure h310 Try.f163 = some c310 := by kernel_rfl
theorem name310 : (Try.f163.name == "runtime.NumGoroutine") = false := by kernel_rfl
def h312 : Hint := ⟨.pure, [3, 1], [0, 1, 2, 3]⟩
theorem comp312 : compFn Try.prog inv isPure h312 Try.f119 = some c312 := by kernel_rfl
theorem name312 : (Try.f119.name == "runtime.NumGoroutine") = false := by kernel_rfl
def h315 : Hint := ⟨.pure, [], [0, 2]⟩
theorem comp315 : compFn Try.prog inv isPure h315 Try.f86 = some c315 := by kernel_rfl
theorem name315 : (Try.f86.name == "runtime.NumGoroutine") = false := by kernel_rfl
def h316 : Hint := ⟨.pure, [], [0, 2]⟩
theorem comp316 : compFn Try.prog inv isPure h316 Try.f62 = some c316 := by kernel_rfl
theorem name316 : (Try.f62.name == "runtime.NumGoroutine") = false := by kernel_rfl
def h318 : Hint := ⟨.pure, [], [0, 2, 3, 7, 14]⟩
theorem comp318 : compFn Try.prog inv isPure h318 Try.f64 = some c318 := by kernel_rfl
theorem name318 : (Try.f64.name == "runtime.NumGoroutine") = false := by kernel_rfl
def h323 : Hint := ⟨.pure, [], [0, 1, 4, 5, 10, 14, 25]⟩
theorem comp323 : compFn Try.prog inv isPure h323 Try.f69 = some c323 := by kernel_rfl
theorem name323 : (Try.f69.name == "runtime.NumGoroutine") = false := by kernel_rfl
def h341 : Hint := ⟨.pure, [], [0, 1, 4, 5, 10, 12, 13, 14, 24]⟩
theorem comp341 : compFn Try.prog inv isPure h341 Try.f118 = some c341 := by kernel_rfl
theorem name341 : (Try.f118.name == "runtime.NumGoroutine") = false := by kernel_rfl
def h342 : Hint := ⟨.pure, [], [0, 1, 4]⟩
theorem comp342 : compFn Try.prog inv isPure h342 Try.f102 = some c342 := by kernel_rfl
theorem name342 : (Try.f102.name == "runtime.NumGoroutine") = false := by kernel_rfl
def h351 : Hint := ⟨.pure, [], [0, 2]⟩
theorem comp351 : compFn Try.prog inv isPure h351 Try.f72 = some c351 := by kernel_rfl
theorem name351 : (Try.f72.name == "runtime.NumGoroutine") = false := by kernel_rfl
def h355 : Hint := ⟨.pure, [6], [0, 1, 2, 6, 7, 8, 9, 16]⟩
theorem comp355 : compFn Try.prog inv isPure h355 Try.f149 = some c355 := by kernel_rfl
theorem name355 : (Try.f149.name == "runtime.NumGoroutine") = false := by kernel_rfl
def h356 : Hint := ⟨.pure, [], [0, 1, 4, 5, 10, 14, 25]⟩
theorem comp356 : compFn Try.prog inv isPure h356 Try.f127 = some c356 := by kernel_rfl
theorem name356 : (Try.f127.name == "runtime.NumGoroutine") = false := by kernel_rfl
def h358 : Hint := ⟨.pure, [7, 6, 3], [0, 1, 2, 3, 6, 7, 8, 9, 13, 15, 16, 23, 25]⟩
theorem comp358 : compFn Try.prog inv isPure h358 Try.f147 = some c358 := by kernel_rfl
theorem name358 : (Try.f147.name == "runtime.NumGoroutine") = false := by kernel_rfl
def h359 : Hint := ⟨.pure, [], [0, 2, 3, 5, 13]⟩
theorem comp359 : compFn Try.prog inv isPure h359 Try.f92 = some c359 := by kernel_rfl
theorem name359 : (Try.f92.name == "runtime.NumGoroutine") = false := by kernel_rfl
def h365 : Hint := ⟨.pure, [], [0, 1, 4]⟩
theorem comp365 : compFn Try.prog inv isPure h365 Try.f167 = some c365 := by kernel_rfl
theorem name365 : (Try.f167.name == "runtime.NumGoroutine") = false := by kernel_rfl
def h367 : Hint := ⟨.pure, [4, 3, 2], [0, 1, 2, 3, 4]⟩
theorem comp367 : compFn Try.prog inv isPure h367 Try.f136 = some c367 := by kernel_rfl
theorem name367 : (Try.f136.name == "runtime.NumGoroutine") = false := by kernel_rfl
def h381 : Hint := ⟨.pure, [], [0, 1, 4, 5, 60, 67, 84]⟩
theorem comp381 : compFn Try.prog inv isPure h381 Try.f120 = some c381 := by kernel_rfl
theorem name381 : (Try.f120.name == "runtime.NumGoroutine") = false := by kernel_rfl
def h386 : Hint := ⟨.pure, [], [0, 2, 3, 7, 15]⟩
theorem comp386 : compFn Try.prog inv isPure h386 Try.f113 = some c386 := by kernel_rfl
theorem name386 : (Try.f113.name == "runtime.NumGoroutine") = false := by kernel_rfl
def h387 : Hint := ⟨.pure, [6, 2], [0, 1, 2, 4, 5, 6, 7, 8, 10, 11, 12, 13, 44, 61, 62, 70, 76]⟩
theorem comp387 : compFn Try.prog inv isPure h387 Try.f121 = some c387 := by kernel_rfl
theorem name387 : (Try.f121.name == "runtime.NumGoroutine") = false := by kernel_rfl
def h388 : Hint := ⟨.pure, [6], [0, 1, 2, 6, 7, 8, 9, 10, 11, 23, 27, 35, 47]⟩
theorem comp388 : compFn Try.prog inv isPure h388 Try.f131 = some c388 := by kernel_rfl
theorem name388 : (Try.f131.name == "runtime.NumGoroutine") = false := by kernel_rfl
def h389 : Hint := ⟨.pure, [10, 7, 6, 4, 3], [0, 1, 2, 3, 4, 6, 7, 8, 9, 10, 18, 22, 30, 42]⟩
theorem comp389 : compFn Try.prog inv isPure h389 Try.f130 = some c389 := by kernel_rfl
theorem name389 : (Try.f130.name == "runtime.NumGoroutine") = false := by kernel_rfl
def h396 : Hint := ⟨.pure, [], [0, 2, 3, 4, 8]⟩
theorem comp396 : compFn Try.prog inv isPure h396 Try.f117 = some c396 := by kernel_rfl
theorem name396 : (Try.f117.name == "runtime.NumGoroutine") = false := by kernel_rfl
def h397 : Hint := ⟨.pure, [5], [0, 2, 3, 5, 6, 7, 8, 9]⟩
theorem comp397 : compFn Try.prog inv isPure h397 Try.f115 = some c397 := by kernel_rfl
theorem name397 : (Try.f115.name == "runtime.NumGoroutine") = false := by kernel_rfl
def h400 : Hint := ⟨.pure, [2], [0, 1, 2, 4, 7]⟩
theorem comp400 : compFn Try.prog inv isPure h400 Try.f125 = some c400 := by kernel_rfl
theorem name400 : (Try.f125.name == "runtime.NumGoroutine") = false := by kernel_rfl
def h404 : Hint := ⟨.pure, [8], [0, 1, 2, 3, 8, 9, 10, 11, 12, 21, 29, 40]⟩
theorem comp404 : compFn Try.prog inv isPure h404 Try.f162 = some c404 := by kernel_rfl
theorem name404 : (Try.f162.name == "runtime.NumGoroutine") = false := by kernel_rfl
def h405 : Hint := ⟨.pure, [], [0, 1, 4, 5, 9]⟩
theorem comp405 : compFn Try.prog inv isPure h405 Try.f128 = some c405 := by kernel_rfl
theorem name405 : (Try.f128.name == "runtime.NumGoroutine") = false := by kernel_rfl
def h406 : Hint := ⟨.pure, [9, 7, 6], [0, 1, 2, 6, 7, 8, 9, 17, 18, 19, 24, 39]⟩
theorem comp406 : compFn Try.prog inv isPure h406 Try.f123 = some c406 := by kernel_rfl
theorem name406 : (Try.f123.name == "runtime.NumGoroutine") = false := by kernel_rfl
def h407 : Hint := ⟨.pure, [], [0, 2]⟩
theorem comp407 : compFn Try.prog inv isPure h407 Try.f129 = some c407 := by kernel_rfl
theorem name407 : (Try.f129.name == "runtime.NumGoroutine") = false := by kernel_rfl
def h418 : Hint := ⟨.pure, [6, 5], [0, 2, 3, 4, 5, 6, 7, 12, 21, 22, 29, 46]⟩
theorem comp418 : compFn Try.prog inv isPure h418 Try.f114 = some c418 := by kernel_rfl
theorem name418 : (Try.f114.name == "runtime.NumGoroutine") = false := by kernel_rfl
def h419 : Hint := ⟨.pure, [8, 6, 5], [0, 2, 3, 5, 6, 8, 10, 11, 12, 13, 19, 33, 34, 35, 36]⟩
theorem comp419 : compFn Try.prog inv isPure h419 Try.f112 = some c419 := by kernel_rfl
theorem name419 : (Try.f112.name == "runtime.NumGoroutine") = false := by kernel_rfl
def h430 : Hint := ⟨.pure, [8], [0, 1, 4, 5, 6, 7, 8, 9, 15, 25]⟩
theorem comp430 : compFn Try.prog inv isPure h430 Try.f116 = some c430 := by kernel_rfl
theorem name430 : (Try.f116.name == "runtime.NumGoroutine") = false := by kernel_rfl
def h431 : Hint := ⟨.pure, [], [0, 1, 2, 4]⟩
theorem comp431 : compFn Try.prog inv isPure h431 Try.f124 = some c431 := by kernel_rfl
theorem name431 : (Try.f124.name == "runtime.NumGoroutine") = false := by kernel_rfl
def h440 : Hint := ⟨.pure, [], [0, 2, 3, 4, 5, 8, 12, 18]⟩
theorem comp440 : compFn Try.prog inv isPure h440 Try.f101 = some c440 := by kernel_rfl
theorem name440 : (Try.f101.name == "runtime.NumGoroutine") = false := by kernel_rfl
def h443 : Hint := ⟨.pure, [6, 4, 3], [0, 1, 2, 3, 4, 6, 7, 8, 9, 10, 11]⟩
theorem comp443 : compFn Try.prog inv isPure h443 Try.f155 = some c443 := by kernel_rfl
theorem name443 : (Try.f155.name == "runtime.NumGoroutine") = false := by kernel_rfl
def h445 : Hint := ⟨.pure, [], [0, 1, 4]⟩
theorem comp445 : compFn Try.prog inv isPure h445 Try.f151 = some c445 := by kernel_rfl
theorem name445 : (Try.f151.name == "runtime.NumGoroutine") = false := by kernel_rfl
def h446 : Hint := ⟨.pure, [], [0, 2]⟩
theorem comp446 : compFn Try.prog inv isPure h446 Try.f152 = some c446 := by kernel_rfl
theorem name446 : (Try.f152.name == "runtime.NumGoroutine") = false := by kernel_rfl
def h456 : Hint := ⟨.pure, [], [0, 1, 2, 6]⟩
theorem comp456 : compFn Try.prog inv isPure h456 Try.f103 = some c456 := by kernel_rfl
theorem name456 : (Try.f103.name == "runtime.NumGoroutine") = false := by kernel_rfl
def h459 : Hint := ⟨.args, [], [0, 1, 4, 5, 7, 11]⟩
theorem comp459 : compFn Try.prog inv isPure h459 Try.f122 = some c459 := by kernel_rfl
theorem name459 : (Try.f122.name == "runtime.NumGoroutine") = false := by kernel_rfl
def h469 : Hint := ⟨.args, [5], [0, 2, 3, 4, 5, 6, 11, 20, 24, 33, 45, 49]⟩
theorem comp469 : compFn Try.prog inv isPure h469 Try.f111 = some c469 := by kernel_rfl
theorem name469 : (Try.f111.name == "runtime.NumGoroutine") = false := by kernel_rfl
def h474 : Hint := ⟨.pure, [], [0, 1, 4, 5, 7, 8, 9, 16]⟩
theorem comp474 : compFn Try.prog inv isPure h474 Try.f175 = some c474 := by kernel_rfl
theorem name474 : (Try.f175.name == "runtime.NumGoroutine") = false := by kernel_rfl
def h490 : Hint := ⟨.pure, [], [0, 2]⟩
theorem comp490 : compFn Try.prog inv isPure h490 Try.f164 = some c490 := by kernel_rfl
theorem name490 : (Try.f164.name == "runtime.NumGoroutine") = false := by kernel_rfl
def h505 : Hint := ⟨.pure, [], [0, 1, 4]⟩
theorem comp505 : compFn Try.prog inv isPure h505 Try.f138 = some c505 := by kernel_rfl
theorem name505 : (Try.f138.name == "runtime.NumGoroutine") = false := by kernel_rfl
def h506 : Hint := ⟨.pure, [1], [0, 1, 2]⟩
theorem comp506 : compFn Try.prog inv isPure h506 Try.f139 = some c506 := by kernel_rfl
theorem name506 : (Try.f139.name == "runtime.NumGoroutine") = false := by kernel_rfl
def h512 : Hint := ⟨.pure, [], [0, 1, 4]⟩
theorem comp512 : compFn Try.prog inv isPure h512 Try.f174 = some c512 := by kernel_rfl
theorem name512 : (Try.f174.name == "runtime.NumGoroutine") = false := by kernel_rfl
def h513 : Hint := ⟨.args, [], [0, 1, 4]⟩
theorem comp513 : compFn Try.prog inv isPure h513 Try.f150 = some c513 := by kernel_rfl
theorem name513 : (Try.f150.name == "runtime.NumGoroutine") = false := by kernel_rfl
def h524 : Hint := ⟨.pure, [], [0, 1, 4, 5, 38, 54, 55, 65]⟩
theorem comp524 : compFn Try.prog inv isPure h524 Try.f161 = some c524 := by kernel_rfl
theorem name524 : (Try.f161.name == "runtime.NumGoroutine") = false := by kernel_rfl
def h525 : Hint := ⟨.pure, [], [0, 1, 4, 5, 6, 9, 22]⟩
theorem comp525 : compFn Try.prog inv isPure h525 Try.f169 = some c525 := by kernel_rfl
theorem name525 : (Try.f169.name == "runtime.NumGoroutine") = false := by kernel_rfl
def h526 : Hint := ⟨.pure, [7, 6], [0, 1, 2, 6, 7, 8, 9, 12, 20, 22]⟩
theorem comp526 : compFn Try.prog inv isPure h526 Try.f170 = some c526 := by kernel_rfl
theorem name526 : (Try.f170.name == "runtime.NumGoroutine") = false := by kernel_rfl
def h527 : Hint := ⟨.pure, [6, 5, 4, 3], [0, 1, 2, 3, 4, 5, 6, 7, 8, 12, 13, 14, 18]⟩
theorem comp527 : compFn Try.prog inv isPure h527 Try.f166 = some c527 := by kernel_rfl
theorem name527 : (Try.f166.name == "runtime.NumGoroutine") = false := by kernel_rfl
def h528 : Hint := ⟨.pure, [3, 2], [0, 1, 2, 3, 4, 5, 6, 7, 8, 9, 10, 17]⟩
theorem comp528 : compFn Try.prog inv isPure h528 Try.f168 = some c528 := by kernel_rfl
theorem name528 : (Try.f168.name == "runtime.NumGoroutine") = false := by kernel_rfl
def h547 : Hint := ⟨.pure, [], [0, 1, 4, 5, 7, 8, 9, 16]⟩
theorem comp547 : compFn Try.prog inv isPure h547 Try.f181 = some c547 := by kernel_rfl
theorem name547 : (Try.f181.name == "runtime.NumGoroutine") = false := by kernel_rfl
def h550 : Hint := ⟨.args, [], [0, 2, 3, 13, 53]⟩
theorem comp550 : compFn Try.prog inv isPure h550 Try.f165 = some c550 := by kernel_rfl
theorem name550 : (Try.f165.name == "runtime.NumGoroutine") = false := by kernel_rfl
def h572 : Hint := ⟨.pure, [], [0, 2]⟩
theorem comp572 : compFn Try.prog inv isPure h572 Try.f185 = some c572 := by kernel_rfl
theorem name572 : (Try.f185.name == "runtime.NumGoroutine") = false := by kernel_rfl
def h573 : Hint := ⟨.pure, [], [0, 2, 3, 7, 27, 43]⟩
theorem comp573 : compFn Try.prog inv isPure h573 Try.f186 = some c573 := by kernel_rfl
theorem name573 : (Try.f186.name == "runtime.NumGoroutine") = false := by kernel_rfl
theorem tab_ok : ∀ f D, tab f = some D → DefOk Try.prog inv isPure rho (fun _ => none) f D := by
  intro f D h
  unfold tab at h
  split at h
  · cases h; exact ⟨Try.f5, h56, Try.func5, name56, comp56⟩
  · cases h; exact ⟨Try.f49, h82, Try.func49, name82, comp82⟩
  · cases h; exact ⟨Try.f11, h91, Try.func11, name91, comp91⟩
  · cases h; exact ⟨Try.f50, h158, Try.func50, name158, comp158⟩
  · cases h; exact ⟨Try.f51, h163, Try.func51, name163, comp163⟩
  · cases h; exact ⟨Try.f61, h164, Try.func61, name164, comp164⟩
  · cases h; exact ⟨Try.f60, h165, Try.func60, name165, comp165⟩
  · cases h; exact ⟨Try.f41, h169, Try.func41, name169, comp169⟩
  · cases h; exact ⟨Try.f45, h175, Try.func45, name175, comp175⟩
  · cases h; exact ⟨Try.f56, h178, Try.func56, name178, comp178⟩
  · cases h; exact ⟨Try.f55, h179, Try.func55, name179, comp179⟩
  · cases h; exact ⟨Try.f58, h187, Try.func58, name187, comp187⟩
  · cases h; exact ⟨Try.f44, h203, Try.func44, name203, comp203⟩
  · cases h; exact ⟨Try.f43, h204, Try.func43, name204, comp204⟩
  · cases h; exact ⟨Try.f47, h211, Try.func47, name211, comp211⟩
  · cases h; exact ⟨Try.f46, h212, Try.func46, name212, comp212⟩
  · cases h; exact ⟨Try.f54, h215, Try.func54, name215, comp215⟩
  · cases h; exact ⟨Try.f53, h216, Try.func53, name216, comp216⟩
  · cases h; exact ⟨Try.f48, h225, Try.func48, name225, comp225⟩
  · cases h; exact ⟨Try.f87, h234, Try.func87, name234, comp234⟩
  · cases h; exact ⟨Try.f52, h259, Try.func52, name259, comp259⟩
  · cases h; exact ⟨Try.f57, h262, Try.func57, name262, comp262⟩
  · cases h; exact ⟨Try.f42, h274, Try.func42, name274, comp274⟩
  · cases h; exact ⟨Try.f59, h275, Try.func59, name275, comp275⟩
  · cases h; exact ⟨Try.f80, h295, Try.func80, name295, comp295⟩
  · cases h; exact ⟨Try.f126, h304, Try.func126, name304, comp304⟩
  · cases h; exact ⟨Try.f104, h305, Try.func104, name305, comp305⟩
  · cases h; exact ⟨Try.f184, h309, Try.func184, name309, comp309⟩
  · cases h; exact ⟨Try.f163, h310, Try.func163, name310, comp310⟩
  · cases h; exact ⟨Try.f119, h312, Try.func119, name312, comp312⟩
  · cases h; exact ⟨Try.f86, h315, Try.func86, name315, comp315⟩
  · cases h; exact ⟨Try.f62, h316, Try.func62, name316, comp316⟩
  · cases h; exact ⟨Try.f64, h318, Try.func64, name318, comp318⟩
  · cases h; exact ⟨Try.f69, h323, Try.func69, name323, comp323⟩
  · cases h; exact ⟨Try.f118, h341, Try.func118, name341, comp341⟩
  · cases h; exact ⟨Try.f102, h342, Try.func102, name342, comp342⟩
  · cases h; exact ⟨Try.f72, h351, Try.func72, name351, comp351⟩
  · cases h; exact ⟨Try.f149, h355, Try.func149, name355, comp355⟩
  · cases h; exact ⟨Try.f127, h356, Try.func127, name356, comp356⟩
  · cases h; exact ⟨Try.f147, h358, Try.func147, name358, comp358⟩
  · cases h; exact ⟨Try.f92, h359, Try.func92, name359, comp359⟩
  · cases h; exact ⟨Try.f167, h365, Try.func167, name365, comp365⟩
  · cases h; exact ⟨Try.f136, h367, Try.func136, name367, comp367⟩
  · cases h; exact ⟨Try.f120, h381, Try.func120, name381, comp381⟩
  · cases h; exact ⟨Try.f113, h386, Try.func113, name386, comp386⟩
  · cases h; exact ⟨Try.f121, h387, Try.func121, name387, comp387⟩
  · cases h; exact ⟨Try.f131, h388, Try.func131, name388, comp388⟩
  · cases h; exact ⟨Try.f130, h389, Try.func130, name389, comp389⟩
  · cases h; exact ⟨Try.f117, h396, Try.func117, name396, comp396⟩
  · cases h; exact ⟨Try.f115, h397, Try.func115, name397, comp397⟩
  · cases h; exact ⟨Try.f125, h400, Try.func125, name400, comp400⟩
  · cases h; exact ⟨Try.f162, h404, Try.func162, name404, comp404⟩
  · cases h; exact ⟨Try.f128, h405, Try.func128, name405, comp405⟩
  · cases h; exact ⟨Try.f123, h406, Try.func123, name406, comp406⟩
  · cases h; exact ⟨Try.f129, h407, Try.func129, name407, comp407⟩
  · cases h; exact ⟨Try.f114, h418, Try.func114, name418, comp418⟩
  · cases h; exact ⟨Try.f112, h419, Try.func112, name419, comp419⟩
  · cases h; exact ⟨Try.f116, h430, Try.func116, name430, comp430⟩
  · cases h; exact ⟨Try.f124, h431, Try.func124, name431, comp431⟩
  · cases h; exact ⟨Try.f101, h440, Try.func101, name440, comp440⟩
  · cases h; exact ⟨Try.f155, h443, Try.func155, name443, comp443⟩
  · cases h; exact ⟨Try.f151, h445, Try.func151, name445, comp445⟩
  · cases h; exact ⟨Try.f152, h446, Try.func152, name446, comp446⟩
  · cases h; exact ⟨Try.f103, h456, Try.func103, name456, comp456⟩
  · cases h; exact ⟨Try.f122, h459, Try.func122, name459, comp459⟩
  · cases h; exact ⟨Try.f111, h469, Try.func111, name469, comp469⟩
  · cases h; exact ⟨Try.f175, h474, Try.func175, name474, comp474⟩
  · cases h; exact ⟨Try.f164, h490, Try.func164, name490, comp490⟩
  · cases h; exact ⟨Try.f138, h505, Try.func138, name505, comp505⟩
  · cases h; exact ⟨Try.f139, h506, Try.func139, name506, comp506⟩
  · cases h; exact ⟨Try.f174, h512, Try.func174, name512, comp512⟩
  · cases h; exact ⟨Try.f150, h513, Try.func150, name513, comp513⟩
  · cases h; exact ⟨Try.f161, h524, Try.func161, name524, comp524⟩
  · cases h; exact ⟨Try.f169, h525, Try.func169, name525, comp525⟩
  · cases h; exact ⟨Try.f170, h526, Try.func170, name526, comp526⟩
  · cases h; exact ⟨Try.f166, h527, Try.func166, name527, comp527⟩
  · cases h; exact ⟨Try.f168, h528, Try.func168, name528, comp528⟩
  · cases h; exact ⟨Try.f181, h547, Try.func181, name547, comp547⟩
  · cases h; exact ⟨Try.f165, h550, Try.func165, name550, comp550⟩
  · cases h; exact ⟨Try.f185, h572, Try.func185, name572, comp572⟩
  · cases h; exact ⟨Try.f186, h573, Try.func186, name573, comp573⟩
  · cases h
end Fb
