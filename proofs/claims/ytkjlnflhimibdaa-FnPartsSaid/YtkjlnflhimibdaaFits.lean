/- Each function of the law is compiled by the checker to its text in the small language. -/
import Derived.Test.YtkjlnflhimibdaaRow2
import Derived.Test.YtkjlnflhimibdaaTab
import Derived.Test.YtkjlnflhimibdaaRows
import Derived.KernelRfl
set_option linter.unusedVariables false
set_option linter.unusedSimpArgs false
namespace Fb
open Go Go.Proofs

def inv : FuncId → Option Nat := fun f => match f with
  | 8 => some 49
  | 41 => some 91
  | 26 => some 169
  | 30 => some 171
  | 92 => some 206
  | 91 => some 208
  | 96 => some 220
  | 95 => some 222
  | 61 => some 234
  | 80 => some 251
  | 82 => some 253
  | 87 => some 258
  | 88 => some 259
  | 89 => some 260
  | 90 => some 261
  | 93 => some 262
  | 94 => some 263
  | 97 => some 264
  | 98 => some 265
  | 113 => some 295
  | 117 => some 304
  | 118 => some 305
  | 100 => some 315
  | 134 => some 323
  | 119 => some 327
  | 175 => some 337
  | 163 => some 338
  | 173 => some 342
  | 164 => some 348
  | 161 => some 355
  | 188 => some 356
  | 160 => some 358
  | 114 => some 359
  | 121 => some 368
  | 124 => some 393
  | 194 => some 401
  | 193 => some 409
  | 183 => some 421
  | 184 => some 422
  | 187 => some 423
  | 180 => some 425
  | 181 => some 426
  | 186 => some 427
  | 192 => some 432
  | 185 => some 433
  | 191 => some 435
  | 182 => some 436
  | 151 => some 440
  | 154 => some 443
  | 156 => some 445
  | 157 => some 446
  | 174 => some 456
  | 178 => some 459
  | 179 => some 460
  | 189 => some 461
  | 190 => some 462
  | 218 => some 502
  | 219 => some 503
  | 198 => some 513
  | 199 => some 530
  | 225 => some 537
  | 227 => some 538
  | 223 => some 541
  | 224 => some 542
  | 226 => some 543
  | 216 => some 547
  | 221 => some 549
  | 222 => some 550
  | 228 => some 551
  | 241 => some 574
  | 242 => some 575
  | 245 => some 576
  | 246 => some 577
  | 240 => some 578
  | 243 => some 579
  | 244 => some 580
  | 252 => some 605
  | 253 => some 606
  | _ => none
def rho : Nat → FuncId := fun n => match n with
  | 49 => 8
  | 91 => 41
  | 169 => 26
  | 171 => 30
  | 206 => 92
  | 208 => 91
  | 220 => 96
  | 222 => 95
  | 234 => 61
  | 251 => 80
  | 253 => 82
  | 258 => 87
  | 259 => 88
  | 260 => 89
  | 261 => 90
  | 262 => 93
  | 263 => 94
  | 264 => 97
  | 265 => 98
  | 295 => 113
  | 304 => 117
  | 305 => 118
  | 315 => 100
  | 323 => 134
  | 327 => 119
  | 337 => 175
  | 338 => 163
  | 342 => 173
  | 348 => 164
  | 355 => 161
  | 356 => 188
  | 358 => 160
  | 359 => 114
  | 368 => 121
  | 393 => 124
  | 401 => 194
  | 409 => 193
  | 421 => 183
  | 422 => 184
  | 423 => 187
  | 425 => 180
  | 426 => 181
  | 427 => 186
  | 432 => 192
  | 433 => 185
  | 435 => 191
  | 436 => 182
  | 440 => 151
  | 443 => 154
  | 445 => 156
  | 446 => 157
  | 456 => 174
  | 459 => 178
  | 460 => 179
  | 461 => 189
  | 462 => 190
  | 502 => 218
  | 503 => 219
  | 513 => 198
  | 530 => 199
  | 537 => 225
  | 538 => 227
  | 541 => 223
  | 542 => 224
  | 543 => 226
  | 547 => 216
  | 549 => 221
  | 550 => 222
  | 551 => 228
  | 574 => 241
  | 575 => 242
  | 576 => 245
  | 577 => 246
  | 578 => 240
  | 579 => 243
  | 580 => 244
  | 605 => 252
  | 606 => 253
  | _ => 0
def isPure : Nat → Bool := fun n => !([305, 368, 459, 460, 513, 550] : List Nat).contains n
theorem inv_rho : ∀ f i, inv f = some i → rho i = f := by
  intro f i h
  unfold inv at h
  split at h <;> first | (cases h; rfl) | cases h
def h49 : Hint := ⟨.pure, [26, 24, 22, 20, 18, 6, 5], [0, 1, 4, 5, 6, 7, 8, 9, 10, 11, 12, 13, 14, 15, 16, 17, 18, 19, 20, 21, 22, 23, 24, 25, 26, 27, 28, 29, 30, 31, 32, 33, 39, 130, 134, 244]⟩
theorem comp49 : compFn Try.prog inv isPure h49 Try.f8 = some c49 := by kernel_rfl
theorem name49 : (Try.f8.name == "runtime.NumGoroutine") = false := by kernel_rfl
def h91 : Hint := ⟨.pure, [], [0, 1, 4]⟩
theorem comp91 : compFn Try.prog inv isPure h91 Try.f41 = some c91 := by kernel_rfl
theorem name91 : (Try.f41.name == "runtime.NumGoroutine") = false := by kernel_rfl
def h169 : Hint := ⟨.pure, [], [0, 2]⟩
theorem comp169 : compFn Try.prog inv isPure h169 Try.f26 = some c169 := by kernel_rfl
theorem name169 : (Try.f26.name == "runtime.NumGoroutine") = false := by kernel_rfl
def h171 : Hint := ⟨.pure, [1], [0, 1, 2, 3, 6]⟩
theorem comp171 : compFn Try.prog inv isPure h171 Try.f30 = some c171 := by kernel_rfl
theorem name171 : (Try.f30.name == "runtime.NumGoroutine") = false := by kernel_rfl
def h206 : Hint := ⟨.pure, [14, 13], [0, 1, 2, 3, 4, 5, 8, 9, 10, 11, 12, 13, 14, 15, 24, 31, 39, 49]⟩
theorem comp206 : compFn Try.prog inv isPure h206 Try.f92 = some c206 := by kernel_rfl
theorem name206 : (Try.f92.name == "runtime.NumGoroutine") = false := by kernel_rfl
def h208 : Hint := ⟨.pure, [5, 4], [0, 1, 2, 3, 4, 5, 8, 9, 10, 11, 12, 18, 27, 38]⟩
theorem comp208 : compFn Try.prog inv isPure h208 Try.f91 = some c208 := by kernel_rfl
theorem name208 : (Try.f91.name == "runtime.NumGoroutine") = false := by kernel_rfl
def h220 : Hint := ⟨.pure, [4], [0, 1, 4, 5, 6, 12]⟩
theorem comp220 : compFn Try.prog inv isPure h220 Try.f96 = some c220 := by kernel_rfl
theorem name220 : (Try.f96.name == "runtime.NumGoroutine") = false := by kernel_rfl
def h222 : Hint := ⟨.pure, [4], [0, 1, 4, 5, 6, 11, 16]⟩
theorem comp222 : compFn Try.prog inv isPure h222 Try.f95 = some c222 := by kernel_rfl
theorem name222 : (Try.f95.name == "runtime.NumGoroutine") = false := by kernel_rfl
def h234 : Hint := ⟨.pure, [], [0, 1, 2]⟩
theorem comp234 : compFn Try.prog inv isPure h234 Try.f61 = some c234 := by kernel_rfl
theorem name234 : (Try.f61.name == "runtime.NumGoroutine") = false := by kernel_rfl
def h251 : Hint := ⟨.pure, [4], [0, 1, 2, 3, 4, 5, 6, 7, 10, 14]⟩
theorem comp251 : compFn Try.prog inv isPure h251 Try.f80 = some c251 := by kernel_rfl
theorem name251 : (Try.f80.name == "runtime.NumGoroutine") = false := by kernel_rfl
def h253 : Hint := ⟨.pure, [4], [0, 1, 2, 3, 4, 5, 6, 9]⟩
theorem comp253 : compFn Try.prog inv isPure h253 Try.f82 = some c253 := by kernel_rfl
theorem name253 : (Try.f82.name == "runtime.NumGoroutine") = false := by kernel_rfl
def h258 : Hint := ⟨.pure, [4, 2], [0, 2, 3, 4]⟩
theorem comp258 : compFn Try.prog inv isPure h258 Try.f87 = some c258 := by kernel_rfl
theorem name258 : (Try.f87.name == "runtime.NumGoroutine") = false := by kernel_rfl
def h259 : Hint := ⟨.pure, [], [0, 1, 4]⟩
theorem comp259 : compFn Try.prog inv isPure h259 Try.f88 = some c259 := by kernel_rfl
theorem name259 : (Try.f88.name == "runtime.NumGoroutine") = false := by kernel_rfl
def h260 : Hint := ⟨.pure, [], [0, 1, 2, 6, 7, 8, 9, 10, 14, 19, 34]⟩
theorem comp260 : compFn Try.prog inv isPure h260 Try.f89 = some c260 := by kernel_rfl
theorem name260 : (Try.f89.name == "runtime.NumGoroutine") = false := by kernel_rfl
def h261 : Hint := ⟨.pure, [], [0, 1, 2, 6, 7, 8, 9, 10, 24, 26, 33]⟩
theorem comp261 : compFn Try.prog inv isPure h261 Try.f90 = some c261 := by kernel_rfl
theorem name261 : (Try.f90.name == "runtime.NumGoroutine") = false := by kernel_rfl
def h262 : Hint := ⟨.pure, [], [0, 1, 4]⟩
theorem comp262 : compFn Try.prog inv isPure h262 Try.f93 = some c262 := by kernel_rfl
theorem name262 : (Try.f93.name == "runtime.NumGoroutine") = false := by kernel_rfl
def h263 : Hint := ⟨.pure, [1], [0, 1, 2]⟩
theorem comp263 : compFn Try.prog inv isPure h263 Try.f94 = some c263 := by kernel_rfl
theorem name263 : (Try.f94.name == "runtime.NumGoroutine") = false := by kernel_rfl
def h264 : Hint := ⟨.pure, [], [0, 1, 2, 3, 5]⟩
theorem comp264 : compFn Try.prog inv isPure h264 Try.f97 = some c264 := by kernel_rfl
theorem name264 : (Try.f97.name == "runtime.NumGoroutine") = false := by kernel_rfl
def h265 : Hint := ⟨.pure, [], [0, 1, 4]⟩
theorem comp265 : compFn Try.prog inv isPure h265 Try.f98 = some c265 := by kernel_rfl
theorem name265 : (Try.f98.name == "runtime.NumGoroutine") = false := by kernel_rfl
def h295 : Hint := ⟨.pure, [], [0, 1, 2, 6]⟩
theorem comp295 : compFn Try.prog inv isPure h295 Try.f113 = some c295 := by kernel_rfl
theorem name295 : (Try.f113.name == "runtime.NumGoroutine") = false := by kernel_rfl
def h304 : Hint := ⟨.pure, [], [0, 1, 2, 6]⟩
theorem comp304 : compFn Try.prog inv isPure h304 Try.f117 = some c304 := by kernel_rfl
theorem name304 : (Try.f117.name == "runtime.NumGoroutine") = false := by kernel_rfl
def h305 : Hint := ⟨.args, [], [0, 1, 2, 8]⟩
theorem comp305 : compFn Try.prog inv isPure h305 Try.f118 = some c305 := by kernel_rfl
theorem name305 : (Try.f118.name == "runtime.NumGoroutine") = false := by kernel_rfl
def h315 : Hint := ⟨.pure, [], [0, 2]⟩
theorem comp315 : compFn Try.prog inv isPure h315 Try.f100 = some c315 := by kernel_rfl
theorem name315 : (Try.f100.name == "runtime.NumGoroutine") = false := by kernel_rfl
def h323 : Hint := ⟨.pure, [], [0, 1, 4, 5, 10, 14, 25]⟩
theorem comp323 : compFn Try.prog inv isPure h323 Try.f134 = some c323 := by kernel_rfl
theorem name323 : (Try.f134.name == "runtime.NumGoroutine") = false := by kernel_rfl
def h327 : Hint := ⟨.pure, [], [0, 1, 4, 12]⟩
theorem comp327 : compFn Try.prog inv isPure h327 Try.f119 = some c327 := by kernel_rfl
theorem name327 : (Try.f119.name == "runtime.NumGoroutine") = false := by kernel_rfl
def h337 : Hint := ⟨.pure, [5, 4], [0, 1, 4, 5, 6, 9]⟩
theorem comp337 : compFn Try.prog inv isPure h337 Try.f175 = some c337 := by kernel_rfl
theorem name337 : (Try.f175.name == "runtime.NumGoroutine") = false := by kernel_rfl
def h338 : Hint := ⟨.pure, [4, 3, 2], [0, 1, 2, 3, 4]⟩
theorem comp338 : compFn Try.prog inv isPure h338 Try.f163 = some c338 := by kernel_rfl
theorem name338 : (Try.f163.name == "runtime.NumGoroutine") = false := by kernel_rfl
def h342 : Hint := ⟨.pure, [], [0, 1, 4]⟩
theorem comp342 : compFn Try.prog inv isPure h342 Try.f173 = some c342 := by kernel_rfl
theorem name342 : (Try.f173.name == "runtime.NumGoroutine") = false := by kernel_rfl
def h348 : Hint := ⟨.pure, [4, 3, 2], [0, 1, 2, 3, 4]⟩
theorem comp348 : compFn Try.prog inv isPure h348 Try.f164 = some c348 := by kernel_rfl
theorem name348 : (Try.f164.name == "runtime.NumGoroutine") = false := by kernel_rfl
def h355 : Hint := ⟨.pure, [6], [0, 1, 2, 6, 7, 8, 9, 16]⟩
theorem comp355 : compFn Try.prog inv isPure h355 Try.f161 = some c355 := by kernel_rfl
theorem name355 : (Try.f161.name == "runtime.NumGoroutine") = false := by kernel_rfl
def h356 : Hint := ⟨.pure, [], [0, 1, 4, 5, 10, 14, 25]⟩
theorem comp356 : compFn Try.prog inv isPure h356 Try.f188 = some c356 := by kernel_rfl
theorem name356 : (Try.f188.name == "runtime.NumGoroutine") = false := by kernel_rfl
def h358 : Hint := ⟨.pure, [7, 6, 3], [0, 1, 2, 3, 6, 7, 8, 9, 13, 15, 16, 23, 25]⟩
theorem comp358 : compFn Try.prog inv isPure h358 Try.f160 = some c358 := by kernel_rfl
theorem name358 : (Try.f160.name == "runtime.NumGoroutine") = false := by kernel_rfl
def h359 : Hint := ⟨.pure, [], [0, 2, 3, 5, 13]⟩
theorem comp359 : compFn Try.prog inv isPure h359 Try.f114 = some c359 := by kernel_rfl
theorem name359 : (Try.f114.name == "runtime.NumGoroutine") = false := by kernel_rfl
def h368 : Hint := ⟨.args, [2], [0, 2, 3, 4, 5, 6, 7, 16, 23, 30, 36, 43, 45]⟩
theorem comp368 : compFn Try.prog inv isPure h368 Try.f121 = some c368 := by kernel_rfl
theorem name368 : (Try.f121.name == "runtime.NumGoroutine") = false := by kernel_rfl
def h393 : Hint := ⟨.pure, [1], [0, 1, 2, 3, 5, 6, 7, 8]⟩
theorem comp393 : compFn Try.prog inv isPure h393 Try.f124 = some c393 := by kernel_rfl
theorem name393 : (Try.f124.name == "runtime.NumGoroutine") = false := by kernel_rfl
def h401 : Hint := ⟨.pure, [], [0, 1, 4, 5, 9, 17]⟩
theorem comp401 : compFn Try.prog inv isPure h401 Try.f194 = some c401 := by kernel_rfl
theorem name401 : (Try.f194.name == "runtime.NumGoroutine") = false := by kernel_rfl
def h409 : Hint := ⟨.pure, [], [0, 2]⟩
theorem comp409 : compFn Try.prog inv isPure h409 Try.f193 = some c409 := by kernel_rfl
theorem name409 : (Try.f193.name == "runtime.NumGoroutine") = false := by kernel_rfl
def h421 : Hint := ⟨.pure, [], [0, 1, 4, 5, 9, 16, 18, 21]⟩
theorem comp421 : compFn Try.prog inv isPure h421 Try.f183 = some c421 := by kernel_rfl
theorem name421 : (Try.f183.name == "runtime.NumGoroutine") = false := by kernel_rfl
def h422 : Hint := ⟨.pure, [], [0, 1, 4]⟩
theorem comp422 : compFn Try.prog inv isPure h422 Try.f184 = some c422 := by kernel_rfl
theorem name422 : (Try.f184.name == "runtime.NumGoroutine") = false := by kernel_rfl
def h423 : Hint := ⟨.pure, [4], [0, 1, 4, 5, 6]⟩
theorem comp423 : compFn Try.prog inv isPure h423 Try.f187 = some c423 := by kernel_rfl
theorem name423 : (Try.f187.name == "runtime.NumGoroutine") = false := by kernel_rfl
def h425 : Hint := ⟨.pure, [], [0, 2]⟩
theorem comp425 : compFn Try.prog inv isPure h425 Try.f180 = some c425 := by kernel_rfl
theorem name425 : (Try.f180.name == "runtime.NumGoroutine") = false := by kernel_rfl
def h426 : Hint := ⟨.pure, [], [0, 1, 4]⟩
theorem comp426 : compFn Try.prog inv isPure h426 Try.f181 = some c426 := by kernel_rfl
theorem name426 : (Try.f181.name == "runtime.NumGoroutine") = false := by kernel_rfl
def h427 : Hint := ⟨.pure, [4, 2], [0, 1, 2, 4]⟩
theorem comp427 : compFn Try.prog inv isPure h427 Try.f186 = some c427 := by kernel_rfl
theorem name427 : (Try.f186.name == "runtime.NumGoroutine") = false := by kernel_rfl
def h432 : Hint := ⟨.pure, [], [0, 2]⟩
theorem comp432 : compFn Try.prog inv isPure h432 Try.f192 = some c432 := by kernel_rfl
theorem name432 : (Try.f192.name == "runtime.NumGoroutine") = false := by kernel_rfl
def h433 : Hint := ⟨.pure, [4], [0, 1, 4, 5, 6, 7, 12]⟩
theorem comp433 : compFn Try.prog inv isPure h433 Try.f185 = some c433 := by kernel_rfl
theorem name433 : (Try.f185.name == "runtime.NumGoroutine") = false := by kernel_rfl
def h435 : Hint := ⟨.pure, [], [0, 2]⟩
theorem comp435 : compFn Try.prog inv isPure h435 Try.f191 = some c435 := by kernel_rfl
theorem name435 : (Try.f191.name == "runtime.NumGoroutine") = false := by kernel_rfl
def h436 : Hint := ⟨.pure, [7, 5, 4], [0, 1, 4, 5, 7, 9, 10, 11, 12]⟩
theorem comp436 : compFn Try.prog inv isPure h436 Try.f182 = some c436 := by kernel_rfl
theorem name436 : (Try.f182.name == "runtime.NumGoroutine") = false := by kernel_rfl
def h440 : Hint := ⟨.pure, [], [0, 2, 3, 4, 5, 8, 12, 18]⟩
theorem comp440 : compFn Try.prog inv isPure h440 Try.f151 = some c440 := by kernel_rfl
theorem name440 : (Try.f151.name == "runtime.NumGoroutine") = false := by kernel_rfl
def h443 : Hint := ⟨.pure, [6, 4, 3], [0, 1, 2, 3, 4, 6, 7, 8, 9, 10, 11]⟩
theorem comp443 : compFn Try.prog inv isPure h443 Try.f154 = some c443 := by kernel_rfl
theorem name443 : (Try.f154.name == "runtime.NumGoroutine") = false := by kernel_rfl
def h445 : Hint := ⟨.pure, [], [0, 1, 4]⟩
theorem comp445 : compFn Try.prog inv isPure h445 Try.f156 = some c445 := by kernel_rfl
theorem name445 : (Try.f156.name == "runtime.NumGoroutine") = false := by kernel_rfl
def h446 : Hint := ⟨.pure, [], [0, 2]⟩
theorem comp446 : compFn Try.prog inv isPure h446 Try.f157 = some c446 := by kernel_rfl
theorem name446 : (Try.f157.name == "runtime.NumGoroutine") = false := by kernel_rfl
def h456 : Hint := ⟨.pure, [], [0, 1, 2, 6]⟩
theorem comp456 : compFn Try.prog inv isPure h456 Try.f174 = some c456 := by kernel_rfl
theorem name456 : (Try.f174.name == "runtime.NumGoroutine") = false := by kernel_rfl
def h459 : Hint := ⟨.args, [], [0, 1, 4, 5, 7, 11]⟩
theorem comp459 : compFn Try.prog inv isPure h459 Try.f178 = some c459 := by kernel_rfl
theorem name459 : (Try.f178.name == "runtime.NumGoroutine") = false := by kernel_rfl
def h460 : Hint := ⟨.args, [], [0, 2, 3, 4, 5, 6, 7, 15, 44, 48]⟩
theorem comp460 : compFn Try.prog inv isPure h460 Try.f179 = some c460 := by kernel_rfl
theorem name460 : (Try.f179.name == "runtime.NumGoroutine") = false := by kernel_rfl
def h461 : Hint := ⟨.pure, [4], [0, 2, 3, 4, 5, 6, 7, 8, 45]⟩
theorem comp461 : compFn Try.prog inv isPure h461 Try.f189 = some c461 := by kernel_rfl
theorem name461 : (Try.f189.name == "runtime.NumGoroutine") = false := by kernel_rfl
def h462 : Hint := ⟨.pure, [], [0, 2]⟩
theorem comp462 : compFn Try.prog inv isPure h462 Try.f190 = some c462 := by kernel_rfl
theorem name462 : (Try.f190.name == "runtime.NumGoroutine") = false := by kernel_rfl
def h502 : Hint := ⟨.pure, [], [0, 1, 4]⟩
theorem comp502 : compFn Try.prog inv isPure h502 Try.f218 = some c502 := by kernel_rfl
theorem name502 : (Try.f218.name == "runtime.NumGoroutine") = false := by kernel_rfl
def h503 : Hint := ⟨.pure, [], [0, 1, 4]⟩
theorem comp503 : compFn Try.prog inv isPure h503 Try.f219 = some c503 := by kernel_rfl
theorem name503 : (Try.f219.name == "runtime.NumGoroutine") = false := by kernel_rfl
def h513 : Hint := ⟨.args, [], [0, 1, 4]⟩
theorem comp513 : compFn Try.prog inv isPure h513 Try.f198 = some c513 := by kernel_rfl
theorem name513 : (Try.f198.name == "runtime.NumGoroutine") = false := by kernel_rfl
def h530 : Hint := ⟨.pure, [], [0, 2]⟩
theorem comp530 : compFn Try.prog inv isPure h530 Try.f199 = some c530 := by kernel_rfl
theorem name530 : (Try.f199.name == "runtime.NumGoroutine") = false := by kernel_rfl
def h537 : Hint := ⟨.pure, [], [0, 2]⟩
theorem comp537 : compFn Try.prog inv isPure h537 Try.f225 = some c537 := by kernel_rfl
theorem name537 : (Try.f225.name == "runtime.NumGoroutine") = false := by kernel_rfl
def h538 : Hint := ⟨.pure, [], [0, 1, 2, 6, 7, 8, 9, 10, 11, 27, 56]⟩
theorem comp538 : compFn Try.prog inv isPure h538 Try.f227 = some c538 := by kernel_rfl
theorem name538 : (Try.f227.name == "runtime.NumGoroutine") = false := by kernel_rfl
def h541 : Hint := ⟨.pure, [], [0, 1, 4]⟩
theorem comp541 : compFn Try.prog inv isPure h541 Try.f223 = some c541 := by kernel_rfl
theorem name541 : (Try.f223.name == "runtime.NumGoroutine") = false := by kernel_rfl
def h542 : Hint := ⟨.pure, [1], [0, 1, 2]⟩
theorem comp542 : compFn Try.prog inv isPure h542 Try.f224 = some c542 := by kernel_rfl
theorem name542 : (Try.f224.name == "runtime.NumGoroutine") = false := by kernel_rfl
def h543 : Hint := ⟨.pure, [11, 10, 9], [0, 1, 2, 6, 7, 8, 9, 10, 11, 12, 26, 36]⟩
theorem comp543 : compFn Try.prog inv isPure h543 Try.f226 = some c543 := by kernel_rfl
theorem name543 : (Try.f226.name == "runtime.NumGoroutine") = false := by kernel_rfl
def h547 : Hint := ⟨.pure, [], [0, 1, 4, 5, 7, 8, 9, 16]⟩
theorem comp547 : compFn Try.prog inv isPure h547 Try.f216 = some c547 := by kernel_rfl
theorem name547 : (Try.f216.name == "runtime.NumGoroutine") = false := by kernel_rfl
def h549 : Hint := ⟨.pure, [], [0, 1, 4, 7]⟩
theorem comp549 : compFn Try.prog inv isPure h549 Try.f221 = some c549 := by kernel_rfl
theorem name549 : (Try.f221.name == "runtime.NumGoroutine") = false := by kernel_rfl
def h550 : Hint := ⟨.args, [], [0, 2, 3, 13, 53]⟩
theorem comp550 : compFn Try.prog inv isPure h550 Try.f222 = some c550 := by kernel_rfl
theorem name550 : (Try.f222.name == "runtime.NumGoroutine") = false := by kernel_rfl
def h551 : Hint := ⟨.pure, [], [0, 2]⟩
theorem comp551 : compFn Try.prog inv isPure h551 Try.f228 = some c551 := by kernel_rfl
theorem name551 : (Try.f228.name == "runtime.NumGoroutine") = false := by kernel_rfl
def h574 : Hint := ⟨.pure, [], [0, 2]⟩
theorem comp574 : compFn Try.prog inv isPure h574 Try.f241 = some c574 := by kernel_rfl
theorem name574 : (Try.f241.name == "runtime.NumGoroutine") = false := by kernel_rfl
def h575 : Hint := ⟨.pure, [], [0, 2, 3, 7, 37, 53]⟩
theorem comp575 : compFn Try.prog inv isPure h575 Try.f242 = some c575 := by kernel_rfl
theorem name575 : (Try.f242.name == "runtime.NumGoroutine") = false := by kernel_rfl
def h576 : Hint := ⟨.pure, [], [0, 1, 2, 6, 7, 8, 15, 16, 22, 30, 42]⟩
theorem comp576 : compFn Try.prog inv isPure h576 Try.f245 = some c576 := by kernel_rfl
theorem name576 : (Try.f245.name == "runtime.NumGoroutine") = false := by kernel_rfl
def h577 : Hint := ⟨.pure, [], [0, 1, 2, 6, 7, 18]⟩
theorem comp577 : compFn Try.prog inv isPure h577 Try.f246 = some c577 := by kernel_rfl
theorem name577 : (Try.f246.name == "runtime.NumGoroutine") = false := by kernel_rfl
def h578 : Hint := ⟨.pure, [], [0, 1, 4, 5, 7, 8, 9, 16]⟩
theorem comp578 : compFn Try.prog inv isPure h578 Try.f240 = some c578 := by kernel_rfl
theorem name578 : (Try.f240.name == "runtime.NumGoroutine") = false := by kernel_rfl
def h579 : Hint := ⟨.pure, [], [0, 1, 2, 6, 7, 8, 15, 22, 31, 41]⟩
theorem comp579 : compFn Try.prog inv isPure h579 Try.f243 = some c579 := by kernel_rfl
theorem name579 : (Try.f243.name == "runtime.NumGoroutine") = false := by kernel_rfl
def h580 : Hint := ⟨.pure, [], [0, 1, 2, 6, 9]⟩
theorem comp580 : compFn Try.prog inv isPure h580 Try.f244 = some c580 := by kernel_rfl
theorem name580 : (Try.f244.name == "runtime.NumGoroutine") = false := by kernel_rfl
def h605 : Hint := ⟨.pure, [], [0, 2]⟩
theorem comp605 : compFn Try.prog inv isPure h605 Try.f252 = some c605 := by kernel_rfl
theorem name605 : (Try.f252.name == "runtime.NumGoroutine") = false := by kernel_rfl
def h606 : Hint := ⟨.pure, [], [0, 2]⟩
theorem comp606 : compFn Try.prog inv isPure h606 Try.f253 = some c606 := by kernel_rfl
theorem name606 : (Try.f253.name == "runtime.NumGoroutine") = false := by kernel_rfl
theorem tab_ok : ∀ f D, tab f = some D → DefOk Try.prog inv isPure rho f D := by
  intro f D h
  unfold tab at h
  split at h
  · cases h; exact ⟨Try.f8, h49, Try.func8, name49, comp49⟩
  · cases h; exact ⟨Try.f41, h91, Try.func41, name91, comp91⟩
  · cases h; exact ⟨Try.f26, h169, Try.func26, name169, comp169⟩
  · cases h; exact ⟨Try.f30, h171, Try.func30, name171, comp171⟩
  · cases h; exact ⟨Try.f92, h206, Try.func92, name206, comp206⟩
  · cases h; exact ⟨Try.f91, h208, Try.func91, name208, comp208⟩
  · cases h; exact ⟨Try.f96, h220, Try.func96, name220, comp220⟩
  · cases h; exact ⟨Try.f95, h222, Try.func95, name222, comp222⟩
  · cases h; exact ⟨Try.f61, h234, Try.func61, name234, comp234⟩
  · cases h; exact ⟨Try.f80, h251, Try.func80, name251, comp251⟩
  · cases h; exact ⟨Try.f82, h253, Try.func82, name253, comp253⟩
  · cases h; exact ⟨Try.f87, h258, Try.func87, name258, comp258⟩
  · cases h; exact ⟨Try.f88, h259, Try.func88, name259, comp259⟩
  · cases h; exact ⟨Try.f89, h260, Try.func89, name260, comp260⟩
  · cases h; exact ⟨Try.f90, h261, Try.func90, name261, comp261⟩
  · cases h; exact ⟨Try.f93, h262, Try.func93, name262, comp262⟩
  · cases h; exact ⟨Try.f94, h263, Try.func94, name263, comp263⟩
  · cases h; exact ⟨Try.f97, h264, Try.func97, name264, comp264⟩
  · cases h; exact ⟨Try.f98, h265, Try.func98, name265, comp265⟩
  · cases h; exact ⟨Try.f113, h295, Try.func113, name295, comp295⟩
  · cases h; exact ⟨Try.f117, h304, Try.func117, name304, comp304⟩
  · cases h; exact ⟨Try.f118, h305, Try.func118, name305, comp305⟩
  · cases h; exact ⟨Try.f100, h315, Try.func100, name315, comp315⟩
  · cases h; exact ⟨Try.f134, h323, Try.func134, name323, comp323⟩
  · cases h; exact ⟨Try.f119, h327, Try.func119, name327, comp327⟩
  · cases h; exact ⟨Try.f175, h337, Try.func175, name337, comp337⟩
  · cases h; exact ⟨Try.f163, h338, Try.func163, name338, comp338⟩
  · cases h; exact ⟨Try.f173, h342, Try.func173, name342, comp342⟩
  · cases h; exact ⟨Try.f164, h348, Try.func164, name348, comp348⟩
  · cases h; exact ⟨Try.f161, h355, Try.func161, name355, comp355⟩
  · cases h; exact ⟨Try.f188, h356, Try.func188, name356, comp356⟩
  · cases h; exact ⟨Try.f160, h358, Try.func160, name358, comp358⟩
  · cases h; exact ⟨Try.f114, h359, Try.func114, name359, comp359⟩
  · cases h; exact ⟨Try.f121, h368, Try.func121, name368, comp368⟩
  · cases h; exact ⟨Try.f124, h393, Try.func124, name393, comp393⟩
  · cases h; exact ⟨Try.f194, h401, Try.func194, name401, comp401⟩
  · cases h; exact ⟨Try.f193, h409, Try.func193, name409, comp409⟩
  · cases h; exact ⟨Try.f183, h421, Try.func183, name421, comp421⟩
  · cases h; exact ⟨Try.f184, h422, Try.func184, name422, comp422⟩
  · cases h; exact ⟨Try.f187, h423, Try.func187, name423, comp423⟩
  · cases h; exact ⟨Try.f180, h425, Try.func180, name425, comp425⟩
  · cases h; exact ⟨Try.f181, h426, Try.func181, name426, comp426⟩
  · cases h; exact ⟨Try.f186, h427, Try.func186, name427, comp427⟩
  · cases h; exact ⟨Try.f192, h432, Try.func192, name432, comp432⟩
  · cases h; exact ⟨Try.f185, h433, Try.func185, name433, comp433⟩
  · cases h; exact ⟨Try.f191, h435, Try.func191, name435, comp435⟩
  · cases h; exact ⟨Try.f182, h436, Try.func182, name436, comp436⟩
  · cases h; exact ⟨Try.f151, h440, Try.func151, name440, comp440⟩
  · cases h; exact ⟨Try.f154, h443, Try.func154, name443, comp443⟩
  · cases h; exact ⟨Try.f156, h445, Try.func156, name445, comp445⟩
  · cases h; exact ⟨Try.f157, h446, Try.func157, name446, comp446⟩
  · cases h; exact ⟨Try.f174, h456, Try.func174, name456, comp456⟩
  · cases h; exact ⟨Try.f178, h459, Try.func178, name459, comp459⟩
  · cases h; exact ⟨Try.f179, h460, Try.func179, name460, comp460⟩
  · cases h; exact ⟨Try.f189, h461, Try.func189, name461, comp461⟩
  · cases h; exact ⟨Try.f190, h462, Try.func190, name462, comp462⟩
  · cases h; exact ⟨Try.f218, h502, Try.func218, name502, comp502⟩
  · cases h; exact ⟨Try.f219, h503, Try.func219, name503, comp503⟩
  · cases h; exact ⟨Try.f198, h513, Try.func198, name513, comp513⟩
  · cases h; exact ⟨Try.f199, h530, Try.func199, name530, comp530⟩
  · cases h; exact ⟨Try.f225, h537, Try.func225, name537, comp537⟩
  · cases h; exact ⟨Try.f227, h538, Try.func227, name538, comp538⟩
  · cases h; exact ⟨Try.f223, h541, Try.func223, name541, comp541⟩
  · cases h; exact ⟨Try.f224, h542, Try.func224, name542, comp542⟩
  · cases h; exact ⟨Try.f226, h543, Try.func226, name543, comp543⟩
  · cases h; exact ⟨Try.f216, h547, Try.func216, name547, comp547⟩
  · cases h; exact ⟨Try.f221, h549, Try.func221, name549, comp549⟩
  · cases h; exact ⟨Try.f222, h550, Try.func222, name550, comp550⟩
  · cases h; exact ⟨Try.f228, h551, Try.func228, name551, comp551⟩
  · cases h; exact ⟨Try.f241, h574, Try.func241, name574, comp574⟩
  · cases h; exact ⟨Try.f242, h575, Try.func242, name575, comp575⟩
  · cases h; exact ⟨Try.f245, h576, Try.func245, name576, comp576⟩
  · cases h; exact ⟨Try.f246, h577, Try.func246, name577, comp577⟩
  · cases h; exact ⟨Try.f240, h578, Try.func240, name578, comp578⟩
  · cases h; exact ⟨Try.f243, h579, Try.func243, name579, comp579⟩
  · cases h; exact ⟨Try.f244, h580, Try.func244, name580, comp580⟩
  · cases h; exact ⟨Try.f252, h605, Try.func252, name605, comp605⟩
  · cases h; exact ⟨Try.f253, h606, Try.func253, name606, comp606⟩
  · cases h
end Fb
