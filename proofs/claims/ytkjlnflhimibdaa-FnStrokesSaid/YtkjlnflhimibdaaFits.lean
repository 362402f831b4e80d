/- Each function of the law is compiled by the checker to its text in the small language. -/
import Derived.Test.YtkjlnflhimibdaaRow2
import Derived.Test.YtkjlnflhimibdaaTab
import Derived.Test.YtkjlnflhimibdaaRows
import Derived.KernelRfl
set_option linter.unusedVariables false
set_option linter.unusedSimpArgs false
namespace Fb
open Go Go.Proofs

def inv : FuncId → Option Nat := fun f => match f with
  | 4 => some 28
  | 34 => some 115
  | 33 => some 136
  | 32 => some 137
  | 29 => some 141
  | 28 => some 142
  | 26 => some 169
  | 27 => some 170
  | 30 => some 171
  | 31 => some 172
  | 35 => some 173
  | 61 => some 234
  | 113 => some 295
  | 117 => some 304
  | 118 => some 305
  | 115 => some 306
  | 100 => some 315
  | 173 => some 342
  | 125 => some 345
  | 126 => some 346
  | 114 => some 359
  | 123 => some 362
  | 122 => some 363
  | 121 => some 368
  | 124 => some 393
  | 127 => some 394
  | 128 => some 395
  | 156 => some 445
  | 157 => some 446
  | 166 => some 449
  | 174 => some 456
  | 178 => some 459
  | 198 => some 513
  | 199 => some 530
  | 216 => some 547
  | 222 => some 550
  | _ => none
def rho : Nat → FuncId := fun n => match n with
  | 28 => 4
  | 115 => 34
  | 136 => 33
  | 137 => 32
  | 141 => 29
  | 142 => 28
  | 169 => 26
  | 170 => 27
  | 171 => 30
  | 172 => 31
  | 173 => 35
  | 234 => 61
  | 295 => 113
  | 304 => 117
  | 305 => 118
  | 306 => 115
  | 315 => 100
  | 342 => 173
  | 345 => 125
  | 346 => 126
  | 359 => 114
  | 362 => 123
  | 363 => 122
  | 368 => 121
  | 393 => 124
  | 394 => 127
  | 395 => 128
  | 445 => 156
  | 446 => 157
  | 449 => 166
  | 456 => 174
  | 459 => 178
  | 513 => 198
  | 530 => 199
  | 547 => 216
  | 550 => 222
  | _ => 0
def isPure : Nat → Bool := fun n => !([305, 368, 459, 513, 550] : List Nat).contains n
theorem inv_rho : ∀ f i, inv f = some i → rho i = f := by
  intro f i h
  unfold inv at h
  split at h <;> first | (cases h; rfl) | cases h
def h28 : Hint := ⟨.pure, [27, 17, 5], [0, 1, 4, 5, 6, 7, 8, 9, 10, 11, 12, 13, 14, 15, 16, 17, 18, 19, 20, 21, 22, 23, 24, 25, 26, 27, 28, 29, 30, 31, 32, 38, 72, 74, 124, 128, 154, 180, 226, 229]⟩
theorem comp28 : compFn Try.prog inv isPure h28 Try.f4 = some c28 := by kernel_rfl
theorem name28 : (Try.f4.name == "runtime.NumGoroutine") = false := by kernel_rfl
def h115 : Hint := ⟨.pure, [6, 4, 2], [0, 2, 3, 4, 6, 7, 8, 9, 12, 15, 16, 17, 18, 23, 27, 28, 29, 40, 52]⟩
theorem comp115 : compFn Try.prog inv isPure h115 Try.f34 = some c115 := by kernel_rfl
theorem name115 : (Try.f34.name == "runtime.NumGoroutine") = false := by kernel_rfl
def h136 : Hint := ⟨.pure, [], [0, 1, 2, 4, 5, 7]⟩
theorem comp136 : compFn Try.prog inv isPure h136 Try.f33 = some c136 := by kernel_rfl
theorem name136 : (Try.f33.name == "runtime.NumGoroutine") = false := by kernel_rfl
def h137 : Hint := ⟨.pure, [2], [0, 1, 2, 4, 5, 8]⟩
theorem comp137 : compFn Try.prog inv isPure h137 Try.f32 = some c137 := by kernel_rfl
theorem name137 : (Try.f32.name == "runtime.NumGoroutine") = false := by kernel_rfl
def h141 : Hint := ⟨.pure, [], [0, 1, 2, 3, 4, 5, 7, 15]⟩
theorem comp141 : compFn Try.prog inv isPure h141 Try.f29 = some c141 := by kernel_rfl
theorem name141 : (Try.f29.name == "runtime.NumGoroutine") = false := by kernel_rfl
def h142 : Hint := ⟨.pure, [1], [0, 1, 2, 3, 4, 5, 8, 17]⟩
theorem comp142 : compFn Try.prog inv isPure h142 Try.f28 = some c142 := by kernel_rfl
theorem name142 : (Try.f28.name == "runtime.NumGoroutine") = false := by kernel_rfl
def h169 : Hint := ⟨.pure, [], [0, 2]⟩
theorem comp169 : compFn Try.prog inv isPure h169 Try.f26 = some c169 := by kernel_rfl
theorem name169 : (Try.f26.name == "runtime.NumGoroutine") = false := by kernel_rfl
def h170 : Hint := ⟨.pure, [2], [0, 2]⟩
theorem comp170 : compFn Try.prog inv isPure h170 Try.f27 = some c170 := by kernel_rfl
theorem name170 : (Try.f27.name == "runtime.NumGoroutine") = false := by kernel_rfl
def h171 : Hint := ⟨.pure, [1], [0, 1, 2, 3, 6]⟩
theorem comp171 : compFn Try.prog inv isPure h171 Try.f30 = some c171 := by kernel_rfl
theorem name171 : (Try.f30.name == "runtime.NumGoroutine") = false := by kernel_rfl
def h172 : Hint := ⟨.pure, [], [0, 1, 4, 5, 10, 14, 25]⟩
theorem comp172 : compFn Try.prog inv isPure h172 Try.f31 = some c172 := by kernel_rfl
theorem name172 : (Try.f31.name == "runtime.NumGoroutine") = false := by kernel_rfl
def h173 : Hint := ⟨.pure, [2], [0, 1, 2, 3, 6]⟩
theorem comp173 : compFn Try.prog inv isPure h173 Try.f35 = some c173 := by kernel_rfl
theorem name173 : (Try.f35.name == "runtime.NumGoroutine") = false := by kernel_rfl
def h234 : Hint := ⟨.pure, [], [0, 1, 2]⟩
theorem comp234 : compFn Try.prog inv isPure h234 Try.f61 = some c234 := by kernel_rfl
theorem name234 : (Try.f61.name == "runtime.NumGoroutine") = false := by kernel_rfl
def h295 : Hint := ⟨.pure, [], [0, 1, 2, 6]⟩
theorem comp295 : compFn Try.prog inv isPure h295 Try.f113 = some c295 := by kernel_rfl
theorem name295 : (Try.f113.name == "runtime.NumGoroutine") = false := by kernel_rfl
def h304 : Hint := ⟨.pure, [], [0, 1, 2, 6]⟩
theorem comp304 : compFn Try.prog inv isPure h304 Try.f117 = some c304 := by kernel_rfl
theorem name304 : (Try.f117.name == "runtime.NumGoroutine") = false := by kernel_rfl
def h305 : Hint := ⟨.args, [], [0, 1, 2, 8]⟩
theorem comp305 : compFn Try.prog inv isPure h305 Try.f118 = some c305 := by kernel_rfl
theorem name305 : (Try.f118.name == "runtime.NumGoroutine") = false := by kernel_rfl
def h306 : Hint := ⟨.pure, [3, 2], [0, 2, 3, 4, 5, 7, 8, 10, 11, 16]⟩
theorem comp306 : compFn Try.prog inv isPure h306 Try.f115 = some c306 := by kernel_rfl
theorem name306 : (Try.f115.name == "runtime.NumGoroutine") = false := by kernel_rfl
def h315 : Hint := ⟨.pure, [], [0, 2]⟩
theorem comp315 : compFn Try.prog inv isPure h315 Try.f100 = some c315 := by kernel_rfl
theorem name315 : (Try.f100.name == "runtime.NumGoroutine") = false := by kernel_rfl
def h342 : Hint := ⟨.pure, [], [0, 1, 4]⟩
theorem comp342 : compFn Try.prog inv isPure h342 Try.f173 = some c342 := by kernel_rfl
theorem name342 : (Try.f173.name == "runtime.NumGoroutine") = false := by kernel_rfl
def h345 : Hint := ⟨.pure, [], [0, 1, 4]⟩
theorem comp345 : compFn Try.prog inv isPure h345 Try.f125 = some c345 := by kernel_rfl
theorem name345 : (Try.f125.name == "runtime.NumGoroutine") = false := by kernel_rfl
def h346 : Hint := ⟨.pure, [6, 3], [0, 1, 2, 3, 6]⟩
theorem comp346 : compFn Try.prog inv isPure h346 Try.f126 = some c346 := by kernel_rfl
theorem name346 : (Try.f126.name == "runtime.NumGoroutine") = false := by kernel_rfl
def h359 : Hint := ⟨.pure, [], [0, 2, 3, 5, 13]⟩
theorem comp359 : compFn Try.prog inv isPure h359 Try.f114 = some c359 := by kernel_rfl
theorem name359 : (Try.f114.name == "runtime.NumGoroutine") = false := by kernel_rfl
def h362 : Hint := ⟨.pure, [], [0, 1, 4, 5, 6, 7, 8, 9, 10, 11, 14, 18, 35, 47]⟩
theorem comp362 : compFn Try.prog inv isPure h362 Try.f123 = some c362 := by kernel_rfl
theorem name362 : (Try.f123.name == "runtime.NumGoroutine") = false := by kernel_rfl
def h363 : Hint := ⟨.pure, [9, 2], [0, 1, 2, 4, 5, 6, 7, 9, 10, 11, 12, 13, 16, 17, 18, 19, 35, 47]⟩
theorem comp363 : compFn Try.prog inv isPure h363 Try.f122 = some c363 := by kernel_rfl
theorem name363 : (Try.f122.name == "runtime.NumGoroutine") = false := by kernel_rfl
def h368 : Hint := ⟨.args, [2], [0, 2, 3, 4, 5, 6, 7, 16, 23, 30, 36, 43, 45]⟩
theorem comp368 : compFn Try.prog inv isPure h368 Try.f121 = some c368 := by kernel_rfl
theorem name368 : (Try.f121.name == "runtime.NumGoroutine") = false := by kernel_rfl
def h393 : Hint := ⟨.pure, [1], [0, 1, 2, 3, 5, 6, 7, 8]⟩
theorem comp393 : compFn Try.prog inv isPure h393 Try.f124 = some c393 := by kernel_rfl
theorem name393 : (Try.f124.name == "runtime.NumGoroutine") = false := by kernel_rfl
def h394 : Hint := ⟨.pure, [], [0, 1, 2, 5]⟩
theorem comp394 : compFn Try.prog inv isPure h394 Try.f127 = some c394 := by kernel_rfl
theorem name394 : (Try.f127.name == "runtime.NumGoroutine") = false := by kernel_rfl
def h395 : Hint := ⟨.pure, [3], [0, 1, 2, 3, 6]⟩
theorem comp395 : compFn Try.prog inv isPure h395 Try.f128 = some c395 := by kernel_rfl
theorem name395 : (Try.f128.name == "runtime.NumGoroutine") = false := by kernel_rfl
def h445 : Hint := ⟨.pure, [], [0, 1, 4]⟩
theorem comp445 : compFn Try.prog inv isPure h445 Try.f156 = some c445 := by kernel_rfl
theorem name445 : (Try.f156.name == "runtime.NumGoroutine") = false := by kernel_rfl
def h446 : Hint := ⟨.pure, [], [0, 2]⟩
theorem comp446 : compFn Try.prog inv isPure h446 Try.f157 = some c446 := by kernel_rfl
theorem name446 : (Try.f157.name == "runtime.NumGoroutine") = false := by kernel_rfl
def h449 : Hint := ⟨.pure, [1], [0, 1, 2, 3, 4, 5, 7, 8, 10, 11, 16]⟩
theorem comp449 : compFn Try.prog inv isPure h449 Try.f166 = some c449 := by kernel_rfl
theorem name449 : (Try.f166.name == "runtime.NumGoroutine") = false := by kernel_rfl
def h456 : Hint := ⟨.pure, [], [0, 1, 2, 6]⟩
theorem comp456 : compFn Try.prog inv isPure h456 Try.f174 = some c456 := by kernel_rfl
theorem name456 : (Try.f174.name == "runtime.NumGoroutine") = false := by kernel_rfl
def h459 : Hint := ⟨.args, [], [0, 1, 4, 5, 7, 11]⟩
theorem comp459 : compFn Try.prog inv isPure h459 Try.f178 = some c459 := by kernel_rfl
theorem name459 : (Try.f178.name == "runtime.NumGoroutine") = false := by kernel_rfl
def h513 : Hint := ⟨.args, [], [0, 1, 4]⟩
theorem comp513 : compFn Try.prog inv isPure h513 Try.f198 = some c513 := by kernel_rfl
theorem name513 : (Try.f198.name == "runtime.NumGoroutine") = false := by kernel_rfl
def h530 : Hint := ⟨.pure, [], [0, 2]⟩
theorem comp530 : compFn Try.prog inv isPure h530 Try.f199 = some c530 := by kernel_rfl
theorem name530 : (Try.f199.name == "runtime.NumGoroutine") = false := by kernel_rfl
def h547 : Hint := ⟨.pure, [], [0, 1, 4, 5, 7, 8, 9, 16]⟩
theorem comp547 : compFn Try.prog inv isPure h547 Try.f216 = some c547 := by kernel_rfl
theorem name547 : (Try.f216.name == "runtime.NumGoroutine") = false := by kernel_rfl
def h550 : Hint := ⟨.args, [], [0, 2, 3, 13, 53]⟩
theorem comp550 : compFn Try.prog inv isPure h550 Try.f222 = some c550 := by kernel_rfl
theorem name550 : (Try.f222.name == "runtime.NumGoroutine") = false := by kernel_rfl
theorem tab_ok : ∀ f D, tab f = some D → DefOk Try.prog inv isPure rho f D := by
  intro f D h
  unfold tab at h
  split at h
  · cases h; exact ⟨Try.f4, h28, Try.func4, name28, comp28⟩
  · cases h; exact ⟨Try.f34, h115, Try.func34, name115, comp115⟩
  · cases h; exact ⟨Try.f33, h136, Try.func33, name136, comp136⟩
  · cases h; exact ⟨Try.f32, h137, Try.func32, name137, comp137⟩
  · cases h; exact ⟨Try.f29, h141, Try.func29, name141, comp141⟩
  · cases h; exact ⟨Try.f28, h142, Try.func28, name142, comp142⟩
  · cases h; exact ⟨Try.f26, h169, Try.func26, name169, comp169⟩
  · cases h; exact ⟨Try.f27, h170, Try.func27, name170, comp170⟩
  · cases h; exact ⟨Try.f30, h171, Try.func30, name171, comp171⟩
  · cases h; exact ⟨Try.f31, h172, Try.func31, name172, comp172⟩
  · cases h; exact ⟨Try.f35, h173, Try.func35, name173, comp173⟩
  · cases h; exact ⟨Try.f61, h234, Try.func61, name234, comp234⟩
  · cases h; exact ⟨Try.f113, h295, Try.func113, name295, comp295⟩
  · cases h; exact ⟨Try.f117, h304, Try.func117, name304, comp304⟩
  · cases h; exact ⟨Try.f118, h305, Try.func118, name305, comp305⟩
  · cases h; exact ⟨Try.f115, h306, Try.func115, name306, comp306⟩
  · cases h; exact ⟨Try.f100, h315, Try.func100, name315, comp315⟩
  · cases h; exact ⟨Try.f173, h342, Try.func173, name342, comp342⟩
  · cases h; exact ⟨Try.f125, h345, Try.func125, name345, comp345⟩
  · cases h; exact ⟨Try.f126, h346, Try.func126, name346, comp346⟩
  · cases h; exact ⟨Try.f114, h359, Try.func114, name359, comp359⟩
  · cases h; exact ⟨Try.f123, h362, Try.func123, name362, comp362⟩
  · cases h; exact ⟨Try.f122, h363, Try.func122, name363, comp363⟩
  · cases h; exact ⟨Try.f121, h368, Try.func121, name368, comp368⟩
  · cases h; exact ⟨Try.f124, h393, Try.func124, name393, comp393⟩
  · cases h; exact ⟨Try.f127, h394, Try.func127, name394, comp394⟩
  · cases h; exact ⟨Try.f128, h395, Try.func128, name395, comp395⟩
  · cases h; exact ⟨Try.f156, h445, Try.func156, name445, comp445⟩
  · cases h; exact ⟨Try.f157, h446, Try.func157, name446, comp446⟩
  · cases h; exact ⟨Try.f166, h449, Try.func166, name449, comp449⟩
  · cases h; exact ⟨Try.f174, h456, Try.func174, name456, comp456⟩
  · cases h; exact ⟨Try.f178, h459, Try.func178, name459, comp459⟩
  · cases h; exact ⟨Try.f198, h513, Try.func198, name513, comp513⟩
  · cases h; exact ⟨Try.f199, h530, Try.func199, name530, comp530⟩
  · cases h; exact ⟨Try.f216, h547, Try.func216, name547, comp547⟩
  · cases h; exact ⟨Try.f222, h550, Try.func222, name550, comp550⟩
  · cases h
end Fb
