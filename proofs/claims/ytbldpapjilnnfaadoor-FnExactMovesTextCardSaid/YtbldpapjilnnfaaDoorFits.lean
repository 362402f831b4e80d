/- Each function of the law is compiled by the checker to its text in the small language. -/
import Derived.Test.YtbldpapjilnnfaaDoorRow3
import Derived.Test.YtbldpapjilnnfaaDoorTab
import Derived.Test.YtbldpapjilnnfaaDoorRows
import Derived.KernelRfl
import Derived.Test.YtbldpapjilnnfaaDoorShelf
set_option linter.unusedVariables false
set_option linter.unusedSimpArgs false
namespace Fb
open Go Go.Proofs

def inv : FuncId → Option Nat := fun f => match f with
  | 3 => some 36
  | 4 => some 68
  | 6 => some 70
  | 8 => some 72
  | 7 => some 154
  | 24 => some 188
  | 5 => some 197
  | 17 => some 266
  | 14 => some 295
  | 11 => some 296
  | 12 => some 297
  | 13 => some 298
  | 18 => some 304
  | 15 => some 379
  | 16 => some 380
  | 9 => some 414
  | 10 => some 415
  | 20 => some 522
  | 19 => some 536
  | 25 => some 552
  | _ => none
def rho : Nat → FuncId := fun n => match n with
  | 36 => 3
  | 68 => 4
  | 70 => 6
  | 72 => 8
  | 154 => 7
  | 188 => 24
  | 197 => 5
  | 266 => 17
  | 295 => 14
  | 296 => 11
  | 297 => 12
  | 298 => 13
  | 304 => 18
  | 379 => 15
  | 380 => 16
  | 414 => 9
  | 415 => 10
  | 522 => 20
  | 536 => 19
  | 552 => 25
  | _ => 0
def isPure : Nat → Bool := fun n => !([380, 522] : List Nat).contains n
theorem inv_rho : ∀ f i, inv f = some i → rho i = f := by
  intro f i h
  unfold inv at h
  split at h <;> first | (cases h; rfl) | cases h
def h36 : Hint := ⟨.pure, [], [0, 2, 3, 4, 5, 6, 7, 12, 22, 27, 33]⟩
theorem comp36 : compFn Tryd.prog inv isPure h36 Tryd.f3 = some c36 := by kernel_rfl
theorem name36 : (Tryd.f3.name == "runtime.NumGoroutine") = false := by kernel_rfl
def h68 : Hint := ⟨.pure, [], [0, 1, 4, 10]⟩
theorem comp68 : compFn Tryd.prog inv isPure h68 Tryd.f4 = some c68 := by kernel_rfl
theorem name68 : (Tryd.f4.name == "runtime.NumGoroutine") = false := by kernel_rfl
def h70 : Hint := ⟨.pure, [], [0, 1, 4, 5, 6, 7, 13, 24, 40]⟩
theorem comp70 : compFn Tryd.prog inv isPure h70 Tryd.f6 = some c70 := by kernel_rfl
theorem name70 : (Tryd.f6.name == "runtime.NumGoroutine") = false := by kernel_rfl
def h72 : Hint := ⟨.pure, [], [0, 1, 4, 5]⟩
theorem comp72 : compFn Tryd.prog inv isPure h72 Tryd.f8 = some c72 := by kernel_rfl
theorem name72 : (Tryd.f8.name == "runtime.NumGoroutine") = false := by kernel_rfl
def h154 : Hint := ⟨.pure, [5], [0, 2, 3, 5, 7, 8, 9, 10, 24]⟩
theorem comp154 : compFn Tryd.prog inv isPure h154 Tryd.f7 = some c154 := by kernel_rfl
theorem name154 : (Tryd.f7.name == "runtime.NumGoroutine") = false := by kernel_rfl
def h188 : Hint := ⟨.pure, [3, 2], [0, 1, 2, 3, 4, 9, 14]⟩
theorem comp188 : compFn Tryd.prog inv isPure h188 Tryd.f24 = some c188 := by kernel_rfl
theorem name188 : (Tryd.f24.name == "runtime.NumGoroutine") = false := by kernel_rfl
def h197 : Hint := ⟨.pure, [], [0, 2, 5]⟩
theorem comp197 : compFn Tryd.prog inv isPure h197 Tryd.f5 = some c197 := by kernel_rfl
theorem name197 : (Tryd.f5.name == "runtime.NumGoroutine") = false := by kernel_rfl
def h266 : Hint := ⟨.pure, [], [0, 1, 4, 5, 10, 14, 26]⟩
theorem comp266 : compFn Tryd.prog inv isPure h266 Tryd.f17 = some c266 := by kernel_rfl
theorem name266 : (Tryd.f17.name == "runtime.NumGoroutine") = false := by kernel_rfl
def h295 : Hint := ⟨.pure, [], [0, 1, 2, 6]⟩
theorem comp295 : compFn Tryd.prog inv isPure h295 Tryd.f14 = some c295 := by kernel_rfl
theorem name295 : (Tryd.f14.name == "runtime.NumGoroutine") = false := by kernel_rfl
def h296 : Hint := ⟨.pure, [], [0, 2, 5, 8]⟩
theorem comp296 : compFn Tryd.prog inv isPure h296 Tryd.f11 = some c296 := by kernel_rfl
theorem name296 : (Tryd.f11.name == "runtime.NumGoroutine") = false := by kernel_rfl
def h297 : Hint := ⟨.pure, [3, 2, 1], [0, 1, 2, 3]⟩
theorem comp297 : compFn Tryd.prog inv isPure h297 Tryd.f12 = some c297 := by kernel_rfl
theorem name297 : (Tryd.f12.name == "runtime.NumGoroutine") = false := by kernel_rfl
def h298 : Hint := ⟨.pure, [0], [0]⟩
theorem comp298 : compFn Tryd.prog inv isPure h298 Tryd.f13 = some c298 := by kernel_rfl
theorem name298 : (Tryd.f13.name == "runtime.NumGoroutine") = false := by kernel_rfl
def h304 : Hint := ⟨.pure, [], [0, 1, 2, 6]⟩
theorem comp304 : compFn Tryd.prog inv isPure h304 Tryd.f18 = some c304 := by kernel_rfl
theorem name304 : (Tryd.f18.name == "runtime.NumGoroutine") = false := by kernel_rfl
def h379 : Hint := ⟨.pure, [], [0, 2]⟩
theorem comp379 : compFn Tryd.prog inv isPure h379 Tryd.f15 = some c379 := by kernel_rfl
theorem name379 : (Tryd.f15.name == "runtime.NumGoroutine") = false := by kernel_rfl
def h414 : Hint := ⟨.pure, [], [0, 2, 3, 7, 27]⟩
theorem comp414 : compFn Tryd.prog inv isPure h414 Tryd.f9 = some c414 := by kernel_rfl
theorem name414 : (Tryd.f9.name == "runtime.NumGoroutine") = false := by kernel_rfl
def h415 : Hint := ⟨.pure, [], [0, 2, 3, 4, 8, 12]⟩
theorem comp415 : compFn Tryd.prog inv isPure h415 Tryd.f10 = some c415 := by kernel_rfl
theorem name415 : (Tryd.f10.name == "runtime.NumGoroutine") = false := by kernel_rfl
def h536 : Hint := ⟨.pure, [], [0, 2, 4]⟩
theorem comp536 : compFn Tryd.prog inv isPure h536 Tryd.f19 = some c536 := by kernel_rfl
theorem name536 : (Tryd.f19.name == "runtime.NumGoroutine") = false := by kernel_rfl
def h552 : Hint := ⟨.pure, [], [0, 2, 4]⟩
theorem comp552 : compFn Tryd.prog inv isPure h552 Tryd.f25 = some c552 := by kernel_rfl
theorem name552 : (Tryd.f25.name == "runtime.NumGoroutine") = false := by kernel_rfl
theorem callable380 : Callable Tryd.prog (rho 380) := ⟨Tryd.f16, Tryd.func16, by kernel_rfl, by kernel_rfl⟩
theorem def380 {W : World}  : DefOk Tryd.prog inv isPure rho (glob Tryd.prog W) 380 (.ext .pure ext380) :=
  ext380_ok callable380 (fun w a c p => Any.strings_Join_none Tryd.lays156 Tryd.Builder_Extra_156 a c p w) (fun w bk o c xs p h1 h2 h3 h4 h5 => Any.strings_Join Tryd.lays156 Tryd.Builder_Extra_156 bk o c xs p w h1 h2 h3 h4 h5)
theorem callable522 : Callable Tryd.prog (rho 522) := ⟨Tryd.f20, Tryd.func20, by kernel_rfl, by kernel_rfl⟩
theorem def522 {W : World} (ht : Lib.TabIs Tryd.prog W "internal/strconv.uint64pow10" .u64 Lib.pow10Tab) : DefOk Tryd.prog inv isPure rho (glob Tryd.prog W) 522 (.ext .pure ext522) :=
  ext522_ok callable522 fun w hs n h0 h1 => Any.strconv_FormatInt_10 Tryd.laysM173 n h0 h1 w (glob_var hs (g := 0) (by kernel_rfl) (by decide +kernel) ht)
theorem tab_ok {W : World} (ht : Lib.TabIs Tryd.prog W "internal/strconv.uint64pow10" .u64 Lib.pow10Tab) : ∀ f D, tab f = some D → DefOk Tryd.prog inv isPure rho (glob Tryd.prog W) f D := by
  intro f D h
  unfold tab at h
  split at h
  · cases h; exact ⟨Tryd.f3, h36, Tryd.func3, name36, comp36⟩
  · cases h; exact ⟨Tryd.f4, h68, Tryd.func4, name68, comp68⟩
  · cases h; exact ⟨Tryd.f6, h70, Tryd.func6, name70, comp70⟩
  · cases h; exact ⟨Tryd.f8, h72, Tryd.func8, name72, comp72⟩
  · cases h; exact ⟨Tryd.f7, h154, Tryd.func7, name154, comp154⟩
  · cases h; exact ⟨Tryd.f24, h188, Tryd.func24, name188, comp188⟩
  · cases h; exact ⟨Tryd.f5, h197, Tryd.func5, name197, comp197⟩
  · cases h; exact ⟨Tryd.f17, h266, Tryd.func17, name266, comp266⟩
  · cases h; exact ⟨Tryd.f14, h295, Tryd.func14, name295, comp295⟩
  · cases h; exact ⟨Tryd.f11, h296, Tryd.func11, name296, comp296⟩
  · cases h; exact ⟨Tryd.f12, h297, Tryd.func12, name297, comp297⟩
  · cases h; exact ⟨Tryd.f13, h298, Tryd.func13, name298, comp298⟩
  · cases h; exact ⟨Tryd.f18, h304, Tryd.func18, name304, comp304⟩
  · cases h; exact ⟨Tryd.f15, h379, Tryd.func15, name379, comp379⟩
  · cases h; exact def380 
  · cases h; exact ⟨Tryd.f9, h414, Tryd.func9, name414, comp414⟩
  · cases h; exact ⟨Tryd.f10, h415, Tryd.func10, name415, comp415⟩
  · cases h; exact def522 ht
  · cases h; exact ⟨Tryd.f19, h536, Tryd.func19, name536, comp536⟩
  · cases h; exact ⟨Tryd.f25, h552, Tryd.func25, name552, comp552⟩
  · cases h
end Fb
