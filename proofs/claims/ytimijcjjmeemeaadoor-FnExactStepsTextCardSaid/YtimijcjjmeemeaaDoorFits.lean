/- Each function of the law is compiled by the checker to its text in the small language. -/
import Derived.Test.YtimijcjjmeemeaaDoorRow3
import Derived.Test.YtimijcjjmeemeaaDoorTab
import Derived.Test.YtimijcjjmeemeaaDoorRows
import Derived.KernelRfl
import Derived.Test.YtimijcjjmeemeaaDoorShelf
import Derived.Test.YtimijcjjmeemeaaDoorW271
import Derived.Test.YtimijcjjmeemeaaDoorSoundZ
import Derived.Test.YtimijcjjmeemeaaDoorUse2
set_option linter.unusedVariables false
set_option linter.unusedSimpArgs false
namespace Fb
open Go Go.Proofs

def inv : FuncId → Option Nat := fun f => match f with
  | 3 => some 54
  | 15 => some 79
  | 19 => some 81
  | 25 => some 83
  | 5 => some 157
  | 7 => some 159
  | 9 => some 161
  | 21 => some 163
  | 31 => some 166
  | 12 => some 213
  | 6 => some 270
  | 8 => some 271
  | 55 => some 295
  | 18 => some 296
  | 45 => some 304
  | 34 => some 308
  | 51 => some 309
  | 38 => some 311
  | 43 => some 313
  | 42 => some 379
  | 20 => some 382
  | 16 => some 386
  | 40 => some 387
  | 50 => some 390
  | 17 => some 463
  | 23 => some 465
  | 54 => some 488
  | 39 => some 489
  | 57 => some 522
  | 35 => some 524
  | 63 => some 529
  | 36 => some 552
  | 37 => some 553
  | 52 => some 572
  | 53 => some 573
  | _ => none
def rho : Nat → FuncId := fun n => match n with
  | 54 => 3
  | 79 => 15
  | 81 => 19
  | 83 => 25
  | 157 => 5
  | 159 => 7
  | 161 => 9
  | 163 => 21
  | 166 => 31
  | 213 => 12
  | 270 => 6
  | 271 => 8
  | 295 => 55
  | 296 => 18
  | 304 => 45
  | 308 => 34
  | 309 => 51
  | 311 => 38
  | 313 => 43
  | 379 => 42
  | 382 => 20
  | 386 => 16
  | 387 => 40
  | 390 => 50
  | 463 => 17
  | 465 => 23
  | 488 => 54
  | 489 => 39
  | 522 => 57
  | 524 => 35
  | 529 => 63
  | 552 => 36
  | 553 => 37
  | 572 => 52
  | 573 => 53
  | _ => 0
def isPure : Nat → Bool := fun n => !([522] : List Nat).contains n
theorem inv_rho : ∀ f i, inv f = some i → rho i = f := by
  intro f i h
  unfold inv at h
  split at h <;> first | (cases h; rfl) | cases h
def h54 : Hint := ⟨.pure, [], [0, 2, 3, 4, 5, 6, 7, 12, 22, 27, 33], some 0⟩
theorem comp54 : compFn Tryd.prog inv isPure h54 Tryd.f3 = some c54 := by kernel_rfl
theorem name54 : (Tryd.f3.name == "runtime.NumGoroutine") = false := by kernel_rfl
def h79 : Hint := ⟨.pure, [2], [0, 1, 2, 4, 10], some 0⟩
theorem comp79 : compFn Tryd.prog inv isPure h79 Tryd.f15 = some c79 := by kernel_rfl
theorem name79 : (Tryd.f15.name == "runtime.NumGoroutine") = false := by kernel_rfl
def h81 : Hint := ⟨.pure, [5, 4, 2], [0, 1, 2, 4, 5], some 0⟩
theorem comp81 : compFn Tryd.prog inv isPure h81 Tryd.f19 = some c81 := by kernel_rfl
theorem name81 : (Tryd.f19.name == "runtime.NumGoroutine") = false := by kernel_rfl
def h83 : Hint := ⟨.pure, [3, 2], [0, 1, 2, 3, 4, 9, 14, 19, 24, 30], some 0⟩
theorem comp83 : compFn Tryd.prog inv isPure h83 Tryd.f25 = some c83 := by kernel_rfl
theorem name83 : (Tryd.f25.name == "runtime.NumGoroutine") = false := by kernel_rfl
def h157 : Hint := ⟨.pure, [], [0, 1, 4, 5, 11, 15, 25], some 0⟩
theorem comp157 : compFn Tryd.prog inv isPure h157 Tryd.f5 = some c157 := by kernel_rfl
theorem name157 : (Tryd.f5.name == "runtime.NumGoroutine") = false := by kernel_rfl
def h159 : Hint := ⟨.pure, [], [0, 1, 4, 5, 6, 7, 13, 24, 41], some 0⟩
theorem comp159 : compFn Tryd.prog inv isPure h159 Tryd.f7 = some c159 := by kernel_rfl
theorem name159 : (Tryd.f7.name == "runtime.NumGoroutine") = false := by kernel_rfl
def h161 : Hint := ⟨.pure, [], [0, 1, 4, 5, 6, 17, 21, 33], some 0⟩
theorem comp161 : compFn Tryd.prog inv isPure h161 Tryd.f9 = some c161 := by kernel_rfl
theorem name161 : (Tryd.f9.name == "runtime.NumGoroutine") = false := by kernel_rfl
def h163 : Hint := ⟨.pure, [4], [0, 2, 3, 4, 5, 6, 7, 8, 15], some 0⟩
theorem comp163 : compFn Tryd.prog inv isPure h163 Tryd.f21 = some c163 := by kernel_rfl
theorem name163 : (Tryd.f21.name == "runtime.NumGoroutine") = false := by kernel_rfl
def h166 : Hint := ⟨.pure, [3, 2], [0, 1, 2, 3, 4, 9, 14, 19, 24, 30], some 0⟩
theorem comp166 : compFn Tryd.prog inv isPure h166 Tryd.f31 = some c166 := by kernel_rfl
theorem name166 : (Tryd.f31.name == "runtime.NumGoroutine") = false := by kernel_rfl
def h213 : Hint := ⟨.pure, [], [0, 1, 4, 5, 10, 14, 26], some 0⟩
theorem comp213 : compFn Tryd.prog inv isPure h213 Tryd.f12 = some c213 := by kernel_rfl
theorem name213 : (Tryd.f12.name == "runtime.NumGoroutine") = false := by kernel_rfl
def h270 : Hint := ⟨.pure, [], [0, 2, 5], some 0⟩
theorem comp270 : compFn Tryd.prog inv isPure h270 Tryd.f6 = some c270 := by kernel_rfl
theorem name270 : (Tryd.f6.name == "runtime.NumGoroutine") = false := by kernel_rfl
def h295 : Hint := ⟨.pure, [], [0, 1, 2, 6], some 0⟩
theorem comp295 : compFn Tryd.prog inv isPure h295 Tryd.f55 = some c295 := by kernel_rfl
theorem name295 : (Tryd.f55.name == "runtime.NumGoroutine") = false := by kernel_rfl
def h296 : Hint := ⟨.pure, [], [0, 2, 5, 8], some 0⟩
theorem comp296 : compFn Tryd.prog inv isPure h296 Tryd.f18 = some c296 := by kernel_rfl
theorem name296 : (Tryd.f18.name == "runtime.NumGoroutine") = false := by kernel_rfl
def h304 : Hint := ⟨.pure, [], [0, 1, 2, 6], some 0⟩
theorem comp304 : compFn Tryd.prog inv isPure h304 Tryd.f45 = some c304 := by kernel_rfl
theorem name304 : (Tryd.f45.name == "runtime.NumGoroutine") = false := by kernel_rfl
def h308 : Hint := ⟨.pure, [], [0, 1, 4, 10], some 0⟩
theorem comp308 : compFn Tryd.prog inv isPure h308 Tryd.f34 = some c308 := by kernel_rfl
theorem name308 : (Tryd.f34.name == "runtime.NumGoroutine") = false := by kernel_rfl
def h309 : Hint := ⟨.pure, [], [0, 2], some 0⟩
theorem comp309 : compFn Tryd.prog inv isPure h309 Tryd.f51 = some c309 := by kernel_rfl
theorem name309 : (Tryd.f51.name == "runtime.NumGoroutine") = false := by kernel_rfl
def h311 : Hint := ⟨.pure, [], [0, 1, 4, 5, 6, 7, 13, 24, 40], some 0⟩
theorem comp311 : compFn Tryd.prog inv isPure h311 Tryd.f38 = some c311 := by kernel_rfl
theorem name311 : (Tryd.f38.name == "runtime.NumGoroutine") = false := by kernel_rfl
def h313 : Hint := ⟨.pure, [], [0, 1, 4, 5], some 0⟩
theorem comp313 : compFn Tryd.prog inv isPure h313 Tryd.f43 = some c313 := by kernel_rfl
theorem name313 : (Tryd.f43.name == "runtime.NumGoroutine") = false := by kernel_rfl
def h379 : Hint := ⟨.pure, [], [0, 2], some 0⟩
theorem comp379 : compFn Tryd.prog inv isPure h379 Tryd.f42 = some c379 := by kernel_rfl
theorem name379 : (Tryd.f42.name == "runtime.NumGoroutine") = false := by kernel_rfl
def h382 : Hint := ⟨.pure, [0], [0], some 0⟩
theorem comp382 : compFn Tryd.prog inv isPure h382 Tryd.f20 = some c382 := by kernel_rfl
theorem name382 : (Tryd.f20.name == "runtime.NumGoroutine") = false := by kernel_rfl
def h386 : Hint := ⟨.pure, [], [0, 2, 3, 7, 15], some 0⟩
theorem comp386 : compFn Tryd.prog inv isPure h386 Tryd.f16 = some c386 := by kernel_rfl
theorem name386 : (Tryd.f16.name == "runtime.NumGoroutine") = false := by kernel_rfl
def h387 : Hint := ⟨.pure, [6, 2], [0, 1, 2, 4, 5, 6, 7, 8, 10, 11, 12, 13, 44, 61, 62, 70, 76], some 0⟩
theorem comp387 : compFn Tryd.prog inv isPure h387 Tryd.f40 = some c387 := by kernel_rfl
theorem name387 : (Tryd.f40.name == "runtime.NumGoroutine") = false := by kernel_rfl
def h390 : Hint := ⟨.pure, [], [0, 1, 4, 5, 10, 14, 26], some 0⟩
theorem comp390 : compFn Tryd.prog inv isPure h390 Tryd.f50 = some c390 := by kernel_rfl
theorem name390 : (Tryd.f50.name == "runtime.NumGoroutine") = false := by kernel_rfl
def h463 : Hint := ⟨.pure, [5], [0, 2, 3, 4, 5, 6, 10, 18, 19, 23, 32, 57], some 0⟩
theorem comp463 : compFn Tryd.prog inv isPure h463 Tryd.f17 = some c463 := by kernel_rfl
theorem name463 : (Tryd.f17.name == "runtime.NumGoroutine") = false := by kernel_rfl
def h465 : Hint := ⟨.pure, [5, 1], [0, 1, 2, 3, 5, 12, 22, 37, 38, 39, 40], some 0⟩
theorem comp465 : compFn Tryd.prog inv isPure h465 Tryd.f23 = some c465 := by kernel_rfl
theorem name465 : (Tryd.f23.name == "runtime.NumGoroutine") = false := by kernel_rfl
def h488 : Hint := ⟨.pure, [3, 2, 1], [0, 1, 2, 3], some 0⟩
theorem comp488 : compFn Tryd.prog inv isPure h488 Tryd.f54 = some c488 := by kernel_rfl
theorem name488 : (Tryd.f54.name == "runtime.NumGoroutine") = false := by kernel_rfl
def h489 : Hint := ⟨.pure, [0], [0], some 0⟩
theorem comp489 : compFn Tryd.prog inv isPure h489 Tryd.f39 = some c489 := by kernel_rfl
theorem name489 : (Tryd.f39.name == "runtime.NumGoroutine") = false := by kernel_rfl
def h524 : Hint := ⟨.pure, [], [0, 1, 4, 5, 38, 54, 55, 65], some 0⟩
theorem comp524 : compFn Tryd.prog inv isPure h524 Tryd.f35 = some c524 := by kernel_rfl
theorem name524 : (Tryd.f35.name == "runtime.NumGoroutine") = false := by kernel_rfl
def h529 : Hint := ⟨.pure, [3, 2], [0, 1, 2, 3, 4, 9, 14], some 0⟩
theorem comp529 : compFn Tryd.prog inv isPure h529 Tryd.f63 = some c529 := by kernel_rfl
theorem name529 : (Tryd.f63.name == "runtime.NumGoroutine") = false := by kernel_rfl
def h552 : Hint := ⟨.pure, [], [0, 2, 4], some 0⟩
theorem comp552 : compFn Tryd.prog inv isPure h552 Tryd.f36 = some c552 := by kernel_rfl
theorem name552 : (Tryd.f36.name == "runtime.NumGoroutine") = false := by kernel_rfl
def h553 : Hint := ⟨.pure, [], [0, 2, 4], some 0⟩
theorem comp553 : compFn Tryd.prog inv isPure h553 Tryd.f37 = some c553 := by kernel_rfl
theorem name553 : (Tryd.f37.name == "runtime.NumGoroutine") = false := by kernel_rfl
def h572 : Hint := ⟨.pure, [], [0, 2], some 0⟩
theorem comp572 : compFn Tryd.prog inv isPure h572 Tryd.f52 = some c572 := by kernel_rfl
theorem name572 : (Tryd.f52.name == "runtime.NumGoroutine") = false := by kernel_rfl
def h573 : Hint := ⟨.pure, [], [0, 2, 3, 7, 27, 43], some 0⟩
theorem comp573 : compFn Tryd.prog inv isPure h573 Tryd.f53 = some c573 := by kernel_rfl
theorem name573 : (Tryd.f53.name == "runtime.NumGoroutine") = false := by kernel_rfl
theorem callable271 : Callable Tryd.prog (rho 271) := ⟨Tryd.f8, Tryd.func8, by kernel_rfl, by kernel_rfl⟩
theorem callable522 : Callable Tryd.prog (rho 522) := ⟨Tryd.f57, Tryd.func57, by kernel_rfl, by kernel_rfl⟩
theorem def522 {W : World} (ht : Lib.TabIs Tryd.prog W "internal/strconv.uint64pow10" .u64 Lib.pow10Tab) : DefOk Tryd.prog inv isPure rho (glob Tryd.prog W (some 0)) 522 (.ext .pure ext522) :=
  ext522_ok callable522 fun w hs n h0 h1 => Any.strconv_FormatInt_10 Tryd.laysM173 n h0 h1 w (glob_var hs (g := 2) (by kernel_rfl) (by decide +kernel) ht)
theorem tab_ok {W : World} (ht : Lib.TabIs Tryd.prog W "internal/strconv.uint64pow10" .u64 Lib.pow10Tab) : ∀ f D, tab f = some D → DefOk Tryd.prog inv isPure rho (glob Tryd.prog W (some 0)) f D := by
  intro f D h
  unfold tab at h
  split at h
  · cases h; exact ⟨Tryd.f3, h54, fun _ h => h, Tryd.func3, name54, comp54⟩
  · cases h; exact ⟨Tryd.f15, h79, fun _ h => h, Tryd.func15, name79, comp79⟩
  · cases h; exact ⟨Tryd.f19, h81, fun _ h => h, Tryd.func19, name81, comp81⟩
  · cases h; exact ⟨Tryd.f25, h83, fun _ h => h, Tryd.func25, name83, comp83⟩
  · cases h; exact ⟨Tryd.f5, h157, fun _ h => h, Tryd.func5, name157, comp157⟩
  · cases h; exact ⟨Tryd.f7, h159, fun _ h => h, Tryd.func7, name159, comp159⟩
  · cases h; exact ⟨Tryd.f9, h161, fun _ h => h, Tryd.func9, name161, comp161⟩
  · cases h; exact ⟨Tryd.f21, h163, fun _ h => h, Tryd.func21, name163, comp163⟩
  · cases h; exact ⟨Tryd.f31, h166, fun _ h => h, Tryd.func31, name166, comp166⟩
  · cases h; exact ⟨Tryd.f12, h213, fun _ h => h, Tryd.func12, name213, comp213⟩
  · cases h; exact ⟨Tryd.f6, h270, fun _ h => h, Tryd.func6, name270, comp270⟩
  · cases h; exact ⟨Tryd.f55, h295, fun _ h => h, Tryd.func55, name295, comp295⟩
  · cases h; exact ⟨Tryd.f18, h296, fun _ h => h, Tryd.func18, name296, comp296⟩
  · cases h; exact ⟨Tryd.f45, h304, fun _ h => h, Tryd.func45, name304, comp304⟩
  · cases h; exact ⟨Tryd.f34, h308, fun _ h => h, Tryd.func34, name308, comp308⟩
  · cases h; exact ⟨Tryd.f51, h309, fun _ h => h, Tryd.func51, name309, comp309⟩
  · cases h; exact ⟨Tryd.f38, h311, fun _ h => h, Tryd.func38, name311, comp311⟩
  · cases h; exact ⟨Tryd.f43, h313, fun _ h => h, Tryd.func43, name313, comp313⟩
  · cases h; exact ⟨Tryd.f42, h379, fun _ h => h, Tryd.func42, name379, comp379⟩
  · cases h; exact ⟨Tryd.f20, h382, fun _ h => h, Tryd.func20, name382, comp382⟩
  · cases h; exact ⟨Tryd.f16, h386, fun _ h => h, Tryd.func16, name386, comp386⟩
  · cases h; exact ⟨Tryd.f40, h387, fun _ h => h, Tryd.func40, name387, comp387⟩
  · cases h; exact ⟨Tryd.f50, h390, fun _ h => h, Tryd.func50, name390, comp390⟩
  · cases h; exact ⟨Tryd.f17, h463, fun _ h => h, Tryd.func17, name463, comp463⟩
  · cases h; exact ⟨Tryd.f23, h465, fun _ h => h, Tryd.func23, name465, comp465⟩
  · cases h; exact ⟨Tryd.f54, h488, fun _ h => h, Tryd.func54, name488, comp488⟩
  · cases h; exact ⟨Tryd.f39, h489, fun _ h => h, Tryd.func39, name489, comp489⟩
  · cases h; exact def522 ht
  · cases h; exact ⟨Tryd.f35, h524, fun _ h => h, Tryd.func35, name524, comp524⟩
  · cases h; exact ⟨Tryd.f63, h529, fun _ h => h, Tryd.func63, name529, comp529⟩
  · cases h; exact ⟨Tryd.f36, h552, fun _ h => h, Tryd.func36, name552, comp552⟩
  · cases h; exact ⟨Tryd.f37, h553, fun _ h => h, Tryd.func37, name553, comp553⟩
  · cases h; exact ⟨Tryd.f52, h572, fun _ h => h, Tryd.func52, name572, comp572⟩
  · cases h; exact ⟨Tryd.f53, h573, fun _ h => h, Tryd.func53, name573, comp573⟩
  · cases h
theorem mix0 : Tryd.prog.follows .mixedOrders = true := by kernel_rfl
theorem def271 {W : World} (ht : Lib.TabIs Tryd.prog W "internal/strconv.uint64pow10" .u64 Lib.pow10Tab) : DefOk Tryd.prog inv isPure rho (glob Tryd.prog W (some 0)) 271 (.ext .pure (ext271 tab)) :=
  ext271_ok mix0 inv_rho (tab_ok ht) callable271 (fun x w0 S h => walk271_no x w0 S h) fun p n cap t w0 S h1 h2 h3 h4 h5 => walk271 p n cap t w0 S h1 h2 h3 h4 h5
theorem tab2_ok {W : World} (ht : Lib.TabIs Tryd.prog W "internal/strconv.uint64pow10" .u64 Lib.pow10Tab) : ∀ f D, tab2 f = some D → DefOk Tryd.prog inv isPure rho (glob Tryd.prog W (some 0)) f D := by
  intro f D h
  unfold tab2 at h
  split at h
  · rename_i e
    subst e
    cases h
    exact def271 ht
  · exact tab_ok ht f D h
end Fb
