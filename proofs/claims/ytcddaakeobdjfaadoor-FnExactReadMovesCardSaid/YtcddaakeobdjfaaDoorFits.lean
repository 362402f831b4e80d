/- Each function of the law is compiled by the checker to its text in the small language. -/
import Derived.Test.YtcddaakeobdjfaaDoorRow3
import Derived.Test.YtcddaakeobdjfaaDoorTab
import Derived.Test.YtcddaakeobdjfaaDoorRows
import Derived.KernelRfl
import Derived.Test.YtcddaakeobdjfaaDoorShelf
set_option linter.unusedVariables false
set_option linter.unusedSimpArgs false
namespace Fb
open Go Go.Proofs

def inv : FuncId → Option Nat := fun f => match f with
  | 3 => some 58
  | 7 => some 153
  | 26 => some 188
  | 8 => some 266
  | 9 => some 267
  | 10 => some 268
  | 6 => some 288
  | 47 => some 295
  | 23 => some 376
  | 24 => some 377
  | 25 => some 378
  | 48 => some 379
  | 21 => some 481
  | 22 => some 482
  | 39 => some 484
  | 40 => some 485
  | 46 => some 521
  | 66 => some 522
  | _ => none
def rho : Nat → FuncId := fun n => match n with
  | 58 => 3
  | 153 => 7
  | 188 => 26
  | 266 => 8
  | 267 => 9
  | 268 => 10
  | 288 => 6
  | 295 => 47
  | 376 => 23
  | 377 => 24
  | 378 => 25
  | 379 => 48
  | 481 => 21
  | 482 => 22
  | 484 => 39
  | 485 => 40
  | 521 => 46
  | 522 => 66
  | _ => 0
def isPure : Nat → Bool := fun n => !([267, 377, 485, 521, 522] : List Nat).contains n
theorem inv_rho : ∀ f i, inv f = some i → rho i = f := by
  intro f i h
  unfold inv at h
  split at h <;> first | (cases h; rfl) | cases h
def h58 : Hint := ⟨.pure, [], [0, 2, 3, 4, 5, 6, 7, 8, 9, 10, 13, 32, 40, 43, 57, 62, 65]⟩
theorem comp58 : compFn Tryd.prog inv isPure h58 Tryd.f3 = some c58 := by kernel_rfl
theorem name58 : (Tryd.f3.name == "runtime.NumGoroutine") = false := by kernel_rfl
def h153 : Hint := ⟨.pure, [], [0, 2, 3, 4, 6, 7, 8, 9, 10, 11, 12, 13, 16, 17, 18, 19, 47]⟩
theorem comp153 : compFn Tryd.prog inv isPure h153 Tryd.f7 = some c153 := by kernel_rfl
theorem name153 : (Tryd.f7.name == "runtime.NumGoroutine") = false := by kernel_rfl
def h188 : Hint := ⟨.pure, [3, 2], [0, 1, 2, 3, 4, 9, 14]⟩
theorem comp188 : compFn Tryd.prog inv isPure h188 Tryd.f26 = some c188 := by kernel_rfl
theorem name188 : (Tryd.f26.name == "runtime.NumGoroutine") = false := by kernel_rfl
def h266 : Hint := ⟨.pure, [], [0, 1, 4, 5, 10, 14, 26]⟩
theorem comp266 : compFn Tryd.prog inv isPure h266 Tryd.f8 = some c266 := by kernel_rfl
theorem name266 : (Tryd.f8.name == "runtime.NumGoroutine") = false := by kernel_rfl
def h267 : Hint := ⟨.args, [], [0, 1, 4, 5, 9]⟩
theorem comp267 : compFn Tryd.prog inv isPure h267 Tryd.f9 = some c267 := by kernel_rfl
theorem name267 : (Tryd.f9.name == "runtime.NumGoroutine") = false := by kernel_rfl
def h268 : Hint := ⟨.pure, [], [0, 1, 4, 5, 9, 19, 29]⟩
theorem comp268 : compFn Tryd.prog inv isPure h268 Tryd.f10 = some c268 := by kernel_rfl
theorem name268 : (Tryd.f10.name == "runtime.NumGoroutine") = false := by kernel_rfl
def h288 : Hint := ⟨.pure, [], [0, 2, 3, 4, 5, 6, 7, 8, 9, 10, 11, 14, 21, 31, 52]⟩
theorem comp288 : compFn Tryd.prog inv isPure h288 Tryd.f6 = some c288 := by kernel_rfl
theorem name288 : (Tryd.f6.name == "runtime.NumGoroutine") = false := by kernel_rfl
def h295 : Hint := ⟨.pure, [], [0, 1, 2, 6]⟩
theorem comp295 : compFn Tryd.prog inv isPure h295 Tryd.f47 = some c295 := by kernel_rfl
theorem name295 : (Tryd.f47.name == "runtime.NumGoroutine") = false := by kernel_rfl
def h376 : Hint := ⟨.pure, [], [0, 2, 4]⟩
theorem comp376 : compFn Tryd.prog inv isPure h376 Tryd.f23 = some c376 := by kernel_rfl
theorem name376 : (Tryd.f23.name == "runtime.NumGoroutine") = false := by kernel_rfl
def h378 : Hint := ⟨.pure, [], [0, 1, 2, 6, 7, 8, 9]⟩
theorem comp378 : compFn Tryd.prog inv isPure h378 Tryd.f25 = some c378 := by kernel_rfl
theorem name378 : (Tryd.f25.name == "runtime.NumGoroutine") = false := by kernel_rfl
def h379 : Hint := ⟨.pure, [], [0, 2]⟩
theorem comp379 : compFn Tryd.prog inv isPure h379 Tryd.f48 = some c379 := by kernel_rfl
theorem name379 : (Tryd.f48.name == "runtime.NumGoroutine") = false := by kernel_rfl
def h481 : Hint := ⟨.pure, [], [0, 1, 4, 5, 6, 7, 12, 19]⟩
theorem comp481 : compFn Tryd.prog inv isPure h481 Tryd.f21 = some c481 := by kernel_rfl
theorem name481 : (Tryd.f21.name == "runtime.NumGoroutine") = false := by kernel_rfl
def h482 : Hint := ⟨.pure, [], [0, 2, 3, 4, 5, 6, 15, 35, 36]⟩
theorem comp482 : compFn Tryd.prog inv isPure h482 Tryd.f22 = some c482 := by kernel_rfl
theorem name482 : (Tryd.f22.name == "runtime.NumGoroutine") = false := by kernel_rfl
def h484 : Hint := ⟨.pure, [], [0, 2, 3, 4, 5, 22, 26, 38]⟩
theorem comp484 : compFn Tryd.prog inv isPure h484 Tryd.f39 = some c484 := by kernel_rfl
theorem name484 : (Tryd.f39.name == "runtime.NumGoroutine") = false := by kernel_rfl
theorem callable377 : Callable Tryd.prog (rho 377) := ⟨Tryd.f24, Tryd.func24, by kernel_rfl, by kernel_rfl⟩
theorem def377 {W : World} (hm : ∃ m, W.cell? ⟨1, 0, none⟩ = some (.int .i64 m)) : DefOk Tryd.prog inv isPure rho (glob Tryd.prog W) 377 (.ext .pure ext377) :=
  ext377_ok callable377 fun w hs s p h => hm.elim fun m hm => Any.strings_Cut Tryd.lays145 s p m w h (glob_cell hs (by decide +kernel) hm)
theorem callable485 : Callable Tryd.prog (rho 485) := ⟨Tryd.f40, Tryd.func40, by kernel_rfl, by kernel_rfl⟩
theorem def485 {W : World} (hm : ∃ m, W.cell? ⟨1, 0, none⟩ = some (.int .i64 m)) : DefOk Tryd.prog inv isPure rho (glob Tryd.prog W) 485 (.ext .pure ext485) :=
  ext485_ok callable485 9 fun w hs s p h h1 => hm.elim fun m hm => Any.strings_Split Tryd.lays146 (by kernel_rfl) s p m w h (glob_cell hs (by decide +kernel) hm) h1
theorem callable521 : Callable Tryd.prog (rho 521) := ⟨Tryd.f46, Tryd.func46, by kernel_rfl, by kernel_rfl⟩
theorem def521 {W : World} (hy : ∃ tp p, W.var? Tryd.prog "strconv.ErrSyntax" = some #[.iface tp p]) (hr : ∃ tp p, W.var? Tryd.prog "strconv.ErrRange" = some #[.iface tp p]) : DefOk Tryd.prog inv isPure rho (glob Tryd.prog W) 521 (.ext .pure ext521) :=
  ext521_ok callable521
    (fun w hs s v h1 h2 => (Any.strconv_ParseInt_10_at64_ok Tryd.laysC174 s (by omega) v h2 w).mono fun e w' ⟨he, hw⟩ => ⟨he, hw.elim (fun h => h ▸ Go.RowKit.Below.refl _ _) fun ⟨t, h⟩ => h ▸ below_bytes w _ t⟩)
    (fun w hs s h1 h2 => hy.elim fun tp hy => hy.elim fun p hy => (Any.strconv_ParseInt_10_at64_syntax_var Tryd.laysC174 s h1 h2 tp p w (glob_var hs (g := 2) (by kernel_rfl) (by decide +kernel) hy)).mono fun e w' ⟨N, he, _, _, hb⟩ => ⟨⟨_, _, he⟩, hb⟩)
    (fun w hs s h1 h2 => hr.elim fun tp hr => hr.elim fun p hr => (Any.strconv_ParseInt_10_at64_range_var Tryd.laysC174 s h1 h2 tp p w (glob_var hs (g := 3) (by kernel_rfl) (by decide +kernel) hr)).mono fun e w' ⟨N, he, _, _, hb⟩ => ⟨⟨_, _, he⟩, hb⟩)
theorem callable522 : Callable Tryd.prog (rho 522) := ⟨Tryd.f66, Tryd.func66, by kernel_rfl, by kernel_rfl⟩
theorem def522 {W : World} (ht : Lib.TabIs Tryd.prog W "internal/strconv.uint64pow10" .u64 Lib.pow10Tab) : DefOk Tryd.prog inv isPure rho (glob Tryd.prog W) 522 (.ext .pure ext522) :=
  ext522_ok callable522 fun w hs n h0 h1 => Any.strconv_FormatInt_10 Tryd.laysM173 n h0 h1 w (glob_var hs (g := 4) (by kernel_rfl) (by decide +kernel) ht)
theorem tab_ok {W : World} (hm : ∃ m, W.cell? ⟨1, 0, none⟩ = some (.int .i64 m)) (ht : Lib.TabIs Tryd.prog W "internal/strconv.uint64pow10" .u64 Lib.pow10Tab) (hy : ∃ tp p, W.var? Tryd.prog "strconv.ErrSyntax" = some #[.iface tp p]) (hr : ∃ tp p, W.var? Tryd.prog "strconv.ErrRange" = some #[.iface tp p]) : ∀ f D, tab f = some D → DefOk Tryd.prog inv isPure rho (glob Tryd.prog W) f D := by
  intro f D h
  unfold tab at h
  split at h
  · cases h; exact ⟨Tryd.f3, h58, Tryd.func3, name58, comp58⟩
  · cases h; exact ⟨Tryd.f7, h153, Tryd.func7, name153, comp153⟩
  · cases h; exact ⟨Tryd.f26, h188, Tryd.func26, name188, comp188⟩
  · cases h; exact ⟨Tryd.f8, h266, Tryd.func8, name266, comp266⟩
  · cases h; exact ⟨Tryd.f9, h267, Tryd.func9, name267, comp267⟩
  · cases h; exact ⟨Tryd.f10, h268, Tryd.func10, name268, comp268⟩
  · cases h; exact ⟨Tryd.f6, h288, Tryd.func6, name288, comp288⟩
  · cases h; exact ⟨Tryd.f47, h295, Tryd.func47, name295, comp295⟩
  · cases h; exact ⟨Tryd.f23, h376, Tryd.func23, name376, comp376⟩
  · cases h; exact def377 hm
  · cases h; exact ⟨Tryd.f25, h378, Tryd.func25, name378, comp378⟩
  · cases h; exact ⟨Tryd.f48, h379, Tryd.func48, name379, comp379⟩
  · cases h; exact ⟨Tryd.f21, h481, Tryd.func21, name481, comp481⟩
  · cases h; exact ⟨Tryd.f22, h482, Tryd.func22, name482, comp482⟩
  · cases h; exact ⟨Tryd.f39, h484, Tryd.func39, name484, comp484⟩
  · cases h; exact def485 hm
  · cases h; exact def521 hy hr
  · cases h; exact def522 ht
  · cases h
end Fb
