/- Each function of the law is compiled by the checker to its text in the small language. -/
import Derived.Test.YtimijcjjmeemeaaDoorRow3
import Derived.Test.YtimijcjjmeemeaaDoorTab
import Derived.Test.YtimijcjjmeemeaaDoorRows
import Derived.KernelRfl
import Derived.Test.YtimijcjjmeemeaaDoorShelf
import Derived.Test.YtimijcjjmeemeaaDoorW271
import Derived.Test.YtimijcjjmeemeaaDoorSoundZ
import Derived.Test.YtimijcjjmeemeaaDoorUse3
set_option linter.unusedVariables false
set_option linter.unusedSimpArgs false
namespace Fb
open Go Go.Proofs

def inv : FuncId → Option Nat := fun f => match f with
  | 4 => some 59
  | 21 => some 163
  | 31 => some 166
  | 13 => some 181
  | 12 => some 213
  | 14 => some 214
  | 8 => some 271
  | 10 => some 289
  | 11 => some 290
  | 55 => some 295
  | 45 => some 304
  | 51 => some 309
  | 49 => some 377
  | 48 => some 378
  | 42 => some 379
  | 16 => some 386
  | 40 => some 387
  | 50 => some 390
  | 32 => some 391
  | 33 => some 392
  | 23 => some 465
  | 26 => some 481
  | 27 => some 483
  | 28 => some 484
  | 29 => some 485
  | 30 => some 486
  | 61 => some 521
  | 57 => some 522
  | 35 => some 524
  | 63 => some 529
  | 44 => some 557
  | 47 => some 559
  | 52 => some 572
  | 53 => some 573
  | _ => none
def rho : Nat → FuncId := fun n => match n with
  | 59 => 4
  | 163 => 21
  | 166 => 31
  | 181 => 13
  | 213 => 12
  | 214 => 14
  | 271 => 8
  | 289 => 10
  | 290 => 11
  | 295 => 55
  | 304 => 45
  | 309 => 51
  | 377 => 49
  | 378 => 48
  | 379 => 42
  | 386 => 16
  | 387 => 40
  | 390 => 50
  | 391 => 32
  | 392 => 33
  | 465 => 23
  | 481 => 26
  | 483 => 27
  | 484 => 28
  | 485 => 29
  | 486 => 30
  | 521 => 61
  | 522 => 57
  | 524 => 35
  | 529 => 63
  | 557 => 44
  | 559 => 47
  | 572 => 52
  | 573 => 53
  | _ => 0
def isPure : Nat → Bool := fun n => !([181, 391, 483, 377, 485, 521, 522] : List Nat).contains n
theorem inv_rho : ∀ f i, inv f = some i → rho i = f := by
  intro f i h
  unfold inv at h
  split at h <;> first | (cases h; rfl) | cases h
def h59 : Hint := ⟨.pure, [], [0, 2, 3, 4, 5, 6, 7, 8, 9, 10, 13, 32, 40, 43, 57, 62, 65], some 0⟩
theorem comp59 : compFn Tryd.prog inv isPure h59 Tryd.f4 = some c59 := by kernel_rfl
theorem name59 : (Tryd.f4.name == "runtime.NumGoroutine") = false := by kernel_rfl
def h163 : Hint := ⟨.pure, [4], [0, 2, 3, 4, 5, 6, 7, 8, 15], some 0⟩
theorem comp163 : compFn Tryd.prog inv isPure h163 Tryd.f21 = some c163 := by kernel_rfl
theorem name163 : (Tryd.f21.name == "runtime.NumGoroutine") = false := by kernel_rfl
def h166 : Hint := ⟨.pure, [3, 2], [0, 1, 2, 3, 4, 9, 14, 19, 24, 30], some 0⟩
theorem comp166 : compFn Tryd.prog inv isPure h166 Tryd.f31 = some c166 := by kernel_rfl
theorem name166 : (Tryd.f31.name == "runtime.NumGoroutine") = false := by kernel_rfl
def h181 : Hint := ⟨.args, [], [0, 1, 4, 5, 9], some 0⟩
theorem comp181 : compFn Tryd.prog inv isPure h181 Tryd.f13 = some c181 := by kernel_rfl
theorem name181 : (Tryd.f13.name == "runtime.NumGoroutine") = false := by kernel_rfl
def h213 : Hint := ⟨.pure, [], [0, 1, 4, 5, 10, 14, 26], some 0⟩
theorem comp213 : compFn Tryd.prog inv isPure h213 Tryd.f12 = some c213 := by kernel_rfl
theorem name213 : (Tryd.f12.name == "runtime.NumGoroutine") = false := by kernel_rfl
def h214 : Hint := ⟨.pure, [], [0, 1, 4, 5, 9, 19, 29, 39, 49, 60], some 0⟩
theorem comp214 : compFn Tryd.prog inv isPure h214 Tryd.f14 = some c214 := by kernel_rfl
theorem name214 : (Tryd.f14.name == "runtime.NumGoroutine") = false := by kernel_rfl
def h289 : Hint := ⟨.pure, [], [0, 2, 3, 4, 5, 6, 7, 8, 9, 10, 11, 12, 13, 14, 15, 16, 30, 35, 54, 60, 70, 99, 117], some 0⟩
theorem comp289 : compFn Tryd.prog inv isPure h289 Tryd.f10 = some c289 := by kernel_rfl
theorem name289 : (Tryd.f10.name == "runtime.NumGoroutine") = false := by kernel_rfl
def h290 : Hint := ⟨.pure, [8], [0, 2, 3, 4, 5, 7, 8, 9, 17, 18, 19, 20, 29, 43], some 0⟩
theorem comp290 : compFn Tryd.prog inv isPure h290 Tryd.f11 = some c290 := by kernel_rfl
theorem name290 : (Tryd.f11.name == "runtime.NumGoroutine") = false := by kernel_rfl
def h295 : Hint := ⟨.pure, [], [0, 1, 2, 6], some 0⟩
theorem comp295 : compFn Tryd.prog inv isPure h295 Tryd.f55 = some c295 := by kernel_rfl
theorem name295 : (Tryd.f55.name == "runtime.NumGoroutine") = false := by kernel_rfl
def h304 : Hint := ⟨.pure, [], [0, 1, 2, 6], some 0⟩
theorem comp304 : compFn Tryd.prog inv isPure h304 Tryd.f45 = some c304 := by kernel_rfl
theorem name304 : (Tryd.f45.name == "runtime.NumGoroutine") = false := by kernel_rfl
def h309 : Hint := ⟨.pure, [], [0, 2], some 0⟩
theorem comp309 : compFn Tryd.prog inv isPure h309 Tryd.f51 = some c309 := by kernel_rfl
theorem name309 : (Tryd.f51.name == "runtime.NumGoroutine") = false := by kernel_rfl
def h378 : Hint := ⟨.pure, [], [0, 1, 2, 6, 7, 8, 9], some 0⟩
theorem comp378 : compFn Tryd.prog inv isPure h378 Tryd.f48 = some c378 := by kernel_rfl
theorem name378 : (Tryd.f48.name == "runtime.NumGoroutine") = false := by kernel_rfl
def h379 : Hint := ⟨.pure, [], [0, 2], some 0⟩
theorem comp379 : compFn Tryd.prog inv isPure h379 Tryd.f42 = some c379 := by kernel_rfl
theorem name379 : (Tryd.f42.name == "runtime.NumGoroutine") = false := by kernel_rfl
def h386 : Hint := ⟨.pure, [], [0, 2, 3, 7, 15], some 0⟩
theorem comp386 : compFn Tryd.prog inv isPure h386 Tryd.f16 = some c386 := by kernel_rfl
theorem name386 : (Tryd.f16.name == "runtime.NumGoroutine") = false := by kernel_rfl
def h387 : Hint := ⟨.pure, [6, 2], [0, 1, 2, 4, 5, 6, 7, 8, 10, 11, 12, 13, 44, 61, 62, 70, 76], some 0⟩
theorem comp387 : compFn Tryd.prog inv isPure h387 Tryd.f40 = some c387 := by kernel_rfl
theorem name387 : (Tryd.f40.name == "runtime.NumGoroutine") = false := by kernel_rfl
def h390 : Hint := ⟨.pure, [], [0, 1, 4, 5, 10, 14, 26], some 0⟩
theorem comp390 : compFn Tryd.prog inv isPure h390 Tryd.f50 = some c390 := by kernel_rfl
theorem name390 : (Tryd.f50.name == "runtime.NumGoroutine") = false := by kernel_rfl
def h391 : Hint := ⟨.args, [], [0, 1, 4, 5, 9], some 0⟩
theorem comp391 : compFn Tryd.prog inv isPure h391 Tryd.f32 = some c391 := by kernel_rfl
theorem name391 : (Tryd.f32.name == "runtime.NumGoroutine") = false := by kernel_rfl
def h392 : Hint := ⟨.pure, [], [0, 1, 4, 5, 9, 19, 29], some 0⟩
theorem comp392 : compFn Tryd.prog inv isPure h392 Tryd.f33 = some c392 := by kernel_rfl
theorem name392 : (Tryd.f33.name == "runtime.NumGoroutine") = false := by kernel_rfl
def h465 : Hint := ⟨.pure, [5, 1], [0, 1, 2, 3, 5, 12, 22, 37, 38, 39, 40], some 0⟩
theorem comp465 : compFn Tryd.prog inv isPure h465 Tryd.f23 = some c465 := by kernel_rfl
theorem name465 : (Tryd.f23.name == "runtime.NumGoroutine") = false := by kernel_rfl
def h481 : Hint := ⟨.pure, [], [0, 1, 4, 5, 6, 7, 12, 19], some 0⟩
theorem comp481 : compFn Tryd.prog inv isPure h481 Tryd.f26 = some c481 := by kernel_rfl
theorem name481 : (Tryd.f26.name == "runtime.NumGoroutine") = false := by kernel_rfl
def h483 : Hint := ⟨.args, [8, 5], [0, 1, 4, 5, 6, 7, 8, 9, 10, 11, 25, 37, 48, 65], some 0⟩
theorem comp483 : compFn Tryd.prog inv isPure h483 Tryd.f27 = some c483 := by kernel_rfl
theorem name483 : (Tryd.f27.name == "runtime.NumGoroutine") = false := by kernel_rfl
def h484 : Hint := ⟨.pure, [], [0, 2, 3, 4, 5, 22, 26, 38], some 0⟩
theorem comp484 : compFn Tryd.prog inv isPure h484 Tryd.f28 = some c484 := by kernel_rfl
theorem name484 : (Tryd.f28.name == "runtime.NumGoroutine") = false := by kernel_rfl
def h486 : Hint := ⟨.pure, [2], [0, 2, 3, 4, 5, 6, 7, 8, 9, 10, 11, 13, 14, 15, 16, 17, 18, 19, 20, 29, 47, 49, 50, 51, 52, 66, 77, 78, 79, 80, 108], some 0⟩
theorem comp486 : compFn Tryd.prog inv isPure h486 Tryd.f30 = some c486 := by kernel_rfl
theorem name486 : (Tryd.f30.name == "runtime.NumGoroutine") = false := by kernel_rfl
def h524 : Hint := ⟨.pure, [], [0, 1, 4, 5, 38, 54, 55, 65], some 0⟩
theorem comp524 : compFn Tryd.prog inv isPure h524 Tryd.f35 = some c524 := by kernel_rfl
theorem name524 : (Tryd.f35.name == "runtime.NumGoroutine") = false := by kernel_rfl
def h529 : Hint := ⟨.pure, [3, 2], [0, 1, 2, 3, 4, 9, 14], some 0⟩
theorem comp529 : compFn Tryd.prog inv isPure h529 Tryd.f63 = some c529 := by kernel_rfl
theorem name529 : (Tryd.f63.name == "runtime.NumGoroutine") = false := by kernel_rfl
def h557 : Hint := ⟨.pure, [], [0, 2, 3, 4, 5, 12], some 0⟩
theorem comp557 : compFn Tryd.prog inv isPure h557 Tryd.f44 = some c557 := by kernel_rfl
theorem name557 : (Tryd.f44.name == "runtime.NumGoroutine") = false := by kernel_rfl
def h559 : Hint := ⟨.pure, [], [0, 1, 4, 5, 7, 8, 9, 16], some 0⟩
theorem comp559 : compFn Tryd.prog inv isPure h559 Tryd.f47 = some c559 := by kernel_rfl
theorem name559 : (Tryd.f47.name == "runtime.NumGoroutine") = false := by kernel_rfl
def h572 : Hint := ⟨.pure, [], [0, 2], some 0⟩
theorem comp572 : compFn Tryd.prog inv isPure h572 Tryd.f52 = some c572 := by kernel_rfl
theorem name572 : (Tryd.f52.name == "runtime.NumGoroutine") = false := by kernel_rfl
def h573 : Hint := ⟨.pure, [], [0, 2, 3, 7, 27, 43], some 0⟩
theorem comp573 : compFn Tryd.prog inv isPure h573 Tryd.f53 = some c573 := by kernel_rfl
theorem name573 : (Tryd.f53.name == "runtime.NumGoroutine") = false := by kernel_rfl
theorem callable271 : Callable Tryd.prog (rho 271) := ⟨Tryd.f8, Tryd.func8, by kernel_rfl, by kernel_rfl⟩
theorem callable377 : Callable Tryd.prog (rho 377) := ⟨Tryd.f49, Tryd.func49, by kernel_rfl, by kernel_rfl⟩
theorem def377 {W : World} (hm : ∃ m, W.cell? ⟨1, 0, none⟩ = some (.int .i64 m)) : DefOk Tryd.prog inv isPure rho (glob Tryd.prog W (some 0)) 377 (.ext .pure ext377) :=
  ext377_ok callable377 fun w hs s p h => hm.elim fun m hm => Any.strings_Cut Tryd.lays145 s p m w h (glob_cell hs (by decide +kernel) hm)
theorem callable485 : Callable Tryd.prog (rho 485) := ⟨Tryd.f29, Tryd.func29, by kernel_rfl, by kernel_rfl⟩
theorem def485 {W : World} (hm : ∃ m, W.cell? ⟨1, 0, none⟩ = some (.int .i64 m)) : DefOk Tryd.prog inv isPure rho (glob Tryd.prog W (some 0)) 485 (.ext .pure ext485) :=
  ext485_ok callable485 9 fun w hs s p h h1 => hm.elim fun m hm => Any.strings_Split Tryd.lays146 (by kernel_rfl) s p m w h (glob_cell hs (by decide +kernel) hm) h1
theorem callable521 : Callable Tryd.prog (rho 521) := ⟨Tryd.f61, Tryd.func61, by kernel_rfl, by kernel_rfl⟩
theorem def521 {W : World} (hy : ∃ tp p, W.var? Tryd.prog "strconv.ErrSyntax" = some #[.iface tp p]) (hr : ∃ tp p, W.var? Tryd.prog "strconv.ErrRange" = some #[.iface tp p]) : DefOk Tryd.prog inv isPure rho (glob Tryd.prog W (some 0)) 521 (.ext .pure ext521) :=
  ext521_ok callable521
    (fun w hs s v h1 h2 => (Any.strconv_ParseInt_10_at64_ok Tryd.laysC174 s (by omega) v h2 w).mono fun e w' ⟨he, hw⟩ => ⟨he, hw.elim (fun h => h ▸ Go.RowKit.Below.refl _ _) fun ⟨t, h⟩ => h ▸ below_bytes w _ t⟩)
    (fun w hs s h1 h2 => hy.elim fun tp hy => hy.elim fun p hy => (Any.strconv_ParseInt_10_at64_syntax_var Tryd.laysC174 s h1 h2 tp p w (glob_var hs (g := 5) (by kernel_rfl) (by decide +kernel) hy)).mono fun e w' ⟨N, he, _, _, hb⟩ => ⟨⟨_, _, he⟩, hb⟩)
    (fun w hs s h1 h2 => hr.elim fun tp hr => hr.elim fun p hr => (Any.strconv_ParseInt_10_at64_range_var Tryd.laysC174 s h1 h2 tp p w (glob_var hs (g := 6) (by kernel_rfl) (by decide +kernel) hr)).mono fun e w' ⟨N, he, _, _, hb⟩ => ⟨⟨_, _, he⟩, hb⟩)
theorem callable522 : Callable Tryd.prog (rho 522) := ⟨Tryd.f57, Tryd.func57, by kernel_rfl, by kernel_rfl⟩
theorem def522 {W : World} (ht : Lib.TabIs Tryd.prog W "internal/strconv.uint64pow10" .u64 Lib.pow10Tab) : DefOk Tryd.prog inv isPure rho (glob Tryd.prog W (some 0)) 522 (.ext .pure ext522) :=
  ext522_ok callable522 fun w hs n h0 h1 => Any.strconv_FormatInt_10 Tryd.laysM173 n h0 h1 w (glob_var hs (g := 2) (by kernel_rfl) (by decide +kernel) ht)
theorem tab_ok {W : World} (hm : ∃ m, W.cell? ⟨1, 0, none⟩ = some (.int .i64 m)) (ht : Lib.TabIs Tryd.prog W "internal/strconv.uint64pow10" .u64 Lib.pow10Tab) (hy : ∃ tp p, W.var? Tryd.prog "strconv.ErrSyntax" = some #[.iface tp p]) (hr : ∃ tp p, W.var? Tryd.prog "strconv.ErrRange" = some #[.iface tp p]) : ∀ f D, tab f = some D → DefOk Tryd.prog inv isPure rho (glob Tryd.prog W (some 0)) f D := by
  intro f D h
  unfold tab at h
  split at h
  · cases h; exact ⟨Tryd.f4, h59, fun _ h => h, Tryd.func4, name59, comp59⟩
  · cases h; exact ⟨Tryd.f21, h163, fun _ h => h, Tryd.func21, name163, comp163⟩
  · cases h; exact ⟨Tryd.f31, h166, fun _ h => h, Tryd.func31, name166, comp166⟩
  · cases h; exact ⟨Tryd.f13, h181, fun _ h => h, Tryd.func13, name181, comp181⟩
  · cases h; exact ⟨Tryd.f12, h213, fun _ h => h, Tryd.func12, name213, comp213⟩
  · cases h; exact ⟨Tryd.f14, h214, fun _ h => h, Tryd.func14, name214, comp214⟩
  · cases h; exact ⟨Tryd.f10, h289, fun _ h => h, Tryd.func10, name289, comp289⟩
  · cases h; exact ⟨Tryd.f11, h290, fun _ h => h, Tryd.func11, name290, comp290⟩
  · cases h; exact ⟨Tryd.f55, h295, fun _ h => h, Tryd.func55, name295, comp295⟩
  · cases h; exact ⟨Tryd.f45, h304, fun _ h => h, Tryd.func45, name304, comp304⟩
  · cases h; exact ⟨Tryd.f51, h309, fun _ h => h, Tryd.func51, name309, comp309⟩
  · cases h; exact def377 hm
  · cases h; exact ⟨Tryd.f48, h378, fun _ h => h, Tryd.func48, name378, comp378⟩
  · cases h; exact ⟨Tryd.f42, h379, fun _ h => h, Tryd.func42, name379, comp379⟩
  · cases h; exact ⟨Tryd.f16, h386, fun _ h => h, Tryd.func16, name386, comp386⟩
  · cases h; exact ⟨Tryd.f40, h387, fun _ h => h, Tryd.func40, name387, comp387⟩
  · cases h; exact ⟨Tryd.f50, h390, fun _ h => h, Tryd.func50, name390, comp390⟩
  · cases h; exact ⟨Tryd.f32, h391, fun _ h => h, Tryd.func32, name391, comp391⟩
  · cases h; exact ⟨Tryd.f33, h392, fun _ h => h, Tryd.func33, name392, comp392⟩
  · cases h; exact ⟨Tryd.f23, h465, fun _ h => h, Tryd.func23, name465, comp465⟩
  · cases h; exact ⟨Tryd.f26, h481, fun _ h => h, Tryd.func26, name481, comp481⟩
  · cases h; exact ⟨Tryd.f27, h483, fun _ h => h, Tryd.func27, name483, comp483⟩
  · cases h; exact ⟨Tryd.f28, h484, fun _ h => h, Tryd.func28, name484, comp484⟩
  · cases h; exact def485 hm
  · cases h; exact ⟨Tryd.f30, h486, fun _ h => h, Tryd.func30, name486, comp486⟩
  · cases h; exact def521 hy hr
  · cases h; exact def522 ht
  · cases h; exact ⟨Tryd.f35, h524, fun _ h => h, Tryd.func35, name524, comp524⟩
  · cases h; exact ⟨Tryd.f63, h529, fun _ h => h, Tryd.func63, name529, comp529⟩
  · cases h; exact ⟨Tryd.f44, h557, fun _ h => h, Tryd.func44, name557, comp557⟩
  · cases h; exact ⟨Tryd.f47, h559, fun _ h => h, Tryd.func47, name559, comp559⟩
  · cases h; exact ⟨Tryd.f52, h572, fun _ h => h, Tryd.func52, name572, comp572⟩
  · cases h; exact ⟨Tryd.f53, h573, fun _ h => h, Tryd.func53, name573, comp573⟩
  · cases h
theorem mix0 : Tryd.prog.follows .mixedOrders = true := by kernel_rfl
theorem def271 {W : World} (hm : ∃ m, W.cell? ⟨1, 0, none⟩ = some (.int .i64 m)) (ht : Lib.TabIs Tryd.prog W "internal/strconv.uint64pow10" .u64 Lib.pow10Tab) (hy : ∃ tp p, W.var? Tryd.prog "strconv.ErrSyntax" = some #[.iface tp p]) (hr : ∃ tp p, W.var? Tryd.prog "strconv.ErrRange" = some #[.iface tp p]) : DefOk Tryd.prog inv isPure rho (glob Tryd.prog W (some 0)) 271 (.ext .pure (ext271 tab)) :=
  ext271_ok mix0 inv_rho (tab_ok hm ht hy hr) callable271 (fun x w0 S h => walk271_no x w0 S h) fun p n cap t w0 S h1 h2 h3 h4 h5 => walk271 p n cap t w0 S h1 h2 h3 h4 h5
theorem tab2_ok {W : World} (hm : ∃ m, W.cell? ⟨1, 0, none⟩ = some (.int .i64 m)) (ht : Lib.TabIs Tryd.prog W "internal/strconv.uint64pow10" .u64 Lib.pow10Tab) (hy : ∃ tp p, W.var? Tryd.prog "strconv.ErrSyntax" = some #[.iface tp p]) (hr : ∃ tp p, W.var? Tryd.prog "strconv.ErrRange" = some #[.iface tp p]) : ∀ f D, tab2 f = some D → DefOk Tryd.prog inv isPure rho (glob Tryd.prog W (some 0)) f D := by
  intro f D h
  unfold tab2 at h
  split at h
  · rename_i e
    subst e
    cases h
    exact def271 hm ht hy hr
  · exact tab_ok hm ht hy hr f D h
end Fb
