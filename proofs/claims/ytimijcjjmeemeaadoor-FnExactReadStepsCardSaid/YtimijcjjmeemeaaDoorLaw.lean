/- The law FnExactReadSteps of the given program: for all arguments the call returns true and the arguments read afterwards as they read before.
   Conditions: none beyond the given statement's own. The variables that the row lists are tied to the program's text (the given tie). -/
import Derived.Test.YtimijcjjmeemeaaDoorFits
import Derived.Test.YtimijcjjmeemeaaDoorTop
import Derived.Test.YtimijcjjmeemeaaDoorRdl
import Derived.Test.YtimijcjjmeemeaaDoorCards
import Derived.Test.YtimijcjjmeemeaaDoorTie
import Derived.WalkKit
import Derived.ProofKit
import Derived.OpenShut
import Derived.SevenTiedAt
import Derived.Shelf.Vars
import Derived.ChangeVars
set_option linter.unusedVariables false
set_option linter.unusedSimpArgs false
namespace Go.Proofs.YtimijcjjmeemeaaDoor.fnExactReadSteps
open Go.ChangeShapes Go.WideShapes Go.ChangeAt Go.RowKit

theorem own : ownKnob Tryd.prog.godebug = none := by kernel_rfl
theorem mixed : Tryd.prog.follows .mixedOrders = true := by kernel_rfl
theorem tys : Tryd.f4.params.toList.mapM (Fb.tyOf Tryd.prog 12) = some Fb.Ty59 := by kernel_rfl
theorem plain (w : World) : laidMetH Tryd.prog Rows.fnExactReadStepsRow.laid w = laidMet Tryd.prog Rows.fnExactReadStepsRow.laid w := MakeChecks.laidMetH_plain _ _ _ (by kernel_rfl)
theorem maxLen_cell {W : World} (h : W.ShapedOpen Tryd.prog) : ∃ m, W.cell? ⟨1, 0, none⟩ = some (.int .i64 m) := cell_of_shapedOpen_int (zero := #[.int .i64 0]) (t := 3) h (of_decide_eq_true (by kernel_rfl)) (by kernel_rfl) rfl (by kernel_rfl) (by kernel_rfl) Tryd.underlying3
set_option maxRecDepth 100000 in
theorem lifted (os : Os) (started : os.Started) (H : Type) (enc : TypeId × Value → H) :
    ReturnsInHanded {} Tryd.checked os 4 .any (fun w args => (Rows.fnExactReadStepsSpec.pre enc Tryd.prog Tryd.f4 [] false w args ∧ laidMetH Tryd.prog Rows.fnExactReadStepsRow.laid w) ∧ sizedMet enc Tryd.prog Tryd.f4 (OpenSpec.ofChange Rows.fnExactReadStepsSpec) false w args)
      (Rows.fnExactReadStepsSpec.post enc Tryd.prog Tryd.f4 false true false false) := by
  refine Fb.handed_laid (C := Tryd.checked) (laid := Rows.fnExactReadStepsRow.laid) own started (by kernel_rfl) Tryd.func4
    (ChangeSpec.witness_shaped (enc := enc) (C := Tryd.checked) (os := os) (X := fun w _ => laidMetH Tryd.prog Rows.fnExactReadStepsRow.laid w) false (World.laidAll Tryd.prog os Rows.fnExactReadStepsRow.laid) (Fb.Ty59.map Fb.zeroV).toArray 20 (World.laidAll_os _ _ _)
      (World.shaped_of_ZipB (by kernel_rfl) (by kernel_rfl)) (by kernel_rfl) (by kernel_rfl) (by kernel_rfl)
      (by rw [plain]; exact laidMet_laidAll _ (by kernel_rfl) (by kernel_rfl))) ?_
  intro W base args ds gs before hval0 hW hsh hL
  have hL : laidMet Tryd.prog Rows.fnExactReadStepsRow.laid W := by rw [← plain]; exact hL
  have hsh : W.ShapedOpen Tryd.prog := hsh
  have hW' := hW
  obtain ⟨p, q, hA0, hV, rfl, hfz, hnd⟩ := hW
  obtain ⟨el, fz0, hwd⟩ := Fb.laid_words (vs := Fb.wrdL) (n := 3) (e := 9) (t := 75) (g := 0) (by kernel_rfl) (by kernel_rfl) (by kernel_rfl) (by kernel_rfl) (by kernel_rfl) (by kernel_rfl) hL (.tail _ (.tail _ (.tail _ (.tail _ (.tail _ (.tail _ (.head _)))))))
  refine (Fb.law_calls_pin (W := W) hwd mixed Fb.inv_rho (Fb.tab2_ok (maxLen_cell hsh) (Fb.laid_tab (n := 20) (e := 107) (t := 120) (g := 2) (by kernel_rfl) (by kernel_rfl) (by kernel_rfl) (by kernel_rfl) (by kernel_rfl) (by kernel_rfl) hL (.tail _ (.tail _ (.head _)))) (Fb.laid_iface (t := 50) (g := 5) (by kernel_rfl) (by kernel_rfl) Tryd.underlying50 hL (.tail _ (.tail _ (.tail _ (.tail _ (.tail _ (.head _))))))) (Fb.laid_iface (t := 50) (g := 6) (by kernel_rfl) (by kernel_rfl) Tryd.underlying50 hL (.tail _ (.tail _ (.tail _ (.tail _ (.head _))))))) (f := 59) tys (fun H xs h1 h2 h3 => Fb.law59 h1 h2 h3) (args := args) (fun j t v ht hv => hval0 j t v (by rw [← Array.getElem?_toList]; exact ht) (by rw [← Array.getElem?_toList]; exact hv)) hA0).mono fun e W' ⟨he, hk⟩ => ?_
  subst he
  refine ⟨_, rfl, Fb.law_post_vars hW' ?_ hk (tb := Tryd.f4.resultTypes[0]!) (by kernel_rfl) (by kernel_rfl) (by kernel_rfl) (by kernel_rfl) (by kernel_rfl) (of_decide_eq_true (by kernel_rfl)) (Fb.globals_lt (by kernel_rfl))⟩
  obtain ⟨_, _, _, _, d0, _, rfl, _⟩ := trodVars_one (n := "loop.example/g01340/impl.stepWords") hV
  have hl : ds.length = 1 := Fb.trodAll_len hA0
  match ds, hl with
  | [_], _ => rfl
theorem over : Rows.fnExactReadStepsRow.holds Tryd.pinned (OpenSpec.ofChange Rows.fnExactReadStepsSpec) :=
  OpenClaim.holds_of_wide 4 Tryd.f4 rfl rfl rfl rfl rfl rfl rfl ⟨rfl, rfl, rfl, rfl, rfl⟩ rfl rfl rfl rfl rfl (by kernel_rfl) Tryd.func4 (by kernel_rfl)
    (of_decide_eq_true (by kernel_rfl)) (by unfold Func.isWrapper; first | (rw [if_pos (by decide +kernel)]; kernel_rfl) | (rw [if_neg (by decide +kernel)]; exact ⟨rfl, rfl⟩))
    (fun os started H enc _ => lifted os started H enc)
theorem proved : Rows.FnExactReadStepsCardSaid :=
  Claim7.holds_tied_plain_at .later [] Rows.fnExactReadStepsCard.laidKinds true Rows.fnExactReadStepsCard.stood.harness Rows.fnExactReadStepsCard.stood.looks over (fun _ h => by cases h) (by kernel_rfl) (fun _ h => by cases h) fnExactReadSteps_row_tie rfl ⟨rfl, rfl⟩ (by kernel_rfl) rfl
    (fun f fn hf hfn => by
      obtain rfl : f = 4 := Option.some.inj ((show Tryd.prog.funcNamed "loop.example/g01340/laws.FnExactReadSteps" = some 4 by kernel_rfl).symm.trans hf) |>.symm
      obtain rfl : fn = Tryd.f4 := (Option.some.inj (Tryd.func4.symm.trans hfn)).symm
      exact ⟨by kernel_rfl, fun j t ht => by
        have hall : (Tryd.f4.params.toList.all fun u => !Tryd.prog.wantsStandIn u) = true := by kernel_rfl
        have hm : t ∈ Tryd.f4.params.toList := by simpa using Array.mem_of_getElem? ht
        exact (show Tryd.prog.wantsStandIn t = false by simpa using List.all_eq_true.1 hall t hm)⟩)
    (by kernel_rfl)
#print axioms proved
end Go.Proofs.YtimijcjjmeemeaaDoor.fnExactReadSteps
