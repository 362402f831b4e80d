/- The law FnSteps of the given program: for all arguments the call returns true and the arguments read afterwards as they read before.
   Conditions: none beyond the given statement's own. The variables that the row lists are tied to the program's text (the given tie). -/
import Derived.Test.YtimijcjjmeemeaaGreatDoorFits
import Derived.Test.YtimijcjjmeemeaaGreatDoorTop
import Derived.Test.YtimijcjjmeemeaaGreatDoorRdl
import Derived.Test.YtimijcjjmeemeaaGreatDoorCards
import Derived.Test.YtimijcjjmeemeaaGreatDoorTie
import Derived.WalkKit
import Derived.ProofKit
import Derived.OpenShut
import Derived.SevenTiedAt
import Derived.Shelf.Vars
import Derived.ChangeVars
set_option linter.unusedVariables false
set_option linter.unusedSimpArgs false
namespace Go.Proofs.YtimijcjjmeemeaaGreatDoor.fnSteps
open Go.ChangeShapes Go.WideShapes Go.ChangeAt Go.RowKit

theorem own : ownKnob Tryz.prog.godebug = none := by kernel_rfl
theorem mixed : Tryz.prog.follows .mixedOrders = true := by kernel_rfl
theorem tys : Tryz.f3.params.toList.mapM (Fb.tyOf Tryz.prog 12) = some Fb.Ty60 := by kernel_rfl
theorem plain (w : World) : laidMetH Tryz.prog Rows.fnStepsRow.laid w = laidMet Tryz.prog Rows.fnStepsRow.laid w := MakeChecks.laidMetH_plain _ _ _ (by kernel_rfl)
theorem maxLen_cell {W : World} (h : W.ShapedOpen Tryz.prog) : ∃ m, W.cell? ⟨1, 0, none⟩ = some (.int .i64 m) := cell_of_shapedOpen_int (zero := #[.int .i64 0]) (t := 3) h (of_decide_eq_true (by kernel_rfl)) (by kernel_rfl) rfl (by kernel_rfl) (by kernel_rfl) Tryz.underlying3
set_option maxRecDepth 100000 in
theorem lifted (os : Os) (started : os.Started) (H : Type) (enc : TypeId × Value → H) :
    ReturnsInHanded {} Tryz.checked os 3 .any (fun w args => (Rows.fnStepsSpec.pre enc Tryz.prog Tryz.f3 [] false w args ∧ laidMetH Tryz.prog Rows.fnStepsRow.laid w) ∧ sizedMet enc Tryz.prog Tryz.f3 (OpenSpec.ofChange Rows.fnStepsSpec) false w args)
      (Rows.fnStepsSpec.post enc Tryz.prog Tryz.f3 false true false false) := by
  refine Fb.handed_laid (C := Tryz.checked) (laid := Rows.fnStepsRow.laid) own started (by kernel_rfl) Tryz.func3
    (ChangeSpec.witness_shaped (enc := enc) (C := Tryz.checked) (os := os) (X := fun w _ => laidMetH Tryz.prog Rows.fnStepsRow.laid w) false (World.laidAll Tryz.prog os Rows.fnStepsRow.laid) (Fb.Ty60.map Fb.zeroV).toArray 20 (World.laidAll_os _ _ _)
      (World.shaped_of_ZipB (by kernel_rfl) (by kernel_rfl)) (by kernel_rfl) (by kernel_rfl) (by kernel_rfl)
      (by rw [plain]; exact laidMet_laidAll _ (by kernel_rfl) (by kernel_rfl))) ?_
  intro W base args ds gs before hval0 hW hsh hL
  have hL : laidMet Tryz.prog Rows.fnStepsRow.laid W := by rw [← plain]; exact hL
  have hsh : W.ShapedOpen Tryz.prog := hsh
  have hW' := hW
  obtain ⟨p, q, hA0, hV, rfl, hfz, hnd⟩ := hW
  obtain ⟨el, fz0, hwd⟩ := Fb.laid_words (vs := Fb.wrdL) (n := 3) (e := 9) (t := 103) (g := 0) (by kernel_rfl) (by kernel_rfl) (by kernel_rfl) (by kernel_rfl) (by kernel_rfl) (by kernel_rfl) hL (.tail _ (.tail _ (.tail _ (.tail _ (.tail _ (.tail _ (.head _)))))))
  refine (Fb.law_calls_pin (W := W) hwd mixed Fb.inv_rho (Fb.tab2_ok (maxLen_cell hsh) (Fb.laid_tab (n := 20) (e := 98) (t := 179) (g := 6) (by kernel_rfl) (by kernel_rfl) (by kernel_rfl) (by kernel_rfl) (by kernel_rfl) (by kernel_rfl) hL (.tail _ (.tail _ (.head _)))) (Fb.laid_iface (t := 71) (g := 4) (by kernel_rfl) (by kernel_rfl) Tryz.underlying71 hL (.tail _ (.tail _ (.tail _ (.tail _ (.tail _ (.head _))))))) (Fb.laid_iface (t := 71) (g := 5) (by kernel_rfl) (by kernel_rfl) Tryz.underlying71 hL (.tail _ (.tail _ (.tail _ (.tail _ (.head _))))))) (f := 60) tys (fun H xs h1 h2 h3 => Fb.law60 h1 h2 h3) (args := args) (fun j t v ht hv => hval0 j t v (by rw [← Array.getElem?_toList]; exact ht) (by rw [← Array.getElem?_toList]; exact hv)) hA0).mono fun e W' ⟨he, hk⟩ => ?_
  subst he
  refine ⟨_, rfl, Fb.law_post_vars hW' ?_ hk (tb := Tryz.f3.resultTypes[0]!) (by kernel_rfl) (by kernel_rfl) (by kernel_rfl) (by kernel_rfl) (by kernel_rfl) (of_decide_eq_true (by kernel_rfl)) (Fb.globals_lt (by kernel_rfl))⟩
  obtain ⟨_, _, _, _, d0, _, rfl, _⟩ := trodVars_one (n := "loop.example/g01340/impl.stepWords") hV
  have hl : ds.length = 2 := Fb.trodAll_len hA0
  match ds, hl with
  | [_, _], _ => rfl
theorem over : Rows.fnStepsRow.holds Tryz.pinned (OpenSpec.ofChange Rows.fnStepsSpec) :=
  OpenClaim.holds_of_wide 3 Tryz.f3 rfl rfl rfl rfl rfl rfl rfl ⟨rfl, rfl, rfl, rfl, rfl⟩ rfl rfl rfl rfl rfl (by kernel_rfl) Tryz.func3 (by kernel_rfl)
    (of_decide_eq_true (by kernel_rfl)) (by unfold Func.isWrapper; first | (rw [if_pos (by decide +kernel)]; kernel_rfl) | (rw [if_neg (by decide +kernel)]; exact ⟨rfl, rfl⟩))
    (fun os started H enc _ => lifted os started H enc)
theorem proved : Rows.FnStepsCardSaid :=
  Claim7.holds_tied_plain_at .later [] Rows.fnStepsCard.laidKinds true Rows.fnStepsCard.stood.harness Rows.fnStepsCard.stood.looks over (fun _ h => by cases h) (by kernel_rfl) (fun _ h => by cases h) fnSteps_row_tie rfl ⟨rfl, rfl⟩ (by kernel_rfl) rfl
    (fun f fn hf hfn => by
      obtain rfl : f = 3 := Option.some.inj ((show Tryz.prog.funcNamed "loop.example/g01340/laws.FnSteps" = some 3 by kernel_rfl).symm.trans hf) |>.symm
      obtain rfl : fn = Tryz.f3 := (Option.some.inj (Tryz.func3.symm.trans hfn)).symm
      exact ⟨by kernel_rfl, fun j t ht => by
        have hall : (Tryz.f3.params.toList.all fun u => !Tryz.prog.wantsStandIn u) = true := by kernel_rfl
        have hm : t ∈ Tryz.f3.params.toList := by simpa using Array.mem_of_getElem? ht
        exact (show Tryz.prog.wantsStandIn t = false by simpa using List.all_eq_true.1 hall t hm)⟩)
    (by kernel_rfl)
#print axioms proved
end Go.Proofs.YtimijcjjmeemeaaGreatDoor.fnSteps
