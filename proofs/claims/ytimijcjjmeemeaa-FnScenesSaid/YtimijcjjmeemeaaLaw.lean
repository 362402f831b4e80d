/- The law FnScenes of the given program: for all arguments the call returns true and the arguments read afterwards as they read before.
   Conditions: none beyond the given statement's own. -/
import Derived.Test.YtimijcjjmeemeaaFits
import Derived.Test.YtimijcjjmeemeaaTop
import Derived.Test.YtimijcjjmeemeaaRdl
import Derived.WalkKit
import Derived.ProofKit
import Derived.OpenShut
set_option linter.unusedVariables false
set_option linter.unusedSimpArgs false
namespace Go.Proofs.Ytimijcjjmeemeaa.fnScenes
open Go.ChangeShapes Go.WideShapes Go.ChangeAt Go.RowKit

theorem own : ownKnob Try.prog.godebug = none := by kernel_rfl
theorem mixed : Try.prog.follows .mixedOrders = true := by kernel_rfl
theorem tys : Try.f4.params.toList.mapM (Fb.tyOf Try.prog 12) = some Fb.Ty57 := by kernel_rfl
set_option maxRecDepth 100000 in
theorem lifted (os : Os) (started : os.Started) (H : Type) (enc : TypeId × Value → H) :
    ReturnsInHanded {} Try.checked os 4 .any (Rows.fnScenesSpec.pre6 enc Try.prog Try.f4 Rows.fnScenesRow.domain false) (Rows.fnScenesSpec.post enc Try.prog Try.f4 false true false false) := by
  refine returnsInHanded_of_change (C := Try.checked) own started (by kernel_rfl) Try.func4
    (ChangeSpec.witness6 (enc := enc) (C := Try.checked) false ⟨#[], (Fb.Ty57.map Fb.zeroV).toArray, []⟩ 20 (by kernel_rfl) (by kernel_rfl) (by kernel_rfl) (by kernel_rfl)) ?_
  intro W base args ds gs before hval0 hW hcnd _
  have hW' := hW
  obtain ⟨p, q, hA0, hV, rfl, hfz, hnd⟩ := hW
  have hg : gs = [] := by
    cases gs with
    | nil => rfl
    | cons _ _ => exact hV.elim
  subst hg
  refine (Fb.law_calls mixed Fb.inv_rho Fb.tab_ok (f := 57) tys (fun H xs h1 h2 => Fb.law57 h1 h2) (args := args) (fun j t v ht hv => hval0 j t v (by rw [← Array.getElem?_toList]; exact ht) (by rw [← Array.getElem?_toList]; exact hv)) hA0).mono fun e W' ⟨he, hk⟩ => ?_
  subst he
  refine ⟨_, rfl, Fb.law_post hW' rfl ?_ hk (tb := Try.f4.resultTypes[0]!) (by kernel_rfl) (by kernel_rfl) (by kernel_rfl) (by kernel_rfl) (by kernel_rfl) (of_decide_eq_true (by kernel_rfl))⟩
  have hl : ds.length = 2 := Fb.trodAll_len hA0
  match ds, hl with
  | [_, _], _ => rfl
theorem over : Rows.fnScenesRow.holds Try.pinned (OpenSpec.ofChange Rows.fnScenesSpec) :=
  OpenClaim.holds_of_wide 4 Try.f4 rfl rfl rfl rfl rfl rfl rfl ⟨rfl, rfl, rfl, rfl, rfl⟩ rfl rfl rfl rfl rfl (by kernel_rfl) Try.func4 (by kernel_rfl)
    (of_decide_eq_true (by kernel_rfl)) (by unfold Func.isWrapper; first | (rw [if_pos (by decide +kernel)]; kernel_rfl) | (rw [if_neg (by decide +kernel)]; exact ⟨rfl, rfl⟩))
    (fun os started H enc _ => lifted os started H enc)
theorem proved : Rows.FnScenesSaid := over
#print axioms proved
end Go.Proofs.Ytimijcjjmeemeaa.fnScenes
