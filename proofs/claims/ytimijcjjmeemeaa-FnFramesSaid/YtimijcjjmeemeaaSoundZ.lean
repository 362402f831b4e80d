/- Entries of the table for whole functions of the program that are walked in the model. -/
import Derived.Test.YtimijcjjmeemeaaSoundY
import Derived.Test.YtimijcjjmeemeaaRun
set_option linter.unusedVariables false
set_option linter.unusedSimpArgs false
namespace Fb
open Go Go.RowKit
section
variable {P : Program} {inv : FuncId → Option Nat} {isPure : Nat → Bool} {ρ : Nat → FuncId} {Gl : Nat → Option Obj}
/-- A call without memory, as the given program makes it. -/
theorem calls_pure {T : Tab} (hmix : P.follows .mixedOrders = true) (hi : ∀ f i, inv f = some i → ρ i = f) (hT : ∀ f D, T f = some D → DefOk P inv isPure ρ (fun _ => none) f D) {pu : Bool} {f : Nat} {xs args : List Value} {v : Value}
    (hc : Call T pu f xs [] = some (v, [])) {w : World} (hx : ∀ C : Cx, VRs C xs args) : Calls P (ρ f) args.toArray w fun e w' => (∃ C' v', e = .returned v' ∧ VR C' v v') ∧ Below w.heap.size w w' := by
  let C0 : Cx := ⟨ρ, [], fun _ => none, fun _ => 0⟩
  have hW0 : WR C0 w := ⟨fun b B δ h => by simp [C0] at h, fun b b' B δ δ' h => by simp [C0] at h⟩
  obtain ⟨k, hk⟩ := of_Call hc
  obtain ⟨_, h2⟩ := (callF_ok hmix hi hT k).1 pu f xs [] v [] hk
  refine (h2 C0 w args rfl rfl hW0 .none (hx C0)).mono fun e w' ⟨v', he, C', _, _, hX, hv⟩ => ?_
  exact ⟨⟨C', v', he, hv⟩, hX.os.1, hX.os.2.2, hX.os.2.1, hX.hsz, fun B hB => hX.keep B hB fun b k δ hk => by simp [C0] at hk⟩
theorem VR.ivs {C : Cx} {k : IntKind} {f : List Int} : VR C (.agg (f.map (Value.int k)).toArray) (.agg (f.map (Value.int k)).toArray) := by
  refine .agg (fun v hv => ?_) rfl fun i h1 h2 => ?_
  · obtain ⟨n, _, rfl⟩ := List.mem_map.1 (by simpa using hv)
    rfl
  · simp
    exact .int _ _
theorem u16s_some : ∀ {cs : List Value} {l : List Int}, u16s cs = some l → cs = l.map (Value.int .u16)
  | [], l, h => by cases h; rfl
  | .int .u16 n :: r, l, h => by
    obtain ⟨l', h1, rfl⟩ := Option.map_eq_some_iff.1 h
    rw [u16s_some h1]; rfl
theorem ext439_ok (hf : Callable P (ρ 439)) (hc : ∀ w (f : List Int), okU f = true → Calls P (ρ 439) #[.agg (f.map (Value.int .u16)).toArray] w fun e w' => e = .returned (.string ⟨(txF (fdot f) 12).toArray⟩) ∧ Below w.heap.size w w') :
    DefOk P inv isPure ρ Gl 439 (.ext .pure ext439) := by
  refine ⟨hf, fun xs H v H' h => ?_⟩
  unfold ext439 at h
  split at h
  · rename_i cs
    split at h
    · rename_i f hu
      split at h
      · rename_i hok
        cases h
        refine ⟨.refl, fun C w args hH _ hW hG hx => ?_⟩
        subst hH
        have hcs : cs = (f.map (Value.int .u16)).toArray := by rw [← u16s_some hu]
        subst hcs
        match args, hx.1 with
        | [a], _ =>
          have h0 : VR C (.agg (f.map (Value.int .u16)).toArray) a := hx.2 0 (by simp) (by simp)
          obtain ⟨cs', rfl, h1, _⟩ := h0.agg_inv
          have h2 : cs'.toList = f.map (Value.int .u16) := VRs.ints (by simpa using h1)
          have h3 : cs' = (f.map (Value.int .u16)).toArray := by rw [← h2]
          subst h3
          exact (hc w f hok).mono fun e w' ⟨he, hb⟩ => ⟨_, he, .below hW hb (.string _)⟩
      · cases h
    · cases h
  · cases h
end
end Fb
