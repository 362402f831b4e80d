/- The main theorem: what the small language reckons of a call, the model's call does. -/
import Derived.Test.YtimijcjjmeemeaaSoundL
set_option linter.unusedVariables false
set_option linter.unusedSimpArgs false
namespace Fb
open Go

section
variable {P : Program} {inv : FuncId → Option Nat} {isPure : Nat → Bool} {h : Hint} {nt : Nat} {C : Cx} {e : Env} {a : Act} {w : World} {B0 : Nat}
def resultOf (tmps : Array Value) : ResultVar → Sem Value
  | .tmp t => pure (tmps.getD t undef)
  | .cell a t => do loadVar t (← asAddr (tmps.getD a undef))
theorem result_sound (hS : St h [] B0 nt (fun s => h.keep.contains s = true) C e a w) (hW : WR C w) {r : ResultVar} {rs : Res} (hc : compRes P h r = some rs) {v : Value} (hv : resV e C.H rs = some v) :
    ∃ v', (resultOf a.tmps r).run P w = .ok v' w ∧ VR C v v' := by
  cases r with
  | tmp t =>
    simp only [compRes] at hc
    split at hc
    · rename_i hk
      cases hc; cases hv
      simp only [Bool.and_eq_true, Bool.not_eq_true'] at hk
      exact ⟨_, rfl, hS.plain t hk.1 rfl hk.2⟩
    · cases hc
  | cell s t =>
    simp only [compRes] at hc
    split at hc
    · rename_i hk
      split at hc
      · rename_i q hq
        split at hc
        · rename_i hvar
          cases hc
          simp only [resV] at hv
          split at hv
          · rename_i hh
            have hiv : isVar h s = true := by simp only [isVar, hk, hvar, Bool.and_self]
            obtain ⟨B, h1, h2, _⟩ := hS.var s hiv hh.1
            obtain ⟨v', h3, h4⟩ := run_loadVar_at (P := P) (o := 0) hq h2 (by omega) (by rw [List.drop_zero, List.take_of_length_le (by omega)]; exact hv)
            refine ⟨v', ?_, h4⟩
            simp only [resultOf, h1, asAddr, Sem.run_bind, Sem.run_pure, Result.andThen_ok, h3]
          · cases hv
        · rename_i hvar
          cases hc
          simp only [resV] at hv
          split at hv
          · rename_i b off ver hp
            obtain ⟨cs, h1, h2⟩ := Option.bind_eq_some_iff.1 hv
            have hr := hS.plain s (by simpa using hvar) rfl hk
            rw [hp] at hr
            obtain ⟨a', ha', har⟩ := hr.ptr_inv
            obtain ⟨B, o, c, elem, fz, rfl, hB, hl, hvr, hf⟩ := rd_sound hW h1 har
            refine ⟨_, ?_, mkV_ldv hvr hf h2⟩
            simp only [resultOf, ha', asAddr, Sem.run_bind, Sem.run_pure, Result.andThen_ok, run_loadVar_cells hq hB hl]
          · cases hv
      · cases hc
    · cases hc
theorem results_sound (hS : St h [] B0 nt (fun s => h.keep.contains s = true) C e a w) (hW : WR C w) : ∀ {l : List ResultVar} {rs : List Res} {vs : List Value}, l.mapM (compRes P h) = some rs → resVs e C.H rs = some vs →
    ∃ vs', (l.mapM (resultOf a.tmps)).run P w = .ok vs' w ∧ VRs C vs vs'
  | [], rs, vs, hc, hv => by
    simp only [List.mapM_nil, pure, Option.some.injEq] at hc
    subst hc
    cases hv
    exact ⟨[], rfl, .nil⟩
  | r :: l, rs, vs, hc, hv => by
    simp only [List.mapM_cons, bind, Option.bind_eq_some_iff, pure, Option.some.injEq] at hc
    obtain ⟨x, hx, xs, hxs, rfl⟩ := hc
    simp only [resVs] at hv
    split at hv
    · rename_i v hv1
      obtain ⟨vs1, hvs, rfl⟩ := Option.map_eq_some_iff.1 hv
      obtain ⟨v', h1, h2⟩ := result_sound hS hW hx hv1
      obtain ⟨vs', h3, h4⟩ := results_sound hS hW hxs hvs
      refine ⟨v' :: vs', ?_, .cons h2 h4⟩
      rw [List.mapM_cons]
      simp only [Sem.run_bind, h1, Result.andThen_ok, h3, Sem.run_pure]
    · cases hv
theorem one_sound {ws vs' : List Value} (hv : VRs C ws vs') : VR C (one ws) (if hs : vs'.toArray.size = 1 then vs'.toArray[0] else .tuple vs'.toArray) := by
  have hl := hv.1
  unfold one
  split
  · rename_i v
    have h1 : vs'.toArray.size = 1 := by simpa using hl.symm
    rw [dif_pos h1]
    have h2 : 0 < vs'.length := by have : vs'.length = 1 := by simpa using h1
                                   omega
    have := hv.2 0 (by simp) h2
    simpa using this
  · rename_i h1
    have : ¬ vs'.toArray.size = 1 := fun h2 => by
      have h3 : ws.length = 1 := by rw [hl]; simpa using h2
      obtain ⟨v, rfl⟩ := List.length_eq_one_iff.1 h3
      exact h1 v rfl
    rw [dif_neg this]
    exact .tup (by simpa using hl) fun i h2 h3 => by simpa using hv.2 i (by simpa using h2) (by simpa using h3)
theorem run_results {fn : Func} {tmps : Array Value} {vs' : List Value} (hr : (fn.results.toList.mapM (resultOf tmps)).run P w = .ok vs' w) :
    (results fn tmps).run P w = .ok (if hs : vs'.toArray.size = 1 then vs'.toArray[0] else .tuple vs'.toArray) w := by
  have h1 : (fn.results.mapM (resultOf tmps)).run P w = .ok vs'.toArray w := by
    rw [Array.mapM_eq_mapM_toList]
    simp only [Sem.run_map, hr, Result.andThen_ok]
  have h2 : results fn tmps = (do let vs ← fn.results.mapM (resultOf tmps); pure (if h : vs.size = 1 then vs[0] else .tuple vs)) := by
    unfold results
    congr 1
  rw [h2]
  simp only [Sem.run_bind, h1, Result.andThen_ok, Sem.run_pure]
end
theorem finish_eld {n0 : Nat} {wb : Bool} {H0 H : Heap} (hn : n0 = H0.length) (hel : Eld n0 wb H0 H) {vs : List Value} {v : Value} {H' : Heap} (hf : finish n0 H vs = (v, H')) : Eld n0 wb H0 H' := by
  unfold finish at hf
  split at hf
  · rename_i ws bs hp
    cases hf
    have hle : n0 ≤ H.length := by rw [hn]; exact hel.1
    refine ⟨by simp; omega, fun b hb k hk => ?_⟩
    obtain ⟨k', h1, h2⟩ := hel.2 b hb k hk
    exact ⟨k', (take_get hb hle).trans h1, h2⟩
  · cases hf; exact hel
/-- What is asked of a function of the table. -/
def DefOk (P : Program) (inv : FuncId → Option Nat) (isPure : Nat → Bool) (ρ : Nat → FuncId) (Gl : Glb) (f : Nat) : Def → Prop
  | .fn F => ∃ fn h, (∀ g, h.pin = some g → Gl.pin = some g) ∧ P.funcs[ρ f]? = some fn ∧ (fn.name == "runtime.NumGoroutine") = false ∧ compFn P inv isPure h fn = some F
  | .ext kind g => Callable P (ρ f) ∧ ∀ xs H v H', g xs H = some (v, H') → Eld H.length (wbOf kind) H H' ∧ ∀ (C : Cx) (w : World) (args : List Value), C.H = H → C.ρ = ρ → WR C w → Prot Gl C w → VRs C xs args →
      Calls P (ρ f) args.toArray w fun en w' => ∃ v', en = .returned v' ∧ Acts C.H.length w.heap.size C w H' v v' w'
/-- The main theorem. -/
theorem callF_ok {P : Program} {inv : FuncId → Option Nat} {isPure : Nat → Bool} {ρ : Nat → FuncId} {T : Tab} {Gl : Glb} (hmix : P.follows .mixedOrders = true) (hi : ∀ f i, inv f = some i → ρ i = f) (hT : ∀ f D, T f = some D → DefOk P inv isPure ρ Gl f D) :
    ∀ k, ClOk P ρ Gl (callF T k) ∧ ClEld (callF T k)
  | 0 => ⟨fun pu f xs H v H' hr => by simp [callF] at hr, fun pu f xs H v H' hr => by simp [callF] at hr⟩
  | k + 1 => by
    obtain ⟨ihc, ihe⟩ := callF_ok hmix hi hT k
    have key : ∀ pu f xs H v H', callF T (k + 1) pu f xs H = some (v, H') → ∃ wb : Bool, (pu = true → wb = false) ∧ Eld H.length wb H H' ∧ Callable P (ρ f) ∧
        ∀ (C : Cx) (w : World) (args : List Value), C.H = H → C.ρ = ρ → WR C w → Prot Gl C w → VRs C xs args →
          Calls P (ρ f) args.toArray w fun en w' => ∃ v', en = .returned v' ∧ Acts C.H.length w.heap.size C w H' v v' w' := by
      intro pu f xs H v H' hr
      simp only [callF] at hr
      split at hr
      · cases hr
      · rename_i D hD
        have hdef := hT f D hD
        split at hr
        · cases hr
        · rename_i hpu
          have hkind : pu = true → wbOf D.kind = false := fun hp => by
            by_cases hk : D.kind = .pure
            · rw [hk]; rfl
            · exact absurd ⟨hp, hk⟩ hpu
          refine ⟨wbOf D.kind, hkind, ?_⟩
          split at hr
          · rename_i kind g
            obtain ⟨h1, h2⟩ := hdef
            obtain ⟨h3, h4⟩ := h2 xs H v H' hr
            exact ⟨h3, h1, h4⟩
          · rename_i F
            obtain ⟨fn, h, hpin, hfn, hname, hcomp⟩ := hdef
            split at hr
            · rename_i hnp
              have hok : ∃ x e H1 vs, code (callF T k) H.length (wbOf F.kind) k F.body (ini xs) H = some (x, e, H1) ∧ (∀ i, x ≠ .exit i) ∧ resVs e H1 F.res = some vs ∧ finish H.length H1 vs = (v, H') := by
                split at hr
                · cases hr
                · cases hr
                · rename_i x e H1 hx hcode
                  obtain ⟨vs, hvs, hfin⟩ := Option.map_eq_some_iff.1 hr
                  exact ⟨x, e, H1, vs, hcode, fun i hi => by first | exact hx i hi | exact hx i _ _ hi | exact hx i e H1 (by rw [hi]), hvs, hfin⟩
              obtain ⟨x, e, H1, vs, hcode, hx, hvs, hfin⟩ := hok
              have hel := code_eld ihe (Nat.le_refl _) hcode
              -- what the checker saw
              unfold compFn at hcomp
              simp only at hcomp
              split at hcomp
              · cases hcomp
              rename_i hnt
              simp only [bind, Option.bind_eq_some_iff] at hcomp
              obtain ⟨body, hbody, cd, hcd, rs, hrs, hcomp⟩ := hcomp
              split at hcomp
              · cases hcomp
              rename_i hv0
              split at hcomp
              · cases hcomp
              rename_i hk0
              split at hcomp
              · cases hcomp
              cases hcomp
              dsimp only at hnp hcode hvs hel
              refine ⟨finish_eld rfl hel hfin, ⟨fn, hfn, hname, by rw [hbody]; rfl⟩, fun C w args hCH hCρ hW hG hargs => ?_⟩
              subst hCH
              have hal : args.length = xs.length := hargs.1.symm
              refine calls_of_wp hfn hbody ?_
              have hini : ∀ s, xs.length ≤ s → ini xs s = U := fun s hs => by simp [ini, List.getD_eq_getElem?_getD, List.getElem?_eq_none hs]
              have hkp : ∀ s, s < xs.length → h.keep.contains s = true := fun s hs => by
                have h1 : ∀ y, y < fn.params.size + fn.nfree → y ∈ h.keep := by simpa using hk0
                have := h1 s (by omega)
                simpa [List.contains_iff_mem] using this
              have hvp : ∀ s, h.vars.contains s = true → xs.length ≤ s := fun s hs => by
                rcases Nat.lt_or_ge s xs.length with h1 | h1
                · exfalso
                  refine hv0 ?_
                  rw [List.any_eq_true]
                  exact ⟨s, List.mem_range.2 (by omega), hs⟩
                · exact h1
              have htm : ∀ s, (args.toArray ++ Array.replicate (fn.ntmps - args.toArray.size) undef).getD s undef = args.getD s undef := fun s => by
                rw [Array.getD_eq_getD_getElem?, Array.getElem?_append]
                simp only [List.size_toArray, List.getElem?_toArray]
                split
                · rw [List.getD_eq_getElem?_getD]
                · rename_i h1
                  rw [List.getD_eq_getElem?_getD, List.getElem?_eq_none (by omega), Array.getElem?_replicate]
                  split <;> rfl
              have hb0 : Bd h fn.ntmps C.H.length w.heap.size C w C (ini xs) ⟨args.toArray ++ Array.replicate (fn.ntmps - args.toArray.size) undef, []⟩ w := by
                refine ⟨⟨fun s _ _ _ => ?_, fun p hp hh => ?_, fun p p' B hp hp' hh => ?_, fun s p o hs => by simp [amFind] at hs, fun s p hs => by simp [amFind] at hs, rfl, ?_⟩, fun s hs => ?_, hW, .refl hW, rfl⟩
                · rw [htm]
                  rcases Nat.lt_or_ge s xs.length with h1 | h1
                  · have h2 : s < args.length := by omega
                    have := hargs.2 s h1 h2
                    simpa [ini, List.getD_eq_getElem?_getD, List.getElem?_eq_getElem h1, List.getElem?_eq_getElem h2] using this
                  · rw [hini s h1, List.getD_eq_getElem?_getD, List.getElem?_eq_none (by omega)]
                    exact VR.u
                · rw [hini p (hvp p (isVar_vars hp))] at hh; cases hh
                · rw [hini p (hvp p (isVar_vars hp))] at hh; cases hh
                · simp; omega
                · refine hini s ?_
                  rcases Nat.lt_or_ge s xs.length with h1 | h1
                  · rw [hkp s h1] at hs; cases hs
                  · exact h1
              refine code_sound (C0 := C) (w0 := w) hmix (by rw [hCρ]; exact ihc) hG (fun B o hB => hG.lt hB) ihe ⟨fun f i hf => by rw [hCρ]; exact hi f i hf, hpin⟩ (Nat.le_refl _) (Nat.le_refl _) hcd hcode hb0 fun C' a' w' hH' hb' => ?_
              have hfin' : a'.defers = [] ∧ ∃ v', (results fn a'.tmps).run P w' = .ok v' w' ∧ ∃ v'', Ending.returned v' = .returned v'' ∧ Acts C.H.length w.heap.size C w H' v v'' w' := by
                refine ⟨hb'.st.defers, ?_⟩
                subst hH'
                obtain ⟨vs', h1, h2⟩ := results_sound hb'.st hb'.wr hrs hvs
                obtain ⟨C2, g1, g2, g3, ws, rfl, g5⟩ := finish_sound hW hb'.wr hb'.ext hel h2 hfin
                exact ⟨_, run_results h1, _, rfl, C2, g1, g2, g3, one_sound g5⟩
              cases x with
              | normal => exact hfin'
              | ret => exact hfin'
              | exit i => exact absurd rfl (hx i)
            · cases hr
    refine ⟨fun pu f xs H v H' hr => ?_, fun pu f xs H v H' hr => ?_⟩
    · obtain ⟨_, _, _, h1, h2⟩ := key pu f xs H v H' hr
      exact ⟨h1, h2⟩
    · obtain ⟨wb, h1, h2, _⟩ := key pu f xs H v H' hr
      refine ⟨h2.le (Nat.le_refl _) (fun h => by cases h), fun hp => ?_⟩
      rw [h1 hp] at h2
      exact h2
end Fb
