/- Regions as a whole. -/
import Derived.Test.YtimijcjjmeemeaaSoundM
set_option linter.unusedVariables false
set_option linter.unusedSimpArgs false
namespace Fb
open Go

/- What the checks say. -/
section
variable {P : Program} {inv : FuncId → Option Nat} {isPure : Nat → Bool} {h : Hint} {nt : Nat} {slots : Nat → Option Nat} {am : List (Nat × Nat)}
theorem compOps_spec : ∀ {l : List Oper} {ss : List Stm}, compOps P inv isPure h nt slots am l = some ss → ss.length = l.length ∧ ∀ (i : Nat) (o : Oper), l[i]? = some o → ∃ s, ss[i]? = some s ∧ stmOf P inv isPure h nt slots am o = some s
  | [], ss, hc => by cases hc; exact ⟨rfl, fun i o ho => by simp at ho⟩
  | o :: r, ss, hc => by
    simp only [compOps] at hc
    obtain ⟨s, hs, hc⟩ := Option.bind_eq_some_iff.1 hc
    obtain ⟨r', hr, rfl⟩ := Option.map_eq_some_iff.1 hc
    obtain ⟨h1, h2⟩ := compOps_spec hr
    refine ⟨by simp [h1], fun i o' ho => ?_⟩
    cases i with
    | zero => cases ho; exact ⟨s, rfl, hs⟩
    | succ i => exact h2 i o' (by simpa using ho)
theorem withFloats_spec {bs : List Nat} : ∀ {l ahead : List (Nat × Stm)}, ∀ x ∈ withFloats bs ahead l, ∃ s, (x.1, s) ∈ l ∧ x.2 = { s with fl := x.2.fl }
  | [], _, x, hx => by cases hx
  | (i, s) :: r, ahead, x, hx => by
    simp only [withFloats] at hx
    rcases List.mem_cons.1 hx with rfl | hx
    · exact ⟨s, by simp, rfl⟩
    · obtain ⟨s', h1, h2⟩ := withFloats_spec x hx
      exact ⟨s', List.mem_cons_of_mem _ h1, h2⟩
theorem arrange_spec {bs : List Nat} {ss : List Stm} : ∀ x ∈ arrange bs ss, ∃ s, ss[x.1]? = some s ∧ x.2 = { s with fl := x.2.fl } := by
  intro x hx
  obtain ⟨s, h1, h2⟩ := withFloats_spec x hx
  obtain ⟨i, _, h3⟩ := List.mem_filterMap.1 h1
  obtain ⟨s', h4, h5⟩ := Option.map_eq_some_iff.1 h3
  cases h5
  exact ⟨s, h4, h2⟩
theorem orderOk_spec {bs : List Nat} : ∀ {xs : List (Nat × Stm)}, orderOk bs xs = true → ∀ (p q i : Nat) (a : Stm) (j : Nat) (b : Stm), p < q → xs[p]? = some (i, a) → xs[q]? = some (j, b) → ∃ m, bs[j]? = some m ∧ i ≠ j ∧ pairOk (m.testBit i) a b = true
  | [], _, p, q, i, a, j, b, _, hp, _ => by simp at hp
  | (i0, a0) :: r, hx, p, q, i, a, j, b, hpq, hp, hq => by
    simp only [orderOk, Bool.and_eq_true] at hx
    obtain ⟨q', rfl⟩ : ∃ q', q = q' + 1 := ⟨q - 1, by omega⟩
    have hq : r[q']? = some (j, b) := by simpa using hq
    cases p with
    | zero =>
      cases hp
      have := List.all_eq_true.1 hx.1 (j, b) (List.mem_of_getElem? hq)
      simp only at this
      split at this
      · rename_i m hm
        simp only [Bool.and_eq_true, bne_iff_ne, ne_eq] at this
        exact ⟨m, hm, this.1, this.2⟩
      · cases this
    | succ p =>
      have hp : r[p]? = some (i, a) := by simpa using hp
      exact orderOk_spec hx.2 p q' i a j b (by omega) hp hq
theorem noRemade_spec : ∀ {xs : List Stm}, noRemade h xs = true → ∀ (p q : Nat) (a b : Stm), p < q → xs[p]? = some a → xs[q]? = some b → remade h a b = false
  | [], _, p, q, a, b, _, hp, _ => by simp at hp
  | a0 :: r, hx, p, q, a, b, hpq, hp, hq => by
    simp only [noRemade, Bool.and_eq_true] at hx
    obtain ⟨q', rfl⟩ : ∃ q', q = q' + 1 := ⟨q - 1, by omega⟩
    have hq : r[q']? = some b := by simpa using hq
    cases p with
    | zero =>
      cases hp
      have := List.all_eq_true.1 hx.1 b (List.mem_of_getElem? hq)
      simpa using this
    | succ p => exact noRemade_spec hx.2 p q' a b (by omega) (by simpa using hp) hq
theorem defOk_spec {looks : Nat → List Nat} : ∀ {xs : List (Nat × Stm)} {wl : List Nat}, defOk h am looks wl xs = true → ∀ (p i : Nat) (s : Stm), xs[p]? = some (i, s) → ∀ t ∈ looks i, t ∈ s.rds ∧
      (h.vars.contains t = true ∨ h.keep.contains t = true ∨ (amFind am t).isSome = true ∨ t ∈ wl ∨ ∃ (q j : Nat) (b : Stm), q < p ∧ xs[q]? = some (j, b) ∧ b.d = some t)
  | [], _, _, p, i, s, hp, t, _ => by simp at hp
  | (i0, s0) :: r, wl, hx, p, i, s, hp, t, ht => by
    simp only [defOk, Bool.and_eq_true] at hx
    cases p with
    | zero =>
      cases hp
      have h1 := List.all_eq_true.1 hx.1 t ht
      simp only [Bool.and_eq_true, Bool.or_eq_true, List.contains_iff_mem] at h1
      refine ⟨h1.1, ?_⟩
      rcases h1.2 with ((h2 | h2) | h2) | h2
      · exact .inl (by simpa [List.contains_iff_mem] using h2)
      · exact .inr (.inl (by simpa [List.contains_iff_mem] using h2))
      · exact .inr (.inr (.inl (by simpa [amFind] using h2)))
      · exact .inr (.inr (.inr (.inl h2)))
    | succ p =>
      obtain ⟨h1, h2⟩ := defOk_spec hx.2 p i s (by simpa using hp) t ht
      refine ⟨h1, ?_⟩
      rcases h2 with h2 | h2 | h2 | h2 | ⟨q, j, b, h3, h4, h5⟩
      · exact .inl h2
      · exact .inr (.inl h2)
      · exact .inr (.inr (.inl h2))
      · rcases List.mem_append.1 h2 with h3 | h3
        · exact .inr (.inr (.inr (.inr ⟨0, i0, s0, by omega, rfl, by simpa using h3⟩)))
        · exact .inr (.inr (.inr (.inl h3)))
      · exact .inr (.inr (.inr (.inr ⟨q + 1, j, b, by omega, by simpa using h4, h5⟩)))
end
/-- Sets of operations that are closed under what binds. -/
def Closed (ops : List Oper) (L : Nat → Prop) : Prop := ∀ j o, ops[j]? = some o → L j → ∀ e ∈ o.after.toList, Region.binds .any e = true → L e.on
theorem bits_spec {L : Nat → Prop} {acc : List Nat} (ha : ∀ j m i, acc[j]? = some m → m.testBit i = true → L j → L i) : ∀ {es : List Edge}, (∀ e ∈ es, Region.binds .any e = true → L e.on) → ∀ i, (bitsAfter acc es).testBit i = true → L i
  | [], _, i, hi => by simp [bitsAfter] at hi
  | e :: r, he, i, hi => by
    simp only [bitsAfter] at hi
    have ih := bits_spec ha (es := r) fun e' h' => he e' (List.mem_cons_of_mem _ h')
    split at hi
    · rename_i hb
      have hL := he e (by simp) hb
      simp only [Nat.testBit_or, Bool.or_eq_true] at hi
      rcases hi with (hi | hi) | hi
      · exact ih i hi
      · rw [Nat.one_shiftLeft, Nat.testBit_two_pow] at hi
        have : e.on = i := by simpa using hi
        rw [← this]; exact hL
      · cases hg : acc[e.on]? with
        | none => rw [List.getD_eq_getElem?_getD, hg] at hi; simp at hi
        | some m => rw [List.getD_eq_getElem?_getD, hg] at hi; exact ha _ m i hg hi hL
    · exact ih i hi
theorem behind_spec {ops : List Oper} {L : Nat → Prop} (hL : Closed ops L) : ∀ {r : List Oper} {acc : List Nat}, (∀ k o, r[k]? = some o → ops[acc.length + k]? = some o) → (∀ j m i, acc[j]? = some m → m.testBit i = true → L j → L i) →
    ∀ j m i, (behind acc r)[j]? = some m → m.testBit i = true → L j → L i
  | [], acc, _, ha, j, m, i, hj, hi, hl => ha j m i hj hi hl
  | o :: r, acc, hr, ha, j, m, i, hj, hi, hl => by
    simp only [behind] at hj
    refine behind_spec hL (r := r) (acc := acc ++ [bitsAfter acc o.after.toList]) (fun k o' ho => ?_) (fun j' m' i' hj' hi' hl' => ?_) j m i hj hi hl
    · have := hr (k + 1) o' (by simpa using ho)
      rw [List.length_append, List.length_singleton, Nat.add_assoc, Nat.add_comm 1 k]; exact this
    · rcases Nat.lt_or_ge j' acc.length with h1 | h1
      · rw [List.getElem?_append_left h1] at hj'
        exact ha j' m' i' hj' hi' hl'
      · rw [List.getElem?_append_right h1] at hj'
        have h2 : j' = acc.length := by
          have := (List.getElem?_eq_some_iff.1 hj').1
          simp at this; omega
        subst h2
        simp only [Nat.sub_self, List.getElem?_cons_zero, Option.some.injEq] at hj'
        subst hj'
        have ho : ops[acc.length]? = some o := hr 0 o rfl
        exact bits_spec ha (fun e he hb => hL _ o ho hl' e he hb) i' hi'
theorem backward_spec {ops : List Oper} (hb : backward ops = true) {j : Nat} {o : Oper} (ho : ops[j]? = some o) : ∀ e ∈ o.after.toList, Region.binds .any e = true → e.on < j := by
  intro e he hbi
  unfold backward at hb
  have h1 : (o, j) ∈ ops.zipIdx := by rw [List.mem_zipIdx_iff_getElem?]; exact ho
  have h2 := List.all_eq_true.1 hb (o, j) h1
  simp only at h2
  have h3 := (Array.all_eq_true_iff_forall_mem.1 h2) e (by simpa using he)
  simpa [hbi] using h3
end Fb
