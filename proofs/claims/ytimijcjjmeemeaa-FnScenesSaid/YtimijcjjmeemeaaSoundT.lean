/- The state of a body: slots, variables, addresses. -/
import Derived.Test.YtimijcjjmeemeaaSoundC
set_option linter.unusedVariables false
set_option linter.unusedSimpArgs false
namespace Fb
open Go

def amFind (am : List (Nat × Nat)) (s : Nat) : Option Nat := (am.find? (·.1 == s)).map (·.2)
/-- Slots and memory. Df: the slots of which something is known. -/
structure St (h : Hint) (am : List (Nat × Nat)) (B0 nt : Nat) (Df : Nat → Prop) (C : Cx) (e : Env) (a : Act) (w : World) : Prop where
  plain : ∀ s, h.vars.contains s = false → amFind am s = none → Df s → VR C (e s) (a.tmps.getD s undef)
  var : ∀ p, isVar h p = true → has (e p) = true → ∃ B, a.tmps.getD p undef = .pointer (some ⟨B, 0, none⟩) ∧ BlkIs C w B (cellsOf (e p)) ∧ B0 ≤ B ∧ ∀ b δ, C.σ b ≠ some (B, δ)
  dist : ∀ p p' B, isVar h p = true → isVar h p' = true → has (e p) = true → has (e p') = true → a.tmps.getD p undef = .pointer (some ⟨B, 0, none⟩) → a.tmps.getD p' undef = .pointer (some ⟨B, 0, none⟩) → p = p'
  adr : ∀ s p o, amFind am s = some p → offV (e s) = some o → isVar h p = true ∧ has (e p) = true ∧ ∃ B, a.tmps.getD s undef = .pointer (some ⟨B, o, none⟩) ∧ a.tmps.getD p undef = .pointer (some ⟨B, 0, none⟩)
  amok : ∀ s p, amFind am s = some p → h.vars.contains s = false ∧ h.keep.contains s = false ∧ h.vars.contains p = true
  defers : a.defers = []
  size : a.tmps.size = nt

section
variable {h : Hint} {am : List (Nat × Nat)} {B0 nt : Nat} {Df : Nat → Prop} {C : Cx} {e : Env} {a : Act} {w : World}
theorem St.at (hS : St h am B0 nt Df C e a w) {df : List Nat} (hd : ∀ s, h.vars.contains s = false → amFind am s = none → (h.keep.contains s = true ∨ s ∈ df) → Df s) : At C h ⟨am, df⟩ e a w := by
  refine ⟨fun s hs => ?_, fun p hp hh => ?_, fun s p o hs ho => hS.adr s p o hs ho⟩
  · simp only [Look.plain, Look.var, Bool.and_eq_true, Bool.not_eq_true', Option.isNone_iff_eq_none, Bool.or_eq_true, List.contains_iff_mem] at hs
    have h1 : h.vars.contains s = false := hs.1.1
    exact hS.plain s h1 hs.1.2 (hd s h1 hs.1.2 (by simpa [List.contains_iff_mem] using hs.2))
  · obtain ⟨B, h1, h2, _⟩ := hS.var p hp hh
    exact ⟨B, h1, h2⟩
theorem BlkIs.frame {C' : Cx} {w' : World} {B : Nat} {l : List Value} (hb : BlkIs C w B l) (hL : Later C C') (hw : w'.heap[B]? = w.heap[B]?) : BlkIs C' w' B l := by
  obtain ⟨cs, elem, h1, h2, h3⟩ := hb
  exact ⟨cs, elem, hw.trans h1, h2, h3.later hL⟩
theorem BlkIs.lt {B : Nat} {l : List Value} (hb : BlkIs C w B l) : B < w.heap.size := by
  obtain ⟨cs, elem, h1, _⟩ := hb
  exact (Array.getElem?_eq_some_iff.1 h1).1
theorem St.frame {n1 : Nat} {C' : Cx} {w' : World} (hS : St h am B0 nt Df C e a w) (hE : Ext n1 w.heap.size C w C' w') : St h am B0 nt Df C' e a w' := by
  refine ⟨fun s h1 h2 h3 => (hS.plain s h1 h2 h3).later hE.toLater, fun p hp hh => ?_, hS.dist, hS.adr, hS.amok, hS.defers, hS.size⟩
  obtain ⟨B, h1, h2, h3, h4⟩ := hS.var p hp hh
  refine ⟨B, h1, h2.frame hE.toLater (hE.keep B h2.lt fun b k δ _ hs => absurd hs (h4 b δ)), h3, fun b δ hs => ?_⟩
  rcases hE.fresh b B δ hs with ⟨h5, _⟩ | h5
  · exact h4 b δ h5
  · have := h2.lt; omega
theorem put_getD {d s : Nat} {v : Value} (hd : d < a.tmps.size) : (a.put (some d) v).tmps.getD s undef = if s = d then v else a.tmps.getD s undef := by
  simp only [Act.put]
  by_cases hs : s = d
  · subst hs; simp [Array.getD_eq_getD_getElem?, hd]
  · simp [Array.getD_eq_getD_getElem?, Array.getElem?_setIfInBounds_ne (Ne.symm hs), hs]
theorem put_size {d : Option Nat} {v : Value} : (a.put d v).tmps.size = a.tmps.size := by
  cases d <;> simp [Act.put]
theorem put_defers {d : Option Nat} {v : Value} : (a.put d v).defers = a.defers := by
  cases d <;> rfl
theorem isVar_vars {p : Nat} (hp : isVar h p = true) : h.vars.contains p = true := by
  simp only [isVar, Bool.and_eq_true] at hp; exact hp.1
/-- A slot that is no variable's is written. -/
theorem St.put_plain (hS : St h am B0 nt Df C e a w) {d : Nat} {v v' : Value} (hd : d < nt) (hv : h.vars.contains d = false) (ha : amFind am d = none) (hr : VR C v v') :
    St h am B0 nt (fun s => Df s ∨ s = d) C (upd e d v) (a.put (some d) v') w := by
  have hg := fun s => put_getD (a := a) (s := s) (v := v') (d := d) (by rw [hS.size]; exact hd)
  have hne : ∀ p, isVar h p = true → p ≠ d := fun p hp e => by subst e; rw [isVar_vars hp] at hv; cases hv
  refine ⟨fun s h1 h2 h3 => ?_, fun p hp hh => ?_, fun p p' B hp hp' hh hh' ht ht' => ?_, fun s p o hs ho => ?_, hS.amok, put_defers.trans hS.defers, put_size.trans hS.size⟩
  · rw [hg]
    by_cases hs : s = d
    · simp only [upd, hs, if_true]; exact hr
    · simp only [upd, hs, if_false]; exact hS.plain s h1 h2 (h3.resolve_right hs)
  · simp only [upd, hne p hp, if_false] at hh ⊢
    rw [hg, if_neg (hne p hp)]
    exact hS.var p hp hh
  · simp only [upd, hne p hp, hne p' hp', if_false] at hh hh'
    rw [hg, if_neg (hne p hp)] at ht
    rw [hg, if_neg (hne p' hp')] at ht'
    exact hS.dist p p' B hp hp' hh hh' ht ht'
  · have hsd : s ≠ d := fun e => by subst e; rw [ha] at hs; cases hs
    simp only [upd, hsd, if_false] at ho
    obtain ⟨h1, h2, B, h3, h4⟩ := hS.adr s p o hs ho
    refine ⟨h1, by simpa only [upd, hne p h1, if_false] using h2, B, ?_, ?_⟩
    · rw [hg, if_neg hsd]; exact h3
    · rw [hg, if_neg (hne p h1)]; exact h4
/-- An address slot is written. -/
theorem St.put_adr (hS : St h am B0 nt Df C e a w) {d p : Nat} {v v' : Value} (hd : d < nt) (ha : amFind am d = some p)
    (hv : ∀ o, offV v = some o → isVar h p = true ∧ has (e p) = true ∧ ∃ B, v' = .pointer (some ⟨B, o, none⟩) ∧ a.tmps.getD p undef = .pointer (some ⟨B, 0, none⟩)) :
    St h am B0 nt (fun s => Df s ∨ s = d) C (upd e d v) (a.put (some d) v') w := by
  have hg := fun s => put_getD (a := a) (s := s) (v := v') (d := d) (by rw [hS.size]; exact hd)
  have hdv := (hS.amok d p ha).1
  have hne : ∀ p, isVar h p = true → p ≠ d := fun p hp e => by subst e; rw [isVar_vars hp] at hdv; cases hdv
  refine ⟨fun s h1 h2 h3 => ?_, fun p hp hh => ?_, fun p p' B hp hp' hh hh' ht ht' => ?_, fun s q o hs ho => ?_, hS.amok, put_defers.trans hS.defers, put_size.trans hS.size⟩
  · have hsd : s ≠ d := fun e => by subst e; rw [ha] at h2; cases h2
    rw [hg]
    simp only [upd, hsd, if_false]; exact hS.plain s h1 h2 (h3.resolve_right hsd)
  · simp only [upd, hne p hp, if_false] at hh ⊢
    rw [hg, if_neg (hne p hp)]
    exact hS.var p hp hh
  · simp only [upd, hne p hp, hne p' hp', if_false] at hh hh'
    rw [hg, if_neg (hne p hp)] at ht
    rw [hg, if_neg (hne p' hp')] at ht'
    exact hS.dist p p' B hp hp' hh hh' ht ht'
  · by_cases hsd : s = d
    · subst hsd
      rw [ha] at hs
      cases hs
      simp only [upd, if_true] at ho
      obtain ⟨h1, h2, B, h3, h4⟩ := hv o ho
      refine ⟨h1, by simpa only [upd, hne p h1, if_false] using h2, B, ?_, ?_⟩
      · rw [hg, if_pos rfl]; exact h3
      · rw [hg, if_neg (hne p h1)]; exact h4
    · simp only [upd, hsd, if_false] at ho
      obtain ⟨h1, h2, B, h3, h4⟩ := hS.adr s q o hs ho
      refine ⟨h1, by simpa only [upd, hne q h1, if_false] using h2, B, ?_, ?_⟩
      · rw [hg, if_neg hsd]; exact h3
      · rw [hg, if_neg (hne q h1)]; exact h4
/-- A variable's slot is written: nothing may hold its address. -/
theorem St.put_var (hS : St h am B0 nt Df C e a w) {d : Nat} {v v' : Value} (hd : d < nt) (hv : h.vars.contains d = true) (hno : ∀ s, amFind am s = some d → offV (e s) = none)
    (hr : has v = true → ∃ B, v' = .pointer (some ⟨B, 0, none⟩) ∧ BlkIs C w B (cellsOf v) ∧ B0 ≤ B ∧ (∀ b δ, C.σ b ≠ some (B, δ)) ∧ ∀ p, isVar h p = true → has (e p) = true → a.tmps.getD p undef ≠ .pointer (some ⟨B, 0, none⟩)) :
    St h am B0 nt (fun s => Df s ∨ s = d) C (upd e d v) (a.put (some d) v') w := by
  have hg := fun s => put_getD (a := a) (s := s) (v := v') (d := d) (by rw [hS.size]; exact hd)
  refine ⟨fun s h1 h2 h3 => ?_, fun p hp hh => ?_, fun p p' B hp hp' hh hh' ht ht' => ?_, fun s q o hs ho => ?_, hS.amok, put_defers.trans hS.defers, put_size.trans hS.size⟩
  · have hsd : s ≠ d := fun e => by subst e; rw [hv] at h1; cases h1
    rw [hg]
    simp only [upd, hsd, if_false]; exact hS.plain s h1 h2 (h3.resolve_right hsd)
  · by_cases hpd : p = d
    · subst hpd
      simp only [upd, if_true] at hh ⊢
      rw [hg, if_pos rfl]
      obtain ⟨B, h1, h2, h3, h4, _⟩ := hr hh
      exact ⟨B, h1, h2, h3, h4⟩
    · simp only [upd, hpd, if_false] at hh ⊢
      rw [hg, if_neg hpd]
      exact hS.var p hp hh
  · rw [hg] at ht ht'
    by_cases hpd : p = d
    · by_cases hpd' : p' = d
      · rw [hpd, hpd']
      · simp only [upd, hpd, hpd', if_true, if_false] at hh hh' ht ht'
        obtain ⟨B', h1, _, _, _, h5⟩ := hr hh
        rw [ht] at h1
        cases h1
        exact absurd ht' (h5 p' hp' hh')
    · by_cases hpd' : p' = d
      · simp only [upd, hpd, hpd', if_true, if_false] at hh hh' ht ht'
        obtain ⟨B', h1, _, _, _, h5⟩ := hr hh'
        rw [ht'] at h1
        cases h1
        exact absurd ht (h5 p hp hh)
      · simp only [upd, hpd, hpd', if_false] at hh hh' ht ht'
        exact hS.dist p p' B hp hp' hh hh' ht ht'
  · have hsd : s ≠ d := fun e => by subst e; have := (hS.amok s q hs).1; rw [hv] at this; cases this
    simp only [upd, hsd, if_false] at ho
    have hqd : q ≠ d := fun e => by subst e; rw [hno s hs] at ho; cases ho
    obtain ⟨h1, h2, B, h3, h4⟩ := hS.adr s q o hs ho
    refine ⟨h1, by simpa only [upd, hqd, if_false] using h2, B, ?_, ?_⟩
    · rw [hg, if_neg hsd]; exact h3
    · rw [hg, if_neg hqd]; exact h4
/-- A variable is written in place. -/
theorem WR.setRow (hW : WR C w) {B : Nat} {cs : Array Value} (hB : ∀ b δ, C.σ b ≠ some (B, δ)) : WR C (w.setRow B cs) := by
  refine ⟨fun b B' δ hs => ?_, hW.one⟩
  obtain ⟨k, hk, c, elem, fz, h1, r⟩ := hW.blk b B' δ hs
  have hne : B' ≠ B := fun e => by subst e; exact hB b δ hs
  exact ⟨k, hk, c, elem, fz, by rw [setRow_other w B B' _ hne]; exact h1, r⟩
theorem St.store (hS : St h am B0 nt Df C e a w) {p B : Nat} {v : Value} {cs : Array Value} (hp : isVar h p = true) (hh : has (e p) = true) (ht : a.tmps.getD p undef = .pointer (some ⟨B, 0, none⟩)) (hhv : has v = true)
    (hb : BlkIs C (w.setRow B cs) B (cellsOf v)) : St h am B0 nt (fun s => Df s ∨ s = p) C (upd e p v) a (w.setRow B cs) := by
  have hpv := isVar_vars hp
  refine ⟨fun s h1 h2 h3 => ?_, fun q hq hhq => ?_, fun q q' B' hq hq' h1 h2 t1 t2 => ?_, fun s q o hs ho => ?_, hS.amok, hS.defers, hS.size⟩
  · have hsd : s ≠ p := fun e => by subst e; rw [hpv] at h1; cases h1
    simp only [upd, hsd, if_false]; exact hS.plain s h1 h2 (h3.resolve_right hsd)
  · obtain ⟨B1, g1, g2, g3, g4⟩ := hS.var p hp hh
    rw [ht] at g1; cases g1
    by_cases hqp : q = p
    · subst hqp
      simp only [upd, if_true]
      exact ⟨B, ht, hb, g3, g4⟩
    · simp only [upd, hqp, if_false] at hhq ⊢
      obtain ⟨B2, k1, k2, k3, k4⟩ := hS.var q hq hhq
      have hne : B2 ≠ B := fun e => by subst e; exact hqp (hS.dist q p B2 hq hp hhq hh k1 ht)
      exact ⟨B2, k1, k2.frame (.refl C) (setRow_other w B B2 _ hne), k3, k4⟩
  · have hx : ∀ q, has (upd e p v q) = true → has (e q) = true := fun q hq => by
      by_cases hqp : q = p
      · rw [hqp]; exact hh
      · simpa only [upd, hqp, if_false] using hq
    exact hS.dist q q' B' hq hq' (hx q h1) (hx q' h2) t1 t2
  · have hsd : s ≠ p := fun e => by subst e; have := (hS.amok s q hs).1; rw [hpv] at this; cases this
    simp only [upd, hsd, if_false] at ho
    obtain ⟨h1, h2, B', h3, h4⟩ := hS.adr s q o hs ho
    refine ⟨h1, ?_, B', h3, h4⟩
    by_cases hqp : q = p
    · simp only [upd, hqp, if_true]; exact hhv
    · simpa only [upd, hqp, if_false] using h2
theorem St.none (hS : St h am B0 nt Df C e a w) {v : Value} : St h am B0 nt Df C e (a.put Option.none v) w := hS
theorem St.weak {Df' : Nat → Prop} (hS : St h am B0 nt Df C e a w) (hd : ∀ s, Df' s → Df s) : St h am B0 nt Df' C e a w :=
  ⟨fun s h1 h2 h3 => hS.plain s h1 h2 (hd s h3), hS.var, hS.dist, hS.adr, hS.amok, hS.defers, hS.size⟩
end
end Fb
