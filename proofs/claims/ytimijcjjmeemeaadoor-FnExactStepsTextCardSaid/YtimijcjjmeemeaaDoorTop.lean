/- The law over its arguments. -/
import Derived.Test.YtimijcjjmeemeaaDoorUse2
import Derived.Test.YtimijcjjmeemeaaDoorRdl
set_option linter.unusedVariables false
set_option linter.unusedSimpArgs false
namespace Fb
open Go
theorem rd1 {H : Heap} {T : Ty} {xs : List Value} (h : RdAll H [T] xs) : ∃ x, xs = [x] ∧ RdV H T x := by
  obtain _ | ⟨x, _ | ⟨y, r⟩⟩ := xs
  · exact h.elim
  · exact ⟨x, rfl, h.1⟩
  · exact h.2.elim
theorem okK_i8 {n : Int} (h : okK .i8 n) : i8 n := by
  have : (decide (IntKind.min .i8 ≤ n) && decide (n ≤ IntKind.max .i8)) = true := h
  simp at this
  have e1 : IntKind.min .i8 = -128 := by decide
  have e2 : IntKind.max .i8 = 127 := by decide
  omega
theorem okK_u16 {n : Int} (h : okK .u16 n) : 0 ≤ n ∧ n ≤ 65535 := by
  have : (decide (IntKind.min .u16 ≤ n) && decide (n ≤ IntKind.max .u16)) = true := h
  simp at this
  have e1 : IntKind.min .u16 = 0 := by decide
  have e2 : IntKind.max .u16 = 65535 := by decide
  omega
theorem maxLen_le : maxLen ≤ 9223372036854775807 := by decide
/-- A slice of things of one kind, as an argument. -/
theorem sl_rows {H : Heap} {x : Value} {sz : Nat} {e : Ty} {α : Type} {f : α → List Value} {p : α → Prop} (h : RdV H (.slc sz e) x) (he : ∀ vs, vs.length = sz → Rd H e vs → ∃ a, vs = f a ∧ p a) :
    ∃ l, SlR H x sz l.length (rowsC f l) ∧ l.length ≤ 9223372036854775807 ∧ ∀ a ∈ l, p a := by
  obtain ⟨n, vs, h1, h2⟩ := rdV_slc h
  obtain ⟨l, rfl, h3, h4⟩ := rows_of (f := f) (p := p) h1.size fun i hi => he _ (elem_length h1.size hi) (h2 i hi)
  subst h3
  exact ⟨l, SlR.of h1.size h1.is, Nat.le_trans h1.le maxLen_le, h4⟩
def TyChange : Ty := .st 2 (.fcons 0 1 (.int .i8) (.fcons 1 1 (.int .u16) .fnil))
abbrev u16 (n : Int) : Prop := 0 ≤ n ∧ n ≤ 65535
theorem change {H : Heap} {vs : List Value} (h : Rd H TyChange vs) : ∃ m, vs = chC m ∧ i8 m.1 ∧ u16 m.2 := by
  obtain ⟨hl, ⟨a, h1, ha⟩, ⟨b, h2, hb⟩, _⟩ := h
  obtain _ | ⟨v, _ | ⟨w, _ | ⟨u, r⟩⟩⟩ := vs
  · cases hl
  · cases hl
  · simp at h1 h2
    subst h1 h2
    exact ⟨(a, b), rfl, okK_i8 ha, okK_u16 hb⟩
  · simp at hl
def TyStep : Ty := .st 5 (.fcons 0 1 (.int .i8) (.fcons 1 1 (.int .i8) (.fcons 2 1 (.int .i8) (.fcons 3 1 (.int .i8) (.fcons 4 1 (.slc 2 TyChange) .fnil)))))
theorem five {vs : List Value} (h : vs.length = 5) : ∃ a b c d e, vs = [a, b, c, d, e] := by
  obtain _ | ⟨a, _ | ⟨b, _ | ⟨c, _ | ⟨d, _ | ⟨e, _ | ⟨f, r⟩⟩⟩⟩⟩⟩ := vs <;> simp at h
  exact ⟨a, b, c, d, e, rfl⟩
theorem step' {H : Heap} {vs : List Value} (h : Rd H TyStep vs) : ∃ s y, vs = stC s y ∧ StW s ∧ Rw H y s ∧ s.rows.length ≤ 9223372036854775807 := by
  obtain ⟨hl, ⟨a, h1, ha⟩, ⟨b, h2, hb⟩, ⟨c, h3, hc⟩, ⟨d, h4, hd⟩, h5, _⟩ := h
  obtain ⟨v, w, u, y, z, rfl⟩ := five hl
  simp at h1 h2 h3 h4 h5
  subst h1 h2 h3 h4
  obtain ⟨l, g1, g2, g3⟩ := sl_rows (x := z) (f := chC) h5 fun vs _ hr => change hr
  exact ⟨⟨a, b, c, d, l⟩, z, rfl, ⟨okK_i8 ha, okK_i8 hb, okK_i8 hc, okK_i8 hd, g3⟩, g1, g2⟩
theorem steps_list {H : Heap} {n : Nat} : ∀ {vs : List Value}, vs.length = n * 5 → (∀ i, i < n → Rd H TyStep (elem vs 5 i)) → ∃ l : List Sted, l.length = n ∧ (∀ i, i < n → ∃ y, elem vs 5 i = stC (at0 l i) y ∧ Rw H y (at0 l i)) ∧ (∀ s ∈ l, StW s) ∧ ∀ s ∈ l, s.rows.length ≤ 9223372036854775807 := by
  induction n with
  | zero => intro vs _ _; exact ⟨[], rfl, fun i hi => by omega, by simp, by simp⟩
  | succ n ih =>
    intro vs hl h
    rw [Nat.succ_mul] at hl
    obtain ⟨s, y, e, w, r, b⟩ := step' (h 0 (by omega))
    have hel : ∀ i, elem (vs.drop 5) 5 i = elem vs 5 (i + 1) := fun i => by
      unfold elem
      rw [List.drop_drop, Nat.succ_mul, Nat.add_comm]
    obtain ⟨l, h1, h2, h3, h4⟩ := ih (vs := vs.drop 5) (by simp; omega) fun i hi => by rw [hel]; exact h (i + 1) (by omega)
    refine ⟨s :: l, by simp [h1], fun i hi => ?_, fun t ht => ?_, fun t ht => ?_⟩
    · cases i with
      | zero => exact ⟨y, e, r⟩
      | succ i =>
        obtain ⟨y', e', r'⟩ := h2 i (by omega)
        have : at0 (s :: l) (i + 1) = at0 l i := by simp [at0]
        rw [this]
        exact ⟨y', by rw [← hel]; exact e', r'⟩
    · rcases List.mem_cons.1 ht with rfl | ht
      · exact w
      · exact h3 t ht
    · rcases List.mem_cons.1 ht with rfl | ht
      · exact b
      · exact h4 t ht
def TySteps : Ty := .slc 5 TyStep
theorem steps {H : Heap} {x : Value} (h : RdV H TySteps x) : ∃ l, StS H x l ∧ StsA l := by
  obtain ⟨n, vs, h1, h2⟩ := rdV_slc h
  obtain ⟨l, e, g1, g2, g3⟩ := steps_list h1.size h2
  subst e
  exact ⟨l, ⟨vs, SlR.of h1.size h1.is, g1⟩, g2, h1.le, g3⟩
def Ty54 : List Ty := [TySteps]
theorem law54 {H : Heap} {xs : List Value} (hx : RdAll H Ty54 xs) (ho : ∀ (b : Nat) (k : Blk), H[b]? = some k → k.ro = true) (hd : H[0]? = some ⟨wrdL.map str, 1, 0, true⟩) : ∃ H', Call tab2 false 54 xs H = some (.bool true, H') := by
  obtain ⟨x, rfl, h⟩ := rd1 hx
  obtain ⟨l, h1, h2⟩ := steps h
  exact ⟨_, call54 hd h1 h2⟩
end Fb
