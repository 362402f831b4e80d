/- The law over its arguments. -/
import Derived.Test.YtholaggmhhjjkabUse2
import Derived.Test.YtholaggmhhjjkabRdl
set_option linter.unusedVariables false
set_option linter.unusedSimpArgs false
namespace Fb
open Go
theorem rd3 {H : Heap} {T T' T'' : Ty} {xs : List Value} (h : RdAll H [T, T', T''] xs) : ∃ x y z, xs = [x, y, z] ∧ RdV H T x ∧ RdV H T' y ∧ RdV H T'' z := by
  obtain _ | ⟨x, _ | ⟨y, _ | ⟨z, _ | ⟨w, r⟩⟩⟩⟩ := xs
  · exact h.elim
  · exact h.2.elim
  · exact h.2.2.elim
  · exact ⟨x, y, z, rfl, h.1, h.2.1, h.2.2.1⟩
  · exact h.2.2.2.elim
theorem okK_i8 {n : Int} (h : okK .i8 n) : i8 n := by
  have : (decide (IntKind.min .i8 ≤ n) && decide (n ≤ IntKind.max .i8)) = true := h
  simp at this
  have e1 : IntKind.min .i8 = -128 := by decide
  have e2 : IntKind.max .i8 = 127 := by decide
  omega
theorem okK_u16 {n : Int} (h : okK .u16 n) : 0 ≤ n ∧ n ≤ 65535 := by
  have : (decide (IntKind.min .u16 ≤ n) && decide (n ≤ IntKind.max .u16)) = true := h
  simp at this
  have e1 : IntKind.min .u16 = 0 := by decide
  have e2 : IntKind.max .u16 = 65535 := by decide
  omega
theorem maxLen_le : maxLen ≤ 9223372036854775807 := by decide
/-- A slice of things of one kind, as an argument. -/
theorem sl_rows {H : Heap} {x : Value} {sz : Nat} {e : Ty} {α : Type} {f : α → List Value} {p : α → Prop} (h : RdV H (.slc sz e) x) (he : ∀ vs, vs.length = sz → Rd H e vs → ∃ a, vs = f a ∧ p a) :
    ∃ l, SlR H x sz l.length (rowsC f l) ∧ l.length ≤ 9223372036854775807 ∧ ∀ a ∈ l, p a := by
  obtain ⟨n, vs, h1, h2⟩ := rdV_slc h
  obtain ⟨l, rfl, h3, h4⟩ := rows_of (f := f) (p := p) h1.size fun i hi => he _ (elem_length h1.size hi) (h2 i hi)
  subst h3
  exact ⟨l, SlR.of h1.size h1.is, Nat.le_trans h1.le maxLen_le, h4⟩
abbrev u16 (n : Int) : Prop := 0 ≤ n ∧ n ≤ 65535
def TyFrame : Ty := .arr 12 1 (.int .u16)
def TyKey : Ty := .st 3 (.fcons 0 1 (.int .i16) (.fcons 1 1 (.int .i8) (.fcons 2 1 (.int .i8) .fnil)))
def TyPart : Ty := .st 14 (.fcons 0 12 TyFrame (.fcons 12 1 (.int .i8) (.fcons 13 1 (.slc 3 TyKey) .fnil)))
def TyParts : Ty := .slc 14 TyPart
theorem key {H : Heap} {vs : List Value} (h : Rd H TyKey vs) : ∃ k, vs = kyC k ∧ (-32768 ≤ k.1 ∧ k.1 ≤ 32767) ∧ i8 k.2.1 ∧ i8 k.2.2 := by
  obtain ⟨hl, ⟨a, h1, ha⟩, ⟨b, h2, hb⟩, ⟨c, h3, hc⟩, _⟩ := h
  obtain ⟨u, v, w, rfl⟩ : ∃ u v w, vs = [u, v, w] := by
    match vs, hl with
    | [u, v, w], _ => exact ⟨u, v, w, rfl⟩
  simp at h1 h2 h3
  subst h1 h2 h3
  exact ⟨(a, b, c), rfl, okK_i16 ha, okK_i8 hb, okK_i8 hc⟩
theorem partV {H : Heap} {vs : List Value} (h : Rd H TyPart vs) : ∃ s y, vs = ptC s y ∧ PtW s ∧ Kr H y s ∧ s.ks.length ≤ 9223372036854775807 := by
  obtain ⟨hl, h1, ⟨a, h2, ha⟩, h3, _⟩ := h
  obtain ⟨f, e, hn, hw⟩ := rd_flat (k := .u16) (n := 12) (by decide) h1
  rw [List.drop_zero] at e
  have t2 : (vs.drop 12).length = 2 := by simp [hl]
  obtain ⟨u, v, e2⟩ : ∃ u v, vs.drop 12 = [u, v] := by
    match hd : vs.drop 12, t2 with
    | [u, v], _ => exact ⟨u, v, rfl⟩
  have e3 : vs.drop 13 = [v] := by rw [show 13 = 12 + 1 from rfl, ← List.drop_drop, e2]; rfl
  rw [e2] at h2
  rw [e3] at h3
  simp at h2
  subst h2
  obtain ⟨l, g1, g2, g3⟩ := sl_rows (x := v) (f := kyC) h3 fun vs _ hr => key hr
  refine ⟨⟨f, a, l, hn⟩, v, ?_, ⟨fun n h => okK_u16 (hw n h), okK_i8 ha, g3⟩, g1, g2⟩
  rw [← List.take_append_drop 12 vs, e, e2]; rfl
theorem parts_list {H : Heap} {n : Nat} : ∀ {vs : List Value}, vs.length = n * 14 → (∀ i, i < n → Rd H TyPart (elem vs 14 i)) → ∃ l : List Pt, l.length = n ∧ (∀ i, i < n → ∃ y, elem vs 14 i = ptC (at0 l i) y ∧ Kr H y (at0 l i)) ∧ (∀ s ∈ l, PtW s) ∧ ∀ s ∈ l, s.ks.length ≤ 9223372036854775807 := by
  induction n with
  | zero => intro vs _ _; exact ⟨[], rfl, fun i hi => by omega, by simp, by simp⟩
  | succ n ih =>
    intro vs hl h
    rw [Nat.succ_mul] at hl
    obtain ⟨s, y, e, w, r, b⟩ := partV (h 0 (by omega))
    have hel : ∀ i, elem (vs.drop 14) 14 i = elem vs 14 (i + 1) := fun i => by
      unfold elem
      rw [List.drop_drop, Nat.succ_mul, Nat.add_comm]
    obtain ⟨l, h1, h2, h3, h4⟩ := ih (vs := vs.drop 14) (by simp; omega) fun i hi => by rw [hel]; exact h (i + 1) (by omega)
    refine ⟨s :: l, by simp [h1], fun i hi => ?_, fun t ht => ?_, fun t ht => ?_⟩
    · cases i with
      | zero => exact ⟨y, e, r⟩
      | succ i =>
        obtain ⟨y', e', r'⟩ := h2 i (by omega)
        have : at0 (s :: l) (i + 1) = at0 l i := by simp [at0]
        rw [this]
        exact ⟨y', by rw [← hel]; exact e', r'⟩
    · rcases List.mem_cons.1 ht with rfl | ht
      · exact w
      · exact h3 t ht
    · rcases List.mem_cons.1 ht with rfl | ht
      · exact b
      · exact h4 t ht
theorem partsV {H : Heap} {x : Value} (h : RdV H TyParts x) : ∃ l, PtS H x l ∧ PtsA l := by
  obtain ⟨n, vs, h1, h2⟩ := rdV_slc h
  obtain ⟨l, e, g1, g2, g3⟩ := parts_list h1.size h2
  subst e
  exact ⟨l, ⟨vs, SlR.of h1.size h1.is, g1⟩, g2, h1.le, g3⟩
def Ty53 : List Ty := [TyParts, .int .i64, .int .i64]
theorem law53 {H : Heap} {xs : List Value} (hx : RdAll H Ty53 xs) (ho : ∀ (b : Nat) (k : Blk), H[b]? = some k → k.ro = true) : ∃ H', Call tab false 53 xs H = some (.bool true, H') := by
  obtain ⟨x, y, z, rfl, h, i, j⟩ := rd3 hx
  obtain ⟨l, h1, h2⟩ := partsV h
  obtain ⟨n, rfl, _⟩ := rdV_int i
  obtain ⟨m, rfl, _⟩ := rdV_int j
  exact call53 h1 h2
end Fb
