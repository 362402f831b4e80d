/- The law over its arguments. -/
import Derived.Test.YtholaggmhhjjkaaUse2
import Derived.Test.YtholaggmhhjjkaaRdl
set_option linter.unusedVariables false
set_option linter.unusedSimpArgs false
namespace Fb
open Go
theorem okK_i8 {n : Int} (h : okK .i8 n) : i8 n := by
  have : (decide (IntKind.min .i8 ≤ n) && decide (n ≤ IntKind.max .i8)) = true := h
  simp at this
  have e1 : IntKind.min .i8 = -128 := by decide
  have e2 : IntKind.max .i8 = 127 := by decide
  omega
theorem okK_u16 {n : Int} (h : okK .u16 n) : 0 ≤ n ∧ n ≤ 65535 := by
  have : (decide (IntKind.min .u16 ≤ n) && decide (n ≤ IntKind.max .u16)) = true := h
  simp at this
  have e1 : IntKind.min .u16 = 0 := by decide
  have e2 : IntKind.max .u16 = 65535 := by decide
  omega
theorem maxLen_le : maxLen ≤ 9223372036854775807 := by decide
/-- A slice of things of one kind, as an argument. -/
theorem sl_rows {H : Heap} {x : Value} {sz : Nat} {e : Ty} {α : Type} {f : α → List Value} {p : α → Prop} (h : RdV H (.slc sz e) x) (he : ∀ vs, vs.length = sz → Rd H e vs → ∃ a, vs = f a ∧ p a) :
    ∃ l, SlR H x sz l.length (rowsC f l) ∧ l.length ≤ 9223372036854775807 ∧ ∀ a ∈ l, p a := by
  obtain ⟨n, vs, h1, h2⟩ := rdV_slc h
  obtain ⟨l, rfl, h3, h4⟩ := rows_of (f := f) (p := p) h1.size fun i hi => he _ (elem_length h1.size hi) (h2 i hi)
  subst h3
  exact ⟨l, SlR.of h1.size h1.is, Nat.le_trans h1.le maxLen_le, h4⟩
abbrev u16 (n : Int) : Prop := 0 ≤ n ∧ n ≤ 65535
def TyFrame : Ty := .arr 12 1 (.int .u16)
def TyKey : Ty := .st 3 (.fcons 0 1 (.int .i16) (.fcons 1 1 (.int .i8) (.fcons 2 1 (.int .i8) .fnil)))
def TyPart : Ty := .st 14 (.fcons 0 12 TyFrame (.fcons 12 1 (.int .i8) (.fcons 13 1 (.slc 3 TyKey) .fnil)))
theorem key {H : Heap} {vs : List Value} (h : Rd H TyKey vs) : ∃ k, vs = kyC k ∧ (-32768 ≤ k.1 ∧ k.1 ≤ 32767) ∧ i8 k.2.1 ∧ i8 k.2.2 := by
  obtain ⟨hl, ⟨a, h1, ha⟩, ⟨b, h2, hb⟩, ⟨c, h3, hc⟩, _⟩ := h
  obtain ⟨u, v, w, rfl⟩ : ∃ u v w, vs = [u, v, w] := by
    match vs, hl with
    | [u, v, w], _ => exact ⟨u, v, w, rfl⟩
  simp at h1 h2 h3
  subst h1 h2 h3
  exact ⟨(a, b, c), rfl, okK_i16 ha, okK_i8 hb, okK_i8 hc⟩
theorem partV {H : Heap} {vs : List Value} (h : Rd H TyPart vs) : ∃ s y, vs = ptC s y ∧ PtW s ∧ Kr H y s ∧ s.ks.length ≤ 9223372036854775807 := by
  obtain ⟨hl, h1, ⟨a, h2, ha⟩, h3, _⟩ := h
  obtain ⟨f, e, hn, hw⟩ := rd_flat (k := .u16) (n := 12) (by decide) h1
  rw [List.drop_zero] at e
  have t2 : (vs.drop 12).length = 2 := by simp [hl]
  obtain ⟨u, v, e2⟩ : ∃ u v, vs.drop 12 = [u, v] := by
    match hd : vs.drop 12, t2 with
    | [u, v], _ => exact ⟨u, v, rfl⟩
  have e3 : vs.drop 13 = [v] := by rw [show 13 = 12 + 1 from rfl, ← List.drop_drop, e2]; rfl
  rw [e2] at h2
  rw [e3] at h3
  simp at h2
  subst h2
  obtain ⟨l, g1, g2, g3⟩ := sl_rows (x := v) (f := kyC) h3 fun vs _ hr => key hr
  refine ⟨⟨f, a, l, hn⟩, v, ?_, ⟨fun n h => okK_u16 (hw n h), okK_i8 ha, g3⟩, g1, g2⟩
  rw [← List.take_append_drop 12 vs, e, e2]; rfl
theorem rd4 {H : Heap} {A B C D : Ty} {xs : List Value} (h : RdAll H [A, B, C, D] xs) : ∃ a b c d, xs = [a, b, c, d] ∧ RdV H A a ∧ RdV H B b ∧ RdV H C c ∧ RdV H D d := by
  obtain _ | ⟨x, _ | ⟨y, _ | ⟨z, _ | ⟨w, _ | ⟨v, r⟩⟩⟩⟩⟩ := xs
  · exact h.elim
  · exact h.2.elim
  · exact h.2.2.elim
  · exact h.2.2.2.elim
  · exact ⟨x, y, z, w, rfl, h.1, h.2.1, h.2.2.1, h.2.2.2.1⟩
  · exact h.2.2.2.2.elim
def Ty41 : List Ty := [TyPart, TyPart, .int .i64, .int .i64]
theorem law41 {H : Heap} {xs : List Value} (hx : RdAll H Ty41 xs) (ho : ∀ (b : Nat) (k : Blk), H[b]? = some k → k.ro = true) : ∃ H', Call tab false 41 xs H = some (.bool true, H') := by
  obtain ⟨x, y, z, w, rfl, h1, h2, h3, h4⟩ := rd4 hx
  obtain ⟨vs, rfl, h1⟩ := h1
  obtain ⟨ws, rfl, h2⟩ := h2
  obtain ⟨s1, y1, rfl, w1, r1, b1⟩ := partV h1
  obtain ⟨s2, y2, rfl, w2, r2, b2⟩ := partV h2
  obtain ⟨n, rfl, _⟩ := rdV_int h3
  obtain ⟨m, rfl, _⟩ := rdV_int h4
  exact call41 r1 r2 w1 w2 b1 b2
end Fb
