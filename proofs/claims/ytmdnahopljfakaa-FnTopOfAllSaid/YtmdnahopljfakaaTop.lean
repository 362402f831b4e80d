/- The law over its arguments. -/
import Derived.Test.YtmdnahopljfakaaUse3
import Derived.Test.YtmdnahopljfakaaRdl
set_option linter.unusedVariables false
set_option linter.unusedSimpArgs false
namespace Fb
open Go
theorem okK_i8 {n : Int} (h : okK .i8 n) : i8 n := by
  have : (decide (IntKind.min .i8 ≤ n) && decide (n ≤ IntKind.max .i8)) = true := h
  simp at this
  have e1 : IntKind.min .i8 = -128 := by decide
  have e2 : IntKind.max .i8 = 127 := by decide
  omega
theorem okK_u16 {n : Int} (h : okK .u16 n) : 0 ≤ n ∧ n ≤ 65535 := by
  have : (decide (IntKind.min .u16 ≤ n) && decide (n ≤ IntKind.max .u16)) = true := h
  simp at this
  have e1 : IntKind.min .u16 = 0 := by decide
  have e2 : IntKind.max .u16 = 65535 := by decide
  omega
theorem maxLen_le : maxLen ≤ 9223372036854775807 := by decide
/-- A slice of things of one kind, as an argument. -/
theorem sl_rows {H : Heap} {x : Value} {sz : Nat} {e : Ty} {α : Type} {f : α → List Value} {p : α → Prop} (h : RdV H (.slc sz e) x) (he : ∀ vs, vs.length = sz → Rd H e vs → ∃ a, vs = f a ∧ p a) :
    ∃ l, SlR H x sz l.length (rowsC f l) ∧ l.length ≤ 9223372036854775807 ∧ ∀ a ∈ l, p a := by
  obtain ⟨n, vs, h1, h2⟩ := rdV_slc h
  obtain ⟨l, rfl, h3, h4⟩ := rows_of (f := f) (p := p) h1.size fun i hi => he _ (elem_length h1.size hi) (h2 i hi)
  subst h3
  exact ⟨l, SlR.of h1.size h1.is, Nat.le_trans h1.le maxLen_le, h4⟩
abbrev u16 (n : Int) : Prop := 0 ≤ n ∧ n ≤ 65535
def TyFrame : Ty := .arr 12 1 (.int .u16)
def TyBook : Ty := .slc 12 TyFrame
theorem frame {H : Heap} {vs : List Value} (h : Rd H TyFrame vs) : ∃ f, vs = frC f ∧ FrW f := by
  obtain ⟨l, rfl, hl, hw⟩ := rd_flat (k := .u16) (n := 12) (by decide) h
  exact ⟨l, rfl, hl, fun n hn => okK_u16 (hw n hn)⟩
theorem book {H : Heap} {x : Value} (h : RdV H TyBook x) : ∃ b, Bk H x b ∧ b.length ≤ 9223372036854775807 ∧ BkW b :=
  sl_rows (f := frC) h fun vs _ hr => frame hr
def TyCel : Ty := .st 24 (.fcons 0 12 TyFrame (.fcons 12 12 TyFrame .fnil))
def TyLayer : Ty := .st 27 (.fcons 0 24 TyCel (.fcons 24 1 (.int .i8) (.fcons 25 1 (.int .i8) (.fcons 26 1 (.int .i8) .fnil))))
def TyScene : Ty := .slc 27 TyLayer
theorem layer {H : Heap} {vs : List Value} (h : Rd H TyLayer vs) : ∃ s, vs = lyC s ∧ LyW s := by
  obtain ⟨hl, h1, ⟨a, h2, ha⟩, ⟨b, h3, hb⟩, ⟨c, h4, hc⟩, _⟩ := h
  obtain ⟨l, e, hn, hw⟩ := rd_flat (k := .u16) (n := 24) (by decide) h1
  rw [List.drop_zero] at e
  have t3 : (vs.drop 24).length = 3 := by simp [hl]
  obtain ⟨u, v, w, e2⟩ : ∃ u v w, vs.drop 24 = [u, v, w] := by
    match hd : vs.drop 24, t3 with
    | [u, v, w], _ => exact ⟨u, v, w, rfl⟩
  have e3 : vs.drop 25 = [v, w] := by rw [show 25 = 24 + 1 from rfl, ← List.drop_drop, e2]; rfl
  have e4 : vs.drop 26 = [w] := by rw [show 26 = 24 + 2 from rfl, ← List.drop_drop, e2]; rfl
  rw [e2] at h2
  rw [e3] at h3
  rw [e4] at h4
  simp at h2 h3 h4
  subst h2 h3 h4
  refine ⟨⟨l, a, b, c⟩, ?_, hn, fun n h => okK_u16 (hw n h), okK_i8 ha, okK_i8 hb, okK_i8 hc⟩
  rw [← List.take_append_drop 24 vs, e, e2]; rfl
theorem scene {H : Heap} {x : Value} (h : RdV H TyScene x) : ∃ b, Sc H x b ∧ b.length ≤ 9223372036854775807 ∧ ScW b :=
  sl_rows (f := lyC) h fun vs _ hr => layer hr
theorem rd5 {H : Heap} {A B C D E : Ty} {xs : List Value} (h : RdAll H [A, B, C, D, E] xs) : ∃ a b c d e, xs = [a, b, c, d, e] ∧ RdV H A a ∧ RdV H B b ∧ RdV H C c ∧ RdV H D d ∧ RdV H E e := by
  obtain _ | ⟨a, _ | ⟨b, _ | ⟨c, _ | ⟨d, _ | ⟨e, _ | ⟨g, r⟩⟩⟩⟩⟩⟩ := xs
  · exact h.elim
  · exact h.2.elim
  · exact h.2.2.elim
  · exact h.2.2.2.elim
  · exact h.2.2.2.2.elim
  · exact ⟨a, b, c, d, e, rfl, h.1, h.2.1, h.2.2.1, h.2.2.2.1, h.2.2.2.2.1⟩
  · exact h.2.2.2.2.2.elim
def Ty55 : List Ty := [TyBook, .int .i64, TyScene, .int .i64, .int .i64]
theorem law55 {H : Heap} {xs : List Value} (hx : RdAll H Ty55 xs) (ho : ∀ (b : Nat) (k : Blk), H[b]? = some k → k.ro = true) : ∃ H', Call tab false 55 xs H = some (.bool true, H') := by
  obtain ⟨x, m, z, u, v, rfl, hx, hm, hz, hu, hv⟩ := rd5 hx
  obtain ⟨b, h1, h2, h3⟩ := book hx
  obtain ⟨l, g1, g2, g3⟩ := scene hz
  obtain ⟨m, rfl, _⟩ := rdV_int hm
  obtain ⟨u, rfl, _⟩ := rdV_int hu
  obtain ⟨v, rfl, _⟩ := rdV_int hv
  exact ⟨_, call55 h1 h3 h2 g1 g3 g2⟩
end Fb
