/- The law over its arguments. -/
import Derived.Test.YtjfmgpnkippbpabUse0
import Derived.Test.YtjfmgpnkippbpabRdl
set_option linter.unusedVariables false
set_option linter.unusedSimpArgs false
namespace Fb
open Go
theorem rd1 {H : Heap} {T : Ty} {xs : List Value} (h : RdAll H [T] xs) : ∃ x, xs = [x] ∧ RdV H T x := by
  obtain _ | ⟨x, _ | ⟨y, r⟩⟩ := xs
  · exact h.elim
  · exact ⟨x, rfl, h.1⟩
  · exact h.2.elim
theorem okK_i8 {n : Int} (h : okK .i8 n) : i8 n := by
  have : (decide (IntKind.min .i8 ≤ n) && decide (n ≤ IntKind.max .i8)) = true := h
  simp at this
  have e1 : IntKind.min .i8 = -128 := by decide
  have e2 : IntKind.max .i8 = 127 := by decide
  omega
theorem okK_u16 {n : Int} (h : okK .u16 n) : 0 ≤ n ∧ n ≤ 65535 := by
  have : (decide (IntKind.min .u16 ≤ n) && decide (n ≤ IntKind.max .u16)) = true := h
  simp at this
  have e1 : IntKind.min .u16 = 0 := by decide
  have e2 : IntKind.max .u16 = 65535 := by decide
  omega
theorem maxLen_le : maxLen ≤ 9223372036854775807 := by decide
/-- A slice of things of one kind, as an argument. -/
theorem sl_rows {H : Heap} {x : Value} {sz : Nat} {e : Ty} {α : Type} {f : α → List Value} {p : α → Prop} (h : RdV H (.slc sz e) x) (he : ∀ vs, vs.length = sz → Rd H e vs → ∃ a, vs = f a ∧ p a) :
    ∃ l, SlR H x sz l.length (rowsC f l) ∧ l.length ≤ 9223372036854775807 ∧ ∀ a ∈ l, p a := by
  obtain ⟨n, vs, h1, h2⟩ := rdV_slc h
  obtain ⟨l, rfl, h3, h4⟩ := rows_of (f := f) (p := p) h1.size fun i hi => he _ (elem_length h1.size hi) (h2 i hi)
  subst h3
  exact ⟨l, SlR.of h1.size h1.is, Nat.le_trans h1.le maxLen_le, h4⟩
def TyChange : Ty := .st 2 (.fcons 0 1 (.int .i8) (.fcons 1 1 (.int .u16) .fnil))
abbrev u16 (n : Int) : Prop := 0 ≤ n ∧ n ≤ 65535
theorem change {H : Heap} {vs : List Value} (h : Rd H TyChange vs) : ∃ m, vs = chC m ∧ i8 m.1 ∧ u16 m.2 := by
  obtain ⟨hl, ⟨a, h1, ha⟩, ⟨b, h2, hb⟩, _⟩ := h
  obtain _ | ⟨v, _ | ⟨w, _ | ⟨u, r⟩⟩⟩ := vs
  · cases hl
  · cases hl
  · simp at h1 h2
    subst h1 h2
    exact ⟨(a, b), rfl, okK_i8 ha, okK_u16 hb⟩
  · simp at hl
def TyStep : Ty := .st 5 (.fcons 0 1 (.int .i8) (.fcons 1 1 (.int .i8) (.fcons 2 1 (.int .i8) (.fcons 3 1 (.int .i8) (.fcons 4 1 (.slc 2 TyChange) .fnil)))))
theorem five {vs : List Value} (h : vs.length = 5) : ∃ a b c d e, vs = [a, b, c, d, e] := by
  obtain _ | ⟨a, _ | ⟨b, _ | ⟨c, _ | ⟨d, _ | ⟨e, _ | ⟨f, r⟩⟩⟩⟩⟩⟩ := vs <;> simp at h
  exact ⟨a, b, c, d, e, rfl⟩
theorem step {H : Heap} {vs : List Value} (h : Rd H TyStep vs) : ∃ a b c d x l, agg vs = stp a b c d x ∧ i8 a ∧ i8 b ∧ i8 c ∧ i8 d ∧ SlR H x 2 l.length (chsC l) ∧ l.length ≤ 9223372036854775807 ∧ ∀ m ∈ l, i8 m.1 ∧ u16 m.2 := by
  obtain ⟨hl, ⟨a, h1, ha⟩, ⟨b, h2, hb⟩, ⟨c, h3, hc⟩, ⟨d, h4, hd⟩, h5, _⟩ := h
  obtain ⟨v, w, u, y, z, rfl⟩ := five hl
  simp at h1 h2 h3 h4 h5
  subst h1 h2 h3 h4
  obtain ⟨l, g1, g2, g3⟩ := sl_rows (x := z) (f := chC) h5 fun vs _ hr => change hr
  exact ⟨a, b, c, d, z, l, rfl, okK_i8 ha, okK_i8 hb, okK_i8 hc, okK_i8 hd, g1, g2, g3⟩
def Ty9 : List Ty := [TyStep]
theorem law9 {H : Heap} {xs : List Value} (hx : RdAll H Ty9 xs) (ho : ∀ (b : Nat) (k : Blk), H[b]? = some k → k.ro = true) : ∃ H', Call tab false 9 xs H = some (.bool true, H') := by
  obtain ⟨x, rfl, vs, rfl, h⟩ := rd1 hx
  obtain ⟨a, b, c, d, y, l, e, ha, hb, hc, hd, g1, g2, g3⟩ := step h
  rw [e]
  exact ⟨_, call9 g1 g2 ha⟩
end Fb
