/- The law over its arguments. -/
import Derived.Test.YtkkncjfgnielgaaUse0
import Derived.Test.YtkkncjfgnielgaaRdl
set_option linter.unusedVariables false
set_option linter.unusedSimpArgs false
namespace Fb
open Go
theorem rd1 {H : Heap} {T : Ty} {xs : List Value} (h : RdAll H [T] xs) : ∃ x, xs = [x] ∧ RdV H T x := by
  obtain _ | ⟨x, _ | ⟨y, r⟩⟩ := xs
  · exact h.elim
  · exact ⟨x, rfl, h.1⟩
  · exact h.2.elim
theorem okK_i8 {n : Int} (h : okK .i8 n) : i8 n := by
  have : (decide (IntKind.min .i8 ≤ n) && decide (n ≤ IntKind.max .i8)) = true := h
  simp at this
  have e1 : IntKind.min .i8 = -128 := by decide
  have e2 : IntKind.max .i8 = 127 := by decide
  omega
theorem maxLen_le : maxLen ≤ 9223372036854775807 := by decide
/-- A slice of things of one kind, as an argument. -/
theorem sl_rows {H : Heap} {x : Value} {sz : Nat} {e : Ty} {α : Type} {f : α → List Value} {p : α → Prop} (h : RdV H (.slc sz e) x) (he : ∀ vs, vs.length = sz → Rd H e vs → ∃ a, vs = f a ∧ p a) :
    ∃ l, SlR H x sz l.length (rowsC f l) ∧ l.length ≤ 9223372036854775807 ∧ ∀ a ∈ l, p a := by
  obtain ⟨n, vs, h1, h2⟩ := rdV_slc h
  obtain ⟨l, rfl, h3, h4⟩ := rows_of (f := f) (p := p) h1.size fun i hi => he _ (elem_length h1.size hi) (h2 i hi)
  subst h3
  exact ⟨l, SlR.of h1.size h1.is, Nat.le_trans h1.le maxLen_le, h4⟩
def TyStroke : Ty := .st 4 (.fcons 0 1 (.int .i8) (.fcons 1 1 (.int .i8) (.fcons 2 1 (.int .i8) (.fcons 3 1 .bool .fnil))))
theorem stroke {H : Heap} {vs : List Value} (h : Rd H TyStroke vs) : ∃ s, vs = skC s ∧ SkW s := by
  obtain ⟨hl, ⟨a, h1, ha⟩, ⟨b, h2, hb⟩, ⟨c, h3, hc⟩, ⟨d, h4⟩, _⟩ := h
  obtain _ | ⟨v, _ | ⟨w, _ | ⟨u, _ | ⟨t, _ | ⟨r, s⟩⟩⟩⟩⟩ := vs
  · cases hl
  · cases hl
  · cases hl
  · cases hl
  · simp at h1 h2 h3 h4
    subst h1 h2 h3 h4
    exact ⟨⟨a, b, c, d⟩, rfl, okK_i8 ha, okK_i8 hb, okK_i8 hc⟩
  · simp at hl
def Ty14 : List Ty := [.slc 4 TyStroke]
theorem law14 {H : Heap} {xs : List Value} (hx : RdAll H Ty14 xs) (ho : ∀ (b : Nat) (k : Blk), H[b]? = some k → k.ro = true) : ∃ H', Call tab false 14 xs H = some (.bool true, H') := by
  obtain ⟨x, rfl, h⟩ := rd1 hx
  obtain ⟨l, h1, h2, h3⟩ := sl_rows (f := skC) h fun vs _ hr => stroke hr
  exact ⟨_, call14 h1 h2 h3⟩
end Fb
