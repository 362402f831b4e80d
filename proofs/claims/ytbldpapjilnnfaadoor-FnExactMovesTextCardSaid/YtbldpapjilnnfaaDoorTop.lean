/- The law over its arguments. -/
import Derived.Test.YtbldpapjilnnfaaDoorUse1
import Derived.Test.YtbldpapjilnnfaaDoorRdl
set_option linter.unusedVariables false
set_option linter.unusedSimpArgs false
namespace Fb
open Go
theorem rd1 {H : Heap} {T : Ty} {xs : List Value} (h : RdAll H [T] xs) : ∃ x, xs = [x] ∧ RdV H T x := by
  obtain _ | ⟨x, _ | ⟨y, r⟩⟩ := xs
  · exact h.elim
  · exact ⟨x, rfl, h.1⟩
  · exact h.2.elim
theorem okK_i8 {n : Int} (h : okK .i8 n) : i8 n := by
  have : (decide (IntKind.min .i8 ≤ n) && decide (n ≤ IntKind.max .i8)) = true := h
  simp at this
  have e1 : IntKind.min .i8 = -128 := by decide
  have e2 : IntKind.max .i8 = 127 := by decide
  omega
theorem maxLen_le : maxLen ≤ 9223372036854775807 := by decide
/-- A slice of things of one kind, as an argument. -/
theorem sl_rows {H : Heap} {x : Value} {sz : Nat} {e : Ty} {α : Type} {f : α → List Value} {p : α → Prop} (h : RdV H (.slc sz e) x) (he : ∀ vs, vs.length = sz → Rd H e vs → ∃ a, vs = f a ∧ p a) :
    ∃ l, SlR H x sz l.length (rowsC f l) ∧ l.length ≤ 9223372036854775807 ∧ ∀ a ∈ l, p a := by
  obtain ⟨n, vs, h1, h2⟩ := rdV_slc h
  obtain ⟨l, rfl, h3, h4⟩ := rows_of (f := f) (p := p) h1.size fun i hi => he _ (elem_length h1.size hi) (h2 i hi)
  subst h3
  exact ⟨l, SlR.of h1.size h1.is, Nat.le_trans h1.le maxLen_le, h4⟩
def TyMove : Ty := .st 2 (.fcons 0 1 (.int .i8) (.fcons 1 1 (.int .i8) .fnil))
theorem move {H : Heap} {vs : List Value} (h : Rd H TyMove vs) : ∃ m, vs = mvC m ∧ i8 m.1 ∧ i8 m.2 := by
  obtain ⟨hl, ⟨a, h1, ha⟩, ⟨b, h2, hb⟩, _⟩ := h
  obtain _ | ⟨v, _ | ⟨w, _ | ⟨u, r⟩⟩⟩ := vs
  · cases hl
  · cases hl
  · simp at h1 h2
    subst h1 h2
    exact ⟨(a, b), rfl, okK_i8 ha, okK_i8 hb⟩
  · simp at hl
def Ty36 : List Ty := [.slc 2 TyMove]
theorem law36 {H : Heap} {xs : List Value} (hx : RdAll H Ty36 xs) (ho : ∀ (b : Nat) (k : Blk), H[b]? = some k → k.ro = true) : ∃ H', Call tab false 36 xs H = some (.bool true, H') := by
  obtain ⟨x, rfl, h⟩ := rd1 hx
  obtain ⟨l, h1, h2, h3⟩ := sl_rows h fun vs _ hr => move hr
  exact call36 h1 h2 fun i hi => h3 _ (at0_mem hi)
end Fb
