/- The law over its arguments. -/
import Derived.Test.YtholaggmhhjjkabUse3
import Derived.Test.YtholaggmhhjjkabRdl
set_option linter.unusedVariables false
set_option linter.unusedSimpArgs false
namespace Fb
open Go
theorem rd3 {H : Heap} {T T' T'' : Ty} {xs : List Value} (h : RdAll H [T, T', T''] xs) : ∃ x y z, xs = [x, y, z] ∧ RdV H T x ∧ RdV H T' y ∧ RdV H T'' z := by
  obtain _ | ⟨x, _ | ⟨y, _ | ⟨z, _ | ⟨w, r⟩⟩⟩⟩ := xs
  · exact h.elim
  · exact h.2.elim
  · exact h.2.2.elim
  · exact ⟨x, y, z, rfl, h.1, h.2.1, h.2.2.1⟩
  · exact h.2.2.2.elim
theorem okK_u16 {n : Int} (h : okK .u16 n) : 0 ≤ n ∧ n ≤ 65535 := by
  have : (decide (IntKind.min .u16 ≤ n) && decide (n ≤ IntKind.max .u16)) = true := h
  simp at this
  have e1 : IntKind.min .u16 = 0 := by decide
  have e2 : IntKind.max .u16 = 65535 := by decide
  omega
theorem maxLen_le : maxLen ≤ 9223372036854775807 := by decide
/-- A slice of things of one kind, as an argument. -/
theorem sl_rows {H : Heap} {x : Value} {sz : Nat} {e : Ty} {α : Type} {f : α → List Value} {p : α → Prop} (h : RdV H (.slc sz e) x) (he : ∀ vs, vs.length = sz → Rd H e vs → ∃ a, vs = f a ∧ p a) :
    ∃ l, SlR H x sz l.length (rowsC f l) ∧ l.length ≤ 9223372036854775807 ∧ ∀ a ∈ l, p a := by
  obtain ⟨n, vs, h1, h2⟩ := rdV_slc h
  obtain ⟨l, rfl, h3, h4⟩ := rows_of (f := f) (p := p) h1.size fun i hi => he _ (elem_length h1.size hi) (h2 i hi)
  subst h3
  exact ⟨l, SlR.of h1.size h1.is, Nat.le_trans h1.le maxLen_le, h4⟩
abbrev u16 (n : Int) : Prop := 0 ≤ n ∧ n ≤ 65535
def TyFrame : Ty := .arr 12 1 (.int .u16)
def TyBook : Ty := .slc 12 TyFrame
theorem frame {H : Heap} {vs : List Value} (h : Rd H TyFrame vs) : ∃ f, vs = frC f ∧ FrW f := by
  obtain ⟨l, rfl, hl, hw⟩ := rd_flat (k := .u16) (n := 12) (by decide) h
  exact ⟨l, rfl, hl, fun n hn => okK_u16 (hw n hn)⟩
theorem book {H : Heap} {x : Value} (h : RdV H TyBook x) : ∃ b, Bk H x b ∧ b.length ≤ 9223372036854775807 ∧ BkW b :=
  sl_rows (f := frC) h fun vs _ hr => frame hr
def Ty50 : List Ty := [TyBook, TyBook, .int .i64]
theorem law50 {H : Heap} {xs : List Value} (hx : RdAll H Ty50 xs) (ho : ∀ (b : Nat) (k : Blk), H[b]? = some k → k.ro = true) : ∃ H', Call tab false 50 xs H = some (.bool true, H') := by
  obtain ⟨x, y, z, rfl, h, i, j⟩ := rd3 hx
  obtain ⟨b, h1, h2, h3⟩ := book h
  obtain ⟨c, i1, i2, i3⟩ := book i
  obtain ⟨n, rfl, _⟩ := rdV_int j
  exact call50 h1 h3 h2 i1 i3 i2
end Fb
