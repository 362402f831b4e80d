/- The law over its arguments. -/
import Derived.Test.YtkkncjfgnielgabUse0
import Derived.Test.YtkkncjfgnielgabRdl
set_option linter.unusedVariables false
set_option linter.unusedSimpArgs false
namespace Fb
open Go
theorem rd2 {H : Heap} {T T' : Ty} {xs : List Value} (h : RdAll H [T, T'] xs) : ∃ x y, xs = [x, y] ∧ RdV H T x ∧ RdV H T' y := by
  obtain _ | ⟨x, _ | ⟨y, _ | ⟨z, r⟩⟩⟩ := xs
  · exact h.elim
  · exact h.2.elim
  · exact ⟨x, y, rfl, h.1, h.2.1⟩
  · exact h.2.2.elim
theorem okK_u16 {n : Int} (h : okK .u16 n) : 0 ≤ n ∧ n ≤ 65535 := by
  have : (decide (IntKind.min .u16 ≤ n) && decide (n ≤ IntKind.max .u16)) = true := h
  simp at this
  have e1 : IntKind.min .u16 = 0 := by decide
  have e2 : IntKind.max .u16 = 65535 := by decide
  omega
abbrev u16 (n : Int) : Prop := 0 ≤ n ∧ n ≤ 65535
def TyFrame : Ty := .arr 12 1 (.int .u16)
theorem frame {H : Heap} {vs : List Value} (h : Rd H TyFrame vs) : ∃ f, vs = frC f ∧ FrW f := by
  obtain ⟨l, rfl, hl, hw⟩ := rd_flat (k := .u16) (n := 12) (by decide) h
  exact ⟨l, rfl, hl, fun n hn => okK_u16 (hw n hn)⟩
theorem frameV {H : Heap} {x : Value} (h : RdV H TyFrame x) : ∃ f, x = iv .u16 f ∧ FrW f := by
  obtain ⟨vs, rfl, h1⟩ := h
  obtain ⟨f, rfl, h2⟩ := frame h1
  exact ⟨f, rfl, h2⟩
def Ty19 : List Ty := [TyFrame, .bool]
theorem law19 {H : Heap} {xs : List Value} (hx : RdAll H Ty19 xs) (ho : ∀ (b : Nat) (k : Blk), H[b]? = some k → k.ro = true) : ∃ H', Call tab false 19 xs H = some (.bool true, H') := by
  obtain ⟨x, y, rfl, h, g⟩ := rd2 hx
  obtain ⟨f, rfl, hf⟩ := frameV h
  obtain ⟨d, hd⟩ := g
  cases hd
  exact ⟨_, call19 hf⟩
end Fb
