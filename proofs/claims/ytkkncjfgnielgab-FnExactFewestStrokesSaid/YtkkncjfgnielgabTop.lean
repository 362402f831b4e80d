/- The law over its arguments. -/
import Derived.Test.YtkkncjfgnielgabUse0
import Derived.Test.YtkkncjfgnielgabRdl
set_option linter.unusedVariables false
set_option linter.unusedSimpArgs false
namespace Fb
open Go
theorem rd1 {H : Heap} {T : Ty} {xs : List Value} (h : RdAll H [T] xs) : ∃ x, xs = [x] ∧ RdV H T x := by
  obtain _ | ⟨x, _ | ⟨y, r⟩⟩ := xs
  · exact h.elim
  · exact ⟨x, rfl, h.1⟩
  · exact h.2.elim
theorem okK_u16 {n : Int} (h : okK .u16 n) : 0 ≤ n ∧ n ≤ 65535 := by
  have : (decide (IntKind.min .u16 ≤ n) && decide (n ≤ IntKind.max .u16)) = true := h
  simp at this
  have e1 : IntKind.min .u16 = 0 := by decide
  have e2 : IntKind.max .u16 = 65535 := by decide
  omega
abbrev u16 (n : Int) : Prop := 0 ≤ n ∧ n ≤ 65535
def TyFrame : Ty := .arr 12 1 (.int .u16)
theorem frame {H : Heap} {vs : List Value} (h : Rd H TyFrame vs) : ∃ f, vs = frC f ∧ FrW f := by
  obtain ⟨l, rfl, hl, hw⟩ := rd_flat (k := .u16) (n := 12) (by decide) h
  exact ⟨l, rfl, hl, fun n hn => okK_u16 (hw n hn)⟩
theorem frameV {H : Heap} {x : Value} (h : RdV H TyFrame x) : ∃ f, x = iv .u16 f ∧ FrW f := by
  obtain ⟨vs, rfl, h1⟩ := h
  obtain ⟨f, rfl, h2⟩ := frame h1
  exact ⟨f, rfl, h2⟩
def Ty20 : List Ty := [TyFrame]
theorem law20 {H : Heap} {xs : List Value} (hx : RdAll H Ty20 xs) (ho : ∀ (b : Nat) (k : Blk), H[b]? = some k → k.ro = true) : ∃ H', Call tab false 20 xs H = some (.bool true, H') := by
  obtain ⟨x, rfl, h⟩ := rd1 hx
  obtain ⟨f, rfl, hf⟩ := frameV h
  exact ⟨_, call20 hf⟩
end Fb
