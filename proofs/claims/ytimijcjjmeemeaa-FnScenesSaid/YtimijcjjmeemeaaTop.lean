/- The law over its arguments. -/
import Derived.Test.YtimijcjjmeemeaaUse4
import Derived.Test.YtimijcjjmeemeaaRdl
set_option linter.unusedVariables false
set_option linter.unusedSimpArgs false
namespace Fb
open Go
theorem rd2 {H : Heap} {T T' : Ty} {xs : List Value} (h : RdAll H [T, T'] xs) : ∃ x y, xs = [x, y] ∧ RdV H T x ∧ RdV H T' y := by
  obtain _ | ⟨x, _ | ⟨y, _ | ⟨z, r⟩⟩⟩ := xs
  · exact h.elim
  · exact h.2.elim
  · exact ⟨x, y, rfl, h.1, h.2.1⟩
  · exact h.2.2.elim
def TyBytes : Ty := .slc 1 (.int .u8)
theorem okK_u8' {n : Int} (h : okK .u8 n) : 0 ≤ n ∧ n ≤ 255 := by
  have : (decide (IntKind.min .u8 ≤ n) && decide (n ≤ IntKind.max .u8)) = true := h
  simp at this
  have e1 : IntKind.min .u8 = 0 := by decide
  have e2 : IntKind.max .u8 = 255 := by decide
  omega
theorem bytesV {H : Heap} {x : Value} (h : RdV H TyBytes x) : ∃ bs, By H x bs := by
  obtain ⟨n, l, h1, h2⟩ := rdV_slcFlat (k := .u8) (by decide) h
  have hl : l.length = n := by have := h1.size; simpa using this
  subst hl
  exact ⟨l, SlR.of h1.size h1.is, fun v hv => okK_u8' (h2 v hv)⟩
def Ty57 : List Ty := [TyBytes, TyBytes]
theorem law57 {H : Heap} {xs : List Value} (hx : RdAll H Ty57 xs) (ho : ∀ (b : Nat) (k : Blk), H[b]? = some k → k.ro = true) : ∃ H', Call tab false 57 xs H = some (.bool true, H') := by
  obtain ⟨x, y, rfl, h, i⟩ := rd2 hx
  obtain ⟨b, h1⟩ := bytesV h
  obtain ⟨c, h2⟩ := bytesV i
  exact ⟨H, call57 h1 h2⟩
end Fb
