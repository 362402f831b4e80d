/- The law over its arguments. -/
import Derived.Test.YtholaggmhhjjkaaUse2
import Derived.Test.YtholaggmhhjjkaaRdl
set_option linter.unusedVariables false
set_option linter.unusedSimpArgs false
namespace Fb
open Go
theorem rd3 {H : Heap} {T T' T'' : Ty} {xs : List Value} (h : RdAll H [T, T', T''] xs) : ∃ x y z, xs = [x, y, z] ∧ RdV H T x ∧ RdV H T' y ∧ RdV H T'' z := by
  obtain _ | ⟨x, _ | ⟨y, _ | ⟨z, _ | ⟨w, r⟩⟩⟩⟩ := xs
  · exact h.elim
  · exact h.2.elim
  · exact h.2.2.elim
  · exact ⟨x, y, z, rfl, h.1, h.2.1, h.2.2.1⟩
  · exact h.2.2.2.elim
theorem okK_u16 {n : Int} (h : okK .u16 n) : 0 ≤ n ∧ n ≤ 65535 := by
  have : (decide (IntKind.min .u16 ≤ n) && decide (n ≤ IntKind.max .u16)) = true := h
  simp at this
  have e1 : IntKind.min .u16 = 0 := by decide
  have e2 : IntKind.max .u16 = 65535 := by decide
  omega
abbrev u16 (n : Int) : Prop := 0 ≤ n ∧ n ≤ 65535
def TyFrame : Ty := .arr 12 1 (.int .u16)
theorem frame {H : Heap} {vs : List Value} (h : Rd H TyFrame vs) : ∃ f, vs = frC f ∧ FrW f := by
  obtain ⟨l, rfl, hl, hw⟩ := rd_flat (k := .u16) (n := 12) (by decide) h
  exact ⟨l, rfl, hl, fun n hn => okK_u16 (hw n hn)⟩
theorem frameV {H : Heap} {x : Value} (h : RdV H TyFrame x) : ∃ f, x = iv .u16 f ∧ FrW f := by
  obtain ⟨vs, rfl, h1⟩ := h
  obtain ⟨f, rfl, h2⟩ := frame h1
  exact ⟨f, rfl, h2⟩
def Ty34 : List Ty := [TyFrame, TyFrame, .int .i64]
theorem law34 {H : Heap} {xs : List Value} (hx : RdAll H Ty34 xs) (ho : ∀ (b : Nat) (k : Blk), H[b]? = some k → k.ro = true) : ∃ H', Call tab false 34 xs H = some (.bool true, H') := by
  obtain ⟨x, y, z, rfl, h, g, i⟩ := rd3 hx
  obtain ⟨f, rfl, hf⟩ := frameV h
  obtain ⟨k, rfl, hk⟩ := frameV g
  obtain ⟨n, rfl, _⟩ := rdV_int i
  exact ⟨_, call34 hf hk⟩
end Fb
