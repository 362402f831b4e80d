/- The law over its arguments. -/
import Derived.Test.YtjfmgpnkippbpaaUse0
import Derived.Test.YtjfmgpnkippbpaaRdl
set_option linter.unusedVariables false
set_option linter.unusedSimpArgs false
namespace Fb
open Go
def TyLight : Ty := .arr 12 12 (.arr 12 1 (.int .i16))
theorem rd2 {H : Heap} {T T' : Ty} {xs : List Value} (h : RdAll H [T, T'] xs) : ∃ x y, xs = [x, y] ∧ RdV H T x ∧ RdV H T' y := by
  obtain _ | ⟨x, _ | ⟨y, _ | ⟨z, r⟩⟩⟩ := xs
  · exact h.elim
  · exact h.2.elim
  · exact ⟨x, y, rfl, h.1, h.2.1⟩
  · exact h.2.2.elim
theorem light {H : Heap} {x : Value} (h : RdV H TyLight x) : ∃ l, x = iv .i16 l ∧ l.length = 144 ∧ ∀ n ∈ l, i16 n := by
  obtain ⟨l, rfl, hl, hw⟩ := rdV_flat (k := .i16) (m := 144) (by decide) h
  exact ⟨l, rfl, hl, fun n hn => okK_i16 (hw n hn)⟩
def Ty8 : List Ty := [TyLight, .int .i64]
theorem law8 {H : Heap} {xs : List Value} (hx : RdAll H Ty8 xs) (ho : ∀ (b : Nat) (k : Blk), H[b]? = some k → k.ro = true) : ∃ H', Call tab false 8 xs H = some (.bool true, H') := by
  obtain ⟨x, y, rfl, h, h2⟩ := rd2 hx
  obtain ⟨l, rfl, hl, hw⟩ := light h
  obtain ⟨n, rfl, hn⟩ := rdV_int h2
  exact ⟨_, call8 hl hw⟩
end Fb
