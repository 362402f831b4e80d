/- The law over its arguments. -/
import Derived.Test.YtjfmgpnkippbpaaUse0
import Derived.Test.YtjfmgpnkippbpaaRdl
set_option linter.unusedVariables false
set_option linter.unusedSimpArgs false
namespace Fb
open Go
def TyLight : Ty := .arr 12 12 (.arr 12 1 (.int .i16))
theorem rd1 {H : Heap} {T : Ty} {xs : List Value} (h : RdAll H [T] xs) : ∃ x, xs = [x] ∧ RdV H T x := by
  obtain _ | ⟨x, _ | ⟨y, r⟩⟩ := xs
  · exact h.elim
  · exact ⟨x, rfl, h.1⟩
  · exact h.2.elim
theorem light {H : Heap} {x : Value} (h : RdV H TyLight x) : ∃ l, x = iv .i16 l ∧ l.length = 144 ∧ ∀ n ∈ l, i16 n := by
  obtain ⟨l, rfl, hl, hw⟩ := rdV_flat (k := .i16) (m := 144) (by decide) h
  exact ⟨l, rfl, hl, fun n hn => okK_i16 (hw n hn)⟩
def Ty4 : List Ty := [TyLight]
theorem law4 {H : Heap} {xs : List Value} (hx : RdAll H Ty4 xs) (ho : ∀ (b : Nat) (k : Blk), H[b]? = some k → k.ro = true) : ∃ H', Call tab false 4 xs H = some (.bool true, H') := by
  obtain ⟨x, rfl, h⟩ := rd1 hx
  obtain ⟨l, rfl, hl, hw⟩ := light h
  exact ⟨_, call4 hl hw⟩
end Fb
