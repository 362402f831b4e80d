/- The law over its arguments. -/
import Derived.Test.YtcddaakeobdjfaaDoorUse1
import Derived.Test.YtcddaakeobdjfaaDoorRdl
set_option linter.unusedVariables false
set_option linter.unusedSimpArgs false
namespace Fb
open Go
def Ty58 : List Ty := [.str]
theorem strV {H : Heap} {x : Value} (h : RdV H .str x) : ∃ l, x = str l := by
  obtain ⟨s, h, _⟩ := h
  cases h
  exact ⟨_, string_eq s⟩
theorem law58 {H : Heap} {xs : List Value} (hx : RdAll H Ty58 xs) (ho : ∀ (b : Nat) (k : Blk), H[b]? = some k → k.ro = true) : ∃ H', Call tab false 58 xs H = some (.bool true, H') := by
  obtain _ | ⟨a, _ | ⟨b, r⟩⟩ := xs
  · exact hx.elim
  · obtain ⟨l, rfl⟩ := strV hx.1
    exact call58
  · exact hx.2.elim
end Fb
