/- The law over its arguments. -/
import Derived.Test.YtimijcjjmeemeaaDoorUse3
import Derived.Test.YtimijcjjmeemeaaDoorRdl
set_option linter.unusedVariables false
set_option linter.unusedSimpArgs false
namespace Fb
open Go
theorem strV {H : Heap} {x : Value} (h : RdV H .str x) : ∃ l, x = str l := by
  obtain ⟨s, h, _⟩ := h
  cases h
  exact ⟨_, string_eq s⟩
def Ty59 : List Ty := [.str]
theorem law59 {H : Heap} {xs : List Value} (hx : RdAll H Ty59 xs) (ho : ∀ (b : Nat) (k : Blk), H[b]? = some k → k.ro = true) (hd : H[0]? = some ⟨wrdL.map str, 1, 0, true⟩) : ∃ H', Call tab2 false 59 xs H = some (.bool true, H') := by
  obtain _ | ⟨a, _ | ⟨b, r⟩⟩ := xs
  · exact hx.elim
  · obtain ⟨l, rfl⟩ := strV hx.1
    exact call59 hd
  · exact hx.2.elim
end Fb
