/- The law over its arguments. -/
import Derived.Test.YtjfmgpnkippbpaaUse0
import Derived.Test.YtjfmgpnkippbpaaRdl
set_option linter.unusedVariables false
set_option linter.unusedSimpArgs false
namespace Fb
open Go
def TyLight : Ty := .arr 12 12 (.arr 12 1 (.int .i16))
def Ty3 : List Ty := [TyLight]
theorem law3 {H : Heap} {xs : List Value} (hx : RdAll H Ty3 xs) (ho : ∀ (b : Nat) (k : Blk), H[b]? = some k → k.ro = true) : ∃ H', Call tab false 3 xs H = some (.bool true, H') := by
  obtain _ | ⟨x, _ | ⟨y, r⟩⟩ := xs
  · exact hx.elim
  · obtain ⟨l, rfl, hl, hw⟩ := rdV_flat (k := .i16) (m := 144) (by decide) hx.1
    exact ⟨_, call3 hl fun n hn => okK_i16 (hw n hn)⟩
  · exact hx.2.elim
end Fb
