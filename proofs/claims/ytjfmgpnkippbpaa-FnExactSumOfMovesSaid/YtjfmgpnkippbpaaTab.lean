/- The table of the functions. -/
import Derived.Test.YtjfmgpnkippbpaaCode0
set_option linter.unusedVariables false
set_option linter.unusedSimpArgs false
namespace Fb
open Go
def tab : Tab := fun n => match n with
  | 6 => some (.fn c6)
  | 68 => some (.fn c68)
  | 69 => some (.fn c69)
  | 70 => some (.fn c70)
  | 71 => some (.fn c71)
  | 72 => some (.fn c72)
  | 188 => some (.fn c188)
  | 266 => some (.fn c266)
  | 296 => some (.fn c296)
  | 297 => some (.fn c297)
  | 298 => some (.fn c298)
  | _ => none
theorem t6 : tab 6 = some (.fn c6) := rfl
theorem t68 : tab 68 = some (.fn c68) := rfl
theorem t69 : tab 69 = some (.fn c69) := rfl
theorem t70 : tab 70 = some (.fn c70) := rfl
theorem t71 : tab 71 = some (.fn c71) := rfl
theorem t72 : tab 72 = some (.fn c72) := rfl
theorem t188 : tab 188 = some (.fn c188) := rfl
theorem t266 : tab 266 = some (.fn c266) := rfl
theorem t296 : tab 296 = some (.fn c296) := rfl
theorem t297 : tab 297 = some (.fn c297) := rfl
theorem t298 : tab 298 = some (.fn c298) := rfl
end Fb
