/- The table of the functions. -/
import Derived.Test.YtjfmgpnkippbpaaCode0
set_option linter.unusedVariables false
set_option linter.unusedSimpArgs false
namespace Fb
open Go
def tab : Tab := fun n => match n with
  | 4 => some (.fn c4)
  | 62 => some (.fn c62)
  | 63 => some (.fn c63)
  | 64 => some (.fn c64)
  | 65 => some (.fn c65)
  | 291 => some (.fn c291)
  | 292 => some (.fn c292)
  | 293 => some (.fn c293)
  | 294 => some (.fn c294)
  | 295 => some (.fn c295)
  | 304 => some (.fn c304)
  | 487 => some (.fn c487)
  | _ => none
theorem t4 : tab 4 = some (.fn c4) := rfl
theorem t62 : tab 62 = some (.fn c62) := rfl
theorem t63 : tab 63 = some (.fn c63) := rfl
theorem t64 : tab 64 = some (.fn c64) := rfl
theorem t65 : tab 65 = some (.fn c65) := rfl
theorem t291 : tab 291 = some (.fn c291) := rfl
theorem t292 : tab 292 = some (.fn c292) := rfl
theorem t293 : tab 293 = some (.fn c293) := rfl
theorem t294 : tab 294 = some (.fn c294) := rfl
theorem t295 : tab 295 = some (.fn c295) := rfl
theorem t304 : tab 304 = some (.fn c304) := rfl
theorem t487 : tab 487 = some (.fn c487) := rfl
end Fb
