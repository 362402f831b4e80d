/- The table of the functions. -/
import Derived.Test.YtjfmgpnkippbpaaCode0
set_option linter.unusedVariables false
set_option linter.unusedSimpArgs false
namespace Fb
open Go
def tab : Tab := fun n => match n with
  | 8 => some (.fn c8)
  | 62 => some (.fn c62)
  | 63 => some (.fn c63)
  | 76 => some (.fn c76)
  | 77 => some (.fn c77)
  | 78 => some (.fn c78)
  | 291 => some (.fn c291)
  | 292 => some (.fn c292)
  | 293 => some (.fn c293)
  | 294 => some (.fn c294)
  | 295 => some (.fn c295)
  | 304 => some (.fn c304)
  | 305 => some (.fn c305)
  | 306 => some (.fn c306)
  | 307 => some (.fn c307)
  | 342 => some (.fn c342)
  | 346 => some (.fn c346)
  | 487 => some (.fn c487)
  | _ => none
theorem t8 : tab 8 = some (.fn c8) := rfl
theorem t62 : tab 62 = some (.fn c62) := rfl
theorem t63 : tab 63 = some (.fn c63) := rfl
theorem t76 : tab 76 = some (.fn c76) := rfl
theorem t77 : tab 77 = some (.fn c77) := rfl
theorem t78 : tab 78 = some (.fn c78) := rfl
theorem t291 : tab 291 = some (.fn c291) := rfl
theorem t292 : tab 292 = some (.fn c292) := rfl
theorem t293 : tab 293 = some (.fn c293) := rfl
theorem t294 : tab 294 = some (.fn c294) := rfl
theorem t295 : tab 295 = some (.fn c295) := rfl
theorem t304 : tab 304 = some (.fn c304) := rfl
theorem t305 : tab 305 = some (.fn c305) := rfl
theorem t306 : tab 306 = some (.fn c306) := rfl
theorem t307 : tab 307 = some (.fn c307) := rfl
theorem t342 : tab 342 = some (.fn c342) := rfl
theorem t346 : tab 346 = some (.fn c346) := rfl
theorem t487 : tab 487 = some (.fn c487) := rfl
end Fb
