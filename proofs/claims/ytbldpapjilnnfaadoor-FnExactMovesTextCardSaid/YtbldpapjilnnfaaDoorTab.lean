/- The table of the functions. -/
import Derived.Test.YtbldpapjilnnfaaDoorCode0
import Derived.Test.YtbldpapjilnnfaaDoorStr
set_option linter.unusedVariables false
set_option linter.unusedSimpArgs false
namespace Fb
open Go
def tab : Tab := fun n => match n with
  | 36 => some (.fn c36)
  | 68 => some (.fn c68)
  | 70 => some (.fn c70)
  | 72 => some (.fn c72)
  | 154 => some (.fn c154)
  | 188 => some (.fn c188)
  | 197 => some (.fn c197)
  | 266 => some (.fn c266)
  | 295 => some (.fn c295)
  | 296 => some (.fn c296)
  | 297 => some (.fn c297)
  | 298 => some (.fn c298)
  | 304 => some (.fn c304)
  | 379 => some (.fn c379)
  | 380 => some (.ext .pure ext380)
  | 414 => some (.fn c414)
  | 415 => some (.fn c415)
  | 522 => some (.ext .pure ext522)
  | 536 => some (.fn c536)
  | 552 => some (.fn c552)
  | _ => none
theorem t36 : tab 36 = some (.fn c36) := rfl
theorem t68 : tab 68 = some (.fn c68) := rfl
theorem t70 : tab 70 = some (.fn c70) := rfl
theorem t72 : tab 72 = some (.fn c72) := rfl
theorem t154 : tab 154 = some (.fn c154) := rfl
theorem t188 : tab 188 = some (.fn c188) := rfl
theorem t197 : tab 197 = some (.fn c197) := rfl
theorem t266 : tab 266 = some (.fn c266) := rfl
theorem t295 : tab 295 = some (.fn c295) := rfl
theorem t296 : tab 296 = some (.fn c296) := rfl
theorem t297 : tab 297 = some (.fn c297) := rfl
theorem t298 : tab 298 = some (.fn c298) := rfl
theorem t304 : tab 304 = some (.fn c304) := rfl
theorem t379 : tab 379 = some (.fn c379) := rfl
theorem t380 : tab 380 = some (.ext .pure ext380) := rfl
theorem t414 : tab 414 = some (.fn c414) := rfl
theorem t415 : tab 415 = some (.fn c415) := rfl
theorem t522 : tab 522 = some (.ext .pure ext522) := rfl
theorem t536 : tab 536 = some (.fn c536) := rfl
theorem t552 : tab 552 = some (.fn c552) := rfl
end Fb
