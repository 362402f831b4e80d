/- The table of the functions. -/
import Derived.Test.YtjfmgpnkippbpabCode0
set_option linter.unusedVariables false
set_option linter.unusedSimpArgs false
namespace Fb
open Go
def tab : Tab := fun n => match n with
  | 9 => some (.fn c9)
  | 79 => some (.fn c79)
  | 80 => some (.fn c80)
  | 81 => some (.fn c81)
  | 82 => some (.fn c82)
  | 83 => some (.fn c83)
  | 295 => some (.fn c295)
  | 296 => some (.fn c296)
  | 304 => some (.fn c304)
  | 308 => some (.fn c308)
  | 309 => some (.fn c309)
  | 310 => some (.fn c310)
  | 311 => some (.fn c311)
  | 312 => some (.fn c312)
  | 313 => some (.fn c313)
  | 390 => some (.fn c390)
  | 488 => some (.fn c488)
  | 489 => some (.fn c489)
  | 490 => some (.fn c490)
  | 529 => some (.fn c529)
  | _ => none
theorem t9 : tab 9 = some (.fn c9) := rfl
theorem t79 : tab 79 = some (.fn c79) := rfl
theorem t80 : tab 80 = some (.fn c80) := rfl
theorem t81 : tab 81 = some (.fn c81) := rfl
theorem t82 : tab 82 = some (.fn c82) := rfl
theorem t83 : tab 83 = some (.fn c83) := rfl
theorem t295 : tab 295 = some (.fn c295) := rfl
theorem t296 : tab 296 = some (.fn c296) := rfl
theorem t304 : tab 304 = some (.fn c304) := rfl
theorem t308 : tab 308 = some (.fn c308) := rfl
theorem t309 : tab 309 = some (.fn c309) := rfl
theorem t310 : tab 310 = some (.fn c310) := rfl
theorem t311 : tab 311 = some (.fn c311) := rfl
theorem t312 : tab 312 = some (.fn c312) := rfl
theorem t313 : tab 313 = some (.fn c313) := rfl
theorem t390 : tab 390 = some (.fn c390) := rfl
theorem t488 : tab 488 = some (.fn c488) := rfl
theorem t489 : tab 489 = some (.fn c489) := rfl
theorem t490 : tab 490 = some (.fn c490) := rfl
theorem t529 : tab 529 = some (.fn c529) := rfl
end Fb
