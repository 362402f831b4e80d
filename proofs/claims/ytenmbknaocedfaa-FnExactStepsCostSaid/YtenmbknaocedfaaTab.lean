/- The table of the functions. -/
import Derived.Test.YtenmbknaocedfaaCode0
set_option linter.unusedVariables false
set_option linter.unusedSimpArgs false
namespace Fb
open Go
def tab : Tab := fun n => match n with
  | 29 => some (.fn c29)
  | 79 => some (.fn c79)
  | 81 => some (.fn c81)
  | 83 => some (.fn c83)
  | 157 => some (.fn c157)
  | 159 => some (.fn c159)
  | 161 => some (.fn c161)
  | 163 => some (.fn c163)
  | 166 => some (.fn c166)
  | 174 => some (.fn c174)
  | 175 => some (.fn c175)
  | 213 => some (.fn c213)
  | 295 => some (.fn c295)
  | 296 => some (.fn c296)
  | 304 => some (.fn c304)
  | 308 => some (.fn c308)
  | 309 => some (.fn c309)
  | 310 => some (.fn c310)
  | 311 => some (.fn c311)
  | 312 => some (.fn c312)
  | 313 => some (.fn c313)
  | 382 => some (.fn c382)
  | 386 => some (.fn c386)
  | 387 => some (.fn c387)
  | 390 => some (.fn c390)
  | 396 => some (.fn c396)
  | 397 => some (.fn c397)
  | 488 => some (.fn c488)
  | 489 => some (.fn c489)
  | 490 => some (.fn c490)
  | 524 => some (.fn c524)
  | 529 => some (.fn c529)
  | 572 => some (.fn c572)
  | 573 => some (.fn c573)
  | _ => none
theorem t29 : tab 29 = some (.fn c29) := rfl
theorem t79 : tab 79 = some (.fn c79) := rfl
theorem t81 : tab 81 = some (.fn c81) := rfl
theorem t83 : tab 83 = some (.fn c83) := rfl
theorem t157 : tab 157 = some (.fn c157) := rfl
theorem t159 : tab 159 = some (.fn c159) := rfl
theorem t161 : tab 161 = some (.fn c161) := rfl
theorem t163 : tab 163 = some (.fn c163) := rfl
theorem t166 : tab 166 = some (.fn c166) := rfl
theorem t174 : tab 174 = some (.fn c174) := rfl
theorem t175 : tab 175 = some (.fn c175) := rfl
theorem t213 : tab 213 = some (.fn c213) := rfl
theorem t295 : tab 295 = some (.fn c295) := rfl
theorem t296 : tab 296 = some (.fn c296) := rfl
theorem t304 : tab 304 = some (.fn c304) := rfl
theorem t308 : tab 308 = some (.fn c308) := rfl
theorem t309 : tab 309 = some (.fn c309) := rfl
theorem t310 : tab 310 = some (.fn c310) := rfl
theorem t311 : tab 311 = some (.fn c311) := rfl
theorem t312 : tab 312 = some (.fn c312) := rfl
theorem t313 : tab 313 = some (.fn c313) := rfl
theorem t382 : tab 382 = some (.fn c382) := rfl
theorem t386 : tab 386 = some (.fn c386) := rfl
theorem t387 : tab 387 = some (.fn c387) := rfl
theorem t390 : tab 390 = some (.fn c390) := rfl
theorem t396 : tab 396 = some (.fn c396) := rfl
theorem t397 : tab 397 = some (.fn c397) := rfl
theorem t488 : tab 488 = some (.fn c488) := rfl
theorem t489 : tab 489 = some (.fn c489) := rfl
theorem t490 : tab 490 = some (.fn c490) := rfl
theorem t524 : tab 524 = some (.fn c524) := rfl
theorem t529 : tab 529 = some (.fn c529) := rfl
theorem t572 : tab 572 = some (.fn c572) := rfl
theorem t573 : tab 573 = some (.fn c573) := rfl
end Fb
