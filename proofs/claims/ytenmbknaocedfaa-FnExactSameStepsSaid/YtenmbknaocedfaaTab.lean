/- The table of the functions. -/
import Derived.Test.YtenmbknaocedfaaCode0
set_option linter.unusedVariables false
set_option linter.unusedSimpArgs false
namespace Fb
open Go
def tab : Tab := fun n => match n with
  | 25 => some (.fn c25)
  | 79 => some (.fn c79)
  | 81 => some (.fn c81)
  | 83 => some (.fn c83)
  | 157 => some (.fn c157)
  | 158 => some (.fn c158)
  | 159 => some (.fn c159)
  | 160 => some (.fn c160)
  | 161 => some (.fn c161)
  | 166 => some (.fn c166)
  | 213 => some (.fn c213)
  | 296 => some (.fn c296)
  | 308 => some (.fn c308)
  | 311 => some (.fn c311)
  | 313 => some (.fn c313)
  | 381 => some (.fn c381)
  | 382 => some (.fn c382)
  | 383 => some (.fn c383)
  | 384 => some (.fn c384)
  | 385 => some (.fn c385)
  | 390 => some (.fn c390)
  | 488 => some (.fn c488)
  | 489 => some (.fn c489)
  | 529 => some (.fn c529)
  | _ => none
theorem t25 : tab 25 = some (.fn c25) := rfl
theorem t79 : tab 79 = some (.fn c79) := rfl
theorem t81 : tab 81 = some (.fn c81) := rfl
theorem t83 : tab 83 = some (.fn c83) := rfl
theorem t157 : tab 157 = some (.fn c157) := rfl
theorem t158 : tab 158 = some (.fn c158) := rfl
theorem t159 : tab 159 = some (.fn c159) := rfl
theorem t160 : tab 160 = some (.fn c160) := rfl
theorem t161 : tab 161 = some (.fn c161) := rfl
theorem t166 : tab 166 = some (.fn c166) := rfl
theorem t213 : tab 213 = some (.fn c213) := rfl
theorem t296 : tab 296 = some (.fn c296) := rfl
theorem t308 : tab 308 = some (.fn c308) := rfl
theorem t311 : tab 311 = some (.fn c311) := rfl
theorem t313 : tab 313 = some (.fn c313) := rfl
theorem t381 : tab 381 = some (.fn c381) := rfl
theorem t382 : tab 382 = some (.fn c382) := rfl
theorem t383 : tab 383 = some (.fn c383) := rfl
theorem t384 : tab 384 = some (.fn c384) := rfl
theorem t385 : tab 385 = some (.fn c385) := rfl
theorem t390 : tab 390 = some (.fn c390) := rfl
theorem t488 : tab 488 = some (.fn c488) := rfl
theorem t489 : tab 489 = some (.fn c489) := rfl
theorem t529 : tab 529 = some (.fn c529) := rfl
end Fb
