/- The table of the functions. -/
import Derived.Test.YtenmbknaocedfabCode0
set_option linter.unusedVariables false
set_option linter.unusedSimpArgs false
namespace Fb
open Go
def tab : Tab := fun n => match n with
  | 32 => some (.fn c32)
  | 79 => some (.fn c79)
  | 81 => some (.fn c81)
  | 83 => some (.fn c83)
  | 157 => some (.fn c157)
  | 159 => some (.fn c159)
  | 161 => some (.fn c161)
  | 163 => some (.fn c163)
  | 166 => some (.fn c166)
  | 180 => some (.fn c180)
  | 181 => some (.fn c181)
  | 182 => some (.fn c182)
  | 183 => some (.fn c183)
  | 184 => some (.fn c184)
  | 185 => some (.fn c185)
  | 213 => some (.fn c213)
  | 295 => some (.fn c295)
  | 296 => some (.fn c296)
  | 304 => some (.fn c304)
  | 308 => some (.fn c308)
  | 309 => some (.fn c309)
  | 311 => some (.fn c311)
  | 313 => some (.fn c313)
  | 382 => some (.fn c382)
  | 386 => some (.fn c386)
  | 387 => some (.fn c387)
  | 390 => some (.fn c390)
  | 391 => some (.fn c391)
  | 398 => some (.fn c398)
  | 399 => some (.fn c399)
  | 401 => some (.fn c401)
  | 402 => some (.fn c402)
  | 488 => some (.fn c488)
  | 489 => some (.fn c489)
  | 524 => some (.fn c524)
  | 529 => some (.fn c529)
  | 531 => some (.fn c531)
  | 532 => some (.fn c532)
  | 572 => some (.fn c572)
  | 573 => some (.fn c573)
  | _ => none
theorem t32 : tab 32 = some (.fn c32) := rfl
theorem t79 : tab 79 = some (.fn c79) := rfl
theorem t81 : tab 81 = some (.fn c81) := rfl
theorem t83 : tab 83 = some (.fn c83) := rfl
theorem t157 : tab 157 = some (.fn c157) := rfl
theorem t159 : tab 159 = some (.fn c159) := rfl
theorem t161 : tab 161 = some (.fn c161) := rfl
theorem t163 : tab 163 = some (.fn c163) := rfl
theorem t166 : tab 166 = some (.fn c166) := rfl
theorem t180 : tab 180 = some (.fn c180) := rfl
theorem t181 : tab 181 = some (.fn c181) := rfl
theorem t182 : tab 182 = some (.fn c182) := rfl
theorem t183 : tab 183 = some (.fn c183) := rfl
theorem t184 : tab 184 = some (.fn c184) := rfl
theorem t185 : tab 185 = some (.fn c185) := rfl
theorem t213 : tab 213 = some (.fn c213) := rfl
theorem t295 : tab 295 = some (.fn c295) := rfl
theorem t296 : tab 296 = some (.fn c296) := rfl
theorem t304 : tab 304 = some (.fn c304) := rfl
theorem t308 : tab 308 = some (.fn c308) := rfl
theorem t309 : tab 309 = some (.fn c309) := rfl
theorem t311 : tab 311 = some (.fn c311) := rfl
theorem t313 : tab 313 = some (.fn c313) := rfl
theorem t382 : tab 382 = some (.fn c382) := rfl
theorem t386 : tab 386 = some (.fn c386) := rfl
theorem t387 : tab 387 = some (.fn c387) := rfl
theorem t390 : tab 390 = some (.fn c390) := rfl
theorem t391 : tab 391 = some (.fn c391) := rfl
theorem t398 : tab 398 = some (.fn c398) := rfl
theorem t399 : tab 399 = some (.fn c399) := rfl
theorem t401 : tab 401 = some (.fn c401) := rfl
theorem t402 : tab 402 = some (.fn c402) := rfl
theorem t488 : tab 488 = some (.fn c488) := rfl
theorem t489 : tab 489 = some (.fn c489) := rfl
theorem t524 : tab 524 = some (.fn c524) := rfl
theorem t529 : tab 529 = some (.fn c529) := rfl
theorem t531 : tab 531 = some (.fn c531) := rfl
theorem t532 : tab 532 = some (.fn c532) := rfl
theorem t572 : tab 572 = some (.fn c572) := rfl
theorem t573 : tab 573 = some (.fn c573) := rfl
end Fb
