/- The table of the functions. -/
import Derived.Test.YtmielnjpppjfhabCode0
set_option linter.unusedVariables false
set_option linter.unusedSimpArgs false
namespace Fb
open Go
def tab : Tab := fun n => match n with
  | 46 => some (.fn c46)
  | 78 => some (.fn c78)
  | 79 => some (.fn c79)
  | 81 => some (.fn c81)
  | 83 => some (.fn c83)
  | 103 => some (.fn c103)
  | 105 => some (.fn c105)
  | 107 => some (.fn c107)
  | 121 => some (.fn c121)
  | 134 => some (.fn c134)
  | 157 => some (.fn c157)
  | 159 => some (.fn c159)
  | 161 => some (.fn c161)
  | 163 => some (.fn c163)
  | 166 => some (.fn c166)
  | 213 => some (.fn c213)
  | 224 => some (.fn c224)
  | 225 => some (.fn c225)
  | 234 => some (.fn c234)
  | 295 => some (.fn c295)
  | 296 => some (.fn c296)
  | 304 => some (.fn c304)
  | 305 => some (.fn c305)
  | 308 => some (.fn c308)
  | 309 => some (.fn c309)
  | 311 => some (.fn c311)
  | 313 => some (.fn c313)
  | 316 => some (.fn c316)
  | 318 => some (.fn c318)
  | 323 => some (.fn c323)
  | 341 => some (.fn c341)
  | 342 => some (.fn c342)
  | 351 => some (.fn c351)
  | 355 => some (.fn c355)
  | 358 => some (.fn c358)
  | 359 => some (.fn c359)
  | 382 => some (.fn c382)
  | 386 => some (.fn c386)
  | 387 => some (.fn c387)
  | 390 => some (.fn c390)
  | 418 => some (.fn c418)
  | 419 => some (.fn c419)
  | 440 => some (.fn c440)
  | 445 => some (.fn c445)
  | 446 => some (.fn c446)
  | 456 => some (.fn c456)
  | 474 => some (.fn c474)
  | 488 => some (.fn c488)
  | 489 => some (.fn c489)
  | 505 => some (.fn c505)
  | 506 => some (.fn c506)
  | 524 => some (.fn c524)
  | 529 => some (.fn c529)
  | 547 => some (.fn c547)
  | 572 => some (.fn c572)
  | 573 => some (.fn c573)
  | _ => none
theorem t46 : tab 46 = some (.fn c46) := rfl
theorem t78 : tab 78 = some (.fn c78) := rfl
theorem t79 : tab 79 = some (.fn c79) := rfl
theorem t81 : tab 81 = some (.fn c81) := rfl
theorem t83 : tab 83 = some (.fn c83) := rfl
theorem t103 : tab 103 = some (.fn c103) := rfl
theorem t105 : tab 105 = some (.fn c105) := rfl
theorem t107 : tab 107 = some (.fn c107) := rfl
theorem t121 : tab 121 = some (.fn c121) := rfl
theorem t134 : tab 134 = some (.fn c134) := rfl
theorem t157 : tab 157 = some (.fn c157) := rfl
theorem t159 : tab 159 = some (.fn c159) := rfl
theorem t161 : tab 161 = some (.fn c161) := rfl
theorem t163 : tab 163 = some (.fn c163) := rfl
theorem t166 : tab 166 = some (.fn c166) := rfl
theorem t213 : tab 213 = some (.fn c213) := rfl
theorem t224 : tab 224 = some (.fn c224) := rfl
theorem t225 : tab 225 = some (.fn c225) := rfl
theorem t234 : tab 234 = some (.fn c234) := rfl
theorem t295 : tab 295 = some (.fn c295) := rfl
theorem t296 : tab 296 = some (.fn c296) := rfl
theorem t304 : tab 304 = some (.fn c304) := rfl
theorem t305 : tab 305 = some (.fn c305) := rfl
theorem t308 : tab 308 = some (.fn c308) := rfl
theorem t309 : tab 309 = some (.fn c309) := rfl
theorem t311 : tab 311 = some (.fn c311) := rfl
theorem t313 : tab 313 = some (.fn c313) := rfl
theorem t316 : tab 316 = some (.fn c316) := rfl
theorem t318 : tab 318 = some (.fn c318) := rfl
theorem t323 : tab 323 = some (.fn c323) := rfl
theorem t341 : tab 341 = some (.fn c341) := rfl
theorem t342 : tab 342 = some (.fn c342) := rfl
theorem t351 : tab 351 = some (.fn c351) := rfl
theorem t355 : tab 355 = some (.fn c355) := rfl
theorem t358 : tab 358 = some (.fn c358) := rfl
theorem t359 : tab 359 = some (.fn c359) := rfl
theorem t382 : tab 382 = some (.fn c382) := rfl
theorem t386 : tab 386 = some (.fn c386) := rfl
theorem t387 : tab 387 = some (.fn c387) := rfl
theorem t390 : tab 390 = some (.fn c390) := rfl
theorem t418 : tab 418 = some (.fn c418) := rfl
theorem t419 : tab 419 = some (.fn c419) := rfl
theorem t440 : tab 440 = some (.fn c440) := rfl
theorem t445 : tab 445 = some (.fn c445) := rfl
theorem t446 : tab 446 = some (.fn c446) := rfl
theorem t456 : tab 456 = some (.fn c456) := rfl
theorem t474 : tab 474 = some (.fn c474) := rfl
theorem t488 : tab 488 = some (.fn c488) := rfl
theorem t489 : tab 489 = some (.fn c489) := rfl
theorem t505 : tab 505 = some (.fn c505) := rfl
theorem t506 : tab 506 = some (.fn c506) := rfl
theorem t524 : tab 524 = some (.fn c524) := rfl
theorem t529 : tab 529 = some (.fn c529) := rfl
theorem t547 : tab 547 = some (.fn c547) := rfl
theorem t572 : tab 572 = some (.fn c572) := rfl
theorem t573 : tab 573 = some (.fn c573) := rfl
end Fb
