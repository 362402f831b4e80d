/- The table of the functions. -/
import Derived.Test.YtkjlnflhimibdaaCode0
set_option linter.unusedVariables false
set_option linter.unusedSimpArgs false
namespace Fb
open Go
def tab : Tab := fun n => match n with
  | 39 => some (.fn c39)
  | 63 => some (.fn c63)
  | 65 => some (.fn c65)
  | 67 => some (.fn c67)
  | 73 => some (.fn c73)
  | 74 => some (.fn c74)
  | 76 => some (.fn c76)
  | 77 => some (.fn c77)
  | 84 => some (.fn c84)
  | 85 => some (.fn c85)
  | 124 => some (.fn c124)
  | 133 => some (.fn c133)
  | 135 => some (.fn c135)
  | 145 => some (.fn c145)
  | 146 => some (.fn c146)
  | 200 => some (.fn c200)
  | 201 => some (.fn c201)
  | 202 => some (.fn c202)
  | 234 => some (.fn c234)
  | 291 => some (.fn c291)
  | 293 => some (.fn c293)
  | 294 => some (.fn c294)
  | 295 => some (.fn c295)
  | 299 => some (.fn c299)
  | 300 => some (.fn c300)
  | 301 => some (.fn c301)
  | 302 => some (.fn c302)
  | 304 => some (.fn c304)
  | 305 => some (.fn c305)
  | 306 => some (.fn c306)
  | 307 => some (.fn c307)
  | 314 => some (.fn c314)
  | 315 => some (.fn c315)
  | 316 => some (.fn c316)
  | 318 => some (.fn c318)
  | 327 => some (.fn c327)
  | 342 => some (.fn c342)
  | 345 => some (.fn c345)
  | 346 => some (.fn c346)
  | 349 => some (.fn c349)
  | 351 => some (.fn c351)
  | 355 => some (.fn c355)
  | 359 => some (.fn c359)
  | 360 => some (.fn c360)
  | 361 => some (.fn c361)
  | 368 => some (.fn c368)
  | 395 => some (.fn c395)
  | 417 => some (.fn c417)
  | 440 => some (.fn c440)
  | 445 => some (.fn c445)
  | 446 => some (.fn c446)
  | 449 => some (.fn c449)
  | 456 => some (.fn c456)
  | 459 => some (.fn c459)
  | 474 => some (.fn c474)
  | 487 => some (.fn c487)
  | 496 => some (.fn c496)
  | 505 => some (.fn c505)
  | 506 => some (.fn c506)
  | 511 => some (.fn c511)
  | 513 => some (.fn c513)
  | 547 => some (.fn c547)
  | 550 => some (.fn c550)
  | _ => none
theorem t39 : tab 39 = some (.fn c39) := rfl
theorem t63 : tab 63 = some (.fn c63) := rfl
theorem t65 : tab 65 = some (.fn c65) := rfl
theorem t67 : tab 67 = some (.fn c67) := rfl
theorem t73 : tab 73 = some (.fn c73) := rfl
theorem t74 : tab 74 = some (.fn c74) := rfl
theorem t76 : tab 76 = some (.fn c76) := rfl
theorem t77 : tab 77 = some (.fn c77) := rfl
theorem t84 : tab 84 = some (.fn c84) := rfl
theorem t85 : tab 85 = some (.fn c85) := rfl
theorem t124 : tab 124 = some (.fn c124) := rfl
theorem t133 : tab 133 = some (.fn c133) := rfl
theorem t135 : tab 135 = some (.fn c135) := rfl
theorem t145 : tab 145 = some (.fn c145) := rfl
theorem t146 : tab 146 = some (.fn c146) := rfl
theorem t200 : tab 200 = some (.fn c200) := rfl
theorem t201 : tab 201 = some (.fn c201) := rfl
theorem t202 : tab 202 = some (.fn c202) := rfl
theorem t234 : tab 234 = some (.fn c234) := rfl
theorem t291 : tab 291 = some (.fn c291) := rfl
theorem t293 : tab 293 = some (.fn c293) := rfl
theorem t294 : tab 294 = some (.fn c294) := rfl
theorem t295 : tab 295 = some (.fn c295) := rfl
theorem t299 : tab 299 = some (.fn c299) := rfl
theorem t300 : tab 300 = some (.fn c300) := rfl
theorem t301 : tab 301 = some (.fn c301) := rfl
theorem t302 : tab 302 = some (.fn c302) := rfl
theorem t304 : tab 304 = some (.fn c304) := rfl
theorem t305 : tab 305 = some (.fn c305) := rfl
theorem t306 : tab 306 = some (.fn c306) := rfl
theorem t307 : tab 307 = some (.fn c307) := rfl
theorem t314 : tab 314 = some (.fn c314) := rfl
theorem t315 : tab 315 = some (.fn c315) := rfl
theorem t316 : tab 316 = some (.fn c316) := rfl
theorem t318 : tab 318 = some (.fn c318) := rfl
theorem t327 : tab 327 = some (.fn c327) := rfl
theorem t342 : tab 342 = some (.fn c342) := rfl
theorem t345 : tab 345 = some (.fn c345) := rfl
theorem t346 : tab 346 = some (.fn c346) := rfl
theorem t349 : tab 349 = some (.fn c349) := rfl
theorem t351 : tab 351 = some (.fn c351) := rfl
theorem t355 : tab 355 = some (.fn c355) := rfl
theorem t359 : tab 359 = some (.fn c359) := rfl
theorem t360 : tab 360 = some (.fn c360) := rfl
theorem t361 : tab 361 = some (.fn c361) := rfl
theorem t368 : tab 368 = some (.fn c368) := rfl
theorem t395 : tab 395 = some (.fn c395) := rfl
theorem t417 : tab 417 = some (.fn c417) := rfl
theorem t440 : tab 440 = some (.fn c440) := rfl
theorem t445 : tab 445 = some (.fn c445) := rfl
theorem t446 : tab 446 = some (.fn c446) := rfl
theorem t449 : tab 449 = some (.fn c449) := rfl
theorem t456 : tab 456 = some (.fn c456) := rfl
theorem t459 : tab 459 = some (.fn c459) := rfl
theorem t474 : tab 474 = some (.fn c474) := rfl
theorem t487 : tab 487 = some (.fn c487) := rfl
theorem t496 : tab 496 = some (.fn c496) := rfl
theorem t505 : tab 505 = some (.fn c505) := rfl
theorem t506 : tab 506 = some (.fn c506) := rfl
theorem t511 : tab 511 = some (.fn c511) := rfl
theorem t513 : tab 513 = some (.fn c513) := rfl
theorem t547 : tab 547 = some (.fn c547) := rfl
theorem t550 : tab 550 = some (.fn c550) := rfl
end Fb
