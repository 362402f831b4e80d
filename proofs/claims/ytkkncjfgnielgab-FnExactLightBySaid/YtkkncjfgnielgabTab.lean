/- The table of the functions. -/
import Derived.Test.YtkkncjfgnielgabCode0
set_option linter.unusedVariables false
set_option linter.unusedSimpArgs false
namespace Fb
open Go
def tab : Tab := fun n => match n with
  | 18 => some (.fn c18)
  | 62 => some (.fn c62)
  | 63 => some (.fn c63)
  | 75 => some (.fn c75)
  | 133 => some (.fn c133)
  | 134 => some (.fn c134)
  | 135 => some (.fn c135)
  | 234 => some (.fn c234)
  | 291 => some (.fn c291)
  | 292 => some (.fn c292)
  | 293 => some (.fn c293)
  | 294 => some (.fn c294)
  | 295 => some (.fn c295)
  | 299 => some (.fn c299)
  | 300 => some (.fn c300)
  | 301 => some (.fn c301)
  | 302 => some (.fn c302)
  | 303 => some (.fn c303)
  | 304 => some (.fn c304)
  | 342 => some (.fn c342)
  | 345 => some (.fn c345)
  | 359 => some (.fn c359)
  | 360 => some (.fn c360)
  | 361 => some (.fn c361)
  | 395 => some (.fn c395)
  | 445 => some (.fn c445)
  | 446 => some (.fn c446)
  | 449 => some (.fn c449)
  | 456 => some (.fn c456)
  | 487 => some (.fn c487)
  | 511 => some (.fn c511)
  | 547 => some (.fn c547)
  | _ => none
theorem t18 : tab 18 = some (.fn c18) := rfl
theorem t62 : tab 62 = some (.fn c62) := rfl
theorem t63 : tab 63 = some (.fn c63) := rfl
theorem t75 : tab 75 = some (.fn c75) := rfl
theorem t133 : tab 133 = some (.fn c133) := rfl
theorem t134 : tab 134 = some (.fn c134) := rfl
theorem t135 : tab 135 = some (.fn c135) := rfl
theorem t234 : tab 234 = some (.fn c234) := rfl
theorem t291 : tab 291 = some (.fn c291) := rfl
theorem t292 : tab 292 = some (.fn c292) := rfl
theorem t293 : tab 293 = some (.fn c293) := rfl
theorem t294 : tab 294 = some (.fn c294) := rfl
theorem t295 : tab 295 = some (.fn c295) := rfl
theorem t299 : tab 299 = some (.fn c299) := rfl
theorem t300 : tab 300 = some (.fn c300) := rfl
theorem t301 : tab 301 = some (.fn c301) := rfl
theorem t302 : tab 302 = some (.fn c302) := rfl
theorem t303 : tab 303 = some (.fn c303) := rfl
theorem t304 : tab 304 = some (.fn c304) := rfl
theorem t342 : tab 342 = some (.fn c342) := rfl
theorem t345 : tab 345 = some (.fn c345) := rfl
theorem t359 : tab 359 = some (.fn c359) := rfl
theorem t360 : tab 360 = some (.fn c360) := rfl
theorem t361 : tab 361 = some (.fn c361) := rfl
theorem t395 : tab 395 = some (.fn c395) := rfl
theorem t445 : tab 445 = some (.fn c445) := rfl
theorem t446 : tab 446 = some (.fn c446) := rfl
theorem t449 : tab 449 = some (.fn c449) := rfl
theorem t456 : tab 456 = some (.fn c456) := rfl
theorem t487 : tab 487 = some (.fn c487) := rfl
theorem t511 : tab 511 = some (.fn c511) := rfl
theorem t547 : tab 547 = some (.fn c547) := rfl
end Fb
