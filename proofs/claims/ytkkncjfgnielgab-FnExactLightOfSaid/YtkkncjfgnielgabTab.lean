/- The table of the functions. -/
import Derived.Test.YtkkncjfgnielgabCode0
set_option linter.unusedVariables false
set_option linter.unusedSimpArgs false
namespace Fb
open Go
def tab : Tab := fun n => match n with
  | 23 => some (.fn c23)
  | 75 => some (.fn c75)
  | 78 => some (.fn c78)
  | 103 => some (.fn c103)
  | 105 => some (.fn c105)
  | 107 => some (.fn c107)
  | 121 => some (.fn c121)
  | 134 => some (.fn c134)
  | 145 => some (.fn c145)
  | 146 => some (.fn c146)
  | 234 => some (.fn c234)
  | 295 => some (.fn c295)
  | 296 => some (.fn c296)
  | 299 => some (.fn c299)
  | 300 => some (.fn c300)
  | 301 => some (.fn c301)
  | 302 => some (.fn c302)
  | 303 => some (.fn c303)
  | 304 => some (.fn c304)
  | 316 => some (.fn c316)
  | 318 => some (.fn c318)
  | 342 => some (.fn c342)
  | 345 => some (.fn c345)
  | 351 => some (.fn c351)
  | 359 => some (.fn c359)
  | 360 => some (.fn c360)
  | 361 => some (.fn c361)
  | 395 => some (.fn c395)
  | 445 => some (.fn c445)
  | 446 => some (.fn c446)
  | 449 => some (.fn c449)
  | 456 => some (.fn c456)
  | 474 => some (.fn c474)
  | 505 => some (.fn c505)
  | 506 => some (.fn c506)
  | 511 => some (.fn c511)
  | 547 => some (.fn c547)
  | _ => none
theorem t23 : tab 23 = some (.fn c23) := rfl
theorem t75 : tab 75 = some (.fn c75) := rfl
theorem t78 : tab 78 = some (.fn c78) := rfl
theorem t103 : tab 103 = some (.fn c103) := rfl
theorem t105 : tab 105 = some (.fn c105) := rfl
theorem t107 : tab 107 = some (.fn c107) := rfl
theorem t121 : tab 121 = some (.fn c121) := rfl
theorem t134 : tab 134 = some (.fn c134) := rfl
theorem t145 : tab 145 = some (.fn c145) := rfl
theorem t146 : tab 146 = some (.fn c146) := rfl
theorem t234 : tab 234 = some (.fn c234) := rfl
theorem t295 : tab 295 = some (.fn c295) := rfl
theorem t296 : tab 296 = some (.fn c296) := rfl
theorem t299 : tab 299 = some (.fn c299) := rfl
theorem t300 : tab 300 = some (.fn c300) := rfl
theorem t301 : tab 301 = some (.fn c301) := rfl
theorem t302 : tab 302 = some (.fn c302) := rfl
theorem t303 : tab 303 = some (.fn c303) := rfl
theorem t304 : tab 304 = some (.fn c304) := rfl
theorem t316 : tab 316 = some (.fn c316) := rfl
theorem t318 : tab 318 = some (.fn c318) := rfl
theorem t342 : tab 342 = some (.fn c342) := rfl
theorem t345 : tab 345 = some (.fn c345) := rfl
theorem t351 : tab 351 = some (.fn c351) := rfl
theorem t359 : tab 359 = some (.fn c359) := rfl
theorem t360 : tab 360 = some (.fn c360) := rfl
theorem t361 : tab 361 = some (.fn c361) := rfl
theorem t395 : tab 395 = some (.fn c395) := rfl
theorem t445 : tab 445 = some (.fn c445) := rfl
theorem t446 : tab 446 = some (.fn c446) := rfl
theorem t449 : tab 449 = some (.fn c449) := rfl
theorem t456 : tab 456 = some (.fn c456) := rfl
theorem t474 : tab 474 = some (.fn c474) := rfl
theorem t505 : tab 505 = some (.fn c505) := rfl
theorem t506 : tab 506 = some (.fn c506) := rfl
theorem t511 : tab 511 = some (.fn c511) := rfl
theorem t547 : tab 547 = some (.fn c547) := rfl
end Fb
