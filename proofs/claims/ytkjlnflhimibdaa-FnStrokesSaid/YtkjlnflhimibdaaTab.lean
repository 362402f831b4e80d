/- The table of the functions. -/
import Derived.Test.YtkjlnflhimibdaaCode0
set_option linter.unusedVariables false
set_option linter.unusedSimpArgs false
namespace Fb
open Go
def tab : Tab := fun n => match n with
  | 28 => some (.fn c28)
  | 115 => some (.fn c115)
  | 136 => some (.fn c136)
  | 137 => some (.fn c137)
  | 141 => some (.fn c141)
  | 142 => some (.fn c142)
  | 169 => some (.fn c169)
  | 170 => some (.fn c170)
  | 171 => some (.fn c171)
  | 172 => some (.fn c172)
  | 173 => some (.fn c173)
  | 234 => some (.fn c234)
  | 295 => some (.fn c295)
  | 304 => some (.fn c304)
  | 305 => some (.fn c305)
  | 306 => some (.fn c306)
  | 315 => some (.fn c315)
  | 342 => some (.fn c342)
  | 345 => some (.fn c345)
  | 346 => some (.fn c346)
  | 359 => some (.fn c359)
  | 362 => some (.fn c362)
  | 363 => some (.fn c363)
  | 368 => some (.fn c368)
  | 393 => some (.fn c393)
  | 394 => some (.fn c394)
  | 395 => some (.fn c395)
  | 445 => some (.fn c445)
  | 446 => some (.fn c446)
  | 449 => some (.fn c449)
  | 456 => some (.fn c456)
  | 459 => some (.fn c459)
  | 513 => some (.fn c513)
  | 530 => some (.fn c530)
  | 547 => some (.fn c547)
  | 550 => some (.fn c550)
  | _ => none
theorem t28 : tab 28 = some (.fn c28) := rfl
theorem t115 : tab 115 = some (.fn c115) := rfl
theorem t136 : tab 136 = some (.fn c136) := rfl
theorem t137 : tab 137 = some (.fn c137) := rfl
theorem t141 : tab 141 = some (.fn c141) := rfl
theorem t142 : tab 142 = some (.fn c142) := rfl
theorem t169 : tab 169 = some (.fn c169) := rfl
theorem t170 : tab 170 = some (.fn c170) := rfl
theorem t171 : tab 171 = some (.fn c171) := rfl
theorem t172 : tab 172 = some (.fn c172) := rfl
theorem t173 : tab 173 = some (.fn c173) := rfl
theorem t234 : tab 234 = some (.fn c234) := rfl
theorem t295 : tab 295 = some (.fn c295) := rfl
theorem t304 : tab 304 = some (.fn c304) := rfl
theorem t305 : tab 305 = some (.fn c305) := rfl
theorem t306 : tab 306 = some (.fn c306) := rfl
theorem t315 : tab 315 = some (.fn c315) := rfl
theorem t342 : tab 342 = some (.fn c342) := rfl
theorem t345 : tab 345 = some (.fn c345) := rfl
theorem t346 : tab 346 = some (.fn c346) := rfl
theorem t359 : tab 359 = some (.fn c359) := rfl
theorem t362 : tab 362 = some (.fn c362) := rfl
theorem t363 : tab 363 = some (.fn c363) := rfl
theorem t368 : tab 368 = some (.fn c368) := rfl
theorem t393 : tab 393 = some (.fn c393) := rfl
theorem t394 : tab 394 = some (.fn c394) := rfl
theorem t395 : tab 395 = some (.fn c395) := rfl
theorem t445 : tab 445 = some (.fn c445) := rfl
theorem t446 : tab 446 = some (.fn c446) := rfl
theorem t449 : tab 449 = some (.fn c449) := rfl
theorem t456 : tab 456 = some (.fn c456) := rfl
theorem t459 : tab 459 = some (.fn c459) := rfl
theorem t513 : tab 513 = some (.fn c513) := rfl
theorem t530 : tab 530 = some (.fn c530) := rfl
theorem t547 : tab 547 = some (.fn c547) := rfl
theorem t550 : tab 550 = some (.fn c550) := rfl
end Fb
