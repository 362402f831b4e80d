/- The table of the functions. -/
import Derived.Test.YtcddaakeobdjfaaDoorCode0
import Derived.Test.YtcddaakeobdjfaaDoorStr
set_option linter.unusedVariables false
set_option linter.unusedSimpArgs false
namespace Fb
open Go
def tab : Tab := fun n => match n with
  | 58 => some (.fn c58)
  | 153 => some (.fn c153)
  | 188 => some (.fn c188)
  | 266 => some (.fn c266)
  | 267 => some (.fn c267)
  | 268 => some (.fn c268)
  | 288 => some (.fn c288)
  | 295 => some (.fn c295)
  | 376 => some (.fn c376)
  | 377 => some (.ext .pure ext377)
  | 378 => some (.fn c378)
  | 379 => some (.fn c379)
  | 481 => some (.fn c481)
  | 482 => some (.fn c482)
  | 484 => some (.fn c484)
  | 485 => some (.ext .pure ext485)
  | 521 => some (.ext .pure ext521)
  | 522 => some (.ext .pure ext522)
  | _ => none
theorem t58 : tab 58 = some (.fn c58) := rfl
theorem t153 : tab 153 = some (.fn c153) := rfl
theorem t188 : tab 188 = some (.fn c188) := rfl
theorem t266 : tab 266 = some (.fn c266) := rfl
theorem t267 : tab 267 = some (.fn c267) := rfl
theorem t268 : tab 268 = some (.fn c268) := rfl
theorem t288 : tab 288 = some (.fn c288) := rfl
theorem t295 : tab 295 = some (.fn c295) := rfl
theorem t376 : tab 376 = some (.fn c376) := rfl
theorem t377 : tab 377 = some (.ext .pure ext377) := rfl
theorem t378 : tab 378 = some (.fn c378) := rfl
theorem t379 : tab 379 = some (.fn c379) := rfl
theorem t481 : tab 481 = some (.fn c481) := rfl
theorem t482 : tab 482 = some (.fn c482) := rfl
theorem t484 : tab 484 = some (.fn c484) := rfl
theorem t485 : tab 485 = some (.ext .pure ext485) := rfl
theorem t521 : tab 521 = some (.ext .pure ext521) := rfl
theorem t522 : tab 522 = some (.ext .pure ext522) := rfl
end Fb
