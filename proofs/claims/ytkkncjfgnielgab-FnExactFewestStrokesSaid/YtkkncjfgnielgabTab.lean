/- The table of the functions. -/
import Derived.Test.YtkkncjfgnielgabCode0
set_option linter.unusedVariables false
set_option linter.unusedSimpArgs false
namespace Fb
open Go
def tab : Tab := fun n => match n with
  | 20 => some (.fn c20)
  | 134 => some (.fn c134)
  | 138 => some (.fn c138)
  | 139 => some (.fn c139)
  | 140 => some (.fn c140)
  | 141 => some (.fn c141)
  | 142 => some (.fn c142)
  | 234 => some (.fn c234)
  | 295 => some (.fn c295)
  | 304 => some (.fn c304)
  | 342 => some (.fn c342)
  | 345 => some (.fn c345)
  | 359 => some (.fn c359)
  | 362 => some (.fn c362)
  | 363 => some (.fn c363)
  | 364 => some (.fn c364)
  | 395 => some (.fn c395)
  | 445 => some (.fn c445)
  | 446 => some (.fn c446)
  | 449 => some (.fn c449)
  | 456 => some (.fn c456)
  | 547 => some (.fn c547)
  | _ => none
theorem t20 : tab 20 = some (.fn c20) := rfl
theorem t134 : tab 134 = some (.fn c134) := rfl
theorem t138 : tab 138 = some (.fn c138) := rfl
theorem t139 : tab 139 = some (.fn c139) := rfl
theorem t140 : tab 140 = some (.fn c140) := rfl
theorem t141 : tab 141 = some (.fn c141) := rfl
theorem t142 : tab 142 = some (.fn c142) := rfl
theorem t234 : tab 234 = some (.fn c234) := rfl
theorem t295 : tab 295 = some (.fn c295) := rfl
theorem t304 : tab 304 = some (.fn c304) := rfl
theorem t342 : tab 342 = some (.fn c342) := rfl
theorem t345 : tab 345 = some (.fn c345) := rfl
theorem t359 : tab 359 = some (.fn c359) := rfl
theorem t362 : tab 362 = some (.fn c362) := rfl
theorem t363 : tab 363 = some (.fn c363) := rfl
theorem t364 : tab 364 = some (.fn c364) := rfl
theorem t395 : tab 395 = some (.fn c395) := rfl
theorem t445 : tab 445 = some (.fn c445) := rfl
theorem t446 : tab 446 = some (.fn c446) := rfl
theorem t449 : tab 449 = some (.fn c449) := rfl
theorem t456 : tab 456 = some (.fn c456) := rfl
theorem t547 : tab 547 = some (.fn c547) := rfl
end Fb
