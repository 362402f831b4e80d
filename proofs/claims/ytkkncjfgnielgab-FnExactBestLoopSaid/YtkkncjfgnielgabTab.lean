/- The table of the functions. -/
import Derived.Test.YtkkncjfgnielgabCode0
set_option linter.unusedVariables false
set_option linter.unusedSimpArgs false
namespace Fb
open Go
def tab : Tab := fun n => match n with
  | 22 => some (.fn c22)
  | 78 => some (.fn c78)
  | 92 => some (.fn c92)
  | 93 => some (.fn c93)
  | 103 => some (.fn c103)
  | 105 => some (.fn c105)
  | 107 => some (.fn c107)
  | 121 => some (.fn c121)
  | 134 => some (.fn c134)
  | 234 => some (.fn c234)
  | 296 => some (.fn c296)
  | 304 => some (.fn c304)
  | 316 => some (.fn c316)
  | 318 => some (.fn c318)
  | 324 => some (.fn c324)
  | 325 => some (.fn c325)
  | 342 => some (.fn c342)
  | 351 => some (.fn c351)
  | 359 => some (.fn c359)
  | 367 => some (.fn c367)
  | 393 => some (.fn c393)
  | 409 => some (.fn c409)
  | 440 => some (.fn c440)
  | 443 => some (.fn c443)
  | 445 => some (.fn c445)
  | 446 => some (.fn c446)
  | 456 => some (.fn c456)
  | 474 => some (.fn c474)
  | 505 => some (.fn c505)
  | 506 => some (.fn c506)
  | 512 => some (.fn c512)
  | 530 => some (.fn c530)
  | 547 => some (.fn c547)
  | _ => none
theorem t22 : tab 22 = some (.fn c22) := rfl
theorem t78 : tab 78 = some (.fn c78) := rfl
theorem t92 : tab 92 = some (.fn c92) := rfl
theorem t93 : tab 93 = some (.fn c93) := rfl
theorem t103 : tab 103 = some (.fn c103) := rfl
theorem t105 : tab 105 = some (.fn c105) := rfl
theorem t107 : tab 107 = some (.fn c107) := rfl
theorem t121 : tab 121 = some (.fn c121) := rfl
theorem t134 : tab 134 = some (.fn c134) := rfl
theorem t234 : tab 234 = some (.fn c234) := rfl
theorem t296 : tab 296 = some (.fn c296) := rfl
theorem t304 : tab 304 = some (.fn c304) := rfl
theorem t316 : tab 316 = some (.fn c316) := rfl
theorem t318 : tab 318 = some (.fn c318) := rfl
theorem t324 : tab 324 = some (.fn c324) := rfl
theorem t325 : tab 325 = some (.fn c325) := rfl
theorem t342 : tab 342 = some (.fn c342) := rfl
theorem t351 : tab 351 = some (.fn c351) := rfl
theorem t359 : tab 359 = some (.fn c359) := rfl
theorem t367 : tab 367 = some (.fn c367) := rfl
theorem t393 : tab 393 = some (.fn c393) := rfl
theorem t409 : tab 409 = some (.fn c409) := rfl
theorem t440 : tab 440 = some (.fn c440) := rfl
theorem t443 : tab 443 = some (.fn c443) := rfl
theorem t445 : tab 445 = some (.fn c445) := rfl
theorem t446 : tab 446 = some (.fn c446) := rfl
theorem t456 : tab 456 = some (.fn c456) := rfl
theorem t474 : tab 474 = some (.fn c474) := rfl
theorem t505 : tab 505 = some (.fn c505) := rfl
theorem t506 : tab 506 = some (.fn c506) := rfl
theorem t512 : tab 512 = some (.fn c512) := rfl
theorem t530 : tab 530 = some (.fn c530) := rfl
theorem t547 : tab 547 = some (.fn c547) := rfl
end Fb
