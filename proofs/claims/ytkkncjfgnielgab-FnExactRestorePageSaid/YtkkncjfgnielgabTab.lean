/- The table of the functions. -/
import Derived.Test.YtkkncjfgnielgabCode0
set_option linter.unusedVariables false
set_option linter.unusedSimpArgs false
namespace Fb
open Go
def tab : Tab := fun n => match n with
  | 21 => some (.fn c21)
  | 78 => some (.fn c78)
  | 103 => some (.fn c103)
  | 105 => some (.fn c105)
  | 107 => some (.fn c107)
  | 121 => some (.fn c121)
  | 122 => some (.fn c122)
  | 123 => some (.fn c123)
  | 134 => some (.fn c134)
  | 143 => some (.fn c143)
  | 144 => some (.fn c144)
  | 234 => some (.fn c234)
  | 295 => some (.fn c295)
  | 296 => some (.fn c296)
  | 304 => some (.fn c304)
  | 316 => some (.fn c316)
  | 318 => some (.fn c318)
  | 339 => some (.fn c339)
  | 340 => some (.fn c340)
  | 351 => some (.fn c351)
  | 359 => some (.fn c359)
  | 365 => some (.fn c365)
  | 366 => some (.fn c366)
  | 367 => some (.fn c367)
  | 443 => some (.fn c443)
  | 445 => some (.fn c445)
  | 446 => some (.fn c446)
  | 474 => some (.fn c474)
  | 505 => some (.fn c505)
  | 506 => some (.fn c506)
  | 512 => some (.fn c512)
  | 547 => some (.fn c547)
  | _ => none
theorem t21 : tab 21 = some (.fn c21) := rfl
theorem t78 : tab 78 = some (.fn c78) := rfl
theorem t103 : tab 103 = some (.fn c103) := rfl
theorem t105 : tab 105 = some (.fn c105) := rfl
theorem t107 : tab 107 = some (.fn c107) := rfl
theorem t121 : tab 121 = some (.fn c121) := rfl
theorem t122 : tab 122 = some (.fn c122) := rfl
theorem t123 : tab 123 = some (.fn c123) := rfl
theorem t134 : tab 134 = some (.fn c134) := rfl
theorem t143 : tab 143 = some (.fn c143) := rfl
theorem t144 : tab 144 = some (.fn c144) := rfl
theorem t234 : tab 234 = some (.fn c234) := rfl
theorem t295 : tab 295 = some (.fn c295) := rfl
theorem t296 : tab 296 = some (.fn c296) := rfl
theorem t304 : tab 304 = some (.fn c304) := rfl
theorem t316 : tab 316 = some (.fn c316) := rfl
theorem t318 : tab 318 = some (.fn c318) := rfl
theorem t339 : tab 339 = some (.fn c339) := rfl
theorem t340 : tab 340 = some (.fn c340) := rfl
theorem t351 : tab 351 = some (.fn c351) := rfl
theorem t359 : tab 359 = some (.fn c359) := rfl
theorem t365 : tab 365 = some (.fn c365) := rfl
theorem t366 : tab 366 = some (.fn c366) := rfl
theorem t367 : tab 367 = some (.fn c367) := rfl
theorem t443 : tab 443 = some (.fn c443) := rfl
theorem t445 : tab 445 = some (.fn c445) := rfl
theorem t446 : tab 446 = some (.fn c446) := rfl
theorem t474 : tab 474 = some (.fn c474) := rfl
theorem t505 : tab 505 = some (.fn c505) := rfl
theorem t506 : tab 506 = some (.fn c506) := rfl
theorem t512 : tab 512 = some (.fn c512) := rfl
theorem t547 : tab 547 = some (.fn c547) := rfl
end Fb
