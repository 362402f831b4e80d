/- The table of the functions. -/
import Derived.Test.YtkkncjfgnielgaaCode0
set_option linter.unusedVariables false
set_option linter.unusedSimpArgs false
namespace Fb
open Go
def tab : Tab := fun n => match n with
  | 16 => some (.fn c16)
  | 78 => some (.fn c78)
  | 103 => some (.fn c103)
  | 105 => some (.fn c105)
  | 107 => some (.fn c107)
  | 119 => some (.fn c119)
  | 120 => some (.fn c120)
  | 121 => some (.fn c121)
  | 122 => some (.fn c122)
  | 123 => some (.fn c123)
  | 134 => some (.fn c134)
  | 234 => some (.fn c234)
  | 296 => some (.fn c296)
  | 316 => some (.fn c316)
  | 318 => some (.fn c318)
  | 349 => some (.fn c349)
  | 350 => some (.fn c350)
  | 351 => some (.fn c351)
  | 359 => some (.fn c359)
  | 443 => some (.fn c443)
  | 445 => some (.fn c445)
  | 446 => some (.fn c446)
  | 474 => some (.fn c474)
  | 504 => some (.fn c504)
  | 505 => some (.fn c505)
  | 506 => some (.fn c506)
  | 547 => some (.fn c547)
  | _ => none
theorem t16 : tab 16 = some (.fn c16) := rfl
theorem t78 : tab 78 = some (.fn c78) := rfl
theorem t103 : tab 103 = some (.fn c103) := rfl
theorem t105 : tab 105 = some (.fn c105) := rfl
theorem t107 : tab 107 = some (.fn c107) := rfl
theorem t119 : tab 119 = some (.fn c119) := rfl
theorem t120 : tab 120 = some (.fn c120) := rfl
theorem t121 : tab 121 = some (.fn c121) := rfl
theorem t122 : tab 122 = some (.fn c122) := rfl
theorem t123 : tab 123 = some (.fn c123) := rfl
theorem t134 : tab 134 = some (.fn c134) := rfl
theorem t234 : tab 234 = some (.fn c234) := rfl
theorem t296 : tab 296 = some (.fn c296) := rfl
theorem t316 : tab 316 = some (.fn c316) := rfl
theorem t318 : tab 318 = some (.fn c318) := rfl
theorem t349 : tab 349 = some (.fn c349) := rfl
theorem t350 : tab 350 = some (.fn c350) := rfl
theorem t351 : tab 351 = some (.fn c351) := rfl
theorem t359 : tab 359 = some (.fn c359) := rfl
theorem t443 : tab 443 = some (.fn c443) := rfl
theorem t445 : tab 445 = some (.fn c445) := rfl
theorem t446 : tab 446 = some (.fn c446) := rfl
theorem t474 : tab 474 = some (.fn c474) := rfl
theorem t504 : tab 504 = some (.fn c504) := rfl
theorem t505 : tab 505 = some (.fn c505) := rfl
theorem t506 : tab 506 = some (.fn c506) := rfl
theorem t547 : tab 547 = some (.fn c547) := rfl
end Fb
