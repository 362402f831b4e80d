/- The table of the functions. -/
import Derived.Test.YtneicaopmfbdlaaCode0
set_option linter.unusedVariables false
set_option linter.unusedSimpArgs false
namespace Fb
open Go
def tab : Tab := fun n => match n with
  | 43 => some (.fn c43)
  | 78 => some (.fn c78)
  | 103 => some (.fn c103)
  | 105 => some (.fn c105)
  | 107 => some (.fn c107)
  | 121 => some (.fn c121)
  | 122 => some (.fn c122)
  | 134 => some (.fn c134)
  | 166 => some (.fn c166)
  | 181 => some (.fn c181)
  | 213 => some (.fn c213)
  | 214 => some (.fn c214)
  | 215 => some (.fn c215)
  | 216 => some (.fn c216)
  | 234 => some (.fn c234)
  | 295 => some (.fn c295)
  | 296 => some (.fn c296)
  | 304 => some (.fn c304)
  | 310 => some (.fn c310)
  | 312 => some (.fn c312)
  | 316 => some (.fn c316)
  | 318 => some (.fn c318)
  | 351 => some (.fn c351)
  | 358 => some (.fn c358)
  | 359 => some (.fn c359)
  | 367 => some (.fn c367)
  | 388 => some (.fn c388)
  | 389 => some (.fn c389)
  | 390 => some (.fn c390)
  | 391 => some (.fn c391)
  | 392 => some (.fn c392)
  | 396 => some (.fn c396)
  | 397 => some (.fn c397)
  | 400 => some (.fn c400)
  | 404 => some (.fn c404)
  | 406 => some (.fn c406)
  | 430 => some (.fn c430)
  | 431 => some (.fn c431)
  | 443 => some (.fn c443)
  | 445 => some (.fn c445)
  | 446 => some (.fn c446)
  | 474 => some (.fn c474)
  | 490 => some (.fn c490)
  | 505 => some (.fn c505)
  | 506 => some (.fn c506)
  | 512 => some (.fn c512)
  | 525 => some (.fn c525)
  | 526 => some (.fn c526)
  | 527 => some (.fn c527)
  | 528 => some (.fn c528)
  | 529 => some (.fn c529)
  | 547 => some (.fn c547)
  | _ => none
theorem t43 : tab 43 = some (.fn c43) := rfl
theorem t78 : tab 78 = some (.fn c78) := rfl
theorem t103 : tab 103 = some (.fn c103) := rfl
theorem t105 : tab 105 = some (.fn c105) := rfl
theorem t107 : tab 107 = some (.fn c107) := rfl
theorem t121 : tab 121 = some (.fn c121) := rfl
theorem t122 : tab 122 = some (.fn c122) := rfl
theorem t134 : tab 134 = some (.fn c134) := rfl
theorem t166 : tab 166 = some (.fn c166) := rfl
theorem t181 : tab 181 = some (.fn c181) := rfl
theorem t213 : tab 213 = some (.fn c213) := rfl
theorem t214 : tab 214 = some (.fn c214) := rfl
theorem t215 : tab 215 = some (.fn c215) := rfl
theorem t216 : tab 216 = some (.fn c216) := rfl
theorem t234 : tab 234 = some (.fn c234) := rfl
theorem t295 : tab 295 = some (.fn c295) := rfl
theorem t296 : tab 296 = some (.fn c296) := rfl
theorem t304 : tab 304 = some (.fn c304) := rfl
theorem t310 : tab 310 = some (.fn c310) := rfl
theorem t312 : tab 312 = some (.fn c312) := rfl
theorem t316 : tab 316 = some (.fn c316) := rfl
theorem t318 : tab 318 = some (.fn c318) := rfl
theorem t351 : tab 351 = some (.fn c351) := rfl
theorem t358 : tab 358 = some (.fn c358) := rfl
theorem t359 : tab 359 = some (.fn c359) := rfl
theorem t367 : tab 367 = some (.fn c367) := rfl
theorem t388 : tab 388 = some (.fn c388) := rfl
theorem t389 : tab 389 = some (.fn c389) := rfl
theorem t390 : tab 390 = some (.fn c390) := rfl
theorem t391 : tab 391 = some (.fn c391) := rfl
theorem t392 : tab 392 = some (.fn c392) := rfl
theorem t396 : tab 396 = some (.fn c396) := rfl
theorem t397 : tab 397 = some (.fn c397) := rfl
theorem t400 : tab 400 = some (.fn c400) := rfl
theorem t404 : tab 404 = some (.fn c404) := rfl
theorem t406 : tab 406 = some (.fn c406) := rfl
theorem t430 : tab 430 = some (.fn c430) := rfl
theorem t431 : tab 431 = some (.fn c431) := rfl
theorem t443 : tab 443 = some (.fn c443) := rfl
theorem t445 : tab 445 = some (.fn c445) := rfl
theorem t446 : tab 446 = some (.fn c446) := rfl
theorem t474 : tab 474 = some (.fn c474) := rfl
theorem t490 : tab 490 = some (.fn c490) := rfl
theorem t505 : tab 505 = some (.fn c505) := rfl
theorem t506 : tab 506 = some (.fn c506) := rfl
theorem t512 : tab 512 = some (.fn c512) := rfl
theorem t525 : tab 525 = some (.fn c525) := rfl
theorem t526 : tab 526 = some (.fn c526) := rfl
theorem t527 : tab 527 = some (.fn c527) := rfl
theorem t528 : tab 528 = some (.fn c528) := rfl
theorem t529 : tab 529 = some (.fn c529) := rfl
theorem t547 : tab 547 = some (.fn c547) := rfl
end Fb
