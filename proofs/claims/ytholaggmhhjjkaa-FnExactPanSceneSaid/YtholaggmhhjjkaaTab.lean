/- The table of the functions. -/
import Derived.Test.YtholaggmhhjjkaaCode0
set_option linter.unusedVariables false
set_option linter.unusedSimpArgs false
namespace Fb
open Go
def tab : Tab := fun n => match n with
  | 37 => some (.fn c37)
  | 78 => some (.fn c78)
  | 121 => some (.fn c121)
  | 122 => some (.fn c122)
  | 123 => some (.fn c123)
  | 134 => some (.fn c134)
  | 189 => some (.fn c189)
  | 191 => some (.fn c191)
  | 193 => some (.fn c193)
  | 194 => some (.fn c194)
  | 195 => some (.fn c195)
  | 198 => some (.fn c198)
  | 199 => some (.fn c199)
  | 234 => some (.fn c234)
  | 281 => some (.fn c281)
  | 295 => some (.fn c295)
  | 296 => some (.fn c296)
  | 304 => some (.fn c304)
  | 305 => some (.fn c305)
  | 329 => some (.fn c329)
  | 330 => some (.fn c330)
  | 331 => some (.fn c331)
  | 332 => some (.fn c332)
  | 333 => some (.fn c333)
  | 335 => some (.fn c335)
  | 336 => some (.fn c336)
  | 337 => some (.fn c337)
  | 338 => some (.fn c338)
  | 342 => some (.fn c342)
  | 349 => some (.fn c349)
  | 350 => some (.fn c350)
  | 351 => some (.fn c351)
  | 355 => some (.fn c355)
  | 358 => some (.fn c358)
  | 359 => some (.fn c359)
  | 410 => some (.fn c410)
  | 411 => some (.fn c411)
  | 413 => some (.fn c413)
  | 416 => some (.fn c416)
  | 440 => some (.fn c440)
  | 443 => some (.fn c443)
  | 445 => some (.fn c445)
  | 446 => some (.fn c446)
  | 456 => some (.fn c456)
  | 467 => some (.fn c467)
  | 468 => some (.fn c468)
  | 471 => some (.fn c471)
  | 472 => some (.fn c472)
  | 473 => some (.fn c473)
  | 474 => some (.fn c474)
  | 497 => some (.fn c497)
  | 498 => some (.fn c498)
  | 499 => some (.fn c499)
  | 500 => some (.fn c500)
  | 501 => some (.fn c501)
  | 502 => some (.fn c502)
  | 504 => some (.fn c504)
  | 505 => some (.fn c505)
  | 506 => some (.fn c506)
  | 533 => some (.fn c533)
  | 534 => some (.fn c534)
  | 535 => some (.fn c535)
  | 547 => some (.fn c547)
  | 555 => some (.fn c555)
  | 563 => some (.fn c563)
  | 564 => some (.fn c564)
  | _ => none
theorem t37 : tab 37 = some (.fn c37) := rfl
theorem t78 : tab 78 = some (.fn c78) := rfl
theorem t121 : tab 121 = some (.fn c121) := rfl
theorem t122 : tab 122 = some (.fn c122) := rfl
theorem t123 : tab 123 = some (.fn c123) := rfl
theorem t134 : tab 134 = some (.fn c134) := rfl
theorem t189 : tab 189 = some (.fn c189) := rfl
theorem t191 : tab 191 = some (.fn c191) := rfl
theorem t193 : tab 193 = some (.fn c193) := rfl
theorem t194 : tab 194 = some (.fn c194) := rfl
theorem t195 : tab 195 = some (.fn c195) := rfl
theorem t198 : tab 198 = some (.fn c198) := rfl
theorem t199 : tab 199 = some (.fn c199) := rfl
theorem t234 : tab 234 = some (.fn c234) := rfl
theorem t281 : tab 281 = some (.fn c281) := rfl
theorem t295 : tab 295 = some (.fn c295) := rfl
theorem t296 : tab 296 = some (.fn c296) := rfl
theorem t304 : tab 304 = some (.fn c304) := rfl
theorem t305 : tab 305 = some (.fn c305) := rfl
theorem t329 : tab 329 = some (.fn c329) := rfl
theorem t330 : tab 330 = some (.fn c330) := rfl
theorem t331 : tab 331 = some (.fn c331) := rfl
theorem t332 : tab 332 = some (.fn c332) := rfl
theorem t333 : tab 333 = some (.fn c333) := rfl
theorem t335 : tab 335 = some (.fn c335) := rfl
theorem t336 : tab 336 = some (.fn c336) := rfl
theorem t337 : tab 337 = some (.fn c337) := rfl
theorem t338 : tab 338 = some (.fn c338) := rfl
theorem t342 : tab 342 = some (.fn c342) := rfl
theorem t349 : tab 349 = some (.fn c349) := rfl
theorem t350 : tab 350 = some (.fn c350) := rfl
theorem t351 : tab 351 = some (.fn c351) := rfl
theorem t355 : tab 355 = some (.fn c355) := rfl
theorem t358 : tab 358 = some (.fn c358) := rfl
theorem t359 : tab 359 = some (.fn c359) := rfl
theorem t410 : tab 410 = some (.fn c410) := rfl
theorem t411 : tab 411 = some (.fn c411) := rfl
theorem t413 : tab 413 = some (.fn c413) := rfl
theorem t416 : tab 416 = some (.fn c416) := rfl
theorem t440 : tab 440 = some (.fn c440) := rfl
theorem t443 : tab 443 = some (.fn c443) := rfl
theorem t445 : tab 445 = some (.fn c445) := rfl
theorem t446 : tab 446 = some (.fn c446) := rfl
theorem t456 : tab 456 = some (.fn c456) := rfl
theorem t467 : tab 467 = some (.fn c467) := rfl
theorem t468 : tab 468 = some (.fn c468) := rfl
theorem t471 : tab 471 = some (.fn c471) := rfl
theorem t472 : tab 472 = some (.fn c472) := rfl
theorem t473 : tab 473 = some (.fn c473) := rfl
theorem t474 : tab 474 = some (.fn c474) := rfl
theorem t497 : tab 497 = some (.fn c497) := rfl
theorem t498 : tab 498 = some (.fn c498) := rfl
theorem t499 : tab 499 = some (.fn c499) := rfl
theorem t500 : tab 500 = some (.fn c500) := rfl
theorem t501 : tab 501 = some (.fn c501) := rfl
theorem t502 : tab 502 = some (.fn c502) := rfl
theorem t504 : tab 504 = some (.fn c504) := rfl
theorem t505 : tab 505 = some (.fn c505) := rfl
theorem t506 : tab 506 = some (.fn c506) := rfl
theorem t533 : tab 533 = some (.fn c533) := rfl
theorem t534 : tab 534 = some (.fn c534) := rfl
theorem t535 : tab 535 = some (.fn c535) := rfl
theorem t547 : tab 547 = some (.fn c547) := rfl
theorem t555 : tab 555 = some (.fn c555) := rfl
theorem t563 : tab 563 = some (.fn c563) := rfl
theorem t564 : tab 564 = some (.fn c564) := rfl
end Fb
