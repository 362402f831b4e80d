/- The table of the functions. -/
import Derived.Test.YtimijcjjmeemeaaCode0
import Derived.Test.YtimijcjjmeemeaaStr
set_option linter.unusedVariables false
set_option linter.unusedSimpArgs false
namespace Fb
open Go
def tab : Tab := fun n => match n with
  | 57 => some (.fn c57)
  | 84 => some (.fn c84)
  | 96 => some (.fn c96)
  | 97 => some (.fn c97)
  | 98 => some (.fn c98)
  | 99 => some (.fn c99)
  | 101 => some (.fn c101)
  | 124 => some (.fn c124)
  | 130 => some (.fn c130)
  | 190 => some (.fn c190)
  | 192 => some (.fn c192)
  | 199 => some (.fn c199)
  | 234 => some (.fn c234)
  | 276 => some (.fn c276)
  | 277 => some (.fn c277)
  | 278 => some (.fn c278)
  | 279 => some (.fn c279)
  | 280 => some (.fn c280)
  | 281 => some (.fn c281)
  | 282 => some (.fn c282)
  | 283 => some (.fn c283)
  | 284 => some (.fn c284)
  | 285 => some (.fn c285)
  | 286 => some (.fn c286)
  | 287 => some (.fn c287)
  | 295 => some (.fn c295)
  | 304 => some (.fn c304)
  | 305 => some (.fn c305)
  | 315 => some (.fn c315)
  | 328 => some (.fn c328)
  | 329 => some (.fn c329)
  | 330 => some (.fn c330)
  | 331 => some (.fn c331)
  | 332 => some (.fn c332)
  | 333 => some (.fn c333)
  | 334 => some (.fn c334)
  | 335 => some (.fn c335)
  | 336 => some (.fn c336)
  | 337 => some (.fn c337)
  | 338 => some (.fn c338)
  | 342 => some (.fn c342)
  | 345 => some (.fn c345)
  | 349 => some (.fn c349)
  | 350 => some (.fn c350)
  | 351 => some (.fn c351)
  | 355 => some (.fn c355)
  | 356 => some (.fn c356)
  | 358 => some (.fn c358)
  | 359 => some (.fn c359)
  | 368 => some (.fn c368)
  | 393 => some (.fn c393)
  | 395 => some (.fn c395)
  | 408 => some (.fn c408)
  | 409 => some (.fn c409)
  | 412 => some (.fn c412)
  | 416 => some (.fn c416)
  | 440 => some (.fn c440)
  | 443 => some (.fn c443)
  | 445 => some (.fn c445)
  | 446 => some (.fn c446)
  | 453 => some (.fn c453)
  | 456 => some (.fn c456)
  | 459 => some (.fn c459)
  | 467 => some (.fn c467)
  | 468 => some (.fn c468)
  | 470 => some (.fn c470)
  | 471 => some (.fn c471)
  | 472 => some (.fn c472)
  | 473 => some (.fn c473)
  | 474 => some (.fn c474)
  | 475 => some (.fn c475)
  | 476 => some (.fn c476)
  | 477 => some (.fn c477)
  | 478 => some (.fn c478)
  | 479 => some (.fn c479)
  | 480 => some (.fn c480)
  | 495 => some (.fn c495)
  | 496 => some (.fn c496)
  | 497 => some (.fn c497)
  | 498 => some (.fn c498)
  | 499 => some (.fn c499)
  | 500 => some (.fn c500)
  | 501 => some (.fn c501)
  | 502 => some (.fn c502)
  | 504 => some (.fn c504)
  | 505 => some (.fn c505)
  | 506 => some (.fn c506)
  | 513 => some (.fn c513)
  | 530 => some (.fn c530)
  | 547 => some (.fn c547)
  | 550 => some (.fn c550)
  | 555 => some (.fn c555)
  | 556 => some (.fn c556)
  | 563 => some (.fn c563)
  | 564 => some (.fn c564)
  | _ => none
theorem t57 : tab 57 = some (.fn c57) := rfl
theorem t84 : tab 84 = some (.fn c84) := rfl
theorem t96 : tab 96 = some (.fn c96) := rfl
theorem t97 : tab 97 = some (.fn c97) := rfl
theorem t98 : tab 98 = some (.fn c98) := rfl
theorem t99 : tab 99 = some (.fn c99) := rfl
theorem t101 : tab 101 = some (.fn c101) := rfl
theorem t124 : tab 124 = some (.fn c124) := rfl
theorem t130 : tab 130 = some (.fn c130) := rfl
theorem t190 : tab 190 = some (.fn c190) := rfl
theorem t192 : tab 192 = some (.fn c192) := rfl
theorem t199 : tab 199 = some (.fn c199) := rfl
theorem t234 : tab 234 = some (.fn c234) := rfl
theorem t276 : tab 276 = some (.fn c276) := rfl
theorem t277 : tab 277 = some (.fn c277) := rfl
theorem t278 : tab 278 = some (.fn c278) := rfl
theorem t279 : tab 279 = some (.fn c279) := rfl
theorem t280 : tab 280 = some (.fn c280) := rfl
theorem t281 : tab 281 = some (.fn c281) := rfl
theorem t282 : tab 282 = some (.fn c282) := rfl
theorem t283 : tab 283 = some (.fn c283) := rfl
theorem t284 : tab 284 = some (.fn c284) := rfl
theorem t285 : tab 285 = some (.fn c285) := rfl
theorem t286 : tab 286 = some (.fn c286) := rfl
theorem t287 : tab 287 = some (.fn c287) := rfl
theorem t295 : tab 295 = some (.fn c295) := rfl
theorem t304 : tab 304 = some (.fn c304) := rfl
theorem t305 : tab 305 = some (.fn c305) := rfl
theorem t315 : tab 315 = some (.fn c315) := rfl
theorem t328 : tab 328 = some (.fn c328) := rfl
theorem t329 : tab 329 = some (.fn c329) := rfl
theorem t330 : tab 330 = some (.fn c330) := rfl
theorem t331 : tab 331 = some (.fn c331) := rfl
theorem t332 : tab 332 = some (.fn c332) := rfl
theorem t333 : tab 333 = some (.fn c333) := rfl
theorem t334 : tab 334 = some (.fn c334) := rfl
theorem t335 : tab 335 = some (.fn c335) := rfl
theorem t336 : tab 336 = some (.fn c336) := rfl
theorem t337 : tab 337 = some (.fn c337) := rfl
theorem t338 : tab 338 = some (.fn c338) := rfl
theorem t342 : tab 342 = some (.fn c342) := rfl
theorem t345 : tab 345 = some (.fn c345) := rfl
theorem t349 : tab 349 = some (.fn c349) := rfl
theorem t350 : tab 350 = some (.fn c350) := rfl
theorem t351 : tab 351 = some (.fn c351) := rfl
theorem t355 : tab 355 = some (.fn c355) := rfl
theorem t356 : tab 356 = some (.fn c356) := rfl
theorem t358 : tab 358 = some (.fn c358) := rfl
theorem t359 : tab 359 = some (.fn c359) := rfl
theorem t368 : tab 368 = some (.fn c368) := rfl
theorem t393 : tab 393 = some (.fn c393) := rfl
theorem t395 : tab 395 = some (.fn c395) := rfl
theorem t408 : tab 408 = some (.fn c408) := rfl
theorem t409 : tab 409 = some (.fn c409) := rfl
theorem t412 : tab 412 = some (.fn c412) := rfl
theorem t416 : tab 416 = some (.fn c416) := rfl
theorem t440 : tab 440 = some (.fn c440) := rfl
theorem t443 : tab 443 = some (.fn c443) := rfl
theorem t445 : tab 445 = some (.fn c445) := rfl
theorem t446 : tab 446 = some (.fn c446) := rfl
theorem t453 : tab 453 = some (.fn c453) := rfl
theorem t456 : tab 456 = some (.fn c456) := rfl
theorem t459 : tab 459 = some (.fn c459) := rfl
theorem t467 : tab 467 = some (.fn c467) := rfl
theorem t468 : tab 468 = some (.fn c468) := rfl
theorem t470 : tab 470 = some (.fn c470) := rfl
theorem t471 : tab 471 = some (.fn c471) := rfl
theorem t472 : tab 472 = some (.fn c472) := rfl
theorem t473 : tab 473 = some (.fn c473) := rfl
theorem t474 : tab 474 = some (.fn c474) := rfl
theorem t475 : tab 475 = some (.fn c475) := rfl
theorem t476 : tab 476 = some (.fn c476) := rfl
theorem t477 : tab 477 = some (.fn c477) := rfl
theorem t478 : tab 478 = some (.fn c478) := rfl
theorem t479 : tab 479 = some (.fn c479) := rfl
theorem t480 : tab 480 = some (.fn c480) := rfl
theorem t495 : tab 495 = some (.fn c495) := rfl
theorem t496 : tab 496 = some (.fn c496) := rfl
theorem t497 : tab 497 = some (.fn c497) := rfl
theorem t498 : tab 498 = some (.fn c498) := rfl
theorem t499 : tab 499 = some (.fn c499) := rfl
theorem t500 : tab 500 = some (.fn c500) := rfl
theorem t501 : tab 501 = some (.fn c501) := rfl
theorem t502 : tab 502 = some (.fn c502) := rfl
theorem t504 : tab 504 = some (.fn c504) := rfl
theorem t505 : tab 505 = some (.fn c505) := rfl
theorem t506 : tab 506 = some (.fn c506) := rfl
theorem t513 : tab 513 = some (.fn c513) := rfl
theorem t530 : tab 530 = some (.fn c530) := rfl
theorem t547 : tab 547 = some (.fn c547) := rfl
theorem t550 : tab 550 = some (.fn c550) := rfl
theorem t555 : tab 555 = some (.fn c555) := rfl
theorem t556 : tab 556 = some (.fn c556) := rfl
theorem t563 : tab 563 = some (.fn c563) := rfl
theorem t564 : tab 564 = some (.fn c564) := rfl
end Fb
