/- The table of the functions. -/
import Derived.Test.YtmdnahopljfakaaGreatCode0
set_option linter.unusedVariables false
set_option linter.unusedSimpArgs false
namespace Fb
open Go
def tab : Tab := fun n => match n with
  | 10 => some (.fn c10)
  | 84 => some (.fn c84)
  | 85 => some (.fn c85)
  | 86 => some (.fn c86)
  | 87 => some (.fn c87)
  | 88 => some (.fn c88)
  | 89 => some (.fn c89)
  | 90 => some (.fn c90)
  | 91 => some (.fn c91)
  | 92 => some (.fn c92)
  | 93 => some (.fn c93)
  | 94 => some (.fn c94)
  | 95 => some (.fn c95)
  | 96 => some (.fn c96)
  | 97 => some (.fn c97)
  | 98 => some (.fn c98)
  | 99 => some (.fn c99)
  | 100 => some (.fn c100)
  | 101 => some (.fn c101)
  | 102 => some (.fn c102)
  | 234 => some (.fn c234)
  | 281 => some (.fn c281)
  | 295 => some (.fn c295)
  | 304 => some (.fn c304)
  | 305 => some (.fn c305)
  | 314 => some (.fn c314)
  | 315 => some (.fn c315)
  | 316 => some (.fn c316)
  | 317 => some (.fn c317)
  | 318 => some (.fn c318)
  | 319 => some (.fn c319)
  | 320 => some (.fn c320)
  | 321 => some (.fn c321)
  | 322 => some (.fn c322)
  | 323 => some (.fn c323)
  | 324 => some (.fn c324)
  | 325 => some (.fn c325)
  | 326 => some (.fn c326)
  | 327 => some (.fn c327)
  | 328 => some (.fn c328)
  | 329 => some (.fn c329)
  | 330 => some (.fn c330)
  | 331 => some (.fn c331)
  | 332 => some (.fn c332)
  | 333 => some (.fn c333)
  | 334 => some (.fn c334)
  | 335 => some (.fn c335)
  | 336 => some (.fn c336)
  | 337 => some (.fn c337)
  | 338 => some (.fn c338)
  | 342 => some (.fn c342)
  | 349 => some (.fn c349)
  | 350 => some (.fn c350)
  | 351 => some (.fn c351)
  | 355 => some (.fn c355)
  | 358 => some (.fn c358)
  | 359 => some (.fn c359)
  | 367 => some (.fn c367)
  | 368 => some (.fn c368)
  | 393 => some (.fn c393)
  | 409 => some (.fn c409)
  | 416 => some (.fn c416)
  | 440 => some (.fn c440)
  | 443 => some (.fn c443)
  | 445 => some (.fn c445)
  | 446 => some (.fn c446)
  | 453 => some (.fn c453)
  | 456 => some (.fn c456)
  | 459 => some (.fn c459)
  | 467 => some (.fn c467)
  | 468 => some (.fn c468)
  | 471 => some (.fn c471)
  | 472 => some (.fn c472)
  | 473 => some (.fn c473)
  | 474 => some (.fn c474)
  | 491 => some (.fn c491)
  | 492 => some (.fn c492)
  | 493 => some (.fn c493)
  | 494 => some (.fn c494)
  | 495 => some (.fn c495)
  | 496 => some (.fn c496)
  | 497 => some (.fn c497)
  | 498 => some (.fn c498)
  | 499 => some (.fn c499)
  | 500 => some (.fn c500)
  | 501 => some (.fn c501)
  | 502 => some (.fn c502)
  | 504 => some (.fn c504)
  | 505 => some (.fn c505)
  | 506 => some (.fn c506)
  | 512 => some (.fn c512)
  | 513 => some (.fn c513)
  | 530 => some (.fn c530)
  | 547 => some (.fn c547)
  | 550 => some (.fn c550)
  | 555 => some (.fn c555)
  | 560 => some (.fn c560)
  | 561 => some (.fn c561)
  | 562 => some (.fn c562)
  | 563 => some (.fn c563)
  | 564 => some (.fn c564)
  | 586 => some (.fn c586)
  | 587 => some (.fn c587)
  | 588 => some (.fn c588)
  | _ => none
theorem t10 : tab 10 = some (.fn c10) := rfl
theorem t84 : tab 84 = some (.fn c84) := rfl
theorem t85 : tab 85 = some (.fn c85) := rfl
theorem t86 : tab 86 = some (.fn c86) := rfl
theorem t87 : tab 87 = some (.fn c87) := rfl
theorem t88 : tab 88 = some (.fn c88) := rfl
theorem t89 : tab 89 = some (.fn c89) := rfl
theorem t90 : tab 90 = some (.fn c90) := rfl
theorem t91 : tab 91 = some (.fn c91) := rfl
theorem t92 : tab 92 = some (.fn c92) := rfl
theorem t93 : tab 93 = some (.fn c93) := rfl
theorem t94 : tab 94 = some (.fn c94) := rfl
theorem t95 : tab 95 = some (.fn c95) := rfl
theorem t96 : tab 96 = some (.fn c96) := rfl
theorem t97 : tab 97 = some (.fn c97) := rfl
theorem t98 : tab 98 = some (.fn c98) := rfl
theorem t99 : tab 99 = some (.fn c99) := rfl
theorem t100 : tab 100 = some (.fn c100) := rfl
theorem t101 : tab 101 = some (.fn c101) := rfl
theorem t102 : tab 102 = some (.fn c102) := rfl
theorem t234 : tab 234 = some (.fn c234) := rfl
theorem t281 : tab 281 = some (.fn c281) := rfl
theorem t295 : tab 295 = some (.fn c295) := rfl
theorem t304 : tab 304 = some (.fn c304) := rfl
theorem t305 : tab 305 = some (.fn c305) := rfl
theorem t314 : tab 314 = some (.fn c314) := rfl
theorem t315 : tab 315 = some (.fn c315) := rfl
theorem t316 : tab 316 = some (.fn c316) := rfl
theorem t317 : tab 317 = some (.fn c317) := rfl
theorem t318 : tab 318 = some (.fn c318) := rfl
theorem t319 : tab 319 = some (.fn c319) := rfl
theorem t320 : tab 320 = some (.fn c320) := rfl
theorem t321 : tab 321 = some (.fn c321) := rfl
theorem t322 : tab 322 = some (.fn c322) := rfl
theorem t323 : tab 323 = some (.fn c323) := rfl
theorem t324 : tab 324 = some (.fn c324) := rfl
theorem t325 : tab 325 = some (.fn c325) := rfl
theorem t326 : tab 326 = some (.fn c326) := rfl
theorem t327 : tab 327 = some (.fn c327) := rfl
theorem t328 : tab 328 = some (.fn c328) := rfl
theorem t329 : tab 329 = some (.fn c329) := rfl
theorem t330 : tab 330 = some (.fn c330) := rfl
theorem t331 : tab 331 = some (.fn c331) := rfl
theorem t332 : tab 332 = some (.fn c332) := rfl
theorem t333 : tab 333 = some (.fn c333) := rfl
theorem t334 : tab 334 = some (.fn c334) := rfl
theorem t335 : tab 335 = some (.fn c335) := rfl
theorem t336 : tab 336 = some (.fn c336) := rfl
theorem t337 : tab 337 = some (.fn c337) := rfl
theorem t338 : tab 338 = some (.fn c338) := rfl
theorem t342 : tab 342 = some (.fn c342) := rfl
theorem t349 : tab 349 = some (.fn c349) := rfl
theorem t350 : tab 350 = some (.fn c350) := rfl
theorem t351 : tab 351 = some (.fn c351) := rfl
theorem t355 : tab 355 = some (.fn c355) := rfl
theorem t358 : tab 358 = some (.fn c358) := rfl
theorem t359 : tab 359 = some (.fn c359) := rfl
theorem t367 : tab 367 = some (.fn c367) := rfl
theorem t368 : tab 368 = some (.fn c368) := rfl
theorem t393 : tab 393 = some (.fn c393) := rfl
theorem t409 : tab 409 = some (.fn c409) := rfl
theorem t416 : tab 416 = some (.fn c416) := rfl
theorem t440 : tab 440 = some (.fn c440) := rfl
theorem t443 : tab 443 = some (.fn c443) := rfl
theorem t445 : tab 445 = some (.fn c445) := rfl
theorem t446 : tab 446 = some (.fn c446) := rfl
theorem t453 : tab 453 = some (.fn c453) := rfl
theorem t456 : tab 456 = some (.fn c456) := rfl
theorem t459 : tab 459 = some (.fn c459) := rfl
theorem t467 : tab 467 = some (.fn c467) := rfl
theorem t468 : tab 468 = some (.fn c468) := rfl
theorem t471 : tab 471 = some (.fn c471) := rfl
theorem t472 : tab 472 = some (.fn c472) := rfl
theorem t473 : tab 473 = some (.fn c473) := rfl
theorem t474 : tab 474 = some (.fn c474) := rfl
theorem t491 : tab 491 = some (.fn c491) := rfl
theorem t492 : tab 492 = some (.fn c492) := rfl
theorem t493 : tab 493 = some (.fn c493) := rfl
theorem t494 : tab 494 = some (.fn c494) := rfl
theorem t495 : tab 495 = some (.fn c495) := rfl
theorem t496 : tab 496 = some (.fn c496) := rfl
theorem t497 : tab 497 = some (.fn c497) := rfl
theorem t498 : tab 498 = some (.fn c498) := rfl
theorem t499 : tab 499 = some (.fn c499) := rfl
theorem t500 : tab 500 = some (.fn c500) := rfl
theorem t501 : tab 501 = some (.fn c501) := rfl
theorem t502 : tab 502 = some (.fn c502) := rfl
theorem t504 : tab 504 = some (.fn c504) := rfl
theorem t505 : tab 505 = some (.fn c505) := rfl
theorem t506 : tab 506 = some (.fn c506) := rfl
theorem t512 : tab 512 = some (.fn c512) := rfl
theorem t513 : tab 513 = some (.fn c513) := rfl
theorem t530 : tab 530 = some (.fn c530) := rfl
theorem t547 : tab 547 = some (.fn c547) := rfl
theorem t550 : tab 550 = some (.fn c550) := rfl
theorem t555 : tab 555 = some (.fn c555) := rfl
theorem t560 : tab 560 = some (.fn c560) := rfl
theorem t561 : tab 561 = some (.fn c561) := rfl
theorem t562 : tab 562 = some (.fn c562) := rfl
theorem t563 : tab 563 = some (.fn c563) := rfl
theorem t564 : tab 564 = some (.fn c564) := rfl
theorem t586 : tab 586 = some (.fn c586) := rfl
theorem t587 : tab 587 = some (.fn c587) := rfl
theorem t588 : tab 588 = some (.fn c588) := rfl
end Fb
