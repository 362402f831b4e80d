/- The table of the functions. -/
import Derived.Test.YtkjlnflhimibdabCode0
set_option linter.unusedVariables false
set_option linter.unusedSimpArgs false
namespace Fb
open Go
def tab : Tab := fun n => match n with
  | 17 => some (.fn c17)
  | 84 => some (.fn c84)
  | 85 => some (.fn c85)
  | 92 => some (.fn c92)
  | 93 => some (.fn c93)
  | 95 => some (.fn c95)
  | 106 => some (.fn c106)
  | 110 => some (.fn c110)
  | 111 => some (.fn c111)
  | 118 => some (.fn c118)
  | 120 => some (.fn c120)
  | 124 => some (.fn c124)
  | 125 => some (.fn c125)
  | 126 => some (.fn c126)
  | 127 => some (.fn c127)
  | 128 => some (.fn c128)
  | 129 => some (.fn c129)
  | 130 => some (.fn c130)
  | 131 => some (.fn c131)
  | 132 => some (.fn c132)
  | 234 => some (.fn c234)
  | 295 => some (.fn c295)
  | 304 => some (.fn c304)
  | 305 => some (.fn c305)
  | 306 => some (.fn c306)
  | 314 => some (.fn c314)
  | 315 => some (.fn c315)
  | 316 => some (.fn c316)
  | 318 => some (.fn c318)
  | 323 => some (.fn c323)
  | 324 => some (.fn c324)
  | 325 => some (.fn c325)
  | 327 => some (.fn c327)
  | 338 => some (.fn c338)
  | 341 => some (.fn c341)
  | 342 => some (.fn c342)
  | 346 => some (.fn c346)
  | 347 => some (.fn c347)
  | 348 => some (.fn c348)
  | 350 => some (.fn c350)
  | 351 => some (.fn c351)
  | 352 => some (.fn c352)
  | 353 => some (.fn c353)
  | 354 => some (.fn c354)
  | 355 => some (.fn c355)
  | 356 => some (.fn c356)
  | 357 => some (.fn c357)
  | 358 => some (.fn c358)
  | 359 => some (.fn c359)
  | 367 => some (.fn c367)
  | 368 => some (.fn c368)
  | 369 => some (.fn c369)
  | 371 => some (.fn c371)
  | 393 => some (.fn c393)
  | 409 => some (.fn c409)
  | 440 => some (.fn c440)
  | 443 => some (.fn c443)
  | 445 => some (.fn c445)
  | 446 => some (.fn c446)
  | 456 => some (.fn c456)
  | 459 => some (.fn c459)
  | 474 => some (.fn c474)
  | 502 => some (.fn c502)
  | 503 => some (.fn c503)
  | 504 => some (.fn c504)
  | 505 => some (.fn c505)
  | 506 => some (.fn c506)
  | 507 => some (.fn c507)
  | 508 => some (.fn c508)
  | 509 => some (.fn c509)
  | 510 => some (.fn c510)
  | 512 => some (.fn c512)
  | 513 => some (.fn c513)
  | 514 => some (.fn c514)
  | 515 => some (.fn c515)
  | 516 => some (.fn c516)
  | 517 => some (.fn c517)
  | 518 => some (.fn c518)
  | 519 => some (.fn c519)
  | 530 => some (.fn c530)
  | 547 => some (.fn c547)
  | 549 => some (.fn c549)
  | 550 => some (.fn c550)
  | 565 => some (.fn c565)
  | 566 => some (.fn c566)
  | 589 => some (.fn c589)
  | 590 => some (.fn c590)
  | 610 => some (.fn c610)
  | 624 => some (.fn c624)
  | _ => none
theorem t17 : tab 17 = some (.fn c17) := rfl
theorem t84 : tab 84 = some (.fn c84) := rfl
theorem t85 : tab 85 = some (.fn c85) := rfl
theorem t92 : tab 92 = some (.fn c92) := rfl
theorem t93 : tab 93 = some (.fn c93) := rfl
theorem t95 : tab 95 = some (.fn c95) := rfl
theorem t106 : tab 106 = some (.fn c106) := rfl
theorem t110 : tab 110 = some (.fn c110) := rfl
theorem t111 : tab 111 = some (.fn c111) := rfl
theorem t118 : tab 118 = some (.fn c118) := rfl
theorem t120 : tab 120 = some (.fn c120) := rfl
theorem t124 : tab 124 = some (.fn c124) := rfl
theorem t125 : tab 125 = some (.fn c125) := rfl
theorem t126 : tab 126 = some (.fn c126) := rfl
theorem t127 : tab 127 = some (.fn c127) := rfl
theorem t128 : tab 128 = some (.fn c128) := rfl
theorem t129 : tab 129 = some (.fn c129) := rfl
theorem t130 : tab 130 = some (.fn c130) := rfl
theorem t131 : tab 131 = some (.fn c131) := rfl
theorem t132 : tab 132 = some (.fn c132) := rfl
theorem t234 : tab 234 = some (.fn c234) := rfl
theorem t295 : tab 295 = some (.fn c295) := rfl
theorem t304 : tab 304 = some (.fn c304) := rfl
theorem t305 : tab 305 = some (.fn c305) := rfl
theorem t306 : tab 306 = some (.fn c306) := rfl
theorem t314 : tab 314 = some (.fn c314) := rfl
theorem t315 : tab 315 = some (.fn c315) := rfl
theorem t316 : tab 316 = some (.fn c316) := rfl
theorem t318 : tab 318 = some (.fn c318) := rfl
theorem t323 : tab 323 = some (.fn c323) := rfl
theorem t324 : tab 324 = some (.fn c324) := rfl
theorem t325 : tab 325 = some (.fn c325) := rfl
theorem t327 : tab 327 = some (.fn c327) := rfl
theorem t338 : tab 338 = some (.fn c338) := rfl
theorem t341 : tab 341 = some (.fn c341) := rfl
theorem t342 : tab 342 = some (.fn c342) := rfl
theorem t346 : tab 346 = some (.fn c346) := rfl
theorem t347 : tab 347 = some (.fn c347) := rfl
theorem t348 : tab 348 = some (.fn c348) := rfl
theorem t350 : tab 350 = some (.fn c350) := rfl
theorem t351 : tab 351 = some (.fn c351) := rfl
theorem t352 : tab 352 = some (.fn c352) := rfl
theorem t353 : tab 353 = some (.fn c353) := rfl
theorem t354 : tab 354 = some (.fn c354) := rfl
theorem t355 : tab 355 = some (.fn c355) := rfl
theorem t356 : tab 356 = some (.fn c356) := rfl
theorem t357 : tab 357 = some (.fn c357) := rfl
theorem t358 : tab 358 = some (.fn c358) := rfl
theorem t359 : tab 359 = some (.fn c359) := rfl
theorem t367 : tab 367 = some (.fn c367) := rfl
theorem t368 : tab 368 = some (.fn c368) := rfl
theorem t369 : tab 369 = some (.fn c369) := rfl
theorem t371 : tab 371 = some (.fn c371) := rfl
theorem t393 : tab 393 = some (.fn c393) := rfl
theorem t409 : tab 409 = some (.fn c409) := rfl
theorem t440 : tab 440 = some (.fn c440) := rfl
theorem t443 : tab 443 = some (.fn c443) := rfl
theorem t445 : tab 445 = some (.fn c445) := rfl
theorem t446 : tab 446 = some (.fn c446) := rfl
theorem t456 : tab 456 = some (.fn c456) := rfl
theorem t459 : tab 459 = some (.fn c459) := rfl
theorem t474 : tab 474 = some (.fn c474) := rfl
theorem t502 : tab 502 = some (.fn c502) := rfl
theorem t503 : tab 503 = some (.fn c503) := rfl
theorem t504 : tab 504 = some (.fn c504) := rfl
theorem t505 : tab 505 = some (.fn c505) := rfl
theorem t506 : tab 506 = some (.fn c506) := rfl
theorem t507 : tab 507 = some (.fn c507) := rfl
theorem t508 : tab 508 = some (.fn c508) := rfl
theorem t509 : tab 509 = some (.fn c509) := rfl
theorem t510 : tab 510 = some (.fn c510) := rfl
theorem t512 : tab 512 = some (.fn c512) := rfl
theorem t513 : tab 513 = some (.fn c513) := rfl
theorem t514 : tab 514 = some (.fn c514) := rfl
theorem t515 : tab 515 = some (.fn c515) := rfl
theorem t516 : tab 516 = some (.fn c516) := rfl
theorem t517 : tab 517 = some (.fn c517) := rfl
theorem t518 : tab 518 = some (.fn c518) := rfl
theorem t519 : tab 519 = some (.fn c519) := rfl
theorem t530 : tab 530 = some (.fn c530) := rfl
theorem t547 : tab 547 = some (.fn c547) := rfl
theorem t549 : tab 549 = some (.fn c549) := rfl
theorem t550 : tab 550 = some (.fn c550) := rfl
theorem t565 : tab 565 = some (.fn c565) := rfl
theorem t566 : tab 566 = some (.fn c566) := rfl
theorem t589 : tab 589 = some (.fn c589) := rfl
theorem t590 : tab 590 = some (.fn c590) := rfl
theorem t610 : tab 610 = some (.fn c610) := rfl
theorem t624 : tab 624 = some (.fn c624) := rfl
end Fb
