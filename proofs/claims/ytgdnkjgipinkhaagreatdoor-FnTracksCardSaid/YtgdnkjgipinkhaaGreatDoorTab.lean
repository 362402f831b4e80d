/- The table of the functions. -/
import Derived.Test.YtgdnkjgipinkhaaGreatDoorCode0
import Derived.Test.YtgdnkjgipinkhaaGreatDoorStr
set_option linter.unusedVariables false
set_option linter.unusedSimpArgs false
namespace Fb
open Go
def tab : Tab := fun n => match n with
  | 24 => some (.fn c24)
  | 71 => some (.fn c71)
  | 84 => some (.fn c84)
  | 85 => some (.fn c85)
  | 91 => some (.fn c91)
  | 124 => some (.fn c124)
  | 125 => some (.fn c125)
  | 131 => some (.fn c131)
  | 132 => some (.fn c132)
  | 147 => some (.fn c147)
  | 148 => some (.fn c148)
  | 149 => some (.fn c149)
  | 150 => some (.fn c150)
  | 151 => some (.fn c151)
  | 152 => some (.fn c152)
  | 153 => some (.fn c153)
  | 154 => some (.fn c154)
  | 155 => some (.fn c155)
  | 156 => some (.fn c156)
  | 234 => some (.fn c234)
  | 295 => some (.fn c295)
  | 304 => some (.fn c304)
  | 305 => some (.fn c305)
  | 314 => some (.fn c314)
  | 315 => some (.fn c315)
  | 316 => some (.fn c316)
  | 318 => some (.fn c318)
  | 323 => some (.fn c323)
  | 324 => some (.fn c324)
  | 325 => some (.fn c325)
  | 327 => some (.fn c327)
  | 342 => some (.fn c342)
  | 351 => some (.fn c351)
  | 353 => some (.fn c353)
  | 354 => some (.fn c354)
  | 355 => some (.fn c355)
  | 357 => some (.fn c357)
  | 358 => some (.fn c358)
  | 359 => some (.fn c359)
  | 367 => some (.fn c367)
  | 368 => some (.fn c368)
  | 369 => some (.fn c369)
  | 370 => some (.fn c370)
  | 371 => some (.fn c371)
  | 372 => some (.fn c372)
  | 373 => some (.fn c373)
  | 374 => some (.fn c374)
  | 375 => some (.fn c375)
  | 376 => some (.fn c376)
  | 377 => some (.ext .pure ext377)
  | 378 => some (.fn c378)
  | 379 => some (.fn c379)
  | 380 => some (.ext .pure ext380)
  | 393 => some (.fn c393)
  | 409 => some (.fn c409)
  | 440 => some (.fn c440)
  | 443 => some (.fn c443)
  | 445 => some (.fn c445)
  | 446 => some (.fn c446)
  | 456 => some (.fn c456)
  | 459 => some (.fn c459)
  | 474 => some (.fn c474)
  | 485 => some (.ext .pure ext485)
  | 505 => some (.fn c505)
  | 506 => some (.fn c506)
  | 510 => some (.fn c510)
  | 512 => some (.fn c512)
  | 513 => some (.fn c513)
  | 514 => some (.fn c514)
  | 515 => some (.fn c515)
  | 516 => some (.fn c516)
  | 517 => some (.fn c517)
  | 518 => some (.fn c518)
  | 519 => some (.fn c519)
  | 521 => some (.ext .pure ext521)
  | 522 => some (.ext .pure ext522)
  | 530 => some (.fn c530)
  | 547 => some (.fn c547)
  | 549 => some (.fn c549)
  | 550 => some (.fn c550)
  | 565 => some (.fn c565)
  | 566 => some (.fn c566)
  | 589 => some (.fn c589)
  | 590 => some (.fn c590)
  | 610 => some (.fn c610)
  | 624 => some (.fn c624)
  | _ => none
theorem t24 : tab 24 = some (.fn c24) := rfl
theorem t71 : tab 71 = some (.fn c71) := rfl
theorem t84 : tab 84 = some (.fn c84) := rfl
theorem t85 : tab 85 = some (.fn c85) := rfl
theorem t91 : tab 91 = some (.fn c91) := rfl
theorem t124 : tab 124 = some (.fn c124) := rfl
theorem t125 : tab 125 = some (.fn c125) := rfl
theorem t131 : tab 131 = some (.fn c131) := rfl
theorem t132 : tab 132 = some (.fn c132) := rfl
theorem t147 : tab 147 = some (.fn c147) := rfl
theorem t148 : tab 148 = some (.fn c148) := rfl
theorem t149 : tab 149 = some (.fn c149) := rfl
theorem t150 : tab 150 = some (.fn c150) := rfl
theorem t151 : tab 151 = some (.fn c151) := rfl
theorem t152 : tab 152 = some (.fn c152) := rfl
theorem t153 : tab 153 = some (.fn c153) := rfl
theorem t154 : tab 154 = some (.fn c154) := rfl
theorem t155 : tab 155 = some (.fn c155) := rfl
theorem t156 : tab 156 = some (.fn c156) := rfl
theorem t234 : tab 234 = some (.fn c234) := rfl
theorem t295 : tab 295 = some (.fn c295) := rfl
theorem t304 : tab 304 = some (.fn c304) := rfl
theorem t305 : tab 305 = some (.fn c305) := rfl
theorem t314 : tab 314 = some (.fn c314) := rfl
theorem t315 : tab 315 = some (.fn c315) := rfl
theorem t316 : tab 316 = some (.fn c316) := rfl
theorem t318 : tab 318 = some (.fn c318) := rfl
theorem t323 : tab 323 = some (.fn c323) := rfl
theorem t324 : tab 324 = some (.fn c324) := rfl
theorem t325 : tab 325 = some (.fn c325) := rfl
theorem t327 : tab 327 = some (.fn c327) := rfl
theorem t342 : tab 342 = some (.fn c342) := rfl
theorem t351 : tab 351 = some (.fn c351) := rfl
theorem t353 : tab 353 = some (.fn c353) := rfl
theorem t354 : tab 354 = some (.fn c354) := rfl
theorem t355 : tab 355 = some (.fn c355) := rfl
theorem t357 : tab 357 = some (.fn c357) := rfl
theorem t358 : tab 358 = some (.fn c358) := rfl
theorem t359 : tab 359 = some (.fn c359) := rfl
theorem t367 : tab 367 = some (.fn c367) := rfl
theorem t368 : tab 368 = some (.fn c368) := rfl
theorem t369 : tab 369 = some (.fn c369) := rfl
theorem t370 : tab 370 = some (.fn c370) := rfl
theorem t371 : tab 371 = some (.fn c371) := rfl
theorem t372 : tab 372 = some (.fn c372) := rfl
theorem t373 : tab 373 = some (.fn c373) := rfl
theorem t374 : tab 374 = some (.fn c374) := rfl
theorem t375 : tab 375 = some (.fn c375) := rfl
theorem t376 : tab 376 = some (.fn c376) := rfl
theorem t377 : tab 377 = some (.ext .pure ext377) := rfl
theorem t378 : tab 378 = some (.fn c378) := rfl
theorem t379 : tab 379 = some (.fn c379) := rfl
theorem t380 : tab 380 = some (.ext .pure ext380) := rfl
theorem t393 : tab 393 = some (.fn c393) := rfl
theorem t409 : tab 409 = some (.fn c409) := rfl
theorem t440 : tab 440 = some (.fn c440) := rfl
theorem t443 : tab 443 = some (.fn c443) := rfl
theorem t445 : tab 445 = some (.fn c445) := rfl
theorem t446 : tab 446 = some (.fn c446) := rfl
theorem t456 : tab 456 = some (.fn c456) := rfl
theorem t459 : tab 459 = some (.fn c459) := rfl
theorem t474 : tab 474 = some (.fn c474) := rfl
theorem t485 : tab 485 = some (.ext .pure ext485) := rfl
theorem t505 : tab 505 = some (.fn c505) := rfl
theorem t506 : tab 506 = some (.fn c506) := rfl
theorem t510 : tab 510 = some (.fn c510) := rfl
theorem t512 : tab 512 = some (.fn c512) := rfl
theorem t513 : tab 513 = some (.fn c513) := rfl
theorem t514 : tab 514 = some (.fn c514) := rfl
theorem t515 : tab 515 = some (.fn c515) := rfl
theorem t516 : tab 516 = some (.fn c516) := rfl
theorem t517 : tab 517 = some (.fn c517) := rfl
theorem t518 : tab 518 = some (.fn c518) := rfl
theorem t519 : tab 519 = some (.fn c519) := rfl
theorem t521 : tab 521 = some (.ext .pure ext521) := rfl
theorem t522 : tab 522 = some (.ext .pure ext522) := rfl
theorem t530 : tab 530 = some (.fn c530) := rfl
theorem t547 : tab 547 = some (.fn c547) := rfl
theorem t549 : tab 549 = some (.fn c549) := rfl
theorem t550 : tab 550 = some (.fn c550) := rfl
theorem t565 : tab 565 = some (.fn c565) := rfl
theorem t566 : tab 566 = some (.fn c566) := rfl
theorem t589 : tab 589 = some (.fn c589) := rfl
theorem t590 : tab 590 = some (.fn c590) := rfl
theorem t610 : tab 610 = some (.fn c610) := rfl
theorem t624 : tab 624 = some (.fn c624) := rfl
end Fb
