/- The table of the functions. -/
import Derived.Test.YtholaggmhhjjkabCode0
set_option linter.unusedVariables false
set_option linter.unusedSimpArgs false
namespace Fb
open Go
def tab : Tab := fun n => match n with
  | 50 => some (.fn c50)
  | 78 => some (.fn c78)
  | 103 => some (.fn c103)
  | 105 => some (.fn c105)
  | 107 => some (.fn c107)
  | 121 => some (.fn c121)
  | 122 => some (.fn c122)
  | 128 => some (.fn c128)
  | 129 => some (.fn c129)
  | 134 => some (.fn c134)
  | 180 => some (.fn c180)
  | 182 => some (.fn c182)
  | 183 => some (.fn c183)
  | 188 => some (.fn c188)
  | 234 => some (.fn c234)
  | 266 => some (.fn c266)
  | 267 => some (.fn c267)
  | 268 => some (.fn c268)
  | 295 => some (.fn c295)
  | 296 => some (.fn c296)
  | 304 => some (.fn c304)
  | 305 => some (.fn c305)
  | 316 => some (.fn c316)
  | 318 => some (.fn c318)
  | 342 => some (.fn c342)
  | 351 => some (.fn c351)
  | 352 => some (.fn c352)
  | 353 => some (.fn c353)
  | 354 => some (.fn c354)
  | 355 => some (.fn c355)
  | 358 => some (.fn c358)
  | 359 => some (.fn c359)
  | 369 => some (.fn c369)
  | 371 => some (.fn c371)
  | 440 => some (.fn c440)
  | 445 => some (.fn c445)
  | 446 => some (.fn c446)
  | 456 => some (.fn c456)
  | 474 => some (.fn c474)
  | 505 => some (.fn c505)
  | 506 => some (.fn c506)
  | 507 => some (.fn c507)
  | 508 => some (.fn c508)
  | 509 => some (.fn c509)
  | 510 => some (.fn c510)
  | 514 => some (.fn c514)
  | 515 => some (.fn c515)
  | 516 => some (.fn c516)
  | 517 => some (.fn c517)
  | 518 => some (.fn c518)
  | 519 => some (.fn c519)
  | 547 => some (.fn c547)
  | 549 => some (.fn c549)
  | 565 => some (.fn c565)
  | 566 => some (.fn c566)
  | 589 => some (.fn c589)
  | 590 => some (.fn c590)
  | 610 => some (.fn c610)
  | 624 => some (.fn c624)
  | _ => none
theorem t50 : tab 50 = some (.fn c50) := rfl
theorem t78 : tab 78 = some (.fn c78) := rfl
theorem t103 : tab 103 = some (.fn c103) := rfl
theorem t105 : tab 105 = some (.fn c105) := rfl
theorem t107 : tab 107 = some (.fn c107) := rfl
theorem t121 : tab 121 = some (.fn c121) := rfl
theorem t122 : tab 122 = some (.fn c122) := rfl
theorem t128 : tab 128 = some (.fn c128) := rfl
theorem t129 : tab 129 = some (.fn c129) := rfl
theorem t134 : tab 134 = some (.fn c134) := rfl
theorem t180 : tab 180 = some (.fn c180) := rfl
theorem t182 : tab 182 = some (.fn c182) := rfl
theorem t183 : tab 183 = some (.fn c183) := rfl
theorem t188 : tab 188 = some (.fn c188) := rfl
theorem t234 : tab 234 = some (.fn c234) := rfl
theorem t266 : tab 266 = some (.fn c266) := rfl
theorem t267 : tab 267 = some (.fn c267) := rfl
theorem t268 : tab 268 = some (.fn c268) := rfl
theorem t295 : tab 295 = some (.fn c295) := rfl
theorem t296 : tab 296 = some (.fn c296) := rfl
theorem t304 : tab 304 = some (.fn c304) := rfl
theorem t305 : tab 305 = some (.fn c305) := rfl
theorem t316 : tab 316 = some (.fn c316) := rfl
theorem t318 : tab 318 = some (.fn c318) := rfl
theorem t342 : tab 342 = some (.fn c342) := rfl
theorem t351 : tab 351 = some (.fn c351) := rfl
theorem t352 : tab 352 = some (.fn c352) := rfl
theorem t353 : tab 353 = some (.fn c353) := rfl
theorem t354 : tab 354 = some (.fn c354) := rfl
theorem t355 : tab 355 = some (.fn c355) := rfl
theorem t358 : tab 358 = some (.fn c358) := rfl
theorem t359 : tab 359 = some (.fn c359) := rfl
theorem t369 : tab 369 = some (.fn c369) := rfl
theorem t371 : tab 371 = some (.fn c371) := rfl
theorem t440 : tab 440 = some (.fn c440) := rfl
theorem t445 : tab 445 = some (.fn c445) := rfl
theorem t446 : tab 446 = some (.fn c446) := rfl
theorem t456 : tab 456 = some (.fn c456) := rfl
theorem t474 : tab 474 = some (.fn c474) := rfl
theorem t505 : tab 505 = some (.fn c505) := rfl
theorem t506 : tab 506 = some (.fn c506) := rfl
theorem t507 : tab 507 = some (.fn c507) := rfl
theorem t508 : tab 508 = some (.fn c508) := rfl
theorem t509 : tab 509 = some (.fn c509) := rfl
theorem t510 : tab 510 = some (.fn c510) := rfl
theorem t514 : tab 514 = some (.fn c514) := rfl
theorem t515 : tab 515 = some (.fn c515) := rfl
theorem t516 : tab 516 = some (.fn c516) := rfl
theorem t517 : tab 517 = some (.fn c517) := rfl
theorem t518 : tab 518 = some (.fn c518) := rfl
theorem t519 : tab 519 = some (.fn c519) := rfl
theorem t547 : tab 547 = some (.fn c547) := rfl
theorem t549 : tab 549 = some (.fn c549) := rfl
theorem t565 : tab 565 = some (.fn c565) := rfl
theorem t566 : tab 566 = some (.fn c566) := rfl
theorem t589 : tab 589 = some (.fn c589) := rfl
theorem t590 : tab 590 = some (.fn c590) := rfl
theorem t610 : tab 610 = some (.fn c610) := rfl
theorem t624 : tab 624 = some (.fn c624) := rfl
end Fb
