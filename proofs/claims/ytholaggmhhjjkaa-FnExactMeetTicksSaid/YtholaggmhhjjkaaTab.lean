/- The table of the functions. -/
import Derived.Test.YtholaggmhhjjkaaCode0
set_option linter.unusedVariables false
set_option linter.unusedSimpArgs false
namespace Fb
open Go
def tab : Tab := fun n => match n with
  | 41 => some (.fn c41)
  | 78 => some (.fn c78)
  | 134 => some (.fn c134)
  | 180 => some (.fn c180)
  | 182 => some (.fn c182)
  | 183 => some (.fn c183)
  | 205 => some (.fn c205)
  | 206 => some (.fn c206)
  | 207 => some (.fn c207)
  | 208 => some (.fn c208)
  | 209 => some (.fn c209)
  | 210 => some (.fn c210)
  | 234 => some (.fn c234)
  | 263 => some (.fn c263)
  | 295 => some (.fn c295)
  | 296 => some (.fn c296)
  | 304 => some (.fn c304)
  | 305 => some (.fn c305)
  | 342 => some (.fn c342)
  | 348 => some (.fn c348)
  | 355 => some (.fn c355)
  | 358 => some (.fn c358)
  | 359 => some (.fn c359)
  | 393 => some (.fn c393)
  | 420 => some (.fn c420)
  | 421 => some (.fn c421)
  | 422 => some (.fn c422)
  | 423 => some (.fn c423)
  | 424 => some (.fn c424)
  | 425 => some (.fn c425)
  | 426 => some (.fn c426)
  | 427 => some (.fn c427)
  | 428 => some (.fn c428)
  | 429 => some (.fn c429)
  | 432 => some (.fn c432)
  | 435 => some (.fn c435)
  | 440 => some (.fn c440)
  | 443 => some (.fn c443)
  | 445 => some (.fn c445)
  | 446 => some (.fn c446)
  | 456 => some (.fn c456)
  | 461 => some (.fn c461)
  | 462 => some (.fn c462)
  | 503 => some (.fn c503)
  | 530 => some (.fn c530)
  | 537 => some (.fn c537)
  | 538 => some (.fn c538)
  | 539 => some (.fn c539)
  | 540 => some (.fn c540)
  | 541 => some (.fn c541)
  | 542 => some (.fn c542)
  | 543 => some (.fn c543)
  | 544 => some (.fn c544)
  | 547 => some (.fn c547)
  | 549 => some (.fn c549)
  | 551 => some (.fn c551)
  | 574 => some (.fn c574)
  | 575 => some (.fn c575)
  | 576 => some (.fn c576)
  | 577 => some (.fn c577)
  | 578 => some (.fn c578)
  | 579 => some (.fn c579)
  | 580 => some (.fn c580)
  | 581 => some (.fn c581)
  | 605 => some (.fn c605)
  | 606 => some (.fn c606)
  | _ => none
theorem t41 : tab 41 = some (.fn c41) := rfl
theorem t78 : tab 78 = some (.fn c78) := rfl
theorem t134 : tab 134 = some (.fn c134) := rfl
theorem t180 : tab 180 = some (.fn c180) := rfl
theorem t182 : tab 182 = some (.fn c182) := rfl
theorem t183 : tab 183 = some (.fn c183) := rfl
theorem t205 : tab 205 = some (.fn c205) := rfl
theorem t206 : tab 206 = some (.fn c206) := rfl
theorem t207 : tab 207 = some (.fn c207) := rfl
theorem t208 : tab 208 = some (.fn c208) := rfl
theorem t209 : tab 209 = some (.fn c209) := rfl
theorem t210 : tab 210 = some (.fn c210) := rfl
theorem t234 : tab 234 = some (.fn c234) := rfl
theorem t263 : tab 263 = some (.fn c263) := rfl
theorem t295 : tab 295 = some (.fn c295) := rfl
theorem t296 : tab 296 = some (.fn c296) := rfl
theorem t304 : tab 304 = some (.fn c304) := rfl
theorem t305 : tab 305 = some (.fn c305) := rfl
theorem t342 : tab 342 = some (.fn c342) := rfl
theorem t348 : tab 348 = some (.fn c348) := rfl
theorem t355 : tab 355 = some (.fn c355) := rfl
theorem t358 : tab 358 = some (.fn c358) := rfl
theorem t359 : tab 359 = some (.fn c359) := rfl
theorem t393 : tab 393 = some (.fn c393) := rfl
theorem t420 : tab 420 = some (.fn c420) := rfl
theorem t421 : tab 421 = some (.fn c421) := rfl
theorem t422 : tab 422 = some (.fn c422) := rfl
theorem t423 : tab 423 = some (.fn c423) := rfl
theorem t424 : tab 424 = some (.fn c424) := rfl
theorem t425 : tab 425 = some (.fn c425) := rfl
theorem t426 : tab 426 = some (.fn c426) := rfl
theorem t427 : tab 427 = some (.fn c427) := rfl
theorem t428 : tab 428 = some (.fn c428) := rfl
theorem t429 : tab 429 = some (.fn c429) := rfl
theorem t432 : tab 432 = some (.fn c432) := rfl
theorem t435 : tab 435 = some (.fn c435) := rfl
theorem t440 : tab 440 = some (.fn c440) := rfl
theorem t443 : tab 443 = some (.fn c443) := rfl
theorem t445 : tab 445 = some (.fn c445) := rfl
theorem t446 : tab 446 = some (.fn c446) := rfl
theorem t456 : tab 456 = some (.fn c456) := rfl
theorem t461 : tab 461 = some (.fn c461) := rfl
theorem t462 : tab 462 = some (.fn c462) := rfl
theorem t503 : tab 503 = some (.fn c503) := rfl
theorem t530 : tab 530 = some (.fn c530) := rfl
theorem t537 : tab 537 = some (.fn c537) := rfl
theorem t538 : tab 538 = some (.fn c538) := rfl
theorem t539 : tab 539 = some (.fn c539) := rfl
theorem t540 : tab 540 = some (.fn c540) := rfl
theorem t541 : tab 541 = some (.fn c541) := rfl
theorem t542 : tab 542 = some (.fn c542) := rfl
theorem t543 : tab 543 = some (.fn c543) := rfl
theorem t544 : tab 544 = some (.fn c544) := rfl
theorem t547 : tab 547 = some (.fn c547) := rfl
theorem t549 : tab 549 = some (.fn c549) := rfl
theorem t551 : tab 551 = some (.fn c551) := rfl
theorem t574 : tab 574 = some (.fn c574) := rfl
theorem t575 : tab 575 = some (.fn c575) := rfl
theorem t576 : tab 576 = some (.fn c576) := rfl
theorem t577 : tab 577 = some (.fn c577) := rfl
theorem t578 : tab 578 = some (.fn c578) := rfl
theorem t579 : tab 579 = some (.fn c579) := rfl
theorem t580 : tab 580 = some (.fn c580) := rfl
theorem t581 : tab 581 = some (.fn c581) := rfl
theorem t605 : tab 605 = some (.fn c605) := rfl
theorem t606 : tab 606 = some (.fn c606) := rfl
end Fb
