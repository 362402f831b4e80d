/- The table of the functions. -/
import Derived.Test.YtkjlnflhimibdaaCode0
set_option linter.unusedVariables false
set_option linter.unusedSimpArgs false
namespace Fb
open Go
def tab : Tab := fun n => match n with
  | 49 => some (.fn c49)
  | 91 => some (.fn c91)
  | 169 => some (.fn c169)
  | 171 => some (.fn c171)
  | 206 => some (.fn c206)
  | 208 => some (.fn c208)
  | 220 => some (.fn c220)
  | 222 => some (.fn c222)
  | 234 => some (.fn c234)
  | 251 => some (.fn c251)
  | 253 => some (.fn c253)
  | 258 => some (.fn c258)
  | 259 => some (.fn c259)
  | 260 => some (.fn c260)
  | 261 => some (.fn c261)
  | 262 => some (.fn c262)
  | 263 => some (.fn c263)
  | 264 => some (.fn c264)
  | 265 => some (.fn c265)
  | 295 => some (.fn c295)
  | 304 => some (.fn c304)
  | 305 => some (.fn c305)
  | 315 => some (.fn c315)
  | 323 => some (.fn c323)
  | 327 => some (.fn c327)
  | 337 => some (.fn c337)
  | 338 => some (.fn c338)
  | 342 => some (.fn c342)
  | 348 => some (.fn c348)
  | 355 => some (.fn c355)
  | 356 => some (.fn c356)
  | 358 => some (.fn c358)
  | 359 => some (.fn c359)
  | 368 => some (.fn c368)
  | 393 => some (.fn c393)
  | 401 => some (.fn c401)
  | 409 => some (.fn c409)
  | 421 => some (.fn c421)
  | 422 => some (.fn c422)
  | 423 => some (.fn c423)
  | 425 => some (.fn c425)
  | 426 => some (.fn c426)
  | 427 => some (.fn c427)
  | 432 => some (.fn c432)
  | 433 => some (.fn c433)
  | 435 => some (.fn c435)
  | 436 => some (.fn c436)
  | 440 => some (.fn c440)
  | 443 => some (.fn c443)
  | 445 => some (.fn c445)
  | 446 => some (.fn c446)
  | 456 => some (.fn c456)
  | 459 => some (.fn c459)
  | 460 => some (.fn c460)
  | 461 => some (.fn c461)
  | 462 => some (.fn c462)
  | 502 => some (.fn c502)
  | 503 => some (.fn c503)
  | 513 => some (.fn c513)
  | 530 => some (.fn c530)
  | 537 => some (.fn c537)
  | 538 => some (.fn c538)
  | 541 => some (.fn c541)
  | 542 => some (.fn c542)
  | 543 => some (.fn c543)
  | 547 => some (.fn c547)
  | 549 => some (.fn c549)
  | 550 => some (.fn c550)
  | 551 => some (.fn c551)
  | 574 => some (.fn c574)
  | 575 => some (.fn c575)
  | 576 => some (.fn c576)
  | 577 => some (.fn c577)
  | 578 => some (.fn c578)
  | 579 => some (.fn c579)
  | 580 => some (.fn c580)
  | 605 => some (.fn c605)
  | 606 => some (.fn c606)
  | _ => none
theorem t49 : tab 49 = some (.fn c49) := rfl
theorem t91 : tab 91 = some (.fn c91) := rfl
theorem t169 : tab 169 = some (.fn c169) := rfl
theorem t171 : tab 171 = some (.fn c171) := rfl
theorem t206 : tab 206 = some (.fn c206) := rfl
theorem t208 : tab 208 = some (.fn c208) := rfl
theorem t220 : tab 220 = some (.fn c220) := rfl
theorem t222 : tab 222 = some (.fn c222) := rfl
theorem t234 : tab 234 = some (.fn c234) := rfl
theorem t251 : tab 251 = some (.fn c251) := rfl
theorem t253 : tab 253 = some (.fn c253) := rfl
theorem t258 : tab 258 = some (.fn c258) := rfl
theorem t259 : tab 259 = some (.fn c259) := rfl
theorem t260 : tab 260 = some (.fn c260) := rfl
theorem t261 : tab 261 = some (.fn c261) := rfl
theorem t262 : tab 262 = some (.fn c262) := rfl
theorem t263 : tab 263 = some (.fn c263) := rfl
theorem t264 : tab 264 = some (.fn c264) := rfl
theorem t265 : tab 265 = some (.fn c265) := rfl
theorem t295 : tab 295 = some (.fn c295) := rfl
theorem t304 : tab 304 = some (.fn c304) := rfl
theorem t305 : tab 305 = some (.fn c305) := rfl
theorem t315 : tab 315 = some (.fn c315) := rfl
theorem t323 : tab 323 = some (.fn c323) := rfl
theorem t327 : tab 327 = some (.fn c327) := rfl
theorem t337 : tab 337 = some (.fn c337) := rfl
theorem t338 : tab 338 = some (.fn c338) := rfl
theorem t342 : tab 342 = some (.fn c342) := rfl
theorem t348 : tab 348 = some (.fn c348) := rfl
theorem t355 : tab 355 = some (.fn c355) := rfl
theorem t356 : tab 356 = some (.fn c356) := rfl
theorem t358 : tab 358 = some (.fn c358) := rfl
theorem t359 : tab 359 = some (.fn c359) := rfl
theorem t368 : tab 368 = some (.fn c368) := rfl
theorem t393 : tab 393 = some (.fn c393) := rfl
theorem t401 : tab 401 = some (.fn c401) := rfl
theorem t409 : tab 409 = some (.fn c409) := rfl
theorem t421 : tab 421 = some (.fn c421) := rfl
theorem t422 : tab 422 = some (.fn c422) := rfl
theorem t423 : tab 423 = some (.fn c423) := rfl
theorem t425 : tab 425 = some (.fn c425) := rfl
theorem t426 : tab 426 = some (.fn c426) := rfl
theorem t427 : tab 427 = some (.fn c427) := rfl
theorem t432 : tab 432 = some (.fn c432) := rfl
theorem t433 : tab 433 = some (.fn c433) := rfl
theorem t435 : tab 435 = some (.fn c435) := rfl
theorem t436 : tab 436 = some (.fn c436) := rfl
theorem t440 : tab 440 = some (.fn c440) := rfl
theorem t443 : tab 443 = some (.fn c443) := rfl
theorem t445 : tab 445 = some (.fn c445) := rfl
theorem t446 : tab 446 = some (.fn c446) := rfl
theorem t456 : tab 456 = some (.fn c456) := rfl
theorem t459 : tab 459 = some (.fn c459) := rfl
theorem t460 : tab 460 = some (.fn c460) := rfl
theorem t461 : tab 461 = some (.fn c461) := rfl
theorem t462 : tab 462 = some (.fn c462) := rfl
theorem t502 : tab 502 = some (.fn c502) := rfl
theorem t503 : tab 503 = some (.fn c503) := rfl
theorem t513 : tab 513 = some (.fn c513) := rfl
theorem t530 : tab 530 = some (.fn c530) := rfl
theorem t537 : tab 537 = some (.fn c537) := rfl
theorem t538 : tab 538 = some (.fn c538) := rfl
theorem t541 : tab 541 = some (.fn c541) := rfl
theorem t542 : tab 542 = some (.fn c542) := rfl
theorem t543 : tab 543 = some (.fn c543) := rfl
theorem t547 : tab 547 = some (.fn c547) := rfl
theorem t549 : tab 549 = some (.fn c549) := rfl
theorem t550 : tab 550 = some (.fn c550) := rfl
theorem t551 : tab 551 = some (.fn c551) := rfl
theorem t574 : tab 574 = some (.fn c574) := rfl
theorem t575 : tab 575 = some (.fn c575) := rfl
theorem t576 : tab 576 = some (.fn c576) := rfl
theorem t577 : tab 577 = some (.fn c577) := rfl
theorem t578 : tab 578 = some (.fn c578) := rfl
theorem t579 : tab 579 = some (.fn c579) := rfl
theorem t580 : tab 580 = some (.fn c580) := rfl
theorem t605 : tab 605 = some (.fn c605) := rfl
theorem t606 : tab 606 = some (.fn c606) := rfl
end Fb
