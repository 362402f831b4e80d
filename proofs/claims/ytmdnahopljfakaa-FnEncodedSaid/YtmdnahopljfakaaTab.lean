/- The table of the functions. -/
import Derived.Test.YtmdnahopljfakaaCode0
import Derived.Test.YtmdnahopljfakaaStr
set_option linter.unusedVariables false
set_option linter.unusedSimpArgs false
namespace Fb
open Go
def tab : Tab := fun n => match n with
  | 56 => some (.fn c56)
  | 82 => some (.fn c82)
  | 91 => some (.fn c91)
  | 158 => some (.fn c158)
  | 163 => some (.fn c163)
  | 164 => some (.fn c164)
  | 165 => some (.fn c165)
  | 169 => some (.fn c169)
  | 175 => some (.fn c175)
  | 178 => some (.fn c178)
  | 179 => some (.fn c179)
  | 187 => some (.fn c187)
  | 203 => some (.fn c203)
  | 204 => some (.fn c204)
  | 211 => some (.fn c211)
  | 212 => some (.fn c212)
  | 215 => some (.fn c215)
  | 216 => some (.fn c216)
  | 225 => some (.fn c225)
  | 234 => some (.fn c234)
  | 259 => some (.fn c259)
  | 262 => some (.fn c262)
  | 274 => some (.fn c274)
  | 275 => some (.fn c275)
  | 295 => some (.fn c295)
  | 304 => some (.fn c304)
  | 305 => some (.fn c305)
  | 309 => some (.fn c309)
  | 310 => some (.fn c310)
  | 312 => some (.fn c312)
  | 315 => some (.fn c315)
  | 316 => some (.fn c316)
  | 318 => some (.fn c318)
  | 323 => some (.fn c323)
  | 341 => some (.fn c341)
  | 342 => some (.fn c342)
  | 351 => some (.fn c351)
  | 355 => some (.fn c355)
  | 356 => some (.fn c356)
  | 358 => some (.fn c358)
  | 359 => some (.fn c359)
  | 365 => some (.fn c365)
  | 367 => some (.fn c367)
  | 381 => some (.fn c381)
  | 386 => some (.fn c386)
  | 387 => some (.fn c387)
  | 388 => some (.fn c388)
  | 389 => some (.fn c389)
  | 396 => some (.fn c396)
  | 397 => some (.fn c397)
  | 400 => some (.fn c400)
  | 404 => some (.fn c404)
  | 405 => some (.fn c405)
  | 406 => some (.fn c406)
  | 407 => some (.fn c407)
  | 418 => some (.fn c418)
  | 419 => some (.fn c419)
  | 430 => some (.fn c430)
  | 431 => some (.fn c431)
  | 440 => some (.fn c440)
  | 443 => some (.fn c443)
  | 445 => some (.fn c445)
  | 446 => some (.fn c446)
  | 456 => some (.fn c456)
  | 459 => some (.fn c459)
  | 469 => some (.fn c469)
  | 474 => some (.fn c474)
  | 490 => some (.fn c490)
  | 505 => some (.fn c505)
  | 506 => some (.fn c506)
  | 512 => some (.fn c512)
  | 513 => some (.fn c513)
  | 524 => some (.fn c524)
  | 525 => some (.fn c525)
  | 526 => some (.fn c526)
  | 527 => some (.fn c527)
  | 528 => some (.fn c528)
  | 547 => some (.fn c547)
  | 550 => some (.fn c550)
  | 572 => some (.fn c572)
  | 573 => some (.fn c573)
  | _ => none
theorem t56 : tab 56 = some (.fn c56) := rfl
theorem t82 : tab 82 = some (.fn c82) := rfl
theorem t91 : tab 91 = some (.fn c91) := rfl
theorem t158 : tab 158 = some (.fn c158) := rfl
theorem t163 : tab 163 = some (.fn c163) := rfl
theorem t164 : tab 164 = some (.fn c164) := rfl
theorem t165 : tab 165 = some (.fn c165) := rfl
theorem t169 : tab 169 = some (.fn c169) := rfl
theorem t175 : tab 175 = some (.fn c175) := rfl
theorem t178 : tab 178 = some (.fn c178) := rfl
theorem t179 : tab 179 = some (.fn c179) := rfl
theorem t187 : tab 187 = some (.fn c187) := rfl
theorem t203 : tab 203 = some (.fn c203) := rfl
theorem t204 : tab 204 = some (.fn c204) := rfl
theorem t211 : tab 211 = some (.fn c211) := rfl
theorem t212 : tab 212 = some (.fn c212) := rfl
theorem t215 : tab 215 = some (.fn c215) := rfl
theorem t216 : tab 216 = some (.fn c216) := rfl
theorem t225 : tab 225 = some (.fn c225) := rfl
theorem t234 : tab 234 = some (.fn c234) := rfl
theorem t259 : tab 259 = some (.fn c259) := rfl
theorem t262 : tab 262 = some (.fn c262) := rfl
theorem t274 : tab 274 = some (.fn c274) := rfl
theorem t275 : tab 275 = some (.fn c275) := rfl
theorem t295 : tab 295 = some (.fn c295) := rfl
theorem t304 : tab 304 = some (.fn c304) := rfl
theorem t305 : tab 305 = some (.fn c305) := rfl
theorem t309 : tab 309 = some (.fn c309) := rfl
theorem t310 : tab 310 = some (.fn c310) := rfl
theorem t312 : tab 312 = some (.fn c312) := rfl
theorem t315 : tab 315 = some (.fn c315) := rfl
theorem t316 : tab 316 = some (.fn c316) := rfl
theorem t318 : tab 318 = some (.fn c318) := rfl
theorem t323 : tab 323 = some (.fn c323) := rfl
theorem t341 : tab 341 = some (.fn c341) := rfl
theorem t342 : tab 342 = some (.fn c342) := rfl
theorem t351 : tab 351 = some (.fn c351) := rfl
theorem t355 : tab 355 = some (.fn c355) := rfl
theorem t356 : tab 356 = some (.fn c356) := rfl
theorem t358 : tab 358 = some (.fn c358) := rfl
theorem t359 : tab 359 = some (.fn c359) := rfl
theorem t365 : tab 365 = some (.fn c365) := rfl
theorem t367 : tab 367 = some (.fn c367) := rfl
theorem t381 : tab 381 = some (.fn c381) := rfl
theorem t386 : tab 386 = some (.fn c386) := rfl
theorem t387 : tab 387 = some (.fn c387) := rfl
theorem t388 : tab 388 = some (.fn c388) := rfl
theorem t389 : tab 389 = some (.fn c389) := rfl
theorem t396 : tab 396 = some (.fn c396) := rfl
theorem t397 : tab 397 = some (.fn c397) := rfl
theorem t400 : tab 400 = some (.fn c400) := rfl
theorem t404 : tab 404 = some (.fn c404) := rfl
theorem t405 : tab 405 = some (.fn c405) := rfl
theorem t406 : tab 406 = some (.fn c406) := rfl
theorem t407 : tab 407 = some (.fn c407) := rfl
theorem t418 : tab 418 = some (.fn c418) := rfl
theorem t419 : tab 419 = some (.fn c419) := rfl
theorem t430 : tab 430 = some (.fn c430) := rfl
theorem t431 : tab 431 = some (.fn c431) := rfl
theorem t440 : tab 440 = some (.fn c440) := rfl
theorem t443 : tab 443 = some (.fn c443) := rfl
theorem t445 : tab 445 = some (.fn c445) := rfl
theorem t446 : tab 446 = some (.fn c446) := rfl
theorem t456 : tab 456 = some (.fn c456) := rfl
theorem t459 : tab 459 = some (.fn c459) := rfl
theorem t469 : tab 469 = some (.fn c469) := rfl
theorem t474 : tab 474 = some (.fn c474) := rfl
theorem t490 : tab 490 = some (.fn c490) := rfl
theorem t505 : tab 505 = some (.fn c505) := rfl
theorem t506 : tab 506 = some (.fn c506) := rfl
theorem t512 : tab 512 = some (.fn c512) := rfl
theorem t513 : tab 513 = some (.fn c513) := rfl
theorem t524 : tab 524 = some (.fn c524) := rfl
theorem t525 : tab 525 = some (.fn c525) := rfl
theorem t526 : tab 526 = some (.fn c526) := rfl
theorem t527 : tab 527 = some (.fn c527) := rfl
theorem t528 : tab 528 = some (.fn c528) := rfl
theorem t547 : tab 547 = some (.fn c547) := rfl
theorem t550 : tab 550 = some (.fn c550) := rfl
theorem t572 : tab 572 = some (.fn c572) := rfl
theorem t573 : tab 573 = some (.fn c573) := rfl
end Fb
