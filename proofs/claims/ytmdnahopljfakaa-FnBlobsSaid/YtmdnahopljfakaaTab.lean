/- The table of the functions. -/
import Derived.Test.YtmdnahopljfakaaCode0
set_option linter.unusedVariables false
set_option linter.unusedSimpArgs false
namespace Fb
open Go
def tab : Tab := fun n => match n with
  | 48 => some (.fn c48)
  | 84 => some (.fn c84)
  | 124 => some (.fn c124)
  | 125 => some (.fn c125)
  | 147 => some (.fn c147)
  | 234 => some (.fn c234)
  | 237 => some (.fn c237)
  | 240 => some (.fn c240)
  | 242 => some (.fn c242)
  | 245 => some (.fn c245)
  | 246 => some (.fn c246)
  | 247 => some (.fn c247)
  | 248 => some (.fn c248)
  | 249 => some (.fn c249)
  | 250 => some (.fn c250)
  | 251 => some (.fn c251)
  | 252 => some (.fn c252)
  | 253 => some (.fn c253)
  | 254 => some (.fn c254)
  | 255 => some (.fn c255)
  | 256 => some (.fn c256)
  | 257 => some (.fn c257)
  | 295 => some (.fn c295)
  | 304 => some (.fn c304)
  | 305 => some (.fn c305)
  | 306 => some (.fn c306)
  | 315 => some (.fn c315)
  | 324 => some (.fn c324)
  | 327 => some (.fn c327)
  | 337 => some (.fn c337)
  | 338 => some (.fn c338)
  | 342 => some (.fn c342)
  | 345 => some (.fn c345)
  | 346 => some (.fn c346)
  | 348 => some (.fn c348)
  | 349 => some (.fn c349)
  | 350 => some (.fn c350)
  | 351 => some (.fn c351)
  | 358 => some (.fn c358)
  | 359 => some (.fn c359)
  | 367 => some (.fn c367)
  | 368 => some (.fn c368)
  | 393 => some (.fn c393)
  | 395 => some (.fn c395)
  | 440 => some (.fn c440)
  | 443 => some (.fn c443)
  | 445 => some (.fn c445)
  | 446 => some (.fn c446)
  | 448 => some (.fn c448)
  | 449 => some (.fn c449)
  | 450 => some (.fn c450)
  | 451 => some (.fn c451)
  | 452 => some (.fn c452)
  | 453 => some (.fn c453)
  | 454 => some (.fn c454)
  | 455 => some (.fn c455)
  | 456 => some (.fn c456)
  | 457 => some (.fn c457)
  | 458 => some (.fn c458)
  | 459 => some (.fn c459)
  | 474 => some (.fn c474)
  | 502 => some (.fn c502)
  | 503 => some (.fn c503)
  | 504 => some (.fn c504)
  | 505 => some (.fn c505)
  | 506 => some (.fn c506)
  | 511 => some (.fn c511)
  | 512 => some (.fn c512)
  | 513 => some (.fn c513)
  | 530 => some (.fn c530)
  | 547 => some (.fn c547)
  | 548 => some (.fn c548)
  | 549 => some (.fn c549)
  | 550 => some (.fn c550)
  | _ => none
theorem t48 : tab 48 = some (.fn c48) := rfl
theorem t84 : tab 84 = some (.fn c84) := rfl
theorem t124 : tab 124 = some (.fn c124) := rfl
theorem t125 : tab 125 = some (.fn c125) := rfl
theorem t147 : tab 147 = some (.fn c147) := rfl
theorem t234 : tab 234 = some (.fn c234) := rfl
theorem t237 : tab 237 = some (.fn c237) := rfl
theorem t240 : tab 240 = some (.fn c240) := rfl
theorem t242 : tab 242 = some (.fn c242) := rfl
theorem t245 : tab 245 = some (.fn c245) := rfl
theorem t246 : tab 246 = some (.fn c246) := rfl
theorem t247 : tab 247 = some (.fn c247) := rfl
theorem t248 : tab 248 = some (.fn c248) := rfl
theorem t249 : tab 249 = some (.fn c249) := rfl
theorem t250 : tab 250 = some (.fn c250) := rfl
theorem t251 : tab 251 = some (.fn c251) := rfl
theorem t252 : tab 252 = some (.fn c252) := rfl
theorem t253 : tab 253 = some (.fn c253) := rfl
theorem t254 : tab 254 = some (.fn c254) := rfl
theorem t255 : tab 255 = some (.fn c255) := rfl
theorem t256 : tab 256 = some (.fn c256) := rfl
theorem t257 : tab 257 = some (.fn c257) := rfl
theorem t295 : tab 295 = some (.fn c295) := rfl
theorem t304 : tab 304 = some (.fn c304) := rfl
theorem t305 : tab 305 = some (.fn c305) := rfl
theorem t306 : tab 306 = some (.fn c306) := rfl
theorem t315 : tab 315 = some (.fn c315) := rfl
theorem t324 : tab 324 = some (.fn c324) := rfl
theorem t327 : tab 327 = some (.fn c327) := rfl
theorem t337 : tab 337 = some (.fn c337) := rfl
theorem t338 : tab 338 = some (.fn c338) := rfl
theorem t342 : tab 342 = some (.fn c342) := rfl
theorem t345 : tab 345 = some (.fn c345) := rfl
theorem t346 : tab 346 = some (.fn c346) := rfl
theorem t348 : tab 348 = some (.fn c348) := rfl
theorem t349 : tab 349 = some (.fn c349) := rfl
theorem t350 : tab 350 = some (.fn c350) := rfl
theorem t351 : tab 351 = some (.fn c351) := rfl
theorem t358 : tab 358 = some (.fn c358) := rfl
theorem t359 : tab 359 = some (.fn c359) := rfl
theorem t367 : tab 367 = some (.fn c367) := rfl
theorem t368 : tab 368 = some (.fn c368) := rfl
theorem t393 : tab 393 = some (.fn c393) := rfl
theorem t395 : tab 395 = some (.fn c395) := rfl
theorem t440 : tab 440 = some (.fn c440) := rfl
theorem t443 : tab 443 = some (.fn c443) := rfl
theorem t445 : tab 445 = some (.fn c445) := rfl
theorem t446 : tab 446 = some (.fn c446) := rfl
theorem t448 : tab 448 = some (.fn c448) := rfl
theorem t449 : tab 449 = some (.fn c449) := rfl
theorem t450 : tab 450 = some (.fn c450) := rfl
theorem t451 : tab 451 = some (.fn c451) := rfl
theorem t452 : tab 452 = some (.fn c452) := rfl
theorem t453 : tab 453 = some (.fn c453) := rfl
theorem t454 : tab 454 = some (.fn c454) := rfl
theorem t455 : tab 455 = some (.fn c455) := rfl
theorem t456 : tab 456 = some (.fn c456) := rfl
theorem t457 : tab 457 = some (.fn c457) := rfl
theorem t458 : tab 458 = some (.fn c458) := rfl
theorem t459 : tab 459 = some (.fn c459) := rfl
theorem t474 : tab 474 = some (.fn c474) := rfl
theorem t502 : tab 502 = some (.fn c502) := rfl
theorem t503 : tab 503 = some (.fn c503) := rfl
theorem t504 : tab 504 = some (.fn c504) := rfl
theorem t505 : tab 505 = some (.fn c505) := rfl
theorem t506 : tab 506 = some (.fn c506) := rfl
theorem t511 : tab 511 = some (.fn c511) := rfl
theorem t512 : tab 512 = some (.fn c512) := rfl
theorem t513 : tab 513 = some (.fn c513) := rfl
theorem t530 : tab 530 = some (.fn c530) := rfl
theorem t547 : tab 547 = some (.fn c547) := rfl
theorem t548 : tab 548 = some (.fn c548) := rfl
theorem t549 : tab 549 = some (.fn c549) := rfl
theorem t550 : tab 550 = some (.fn c550) := rfl
end Fb
