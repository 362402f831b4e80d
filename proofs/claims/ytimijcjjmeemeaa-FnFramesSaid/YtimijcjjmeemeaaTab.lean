/- The table of the functions. -/
import Derived.Test.YtimijcjjmeemeaaCode0
import Derived.Test.YtimijcjjmeemeaaStr
set_option linter.unusedVariables false
set_option linter.unusedSimpArgs false
namespace Fb
open Go
def tab : Tab := fun n => match n with
  | 47 => some (.fn c47)
  | 84 => some (.fn c84)
  | 124 => some (.fn c124)
  | 125 => some (.fn c125)
  | 132 => some (.fn c132)
  | 147 => some (.fn c147)
  | 150 => some (.fn c150)
  | 171 => some (.fn c171)
  | 173 => some (.fn c173)
  | 201 => some (.fn c201)
  | 226 => some (.fn c226)
  | 227 => some (.fn c227)
  | 228 => some (.fn c228)
  | 229 => some (.fn c229)
  | 230 => some (.fn c230)
  | 231 => some (.fn c231)
  | 232 => some (.fn c232)
  | 233 => some (.fn c233)
  | 234 => some (.fn c234)
  | 235 => some (.fn c235)
  | 236 => some (.fn c236)
  | 237 => some (.fn c237)
  | 238 => some (.fn c238)
  | 239 => some (.fn c239)
  | 240 => some (.fn c240)
  | 241 => some (.fn c241)
  | 242 => some (.fn c242)
  | 243 => some (.fn c243)
  | 244 => some (.fn c244)
  | 295 => some (.fn c295)
  | 304 => some (.fn c304)
  | 305 => some (.fn c305)
  | 306 => some (.fn c306)
  | 315 => some (.fn c315)
  | 324 => some (.fn c324)
  | 338 => some (.fn c338)
  | 342 => some (.fn c342)
  | 345 => some (.fn c345)
  | 346 => some (.fn c346)
  | 348 => some (.fn c348)
  | 350 => some (.fn c350)
  | 351 => some (.fn c351)
  | 355 => some (.fn c355)
  | 357 => some (.fn c357)
  | 358 => some (.fn c358)
  | 359 => some (.fn c359)
  | 367 => some (.fn c367)
  | 368 => some (.fn c368)
  | 373 => some (.fn c373)
  | 393 => some (.fn c393)
  | 394 => some (.fn c394)
  | 395 => some (.fn c395)
  | 438 => some (.fn c438)
  | 439 => some (.ext .pure ext439)
  | 440 => some (.fn c440)
  | 441 => some (.fn c441)
  | 442 => some (.fn c442)
  | 443 => some (.fn c443)
  | 444 => some (.fn c444)
  | 445 => some (.fn c445)
  | 446 => some (.fn c446)
  | 447 => some (.fn c447)
  | 448 => some (.fn c448)
  | 449 => some (.fn c449)
  | 456 => some (.fn c456)
  | 459 => some (.fn c459)
  | 474 => some (.fn c474)
  | 502 => some (.fn c502)
  | 503 => some (.fn c503)
  | 504 => some (.fn c504)
  | 505 => some (.fn c505)
  | 506 => some (.fn c506)
  | 512 => some (.fn c512)
  | 513 => some (.fn c513)
  | 530 => some (.fn c530)
  | 547 => some (.fn c547)
  | 550 => some (.fn c550)
  | _ => none
theorem t47 : tab 47 = some (.fn c47) := rfl
theorem t84 : tab 84 = some (.fn c84) := rfl
theorem t124 : tab 124 = some (.fn c124) := rfl
theorem t125 : tab 125 = some (.fn c125) := rfl
theorem t132 : tab 132 = some (.fn c132) := rfl
theorem t147 : tab 147 = some (.fn c147) := rfl
theorem t150 : tab 150 = some (.fn c150) := rfl
theorem t171 : tab 171 = some (.fn c171) := rfl
theorem t173 : tab 173 = some (.fn c173) := rfl
theorem t201 : tab 201 = some (.fn c201) := rfl
theorem t226 : tab 226 = some (.fn c226) := rfl
theorem t227 : tab 227 = some (.fn c227) := rfl
theorem t228 : tab 228 = some (.fn c228) := rfl
theorem t229 : tab 229 = some (.fn c229) := rfl
theorem t230 : tab 230 = some (.fn c230) := rfl
theorem t231 : tab 231 = some (.fn c231) := rfl
theorem t232 : tab 232 = some (.fn c232) := rfl
theorem t233 : tab 233 = some (.fn c233) := rfl
theorem t234 : tab 234 = some (.fn c234) := rfl
theorem t235 : tab 235 = some (.fn c235) := rfl
theorem t236 : tab 236 = some (.fn c236) := rfl
theorem t237 : tab 237 = some (.fn c237) := rfl
theorem t238 : tab 238 = some (.fn c238) := rfl
theorem t239 : tab 239 = some (.fn c239) := rfl
theorem t240 : tab 240 = some (.fn c240) := rfl
theorem t241 : tab 241 = some (.fn c241) := rfl
theorem t242 : tab 242 = some (.fn c242) := rfl
theorem t243 : tab 243 = some (.fn c243) := rfl
theorem t244 : tab 244 = some (.fn c244) := rfl
theorem t295 : tab 295 = some (.fn c295) := rfl
theorem t304 : tab 304 = some (.fn c304) := rfl
theorem t305 : tab 305 = some (.fn c305) := rfl
theorem t306 : tab 306 = some (.fn c306) := rfl
theorem t315 : tab 315 = some (.fn c315) := rfl
theorem t324 : tab 324 = some (.fn c324) := rfl
theorem t338 : tab 338 = some (.fn c338) := rfl
theorem t342 : tab 342 = some (.fn c342) := rfl
theorem t345 : tab 345 = some (.fn c345) := rfl
theorem t346 : tab 346 = some (.fn c346) := rfl
theorem t348 : tab 348 = some (.fn c348) := rfl
theorem t350 : tab 350 = some (.fn c350) := rfl
theorem t351 : tab 351 = some (.fn c351) := rfl
theorem t355 : tab 355 = some (.fn c355) := rfl
theorem t357 : tab 357 = some (.fn c357) := rfl
theorem t358 : tab 358 = some (.fn c358) := rfl
theorem t359 : tab 359 = some (.fn c359) := rfl
theorem t367 : tab 367 = some (.fn c367) := rfl
theorem t368 : tab 368 = some (.fn c368) := rfl
theorem t373 : tab 373 = some (.fn c373) := rfl
theorem t393 : tab 393 = some (.fn c393) := rfl
theorem t394 : tab 394 = some (.fn c394) := rfl
theorem t395 : tab 395 = some (.fn c395) := rfl
theorem t438 : tab 438 = some (.fn c438) := rfl
theorem t439 : tab 439 = some (.ext .pure ext439) := rfl
theorem t440 : tab 440 = some (.fn c440) := rfl
theorem t441 : tab 441 = some (.fn c441) := rfl
theorem t442 : tab 442 = some (.fn c442) := rfl
theorem t443 : tab 443 = some (.fn c443) := rfl
theorem t444 : tab 444 = some (.fn c444) := rfl
theorem t445 : tab 445 = some (.fn c445) := rfl
theorem t446 : tab 446 = some (.fn c446) := rfl
theorem t447 : tab 447 = some (.fn c447) := rfl
theorem t448 : tab 448 = some (.fn c448) := rfl
theorem t449 : tab 449 = some (.fn c449) := rfl
theorem t456 : tab 456 = some (.fn c456) := rfl
theorem t459 : tab 459 = some (.fn c459) := rfl
theorem t474 : tab 474 = some (.fn c474) := rfl
theorem t502 : tab 502 = some (.fn c502) := rfl
theorem t503 : tab 503 = some (.fn c503) := rfl
theorem t504 : tab 504 = some (.fn c504) := rfl
theorem t505 : tab 505 = some (.fn c505) := rfl
theorem t506 : tab 506 = some (.fn c506) := rfl
theorem t512 : tab 512 = some (.fn c512) := rfl
theorem t513 : tab 513 = some (.fn c513) := rfl
theorem t530 : tab 530 = some (.fn c530) := rfl
theorem t547 : tab 547 = some (.fn c547) := rfl
theorem t550 : tab 550 = some (.fn c550) := rfl
end Fb
