/- The table of the functions. -/
import Derived.Test.YtimijcjjmeemeaaGreatDoorCode0
import Derived.Test.YtimijcjjmeemeaaGreatDoorStr
set_option linter.unusedVariables false
set_option linter.unusedSimpArgs false
namespace Fb
open Go
def tab : Tab := fun n => match n with
  | 60 => some (.fn c60)
  | 82 => some (.fn c82)
  | 91 => some (.fn c91)
  | 108 => some (.fn c108)
  | 109 => some (.fn c109)
  | 144 => some (.fn c144)
  | 158 => some (.fn c158)
  | 160 => some (.fn c160)
  | 163 => some (.fn c163)
  | 169 => some (.fn c169)
  | 170 => some (.fn c170)
  | 176 => some (.fn c176)
  | 177 => some (.fn c177)
  | 184 => some (.fn c184)
  | 185 => some (.fn c185)
  | 203 => some (.fn c203)
  | 218 => some (.fn c218)
  | 225 => some (.fn c225)
  | 234 => some (.fn c234)
  | 259 => some (.fn c259)
  | 262 => some (.fn c262)
  | 265 => some (.fn c265)
  | 274 => some (.fn c274)
  | 290 => some (.fn c290)
  | 295 => some (.fn c295)
  | 304 => some (.fn c304)
  | 305 => some (.fn c305)
  | 309 => some (.fn c309)
  | 310 => some (.fn c310)
  | 312 => some (.fn c312)
  | 315 => some (.fn c315)
  | 316 => some (.fn c316)
  | 318 => some (.fn c318)
  | 323 => some (.fn c323)
  | 339 => some (.fn c339)
  | 340 => some (.fn c340)
  | 341 => some (.fn c341)
  | 342 => some (.fn c342)
  | 351 => some (.fn c351)
  | 355 => some (.fn c355)
  | 356 => some (.fn c356)
  | 358 => some (.fn c358)
  | 359 => some (.fn c359)
  | 365 => some (.fn c365)
  | 366 => some (.fn c366)
  | 367 => some (.fn c367)
  | 368 => some (.fn c368)
  | 377 => some (.ext .pure ext377)
  | 378 => some (.fn c378)
  | 379 => some (.fn c379)
  | 381 => some (.fn c381)
  | 383 => some (.fn c383)
  | 384 => some (.fn c384)
  | 385 => some (.fn c385)
  | 386 => some (.fn c386)
  | 387 => some (.fn c387)
  | 398 => some (.fn c398)
  | 399 => some (.fn c399)
  | 401 => some (.fn c401)
  | 402 => some (.fn c402)
  | 418 => some (.fn c418)
  | 419 => some (.fn c419)
  | 440 => some (.fn c440)
  | 443 => some (.fn c443)
  | 445 => some (.fn c445)
  | 446 => some (.fn c446)
  | 456 => some (.fn c456)
  | 459 => some (.fn c459)
  | 465 => some (.fn c465)
  | 469 => some (.fn c469)
  | 474 => some (.fn c474)
  | 485 => some (.ext .pure ext485)
  | 486 => some (.fn c486)
  | 490 => some (.fn c490)
  | 505 => some (.fn c505)
  | 506 => some (.fn c506)
  | 512 => some (.fn c512)
  | 513 => some (.fn c513)
  | 521 => some (.ext .pure ext521)
  | 522 => some (.ext .pure ext522)
  | 524 => some (.fn c524)
  | 531 => some (.fn c531)
  | 532 => some (.fn c532)
  | 547 => some (.fn c547)
  | 550 => some (.fn c550)
  | 559 => some (.fn c559)
  | 572 => some (.fn c572)
  | 573 => some (.fn c573)
  | _ => none
theorem t60 : tab 60 = some (.fn c60) := rfl
theorem t82 : tab 82 = some (.fn c82) := rfl
theorem t91 : tab 91 = some (.fn c91) := rfl
theorem t108 : tab 108 = some (.fn c108) := rfl
theorem t109 : tab 109 = some (.fn c109) := rfl
theorem t144 : tab 144 = some (.fn c144) := rfl
theorem t158 : tab 158 = some (.fn c158) := rfl
theorem t160 : tab 160 = some (.fn c160) := rfl
theorem t163 : tab 163 = some (.fn c163) := rfl
theorem t169 : tab 169 = some (.fn c169) := rfl
theorem t170 : tab 170 = some (.fn c170) := rfl
theorem t176 : tab 176 = some (.fn c176) := rfl
theorem t177 : tab 177 = some (.fn c177) := rfl
theorem t184 : tab 184 = some (.fn c184) := rfl
theorem t185 : tab 185 = some (.fn c185) := rfl
theorem t203 : tab 203 = some (.fn c203) := rfl
theorem t218 : tab 218 = some (.fn c218) := rfl
theorem t225 : tab 225 = some (.fn c225) := rfl
theorem t234 : tab 234 = some (.fn c234) := rfl
theorem t259 : tab 259 = some (.fn c259) := rfl
theorem t262 : tab 262 = some (.fn c262) := rfl
theorem t265 : tab 265 = some (.fn c265) := rfl
theorem t274 : tab 274 = some (.fn c274) := rfl
theorem t290 : tab 290 = some (.fn c290) := rfl
theorem t295 : tab 295 = some (.fn c295) := rfl
theorem t304 : tab 304 = some (.fn c304) := rfl
theorem t305 : tab 305 = some (.fn c305) := rfl
theorem t309 : tab 309 = some (.fn c309) := rfl
theorem t310 : tab 310 = some (.fn c310) := rfl
theorem t312 : tab 312 = some (.fn c312) := rfl
theorem t315 : tab 315 = some (.fn c315) := rfl
theorem t316 : tab 316 = some (.fn c316) := rfl
theorem t318 : tab 318 = some (.fn c318) := rfl
theorem t323 : tab 323 = some (.fn c323) := rfl
theorem t339 : tab 339 = some (.fn c339) := rfl
theorem t340 : tab 340 = some (.fn c340) := rfl
theorem t341 : tab 341 = some (.fn c341) := rfl
theorem t342 : tab 342 = some (.fn c342) := rfl
theorem t351 : tab 351 = some (.fn c351) := rfl
theorem t355 : tab 355 = some (.fn c355) := rfl
theorem t356 : tab 356 = some (.fn c356) := rfl
theorem t358 : tab 358 = some (.fn c358) := rfl
theorem t359 : tab 359 = some (.fn c359) := rfl
theorem t365 : tab 365 = some (.fn c365) := rfl
theorem t366 : tab 366 = some (.fn c366) := rfl
theorem t367 : tab 367 = some (.fn c367) := rfl
theorem t368 : tab 368 = some (.fn c368) := rfl
theorem t377 : tab 377 = some (.ext .pure ext377) := rfl
theorem t378 : tab 378 = some (.fn c378) := rfl
theorem t379 : tab 379 = some (.fn c379) := rfl
theorem t381 : tab 381 = some (.fn c381) := rfl
theorem t383 : tab 383 = some (.fn c383) := rfl
theorem t384 : tab 384 = some (.fn c384) := rfl
theorem t385 : tab 385 = some (.fn c385) := rfl
theorem t386 : tab 386 = some (.fn c386) := rfl
theorem t387 : tab 387 = some (.fn c387) := rfl
theorem t398 : tab 398 = some (.fn c398) := rfl
theorem t399 : tab 399 = some (.fn c399) := rfl
theorem t401 : tab 401 = some (.fn c401) := rfl
theorem t402 : tab 402 = some (.fn c402) := rfl
theorem t418 : tab 418 = some (.fn c418) := rfl
theorem t419 : tab 419 = some (.fn c419) := rfl
theorem t440 : tab 440 = some (.fn c440) := rfl
theorem t443 : tab 443 = some (.fn c443) := rfl
theorem t445 : tab 445 = some (.fn c445) := rfl
theorem t446 : tab 446 = some (.fn c446) := rfl
theorem t456 : tab 456 = some (.fn c456) := rfl
theorem t459 : tab 459 = some (.fn c459) := rfl
theorem t465 : tab 465 = some (.fn c465) := rfl
theorem t469 : tab 469 = some (.fn c469) := rfl
theorem t474 : tab 474 = some (.fn c474) := rfl
theorem t485 : tab 485 = some (.ext .pure ext485) := rfl
theorem t486 : tab 486 = some (.fn c486) := rfl
theorem t490 : tab 490 = some (.fn c490) := rfl
theorem t505 : tab 505 = some (.fn c505) := rfl
theorem t506 : tab 506 = some (.fn c506) := rfl
theorem t512 : tab 512 = some (.fn c512) := rfl
theorem t513 : tab 513 = some (.fn c513) := rfl
theorem t521 : tab 521 = some (.ext .pure ext521) := rfl
theorem t522 : tab 522 = some (.ext .pure ext522) := rfl
theorem t524 : tab 524 = some (.fn c524) := rfl
theorem t531 : tab 531 = some (.fn c531) := rfl
theorem t532 : tab 532 = some (.fn c532) := rfl
theorem t547 : tab 547 = some (.fn c547) := rfl
theorem t550 : tab 550 = some (.fn c550) := rfl
theorem t559 : tab 559 = some (.fn c559) := rfl
theorem t572 : tab 572 = some (.fn c572) := rfl
theorem t573 : tab 573 = some (.fn c573) := rfl
noncomputable def tab2 : Tab := fun n => if n = 271 then some (.ext .pure (ext271 tab)) else tab n
theorem tab_271 : tab 271 = none := rfl
theorem tab2_ge {f : Nat} {D : Def} (h : tab f = some D) : tab2 f = some D := by
  unfold tab2
  split
  · rename_i e; subst e; rw [tab_271] at h; cases h
  · exact h
theorem t271 : tab2 271 = some (.ext .pure (ext271 tab)) := if_pos rfl
theorem up {pu : Bool} {f : Nat} {xs : List Value} {H : Heap} {r : Value × Heap} (h : Call tab pu f xs H = some r) : Call tab2 pu f xs H = some r := Call_more (fun _ _ h => tab2_ge h) h
theorem u60 : tab2 60 = some (.fn c60) := tab2_ge t60
theorem u290 : tab2 290 = some (.fn c290) := tab2_ge t290
end Fb
