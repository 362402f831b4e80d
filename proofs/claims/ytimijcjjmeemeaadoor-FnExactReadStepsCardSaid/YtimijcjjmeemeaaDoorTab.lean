/- The table of the functions. -/
import Derived.Test.YtimijcjjmeemeaaDoorCode0
import Derived.Test.YtimijcjjmeemeaaDoorStr
set_option linter.unusedVariables false
set_option linter.unusedSimpArgs false
namespace Fb
open Go
def tab : Tab := fun n => match n with
  | 59 => some (.fn c59)
  | 163 => some (.fn c163)
  | 166 => some (.fn c166)
  | 181 => some (.fn c181)
  | 213 => some (.fn c213)
  | 214 => some (.fn c214)
  | 289 => some (.fn c289)
  | 290 => some (.fn c290)
  | 295 => some (.fn c295)
  | 304 => some (.fn c304)
  | 309 => some (.fn c309)
  | 377 => some (.ext .pure ext377)
  | 378 => some (.fn c378)
  | 379 => some (.fn c379)
  | 386 => some (.fn c386)
  | 387 => some (.fn c387)
  | 390 => some (.fn c390)
  | 391 => some (.fn c391)
  | 392 => some (.fn c392)
  | 465 => some (.fn c465)
  | 481 => some (.fn c481)
  | 483 => some (.fn c483)
  | 484 => some (.fn c484)
  | 485 => some (.ext .pure ext485)
  | 486 => some (.fn c486)
  | 521 => some (.ext .pure ext521)
  | 522 => some (.ext .pure ext522)
  | 524 => some (.fn c524)
  | 529 => some (.fn c529)
  | 557 => some (.fn c557)
  | 559 => some (.fn c559)
  | 572 => some (.fn c572)
  | 573 => some (.fn c573)
  | _ => none
theorem t59 : tab 59 = some (.fn c59) := rfl
theorem t163 : tab 163 = some (.fn c163) := rfl
theorem t166 : tab 166 = some (.fn c166) := rfl
theorem t181 : tab 181 = some (.fn c181) := rfl
theorem t213 : tab 213 = some (.fn c213) := rfl
theorem t214 : tab 214 = some (.fn c214) := rfl
theorem t289 : tab 289 = some (.fn c289) := rfl
theorem t290 : tab 290 = some (.fn c290) := rfl
theorem t295 : tab 295 = some (.fn c295) := rfl
theorem t304 : tab 304 = some (.fn c304) := rfl
theorem t309 : tab 309 = some (.fn c309) := rfl
theorem t377 : tab 377 = some (.ext .pure ext377) := rfl
theorem t378 : tab 378 = some (.fn c378) := rfl
theorem t379 : tab 379 = some (.fn c379) := rfl
theorem t386 : tab 386 = some (.fn c386) := rfl
theorem t387 : tab 387 = some (.fn c387) := rfl
theorem t390 : tab 390 = some (.fn c390) := rfl
theorem t391 : tab 391 = some (.fn c391) := rfl
theorem t392 : tab 392 = some (.fn c392) := rfl
theorem t465 : tab 465 = some (.fn c465) := rfl
theorem t481 : tab 481 = some (.fn c481) := rfl
theorem t483 : tab 483 = some (.fn c483) := rfl
theorem t484 : tab 484 = some (.fn c484) := rfl
theorem t485 : tab 485 = some (.ext .pure ext485) := rfl
theorem t486 : tab 486 = some (.fn c486) := rfl
theorem t521 : tab 521 = some (.ext .pure ext521) := rfl
theorem t522 : tab 522 = some (.ext .pure ext522) := rfl
theorem t524 : tab 524 = some (.fn c524) := rfl
theorem t529 : tab 529 = some (.fn c529) := rfl
theorem t557 : tab 557 = some (.fn c557) := rfl
theorem t559 : tab 559 = some (.fn c559) := rfl
theorem t572 : tab 572 = some (.fn c572) := rfl
theorem t573 : tab 573 = some (.fn c573) := rfl
noncomputable def tab2 : Tab := fun n => if n = 271 then some (.ext .pure (ext271 tab)) else tab n
theorem tab_271 : tab 271 = none := rfl
theorem tab2_ge {f : Nat} {D : Def} (h : tab f = some D) : tab2 f = some D := by
  unfold tab2
  split
  · rename_i e; subst e; rw [tab_271] at h; cases h
  · exact h
theorem t271 : tab2 271 = some (.ext .pure (ext271 tab)) := if_pos rfl
theorem up {pu : Bool} {f : Nat} {xs : List Value} {H : Heap} {r : Value × Heap} (h : Call tab pu f xs H = some r) : Call tab2 pu f xs H = some r := Call_more (fun _ _ h => tab2_ge h) h
theorem u59 : tab2 59 = some (.fn c59) := tab2_ge t59
theorem u290 : tab2 290 = some (.fn c290) := tab2_ge t290
end Fb
