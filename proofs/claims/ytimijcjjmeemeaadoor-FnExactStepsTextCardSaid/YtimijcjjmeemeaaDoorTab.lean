/- The table of the functions. -/
import Derived.Test.YtimijcjjmeemeaaDoorCode0
import Derived.Test.YtimijcjjmeemeaaDoorStr
set_option linter.unusedVariables false
set_option linter.unusedSimpArgs false
namespace Fb
open Go
def tab : Tab := fun n => match n with
  | 54 => some (.fn c54)
  | 79 => some (.fn c79)
  | 81 => some (.fn c81)
  | 83 => some (.fn c83)
  | 157 => some (.fn c157)
  | 159 => some (.fn c159)
  | 161 => some (.fn c161)
  | 163 => some (.fn c163)
  | 166 => some (.fn c166)
  | 213 => some (.fn c213)
  | 270 => some (.fn c270)
  | 295 => some (.fn c295)
  | 296 => some (.fn c296)
  | 304 => some (.fn c304)
  | 308 => some (.fn c308)
  | 309 => some (.fn c309)
  | 311 => some (.fn c311)
  | 313 => some (.fn c313)
  | 379 => some (.fn c379)
  | 382 => some (.fn c382)
  | 386 => some (.fn c386)
  | 387 => some (.fn c387)
  | 390 => some (.fn c390)
  | 463 => some (.fn c463)
  | 465 => some (.fn c465)
  | 488 => some (.fn c488)
  | 489 => some (.fn c489)
  | 522 => some (.ext .pure ext522)
  | 524 => some (.fn c524)
  | 529 => some (.fn c529)
  | 552 => some (.fn c552)
  | 553 => some (.fn c553)
  | 572 => some (.fn c572)
  | 573 => some (.fn c573)
  | _ => none
theorem t54 : tab 54 = some (.fn c54) := rfl
theorem t79 : tab 79 = some (.fn c79) := rfl
theorem t81 : tab 81 = some (.fn c81) := rfl
theorem t83 : tab 83 = some (.fn c83) := rfl
theorem t157 : tab 157 = some (.fn c157) := rfl
theorem t159 : tab 159 = some (.fn c159) := rfl
theorem t161 : tab 161 = some (.fn c161) := rfl
theorem t163 : tab 163 = some (.fn c163) := rfl
theorem t166 : tab 166 = some (.fn c166) := rfl
theorem t213 : tab 213 = some (.fn c213) := rfl
theorem t270 : tab 270 = some (.fn c270) := rfl
theorem t295 : tab 295 = some (.fn c295) := rfl
theorem t296 : tab 296 = some (.fn c296) := rfl
theorem t304 : tab 304 = some (.fn c304) := rfl
theorem t308 : tab 308 = some (.fn c308) := rfl
theorem t309 : tab 309 = some (.fn c309) := rfl
theorem t311 : tab 311 = some (.fn c311) := rfl
theorem t313 : tab 313 = some (.fn c313) := rfl
theorem t379 : tab 379 = some (.fn c379) := rfl
theorem t382 : tab 382 = some (.fn c382) := rfl
theorem t386 : tab 386 = some (.fn c386) := rfl
theorem t387 : tab 387 = some (.fn c387) := rfl
theorem t390 : tab 390 = some (.fn c390) := rfl
theorem t463 : tab 463 = some (.fn c463) := rfl
theorem t465 : tab 465 = some (.fn c465) := rfl
theorem t488 : tab 488 = some (.fn c488) := rfl
theorem t489 : tab 489 = some (.fn c489) := rfl
theorem t522 : tab 522 = some (.ext .pure ext522) := rfl
theorem t524 : tab 524 = some (.fn c524) := rfl
theorem t529 : tab 529 = some (.fn c529) := rfl
theorem t552 : tab 552 = some (.fn c552) := rfl
theorem t553 : tab 553 = some (.fn c553) := rfl
theorem t572 : tab 572 = some (.fn c572) := rfl
theorem t573 : tab 573 = some (.fn c573) := rfl
noncomputable def tab2 : Tab := fun n => if n = 271 then some (.ext .pure (ext271 tab)) else tab n
theorem tab_271 : tab 271 = none := rfl
theorem tab2_ge {f : Nat} {D : Def} (h : tab f = some D) : tab2 f = some D := by
  unfold tab2
  split
  · rename_i e; subst e; rw [tab_271] at h; cases h
  · exact h
theorem t271 : tab2 271 = some (.ext .pure (ext271 tab)) := if_pos rfl
theorem up {pu : Bool} {f : Nat} {xs : List Value} {H : Heap} {r : Value × Heap} (h : Call tab pu f xs H = some r) : Call tab2 pu f xs H = some r := Call_more (fun _ _ h => tab2_ge h) h
theorem u54 : tab2 54 = some (.fn c54) := tab2_ge t54
end Fb
