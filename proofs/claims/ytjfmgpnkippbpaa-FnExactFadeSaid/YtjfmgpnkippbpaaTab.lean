/- The table of the functions. -/
import Derived.Test.YtjfmgpnkippbpaaCode0
set_option linter.unusedVariables false
set_option linter.unusedSimpArgs false
namespace Fb
open Go
def tab : Tab := fun n => match n with
  | 7 => some (.fn c7)
  | 62 => some (.fn c62)
  | 63 => some (.fn c63)
  | 73 => some (.fn c73)
  | 74 => some (.fn c74)
  | 75 => some (.fn c75)
  | 291 => some (.fn c291)
  | 292 => some (.fn c292)
  | 293 => some (.fn c293)
  | 294 => some (.fn c294)
  | 295 => some (.fn c295)
  | 299 => some (.fn c299)
  | 300 => some (.fn c300)
  | 301 => some (.fn c301)
  | 302 => some (.fn c302)
  | 303 => some (.fn c303)
  | 304 => some (.fn c304)
  | 487 => some (.fn c487)
  | _ => none
theorem t7 : tab 7 = some (.fn c7) := rfl
theorem t62 : tab 62 = some (.fn c62) := rfl
theorem t63 : tab 63 = some (.fn c63) := rfl
theorem t73 : tab 73 = some (.fn c73) := rfl
theorem t74 : tab 74 = some (.fn c74) := rfl
theorem t75 : tab 75 = some (.fn c75) := rfl
theorem t291 : tab 291 = some (.fn c291) := rfl
theorem t292 : tab 292 = some (.fn c292) := rfl
theorem t293 : tab 293 = some (.fn c293) := rfl
theorem t294 : tab 294 = some (.fn c294) := rfl
theorem t295 : tab 295 = some (.fn c295) := rfl
theorem t299 : tab 299 = some (.fn c299) := rfl
theorem t300 : tab 300 = some (.fn c300) := rfl
theorem t301 : tab 301 = some (.fn c301) := rfl
theorem t302 : tab 302 = some (.fn c302) := rfl
theorem t303 : tab 303 = some (.fn c303) := rfl
theorem t304 : tab 304 = some (.fn c304) := rfl
theorem t487 : tab 487 = some (.fn c487) := rfl
end Fb
