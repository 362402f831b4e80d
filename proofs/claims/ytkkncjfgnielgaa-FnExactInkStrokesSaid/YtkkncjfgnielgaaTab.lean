/- The table of the functions. -/
import Derived.Test.YtkkncjfgnielgaaCode0
set_option linter.unusedVariables false
set_option linter.unusedSimpArgs false
namespace Fb
open Go
def tab : Tab := fun n => match n with
  | 14 => some (.fn c14)
  | 78 => some (.fn c78)
  | 112 => some (.fn c112)
  | 113 => some (.fn c113)
  | 114 => some (.fn c114)
  | 115 => some (.fn c115)
  | 116 => some (.fn c116)
  | 138 => some (.fn c138)
  | 295 => some (.fn c295)
  | 296 => some (.fn c296)
  | 304 => some (.fn c304)
  | 305 => some (.fn c305)
  | 342 => some (.fn c342)
  | 343 => some (.fn c343)
  | 344 => some (.fn c344)
  | 345 => some (.fn c345)
  | 346 => some (.fn c346)
  | 364 => some (.fn c364)
  | _ => none
theorem t14 : tab 14 = some (.fn c14) := rfl
theorem t78 : tab 78 = some (.fn c78) := rfl
theorem t112 : tab 112 = some (.fn c112) := rfl
theorem t113 : tab 113 = some (.fn c113) := rfl
theorem t114 : tab 114 = some (.fn c114) := rfl
theorem t115 : tab 115 = some (.fn c115) := rfl
theorem t116 : tab 116 = some (.fn c116) := rfl
theorem t138 : tab 138 = some (.fn c138) := rfl
theorem t295 : tab 295 = some (.fn c295) := rfl
theorem t296 : tab 296 = some (.fn c296) := rfl
theorem t304 : tab 304 = some (.fn c304) := rfl
theorem t305 : tab 305 = some (.fn c305) := rfl
theorem t342 : tab 342 = some (.fn c342) := rfl
theorem t343 : tab 343 = some (.fn c343) := rfl
theorem t344 : tab 344 = some (.fn c344) := rfl
theorem t345 : tab 345 = some (.fn c345) := rfl
theorem t346 : tab 346 = some (.fn c346) := rfl
theorem t364 : tab 364 = some (.fn c364) := rfl
end Fb
