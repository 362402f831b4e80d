/-
  No cell of these rows narrows 'for every input' (looked for: loops, veiled, ifaces, maps, wideKeys, modest, calm, conditions, laid).
  DERIVED. THE GIVEN ROWS OF THIS SEAT. 6 by the template 'for every input the law returns true; each argument reads behind the call as it read before'; 0 by the template 'total and deterministic' (their statements: YtjfmgpnkippbpaaTotals.lean).
  GIVEN WITH THE SEED: the statements are not yours to turn. If you find one false, say at which input.
  Laid BY PROGRAM, IN A SANDBOX (cutbox-rows.mjs): the forced cells as the released guide's own fill.sh prints them over the translation 13be1905aeac5693… (all of the seat's roots in one cut). By AI agents, Wed Nov 11 2026. No macro, syntax, notation, axiom, sorry.
-/
import Derived.Test.YtjfmgpnkippbpaaChecked
import GoSem.Claim
import GoSem.ClaimJoined
import GoSem.ClaimMapViews
import Derived.JoinedTies
import Derived.KernelRfl
namespace Go.Proofs.Ytjfmgpnkippbpaa
/- THE CELL 'sum', in the pinned program and in every row, IS THE sha256 OF THE DUMP (.gsa) THAT YtjfmgpnkippbpaaProg.lean LOADS. Nothing in Lean hashes anything: it is a label: what it is worth is what the hold of that sum in a sandbox is worth. -/
noncomputable def Try.pinned : Pinned := { name := "ytjfmgpnkippbpaa", sum := "13be1905aeac569360419bcb7776f4c32c545e66762ef54a9cbf548e98de1a41", checked := Try.checked }
namespace Rows
def none {H : Type} : Left H := { results := [], args := [] }

/-- 'laws.FnExactValidLight': WHATEVER THE INPUT: true; the input reads as it did. -/
def fnExactValidLightSpec : ChangeSpec := { name := "fnExactValidLight", fn := fun _ => fun
  | [d] => { results := [.lit (.bool true)], args := [d] }
  | _ => none }
def fnExactValidLightRow : OpenClaim := { program := "ytjfmgpnkippbpaa", sum := "13be1905aeac569360419bcb7776f4c32c545e66762ef54a9cbf548e98de1a41", func := "loop.example/g01340/laws.FnExactValidLight", spec := "fnExactValidLight", unfollowed := true, recurses := true, apart := false }
def FnExactValidLightSaid : Prop := fnExactValidLightRow.holds Try.pinned (OpenSpec.ofChange fnExactValidLightSpec)

/-- ITS FALSE NEIGHBOUR: 'it returns false'. Refute it at one input. -/
def fnExactValidLightWrong : ChangeSpec := { name := "fnExactValidLight", fn := fun _ => fun
  | [d] => { results := [.lit (.bool false)], args := [d] }
  | _ => none }
def FnExactValidLightWrongFalsely : Prop := fnExactValidLightRow.holds Try.pinned (OpenSpec.ofChange fnExactValidLightWrong)

/-- 'laws.FnExactSumLight': WHATEVER THE INPUT: true; the input reads as it did. -/
def fnExactSumLightSpec : ChangeSpec := { name := "fnExactSumLight", fn := fun _ => fun
  | [d] => { results := [.lit (.bool true)], args := [d] }
  | _ => none }
def fnExactSumLightRow : OpenClaim := { program := "ytjfmgpnkippbpaa", sum := "13be1905aeac569360419bcb7776f4c32c545e66762ef54a9cbf548e98de1a41", func := "loop.example/g01340/laws.FnExactSumLight", spec := "fnExactSumLight", unfollowed := true, recurses := true, apart := false }
def FnExactSumLightSaid : Prop := fnExactSumLightRow.holds Try.pinned (OpenSpec.ofChange fnExactSumLightSpec)

/-- ITS FALSE NEIGHBOUR: 'it returns false'. Refute it at one input. -/
def fnExactSumLightWrong : ChangeSpec := { name := "fnExactSumLight", fn := fun _ => fun
  | [d] => { results := [.lit (.bool false)], args := [d] }
  | _ => none }
def FnExactSumLightWrongFalsely : Prop := fnExactSumLightRow.holds Try.pinned (OpenSpec.ofChange fnExactSumLightWrong)

/-- 'laws.FnExactBrightestAt': WHATEVER THE INPUT: true; the input reads as it did. -/
def fnExactBrightestAtSpec : ChangeSpec := { name := "fnExactBrightestAt", fn := fun _ => fun
  | [d] => { results := [.lit (.bool true)], args := [d] }
  | _ => none }
def fnExactBrightestAtRow : OpenClaim := { program := "ytjfmgpnkippbpaa", sum := "13be1905aeac569360419bcb7776f4c32c545e66762ef54a9cbf548e98de1a41", func := "loop.example/g01340/laws.FnExactBrightestAt", spec := "fnExactBrightestAt", unfollowed := true, recurses := true, apart := false }
def FnExactBrightestAtSaid : Prop := fnExactBrightestAtRow.holds Try.pinned (OpenSpec.ofChange fnExactBrightestAtSpec)

/-- ITS FALSE NEIGHBOUR: 'it returns false'. Refute it at one input. -/
def fnExactBrightestAtWrong : ChangeSpec := { name := "fnExactBrightestAt", fn := fun _ => fun
  | [d] => { results := [.lit (.bool false)], args := [d] }
  | _ => none }
def FnExactBrightestAtWrongFalsely : Prop := fnExactBrightestAtRow.holds Try.pinned (OpenSpec.ofChange fnExactBrightestAtWrong)

/-- 'laws.FnExactSumOfMoves': WHATEVER THE INPUT: true; the input reads as it did. -/
def fnExactSumOfMovesSpec : ChangeSpec := { name := "fnExactSumOfMoves", fn := fun _ => fun
  | [d] => { results := [.lit (.bool true)], args := [d] }
  | _ => none }
def fnExactSumOfMovesRow : OpenClaim := { program := "ytjfmgpnkippbpaa", sum := "13be1905aeac569360419bcb7776f4c32c545e66762ef54a9cbf548e98de1a41", func := "loop.example/g01340/laws.FnExactSumOfMoves", spec := "fnExactSumOfMoves", apart := false }
def FnExactSumOfMovesSaid : Prop := fnExactSumOfMovesRow.holds Try.pinned (OpenSpec.ofChange fnExactSumOfMovesSpec)

/-- ITS FALSE NEIGHBOUR: 'it returns false'. Refute it at one input. -/
def fnExactSumOfMovesWrong : ChangeSpec := { name := "fnExactSumOfMoves", fn := fun _ => fun
  | [d] => { results := [.lit (.bool false)], args := [d] }
  | _ => none }
def FnExactSumOfMovesWrongFalsely : Prop := fnExactSumOfMovesRow.holds Try.pinned (OpenSpec.ofChange fnExactSumOfMovesWrong)

/-- 'laws.FnExactFade': WHATEVER THE INPUT: true; the input reads as it did. -/
def fnExactFadeSpec : ChangeSpec := { name := "fnExactFade", fn := fun _ => fun
  | [d1, d2] => { results := [.lit (.bool true)], args := [d1, d2] }
  | _ => none }
def fnExactFadeRow : OpenClaim := { program := "ytjfmgpnkippbpaa", sum := "13be1905aeac569360419bcb7776f4c32c545e66762ef54a9cbf548e98de1a41", func := "loop.example/g01340/laws.FnExactFade", spec := "fnExactFade", unfollowed := true, recurses := true, apart := false }
def FnExactFadeSaid : Prop := fnExactFadeRow.holds Try.pinned (OpenSpec.ofChange fnExactFadeSpec)

/-- ITS FALSE NEIGHBOUR: 'it returns false'. Refute it at one input. -/
def fnExactFadeWrong : ChangeSpec := { name := "fnExactFade", fn := fun _ => fun
  | [d1, d2] => { results := [.lit (.bool false)], args := [d1, d2] }
  | _ => none }
def FnExactFadeWrongFalsely : Prop := fnExactFadeRow.holds Try.pinned (OpenSpec.ofChange fnExactFadeWrong)

/-- 'laws.FnExactSeenAt': WHATEVER THE INPUT: true; the input reads as it did. -/
def fnExactSeenAtSpec : ChangeSpec := { name := "fnExactSeenAt", fn := fun _ => fun
  | [d1, d2] => { results := [.lit (.bool true)], args := [d1, d2] }
  | _ => none }
def fnExactSeenAtRow : OpenClaim := { program := "ytjfmgpnkippbpaa", sum := "13be1905aeac569360419bcb7776f4c32c545e66762ef54a9cbf548e98de1a41", func := "loop.example/g01340/laws.FnExactSeenAt", spec := "fnExactSeenAt", unfollowed := true, recurses := true, apart := false }
def FnExactSeenAtSaid : Prop := fnExactSeenAtRow.holds Try.pinned (OpenSpec.ofChange fnExactSeenAtSpec)

/-- ITS FALSE NEIGHBOUR: 'it returns false'. Refute it at one input. -/
def fnExactSeenAtWrong : ChangeSpec := { name := "fnExactSeenAt", fn := fun _ => fun
  | [d1, d2] => { results := [.lit (.bool false)], args := [d1, d2] }
  | _ => none }
def FnExactSeenAtWrongFalsely : Prop := fnExactSeenAtRow.holds Try.pinned (OpenSpec.ofChange fnExactSeenAtWrong)

/- THE SECOND FORM. 'bulk': how many values and letters a reading holds, each counted each time it is reached (what is shared counts as often as it is met; a slice's spare places count too). A statement '..UptoSaid' is the law's where the arguments, and the package variables that the reading takes, are together of bulk at most 1048576: NARROWER than '..Said'. Prove '..Said' where nothing that the law and all that it calls make is longer than what came in: it says more and counts as full. Else prove '..UptoSaid'. A law counts once. -/
mutual
def uptoBulk {H : Type} : DataW H → Nat
  | .lit (.string bytes) => bytes.length + 1
  | .lit _ => 1
  | .nil => 1
  | .ptr d => uptoBulk d + 1
  | .slice elems spare => uptoBulkAll elems + uptoBulkAll spare + 1
  | .agg parts => uptoBulkAll parts + 1
  | .iface _ d => uptoBulk d + 1
  | .map entries => uptoBulkEntries entries + 1
  | .held _ => 1
def uptoBulkAll {H : Type} : List (DataW H) → Nat
  | [] => 0
  | d :: r => uptoBulk d + uptoBulkAll r
def uptoBulkEntries {H : Type} : List (Lit × DataW H) → Nat
  | [] => 0
  | x :: r => uptoBulkEntry x + uptoBulkEntries r
def uptoBulkEntry {H : Type} : Lit × DataW H → Nat
  | (.string bytes, d) => bytes.length + uptoBulk d + 1
  | (_, d) => uptoBulk d + 1
 end
def uptoSmall : (H : Type) → List (DataW H) → Bool := fun _ ds => decide (uptoBulkAll ds ≤ 1048576)
def OpenSpec.upto (s : _root_.Go.ChangeSpec) : _root_.Go.OpenSpec := { _root_.Go.OpenSpec.ofChange s with cond := some uptoSmall }

/-- 'laws.FnExactValidLight', WHERE WHAT IT READS IS OF BULK AT MOST 1048576: true; the input reads as it did. -/
def fnExactValidLightUptoRow : OpenClaim := { program := "ytjfmgpnkippbpaa", sum := "13be1905aeac569360419bcb7776f4c32c545e66762ef54a9cbf548e98de1a41", func := "loop.example/g01340/laws.FnExactValidLight", spec := "fnExactValidLight", unfollowed := true, recurses := true, apart := false, narrowed := true }
def FnExactValidLightUptoSaid : Prop := fnExactValidLightUptoRow.holds Try.pinned (OpenSpec.upto fnExactValidLightSpec)

/-- 'laws.FnExactSumLight', WHERE WHAT IT READS IS OF BULK AT MOST 1048576: true; the input reads as it did. -/
def fnExactSumLightUptoRow : OpenClaim := { program := "ytjfmgpnkippbpaa", sum := "13be1905aeac569360419bcb7776f4c32c545e66762ef54a9cbf548e98de1a41", func := "loop.example/g01340/laws.FnExactSumLight", spec := "fnExactSumLight", unfollowed := true, recurses := true, apart := false, narrowed := true }
def FnExactSumLightUptoSaid : Prop := fnExactSumLightUptoRow.holds Try.pinned (OpenSpec.upto fnExactSumLightSpec)

/-- 'laws.FnExactBrightestAt', WHERE WHAT IT READS IS OF BULK AT MOST 1048576: true; the input reads as it did. -/
def fnExactBrightestAtUptoRow : OpenClaim := { program := "ytjfmgpnkippbpaa", sum := "13be1905aeac569360419bcb7776f4c32c545e66762ef54a9cbf548e98de1a41", func := "loop.example/g01340/laws.FnExactBrightestAt", spec := "fnExactBrightestAt", unfollowed := true, recurses := true, apart := false, narrowed := true }
def FnExactBrightestAtUptoSaid : Prop := fnExactBrightestAtUptoRow.holds Try.pinned (OpenSpec.upto fnExactBrightestAtSpec)

/-- 'laws.FnExactSumOfMoves', WHERE WHAT IT READS IS OF BULK AT MOST 1048576: true; the input reads as it did. -/
def fnExactSumOfMovesUptoRow : OpenClaim := { program := "ytjfmgpnkippbpaa", sum := "13be1905aeac569360419bcb7776f4c32c545e66762ef54a9cbf548e98de1a41", func := "loop.example/g01340/laws.FnExactSumOfMoves", spec := "fnExactSumOfMoves", apart := false, narrowed := true }
def FnExactSumOfMovesUptoSaid : Prop := fnExactSumOfMovesUptoRow.holds Try.pinned (OpenSpec.upto fnExactSumOfMovesSpec)

/-- 'laws.FnExactFade', WHERE WHAT IT READS IS OF BULK AT MOST 1048576: true; the input reads as it did. -/
def fnExactFadeUptoRow : OpenClaim := { program := "ytjfmgpnkippbpaa", sum := "13be1905aeac569360419bcb7776f4c32c545e66762ef54a9cbf548e98de1a41", func := "loop.example/g01340/laws.FnExactFade", spec := "fnExactFade", unfollowed := true, recurses := true, apart := false, narrowed := true }
def FnExactFadeUptoSaid : Prop := fnExactFadeUptoRow.holds Try.pinned (OpenSpec.upto fnExactFadeSpec)

/-- 'laws.FnExactSeenAt', WHERE WHAT IT READS IS OF BULK AT MOST 1048576: true; the input reads as it did. -/
def fnExactSeenAtUptoRow : OpenClaim := { program := "ytjfmgpnkippbpaa", sum := "13be1905aeac569360419bcb7776f4c32c545e66762ef54a9cbf548e98de1a41", func := "loop.example/g01340/laws.FnExactSeenAt", spec := "fnExactSeenAt", unfollowed := true, recurses := true, apart := false, narrowed := true }
def FnExactSeenAtUptoSaid : Prop := fnExactSeenAtUptoRow.holds Try.pinned (OpenSpec.upto fnExactSeenAtSpec)

end Rows
end Go.Proofs.Ytjfmgpnkippbpaa
