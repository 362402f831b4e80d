/-
  No cell of these rows narrows 'for every input' (looked for: loops, veiled, ifaces, maps, wideKeys, modest, calm, conditions, laid).
  DERIVED. THE GIVEN ROWS OF THIS SEAT. 6 by the template 'for every input the law returns true; each argument reads behind the call as it read before'; 0 by the template 'total and deterministic' (their statements: YtmielnjpppjfhabTotals.lean).
  GIVEN WITH THE SEED: the statements are not yours to turn. If you find one false, say at which input.
  Laid BY PROGRAM, IN A SANDBOX (cutbox-rows.mjs): the forced cells as the released guide's own fill.sh prints them over the translation 13928e79da484be0… (all of the seat's roots in one cut). By AI agents, Wed Nov 11 2026. No macro, syntax, notation, axiom, sorry.
-/
import Derived.Test.YtmielnjpppjfhabChecked
import GoSem.Claim
import GoSem.ClaimJoined
import GoSem.ClaimMapViews
import Derived.JoinedTies
import Derived.KernelRfl
namespace Go.Proofs.Ytmielnjpppjfhab
/- THE CELL 'sum', in the pinned program and in every row, IS THE sha256 OF THE DUMP (.gsa) THAT YtmielnjpppjfhabProg.lean LOADS. Nothing in Lean hashes anything: it is a label: what it is worth is what the hold of that sum in a sandbox is worth. -/
noncomputable def Try.pinned : Pinned := { name := "ytmielnjpppjfhab", sum := "13928e79da484be010fd218f46425efc2875d06aeba191019f45bf12906eaa1b", checked := Try.checked }
namespace Rows
def none {H : Type} : Left H := { results := [], args := [] }

/-- 'laws.FnExactEncodeWithin': WHATEVER THE INPUT: true; the input reads as it did. -/
def fnExactEncodeWithinSpec : ChangeSpec := { name := "fnExactEncodeWithin", fn := fun _ => fun
  | [d1, d2] => { results := [.lit (.bool true)], args := [d1, d2] }
  | _ => none }
def fnExactEncodeWithinRow : OpenClaim := { program := "ytmielnjpppjfhab", sum := "13928e79da484be010fd218f46425efc2875d06aeba191019f45bf12906eaa1b", func := "loop.example/g01340/laws.FnExactEncodeWithin", spec := "fnExactEncodeWithin", unfollowed := true, recurses := true, apart := false }
def FnExactEncodeWithinSaid : Prop := fnExactEncodeWithinRow.holds Try.pinned (OpenSpec.ofChange fnExactEncodeWithinSpec)

/-- ITS FALSE NEIGHBOUR: 'it returns false'. Refute it at one input. -/
def fnExactEncodeWithinWrong : ChangeSpec := { name := "fnExactEncodeWithin", fn := fun _ => fun
  | [d1, d2] => { results := [.lit (.bool false)], args := [d1, d2] }
  | _ => none }
def FnExactEncodeWithinWrongFalsely : Prop := fnExactEncodeWithinRow.holds Try.pinned (OpenSpec.ofChange fnExactEncodeWithinWrong)

/-- 'laws.FnExactFirstUnlike': WHATEVER THE INPUT: true; the input reads as it did. -/
def fnExactFirstUnlikeSpec : ChangeSpec := { name := "fnExactFirstUnlike", fn := fun _ => fun
  | [d1, d2] => { results := [.lit (.bool true)], args := [d1, d2] }
  | _ => none }
def fnExactFirstUnlikeRow : OpenClaim := { program := "ytmielnjpppjfhab", sum := "13928e79da484be010fd218f46425efc2875d06aeba191019f45bf12906eaa1b", func := "loop.example/g01340/laws.FnExactFirstUnlike", spec := "fnExactFirstUnlike", unfollowed := true, recurses := true, apart := false }
def FnExactFirstUnlikeSaid : Prop := fnExactFirstUnlikeRow.holds Try.pinned (OpenSpec.ofChange fnExactFirstUnlikeSpec)

/-- ITS FALSE NEIGHBOUR: 'it returns false'. Refute it at one input. -/
def fnExactFirstUnlikeWrong : ChangeSpec := { name := "fnExactFirstUnlike", fn := fun _ => fun
  | [d1, d2] => { results := [.lit (.bool false)], args := [d1, d2] }
  | _ => none }
def FnExactFirstUnlikeWrongFalsely : Prop := fnExactFirstUnlikeRow.holds Try.pinned (OpenSpec.ofChange fnExactFirstUnlikeWrong)

/-- 'laws.FnExactFrameAt': WHATEVER THE INPUT: true; the input reads as it did. -/
def fnExactFrameAtSpec : ChangeSpec := { name := "fnExactFrameAt", fn := fun _ => fun
  | [d1, d2] => { results := [.lit (.bool true)], args := [d1, d2] }
  | _ => none }
def fnExactFrameAtRow : OpenClaim := { program := "ytmielnjpppjfhab", sum := "13928e79da484be010fd218f46425efc2875d06aeba191019f45bf12906eaa1b", func := "loop.example/g01340/laws.FnExactFrameAt", spec := "fnExactFrameAt", unfollowed := true, recurses := true, apart := false }
def FnExactFrameAtSaid : Prop := fnExactFrameAtRow.holds Try.pinned (OpenSpec.ofChange fnExactFrameAtSpec)

/-- ITS FALSE NEIGHBOUR: 'it returns false'. Refute it at one input. -/
def fnExactFrameAtWrong : ChangeSpec := { name := "fnExactFrameAt", fn := fun _ => fun
  | [d1, d2] => { results := [.lit (.bool false)], args := [d1, d2] }
  | _ => none }
def FnExactFrameAtWrongFalsely : Prop := fnExactFrameAtRow.holds Try.pinned (OpenSpec.ofChange fnExactFrameAtWrong)

/-- 'laws.FnExactCheckSteps': WHATEVER THE INPUT: true; the input reads as it did. -/
def fnExactCheckStepsSpec : ChangeSpec := { name := "fnExactCheckSteps", fn := fun _ => fun
  | [d1, d2] => { results := [.lit (.bool true)], args := [d1, d2] }
  | _ => none }
def fnExactCheckStepsRow : OpenClaim := { program := "ytmielnjpppjfhab", sum := "13928e79da484be010fd218f46425efc2875d06aeba191019f45bf12906eaa1b", func := "loop.example/g01340/laws.FnExactCheckSteps", spec := "fnExactCheckSteps", unfollowed := true, recurses := true, apart := false }
def FnExactCheckStepsSaid : Prop := fnExactCheckStepsRow.holds Try.pinned (OpenSpec.ofChange fnExactCheckStepsSpec)

/-- ITS FALSE NEIGHBOUR: 'it returns false'. Refute it at one input. -/
def fnExactCheckStepsWrong : ChangeSpec := { name := "fnExactCheckSteps", fn := fun _ => fun
  | [d1, d2] => { results := [.lit (.bool false)], args := [d1, d2] }
  | _ => none }
def FnExactCheckStepsWrongFalsely : Prop := fnExactCheckStepsRow.holds Try.pinned (OpenSpec.ofChange fnExactCheckStepsWrong)

/-- 'laws.FnFrames': WHATEVER THE INPUT: true; the input reads as it did. -/
def fnFramesSpec : ChangeSpec := { name := "fnFrames", fn := fun _ => fun
  | [d1, d2] => { results := [.lit (.bool true)], args := [d1, d2] }
  | _ => none }
def fnFramesRow : OpenClaim := { program := "ytmielnjpppjfhab", sum := "13928e79da484be010fd218f46425efc2875d06aeba191019f45bf12906eaa1b", func := "loop.example/g01340/laws.FnFrames", spec := "fnFrames", inPlace := ["internal/abi.NoEscape"], unfollowed := true, recurses := true, apart := false }
def FnFramesSaid : Prop := fnFramesRow.holds Try.pinned (OpenSpec.ofChange fnFramesSpec)

/-- ITS FALSE NEIGHBOUR: 'it returns false'. Refute it at one input. -/
def fnFramesWrong : ChangeSpec := { name := "fnFrames", fn := fun _ => fun
  | [d1, d2] => { results := [.lit (.bool false)], args := [d1, d2] }
  | _ => none }
def FnFramesWrongFalsely : Prop := fnFramesRow.holds Try.pinned (OpenSpec.ofChange fnFramesWrong)

/-- 'laws.FnBlobs': WHATEVER THE INPUT: true; the input reads as it did. -/
def fnBlobsSpec : ChangeSpec := { name := "fnBlobs", fn := fun _ => fun
  | [d1, d2] => { results := [.lit (.bool true)], args := [d1, d2] }
  | _ => none }
def fnBlobsRow : OpenClaim := { program := "ytmielnjpppjfhab", sum := "13928e79da484be010fd218f46425efc2875d06aeba191019f45bf12906eaa1b", func := "loop.example/g01340/laws.FnBlobs", spec := "fnBlobs", unfollowed := true, recurses := true, apart := false }
def FnBlobsSaid : Prop := fnBlobsRow.holds Try.pinned (OpenSpec.ofChange fnBlobsSpec)

/-- ITS FALSE NEIGHBOUR: 'it returns false'. Refute it at one input. -/
def fnBlobsWrong : ChangeSpec := { name := "fnBlobs", fn := fun _ => fun
  | [d1, d2] => { results := [.lit (.bool false)], args := [d1, d2] }
  | _ => none }
def FnBlobsWrongFalsely : Prop := fnBlobsRow.holds Try.pinned (OpenSpec.ofChange fnBlobsWrong)

/- THE SECOND FORM. 'bulk': how many values and letters a reading holds, each counted each time it is reached (what is shared counts as often as it is met; a slice's spare places count too). A statement '..UptoSaid' is the law's where the arguments, and the package variables that the reading takes, are together of bulk at most 1048576: NARROWER than '..Said'. Prove '..Said' where nothing that the law and all that it calls make is longer than what came in: it says more and counts as full. Else prove '..UptoSaid'. A law counts once. -/
mutual
def uptoBulk {H : Type} : DataW H → Nat
  | .lit (.string bytes) => bytes.length + 1
  | .lit _ => 1
  | .nil => 1
  | .ptr d => uptoBulk d + 1
  | .slice elems spare => uptoBulkAll elems + uptoBulkAll spare + 1
  | .agg parts => uptoBulkAll parts + 1
  | .iface _ d => uptoBulk d + 1
  | .map entries => uptoBulkEntries entries + 1
  | .held _ => 1
def uptoBulkAll {H : Type} : List (DataW H) → Nat
  | [] => 0
  | d :: r => uptoBulk d + uptoBulkAll r
def uptoBulkEntries {H : Type} : List (Lit × DataW H) → Nat
  | [] => 0
  | x :: r => uptoBulkEntry x + uptoBulkEntries r
def uptoBulkEntry {H : Type} : Lit × DataW H → Nat
  | (.string bytes, d) => bytes.length + uptoBulk d + 1
  | (_, d) => uptoBulk d + 1
 end
def uptoSmall : (H : Type) → List (DataW H) → Bool := fun _ ds => decide (uptoBulkAll ds ≤ 1048576)
def OpenSpec.upto (s : _root_.Go.ChangeSpec) : _root_.Go.OpenSpec := { _root_.Go.OpenSpec.ofChange s with cond := some uptoSmall }

/-- 'laws.FnExactEncodeWithin', WHERE WHAT IT READS IS OF BULK AT MOST 1048576: true; the input reads as it did. -/
def fnExactEncodeWithinUptoRow : OpenClaim := { program := "ytmielnjpppjfhab", sum := "13928e79da484be010fd218f46425efc2875d06aeba191019f45bf12906eaa1b", func := "loop.example/g01340/laws.FnExactEncodeWithin", spec := "fnExactEncodeWithin", unfollowed := true, recurses := true, apart := false, narrowed := true }
def FnExactEncodeWithinUptoSaid : Prop := fnExactEncodeWithinUptoRow.holds Try.pinned (OpenSpec.upto fnExactEncodeWithinSpec)

/-- 'laws.FnExactFirstUnlike', WHERE WHAT IT READS IS OF BULK AT MOST 1048576: true; the input reads as it did. -/
def fnExactFirstUnlikeUptoRow : OpenClaim := { program := "ytmielnjpppjfhab", sum := "13928e79da484be010fd218f46425efc2875d06aeba191019f45bf12906eaa1b", func := "loop.example/g01340/laws.FnExactFirstUnlike", spec := "fnExactFirstUnlike", unfollowed := true, recurses := true, apart := false, narrowed := true }
def FnExactFirstUnlikeUptoSaid : Prop := fnExactFirstUnlikeUptoRow.holds Try.pinned (OpenSpec.upto fnExactFirstUnlikeSpec)

/-- 'laws.FnExactFrameAt', WHERE WHAT IT READS IS OF BULK AT MOST 1048576: true; the input reads as it did. -/
def fnExactFrameAtUptoRow : OpenClaim := { program := "ytmielnjpppjfhab", sum := "13928e79da484be010fd218f46425efc2875d06aeba191019f45bf12906eaa1b", func := "loop.example/g01340/laws.FnExactFrameAt", spec := "fnExactFrameAt", unfollowed := true, recurses := true, apart := false, narrowed := true }
def FnExactFrameAtUptoSaid : Prop := fnExactFrameAtUptoRow.holds Try.pinned (OpenSpec.upto fnExactFrameAtSpec)

/-- 'laws.FnExactCheckSteps', WHERE WHAT IT READS IS OF BULK AT MOST 1048576: true; the input reads as it did. -/
def fnExactCheckStepsUptoRow : OpenClaim := { program := "ytmielnjpppjfhab", sum := "13928e79da484be010fd218f46425efc2875d06aeba191019f45bf12906eaa1b", func := "loop.example/g01340/laws.FnExactCheckSteps", spec := "fnExactCheckSteps", unfollowed := true, recurses := true, apart := false, narrowed := true }
def FnExactCheckStepsUptoSaid : Prop := fnExactCheckStepsUptoRow.holds Try.pinned (OpenSpec.upto fnExactCheckStepsSpec)

/-- 'laws.FnFrames', WHERE WHAT IT READS IS OF BULK AT MOST 1048576: true; the input reads as it did. -/
def fnFramesUptoRow : OpenClaim := { program := "ytmielnjpppjfhab", sum := "13928e79da484be010fd218f46425efc2875d06aeba191019f45bf12906eaa1b", func := "loop.example/g01340/laws.FnFrames", spec := "fnFrames", inPlace := ["internal/abi.NoEscape"], unfollowed := true, recurses := true, apart := false, narrowed := true }
def FnFramesUptoSaid : Prop := fnFramesUptoRow.holds Try.pinned (OpenSpec.upto fnFramesSpec)

/-- 'laws.FnBlobs', WHERE WHAT IT READS IS OF BULK AT MOST 1048576: true; the input reads as it did. -/
def fnBlobsUptoRow : OpenClaim := { program := "ytmielnjpppjfhab", sum := "13928e79da484be010fd218f46425efc2875d06aeba191019f45bf12906eaa1b", func := "loop.example/g01340/laws.FnBlobs", spec := "fnBlobs", unfollowed := true, recurses := true, apart := false, narrowed := true }
def FnBlobsUptoSaid : Prop := fnBlobsUptoRow.holds Try.pinned (OpenSpec.upto fnBlobsSpec)

end Rows
end Go.Proofs.Ytmielnjpppjfhab
