/-
  No cell of these rows narrows 'for every input' (looked for: loops, veiled, ifaces, maps, wideKeys, modest, calm, conditions, laid).
  DERIVED. THE GIVEN ROWS OF THIS SEAT. 6 by the template 'for every input the law returns true; each argument reads behind the call as it read before'; 0 by the template 'total and deterministic' (their statements: YtholaggmhhjjkaaTotals.lean).
  GIVEN WITH THE SEED: the statements are not yours to turn. If you find one false, say at which input.
  Laid BY PROGRAM, IN A SANDBOX (cutbox-rows.mjs): the forced cells as the released guide's own fill.sh prints them over the translation 959896a023f86cb7… (all of the seat's roots in one cut). By AI agents, Wed Nov 11 2026. No macro, syntax, notation, axiom, sorry.
-/
import Derived.Test.YtholaggmhhjjkaaChecked
import GoSem.Claim
import GoSem.ClaimJoined
import GoSem.ClaimMapViews
import Derived.JoinedTies
import Derived.KernelRfl
namespace Go.Proofs.Ytholaggmhhjjkaa
/- THE CELL 'sum', in the pinned program and in every row, IS THE sha256 OF THE DUMP (.gsa) THAT YtholaggmhhjjkaaProg.lean LOADS. Nothing in Lean hashes anything: it is a label: what it is worth is what the hold of that sum in a sandbox is worth. -/
noncomputable def Try.pinned : Pinned := { name := "ytholaggmhhjjkaa", sum := "959896a023f86cb701dd1c0ea5e737e610964207e80ffbf7929d4baae788e44b", checked := Try.checked }
namespace Rows
def none {H : Type} : Left H := { results := [], args := [] }

/-- 'laws.FnExactBestMove': WHATEVER THE INPUT: true; the input reads as it did. -/
def fnExactBestMoveSpec : ChangeSpec := { name := "fnExactBestMove", fn := fun _ => fun
  | [d1, d2, d3] => { results := [.lit (.bool true)], args := [d1, d2, d3] }
  | _ => none }
def fnExactBestMoveRow : OpenClaim := { program := "ytholaggmhhjjkaa", sum := "959896a023f86cb701dd1c0ea5e737e610964207e80ffbf7929d4baae788e44b", func := "loop.example/g01340/laws.FnExactBestMove", spec := "fnExactBestMove", unfollowed := true, recurses := true, apart := false }
def FnExactBestMoveSaid : Prop := fnExactBestMoveRow.holds Try.pinned (OpenSpec.ofChange fnExactBestMoveSpec)

/-- ITS FALSE NEIGHBOUR: 'it returns false'. Refute it at one input. -/
def fnExactBestMoveWrong : ChangeSpec := { name := "fnExactBestMove", fn := fun _ => fun
  | [d1, d2, d3] => { results := [.lit (.bool false)], args := [d1, d2, d3] }
  | _ => none }
def FnExactBestMoveWrongFalsely : Prop := fnExactBestMoveRow.holds Try.pinned (OpenSpec.ofChange fnExactBestMoveWrong)

/-- 'laws.FnExactTrimScene': WHATEVER THE INPUT: true; the input reads as it did. -/
def fnExactTrimSceneSpec : ChangeSpec := { name := "fnExactTrimScene", fn := fun _ => fun
  | [d1, d2, d3] => { results := [.lit (.bool true)], args := [d1, d2, d3] }
  | _ => none }
def fnExactTrimSceneRow : OpenClaim := { program := "ytholaggmhhjjkaa", sum := "959896a023f86cb701dd1c0ea5e737e610964207e80ffbf7929d4baae788e44b", func := "loop.example/g01340/laws.FnExactTrimScene", spec := "fnExactTrimScene", unfollowed := true, recurses := true, apart := false }
def FnExactTrimSceneSaid : Prop := fnExactTrimSceneRow.holds Try.pinned (OpenSpec.ofChange fnExactTrimSceneSpec)

/-- ITS FALSE NEIGHBOUR: 'it returns false'. Refute it at one input. -/
def fnExactTrimSceneWrong : ChangeSpec := { name := "fnExactTrimScene", fn := fun _ => fun
  | [d1, d2, d3] => { results := [.lit (.bool false)], args := [d1, d2, d3] }
  | _ => none }
def FnExactTrimSceneWrongFalsely : Prop := fnExactTrimSceneRow.holds Try.pinned (OpenSpec.ofChange fnExactTrimSceneWrong)

/-- 'laws.FnExactPanScene': WHATEVER THE INPUT: true; the input reads as it did. -/
def fnExactPanSceneSpec : ChangeSpec := { name := "fnExactPanScene", fn := fun _ => fun
  | [d1, d2, d3, d4, d5, d6] => { results := [.lit (.bool true)], args := [d1, d2, d3, d4, d5, d6] }
  | _ => none }
def fnExactPanSceneRow : OpenClaim := { program := "ytholaggmhhjjkaa", sum := "959896a023f86cb701dd1c0ea5e737e610964207e80ffbf7929d4baae788e44b", func := "loop.example/g01340/laws.FnExactPanScene", spec := "fnExactPanScene", unfollowed := true, recurses := true, apart := false }
def FnExactPanSceneSaid : Prop := fnExactPanSceneRow.holds Try.pinned (OpenSpec.ofChange fnExactPanSceneSpec)

/-- ITS FALSE NEIGHBOUR: 'it returns false'. Refute it at one input. -/
def fnExactPanSceneWrong : ChangeSpec := { name := "fnExactPanScene", fn := fun _ => fun
  | [d1, d2, d3, d4, d5, d6] => { results := [.lit (.bool false)], args := [d1, d2, d3, d4, d5, d6] }
  | _ => none }
def FnExactPanSceneWrongFalsely : Prop := fnExactPanSceneRow.holds Try.pinned (OpenSpec.ofChange fnExactPanSceneWrong)

/-- 'laws.FnExactCopiesOf': WHATEVER THE INPUT: true; the input reads as it did. -/
def fnExactCopiesOfSpec : ChangeSpec := { name := "fnExactCopiesOf", fn := fun _ => fun
  | [d1, d2] => { results := [.lit (.bool true)], args := [d1, d2] }
  | _ => none }
def fnExactCopiesOfRow : OpenClaim := { program := "ytholaggmhhjjkaa", sum := "959896a023f86cb701dd1c0ea5e737e610964207e80ffbf7929d4baae788e44b", func := "loop.example/g01340/laws.FnExactCopiesOf", spec := "fnExactCopiesOf", unfollowed := true, recurses := true, apart := false }
def FnExactCopiesOfSaid : Prop := fnExactCopiesOfRow.holds Try.pinned (OpenSpec.ofChange fnExactCopiesOfSpec)

/-- ITS FALSE NEIGHBOUR: 'it returns false'. Refute it at one input. -/
def fnExactCopiesOfWrong : ChangeSpec := { name := "fnExactCopiesOf", fn := fun _ => fun
  | [d1, d2] => { results := [.lit (.bool false)], args := [d1, d2] }
  | _ => none }
def FnExactCopiesOfWrongFalsely : Prop := fnExactCopiesOfRow.holds Try.pinned (OpenSpec.ofChange fnExactCopiesOfWrong)

/-- 'laws.FnExactMeetTicks': WHATEVER THE INPUT: true; the input reads as it did. -/
def fnExactMeetTicksSpec : ChangeSpec := { name := "fnExactMeetTicks", fn := fun _ => fun
  | [d1, d2, d3, d4] => { results := [.lit (.bool true)], args := [d1, d2, d3, d4] }
  | _ => none }
def fnExactMeetTicksRow : OpenClaim := { program := "ytholaggmhhjjkaa", sum := "959896a023f86cb701dd1c0ea5e737e610964207e80ffbf7929d4baae788e44b", func := "loop.example/g01340/laws.FnExactMeetTicks", spec := "fnExactMeetTicks", unfollowed := true, recurses := true, apart := false }
def FnExactMeetTicksSaid : Prop := fnExactMeetTicksRow.holds Try.pinned (OpenSpec.ofChange fnExactMeetTicksSpec)

/-- ITS FALSE NEIGHBOUR: 'it returns false'. Refute it at one input. -/
def fnExactMeetTicksWrong : ChangeSpec := { name := "fnExactMeetTicks", fn := fun _ => fun
  | [d1, d2, d3, d4] => { results := [.lit (.bool false)], args := [d1, d2, d3, d4] }
  | _ => none }
def FnExactMeetTicksWrongFalsely : Prop := fnExactMeetTicksRow.holds Try.pinned (OpenSpec.ofChange fnExactMeetTicksWrong)

/-- 'laws.FnExactFrameAt': WHATEVER THE INPUT: true; the input reads as it did. -/
def fnExactFrameAtSpec : ChangeSpec := { name := "fnExactFrameAt", fn := fun _ => fun
  | [d1, d2] => { results := [.lit (.bool true)], args := [d1, d2] }
  | _ => none }
def fnExactFrameAtRow : OpenClaim := { program := "ytholaggmhhjjkaa", sum := "959896a023f86cb701dd1c0ea5e737e610964207e80ffbf7929d4baae788e44b", func := "loop.example/g01340/laws.FnExactFrameAt", spec := "fnExactFrameAt", unfollowed := true, recurses := true, apart := false }
def FnExactFrameAtSaid : Prop := fnExactFrameAtRow.holds Try.pinned (OpenSpec.ofChange fnExactFrameAtSpec)

/-- ITS FALSE NEIGHBOUR: 'it returns false'. Refute it at one input. -/
def fnExactFrameAtWrong : ChangeSpec := { name := "fnExactFrameAt", fn := fun _ => fun
  | [d1, d2] => { results := [.lit (.bool false)], args := [d1, d2] }
  | _ => none }
def FnExactFrameAtWrongFalsely : Prop := fnExactFrameAtRow.holds Try.pinned (OpenSpec.ofChange fnExactFrameAtWrong)

/- THE SECOND FORM. 'bulk': how many values and letters a reading holds, each counted each time it is reached (what is shared counts as often as it is met; a slice's spare places count too). A statement '..UptoSaid' is the law's where the arguments, and the package variables that the reading takes, are together of bulk at most 1048576: NARROWER than '..Said'. Prove '..Said' where nothing that the law and all that it calls make is longer than what came in: it says more and counts as full. Else prove '..UptoSaid'. A law counts once. -/
mutual
def uptoBulk {H : Type} : DataW H → Nat
  | .lit (.string bytes) => bytes.length + 1
  | .lit _ => 1
  | .nil => 1
  | .ptr d => uptoBulk d + 1
  | .slice elems spare => uptoBulkAll elems + uptoBulkAll spare + 1
  | .agg parts => uptoBulkAll parts + 1
  | .iface _ d => uptoBulk d + 1
  | .map entries => uptoBulkEntries entries + 1
  | .held _ => 1
def uptoBulkAll {H : Type} : List (DataW H) → Nat
  | [] => 0
  | d :: r => uptoBulk d + uptoBulkAll r
def uptoBulkEntries {H : Type} : List (Lit × DataW H) → Nat
  | [] => 0
  | x :: r => uptoBulkEntry x + uptoBulkEntries r
def uptoBulkEntry {H : Type} : Lit × DataW H → Nat
  | (.string bytes, d) => bytes.length + uptoBulk d + 1
  | (_, d) => uptoBulk d + 1
 end
def uptoSmall : (H : Type) → List (DataW H) → Bool := fun _ ds => decide (uptoBulkAll ds ≤ 1048576)
def OpenSpec.upto (s : _root_.Go.ChangeSpec) : _root_.Go.OpenSpec := { _root_.Go.OpenSpec.ofChange s with cond := some uptoSmall }

/-- 'laws.FnExactBestMove', WHERE WHAT IT READS IS OF BULK AT MOST 1048576: true; the input reads as it did. -/
def fnExactBestMoveUptoRow : OpenClaim := { program := "ytholaggmhhjjkaa", sum := "959896a023f86cb701dd1c0ea5e737e610964207e80ffbf7929d4baae788e44b", func := "loop.example/g01340/laws.FnExactBestMove", spec := "fnExactBestMove", unfollowed := true, recurses := true, apart := false, narrowed := true }
def FnExactBestMoveUptoSaid : Prop := fnExactBestMoveUptoRow.holds Try.pinned (OpenSpec.upto fnExactBestMoveSpec)

/-- 'laws.FnExactTrimScene', WHERE WHAT IT READS IS OF BULK AT MOST 1048576: true; the input reads as it did. -/
def fnExactTrimSceneUptoRow : OpenClaim := { program := "ytholaggmhhjjkaa", sum := "959896a023f86cb701dd1c0ea5e737e610964207e80ffbf7929d4baae788e44b", func := "loop.example/g01340/laws.FnExactTrimScene", spec := "fnExactTrimScene", unfollowed := true, recurses := true, apart := false, narrowed := true }
def FnExactTrimSceneUptoSaid : Prop := fnExactTrimSceneUptoRow.holds Try.pinned (OpenSpec.upto fnExactTrimSceneSpec)

/-- 'laws.FnExactPanScene', WHERE WHAT IT READS IS OF BULK AT MOST 1048576: true; the input reads as it did. -/
def fnExactPanSceneUptoRow : OpenClaim := { program := "ytholaggmhhjjkaa", sum := "959896a023f86cb701dd1c0ea5e737e610964207e80ffbf7929d4baae788e44b", func := "loop.example/g01340/laws.FnExactPanScene", spec := "fnExactPanScene", unfollowed := true, recurses := true, apart := false, narrowed := true }
def FnExactPanSceneUptoSaid : Prop := fnExactPanSceneUptoRow.holds Try.pinned (OpenSpec.upto fnExactPanSceneSpec)

/-- 'laws.FnExactCopiesOf', WHERE WHAT IT READS IS OF BULK AT MOST 1048576: true; the input reads as it did. -/
def fnExactCopiesOfUptoRow : OpenClaim := { program := "ytholaggmhhjjkaa", sum := "959896a023f86cb701dd1c0ea5e737e610964207e80ffbf7929d4baae788e44b", func := "loop.example/g01340/laws.FnExactCopiesOf", spec := "fnExactCopiesOf", unfollowed := true, recurses := true, apart := false, narrowed := true }
def FnExactCopiesOfUptoSaid : Prop := fnExactCopiesOfUptoRow.holds Try.pinned (OpenSpec.upto fnExactCopiesOfSpec)

/-- 'laws.FnExactMeetTicks', WHERE WHAT IT READS IS OF BULK AT MOST 1048576: true; the input reads as it did. -/
def fnExactMeetTicksUptoRow : OpenClaim := { program := "ytholaggmhhjjkaa", sum := "959896a023f86cb701dd1c0ea5e737e610964207e80ffbf7929d4baae788e44b", func := "loop.example/g01340/laws.FnExactMeetTicks", spec := "fnExactMeetTicks", unfollowed := true, recurses := true, apart := false, narrowed := true }
def FnExactMeetTicksUptoSaid : Prop := fnExactMeetTicksUptoRow.holds Try.pinned (OpenSpec.upto fnExactMeetTicksSpec)

/-- 'laws.FnExactFrameAt', WHERE WHAT IT READS IS OF BULK AT MOST 1048576: true; the input reads as it did. -/
def fnExactFrameAtUptoRow : OpenClaim := { program := "ytholaggmhhjjkaa", sum := "959896a023f86cb701dd1c0ea5e737e610964207e80ffbf7929d4baae788e44b", func := "loop.example/g01340/laws.FnExactFrameAt", spec := "fnExactFrameAt", unfollowed := true, recurses := true, apart := false, narrowed := true }
def FnExactFrameAtUptoSaid : Prop := fnExactFrameAtUptoRow.holds Try.pinned (OpenSpec.upto fnExactFrameAtSpec)

end Rows
end Go.Proofs.Ytholaggmhhjjkaa
