/-
  No cell of these rows narrows 'for every input' (looked for: loops, veiled, ifaces, maps, wideKeys, modest, calm, conditions, laid).
  DERIVED. THE GIVEN ROWS OF THIS SEAT. 5 by the template 'for every input the law returns true; each argument reads behind the call as it read before'; 0 by the template 'total and deterministic' (their statements: YtenmbknaocedfabTotals.lean).
  GIVEN WITH THE SEED: the statements are not yours to turn. If you find one false, say at which input.
  Laid BY PROGRAM, IN A SANDBOX (cutbox-rows.mjs): the forced cells as the released guide's own fill.sh prints them over the translation e5e6f74a35d17808… (all of the seat's roots in one cut). By AI agents, Wed Nov 11 2026. No macro, syntax, notation, axiom, sorry.
-/
import Derived.Test.YtenmbknaocedfabChecked
import GoSem.Claim
import GoSem.ClaimJoined
import GoSem.ClaimMapViews
import Derived.JoinedTies
import Derived.KernelRfl
namespace Go.Proofs.Ytenmbknaocedfab
/- THE CELL 'sum', in the pinned program and in every row, IS THE sha256 OF THE DUMP (.gsa) THAT YtenmbknaocedfabProg.lean LOADS. Nothing in Lean hashes anything: it is a label: what it is worth is what the hold of that sum in a sandbox is worth. -/
noncomputable def Try.pinned : Pinned := { name := "ytenmbknaocedfab", sum := "e5e6f74a35d1780887c6442c9a0272812060ea34a1b3234e906cf6b8884e0758", checked := Try.checked }
namespace Rows
def none {H : Type} : Left H := { results := [], args := [] }

/-- 'laws.FnExactDepthsOf': WHATEVER THE INPUT: true; the input reads as it did. -/
def fnExactDepthsOfSpec : ChangeSpec := { name := "fnExactDepthsOf", fn := fun _ => fun
  | [d] => { results := [.lit (.bool true)], args := [d] }
  | _ => none }
def fnExactDepthsOfRow : OpenClaim := { program := "ytenmbknaocedfab", sum := "e5e6f74a35d1780887c6442c9a0272812060ea34a1b3234e906cf6b8884e0758", func := "loop.example/g01340/laws.FnExactDepthsOf", spec := "fnExactDepthsOf", apart := false }
def FnExactDepthsOfSaid : Prop := fnExactDepthsOfRow.holds Try.pinned (OpenSpec.ofChange fnExactDepthsOfSpec)

/-- ITS FALSE NEIGHBOUR: 'it returns false'. Refute it at one input. -/
def fnExactDepthsOfWrong : ChangeSpec := { name := "fnExactDepthsOf", fn := fun _ => fun
  | [d] => { results := [.lit (.bool false)], args := [d] }
  | _ => none }
def FnExactDepthsOfWrongFalsely : Prop := fnExactDepthsOfRow.holds Try.pinned (OpenSpec.ofChange fnExactDepthsOfWrong)

/-- 'laws.FnExactPagesLost': WHATEVER THE INPUT: true; the input reads as it did. -/
def fnExactPagesLostSpec : ChangeSpec := { name := "fnExactPagesLost", fn := fun _ => fun
  | [d1, d2] => { results := [.lit (.bool true)], args := [d1, d2] }
  | _ => none }
def fnExactPagesLostRow : OpenClaim := { program := "ytenmbknaocedfab", sum := "e5e6f74a35d1780887c6442c9a0272812060ea34a1b3234e906cf6b8884e0758", func := "loop.example/g01340/laws.FnExactPagesLost", spec := "fnExactPagesLost", apart := false }
def FnExactPagesLostSaid : Prop := fnExactPagesLostRow.holds Try.pinned (OpenSpec.ofChange fnExactPagesLostSpec)

/-- ITS FALSE NEIGHBOUR: 'it returns false'. Refute it at one input. -/
def fnExactPagesLostWrong : ChangeSpec := { name := "fnExactPagesLost", fn := fun _ => fun
  | [d1, d2] => { results := [.lit (.bool false)], args := [d1, d2] }
  | _ => none }
def FnExactPagesLostWrongFalsely : Prop := fnExactPagesLostRow.holds Try.pinned (OpenSpec.ofChange fnExactPagesLostWrong)

/-- 'laws.FnExactBestStep': WHATEVER THE INPUT: true; the input reads as it did. -/
def fnExactBestStepSpec : ChangeSpec := { name := "fnExactBestStep", fn := fun _ => fun
  | [d1, d2] => { results := [.lit (.bool true)], args := [d1, d2] }
  | _ => none }
def fnExactBestStepRow : OpenClaim := { program := "ytenmbknaocedfab", sum := "e5e6f74a35d1780887c6442c9a0272812060ea34a1b3234e906cf6b8884e0758", func := "loop.example/g01340/laws.FnExactBestStep", spec := "fnExactBestStep", unfollowed := true, recurses := true, apart := false }
def FnExactBestStepSaid : Prop := fnExactBestStepRow.holds Try.pinned (OpenSpec.ofChange fnExactBestStepSpec)

/-- ITS FALSE NEIGHBOUR: 'it returns false'. Refute it at one input. -/
def fnExactBestStepWrong : ChangeSpec := { name := "fnExactBestStep", fn := fun _ => fun
  | [d1, d2] => { results := [.lit (.bool false)], args := [d1, d2] }
  | _ => none }
def FnExactBestStepWrongFalsely : Prop := fnExactBestStepRow.holds Try.pinned (OpenSpec.ofChange fnExactBestStepWrong)

/-- 'laws.FnExactBestMove': WHATEVER THE INPUT: true; the input reads as it did. -/
def fnExactBestMoveSpec : ChangeSpec := { name := "fnExactBestMove", fn := fun _ => fun
  | [d1, d2, d3] => { results := [.lit (.bool true)], args := [d1, d2, d3] }
  | _ => none }
def fnExactBestMoveRow : OpenClaim := { program := "ytenmbknaocedfab", sum := "e5e6f74a35d1780887c6442c9a0272812060ea34a1b3234e906cf6b8884e0758", func := "loop.example/g01340/laws.FnExactBestMove", spec := "fnExactBestMove", unfollowed := true, recurses := true, apart := false }
def FnExactBestMoveSaid : Prop := fnExactBestMoveRow.holds Try.pinned (OpenSpec.ofChange fnExactBestMoveSpec)

/-- ITS FALSE NEIGHBOUR: 'it returns false'. Refute it at one input. -/
def fnExactBestMoveWrong : ChangeSpec := { name := "fnExactBestMove", fn := fun _ => fun
  | [d1, d2, d3] => { results := [.lit (.bool false)], args := [d1, d2, d3] }
  | _ => none }
def FnExactBestMoveWrongFalsely : Prop := fnExactBestMoveRow.holds Try.pinned (OpenSpec.ofChange fnExactBestMoveWrong)

/-- 'laws.FnExactTrimScene': WHATEVER THE INPUT: true; the input reads as it did. -/
def fnExactTrimSceneSpec : ChangeSpec := { name := "fnExactTrimScene", fn := fun _ => fun
  | [d1, d2, d3] => { results := [.lit (.bool true)], args := [d1, d2, d3] }
  | _ => none }
def fnExactTrimSceneRow : OpenClaim := { program := "ytenmbknaocedfab", sum := "e5e6f74a35d1780887c6442c9a0272812060ea34a1b3234e906cf6b8884e0758", func := "loop.example/g01340/laws.FnExactTrimScene", spec := "fnExactTrimScene", unfollowed := true, recurses := true, apart := false }
def FnExactTrimSceneSaid : Prop := fnExactTrimSceneRow.holds Try.pinned (OpenSpec.ofChange fnExactTrimSceneSpec)

/-- ITS FALSE NEIGHBOUR: 'it returns false'. Refute it at one input. -/
def fnExactTrimSceneWrong : ChangeSpec := { name := "fnExactTrimScene", fn := fun _ => fun
  | [d1, d2, d3] => { results := [.lit (.bool false)], args := [d1, d2, d3] }
  | _ => none }
def FnExactTrimSceneWrongFalsely : Prop := fnExactTrimSceneRow.holds Try.pinned (OpenSpec.ofChange fnExactTrimSceneWrong)

/- THE SECOND FORM. 'bulk': how many values and letters a reading holds, each counted each time it is reached (what is shared counts as often as it is met; a slice's spare places count too). A statement '..UptoSaid' is the law's where the arguments, and the package variables that the reading takes, are together of bulk at most 1048576: NARROWER than '..Said'. Prove '..Said' where nothing that the law and all that it calls make is longer than what came in: it says more and counts as full. Else prove '..UptoSaid'. A law counts once. -/
mutual
def uptoBulk {H : Type} : DataW H → Nat
  | .lit (.string bytes) => bytes.length + 1
  | .lit _ => 1
  | .nil => 1
  | .ptr d => uptoBulk d + 1
  | .slice elems spare => uptoBulkAll elems + uptoBulkAll spare + 1
  | .agg parts => uptoBulkAll parts + 1
  | .iface _ d => uptoBulk d + 1
  | .map entries => uptoBulkEntries entries + 1
  | .held _ => 1
def uptoBulkAll {H : Type} : List (DataW H) → Nat
  | [] => 0
  | d :: r => uptoBulk d + uptoBulkAll r
def uptoBulkEntries {H : Type} : List (Lit × DataW H) → Nat
  | [] => 0
  | x :: r => uptoBulkEntry x + uptoBulkEntries r
def uptoBulkEntry {H : Type} : Lit × DataW H → Nat
  | (.string bytes, d) => bytes.length + uptoBulk d + 1
  | (_, d) => uptoBulk d + 1
 end
def uptoSmall : (H : Type) → List (DataW H) → Bool := fun _ ds => decide (uptoBulkAll ds ≤ 1048576)
def OpenSpec.upto (s : _root_.Go.ChangeSpec) : _root_.Go.OpenSpec := { _root_.Go.OpenSpec.ofChange s with cond := some uptoSmall }

/-- 'laws.FnExactDepthsOf', WHERE WHAT IT READS IS OF BULK AT MOST 1048576: true; the input reads as it did. -/
def fnExactDepthsOfUptoRow : OpenClaim := { program := "ytenmbknaocedfab", sum := "e5e6f74a35d1780887c6442c9a0272812060ea34a1b3234e906cf6b8884e0758", func := "loop.example/g01340/laws.FnExactDepthsOf", spec := "fnExactDepthsOf", apart := false, narrowed := true }
def FnExactDepthsOfUptoSaid : Prop := fnExactDepthsOfUptoRow.holds Try.pinned (OpenSpec.upto fnExactDepthsOfSpec)

/-- 'laws.FnExactPagesLost', WHERE WHAT IT READS IS OF BULK AT MOST 1048576: true; the input reads as it did. -/
def fnExactPagesLostUptoRow : OpenClaim := { program := "ytenmbknaocedfab", sum := "e5e6f74a35d1780887c6442c9a0272812060ea34a1b3234e906cf6b8884e0758", func := "loop.example/g01340/laws.FnExactPagesLost", spec := "fnExactPagesLost", apart := false, narrowed := true }
def FnExactPagesLostUptoSaid : Prop := fnExactPagesLostUptoRow.holds Try.pinned (OpenSpec.upto fnExactPagesLostSpec)

/-- 'laws.FnExactBestStep', WHERE WHAT IT READS IS OF BULK AT MOST 1048576: true; the input reads as it did. -/
def fnExactBestStepUptoRow : OpenClaim := { program := "ytenmbknaocedfab", sum := "e5e6f74a35d1780887c6442c9a0272812060ea34a1b3234e906cf6b8884e0758", func := "loop.example/g01340/laws.FnExactBestStep", spec := "fnExactBestStep", unfollowed := true, recurses := true, apart := false, narrowed := true }
def FnExactBestStepUptoSaid : Prop := fnExactBestStepUptoRow.holds Try.pinned (OpenSpec.upto fnExactBestStepSpec)

/-- 'laws.FnExactBestMove', WHERE WHAT IT READS IS OF BULK AT MOST 1048576: true; the input reads as it did. -/
def fnExactBestMoveUptoRow : OpenClaim := { program := "ytenmbknaocedfab", sum := "e5e6f74a35d1780887c6442c9a0272812060ea34a1b3234e906cf6b8884e0758", func := "loop.example/g01340/laws.FnExactBestMove", spec := "fnExactBestMove", unfollowed := true, recurses := true, apart := false, narrowed := true }
def FnExactBestMoveUptoSaid : Prop := fnExactBestMoveUptoRow.holds Try.pinned (OpenSpec.upto fnExactBestMoveSpec)

/-- 'laws.FnExactTrimScene', WHERE WHAT IT READS IS OF BULK AT MOST 1048576: true; the input reads as it did. -/
def fnExactTrimSceneUptoRow : OpenClaim := { program := "ytenmbknaocedfab", sum := "e5e6f74a35d1780887c6442c9a0272812060ea34a1b3234e906cf6b8884e0758", func := "loop.example/g01340/laws.FnExactTrimScene", spec := "fnExactTrimScene", unfollowed := true, recurses := true, apart := false, narrowed := true }
def FnExactTrimSceneUptoSaid : Prop := fnExactTrimSceneUptoRow.holds Try.pinned (OpenSpec.upto fnExactTrimSceneSpec)

end Rows
end Go.Proofs.Ytenmbknaocedfab
