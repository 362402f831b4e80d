/-
  No cell of these rows narrows 'for every input' (looked for: loops, veiled, ifaces, maps, wideKeys, modest, calm, conditions, laid).
  DERIVED. THE GIVEN ROWS OF THIS SEAT. 6 by the template 'for every input the law returns true; each argument reads behind the call as it read before'; 0 by the template 'total and deterministic' (their statements: YtenmbknaocedfaaTotals.lean).
  GIVEN WITH THE SEED: the statements are not yours to turn. If you find one false, say at which input.
  Laid BY PROGRAM, IN A SANDBOX (cutbox-rows.mjs): the forced cells as the released guide's own fill.sh prints them over the translation 67832f73b855e76e… (all of the seat's roots in one cut). By AI agents, Wed Nov 11 2026. No macro, syntax, notation, axiom, sorry.
-/
import Derived.Test.YtenmbknaocedfaaChecked
import GoSem.Claim
import GoSem.ClaimJoined
import GoSem.ClaimMapViews
import Derived.JoinedTies
import Derived.KernelRfl
namespace Go.Proofs.Ytenmbknaocedfaa
/- THE CELL 'sum', in the pinned program and in every row, IS THE sha256 OF THE DUMP (.gsa) THAT YtenmbknaocedfaaProg.lean LOADS. Nothing in Lean hashes anything: it is a label: what it is worth is what the hold of that sum in a sandbox is worth. -/
noncomputable def Try.pinned : Pinned := { name := "ytenmbknaocedfaa", sum := "67832f73b855e76e6f9a09362d5a106b5ad6fb5a338414bc135dd3d588a1238c", checked := Try.checked }
namespace Rows
def none {H : Type} : Left H := { results := [], args := [] }

/-- 'laws.FnExactSameSteps': WHATEVER THE INPUT: true; the input reads as it did. -/
def fnExactSameStepsSpec : ChangeSpec := { name := "fnExactSameSteps", fn := fun _ => fun
  | [d1, d2] => { results := [.lit (.bool true)], args := [d1, d2] }
  | _ => none }
def fnExactSameStepsRow : OpenClaim := { program := "ytenmbknaocedfaa", sum := "67832f73b855e76e6f9a09362d5a106b5ad6fb5a338414bc135dd3d588a1238c", func := "loop.example/g01340/laws.FnExactSameSteps", spec := "fnExactSameSteps", unfollowed := true, recurses := true, apart := false }
def FnExactSameStepsSaid : Prop := fnExactSameStepsRow.holds Try.pinned (OpenSpec.ofChange fnExactSameStepsSpec)

/-- ITS FALSE NEIGHBOUR: 'it returns false'. Refute it at one input. -/
def fnExactSameStepsWrong : ChangeSpec := { name := "fnExactSameSteps", fn := fun _ => fun
  | [d1, d2] => { results := [.lit (.bool false)], args := [d1, d2] }
  | _ => none }
def FnExactSameStepsWrongFalsely : Prop := fnExactSameStepsRow.holds Try.pinned (OpenSpec.ofChange fnExactSameStepsWrong)

/-- 'laws.FnExactValidSteps': WHATEVER THE INPUT: true; the input reads as it did. -/
def fnExactValidStepsSpec : ChangeSpec := { name := "fnExactValidSteps", fn := fun _ => fun
  | [d] => { results := [.lit (.bool true)], args := [d] }
  | _ => none }
def fnExactValidStepsRow : OpenClaim := { program := "ytenmbknaocedfaa", sum := "67832f73b855e76e6f9a09362d5a106b5ad6fb5a338414bc135dd3d588a1238c", func := "loop.example/g01340/laws.FnExactValidSteps", spec := "fnExactValidSteps", apart := false }
def FnExactValidStepsSaid : Prop := fnExactValidStepsRow.holds Try.pinned (OpenSpec.ofChange fnExactValidStepsSpec)

/-- ITS FALSE NEIGHBOUR: 'it returns false'. Refute it at one input. -/
def fnExactValidStepsWrong : ChangeSpec := { name := "fnExactValidSteps", fn := fun _ => fun
  | [d] => { results := [.lit (.bool false)], args := [d] }
  | _ => none }
def FnExactValidStepsWrongFalsely : Prop := fnExactValidStepsRow.holds Try.pinned (OpenSpec.ofChange fnExactValidStepsWrong)

/-- 'laws.FnExactStepBetween': WHATEVER THE INPUT: true; the input reads as it did. -/
def fnExactStepBetweenSpec : ChangeSpec := { name := "fnExactStepBetween", fn := fun _ => fun
  | [d1, d2, d3] => { results := [.lit (.bool true)], args := [d1, d2, d3] }
  | _ => none }
def fnExactStepBetweenRow : OpenClaim := { program := "ytenmbknaocedfaa", sum := "67832f73b855e76e6f9a09362d5a106b5ad6fb5a338414bc135dd3d588a1238c", func := "loop.example/g01340/laws.FnExactStepBetween", spec := "fnExactStepBetween", unfollowed := true, recurses := true, apart := false }
def FnExactStepBetweenSaid : Prop := fnExactStepBetweenRow.holds Try.pinned (OpenSpec.ofChange fnExactStepBetweenSpec)

/-- ITS FALSE NEIGHBOUR: 'it returns false'. Refute it at one input. -/
def fnExactStepBetweenWrong : ChangeSpec := { name := "fnExactStepBetween", fn := fun _ => fun
  | [d1, d2, d3] => { results := [.lit (.bool false)], args := [d1, d2, d3] }
  | _ => none }
def FnExactStepBetweenWrongFalsely : Prop := fnExactStepBetweenRow.holds Try.pinned (OpenSpec.ofChange fnExactStepBetweenWrong)

/-- 'laws.FnStrokes': WHATEVER THE INPUT: true; the input reads as it did. -/
def fnStrokesSpec : ChangeSpec := { name := "fnStrokes", fn := fun _ => fun
  | [d1, d2] => { results := [.lit (.bool true)], args := [d1, d2] }
  | _ => none }
def fnStrokesRow : OpenClaim := { program := "ytenmbknaocedfaa", sum := "67832f73b855e76e6f9a09362d5a106b5ad6fb5a338414bc135dd3d588a1238c", func := "loop.example/g01340/laws.FnStrokes", spec := "fnStrokes", unfollowed := true, recurses := true, apart := false }
def FnStrokesSaid : Prop := fnStrokesRow.holds Try.pinned (OpenSpec.ofChange fnStrokesSpec)

/-- ITS FALSE NEIGHBOUR: 'it returns false'. Refute it at one input. -/
def fnStrokesWrong : ChangeSpec := { name := "fnStrokes", fn := fun _ => fun
  | [d1, d2] => { results := [.lit (.bool false)], args := [d1, d2] }
  | _ => none }
def FnStrokesWrongFalsely : Prop := fnStrokesRow.holds Try.pinned (OpenSpec.ofChange fnStrokesWrong)

/-- 'laws.FnExactStepsCost': WHATEVER THE INPUT: true; the input reads as it did. -/
def fnExactStepsCostSpec : ChangeSpec := { name := "fnExactStepsCost", fn := fun _ => fun
  | [d] => { results := [.lit (.bool true)], args := [d] }
  | _ => none }
def fnExactStepsCostRow : OpenClaim := { program := "ytenmbknaocedfaa", sum := "67832f73b855e76e6f9a09362d5a106b5ad6fb5a338414bc135dd3d588a1238c", func := "loop.example/g01340/laws.FnExactStepsCost", spec := "fnExactStepsCost", apart := false }
def FnExactStepsCostSaid : Prop := fnExactStepsCostRow.holds Try.pinned (OpenSpec.ofChange fnExactStepsCostSpec)

/-- ITS FALSE NEIGHBOUR: 'it returns false'. Refute it at one input. -/
def fnExactStepsCostWrong : ChangeSpec := { name := "fnExactStepsCost", fn := fun _ => fun
  | [d] => { results := [.lit (.bool false)], args := [d] }
  | _ => none }
def FnExactStepsCostWrongFalsely : Prop := fnExactStepsCostRow.holds Try.pinned (OpenSpec.ofChange fnExactStepsCostWrong)

/-- 'laws.FnExactSeekCost': WHATEVER THE INPUT: true; the input reads as it did. -/
def fnExactSeekCostSpec : ChangeSpec := { name := "fnExactSeekCost", fn := fun _ => fun
  | [d1, d2] => { results := [.lit (.bool true)], args := [d1, d2] }
  | _ => none }
def fnExactSeekCostRow : OpenClaim := { program := "ytenmbknaocedfaa", sum := "67832f73b855e76e6f9a09362d5a106b5ad6fb5a338414bc135dd3d588a1238c", func := "loop.example/g01340/laws.FnExactSeekCost", spec := "fnExactSeekCost", apart := false }
def FnExactSeekCostSaid : Prop := fnExactSeekCostRow.holds Try.pinned (OpenSpec.ofChange fnExactSeekCostSpec)

/-- ITS FALSE NEIGHBOUR: 'it returns false'. Refute it at one input. -/
def fnExactSeekCostWrong : ChangeSpec := { name := "fnExactSeekCost", fn := fun _ => fun
  | [d1, d2] => { results := [.lit (.bool false)], args := [d1, d2] }
  | _ => none }
def FnExactSeekCostWrongFalsely : Prop := fnExactSeekCostRow.holds Try.pinned (OpenSpec.ofChange fnExactSeekCostWrong)

/- THE SECOND FORM. 'bulk': how many values and letters a reading holds, each counted each time it is reached (what is shared counts as often as it is met; a slice's spare places count too). A statement '..UptoSaid' is the law's where the arguments, and the package variables that the reading takes, are together of bulk at most 1048576: NARROWER than '..Said'. Prove '..Said' where nothing that the law and all that it calls make is longer than what came in: it says more and counts as full. Else prove '..UptoSaid'. A law counts once. -/
mutual
def uptoBulk {H : Type} : DataW H → Nat
  | .lit (.string bytes) => bytes.length + 1
  | .lit _ => 1
  | .nil => 1
  | .ptr d => uptoBulk d + 1
  | .slice elems spare => uptoBulkAll elems + uptoBulkAll spare + 1
  | .agg parts => uptoBulkAll parts + 1
  | .iface _ d => uptoBulk d + 1
  | .map entries => uptoBulkEntries entries + 1
  | .held _ => 1
def uptoBulkAll {H : Type} : List (DataW H) → Nat
  | [] => 0
  | d :: r => uptoBulk d + uptoBulkAll r
def uptoBulkEntries {H : Type} : List (Lit × DataW H) → Nat
  | [] => 0
  | x :: r => uptoBulkEntry x + uptoBulkEntries r
def uptoBulkEntry {H : Type} : Lit × DataW H → Nat
  | (.string bytes, d) => bytes.length + uptoBulk d + 1
  | (_, d) => uptoBulk d + 1
 end
def uptoSmall : (H : Type) → List (DataW H) → Bool := fun _ ds => decide (uptoBulkAll ds ≤ 1048576)
def OpenSpec.upto (s : _root_.Go.ChangeSpec) : _root_.Go.OpenSpec := { _root_.Go.OpenSpec.ofChange s with cond := some uptoSmall }

/-- 'laws.FnExactSameSteps', WHERE WHAT IT READS IS OF BULK AT MOST 1048576: true; the input reads as it did. -/
def fnExactSameStepsUptoRow : OpenClaim := { program := "ytenmbknaocedfaa", sum := "67832f73b855e76e6f9a09362d5a106b5ad6fb5a338414bc135dd3d588a1238c", func := "loop.example/g01340/laws.FnExactSameSteps", spec := "fnExactSameSteps", unfollowed := true, recurses := true, apart := false, narrowed := true }
def FnExactSameStepsUptoSaid : Prop := fnExactSameStepsUptoRow.holds Try.pinned (OpenSpec.upto fnExactSameStepsSpec)

/-- 'laws.FnExactValidSteps', WHERE WHAT IT READS IS OF BULK AT MOST 1048576: true; the input reads as it did. -/
def fnExactValidStepsUptoRow : OpenClaim := { program := "ytenmbknaocedfaa", sum := "67832f73b855e76e6f9a09362d5a106b5ad6fb5a338414bc135dd3d588a1238c", func := "loop.example/g01340/laws.FnExactValidSteps", spec := "fnExactValidSteps", apart := false, narrowed := true }
def FnExactValidStepsUptoSaid : Prop := fnExactValidStepsUptoRow.holds Try.pinned (OpenSpec.upto fnExactValidStepsSpec)

/-- 'laws.FnExactStepBetween', WHERE WHAT IT READS IS OF BULK AT MOST 1048576: true; the input reads as it did. -/
def fnExactStepBetweenUptoRow : OpenClaim := { program := "ytenmbknaocedfaa", sum := "67832f73b855e76e6f9a09362d5a106b5ad6fb5a338414bc135dd3d588a1238c", func := "loop.example/g01340/laws.FnExactStepBetween", spec := "fnExactStepBetween", unfollowed := true, recurses := true, apart := false, narrowed := true }
def FnExactStepBetweenUptoSaid : Prop := fnExactStepBetweenUptoRow.holds Try.pinned (OpenSpec.upto fnExactStepBetweenSpec)

/-- 'laws.FnStrokes', WHERE WHAT IT READS IS OF BULK AT MOST 1048576: true; the input reads as it did. -/
def fnStrokesUptoRow : OpenClaim := { program := "ytenmbknaocedfaa", sum := "67832f73b855e76e6f9a09362d5a106b5ad6fb5a338414bc135dd3d588a1238c", func := "loop.example/g01340/laws.FnStrokes", spec := "fnStrokes", unfollowed := true, recurses := true, apart := false, narrowed := true }
def FnStrokesUptoSaid : Prop := fnStrokesUptoRow.holds Try.pinned (OpenSpec.upto fnStrokesSpec)

/-- 'laws.FnExactStepsCost', WHERE WHAT IT READS IS OF BULK AT MOST 1048576: true; the input reads as it did. -/
def fnExactStepsCostUptoRow : OpenClaim := { program := "ytenmbknaocedfaa", sum := "67832f73b855e76e6f9a09362d5a106b5ad6fb5a338414bc135dd3d588a1238c", func := "loop.example/g01340/laws.FnExactStepsCost", spec := "fnExactStepsCost", apart := false, narrowed := true }
def FnExactStepsCostUptoSaid : Prop := fnExactStepsCostUptoRow.holds Try.pinned (OpenSpec.upto fnExactStepsCostSpec)

/-- 'laws.FnExactSeekCost', WHERE WHAT IT READS IS OF BULK AT MOST 1048576: true; the input reads as it did. -/
def fnExactSeekCostUptoRow : OpenClaim := { program := "ytenmbknaocedfaa", sum := "67832f73b855e76e6f9a09362d5a106b5ad6fb5a338414bc135dd3d588a1238c", func := "loop.example/g01340/laws.FnExactSeekCost", spec := "fnExactSeekCost", apart := false, narrowed := true }
def FnExactSeekCostUptoSaid : Prop := fnExactSeekCostUptoRow.holds Try.pinned (OpenSpec.upto fnExactSeekCostSpec)

end Rows
end Go.Proofs.Ytenmbknaocedfaa
