/-
  No cell of these rows narrows 'for every input' (looked for: loops, veiled, ifaces, maps, wideKeys, modest, calm, conditions, laid).
  DERIVED. THE GIVEN ROWS OF THIS SEAT. 6 by the template 'for every input the law returns true; each argument reads behind the call as it read before'; 0 by the template 'total and deterministic' (their statements: YtkkncjfgnielgabTotals.lean).
  GIVEN WITH THE SEED: the statements are not yours to turn. If you find one false, say at which input.
  Laid BY PROGRAM, IN A SANDBOX (cutbox-rows.mjs): the forced cells as the released guide's own fill.sh prints them over the translation 3f22964e48adf4af… (all of the seat's roots in one cut). By AI agents, Wed Nov 11 2026. No macro, syntax, notation, axiom, sorry.
-/
import Derived.Test.YtkkncjfgnielgabChecked
import GoSem.Claim
import GoSem.ClaimJoined
import GoSem.ClaimMapViews
import Derived.JoinedTies
import Derived.KernelRfl
namespace Go.Proofs.Ytkkncjfgnielgab
/- THE CELL 'sum', in the pinned program and in every row, IS THE sha256 OF THE DUMP (.gsa) THAT YtkkncjfgnielgabProg.lean LOADS. Nothing in Lean hashes anything: it is a label: what it is worth is what the hold of that sum in a sandbox is worth. -/
noncomputable def Try.pinned : Pinned := { name := "ytkkncjfgnielgab", sum := "3f22964e48adf4af1211bb76d056ba9d2774531928143109ec0699a86fb0b740", checked := Try.checked }
namespace Rows
def none {H : Type} : Left H := { results := [], args := [] }

/-- 'laws.FnExactLightBy': WHATEVER THE INPUT: true; the input reads as it did. -/
def fnExactLightBySpec : ChangeSpec := { name := "fnExactLightBy", fn := fun _ => fun
  | [d1, d2, d3] => { results := [.lit (.bool true)], args := [d1, d2, d3] }
  | _ => none }
def fnExactLightByRow : OpenClaim := { program := "ytkkncjfgnielgab", sum := "3f22964e48adf4af1211bb76d056ba9d2774531928143109ec0699a86fb0b740", func := "loop.example/g01340/laws.FnExactLightBy", spec := "fnExactLightBy", unfollowed := true, recurses := true, apart := false }
def FnExactLightBySaid : Prop := fnExactLightByRow.holds Try.pinned (OpenSpec.ofChange fnExactLightBySpec)

/-- ITS FALSE NEIGHBOUR: 'it returns false'. Refute it at one input. -/
def fnExactLightByWrong : ChangeSpec := { name := "fnExactLightBy", fn := fun _ => fun
  | [d1, d2, d3] => { results := [.lit (.bool false)], args := [d1, d2, d3] }
  | _ => none }
def FnExactLightByWrongFalsely : Prop := fnExactLightByRow.holds Try.pinned (OpenSpec.ofChange fnExactLightByWrong)

/-- 'laws.FnExactStrokesOf': WHATEVER THE INPUT: true; the input reads as it did. -/
def fnExactStrokesOfSpec : ChangeSpec := { name := "fnExactStrokesOf", fn := fun _ => fun
  | [d1, d2] => { results := [.lit (.bool true)], args := [d1, d2] }
  | _ => none }
def fnExactStrokesOfRow : OpenClaim := { program := "ytkkncjfgnielgab", sum := "3f22964e48adf4af1211bb76d056ba9d2774531928143109ec0699a86fb0b740", func := "loop.example/g01340/laws.FnExactStrokesOf", spec := "fnExactStrokesOf", unfollowed := true, recurses := true, apart := false }
def FnExactStrokesOfSaid : Prop := fnExactStrokesOfRow.holds Try.pinned (OpenSpec.ofChange fnExactStrokesOfSpec)

/-- ITS FALSE NEIGHBOUR: 'it returns false'. Refute it at one input. -/
def fnExactStrokesOfWrong : ChangeSpec := { name := "fnExactStrokesOf", fn := fun _ => fun
  | [d1, d2] => { results := [.lit (.bool false)], args := [d1, d2] }
  | _ => none }
def FnExactStrokesOfWrongFalsely : Prop := fnExactStrokesOfRow.holds Try.pinned (OpenSpec.ofChange fnExactStrokesOfWrong)

/-- 'laws.FnExactFewestStrokes': WHATEVER THE INPUT: true; the input reads as it did. -/
def fnExactFewestStrokesSpec : ChangeSpec := { name := "fnExactFewestStrokes", fn := fun _ => fun
  | [d] => { results := [.lit (.bool true)], args := [d] }
  | _ => none }
def fnExactFewestStrokesRow : OpenClaim := { program := "ytkkncjfgnielgab", sum := "3f22964e48adf4af1211bb76d056ba9d2774531928143109ec0699a86fb0b740", func := "loop.example/g01340/laws.FnExactFewestStrokes", spec := "fnExactFewestStrokes", unfollowed := true, recurses := true, apart := false }
def FnExactFewestStrokesSaid : Prop := fnExactFewestStrokesRow.holds Try.pinned (OpenSpec.ofChange fnExactFewestStrokesSpec)

/-- ITS FALSE NEIGHBOUR: 'it returns false'. Refute it at one input. -/
def fnExactFewestStrokesWrong : ChangeSpec := { name := "fnExactFewestStrokes", fn := fun _ => fun
  | [d] => { results := [.lit (.bool false)], args := [d] }
  | _ => none }
def FnExactFewestStrokesWrongFalsely : Prop := fnExactFewestStrokesRow.holds Try.pinned (OpenSpec.ofChange fnExactFewestStrokesWrong)

/-- 'laws.FnExactRestorePage': WHATEVER THE INPUT: true; the input reads as it did. -/
def fnExactRestorePageSpec : ChangeSpec := { name := "fnExactRestorePage", fn := fun _ => fun
  | [d1, d2, d3] => { results := [.lit (.bool true)], args := [d1, d2, d3] }
  | _ => none }
def fnExactRestorePageRow : OpenClaim := { program := "ytkkncjfgnielgab", sum := "3f22964e48adf4af1211bb76d056ba9d2774531928143109ec0699a86fb0b740", func := "loop.example/g01340/laws.FnExactRestorePage", spec := "fnExactRestorePage", unfollowed := true, recurses := true, apart := false }
def FnExactRestorePageSaid : Prop := fnExactRestorePageRow.holds Try.pinned (OpenSpec.ofChange fnExactRestorePageSpec)

/-- ITS FALSE NEIGHBOUR: 'it returns false'. Refute it at one input. -/
def fnExactRestorePageWrong : ChangeSpec := { name := "fnExactRestorePage", fn := fun _ => fun
  | [d1, d2, d3] => { results := [.lit (.bool false)], args := [d1, d2, d3] }
  | _ => none }
def FnExactRestorePageWrongFalsely : Prop := fnExactRestorePageRow.holds Try.pinned (OpenSpec.ofChange fnExactRestorePageWrong)

/-- 'laws.FnExactBestLoop': WHATEVER THE INPUT: true; the input reads as it did. -/
def fnExactBestLoopSpec : ChangeSpec := { name := "fnExactBestLoop", fn := fun _ => fun
  | [d1, d2] => { results := [.lit (.bool true)], args := [d1, d2] }
  | _ => none }
def fnExactBestLoopRow : OpenClaim := { program := "ytkkncjfgnielgab", sum := "3f22964e48adf4af1211bb76d056ba9d2774531928143109ec0699a86fb0b740", func := "loop.example/g01340/laws.FnExactBestLoop", spec := "fnExactBestLoop", unfollowed := true, recurses := true, apart := false }
def FnExactBestLoopSaid : Prop := fnExactBestLoopRow.holds Try.pinned (OpenSpec.ofChange fnExactBestLoopSpec)

/-- ITS FALSE NEIGHBOUR: 'it returns false'. Refute it at one input. -/
def fnExactBestLoopWrong : ChangeSpec := { name := "fnExactBestLoop", fn := fun _ => fun
  | [d1, d2] => { results := [.lit (.bool false)], args := [d1, d2] }
  | _ => none }
def FnExactBestLoopWrongFalsely : Prop := fnExactBestLoopRow.holds Try.pinned (OpenSpec.ofChange fnExactBestLoopWrong)

/-- 'laws.FnExactLightOf': WHATEVER THE INPUT: true; the input reads as it did. -/
def fnExactLightOfSpec : ChangeSpec := { name := "fnExactLightOf", fn := fun _ => fun
  | [d1, d2] => { results := [.lit (.bool true)], args := [d1, d2] }
  | _ => none }
def fnExactLightOfRow : OpenClaim := { program := "ytkkncjfgnielgab", sum := "3f22964e48adf4af1211bb76d056ba9d2774531928143109ec0699a86fb0b740", func := "loop.example/g01340/laws.FnExactLightOf", spec := "fnExactLightOf", unfollowed := true, recurses := true, apart := false }
def FnExactLightOfSaid : Prop := fnExactLightOfRow.holds Try.pinned (OpenSpec.ofChange fnExactLightOfSpec)

/-- ITS FALSE NEIGHBOUR: 'it returns false'. Refute it at one input. -/
def fnExactLightOfWrong : ChangeSpec := { name := "fnExactLightOf", fn := fun _ => fun
  | [d1, d2] => { results := [.lit (.bool false)], args := [d1, d2] }
  | _ => none }
def FnExactLightOfWrongFalsely : Prop := fnExactLightOfRow.holds Try.pinned (OpenSpec.ofChange fnExactLightOfWrong)

/- THE SECOND FORM. 'bulk': how many values and letters a reading holds, each counted each time it is reached (what is shared counts as often as it is met; a slice's spare places count too). A statement '..UptoSaid' is the law's where the arguments, and the package variables that the reading takes, are together of bulk at most 1048576: NARROWER than '..Said'. Prove '..Said' where nothing that the law and all that it calls make is longer than what came in: it says more and counts as full. Else prove '..UptoSaid'. A law counts once. -/
mutual
def uptoBulk {H : Type} : DataW H → Nat
  | .lit (.string bytes) => bytes.length + 1
  | .lit _ => 1
  | .nil => 1
  | .ptr d => uptoBulk d + 1
  | .slice elems spare => uptoBulkAll elems + uptoBulkAll spare + 1
  | .agg parts => uptoBulkAll parts + 1
  | .iface _ d => uptoBulk d + 1
  | .map entries => uptoBulkEntries entries + 1
  | .held _ => 1
def uptoBulkAll {H : Type} : List (DataW H) → Nat
  | [] => 0
  | d :: r => uptoBulk d + uptoBulkAll r
def uptoBulkEntries {H : Type} : List (Lit × DataW H) → Nat
  | [] => 0
  | x :: r => uptoBulkEntry x + uptoBulkEntries r
def uptoBulkEntry {H : Type} : Lit × DataW H → Nat
  | (.string bytes, d) => bytes.length + uptoBulk d + 1
  | (_, d) => uptoBulk d + 1
 end
def uptoSmall : (H : Type) → List (DataW H) → Bool := fun _ ds => decide (uptoBulkAll ds ≤ 1048576)
def OpenSpec.upto (s : _root_.Go.ChangeSpec) : _root_.Go.OpenSpec := { _root_.Go.OpenSpec.ofChange s with cond := some uptoSmall }

/-- 'laws.FnExactLightBy', WHERE WHAT IT READS IS OF BULK AT MOST 1048576: true; the input reads as it did. -/
def fnExactLightByUptoRow : OpenClaim := { program := "ytkkncjfgnielgab", sum := "3f22964e48adf4af1211bb76d056ba9d2774531928143109ec0699a86fb0b740", func := "loop.example/g01340/laws.FnExactLightBy", spec := "fnExactLightBy", unfollowed := true, recurses := true, apart := false, narrowed := true }
def FnExactLightByUptoSaid : Prop := fnExactLightByUptoRow.holds Try.pinned (OpenSpec.upto fnExactLightBySpec)

/-- 'laws.FnExactStrokesOf', WHERE WHAT IT READS IS OF BULK AT MOST 1048576: true; the input reads as it did. -/
def fnExactStrokesOfUptoRow : OpenClaim := { program := "ytkkncjfgnielgab", sum := "3f22964e48adf4af1211bb76d056ba9d2774531928143109ec0699a86fb0b740", func := "loop.example/g01340/laws.FnExactStrokesOf", spec := "fnExactStrokesOf", unfollowed := true, recurses := true, apart := false, narrowed := true }
def FnExactStrokesOfUptoSaid : Prop := fnExactStrokesOfUptoRow.holds Try.pinned (OpenSpec.upto fnExactStrokesOfSpec)

/-- 'laws.FnExactFewestStrokes', WHERE WHAT IT READS IS OF BULK AT MOST 1048576: true; the input reads as it did. -/
def fnExactFewestStrokesUptoRow : OpenClaim := { program := "ytkkncjfgnielgab", sum := "3f22964e48adf4af1211bb76d056ba9d2774531928143109ec0699a86fb0b740", func := "loop.example/g01340/laws.FnExactFewestStrokes", spec := "fnExactFewestStrokes", unfollowed := true, recurses := true, apart := false, narrowed := true }
def FnExactFewestStrokesUptoSaid : Prop := fnExactFewestStrokesUptoRow.holds Try.pinned (OpenSpec.upto fnExactFewestStrokesSpec)

/-- 'laws.FnExactRestorePage', WHERE WHAT IT READS IS OF BULK AT MOST 1048576: true; the input reads as it did. -/
def fnExactRestorePageUptoRow : OpenClaim := { program := "ytkkncjfgnielgab", sum := "3f22964e48adf4af1211bb76d056ba9d2774531928143109ec0699a86fb0b740", func := "loop.example/g01340/laws.FnExactRestorePage", spec := "fnExactRestorePage", unfollowed := true, recurses := true, apart := false, narrowed := true }
def FnExactRestorePageUptoSaid : Prop := fnExactRestorePageUptoRow.holds Try.pinned (OpenSpec.upto fnExactRestorePageSpec)

/-- 'laws.FnExactBestLoop', WHERE WHAT IT READS IS OF BULK AT MOST 1048576: true; the input reads as it did. -/
def fnExactBestLoopUptoRow : OpenClaim := { program := "ytkkncjfgnielgab", sum := "3f22964e48adf4af1211bb76d056ba9d2774531928143109ec0699a86fb0b740", func := "loop.example/g01340/laws.FnExactBestLoop", spec := "fnExactBestLoop", unfollowed := true, recurses := true, apart := false, narrowed := true }
def FnExactBestLoopUptoSaid : Prop := fnExactBestLoopUptoRow.holds Try.pinned (OpenSpec.upto fnExactBestLoopSpec)

/-- 'laws.FnExactLightOf', WHERE WHAT IT READS IS OF BULK AT MOST 1048576: true; the input reads as it did. -/
def fnExactLightOfUptoRow : OpenClaim := { program := "ytkkncjfgnielgab", sum := "3f22964e48adf4af1211bb76d056ba9d2774531928143109ec0699a86fb0b740", func := "loop.example/g01340/laws.FnExactLightOf", spec := "fnExactLightOf", unfollowed := true, recurses := true, apart := false, narrowed := true }
def FnExactLightOfUptoSaid : Prop := fnExactLightOfUptoRow.holds Try.pinned (OpenSpec.upto fnExactLightOfSpec)

end Rows
end Go.Proofs.Ytkkncjfgnielgab
