/-
  No cell of these rows narrows 'for every input' (looked for: loops, veiled, ifaces, maps, wideKeys, modest, calm, conditions, laid).
  DERIVED. THE GIVEN ROWS OF THIS SEAT. 6 by the template 'for every input the law returns true; each argument reads behind the call as it read before'; 0 by the template 'total and deterministic' (their statements: YtkkncjfgnielgaaTotals.lean).
  GIVEN WITH THE SEED: the statements are not yours to turn. If you find one false, say at which input.
  Laid BY PROGRAM, IN A SANDBOX (cutbox-rows.mjs): the forced cells as the released guide's own fill.sh prints them over the translation 9ec8bfbeaa454d9c… (all of the seat's roots in one cut). By AI agents, Wed Nov 11 2026. No macro, syntax, notation, axiom, sorry.
-/
import Derived.Test.YtkkncjfgnielgaaChecked
import GoSem.Claim
import GoSem.ClaimJoined
import GoSem.ClaimMapViews
import Derived.JoinedTies
import Derived.KernelRfl
namespace Go.Proofs.Ytkkncjfgnielgaa
/- THE CELL 'sum', in the pinned program and in every row, IS THE sha256 OF THE DUMP (.gsa) THAT YtkkncjfgnielgaaProg.lean LOADS. Nothing in Lean hashes anything: it is a label: what it is worth is what the hold of that sum in a sandbox is worth. -/
noncomputable def Try.pinned : Pinned := { name := "ytkkncjfgnielgaa", sum := "9ec8bfbeaa454d9cfb327d922c3b7321acf3b3192a70fdd0ba13582f8e7b3b12", checked := Try.checked }
namespace Rows
def none {H : Type} : Left H := { results := [], args := [] }

/-- 'laws.FnExactEverDots': WHATEVER THE INPUT: true; the input reads as it did. -/
def fnExactEverDotsSpec : ChangeSpec := { name := "fnExactEverDots", fn := fun _ => fun
  | [d] => { results := [.lit (.bool true)], args := [d] }
  | _ => none }
def fnExactEverDotsRow : OpenClaim := { program := "ytkkncjfgnielgaa", sum := "9ec8bfbeaa454d9cfb327d922c3b7321acf3b3192a70fdd0ba13582f8e7b3b12", func := "loop.example/g01340/laws.FnExactEverDots", spec := "fnExactEverDots", unfollowed := true, recurses := true, apart := false }
def FnExactEverDotsSaid : Prop := fnExactEverDotsRow.holds Try.pinned (OpenSpec.ofChange fnExactEverDotsSpec)

/-- ITS FALSE NEIGHBOUR: 'it returns false'. Refute it at one input. -/
def fnExactEverDotsWrong : ChangeSpec := { name := "fnExactEverDots", fn := fun _ => fun
  | [d] => { results := [.lit (.bool false)], args := [d] }
  | _ => none }
def FnExactEverDotsWrongFalsely : Prop := fnExactEverDotsRow.holds Try.pinned (OpenSpec.ofChange fnExactEverDotsWrong)

/-- 'laws.FnExactParityOf': WHATEVER THE INPUT: true; the input reads as it did. -/
def fnExactParityOfSpec : ChangeSpec := { name := "fnExactParityOf", fn := fun _ => fun
  | [d] => { results := [.lit (.bool true)], args := [d] }
  | _ => none }
def fnExactParityOfRow : OpenClaim := { program := "ytkkncjfgnielgaa", sum := "9ec8bfbeaa454d9cfb327d922c3b7321acf3b3192a70fdd0ba13582f8e7b3b12", func := "loop.example/g01340/laws.FnExactParityOf", spec := "fnExactParityOf", unfollowed := true, recurses := true, apart := false }
def FnExactParityOfSaid : Prop := fnExactParityOfRow.holds Try.pinned (OpenSpec.ofChange fnExactParityOfSpec)

/-- ITS FALSE NEIGHBOUR: 'it returns false'. Refute it at one input. -/
def fnExactParityOfWrong : ChangeSpec := { name := "fnExactParityOf", fn := fun _ => fun
  | [d] => { results := [.lit (.bool false)], args := [d] }
  | _ => none }
def FnExactParityOfWrongFalsely : Prop := fnExactParityOfRow.holds Try.pinned (OpenSpec.ofChange fnExactParityOfWrong)

/-- 'laws.FnExactPeriodOf': WHATEVER THE INPUT: true; the input reads as it did. -/
def fnExactPeriodOfSpec : ChangeSpec := { name := "fnExactPeriodOf", fn := fun _ => fun
  | [d] => { results := [.lit (.bool true)], args := [d] }
  | _ => none }
def fnExactPeriodOfRow : OpenClaim := { program := "ytkkncjfgnielgaa", sum := "9ec8bfbeaa454d9cfb327d922c3b7321acf3b3192a70fdd0ba13582f8e7b3b12", func := "loop.example/g01340/laws.FnExactPeriodOf", spec := "fnExactPeriodOf", unfollowed := true, recurses := true, apart := false }
def FnExactPeriodOfSaid : Prop := fnExactPeriodOfRow.holds Try.pinned (OpenSpec.ofChange fnExactPeriodOfSpec)

/-- ITS FALSE NEIGHBOUR: 'it returns false'. Refute it at one input. -/
def fnExactPeriodOfWrong : ChangeSpec := { name := "fnExactPeriodOf", fn := fun _ => fun
  | [d] => { results := [.lit (.bool false)], args := [d] }
  | _ => none }
def FnExactPeriodOfWrongFalsely : Prop := fnExactPeriodOfRow.holds Try.pinned (OpenSpec.ofChange fnExactPeriodOfWrong)

/-- 'laws.FnExactInkStrokes': WHATEVER THE INPUT: true; the input reads as it did. -/
def fnExactInkStrokesSpec : ChangeSpec := { name := "fnExactInkStrokes", fn := fun _ => fun
  | [d] => { results := [.lit (.bool true)], args := [d] }
  | _ => none }
def fnExactInkStrokesRow : OpenClaim := { program := "ytkkncjfgnielgaa", sum := "9ec8bfbeaa454d9cfb327d922c3b7321acf3b3192a70fdd0ba13582f8e7b3b12", func := "loop.example/g01340/laws.FnExactInkStrokes", spec := "fnExactInkStrokes", apart := false }
def FnExactInkStrokesSaid : Prop := fnExactInkStrokesRow.holds Try.pinned (OpenSpec.ofChange fnExactInkStrokesSpec)

/-- ITS FALSE NEIGHBOUR: 'it returns false'. Refute it at one input. -/
def fnExactInkStrokesWrong : ChangeSpec := { name := "fnExactInkStrokes", fn := fun _ => fun
  | [d] => { results := [.lit (.bool false)], args := [d] }
  | _ => none }
def FnExactInkStrokesWrongFalsely : Prop := fnExactInkStrokesRow.holds Try.pinned (OpenSpec.ofChange fnExactInkStrokesWrong)

/-- 'laws.FnExactStillDots': WHATEVER THE INPUT: true; the input reads as it did. -/
def fnExactStillDotsSpec : ChangeSpec := { name := "fnExactStillDots", fn := fun _ => fun
  | [d] => { results := [.lit (.bool true)], args := [d] }
  | _ => none }
def fnExactStillDotsRow : OpenClaim := { program := "ytkkncjfgnielgaa", sum := "9ec8bfbeaa454d9cfb327d922c3b7321acf3b3192a70fdd0ba13582f8e7b3b12", func := "loop.example/g01340/laws.FnExactStillDots", spec := "fnExactStillDots", unfollowed := true, recurses := true, apart := false }
def FnExactStillDotsSaid : Prop := fnExactStillDotsRow.holds Try.pinned (OpenSpec.ofChange fnExactStillDotsSpec)

/-- ITS FALSE NEIGHBOUR: 'it returns false'. Refute it at one input. -/
def fnExactStillDotsWrong : ChangeSpec := { name := "fnExactStillDots", fn := fun _ => fun
  | [d] => { results := [.lit (.bool false)], args := [d] }
  | _ => none }
def FnExactStillDotsWrongFalsely : Prop := fnExactStillDotsRow.holds Try.pinned (OpenSpec.ofChange fnExactStillDotsWrong)

/-- 'laws.FnExactGhostsOf': WHATEVER THE INPUT: true; the input reads as it did. -/
def fnExactGhostsOfSpec : ChangeSpec := { name := "fnExactGhostsOf", fn := fun _ => fun
  | [d] => { results := [.lit (.bool true)], args := [d] }
  | _ => none }
def fnExactGhostsOfRow : OpenClaim := { program := "ytkkncjfgnielgaa", sum := "9ec8bfbeaa454d9cfb327d922c3b7321acf3b3192a70fdd0ba13582f8e7b3b12", func := "loop.example/g01340/laws.FnExactGhostsOf", spec := "fnExactGhostsOf", unfollowed := true, recurses := true, apart := false }
def FnExactGhostsOfSaid : Prop := fnExactGhostsOfRow.holds Try.pinned (OpenSpec.ofChange fnExactGhostsOfSpec)

/-- ITS FALSE NEIGHBOUR: 'it returns false'. Refute it at one input. -/
def fnExactGhostsOfWrong : ChangeSpec := { name := "fnExactGhostsOf", fn := fun _ => fun
  | [d] => { results := [.lit (.bool false)], args := [d] }
  | _ => none }
def FnExactGhostsOfWrongFalsely : Prop := fnExactGhostsOfRow.holds Try.pinned (OpenSpec.ofChange fnExactGhostsOfWrong)

/- THE SECOND FORM. 'bulk': how many values and letters a reading holds, each counted each time it is reached (what is shared counts as often as it is met; a slice's spare places count too). A statement '..UptoSaid' is the law's where the arguments, and the package variables that the reading takes, are together of bulk at most 1048576: NARROWER than '..Said'. Prove '..Said' where nothing that the law and all that it calls make is longer than what came in: it says more and counts as full. Else prove '..UptoSaid'. A law counts once. -/
mutual
def uptoBulk {H : Type} : DataW H → Nat
  | .lit (.string bytes) => bytes.length + 1
  | .lit _ => 1
  | .nil => 1
  | .ptr d => uptoBulk d + 1
  | .slice elems spare => uptoBulkAll elems + uptoBulkAll spare + 1
  | .agg parts => uptoBulkAll parts + 1
  | .iface _ d => uptoBulk d + 1
  | .map entries => uptoBulkEntries entries + 1
  | .held _ => 1
def uptoBulkAll {H : Type} : List (DataW H) → Nat
  | [] => 0
  | d :: r => uptoBulk d + uptoBulkAll r
def uptoBulkEntries {H : Type} : List (Lit × DataW H) → Nat
  | [] => 0
  | x :: r => uptoBulkEntry x + uptoBulkEntries r
def uptoBulkEntry {H : Type} : Lit × DataW H → Nat
  | (.string bytes, d) => bytes.length + uptoBulk d + 1
  | (_, d) => uptoBulk d + 1
 end
def uptoSmall : (H : Type) → List (DataW H) → Bool := fun _ ds => decide (uptoBulkAll ds ≤ 1048576)
def OpenSpec.upto (s : _root_.Go.ChangeSpec) : _root_.Go.OpenSpec := { _root_.Go.OpenSpec.ofChange s with cond := some uptoSmall }

/-- 'laws.FnExactEverDots', WHERE WHAT IT READS IS OF BULK AT MOST 1048576: true; the input reads as it did. -/
def fnExactEverDotsUptoRow : OpenClaim := { program := "ytkkncjfgnielgaa", sum := "9ec8bfbeaa454d9cfb327d922c3b7321acf3b3192a70fdd0ba13582f8e7b3b12", func := "loop.example/g01340/laws.FnExactEverDots", spec := "fnExactEverDots", unfollowed := true, recurses := true, apart := false, narrowed := true }
def FnExactEverDotsUptoSaid : Prop := fnExactEverDotsUptoRow.holds Try.pinned (OpenSpec.upto fnExactEverDotsSpec)

/-- 'laws.FnExactParityOf', WHERE WHAT IT READS IS OF BULK AT MOST 1048576: true; the input reads as it did. -/
def fnExactParityOfUptoRow : OpenClaim := { program := "ytkkncjfgnielgaa", sum := "9ec8bfbeaa454d9cfb327d922c3b7321acf3b3192a70fdd0ba13582f8e7b3b12", func := "loop.example/g01340/laws.FnExactParityOf", spec := "fnExactParityOf", unfollowed := true, recurses := true, apart := false, narrowed := true }
def FnExactParityOfUptoSaid : Prop := fnExactParityOfUptoRow.holds Try.pinned (OpenSpec.upto fnExactParityOfSpec)

/-- 'laws.FnExactPeriodOf', WHERE WHAT IT READS IS OF BULK AT MOST 1048576: true; the input reads as it did. -/
def fnExactPeriodOfUptoRow : OpenClaim := { program := "ytkkncjfgnielgaa", sum := "9ec8bfbeaa454d9cfb327d922c3b7321acf3b3192a70fdd0ba13582f8e7b3b12", func := "loop.example/g01340/laws.FnExactPeriodOf", spec := "fnExactPeriodOf", unfollowed := true, recurses := true, apart := false, narrowed := true }
def FnExactPeriodOfUptoSaid : Prop := fnExactPeriodOfUptoRow.holds Try.pinned (OpenSpec.upto fnExactPeriodOfSpec)

/-- 'laws.FnExactInkStrokes', WHERE WHAT IT READS IS OF BULK AT MOST 1048576: true; the input reads as it did. -/
def fnExactInkStrokesUptoRow : OpenClaim := { program := "ytkkncjfgnielgaa", sum := "9ec8bfbeaa454d9cfb327d922c3b7321acf3b3192a70fdd0ba13582f8e7b3b12", func := "loop.example/g01340/laws.FnExactInkStrokes", spec := "fnExactInkStrokes", apart := false, narrowed := true }
def FnExactInkStrokesUptoSaid : Prop := fnExactInkStrokesUptoRow.holds Try.pinned (OpenSpec.upto fnExactInkStrokesSpec)

/-- 'laws.FnExactStillDots', WHERE WHAT IT READS IS OF BULK AT MOST 1048576: true; the input reads as it did. -/
def fnExactStillDotsUptoRow : OpenClaim := { program := "ytkkncjfgnielgaa", sum := "9ec8bfbeaa454d9cfb327d922c3b7321acf3b3192a70fdd0ba13582f8e7b3b12", func := "loop.example/g01340/laws.FnExactStillDots", spec := "fnExactStillDots", unfollowed := true, recurses := true, apart := false, narrowed := true }
def FnExactStillDotsUptoSaid : Prop := fnExactStillDotsUptoRow.holds Try.pinned (OpenSpec.upto fnExactStillDotsSpec)

/-- 'laws.FnExactGhostsOf', WHERE WHAT IT READS IS OF BULK AT MOST 1048576: true; the input reads as it did. -/
def fnExactGhostsOfUptoRow : OpenClaim := { program := "ytkkncjfgnielgaa", sum := "9ec8bfbeaa454d9cfb327d922c3b7321acf3b3192a70fdd0ba13582f8e7b3b12", func := "loop.example/g01340/laws.FnExactGhostsOf", spec := "fnExactGhostsOf", unfollowed := true, recurses := true, apart := false, narrowed := true }
def FnExactGhostsOfUptoSaid : Prop := fnExactGhostsOfUptoRow.holds Try.pinned (OpenSpec.upto fnExactGhostsOfSpec)

end Rows
end Go.Proofs.Ytkkncjfgnielgaa
